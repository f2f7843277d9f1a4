/-
 What the functions of the recovery of overpayments are to answer. Conditions: none.
-/
import Derived.Test.YtccbjhfdfbaekaaGreatLedSpec
set_option linter.unusedVariables false
set_option linter.unusedSimpArgs false
namespace Go.Sx.N
def iV (a : Bool) (b : Sl) (c : Bool) (d : Sl) : Prop := okF a b c d /\ 0 <= fq a b d /\ fq a b d <= 1
def ahg (q : Rat) (due r e : Int) : Prop := (bF (q * (due : Rat)) -> r = (q * (due : Rat)).floor /\ e = 0) /\ (¬ bF (q * (due : Rat)) -> r = 0 /\ e = 3)
def ahh (st : Int) (d : Sl) (m : Int) (q : Rat) (r e : Int) : Prop := (¬ sF st d m -> r = 0 /\ e = 6) /\ (sF st d m -> ahg q (d.int (m - st) 0) r e)
def xP (st : Int) (d p : Sl) (m : Int) (a : Bool) (b : Sl) (c : Bool) (f : Sl) (r e : Int) : Prop :=
 (¬ (au st d p /\ iV a b c f) -> r = 0 /\ e = 2) /\ (au st d p /\ iV a b c f -> ahh st d m (fq a b f) r e)
def ES (_a : Bool) (_b : Sl) (_c : Bool) (_d : Sl) : Prop := True
def pJ (a : Bool) (b : Sl) (c : Bool) (d : Sl) (r : Bool) : Prop := r = true ↔ iV a b c d
def MR (st : Int) (d p : Sl) (_m : Int) (a : Bool) (b : Sl) (c : Bool) (f : Sl) : Prop := au st d p /\ iV a b c f
def tu (st : Int) (d _p : Sl) (m : Int) (a : Bool) (b : Sl) (_c : Bool) (f : Sl) (r e : Int) : Prop := ahh st d m (fq a b f) r e
def MS (vF : Int) (_d _p : Sl) (_m : Int) (_a : Bool) (_b : Sl) (_c : Bool) (_f : Sl) : Prop := True
def yL (st : Int) (d p : Sl) (m : Int) (a : Bool) (b : Sl) (c : Bool) (f : Sl) (r e : Int) : Prop := xP st d p m a b c f r e
def ov (st : Int) (d p : Sl) (k : Int) : Int := aI p (st + k) - d.int k 0
def kK (x : Int) : Int := if x > 0 then x else 0
def Xn (st : Int) (d p : Sl) (m : Int) : Int := sumTo (fun k => if st + k < m then kK (ov st d p k) else 0) d.n
def xK (st : Int) (d p : Sl) (_m : Int) : Prop := au st d p
def rO (st : Int) (d p : Sl) (m r : Int) : Prop := r = Xn st d p m
def DV (vF : Int) (_d _p : Sl) (_m : Int) : Prop := True
def xM (st : Int) (d p : Sl) (m r e : Int) : Prop := (¬ au st d p -> r = 0 /\ e = 2) /\ (au st d p -> r = Xn st d p m /\ e = 0)
def jW (st : Int) (d p : Sl) (m left k : Int) : Int := if st + k < m then imin (kK (ov st d p k)) left else 0
def fJ (st : Int) (d p : Sl) (m lim : Int) : Nat -> Int
 | 0 => lim
 | n + 1 => fJ st d p m lim n - jW st d p m (fJ st d p m lim n) n
def nV (st : Int) (d p : Sl) (m lim : Int) (n : Nat) : Int := jW st d p m (fJ st d p m lim n) n
def fZ (st : Int) (d p : Sl) (day m lim : Int) : Nat -> List (List D)
 | 0 => []
 | n + 1 => if 0 < nV st d p m lim n then fZ st d p day m lim n ++ [[.int day, .int (st + n), .int 4, .int (-(nV st d p m lim n))]] else fZ st d p day m lim n
def takeD (st : Int) (d p : Sl) (day m r e0 : Int) (s : Sl) (e : Int) : Prop :=
 (e0 ≠ 0 -> s.len = 0 /\ e = e0) /\ (e0 = 0 -> (¬ (0 <= day /\ day < 65536) -> s.len = 0 /\ e = 2) /\ (0 <= day /\ day < 65536 -> fH s (Sl.lit (fZ st d p day m r d.n)) /\ e = 0))
def C9 (st : Int) (d p : Sl) (day m : Int) (a : Bool) (b : Sl) (c : Bool) (f : Sl) (s : Sl) (e : Int) : Prop := ∀ r e0, xP st d p m a b c f r e0 -> takeD st d p day m r e0 s e
def Rh (vF : Int) (_d _p : Sl) (CZ _m : Int) (_a : Bool) (_b : Sl) (_c : Bool) (_f : Sl) : Prop := True
def wV (st : Int) (d p : Sl) (day m : Int) (a : Bool) (b : Sl) (c : Bool) (f : Sl) (s : Sl) (e : Int) : Prop := C9 st d p day m a b c f s e
def MV (vF : Int) (_d _p : Sl) (CZ _m : Int) (_a : Bool) (_b : Sl) (_c : Bool) (_f : Sl) : Prop := True
def yM (st : Int) (d p : Sl) (day m : Int) (a : Bool) (b : Sl) (c : Bool) (f : Sl) (st' : Int) (d' p' : Sl) (e : Int) : Prop :=
 ∃ s e0, C9 st d p day m a b c f s e0 /\ (e0 ≠ 0 -> zeroS st' d' p' /\ e = e0) /\ (e0 = 0 -> aY st d p s st' d' p' e)
end Go.Sx.N
