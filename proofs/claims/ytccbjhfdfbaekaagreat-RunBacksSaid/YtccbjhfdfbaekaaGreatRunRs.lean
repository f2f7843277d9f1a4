/-
 What the functions of the recovery of overpayments are to answer. Conditions: none.
-/
import Derived.Test.YtccbjhfdfbaekaaGreatLedSpec
set_option linter.unusedVariables false
set_option linter.unusedSimpArgs false
namespace Go.Sx.N
def jE (a : Bool) (b : Sl) (c : Bool) (d : Sl) : Prop := okF a b c d /\ 0 <= fq a b d /\ fq a b d <= 1
def ah8 (q : Rat) (due r e : Int) : Prop := (bH (q * (due : Rat)) -> r = (q * (due : Rat)).floor /\ e = 0) /\ (¬ bH (q * (due : Rat)) -> r = 0 /\ e = 3)
def ah9 (st : Int) (d : Sl) (m : Int) (q : Rat) (r e : Int) : Prop := (¬ oh st d m -> r = 0 /\ e = 6) /\ (oh st d m -> ah8 q (d.int (m - st) 0) r e)
def xQ (st : Int) (d p : Sl) (m : Int) (a : Bool) (b : Sl) (c : Bool) (f : Sl) (r e : Int) : Prop :=
 (¬ (au st d p /\ jE a b c f) -> r = 0 /\ e = 2) /\ (au st d p /\ jE a b c f -> ah9 st d m (fq a b f) r e)
def Fh (_a : Bool) (_b : Sl) (_c : Bool) (_d : Sl) : Prop := True
def pV (a : Bool) (b : Sl) (c : Bool) (d : Sl) (r : Bool) : Prop := r = true ↔ jE a b c d
def NP (st : Int) (d p : Sl) (_m : Int) (a : Bool) (b : Sl) (c : Bool) (f : Sl) : Prop := au st d p /\ jE a b c f
def tC (st : Int) (d _p : Sl) (m : Int) (a : Bool) (b : Sl) (_c : Bool) (f : Sl) (r e : Int) : Prop := ah9 st d m (fq a b f) r e
def NQ (nN : Int) (_d _p : Sl) (_m : Int) (_a : Bool) (_b : Sl) (_c : Bool) (_f : Sl) : Prop := True
def yQ (st : Int) (d p : Sl) (m : Int) (a : Bool) (b : Sl) (c : Bool) (f : Sl) (r e : Int) : Prop := xQ st d p m a b c f r e
def ov (st : Int) (d p : Sl) (k : Int) : Int := aO p (st + k) - d.int k 0
def kW (x : Int) : Int := if x > 0 then x else 0
def Yc (st : Int) (d p : Sl) (m : Int) : Int := sumTo (fun k => if st + k < m then kW (ov st d p k) else 0) d.n
def xM (st : Int) (d p : Sl) (_m : Int) : Prop := au st d p
def rW (st : Int) (d p : Sl) (m r : Int) : Prop := r = Yc st d p m
def Ed (nN : Int) (_d _p : Sl) (_m : Int) : Prop := True
def xO (st : Int) (d p : Sl) (m r e : Int) : Prop := (¬ au st d p -> r = 0 /\ e = 2) /\ (au st d p -> r = Yc st d p m /\ e = 0)
def kK (st : Int) (d p : Sl) (m left k : Int) : Int := if st + k < m then imin (kW (ov st d p k)) left else 0
def fQ (st : Int) (d p : Sl) (m lim : Int) : Nat -> Int
 | 0 => lim
 | n + 1 => fQ st d p m lim n - kK st d p m (fQ st d p m lim n) n
def oC (st : Int) (d p : Sl) (m lim : Int) (n : Nat) : Int := kK st d p m (fQ st d p m lim n) n
def gJ (st : Int) (d p : Sl) (day m lim : Int) : Nat -> List (List D)
 | 0 => []
 | n + 1 => if 0 < oC st d p m lim n then gJ st d p day m lim n ++ [[.int day, .int (st + n), .int 4, .int (-(oC st d p m lim n))]] else gJ st d p day m lim n
def takeD (st : Int) (d p : Sl) (day m r e0 : Int) (s : Sl) (e : Int) : Prop :=
 (e0 ≠ 0 -> s.len = 0 /\ e = e0) /\ (e0 = 0 -> (¬ (0 <= day /\ day < 65536) -> s.len = 0 /\ e = 2) /\ (0 <= day /\ day < 65536 -> dY s (Sl.lit (gJ st d p day m r d.n)) /\ e = 0))
def Du (st : Int) (d p : Sl) (day m : Int) (a : Bool) (b : Sl) (c : Bool) (f : Sl) (s : Sl) (e : Int) : Prop := ∀ r e0, xQ st d p m a b c f r e0 -> takeD st d p day m r e0 s e
def Sz (nN : Int) (_d _p : Sl) (vX _m : Int) (_a : Bool) (_b : Sl) (_c : Bool) (_f : Sl) : Prop := True
def wX (st : Int) (d p : Sl) (day m : Int) (a : Bool) (b : Sl) (c : Bool) (f : Sl) (s : Sl) (e : Int) : Prop := Du st d p day m a b c f s e
def NR (nN : Int) (_d _p : Sl) (vX _m : Int) (_a : Bool) (_b : Sl) (_c : Bool) (_f : Sl) : Prop := True
def yR (st : Int) (d p : Sl) (day m : Int) (a : Bool) (b : Sl) (c : Bool) (f : Sl) (st' : Int) (d' p' : Sl) (e : Int) : Prop :=
 ∃ s e0, Du st d p day m a b c f s e0 /\ (e0 ≠ 0 -> zeroS st' d' p' /\ e = e0) /\ (e0 = 0 -> aU st d p s st' d' p' e)
end Go.Sx.N
