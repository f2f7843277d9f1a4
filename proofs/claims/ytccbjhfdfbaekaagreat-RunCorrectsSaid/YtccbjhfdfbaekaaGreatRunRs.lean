/-
 What the functions of the recovery of overpayments are to answer. Conditions: none.
-/
import Derived.Test.YtccbjhfdfbaekaaGreatLedSpec
set_option linter.unusedVariables false
set_option linter.unusedSimpArgs false
namespace Go.Sx.N
def kX (a : Bool) (b : Sl) (c : Bool) (d : Sl) : Prop := okF a b c d /\ 0 <= fq a b d /\ fq a b d <= 1
def anZ (q : Rat) (due r e : Int) : Prop := (dH (q * (due : Rat)) -> r = (q * (due : Rat)).floor /\ e = 0) /\ (¬ dH (q * (due : Rat)) -> r = 0 /\ e = 3)
def an0 (st : Int) (d : Sl) (m : Int) (q : Rat) (r e : Int) : Prop := (¬ yh st d m -> r = 0 /\ e = 6) /\ (yh st d m -> anZ q (d.int (m - st) 0) r e)
def Dl (st : Int) (d p : Sl) (m : Int) (a : Bool) (b : Sl) (c : Bool) (f : Sl) (r e : Int) : Prop :=
 (¬ (aJ st d p /\ kX a b c f) -> r = 0 /\ e = 2) /\ (aJ st d p /\ kX a b c f -> an0 st d m (fq a b f) r e)
def MJ (_a : Bool) (_b : Sl) (_c : Bool) (_d : Sl) : Prop := True
def uZ (a : Bool) (b : Sl) (c : Bool) (d : Sl) (r : Bool) : Prop := r = true ↔ kX a b c d
def Vg (st : Int) (d p : Sl) (_m : Int) (a : Bool) (b : Sl) (c : Bool) (f : Sl) : Prop := aJ st d p /\ kX a b c f
def yO (st : Int) (d _p : Sl) (m : Int) (a : Bool) (b : Sl) (_c : Bool) (f : Sl) (r e : Int) : Prop := an0 st d m (fq a b f) r e
def Vh (Ah : Int) (_d _p : Sl) (_m : Int) (_a : Bool) (_b : Sl) (_c : Bool) (_f : Sl) : Prop := True
def Ei (st : Int) (d p : Sl) (m : Int) (a : Bool) (b : Sl) (c : Bool) (f : Sl) (r e : Int) : Prop := Dl st d p m a b c f r e
def ov (st : Int) (d p : Sl) (k : Int) : Int := aU p (st + k) - d.int k 0
def mP (x : Int) : Int := if x > 0 then x else 0
def ZR (st : Int) (d p : Sl) (m : Int) : Int := sumTo (fun k => if st + k < m then mP (ov st d p k) else 0) d.n
def Di (st : Int) (d p : Sl) (_m : Int) : Prop := aJ st d p
def xJ (st : Int) (d p : Sl) (m r : Int) : Prop := r = ZR st d p m
def Dj (Ah : Int) (_d _p : Sl) (_m : Int) : Prop := True
def tK (st : Int) (d p : Sl) (m r e : Int) : Prop := (¬ aJ st d p -> r = 0 /\ e = 2) /\ (aJ st d p -> r = ZR st d p m /\ e = 0)
def oG (st : Int) (d p : Sl) (m left k : Int) : Int := if st + k < m then bH (mP (ov st d p k)) left else 0
def jh (st : Int) (d p : Sl) (m lim : Int) : Nat -> Int
 | 0 => lim
 | n + 1 => jh st d p m lim n - oG st d p m (jh st d p m lim n) n
def sU (st : Int) (d p : Sl) (m lim : Int) (n : Nat) : Int := oG st d p m (jh st d p m lim n) n
def jF (st : Int) (d p : Sl) (day m lim : Int) : Nat -> List (List D)
 | 0 => []
 | n + 1 => if 0 < sU st d p m lim n then jF st d p day m lim n ++ [[.int day, .int (st + n), .int 4, .int (-(sU st d p m lim n))]] else jF st d p day m lim n
def takeD (st : Int) (d p : Sl) (day m r e0 : Int) (s : Sl) (e : Int) : Prop :=
 (e0 ≠ 0 -> s.len = 0 /\ e = e0) /\ (e0 = 0 -> (¬ (0 <= day /\ day < 65536) -> s.len = 0 /\ e = 2) /\ (0 <= day /\ day < 65536 -> jg s (Sl.lit (jF st d p day m r d.n)) /\ e = 0))
def Js (st : Int) (d p : Sl) (day m : Int) (a : Bool) (b : Sl) (c : Bool) (f : Sl) (s : Sl) (e : Int) : Prop := ∀ r e0, Dl st d p m a b c f r e0 -> takeD st d p day m r e0 s e
def ZG (Ah : Int) (_d _p : Sl) (Jq _m : Int) (_a : Bool) (_b : Sl) (_c : Bool) (_f : Sl) : Prop := True
def Cm (st : Int) (d p : Sl) (day m : Int) (a : Bool) (b : Sl) (c : Bool) (f : Sl) (s : Sl) (e : Int) : Prop := Js st d p day m a b c f s e
def Vj (Ah : Int) (_d _p : Sl) (Jq _m : Int) (_a : Bool) (_b : Sl) (_c : Bool) (_f : Sl) : Prop := True
def Ej (st : Int) (d p : Sl) (day m : Int) (a : Bool) (b : Sl) (c : Bool) (f : Sl) (st' : Int) (d' p' : Sl) (e : Int) : Prop :=
 ∃ s e0, Js st d p day m a b c f s e0 /\ (e0 ≠ 0 -> zeroS st' d' p' /\ e = e0) /\ (e0 = 0 -> bZ st d p s st' d' p' e)
end Go.Sx.N
