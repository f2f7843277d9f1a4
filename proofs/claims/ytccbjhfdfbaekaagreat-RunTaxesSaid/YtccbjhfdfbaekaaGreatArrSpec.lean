/-
 What the functions of arrears are to answer. Conditions: none.
-/
import Derived.Test.YtccbjhfdfbaekaaGreatIdxSpec
import Derived.Test.YtccbjhfdfbaekaaGreatLedSpec
set_option linter.unusedVariables false
set_option linter.unusedSimpArgs false
namespace Go.Sx.N
def CO (_a : Bool) (_b : Sl) (_c : Bool) (_d : Sl) : Prop := True
def zB (_a : Bool) (b : Sl) (_c : Bool) (d : Sl) (r : Bool) : Prop := r = true ↔ (b.len <= 120 /\ d.len <= 120)
def IK (_s : Sl) : Prop := True
def zC (s : Sl) (r : Int) : Prop := (∃ i : Int, 0 <= i /\ i < s.len /\ r = s.int i 0 /\ r ≠ 0 /\ ∀ j : Int, 0 <= j -> j < i -> s.int j 0 = 0) \/ (r = 0 /\ ∀ j : Int, 0 <= j -> j < s.len -> s.int j 0 = 0)
def Xk (q : Rat) (v e : Int) : Prop := (aP q 5 < 0 -> v = 0 /\ e = 0) /\ (1099511627776 < aP q 5 -> v = 0 /\ e = 3) /\ (0 <= aP q 5 -> aP q 5 <= 1099511627776 -> v = aP q 5 /\ e = 0)
def ER (_a : Bool) (_b : Sl) (_c : Bool) (_d : Sl) : Prop := True
def pI (a : Bool) (b : Sl) (c : Bool) (d : Sl) (v e : Int) : Prop := (okF a b c d -> Xk (fq a b d) v e) /\ (¬ okF a b c d -> v = 0 /\ e = 2)
open Classical in
noncomputable def dV (s : Sl) (known due : Int) : Nat -> GR
 | 0 => .ok 0
 | n + 1 => match dV s known due n with
  | .err e => .err e
  | .ok q => match gV s known (1900 + (due + n) / 12) with
   | none => .err 6
   | some r => if bF (q + r) then .ok (q + r) else .err 3
def Xl (q : Rat) (n v e : Int) : Prop :=
 (¬ (bF (q * (n : Rat)) /\ bF (q * (n : Rat) / 12)) -> v = 0 /\ e = 3) /\ (bF (q * (n : Rat)) -> bF (q * (n : Rat) / 12) -> Xk (q * (n : Rat) / 12) v e)
def acv (g : GR) (n v e : Int) : Prop := match g with
 | .err x => v = 0 /\ e = x
 | .ok q => Xl q n v e
def nU (st : Int) (d p : Sl) (m : Int) : Int := d.int (m - st) 0 - aI p m
def jH (st : Int) (d p : Sl) (m k : Int) : Prop := st + k < m /\ 0 < nU st d p (st + k)
instance (st : Int) (d p : Sl) (m k : Int) : Decidable (jH st d p m k) := by unfold jH; infer_instance
def Rt (q : Rat) : Int × Int := if aP q 5 < 0 then (0, 0) else if 1099511627776 < aP q 5 then (0, 3) else (aP q 5, 0)
open Classical in
noncomputable def vY (s : Sl) (known n due paid : Int) : Int × Int := match dV s known due (paid - due).toNat with
 | .err e => (0, e)
 | .ok q => if bF (q * (n : Rat)) /\ bF (q * (n : Rat) / 12) then Rt (q * (n : Rat) / 12) else (0, 3)
inductive OR where
 | ok (l : List (List D))
 | err (e : Int)
def zI (day m n x : Int) : List (List D) := [.int day, .int m, .int 2, .int n] :: (if x = 0 then [] else [[.int day, .int m, .int 3, .int x]])
noncomputable def EZ (s : Sl) (known day paid m n : Int) (l : List (List D)) : OR :=
 if 1099511627776 < n then .err 3 else if (vY s known n m paid).2 ≠ 0 then .err (vY s known n m paid).2 else .ok (l ++ zI day m n (vY s known n m paid).1)
noncomputable def jf (s : Sl) (known st : Int) (d p : Sl) (day m : Int) : Nat -> OR
 | 0 => .ok []
 | n + 1 => match jf s known st d p day m n with
  | .err e => .err e
  | .ok l => if jH st d p m n then EZ s known day m (st + n) (nU st d p (st + n)) l else .ok l
def acw (g : OR) (s : Sl) (e : Int) : Prop := match g with
 | .err x => s.len = 0 /\ e = x
 | .ok l => fH s (Sl.lit l) /\ e = 0
def okO (st : Int) (d p : Sl) (day m : Int) (name : ByteArray) (two : Bool) (s : Sl) : Prop := (au st d p /\ pV name two s /\ two = false) /\ (0 <= day /\ day < 65536) /\ 0 <= m /\ m <= 2400
def ahf (st : Int) (d p : Sl) (day m : Int) (name : ByteArray) (two : Bool) (s : Sl) (known : Int) (r : Sl) (e : Int) : Prop :=
 (¬ okO st d p day m name two s -> r.len = 0 /\ e = 2) /\ (okO st d p day m name two s -> acw (jf s known st d p day m d.n) r e)
def Xf (vF : Int) (_d _p : Sl) (CZ _m : Int) (name : ByteArray) (zH : Bool) (_s : Sl) (wX : Int) : Prop := EX name
def lq (st : Int) (d p : Sl) (day m : Int) (name : ByteArray) (two : Bool) (s : Sl) (known : Int) (r : Sl) (e : Int) : Prop := ahf st d p day m name two s known r e
def IL (vF : Int) (_d _p : Sl) (CZ _m : Int) (name : ByteArray) (zH : Bool) (_s : Sl) (wX : Int) : Prop := EX name
def vT (st : Int) (d p : Sl) (day m : Int) (name : ByteArray) (two : Bool) (s : Sl) (known st' : Int) (d' p' : Sl) (e : Int) : Prop :=
 ∃ r e0, ahf st d p day m name two s known r e0 /\ (e0 ≠ 0 -> zeroS st' d' p' /\ e = e0) /\ (e0 = 0 -> aY st d p r st' d' p' e)
end Go.Sx.N
