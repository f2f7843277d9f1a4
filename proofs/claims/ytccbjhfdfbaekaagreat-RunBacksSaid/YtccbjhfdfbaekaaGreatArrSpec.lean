/-
 What the functions of arrears are to answer. Conditions: none.
-/
import Derived.Test.YtccbjhfdfbaekaaGreatIdxSpec
import Derived.Test.YtccbjhfdfbaekaaGreatLedSpec
set_option linter.unusedVariables false
set_option linter.unusedSimpArgs false
namespace Go.Sx.N
def CY (_a : Bool) (_b : Sl) (_c : Bool) (_d : Sl) : Prop := True
def zK (_a : Bool) (b : Sl) (_c : Bool) (d : Sl) (r : Bool) : Prop := r = true ↔ (b.len <= 120 /\ d.len <= 120)
def Jj (_s : Sl) : Prop := True
def zL (s : Sl) (r : Int) : Prop := (∃ i : Int, 0 <= i /\ i < s.len /\ r = s.int i 0 /\ r ≠ 0 /\ ∀ j : Int, 0 <= j -> j < i -> s.int j 0 = 0) \/ (r = 0 /\ ∀ j : Int, 0 <= j -> j < s.len -> s.int j 0 = 0)
def X9 (q : Rat) (v e : Int) : Prop := (aQ q 5 < 0 -> v = 0 /\ e = 0) /\ (1099511627776 < aQ q 5 -> v = 0 /\ e = 3) /\ (0 <= aQ q 5 -> aQ q 5 <= 1099511627776 -> v = aQ q 5 /\ e = 0)
def Fg (_a : Bool) (_b : Sl) (_c : Bool) (_d : Sl) : Prop := True
def pU (a : Bool) (b : Sl) (c : Bool) (d : Sl) (v e : Int) : Prop := (okF a b c d -> X9 (fq a b d) v e) /\ (¬ okF a b c d -> v = 0 /\ e = 2)
open Classical in
noncomputable def eH (s : Sl) (known due : Int) : Nat -> GR
 | 0 => .ok 0
 | n + 1 => match eH s known due n with
  | .err e => .err e
  | .ok q => match iD s known (1900 + (due + n) / 12) with
   | none => .err 6
   | some r => if bH (q + r) then .ok (q + r) else .err 3
def Ya (q : Rat) (n v e : Int) : Prop :=
 (¬ (bH (q * (n : Rat)) /\ bH (q * (n : Rat) / 12)) -> v = 0 /\ e = 3) /\ (bH (q * (n : Rat)) -> bH (q * (n : Rat) / 12) -> X9 (q * (n : Rat) / 12) v e)
def ads (g : GR) (n v e : Int) : Prop := match g with
 | .err x => v = 0 /\ e = x
 | .ok q => Ya q n v e
def og (st : Int) (d p : Sl) (m : Int) : Int := d.int (m - st) 0 - aO p m
def jP (st : Int) (d p : Sl) (m k : Int) : Prop := st + k < m /\ 0 < og st d p (st + k)
instance (st : Int) (d p : Sl) (m k : Int) : Decidable (jP st d p m k) := by unfold jP; infer_instance
def SN (q : Rat) : Int × Int := if aQ q 5 < 0 then (0, 0) else if 1099511627776 < aQ q 5 then (0, 3) else (aQ q 5, 0)
open Classical in
noncomputable def vY (s : Sl) (known n due paid : Int) : Int × Int := match eH s known due (paid - due).toNat with
 | .err e => (0, e)
 | .ok q => if bH (q * (n : Rat)) /\ bH (q * (n : Rat) / 12) then SN (q * (n : Rat) / 12) else (0, 3)
inductive OR where
 | ok (l : List (List D))
 | err (e : Int)
def zT (day m n x : Int) : List (List D) := [.int day, .int m, .int 2, .int n] :: (if x = 0 then [] else [[.int day, .int m, .int 3, .int x]])
noncomputable def FC (s : Sl) (known day paid m n : Int) (l : List (List D)) : OR :=
 if 1099511627776 < n then .err 3 else if (vY s known n m paid).2 ≠ 0 then .err (vY s known n m paid).2 else .ok (l ++ zT day m n (vY s known n m paid).1)
noncomputable def jk (s : Sl) (known st : Int) (d p : Sl) (day m : Int) : Nat -> OR
 | 0 => .ok []
 | n + 1 => match jk s known st d p day m n with
  | .err e => .err e
  | .ok l => if jP st d p m n then FC s known day m (st + n) (og st d p (st + n)) l else .ok l
def adt (g : OR) (s : Sl) (e : Int) : Prop := match g with
 | .err x => s.len = 0 /\ e = x
 | .ok l => dY s (Sl.lit l) /\ e = 0
def okO (st : Int) (d p : Sl) (day m : Int) (name : ByteArray) (two : Bool) (s : Sl) : Prop := (au st d p /\ qj name two s /\ two = false) /\ (0 <= day /\ day < 65536) /\ 0 <= m /\ m <= 2400
def ah7 (st : Int) (d p : Sl) (day m : Int) (name : ByteArray) (two : Bool) (s : Sl) (known : Int) (r : Sl) (e : Int) : Prop :=
 (¬ okO st d p day m name two s -> r.len = 0 /\ e = 2) /\ (okO st d p day m name two s -> adt (jk s known st d p day m d.n) r e)
def X3 (nN : Int) (_d _p : Sl) (vX _m : Int) (name : ByteArray) (zS : Bool) (_s : Sl) (wZ : Int) : Prop := Fz name
def lJ (st : Int) (d p : Sl) (day m : Int) (name : ByteArray) (two : Bool) (s : Sl) (known : Int) (r : Sl) (e : Int) : Prop := ah7 st d p day m name two s known r e
def Jk (nN : Int) (_d _p : Sl) (vX _m : Int) (name : ByteArray) (zS : Bool) (_s : Sl) (wZ : Int) : Prop := Fz name
def vO (st : Int) (d p : Sl) (day m : Int) (name : ByteArray) (two : Bool) (s : Sl) (known st' : Int) (d' p' : Sl) (e : Int) : Prop :=
 ∃ r e0, ah7 st d p day m name two s known r e0 /\ (e0 ≠ 0 -> zeroS st' d' p' /\ e = e0) /\ (e0 = 0 -> aU st d p r st' d' p' e)
def NU (nN : Int) (_d p q : Sl) : Prop := p.len <= 1000000 /\ q.len <= 1000000
def vT (st : Int) (d p q : Sl) (st' : Int) (d' p' : Sl) (e : Int) : Prop := aU st d p q st' d' p' e
end Go.Sx.N
