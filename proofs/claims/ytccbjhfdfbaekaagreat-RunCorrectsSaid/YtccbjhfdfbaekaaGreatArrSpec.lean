/-
 What the functions of arrears are to answer. Conditions: none.
-/
import Derived.Test.YtccbjhfdfbaekaaGreatIdxSpec
import Derived.Test.YtccbjhfdfbaekaaGreatLedSpec
set_option linter.unusedVariables false
set_option linter.unusedSimpArgs false
namespace Go.Sx.N
def Jg (_a : Bool) (_b : Sl) (_c : Bool) (_d : Sl) : Prop := True
def Fa (_a : Bool) (b : Sl) (_c : Bool) (d : Sl) (r : Bool) : Prop := r = true ↔ (b.len <= 120 /\ d.len <= 120)
def Qv (_s : Sl) : Prop := True
def Fb (s : Sl) (r : Int) : Prop := (∃ i : Int, 0 <= i /\ i < s.len /\ r = s.int i 0 /\ r ≠ 0 /\ ∀ j : Int, 0 <= j -> j < i -> s.int j 0 = 0) \/ (r = 0 /\ ∀ j : Int, 0 <= j -> j < s.len -> s.int j 0 = 0)
def ad1 (q : Rat) (v e : Int) : Prop := (bD q 5 < 0 -> v = 0 /\ e = 0) /\ (1099511627776 < bD q 5 -> v = 0 /\ e = 3) /\ (0 <= bD q 5 -> bD q 5 <= 1099511627776 -> v = bD q 5 /\ e = 0)
def MI (_a : Bool) (_b : Sl) (_c : Bool) (_d : Sl) : Prop := True
def uY (a : Bool) (b : Sl) (c : Bool) (d : Sl) (v e : Int) : Prop := (okF a b c d -> ad1 (fq a b d) v e) /\ (¬ okF a b c d -> v = 0 /\ e = 2)
open Classical in
noncomputable def iF (s : Sl) (known due : Int) : Nat -> GR
 | 0 => .ok 0
 | n + 1 => match iF s known due n with
  | .err e => .err e
  | .ok q => match jQ s known (1900 + (due + n) / 12) with
   | none => .err 6
   | some r => if dH (q + r) then .ok (q + r) else .err 3
def ad2 (q : Rat) (n v e : Int) : Prop :=
 (¬ (dH (q * (n : Rat)) /\ dH (q * (n : Rat) / 12)) -> v = 0 /\ e = 3) /\ (dH (q * (n : Rat)) -> dH (q * (n : Rat) / 12) -> ad1 (q * (n : Rat) / 12) v e)
def ai3 (g : GR) (n v e : Int) : Prop := match g with
 | .err x => v = 0 /\ e = x
 | .ok q => ad2 q n v e
def sS (st : Int) (d p : Sl) (m : Int) : Int := d.int (m - st) 0 - aU p m
def nH (st : Int) (d p : Sl) (m k : Int) : Prop := st + k < m /\ 0 < sS st d p (st + k)
instance (st : Int) (d p : Sl) (m k : Int) : Decidable (nH st d p m k) := by unfold nH; infer_instance
def ZO (q : Rat) : Int × Int := if bD q 5 < 0 then (0, 0) else if 1099511627776 < bD q 5 then (0, 3) else (bD q 5, 0)
open Classical in
noncomputable def Ba (s : Sl) (known n due paid : Int) : Int × Int := match iF s known due (paid - due).toNat with
 | .err e => (0, e)
 | .ok q => if dH (q * (n : Rat)) /\ dH (q * (n : Rat) / 12) then ZO (q * (n : Rat) / 12) else (0, 3)
inductive OR where
 | ok (l : List (List D))
 | err (e : Int)
def Fp (day m n x : Int) : List (List D) := [.int day, .int m, .int 2, .int n] :: (if x = 0 then [] else [[.int day, .int m, .int 3, .int x]])
noncomputable def MR (s : Sl) (known day paid m n : Int) (l : List (List D)) : OR :=
 if 1099511627776 < n then .err 3 else if (Ba s known n m paid).2 ≠ 0 then .err (Ba s known n m paid).2 else .ok (l ++ Fp day m n (Ba s known n m paid).1)
noncomputable def lG (s : Sl) (known st : Int) (d p : Sl) (day m : Int) : Nat -> OR
 | 0 => .ok []
 | n + 1 => match lG s known st d p day m n with
  | .err e => .err e
  | .ok l => if nH st d p m n then MR s known day m (st + n) (sS st d p (st + n)) l else .ok l
def ai4 (g : OR) (s : Sl) (e : Int) : Prop := match g with
 | .err x => s.len = 0 /\ e = x
 | .ok l => jg s (Sl.lit l) /\ e = 0
def okO (st : Int) (d p : Sl) (day m : Int) (name : ByteArray) (two : Bool) (s : Sl) : Prop := (aJ st d p /\ vI name two s /\ two = false) /\ (0 <= day /\ day < 65536) /\ 0 <= m /\ m <= 2400
def anY (st : Int) (d p : Sl) (day m : Int) (name : ByteArray) (two : Bool) (s : Sl) (known : Int) (r : Sl) (e : Int) : Prop :=
 (¬ okO st d p day m name two s -> r.len = 0 /\ e = 2) /\ (okO st d p day m name two s -> ai4 (lG s known st d p day m d.n) r e)
def adV (Ah : Int) (_d _p : Sl) (Jq _m : Int) (name : ByteArray) (Fj : Bool) (_s : Sl) (CG : Int) : Prop := Ih name
def pW (st : Int) (d p : Sl) (day m : Int) (name : ByteArray) (two : Bool) (s : Sl) (known : Int) (r : Sl) (e : Int) : Prop := anY st d p day m name two s known r e
def Qw (Ah : Int) (_d _p : Sl) (Jq _m : Int) (name : ByteArray) (Fj : Bool) (_s : Sl) (CG : Int) : Prop := Ih name
def AV (st : Int) (d p : Sl) (day m : Int) (name : ByteArray) (two : Bool) (s : Sl) (known st' : Int) (d' p' : Sl) (e : Int) : Prop :=
 ∃ r e0, anY st d p day m name two s known r e0 /\ (e0 ≠ 0 -> zeroS st' d' p' /\ e = e0) /\ (e0 = 0 -> bZ st d p r st' d' p' e)
end Go.Sx.N
