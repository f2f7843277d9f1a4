/-
 What the functions of arrears are to answer. Conditions: none.
-/
import Derived.Test.YtccbjhfdfbaekaaGreatIdxSpec
import Derived.Test.YtccbjhfdfbaekaaGreatLedSpec
set_option linter.unusedVariables false
set_option linter.unusedSimpArgs false
namespace Go.Sx.N
def p_aShort (_a : Bool) (_b : Sl) (_c : Bool) (_d : Sl) : Prop := True
def q_aShort (_a : Bool) (b : Sl) (_c : Bool) (d : Sl) (r : Bool) : Prop := r = true ↔ (b.len <= 120 /\ d.len <= 120)
def p_aFirst (_s : Sl) : Prop := True
def q_aFirst (s : Sl) (r : Int) : Prop := (∃ i : Int, 0 <= i /\ i < s.len /\ r = s.int i 0 /\ r ≠ 0 /\ ∀ j : Int, 0 <= j -> j < i -> s.int j 0 = 0) \/ (r = 0 /\ ∀ j : Int, 0 <= j -> j < s.len -> s.int j 0 = 0)
def amtS (q : Rat) (v e : Int) : Prop := (roundQ q 5 < 0 -> v = 0 /\ e = 0) /\ (1099511627776 < roundQ q 5 -> v = 0 /\ e = 3) /\ (0 <= roundQ q 5 -> roundQ q 5 <= 1099511627776 -> v = roundQ q 5 /\ e = 0)
def p_aAmount (_a : Bool) (_b : Sl) (_c : Bool) (_d : Sl) : Prop := True
def q_aAmount (a : Bool) (b : Sl) (c : Bool) (d : Sl) (v e : Int) : Prop := (okF a b c d -> amtS (fq a b d) v e) /\ (¬ okF a b c d -> v = 0 /\ e = 2)
open Classical in
noncomputable def sumS (s : Sl) (known due : Int) : Nat -> GR
 | 0 => .ok 0
 | n + 1 => match sumS s known due n with
  | .err e => .err e
  | .ok q => match rateO s known (1900 + (due + n) / 12) with
   | none => .err 6
   | some r => if fitQ (q + r) then .ok (q + r) else .err 3
def partI (q : Rat) (n v e : Int) : Prop :=
 (¬ (fitQ (q * (n : Rat)) /\ fitQ (q * (n : Rat) / 12)) -> v = 0 /\ e = 3) /\ (fitQ (q * (n : Rat)) -> fitQ (q * (n : Rat) / 12) -> amtS (q * (n : Rat) / 12) v e)
def resI (g : GR) (n v e : Int) : Prop := match g with
 | .err x => v = 0 /\ e = x
 | .ok q => partI q n v e
def openS (st : Int) (d p : Sl) (m : Int) : Int := d.int (m - st) 0 - postedS p m
def lateP (st : Int) (d p : Sl) (m k : Int) : Prop := st + k < m /\ 0 < openS st d p (st + k)
instance (st : Int) (d p : Sl) (m k : Int) : Decidable (lateP st d p m k) := by unfold lateP; infer_instance
def amtV (q : Rat) : Int × Int := if roundQ q 5 < 0 then (0, 0) else if 1099511627776 < roundQ q 5 then (0, 3) else (roundQ q 5, 0)
open Classical in
noncomputable def intV (s : Sl) (known n due paid : Int) : Int × Int := match sumS s known due (paid - due).toNat with
 | .err e => (0, e)
 | .ok q => if fitQ (q * (n : Rat)) /\ fitQ (q * (n : Rat) / 12) then amtV (q * (n : Rat) / 12) else (0, 3)
inductive OR where
 | ok (l : List (List D))
 | err (e : Int)
def oweRow (day m n x : Int) : List (List D) := [.int day, .int m, .int 2, .int n] :: (if x = 0 then [] else [[.int day, .int m, .int 3, .int x]])
noncomputable def oweAdd (s : Sl) (known day paid m n : Int) (l : List (List D)) : OR :=
 if 1099511627776 < n then .err 3 else if (intV s known n m paid).2 ≠ 0 then .err (intV s known n m paid).2 else .ok (l ++ oweRow day m n (intV s known n m paid).1)
noncomputable def oweR (s : Sl) (known st : Int) (d p : Sl) (day m : Int) : Nat -> OR
 | 0 => .ok []
 | n + 1 => match oweR s known st d p day m n with
  | .err e => .err e
  | .ok l => if lateP st d p m n then oweAdd s known day m (st + n) (openS st d p (st + n)) l else .ok l
def resO (g : OR) (s : Sl) (e : Int) : Prop := match g with
 | .err x => s.len = 0 /\ e = x
 | .ok l => eqPosts s (Sl.lit l) /\ e = 0
def okO (st : Int) (d p : Sl) (day m : Int) (name : ByteArray) (two : Bool) (s : Sl) : Prop := (validS st d p /\ validT name two s /\ two = false) /\ (0 <= day /\ day < 65536) /\ 0 <= m /\ m <= 2400
def oweD (st : Int) (d p : Sl) (day m : Int) (name : ByteArray) (two : Bool) (s : Sl) (known : Int) (r : Sl) (e : Int) : Prop :=
 (¬ okO st d p day m name two s -> r.len = 0 /\ e = 2) /\ (okO st d p day m name two s -> resO (oweR s known st d p day m d.n) r e)
def p_Owe (_st : Int) (_d _p : Sl) (_day _m : Int) (name : ByteArray) (_two : Bool) (_s : Sl) (_known : Int) : Prop := okN name
def q_Owe (st : Int) (d p : Sl) (day m : Int) (name : ByteArray) (two : Bool) (s : Sl) (known : Int) (r : Sl) (e : Int) : Prop := oweD st d p day m name two s known r e
def p_Settle (_st : Int) (_d _p : Sl) (_day _m : Int) (name : ByteArray) (_two : Bool) (_s : Sl) (_known : Int) : Prop := okN name
def q_Settle (st : Int) (d p : Sl) (day m : Int) (name : ByteArray) (two : Bool) (s : Sl) (known st' : Int) (d' p' : Sl) (e : Int) : Prop :=
 ∃ r e0, oweD st d p day m name two s known r e0 /\ (e0 ≠ 0 -> zeroS st' d' p' /\ e = e0) /\ (e0 = 0 -> q_Post st d p r st' d' p' e)
end Go.Sx.N
