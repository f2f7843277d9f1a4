/-
 What the functions of the tax are to answer. Conditions: none.
-/
import Derived.Test.YtccbjhfdfbaekaaGreatNumBase
set_option linter.unusedVariables false
set_option linter.unusedSimpArgs false
namespace Go.Sx.N
def rq (l : Sl) (i : Int) : Rat := fq (l.bool i 1) (l.sub i 2) (l.sub i 4)
def okR (a : Bool) (b : Sl) (c : Bool) (d : Sl) : Prop := okF a b c d /\ 0 <= fq a b d /\ fq a b d <= 1 /\ ((fq a b d).den : Int) <= 1000000
def okB (l : Sl) (i : Int) : Prop := (0 <= l.int i 0 /\ l.int i 0 <= 1099511627776) /\ okR (l.bool i 1) (l.sub i 2) (l.bool i 3) (l.sub i 4)
def okP (l : Sl) (i : Int) : Prop := l.int (i - 1) 0 < l.int i 0 /\ rq l (i - 1) <= rq l i
def vScale (l : Sl) : Prop := l.len <= 20 /\ (∀ i : Int, 0 <= i -> i < l.len -> okB l i) /\ (∀ i : Int, 1 <= i -> i < l.len -> okP l i)
def amt (x : Int) : Prop := 0 <= x /\ x <= 1099511627776
def PI (l : Sl) (m A i : Int) : Int := if 12 * A - l.int i 0 * m <= 0 then 0 else 12 * A - l.int i 0 * m
def rp (l : Sl) (i : Int) : Rat := if i = 0 then 0 else rq l (i - 1)
def TN (l : Sl) (m A : Int) : Nat -> Rat
 | 0 => 0
 | n + 1 => TN l m A n + (PI l m A n : Rat) * (rq l n - rp l n)
def TT (l : Sl) (m A : Int) : Rat := TN l m A l.len.toNat / 12
def validY (y : Sl) : Prop := (∀ i : Int, 0 <= i -> i < y.len -> vScale (y.sub i 1)) /\ (∀ i : Int, 1 <= i -> i < y.len -> y.int (i - 1) 0 < y.int i 0)
def Appl (y : Sl) (year i : Int) : Prop := 0 <= i /\ i < y.len /\ y.int i 0 <= year /\ ∀ j : Int, i < j -> j < y.len -> year < y.int j 0
def noAppl (y : Sl) (year : Int) : Prop := ∀ j : Int, 0 <= j -> j < y.len -> year < y.int j 0
def p_isAmount (_x : Int) : Prop := True
def q_isAmount (x : Int) (r : Bool) : Prop := r = true ↔ amt x
def p_validRate (_a : Bool) (_b : Sl) (_c : Bool) (_d : Sl) : Prop := True
def q_validRate (a : Bool) (b : Sl) (c : Bool) (d : Sl) (r : Bool) : Prop := r = true ↔ okR a b c d
def p_sValid (_l : Sl) : Prop := True
def q_sValid (l : Sl) (r : Bool) : Prop := r = true ↔ vScale l
def p_validYears (_y : Sl) : Prop := True
def q_validYears (y : Sl) (r : Bool) : Prop := r = true ↔ validY y
def p_applying (_y : Sl) (_year : Int) : Prop := True
def q_applying (y : Sl) (year : Int) (s : Sl) (ok : Bool) : Prop := (ok = true -> ∃ i, Appl y year i /\ s = y.sub i 1) /\ (ok = false -> noAppl y year /\ s.len = 0)
def p_exact (l : Sl) (m A : Int) : Prop := vScale l /\ (1 <= m /\ m <= 12) /\ amt A
def q_exact (l : Sl) (m A : Int) (a : Bool) (b : Sl) (c : Bool) (d : Sl) (e : Int) : Prop := IsQ (TT l m A) a b c d /\ okF a b c d /\ e = 0
def p_tDue (_l : Sl) (_m _A : Int) : Prop := True
def q_tDue (l : Sl) (m A r e : Int) : Prop := (vScale l /\ (1 <= m /\ m <= 12) /\ amt A -> r = (TT l m A).floor /\ e = 0) /\ (¬ (vScale l /\ (1 <= m /\ m <= 12) /\ amt A) -> r = 0 /\ e = 2)
def okP6 (y : Sl) (mo g t month gross : Int) : Prop := validY y /\ (0 <= mo /\ mo <= 2153) /\ amt g /\ (-1099511627776 <= t /\ t <= 1099511627776) /\ (mo <= month /\ month <= 2153) /\ amt gross
def goes (mo month x : Int) : Int := if mo / 12 = month / 12 then x else 0
def held (y : Sl) (mo g t month gross r mo' g' t' e : Int) : Prop :=
 (¬ okP6 y mo g t month gross -> r = 0 /\ mo' = 0 /\ g' = 0 /\ t' = 0 /\ e = 2) /\
 (okP6 y mo g t month gross ->
  (noAppl y (1900 + month / 12) -> r = 0 /\ mo' = 0 /\ g' = 0 /\ t' = 0 /\ e = 6) /\
  ∀ i, Appl y (1900 + month / 12) i ->
   (1099511627776 < goes mo month g + gross -> r = 0 /\ mo' = 0 /\ g' = 0 /\ t' = 0 /\ e = 3) /\
   (goes mo month g + gross <= 1099511627776 -> mo' = month /\ g' = goes mo month g + gross /\ t' = (TT (y.sub i 1) (month % 12 + 1) g').floor /\ r = t' - goes mo month t /\ e = 0))
def p_tWithhold (_y : Sl) (_mo _g _t _month _gross : Int) : Prop := True
def q_tWithhold (y : Sl) (mo g t month gross r mo' g' t' e : Int) : Prop := held y mo g t month gross r mo' g' t' e
end Go.Sx.N
