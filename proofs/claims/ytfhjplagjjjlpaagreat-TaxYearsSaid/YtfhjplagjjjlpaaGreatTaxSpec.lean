/-
 What the functions of the tax layer are to answer. Conditions: none.
-/
import Derived.Test.YtfhjplagjjjlpaaGreatNumBase
set_option linter.unusedVariables false
set_option linter.unusedSimpArgs false
namespace Go.Sx.N
def rq (l : Sl) (i : Int) : Rat := fq (l.bool i 1) (l.sub i 2) (l.sub i 4)
def okR (a : Bool) (b : Sl) (c : Bool) (d : Sl) : Prop := okF a b c d /\ 0 <= fq a b d /\ fq a b d <= 1 /\ ((fq a b d).den : Int) <= 1000000
def okB (l : Sl) (i : Int) : Prop := (0 <= l.int i 0 /\ l.int i 0 <= 1099511627776) /\ okR (l.bool i 1) (l.sub i 2) (l.bool i 3) (l.sub i 4)
def okP (l : Sl) (i : Int) : Prop := l.int (i - 1) 0 < l.int i 0 /\ rq l (i - 1) <= rq l i
def validS (l : Sl) : Prop := l.len <= 20 /\ (∀ i : Int, 0 <= i -> i < l.len -> okB l i) /\ (∀ i : Int, 1 <= i -> i < l.len -> okP l i)
def amt (x : Int) : Prop := 0 <= x /\ x <= 1099511627776
def PI (l : Sl) (m A i : Int) : Int := if 12 * A - l.int i 0 * m <= 0 then 0 else 12 * A - l.int i 0 * m
def rp (l : Sl) (i : Int) : Rat := if i = 0 then 0 else rq l (i - 1)
def TN (l : Sl) (m A : Int) : Nat -> Rat
 | 0 => 0
 | n + 1 => TN l m A n + (PI l m A n : Rat) * (rq l n - rp l n)
def TT (l : Sl) (m A : Int) : Rat := TN l m A l.len.toNat / 12
def validY (y : Sl) : Prop := (∀ i : Int, 0 <= i -> i < y.len -> validS (y.sub i 1)) /\ (∀ i : Int, 1 <= i -> i < y.len -> y.int (i - 1) 0 < y.int i 0)
def Appl (y : Sl) (year i : Int) : Prop := 0 <= i /\ i < y.len /\ y.int i 0 <= year /\ ∀ j : Int, i < j -> j < y.len -> year < y.int j 0
def noAppl (y : Sl) (year : Int) : Prop := ∀ j : Int, 0 <= j -> j < y.len -> year < y.int j 0
def sameF (a : Bool) (b : Sl) (c : Bool) (d : Sl) (a' : Bool) (b' : Sl) (c' : Bool) (d' : Sl) : Prop := (a = a' /\ SameI b b') /\ c = c' /\ SameI d d'
def sameB (l m : Sl) : Prop := l.len = m.len /\ ∀ i : Int, 0 <= i -> i < l.len -> l.int i 0 = m.int i 0 /\ sameF (l.bool i 1) (l.sub i 2) (l.bool i 3) (l.sub i 4) (m.bool i 1) (m.sub i 2) (m.bool i 3) (m.sub i 4)
def sameY (y z : Sl) : Prop := y.len = z.len /\ ∀ i : Int, 0 <= i -> i < y.len -> y.int i 0 = z.int i 0 /\ sameB (y.sub i 1) (z.sub i 1)
def p_isAmount (_x : Int) : Prop := True
def q_isAmount (x : Int) (r : Bool) : Prop := r = true ↔ amt x
def p_validRate (_a : Bool) (_b : Sl) (_c : Bool) (_d : Sl) : Prop := True
def q_validRate (a : Bool) (b : Sl) (c : Bool) (d : Sl) (r : Bool) : Prop := r = true ↔ okR a b c d
def p_tValid (_l : Sl) : Prop := True
def q_tValid (l : Sl) (r : Bool) : Prop := r = true ↔ validS l
def p_validYears (_y : Sl) : Prop := True
def q_validYears (y : Sl) (r : Bool) : Prop := r = true ↔ validY y
def p_applying (_y : Sl) (_year : Int) : Prop := True
def q_applying (y : Sl) (year : Int) (s : Sl) (ok : Bool) : Prop := (ok = true -> ∃ i, Appl y year i /\ s = y.sub i 1) /\ (ok = false -> noAppl y year /\ s.len = 0)
def p_exact (l : Sl) (m A : Int) : Prop := validS l /\ (1 <= m /\ m <= 12) /\ amt A
def q_exact (l : Sl) (m A : Int) (a : Bool) (b : Sl) (c : Bool) (d : Sl) (e : Int) : Prop := IsQ (TT l m A) a b c d /\ okF a b c d /\ e = 0
def p_tTax (_l : Sl) (_A : Int) : Prop := True
def q_tTax (l : Sl) (A : Int) (a : Bool) (b : Sl) (c : Bool) (d : Sl) (e : Int) : Prop := (validS l /\ amt A -> IsQ (TT l 12 A) a b c d /\ okF a b c d /\ e = 0) /\ (¬ (validS l /\ amt A) -> zeroF a b c d /\ e = 2)
def p_tDue (_l : Sl) (_m _A : Int) : Prop := True
def q_tDue (l : Sl) (m A r e : Int) : Prop := (validS l /\ (1 <= m /\ m <= 12) /\ amt A -> r = (TT l m A).floor /\ e = 0) /\ (¬ (validS l /\ (1 <= m /\ m <= 12) /\ amt A) -> r = 0 /\ e = 2)
def p_ownFrac (_a : Bool) (b : Sl) (_c : Bool) (d : Sl) : Prop := Lim b /\ Lim d
def q_ownFrac (a : Bool) (b : Sl) (c : Bool) (d : Sl) (a' : Bool) (b' : Sl) (c' : Bool) (d' : Sl) : Prop := sameF a' b' c' d' a b c d
def scaleOf (y : Sl) (year : Int) (s : Sl) (e : Int) : Prop :=
 (¬ validY y -> s.len = 0 /\ e = 2) /\ (validY y -> noAppl y year -> s.len = 0 /\ e = 6) /\ (validY y -> ∀ i, Appl y year i -> sameB s (y.sub i 1) /\ e = 0)
def p_tScale (_y : Sl) (_year : Int) : Prop := True
def q_tScale (y : Sl) (year : Int) (s : Sl) (e : Int) : Prop := scaleOf y year s e
def okP6 (y : Sl) (mo g t month gross : Int) : Prop := validY y /\ (0 <= mo /\ mo <= 2153) /\ amt g /\ (-1099511627776 <= t /\ t <= 1099511627776) /\ (mo <= month /\ month <= 2153) /\ amt gross
def goes (mo month x : Int) : Int := if mo / 12 = month / 12 then x else 0
def held (y : Sl) (mo g t month gross r mo' g' t' e : Int) : Prop :=
 (¬ okP6 y mo g t month gross -> r = 0 /\ mo' = 0 /\ g' = 0 /\ t' = 0 /\ e = 2) /\
 (okP6 y mo g t month gross ->
  (noAppl y (1900 + month / 12) -> r = 0 /\ mo' = 0 /\ g' = 0 /\ t' = 0 /\ e = 6) /\
  ∀ i, Appl y (1900 + month / 12) i ->
   (1099511627776 < goes mo month g + gross -> r = 0 /\ mo' = 0 /\ g' = 0 /\ t' = 0 /\ e = 3) /\
   (goes mo month g + gross <= 1099511627776 -> mo' = month /\ g' = goes mo month g + gross /\ t' = (TT (y.sub i 1) (month % 12 + 1) g').floor /\ r = t' - goes mo month t /\ e = 0))
def p_tWithhold (_y : Sl) (_mo _g _t _month _gross : Int) : Prop := True
def q_tWithhold (y : Sl) (mo g t month gross r mo' g' t' e : Int) : Prop := held y mo g t month gross r mo' g' t' e
def p_xValid (_l : Sl) : Prop := True
def q_xValid (l : Sl) (r : Bool) : Prop := r = true ↔ validS l
def p_xScale (_y : Sl) (_year : Int) : Prop := True
def q_xScale (y : Sl) (year : Int) (s : Sl) (e : Int) : Prop := (¬ validY y -> s.len = 0 /\ e = 2) /\ (validY y -> noAppl y year -> s.len = 0 /\ e = 6) /\ (validY y -> ∀ i, Appl y year i -> s = y.sub i 1 /\ e = 0)
def fitsB (l : Sl) : Prop := l.len <= 30 /\ ∀ i : Int, 0 <= i -> i < l.len -> (l.sub i 2).len + (l.sub i 4).len <= 600
def p_fits (_l : Sl) : Prop := True
def q_fits (l : Sl) (r : Bool) : Prop := r = true ↔ fitsB l
def p_example : Prop := True
def q_example (l : Sl) : Prop := l.len = 2 /\ (l.int 0 0 = 1000 /\ IsQ (Rat.divInt 1 10) (l.bool 0 1) (l.sub 0 2) (l.bool 0 3) (l.sub 0 4) /\ (l.sub 0 2).len <= 4 /\ (l.sub 0 4).len <= 4) /\
 (l.int 1 0 = 2000 /\ IsQ (Rat.divInt 3 10) (l.bool 1 1) (l.sub 1 2) (l.bool 1 3) (l.sub 1 4) /\ (l.sub 1 2).len <= 4 /\ (l.sub 1 4).len <= 4)
def p_awake : Prop := True
def q_awake (r : Bool) : Prop := r = true
def p_given (l : Sl) : Prop := fitsB l
def q_given (l r : Sl) : Prop := sameB r l
def p_same (_l _m : Sl) : Prop := True
def q_same (l m : Sl) (r : Bool) : Prop := r = true ↔ sameB l m
def p_scales (_y : Sl) : Prop := True
def q_scales (y z : Sl) (ok : Bool) : Prop := (ok = true -> sameY z y) /\ (y.len <= 31 -> (∀ i : Int, 0 <= i -> i < y.len -> fitsB (y.sub i 1)) -> ok = true)
end Go.Sx.N
