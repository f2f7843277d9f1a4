/-
 What the functions of the tax are to answer. Conditions: none.
-/
import Derived.Test.YtccbjhfdfbaekaaGreatNumBase
set_option linter.unusedVariables false
set_option linter.unusedSimpArgs false
namespace Go.Sx.N
def rq (l : Sl) (i : Int) : Rat := fq (l.bool i 1) (l.sub i 2) (l.sub i 4)
def okR (a : Bool) (b : Sl) (c : Bool) (d : Sl) : Prop := okF a b c d /\ 0 <= fq a b d /\ fq a b d <= 1 /\ ((fq a b d).den : Int) <= 1000000
def okB (l : Sl) (i : Int) : Prop := (0 <= l.int i 0 /\ l.int i 0 <= 1099511627776) /\ okR (l.bool i 1) (l.sub i 2) (l.bool i 3) (l.sub i 4)
def okP (l : Sl) (i : Int) : Prop := l.int (i - 1) 0 < l.int i 0 /\ rq l (i - 1) <= rq l i
def cu (l : Sl) : Prop := l.len <= 20 /\ (∀ i : Int, 0 <= i -> i < l.len -> okB l i) /\ (∀ i : Int, 1 <= i -> i < l.len -> okP l i)
def amt (x : Int) : Prop := 0 <= x /\ x <= 1099511627776
def PI (l : Sl) (m A i : Int) : Int := if 12 * A - l.int i 0 * m <= 0 then 0 else 12 * A - l.int i 0 * m
def rp (l : Sl) (i : Int) : Rat := if i = 0 then 0 else rq l (i - 1)
def TN (l : Sl) (m A : Int) : Nat -> Rat
 | 0 => 0
 | n + 1 => TN l m A n + (PI l m A n : Rat) * (rq l n - rp l n)
def TT (l : Sl) (m A : Int) : Rat := TN l m A l.len.toNat / 12
def FD (y : Sl) : Prop := (∀ i : Int, 0 <= i -> i < y.len -> cu (y.sub i 1)) /\ (∀ i : Int, 1 <= i -> i < y.len -> y.int (i - 1) 0 < y.int i 0)
def vZ (y : Sl) (year i : Int) : Prop := 0 <= i /\ i < y.len /\ y.int i 0 <= year /\ ∀ j : Int, i < j -> j < y.len -> year < y.int j 0
def BP (y : Sl) (year : Int) : Prop := ∀ j : Int, 0 <= j -> j < y.len -> year < y.int j 0
def uJ (_x : Int) : Prop := True
def lK (x : Int) (r : Bool) : Prop := r = true ↔ amt x
def Bc (_a : Bool) (_b : Sl) (_c : Bool) (_d : Sl) : Prop := True
def iU (a : Bool) (b : Sl) (c : Bool) (d : Sl) (r : Bool) : Prop := r = true ↔ okR a b c d
def CZ (_l : Sl) : Prop := True
def fG (l : Sl) (r : Bool) : Prop := r = true ↔ cu l
def zM (_y : Sl) : Prop := True
def gW (y : Sl) (r : Bool) : Prop := r = true ↔ FD y
def C9 (_y : Sl) (ama : Int) : Prop := True
def yI (y : Sl) (year : Int) (s : Sl) (ok : Bool) : Prop := (ok = true -> ∃ i, vZ y year i /\ s = y.sub i 1) /\ (ok = false -> BP y year /\ s.len = 0)
def G5 (l : Sl) (m A : Int) : Prop := cu l /\ (1 <= m /\ m <= 12) /\ amt A
def G6 (l : Sl) (m A : Int) (a : Bool) (b : Sl) (c : Bool) (d : Sl) (e : Int) : Prop := aW (TT l m A) a b c d /\ okF a b c d /\ e = 0
def Fj (_l : Sl) (_m _A : Int) : Prop := True
def jm (l : Sl) (m A r e : Int) : Prop := (cu l /\ (1 <= m /\ m <= 12) /\ amt A -> r = (TT l m A).floor /\ e = 0) /\ (¬ (cu l /\ (1 <= m /\ m <= 12) /\ amt A) -> r = 0 /\ e = 2)
def Bf (y : Sl) (mo g t month aF : Int) : Prop := FD y /\ (0 <= mo /\ mo <= 2153) /\ amt g /\ (-1099511627776 <= t /\ t <= 1099511627776) /\ (mo <= month /\ month <= 2153) /\ amt aF
def goes (mo month x : Int) : Int := if mo / 12 = month / 12 then x else 0
def held (y : Sl) (mo g t month aF r bQ g' t' e : Int) : Prop :=
 (¬ Bf y mo g t month aF -> r = 0 /\ bQ = 0 /\ g' = 0 /\ t' = 0 /\ e = 2) /\
 (Bf y mo g t month aF ->
  (BP y (1900 + month / 12) -> r = 0 /\ bQ = 0 /\ g' = 0 /\ t' = 0 /\ e = 6) /\
  ∀ i, vZ y (1900 + month / 12) i ->
   (1099511627776 < goes mo month g + aF -> r = 0 /\ bQ = 0 /\ g' = 0 /\ t' = 0 /\ e = 3) /\
   (goes mo month g + aF <= 1099511627776 -> bQ = month /\ g' = goes mo month g + aF /\ t' = (TT (y.sub i 1) (month % 12 + 1) g').floor /\ r = t' - goes mo month t /\ e = 0))
def wH (_y : Sl) (yt _g _t LH alO : Int) : Prop := True
def aV (y : Sl) (mo g t month aF r bQ g' t' e : Int) : Prop := held y mo g t month aF r bQ g' t' e
end Go.Sx.N
