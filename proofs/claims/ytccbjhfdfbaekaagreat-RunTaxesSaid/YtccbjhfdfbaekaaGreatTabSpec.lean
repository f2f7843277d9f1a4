/-
 What the functions of the tables are to answer. Conditions: none.
-/
import Derived.Test.YtccbjhfdfbaekaaGreatNumBase
set_option linter.unusedVariables false
set_option linter.unusedSimpArgs false
namespace Go.Sx.N
def rW (_n : Int) : Prop := True
def rX (n : Int) (a : Bool) (l : Sl) : Prop := NW a l /\ zv a l = n /\ l.len <= 4
def nT (n d : Int) : Rat := if d < 1 then 0 else Rat.divInt n d
def MN (_n _d : Int) : Prop := True
def tq (n d : Int) (a : Bool) (b : Sl) (c : Bool) (e : Sl) : Prop := aW (nT n d) a b c e /\ b.len <= 4 /\ e.len <= 4
def jI (a : Bool) (b : Sl) (c : Bool) (d : Sl) (a' : Bool) (b' : Sl) (c' : Bool) (d' : Sl) : Prop := (a = a' /\ dP b b') /\ c = c' /\ dP d d'
def Na (s : Sl) (i : Int) (a : Bool) (b : Sl) (c : Bool) (d : Sl) : Prop := jI (s.bool i 3) (s.sub i 4) (s.bool i 5) (s.sub i 6) a b c d
def eU (s : Sl) (i : Int) (t : Sl) (k : Int) : Prop := s.int i 0 = t.int k 0 /\ s.int i 1 = t.int k 1 /\ s.int i 2 = t.int k 2 /\ Na s i (t.bool k 3) (t.sub k 4) (t.bool k 5) (t.sub k 6)
def ltK (a b k a' b' k' : Int) : Prop := a < a' \/ (a = a' /\ (b < b' \/ (b = b' /\ k < k')))
def Ru (a b k a' b' k' r : Int) : Prop := (r = -1 /\ ltK a b k a' b' k') \/ (r = 0 /\ a = a' /\ b = b' /\ k = k') \/ (r = 1 /\ ltK a' b' k' a b k)
def EO (_x _y : Int) : Prop := True
def qQ (x y r : Int) : Prop := (r = -1 /\ x < y) \/ (r = 0 /\ x = y) \/ (r = 1 /\ y < x)
def MP (_s : Sl) : Prop := True
def Gs (s : Sl) (r : Int) : Prop := (∃ i : Int, 0 <= i /\ i < s.len /\ r = s.int i 0 /\ r ≠ 0 /\ ∀ j : Int, 0 <= j -> j < i -> s.int j 0 = 0) \/ (r = 0 /\ ∀ j : Int, 0 <= j -> j < s.len -> s.int j 0 = 0)
def yB (_a _b _k : Int) (_nn : Bool) (_nl : Sl) (_dn : Bool) (_dl : Sl) (_a' ZE _k' : Int) (ajD : Bool) (ajE : Sl) (ajF : Bool) (ajG : Sl) : Prop := True
def yC (a b k : Int) (_nn : Bool) (_nl : Sl) (_dn : Bool) (_dl : Sl) (a' b' k' : Int) (ajD : Bool) (ajE : Sl) (ajF : Bool) (ajG : Sl) (r : Int) : Prop := Ru a b k a' b' k' r
def KO (two : Bool) (a b k : Int) (nn : Bool) (nl : Sl) (dn : Bool) (dl : Sl) : Prop :=
 (-2147483648 <= a /\ a <= 2147483647) /\ (-2147483648 <= b /\ b <= 2147483647) /\ (two = true \/ b = 0) /\ (0 <= k /\ k < 65536) /\ okF nn nl dn dl
def Nb (two : Bool) (s : Sl) (i : Int) : Prop := KO two (s.int i 0) (s.int i 1) (s.int i 2) (s.bool i 3) (s.sub i 4) (s.bool i 5) (s.sub i 6)
def MQ (zH : Bool) (_a _b _k : Int) (_nn : Bool) (_nl : Sl) (_dn : Bool) (_dl : Sl) : Prop := True
def iD (two : Bool) (a b k : Int) (nn : Bool) (nl : Sl) (dn : Bool) (dl : Sl) (r : Bool) : Prop := r = true ↔ KO two a b k nn nl dn dl
def DW (s : Sl) (i : Int) (t : Sl) (k : Int) : Prop := ltK (s.int i 0) (s.int i 1) (s.int i 2) (t.int k 0) (t.int k 1) (t.int k 2)
def qG (s : Sl) : Prop := ∀ i : Int, 0 < i -> i < s.len -> ¬ DW s i s (i - 1)
def pV (name : ByteArray) (two : Bool) (s : Sl) : Prop := (1 <= ylen name /\ ylen name <= 24) /\ s.len <= 400 /\ qG s /\ ∀ i : Int, 0 <= i -> i < s.len -> Nb two s i
def EX (name : ByteArray) : Prop := ylen name <= 9223372036854775807
def CG (name : ByteArray) (zH : Bool) (_s : Sl) : Prop := EX name
def kG (name : ByteArray) (two : Bool) (s : Sl) (r : Bool) : Prop := r = true ↔ pV name two s
def Iz (_a : Bool) (b : Sl) (_c : Bool) (d : Sl) : Prop := aO b /\ aO d
def IB (a : Bool) (b : Sl) (c : Bool) (d : Sl) (a' : Bool) (b' : Sl) (c' : Bool) (d' : Sl) : Prop := jI a' b' c' d' a b c d
def ku (s : Sl) (known k : Int) : Prop := (0 <= k /\ k < s.len) /\ s.int k 2 <= known /\ ∀ j : Int, k < j -> j < s.len -> s.int j 0 = s.int k 0 -> s.int j 1 = s.int k 1 -> known < s.int j 2
def ae9 (s : Sl) (known : Int) (t : Sl) : Prop :=
 ∃ g : Int -> Int, (∀ i : Int, 0 <= i -> i < t.len -> ku s known (g i) /\ eU t i s (g i)) /\ (∀ i j : Int, 0 <= i -> i < j -> j < t.len -> g i < g j) /\ (∀ k : Int, ku s known k -> ∃ i : Int, 0 <= i /\ i < t.len /\ g i = k)
def IC (_name : ByteArray) (zH : Bool) (s : Sl) (wX : Int) : Prop := qG s /\ s.len <= 400
def IE (_name : ByteArray) (zH : Bool) (s : Sl) (known : Int) (t : Sl) : Prop := ae9 s known t
def Ap (s : Sl) (a known k : Int) : Prop := (ku s known k /\ s.int k 0 <= a) /\ ∀ j : Int, ku s known j -> s.int j 0 <= a -> s.int j 0 <= s.int k 0
def Gz (ok : Prop) (C : Int -> Prop) (s : Sl) (a' : Bool) (b' : Sl) (c' : Bool) (d' : Sl) (e : Int) : Prop :=
 (¬ ok -> uO a' b' c' d' /\ e = 2) /\ (ok -> ((∀ k : Int, ¬ C k) -> uO a' b' c' d' /\ e = 6) /\ ∀ k : Int, C k -> Na s k a' b' c' d' /\ e = 0)
def KC (name : ByteArray) (zH : Bool) (_s : Sl) (_a wX : Int) : Prop := EX name
def zA (name : ByteArray) (two : Bool) (s : Sl) (a known : Int) (a' : Bool) (b' : Sl) (c' : Bool) (d' : Sl) (e : Int) : Prop :=
 Gz (pV name two s /\ two = false) (Ap s a known) s a' b' c' d' e
def ajH (u r t : Sl) (p : Int) : Prop := t.len = u.len + 1 /\ (0 <= p /\ p <= u.len) /\ (∀ k : Int, 0 <= k -> k < p -> eU t k u k) /\ eU t p r 0 /\ ∀ k : Int, p <= k -> k < u.len -> eU t (k + 1) u k /\ DW r 0 u k
def ins (u r t : Sl) : Prop := ∃ p : Int, ajH u r t p /\ ∀ k : Int, 0 <= k -> k < p -> ¬ DW r 0 u k
end Go.Sx.N
