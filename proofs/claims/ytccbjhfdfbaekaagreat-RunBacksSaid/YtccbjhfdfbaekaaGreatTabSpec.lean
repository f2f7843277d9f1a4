/-
 What the functions of the tables are to answer. Conditions: none.
-/
import Derived.Test.YtccbjhfdfbaekaaGreatNumBase
set_option linter.unusedVariables false
set_option linter.unusedSimpArgs false
namespace Go.Sx.N
def sF (_n : Int) : Prop := True
def sG (n : Int) (a : Bool) (l : Sl) : Prop := NW a l /\ zv a l = n /\ l.len <= 4
def pG (n d : Int) : Rat := if d < 1 then 0 else Rat.divInt n d
def NJ (_n _d : Int) : Prop := True
def tu (n d : Int) (a : Bool) (b : Sl) (c : Bool) (e : Sl) : Prop := aW (pG n d) a b c e /\ b.len <= 4 /\ e.len <= 4
def jQ (a : Bool) (b : Sl) (c : Bool) (d : Sl) (a' : Bool) (b' : Sl) (c' : Bool) (d' : Sl) : Prop := (a = a' /\ dP b b') /\ c = c' /\ dP d d'
def N7 (s : Sl) (i : Int) (a : Bool) (b : Sl) (c : Bool) (d : Sl) : Prop := jQ (s.bool i 3) (s.sub i 4) (s.bool i 5) (s.sub i 6) a b c d
def fE (s : Sl) (i : Int) (t : Sl) (k : Int) : Prop := s.int i 0 = t.int k 0 /\ s.int i 1 = t.int k 1 /\ s.int i 2 = t.int k 2 /\ N7 s i (t.bool k 3) (t.sub k 4) (t.bool k 5) (t.sub k 6)
def ltK (a b k a' b' k' : Int) : Prop := a < a' \/ (a = a' /\ (b < b' \/ (b = b' /\ k < k')))
def SQ (a b k a' b' k' r : Int) : Prop := (r = -1 /\ ltK a b k a' b' k') \/ (r = 0 /\ a = a' /\ b = b' /\ k = k') \/ (r = 1 /\ ltK a' b' k' a b k)
def Fb (_x _y : Int) : Prop := True
def qX (x y r : Int) : Prop := (r = -1 /\ x < y) \/ (r = 0 /\ x = y) \/ (r = 1 /\ y < x)
def NK (_s : Sl) : Prop := True
def GZ (s : Sl) (r : Int) : Prop := (∃ i : Int, 0 <= i /\ i < s.len /\ r = s.int i 0 /\ r ≠ 0 /\ ∀ j : Int, 0 <= j -> j < i -> s.int j 0 = 0) \/ (r = 0 /\ ∀ j : Int, 0 <= j -> j < s.len -> s.int j 0 = 0)
def yG (_a _b _k : Int) (_nn : Bool) (_nl : Sl) (_dn : Bool) (_dl : Sl) (_a' _b' _k' : Int) (aky : Bool) (akz : Sl) (akA : Bool) (akB : Sl) : Prop := True
def yH (a b k : Int) (_nn : Bool) (_nl : Sl) (_dn : Bool) (_dl : Sl) (a' b' k' : Int) (aky : Bool) (akz : Sl) (akA : Bool) (akB : Sl) (r : Int) : Prop := SQ a b k a' b' k' r
def LJ (two : Bool) (a b k : Int) (nn : Bool) (nl : Sl) (dn : Bool) (dl : Sl) : Prop :=
 (-2147483648 <= a /\ a <= 2147483647) /\ (-2147483648 <= b /\ b <= 2147483647) /\ (two = true \/ b = 0) /\ (0 <= k /\ k < 65536) /\ okF nn nl dn dl
def N8 (two : Bool) (s : Sl) (i : Int) : Prop := LJ two (s.int i 0) (s.int i 1) (s.int i 2) (s.bool i 3) (s.sub i 4) (s.bool i 5) (s.sub i 6)
def NM (zS : Bool) (_a _b _k : Int) (_nn : Bool) (_nl : Sl) (_dn : Bool) (_dl : Sl) : Prop := True
def iM (two : Bool) (a b k : Int) (nn : Bool) (nl : Sl) (dn : Bool) (dl : Sl) (r : Bool) : Prop := r = true ↔ LJ two a b k nn nl dn dl
def Ee (s : Sl) (i : Int) (t : Sl) (k : Int) : Prop := ltK (s.int i 0) (s.int i 1) (s.int i 2) (t.int k 0) (t.int k 1) (t.int k 2)
def qN (s : Sl) : Prop := ∀ i : Int, 0 < i -> i < s.len -> ¬ Ee s i s (i - 1)
def qj (name : ByteArray) (two : Bool) (s : Sl) : Prop := (1 <= ylen name /\ ylen name <= 24) /\ s.len <= 400 /\ qN s /\ ∀ i : Int, 0 <= i -> i < s.len -> N8 two s i
def Fz (name : ByteArray) : Prop := ylen name <= 9223372036854775807
def CW (name : ByteArray) (zS : Bool) (_s : Sl) : Prop := Fz name
def kU (name : ByteArray) (two : Bool) (s : Sl) (r : Bool) : Prop := r = true ↔ qj name two s
def Jc (_a : Bool) (b : Sl) (_c : Bool) (d : Sl) : Prop := aP b /\ aP d
def Jd (a : Bool) (b : Sl) (c : Bool) (d : Sl) (a' : Bool) (b' : Sl) (c' : Bool) (d' : Sl) : Prop := jQ a' b' c' d' a b c d
def kQ (s : Sl) (known k : Int) : Prop := (0 <= k /\ k < s.len) /\ s.int k 2 <= known /\ ∀ j : Int, k < j -> j < s.len -> s.int j 0 = s.int k 0 -> s.int j 1 = s.int k 1 -> known < s.int j 2
def af4 (s : Sl) (known : Int) (t : Sl) : Prop :=
 ∃ g : Int -> Int, (∀ i : Int, 0 <= i -> i < t.len -> kQ s known (g i) /\ fE t i s (g i)) /\ (∀ i j : Int, 0 <= i -> i < j -> j < t.len -> g i < g j) /\ (∀ k : Int, kQ s known k -> ∃ i : Int, 0 <= i /\ i < t.len /\ g i = k)
def Je (_name : ByteArray) (zS : Bool) (s : Sl) (wZ : Int) : Prop := qN s /\ s.len <= 400
def Jf (_name : ByteArray) (zS : Bool) (s : Sl) (known : Int) (t : Sl) : Prop := af4 s known t
def AL (s : Sl) (a known k : Int) : Prop := (kQ s known k /\ s.int k 0 <= a) /\ ∀ j : Int, kQ s known j -> s.int j 0 <= a -> s.int j 0 <= s.int k 0
def Hq (ok : Prop) (C : Int -> Prop) (s : Sl) (a' : Bool) (b' : Sl) (c' : Bool) (d' : Sl) (e : Int) : Prop :=
 (¬ ok -> uM a' b' c' d' /\ e = 2) /\ (ok -> ((∀ k : Int, ¬ C k) -> uM a' b' c' d' /\ e = 6) /\ ∀ k : Int, C k -> N7 s k a' b' c' d' /\ e = 0)
def Le (name : ByteArray) (zS : Bool) (_s : Sl) (_a wZ : Int) : Prop := Fz name
def zJ (name : ByteArray) (two : Bool) (s : Sl) (a known : Int) (a' : Bool) (b' : Sl) (c' : Bool) (d' : Sl) (e : Int) : Prop :=
 Hq (qj name two s /\ two = false) (AL s a known) s a' b' c' d' e
def akC (u r t : Sl) (p : Int) : Prop := t.len = u.len + 1 /\ (0 <= p /\ p <= u.len) /\ (∀ k : Int, 0 <= k -> k < p -> fE t k u k) /\ fE t p r 0 /\ ∀ k : Int, p <= k -> k < u.len -> fE t (k + 1) u k /\ Ee r 0 u k
def ins (u r t : Sl) : Prop := ∃ p : Int, akC u r t p /\ ∀ k : Int, 0 <= k -> k < p -> ¬ Ee r 0 u k
end Go.Sx.N
