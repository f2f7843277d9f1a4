/-
 What the functions of the tables are to answer. Conditions: none.
-/
import Derived.Test.YtccbjhfdfbaekaaGreatNumBase
set_option linter.unusedVariables false
set_option linter.unusedSimpArgs false
namespace Go.Sx.N
def xX (_n : Int) : Prop := True
def xY (n : Int) (a : Bool) (l : Sl) : Prop := NW a l /\ zv a l = n /\ l.len <= 4
def sQ (n d : Int) : Rat := if d < 1 then 0 else Rat.divInt n d
def Vd (_n _d : Int) : Prop := True
def yN (n d : Int) (a : Bool) (b : Sl) (c : Bool) (e : Sl) : Prop := bV (sQ n d) a b c e /\ b.len <= 4 /\ e.len <= 4
def nI (a : Bool) (b : Sl) (c : Bool) (d : Sl) (a' : Bool) (b' : Sl) (c' : Bool) (d' : Sl) : Prop := (a = a' /\ gU b b') /\ c = c' /\ gU d d'
def Vo (s : Sl) (i : Int) (a : Bool) (b : Sl) (c : Bool) (d : Sl) : Prop := nI (s.bool i 3) (s.sub i 4) (s.bool i 5) (s.sub i 6) a b c d
def iO (s : Sl) (i : Int) (t : Sl) (k : Int) : Prop := s.int i 0 = t.int k 0 /\ s.int i 1 = t.int k 1 /\ s.int i 2 = t.int k 2 /\ Vo s i (t.bool k 3) (t.sub k 4) (t.bool k 5) (t.sub k 6)
def ltK (a b k a' b' k' : Int) : Prop := a < a' \/ (a = a' /\ (b < b' \/ (b = b' /\ k < k')))
def ZP (a b k a' b' k' r : Int) : Prop := (r = -1 /\ ltK a b k a' b' k') \/ (r = 0 /\ a = a' /\ b = b' /\ k = k') \/ (r = 1 /\ ltK a' b' k' a b k)
def MG (_x _y : Int) : Prop := True
def wX (x y r : Int) : Prop := (r = -1 /\ x < y) \/ (r = 0 /\ x = y) \/ (r = 1 /\ y < x)
def Ve (_s : Sl) : Prop := True
def Ol (s : Sl) (r : Int) : Prop := (∃ i : Int, 0 <= i /\ i < s.len /\ r = s.int i 0 /\ r ≠ 0 /\ ∀ j : Int, 0 <= j -> j < i -> s.int j 0 = 0) \/ (r = 0 /\ ∀ j : Int, 0 <= j -> j < s.len -> s.int j 0 = 0)
def DX (_a _b _k : Int) (_nn : Bool) (_nl : Sl) (_dn : Bool) (_dl : Sl) (_a' _b' _k' : Int) (aqw : Bool) (aqx : Sl) (aqy : Bool) (aqz : Sl) : Prop := True
def DY (a b k : Int) (_nn : Bool) (_nl : Sl) (_dn : Bool) (_dl : Sl) (a' b' k' : Int) (aqw : Bool) (aqx : Sl) (aqy : Bool) (aqz : Sl) (r : Int) : Prop := ZP a b k a' b' k' r
def Tz (two : Bool) (a b k : Int) (nn : Bool) (nl : Sl) (dn : Bool) (dl : Sl) : Prop :=
 (-2147483648 <= a /\ a <= 2147483647) /\ (-2147483648 <= b /\ b <= 2147483647) /\ (two = true \/ b = 0) /\ (0 <= k /\ k < 65536) /\ okF nn nl dn dl
def Vp (two : Bool) (s : Sl) (i : Int) : Prop := Tz two (s.int i 0) (s.int i 1) (s.int i 2) (s.bool i 3) (s.sub i 4) (s.bool i 5) (s.sub i 6)
def Vf (Fj : Bool) (_a _b _k : Int) (_nn : Bool) (_nl : Sl) (_dn : Bool) (_dl : Sl) : Prop := True
def kG (two : Bool) (a b k : Int) (nn : Bool) (nl : Sl) (dn : Bool) (dl : Sl) (r : Bool) : Prop := r = true ↔ Tz two a b k nn nl dn dl
def Ku (s : Sl) (i : Int) (t : Sl) (k : Int) : Prop := ltK (s.int i 0) (s.int i 1) (s.int i 2) (t.int k 0) (t.int k 1) (t.int k 2)
def wE (s : Sl) : Prop := ∀ i : Int, 0 < i -> i < s.len -> ¬ Ku s i s (i - 1)
def vI (name : ByteArray) (two : Bool) (s : Sl) : Prop := (1 <= jf name /\ jf name <= 24) /\ s.len <= 400 /\ wE s /\ ∀ i : Int, 0 <= i -> i < s.len -> Vp two s i
def Ih (name : ByteArray) : Prop := jf name <= 9223372036854775807
def Je (name : ByteArray) (Fj : Bool) (_s : Sl) : Prop := Ih name
def oU (name : ByteArray) (two : Bool) (s : Sl) (r : Bool) : Prop := r = true ↔ vI name two s
def Qn (_a : Bool) (b : Sl) (_c : Bool) (d : Sl) : Prop := bC b /\ bC d
def Qo (a : Bool) (b : Sl) (c : Bool) (d : Sl) (a' : Bool) (b' : Sl) (c' : Bool) (d' : Sl) : Prop := nI a' b' c' d' a b c d
def oM (s : Sl) (known k : Int) : Prop := (0 <= k /\ k < s.len) /\ s.int k 2 <= known /\ ∀ j : Int, k < j -> j < s.len -> s.int j 0 = s.int k 0 -> s.int j 1 = s.int k 1 -> known < s.int j 2
def alC (s : Sl) (known : Int) (t : Sl) : Prop :=
 ∃ g : Int -> Int, (∀ i : Int, 0 <= i -> i < t.len -> oM s known (g i) /\ iO t i s (g i)) /\ (∀ i j : Int, 0 <= i -> i < j -> j < t.len -> g i < g j) /\ (∀ k : Int, oM s known k -> ∃ i : Int, 0 <= i /\ i < t.len /\ g i = k)
def Qp (_name : ByteArray) (Fj : Bool) (s : Sl) (CG : Int) : Prop := wE s /\ s.len <= 400
def Qq (_name : ByteArray) (Fj : Bool) (s : Sl) (known : Int) (t : Sl) : Prop := alC s known t
def Gn (s : Sl) (a known k : Int) : Prop := (oM s known k /\ s.int k 0 <= a) /\ ∀ j : Int, oM s known j -> s.int j 0 <= a -> s.int j 0 <= s.int k 0
def Ox (ok : Prop) (C : Int -> Prop) (s : Sl) (a' : Bool) (b' : Sl) (c' : Bool) (d' : Sl) (e : Int) : Prop :=
 (¬ ok -> zQ a' b' c' d' /\ e = 2) /\ (ok -> ((∀ k : Int, ¬ C k) -> zQ a' b' c' d' /\ e = 6) /\ ∀ k : Int, C k -> Vo s k a' b' c' d' /\ e = 0)
def S9 (name : ByteArray) (Fj : Bool) (_s : Sl) (_a CG : Int) : Prop := Ih name
def E8 (name : ByteArray) (two : Bool) (s : Sl) (a known : Int) (a' : Bool) (b' : Sl) (c' : Bool) (d' : Sl) (e : Int) : Prop :=
 Ox (vI name two s /\ two = false) (Gn s a known) s a' b' c' d' e
def aqA (u r t : Sl) (p : Int) : Prop := t.len = u.len + 1 /\ (0 <= p /\ p <= u.len) /\ (∀ k : Int, 0 <= k -> k < p -> iO t k u k) /\ iO t p r 0 /\ ∀ k : Int, p <= k -> k < u.len -> iO t (k + 1) u k /\ Ku r 0 u k
def ins (u r t : Sl) : Prop := ∃ p : Int, aqA u r t p /\ ∀ k : Int, 0 <= k -> k < p -> ¬ Ku r 0 u k
end Go.Sx.N
