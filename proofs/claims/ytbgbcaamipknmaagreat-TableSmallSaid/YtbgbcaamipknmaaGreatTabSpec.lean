/-
 What the functions of the tables are to answer. Conditions: none.
-/
import Derived.Test.YtbgbcaamipknmaaGreatNumBase
set_option linter.unusedVariables false
set_option linter.unusedSimpArgs false
namespace Go.Sx.N
def p_kWhole (_n : Int) : Prop := True
def q_kWhole (n : Int) (a : Bool) (l : Sl) : Prop := NW a l /\ zv a l = n /\ l.len <= 4
def fracQ (n d : Int) : Rat := if d < 1 then 0 else Rat.divInt n d
def p_kFrac (_n _d : Int) : Prop := True
def q_kFrac (n d : Int) (a : Bool) (b : Sl) (c : Bool) (e : Sl) : Prop := IsQ (fracQ n d) a b c e /\ b.len <= 4 /\ e.len <= 4
def SameF (a : Bool) (b : Sl) (c : Bool) (d : Sl) (a' : Bool) (b' : Sl) (c' : Bool) (d' : Sl) : Prop := (a = a' /\ SameI b b') /\ c = c' /\ SameI d d'
def rowF (s : Sl) (i : Int) (a : Bool) (b : Sl) (c : Bool) (d : Sl) : Prop := SameF (s.bool i 3) (s.sub i 4) (s.bool i 5) (s.sub i 6) a b c d
def rowEq (s : Sl) (i : Int) (t : Sl) (k : Int) : Prop := s.int i 0 = t.int k 0 /\ s.int i 1 = t.int k 1 /\ s.int i 2 = t.int k 2 /\ rowF s i (t.bool k 3) (t.sub k 4) (t.bool k 5) (t.sub k 6)
def rowsEq (s t : Sl) : Prop := s.len = t.len /\ ∀ i : Int, 0 <= i -> i < s.len -> rowEq s i t i
def ltK (a b k a' b' k' : Int) : Prop := a < a' \/ (a = a' /\ (b < b' \/ (b = b' /\ k < k')))
def ordK (a b k a' b' k' r : Int) : Prop := (r = -1 /\ ltK a b k a' b' k') \/ (r = 0 /\ a = a' /\ b = b' /\ k = k') \/ (r = 1 /\ ltK a' b' k' a b k)
def p_cmpI (_x _y : Int) : Prop := True
def q_cmpI (x y r : Int) : Prop := (r = -1 /\ x < y) \/ (r = 0 /\ x = y) \/ (r = 1 /\ y < x)
def p_cmpOr (_s : Sl) : Prop := True
def q_cmpOr (s : Sl) (r : Int) : Prop := (∃ i : Int, 0 <= i /\ i < s.len /\ r = s.int i 0 /\ r ≠ 0 /\ ∀ j : Int, 0 <= j -> j < i -> s.int j 0 = 0) \/ (r = 0 /\ ∀ j : Int, 0 <= j -> j < s.len -> s.int j 0 = 0)
def p_tCompare (_a _b _k : Int) (_nn : Bool) (_nl : Sl) (_dn : Bool) (_dl : Sl) (_a' _b' _k' : Int) (_nn' : Bool) (_nl' : Sl) (_dn' : Bool) (_dl' : Sl) : Prop := True
def q_tCompare (a b k : Int) (_nn : Bool) (_nl : Sl) (_dn : Bool) (_dl : Sl) (a' b' k' : Int) (_nn' : Bool) (_nl' : Sl) (_dn' : Bool) (_dl' : Sl) (r : Int) : Prop := ordK a b k a' b' k' r
def rightS (two : Bool) (a b k : Int) (nn : Bool) (nl : Sl) (dn : Bool) (dl : Sl) : Prop :=
 (-2147483648 <= a /\ a <= 2147483647) /\ (-2147483648 <= b /\ b <= 2147483647) /\ (two = true \/ b = 0) /\ (0 <= k /\ k < 65536) /\ okF nn nl dn dl
def rightAt (two : Bool) (s : Sl) (i : Int) : Prop := rightS two (s.int i 0) (s.int i 1) (s.int i 2) (s.bool i 3) (s.sub i 4) (s.bool i 5) (s.sub i 6)
def p_Right (_two : Bool) (_a _b _k : Int) (_nn : Bool) (_nl : Sl) (_dn : Bool) (_dl : Sl) : Prop := True
def q_Right (two : Bool) (a b k : Int) (nn : Bool) (nl : Sl) (dn : Bool) (dl : Sl) (r : Bool) : Prop := r = true ↔ rightS two a b k nn nl dn dl
def ltR (s : Sl) (i : Int) (t : Sl) (k : Int) : Prop := ltK (s.int i 0) (s.int i 1) (s.int i 2) (t.int k 0) (t.int k 1) (t.int k 2)
def sortedT (s : Sl) : Prop := ∀ i : Int, 0 < i -> i < s.len -> ¬ ltR s i s (i - 1)
def validT (name : ByteArray) (two : Bool) (s : Sl) : Prop := (1 <= ylen name /\ ylen name <= 24) /\ s.len <= 400 /\ sortedT s /\ ∀ i : Int, 0 <= i -> i < s.len -> rightAt two s i
def zeroT (name : ByteArray) (two : Bool) (s : Sl) : Prop := ylen name = 0 /\ two = false /\ s.len = 0
def okN (name : ByteArray) : Prop := ylen name <= 9223372036854775807
def p_tValid (name : ByteArray) (_two : Bool) (_s : Sl) : Prop := okN name
def q_tValid (name : ByteArray) (two : Bool) (s : Sl) (r : Bool) : Prop := r = true ↔ validT name two s
def p_copied (_a : Bool) (b : Sl) (_c : Bool) (d : Sl) : Prop := Lim b /\ Lim d
def q_copied (a : Bool) (b : Sl) (c : Bool) (d : Sl) (a' : Bool) (b' : Sl) (c' : Bool) (d' : Sl) : Prop := SameF a' b' c' d' a b c d
def inForce (s : Sl) (known k : Int) : Prop := (0 <= k /\ k < s.len) /\ s.int k 2 <= known /\ ∀ j : Int, k < j -> j < s.len -> s.int j 0 = s.int k 0 -> s.int j 1 = s.int k 1 -> known < s.int j 2
def forcedS (s : Sl) (known : Int) (t : Sl) : Prop :=
 ∃ g : Int -> Int, (∀ i : Int, 0 <= i -> i < t.len -> inForce s known (g i) /\ rowEq t i s (g i)) /\ (∀ i j : Int, 0 <= i -> i < j -> j < t.len -> g i < g j) /\ (∀ k : Int, inForce s known k -> ∃ i : Int, 0 <= i /\ i < t.len /\ g i = k)
def p_forced (_name : ByteArray) (_two : Bool) (s : Sl) (_known : Int) : Prop := sortedT s /\ s.len <= 400
def q_forced (_name : ByteArray) (_two : Bool) (s : Sl) (known : Int) (t : Sl) : Prop := forcedS s known t
def p_View (name : ByteArray) (_two : Bool) (_s : Sl) (_known : Int) : Prop := okN name
def q_View (name : ByteArray) (two : Bool) (s : Sl) (known : Int) (name' : ByteArray) (two' : Bool) (s' : Sl) (e : Int) : Prop :=
 (¬ validT name two s -> zeroT name' two' s' /\ e = 2) /\ (validT name two s -> name' = name /\ two' = two /\ forcedS s known s' /\ e = 0)
def candX (s : Sl) (a known k : Int) : Prop := (inForce s known k /\ s.int k 0 <= a) /\ ∀ j : Int, inForce s known j -> s.int j 0 <= a -> s.int j 0 <= s.int k 0
def candT (s : Sl) (a b known k : Int) : Prop := (candX s a known k /\ s.int k 1 <= b) /\ ∀ j : Int, candX s a known j -> s.int j 1 <= b -> s.int j 1 <= s.int k 1
def lookR (ok : Prop) (C : Int -> Prop) (s : Sl) (a' : Bool) (b' : Sl) (c' : Bool) (d' : Sl) (e : Int) : Prop :=
 (¬ ok -> zeroF a' b' c' d' /\ e = 2) /\ (ok -> ((∀ k : Int, ¬ C k) -> zeroF a' b' c' d' /\ e = 6) /\ ∀ k : Int, C k -> rowF s k a' b' c' d' /\ e = 0)
def p_Look (name : ByteArray) (_two : Bool) (_s : Sl) (_a _known : Int) : Prop := okN name
def q_Look (name : ByteArray) (two : Bool) (s : Sl) (a known : Int) (a' : Bool) (b' : Sl) (c' : Bool) (d' : Sl) (e : Int) : Prop :=
 lookR (validT name two s /\ two = false) (candX s a known) s a' b' c' d' e
def p_LookTwo (name : ByteArray) (_two : Bool) (_s : Sl) (_a _b _known : Int) : Prop := okN name
def q_LookTwo (name : ByteArray) (two : Bool) (s : Sl) (a b known : Int) (a' : Bool) (b' : Sl) (c' : Bool) (d' : Sl) (e : Int) : Prop :=
 lookR (validT name two s /\ two = true) (candT s a b known) s a' b' c' d' e
def p_kSameRow (_a _b _k : Int) (_nn : Bool) (_nl : Sl) (_dn : Bool) (_dl : Sl) (_a' _b' _k' : Int) (_nn' : Bool) (_nl' : Sl) (_dn' : Bool) (_dl' : Sl) : Prop := True
def q_kSameRow (a b k : Int) (nn : Bool) (nl : Sl) (dn : Bool) (dl : Sl) (a' b' k' : Int) (nn' : Bool) (nl' : Sl) (dn' : Bool) (dl' : Sl) (r : Bool) : Prop := r = true ↔ (a = a' /\ b = b' /\ k = k' /\ SameF nn nl dn dl nn' nl' dn' dl')
def p_kSameRows (_s _t : Sl) : Prop := True
def q_kSameRows (s t : Sl) (r : Bool) : Prop := r = true ↔ rowsEq s t
def p_kSameTable (_n : ByteArray) (_two : Bool) (_s : Sl) (_n' : ByteArray) (_two' : Bool) (_s' : Sl) : Prop := True
def q_kSameTable (n : ByteArray) (two : Bool) (s : Sl) (n' : ByteArray) (two' : Bool) (s' : Sl) (r : Bool) : Prop := r = true ↔ (n = n' /\ two = two' /\ rowsEq s s')
def litF (q : Rat) (a : Bool) (b : Sl) (c : Bool) (d : Sl) : Prop := IsQ q a b c d /\ b.len <= 4 /\ d.len <= 4
def p_tRow (_a _b _k _n _d : Int) : Prop := True
def q_tRow (a b k n d a' b' k' : Int) (nn : Bool) (nl : Sl) (dn : Bool) (dl : Sl) : Prop := a' = a /\ b' = b /\ k' = k /\ litF (fracQ n d) nn nl dn dl
def insP (u r t : Sl) (p : Int) : Prop := t.len = u.len + 1 /\ (0 <= p /\ p <= u.len) /\ (∀ k : Int, 0 <= k -> k < p -> rowEq t k u k) /\ rowEq t p r 0 /\ ∀ k : Int, p <= k -> k < u.len -> rowEq t (k + 1) u k /\ ltR r 0 u k
def ins (u r t : Sl) : Prop := ∃ p : Int, insP u r t p /\ ∀ k : Int, 0 <= k -> k < p -> ¬ ltR r 0 u k
def rowL (a b k : Int) (nn : Bool) (nl : Sl) (dn : Bool) (dl : Sl) : Sl := Sl.lit [[.int a, .int b, .int k, .bool nn, Sl.d nl, .bool dn, Sl.d dl]]
def p_Learn (name : ByteArray) (_two : Bool) (_s : Sl) (_a _b _k : Int) (_nn : Bool) (_nl : Sl) (_dn : Bool) (_dl : Sl) : Prop := okN name
def q_Learn (name : ByteArray) (two : Bool) (s : Sl) (a b k : Int) (nn : Bool) (nl : Sl) (dn : Bool) (dl : Sl) (name' : ByteArray) (two' : Bool) (s' : Sl) (e : Int) : Prop :=
 (¬ (validT name two s /\ rightS two a b k nn nl dn dl) -> zeroT name' two' s' /\ e = 2) /\
 (validT name two s /\ rightS two a b k nn nl dn dl -> (s.len = 400 -> zeroT name' two' s' /\ e = 4) /\ (s.len ≠ 400 -> name' = name /\ two' = two /\ ins s (rowL a b k nn nl dn dl) s' /\ e = 0))
def p_awake : Prop := True
def q_awake (r : Bool) : Prop := r = true
end Go.Sx.N
