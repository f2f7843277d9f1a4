/-
 What the functions of growth by yearly rates are to answer. Conditions: none.
-/
import Derived.Test.YtclonhmgeabdeaaGreatDoorTabSpec
set_option linter.unusedVariables false
set_option linter.unusedSimpArgs false
namespace Go.Sx.N
def p_cLeap (_y : Int) : Prop := True
def q_cLeap (_y : Int) (_r : Bool) : Prop := True
def leapsS (y : Int) : Int := y / 4 - y / 100 + y / 400
def p_cLeaps (y : Int) : Prop := 0 <= y /\ y <= 100000
def q_cLeaps (y r : Int) : Prop := r = leapsS y
def p_cLen (_y _m : Int) : Prop := True
def q_cLen (_y m r : Int) : Prop := m = 1 -> r = 31
def dayS (y : Int) : Int := 365 * (y - 1900) + leapsS (y - 1) - leapsS 1899
def p_cStart (m : Int) : Prop := 0 <= m /\ m <= 3000 /\ m % 12 = 0
def q_cStart (m r : Int) : Prop := r = dayS (1900 + m / 12)
def p_cIsDate (_d : Int) : Prop := True
def q_cIsDate (d : Int) (r : Bool) : Prop := r = true ↔ (0 <= d /\ d < 65536)
def p_rLeap3 (y : Int) : Prop := 0 <= y
def q_rLeap3 (y : Int) (r : Bool) : Prop := r = true ↔ (y % 400 = 0 \/ (y % 4 = 0 /\ y % 100 ≠ 0))
def p_rLen3 (_y m : Int) : Prop := m = 1
def q_rLen3 (_y _m r : Int) : Prop := r = 31
def dayR (y r e : Int) : Prop := (¬ (1900 <= y /\ y <= 2079) -> r = 0 /\ e = 2) /\ (1900 <= y /\ y <= 2079 -> r = dayS y /\ e = 0)
def p_cDay (_y m d : Int) : Prop := m = 1 /\ d = 1
def q_cDay (y _m _d r e : Int) : Prop := dayR y r e
def p_rDay (_y m d : Int) : Prop := m = 1 /\ d = 1
def q_rDay (y _m _d r e : Int) : Prop := dayR y r e
def spanS (a b : Int) : Prop := (0 <= a /\ a <= 65536) /\ 0 <= b /\ b <= 65536
def p_isSpan (_a _b : Int) : Prop := True
def q_isSpan (a b : Int) (r : Bool) : Prop := r = true ↔ spanS a b
def fYn (x : Int) : Nat -> Int
 | 0 => 1900
 | n + 1 => if dayS (1900 + n) < x then 1900 + n + 1 else fYn x n
def fY (x : Int) : Int := fYn x 180
def yearsS (a b : Int) (s : Sl) : Prop := s.len = imax 0 (fY b - fY a) /\ ∀ i : Int, 0 <= i -> i < s.len -> s.int i 0 = fY a + i
def yearsR (a b : Int) (s : Sl) (e : Int) : Prop := (¬ spanS a b -> s.len = 0 /\ e = 2) /\ (spanS a b -> yearsS a b s /\ e = 0)
def p_xYears (_a _b : Int) : Prop := True
def q_xYears (a b : Int) (s : Sl) (e : Int) : Prop := yearsR a b s e
def p_rYears (_a _b : Int) : Prop := True
def q_rYears (a b : Int) (s : Sl) (e : Int) : Prop := yearsR a b s e
def p_kSameInts (_s _t : Sl) : Prop := True
def q_kSameInts (s t : Sl) (r : Bool) : Prop := r = true ↔ SameI s t
def p_yearsL (_a _b : Int) : Prop := True
def q_yearsL (_a _b : Int) (r : Bool) : Prop := r = true
open Classical in
noncomputable def rateO (s : Sl) (known y : Int) : Option Rat :=
 if h : ∃ k, candX s y known k then some (fq (s.bool (Classical.choose h) 3) (s.sub (Classical.choose h) 4) (s.sub (Classical.choose h) 6)) else none
inductive GR where
 | ok (q : Rat)
 | err (e : Int)
open Classical in
noncomputable def grS (s : Sl) (known a : Int) : Nat -> GR
 | 0 => .ok 1
 | n + 1 => match grS s known a n with
  | .err e => .err e
  | .ok q => match rateO s known (a + n) with
   | none => .err 6
   | some r => if fitQ (1 + r) then (if fitQ (q * (1 + r)) then .ok (q * (1 + r)) else .err 3) else .err 3
def resG (g : GR) (nn : Bool) (nl : Sl) (dn : Bool) (dl : Sl) (e : Int) : Prop := match g with
 | .ok q => IsQ q nn nl dn dl /\ e = 0
 | .err x => zeroF nn nl dn dl /\ e = x
noncomputable def growS (s : Sl) (a b known : Int) : GR := grS s known (fY a) (fY b - fY a).toNat
def okT (name : ByteArray) (two : Bool) (s : Sl) (a b : Int) : Prop := (validT name two s /\ two = false) /\ spanS a b
def growR (name : ByteArray) (two : Bool) (s : Sl) (a b known : Int) (nn : Bool) (nl : Sl) (dn : Bool) (dl : Sl) (e : Int) : Prop :=
 (¬ okT name two s a b -> zeroF nn nl dn dl /\ e = 2) /\ (okT name two s a b -> resG (growS s a b known) nn nl dn dl e)
def p_xGrow (name : ByteArray) (_two : Bool) (_s : Sl) (_a _b _known : Int) : Prop := okN name
def q_xGrow (name : ByteArray) (two : Bool) (s : Sl) (a b known : Int) (nn : Bool) (nl : Sl) (dn : Bool) (dl : Sl) (e : Int) : Prop := growR name two s a b known nn nl dn dl e
def chgR (F : Rat -> Bool -> Sl -> Bool -> Sl -> Int -> Prop) (vn : Bool) (vl : Sl) (vd : Bool) (vk : Sl) (name : ByteArray) (two : Bool) (s : Sl) (a b known : Int) (nn : Bool) (nl : Sl) (dn : Bool) (dl : Sl) (e : Int) : Prop :=
 (¬ (okF vn vl vd vk /\ okT name two s a b) -> zeroF nn nl dn dl /\ e = 2) /\ (okF vn vl vd vk /\ okT name two s a b -> match growS s a b known with
  | .err x => zeroF nn nl dn dl /\ e = x
  | .ok q => F q nn nl dn dl e)
def mulF (v q : Rat) (nn : Bool) (nl : Sl) (dn : Bool) (dl : Sl) (e : Int) : Prop := resF (v * q) nn nl dn dl e
def divF (v q : Rat) (nn : Bool) (nl : Sl) (dn : Bool) (dl : Sl) (e : Int) : Prop := (q ≠ 0 -> resF (v / q) nn nl dn dl e) /\ (q = 0 -> zeroF nn nl dn dl /\ e = 20)
def p_xRaise (_vn : Bool) (_vl : Sl) (_vd : Bool) (_vk : Sl) (name : ByteArray) (_two : Bool) (_s : Sl) (_a _b _known : Int) : Prop := okN name
def q_xRaise (vn : Bool) (vl : Sl) (vd : Bool) (vk : Sl) (name : ByteArray) (two : Bool) (s : Sl) (a b known : Int) (nn : Bool) (nl : Sl) (dn : Bool) (dl : Sl) (e : Int) : Prop :=
 chgR (mulF (fq vn vl vk)) vn vl vd vk name two s a b known nn nl dn dl e
def p_xLower (_vn : Bool) (_vl : Sl) (_vd : Bool) (_vk : Sl) (name : ByteArray) (_two : Bool) (_s : Sl) (_a _b _known : Int) : Prop := okN name
def q_xLower (vn : Bool) (vl : Sl) (vd : Bool) (vk : Sl) (name : ByteArray) (two : Bool) (s : Sl) (a b known : Int) (nn : Bool) (nl : Sl) (dn : Bool) (dl : Sl) (e : Int) : Prop :=
 chgR (divF (fq vn vl vk)) vn vl vd vk name two s a b known nn nl dn dl e
def p_iRow (_y _k _n _d : Int) : Prop := True
def q_iRow (y k n d a' b' k' : Int) (nn : Bool) (nl : Sl) (dn : Bool) (dl : Sl) : Prop := a' = y /\ b' = 0 /\ k' = k /\ litF (fracQ n d) nn nl dn dl
def rowI (s : Sl) (i y k : Int) (q : Rat) : Prop := s.int i 0 = y /\ s.int i 1 = 0 /\ s.int i 2 = k /\ okF (s.bool i 3) (s.sub i 4) (s.bool i 5) (s.sub i 6) /\ fq (s.bool i 3) (s.sub i 4) (s.sub i 6) = q
def cpiN : ByteArray := bytes [99, 112, 105]
def p_cpi : Prop := True
def q_cpi (n : ByteArray) (two : Bool) (s : Sl) : Prop := n = cpiN /\ two = false /\ s.len = 3 /\ rowI s 0 1900 0 (Rat.divInt 1 50) /\ rowI s 1 1902 0 (Rat.divInt 1 10) /\ rowI s 2 1902 800 (Rat.divInt 1 20)
def p_xAwake : Prop := True
def q_xAwake (r : Bool) : Prop := r = true
end Go.Sx.N
