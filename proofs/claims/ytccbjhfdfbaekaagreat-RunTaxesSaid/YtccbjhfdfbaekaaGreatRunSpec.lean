/-
 What the functions that pay months are to answer. Conditions: none.
-/
import Derived.Test.YtccbjhfdfbaekaaGreatArrSpec
import Derived.Test.YtccbjhfdfbaekaaGreatRunRs
import Derived.Test.YtccbjhfdfbaekaaGreatRunTs
set_option linter.unusedVariables false
set_option linter.unusedSimpArgs false
namespace Go.Sx.N
def xO (x : Int) : Prop := -1099511627776 <= x /\ x <= 1099511627776
def bU (l : Sl) (k : Nat) (d0 : Int) (i : Int) : Int := if i = 0 then d0 else l.int (i - 1) k
def mG (np : Int) (l : Sl) (i : Int) : Prop :=
 (bU l 0 (-1) i < l.int i 0 /\ bU l 4 (-1) i < l.int i 4) /\ (bU l 3 0 i <= l.int i 2 /\ l.int i 2 <= l.int i 3 /\ l.int i 3 <= np) /\ amt (l.int i 6) /\ xO (l.int i 7)
def iE (st : Int) (d p : Sl) (mo g t : Int) (l : Sl) : Prop :=
 (au st d p /\ l.len <= 1200) /\ ((0 <= mo /\ mo <= 2153) /\ amt g /\ xO t) /\ ∀ i : Int, 0 <= i -> i < l.len -> mG p.len l i
def pK (_x : Int) : Prop := True
def ni (x : Int) (r : Bool) : Prop := r = true ↔ amt x
def KE (_x : Int) : Prop := True
def EU (x : Int) (r : Bool) : Prop := r = true ↔ xO x
def zF (vF : Int) (_d _p : Sl) (N8 _g _t : Int) (_l : Sl) : Prop := True
def dh (st : Int) (d p : Sl) (mo g t : Int) (l : Sl) (r : Bool) : Prop := r = true ↔ iE st d p mo g t l
def KL (s : Sl) (n : Int) : List D := [.int (s.int n 0), .int (s.int n 1), .int (s.int n 2)]
def uP (s : Sl) (m : Int) : Nat -> List (List D)
 | 0 => []
 | n + 1 => if s.int n 0 <= m then uP s m n ++ [KL s n] else uP s m n
def KN (s t : Sl) : Prop := s.len = t.len /\ ∀ i : Int, 0 <= i -> i < s.len -> s.int i 0 = t.int i 0 /\ s.int i 1 = t.int i 1 /\ s.int i 2 = t.int i 2
def MW (s : Sl) (_m : Int) : Prop := s.len <= 1000000
def MX (s : Sl) (m : Int) (r : Sl) : Prop := KN r (Sl.lit (uP s m s.n))
def BF (st : Int) (d p : Sl) (m due : Int) : Prop := au st d p /\ 0 <= due /\ due <= 1099511627776 /\ st <= m /\ m <= st + d.len
def iW (st : Int) (d : Sl) (m : Int) : Prop := m = st + d.len /\ (1200 <= d.len \/ 2400 <= m)
def learnt (st : Int) (d p : Sl) (m due : Int) (st' : Int) (d' p' : Sl) : Prop :=
 st' = st /\ fH p' p /\ d'.len = imax d.len (m - st + 1) /\ ∀ i : Int, 0 <= i -> i < d'.len -> d'.int i 0 = if i = m - st then due else d.int i 0
def IJ (vF : Int) (_d _p : Sl) (_m alU : Int) : Prop := True
def bQ (st : Int) (d p : Sl) (m due : Int) (st' : Int) (d' p' : Sl) (e : Int) : Prop :=
 (¬ BF st d p m due -> e = 2 /\ zeroS st' d' p') /\ (BF st d p m due -> (iW st d m -> e = 5 /\ zeroS st' d' p') /\ (¬ iW st d m -> e = 0 /\ learnt st d p m due st' d' p'))
structure iY where
 st : Int
 d : Sl
 p : Sl
 mo : Int
 g : Int
 t : Int
 l : Sl
 es : Sl
 day : Int
 month : Int
 fC : Int
 num : Int
 sa : Bool
 sb : Sl
 sc : Bool
 sd : Sl
 name : ByteArray
 two : Bool
 rt : Sl
 ys : Sl
 known : Int
structure pU where
 st : Int
 d : Sl
 p : Sl
 mo : Int
 g : Int
 t : Int
 l : Sl
 m : Int
 day : Int
 a : Int
 b : Int
 num : Int
 fC : Int
 aB : Int
 iZ : Int
 net : Int
 gone : Bool
 e : Int
def pU.err (o : pU) (e : Int) : Prop := o.e = e /\ zeroS o.st o.d o.p /\ (o.mo = 0 /\ o.g = 0 /\ o.t = 0 /\ o.l.len = 0) /\ (o.m = 0 /\ o.day = 0 /\ o.a = 0 /\ o.b = 0) /\ (o.num = 0 /\ o.fC = 0 /\ o.aB = 0 /\ o.iZ = 0 /\ o.net = 0) /\ o.gone = false
namespace iY
variable (i : iY)
def us : Sl := Sl.lit (uP i.es i.month i.es.n)
def CX : Int := if 0 < i.l.len then i.l.int (i.l.len - 1) 0 else -1
def CY : Int := if 0 < i.l.len then i.l.int (i.l.len - 1) 4 else -1
def qV : Prop := (1 <= i.fC /\ i.fC <= 1099511627776 /\ i.CY < i.num) /\ (i.st <= i.month /\ i.month <= 2153 /\ i.CX < i.month) /\ i.us.len = i.month - i.st + 1 /\ ∀ k : Int, 0 <= k -> k < i.us.len -> i.us.int k 0 = i.st + k
def yG : Prop := ∀ k : Int, 0 <= k -> k < i.us.len -> i.us.int k 2 = 0 /\ amt (i.us.int k 1)
def chk (c : Int) : Prop := (¬ i.qV -> c = 2) /\ (i.qV -> 1200 <= i.l.len -> c = 5) /\ (i.qV -> i.l.len < 1200 -> ¬ i.yG -> c = 350) /\ (i.qV -> i.l.len < 1200 -> i.yG -> c = 0)
def learned (n : Int) (d1 p1 : Sl) : Prop := fH p1 i.p /\ d1.len = imax i.d.len n /\ (∀ k : Int, 0 <= k -> k < n -> d1.int k 0 = i.us.int k 1) /\ ∀ k : Int, n <= k -> k < i.d.len -> d1.int k 0 = i.d.int k 0
def mJ (p4 : Sl) : Int := sumTo (fun j => p4.int (i.p.len + j) 3) (p4.len - i.p.len).toNat
def result (d4 p4 : Sl) (aB iZ mo g t : Int) (o : pU) : Prop :=
 (o.e = 0 /\ o.st = i.st /\ yH o.d d4 /\ fH o.p p4) /\ (o.mo = mo /\ o.g = g /\ o.t = t) /\ (o.m = i.month /\ o.day = i.day /\ o.a = i.p.len /\ o.b = p4.len) /\ (o.num = i.num /\ o.fC = i.fC /\ o.aB = aB /\ o.iZ = iZ /\ o.net = aB - iZ) /\ o.gone = false /\
 o.l = Sl.app (Sl.app Sl.nil i.l) (Sl.lit [[.int i.month, .int i.day, .int i.p.len, .int p4.len, .int i.num, .int i.fC, .int aB, .int iZ, .int (aB - iZ), .bool (decide False)]])
def fin (d4 p4 : Sl) (o : pU) : Prop := (i.mJ p4 < 0 -> o.err 351) /\ (1099511627776 < i.mJ p4 -> o.err 3) /\
 (amt (i.mJ p4) -> ∃ r mo g t e, held i.ys i.mo i.g i.t i.month (i.mJ p4) r mo g t e /\ (e ≠ 0 -> o.err e) /\ (e = 0 -> (1099511627776 < r -> o.err 3) /\ (r <= 1099511627776 -> i.result d4 p4 (i.mJ p4) r mo g t o)))
def recover (d3 p3 : Sl) (o : pU) : Prop := ∃ st4 d4 p4 e, yM i.st d3 p3 i.day i.month i.sa i.sb i.sc i.sd st4 d4 p4 e /\ (e ≠ 0 -> o.err e) /\ (e = 0 -> i.fin d4 p4 o)
def due (d2 p2 : Sl) (o : pU) : Prop := ∃ n e, qR i.st d2 p2 i.month n e /\ (e ≠ 0 -> o.err e) /\ (e = 0 -> (n <= 0 -> i.recover d2 p2 o) /\ (1099511627776 < n -> o.err 3) /\
 (0 < n -> n <= 1099511627776 -> ∃ st3 d3 p3 e3, aY i.st d2 p2 (Sl.lit [[.int i.day, .int i.month, .int 1, .int n]]) st3 d3 p3 e3 /\ (e3 ≠ 0 -> o.err e3) /\ (e3 = 0 -> i.recover d3 p3 o)))
def settle (d1 p1 : Sl) (o : pU) : Prop := ∃ st2 d2 p2 e, vT i.st d1 p1 i.day i.month i.name i.two i.rt i.known st2 d2 p2 e /\ (e ≠ 0 -> o.err e) /\ (e = 0 -> i.due d2 p2 o)
def pay (o : pU) : Prop := (¬ iE i.st i.d i.p i.mo i.g i.t i.l -> o.err 2) /\ (iE i.st i.d i.p i.mo i.g i.t i.l -> ∃ c, i.chk c /\ (c ≠ 0 -> o.err c) /\
 (c = 0 -> (1200 < i.us.len -> o.err 5) /\ (i.us.len <= 1200 -> ∃ d1 p1, i.learned i.us.len d1 p1 /\ i.settle d1 p1 o)))
end iY
def CU (vF : Int) (_d _p : Sl) (N8 _g _t : Int) (_l es : Sl) (CZ EW PO Rq : Int) (_sa : Bool) (_sb : Sl) (_sc : Bool) (_sd : Sl) (name : ByteArray) (zH : Bool) (_rt _ys : Sl) (wX : Int) : Prop := EX name /\ es.len <= 1000000
def lX (st : Int) (d p : Sl) (mo g t : Int) (l es : Sl) (day month fC num : Int) (sa : Bool) (sb : Sl) (sc : Bool) (sd : Sl) (name : ByteArray) (two : Bool) (rt ys : Sl) (known : Int)
 (st' : Int) (d' p' : Sl) (jc g' t' : Int) (l' : Sl) (m' EY a' b' num' Xj ag9 ajz ajA : Int) (aiC : Bool) (e' : Int) : Prop :=
 iY.pay ⟨st, d, p, mo, g, t, l, es, day, month, fC, num, sa, sb, sc, sd, name, two, rt, ys, known⟩ ⟨st', d', p', jc, g', t', l', m', EY, a', b', num', Xj, ag9, ajz, ajA, aiC, e'⟩
def aiD (l : Sl) : Int := sumTo (fun i => if l.bool i 9 = true then 0 else l.int i 6) l.n
def Zz (vF : Int) (_d _p : Sl) (N8 _g _t : Int) (_l : Sl) : Prop := True
def Ri (st : Int) (d p : Sl) (mo g t : Int) (l : Sl) (r e : Int) : Prop := (¬ iE st d p mo g t l -> r = 0 /\ e = 2) /\ (iE st d p mo g t l -> r = aiD l /\ e = 0)
def iF (p : Sl) (day k : Int) : List (List D) :=
 if p.int k 2 = 1 \/ p.int k 2 = 2 then [[.int day, .int (p.int k 1), .int 5, .int (0 - p.int k 3)]] else if p.int k 2 = 4 then [[.int day, .int (p.int k 1), .int 6, .int (0 - p.int k 3)]] else []
def oQ (p : Sl) (day lo : Int) : Nat -> List (List D)
 | 0 => []
 | n + 1 => oQ p day lo n ++ iF p day (lo + n)
def Bq (p : Sl) (CZ : Int) : Prop := p.len <= 4000 /\ ∀ i : Int, 0 <= i -> i < p.len -> xO (p.int i 3)
def KF (p : Sl) (day : Int) (r : Sl) : Prop := r = Sl.lit (oQ p day 0 p.n)
def aha (x : Int) : Int := imin (imax x (-1099511627776)) 1099511627776
def oH (l : Sl) (num i : Int) : Prop := 0 <= i /\ i < l.len /\ l.int i 4 = num /\ ¬ l.bool i 9 = true
def ahb (l : Sl) (num : Int) : Prop := ∀ i, ¬ oH l num i
def ahc (a : Sl) (i : Int) (b : Sl) (k : Int) : Prop := (a.int i 0 = b.int k 0 /\ a.int i 1 = b.int k 1 /\ a.int i 2 = b.int k 2 /\ a.int i 3 = b.int k 3) /\ (a.int i 4 = b.int k 4 /\ a.int i 5 = b.int k 5 /\ a.int i 6 = b.int k 6 /\ a.int i 7 = b.int k 7 /\ a.int i 8 = b.int k 8)
def ahd (l' l : Sl) (n : Int) : Prop := l'.len = l.len /\ ∀ i : Int, 0 <= i -> i < l.len -> ahc l' i l i /\ (l'.bool i 9 = true ↔ i = n \/ l.bool i 9 = true)
def PS (st : Int) (d p : Sl) (mo g t : Int) (l : Sl) : Prop := zeroS st d p /\ mo = 0 /\ g = 0 /\ t = 0 /\ l.len = 0
def U5 (mo g t : Int) (l : Sl) (n jc g' t' : Int) : Prop := jc = mo /\ (mo / 12 = l.int n 0 / 12 -> g' = imax (g - l.int n 6) 0 /\ t' = aha (t - l.int n 7)) /\ (¬ mo / 12 = l.int n 0 / 12 -> g' = g /\ t' = t)
def IQ (vF : Int) (_d _p : Sl) (N8 _g _t : Int) (_l : Sl) (Rq CZ : Int) : Prop := True
def kH (st : Int) (d p : Sl) (mo g t : Int) (l : Sl) (num day : Int) (st' : Int) (d' p' : Sl) (jc g' t' : Int) (l' : Sl) (e : Int) : Prop :=
 (¬ iE st d p mo g t l -> e = 2 /\ PS st' d' p' jc g' t' l') /\ (iE st d p mo g t l -> (ahb l num -> e = 6 /\ PS st' d' p' jc g' t' l') /\
  ∀ n, oH l num n -> ∃ st1 d1 p1 e1, aY st d p (Sl.lit (oQ p day (l.int n 2) (l.int n 3 - l.int n 2).toNat)) st1 d1 p1 e1 /\ (e1 ≠ 0 -> e = e1 /\ PS st' d' p' jc g' t' l') /\
   (e1 = 0 -> e = 0 /\ st' = st /\ yH d' d1 /\ fH p' p1 /\ ahd l' l n /\ U5 mo g t l n jc g' t'))
def yN (_n _d : Int) : Prop := True
def oO (n d : Int) (a : Bool) (b : Sl) (c : Bool) (e : Sl) : Prop := tq n d a b c e
def lC (f : Int) (l : Sl) : Prop := (0 <= f /\ f <= 100000) /\ l.len <= 100000
def dO (f : Int) (l r : Sl) : Prop := r.len = l.len /\ ∀ i : Int, 0 <= i -> i < l.len -> r.int i 0 = f + i /\ r.int i 1 = l.int i 0 /\ r.int i 2 = 0
def PU (x : Int) (l : Sl) : Prop := l.len = 1 /\ l.int 0 0 = 0 /\ aW (nT x 100) (l.bool 0 1) (l.sub 0 2) (l.bool 0 3) (l.sub 0 4) /\ (l.sub 0 2).len <= 4 /\ (l.sub 0 4).len <= 4
def Am (x : Int) (y : Sl) : Prop := y.len = 1 /\ y.int 0 0 = 1900 /\ PU x (y.sub 0 1)
def wW (_x : Int) : Prop := True
def tC (x : Int) (y : Sl) : Prop := Am x y
def wI (n : ByteArray) (two : Bool) (s : Sl) : Prop := n = bytes [114] /\ two = false /\ s.len = 1 /\ ahe s 0 0 0 0
def rY (_n : Int) (_a : Bool) (_b : Sl) (_c : Bool) (_d : Sl) : Prop := True
def iQ (n : Int) (a : Bool) (b : Sl) (c : Bool) (d : Sl) (fC num : Int) (a' : Bool) (b' : Sl) (c' : Bool) (d' : Sl) (name : ByteArray) (two : Bool) (rt ys : Sl) (known : Int) : Prop :=
 fC = 7 /\ num = n /\ (a' = a /\ b' = b /\ c' = c /\ d' = d) /\ wI name two rt /\ Am 0 ys /\ known = 0
def IU : Prop := True
def jO (r : Bool) : Prop := r = true
def zG (_a : Bool) (_b : Sl) (_c : Bool) (_d : Sl) : Prop := True
def vU (_a : Bool) (_b : Sl) (_c : Bool) (_d : Sl) (_r : Bool) : Prop := True
def ZA (vF : Int) (_d _p : Sl) (N8 _g _t : Int) (_l _es : Sl) (EW PO Rq : Int) (_sa : Bool) (_sb : Sl) (_sc : Bool) (_sd : Sl) (_name : ByteArray) (zH : Bool) (_rt _ys : Sl) (wX : Int) : Prop := True
def jB (vF : Int) (_d _p : Sl) (N8 _g _t : Int) (_l es : Sl) (EW PO Rq : Int) (_sa : Bool) (_sb : Sl) (_sc : Bool) (_sd : Sl) (_name : ByteArray) (zH : Bool) (_rt _ys : Sl) (wX : Int) (r : Bool) : Prop := r = true -> es.len <= 20
def ae1 (vF : Int) (_d _p : Sl) (N8 _g _t : Int) (_l _es : Sl) (CZ EW PO Rq : Int) (_sa : Bool) (_sb : Sl) (_sc : Bool) (_sd : Sl) (name : ByteArray) (zH : Bool) (_rt _ys : Sl) (wX aiE : Int) : Prop := EX name
def ae2 (vF : Int) (_d _p : Sl) (N8 _g _t : Int) (_l _es : Sl) (CZ EW PO Rq : Int) (_sa : Bool) (_sb : Sl) (_sc : Bool) (_sd : Sl) (_name : ByteArray) (zH : Bool) (_rt _ys : Sl) (wX aiE : Int) (r : Bool) : Prop := r = true
def Rj (_y _l0 _l1 _l2 _l3 _l4 _l5 _l6 _l7 _l8 _l9 ajB ajC _r : Int) : Prop := True
def vV (_y _l0 _l1 _l2 _l3 _l4 _l5 _l6 _l7 _l8 _l9 ajB ajC _r : Int) (b : Bool) : Prop := b = true
def ae3 (_f _a _b _c : Int) : Prop := True
def ae4 (_f _a _b _c : Int) (r : Bool) : Prop := r = true
end Go.Sx.N
