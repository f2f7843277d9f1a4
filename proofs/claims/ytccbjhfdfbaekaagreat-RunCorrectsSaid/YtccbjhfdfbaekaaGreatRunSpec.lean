/-
 What the functions that pay months are to answer. Conditions: none.
-/
import Derived.Test.YtccbjhfdfbaekaaGreatArrSpec
import Derived.Test.YtccbjhfdfbaekaaGreatRunRs
import Derived.Test.YtccbjhfdfbaekaaGreatRunTs
set_option linter.unusedVariables false
set_option linter.unusedSimpArgs false
namespace Go.Sx.N
def Dk (x : Int) : Prop := -1099511627776 <= x /\ x <= 1099511627776
def eP (l : Sl) (k : Nat) (d0 : Int) (i : Int) : Int := if i = 0 then d0 else l.int (i - 1) k
def qY (np : Int) (l : Sl) (i : Int) : Prop :=
 (eP l 0 (-1) i < l.int i 0 /\ eP l 4 (-1) i < l.int i 4) /\ (eP l 3 0 i <= l.int i 2 /\ l.int i 2 <= l.int i 3 /\ l.int i 3 <= np) /\ amt (l.int i 6) /\ Dk (l.int i 7)
def jq (st : Int) (d p : Sl) (mo g t : Int) (l : Sl) : Prop :=
 (aJ st d p /\ l.len <= 1200) /\ ((0 <= mo /\ mo <= 2153) /\ amt g /\ Dk t) /\ ∀ i : Int, 0 <= i -> i < l.len -> qY p.len l i
def vC (_x : Int) : Prop := True
def rV (x : Int) (r : Bool) : Prop := r = true ↔ amt x
def Td (_x : Int) : Prop := True
def ML (x : Int) (r : Bool) : Prop := r = true ↔ Dk x
def Fg (Ah : Int) (_d _p : Sl) (Wv _g _t : Int) (_l : Sl) : Prop := True
def fP (st : Int) (d p : Sl) (mo g t : Int) (l : Sl) (r : Bool) : Prop := r = true ↔ jq st d p mo g t l
def Tt (s : Sl) (n : Int) : List D := [.int (s.int n 0), .int (s.int n 1), .int (s.int n 2)]
def zS (s : Sl) (m : Int) : Nat -> List (List D)
 | 0 => []
 | n + 1 => if s.int n 0 <= m then zS s m n ++ [Tt s n] else zS s m n
def Tv (s t : Sl) : Prop := s.len = t.len /\ ∀ i : Int, 0 <= i -> i < s.len -> s.int i 0 = t.int i 0 /\ s.int i 1 = t.int i 1 /\ s.int i 2 = t.int i 2
def Vk (s : Sl) (_m : Int) : Prop := s.len <= 1000000
def Vl (s : Sl) (m : Int) (r : Sl) : Prop := Tv r (Sl.lit (zS s m s.n))
def Ig (st : Int) (d p : Sl) (m due : Int) : Prop := aJ st d p /\ 0 <= due /\ due <= 1099511627776 /\ st <= m /\ m <= st + d.len
def kZ (st : Int) (d : Sl) (m : Int) : Prop := m = st + d.len /\ (1200 <= d.len \/ 2400 <= m)
def learnt (st : Int) (d p : Sl) (m due : Int) (st' : Int) (d' p' : Sl) : Prop :=
 st' = st /\ jg p' p /\ d'.len = imax d.len (m - st + 1) /\ ∀ i : Int, 0 <= i -> i < d'.len -> d'.int i 0 = if i = m - st then due else d.int i 0
def Qu (Ah : Int) (_d _p : Sl) (_m asV : Int) : Prop := True
def eG (st : Int) (d p : Sl) (m due : Int) (st' : Int) (d' p' : Sl) (e : Int) : Prop :=
 (¬ Ig st d p m due -> e = 2 /\ zeroS st' d' p') /\ (Ig st d p m due -> (kZ st d m -> e = 5 /\ zeroS st' d' p') /\ (¬ kZ st d m -> e = 0 /\ learnt st d p m due st' d' p'))
structure jR where
 st : Int
 d : Sl
 p : Sl
 mo : Int
 g : Int
 t : Int
 l : Sl
 es : Sl
 day : Int
 month : Int
 iE : Int
 num : Int
 sa : Bool
 sb : Sl
 sc : Bool
 sd : Sl
 name : ByteArray
 two : Bool
 rt : Sl
 ys : Sl
 known : Int
structure qH where
 st : Int
 d : Sl
 p : Sl
 mo : Int
 g : Int
 t : Int
 l : Sl
 m : Int
 day : Int
 a : Int
 b : Int
 num : Int
 iE : Int
 aO : Int
 nD : Int
 net : Int
 gone : Bool
 e : Int
def qH.err (o : qH) (e : Int) : Prop := o.e = e /\ zeroS o.st o.d o.p /\ (o.mo = 0 /\ o.g = 0 /\ o.t = 0 /\ o.l.len = 0) /\ (o.m = 0 /\ o.day = 0 /\ o.a = 0 /\ o.b = 0) /\ (o.num = 0 /\ o.iE = 0 /\ o.aO = 0 /\ o.nD = 0 /\ o.net = 0) /\ o.gone = false
namespace jR
variable (i : jR)
def us : Sl := Sl.lit (zS i.es i.month i.es.n)
def Jm : Int := if 0 < i.l.len then i.l.int (i.l.len - 1) 0 else -1
def Jo : Int := if 0 < i.l.len then i.l.int (i.l.len - 1) 4 else -1
def qZ : Prop := (1 <= i.iE /\ i.iE <= 1099511627776 /\ i.Jo < i.num) /\ (i.st <= i.month /\ i.month <= 2153 /\ i.Jm < i.month) /\ i.us.len = i.month - i.st + 1 /\ ∀ k : Int, 0 <= k -> k < i.us.len -> i.us.int k 0 = i.st + k
def D7 : Prop := ∀ k : Int, 0 <= k -> k < i.us.len -> i.us.int k 2 = 0 /\ amt (i.us.int k 1)
def chk (c : Int) : Prop := (¬ i.qZ -> c = 2) /\ (i.qZ -> 1200 <= i.l.len -> c = 5) /\ (i.qZ -> i.l.len < 1200 -> ¬ i.D7 -> c = 350) /\ (i.qZ -> i.l.len < 1200 -> i.D7 -> c = 0)
def learned (n : Int) (d1 p1 : Sl) : Prop := jg p1 i.p /\ d1.len = imax i.d.len n /\ (∀ k : Int, 0 <= k -> k < n -> d1.int k 0 = i.us.int k 1) /\ ∀ k : Int, n <= k -> k < i.d.len -> d1.int k 0 = i.d.int k 0
def nG (p4 : Sl) : Int := sumTo (fun j => p4.int (i.p.len + j) 3) (p4.len - i.p.len).toNat
def result (d4 p4 : Sl) (aO nD mo g t : Int) (o : qH) : Prop :=
 (o.e = 0 /\ o.st = i.st /\ D8 o.d d4 /\ jg o.p p4) /\ (o.mo = mo /\ o.g = g /\ o.t = t) /\ (o.m = i.month /\ o.day = i.day /\ o.a = i.p.len /\ o.b = p4.len) /\ (o.num = i.num /\ o.iE = i.iE /\ o.aO = aO /\ o.nD = nD /\ o.net = aO - nD) /\ o.gone = false /\
 o.l = Sl.app (Sl.app Sl.nil i.l) (Sl.lit [[.int i.month, .int i.day, .int i.p.len, .int p4.len, .int i.num, .int i.iE, .int aO, .int nD, .int (aO - nD), .bool (decide False)]])
def fin (d4 p4 : Sl) (o : qH) : Prop := (i.nG p4 < 0 -> o.err 351) /\ (1099511627776 < i.nG p4 -> o.err 3) /\
 (amt (i.nG p4) -> ∃ r mo g t e, held i.ys i.mo i.g i.t i.month (i.nG p4) r mo g t e /\ (e ≠ 0 -> o.err e) /\ (e = 0 -> (1099511627776 < r -> o.err 3) /\ (r <= 1099511627776 -> i.result d4 p4 (i.nG p4) r mo g t o)))
def recover (d3 p3 : Sl) (o : qH) : Prop := ∃ st4 d4 p4 e, Ej i.st d3 p3 i.day i.month i.sa i.sb i.sc i.sd st4 d4 p4 e /\ (e ≠ 0 -> o.err e) /\ (e = 0 -> i.fin d4 p4 o)
def due (d2 p2 : Sl) (o : qH) : Prop := ∃ n e, wY i.st d2 p2 i.month n e /\ (e ≠ 0 -> o.err e) /\ (e = 0 -> (n <= 0 -> i.recover d2 p2 o) /\ (1099511627776 < n -> o.err 3) /\
 (0 < n -> n <= 1099511627776 -> ∃ fK d3 p3 e3, bZ i.st d2 p2 (Sl.lit [[.int i.day, .int i.month, .int 1, .int n]]) fK d3 p3 e3 /\ (e3 ≠ 0 -> o.err e3) /\ (e3 = 0 -> i.recover d3 p3 o)))
def settle (d1 p1 : Sl) (o : qH) : Prop := ∃ st2 d2 p2 e, AV i.st d1 p1 i.day i.month i.name i.two i.rt i.known st2 d2 p2 e /\ (e ≠ 0 -> o.err e) /\ (e = 0 -> i.due d2 p2 o)
def pay (o : qH) : Prop := (¬ jq i.st i.d i.p i.mo i.g i.t i.l -> o.err 2) /\ (jq i.st i.d i.p i.mo i.g i.t i.l -> ∃ c, i.chk c /\ (c ≠ 0 -> o.err c) /\
 (c = 0 -> (1200 < i.us.len -> o.err 5) /\ (i.us.len <= 1200 -> ∃ d1 p1, i.learned i.us.len d1 p1 /\ i.settle d1 p1 o)))
end jR
def xK (Ah : Int) (_d _p : Sl) (Wv _g _t : Int) (_l es : Sl) (Jq MP X6 ZN : Int) (_sa : Bool) (_sb : Sl) (_sc : Bool) (_sd : Sl) (name : ByteArray) (Fj : Bool) (_rt _ys : Sl) (CG : Int) : Prop := Ih name /\ es.len <= 1000000
def mF (st : Int) (d p : Sl) (mo g t : Int) (l es : Sl) (day month iE num : Int) (sa : Bool) (sb : Sl) (sc : Bool) (sd : Sl) (name : ByteArray) (two : Bool) (rt ys : Sl) (known : Int)
 (st' : Int) (d' p' : Sl) (lg g' t' : Int) (l' : Sl) (m' MQ a' b' num' adZ anS aqs aqt : Int) (apl : Bool) (e' : Int) : Prop :=
 jR.pay ⟨st, d, p, mo, g, t, l, es, day, month, iE, num, sa, sb, sc, sd, name, two, rt, ys, known⟩ ⟨st', d', p', lg, g', t', l', m', MQ, a', b', num', adZ, anS, aqs, aqt, apl, e'⟩
def apm (l : Sl) : Int := sumTo (fun i => if l.bool i 9 = true then 0 else l.int i 6) l.n
def ZH (Ah : Int) (_d _p : Sl) (Wv _g _t : Int) (_l : Sl) : Prop := True
def MN (st : Int) (d p : Sl) (mo g t : Int) (l : Sl) (r e : Int) : Prop := (¬ jq st d p mo g t l -> r = 0 /\ e = 2) /\ (jq st d p mo g t l -> r = apm l /\ e = 0)
def kH (p : Sl) (day k : Int) : List (List D) :=
 if p.int k 2 = 1 \/ p.int k 2 = 2 then [[.int day, .int (p.int k 1), .int 5, .int (0 - p.int k 3)]] else if p.int k 2 = 4 then [[.int day, .int (p.int k 1), .int 6, .int (0 - p.int k 3)]] else []
def uy (p : Sl) (day lo : Int) : Nat -> List (List D)
 | 0 => []
 | n + 1 => uy p day lo n ++ kH p day (lo + n)
def H8 (p : Sl) (Jq : Int) : Prop := p.len <= 4000 /\ ∀ i : Int, 0 <= i -> i < p.len -> Dk (p.int i 3)
def Tf (p : Sl) (day : Int) (r : Sl) : Prop := r = Sl.lit (uy p day 0 p.n)
def anT (x : Int) : Int := bH (imax x (-1099511627776)) 1099511627776
def tN (l : Sl) (num i : Int) : Prop := 0 <= i /\ i < l.len /\ l.int i 4 = num /\ ¬ l.bool i 9 = true
def anU (l : Sl) (num : Int) : Prop := ∀ i, ¬ tN l num i
def anV (a : Sl) (i : Int) (b : Sl) (k : Int) : Prop := (a.int i 0 = b.int k 0 /\ a.int i 1 = b.int k 1 /\ a.int i 2 = b.int k 2 /\ a.int i 3 = b.int k 3) /\ (a.int i 4 = b.int k 4 /\ a.int i 5 = b.int k 5 /\ a.int i 6 = b.int k 6 /\ a.int i 7 = b.int k 7 /\ a.int i 8 = b.int k 8)
def anW (l' l : Sl) (n : Int) : Prop := l'.len = l.len /\ ∀ i : Int, 0 <= i -> i < l.len -> anV l' i l i /\ (l'.bool i 9 = true ↔ i = n \/ l.bool i 9 = true)
def X7 (st : Int) (d p : Sl) (mo g t : Int) (l : Sl) : Prop := zeroS st d p /\ mo = 0 /\ g = 0 /\ t = 0 /\ l.len = 0
def abX (mo g t : Int) (l : Sl) (n lg g' t' : Int) : Prop := lg = mo /\ (mo / 12 = l.int n 0 / 12 -> g' = imax (g - l.int n 6) 0 /\ t' = anT (t - l.int n 7)) /\ (¬ mo / 12 = l.int n 0 / 12 -> g' = g /\ t' = t)
def Qx (Ah : Int) (_d _p : Sl) (Wv _g _t : Int) (_l : Sl) (ZN Jq : Int) : Prop := True
def oV (st : Int) (d p : Sl) (mo g t : Int) (l : Sl) (num day : Int) (st' : Int) (d' p' : Sl) (lg g' t' : Int) (l' : Sl) (e : Int) : Prop :=
 (¬ jq st d p mo g t l -> e = 2 /\ X7 st' d' p' lg g' t' l') /\ (jq st d p mo g t l -> (anU l num -> e = 6 /\ X7 st' d' p' lg g' t' l') /\
  ∀ n, tN l num n -> ∃ st1 d1 p1 e1, bZ st d p (Sl.lit (uy p day (l.int n 2) (l.int n 3 - l.int n 2).toNat)) st1 d1 p1 e1 /\ (e1 ≠ 0 -> e = e1 /\ X7 st' d' p' lg g' t' l') /\
   (e1 = 0 -> e = 0 /\ st' = st /\ D8 d' d1 /\ jg p' p1 /\ anW l' l n /\ abX mo g t l n lg g' t'))
def AX (_n _d : Int) : Prop := True
def pq (n d : Int) (a : Bool) (b : Sl) (c : Bool) (e : Sl) : Prop := yN n d a b c e
def mG (f : Int) (l : Sl) : Prop := (0 <= f /\ f <= 100000) /\ l.len <= 100000
def fA (f : Int) (l r : Sl) : Prop := r.len = l.len /\ ∀ i : Int, 0 <= i -> i < l.len -> r.int i 0 = f + i /\ r.int i 1 = l.int i 0 /\ r.int i 2 = 0
def X8 (x : Int) (l : Sl) : Prop := l.len = 1 /\ l.int 0 0 = 0 /\ bV (sQ x 100) (l.bool 0 1) (l.sub 0 2) (l.bool 0 3) (l.sub 0 4) /\ (l.sub 0 2).len <= 4 /\ (l.sub 0 4).len <= 4
def Jr (x : Int) (y : Sl) : Prop := y.len = 1 /\ y.int 0 0 = 1900 /\ X8 x (y.sub 0 1)
def Gl (_x : Int) : Prop := True
def CB (x : Int) (y : Sl) : Prop := Jr x y
def BG (n : ByteArray) (two : Bool) (s : Sl) : Prop := n = bytes [114] /\ two = false /\ s.len = 1 /\ anX s 0 0 0 0
def vF (_n : Int) (_a : Bool) (_b : Sl) (_c : Bool) (_d : Sl) : Prop := True
def jC (n : Int) (a : Bool) (b : Sl) (c : Bool) (d : Sl) (iE num : Int) (a' : Bool) (b' : Sl) (c' : Bool) (d' : Sl) (name : ByteArray) (two : Bool) (rt ys : Sl) (known : Int) : Prop :=
 iE = 7 /\ num = n /\ (a' = a /\ b' = b /\ c' = c /\ d' = d) /\ BG name two rt /\ Jr 0 ys /\ known = 0
def Jj : Prop := True
def lY (r : Bool) : Prop := r = true
def Fh (_a : Bool) (_b : Sl) (_c : Bool) (_d : Sl) : Prop := True
def AY (_a : Bool) (_b : Sl) (_c : Bool) (_d : Sl) (_r : Bool) : Prop := True
def ZI (Ah : Int) (_d _p : Sl) (Wv _g _t : Int) (_l _es : Sl) (MP X6 ZN : Int) (_sa : Bool) (_sb : Sl) (_sc : Bool) (_sd : Sl) (_name : ByteArray) (Fj : Bool) (_rt _ys : Sl) (CG : Int) : Prop := True
def lK (Ah : Int) (_d _p : Sl) (Wv _g _t : Int) (_l es : Sl) (MP X6 ZN : Int) (_sa : Bool) (_sb : Sl) (_sc : Bool) (_sd : Sl) (_name : ByteArray) (Fj : Bool) (_rt _ys : Sl) (CG : Int) (r : Bool) : Prop := r = true -> es.len <= 20
def abS (Ah : Int) (_d _p : Sl) (Wv _g _t : Int) (_l _es : Sl) (Jq MP X6 ZN : Int) (_sa : Bool) (_sb : Sl) (_sc : Bool) (_sd : Sl) (name : ByteArray) (Fj : Bool) (_rt _ys : Sl) (CG apn : Int) : Prop := Ih name
def H9 (Ah : Int) (_d _p : Sl) (Wv _g _t : Int) (_l _es : Sl) (Jq MP X6 ZN : Int) (_sa : Bool) (_sb : Sl) (_sc : Bool) (_sd : Sl) (_name : ByteArray) (Fj : Bool) (_rt _ys : Sl) (CG apn : Int) (r : Bool) : Prop := r = true
def aiT (_y _l0 _l1 _l2 _l3 _l4 _l5 _l6 _l7 _l8 _l9 aqu aqv _r : Int) : Prop := True
def aiU (_y _l0 _l1 _l2 _l3 _l4 _l5 _l6 _l7 _l8 _l9 aqu aqv _r : Int) (b : Bool) : Prop := b = true
def abT (_f _a _b _c : Int) : Prop := True
def wB (_f _a _b _c : Int) (r : Bool) : Prop := r = true
end Go.Sx.N
