/-
 What the functions that pay months are to answer. Conditions: none.
-/
import Derived.Test.YtccbjhfdfbaekaaGreatArrSpec
import Derived.Test.YtccbjhfdfbaekaaGreatRunRs
import Derived.Test.YtccbjhfdfbaekaaGreatRunTs
set_option linter.unusedVariables false
set_option linter.unusedSimpArgs false
namespace Go.Sx.N
def xP (x : Int) : Prop := -1099511627776 <= x /\ x <= 1099511627776
def bI (l : Sl) (k : Nat) (d0 : Int) (i : Int) : Int := if i = 0 then d0 else l.int (i - 1) k
def gY (np : Int) (l : Sl) (i : Int) : Prop :=
 (bI l 0 (-1) i < l.int i 0 /\ bI l 4 (-1) i < l.int i 4) /\ (bI l 3 0 i <= l.int i 2 /\ l.int i 2 <= l.int i 3 /\ l.int i 3 <= np) /\ amt (l.int i 6) /\ xP (l.int i 7)
def dU (st : Int) (d p : Sl) (mo g t : Int) (l : Sl) : Prop :=
 (au st d p /\ l.len <= 1200) /\ ((0 <= mo /\ mo <= 2153) /\ amt g /\ xP t) /\ ∀ i : Int, 0 <= i -> i < l.len -> gY p.len l i
def pW (_x : Int) : Prop := True
def nM (x : Int) (r : Bool) : Prop := r = true ↔ amt x
def Lj (_x : Int) : Prop := True
def Fp (x : Int) (r : Bool) : Prop := r = true ↔ xP x
def zN (nN : Int) (_d _p : Sl) (yt _g _t : Int) (_l : Sl) : Prop := True
def cZ (st : Int) (d p : Sl) (mo g t : Int) (l : Sl) (r : Bool) : Prop := r = true ↔ dU st d p mo g t l
def LD (s : Sl) (n : Int) : List D := [.int (s.int n 0), .int (s.int n 1), .int (s.int n 2)]
def uN (s : Sl) (m : Int) : Nat -> List (List D)
 | 0 => []
 | n + 1 => if s.int n 0 <= m then uN s m n ++ [LD s n] else uN s m n
def LG (s t : Sl) : Prop := s.len = t.len /\ ∀ i : Int, 0 <= i -> i < s.len -> s.int i 0 = t.int i 0 /\ s.int i 1 = t.int i 1 /\ s.int i 2 = t.int i 2
def NS (s : Sl) (_m : Int) : Prop := s.len <= 1000000
def NT (s : Sl) (m : Int) (r : Sl) : Prop := LG r (Sl.lit (uN s m s.n))
def BO (st : Int) (d p : Sl) (m due : Int) : Prop := au st d p /\ 0 <= due /\ due <= 1099511627776 /\ st <= m /\ m <= st + d.len
def jh (st : Int) (d : Sl) (m : Int) : Prop := m = st + d.len /\ (1200 <= d.len \/ 2400 <= m)
def learnt (st : Int) (d p : Sl) (m due : Int) (st' : Int) (d' p' : Sl) : Prop :=
 st' = st /\ dY p' p /\ d'.len = imax d.len (m - st + 1) /\ ∀ i : Int, 0 <= i -> i < d'.len -> d'.int i 0 = if i = m - st then due else d.int i 0
def Ji (nN : Int) (_d _p : Sl) (_m amS : Int) : Prop := True
def bV (st : Int) (d p : Sl) (m due : Int) (st' : Int) (d' p' : Sl) (e : Int) : Prop :=
 (¬ BO st d p m due -> e = 2 /\ zeroS st' d' p') /\ (BO st d p m due -> (jh st d m -> e = 5 /\ zeroS st' d' p') /\ (¬ jh st d m -> e = 0 /\ learnt st d p m due st' d' p'))
structure jr where
 st : Int
 d : Sl
 p : Sl
 mo : Int
 g : Int
 t : Int
 l : Sl
 es : Sl
 day : Int
 month : Int
 fJ : Int
 num : Int
 sa : Bool
 sb : Sl
 sc : Bool
 sd : Sl
 name : ByteArray
 two : Bool
 rt : Sl
 ys : Sl
 known : Int
structure qQ where
 st : Int
 d : Sl
 p : Sl
 mo : Int
 g : Int
 t : Int
 l : Sl
 m : Int
 day : Int
 a : Int
 b : Int
 num : Int
 fJ : Int
 aF : Int
 kC : Int
 net : Int
 gone : Bool
 e : Int
def qQ.err (o : qQ) (e : Int) : Prop := o.e = e /\ zeroS o.st o.d o.p /\ (o.mo = 0 /\ o.g = 0 /\ o.t = 0 /\ o.l.len = 0) /\ (o.m = 0 /\ o.day = 0 /\ o.a = 0 /\ o.b = 0) /\ (o.num = 0 /\ o.fJ = 0 /\ o.aF = 0 /\ o.kC = 0 /\ o.net = 0) /\ o.gone = false
namespace jr
variable (i : jr)
def us : Sl := Sl.lit (uN i.es i.month i.es.n)
def Dn : Int := if 0 < i.l.len then i.l.int (i.l.len - 1) 0 else -1
def Dp : Int := if 0 < i.l.len then i.l.int (i.l.len - 1) 4 else -1
def rC : Prop := (1 <= i.fJ /\ i.fJ <= 1099511627776 /\ i.Dp < i.num) /\ (i.st <= i.month /\ i.month <= 2153 /\ i.Dn < i.month) /\ i.us.len = i.month - i.st + 1 /\ ∀ k : Int, 0 <= k -> k < i.us.len -> i.us.int k 0 = i.st + k
def yL : Prop := ∀ k : Int, 0 <= k -> k < i.us.len -> i.us.int k 2 = 0 /\ amt (i.us.int k 1)
def chk (c : Int) : Prop := (¬ i.rC -> c = 2) /\ (i.rC -> 1200 <= i.l.len -> c = 5) /\ (i.rC -> i.l.len < 1200 -> ¬ i.yL -> c = 350) /\ (i.rC -> i.l.len < 1200 -> i.yL -> c = 0)
def learned (n : Int) (d1 p1 : Sl) : Prop := dY p1 i.p /\ d1.len = imax i.d.len n /\ (∀ k : Int, 0 <= k -> k < n -> d1.int k 0 = i.us.int k 1) /\ ∀ k : Int, n <= k -> k < i.d.len -> d1.int k 0 = i.d.int k 0
def mZ (p4 : Sl) : Int := sumTo (fun j => p4.int (i.p.len + j) 3) (p4.len - i.p.len).toNat
def result (d4 p4 : Sl) (aF kC mo g t : Int) (o : qQ) : Prop :=
 (o.e = 0 /\ o.st = i.st /\ uO o.d d4 /\ dY o.p p4) /\ (o.mo = mo /\ o.g = g /\ o.t = t) /\ (o.m = i.month /\ o.day = i.day /\ o.a = i.p.len /\ o.b = p4.len) /\ (o.num = i.num /\ o.fJ = i.fJ /\ o.aF = aF /\ o.kC = kC /\ o.net = aF - kC) /\ o.gone = false /\
 o.l = Sl.app (Sl.app Sl.nil i.l) (Sl.lit [[.int i.month, .int i.day, .int i.p.len, .int p4.len, .int i.num, .int i.fJ, .int aF, .int kC, .int (aF - kC), .bool (decide False)]])
def fin (d4 p4 : Sl) (o : qQ) : Prop := (i.mZ p4 < 0 -> o.err 351) /\ (1099511627776 < i.mZ p4 -> o.err 3) /\
 (amt (i.mZ p4) -> ∃ r mo g t e, held i.ys i.mo i.g i.t i.month (i.mZ p4) r mo g t e /\ (e ≠ 0 -> o.err e) /\ (e = 0 -> (1099511627776 < r -> o.err 3) /\ (r <= 1099511627776 -> i.result d4 p4 (i.mZ p4) r mo g t o)))
def recover (d3 p3 : Sl) (o : qQ) : Prop := ∃ VJ d4 p4 e, yR i.st d3 p3 i.day i.month i.sa i.sb i.sc i.sd VJ d4 p4 e /\ (e ≠ 0 -> o.err e) /\ (e = 0 -> i.fin d4 p4 o)
def due (d2 p2 : Sl) (o : qQ) : Prop := ∃ n e, qY i.st d2 p2 i.month n e /\ (e ≠ 0 -> o.err e) /\ (e = 0 -> (n <= 0 -> i.recover d2 p2 o) /\ (1099511627776 < n -> o.err 3) /\
 (0 < n -> n <= 1099511627776 -> ∃ st3 d3 p3 e3, aU i.st d2 p2 (Sl.lit [[.int i.day, .int i.month, .int 1, .int n]]) st3 d3 p3 e3 /\ (e3 ≠ 0 -> o.err e3) /\ (e3 = 0 -> i.recover d3 p3 o)))
def settle (d1 p1 : Sl) (o : qQ) : Prop := ∃ st2 d2 p2 e, vO i.st d1 p1 i.day i.month i.name i.two i.rt i.known st2 d2 p2 e /\ (e ≠ 0 -> o.err e) /\ (e = 0 -> i.due d2 p2 o)
def pay (o : qQ) : Prop := (¬ dU i.st i.d i.p i.mo i.g i.t i.l -> o.err 2) /\ (dU i.st i.d i.p i.mo i.g i.t i.l -> ∃ c, i.chk c /\ (c ≠ 0 -> o.err c) /\
 (c = 0 -> (1200 < i.us.len -> o.err 5) /\ (i.us.len <= 1200 -> ∃ d1 p1, i.learned i.us.len d1 p1 /\ i.settle d1 p1 o)))
end jr
def G7 (nN : Int) (_d _p : Sl) (yt _g _t : Int) (_l es : Sl) (vX LH Qv Fv : Int) (_sa : Bool) (_sb : Sl) (_sc : Bool) (_sd : Sl) (name : ByteArray) (zS : Bool) (_rt _ys : Sl) (wZ : Int) : Prop := Fz name /\ es.len <= 1000000
def nY (st : Int) (d p : Sl) (mo g t : Int) (l es : Sl) (day month fJ num : Int) (sa : Bool) (sb : Sl) (sc : Bool) (sd : Sl) (name : ByteArray) (two : Bool) (rt ys : Sl) (known : Int)
 (st' : Int) (d' p' : Sl) (bQ g' t' : Int) (l' : Sl) (m' FB a' b' num' X8 ah4 akt aku : Int) (ajt : Bool) (e' : Int) : Prop :=
 jr.pay ⟨st, d, p, mo, g, t, l, es, day, month, fJ, num, sa, sb, sc, sd, name, two, rt, ys, known⟩ ⟨st', d', p', bQ, g', t', l', m', FB, a', b', num', X8, ah4, akt, aku, ajt, e'⟩
def aju (l : Sl) : Int := sumTo (fun i => if l.bool i 9 = true then 0 else l.int i 6) l.n
def aap (nN : Int) (_d _p : Sl) (yt _g _t : Int) (_l : Sl) : Prop := True
def SA (st : Int) (d p : Sl) (mo g t : Int) (l : Sl) (r e : Int) : Prop := (¬ dU st d p mo g t l -> r = 0 /\ e = 2) /\ (dU st d p mo g t l -> r = aju l /\ e = 0)
def dL (p : Sl) (day k : Int) : List (List D) :=
 if p.int k 2 = 1 \/ p.int k 2 = 2 then [[.int day, .int (p.int k 1), .int 5, .int (0 - p.int k 3)]] else if p.int k 2 = 4 then [[.int day, .int (p.int k 1), .int 6, .int (0 - p.int k 3)]] else []
def kJ (p : Sl) (day lo : Int) : Nat -> List (List D)
 | 0 => []
 | n + 1 => kJ p day lo n ++ dL p day (lo + n)
def BG (p : Sl) (vX : Int) : Prop := p.len <= 4000 /\ ∀ i : Int, 0 <= i -> i < p.len -> xP (p.int i 3)
def Ll (p : Sl) (day : Int) (r : Sl) : Prop := r = Sl.lit (kJ p day 0 p.n)
def aar (x : Int) : Int := imin (imax x (-1099511627776)) 1099511627776
def jv (l : Sl) (num i : Int) : Prop := 0 <= i /\ i < l.len /\ l.int i 4 = num /\ ¬ l.bool i 9 = true
def SL (l : Sl) (num : Int) : Prop := ∀ i, ¬ jv l num i
def lT (a : Sl) (i : Int) (b : Sl) (k : Int) : Prop := (a.int i 0 = b.int k 0 /\ a.int i 1 = b.int k 1 /\ a.int i 2 = b.int k 2 /\ a.int i 3 = b.int k 3) /\ (a.int i 4 = b.int k 4 /\ a.int i 5 = b.int k 5 /\ a.int i 6 = b.int k 6 /\ a.int i 7 = b.int k 7 /\ a.int i 8 = b.int k 8)
def ah5 (l' l : Sl) (n : Int) : Prop := l'.len = l.len /\ ∀ i : Int, 0 <= i -> i < l.len -> lT l' i l i /\ (l'.bool i 9 = true ↔ i = n \/ l.bool i 9 = true)
def Dq (st : Int) (d p : Sl) (mo g t : Int) (l : Sl) : Prop := zeroS st d p /\ mo = 0 /\ g = 0 /\ t = 0 /\ l.len = 0
def NZ (mo g t : Int) (l : Sl) (n bQ g' t' : Int) : Prop := bQ = mo /\ (mo / 12 = l.int n 0 / 12 -> g' = imax (g - l.int n 6) 0 /\ t' = aar (t - l.int n 7)) /\ (¬ mo / 12 = l.int n 0 / 12 -> g' = g /\ t' = t)
def Dc (nN : Int) (_d _p : Sl) (yt _g _t : Int) (_l : Sl) (Fv vX : Int) : Prop := True
def gB (st : Int) (d p : Sl) (mo g t : Int) (l : Sl) (num day : Int) (st' : Int) (d' p' : Sl) (bQ g' t' : Int) (l' : Sl) (e : Int) : Prop :=
 (¬ dU st d p mo g t l -> e = 2 /\ Dq st' d' p' bQ g' t' l') /\ (dU st d p mo g t l -> (SL l num -> e = 6 /\ Dq st' d' p' bQ g' t' l') /\
  ∀ n, jv l num n -> ∃ st1 d1 p1 e1, aU st d p (Sl.lit (kJ p day (l.int n 2) (l.int n 3 - l.int n 2).toNat)) st1 d1 p1 e1 /\ (e1 ≠ 0 -> e = e1 /\ Dq st' d' p' bQ g' t' l') /\
   (e1 = 0 -> e = 0 /\ st' = st /\ uO d' d1 /\ dY p' p1 /\ ah5 l' l n /\ NZ mo g t l n bQ g' t'))
def BH (_n _d : Int) : Prop := True
def vP (n d : Int) (a : Bool) (b : Sl) (c : Bool) (e : Sl) : Prop := tu n d a b c e
def lQ (f : Int) (l : Sl) : Prop := (0 <= f /\ f <= 100000) /\ l.len <= 100000
def fP (f : Int) (l r : Sl) : Prop := r.len = l.len /\ ∀ i : Int, 0 <= i -> i < l.len -> r.int i 0 = f + i /\ r.int i 1 = l.int i 0 /\ r.int i 2 = 0
def Qw (x : Int) (l : Sl) : Prop := l.len = 1 /\ l.int 0 0 = 0 /\ aW (pG x 100) (l.bool 0 1) (l.sub 0 2) (l.bool 0 3) (l.sub 0 4) /\ (l.sub 0 2).len <= 4 /\ (l.sub 0 4).len <= 4
def Dt (x : Int) (y : Sl) : Prop := y.len = 1 /\ y.int 0 0 = 1900 /\ Qw x (y.sub 0 1)
def AA (_x : Int) : Prop := True
def wY (x : Int) (y : Sl) : Prop := Dt x y
def wJ (n : ByteArray) (two : Bool) (s : Sl) : Prop := n = bytes [114] /\ two = false /\ s.len = 1 /\ ah6 s 0 0 0 0
def vS (_n : Int) (_a : Bool) (_b : Sl) (_c : Bool) (_d : Sl) : Prop := True
def jW (n : Int) (a : Bool) (b : Sl) (c : Bool) (d : Sl) (fJ num : Int) (a' : Bool) (b' : Sl) (c' : Bool) (d' : Sl) (name : ByteArray) (two : Bool) (rt ys : Sl) (known : Int) : Prop :=
 fJ = 7 /\ num = n /\ (a' = a /\ b' = b /\ c' = c /\ d' = d) /\ wJ name two rt /\ Dt 0 ys /\ known = 0
def Df : Prop := True
def jC (r : Bool) : Prop := r = true
def zO (_a : Bool) (_b : Sl) (_c : Bool) (_d : Sl) : Prop := True
def pX (_a : Bool) (b : Sl) (_c : Bool) (d : Sl) (r : Bool) : Prop := r = true ↔ b.len <= 4 /\ d.len <= 4
def akv (st : Int) (d p l es : Sl) (month : Int) (sb sd rt ys : Sl) : Prop :=
 (d.len <= 20 /\ p.len <= 40 /\ l.len <= 20 /\ es.len <= 20 /\ rt.len <= 6 /\ ys.len <= 4) /\ (sb.len <= 4 /\ sd.len <= 4) /\ (∀ k : Int, 0 <= k -> k < rt.len -> (rt.sub k 4).len <= 4 /\ (rt.sub k 6).len <= 4) /\
 (∀ k : Int, 0 <= k -> k < ys.len -> (ys.sub k 1).len <= 6 /\ ∀ j : Int, 0 <= j -> j < (ys.sub k 1).len -> ((ys.sub k 1).sub j 2).len <= 4 /\ ((ys.sub k 1).sub j 4).len <= 4) /\ (month < st \/ st < 0 \/ 2153 < month \/ month - st <= 200)
def SB (nN : Int) (_d _p : Sl) (yt _g _t : Int) (_l _es : Sl) (LH Qv Fv : Int) (_sa : Bool) (_sb : Sl) (_sc : Bool) (_sd : Sl) (_name : ByteArray) (zS : Bool) (_rt _ys : Sl) (wZ : Int) : Prop := True
def jo (st : Int) (d p : Sl) (yt _g _t : Int) (l es : Sl) (month Qv Fv : Int) (_sa : Bool) (sb : Sl) (_sc : Bool) (sd : Sl) (_name : ByteArray) (zS : Bool) (rt ys : Sl) (wZ : Int) (r : Bool) : Prop := r = true -> akv st d p l es month sb sd rt ys
def afU (nN : Int) (_d _p : Sl) (yt _g _t : Int) (_l _es : Sl) (vX LH Qv Fv : Int) (_sa : Bool) (_sb : Sl) (_sc : Bool) (_sd : Sl) (name : ByteArray) (zS : Bool) (_rt _ys : Sl) (wZ ajv : Int) : Prop := Fz name
def afV (nN : Int) (_d _p : Sl) (yt _g _t : Int) (_l _es : Sl) (vX LH Qv Fv : Int) (_sa : Bool) (_sb : Sl) (_sc : Bool) (_sd : Sl) (_name : ByteArray) (zS : Bool) (_rt _ys : Sl) (wZ ajv : Int) (r : Bool) : Prop := r = true
def adf (_y _l0 _l1 _l2 _l3 _l4 _l5 _l6 _l7 _l8 _l9 akw akx _r : Int) : Prop := True
def adg (_y _l0 _l1 _l2 _l3 _l4 _l5 _l6 _l7 _l8 _l9 akw akx _r : Int) (b : Bool) : Prop := b = true
def afW (_f _a _b _c : Int) : Prop := True
def afX (_f _a _b _c : Int) (r : Bool) : Prop := r = true
end Go.Sx.N
