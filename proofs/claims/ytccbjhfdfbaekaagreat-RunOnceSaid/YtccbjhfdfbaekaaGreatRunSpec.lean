/-
 What the functions that pay months are to answer. Conditions: none.
-/
import Derived.Test.YtccbjhfdfbaekaaGreatArrSpec
import Derived.Test.YtccbjhfdfbaekaaGreatRunRs
import Derived.Test.YtccbjhfdfbaekaaGreatRunTs
set_option linter.unusedVariables false
set_option linter.unusedSimpArgs false
namespace Go.Sx.N
def taxA (x : Int) : Prop := -1099511627776 <= x /\ x <= 1099511627776
def slipPrev (l : Sl) (k : Nat) (d0 : Int) (i : Int) : Int := if i = 0 then d0 else l.int (i - 1) k
def slipOk (np : Int) (l : Sl) (i : Int) : Prop :=
 (slipPrev l 0 (-1) i < l.int i 0 /\ slipPrev l 4 (-1) i < l.int i 4) /\ (slipPrev l 3 0 i <= l.int i 2 /\ l.int i 2 <= l.int i 3 /\ l.int i 3 <= np) /\ amt (l.int i 6) /\ taxA (l.int i 7)
def validR (st : Int) (d p : Sl) (mo g t : Int) (l : Sl) : Prop :=
 (validS st d p /\ l.len <= 1200) /\ ((0 <= mo /\ mo <= 2153) /\ amt g /\ taxA t) /\ ∀ i : Int, 0 <= i -> i < l.len -> slipOk p.len l i
def p_zAmount (_x : Int) : Prop := True
def q_zAmount (x : Int) (r : Bool) : Prop := r = true ↔ amt x
def p_zTax (_x : Int) : Prop := True
def q_zTax (x : Int) (r : Bool) : Prop := r = true ↔ taxA x
def p_zValid (_st : Int) (_d _p : Sl) (_mo _g _t : Int) (_l : Sl) : Prop := True
def q_zValid (st : Int) (d p : Sl) (mo g t : Int) (l : Sl) (r : Bool) : Prop := r = true ↔ validR st d p mo g t l
def entRow (s : Sl) (n : Int) : List D := [.int (s.int n 0), .int (s.int n 1), .int (s.int n 2)]
def entL (s : Sl) (m : Int) : Nat -> List (List D)
 | 0 => []
 | n + 1 => if s.int n 0 <= m then entL s m n ++ [entRow s n] else entL s m n
def eqEnt (s t : Sl) : Prop := s.len = t.len /\ ∀ i : Int, 0 <= i -> i < s.len -> s.int i 0 = t.int i 0 /\ s.int i 1 = t.int i 1 /\ s.int i 2 = t.int i 2
def p_zUpTo (s : Sl) (_m : Int) : Prop := s.len <= 1000000
def q_zUpTo (s : Sl) (m : Int) (r : Sl) : Prop := eqEnt r (Sl.lit (entL s m s.n))
def learnOk (st : Int) (d p : Sl) (m due : Int) : Prop := validS st d p /\ 0 <= due /\ due <= 1099511627776 /\ st <= m /\ m <= st + d.len
def learnMany (st : Int) (d : Sl) (m : Int) : Prop := m = st + d.len /\ (1200 <= d.len \/ 2400 <= m)
def learnt (st : Int) (d p : Sl) (m due : Int) (st' : Int) (d' p' : Sl) : Prop :=
 st' = st /\ eqPosts p' p /\ d'.len = imax d.len (m - st + 1) /\ ∀ i : Int, 0 <= i -> i < d'.len -> d'.int i 0 = if i = m - st then due else d.int i 0
def p_lLearn (_st : Int) (_d _p : Sl) (_m _due : Int) : Prop := True
def q_lLearn (st : Int) (d p : Sl) (m due : Int) (st' : Int) (d' p' : Sl) (e : Int) : Prop :=
 (¬ learnOk st d p m due -> e = 2 /\ zeroS st' d' p') /\ (learnOk st d p m due -> (learnMany st d m -> e = 5 /\ zeroS st' d' p') /\ (¬ learnMany st d m -> e = 0 /\ learnt st d p m due st' d' p'))
structure PIn where
 st : Int
 d : Sl
 p : Sl
 mo : Int
 g : Int
 t : Int
 l : Sl
 es : Sl
 day : Int
 month : Int
 acct : Int
 num : Int
 sa : Bool
 sb : Sl
 sc : Bool
 sd : Sl
 name : ByteArray
 two : Bool
 rt : Sl
 ys : Sl
 known : Int
structure POut where
 st : Int
 d : Sl
 p : Sl
 mo : Int
 g : Int
 t : Int
 l : Sl
 m : Int
 day : Int
 a : Int
 b : Int
 num : Int
 acct : Int
 gross : Int
 tax : Int
 net : Int
 gone : Bool
 e : Int
def POut.err (o : POut) (e : Int) : Prop := o.e = e /\ zeroS o.st o.d o.p /\ (o.mo = 0 /\ o.g = 0 /\ o.t = 0 /\ o.l.len = 0) /\ (o.m = 0 /\ o.day = 0 /\ o.a = 0 /\ o.b = 0) /\ (o.num = 0 /\ o.acct = 0 /\ o.gross = 0 /\ o.tax = 0 /\ o.net = 0) /\ o.gone = false
namespace PIn
variable (i : PIn)
def us : Sl := Sl.lit (entL i.es i.month i.es.n)
def lastM : Int := if 0 < i.l.len then i.l.int (i.l.len - 1) 0 else -1
def lastN : Int := if 0 < i.l.len then i.l.int (i.l.len - 1) 4 else -1
def argsOk : Prop := (1 <= i.acct /\ i.acct <= 1099511627776 /\ i.lastN < i.num) /\ (i.st <= i.month /\ i.month <= 2153 /\ i.lastM < i.month) /\ i.us.len = i.month - i.st + 1 /\ ∀ k : Int, 0 <= k -> k < i.us.len -> i.us.int k 0 = i.st + k
def entOk : Prop := ∀ k : Int, 0 <= k -> k < i.us.len -> i.us.int k 2 = 0 /\ amt (i.us.int k 1)
def chk (c : Int) : Prop := (¬ i.argsOk -> c = 2) /\ (i.argsOk -> 1200 <= i.l.len -> c = 5) /\ (i.argsOk -> i.l.len < 1200 -> ¬ i.entOk -> c = 350) /\ (i.argsOk -> i.l.len < 1200 -> i.entOk -> c = 0)
def learned (n : Int) (d1 p1 : Sl) : Prop := eqPosts p1 i.p /\ d1.len = imax i.d.len n /\ (∀ k : Int, 0 <= k -> k < n -> d1.int k 0 = i.us.int k 1) /\ ∀ k : Int, n <= k -> k < i.d.len -> d1.int k 0 = i.d.int k 0
def grossOf (p4 : Sl) : Int := sumTo (fun j => p4.int (i.p.len + j) 3) (p4.len - i.p.len).toNat
def result (d4 p4 : Sl) (gross tax mo g t : Int) (o : POut) : Prop :=
 (o.e = 0 /\ o.st = i.st /\ eqDue o.d d4 /\ eqPosts o.p p4) /\ (o.mo = mo /\ o.g = g /\ o.t = t) /\ (o.m = i.month /\ o.day = i.day /\ o.a = i.p.len /\ o.b = p4.len) /\ (o.num = i.num /\ o.acct = i.acct /\ o.gross = gross /\ o.tax = tax /\ o.net = gross - tax) /\ o.gone = false /\
 o.l = Sl.app (Sl.app Sl.nil i.l) (Sl.lit [[.int i.month, .int i.day, .int i.p.len, .int p4.len, .int i.num, .int i.acct, .int gross, .int tax, .int (gross - tax), .bool (decide False)]])
def fin (d4 p4 : Sl) (o : POut) : Prop := (i.grossOf p4 < 0 -> o.err 351) /\ (1099511627776 < i.grossOf p4 -> o.err 3) /\
 (amt (i.grossOf p4) -> ∃ r mo g t e, held i.ys i.mo i.g i.t i.month (i.grossOf p4) r mo g t e /\ (e ≠ 0 -> o.err e) /\ (e = 0 -> (1099511627776 < r -> o.err 3) /\ (r <= 1099511627776 -> i.result d4 p4 (i.grossOf p4) r mo g t o)))
def recover (d3 p3 : Sl) (o : POut) : Prop := ∃ st4 d4 p4 e, q_Apply i.st d3 p3 i.day i.month i.sa i.sb i.sc i.sd st4 d4 p4 e /\ (e ≠ 0 -> o.err e) /\ (e = 0 -> i.fin d4 p4 o)
def due (d2 p2 : Sl) (o : POut) : Prop := ∃ n e, q_Open i.st d2 p2 i.month n e /\ (e ≠ 0 -> o.err e) /\ (e = 0 -> (n <= 0 -> i.recover d2 p2 o) /\ (1099511627776 < n -> o.err 3) /\
 (0 < n -> n <= 1099511627776 -> ∃ st3 d3 p3 e3, q_Post i.st d2 p2 (Sl.lit [[.int i.day, .int i.month, .int 1, .int n]]) st3 d3 p3 e3 /\ (e3 ≠ 0 -> o.err e3) /\ (e3 = 0 -> i.recover d3 p3 o)))
def settle (d1 p1 : Sl) (o : POut) : Prop := ∃ st2 d2 p2 e, q_Settle i.st d1 p1 i.day i.month i.name i.two i.rt i.known st2 d2 p2 e /\ (e ≠ 0 -> o.err e) /\ (e = 0 -> i.due d2 p2 o)
def pay (o : POut) : Prop := (¬ validR i.st i.d i.p i.mo i.g i.t i.l -> o.err 2) /\ (validR i.st i.d i.p i.mo i.g i.t i.l -> ∃ c, i.chk c /\ (c ≠ 0 -> o.err c) /\
 (c = 0 -> (1200 < i.us.len -> o.err 5) /\ (i.us.len <= 1200 -> ∃ d1 p1, i.learned i.us.len d1 p1 /\ i.settle d1 p1 o)))
end PIn
def p_Pay (_st : Int) (_d _p : Sl) (_mo _g _t : Int) (_l es : Sl) (_day _month _acct _num : Int) (_sa : Bool) (_sb : Sl) (_sc : Bool) (_sd : Sl) (name : ByteArray) (_two : Bool) (_rt _ys : Sl) (_known : Int) : Prop := okN name /\ es.len <= 1000000
def q_Pay (st : Int) (d p : Sl) (mo g t : Int) (l es : Sl) (day month acct num : Int) (sa : Bool) (sb : Sl) (sc : Bool) (sd : Sl) (name : ByteArray) (two : Bool) (rt ys : Sl) (known : Int)
 (st' : Int) (d' p' : Sl) (mo' g' t' : Int) (l' : Sl) (m' day' a' b' num' acct' gross' tax' net' : Int) (gone' : Bool) (e' : Int) : Prop :=
 PIn.pay ⟨st, d, p, mo, g, t, l, es, day, month, acct, num, sa, sb, sc, sd, name, two, rt, ys, known⟩ ⟨st', d', p', mo', g', t', l', m', day', a', b', num', acct', gross', tax', net', gone', e'⟩
def paidS (l : Sl) : Int := sumTo (fun i => if l.bool i 9 = true then 0 else l.int i 6) l.n
def p_Paid (_st : Int) (_d _p : Sl) (_mo _g _t : Int) (_l : Sl) : Prop := True
def q_Paid (st : Int) (d p : Sl) (mo g t : Int) (l : Sl) (r e : Int) : Prop := (¬ validR st d p mo g t l -> r = 0 /\ e = 2) /\ (validR st d p mo g t l -> r = paidS l /\ e = 0)
def revRow (p : Sl) (day k : Int) : List (List D) :=
 if p.int k 2 = 1 \/ p.int k 2 = 2 then [[.int day, .int (p.int k 1), .int 5, .int (0 - p.int k 3)]] else if p.int k 2 = 4 then [[.int day, .int (p.int k 1), .int 6, .int (0 - p.int k 3)]] else []
def revL (p : Sl) (day lo : Int) : Nat -> List (List D)
 | 0 => []
 | n + 1 => revL p day lo n ++ revRow p day (lo + n)
def p_zRev (p : Sl) (_day : Int) : Prop := p.len <= 4000 /\ ∀ i : Int, 0 <= i -> i < p.len -> taxA (p.int i 3)
def q_zRev (p : Sl) (day : Int) (r : Sl) : Prop := r = Sl.lit (revL p day 0 p.n)
def clampT (x : Int) : Int := imin (imax x (-1099511627776)) 1099511627776
def slipAt (l : Sl) (num i : Int) : Prop := 0 <= i /\ i < l.len /\ l.int i 4 = num /\ ¬ l.bool i 9 = true
def noSlip (l : Sl) (num : Int) : Prop := ∀ i, ¬ slipAt l num i
def eqSlip (a : Sl) (i : Int) (b : Sl) (k : Int) : Prop := (a.int i 0 = b.int k 0 /\ a.int i 1 = b.int k 1 /\ a.int i 2 = b.int k 2 /\ a.int i 3 = b.int k 3) /\ (a.int i 4 = b.int k 4 /\ a.int i 5 = b.int k 5 /\ a.int i 6 = b.int k 6 /\ a.int i 7 = b.int k 7 /\ a.int i 8 = b.int k 8)
def goneAt (l' l : Sl) (n : Int) : Prop := l'.len = l.len /\ ∀ i : Int, 0 <= i -> i < l.len -> eqSlip l' i l i /\ (l'.bool i 9 = true ↔ i = n \/ l.bool i 9 = true)
def zeroR (st : Int) (d p : Sl) (mo g t : Int) (l : Sl) : Prop := zeroS st d p /\ mo = 0 /\ g = 0 /\ t = 0 /\ l.len = 0
def sumBack (mo g t : Int) (l : Sl) (n mo' g' t' : Int) : Prop := mo' = mo /\ (mo / 12 = l.int n 0 / 12 -> g' = imax (g - l.int n 6) 0 /\ t' = clampT (t - l.int n 7)) /\ (¬ mo / 12 = l.int n 0 / 12 -> g' = g /\ t' = t)
def p_Return (_st : Int) (_d _p : Sl) (_mo _g _t : Int) (_l : Sl) (_num _day : Int) : Prop := True
def q_Return (st : Int) (d p : Sl) (mo g t : Int) (l : Sl) (num day : Int) (st' : Int) (d' p' : Sl) (mo' g' t' : Int) (l' : Sl) (e : Int) : Prop :=
 (¬ validR st d p mo g t l -> e = 2 /\ zeroR st' d' p' mo' g' t' l') /\ (validR st d p mo g t l -> (noSlip l num -> e = 6 /\ zeroR st' d' p' mo' g' t' l') /\
  ∀ n, slipAt l num n -> ∃ st1 d1 p1 e1, q_Post st d p (Sl.lit (revL p day (l.int n 2) (l.int n 3 - l.int n 2).toNat)) st1 d1 p1 e1 /\ (e1 ≠ 0 -> e = e1 /\ zeroR st' d' p' mo' g' t' l') /\
   (e1 = 0 -> e = 0 /\ st' = st /\ eqDue d' d1 /\ eqPosts p' p1 /\ goneAt l' l n /\ sumBack mo g t l n mo' g' t'))
def p_vPart (_n _d : Int) : Prop := True
def q_vPart (n d : Int) (a : Bool) (b : Sl) (c : Bool) (e : Sl) : Prop := q_kFrac n d a b c e
def p_vEntries (f : Int) (l : Sl) : Prop := (0 <= f /\ f <= 100000) /\ l.len <= 100000
def q_vEntries (f : Int) (l r : Sl) : Prop := r.len = l.len /\ ∀ i : Int, 0 <= i -> i < l.len -> r.int i 0 = f + i /\ r.int i 1 = l.int i 0 /\ r.int i 2 = 0
def flatS (x : Int) (l : Sl) : Prop := l.len = 1 /\ l.int 0 0 = 0 /\ IsQ (fracQ x 100) (l.bool 0 1) (l.sub 0 2) (l.bool 0 3) (l.sub 0 4) /\ (l.sub 0 2).len <= 4 /\ (l.sub 0 4).len <= 4
def flatY (x : Int) (y : Sl) : Prop := y.len = 1 /\ y.int 0 0 = 1900 /\ flatS x (y.sub 0 1)
def p_vYearly (_x : Int) : Prop := True
def q_vYearly (x : Int) (y : Sl) : Prop := flatY x y
def rateZ (n : ByteArray) (two : Bool) (s : Sl) : Prop := n = bytes [114] /\ two = false /\ s.len = 1 /\ rowI s 0 0 0 0
def p_vPlain (_n : Int) (_a : Bool) (_b : Sl) (_c : Bool) (_d : Sl) : Prop := True
def q_vPlain (n : Int) (a : Bool) (b : Sl) (c : Bool) (d : Sl) (acct num : Int) (a' : Bool) (b' : Sl) (c' : Bool) (d' : Sl) (name : ByteArray) (two : Bool) (rt ys : Sl) (known : Int) : Prop :=
 acct = 7 /\ num = n /\ (a' = a /\ b' = b /\ c' = c /\ d' = d) /\ rateZ name two rt /\ flatY 0 ys /\ known = 0
def p_vAwake : Prop := True
def q_vAwake (r : Bool) : Prop := r = true
def p_vShort (_a : Bool) (_b : Sl) (_c : Bool) (_d : Sl) : Prop := True
def q_vShort (_a : Bool) (_b : Sl) (_c : Bool) (_d : Sl) (_r : Bool) : Prop := True
def p_vFew (_st : Int) (_d _p : Sl) (_mo _g _t : Int) (_l _es : Sl) (_month _acct _num : Int) (_sa : Bool) (_sb : Sl) (_sc : Bool) (_sd : Sl) (_name : ByteArray) (_two : Bool) (_rt _ys : Sl) (_known : Int) : Prop := True
def q_vFew (_st : Int) (_d _p : Sl) (_mo _g _t : Int) (_l es : Sl) (_month _acct _num : Int) (_sa : Bool) (_sb : Sl) (_sc : Bool) (_sd : Sl) (_name : ByteArray) (_two : Bool) (_rt _ys : Sl) (_known : Int) (r : Bool) : Prop := r = true -> es.len <= 20
def p_ROnce (_st : Int) (_d _p : Sl) (_mo _g _t : Int) (_l _es : Sl) (_day _month _acct _num : Int) (_sa : Bool) (_sb : Sl) (_sc : Bool) (_sd : Sl) (name : ByteArray) (_two : Bool) (_rt _ys : Sl) (_known _less : Int) : Prop := okN name
def q_ROnce (_st : Int) (_d _p : Sl) (_mo _g _t : Int) (_l _es : Sl) (_day _month _acct _num : Int) (_sa : Bool) (_sb : Sl) (_sc : Bool) (_sd : Sl) (_name : ByteArray) (_two : Bool) (_rt _ys : Sl) (_known _less : Int) (r : Bool) : Prop := r = true
def p_RTaxes (_y _l0 _l1 _l2 _l3 _l4 _l5 _l6 _l7 _l8 _l9 _l10 _l11 _r : Int) : Prop := True
def q_RTaxes (_y _l0 _l1 _l2 _l3 _l4 _l5 _l6 _l7 _l8 _l9 _l10 _l11 _r : Int) (b : Bool) : Prop := b = true
def p_RCorr (_f _a _b _c : Int) : Prop := True
def q_RCorr (_f _a _b _c : Int) (r : Bool) : Prop := r = true
end Go.Sx.N
