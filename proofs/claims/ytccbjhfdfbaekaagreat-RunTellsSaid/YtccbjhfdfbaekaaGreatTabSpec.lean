/-
  Several texts in one. Conditions: none.
-/
import Derived.Test.YtccbjhfdfbaekaaGreatNumBase
open Go.Sx.Sl renaming lit->zA
open Classical renaming choose->zB
set_option linter.unusedVariables false
set_option linter.unusedSimpArgs false
namespace Go.Sx.N
def CY(_n:Int):Prop:=True
def CZ(n:Int)(a:Bool)(l:Sl):Prop:=NW a l/\zv a l=n/\l.len<=4
def yu(n d:Int):Rat:=if d<1 then 0 else Rat.divInt n d
def aaX(_n _d:Int):Prop:=True
def DK(n d:Int)(a:Bool)(b:Sl)(c:Bool)(e:Sl):Prop:=aK (yu n d) a b c e/\b.len<=4/\e.len<=4
def oI(a:Bool)(b:Sl)(c:Bool)(d:Sl)(a':Bool)(b':Sl)(c':Bool)(d':Sl):Prop:=(a=a'/\dL b b')/\c=c'/\dL d d'
def abG(s:Sl)(i:Int)(a:Bool)(b:Sl)(c:Bool)(d:Sl):Prop:=oI (s.bool i 3) (s.sub i 4) (s.bool i 5) (s.sub i 6) a b c d
def jm(s:Sl)(i:Int)(t:Sl)(k:Int):Prop:=s.int i 0=t.int k 0/\s.int i 1=t.int k 1/\s.int i 2=t.int k 2/\abG s i (t.bool k 3) (t.sub k 4) (t.bool k 5) (t.sub k 6)
def ltK(a b k a' b' k':Int):Prop:=a<a'\/(a=a'/\(b<b'\/(b=b'/\k<k')))
def afz(a b k a' b' k' r:Int):Prop:=(r=-1/\ltK a b k a' b' k')\/(r=0/\a=a'/\b=b'/\k=k')\/(r=1/\ltK a' b' k' a b k)
def Ug(_x _y:Int):Prop:=True
def BD(x y r:Int):Prop:=(r=-1/\x<y)\/(r=0/\x=y)\/(r=1/\y<x)
def aaY(_s:Sl):Prop:=True
def VH(s:Sl)(r:Int):Prop:=(∃i:Int,0<=i/\i<s.len/\r=s.int i 0/\r≠0/\∀j:Int,0<=j->j<i->s.int j 0=0)\/(r=0/\∀j:Int,0<=j->j<s.len->s.int j 0=0)
def Ju(_a _b _k:Int)(_nn:Bool)(_nl:Sl)(_dn:Bool)(_dl:Sl)(_a' SC _k':Int)(arQ:Bool)(arR:Sl)(arS:Bool)(arT:Sl):Prop:=True
def Jv(a b k:Int)(_nn:Bool)(_nl:Sl)(_dn:Bool)(_dl:Sl)(a' b' k':Int)(arQ:Bool)(arR:Sl)(arS:Bool)(arT:Sl)(r:Int):Prop:=afz a b k a' b' k' r
def O9(two:Bool)(a b k:Int)(nn:Bool)(nl:Sl)(dn:Bool)(dl:Sl):Prop:=
 (-2147483648<=a/\a<=2147483647)/\(-2147483648<=b/\b<=2147483647)/\(two=true\/b=0)/\(0<=k/\k<65536)/\okF nn nl dn dl
def JY(two:Bool)(s:Sl)(i:Int):Prop:=O9 two (s.int i 0) (s.int i 1) (s.int i 2) (s.bool i 3) (s.sub i 4) (s.bool i 5) (s.sub i 6)
def aaZ(vY:Bool)(_a _b _k:Int)(_nn:Bool)(_nl:Sl)(_dn:Bool)(_dl:Sl):Prop:=True
def lJ(two:Bool)(a b k:Int)(nn:Bool)(nl:Sl)(dn:Bool)(dl:Sl)(r:Bool):Prop:=r=true↔O9 two a b k nn nl dn dl
def LD(s:Sl)(i:Int)(t:Sl)(k:Int):Prop:=ltK (s.int i 0) (s.int i 1) (s.int i 2) (t.int k 0) (t.int k 1) (t.int k 2)
def zZ(s:Sl):Prop:=∀i:Int,0<i->i<s.len->¬LD s i s (i-1)
def nZ(name:ByteArray)(two:Bool)(s:Sl):Prop:=(1<=ylen name/\ylen name<=24)/\s.len<=400/\zZ s/\∀i:Int,0<=i->i<s.len->JY two s i
def Fv(name:ByteArray):Prop:=ylen name<=9223372036854775807
def PU(name:ByteArray)(vY:Bool)(_s:Sl):Prop:=Fv name
def qw(name:ByteArray)(two:Bool)(s:Sl)(r:Bool):Prop:=r=true↔nZ name two s
def X7(_a:Bool)(b:Sl)(_c:Bool)(d:Sl):Prop:=aB b/\aB d
def X8(a:Bool)(b:Sl)(c:Bool)(d:Sl)(a':Bool)(b':Sl)(c':Bool)(d':Sl):Prop:=oI a' b' c' d' a b c d
def gW(s:Sl)(known k:Int):Prop:=(0<=k/\k<s.len)/\s.int k 2<=known/\∀j:Int,k<j->j<s.len->s.int j 0=s.int k 0->s.int j 1=s.int k 1->known<s.int j 2
def avv(s:Sl)(known:Int)(t:Sl):Prop:=
 ∃g:Int->Int,(∀i:Int,0<=i->i<t.len->gW s known (g i)/\jm t i s (g i))/\(∀i j:Int,0<=i->i<j->j<t.len->g i<g j)/\(∀k:Int,gW s known k->∃i:Int,0<=i/\i<t.len/\g i=k)
def X9(_name:ByteArray)(vY:Bool)(s:Sl)(uI:Int):Prop:=zZ s/\s.len<=400
def Ya(_name:ByteArray)(vY:Bool)(s:Sl)(known:Int)(t:Sl):Prop:=avv s known t
def GV(s:Sl)(a known k:Int):Prop:=(gW s known k/\s.int k 0<=a)/\∀j:Int,gW s known j->s.int j 0<=a->s.int j 0<=s.int k 0
def Qk(ok:Prop)(C:Int->Prop)(s:Sl)(a':Bool)(b':Sl)(c':Bool)(d':Sl)(e:Int):Prop:=
 (¬ok->BU a' b' c' d'/\e=2)/\(ok->((∀k:Int,¬C k)->BU a' b' c' d'/\e=6)/\∀k:Int,C k->abG s k a' b' c' d'/\e=0)
def ZR(name:ByteArray)(vY:Bool)(_s:Sl)(_a uI:Int):Prop:=Fv name
def Lj(name:ByteArray)(two:Bool)(s:Sl)(a known:Int)(a':Bool)(b':Sl)(c':Bool)(d':Sl)(e:Int):Prop:=
 Qk (nZ name two s/\two=false) (GV s a known) s a' b' c' d' e
def az5(u r t:Sl)(p:Int):Prop:=t.len=u.len+1/\(0<=p/\p<=u.len)/\(∀k:Int,0<=k->k<p->jm t k u k)/\jm t p r 0/\∀k:Int,p<=k->k<u.len->jm t (k+1) u k/\LD r 0 u k
def ins(u r t:Sl):Prop:=∃p:Int,az5 u r t p/\∀k:Int,0<=k->k<p->¬LD r 0 u k
open Classical in
noncomputable def kQ(s:Sl)(known y:Int):Option Rat:=
 if h:∃k,GV s y known k then some (fq (s.bool (zB h) 3) (s.sub (zB h) 4) (s.sub (zB h) 6))else none
inductive GR where
 |ok (q:Rat)
 |err (e:Int)
open Classical in
def axV(s:Sl)(i y k:Int)(q:Rat):Prop:=s.int i 0=y/\s.int i 1=0/\s.int i 2=k/\okF (s.bool i 3) (s.sub i 4) (s.bool i 5) (s.sub i 6)/\fq (s.bool i 3) (s.sub i 4) (s.sub i 6)=q
def VT(st n day mo kind amt:Int):Prop:=
 (0<=day/\day<65536/\st<=mo/\mo<st+n)/\(((kind=1\/kind=2\/kind=3\/kind=6)/\0<=amt/\amt<=1099511627776)\/((kind=4\/kind=5)/\-1099511627776<=amt/\amt<=0))
def JA(st n:Int)(p:Sl)(i:Int):Prop:=VT st n (p.int i 0) (p.int i 1) (p.int i 2) (p.int i 3)
def prev(p:Sl)(d0:Int)(i:Int):Int:=if i=0 then d0 else p.int (i-1) 0
def qW(st n:Int)(p:Sl)(d0:Int)(i:Int):Prop:=JA st n p i/\prev p d0 i<=p.int i 0
def rE(st n:Int)(p:Sl)(d0:Int):Prop:=∀i:Int,0<=i->i<p.len->qW st n p d0 i
def akq(d:Sl):Prop:=∀i:Int,0<=i->i<d.len->0<=d.int i 0/\d.int i 0<=1099511627776
def aA(st:Int)(d p:Sl):Prop:=(0<=st/\st<=2400/\d.len<=1200/\st+d.len<=2400)/\akq d/\p.len<=4000/\rE st d.len p 0
def sumTo(f:Int->Int):Nat->Int
 |0=>0
 |n+1=>sumTo f n+f (n:Int)
def lq(p:Sl)(i:Int):Int:=if p.int i 2=3 then 0 else p.int i 3
def aV(p:Sl)(m:Int):Int:=sumTo (fun i=>if p.int i 1=m then lq p i else 0) p.n
def og(st:Int)(d:Sl)(m:Int):Prop:=st<=m/\m<st+d.len
def fG(d e:Sl):Prop:=d.len=e.len/\∀i:Int,0<=i->i<d.len->d.int i 0=e.int i 0
def xU(p:Sl)(i:Int)(q:Sl)(k:Int):Prop:=p.int i 0=q.int k 0/\p.int i 1=q.int k 1/\p.int i 2=q.int k 2/\p.int i 3=q.int k 3
def aQ(p q:Sl):Prop:=p.len=q.len/\∀i:Int,0<=i->i<p.len->xU p i q i
def Z4(s:Int)(d p:Sl)(t:Int)(e q:Sl):Prop:=s=t/\fG d e/\aQ p q
def zeroS(s:Int)(d p:Sl):Prop:=s=0/\d.len=0/\p.len=0
def HY(st:Int)(d:Sl):Prop:=0<=st/\st<=2400/\d.len<=1200
def ZT(st:Int)(d _p:Sl)(_m:Int):Prop:=HY st d
def PV(st:Int)(d _p:Sl)(m:Int)(r:Bool):Prop:=r=true↔og st d m
def vW(st:Int)(d _p _q:Sl)(EW:Int):Prop:=HY st d
def aW(st:Int)(d _p q:Sl)(day:Int)(r:Bool):Prop:=r=true↔rE st d.len q day
def zW(qE:Int)(_d _p:Sl):Prop:=True
def cu(st:Int)(d p:Sl)(r:Bool):Prop:=r=true↔aA st d p
def Yb(st:Int)(d p:Sl)(_m:Int):Prop:=aA st d p
def Yc(qE:Int)(_d p:Sl)(m:Int)(r:Int):Prop:=r=aV p m
def Uh(qE:Int)(_d _p:Sl)(_m:Int):Prop:=True
def qA(st:Int)(d p:Sl)(m:Int)(r e:Int):Prop:=(¬aA st d p->r=0/\e=2)/\(aA st d p->(¬og st d m->r=0/\e=6)/\(og st d m->r=d.int (m-st) 0-aV p m/\e=0))
def afr(_s:Int)(_d _p:Sl)(_t:Int)(_e _q:Sl):Prop:=True
def yN(s:Int)(d p:Sl)(t:Int)(e q:Sl)(r:Bool):Prop:=r=true↔Z4 s d p t e q
def OW(st:Int)(d _p:Sl)(_m:Int):Prop:=HY st d
def EU(st:Int)(d _p:Sl)(m:Int)(r:Bool):Prop:=r=true↔og st d m
def Qg(st:Int)(d _p:Sl)(EW Ii _kind aCc:Int):Prop:=HY st d
def kY(st:Int)(d _p:Sl)(day mo kind amt:Int)(r:Bool):Prop:=r=true↔VT st d.len day mo kind amt
def Qh(st:Int)(d _p _q:Sl):Prop:=HY st d
def tq(st:Int)(d _p q:Sl)(r:Bool):Prop:=r=true↔rE st d.len q 0
def C9(qE:Int)(_d _p:Sl):Prop:=True
def jr(st:Int)(d p:Sl)(r:Bool):Prop:=r=true↔aA st d p
def Un(st:Int)(d p:Sl)(_m:Int):Prop:=aA st d p
def Uo(qE:Int)(_d p:Sl)(m:Int)(r:Int):Prop:=r=aV p m
def behind(a b c:Sl):Prop:=c.len=a.len+b.len/\(∀i:Int,0<=i->i<a.len->xU c i a i)/\(∀i:Int,0<=i->i<b.len->xU c (a.len+i) b i)
def lY(s:Sl):Prop:=s.len=2/\(s.sub 0 0).len<=1000000/\(s.sub 1 0).len<=1000000
def kX(s r:Sl):Prop:=behind (s.sub 0 0) (s.sub 1 0) r
def lastDay(p:Sl):Int:=if 0<p.len then p.int (p.len-1) 0 else 0
def l9(st:Int)(d p q:Sl):Prop:=aA st d p/\rE st d.len q (lastDay p)
def rO(qE:Int)(_d _p q:Sl):Prop:=q.len<=1000000
def aY(st:Int)(d p q:Sl)(st':Int)(d' p':Sl)(e:Int):Prop:=
 (¬l9 st d p q->e=2/\zeroS st' d' p')/\(l9 st d p q->(4000<p.len+q.len->e=5/\zeroS st' d' p')/\(p.len+q.len<=4000->e=0/\st'=st/\fG d' d/\behind p q p'))
def PW(_a:Bool)(_b:Sl)(_c:Bool)(_d:Sl):Prop:=True
def Ll(_a:Bool)(b:Sl)(_c:Bool)(d:Sl)(r:Bool):Prop:=r=true↔(b.len<=120/\d.len<=120)
def Yf(_s:Sl):Prop:=True
def Lm(s:Sl)(r:Int):Prop:=(∃i:Int,0<=i/\i<s.len/\r=s.int i 0/\r≠0/\∀j:Int,0<=j->j<i->s.int j 0=0)\/(r=0/\∀j:Int,0<=j->j<s.len->s.int j 0=0)
def afA(q:Rat)(v e:Int):Prop:=(aO q 5<0->v=0/\e=0)/\(1099511627776<aO q 5->v=0/\e=3)/\(0<=aO q 5->aO q 5<=1099511627776->v=aO q 5/\e=0)
def Ui(_a:Bool)(_b:Sl)(_c:Bool)(_d:Sl):Prop:=True
def yI(a:Bool)(b:Sl)(c:Bool)(d:Sl)(v e:Int):Prop:=(okF a b c d->afA (fq a b d) v e)/\(¬okF a b c d->v=0/\e=2)
open Classical in
noncomputable def fH(s:Sl)(known due:Int):Nat->GR
 |0=> .ok 0
 | n+1=>match fH s known due n with
  | .err e=> .err e
  | .ok q=>match kQ s known (1900+(due+n)/12)with
   |none=> .err 6
   |some r=>if bM (q+r)then .ok (q+r)else .err 3
def okI(n due paid:Int)(name:ByteArray)(two:Bool)(s:Sl):Prop:=(0<=n/\n<=1099511627776)/\(0<=due/\due<=paid/\paid<=2400)/\nZ name two s/\two=false
def adJ(q:Rat)(n v e:Int):Prop:=
 (¬(bM (q*(n:Rat))/\bM (q*(n:Rat)/12))->v=0/\e=3)/\(bM (q*(n:Rat))->bM (q*(n:Rat)/12)->afA (q*(n:Rat)/12) v e)
def abH(g:GR)(n v e:Int):Prop:=match g with
 | .err x=>v=0/\e=x
 | .ok q=>adJ q n v e
def az6(n due paid:Int)(name:ByteArray)(two:Bool)(s:Sl)(known v e:Int):Prop:=
 (¬okI n due paid name two s->v=0/\e=2)/\(okI n due paid name two s->((n=0\/due=paid)->v=0/\e=0)/\(n≠0->due≠paid->abH (fH s known due (paid-due).toNat) n v e))
def dS(st:Int)(d p:Sl)(m:Int):Int:=d.int (m-st) 0-aV p m
def iV(st:Int)(d p:Sl)(m k:Int):Prop:=st+k<m/\0<dS st d p (st+k)
instance(st:Int)(d p:Sl)(m k:Int):Decidable (iV st d p m k):=by unfold iV;infer_instance
def fJ(st:Int)(d p:Sl)(m:Int):Nat->List (List D)
 |0=>[]
 |n+1=>if iV st d p m n then fJ st d p m n++[[.int (st+n)]]else fJ st d p m n
def EX(st:Int)(d p:Sl)(m:Int):Nat->Int
 |0=>0
 |n+1=>if iV st d p m n then EX st d p m n+dS st d p (st+n)else EX st d p m n
def abI(q:Rat):Int×Int:=if aO q 5<0 then(0,0)else if 1099511627776<aO q 5 then(0,3)else(aO q 5,0)
open Classical in
noncomputable def xW(s:Sl)(known n due paid:Int):Int×Int:=match fH s known due (paid-due).toNat with
 | .err e=>(0,e)
 | .ok q=>if bM (q*(n:Rat))/\bM (q*(n:Rat)/12)then abI (q*(n:Rat)/12)else(0,3)
inductive OR where
 |ok (l:List (List D))
 |err (e:Int)
def uJ(day m n x:Int):List (List D):=[.int day, .int m, .int 2, .int n]::(if x=0 then []else [[.int day, .int m, .int 3, .int x]])
noncomputable def EY(s:Sl)(known day paid m n:Int)(l:List (List D)):OR:=
 if 1099511627776<n then .err 3 else if(xW s known n m paid).2≠0 then .err (xW s known n m paid).2 else .ok (l++uJ day m n (xW s known n m paid).1)
noncomputable def iD(s:Sl)(known st:Int)(d p:Sl)(day m:Int):Nat->OR
 |0=> .ok []
 |n+1=>match iD s known st d p day m n with
  | .err e=> .err e
  | .ok l=>if iV st d p m n then EY s known day m (st+n) (dS st d p (st+n)) l else .ok l
def akr(g:OR)(s:Sl)(e:Int):Prop:=match g with
 | .err x=>s.len=0/\e=x
 | .ok l=>aQ s (zA l)/\e=0
def okO(st:Int)(d p:Sl)(day m:Int)(name:ByteArray)(two:Bool)(s:Sl):Prop:=(aA st d p/\nZ name two s/\two=false)/\(0<=day/\day<65536)/\0<=m/\m<=2400
def Uu(st:Int)(d p:Sl)(day m:Int)(name:ByteArray)(two:Bool)(s:Sl)(known:Int)(r:Sl)(e:Int):Prop:=
 (¬okO st d p day m name two s->r.len=0/\e=2)/\(okO st d p day m name two s->akr (iD s known st d p day m d.n) r e)
def ako(qE:Int)(_d _p:Sl)(EW _m:Int)(name:ByteArray)(vY:Bool)(_s:Sl)(uI:Int):Prop:=Fv name
def rP(st:Int)(d p:Sl)(day m:Int)(name:ByteArray)(two:Bool)(s:Sl)(known:Int)(r:Sl)(e:Int):Prop:=Uu st d p day m name two s known r e
def Yg(qE:Int)(_d _p:Sl)(EW _m:Int)(name:ByteArray)(vY:Bool)(_s:Sl)(uI:Int):Prop:=Fv name
def yJ(st:Int)(d p:Sl)(day m:Int)(name:ByteArray)(two:Bool)(s:Sl)(known st':Int)(d' p':Sl)(e:Int):Prop:=
 ∃r e0,Uu st d p day m name two s known r e0/\(e0≠0->zeroS st' d' p'/\e=e0)/\(e0=0->aY st d p r st' d' p' e)
def JQ(st:Int)(d p:Sl)(m:Int):Prop:=aA st d p/\og st d m
def JU(st:Int)(d p:Sl)(m r:Int):Prop:=r=dS st d p m
def abb(st:Int)(d p:Sl)(_m:Int):Prop:=aA st d p
def abd(st:Int)(d p:Sl)(m:Int)(s:Sl):Prop:=dL s (zA (fJ st d p m d.n))
def Yi(vY:Bool)(_a _b _k:Int)(_nn:Bool)(_nl:Sl)(_dn:Bool)(_dl:Sl):Prop:=True
def jv(two:Bool)(a b k:Int)(nn:Bool)(nl:Sl)(dn:Bool)(dl:Sl)(r:Bool):Prop:=r=true↔O9 two a b k nn nl dn dl
def Nr(_a _b _k:Int)(_nn:Bool)(_nl:Sl)(_dn:Bool)(_dl:Sl)(_a' SC _k':Int)(arQ:Bool)(arR:Sl)(arS:Bool)(arT:Sl):Prop:=True
def yO(a b k:Int)(_nn:Bool)(_nl:Sl)(_dn:Bool)(_dl:Sl)(a' b' k':Int)(arQ:Bool)(arR:Sl)(arS:Bool)(arT:Sl)(r:Bool):Prop:=r=true↔ltK a b k a' b' k'
def Hw(name:ByteArray)(vY:Bool)(_s:Sl):Prop:=Fv name
def mQ(name:ByteArray)(two:Bool)(s:Sl)(r:Bool):Prop:=r=true↔nZ name two s
def Yj(_name:ByteArray)(vY:Bool)(s:Sl)(i uI:Int):Prop:=(0<=i/\i<s.len)/\s.len<=400
def Gg(_name:ByteArray)(vY:Bool)(s:Sl)(i known:Int)(r:Bool):Prop:=r=true↔gW s known i
def aa6(name:ByteArray)(vY:Bool)(_s:Sl)(_a uI:Int):Prop:=Fv name
def Gh(name:ByteArray)(two:Bool)(s:Sl)(a known:Int)(a':Bool)(b':Sl)(c':Bool)(d':Sl)(e:Int):Prop:=Qk (nZ name two s/\two=false) (GV s a known) s a' b' c' d' e
def aa7(a:Bool)(b:Sl)(c:Bool)(d:Sl)(a':Bool)(b':Sl)(c':Bool)(d':Sl):Prop:=(Jk a b c d/\Jk a' b' c' d')/\zv a' b'≠0
def aa8(a:Bool)(b:Sl)(_c:Bool)(d:Sl)(a':Bool)(b':Sl)(LC:Bool)(d':Sl)(nn:Bool)(nl:Sl)(dn:Bool)(dl:Sl):Prop:=aK (fq a b d/fq a' b' d') nn nl dn dl
def VO(_a:Bool)(_b:Sl)(_c:Bool)(_d:Sl):Prop:=True
def OY(_a:Bool)(b:Sl)(_c:Bool)(_d:Sl)(r:Bool):Prop:=r=true↔b.len=0
def aa9(_a:Bool)(_b:Sl)(_c:Bool)(_d:Sl)(_a':Bool)(SC:Sl)(LC:Bool)(Ut:Sl):Prop:=True
def Gi(a:Bool)(b:Sl)(c:Bool)(d:Sl)(a':Bool)(b':Sl)(c':Bool)(d':Sl)(nn:Bool)(nl:Sl)(dn:Bool)(dl:Sl)(e:Int):Prop:=pF a b c d a' b' c' d' nn nl dn dl e
def Gj(_a:Bool)(_b:Sl)(_c:Bool)(_d:Sl)(_a':Bool)(SC:Sl)(LC:Bool)(Ut:Sl):Prop:=True
def uG(a:Bool)(b:Sl)(c:Bool)(d:Sl)(a':Bool)(b':Sl)(c':Bool)(d':Sl)(nn:Bool)(nl:Sl)(dn:Bool)(dl:Sl)(e:Int):Prop:=Bg a b c d a' b' c' d' nn nl dn dl e
def OZ(_a:Bool)(_b:Sl)(_c:Bool)(_d:Sl)(_a':Bool)(SC:Sl)(LC:Bool)(Ut:Sl):Prop:=True
def xM(a:Bool)(b:Sl)(c:Bool)(d:Sl)(a':Bool)(b':Sl)(c':Bool)(d':Sl)(nn:Bool)(nl:Sl)(dn:Bool)(dl:Sl)(e:Int):Prop:=Bz a b c d a' b' c' d' nn nl dn dl e
def Um(a:Bool)(b:Sl)(c:Bool)(d:Sl)(a':Bool)(b':Sl)(c':Bool)(d':Sl)(mode:Int):Prop:=(okF a b c d/\okF a' b' c' d'/\aK 1 a' b' c' d')/\mode=5
def rY(a:Bool)(b:Sl)(_c:Bool)(d:Sl)(_a':Bool)(SC:Sl)(LC:Bool)(Ut:Sl)(azl:Int)(n:Bool)(l:Sl):Prop:=(NW n l/\zv n l=aO (fq a b d) 5)/\l.len<=1000
def Hy(_a:Bool)(_b:Sl)(_c:Bool)(_d:Sl)(a':Bool)(b':Sl)(c':Bool)(d':Sl)(mode:Int):Prop:=(aK 1 a' b' c' d'/\b'.len<=256/\d'.len<=256)/\mode=5
def lK(a:Bool)(b:Sl)(c:Bool)(d:Sl)(_a':Bool)(SC:Sl)(LC:Bool)(Ut:Sl)(azl:Int)(nn:Bool)(nl:Sl)(dn:Bool)(dl:Sl)(e:Int):Prop:=
 (okF a b c d->Di (aO (fq a b d) 5:Int) nn nl dn dl e)/\(¬okF a b c d->BU nn nl dn dl/\e=2)
def NY(_n axW aBC:Int)(name:ByteArray)(vY:Bool)(_s:Sl)(uI:Int):Prop:=Fv name
def dZ(n due paid:Int)(name:ByteArray)(two:Bool)(s:Sl)(known v e:Int):Prop:=az6 n due paid name two s known v e
def afs(qE:Int)(_d _p:Sl)(EW _m:Int)(name:ByteArray)(vY:Bool)(_s:Sl)(uI:Int):Prop:=Fv name
def qB(st:Int)(d p:Sl)(day m:Int)(name:ByteArray)(two:Bool)(s:Sl)(known:Int)(r:Sl)(e:Int):Prop:=Uu st d p day m name two s known r e
def JO(qE:Int)(_d p q:Sl):Prop:=p.len<=1000000/\q.len<=1000000
def xK(st:Int)(d p q:Sl)(st':Int)(d' p':Sl)(e:Int):Prop:=aY st d p q st' d' p' e
def jK(a:Bool)(b:Sl)(c:Bool)(d:Sl):Prop:=okF a b c d/\0<=fq a b d/\fq a b d<=1
def arU(q:Rat)(due r e:Int):Prop:=(bM (q*(due:Rat))->r=(q*(due:Rat)).floor/\e=0)/\(¬bM (q*(due:Rat))->r=0/\e=3)
def arV(st:Int)(d:Sl)(m:Int)(q:Rat)(r e:Int):Prop:=(¬og st d m->r=0/\e=6)/\(og st d m->arU q (d.int (m-st) 0) r e)
def Dj(st:Int)(d p:Sl)(m:Int)(a:Bool)(b:Sl)(c:Bool)(f:Sl)(r e:Int):Prop:=
 (¬(aA st d p/\jK a b c f)->r=0/\e=2)/\(aA st d p/\jK a b c f->arV st d m (fq a b f) r e)
def Uj(_a:Bool)(_b:Sl)(_c:Bool)(_d:Sl):Prop:=True
def yK(a:Bool)(b:Sl)(c:Bool)(d:Sl)(r:Bool):Prop:=r=true↔jK a b c d
def aa0(st:Int)(d p:Sl)(_m:Int)(a:Bool)(b:Sl)(c:Bool)(f:Sl):Prop:=aA st d p/\jK a b c f
def DL(st:Int)(d _p:Sl)(m:Int)(a:Bool)(b:Sl)(_c:Bool)(f:Sl)(r e:Int):Prop:=arV st d m (fq a b f) r e
def aa1(qE:Int)(_d _p:Sl)(_m:Int)(_a:Bool)(_b:Sl)(_c:Bool)(_f:Sl):Prop:=True
def JM(st:Int)(d p:Sl)(m:Int)(a:Bool)(b:Sl)(c:Bool)(f:Sl)(r e:Int):Prop:=Dj st d p m a b c f r e
def ov(st:Int)(d p:Sl)(k:Int):Int:=aV p (st+k)-d.int k 0
def mW(x:Int):Int:=if x>0 then x else 0
def aks(st:Int)(d p:Sl)(m:Int):Int:=sumTo (fun k=>if st+k<m then mW (ov st d p k)else 0) d.n
def IE(st:Int)(d p:Sl)(_m:Int):Prop:=aA st d p
def BR(st:Int)(d p:Sl)(m r:Int):Prop:=r=aks st d p m
def SB(qE:Int)(_d _p:Sl)(_m:Int):Prop:=True
def IG(st:Int)(d p:Sl)(m r e:Int):Prop:=(¬aA st d p->r=0/\e=2)/\(aA st d p->r=aks st d p m/\e=0)
def mX(st:Int)(d p:Sl)(m left k:Int):Int:=if st+k<m then imin (mW (ov st d p k)) left else 0
def gK(st:Int)(d p:Sl)(m lim:Int):Nat->Int
 |0=>lim
 |n+1=>gK st d p m lim n-mX st d p m (gK st d p m lim n) n
def mg(st:Int)(d p:Sl)(m lim:Int)(n:Nat):Int:=mX st d p m (gK st d p m lim n) n
def iy(st:Int)(d p:Sl)(day m lim:Int):Nat->List (List D)
 |0=>[]
 |n+1=>if 0<mg st d p m lim n then iy st d p day m lim n++[[.int day, .int (st+n), .int 4, .int (-(mg st d p m lim n))]]else iy st d p day m lim n
def takeD(st:Int)(d p:Sl)(day m r e0:Int)(s:Sl)(e:Int):Prop:=
 (e0≠0->s.len=0/\e=e0)/\(e0=0->(¬(0<=day/\day<65536)->s.len=0/\e=2)/\(0<=day/\day<65536->aQ s (zA (iy st d p day m r d.n))/\e=0))
def Aa(st:Int)(d p:Sl)(day m:Int)(a:Bool)(b:Sl)(c:Bool)(f:Sl)(s:Sl)(e:Int):Prop:=∀r e0,Dj st d p m a b c f r e0->takeD st d p day m r e0 s e
def afo(qE:Int)(_d _p:Sl)(EW _m:Int)(_a:Bool)(_b:Sl)(_c:Bool)(_f:Sl):Prop:=True
def Ht(st:Int)(d p:Sl)(day m:Int)(a:Bool)(b:Sl)(c:Bool)(f:Sl)(s:Sl)(e:Int):Prop:=Aa st d p day m a b c f s e
def aa2(qE:Int)(_d _p:Sl)(EW _m:Int)(_a:Bool)(_b:Sl)(_c:Bool)(_f:Sl):Prop:=True
def DN(st:Int)(d p:Sl)(day m:Int)(a:Bool)(b:Sl)(c:Bool)(f:Sl)(st':Int)(d' p':Sl)(e:Int):Prop:=
 ∃s e0,Aa st d p day m a b c f s e0/\(e0≠0->zeroS st' d' p'/\e=e0)/\(e0=0->aY st d p s st' d' p' e)
def rq(l:Sl)(i:Int):Rat:=fq (l.bool i 1) (l.sub i 2) (l.sub i 4)
def okR(a:Bool)(b:Sl)(c:Bool)(d:Sl):Prop:=okF a b c d/\0<=fq a b d/\fq a b d<=1/\((fq a b d).den:Int)<=1000000
def okB(l:Sl)(i:Int):Prop:=(0<=l.int i 0/\l.int i 0<=1099511627776)/\okR (l.bool i 1) (l.sub i 2) (l.bool i 3) (l.sub i 4)
def okP(l:Sl)(i:Int):Prop:=l.int (i-1) 0<l.int i 0/\rq l (i-1)<=rq l i
def bZ(l:Sl):Prop:=l.len<=20/\(∀i:Int,0<=i->i<l.len->okB l i)/\(∀i:Int,1<=i->i<l.len->okP l i)
def amt(x:Int):Prop:=0<=x/\x<=1099511627776
def PI(l:Sl)(m A i:Int):Int:=if 12*A-l.int i 0*m<=0 then 0 else 12*A-l.int i 0*m
def rp(l:Sl)(i:Int):Rat:=if i=0 then 0 else rq l (i-1)
def TN(l:Sl)(m A:Int):Nat->Rat
 |0=>0
 |n+1=>TN l m A n+(PI l m A n:Rat)*(rq l n-rp l n)
def TT(l:Sl)(m A:Int):Rat:=TN l m A l.len.toNat/12
def qF(y:Sl):Prop:=(∀i:Int,0<=i->i<y.len->bZ (y.sub i 1))/\(∀i:Int,1<=i->i<y.len->y.int (i-1) 0<y.int i 0)
def vZ(y:Sl)(year i:Int):Prop:=0<=i/\i<y.len/\y.int i 0<=year/\∀j:Int,i<j->j<y.len->year<y.int j 0
def zy(y:Sl)(year:Int):Prop:=∀j:Int,0<=j->j<y.len->year<y.int j 0
def ET(_x:Int):Prop:=True
def rW(x:Int)(r:Bool):Prop:=r=true↔amt x
def NV(_a:Bool)(_b:Sl)(_c:Bool)(_d:Sl):Prop:=True
def lU(a:Bool)(b:Sl)(c:Bool)(d:Sl)(r:Bool):Prop:=r=true↔okR a b c d
def PX(_l:Sl):Prop:=True
def jq(l:Sl)(r:Bool):Prop:=r=true↔bZ l
def Lp(_y:Sl):Prop:=True
def kH(y:Sl)(r:Bool):Prop:=r=true↔qF y
def PY(_y:Sl)(azm:Int):Prop:=True
def Jw(y:Sl)(year:Int)(s:Sl)(ok:Bool):Prop:=(ok=true->∃i,vZ y year i/\s=y.sub i 1)/\(ok=false->zy y year/\s.len=0)
def VI(l:Sl)(m A:Int):Prop:=bZ l/\(1<=m/\m<=12)/\amt A
def VJ(l:Sl)(m A:Int)(a:Bool)(b:Sl)(c:Bool)(d:Sl)(e:Int):Prop:=aK (TT l m A) a b c d/\okF a b c d/\e=0
def Uk(_l:Sl)(_m _A:Int):Prop:=True
def lZ(l:Sl)(m A r e:Int):Prop:=(bZ l/\(1<=m/\m<=12)/\amt A->r=(TT l m A).floor/\e=0)/\(¬(bZ l/\(1<=m/\m<=12)/\amt A)->r=0/\e=2)
def Dk(y:Sl)(mo g t month aC:Int):Prop:=qF y/\(0<=mo/\mo<=2153)/\amt g/\(-1099511627776<=t/\t<=1099511627776)/\(mo<=month/\month<=2153)/\amt aC
def goes(mo month x:Int):Int:=if mo/12=month/12 then x else 0
def held(y:Sl)(mo g t month aC r dP g' t' e:Int):Prop:=
 (¬Dk y mo g t month aC->r=0/\dP=0/\g'=0/\t'=0/\e=2)/\
 (Dk y mo g t month aC->
  (zy y (1900+month/12)->r=0/\dP=0/\g'=0/\t'=0/\e=6)/\
  ∀i,vZ y (1900+month/12) i->
   (1099511627776<goes mo month g+aC->r=0/\dP=0/\g'=0/\t'=0/\e=3)/\
   (goes mo month g+aC<=1099511627776->dP=month/\g'=goes mo month g+aC/\t'=(TT (y.sub i 1) (month % 12+1) g').floor/\r=t'-goes mo month t/\e=0))
def GL(_y:Sl)(Ii _g _t Pg axX:Int):Prop:=True
def bH(y:Sl)(mo g t month aC r dP g' t' e:Int):Prop:=held y mo g t month aC r dP g' t' e
def II(x:Int):Prop:=-1099511627776<=x/\x<=1099511627776
def dH(l:Sl)(k:Nat)(d0:Int)(i:Int):Int:=if i=0 then d0 else l.int (i-1) k
def kJ(np:Int)(l:Sl)(i:Int):Prop:=
 (dH l 0 (-1) i<l.int i 0/\dH l 4 (-1) i<l.int i 4)/\(dH l 3 0 i<=l.int i 2/\l.int i 2<=l.int i 3/\l.int i 3<=np)/\amt (l.int i 6)/\II (l.int i 7)
def eH(st:Int)(d p:Sl)(mo g t:Int)(l:Sl):Prop:=
 (aA st d p/\l.len<=1200)/\((0<=mo/\mo<=2153)/\amt g/\II t)/\∀i:Int,0<=i->i<l.len->kJ p.len l i
def yL(_x:Int):Prop:=True
def vN(x:Int)(r:Bool):Prop:=r=true↔amt x
def ZU(_x:Int):Prop:=True
def Ul(x:Int)(r:Bool):Prop:=r=true↔II x
def F8(qE:Int)(_d _p:Sl)(Ii _g _t:Int)(_l:Sl):Prop:=True
def fP(st:Int)(d p:Sl)(mo g t:Int)(l:Sl)(r:Bool):Prop:=r=true↔eH st d p mo g t l
def uK(s:Sl)(n:Int):List D:=[.int (s.int n 0), .int (s.int n 1), .int (s.int n 2)]
def aT(s:Sl)(m:Int):Nat->List (List D)
 |0=>[]
 |n+1=>if s.int n 0<=m then aT s m n++[uK s n]else aT s m n
def Nu(s t:Sl):Prop:=s.len=t.len/\∀i:Int,0<=i->i<s.len->s.int i 0=t.int i 0/\s.int i 1=t.int i 1/\s.int i 2=t.int i 2
def aa3(s:Sl)(_m:Int):Prop:=s.len<=1000000
def aa4(s:Sl)(m:Int)(r:Sl):Prop:=Nu r (zA (aT s m s.n))
def uM(st:Int)(d p:Sl)(m due:Int):Prop:=aA st d p/\0<=due/\due<=1099511627776/\st<=m/\m<=st+d.len
def jw(st:Int)(d:Sl)(m:Int):Prop:=m=st+d.len/\(1200<=d.len\/2400<=m)
def learnt(st:Int)(d p:Sl)(m due:Int)(st':Int)(d' p':Sl):Prop:=
 st'=st/\aQ p' p/\d'.len=imax d.len (m-st+1)/\∀i:Int,0<=i->i<d'.len->d'.int i 0=if i=m-st then due else d.int i 0
def Ye(qE:Int)(_d _p:Sl)(_m axW:Int):Prop:=True
def dU(st:Int)(d p:Sl)(m due:Int)(st':Int)(d' p':Sl)(e:Int):Prop:=
 (¬uM st d p m due->e=2/\zeroS st' d' p')/\(uM st d p m due->(jw st d m->e=5/\zeroS st' d' p')/\(¬jw st d m->e=0/\learnt st d p m due st' d' p'))
structure iM where
 st:Int
 d:Sl
 p:Sl
 mo:Int
 g:Int
 t:Int
 l:Sl
 es:Sl
 day:Int
 month:Int
 bW:Int
 num:Int
 sa:Bool
 sb:Sl
 sc:Bool
 sd:Sl
 name:ByteArray
 two:Bool
 rt:Sl
 ys:Sl
 known:Int
structure wo where
 st:Int
 d:Sl
 p:Sl
 mo:Int
 g:Int
 t:Int
 l:Sl
 m:Int
 day:Int
 a:Int
 b:Int
 num:Int
 bW:Int
 aC:Int
 ni:Int
 net:Int
 gone:Bool
 e:Int
def wo.err(o:wo)(e:Int):Prop:=o.e=e/\zeroS o.st o.d o.p/\(o.mo=0/\o.g=0/\o.t=0/\o.l.len=0)/\(o.m=0/\o.day=0/\o.a=0/\o.b=0)/\(o.num=0/\o.bW=0/\o.aC=0/\o.ni=0/\o.net=0)/\o.gone=false
namespace iM
variable(i:iM)
def us:Sl:=zA (aT i.es i.month i.es.n)
def yw:Int:=if 0<i.l.len then i.l.int (i.l.len-1) 0 else-1
def qR:Int:=if 0<i.l.len then i.l.int (i.l.len-1) 4 else-1
def mD:Prop:=(1<=i.bW/\i.bW<=1099511627776/\i.qR<i.num)/\(i.st<=i.month/\i.month<=2153/\i.yw<i.month)/\i.us.len=i.month-i.st+1/\∀k:Int,0<=k->k<i.us.len->i.us.int k 0=i.st+k
def qU:Prop:=∀k:Int,0<=k->k<i.us.len->i.us.int k 2=0/\amt (i.us.int k 1)
def chk(c:Int):Prop:=(¬i.mD->c=2)/\(i.mD->1200<=i.l.len->c=5)/\(i.mD->i.l.len<1200->¬i.qU->c=350)/\(i.mD->i.l.len<1200->i.qU->c=0)
def learned(n:Int)(d1 p1:Sl):Prop:=aQ p1 i.p/\d1.len=imax i.d.len n/\(∀k:Int,0<=k->k<n->d1.int k 0=i.us.int k 1)/\∀k:Int,n<=k->k<i.d.len->d1.int k 0=i.d.int k 0
def gy(p4:Sl):Int:=sumTo (fun j=>p4.int (i.p.len+j) 3) (p4.len-i.p.len).toNat
def result(d4 p4:Sl)(aC ni mo g t:Int)(o:wo):Prop:=
 (o.e=0/\o.st=i.st/\fG o.d d4/\aQ o.p p4)/\(o.mo=mo/\o.g=g/\o.t=t)/\(o.m=i.month/\o.day=i.day/\o.a=i.p.len/\o.b=p4.len)/\(o.num=i.num/\o.bW=i.bW/\o.aC=aC/\o.ni=ni/\o.net=aC-ni)/\o.gone=false/\
 o.l=Sl.app (Sl.app Sl.nil i.l) (zA [[.int i.month, .int i.day, .int i.p.len, .int p4.len, .int i.num, .int i.bW, .int aC, .int ni, .int (aC-ni), .bool (decide False)]])
def fin(d4 p4:Sl)(o:wo):Prop:=(i.gy p4<0->o.err 351)/\(1099511627776<i.gy p4->o.err 3)/\
 (amt (i.gy p4)->∃r mo g t e,held i.ys i.mo i.g i.t i.month (i.gy p4) r mo g t e/\(e≠0->o.err e)/\(e=0->(1099511627776<r->o.err 3)/\(r<=1099511627776->i.result d4 p4 (i.gy p4) r mo g t o)))
def recover(d3 p3:Sl)(o:wo):Prop:=∃st4 d4 p4 e,DN i.st d3 p3 i.day i.month i.sa i.sb i.sc i.sd st4 d4 p4 e/\(e≠0->o.err e)/\(e=0->i.fin d4 p4 o)
def due(d2 p2:Sl)(o:wo):Prop:=∃n e,qA i.st d2 p2 i.month n e/\(e≠0->o.err e)/\(e=0->(n<=0->i.recover d2 p2 o)/\(1099511627776<n->o.err 3)/\
 (0<n->n<=1099511627776->∃st3 d3 p3 e3,aY i.st d2 p2 (zA [[.int i.day, .int i.month, .int 1, .int n]]) st3 d3 p3 e3/\(e3≠0->o.err e3)/\(e3=0->i.recover d3 p3 o)))
def settle(d1 p1:Sl)(o:wo):Prop:=∃st2 d2 p2 e,yJ i.st d1 p1 i.day i.month i.name i.two i.rt i.known st2 d2 p2 e/\(e≠0->o.err e)/\(e=0->i.due d2 p2 o)
def pay(o:wo):Prop:=(¬eH i.st i.d i.p i.mo i.g i.t i.l->o.err 2)/\(eH i.st i.d i.p i.mo i.g i.t i.l->∃c,i.chk c/\(c≠0->o.err c)/\
 (c=0->(1200<i.us.len->o.err 5)/\(i.us.len<=1200->∃d1 p1,i.learned i.us.len d1 p1/\i.settle d1 p1 o)))
end iM
def PZ(qE:Int)(_d _p:Sl)(Ii _g _t:Int)(_l es:Sl)(EW Pg Z5 Yq:Int)(_sa:Bool)(_sb:Sl)(_sc:Bool)(_sd:Sl)(name:ByteArray)(vY:Bool)(_rt _ys:Sl)(uI:Int):Prop:=Fv name/\es.len<=1000000
def qQ(st:Int)(d p:Sl)(mo g t:Int)(l es:Sl)(day month bW num:Int)(sa:Bool)(sb:Sl)(sc:Bool)(sd:Sl)(name:ByteArray)(two:Bool)(rt ys:Sl)(known:Int)
 (st':Int) (d' p':Sl) (dP g' t':Int) (l':Sl) (m' I4 a' b' num' Ql afB arW arX:Int) (akt:Bool) (e':Int):Prop:=
 iM.pay ⟨st,d,p,mo,g,t,l,es,day,month,bW,num,sa,sb,sc,sd,name,two,rt,ys,known⟩ ⟨st',d',p',dP,g',t',l',m',I4,a',b',num',Ql,afB,arW,arX,akt,e'⟩
def Nv(l:Sl):Int:=sumTo (fun i=>if l.bool i 9=true then 0 else l.int i 6) l.n
def afp(qE:Int)(_d _p:Sl)(Ii _g _t:Int)(_l:Sl):Prop:=True
def ZV(st:Int)(d p:Sl)(mo g t:Int)(l:Sl)(r e:Int):Prop:=(¬eH st d p mo g t l->r=0/\e=2)/\(eH st d p mo g t l->r=Nv l/\e=0)
def iH(p:Sl)(day k:Int):List (List D):=
 if p.int k 2=1\/p.int k 2=2 then [[.int day, .int (p.int k 1), .int 5, .int (0-p.int k 3)]]else if p.int k 2=4 then [[.int day, .int (p.int k 1), .int 6, .int (0-p.int k 3)]]else []
def pR(p:Sl)(day lo:Int):Nat->List (List D)
 |0=>[]
 |n+1=>pR p day lo n++iH p day (lo+n)
def OU(p:Sl)(EW:Int):Prop:=p.len<=4000/\∀i:Int,0<=i->i<p.len->II (p.int i 3)
def ZW(p:Sl)(day:Int)(r:Sl):Prop:=r=zA (pR p day 0 p.n)
def anN(x:Int):Int:=imin (imax x (-1099511627776)) 1099511627776
def pG(l:Sl)(num i:Int):Prop:=0<=i/\i<l.len/\l.int i 4=num/\¬l.bool i 9=true
def axY(l:Sl)(num:Int):Prop:=∀i,¬pG l num i
def uN(a:Sl)(i:Int)(b:Sl)(k:Int):Prop:=(a.int i 0=b.int k 0/\a.int i 1=b.int k 1/\a.int i 2=b.int k 2/\a.int i 3=b.int k 3)/\(a.int i 4=b.int k 4/\a.int i 5=b.int k 5/\a.int i 6=b.int k 6/\a.int i 7=b.int k 7/\a.int i 8=b.int k 8)
def axZ(l' l:Sl)(n:Int):Prop:=l'.len=l.len/\∀i:Int,0<=i->i<l.len->uN l' i l i/\(l'.bool i 9=true↔i=n\/l.bool i 9=true)
def Z7(st:Int)(d p:Sl)(mo g t:Int)(l:Sl):Prop:=zeroS st d p/\mo=0/\g=0/\t=0/\l.len=0
def abJ(mo g t:Int)(l:Sl)(n dP g' t':Int):Prop:=dP=mo/\(mo/12=l.int n 0/12->g'=imax (g-l.int n 6) 0/\t'=anN (t-l.int n 7))/\(¬mo/12=l.int n 0/12->g'=g/\t'=t)
def Yh(qE:Int)(_d _p:Sl)(Ii _g _t:Int)(_l:Sl)(Yq EW:Int):Prop:=True
def oU(st:Int)(d p:Sl)(mo g t:Int)(l:Sl)(num day:Int)(st':Int)(d' p':Sl)(dP g' t':Int)(l':Sl)(e:Int):Prop:=
 (¬eH st d p mo g t l->e=2/\Z7 st' d' p' dP g' t' l')/\(eH st d p mo g t l->(axY l num->e=6/\Z7 st' d' p' dP g' t' l')/\
  ∀n,pG l num n->∃st1 d1 p1 e1,aY st d p (zA (pR p day (l.int n 2) (l.int n 3-l.int n 2).toNat)) st1 d1 p1 e1/\(e1≠0->e=e1/\Z7 st' d' p' dP g' t' l')/\
   (e1=0->e=0/\st'=st/\fG d' d1/\aQ p' p1/\axZ l' l n/\abJ mo g t l n dP g' t'))
def OV(_n _d:Int):Prop:=True
def F9(n d:Int)(a:Bool)(b:Sl)(c:Bool)(e:Sl):Prop:=DK n d a b c e
def rX(f:Int)(l:Sl):Prop:=(0<=f/\f<=100000)/\l.len<=100000
def jJ(f:Int)(l r:Sl):Prop:=r.len=l.len/\∀i:Int,0<=i->i<l.len->r.int i 0=f+i/\r.int i 1=l.int i 0/\r.int i 2=0
def adK(x:Int)(l:Sl):Prop:=l.len=1/\l.int 0 0=0/\aK (yu x 100) (l.bool 0 1) (l.sub 0 2) (l.bool 0 3) (l.sub 0 4)/\(l.sub 0 2).len<=4/\(l.sub 0 4).len<=4
def Qm(x:Int)(y:Sl):Prop:=y.len=1/\y.int 0 0=1900/\adK x (y.sub 0 1)
def Nq(_x:Int):Prop:=True
def Hu(x:Int)(y:Sl):Prop:=Qm x y
def GX(n:ByteArray)(two:Bool)(s:Sl):Prop:=n=bytes [114]/\two=false/\s.len=1/\axV s 0 0 0 0
def Gf(_n:Int)(_a:Bool)(_b:Sl)(_c:Bool)(_d:Sl):Prop:=True
def oV(n:Int)(a:Bool)(b:Sl)(c:Bool)(d:Sl)(bW num:Int)(a':Bool)(b':Sl)(c':Bool)(d':Sl)(name:ByteArray)(two:Bool)(rt ys:Sl)(known:Int):Prop:=
 bW=7/\num=n/\(a'=a/\b'=b/\c'=c/\d'=d)/\GX name two rt/\Qm 0 ys/\known=0
def Qe:Prop:=True
def nH(r:Bool):Prop:=r=true
def Lr(_a:Bool)(_b:Sl)(_c:Bool)(_d:Sl):Prop:=True
def yM(_a:Bool)(b:Sl)(_c:Bool)(d:Sl)(r:Bool):Prop:=r=true↔b.len<=4/\d.len<=4
def az7(st:Int)(d p l es:Sl)(month:Int)(sb sd rt ys:Sl):Prop:=
 (d.len<=20/\p.len<=40/\l.len<=20/\es.len<=20/\rt.len<=6/\ys.len<=4)/\(sb.len<=4/\sd.len<=4)/\(∀k:Int,0<=k->k<rt.len->(rt.sub k 4).len<=4/\(rt.sub k 6).len<=4)/\
 (∀k:Int,0<=k->k<ys.len->(ys.sub k 1).len<=6/\∀j:Int,0<=j->j<(ys.sub k 1).len->((ys.sub k 1).sub j 2).len<=4/\((ys.sub k 1).sub j 4).len<=4)/\(month<st\/st<0\/2153<month\/month-st<=200)
def afq(qE:Int)(_d _p:Sl)(Ii _g _t:Int)(_l _es:Sl)(Pg Z5 Yq:Int)(_sa:Bool)(_sb:Sl)(_sc:Bool)(_sd:Sl)(_name:ByteArray)(vY:Bool)(_rt _ys:Sl)(uI:Int):Prop:=True
def ng(st:Int)(d p:Sl)(Ii _g _t:Int)(l es:Sl)(month Z5 Yq:Int)(_sa:Bool)(sb:Sl)(_sc:Bool)(sd:Sl)(_name:ByteArray)(vY:Bool)(rt ys:Sl)(uI:Int)(r:Bool):Prop:=r=true->az7 st d p l es month sb sd rt ys
def lQ(a b:Sl):Prop:=a.len=b.len/\∀i:Int,0<=i->i<a.len->uN a i b i/\(a.bool i 9=true↔b.bool i 9=true)
def aku(st:Int)(d p:Sl)(mo g t:Int)(l:Sl)(st':Int)(d' p':Sl)(dP g' t':Int)(l':Sl):Prop:=Z4 st d p st' d' p'/\(mo=dP/\g=g'/\t=t')/\lQ l l'
def VK(qE:Int)(_d _p:Sl)(Ii _g _t:Int)(_l:Sl)(aCd:Int)(Ut _p':Sl)(aCe _g' _t':Int)(_l':Sl):Prop:=True
def uF(st:Int)(d p:Sl)(mo g t:Int)(l:Sl)(st':Int)(d' p':Sl)(dP g' t':Int)(l':Sl)(r:Bool):Prop:=r=true↔aku st d p mo g t l st' d' p' dP g' t' l'
def Z8(st:Int)(d p:Sl)(mo g t:Int)(l:Sl)(st':Int)(d' p':Sl)(dP g' t':Int)(l':Sl):Prop:=(st'=st/\d'=d/\p'=p)/\(dP=mo/\g'=g/\t'=t)/\lQ l' l
def aa5(qE:Int)(d p:Sl)(Ii _g _t:Int)(l:Sl):Prop:=d.len<=1000000/\p.len<=1000000/\l.len<=1000000
def OX(st:Int)(d p:Sl)(mo g t:Int)(l:Sl)(st':Int)(d' p':Sl)(dP g' t':Int)(l':Sl):Prop:=Z8 st d p mo g t l st' d' p' dP g' t' l'
def VL(qE:Int)(_d _p:Sl)(Ii _g _t:Int)(l:Sl):Prop:=l.len<=1000000
def VN(st:Int)(d p:Sl)(mo g t:Int)(l:Sl)(st':Int)(d' p':Sl)(dP g' t':Int)(l':Sl):Prop:=Z8 st d p mo g t l st' d' p' dP g' t' l'
def Ls(qE:Int)(_d _p:Sl)(Ii _g _t:Int)(_l:Sl):Prop:=True
def bV(st:Int)(d p:Sl)(mo g t:Int)(l:Sl)(r:Bool):Prop:=r=true↔eH st d p mo g t l
def acL(qE:Int)(_d _p:Sl)(Ii _g _t:Int)(_l:Sl)(Yq EW:Int):Prop:=True
def jX(st:Int)(d p:Sl)(mo g t:Int)(l:Sl)(num day:Int)(st':Int)(d' p':Sl)(dP g' t':Int)(l':Sl)(e:Int):Prop:=oU st d p mo g t l num day st' d' p' dP g' t' l' e
def Yk(_a:Bool)(_b:Sl)(_c:Bool)(_d:Sl):Prop:=True
def Dc(a:Bool)(b:Sl)(c:Bool)(d:Sl)(r:Bool):Prop:=r=true↔jK a b c d
def Yl(qE:Int)(_d _p:Sl)(_m:Int)(_a:Bool)(_b:Sl)(_c:Bool)(_f:Sl):Prop:=True
def jW(st:Int)(d p:Sl)(m:Int)(a:Bool)(b:Sl)(c:Bool)(f:Sl)(r e:Int):Prop:=Dj st d p m a b c f r e
def abe(qE:Int)(_d _p:Sl)(EW _m:Int)(_a:Bool)(_b:Sl)(_c:Bool)(_f:Sl):Prop:=True
def JV(st:Int)(d p:Sl)(day m:Int)(a:Bool)(b:Sl)(c:Bool)(f:Sl)(s:Sl)(e:Int):Prop:=Aa st d p day m a b c f s e
def wu(a:Bool)(b:Sl)(c:Bool)(d:Sl)(a':Bool)(b':Sl)(c':Bool)(d':Sl):Prop:=(a=a'/\dL b b')/\c=c'/\dL d d'
def pU(l m:Sl):Prop:=l.len=m.len/\∀i:Int,0<=i->i<l.len->l.int i 0=m.int i 0/\wu (l.bool i 1) (l.sub i 2) (l.bool i 3) (l.sub i 4) (m.bool i 1) (m.sub i 2) (m.bool i 3) (m.sub i 4)
def wB(y z:Sl):Prop:=y.len=z.len/\∀i:Int,0<=i->i<y.len->y.int i 0=z.int i 0/\pU (y.sub i 1) (z.sub i 1)
def Ns(_l:Sl):Prop:=True
def iZ(l:Sl)(r:Bool):Prop:=r=true↔bZ l
def VP(l:Sl)(m A:Int):Prop:=bZ l/\(1<=m/\m<=12)/\amt A
def abf(l:Sl)(m A:Int)(a:Bool)(b:Sl)(c:Bool)(d:Sl):Prop:=aK (TT l m A) a b c d/\okF a b c d
def Ur(_l:Sl)(_m _A:Int):Prop:=True
def yP(l:Sl)(m A r e:Int):Prop:=lZ l m A r e
def Ym(_y:Sl)(azm:Int):Prop:=True
def Df(y:Sl)(year:Int)(s:Sl)(e:Int):Prop:=(¬qF y->s.len=0/\e=2)/\(qF y->zy y year->s.len=0/\e=6)/\(qF y->∀i,vZ y year i->s=y.sub i 1/\e=0)
def NZ(_y:Sl)(Ii _g _t Pg axX:Int):Prop:=True
def cO(y:Sl)(mo g t month aC r dP g' t' e:Int):Prop:=held y mo g t month aC r dP g' t' e
def Lu(qE:Int)(_d _p:Sl)(_m axW:Int):Prop:=True
def je(st:Int)(d p:Sl)(m due:Int)(st':Int)(d' p':Sl)(e:Int):Prop:=dU st d p m due st' d' p' e
def Yn(y:Sl):Prop:=y.len<=1000/\∀i:Int,0<=i->i<y.len->(y.sub i 1).len<=1000
def Yo(y z:Sl):Prop:=wB z y
def abg(st:Int)(d p:Sl)(mo g t:Int)(l:Sl):Prop:=eH st d p mo g t l
def abj(qE:Int)(_d _p:Sl)(Ii _g _t:Int)(l:Sl)(r:Int):Prop:=r=Nv l
def aft(qE:Int)(_d _p:Sl)(Ii _g _t:Int)(_l es:Sl)(EW Pg Z5 Yq:Int)(_sa:Bool)(_sb:Sl)(_sc:Bool)(_sd:Sl)(name:ByteArray)(vY:Bool)(_rt _ys:Sl)(uI:Int):Prop:=Fv name/\es.len<=1000000
def dJ(st:Int)(d p:Sl)(mo g t:Int)(l es:Sl)(day month bW num:Int)(sa:Bool)(sb:Sl)(sc:Bool)(sd:Sl)(name:ByteArray)(two:Bool)(rt ys:Sl)(known:Int)
 (st':Int) (d' p':Sl) (dP g' t':Int) (l':Sl) (m' I4 a' b' num' Ql afB arW arX:Int) (akt:Bool) (e':Int):Prop:=
 qQ st d p mo g t l es day month bW num sa sb sc sd name two rt ys known st' d' p' dP g' t' l' m' I4 a' b' num' Ql afB arW arX akt e'
def afu(qE:Int)(_d _p:Sl)(Ii _g _t:Int)(_l _es:Sl)(EW Pg Z5 Yq:Int)(_sa:Bool)(_sb:Sl)(_sc:Bool)(_sd:Sl)(name:ByteArray)(vY:Bool)(_rt _ys:Sl)(uI:Int):Prop:=Fv name
def oW(qE:Int)(_d _p:Sl)(Ii _g _t:Int)(_l _es:Sl)(EW Pg Z5 Yq:Int)(_sa:Bool)(_sb:Sl)(_sc:Bool)(_sd:Sl)(_name:ByteArray)(vY:Bool)(_rt _ys:Sl)(uI:Int)(r:Bool):Prop:=r=true
end Go.Sx.N
