/-
 Several texts in one. Conditions: none.
-/
import Derived.Test.YtccbjhfdfbaekaaGreatNumVA
import Derived.Test.YtccbjhfdfbaekaaGreatNumFc
open Go.Sx.Sl renaming lit->zA,app->zC,nil->zD
open Int renaming le_refl->zB,gcd->zF,lt_or_le->zG,mul_le_mul_of_nonneg_right->zI,tdiv_eq_ediv_of_dvd->zL,mul_ediv_cancel_left->zP
open Bool renaming decide_eq_true->zE
open Classical renaming not_not->zH
set_option linter.unusedVariables false
set_option linter.unusedSimpArgs false
namespace Go.Sx.N
theorem auu:anG:=by
 intro x _ y _ _;exact⟨fun h=>absurd rfl h,fun _=>⟨fun h=>absurd rfl h,fun _=>⟨fun h=>⟨.inl ⟨rfl,h⟩,trivial⟩,fun h=>⟨fun g=>⟨.inr (.inr ⟨rfl,g⟩),trivial⟩,fun g=>⟨.inr (.inl ⟨rfl,by omega⟩),trivial⟩⟩⟩⟩⟩
theorem apA:ah0:=by
 intro s _ _ sm;have hs:=iW sm;have s0:=len0 s;refine⟨fun i=>(0<=i/\i<=s.len)/\∀j:Int,0<=j->j<i->s.int j 0=0,fun i=>(s.len-i).toNat,⟨⟨zB _,s0⟩,fun j h0 h1=>by omega⟩,fun i _ hJ=> ?_⟩
 obtain⟨⟨i0,i1⟩,hz⟩:=hJ;refine⟨fun hi=>⟨i0,hi,fun _=>⟨fun hn=>⟨.inl ⟨i,i0,hi,rfl,hn,hz⟩,trivial⟩,fun hn=> ?_⟩⟩,fun hi=>⟨.inr ⟨rfl,fun j j0 j1=>hz j j0 (by omega)⟩,trivial⟩⟩
 have hn:s.int i 0=0:=zH.1 hn;refine⟨by rw[au];omega,⟨⟨by omega,by omega⟩,fun j j0 j1=> ?_⟩,by show(s.len-(i+1)).toNat<(s.len-i).toNat;omega⟩
 by_cases h:j<i
 ·exact hz j j0 h
 ·have:j=i:=by omega
  subst this;exact hn
theorem ahk:ZE:=by
 intro a _ b _ k _ nn nl _ dn dl _ a' _ b' _ k' _ nn' nl' _ dn' dl' _ _;refine⟨trivial,fun x _ hx=>⟨trivial,fun y _ hy=>⟨trivial,fun z _ hz=>⟨trivial,fun r _ hr=>⟨?_,trivial⟩⟩⟩⟩⟩
 have hx:(x=-1/\a<a')\/(x=0/\a=a')\/(x=1/\a'<a):=hx;have hy:(y=-1/\b<b')\/(y=0/\b=b')\/(y=1/\b'<b):=hy;have hz:(z=-1/\k<k')\/(z=0/\k=k')\/(z=1/\k'<k):=hz;have l3:(zA [[D.int x],[.int y],[.int z]]).len=3:=rfl;have v0:(zA [[D.int x],[.int y],[.int z]]).int 0 0=x:=rfl;have v1:(zA [[D.int x],[.int y],[.int z]]).int 1 0=y:=rfl;have v2:(zA [[D.int x],[.int y],[.int z]]).int 2 0=z:=rfl;have:(r=x/\x≠0)\/(x=0/\r=y/\y≠0)\/(x=0/\y=0/\r=z):=by
  rcases hr with⟨i,i0,i1,e,en,h⟩|⟨e,h⟩
  ·rw[l3]at i1
   rcases(show i=0\/i=1\/i=2 by omega)with rfl|rfl|rfl
   ·rw[v0]at e;exact .inl ⟨e,by omega⟩
   ·rw[v1]at e
    have:=h 0 (by omega) (by omega);rw[v0]at this;exact .inr (.inl ⟨this,e,by omega⟩)
   ·rw[v2]at e
    have h0:=h 0 (by omega) (by omega);have h1:=h 1 (by omega) (by omega);rw[v0]at h0;rw[v1]at h1;exact .inr (.inr ⟨h0,h1,e⟩)
  ·have h0:=h 0 (by omega) (by rw[l3];omega)
   have h1:=h 1 (by omega) (by rw[l3];omega);have h2:=h 2 (by omega) (by rw[l3];omega);rw[v0]at h0;rw[v1]at h1;rw[v2]at h2;exact .inr (.inr ⟨h0,h1,by omega⟩)
 show afz a b k a' b' k' r;unfold afz ltK;omega
theorem amy:ae4:=by
 intro a b _ c d _ hp;exact⟨hp.1,fun b' _ hb=>⟨hp.2,fun d' _ hd=>⟨⟨⟨rfl,hb⟩,rfl,hd⟩,trivial⟩⟩⟩
theorem apB:ah1:=by
 intro two a _ b _ k _ nn nl _ dn dl _ _;simp only[zE];refine⟨fun i=>(0<=i/\i<=2)/\(0<i->-2147483648<=a/\a<=2147483647)/\(1<i->-2147483648<=b/\b<=2147483647),fun i=>(2-i).toNat,⟨⟨by omega,by omega⟩,fun h=>by omega,fun h=>by omega⟩,fun i _ hJ=> ?_⟩
 obtain⟨⟨i0,i1⟩,ha,hb⟩:=hJ;have no:∀{p:Prop},(O9 two a b k nn nl dn dl->False)->lJ two a b k nn nl dn dl (decide False)/\True:=fun h=>⟨⟨fun e=>by simp at e,fun e=>absurd e h⟩,trivial⟩
 refine⟨fun hi=>⟨i0,hi,fun e0=>⟨fun h=>no (p:=True) fun e=>by have:=e.1;omega,fun h=>⟨fun g=>no (p:=True) fun e=>by have:=e.1;omega,fun g=>⟨by rw[au];omega,⟨⟨by omega,by omega⟩,fun _=>by omega,fun h=>by omega⟩,by show(2-(i+1)).toNat<(2-i).toNat;omega⟩⟩⟩,
  fun e0=>⟨fun h=>no (p:=True) fun e=>by have:=e.2.1;omega,fun h=>⟨fun g=>no (p:=True) fun e=>by have:=e.2.1;omega,fun g=>⟨by rw[au];omega,⟨⟨by omega,by omega⟩,fun _=>ha (by omega),fun h=>by omega⟩,by show(2-(i+1)).toNat<(2-i).toNat;omega⟩⟩⟩⟩,fun hi=> ?_⟩
 have ha:=ha (by omega);have hb:=hb (by omega);have core:(two=true\/b=0)->((0<=k->(k<65536->vT nn nl dn dl/\∀r:Bool,bD nn nl dn dl r->lJ two a b k nn nl dn dl r/\True)/\(¬k<65536->lJ two a b k nn nl dn dl (decide False)/\True))/\(¬0<=k->lJ two a b k nn nl dn dl (decide False)/\True)):=fun ht=>
  ⟨fun h0=>⟨fun h1=>⟨trivial,fun r hr=>⟨⟨fun e=>⟨ha,hb,ht,⟨h0,h1⟩,hr.1 e⟩,fun e=>hr.2 e.2.2.2.2⟩,trivial⟩⟩,fun h1=>no (p:=True) fun e=>by have:=e.2.2.2.1;omega⟩,fun h0=>no (p:=True) fun e=>by have:=e.2.2.2.1;omega⟩
 exact⟨fun ht=>core (.inl ht),fun ht=>⟨fun hb0=>core (.inr hb0),fun hb0=>no (p:=True) fun e=>by rcases e.2.2.1 with h|h;exact ht h;exact hb0 h⟩⟩
theorem amx:ae3:=by
 intro n two s _ hn;simp only[zE];have s0:=len0 s;have rn:iA (ylen n):=by
  have h:ylen n<=9223372036854775807:=hn;have:0<=ylen n:=Int.natCast_nonneg _;rw[au];omega
 have no:¬nZ n two s->qw n two s (decide False)/\True:=fun h=>⟨⟨fun e=>by simp at e,fun e=>absurd e h⟩,trivial⟩
 refine⟨rn,fun h=>no fun e=>by have:=e.1.1;omega,fun h1=>⟨rn,fun h=>no fun e=>by have:=e.1.2;omega,fun h2 _=>⟨fun h=>no fun e=>by have:=e.2.1;omega,fun h3 _=>⟨by rw[au];omega, ?_⟩⟩⟩⟩
 refine⟨fun i=>(-1<=i/\i<s.len)/\∀j:Int,i<j->0<j->j<s.len->¬LD s j s (j-1),fun i=>i.toNat,⟨⟨by omega,by omega⟩,fun j h0 _ h1=>by omega⟩,fun i _ hJ=> ?_⟩
 obtain⟨⟨i0,i1⟩,hz⟩:=hJ;refine⟨fun hi=>⟨by omega,i1,by rw[au];omega,by omega,by omega, ?_⟩,fun hi _=> ?_⟩
 ·constructor<;>
  ·intro _ _ _ _ _ _ _ _ _ _
   refine⟨trivial,fun r _ hr=> ?_⟩
   have hr:afz (s.int i 0) (s.int i 1) (s.int i 2) (s.int (i-1) 0) (s.int (i-1) 1) (s.int (i-1) 2) r:=hr;refine⟨fun h=>no fun e=> ?_,fun h=>⟨by rw[au];omega,⟨⟨by omega,by omega⟩,fun j j0 jp j1=> ?_⟩,by show(i-1).toNat<i.toNat;omega⟩⟩
   ·have g:=e.2.2.1 i (by omega) i1
    unfold LD at g;rcases hr with⟨_,k⟩|⟨k,_⟩|⟨k,_⟩
    ·exact g k
    ·omega
    ·omega
   ·by_cases c:i<j
    ·exact hz j c jp j1
    ·have:j=i:=by omega
     subst this;intro g;unfold LD at g;unfold afz ltK at hr;unfold ltK at g;omega
 ·have so:zZ s:=fun j j0 j1=>hz j (by omega) j0 j1
  refine⟨fun i=>(0<=i/\i<=s.len)/\∀j:Int,0<=j->j<i->JY two s j,fun i=>(s.len-i).toNat,⟨⟨zB _,s0⟩,fun j h0 h1=>by omega⟩,fun i _ hJ=> ?_⟩
  obtain⟨⟨i0,i1⟩,hz⟩:=hJ;refine⟨fun hi=>⟨i0,hi,fun _ _ _ _ _=>⟨trivial,fun r hr=>⟨fun hn=>⟨⟨fun e=>absurd i0 (of_decide_eq_true e),fun e=>absurd (hr.2 (e.2.2.2 i i0 hi)) hn⟩,trivial⟩,fun hn=>⟨by rw[au];omega,⟨⟨by omega,by omega⟩,fun j j0 j1=> ?_⟩,by show(s.len-(i+1)).toNat<(s.len-i).toNat;omega⟩⟩⟩⟩,fun hi=>⟨⟨fun _=>⟨⟨by omega,by omega⟩,by omega,so,fun j j0 j1=>hz j j0 (by omega)⟩,fun _=>by decide⟩,trivial⟩⟩
  by_cases c:j<i
  ·exact hz j j0 c
  ·have:j=i:=by omega
   subst this;exact hr.1 (zH.1 hn)
theorem amw:ae2:=by
 intro n rn _;rw[au]at rn;simp only[zE];refine⟨fun s=>s=(if n<0 then-n else n),⟨fun h=> ?_,fun h=> ?_⟩,fun s rs hs=> ?_⟩
 ·rw[if_pos h,wu64,wu64];omega
 ·rw[if_neg h,wu64];omega
 have hs:s=(if n<0 then-n else n):=hs
 have hs0:0<=s/\s<=9223372036854775808:=by rw[hs];split<;>omega
 refine⟨fun u b l=>b=decide (n<0)/\0<=u/\u<=s/\vl l+u*65536^l.n=s/\0<=vl l/\(u=0->bT l)/\l.len<=4,fun u _ _=>u.toNat,⟨rfl,hs0.1,zB _, ?_,zB _,fun _=>JX,by decide⟩,fun u ru b l rl hj=> ?_⟩
 ·show 0+s*65536^0=s
  rw[Int.pow_zero];omega
 obtain⟨rfl,u0,us,hv,hl0,hn,hl4⟩:=hj;have e1:∀d:Int,(zA [[.int d]]).len=1:=fun d=>rfl
 refine⟨fun hp=> ?_,fun hz=> ?_⟩
 ·have hlen:l.n<4:=by
   have h1:1*65536^l.n<=u*65536^l.n:=zI (by omega) (Int.le_of_lt (fC (by decide) _));have h2:(65536:Int)^l.n<65536^4:=by
    have:(65536:Int)^4=18446744073709551616:=rfl;omega
   exact Qi (B:=65536) (by decide) h2
  have sh:shr .u64 u 16=u/65536:=rC .u64 (x:=u) (n:=16) (by decide);rw[sh,afw];have hval:vl (zC l (zA [[.int (u % 65536)]]))=vl l+u % 65536*65536^l.n:=by unfold vl;rw[Gq]
  have hpn:=fC (B:=65536) (by decide) l.n;refine⟨by rw[e1];unfold Sl.len;omega,by decide,dX.2 (by omega),⟨rfl,by omega,by omega, ?_, ?_,fun hz=> ?_, ?_⟩,by show(u/65536).toNat<u.toNat;omega⟩
  ·rw[hval]
   show _+u/65536*65536^(l.n+1)=s;rw[Int.pow_succ,<-hv];generalize(65536:Int)^l.n=Q at*;have e2:u % 65536=u-65536*(u/65536):=by omega
   rw[e2];generalize u/65536=q at*
   grind
  ·rw[hval]
   have:0<=u % 65536*65536^l.n:=Int.mul_nonneg (by omega) (by omega);omega
  ·intro _
   rw[zJ,show l.len+1-1=l.len from by omega,aG (zB _),Int.sub_self]
   show u % 65536≠0;omega
  ·rw[zJ]
   unfold Sl.len;omega
 ·have hu:u=0:=by omega
  rw[hu,Int.zero_mul,Int.add_zero]at hv;have hN:=hn hu;refine⟨⟨⟨hN,fun h0=> ?_⟩, ?_,hl4⟩,trivial⟩
  ·have:vl l=0:=by have:=Gt (n:=false) h0;unfold zv at this;rw[if_neg (by decide)]at this;exact this
   rw[decide_eq_false_iff_not];split at hs<;>omega
  ·unfold zv
   by_cases h:n<0
   ·rw[if_pos (by simpa using h),hv,hs,if_pos h];omega
   ·rw[if_neg (by simpa using h),hv,hs,if_neg h]
theorem alg{d:Int}:yu 0 d=0:=by
 unfold yu;split
 ·rfl
 ·exact Rat.zero_divInt d
theorem aog{n d:Int}(h:d<1):yu n d=0:=by unfold yu;rw[if_pos h]
theorem asL{n d:Int}(h:1<=d):yu n d=Rat.divInt n d:=by unfold yu;rw[if_neg (by omega)]
theorem apz:ahZ:=by
 intro n rn d rd _;rw[au]at rn rd;have zero:∀(h:yu n d=0),CY 1/\∀b2:Bool,∀s3:Sl,Ranged s3 [some .u16]->CZ 1 (decide (b2=true)) s3->DK n d (decide False) zD (decide (b2=true)) s3/\True:=fun h=>⟨trivial,fun b s rs hw=>by
  simp only[zE]at hw⊢;refine⟨⟨?_,by decide,hw.2.2⟩,trivial⟩
  rw[h];have z:zv (decide False) zD=0:=Gt rfl;exact Pm (n:=0) (aj rs) ⟨JX,fun _=>rfl⟩ z hw.1 hw.2.1⟩
 refine⟨fun h=>zero (aog h),fun h1=>⟨fun h=>zero (by rw[h];exact alg),fun hn0=> ?_⟩⟩
 refine⟨fun s=>s=(if n<0 then-n else n),⟨fun h=> ?_,fun h=> ?_⟩,fun s rs hs=> ?_⟩
 ·rw[if_pos h,wu64,wu64];omega
 ·rw[if_neg h,wu64];omega
 have hs:s=(if n<0 then-n else n):=hs
 have hs0:0<s/\s<=9223372036854775808:=by rw[hs];split<;>omega
 have gs:zF s d=zF n d:=by
  rw[hs];split
  ·exact Int.neg_gcd
  ·rfl
 have wd:IntKind.wrap .u64 d=d:=by rw[wu64];omega
 rw[wd];refine⟨fun a b=>0<=a/\0<=b/\b<=9223372036854775807/\(zF a b=zF n d),fun _ b=>b.toNat,⟨by omega,by omega,by omega,gs⟩,fun a ra b rb hj=> ?_⟩
 obtain⟨a0,b0,b1,hg⟩:=hj;refine⟨fun hp=> ?_,fun hz=> ?_⟩
 ·rw[Int.tmod_eq_emod_of_nonneg a0]
  have m0:=Int.emod_nonneg a (show b≠0 by omega);have m1:=Int.emod_lt_of_pos a hp;refine⟨by omega,dX.2 (by omega),⟨by omega,m0,by omega, ?_⟩,by show(a % b).toNat<b.toNat;omega⟩
  rw[<-hg];have e:=Int.mul_ediv_add_emod a b;exact gcd_div (x:=a) (y:=b) (q:=a/b) (r:=a % b) (by omega)
 ·have hb:b=0:=by omega
  subst hb;have ga:a=(zF n d:Nat):=by
   rw[<-hg,Int.gcd_zero_right];omega
  have gd:a∣d:=by rw[ga];exact Int.gcd_dvd_right ..
  have gn:a∣n:=by rw[ga];exact Int.gcd_dvd_left ..
  have aDh:0<a:=by
   rcases Int.lt_or_eq_of_le a0 with h|h
   ·exact h
   ·rw[<-h]at gd;have:=Int.zero_dvd.1 gd;omega
  have ad:a<=d:=Int.le_of_dvd (by omega) gd;have wa:IntKind.wrap .i64 a=a:=wrap_id .i64 _ (by show(-9223372036854775808:Int)<=_/\_<=(9223372036854775807:Int);omega);rw[wa,zL gn,zL gd];obtain⟨kn,hkn⟩:=gn;obtain⟨kd,hkd⟩:=gd;have en:n/a=kn:=by rw[hkn];exact zP _ (by omega)
  have ed:d/a=kd:=by rw[hkd];exact zP _ (by omega)
  have bn:-9223372036854775808<=kn/\kn<=9223372036854775807:=by
   rcases zG kn 0 with h|h
   ·have:a*kn<=1*kn:=Int.mul_le_mul_of_nonpos_right (by omega) (by omega)
    omega
   ·have:1*kn<=a*kn:=zI (by omega) h
    omega
  have bd:0<=kd/\kd<=9223372036854775807:=by
   have h0:0<=kd:=by
    rw[<-ed];exact Int.ediv_nonneg (by omega) (by omega)
   have:1*kd<=a*kd:=zI (by omega) h0;omega
  rw[en,ed];refine⟨by omega,by rw[au];omega,by omega,by rw[au];omega,trivial,fun x l rl hx=>⟨trivial,fun y k rk hy=>⟨?_,trivial⟩⟩⟩
  simp only[zE]at hx hy⊢;refine⟨?_,hx.2.2,hy.2.2⟩
  rw[asL (by omega)];exact Ry (g:=a) (aj rk) hx.1 hy.1 (by omega) ga (by rw[hx.2.1,en]) (by rw[hy.2.1,ed])
def cp(s:Sl)(i:Int):List D:=[.int (s.int i 0), .int (s.int i 1), .int (s.int i 2), .bool (decide (s.bool i 3=true)),Sl.d (s.sub i 4), .bool (decide (s.bool i 5=true)),Sl.d (s.sub i 6)]
theorem oI.refl(a:Bool)(b:Sl)(c:Bool)(d:Sl):oI a b c d a b c d:=⟨⟨rfl,dL.refl b⟩,rfl,dL.refl d⟩
theorem oI.symm{a c a' c':Bool}{b d b' d':Sl}(h:oI a b c d a' b' c' d'):oI a' b' c' d' a b c d:=⟨⟨h.1.1.symm,h.1.2.symm⟩,h.2.1.symm,h.2.2.symm⟩
theorem oI.trans{a c a' c' a'' c'':Bool}{b d b' d' b'' d'':Sl}(h:oI a b c d a' b' c' d')(g:oI a' b' c' d' a'' b'' c'' d''):oI a b c d a'' b'' c'' d'':=
 ⟨⟨h.1.1.trans g.1.1,h.1.2.trans g.1.2⟩,h.2.1.trans g.2.1,h.2.2.trans g.2.2⟩
theorem jm.refl(s:Sl)(i:Int):jm s i s i:=⟨rfl,rfl,rfl,oI.refl _ _ _ _⟩
theorem jm.symm{s t:Sl}{i k:Int}(h:jm s i t k):jm t k s i:=⟨h.1.symm,h.2.1.symm,h.2.2.1.symm,h.2.2.2.symm⟩
theorem jm.trans{s t u:Sl}{i k j:Int}(h:jm s i t k)(g:jm t k u j):jm s i u j:=⟨h.1.trans g.1,h.2.1.trans g.2.1,h.2.2.1.trans g.2.2.1,h.2.2.2.trans g.2.2.2⟩
theorem Xt{s t:Sl}{i k:Int}(h:s.f i.toNat=t.f k.toNat):jm s i t k:=by
 unfold jm abG Sl.int Sl.bool Sl.sub;rw[h];exact⟨rfl,rfl,rfl,oI.refl _ _ _ _⟩
theorem asM{a b:Sl}{i:Int}(h:0<=i)(h':i<a.len):(zC a b).f i.toNat=a.f i.toNat:=by
 have:i.toNat<a.n:=by unfold Sl.len at h';omega
 funext j
 show(if i.toNat<a.n then a.f i.toNat j else b.f (i.toNat-a.n) j)=_
 rw[if_pos this]
theorem avY{s:Sl}{m i:Int}:(Sl.part s 0 m).f i.toNat=s.f i.toNat:=by
 funext j
 show s.f ((0:Int).toNat+i.toNat) j=_
 congr 1
 simp
theorem avZ{a:Sl}{l:List D}{i:Int}(h:i=a.len):(zC a (zA [l])).f i.toNat=fun j=>l.getD j (.int 0):=by
 subst h;have:¬(a.len).toNat<a.n:=by unfold Sl.len;omega
 funext j
 show(if(a.len).toNat<a.n then a.f (a.len).toNat j else(zA [l]).f ((a.len).toNat-a.n) j)=_
 rw[if_neg this];have e:(a.len).toNat-a.n=0:=by unfold Sl.len;omega
 rw[e];rfl
theorem aoh{a s:Sl}{k m:Int}(h:m=a.len):jm (zC a (zA [cp s k])) m s k:=by
 have e:=avZ (l:=cp s k) h;unfold jm abG Sl.int Sl.bool Sl.sub;rw[e];refine⟨rfl,rfl,rfl,⟨?_,dL.refl _⟩, ?_,dL.refl _⟩
 ·show decide (s.bool k 3=true)=s.bool k 3
  simp
 ·show decide (s.bool k 5=true)=s.bool k 5
  simp
theorem not_lt_trans{a b k a' b' k' a'' b'' k'':Int}(h:¬ltK a b k a' b' k')(g:¬ltK a' b' k' a'' b'' k''):¬ltK a b k a'' b'' k'':=by
 unfold ltK at*;omega
theorem adg{s:Sl}(h:zZ s){i:Int}(h0:0<=i):∀(n:Nat),i+n<s.len->¬LD s (i+n) s i
 |0,_=>by rw[show i+((0:Nat):Int)=i by omega];unfold LD ltK;omega
 |n+1,hn=>by
  have ih:=adg h h0 n (by omega);have st:=h (i+(n+1:Nat)) (by omega) hn;rw[show i+((n+1:Nat):Int)-1=i+n by omega]at st;exact not_lt_trans st ih
theorem Vr{s:Sl}(h:zZ s){i j:Int}(h0:0<=i)(hij:i<=j)(hj:j<s.len):¬LD s j s i:=by
 have:=adg h h0 (j-i).toNat (by omega)
 rwa[show i+((j-i).toNat:Int)=j by omega]at this
def YP(s:Sl)(known n k:Int):Prop:=(0<=k/\k<n)/\s.int k 2<=known/\∀j:Int,k<j->j<n->s.int j 0=s.int k 0->s.int j 1=s.int k 1->known<s.int j 2
def Vs(s:Sl)(known n:Int)(t:Sl):Prop:=
 ∃g:Int->Int,(∀i:Int,0<=i->i<t.len->YP s known n (g i)/\jm t i s (g i))/\(∀i j:Int,0<=i->i<j->j<t.len->g i<g j)/\(∀k:Int,YP s known n k->∃i:Int,0<=i/\i<t.len/\g i=k)
theorem av1{s:Sl}{known:Int}:Vs s known 0 zD:=
 ⟨fun _=>0,fun i h0 h1=>by rw[len_nil]at h1;omega,fun i j h0 h1 h2=>by rw[len_nil]at h2;omega,fun k h=>by have:=h.1;omega⟩
theorem asN{s t:Sl}{known n:Int}(hk:known<s.int n 2)(h:Vs s known n t):Vs s known (n+1) t:=by
 have e:∀k,YP s known (n+1) k↔YP s known n k:=fun k=>by
  constructor
  ·intro g
   refine⟨⟨g.1.1, ?_⟩,g.2.1,fun j h1 h2=>g.2.2 j h1 (by omega)⟩
   rcases zG k n with c|c
   ·exact c
   ·have e:k=n:=by have:=g.1;omega
    have:=g.2.1;rw[e]at this;omega
  ·intro g
   refine⟨⟨g.1.1,by have:=g.1;omega⟩,g.2.1,fun j h1 h2 e0 e1=> ?_⟩
   rcases zG j n with c|c
   ·exact g.2.2 j h1 c e0 e1
   ·have e:j=n:=by omega
    rw[e];exact hk
 obtain⟨g,h1,h2,h3⟩:=h;exact⟨g,fun i i0 i1=>⟨(e _).2 (h1 i i0 i1).1,(h1 i i0 i1).2⟩,h2,fun k hk=>h3 k ((e k).1 hk)⟩
theorem agr{s t u:Sl}{known n m:Int}{g:Int->Int}(hn:0<=n)(hk:s.int n 2<=known)
  (h1:∀i:Int,0<=i->i<t.len->YP s known n (g i)/\jm t i s (g i)) (h2:∀i j:Int,0<=i->i<j->j<t.len->g i<g j) (h3:∀k:Int,YP s known n k->∃i:Int,0<=i/\i<t.len/\g i=k)
  (hm0:0<=m) (hm:m<=t.len) (hu:u.len=m) (hrow:∀i:Int,0<=i->i<m->u.f i.toNat=t.f i.toNat)
  (hne:∀i:Int,0<=i->i<m->¬(s.int (g i) 0=s.int n 0/\s.int (g i) 1=s.int n 1))
  (hcov:∀i:Int,m<=i->i<t.len->s.int (g i) 0=s.int n 0/\s.int (g i) 1=s.int n 1):Vs s known (n+1) (zC u (zA [cp s n])):=by
 have hl:(zC u (zA [cp s n])).len=m+1:=by rw[zJ,hu]
 refine⟨fun x=>if x<m then g x else n,fun i i0 i1=> ?_,fun i j i0 ij j1=> ?_,fun k k1=> ?_⟩
 ·rw [hl]at i1
  by_cases c:i<m
  ·simp only[if_pos c]
   obtain⟨a,b⟩:=h1 i i0 (by omega);refine⟨⟨⟨a.1.1,by have:=a.1;omega⟩,a.2.1,fun j j1 j2 e0 e1=> ?_⟩, ?_⟩
   ·rcases zG j n with d|d
    ·exact a.2.2 j j1 d e0 e1
    ·have e:j=n:=by omega
     rw[e]at e0 e1;exact absurd ⟨e0.symm,e1.symm⟩ (hne i i0 c)
   ·refine jm.trans (Xt (t:=t) (k:=i) ?_) b
    rw[asM i0 (by omega)];exact hrow i i0 c
  ·have e:i=m:=by omega
   simp only[if_neg c];exact⟨⟨⟨hn,by omega⟩,hk,fun j j1 j2=>by omega⟩,aoh (by omega)⟩
 ·rw[hl]at j1
  by_cases c:j<m
  ·simp only[if_pos c,if_pos (show i<m by omega)]
   exact h2 i j i0 ij (by omega)
  ·simp only[if_neg c,if_pos (show i<m by omega)]
   exact(h1 i i0 (by omega)).1.1.2
 ·rw[hl]
  by_cases c:k=n
  ·exact⟨m,hm0,by omega,by simp only[if_neg (show¬m<m by omega)];exact c.symm⟩
  ·have k0:YP s known n k:=⟨⟨k1.1.1,by have:=k1.1;omega⟩,k1.2.1,fun j j1 j2=>k1.2.2 j j1 (by omega)⟩
   obtain⟨i,i0,i1,e⟩:=h3 k k0;by_cases d:i<m
   ·exact⟨i,i0,by omega,by simp only[if_pos d];exact e⟩
   ·have hh:=hcov i (by omega) i1
    rw[e]at hh;have:=k1.2.2 n (by have:=k1.1;omega) (by omega) hh.1.symm hh.2.symm;omega
theorem av2{s t:Sl}{known n:Int}(hs:zZ s)(hn:0<=n)(hn1:n<s.len)(hk:s.int n 2<=known)(h:Vs s known n t)
  (hd:0<t.len->¬(t.int (t.len-1) 0=s.int n 0/\t.int (t.len-1) 1=s.int n 1)):Vs s known (n+1) (zC t (zA [cp s n])):=by
 obtain⟨g,h1,h2,h3⟩:=h;refine agr hn hk h1 h2 h3 (len0 t) (zB _) rfl (fun _ _ _=>rfl) (fun i i0 i1 e=> ?_) (fun i i0 i1=>by omega)
 have a:=h1 i i0 i1;have b:=h1 (t.len-1) (by omega) (by omega);refine hd (by omega) ?_
 rw[b.2.1,b.2.2.1];have g1:g i<=g (t.len-1):=by
  by_cases c:i=t.len-1
  ·rw[c];exact zB _
  ·have:=h2 i (t.len-1) i0 (by omega) (by omega);omega
 have l1:=Vr hs a.1.1.1 g1 (by have:=b.1.1;omega);have l2:=Vr hs b.1.1.1 (show g (t.len-1)<=n by have:=b.1.1;omega) hn1;unfold LD ltK at l1 l2;omega
theorem asO{s t:Sl}{known n:Int}(hs:zZ s)(hn:0<=n)(hk:s.int n 2<=known)(h:Vs s known n t)
  (hp:0<t.len) (hd:t.int (t.len-1) 0=s.int n 0/\t.int (t.len-1) 1=s.int n 1):Vs s known (n+1) (zC (Sl.part t 0 (t.len-1)) (zA [cp s n])):=by
 obtain⟨g,h1,h2,h3⟩:=h;have b:=h1 (t.len-1) (by omega) (by omega);have ek:s.int (g (t.len-1)) 0=s.int n 0/\s.int (g (t.len-1)) 1=s.int n 1:=by rw[<-b.2.1,<-b.2.2.1];exact hd
 refine agr (m:=t.len-1) hn hk h1 h2 h3 (by omega) (by omega) (by rw[nK (by omega)];omega) (fun i _ _=>avY) (fun i i0 i1 e=> ?_) (fun i i0 i1=> ?_)
 ·have a:=h1 i i0 (by omega)
  have l:=h2 i (t.len-1) i0 (by omega) (by omega);have:=a.1.2.2 (g (t.len-1)) l b.1.1.2 (by rw[ek.1,e.1]) (by rw[ek.2,e.2]);have:=b.1.2.1;omega
 ·have:i=t.len-1:=by omega
  rw[this];exact ek
theorem aiJ{s t:Sl}{known n:Int}(hn:0<=n)(h:Vs s known n t):t.len<=n:=by
 obtain⟨g,h1,h2,_⟩:=h;have step:∀i:Nat,(i:Int)<t.len->(i:Int)<=g i:=by
  intro i
  induction i with
  |zero=>intro hi;have:=(h1 0 (by omega) hi).1.1.1;simpa using this
  |succ i ih=>
   intro hi;have a:=ih (by omega);have:=h2 i (i+1:Nat) (by omega) (by omega) hi;omega
 by_cases c:t.len=0
 ·omega
 ·have t0:=len0 t
  have a:=step (t.len-1).toNat (by omega);have b:=(h1 (t.len-1) (by omega) (by omega)).1.1.2;rw[show(((t.len-1).toNat:Nat):Int)=t.len-1 by omega]at a;omega
theorem amA:ae5:=by
 intro y two s rs known rk hp sm;obtain⟨hs,hl⟩:=hp;have s0:=len0 s;have e1:∀l:List D,(zA [l]).len=1:=fun l=>rfl
 refine⟨fun t i=>(0<=i/\i<=s.len)/\Vs s known i t,fun _ i=>(s.len-i).toNat,⟨⟨zB _,s0⟩,av1⟩,fun t rt i ri hJ=> ?_⟩
 obtain⟨⟨i0,i1⟩,hf⟩:=hJ;have t0:=len0 t;have tl:=aiJ i0 hf;have ms:i<s.len->(s.len-(i+1)).toNat<(s.len-i).toNat:=fun h=>by omega
 refine⟨fun hi=>⟨i0,hi,fun _ _ _ _ _=> ?_⟩,fun hi=>⟨?_,trivial⟩⟩
 ·have nx:iA (i+1):=by rw[au];omega
  refine⟨fun hk=>⟨nx,⟨⟨by omega,by omega⟩,asN hk hf⟩,ms hi⟩,fun hk st=> ?_⟩
  have hk:s.int i 2<=known:=by omega
  have app:(0<t.len->¬(t.int (t.len-1) 0=s.int i 0/\t.int (t.len-1) 1=s.int i 1))->(((t.len+(zA [cp s i]).len)*88)<=140737488355328)/\iA (i+1)/\
    ((0<=i+1/\i+1<=s.len)/\Vs s known (i+1) (zC t (zA [cp s i])))/\(s.len-(i+1)).toNat<(s.len-i).toNat:=fun hd=>
   ⟨by rw[e1];omega,nx,⟨⟨by omega,by omega⟩,av2 hs i0 hi hk hf hd⟩,ms hi⟩
  refine⟨fun hp=>⟨by rw[au];omega,by omega,by omega,fun _ _ _ _ _=>⟨fun hd=>⟨by rw[au];omega,by omega,by omega,by omega, ?_,nx,⟨⟨by omega,by omega⟩,asO hs i0 hk hf hp hd⟩,ms hi⟩,fun hd=>app fun _=>hd⟩⟩,fun hp=>app fun h=>absurd h hp⟩
  rw[nK (by omega)];show(t.len-1-0+1)*88<=_;omega
 ·have e:i=s.len:=by omega
  subst e;exact hf
theorem ags{s t:Sl}{known:Int}{g:Int->Int}(hs:zZ s)(h1:∀i:Int,0<=i->i<t.len->gW s known (g i)/\jm t i s (g i))(h2:∀i j:Int,0<=i->i<j->j<t.len->g i<g j)
  {i j:Int} (i0:0<=i) (ij:i<j) (j1:j<t.len):t.int i 0<t.int j 0\/(t.int i 0=t.int j 0/\t.int i 1<t.int j 1):=by
 have a:=h1 i i0 (by omega);have b:=h1 j (by omega) j1;have l:=h2 i j i0 ij j1;have so:=Vr hs a.1.1.1 (by omega) b.1.1.2;have no:=a.1.2.2 (g j) l b.1.1.2;have:=b.1.2.1;rw[a.2.1,b.2.1,a.2.2.1,b.2.2.1];unfold LD ltK at so;omega
theorem ay1{i j:Int}(h0:0<=i)(hij:i<j)(hj:j<=140737488355328):IntKind.wrap .i64 (shr .u64 (IntKind.wrap .u64 (i+j)) 1)=(i+j)/2:=by
 rw[bI (by omega) (by omega)];have sh:shr .u64 (i+j) 1=(i+j)/2:=rC .u64 (x:=i+j) (n:=1) (by decide);rw[sh,afY];omega
theorem av3{i j:Int}(h0:0<=i)(hij:i<j)(hj:j<=140737488355328):Rng .u64 (shr .u64 (IntKind.wrap .u64 (i+j)) 1):=by
 rw[bI (by omega) (by omega)];have sh:shr .u64 (i+j) 1=(i+j)/2:=rC .u64 (x:=i+j) (n:=1) (by decide);rw[sh,dX];omega
def bs(n:Int)(P:Int->Prop)(i j:Int):Prop:=(0<=i/\i<=j/\j<=n)/\(∀k:Int,0<=k->k<i->¬P k)/\∀k:Int,j<=k->k<n->P k
theorem asP{n:Int}{P:Int->Prop}(h:0<=n):bs n P 0 n:=⟨⟨zB _,h,zB _⟩,fun k h0 h1=>by omega,fun k h0 h1=>by omega⟩
theorem azB{n:Int}{P:Int->Prop}(hm:∀k l:Int,0<=k->k<=l->l<n->P k->P l){i j m:Int}(h:bs n P i j)(h0:i<=m)(h1:m<j)(hp:¬P m):bs n P (m+1) j:=
 ⟨⟨by have:=h.1;omega,by have:=h.1;omega,h.1.2.2⟩,fun k k0 k1 hk=>hp (hm k m k0 (by omega) (by have:=h.1;omega) hk),h.2.2⟩
theorem av4{n:Int}{P:Int->Prop}(hm:∀k l:Int,0<=k->k<=l->l<n->P k->P l){i j m:Int}(h:bs n P i j)(h0:i<=m)(h1:m<j)(hp:P m):bs n P i m:=
 ⟨⟨h.1.1,h0,by have:=h.1;omega⟩,h.2.1,fun k k0 k1=>hm m k (by have:=h.1;omega) k0 k1 hp⟩
theorem okF.lim{a c:Bool}{b d:Sl}(h:okF a b c d):aB b/\aB d:=by
 have:=h.2;unfold aB;omega
theorem okF.of_same{a c a' c':Bool}{b d b' d':Sl}(h:okF a b c d)(g:oI a' b' c' d' a b c d):okF a' b' c' d':=by
 obtain⟨⟨q,hq⟩,h1,h2⟩:=h;exact⟨⟨q,hq.of_same g.1.1 g.1.2 g.2.1 g.2.2⟩,by rw[g.1.2.1];exact h1,by rw[g.2.2.1];exact h2⟩
theorem oI.lim{a c a' c':Bool}{b d b' d':Sl}(h:oI a b c d a' b' c' d')(g:okF a' b' c' d'):aB b/\aB d:=(okF.of_same g h).lim
section
variable{s t:Sl}{known a:Int}{g:Int->Int}
theorem agt(h1:∀i:Int,0<=i->i<t.len->gW s known (g i)/\jm t i s (g i))(h3:∀k:Int,gW s known k->∃i:Int,0<=i/\i<t.len/\g i=k){k:Int}(h:GV s a known k):
  ∃i:Int,0<=i/\i<t.len/\g i=k/\t.int i 0<=a/\∀j:Int,0<=j->j<t.len->t.int j 0<=a->t.int j 0<=t.int i 0:=by
 obtain⟨i,i0,i1,e⟩:=h3 k h.1.1;have r:=(h1 i i0 i1).2.1;rw[e]at r;refine⟨i,i0,i1,e,by rw[r];exact h.1.2,fun j j0 j1 hj=> ?_⟩
 have b:=h1 j j0 j1;rw[b.2.1]at hj⊢;rw[r];exact h.2 (g j) b.1 hj
theorem asQ(h1:∀i:Int,0<=i->i<t.len->gW s known (g i)/\jm t i s (g i))(h3:∀k:Int,gW s known k->∃i:Int,0<=i/\i<t.len/\g i=k){i:Int}(i0:0<=i)(i1:i<t.len)
  (ha:t.int i 0<=a) (hm:∀j:Int,0<=j->j<t.len->t.int j 0<=a->t.int j 0<=t.int i 0):GV s a known (g i):=by
 have r:=h1 i i0 i1;refine⟨⟨r.1,by rw[<-r.2.1];exact ha⟩,fun k hk hka=> ?_⟩
 obtain⟨j,j0,j1,e⟩:=h3 k hk;have b:=(h1 j j0 j1).2.1;rw[e]at b;rw[<-b,<-r.2.1];exact hm j j0 j1 (by rw[b];exact hka)
end
theorem av5{s t:Sl}{i k:Int}{a c:Bool}{b d:Sl}(h:jm t i s k)(hq:oI a b c d (t.bool i 3) (t.sub i 4) (t.bool i 5) (t.sub i 6)):abG s k a b c d:=oI.symm (oI.trans hq h.2.2.2)
theorem aoi{ok:Prop}{C:Int->Prop}{s:Sl}(hok:ok)(h:∀k,¬C k):Qk ok C s false zD false zD 6:=
 ⟨fun hn=>absurd hok hn,fun _=>⟨fun _=>⟨gJ,rfl⟩,fun k hk=>absurd hk (h k)⟩⟩
theorem agu{ok:Prop}{C:Int->Prop}{s:Sl}(hok:¬ok):Qk ok C s false zD false zD 2:=
 ⟨fun _=>⟨gJ,rfl⟩,fun h=>absurd h hok⟩
theorem av6{name:ByteArray}{two:Bool}{s t:Sl}{i k:Int}(hv:nZ name two s)(h0:0<=k)(h1:k<s.len)(h:jm t i s k):aB (t.sub i 4)/\aB (t.sub i 6):=
 oI.lim h.2.2.2 (hv.2.2.2 k h0 h1).2.2.2.2
theorem alh{t:Sl}{l h i:Int}(h0:0<=l)(h1:0<=i):jm (Sl.part t l h) i t (l+i):=by
 refine Xt ?_
 funext j
 show t.f (l.toNat+i.toNat) j=t.f (l+i).toNat j;rw[show(l+i).toNat=l.toNat+i.toNat by omega]
theorem ay2{s t:Sl}{known a:Int}{g:Int->Int}(hs:zZ s)(h1:∀i:Int,0<=i->i<t.len->gW s known (g i)/\jm t i s (g i))(h2:∀i j:Int,0<=i->i<j->j<t.len->g i<g j):
  ∀k l:Int,0<=k->k<=l->l<t.len->t.int k 0<=t.int l 0:=fun k l k0 kl l1=>by
 by_cases e:k=l
 ·rw[e];exact zB _
 ·have:=ags hs h1 h2 k0 (by omega) l1
  omega
theorem auA:anH:=by
 intro y two s rs a ra known rk hp;simp only[zE];refine⟨hp,fun b hb=>⟨fun hn=>⟨agu fun h=>hn (hb.2 h.1),trivial⟩,fun hn=>⟨fun ht=>⟨agu fun h=>by rw[ht]at h;exact absurd h.2 (by decide),trivial⟩,fun ht=> ?_⟩⟩⟩
 have hv:nZ y two s:=hb.1 (zH.1 hn);have ht:two=false:=by simpa using ht
 refine⟨⟨hv.2.2.1,hv.2.1⟩,fun t rt hf st=> ?_⟩
 have t0:=len0 t;have s0:=len0 s;obtain⟨g,h1,h2,h3⟩:=hf;have tl:t.len<=s.len:=aiJ (n:=s.len) s0 ⟨g,h1,h2,h3⟩;have hs4:=hv.2.1;have mo:=ay2 (a:=a) hv.2.2.1 h1 h2;have dP:∀k l:Int,0<=k->k<=l->l<t.len->t.int k 0>a->t.int l 0>a:=fun k l k0 kl l1 h=>by have:=mo k l k0 kl l1;omega
 refine⟨fun i j=>bs t.len (fun k=>t.int k 0>a) i j,fun i j=>(j-i).toNat,asP t0,fun i ri j rj hJ=> ?_⟩
 have hJ:bs t.len (fun k=>t.int k 0>a) i j:=hJ
 have b1:=hJ.1;refine⟨fun hi=> ?_,fun hi=> ?_⟩
 ·have em:=ay1 b1.1 hi (by omega)
  have er:=av3 b1.1 hi (by omega);refine⟨by rw[au];omega,by decide,er, ?_⟩
  rw[em];refine⟨by omega,by omega,fun _ _ _ _ _=>⟨fun hp=>⟨by rw[au];omega,azB dP hJ (by omega) (by omega) hp, ?_⟩,fun hp=>⟨av4 dP hJ (by omega) (by omega) (zH.1 hp), ?_⟩⟩⟩
  ·show(j-((i+j)/2+1)).toNat<(j-i).toNat;omega
  ·show((i+j)/2-i).toNat<(j-i).toNat;omega
 ·have e:j=i:=by omega
  subst e;refine⟨by decide,b1.1,b1.2.2, ?_⟩
  rw[nK b1.1,Int.sub_zero];have bnd:∀l:Int,0<=l->l<t.len->t.int l 0<=a->l<j:=fun l l0 l1 hl=>by
   rcases zG l j with c|c
   ·exact c
   ·have h':t.int l 0>a:=hJ.2.2 l c l1
    omega
  refine fun _=>⟨fun hz=>⟨aoi ⟨hv,ht⟩ fun k hk=> ?_,trivial⟩,fun hz _=>⟨by rw[au];omega,by omega,by omega,fun _ _=> ?_⟩⟩
  ·obtain⟨l,l0,l1,_,hl,_⟩:=agt h1 h3 hk
   have:=bnd l l0 l1 hl;omega
  ·have rw1:jm (Sl.part t 0 j) (j-1) t (j-1):=by
    have:=alh (t:=t) (l:=0) (h:=j) (i:=j-1) (by decide) (by omega)
    rwa[Int.zero_add]at this
   have rr:=(h1 (j-1) (by omega) (by omega));have rw2:=rw1.trans rr.2;refine⟨av6 hv rr.1.1.1 rr.1.1.2 rw2,fun a' b' _ c' d' _ hq=>⟨⟨fun hn=>absurd ⟨hv,ht⟩ hn,fun _=>⟨fun hn=> ?_,fun k hk=>⟨?_,rfl⟩⟩⟩,trivial⟩⟩
   ·refine absurd (asQ (a:=a) h1 h3 (i:=j-1) (by omega) (by omega) ?_ fun l l0 l1 hl=> ?_) (hn _)
    ·have:=hJ.2.1 (j-1) (by omega) (by omega)
     have:¬(t.int (j-1) 0>a):=this;omega
    ·exact mo l (j-1) l0 (by have:=bnd l l0 l1 hl;omega) (by omega)
   ·obtain⟨l,l0,l1,e,hl,hm⟩:=agt h1 h3 hk
    have hlj:=bnd l l0 l1 hl;have hA:=hm (j-1) (by omega) (by omega) (by
     have:=hJ.2.1 (j-1) (by omega) (by omega);have:¬(t.int (j-1) 0>a):=this;omega)
    have el:l=j-1:=by
     by_cases c:l=j-1
     ·exact c
     ·have st:=ags hv.2.2.1 h1 h2 l0 (show l<j-1 by omega) (by omega)
      have z1:=h1 l l0 l1;have z2:=h1 (j-1) (by omega) (by omega);have q1:=(hv.2.2.2 (g l) z1.1.1.1 z1.1.1.2).2.2.1;have q2:=(hv.2.2.2 (g (j-1)) z2.1.1.1 z2.1.1.2).2.2.1;rw[ht]at q1 q2;simp only[Bool.false_eq_true,false_or]at q1 q2;rw[z1.2.2.1,z2.2.2.1]at st;omega
    rw[<-e,el];exact av5 rw2 hq
end Go.Sx.N
