/-
 The conditions of the ledger's functions. Conditions: none.
-/
import Derived.Test.YtccbjhfdfbaekaaGreatNumVA
open Go.Sx.Sl renaming d->zA,lit->zB,nil->zC,app->zD
open Int renaming le_refl->zE
set_option linter.unusedVariables false
set_option linter.unusedSimpArgs false
namespace Go.Sx.N.L
theorem aAT{x:Int}:Rng .u8 x↔0<=x/\x<=255:=Iff.rfl
theorem aex:akm:=by
 intro st _ d p m _ ⟨h1,h2,h3⟩;have:=len0 d;simp only[au,PV,og]at*
 grind
theorem TK:XQ:=by
 intro st _ d p q day _ hp hsm;have hsm:=iW hsm;obtain⟨J,hJ⟩:∃J:Int->Int->Prop,J=fun I4 i=>0<=i/\i<=q.len/\I4=prev q day i/\∀k,0<=k->k<i->qW st d.len q day k:=⟨_,rfl⟩
 obtain⟨m,hm⟩:∃m:Int->Int->Nat,m=fun _ i=>(q.len-i).toNat:=⟨_,rfl⟩
 refine⟨J,m,by rw[hJ];exact⟨zE _,len0 q,rfl,fun k h1 h2=>absurd h1 (by omega)⟩, ?_⟩
 intro I4 _ i hri hj;have hj':=hj;rw[hJ]at hj';obtain⟨hi0,hi1,xX,hk⟩:=hj';refine⟨fun hlt=>⟨hi0,hlt,fun r0 r1 r2 r3=> ?_⟩,fun hge=> ?_⟩
 ·have hF:¬qW st d.len q day i->aW st d p q day (decide False):=fun hn=>by
   simp only[aW,decide_false,Bool.false_eq_true,false_iff];exact fun hf=>hn (hf i hi0 hlt)
  have hT:qW st d.len q day i->iA (i+1)/\(J (q.int i 0) (i+1)/\m (q.int i 0) (i+1)<m I4 i):=fun hy=>by
   rw[hJ,hm];refine⟨?_,⟨by omega,by omega, ?_,fun k h1 h2=> ?_⟩, ?_⟩
   ·rw[au]at*;omega
   ·unfold prev;rw[if_neg (by omega)];congr 1;omega
   ·by_cases e:k=i
    ·rw[e];exact hy
    ·exact hk k h1 (by omega)
   ·show(q.len-(i+1)).toNat<(q.len-i).toNat;omega
  have hs:HY st d:=hp;obtain⟨hs1,hs2,hs3⟩:=hp;unfold qW JA VT at hF hT;rw[<-xX]at hF hT;simp only[ZT,PV,og,decide_eq_true_eq,Bool.decide_eq_true]at hF hT⊢;generalize q.int i 0=a0 at*;generalize q.int i 1=a1 at*;generalize q.int i 2=a2 at*;generalize q.int i 3=a3 at*;generalize aW st d p q day (decide False)=F at*;generalize J a0 (i+1)=J1 at*;generalize(m a0 (i+1)<m I4 i)=M1 at*;generalize iA (i+1)=R1 at*;clear hJ hm hk hj r0 r1 r3 hri xX
  repeat' first|apply And.intro|(intro _)
  all_goals grind
 ·refine⟨?_,trivial⟩
  simp only[aW,true_iff,decide_true];intro k h1 h2;exact hk k h1 (by omega)
theorem XH:aaN:=by
 intro st hst d p _;have hn:(¬aA st d p)->cu st d p (decide False):=fun h=>by simp[cu,h]
 have hd0:=len0 d;have hp0:=len0 p;have aAU:(0<=st/\st<=2400/\d.len<=1200/\st+d.len<=2400)->akq d->p.len<=4000->vW st d p p 0/\∀b5:Bool,aW st d p p 0 (decide (b5=true))->cu st d p (decide (b5=true))/\True:=fun h1 h2 h3=>by
  refine⟨⟨h1.1,h1.2.1,h1.2.2.1⟩,fun b hb=>⟨?_,trivial⟩⟩
  simp only[aW,cu,aA,decide_eq_true_eq]at*;exact⟨fun h=>⟨h1,h2,h3,hb.1 h⟩,fun h=>hb.2 h.2.2.2⟩
 have n1:st<0->cu st d p (decide False):=fun h=>hn fun hv=>by unfold aA at hv;omega
 have n2:st>2400->cu st d p (decide False):=fun h=>hn fun hv=>by unfold aA at hv;omega
 have n3:d.len>1200->cu st d p (decide False):=fun h=>hn fun hv=>by unfold aA at hv;omega
 have n4:st+d.len>2400->cu st d p (decide False):=fun h=>hn fun hv=>by unfold aA at hv;omega
 have n5:¬p.len<=4000->cu st d p (decide False):=fun h=>hn fun hv=>by unfold aA at hv;omega
 have n6:∀i,0<=i->i<d.len->¬(0<=d.int i 0/\d.int i 0<=1099511627776)->cu st d p (decide False):=fun i h1 h2 h3=>hn fun hv=>h3 (hv.2.1 i h1 h2)
 refine⟨fun h=>⟨n1 h,trivial⟩,fun h1=>⟨fun h=>⟨n2 h,trivial⟩,fun h2 _=>⟨fun h=>⟨n3 h,trivial⟩,fun h3 _=>⟨?_,fun h=>⟨n4 h,trivial⟩,fun h4 hsm=> ?_⟩⟩⟩⟩
 ·rw[au]at*;omega
 have hbig:0<=st/\st<=2400/\d.len<=1200/\st+d.len<=2400:=by omega
 obtain⟨J,hJ⟩:∃J:Int->Prop,J=fun i=>0<=i/\i<=d.len/\∀k:Int,0<=k->k<i->0<=d.int k 0/\d.int k 0<=1099511627776:=⟨_,rfl⟩
 obtain⟨m,hm⟩:∃m:Int->Nat,m=fun i=>(d.len-i).toNat:=⟨_,rfl⟩
 refine⟨J,m,by rw[hJ];exact⟨zE _,hd0,fun k h1 h2=>absurd h1 (by omega)⟩,fun i hri hj=> ?_⟩
 have hj':=hj;rw[hJ]at hj';obtain⟨hi0,hi1,hk⟩:=hj';have step:i<d.len->0<=d.int i 0->d.int i 0<=1099511627776->iA (i+1)/\J (i+1)/\m (i+1)<m i:=fun g1 g2 g3=>by
  rw[hJ,hm,au];refine⟨by omega,⟨by omega,by omega,fun k h1 h2=> ?_⟩, ?_⟩
  ·by_cases e:k=i
   ·rw[e];exact⟨g2,g3⟩
   ·exact hk k h1 (by omega)
  ·show(d.len-(i+1)).toNat<(d.len-i).toNat;omega
 have hend:¬i<d.len->akq d:=fun h k h1 h2=>hk k h1 (by omega)
 have n6:=n6 i hi0;exact⟨fun hlt=>⟨hi0,hlt,fun hr=>⟨fun hneg=>⟨fun _=>⟨n6 hlt (by omega),trivial⟩,fun hc=>absurd hi0 hc⟩,fun hnn=>⟨fun hbg=>⟨fun _=>⟨n6 hlt (by omega),trivial⟩,fun hc=>absurd hi0 hc⟩,fun hnb=>step hlt (by omega) (by omega)⟩⟩⟩,
  fun hge=>⟨fun h=>absurd h (by decide),fun _ _=>⟨fun h=>aAU hbig (hend hge) h,fun h=>⟨n5 h,trivial⟩⟩⟩⟩
theorem Ad(f:Int->Int){i:Int}(h:0<=i):sumTo f (i+1).toNat=sumTo f i.toNat+f i:=by
 have:(i+1).toNat=i.toNat+1:=by omega
 rw[this];simp only[sumTo];rw[Int.toNat_of_nonneg h]
theorem BN{f:Int->Int}:∀{n:Nat},(∀i:Int,0<=i->i<n->-1099511627776<=f i/\f i<=1099511627776)->-(1099511627776*(n:Int))<=sumTo f n/\sumTo f n<=1099511627776*(n:Int)
 |0,_=>by simp[sumTo]
 |n+1,h=>by
  have h1:=BN (f:=f) (n:=n) (fun i h0 h1=>h i h0 (by omega))
  have h2:=h n (by omega) (by omega);simp only[sumTo];omega
theorem Vk{st n:Int}{p:Sl}{d0 i:Int}(h:qW st n p d0 i):-1099511627776<=p.int i 3/\p.int i 3<=1099511627776:=by
 have h:=h.1.2;omega
theorem Fq{st n:Int}{p:Sl}{d0 i:Int}(h:qW st n p d0 i):-1099511627776<=lq p i/\lq p i<=1099511627776:=by
 have h:=Vk h;unfold lq;split<;>omega
theorem agl{f:Int->Int}{n:Nat}(hn:(n:Int)<=4000)(hf:∀i:Int,0<=i->i<n->-1099511627776<=f i/\f i<=1099511627776){x i:Int}(h0:0<=i)(h1:i<n)(hx:x=sumTo f i.toNat):
  iA (x+f i)/\iA (i+1)/\x+f i=sumTo f (i+1).toNat:=by
 have e:=Ad f h0;have hb:=BN (f:=f) (n:=(i+1).toNat) (fun k g0 g1=>hf k g0 (by omega))
 rw[e,<-hx]at hb;refine⟨?_, ?_,by rw[e,hx]⟩
 ·rw[au];omega
 ·rw[au];omega
theorem TL:XR:=by
 intro st _ d p mo _ hv hsm;obtain⟨hb,hd,hp,hf⟩:aA st d p:=hv;obtain⟨f,hff⟩:∃f:Int->Int,f=fun i=>if p.int i 1=mo then lq p i else 0:=⟨_,rfl⟩
 have hbound:∀i:Int,0<=i->i<(p.n:Int)->-1099511627776<=f i/\f i<=1099511627776:=fun i h0 h1=>by
  have:=Fq (hf i h0 h1);rw[hff];show-1099511627776<=(if p.int i 1=mo then lq p i else 0)/\(if p.int i 1=mo then lq p i else 0)<=1099511627776
  split<;>omega
 obtain⟨J,hJ⟩:∃J:Int->Int->Prop,J=fun x i=>0<=i/\i<=p.len/\x=sumTo f i.toNat:=⟨_,rfl⟩
 obtain⟨m,hm⟩:∃m:Int->Int->Nat,m=fun _ i=>(p.len-i).toNat:=⟨_,rfl⟩
 refine⟨J,m,by rw[hJ];exact⟨zE _,len0 p,rfl⟩,fun x hx i hi hj=> ?_⟩
 rw[hJ]at hj;obtain⟨h0,h1,hxs⟩:=hj;refine⟨fun hlt=>⟨h0,hlt,fun _ _ _ _=> ?_⟩,fun hge=> ?_⟩
 ·obtain⟨s1,s2,s3⟩:=agl hp hbound h0 hlt hxs
  have hfi:f i=if p.int i 1=mo then(if p.int i 2=3 then 0 else p.int i 3)else 0:=by rw[hff];rfl
  have fin:∀y,f i=y->iA (x+y)/\iA (i+1)/\J (x+y) (i+1)/\m (x+y) (i+1)<m x i:=fun y hy=>by
   rw[<-hy];refine⟨s1,s2, ?_, ?_⟩
   ·rw[hJ];exact⟨by omega,by omega,s3⟩
   ·rw[hm];show(p.len-(i+1)).toNat<(p.len-i).toNat;omega
  refine⟨fun h=>fin 0 (by rw[hfi,if_neg h]),fun h=>⟨fun g=>fin 0 ?_,fun g=>fin _ ?_⟩⟩
  ·rw[hfi,if_pos (Classical.not_not.1 h),if_pos g]
  ·rw[hfi,if_pos (Classical.not_not.1 h),if_neg g]
 ·refine⟨?_,trivial⟩
  have:i.toNat=p.n:=by unfold Sl.len at*;omega
  rw[this]at hxs;rw[hff]at hxs;exact hxs
theorem SL{st:Int}{d p:Sl}(hv:aA st d p)(mo:Int):-(1099511627776*4000)<=aV p mo/\aV p mo<=1099511627776*4000:=by
 have hp:(p.n:Int)<=4000:=hv.2.2.1;have:=BN (f:=fun i=>if p.int i 1=mo then lq p i else 0) (n:=p.n) (fun i h0 h1=>by
  have:=Fq (hv.2.2.2 i h0 h1);show-1099511627776<=(if p.int i 1=mo then lq p i else 0)/\(if p.int i 1=mo then lq p i else 0)<=1099511627776
  split<;>omega)
 unfold aV;omega
theorem aaD:ae0:=by
 intro st _ d p mo _ _;refine⟨trivial,fun b hb=>⟨fun hn=>⟨?_,trivial⟩,fun hn=> ?_⟩⟩
 ·have:¬aA st d p:=fun hv=>hn (by simpa using hb.2 hv)
  exact⟨fun _=>⟨rfl,rfl⟩,fun hv=>absurd hv this⟩
 ·have hv:aA st d p:=hb.1 (by simpa using hn)
  refine⟨⟨hv.1.1,hv.1.2.1,hv.1.2.2.1⟩,fun c hc=>⟨fun hn=>⟨?_,trivial⟩,fun hn=> ?_⟩⟩
  ·have hm:¬og st d mo:=fun h=>hn (by simpa using hc.2 h)
   exact⟨fun h=>absurd hv h,fun _=>⟨fun _=>⟨rfl,rfl⟩,fun h=>absurd h hm⟩⟩
  ·have hm:og st d mo:=hc.1 (by simpa using hn)
   obtain⟨hm1,hm2⟩:=hm;have hb:=hv.1;have hdu:=hv.2.1 (mo-st) (by omega) (by omega);refine⟨by rw[au];omega,by omega,by omega,fun _=>⟨hv,fun x _ hx=>⟨?_, ?_,trivial⟩⟩⟩
   ·have hx:x=aV p mo:=hx
    have:=SL hv mo;rw[au];omega
   ·have hx:x=aV p mo:=hx
    exact⟨fun h=>absurd hv h,fun _=>⟨fun h=>absurd ⟨hm1,hm2⟩ h,fun _=>⟨by rw[hx],rfl⟩⟩⟩
theorem jO(l:List (List D)):(zB l).len=l.length:=rfl
theorem wJ{r:Sl}{i:Int}{j:Nat}(h:0<=i):(zD (zB []) r).int i j=r.int i j:=by
 rw[aG (by rw[jO];simpa using h),jO];simp
theorem JH(r:Sl):(zD (zB []) r).len=r.len:=by rw[dG,jO];simp
theorem agm(d:Sl):fG (zD (zB []) d) d:=⟨JH d,fun i h _=>wJ h⟩
theorem abU(d:Sl):aQ (zD (zB []) d) d:=⟨JH d,fun i h _=>⟨wJ h,wJ h,wJ h,wJ h⟩⟩
theorem aob{d:Sl}(h:d.len<=0):fG zC d:=⟨by have:=len0 d;rw[len_nil];omega,fun i h0 h1=>by rw[len_nil]at h1;omega⟩
theorem ahB{d:Sl}(h:d.len<=0):aQ zC d:=⟨by have:=len0 d;rw[len_nil];omega,fun i h0 h1=>by rw[len_nil]at h1;omega⟩
theorem aJ:∀x:Int,-9223372036854775808<=x/\x<=9223372036854775807->iA x:=fun _ h=>h
theorem ayY{f:Int->Int}{p:Sl}(hn:p.len<=4000)(hf:∀i:Int,0<=i->i<p.len->-1099511627776<=f i/\f i<=1099511627776){x i y:Int}(h0:0<=i)(h1:i<p.len)(hx:x=sumTo f i.toNat)(hy:f i=y):
  iA (x+y)/\(0<=i+1/\i+1<=p.len/\x+y=sumTo f (i+1).toNat)/\(p.len-(i+1)).toNat<(p.len-i).toNat/\iA (i+1):=by
 obtain⟨s1,s2,s3⟩:=agl (n:=p.n) hn hf h0 h1 hx;rw[hy]at s1 s3;exact⟨s1,⟨by omega,by omega,s3⟩,by omega,s2⟩
theorem Hz{s:Sl}:(Sl.part s 0 0).len=0:=rfl
theorem TM:XT:=by
 intro s _ ⟨h2,ha,hb⟩ _;have rs:=aJ;obtain⟨a,hA⟩:∃a,a=s.sub 0 0:=⟨_,rfl⟩;obtain⟨b,hB⟩:∃b,b=s.sub 1 0:=⟨_,rfl⟩;rw[<-hA]at ha;rw[<-hB]at hb;have ha0:=len0 a;have hb0:=len0 b;have two:∀i:Int,0<=i->i<s.len->(i=0/\s.sub i 0=a)\/(i=1/\s.sub i 0=b):=fun i h0 h1=>by
  have:i=0\/i=1:=by omega
  rcases this with rfl|rfl
  ·exact .inl ⟨rfl,hA.symm⟩
  ·exact .inr ⟨rfl,hB.symm⟩
 have second:∀z:Sl,z.len=0->∃(J:Sl->Int->Prop)(M:Sl->Int->Nat),J z 0/\∀t:Sl,Ranged t [some .i64,some .i64,some .u8,some .i64]->∀i:Int,iA i->J t i->
   (i<s.len->(0:Int)<=i/\i<s.len/\(Ranged (s.sub i 0) [some .i64,some .i64,some .u8,some .i64]->(t.len+(s.sub i 0).len)*32<=140737488355328/\iA (i+1)/\(J (zD t (s.sub i 0)) (i+1)/\M (zD t (s.sub i 0)) (i+1)<M t i)))/\(¬i<s.len->kX s t/\True):=by
  intro z hz;refine⟨fun t i=>0<=i/\i<=2/\(i=0->t.len=0)/\(i=1->aQ t a)/\(i=2->behind a b t),fun _ i=>(2-i).toNat,⟨zE _,by omega,fun _=>hz,fun h=>absurd h (by omega),fun h=>absurd h (by omega)⟩,fun t _ i _⟨h0,h1,g0,g1,g2⟩=>⟨fun hlt=> ?_,fun hge=>⟨?_,trivial⟩⟩⟩
  ·rcases two i h0 hlt with⟨rfl,e⟩|⟨rfl,e⟩
   ·rw[e]
    have ht:=g0 rfl;refine⟨h0,hlt,fun _=>⟨by omega,rs _ (by omega),⟨by omega,by omega,fun h=>absurd h (by omega),fun _=>⟨by rw[dG];omega,fun k k0 k1=> ?_⟩,fun h=>absurd h (by omega)⟩,(by show(2-((0:Int)+1)).toNat<(2-(0:Int)).toNat;omega)⟩⟩
    have e1:k-t.len=k:=by omega
    unfold xU;rw[aG (by omega),aG (by omega),aG (by omega),aG (by omega),e1];exact⟨rfl,rfl,rfl,rfl⟩
   ·rw[e]
    obtain⟨hl,ht⟩:=g1 rfl;refine⟨h0,hlt,fun _=>⟨by omega,rs _ (by omega),⟨by omega,by omega,fun h=>absurd h (by omega),fun h=>absurd h (by omega),fun _=>⟨by rw[dG];omega,fun k k0 k1=> ?_,fun k k0 k1=> ?_⟩⟩,(by show(2-((1:Int)+1)).toNat<(2-(1:Int)).toNat;omega)⟩⟩
    ·have:=ht k k0 (by omega)
     unfold xU at this⊢;rw[aS k0 (by omega),aS k0 (by omega),aS k0 (by omega),aS k0 (by omega)];exact this
    ·have e1:a.len+k-t.len=k:=by omega
     unfold xU;rw[aG (by omega),aG (by omega),aG (by omega),aG (by omega),e1];exact⟨rfl,rfl,rfl,rfl⟩
  ·have:i=2:=by omega
   show behind (s.sub 0 0) (s.sub 1 0) t;rw[<-hA,<-hB];exact g2 this
 refine⟨fun x i=>0<=i/\i<=2/\0<=x/\x<=1000000*i,fun _ i=>(2-i).toNat,⟨zE _,by omega,zE _,by omega⟩,fun x _ i _⟨h0,h1,hx0,hx1⟩=>⟨fun hlt=>⟨h0,hlt,fun _ _=> ?_⟩,fun hge=>⟨fun h=>absurd h (by omega),fun _=> ?_⟩⟩⟩
 ·have hl:0<=(s.sub i 0).len/\(s.sub i 0).len<=1000000:=by
   rcases two i h0 hlt with⟨_,e⟩|⟨_,e⟩<;>rw[e]<;>exact⟨by assumption,by assumption⟩
  refine⟨rs _ (by omega),fun h=>absurd h (by omega),fun _=>⟨rs _ (by omega),⟨by omega,by omega,by omega,by omega⟩, ?_⟩⟩
  show(2-(i+1)).toNat<(2-i).toNat;omega
 ·refine⟨rs _ (by omega),rs _ (by omega),fun hpos=>⟨by omega,by omega,by omega,by omega,by omega,by omega,by omega, ?_,fun _=>second _ rfl⟩,fun _ _=>second _ rfl⟩
  show(0:Int)<=((_:Nat):Int);exact Int.natCast_nonneg _
theorem YJ(p q:Sl):(zB [[(zA p)],[(zA q)]]).sub 0 0=p:=rfl
theorem YK(p q:Sl):(zB [[(zA p)],[(zA q)]]).sub 1 0=q:=rfl
theorem aaE:ae1:=by
 intro st _ d p q hq;have rs:=aJ;have hd0:=len0 d;have hp0:=len0 p;have hq0:=len0 q;have hq:q.len<=1000000:=hq;have bad:¬l9 st d p q->aY st d p q 0 zC zC 2/\True:=fun h=>⟨⟨fun _=>⟨rfl,rfl,rfl,rfl⟩,fun g=>absurd g h⟩,trivial⟩
 have hc:∀(P':Prop),p.len<=4000->(P'->True)->lY (zB [[(zA p)],[(zA q)]]):=fun _ h _=>⟨rfl,by rw[YJ];omega,by rw[YK];exact hq⟩
 have tail:l9 st d p q->p.len+q.len<=4000->∀(d':Sl),fG d' d->lY (zB [[(zA p)],[(zA q)]])/\∀s7:Sl,kX (zB [[(zA p)],[(zA q)]]) s7->aY st d p q st d' s7 0/\True:=fun h1 h2 d' hd'=>by
  refine⟨⟨rfl,by rw[YJ];omega,by rw[YK];exact hq⟩,fun s hs=>⟨⟨fun h=>absurd h1 h,fun _=>⟨fun h=>absurd h2 (by omega),fun _=>⟨rfl,rfl,hd', ?_⟩⟩⟩,trivial⟩⟩
  have hs:behind ((zB [[(zA p)],[(zA q)]]).sub 0 0) ((zB [[(zA p)],[(zA q)]]).sub 1 0) s:=hs;rw[YJ,YK]at hs;exact hs
 have e0:(zB []).len=0:=rfl;have whole:l9 st d p q->p.len+q.len<=4000->∀b6:Bool,((b6=true->d.len<=0->lY (zB [[(zA p)],[(zA q)]])/\∀s7:Sl,kX (zB [[(zA p)],[(zA q)]]) s7->aY st d p q st zC s7 0/\True)/\
   (¬b6=true->(Sl.len (zB [])+d.len)*8<=140737488355328/\lY (zB [[(zA p)],[(zA q)]])/\∀s7:Sl,kX (zB [[(zA p)],[(zA q)]]) s7->aY st d p q st (zD (zB []) d) s7 0/\True)):=fun h1 h2 b6=>
  ⟨fun _ hz=>tail h1 h2 _ (aob hz),fun _=>⟨by have:=h1.1.1;omega,tail h1 h2 _ (agm d)⟩⟩
 have main:∀day:Int,day=lastDay p->aA st d p->vW st d p q day/\∀b5:Bool,aW st d p q day (decide (b5=true))->(¬b5=true->aY st d p q 0 zC zC 2/\True)/\(¬¬b5=true->Small p->Small q->iA (p.len+q.len)/\(p.len+q.len>4000->aY st d p q 0 zC zC 5/\True)/\(¬p.len+q.len>4000->(l9 st d p q/\p.len+q.len<=4000))):=fun day xX hv=>by
  refine⟨⟨hv.1.1,hv.1.2.1,hv.1.2.2.1⟩,fun b5 hb=> ?_⟩
  have hp4:=hv.2.2.1;have hb:b5=true↔rE st d.len q day:=by simpa[aW]using hb
  refine⟨fun hn=>bad fun h=>hn (hb.2 (by rw[xX];exact h.2)),fun hn _ _=> ?_⟩
  have hok:l9 st d p q:=⟨hv,by rw[<-xX];exact hb.1 (by simpa using hn)⟩;refine⟨rs _ (by omega),fun hgt=>⟨⟨fun h=>absurd hok h,fun _=>⟨fun _=>⟨rfl,rfl,rfl,rfl⟩,fun h=>absurd h (by omega)⟩⟩,trivial⟩,fun hle=>⟨hok,by omega⟩⟩
 refine⟨trivial,fun b4 hb4=> ?_⟩
 have hb4:b4=true↔aA st d p:=by simpa[cu]using hb4
 refine⟨fun hn=>bad fun h=>hn (hb4.2 h.1),fun hn=> ?_⟩
 have hv:aA st d p:=hb4.1 (by simpa using hn);have hp4:=hv.2.2.1;refine fun _=>⟨fun hpos=>⟨rs _ (by omega),by omega,by omega,fun _=> ?_⟩,fun hpos=> ?_⟩
 ·obtain⟨m1,m2⟩:=main (p.int (p.len-1) 0) (by unfold lastDay;rw[if_pos hpos]) hv
  refine⟨m1,fun b5 hb5=> ?_⟩
  obtain⟨m3,m4⟩:=m2 b5 hb5;refine⟨m3,fun hn5 s1 s2=> ?_⟩
  obtain⟨m5,m6,m7⟩:=m4 hn5 s1 s2;exact⟨m5,m6,fun hle=>⟨whole (m7 hle).1 (m7 hle).2,whole (m7 hle).1 (m7 hle).2⟩⟩
 ·obtain⟨m1,m2⟩:=main 0 (by unfold lastDay;rw[if_neg hpos]) hv
  refine⟨m1,fun b5 hb5=> ?_⟩
  obtain⟨m3,m4⟩:=m2 b5 hb5;refine⟨m3,fun hn5 s1 s2=> ?_⟩
  obtain⟨m5,m6,m7⟩:=m4 hn5 s1 s2;exact⟨m5,m6,fun hle=>⟨whole (m7 hle).1 (m7 hle).2,whole (m7 hle).1 (m7 hle).2⟩⟩
end Go.Sx.N.L
namespace Go.Sx.N
theorem aex:akm:=L.aex
theorem TK:XQ:=L.TK
theorem XH:aaN:=L.XH
theorem TL:XR:=L.TL
theorem aaD:ae0:=L.aaD
theorem TM:XT:=L.TM
theorem aaE:ae1:=L.aaE
end Go.Sx.N
