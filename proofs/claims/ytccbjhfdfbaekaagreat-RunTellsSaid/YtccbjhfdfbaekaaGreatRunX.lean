/-
 Several texts in one. Conditions: none.
-/
import Derived.Test.YtccbjhfdfbaekaaGreatNumVQ
import Derived.Test.YtccbjhfdfbaekaaGreatRunM
import Derived.Test.YtccbjhfdfbaekaaGreatRunF
import Derived.Test.YtccbjhfdfbaekaaGreatArrF
open Go.Sx.Sl renaming lit->zA,nil->zD,app->zF,len->zG
open Classical renaming not_not->zB
open Bool renaming decide_eq_true->zC,false_eq_true->qG
open Int renaming le_refl->zE,natCast_nonneg->zI,sub_self->zR,mul_one->qI
open List renaming length_append->zH,length_cons->qD,length_nil->qE,foldl_append->qJ,getElem?_eq_getElem->qK,append_assoc->qL,getD_eq_getElem?_getD->qN
open Rat renaming divInt->zL,intCast_le_intCast->zP,num_intCast->qH,intCast_lt_intCast->qM
set_option linter.unusedVariables false
set_option linter.unusedSimpArgs false
namespace Go.Sx.N.L
theorem aaJ:afa:=by
 intro s _ d p t _ e q _;have no:¬Z4 s d p t e q->yN s d p t e q (decide False):=fun h=>by simp[yN,h]
 refine⟨fun h=>⟨no fun hs=>h hs.1,trivial⟩,fun h1 hsm _=>⟨fun h=>⟨no fun hs=>h hs.2.1.1,trivial⟩,fun h2 hsd _=>⟨fun h=>⟨no fun hs=>h hs.2.2.1,trivial⟩,fun h3 _=> ?_⟩⟩⟩
 have hsm:=iW hsm;have h1:s=t:=zB.1 h1;have h2:d.len=e.len:=zB.1 h2;have h3:p.len=q.len:=zB.1 h3;obtain⟨J,hJ⟩:∃J:Int->Prop,J=fun i=>0<=i/\i<=d.len/\∀k:Int,0<=k->k<i->d.int k 0=e.int k 0:=⟨_,rfl⟩
 obtain⟨m,hm⟩:∃m:Int->Nat,m=fun i=>(d.len-i).toNat:=⟨_,rfl⟩
 refine⟨J,m,by rw[hJ];exact⟨zE _,len0 d,fun k h1 h2=>absurd h1 (by omega)⟩,fun i hri hj=> ?_⟩
 rw[hJ]at hj;obtain⟨hi0,hi1,hk⟩:=hj;refine⟨fun hlt=>⟨hi0,hlt,fun _=>⟨hi0,by omega,fun _=>⟨fun h=>⟨no fun hs=>h (hs.2.1.2 i hi0 hlt),trivial⟩,fun h=>⟨?_, ?_, ?_⟩⟩⟩⟩,fun hge hsp=> ?_⟩
 ·rw[au]at*;omega
 ·rw[hJ];refine⟨by omega,by omega,fun k g1 g2=> ?_⟩
  by_cases ek:k=i
  ·rw[ek];exact zB.1 h
  ·exact hk k g1 (by omega)
 ·rw[hm];show(d.len-(i+1)).toNat<(d.len-i).toNat;omega
 have hsp:=iW hsp;obtain⟨J2,hJ2⟩:∃J:Int->Prop,J=fun i=>0<=i/\i<=p.len/\∀k:Int,0<=k->k<i->xU p k q k:=⟨_,rfl⟩
 obtain⟨m2,hm2⟩:∃m:Int->Nat,m=fun i=>(p.len-i).toNat:=⟨_,rfl⟩
 refine⟨J2,m2,by rw[hJ2];exact⟨zE _,len0 p,fun k h1 h2=>absurd h1 (by omega)⟩,fun i' aDi hj=> ?_⟩
 rw[hJ2]at hj;obtain⟨gi0,gi1,gk⟩:=hj;refine⟨fun hlt=>⟨gi0,hlt,fun _ _ _ _=>⟨gi0,by omega,fun _ _ _ _=>⟨fun h=>⟨no fun hs=>h (hs.2.2.2 i' gi0 hlt),trivial⟩,fun h=>⟨?_, ?_, ?_⟩⟩⟩⟩,fun hge'=>⟨?_,trivial⟩⟩
 ·rw[au];omega
 ·rw[hJ2];refine⟨by omega,by omega,fun k g1 g2=> ?_⟩
  by_cases ek:k=i'
  ·rw[ek];exact zB.1 h
  ·exact gk k g1 (by omega)
 ·rw[hm2];show(p.len-(i'+1)).toNat<(p.len-i').toNat;omega
 ·simp only[yN,decide_true,true_iff]
  exact⟨h1,⟨h2,fun k g1 g2=>hk k g1 (by omega)⟩,⟨h3,fun k g1 g2=>gk k g1 (by omega)⟩⟩
theorem aaK:afb:=by
 intro st hst d p m hm hp;have hd0:=len0 d;obtain⟨h0,h1,h2⟩:HY st d:=hp;have rs:=aJ;refine⟨fun i=>0<=i/\i<=d.len/\∀k:Int,0<=k->k<i->st+k≠m,fun i=>(d.len-i).toNat,⟨zE _,hd0,fun k g1 g2=>by omega⟩,fun i hri⟨g0,g1,g2⟩ hsm=>⟨fun hlt=>⟨rs _ (by omega),fun e=>⟨?_,trivial⟩,fun e=>⟨rs _ (by omega),⟨by omega,by omega,fun k k0 k1=> ?_⟩, ?_⟩⟩,fun hge=>⟨?_,trivial⟩⟩⟩
 ·simp only[EU,og,decide_true,true_iff];omega
 ·by_cases ek:k=i
  ·rw[ek];exact e
  ·exact g2 k k0 (by omega)
 ·show(d.len-(i+1)).toNat<(d.len-i).toNat;omega
 ·simp only[EU,og,decide_false,qG,false_iff]
  intro hh;exact g2 (m-st) (by omega) (by omega) (by omega)
theorem TQ:XV:=by
 intro st hst d p day xX mo hmo kind hk amt aDj hp;rw[aAT]at hk;simp only[Qg,OW,EU,kY,og,VT,decide_eq_true_eq,decide_true,decide_false]at*;have hx:∀X:Prop,X->(True↔X):=fun X h=>⟨fun _=>h,fun _=>trivial⟩
 repeat' first|exact hp|apply And.intro|(intro _)
 all_goals first|trivial|grind
theorem TS:XW:=by
 intro st hst d p q hp;have hq0:=len0 q;have rs:=aJ;have hs:HY st d:=hp;refine⟨fun i=>0<=i/\i<=q.len/\∀k:Int,0<=k->k<i->qW st d.len q 0 k,fun i=>(q.len-i).toNat,⟨zE _,hq0,fun k g1 g2=>by omega⟩,fun i hri⟨g0,g1,g2⟩ hsm=>⟨fun hlt=>⟨g0,hlt,fun r0 r1 r2 r3=>⟨hs,fun b hb=> ?_⟩⟩,fun hge=>⟨?_,trivial⟩⟩⟩
 ·have ai0:=iW hsm
  have bad:¬qW st d.len q 0 i->tq st d p q (decide False):=fun hn=>by
   simp only[tq,decide_false,qG,false_iff];exact fun h=>hn (h i g0 hlt)
  have good:qW st d.len q 0 i->iA (i+1)/\(0<=i+1/\i+1<=q.len/\∀k:Int,0<=k->k<i+1->qW st d.len q 0 k)/\(q.len-(i+1)).toNat<(q.len-i).toNat:=fun h=>
   ⟨rs _ (by omega),⟨by omega,by omega,fun k k0 k1=>by
    by_cases ek:k=i
    ·rw[ek];exact h
    ·exact g2 k k0 (by omega)⟩,by omega⟩
  simp only[kY,decide_eq_true_eq]at hb;have hfit:b=true↔JA st d.len q i:=hb;refine⟨fun hn=>⟨bad fun h=>hn (hfit.2 h.1),trivial⟩,fun hn=> ?_⟩
  have hf:JA st d.len q i:=hfit.1 (by simpa using hn);refine⟨fun hpos=>⟨rs _ (by omega),by omega,by omega,fun r4=>⟨g0,hlt,fun r5=>⟨fun hgt=>⟨bad fun h=> ?_,trivial⟩,fun hgt=>good ⟨hf, ?_⟩⟩⟩⟩,fun hpos=>good ⟨hf, ?_⟩⟩
  ·have:=h.2
   unfold prev at this;rw[if_neg (by omega)]at this;omega
  ·unfold prev
   rw[if_neg (by omega)];omega
  ·unfold prev
   rw[if_pos (by omega)];exact hf.1.1
 ·simp only[tq,decide_true,true_iff]
  exact fun k k0 k1=>g2 k k0 (by omega)
theorem TU:XY:=by
 intro st hst d p _;have rs:=aJ;have hd0:=len0 d;have hp0:=len0 p;have bad:¬aA st d p->jr st d p (decide False)/\True:=fun h=>⟨by simp[jr,h],trivial⟩
 refine⟨fun h=>bad fun hv=> ?_,fun h1=>⟨fun h=>bad fun hv=> ?_,fun h2 hs1=>⟨fun h=>bad fun hv=> ?_,fun h3 hs2=>⟨rs _ (by omega),fun h=>bad fun hv=> ?_,fun h4 hs3=>⟨fun h=>bad fun hv=> ?_,fun h5=> ?_⟩⟩⟩⟩⟩
 ·have:=hv.1;omega
 ·have:=hv.1;omega
 ·have:=hv.1;omega
 ·have:=hv.1;omega
 ·have:=hv.2.2.1;omega
 refine⟨fun i=>0<=i/\i<=d.len/\∀k:Int,0<=k->k<i->0<=d.int k 0/\d.int k 0<=1099511627776,fun i=>(d.len-i).toNat,⟨zE _,hd0,fun k g1 g2=>by omega⟩,fun i hri⟨g0,g1,g2⟩ hsm=>⟨fun hlt=>⟨g0,hlt,fun r0=>⟨fun h=>bad fun hv=> ?_,fun h6=>⟨g0,hlt,fun r1=>⟨fun h=>bad fun hv=> ?_,fun h7=>⟨rs _ (by omega),⟨by omega,by omega,fun k k0 k1=> ?_⟩, ?_⟩⟩⟩⟩⟩,fun hge=>⟨⟨by omega,by omega,by omega⟩,fun b hb=>⟨?_,trivial⟩⟩⟩⟩
 ·have:=hv.2.1 i g0 hlt;omega
 ·have:=hv.2.1 i g0 hlt;omega
 ·by_cases ek:k=i
  ·rw[ek];omega
  ·exact g2 k k0 (by omega)
 ·show(d.len-(i+1)).toNat<(d.len-i).toNat;omega
 ·simp only[tq,jr,decide_eq_true_eq]at*
  rw[hb];exact⟨fun h=>⟨⟨by omega,by omega,by omega,by omega⟩,fun k k0 k1=>g2 k k0 (by omega),by omega,h⟩,fun h=>h.2.2.2⟩
end Go.Sx.N.L
namespace Go.Sx.N
theorem aaJ:afa:=L.aaJ
theorem aaK:afb:=L.aaK
theorem TQ:XV:=L.TQ
theorem TS:XW:=L.TS
theorem TU:XY:=L.TU
theorem aqy:ah7:=by
 intro st _ d p q ⟨hp,hq⟩;simp only[zC,zM];have p0:=len0 p;have q0:=len0 q;have e0:(zA []).len=0:=rfl;have bad:¬l9 st d p q->xK st d p q 0 zD zD 2/\True:=fun h=>⟨⟨fun _=>⟨rfl,rfl,rfl,rfl⟩,fun g=>absurd g h⟩,trivial⟩
 refine⟨by omega,by omega,trivial,fun v hv=>⟨fun hn=>bad fun h=>hn (hv.2 h.1),fun hy=> ?_⟩⟩
 have hv:=hv.1 (zB.1 hy);have hf:=aai (st:=st) (n:=d.len) (RD p q) 0;refine⟨⟨hv.1.1,hv.1.2.1,hv.1.2.2.1⟩,fun w hw=>⟨fun hn=>bad fun h=>hn (hw.2 (hf.2 ⟨hv.2.2.2,h.2⟩)),fun hy' _=> ?_⟩⟩
 have hok:l9 st d p q:=⟨hv,(hf.1 (hw.1 (zB.1 hy'))).2⟩;rw[dG];exact⟨fun hl=>⟨⟨fun k=>absurd hok k,fun _=>⟨fun _=>⟨rfl,rfl,rfl,rfl⟩,fun k=>by omega⟩⟩,trivial⟩,fun hl=>⟨⟨fun k=>absurd hok k,fun _=>⟨fun k=>by omega,fun _=>⟨rfl,rfl,⟨rfl,fun _ _ _=>rfl⟩,RD p q⟩⟩⟩,trivial⟩⟩
namespace L
theorem PN:TY:=by
 intro st _ d p mo _ hv;obtain⟨hb,hd,hp,hf⟩:aA st d p:=hv;have hp0:=len0 p;obtain⟨f,hff⟩:∃f:Int->Int,f=fun i=>if p.int i 1=mo then lq p i else 0:=⟨_,rfl⟩
 have hbound:∀i:Int,0<=i->i<p.len->-1099511627776<=f i/\f i<=1099511627776:=fun i h0 h1=>by
  have:=Fq (hf i h0 h1);rw[hff];show-1099511627776<=(if p.int i 1=mo then lq p i else 0)/\(if p.int i 1=mo then lq p i else 0)<=1099511627776
  split<;>omega
 refine⟨fun x i=>0<=i/\i<=p.len/\x=sumTo f i.toNat,fun _ i=>(p.len-i).toNat,⟨zE _,hp0,rfl⟩,fun x _ i _⟨h0,h1,hx⟩ _=>⟨fun hlt=>⟨h0,hlt,fun _=> ?_⟩,fun hge=>⟨?_,trivial⟩⟩⟩
 ·have hfi:f i=if p.int i 1=mo then(if p.int i 2=3 then 0 else p.int i 3)else 0:=by rw[hff];rfl
  have zero:f i=0->iA (i+1)/\(0<=i+1/\i+1<=p.len/\x=sumTo f (i+1).toNat)/\(p.len-(i+1)).toNat<(p.len-i).toNat:=fun hy=>by
   obtain⟨g1,g2,g3,g4⟩:=ayY hp hbound h0 hlt hx hy;rw[Int.add_zero]at g2;exact⟨g4,g2,g3⟩
  refine⟨fun e=>⟨h0,hlt,fun _=>⟨fun e2=>⟨h0,hlt,fun _=> ?_⟩,fun e2=>zero ?_⟩⟩,fun e=>zero (by rw[hfi,if_neg e])⟩
  ·obtain⟨g1,g2,g3,g4⟩:=ayY hp hbound h0 hlt hx (y:=p.int i 3) (by rw[hfi,if_pos e,if_neg e2])
   exact⟨g1,g4,g2,g3⟩
  ·rw[hfi,if_pos e,if_pos (zB.1 e2)]
 ·have:i.toNat=p.n:=by unfold zG at*;omega
  rw[this,hff]at hx;exact hx
end L
theorem PN:TY:=L.PN
theorem anf:aff:=by
 intro st _ d p m _ due _ _;simp only[zC];have d0:=len0 d;have bad:¬uM st d p m due->je st d p m due 0 zD zD 2/\True:=fun h=>⟨⟨fun _=>⟨rfl,rfl,rfl,rfl⟩,fun k=>absurd k h⟩,trivial⟩
 have many:uM st d p m due->jw st d m->je st d p m due 0 zD zD 5/\True:=fun h hm=>⟨⟨fun k=>absurd h k,fun _=>⟨fun _=>⟨rfl,rfl,rfl,rfl⟩,fun k=>absurd hm k⟩⟩,trivial⟩
 have good:∀{d':Sl},uM st d p m due->¬jw st d m->learnt st d p m due st d' p->je st d p m due st d' p 0/\True:=fun h hm hl=>⟨⟨fun k=>absurd h k,fun _=>⟨fun k=>absurd k hm,fun _=>⟨rfl,hl⟩⟩⟩,trivial⟩
 have pp:aQ p p:=⟨rfl,fun _ _ _=>⟨rfl,rfl,rfl,rfl⟩⟩
 refine⟨trivial,fun v hv=>⟨fun h=>bad fun k=>h (hv.2 k.1),fun h=> ?_⟩⟩
 have hv:=hv.1 (zB.1 h);have hb:=hv.1;refine⟨fun h=>bad fun k=>by have:=k.2.1;omega,fun h1=>⟨fun h=>bad fun k=>by have:=k.2.2.1;omega,fun h2=>⟨⟨hb.1,hb.2.1,hb.2.2.1⟩,fun w hw=>⟨fun hw1=> ?_,fun hw1=> ?_⟩⟩⟩⟩
 ·obtain⟨a,b⟩:=hw.1 hw1
  have hok:uM st d p m due:=⟨hv,by omega,by omega,a,by omega⟩;have el:(zF (zA []) d).len=d.len:=L.JH d;refine⟨by show((0:Int)+d.len)*8<=_;omega,by rw[au];omega,by omega,by rw[el];omega,good hok (fun k=>by have:=k.1;omega) ⟨rfl,pp,by rw[dO,el];unfold imax;split<;>omega,fun i i0 i1=> ?_⟩⟩
  rw[dY (by omega) i0,L.wJ i0]
 ·refine fun _=>⟨by rw[au];omega,fun hne=>bad fun k=> ?_,fun he _=> ?_⟩
  ·obtain⟨_,_,_,k1,k2⟩:=k
   exact hw1 (hw.2 ⟨k1,by omega⟩)
  have he:=zB.1 he;have hok:uM st d p m due:=⟨hv,by omega,by omega,by omega,by omega⟩;refine⟨fun h3=>many hok ⟨he, .inl (by omega)⟩,fun h3=>⟨fun h4=>many hok ⟨he, .inr h4⟩,fun h4=> ?_⟩⟩
  have el:(zF (zA []) d).len=d.len:=L.JH d;have l1:(zA [[D.int due]]).len=1:=rfl;have core:((zA []).len+d.len)*8<=140737488355328/\((zF (zA []) d).len+(zA [[D.int due]]).len)*8<=140737488355328/\je st d p m due st (zF (zF (zA []) d) (zA [[D.int due]])) p 0/\True:=by
   refine⟨by show((0:Int)+d.len)*8<=_;omega,by rw[el,l1];omega,good hok (fun k=>by rcases k.2 with k|k<;>omega) ⟨rfl,pp,by rw[dG,el,l1];unfold imax;split<;>omega,fun i i0 i1=> ?_⟩⟩
   by_cases c:i<d.len
   ·rw[aS i0 (by rw[el];exact c),L.wJ i0,if_neg (by omega)]
   ·rw[dG,el,l1]at i1
    have ei:i=d.len:=by omega
    rw[aG (by rw[el];omega),el,if_pos (by omega),ei,zR];rfl
  exact⟨⟨core,core⟩,core⟩
theorem ang:afg:=by
 intro a b rb c d rd _;simp only[zC];have no:¬jK a b c d->Dc a b c d (decide False)/\True:=fun h=>⟨by simp[Dc,h],trivial⟩
 refine⟨trivial,fun v hv=>⟨fun h=>⟨fun hn=>⟨trivial,fun x y ry z u ru h1=>⟨trivial,fun r _ hr=>⟨?_,trivial⟩⟩⟩,fun hn=>no fun k=> ?_⟩,fun h=>no fun k=>h (hv.2 k.1)⟩⟩
 ·have o:=hv.1 h
  have s:=hr.1 ⟨o,Pn h1.1 h1.2.1 h1.2.2⟩;rw[h1.1.fq]at s;show decide (r<=0)=true↔jK a b c d;rw[decide_eq_true_eq,aiB s];exact⟨fun k=>⟨o,(VY o (aj rb)).2 hn,k⟩,fun k=>k.2.2⟩
 ·exact hn ((VY k.1 (aj rb)).1 k.2.1)
theorem anh:afh:=by
 intro st rst d rd p _ m rm a b rb c f rf _;simp only[zC];have d0:=len0 d;have no:¬(aA st d p/\jK a b c f)->jW st d p m a b c f 0 2/\True:=fun h=>⟨⟨fun _=>⟨rfl,rfl⟩,fun k=>absurd k h⟩,trivial⟩
 refine⟨trivial,fun v hv=>⟨fun h=>no fun k=>h (hv.2 k.1),fun h=>⟨trivial,fun w hw=>⟨fun g=>no fun k=>g (hw.2 k.2),fun g=> ?_⟩⟩⟩⟩
 have k1:=hv.1 (zB.1 h);have k2:=hw.1 (zB.1 g);obtain⟨s0,s1,s2,s3⟩:=k1.1;have ok:∀r e,arV st d m (fq a b f) r e->jW st d p m a b c f r e/\True:=fun r e h=>⟨⟨fun k=>absurd ⟨k1,k2⟩ k,fun _=>h⟩,trivial⟩
 refine⟨⟨s0,s1,s2⟩,fun t ht=>⟨fun hn=>ok _ _ ⟨fun _=>⟨rfl,rfl⟩,fun k=>absurd (ht.2 k) hn⟩,fun hn=> ?_⟩⟩
 have hm:=ht.1 (zB.1 hn);obtain⟨m0,m1⟩:=hm;obtain⟨D,hD⟩:∃D,D=d.int (m-st) 0:=⟨_,rfl⟩;have Db:=k1.2.1 (m-st) (by omega) (by omega);rw[<-hD]at Db⊢;have lim:∀r e,arU (fq a b f) D r e->jW st d p m a b c f r e/\True:=fun r e h=>ok _ _ ⟨fun k=>absurd ⟨m0,m1⟩ k,fun _=>by rw[<-hD];exact h⟩
 have tail:∀ia ib ic WT,aU D ia ib ic WT->Gj a b c f ia ib ic WT/\∀b15:Bool,∀s16:Sl,Ranged s16 [some .u16]->∀b17:Bool,∀ay:Sl,Ranged ay [some .u16]->∀x19:Int,iA x19->uG a b c f ia ib ic WT b15 s16 b17 ay x19->
   ((x19≠0->jW st d p m a b c f 0 x19/\True)/\(¬x19≠0->yH b15 s16 b17 ay/\∀b20:Bool,∀jD:Sl,Ranged jD [some .u16]->∀bQ:Int,iA bQ->vM b15 s16 b17 ay b20 jD bQ->F6 b20 jD/\∀x23:Int,iA x23->∀x24:Int,iA x24->lH b20 jD x23 x24->jW st d p m a b c f x23 x24/\True)):=by
  intro ia ib ic WT hi;refine⟨trivial,fun xa xb rxb xc xd rxd e _ hx=> ?_⟩
  have hx:=hx.1 ⟨k2.1,Pn hi.1 hi.2.1 hi.2.2⟩;rw[hi.1.fq]at hx;by_cases fit:bM (fq a b f*(D:Rat))
  ·obtain⟨qx,rfl⟩:=hx.1 fit
   have ox:=qx.ok (aj rxb) (aj rxd) fit;have fb:=LX k2.2.1 k2.2.2 Db.1 Db.2;refine⟨fun k=>absurd rfl k,fun _=>⟨trivial,fun ya yb ryb e2 _ hy=> ?_⟩⟩
   have hy:=hy.1 ox;rw[qx.fq]at hy;have yl:yb.len<=4:=by
    refine BM (aj ryb) hy.1 (k:=4) ?_
    rw[hy.2.1];have:(65536:Int)^4=18446744073709551616:=rfl;omega
   refine⟨⟨hy.1,by omega⟩,fun r _ e3 _ hr=> ?_⟩
   have hr:(tN (zv ya yb)/\r=zv ya yb/\e3=0)\/(¬tN (zv ya yb)/\r=0/\e3=3):=hr;rw[hy.2.1]at hr;rcases hr with hr|hr
   ·exact lim _ _ ⟨fun _=>hr.2,fun k=>absurd fit k⟩
   ·exact absurd (show tN _ by unfold tN;omega) hr.1
  ·obtain⟨zx,rfl⟩:=hx.2 fit
   exact⟨fun _=>lim _ _ ⟨fun k=>absurd k fit,fun _=>⟨rfl,rfl⟩⟩,fun k=>absurd (by decide) k⟩
 refine⟨by rw[au];omega,by omega,by omega,fun _=>⟨⟨trivial,fun ia ib rib ic WT rid hi=>⟨tail ia ib ic WT hi,tail ia ib ic WT hi⟩⟩,⟨trivial,fun ia ib rib ic WT rid hi=>tail ia ib ic WT hi⟩⟩⟩
theorem arj:ail:=by
 intro st _ d _ p _ day _ m _ a b rb c f rf _;simp only[zC];refine⟨trivial,fun lim _ e _ hl=>⟨fun he=>⟨af8 hl he,trivial⟩,fun he=> ?_⟩⟩
 have he:e=0:=zB.1 he;subst he;have hl:Dj st d p m a b c f lim 0:=hl;obtain⟨hv,hs,hm,hf,hr,l0,l1⟩:=abV hl;refine⟨fun h=>⟨RH hl (by omega),trivial⟩,fun h1=>⟨fun h=>⟨RH hl (by omega),trivial⟩,fun h2=> ?_⟩⟩
 have xX:0<=day/\day<65536:=⟨by omega,by omega⟩;have d0:=len0 d;have hd:=hv.1.2.2.1;have hb:=hv.1;refine⟨fun x s k=>(0<=k/\k<=d.len)/\x=gK st d p m lim k.toNat/\s=zA (iy st d p day m lim k.toNat),fun _ _ k=>(d.len-k).toNat,⟨⟨zE _,d0⟩,rfl,Eb⟩,fun x _ t _ k _ hJ _=> ?_⟩
 obtain⟨⟨k0,k1⟩,hx,ht⟩:=hJ;have lb:=abW hv (m:=m) l0 (n:=k.toNat) (by omega);rw[<-hx]at lb;have skip:k<d.len->mg st d p m lim k.toNat=0->iA (k+1)/\((0<=k+1/\k+1<=d.len)/\x=gK st d p m lim (k+1).toNat/\t=zA (iy st d p day m lim (k+1).toNat))/\(d.len-(k+1)).toNat<(d.len-k).toNat:=fun hlt h0=>by
  obtain⟨s1,s2⟩:=acX (day:=day) k0 h0;exact⟨by rw[au];omega,⟨⟨by omega,by omega⟩,by rw[s2,hx],by rw[s1,ht]⟩,by omega⟩
 refine⟨fun hlt=>⟨by rw[au];omega,⟨hv,by omega,by omega⟩,fun o _ ho=>⟨by rw[au];omega,fun hge=>skip hlt ?_,fun hge=> ?_⟩⟩,fun hge=>⟨aiC hl xX ?_,trivial⟩⟩
 ·unfold mg mX
  rw[if_neg (by omega)]
 ·have ho:o=d.int (st+k-st) 0-aV p (st+k):=ho
  rw[show st+k-st=k by omega]at ho;have ho:o=-ov st d p k:=by unfold ov;omega
  have ob:=ak3 hv k0 hlt;have hu:mg st d p m lim k.toNat=imin (mW (ov st d p k)) x:=by
   unfold mg mX;have e2:((k.toNat:Nat):Int)=k:=by omega
   rw[e2,if_pos (by omega),<-hx]
  refine⟨fun hn=>skip hlt ?_,fun hn=>⟨fun hz=>skip hlt ?_,fun hz=> ?_⟩⟩
  ·have:mW (ov st d p k)=0:=by unfold mW;rw[if_neg (by omega)]
   rw[hu,this];unfold imin;split<;>omega
  ·have:=Po hv k0 hlt
   rw[hu,hz];unfold imin;split<;>omega
  ·have hpo:mW (ov st d p k)=ov st d p k:=by unfold mW;rw[if_pos (by omega)]
   rw[hpo]at hu;have rl:=RG (st:=st) (d:=d) (p:=p) (day:=day) (m:=m) (lim:=lim) k.toNat;have tl:t.len<=k:=by rw[ht,jO];omega
   have go:∀u am:Int,mg st d p m lim k.toNat=u->0<u->u<=x->am=0-u->iA (st+k)/\(t.len+(zA [[D.int day, .int (st+k), .int 4, .int am]]).len)*32<=140737488355328/\iA (k+1)/\((0<=k+1/\k+1<=d.len)/\x+am=gK st d p m lim (k+1).toNat/\zF t (zA [[D.int day, .int (st+k), .int 4, .int am]])=zA (iy st d p day m lim (k+1).toNat))/\(d.len-(k+1)).toNat<(d.len-k).toNat:=by
    rintro u am h0 h1 h2 rfl
    obtain⟨t1,t2⟩:=acY (day:=day) k0 h0 h1;have o1:(zA [[D.int day, .int (st+k), .int 4, .int (0-u)]]).len=1:=rfl;exact⟨by rw[au];omega,by rw[o1];omega,by rw[au];omega,⟨⟨by omega,by omega⟩,by rw[t2,hx];omega,by rw[t1,ht]⟩,by omega⟩
   refine⟨by rw[au];omega,fun hgt=> ?_,fun hle=> ?_⟩
   ·obtain⟨g1,g2,g3,g4⟩:=go x (0-x) (by rw[hu];unfold imin;rw[if_pos (by omega)]) (by omega) (zE _) rfl
    exact⟨by rw[au];omega,by rw[au];omega,g1,g2,g3,g4⟩
   ·obtain⟨g1,g2,g3,g4⟩:=go (ov st d p k) o (by rw[hu];unfold imin;rw[if_neg (by omega)]) (by omega) (by omega) (by omega)
    exact⟨by rw[au];omega,g1,g2,g3,g4⟩
 ·rw[ht]
  have:k.toNat=d.n:=by unfold zG at*;omega
  rw[this]
theorem RJ{q:Rat}{a c:Bool}{b d:Sl}(h:aK q a b c d)(l1:b.len<=4)(l2:d.len<=4):Jk a b c d:=⟨h.pO,by omega,by omega⟩
theorem asR{l:Sl}{m A i:Int}:((A:Int):Rat)-zL (l.int i 0*m) 12=((12*A-l.int i 0*m:Int):Rat)/12:=by
 rw[show((12:Int))=12 from rfl,Rat.divInt_eq_div,Rat.intCast_sub,Rat.intCast_mul 12 A]
 rw[show((12:Int):Rat)=12 from rfl]
 grind
theorem azC{x:Int}(h:x<=0):((x:Int):Rat)/12<=0:=by
 have:((x:Int):Rat)<=0:=zP.2 h
 grind
theorem azD{x:Int}(h:¬((x:Int):Rat)/12<=0):0<x:=by
 by_cases e:x<=0
 ·exact absurd (azC e) h
 ·omega
def JT(l:Sl)(m A:Int):Int->Bool->Sl->Bool->Sl->Prop:=fun i a b c d=>0<=i/\i<=l.len/\aK (TN l m A i.toNat/12) a b c d
def MT(l:Sl):Int->Bool->Sl->Bool->Sl->Nat:=fun i _ _ _ _=>(l.len-i).toNat
theorem ay3{l:Sl}{m A:Int}(h:bZ l)(hm:1<=m/\m<=12)(hA:amt A){i:Nat}(hi:(i:Int)<=l.len):bM (TN l m A i/12):=
 (YG (aak h hm hA hi)).fit (by decide) (by decide)
theorem ali{l:Sl}{m A i:Int}(hp:VP l m A)(i0:0<=i)(i1:i<l.len){a c:Bool}{b d:Sl}(rb:bC 65536 b)(rd:bC 65536 d)(hJ:aK (TN l m A i.toNat/12) a b c d)
  {p r:Bool} {q s:Sl} (rq':bC 65536 q) (rs:bC 65536 s) (hq:PS (l.int i 0*m) 12 p q r s) {p' r':Bool} {q' s':Sl} (hf:aU A p' q' r' s'):
  DY l (JT l m A) (MT l) i a b c d p q r s p' q' r' s':=by
 simp only[DY,zC];have v:=hp.1;have ak9:=v.1;have hm:=hp.2.1;have hA:=hp.2.2;have ei:((i.toNat:Nat):Int)=i:=by omega
 have nx:(i+1).toNat=i.toNat+1:=by omega
 have hms:(l.len-(i+1)).toNat<(l.len-i).toNat:=by omega
 have st:TN l m A (i.toNat+1)=TN l m A i.toNat+(PI l m A i:Rat)*(N.rq l i-rp l i):=by simp only[TN,ei]
 have b1:=v.at i0 i1;refine⟨⟨RJ hf.1 hf.2.1 hf.2.2,RJ hq.1 hq.2.1 hq.2.2⟩,fun a1 x1 r1 a2 x2 r2 h1=>⟨trivial,fun a3 x3 r3 a4 x4 r4 h0=> ?_⟩⟩
 have h1:aK (fq p' q' s'-fq p q s) a1 x1 a2 x2:=h1;rw[hf.1.fq,hq.1.fq,asR]at h1;have f0:0<=l.int i 0*m:=Int.mul_nonneg b1.1.1 (by omega);have f1:l.int i 0*m<=1099511627776*12:=Int.mul_le_mul b1.1.2 hm.2 (by omega) (by decide);have hA':=hA;unfold amt at hA';have lens:x1.len<=4/\x2.len<=4:=by
  have e:((12*A-l.int i 0*m:Int):Rat)/12=zL (12*A-l.int i 0*m) 12:=by rw[Rat.divInt_eq_div];rfl
  have h2:=h1;rw[e]at h2;have p4:(65536:Int)^4=18446744073709551616:=by decide
  exact h2.anZ (aj r1) (aj r2) (by decide) (k:=4) (by rw[p4];omega) (by decide)
 have sm1:=RJ h1 lens.1 lens.2;refine⟨⟨sm1,RJ h0.1 h0.2.1 h0.2.2⟩,fun x _ hx=> ?_⟩
 have hx:Gm (fq a1 x1 x2) (fq a3 x3 x4) x:=hx;rw[h1.fq,h0.1.fq]at hx;refine⟨fun hle=> ?_,fun hgt=>⟨i0,i1,fun rr1 rr2=> ?_⟩⟩
 ·have z:=hx.le.1 hle
  have zn:12*A-l.int i 0*m<=0:=by
   by_cases e:12*A-l.int i 0*m<=0
   ·exact e
   ·have h3:(0:Int)<12*A-l.int i 0*m:=by omega
    have h4:((1:Int):Rat)<=((12*A-l.int i 0*m:Int):Rat):=zP.2 h3;rw[show((1:Int):Rat)=1 from rfl]at h4
    rw[show((0:Int):Rat)=0 from rfl]at z
    grind
  have pz:PI l m A i=0:=by unfold PI;rw[if_pos zn]
  simp only[acR,zC];refine⟨by rw[au];omega,⟨by omega,by omega, ?_⟩,hms⟩
  rw[nx,st,pz,show((0:Int):Rat)=0 from rfl]
  have:TN l m A i.toNat+0*(N.rq l i-rp l i)=TN l m A i.toNat:=by grind
  rw[this];exact hJ
 ·have z:¬((12*A-l.int i 0*m:Int):Rat)/12<=0:=fun k=>hgt (hx.le.2 (by rw[show((0:Int):Rat)=0 from rfl];exact k))
  have zp:=azD z;have pe:PI l m A i=12*A-l.int i 0*m:=by unfold PI;rw[if_neg (by omega)]
  have ok:=(v.2.1 i i0 i1).2.1;have rd1:=v.rd i0 i1;have aAV:bM (N.rq l i-rp l i):=rd1.fit (by decide) (by decide);refine⟨fun p q r s=>aK (N.rq l i-rp l i) p q r s/\okF p q r s,⟨fun hi=> ?_,fun hi=> ?_⟩,fun p q rq2 r s rs2 hj=> ?_⟩
  ·have body:Ny l i (fun p q r s=>aK (N.rq l i-rp l i) p q r s/\okF p q r s):=by
    simp only[Ny,zC];intro _ _;have ok':=(v.2.1 (i-1) (by omega) (by omega)).2.1;refine⟨⟨ok.sm,ok'.sm⟩,fun p q r2 r s r3 h=> ?_⟩
    have h:aK (N.rq l i-N.rq l (i-1)) p q r s:=h;have e:rp l i=N.rq l (i-1):=by unfold rp;rw[if_neg (by omega)]
    rw[<-e]at h;exact⟨h,h.ok (aj r2) (aj r3) aAV⟩
   exact⟨by rw[au];omega,by omega,by omega,body,body⟩
  ·have e0:i=0:=by omega
   have e:N.rq l i-rp l i=N.rq l i:=by unfold rp;rw[if_pos e0];grind
   rw[e];exact⟨ok.iO,ok⟩
  ·have bS:=aak (A:=A) v hm hA (i:=i.toNat) (by omega)
   have okS:=hJ.ok rb rd (ay3 v hm hA (by omega));have body:Nz (JT l m A) (MT l) i a b c d a1 x1 a2 x2 p q r s:=by
    simp only[Nz,zC];refine⟨⟨sm1,hj.2.sm⟩,fun a5 x5 r5 a6 x6 r6 h5=> ?_⟩
    have h5:aK (fq a1 x1 x2*fq p q s) a5 x5 a6 x6:=h5;rw[h1.fq,hj.1.fq]at h5;have pb:=adL (m:=m) (A:=A) v hm hA i0 i1;have f5:bM (((12*A-l.int i 0*m:Int):Rat)/12*(N.rq l i-rp l i)):=by
     rw[<-pe];exact((YG (Bd.int pb.1 pb.2)).mul rd1).fit (by decide) (by decide)
    have ok5:=h5.ok (aj r5) (aj r6) f5;refine⟨⟨okS.sm,ok5.sm⟩,fun a7 x7 r7 a8 x8 r8 h7=>⟨by rw[au];omega,⟨by omega,by omega, ?_⟩,hms⟩⟩
    have h7:aK (fq a b d+fq a5 x5 x6) a7 x7 a8 x8:=h7;rw[hJ.fq,h5.fq,<-pe]at h7;rw[nx,st];have e:TN l m A i.toNat/12+((PI l m A i:Int):Rat)/12*(N.rq l i-rp l i)=(TN l m A i.toNat+((PI l m A i:Int):Rat)*(N.rq l i-rp l i))/12:=by grind
    rw[<-e];exact h7
   exact⟨body,body⟩
theorem arl:ain:=by
 intro l rl m _ A _ hp;simp only[zC];have v:=hp.1;have ak9:=v.1;have l0:=len0 l;have hm:=hp.2.1;refine⟨trivial,fun a0 b0 r0 c0 d0 r1 h0=>⟨JT l m A,MT l,⟨by omega,l0, ?_⟩,fun i _ a b rb c d rd hJ _=> ?_⟩⟩
 ·have e:TN l m A (0:Int).toNat/12=((0:Int):Rat):=by
   show TN l m A 0/12=((0:Int):Rat);simp only[TN];rw[show((0:Int):Rat)=0 from rfl];grind
  rw[e];exact h0.1
 obtain⟨i0,i1,hJ⟩:=hJ;refine⟨fun hi=>⟨i0,hi,fun _=> ?_⟩,fun hi=>⟨?_,trivial⟩⟩
 ·have b1:=(v.at i0 hi).1
  have f0:0<=l.int i 0*m:=Int.mul_nonneg b1.1 (by omega);have f1:l.int i 0*m<=1099511627776*12:=Int.mul_le_mul b1.2 hm.2 (by omega) (by decide);refine⟨by rw[au];omega,by show(12:Int)≠0;decide,fun p q rq' r s rs hq=> ?_⟩
  have core:∀(p':Bool)(q':Sl)(r':Bool)(s':Sl),aU A p' q' r' s'->DY l (JT l m A) (MT l) i a b c d p q r s p' q' r' s':=
   fun p' q' r' s' hf=>ali hp i0 hi (aj rb) (aj rd) hJ (aj rq') (aj rs) hq hf
  exact⟨⟨trivial,fun p' q' _ r' s' _ hf=>⟨core p' q' r' s' hf,core p' q' r' s' hf⟩⟩,trivial,fun p' q' _ r' s' _ hf=>core p' q' r' s' hf⟩
 ·have e:i=l.len:=by omega
  subst e;exact⟨hJ,hJ.ok (aj rb) (aj rd) (an5 v hm hp.2.2)⟩
theorem xO{n:Int}{a c:Bool}{b d:Sl}(h:aU n a b c d):okF a b c d:=⟨h.1.pO,by have:=h.2.1;omega,by have:=h.2.2;omega⟩
theorem agv{a c n2:Bool}{b d s1:Sl}{n1:Bool}{s2:Sl}(rd:bC 65536 d)(r1:bC 65536 s1)(h:okF a b c d)(h1:aU 1 n1 s1 n2 s2):
  aK (((fq a b d).den:Int):Rat) c d n1 s1/\okF c d n1 s1:=by
 have z1:zv n1 s1=1:=by rw[h1.1.2.1];rfl
 have q:=Pm (n:=((fq a b d).den:Int)) r1 h.iO.WO h.iO.zd h1.1.1 z1;exact⟨q,q.pO,h.2.2,by have:=h1.2.1;omega⟩
theorem akl:acK:=by
 intro l rl _;simp only[zC];have l0:=len0 l;have no:¬bZ l->iZ l (decide False)/\True:=fun h=>⟨by simp only[iZ,decide_false,qG,false_iff];exact h,trivial⟩
 refine fun _=>⟨fun h=>no fun hk=>by have:=hk.1;omega,fun hlen=>⟨fun i=>0<=i/\i<=l.len/\(∀k:Int,0<=k->k<i->okB l k)/\(∀k:Int,1<=k->k<i->okP l k),fun i=>(l.len-i).toNat,⟨by omega,by omega,fun k _ _=>by omega,fun k _ _=>by omega⟩,fun i _ hJ sm=> ?_⟩⟩
 obtain⟨i0,i1,hk,hp⟩:=hJ;refine⟨fun hi=>⟨i0,hi,fun _ kD rd'=>⟨fun h=>no fun hv=> ?_,fun h1=>⟨fun h=>no fun hv=> ?_,fun h2=>⟨trivial,fun v hv=>⟨fun h=>no fun hs=> ?_,fun h=>⟨trivial,fun n1 s1 r1 n2 s2 r2 h0=>⟨trivial,fun x _ hx=>⟨fun g=>no fun hs=> ?_,fun g1=>⟨trivial,fun m1 t1 r3 m2 t2 r4 g0=>⟨trivial,fun y _ hy=>⟨fun g=>no fun hs=> ?_,fun g2=>⟨trivial,fun n3 s3 r5 n4 s4 r6 f1=>⟨trivial,fun n5 s5 r7 n6 s6 r8 fm=>⟨trivial,fun z _ hz=>⟨fun g=>no fun hs=> ?_,fun g3=> ?_⟩⟩⟩⟩⟩⟩⟩⟩⟩⟩⟩⟩⟩⟩⟩,fun hi=>⟨?_,trivial⟩⟩
 ·have:=(hv.2.1 i i0 hi).1;omega
 ·have:=(hv.2.1 i i0 hi).1;omega
 ·exact h (hv.2 (hs.2.1 i i0 hi).2.1)
 ·have b:=hs.2.1 i i0 hi
  have s:=hx.1 ⟨b.2.1,xO h0⟩;rw[h0.1.fq]at s;have:=s.ge.2 (by rw[show((0:Int):Rat)=0 from rfl];exact b.2.2.1)
  omega
 ·have b:=hs.2.1 i i0 hi
  have s:=hy.1 ⟨b.2.1,xO g0⟩;rw[g0.1.fq]at s;have:=s.le.2 (by rw[show((1:Int):Rat)=1 from rfl];exact b.2.2.2.1)
  omega
 ·have b:=hs.2.1 i i0 hi
  have o:=agv (aj rd') (aj r5) b.2.1 f1;have s:=hz.1 ⟨o.2,xO fm⟩;rw[o.1.fq,fm.1.fq]at s;have:=s.le.2 (zP.2 b.2.2.2.2);omega
 ·have ok:=hv.1 (zB.1 h)
  have s1:=hx.1 ⟨ok,xO h0⟩;rw[h0.1.fq]at s1;have k1:=s1.ge.1 (by omega);have s2:=hy.1 ⟨ok,xO g0⟩;rw[g0.1.fq]at s2;have k2:=s2.le.1 (by omega);have o:=agv (aj rd') (aj r5) ok f1;have s3:=hz.1 ⟨o.2,xO fm⟩;rw[o.1.fq,fm.1.fq]at s3;have k3:=zP.1 (s3.le.1 (by omega));have b:okB l i:=⟨⟨by omega,by omega⟩,ok,k1,k2,k3⟩;have hk':∀k:Int,0<=k->k<i+1->okB l k:=by
   intro k k0 k1;by_cases e:k=i
   ·subst e;exact b
   ·exact hk k k0 (by omega)
  have hms:(l.len-(i+1)).toNat<(l.len-i).toNat:=by omega
  refine⟨fun hpos=>⟨by rw[au];omega,by omega,by omega,fun _=>⟨fun hge=>no fun hs=> ?_,fun hlt=>⟨by rw[au];omega,by omega,by omega,fun _ _=>⟨trivial,fun w _ hw=>⟨fun g=>no fun hs=> ?_,fun g=>⟨by rw[au];omega,⟨by omega,by omega,hk', ?_⟩,hms⟩⟩⟩⟩⟩⟩,fun hz0=>⟨by rw[au];omega,⟨by omega,by omega,hk',fun k _ _=>by omega⟩,hms⟩⟩
  ·have:=(hs.2.2 i (by omega) hi).1;omega
  ·have s:=hw.1 ⟨(hk (i-1) (by omega) (by omega)).2.1,ok⟩
   have:=s.le.2 (hs.2.2 i (by omega) hi).2;omega
  ·have s:=hw.1 ⟨(hk (i-1) (by omega) (by omega)).2.1,ok⟩
   intro k k0 k1;by_cases e:k=i
   ·subst e;exact⟨by omega,s.le.1 (by omega)⟩
   ·exact hp k k0 (by omega)
 ·simp only[iZ,decide_true,true_iff]
  exact⟨by omega,fun k k0 k1=>hk k k0 (by omega),fun k k0 k1=>hp k k0 (by omega)⟩
theorem avo:anL:=by
 intro l _ m _ A _ _;simp only[zC];have no:¬(bZ l/\(1<=m/\m<=12)/\amt A)->yP l m A 0 2/\True:=fun h=>⟨⟨fun k=>absurd k h,fun _=>⟨rfl,rfl⟩⟩,trivial⟩
 refine⟨trivial,fun v hv=>⟨fun h=>no fun k=>h (hv.2 k.1),fun h=>⟨fun g=>no fun k=>by omega,fun g1=>⟨fun g=>no fun k=>by omega,fun g2=>⟨fun g=>no fun k=>by have:=k.2.2.1;omega,fun g3=>⟨fun g=>no fun k=>by have:=k.2.2.2;omega,fun g4=> ?_⟩⟩⟩⟩⟩⟩
 have k1:=hv.1 (zB.1 h);have k2:amt A:=⟨by omega,by omega⟩;have hm:1<=m/\m<=12:=⟨by omega,by omega⟩;refine⟨⟨k1,hm,k2⟩,fun a b rb c d rd hq=>⟨trivial,fun n s rs x _ hx=>⟨trivial,fun n1 s1 r1 n2 s2 r2 h1=>⟨trivial,fun y _ z _ hy=>⟨⟨fun _=> ?_,fun k=>absurd ⟨k1,hm,k2⟩ k⟩,trivial⟩⟩⟩⟩⟩
 have f:=hx.1 hq.2;rw[hq.1.fq]at f;have z1:zv n1 s1=1:=by rw[h1.1.2.1];rfl
 have q:=Pm (n:=(TT l m A).floor) (aj r1) f.1 f.2.1 h1.1.1 z1;have rg:=Gw (A:=A) k1 hm k2;have ok:=q.ok (aj rs) (aj r1) ((Bd.int rg.1 rg.2).fit (by decide) (by decide));have h2:=hy.2 ok;rw[q.fq]at h2;have h3:=(h2.2 (Rat.den_intCast _)).1 (by rw[qH];unfold tN;omega);rw[qH]at h3;exact⟨h3.1,rfl⟩
theorem ank:afi:=by
 intro y ry year _ _;simp only[zC];have l0:=len0 y;have no:¬qF y->Df y year zD 2/\True:=fun h=>⟨⟨fun _=>⟨rfl,rfl⟩,fun k=>absurd k h,fun k=>absurd k h⟩,trivial⟩
 let J:Int->Int->Prop:=fun at_ i=>0<=i/\i<=y.len/\-1<=at_/\at_<i/\(∀k:Int,0<=k->k<i->bZ (y.sub k 1))/\(∀k:Int,1<=k->k<i->y.int (k-1) 0<y.int k 0)/\
   (∀k:Int,at_<k->k<i->year<y.int k 0)/\(0<=at_->y.int at_ 0<=year)
 refine⟨J,fun _ i=>(y.len-i).toNat,⟨by omega,by omega,by omega,by omega,fun k _ _=>by omega,fun k _ _=>by omega,fun k _ _=>by omega,fun h=>by omega⟩,fun at_ _ i _ hJ sm=> ?_⟩
 have:=iW sm;obtain⟨i0,i1,a0,a1,hv,hp,hn,ha⟩:=hJ;have next:i<y.len->bZ (y.sub i 1)->(1<=i->y.int (i-1) 0<y.int i 0)->
   ((y.int i 0<=year->iA (i+1)/\J i (i+1)/\(y.len-(i+1)).toNat<(y.len-i).toNat)/\(¬(y.int i 0<=year)->iA (i+1)/\J at_ (i+1)/\(y.len-(i+1)).toNat<(y.len-i).toNat)):=by
  intro hi vs hr;have v':∀k:Int,0<=k->k<i+1->bZ (y.sub k 1):=fun k k0 k1=>by
   by_cases e:k=i
   ·subst e;exact vs
   ·exact hv k k0 (by omega)
  have p':∀k:Int,1<=k->k<i+1->y.int (k-1) 0<y.int k 0:=fun k k0 k1=>by
   by_cases e:k=i
   ·subst e;exact hr k0
   ·exact hp k k0 (by omega)
  refine⟨fun h=>⟨by rw[au];omega,⟨by omega,by omega,by omega,by omega,v',p',fun k _ _=>by omega,fun _=>h⟩,by omega⟩,fun h=>⟨by rw[au];omega,⟨by omega,by omega,by omega,by omega,v',p',fun k k0 k1=> ?_,ha⟩,by omega⟩⟩
  by_cases e:k=i
  ·subst e;omega
  ·exact hn k k0 (by omega)
 refine⟨fun hi=>⟨i0,hi,fun _=>⟨trivial,fun v hvv=>⟨fun h=>no fun hs=>h (hvv.2 (hs.1 i i0 hi)),fun h=>⟨fun hpos=>⟨by rw[au];omega,by omega,by omega,fun _=>⟨i0,hi,fun _=>⟨fun hge=>no fun hs=> ?_,fun hlt=>⟨i0,hi,fun _=>next hi (hvv.1 (zB.1 h)) fun _=>by omega⟩⟩⟩⟩,fun hz=>⟨i0,hi,fun _=>next hi (hvv.1 (zB.1 h)) fun _=>by omega⟩⟩⟩⟩⟩,fun hi=> ?_⟩
 ·have:=hs.2 i (by omega) hi;omega
 ·have e:i=y.len:=by omega
  subst e;have vy:qF y:=⟨hv,hp⟩;refine⟨fun h=>⟨⟨fun k=>absurd vy k,fun _ _=>⟨rfl,rfl⟩,fun _ j hj=> ?_⟩,trivial⟩,fun h=>⟨by omega,a1,fun _=>⟨⟨fun k=>absurd vy k,fun _ hno=> ?_,fun _ j hj=>⟨?_,rfl⟩⟩,trivial⟩⟩⟩
  ·exact(hj.no fun k k0 k1=>hn k (by omega) k1).elim
  ·have:=hno at_ (by omega) a1;have:=ha (by omega);omega
  ·have:j=at_:=hj.uniq ⟨by omega,a1,ha (by omega),hn⟩
   rw[this]
theorem wu.symm{a c a' c':Bool}{b d b' d':Sl}(h:wu a b c d a' b' c' d'):wu a' b' c' d' a b c d:=⟨⟨h.1.1.symm,h.1.2.symm⟩,h.2.1.symm,h.2.2.symm⟩
theorem wu.fq{a c a' c':Bool}{b d b' d':Sl}(h:wu a b c d a' b' c' d'):fq a b d=fq a' b' d':=by
 have e1:vl b=vl b':=h.1.2.val 65536;have e2:vl d=vl d':=h.2.2.val 65536;unfold N.fq zv;rw[e1,e2,h.1.1]
theorem wu.ok{a c a' c':Bool}{b d b' d':Sl}(h:wu a b c d a' b' c' d')(o:okF a b c d):okF a' b' c' d':=by
 have q:=o.iO.of_same h.1.1.symm h.1.2.symm h.2.1.symm h.2.2.symm;exact⟨q.pO,by have:=h.1.2.1;have:=o.2.1;omega,by have:=h.2.2.1;have:=o.2.2;omega⟩
theorem wu.okR{a c a' c':Bool}{b d b' d':Sl}(h:wu a b c d a' b' c' d')(o:okR a b c d):okR a' b' c' d':=by
 have e:=h.fq;refine⟨h.ok o.1, ?_⟩
 rw[<-e];exact o.2
theorem pU.symm{l m:Sl}(h:pU l m):pU m l:=⟨h.1.symm,fun i i0 i1=>have k:=h.2 i i0 (by rw[h.1];exact i1);⟨k.1.symm,k.2.symm⟩⟩
theorem wu.trans{a c a' c' a2 c2:Bool}{b d b' d' b2 d2:Sl}(h:wu a b c d a' b' c' d')(g:wu a' b' c' d' a2 b2 c2 d2):wu a b c d a2 b2 c2 d2:=
 ⟨⟨h.1.1.trans g.1.1,h.1.2.trans g.1.2⟩,h.2.1.trans g.2.1,h.2.2.trans g.2.2⟩
theorem pU.trans{l m k:Sl}(h:pU l m)(g:pU m k):pU l k:=
 ⟨h.1.trans g.1,fun i i0 i1=>have a:=h.2 i i0 i1;have b:=g.2 i i0 (by rw[<-h.1];exact i1);⟨a.1.trans b.1,a.2.trans b.2⟩⟩
theorem pU.refl(l:Sl):pU l l:=⟨rfl,fun _ _ _=>⟨rfl,⟨rfl,dL.refl _⟩,rfl,dL.refl _⟩⟩
theorem pU.rq{l m:Sl}(h:pU l m){i:Int}(i0:0<=i)(i1:i<l.len):rq l i=rq m i:=(h.2 i i0 i1).2.fq
theorem pU.valid{l m:Sl}(h:pU l m)(v:bZ l):bZ m:=by
 obtain⟨v1,v2,v3⟩:=v;have e:=h.1;refine⟨by omega,fun i i0 i1=> ?_,fun i i0 i1=> ?_⟩
 ·have k:=h.2 i i0 (by omega)
  have b:=v2 i i0 (by omega);exact⟨by rw[<-k.1];exact b.1,k.2.okR b.2⟩
 ·have k:=h.2 i (by omega) (by omega)
  have k':=h.2 (i-1) (by omega) (by omega);have p:=v3 i i0 (by omega);exact⟨by rw[<-k.1,<-k'.1];exact p.1,by rw[<-h.rq (i:=i) (by omega) (by omega),<-h.rq (i:=i-1) (by omega) (by omega)];exact p.2⟩
theorem pU.TN{l m:Sl}(h:pU l m)(k A:Int):∀n:Nat,(n:Int)<=l.len->TN l k A n=TN m k A n
 |0,_=>rfl
 | n+1,hn=>by
  have ih:=h.TN k A n (by omega);have e1:=(h.2 n (by omega) (by omega)).1;have e2:=h.rq (i:=n) (by omega) (by omega);have e3:rp l n=rp m n:=by
   unfold rp;by_cases e:(n:Int)=0
   ·rw[if_pos e,if_pos e]
   ·rw[if_neg e,if_neg e];exact h.rq (by omega) (by omega)
  simp only[N.TN];rw[ih,e2,e3];unfold PI;rw[e1]
theorem pU.TT{l m:Sl}(h:pU l m)(k A:Int):TT l k A=TT m k A:=by
 unfold N.TT;have l0:=len0 l;rw[h.TN k A _ (by omega),h.1]
theorem wB.symm{y z:Sl}(h:wB y z):wB z y:=⟨h.1.symm,fun i i0 i1=>have k:=h.2 i i0 (by rw[h.1];exact i1);⟨k.1.symm,k.2.symm⟩⟩
theorem wB.valid{y z:Sl}(h:wB y z)(v:qF y):qF z:=by
 have e:=h.1;refine⟨fun i i0 i1=>(h.2 i i0 (by omega)).2.valid (v.1 i i0 (by omega)),fun i i0 i1=> ?_⟩
 rw[<-(h.2 i (by omega) (by omega)).1,<-(h.2 (i-1) (by omega) (by omega)).1];exact v.2 i i0 (by omega)
theorem wB.aAW{y z:Sl}(h:wB y z){year i:Int}(a:vZ y year i):vZ z year i:=by
 have e:=h.1;refine⟨a.1,by have:=a.2.1;omega,by rw[<-(h.2 i a.1 a.2.1).1];exact a.2.2.1,fun j j0 j1=> ?_⟩
 rw[<-(h.2 j (by have:=a.1;omega) (by omega)).1];exact a.2.2.2 j j0 (by omega)
theorem wB.no{y z:Sl}(h:wB y z){year:Int}(a:zy y year):zy z year:=fun j j0 j1=>by
 have e:=h.1;rw[<-(h.2 j j0 (by omega)).1];exact a j j0 (by omega)
theorem ab3(y:Sl)(year:Int):zy y year\/∃i,vZ y year i:=by
 have l0:=len0 y;have key:∀n:Nat,(n:Int)<=y.len->(∀j:Int,(n:Int)<=j->j<y.len->year<y.int j 0)->zy y year\/∃i,vZ y year i:=by
  intro n
  induction n with
  |zero=>intro _ h;exact .inl fun j j0 j1=>h j (by omega) j1
  | succ n ih=>
   intro hn h;by_cases e:y.int n 0<=year
   ·exact .inr ⟨n,by omega,by omega,e,fun j j0 j1=>h j (by omega) j1⟩
   ·refine ih (by omega) fun j j0 j1=> ?_
    by_cases e':j=n
    ·subst e';omega
    ·exact h j (by omega) j1
 exact key y.len.toNat (by omega) fun j j0 j1=>by omega
theorem aoj{y z:Sl}{mo g t month aC r dP g' t' e r2 mo2 g2 t2 e2:Int}(h:wB z y)(a:held y mo g t month aC r dP g' t' e)(b:held z mo g t month aC r2 mo2 g2 t2 e2):
  r=r2/\dP=mo2/\g'=g2/\t'=t2/\e=e2:=by
 by_cases ok:Dk y mo g t month aC
 ·have okz:Dk z mo g t month aC:=⟨h.symm.valid ok.1,ok.2⟩
  rcases ab3 y (1900+month/12)with n|⟨i,hi⟩
  ·obtain⟨a1,a2,a3,a4,a5⟩:=(a.2 ok).1 n
   obtain⟨b1,b2,b3,b4,b5⟩:=(b.2 okz).1 (h.symm.no n);omega
  ·have p:=(a.2 ok).2 i hi
   have q:=(b.2 okz).2 i (h.symm.aAW hi);by_cases k:1099511627776<goes mo month g+aC
   ·obtain⟨a1,a2,a3,a4,a5⟩:=p.1 k
    obtain⟨b1,b2,b3,b4,b5⟩:=q.1 k;omega
   ·obtain⟨a1,a2,a3,a4,a5⟩:=p.2 (by omega)
    obtain⟨b1,b2,b3,b4,b5⟩:=q.2 (by omega);have eg:g'=g2:=by omega
    have et:t'=t2:=by rw[a3,b3,<-eg,((h.2 i hi.1 (by have:=h.1;have:=hi.2.1;omega)).2).TT]
    exact⟨by omega,by omega,eg,et,by omega⟩
 ·have okz:¬Dk z mo g t month aC:=fun k=>ok ⟨h.valid k.1,k.2⟩
  obtain⟨a1,a2,a3,a4,a5⟩:=a.1 ok;obtain⟨b1,b2,b3,b4,b5⟩:=b.1 okz;omega
theorem xP{a b:Sl}{i:Int}{j:Nat}(h:0<=i)(h':i<a.len):(zF a b).bool i j=a.bool i j:=by
 have:i.toNat<a.n:=by unfold zG at h';omega
 show D.toB (if i.toNat<a.n then a.f i.toNat j else b.f (i.toNat-a.n) j)=_
 rw[if_pos this];rfl
theorem RN{a b:Sl}{i:Int}{j:Nat}(h:0<=i)(h':i<a.len):(zF a b).sub i j=a.sub i j:=by
 have:i.toNat<a.n:=by unfold zG at h';omega
 show D.toS (if i.toNat<a.n then a.f i.toNat j else b.f (i.toNat-a.n) j)=_
 rw[if_pos this];rfl
theorem xQ{a b:Sl}{i:Int}{j:Nat}(h:a.len<=i):(zF a b).bool i j=b.bool (i-a.len) j:=by
 have h0:=len0 a;have:¬i.toNat<a.n:=by unfold zG at*;omega
 have e:(i-a.len).toNat=i.toNat-a.n:=by unfold zG at*;omega
 show D.toB (if i.toNat<a.n then a.f i.toNat j else b.f (i.toNat-a.n) j)=D.toB (b.f (i-a.len).toNat j)
 rw[if_neg this,e]
theorem RP{a b:Sl}{i:Int}{j:Nat}(h:a.len<=i):(zF a b).sub i j=b.sub (i-a.len) j:=by
 have h0:=len0 a;have:¬i.toNat<a.n:=by unfold zG at*;omega
 have e:(i-a.len).toNat=i.toNat-a.n:=by unfold zG at*;omega
 show D.toS (if i.toNat<a.n then a.f i.toNat j else b.f (i.toNat-a.n) j)=D.toS (b.f (i-a.len).toNat j)
 rw[if_neg this,e]
theorem aeF:WG:=by
 intro y _ mo _ g _ t _ month _ aC _ _;have no:¬Dk y mo g t month aC->cO y mo g t month aC 0 0 0 0 2/\True:=fun h=>⟨agb h,trivial⟩
 refine⟨fun a=>no fun k=> ?_,fun a1=>⟨fun a=>no fun k=> ?_,fun a2=>⟨fun a=>no fun k=> ?_,fun a3=>⟨fun a=>no fun k=> ?_,fun a4=>⟨fun a=>no fun k=> ?_,fun a5=>⟨fun a=>no fun k=> ?_,fun a6=>⟨fun a=>no fun k=> ?_,fun a7=>⟨fun a=>no fun k=> ?_,fun a8=>⟨fun a=>no fun k=> ?_,fun a9=>⟨fun a=>no fun k=> ?_,fun a10=> ?_⟩⟩⟩⟩⟩⟩⟩⟩⟩⟩
 all_goals try(obtain⟨_,⟨_,_⟩,⟨_,_⟩,⟨_,_⟩,⟨_,_⟩,⟨_,_⟩⟩:=k;omega)
 have okv:qF y->Dk y mo g t month aC:=fun vy=>⟨vy,⟨by omega,by omega⟩,⟨by omega,by omega⟩,⟨by omega,by omega⟩,⟨by omega,by omega⟩,⟨by omega,by omega⟩⟩
 rw[xu (by omega:0<=month),xu (by omega:0<=mo),an6 (by omega:0<=month)];refine⟨by decide,by rw[au];omega,by rw[au];omega,trivial,fun s _ e _ hq=>⟨fun he=> ?_,fun he=> ?_⟩⟩
 ·by_cases vy:qF y
  ·rcases ab3 y (1900+month/12)with hn|⟨i,hi⟩
   ·have:=(hq.2.1 vy hn).2
    rw[this];exact⟨acZ (okv vy) hn,trivial⟩
   ·exact absurd (hq.2.2 vy i hi).2 he
  ·have:=(hq.1 vy).2
   rw[this];exact no fun k=>vy k.1
 have he:e=0:=zB.1 he;have k1:qF y:=Classical.byContradiction fun h=>by have:=(hq.1 h).2;omega
 have ok:=okv k1;obtain⟨i,hi⟩:∃i,vZ y (1900+month/12) i:=(ab3 y (1900+month/12)).resolve_left fun hn=>by have:=(hq.2.1 k1 hn).2;omega
 have es:=(hq.2.2 k1 i hi).1;subst es;have vs:=hi.aA k1;have tail:∀g' t1:Int,g'=goes mo month g+aC->t1=goes mo month t->-1099511627776<=t1->t1<=1099511627776->0<=g'->
   ((g'>1099511627776->cO y mo g t month aC 0 0 0 0 3/\True)/\(¬(g'>1099511627776)->((12:Int)≠0)/\iA (month % 12)/\iA (month % 12+1)/\Ur (y.sub i 1) (month % 12+1) g'/\
    ∀x:Int,iA x->∀e:Int,iA e->yP (y.sub i 1) (month % 12+1) g' x e->iA (x-t1)/\cO y mo g t month aC (x-t1) month g' x 0/\True)):=by
  intro g' t1 eg et b1 b2 b3;refine⟨fun hg=>⟨ac0 ok hi (by omega),trivial⟩,fun hg=>⟨by decide,by rw[au];omega,by rw[au];omega,trivial,fun x _ e _ hq=> ?_⟩⟩
  have q:=hq.1 ⟨vs,⟨by omega,by omega⟩,⟨by omega,by omega⟩⟩;have rg:=Gw (l:=y.sub i 1) (m:=month % 12+1) (A:=g') vs ⟨by omega,by omega⟩ ⟨by omega,by omega⟩;exact⟨by rw[au];omega,ac5 ok hi (by omega) eg q.1 (by rw[et]),trivial⟩
 refine⟨by decide,by rw[au];omega,by decide,by rw[au];omega,fun hne=>⟨by rw[au];omega, ?_⟩,fun hee=>⟨by rw[au];omega, ?_⟩⟩
 ·have e1:goes mo month g=0:=by unfold goes;rw[if_neg (by omega)]
  have e2:goes mo month t=0:=by unfold goes;rw[if_neg (by omega)]
  exact tail (0+aC) 0 (by rw[e1]) e2.symm (by omega) (by omega) (by omega)
 ·have e1:goes mo month g=g:=by unfold goes;rw[if_pos (by omega)]
  have e2:goes mo month t=t:=by unfold goes;rw[if_pos (by omega)]
  exact tail (g+aC) t (by rw[e1]) e2.symm (by omega) (by omega) (by omega)
theorem aq3:aij:=by
 intro st _ d p m _ ⟨hv,hh⟩;have hb:=hv.1;have d0:=len0 d;obtain⟨h1,h2⟩:st<=m/\m<st+d.len:=hh;refine⟨by rw[au];omega,by omega,by omega,fun _=>⟨hv,fun x _ hx=> ?_⟩⟩
 have hx:x=aV p m:=hx;have a:=Vj hv m;have b:=hv.2.1 (m-st) (by omega) (by omega);exact⟨by rw[au];omega,by show _=dS st d p m;unfold dS;rw[hx],trivial⟩
theorem aq5:aik:=by
 intro st _ d p m _ hv;have hv:aA st d p:=hv;have hb:=hv.1;have d0:=len0 d;refine⟨fun t i=>(0<=i/\i<=d.len)/\t=zA (fJ st d p m i.toNat),fun _ i=>(d.len-i).toNat,⟨⟨zE _,d0⟩,Eb⟩,fun t i _⟨⟨i0,i1⟩,ht⟩ _=>⟨fun hi=>⟨by rw[au];omega,fun hm=>⟨by rw[au];omega,⟨hv,by show st<=st+i;omega,by omega⟩,fun x _ hx=> ?_⟩,fun hm=> ?_⟩,fun hi=>⟨?_,trivial⟩⟩⟩
 ·have hx:x=dS st d p (st+i):=hx
  have ll:=YN (st:=st) (d:=d) (p:=p) m i.toNat;refine⟨fun h0=> ?_,fun h0=>⟨by rw[au];omega,⟨⟨by omega,by omega⟩, ?_⟩,by show(d.len-(i+1)).toNat<(d.len-i).toNat;omega⟩⟩
  ·refine⟨by rw[au];omega, ?_,by rw[au];omega,⟨⟨by omega,by omega⟩, ?_⟩,by show(d.len-(i+1)).toNat<(d.len-i).toNat;omega⟩
   ·rw[ht,jO,jO]
    simp only[qD,qE];omega
   ·rw[ht];exact((avV i0 hm hx h0).1).symm
  ·rw[ht,(avW i0 hx h0).1]
 ·refine⟨by rw[au];omega,⟨⟨by omega,by omega⟩, ?_⟩,by show(d.len-(i+1)).toNat<(d.len-i).toNat;omega⟩
  have e:(i+1).toNat=i.toNat+1:=by omega
  rw[e,(adf (st:=st) (d:=d) (p:=p) (m:=m) (k:=i.toNat) (by omega) (Nat.le_succ _)).1];exact ht
 ·have:i.toNat=d.n:=by unfold zG at*;omega
  rw[ht,this];exact RI _
theorem am2:afd:=by
 intro two a _ b _ k _ nn nl _ dn dl _ _;simp only[zC];have no:(O9 two a b k nn nl dn dl->False)->jv two a b k nn nl dn dl (decide False)/\True:=fun h=>⟨⟨fun e=>by simp at e,fun e=>absurd e h⟩,trivial⟩
 refine⟨fun h=>no fun e=>by have:=e.1;omega,fun h1=>⟨fun h=>no fun e=>by have:=e.1;omega,fun h2=>⟨fun h=>no fun e=>by have:=e.2.1;omega,fun h3=>⟨fun h=>no fun e=>by have:=e.2.1;omega,fun h4=> ?_⟩⟩⟩⟩
 have core:(two=true\/b=0)->((k>=0->(k<65536->fE nn nl dn dl/\∀r:Bool,bG nn nl dn dl r->jv two a b k nn nl dn dl r/\True)/\(¬k<65536->jv two a b k nn nl dn dl (decide False)/\True))/\(¬k>=0->jv two a b k nn nl dn dl (decide False)/\True)):=fun ht=>
  ⟨fun h0=>⟨fun h1=>⟨trivial,fun r hr=>⟨⟨fun e=>⟨⟨by omega,by omega⟩,⟨by omega,by omega⟩,ht,⟨h0,h1⟩,hr.1 e⟩,fun e=>hr.2 e.2.2.2.2⟩,trivial⟩⟩,fun h1=>no fun e=>by have:=e.2.2.2.1;omega⟩,fun h0=>no fun e=>by have:=e.2.2.2.1;omega⟩
 exact⟨fun ht=>⟨fun hb=>no fun e=>by rcases e.2.2.1 with h|h;exact ht h;exact hb h,fun hb=>core (.inr (zB.1 hb))⟩,fun ht=>core (.inl (zB.1 ht))⟩
theorem akh:acG:=by
 intro a _ b _ k _ nn nl _ dn dl _ a' _ b' _ k' _ nn' nl' _ dn' dl' _ _;refine⟨fun h=>⟨?_,trivial⟩,fun h=>⟨fun h'=>⟨?_,trivial⟩,fun h'=>⟨?_,trivial⟩⟩⟩<;>(unfold yO ltK;rw[decide_eq_true_eq];omega)
theorem aki:acH:=by
 intro n two s _ hn;simp only[zC];have s0:=len0 s;have rn:iA (ylen n):=by
  have h:ylen n<=9223372036854775807:=hn;have:0<=ylen n:=zI _;rw[au];omega
 have no:¬nZ n two s->mQ n two s (decide False)/\True:=fun h=>⟨⟨fun e=>by simp at e,fun e=>absurd e h⟩,trivial⟩
 refine⟨rn,fun h=>no fun e=>by have:=e.1.1;omega,fun h1=>⟨rn,fun h=>no fun e=>by have:=e.1.2;omega,fun h2 _=>⟨fun h=>no fun e=>by have:=e.2.1;omega,fun h3=> ?_⟩⟩⟩
 refine⟨fun i=>(0<=i/\i<=s.len)/\∀j:Int,0<=j->j<i->JY two s j/\(0<j->¬LD s j s (j-1)),fun i=>(s.len-i).toNat,⟨⟨zE _,s0⟩,fun j h0 h1=>by omega⟩,fun i _ hJ _=> ?_⟩
 obtain⟨⟨i0,i1⟩,hz⟩:=hJ;refine⟨fun hi=>⟨i0,hi,fun _ _ _ _ _=>⟨trivial,fun v hv=>⟨fun hn=>no fun e=>hn (hv.2 (e.2.2.2 i i0 hi)),fun hy=> ?_⟩⟩⟩,fun hi=>⟨⟨fun _=>⟨⟨by omega,by omega⟩,by omega,fun j j0 j1=>(hz j (by omega) (by omega)).2 j0,fun j j0 j1=>(hz j j0 (by omega)).1⟩,fun _=>by decide⟩,trivial⟩⟩
 have hr:JY two s i:=hv.1 (zB.1 hy);have nxt:(0<i->¬LD s i s (i-1))->iA (i+1)/\((0<=i+1/\i+1<=s.len)/\∀j:Int,0<=j->j<i+1->JY two s j/\(0<j->¬LD s j s (j-1)))/\(s.len-(i+1)).toNat<(s.len-i).toNat:=fun hb=>by
  refine⟨by rw[au];omega,⟨⟨by omega,by omega⟩,fun j j0 j1=> ?_⟩,by omega⟩
  by_cases c:j<i
  ·exact hz j j0 c
  ·have:j=i:=by omega
   subst this;exact⟨hr,hb⟩
 refine⟨fun hp=>⟨i0,hi,by rw[au];omega,by omega,by omega, ?_⟩,fun hp=>nxt fun h=>absurd h hp⟩
 constructor<;>
 ·intro _ _ _ _ _ _ _ _ _ _
  refine⟨trivial,fun w hw=>⟨fun h=>no fun e=> ?_,fun h=>nxt fun _ g=>h (hw.2 g)⟩⟩
  exact e.2.2.1 i hp hi (hw.1 h)
theorem am7:afe:=by
 intro n two s _ i _ known _ ⟨⟨i0,i1⟩,hl⟩;have no:¬gW s known i->Gg n two s i known (decide False)/\True:=fun h=>⟨⟨fun e=>by simp at e,fun e=>absurd e h⟩,trivial⟩
 simp only[zC];refine⟨i0,i1,fun _=>⟨fun h=>no fun e=>by have:=e.2.1;omega,fun hk=>⟨by rw[au];omega, ?_⟩⟩⟩
 refine⟨fun k=>(i<k/\k<=s.len)/\∀j:Int,i<j->j<k->s.int j 0=s.int i 0->s.int j 1=s.int i 1->known<s.int j 2,fun k=>(s.len-k).toNat,⟨⟨by omega,by omega⟩,fun j _ _=>by omega⟩,fun k _ hJ _=> ?_⟩
 obtain⟨⟨k0,k1⟩,hz⟩:=hJ;have nxt:k<s.len->(s.int k 0=s.int i 0->s.int k 1=s.int i 1->known<s.int k 2)->iA (k+1)/\((i<k+1/\k+1<=s.len)/\∀j:Int,i<j->j<k+1->s.int j 0=s.int i 0->s.int j 1=s.int i 1->known<s.int j 2)/\(s.len-(k+1)).toNat<(s.len-k).toNat:=fun hk1 h=>by
  refine⟨by rw[au];omega,⟨⟨by omega,by omega⟩,fun j j0 j1=> ?_⟩,by omega⟩
  by_cases c:j<k
  ·exact hz j j0 c
  ·have:j=k:=by omega
   subst this;exact h
 refine⟨fun hk1=>⟨by omega,hk1,fun _=>⟨i0,i1,fun _=>⟨fun e0=>⟨by omega,hk1,fun _=>⟨i0,i1,fun _=>⟨fun e1=>⟨by omega,hk1,fun _=>⟨fun h=>no fun e=> ?_,fun h=>nxt hk1 fun _ _=>by omega⟩⟩,fun e1=>nxt hk1 fun _ g=>absurd g e1⟩⟩⟩,fun e0=>nxt hk1 fun g=>absurd g e0⟩⟩⟩,fun hk1=>⟨⟨fun _=>⟨⟨i0,i1⟩,by omega,fun j j0 j1=>hz j j0 (by omega)⟩,fun _=>by decide⟩,trivial⟩⟩
 have:=e.2.2 k k0 hk1 e0 e1;omega
theorem aqO:aia:=by
 intro n two s _ a _ known _ hn;simp only[zC];have s0:=len0 s;have bad:¬(nZ n two s/\two=false)->Gh n two s a known (decide False) zD (decide False) zD 2/\True:=fun h=>⟨⟨fun _=>⟨gJ,rfl⟩,fun k=>absurd k h⟩,trivial⟩
 refine⟨hn,fun v hv=>⟨fun h=>bad fun k=>h (hv.2 k.1),fun h1=>⟨fun h=>bad fun k=>by rw[h]at k;exact absurd k.2 (by decide),fun h2=> ?_⟩⟩⟩
 have hV:=hv.1 (zB.1 h1);have h2:two=false:=by simpa using h2
 have hB:∀i:Int,0<=i->i<s.len->s.int i 1=0:=fun i i0 i1=>by
  rcases(hV.2.2.2 i i0 i1).2.2.1 with h|h
  ·rw[h2]at h;cases h
  ·exact h
 have h4:=hV.2.1;refine⟨fun x i=>(0<=i/\i<=s.len)/\((x<0/\∀k:Int,k<i->gW s known k->¬s.int k 0<=a)\/((0<=x/\x<i)/\(gW s known x/\s.int x 0<=a)/\∀k:Int,k<i->gW s known k->s.int k 0<=a->s.int k 0<=s.int x 0)),
  fun _ i=>(s.len-i).toNat,⟨⟨zE _,s0⟩, .inl ⟨by omega,fun k k1 hk=>by have:=hk.1.1;omega⟩⟩,fun x _ i _⟨⟨i0,i1⟩,hJ⟩ _=>⟨fun hi=>⟨⟨⟨i0,hi⟩,h4⟩,fun w hw=>⟨fun hf=> ?_,fun hf=> ?_⟩⟩,fun hi=> ?_⟩⟩
 ·have hf:=hw.1 hf
  have take:(∀k:Int,k<i->gW s known k->s.int k 0<=a->s.int k 0<=s.int i 0)->s.int i 0<=a->iA (i+1)/\((0<=i+1/\i+1<=s.len)/\((i<0/\∀k:Int,k<i+1->gW s known k->¬s.int k 0<=a)\/((0<=i/\i<i+1)/\(gW s known i/\s.int i 0<=a)/\∀k:Int,k<i+1->gW s known k->s.int k 0<=a->s.int k 0<=s.int i 0)))/\(s.len-(i+1)).toNat<(s.len-i).toNat:=fun hz ha=>
   ⟨by rw[au];omega,⟨⟨by omega,by omega⟩, .inr ⟨⟨i0,by omega⟩,⟨hf,ha⟩,fun k k1 hk ka=>by
    by_cases c:k<i
    ·exact hz k c hk ka
    ·have:k=i:=by omega
     subst this;exact zE _⟩⟩,by omega⟩
  refine⟨i0,hi,fun _=>⟨fun ha=>⟨fun hx=>take (fun k k1 hk ka=> ?_) ha,fun hx=> ?_⟩,fun ha=>⟨by rw[au];omega,⟨⟨by omega,by omega⟩, ?_⟩,by show(s.len-(i+1)).toNat<(s.len-i).toNat;omega⟩⟩⟩
  ·rcases hJ with⟨_,h⟩|⟨h,_⟩
   ·exact absurd ka (h k k1 hk)
   ·omega
  ·rcases hJ with⟨h,_⟩|⟨⟨x0,x1⟩,Xu,hmax⟩
   ·exact absurd h hx
   refine⟨i0,hi,fun _=>⟨by omega,by omega,fun _=>⟨fun hg=>take (fun k k1 hk ka=> ?_) ha,fun hg=>⟨by rw[au];omega,⟨⟨by omega,by omega⟩, .inr ⟨⟨x0,by omega⟩,Xu,fun k k1 hk ka=> ?_⟩⟩,by show(s.len-(i+1)).toNat<(s.len-i).toNat;omega⟩⟩⟩⟩
   ·have:=hmax k k1 hk ka
    omega
   ·by_cases c:k<i
    ·exact hmax k c hk ka
    ·have:k=i:=by omega
     subst this;omega
  ·rcases hJ with⟨hx,h⟩|⟨⟨x0,x1⟩,Xu,hmax⟩
   ·refine .inl ⟨hx,fun k k1 hk=> ?_⟩
    by_cases c:k<i
    ·exact h k c hk
    ·have:k=i:=by omega
     subst this;exact ha
   ·refine .inr ⟨⟨x0,by omega⟩,Xu,fun k k1 hk ka=> ?_⟩
    by_cases c:k<i
    ·exact hmax k c hk ka
    ·have:k=i:=by omega
     subst this;exact absurd ka ha
 ·have hf:¬gW s known i:=fun g=>hf (hw.2 g)
  refine⟨by rw[au];omega,⟨⟨by omega,by omega⟩, ?_⟩,by show(s.len-(i+1)).toNat<(s.len-i).toNat;omega⟩
  rcases hJ with⟨hx,h⟩|⟨⟨x0,x1⟩,Xu,hmax⟩
  ·refine .inl ⟨hx,fun k k1 hk=> ?_⟩
   by_cases c:k<i
   ·exact h k c hk
   ·have:k=i:=by omega
    subst this;exact absurd hk hf
  ·refine .inr ⟨⟨x0,by omega⟩,Xu,fun k k1 hk ka=> ?_⟩
   by_cases c:k<i
   ·exact hmax k c hk ka
   ·have:k=i:=by omega
    subst this;exact absurd hk hf
 ·refine⟨fun hx=>⟨⟨fun g=>absurd ⟨hV,h2⟩ g,fun _=>⟨fun _=>⟨gJ,rfl⟩,fun k hk=> ?_⟩⟩,trivial⟩,fun hx=> ?_⟩
  ·rcases hJ with⟨_,h⟩|⟨h,_⟩
   ·exact absurd hk.1.2 (h k (by have:=hk.1.1.1.2;omega) hk.1.1)
   ·omega
  ·rcases hJ with⟨h,_⟩|⟨⟨x0,x1⟩,Xu,hmax⟩
   ·exact absurd h hx
   have hc:GV s a known x:=⟨Xu,fun j hj ja=>hmax j (by have:=hj.1.2;omega) hj ja⟩
   refine⟨by omega,by omega,fun _ _=>⟨⟨fun g=>absurd ⟨hV,h2⟩ g,fun _=>⟨fun h=>absurd hc (h x),fun k hk=> ?_⟩⟩,trivial⟩⟩
   have e0:s.int k 0=s.int x 0:=by
    have a1:=hk.2 x Xu.1 Xu.2;have a2:=hc.2 k hk.1.1 hk.1.2;omega
   have:k=x:=aae hk.1.1 Xu.1 e0 (by rw[hB k hk.1.1.1.1 hk.1.1.1.2,hB x (by omega) (by omega)]);subst this;exact⟨⟨⟨rfl,RI _⟩,rfl,RI _⟩,rfl⟩
theorem RQ{q:Rat}{nn dn:Bool}{nl dl:Sl}{F:Bool->Sl->Bool->Sl->Int->Prop}(hF:∀nn nl dn dl e,Di q nn nl dn dl e->F nn nl dn dl e)(h:aK q nn nl dn dl)(rn:bC 65536 nl)(rd:bC 65536 dl):
  DI nn nl dn dl/\∀t:Bool,xG nn nl dn dl t->(¬t=true->F (decide False) zD (decide False) zD 3/\True)/\(¬¬t=true->F nn nl dn dl 0/\True):=
 ⟨trivial,fun t ht=>⟨fun hn=>⟨hF _ _ _ _ _ (U9 h rn rd fun k=>hn (ht.2 k)),trivial⟩,fun hy=>⟨hF _ _ _ _ _ (ais h rn rd (ht.1 (zB.1 hy)).1 (ht.1 (zB.1 hy)).2),trivial⟩⟩⟩
theorem aqQ:aib:=by
 intro a b rb c d rd a' b' kD c' d' rd' hp;simp only[zC]at hp⊢;obtain⟨⟨h,h'⟩,hz⟩:=hp;have l1:=h.2;have l2:=h'.2;refine⟨⟨by unfold aB;omega,by unfold aB;omega⟩,fun t3 x3 r3 q3=>⟨⟨by unfold aB;omega,by unfold aB;omega⟩,fun t4 x4 r4 q4=> ?_⟩⟩
 have y3:=dD (k:=200000000) (aj rb) (aj rd') (aj r3) q3.1 q3.2 (by omega);have y4:=dD (k:=200000000) (aj rd) (aj kD) (aj r4) q4.1 q4.2 (by omega);have hne:zv t4 x4≠0:=by rw[q4.2];exact Int.mul_ne_zero (sG h.1) hz
 refine⟨⟨q3.1,q4.1,by unfold Sm;omega,by unfold Sm;omega,Ac (aj r4) q4.1 hne⟩,fun nn nl rn dn dl kL hq=>⟨?_,trivial⟩⟩
 have hq:aK (zL (zv t3 x3) (zv t4 x4)) nn nl dn dl:=hq;have e:zL (zv t3 x3) (zv t4 x4)=fq a b d/fq a' b' d':=by
  rw[q3.2,q4.2,h.uX,h'.uX,Rat.div_def,Rat.inv_divInt,Rat.divInt_mul_divInt]
 rw[e]at hq;exact hq
theorem aqS:aic:=by
 intro a b _ c d _ _ _;refine⟨?_,trivial⟩
 unfold OY;rw[decide_eq_true_eq]
theorem aqU:aie:=by
 intro a b rb c d rd a' b' kD c' d' rd' _;simp only[zC];refine⟨trivial,fun v hv=>⟨fun hn=>⟨⟨fun h=>absurd (hv.2 h.1) hn,fun _=>⟨gJ,rfl⟩⟩,trivial⟩,fun hy=>⟨trivial,fun w hw=>⟨fun hn=>⟨⟨fun h=>absurd (hw.2 h.2) hn,fun _=>⟨gJ,rfl⟩⟩,trivial⟩,fun hy'=> ?_⟩⟩⟩⟩
 have h:=hv.1 (zB.1 hy);have h':=hw.1 (zB.1 hy');exact⟨⟨h.sm,h'.sm⟩,fun nn nl rn dn dl kL hq=>RQ (F:=fun nn nl dn dl e=>Gi a b c d a' b' c' d' nn nl dn dl e) (fun _ _ _ _ _ hr=>⟨fun _=>hr,fun k=>absurd ⟨h,h'⟩ k⟩) hq (aj rn) (aj kL)⟩
theorem aqW:aif:=by
 intro a b rb c d rd a' b' kD c' d' rd' _;simp only[zC];refine⟨trivial,fun v hv=>⟨fun hn=>⟨⟨fun h=>absurd (hv.2 h.1) hn,fun _=>⟨gJ,rfl⟩⟩,trivial⟩,fun hy=>⟨trivial,fun w hw=>⟨fun hn=>⟨⟨fun h=>absurd (hw.2 h.2) hn,fun _=>⟨gJ,rfl⟩⟩,trivial⟩,fun hy'=> ?_⟩⟩⟩⟩
 have h:=hv.1 (zB.1 hy);have h':=hw.1 (zB.1 hy');exact⟨⟨h.sm,h'.sm⟩,fun nn nl rn dn dl kL hq=>RQ (F:=fun nn nl dn dl e=>uG a b c d a' b' c' d' nn nl dn dl e) (fun _ _ _ _ _ hr=>⟨fun _=>hr,fun k=>absurd ⟨h,h'⟩ k⟩) hq (aj rn) (aj kL)⟩
theorem aqY:aii:=by
 intro a b rb c d rd a' b' kD c' d' rd' _;simp only[zC];refine⟨trivial,fun v hv=>⟨fun hn=>⟨⟨fun h=>absurd (hv.2 h.1) hn,fun _=>⟨gJ,rfl⟩⟩,trivial⟩,fun hy=>⟨trivial,fun w hw=>⟨fun hn=>⟨⟨fun h=>absurd (hw.2 h.2) hn,fun _=>⟨gJ,rfl⟩⟩,trivial⟩,fun hy'=>⟨trivial,fun z hz=> ?_⟩⟩⟩⟩⟩
 have h:=hv.1 (zB.1 hy);have h':=hw.1 (zB.1 hy');have zz:=ait (aj kD) h'.1;refine⟨fun hl=>⟨⟨fun _=>⟨fun hn=>absurd (zz.2 (hz.1 hl)) hn,fun _=>⟨gJ,rfl⟩⟩,fun hn=>absurd ⟨h,h'⟩ hn⟩,trivial⟩,fun hl=> ?_⟩
 have hnz:fq a' b' d'≠0:=fun h0=>hl (hz.2 (zz.1 h0))
 have hzn:zv a' b'≠0:=by
  intro h0;have:=oD (n:=a') (aj kD);exact hl (hz.2 ((bK (B:=65536) (by decide) (aj kD) h'.nw.1.1).1 (by show vl b'=0;omega)))
 exact⟨⟨⟨h.sm,h'.sm⟩,hzn⟩,fun nn nl rn dn dl kL hq=>RQ (F:=fun nn nl dn dl e=>xM a b c d a' b' c' d' nn nl dn dl e) (fun _ _ _ _ _ hr=>⟨fun _=>⟨fun _=>hr,fun h0=>absurd h0 hnz⟩,fun k=>absurd ⟨h,h'⟩ k⟩) hq (aj rn) (aj kL)⟩
theorem aiK{a c:Bool}{b d:Sl}(h:okF a b c d)(rb:Ranged b [some .u16]):a=true↔¬0<=fq a b d:=by
 rw[<-Rat.num_nonneg,<-h.iO.2.1];have hv0:0<=vl b:=((aj rb).bound (B:=65536) (by decide)).1;have hz:vl b=0↔b.len=0:=bK (B:=65536) (by decide) (aj rb) h.nw.1.1;unfold zv;constructor
 ·intro ha
  rw[if_pos ha];have:b.len≠0:=fun h0=>by have:=h.nw.1.2 h0;rw[this]at ha;exact absurd ha (by decide)
  have:vl b≠0:=fun h0=>this (hz.1 h0)
  omega
 ·intro hn
  cases a
  ·exfalso;simp at hn;omega
  ·rfl
theorem akj:acI:=by
 intro a b rb c d rd a' b' kD c' d' rd' mode rm hp;simp only[zC]at hp⊢;obtain⟨⟨h,hu',hu⟩,rfl⟩:=hp;have u1:zv a' b'=1:=hu.2.1;have u2:zv c' d'=1:=hu.zd;have l1:=h.2;have l2:=hu'.2;refine⟨⟨by unfold aB;omega,by unfold aB;omega⟩,fun bn bt rbt hbt=>⟨⟨by unfold aB;omega,by unfold aB;omega⟩,fun tn t rt ht=> ?_⟩⟩
 have hbz:zv bn bt=((fq a b d).den:Int):=by rw[hbt.2,u1,h.iO.zd,qI]
 have hbl:=dD (k:=512) (aj rd) (aj kD) (aj rbt) hbt.1 hbt.2 (by omega);have hb0:=Ac (aj rbt) hbt.1 (by rw[hbz];have:=(fq a b d).den_pos;omega);have htl:=dD (k:=512) (aj rb) (aj rd') (aj rt) ht.1 ht.2 (by omega);refine⟨⟨ht.1,hbt.1,by unfold Sm;omega,by unfold Sm;omega,hb0⟩,fun kn k rk rn r rr hq=> ?_⟩
 obtain⟨nk,nr,n3,n4,_⟩:=hq;rw[ht.2,u2,qI,h.iO.2.1,hbz]at n3;rw[hbz]at n4;obtain⟨r0,r1⟩:=n4 (by have:=(fq a b d).den_pos;omega);obtain⟨t3,t5a,t5b,t5c⟩:=af0 n3 r0 r1;have hR:zv rn r=0↔r.len=0:=by
  constructor
  ·intro hz
   have:=oD (n:=rn) (aj rr);exact(bK (B:=65536) (by decide) (aj rr) nr.1).1 (by show vl r=0;omega)
  ·exact Gt
 have hrl:r.len<=512:=by
  refine BM (aj rr) nr (k:=512) ?_
  have:=zK (n:=bn) (aj rbt) (k:=512) hbl;rw[hbz]at this;generalize(65536:Int)^512=P at*;omega
 have hkl:k.len<=513:=by
  refine BM (aj rk) nk (k:=513) ?_
  have h1:=zK (n:=a) (aj rb) (k:=512) (by have:=h.2.1;omega);rw[h.iO.2.1]at h1;have h2:(65536:Int)^513=65536^512*65536:=Int.pow_succ ..;have h3:=fC (B:=65536) (by decide) 512;generalize(65536:Int)^513=Q at*;generalize(65536:Int)^512=P at*;have hd1:(1:Int)<=(fq a b d).den:=by have:=(fq a b d).den_pos;omega
  rcases Int.lt_or_le (zv kn k) 0 with hneg|hpos
  ·have:((fq a b d).den:Int)*(zv kn k+1)<=1*(zv kn k+1):=Int.mul_le_mul_of_nonpos_right hd1 (show zv kn k+1<=0 by omega)
   rw[Int.mul_add]at this;omega
  ·have:1*zv kn k<=((fq a b d).den:Int)*zv kn k:=Int.mul_le_mul_of_nonneg_right hd1 hpos
   omega
 have hneg:=aiK h rb;have keep:aO (fq a b d) 5=zv kn k->rY a b c d a' b' c' d' 5 kn k/\True:=fun he=>⟨⟨⟨nk,he.symm⟩,by omega⟩,trivial⟩
 refine⟨trivial,fun on o ro ho=>⟨⟨nk,ho.1,by unfold aB;omega,by have:=ho.2.2;unfold aB;omega⟩,fun sn s rs hs _=> ?_⟩⟩
 have hsl:=Gs (aj rk) (aj ro) (aj rs) hs.1 (k:=513) (.inl hs.2) hkl (by have:=ho.2.2;omega);have inc:aO (fq a b d) 5=zv kn k+1->rY a b c d a' b' c' d' 5 sn s/\True:=fun he=>⟨⟨⟨hs.1,by rw[hs.2,ho.2.1,he]⟩,by omega⟩,trivial⟩
 refine⟨fun hz=>keep (t5a (by have:=hR.2 hz;have:=(fq a b d).den_pos;omega)),fun hz=> ?_⟩
 refine⟨fun v=>v=false,⟨fun k=>absurd k (by decide),fun _=>⟨fun k=>absurd k (by decide),fun _=>by decide⟩⟩,fun v hv=>⟨fun k=>absurd (hv.symm.trans k) (by decide),fun _=>⟨fun k=>absurd k (by decide),fun _=>⟨⟨nr,nr,by unfold aB;omega,by unfold aB;omega⟩,fun dn dt rdt hdt=> ?_⟩⟩⟩⟩
 have hdl:=Gs (aj rr) (aj rr) (aj rdt) hdt.1 (k:=512) (.inl hdt.2) hrl hrl;refine⟨⟨hdt.1,hbt.1,by unfold aB;omega,by unfold aB;omega⟩,fun x _ hx=>⟨fun _=>True,fun _=>⟨fun h0=>⟨zE _,h0,fun rk0=>⟨by decide, ?_,trivial⟩⟩,fun _=>trivial⟩,fun v _=> ?_⟩⟩
 ·rw[O1]at rk0
  rw[Int.tmod_eq_emod_of_nonneg rk0.1];exact O1.2 (by omega)
 have hx:ZY (zv dn dt) (zv bn bt) x:=hx;rw[hdt.2,hbz]at hx;refine⟨fun u=>u=true↔x>0\/(x=0/\¬a=true),⟨fun h=>⟨fun _=> .inl h,fun _=>rfl⟩,fun h=>⟨fun h0=>⟨fun _=>⟨fun ha=>⟨fun _=> .inr ⟨h0,ha⟩,fun _=>rfl⟩,fun ha=>⟨fun k=>absurd k (by decide),fun _=>⟨fun k=>absurd k Bool.false_ne_true,fun k=>by rcases k with k|k;exact absurd k h;exact absurd k.2 ha⟩⟩⟩,fun k=>absurd rfl k⟩,fun h0=>⟨fun k=>absurd k Bool.false_ne_true,fun k=>by omega⟩⟩⟩,fun u hu=>⟨fun h=> ?_,fun h=> ?_⟩⟩
 ·rcases hu.1 h with k|⟨k,ka⟩
  ·refine inc (t5b ?_)
   rcases hx with hx|hx|hx<;>omega
  ·refine inc ?_
   rw[t5c (by rcases hx with hx|hx|hx<;>omega),if_pos (zB.1 fun g=>ka (hneg.2 g))]
 ·have h:¬(x>0\/(x=0/\¬a=true)):=fun k=>h (hu.2 k)
  rcases hx with hx|hx|hx
  ·exact keep (t5a hx.2)
  ·refine keep ?_
   rw[t5c hx.2,if_neg (hneg.1 (zB.1 fun g=>h (.inr ⟨hx.1,g⟩)))]
  ·omega
theorem akk:acJ:=by
 intro a b rb c d rd a' b' kD c' d' rd' mode rm hp;simp only[zC]at hp⊢;obtain⟨⟨hu,Ar,hdl⟩,rfl⟩:=hp;have u1:zv a' b'=1:=hu.2.1;have u2:zv c' d'=1:=hu.zd;have akM:okF a' b' c' d':=⟨hu.pO,Ar,hdl⟩;refine⟨trivial,fun v hv=>⟨fun hn=>⟨⟨fun h=>absurd (hv.2 h) hn,fun _=>⟨gJ,rfl⟩⟩,trivial⟩,fun hy=>⟨trivial,fun w hw=>⟨fun hn=>absurd (hw.2 akM) hn,fun _=>⟨fun h=>absurd h (by decide),fun _=>⟨fun h=>absurd h (by decide),fun _=>⟨fun h=> ?_,fun _=>⟨trivial,fun z hz=>⟨fun h=> ?_,fun _=> ?_⟩⟩⟩⟩⟩⟩⟩⟩⟩
 ·exfalso
  unfold zv at u1;rw[if_pos h]at u1;have:0<=vl b':=((aj kD).bound (B:=65536) (by decide)).1;omega
 ·have:=Gt (n:=a') (hz.1 h)
  omega
 have h:=hv.1 (zB.1 hy);refine⟨⟨⟨h,akM,hu⟩,rfl⟩,fun sn s rs hs=> ?_⟩
 obtain⟨⟨h1,h3⟩,h2⟩:=hs;refine⟨⟨by unfold aB;omega,by unfold aB;omega⟩,fun tn t rt ht=> ?_⟩
 have htl:=dD (k:=1300) (aj rs) (aj kD) (aj rt) ht.1 ht.2 (by omega);refine⟨⟨ht.1,hu.WO,by unfold Sm;omega,by unfold Sm;omega,hu.VU (aj rd')⟩,fun nn nl rn' dn dl kL hq=> ?_⟩
 have hq:aK (zL (zv tn t) (zv c' d')) nn nl dn dl:=hq;rw[ht.2,u1,u2,qI,h3,Gu]at hq;exact RQ (F:=fun nn nl dn dl e=>lK a b c d a' b' c' d' 5 nn nl dn dl e) (fun _ _ _ _ _ hr=>⟨fun _=>hr,fun hn=>absurd h hn⟩) hq (aj rn') (aj kL)
theorem aeE:WE:=by
 intro n _ due _ paid _ name two s _ known _ hn;simp only[zC];have yes:¬okI n due paid name two s->(decide True=true↔¬okI n due paid name two s):=fun h=>⟨fun _=>h,fun _=>by decide⟩
 refine⟨fun r=>r=true↔¬okI n due paid name two s,⟨fun h=>yes fun k=>by have:=k.1;omega,fun h1=>⟨fun h=>yes fun k=>by have:=k.1;omega,fun h2=>⟨fun h=>yes fun k=>by have:=k.2.1;omega,fun h3=>⟨fun h=>yes fun k=>by have:=k.2.1;omega,fun h4=>⟨fun h=>yes fun k=>by have:=k.2.1;omega,fun h5=>⟨hn,fun v hv=>⟨fun h=>yes fun k=>h (hv.2 k.2.2.1),fun h6=> ?_⟩⟩⟩⟩⟩⟩⟩,fun v hv=>⟨fun h=>⟨⟨fun _=>⟨rfl,rfl⟩,fun k=>absurd k (hv.1 h)⟩,trivial⟩,fun h=> ?_⟩⟩
 ·constructor
  ·intro k g
   have:=g.2.2.2;rw[k]at this;cases this
  ·intro k
   cases two with
   |true=>rfl
   |false=>exact absurd ⟨⟨by omega,by omega⟩,⟨by omega,by omega,by omega⟩,hv.1 (zB.1 h6),rfl⟩ k
 have hO:okI n due paid name two s:=zB.1 fun k=>h (hv.2 k)
 obtain⟨hn0,hd,hV,h2⟩:=hO;have fin:∀{x e:Int},((n=0\/due=paid)->x=0/\e=0)->(n≠0->due≠paid->abH (fH s known due (paid-due).toNat) n x e)->dZ n due paid name two s known x e/\True:=fun h1 h2'=>⟨⟨fun g=>absurd ⟨hn0,hd,hV,h2⟩ g,fun _=>⟨h1,h2'⟩⟩,trivial⟩
 refine⟨fun r=>r=true↔(n=0\/due=paid),⟨fun h0=>⟨fun _=> .inl h0,fun _=>by decide⟩,fun h0=>⟨fun k=> .inr (of_decide_eq_true k),fun k=>by rcases k with k|k;exact absurd k h0;exact decide_eq_true k⟩⟩,fun w hw=>⟨fun hz=>fin (fun _=>⟨rfl,rfl⟩) (fun a b=>by rcases hw.1 hz with k|k;exact absurd k a;exact absurd k b),fun hz=>⟨trivial,fun zn zl rzl zd zk rzk hz0=> ?_⟩⟩⟩
 have hz:¬(n=0\/due=paid):=fun k=>hz (hw.2 k)
 have hn1:n≠0:=fun k=>hz (.inl k)
 have hd1:due≠paid:=fun k=>hz (.inr k)
 have fin:∀{x e:Int},abH (fH s known due (paid-due).toNat) n x e->dZ n due paid name two s known x e/\True:=fun h=>fin (fun k=>absurd k hz) (fun _ _=>h)
 have hrow:∀i:Int,0<=i->i<s.len->okF (s.bool i 3) (s.sub i 4) (s.bool i 5) (s.sub i 6):=fun i i0 i1=>(hV.2.2.2 i i0 i1).2.2.2.2
 refine⟨fun mo y m a b c d=>((0<=m/\m<=paid)/\mo=m % 12/\y=1900+m/12)/\∃q,fH s known due (m-due).toNat= .ok q/\aK q a b c d/\okF a b c d,
  fun _ _ m _ _ _ _=>(paid-m).toNat,⟨⟨⟨by omega,by omega⟩,by omega,by omega⟩,0,by rw[show((0:Int)-due).toNat=0 by omega];rfl,hz0.1,⟨⟨_,hz0.1⟩,by have:=hz0.2.1;omega,by have:=hz0.2.2;omega⟩⟩, ?_⟩
 intro mo _ y _ m _ a b rb c d rd ⟨⟨⟨m0,m1⟩,hmo,hy⟩,q,hq,iq,oq⟩;have nxt:∀{a':Bool}{b':Sl}{c':Bool}{d':Sl},m<paid->(∃q,fH s known due (m+1-due).toNat= .ok q/\aK q a' b' c' d'/\okF a' b' c' d')->
   iA (mo+1)/\((mo+1=12->iA (y+1)/\iA (m+1)/\((((0<=m+1/\m+1<=paid)/\0=(m+1) % 12/\y+1=1900+(m+1)/12)/\∃q,fH s known due (m+1-due).toNat= .ok q/\aK q a' b' c' d'/\okF a' b' c' d')/\(paid-(m+1)).toNat<(paid-m).toNat))/\
   (¬mo+1=12->iA (m+1)/\((((0<=m+1/\m+1<=paid)/\mo+1=(m+1) % 12/\y=1900+(m+1)/12)/\∃q,fH s known due (m+1-due).toNat= .ok q/\aK q a' b' c' d'/\okF a' b' c' d')/\(paid-(m+1)).toNat<(paid-m).toNat))):=fun hm hh=>
  ⟨by rw[au];omega,fun h=>⟨by rw[au];omega,by rw[au];omega,⟨⟨⟨by omega,by omega⟩,by omega,by omega⟩,hh⟩,by omega⟩,fun h=>⟨by rw[au];omega,⟨⟨⟨by omega,by omega⟩,by omega,by omega⟩,hh⟩,by omega⟩⟩
 refine⟨fun hm=>⟨fun hge=>⟨hn,fun vn vl rvl vd vk rvk e _ hl=> ?_⟩,fun hge=>nxt hm ⟨q,by rw[show(m+1-due).toNat=(m-due).toNat by omega];exact hq,iq,oq⟩⟩,fun hm=>⟨trivial,fun fn fl aDk fd fk rfk hf=>⟨trivial,fun pn pl rpl pd pk rpk e _ he=> ?_⟩⟩⟩
 ·rw[hy]at hl
  have hm':due+((m-due).toNat:Int)=m:=by omega
  rcases Ec hl ⟨hV,h2⟩ hrow rvl rvk with⟨hr,_,e6⟩|⟨r,hr,ir,fr,or',e0⟩
  ·refine⟨fun _=>fin ?_,fun h=>by omega⟩
   rw[e6,V3 (agn hq (by rw[hm'];exact hr)) (m:=(paid-due).toNat) (by omega)];exact⟨rfl,rfl⟩
  ·refine⟨fun h=>by omega,fun _=>⟨trivial,fun an al ral ad ak rak e2 _ ha=> ?_⟩⟩
   have ha:pF a b c d vn vl vd vk an al ad ak e2:=ha;rcases sum_add (paid:=paid) hge hm hq iq oq hr ir or' ha ral rak with⟨e20,hq'⟩|⟨e23,hq'⟩
   ·exact⟨fun h=>by omega,fun _=>nxt hm hq'⟩
   ·refine⟨fun _=>fin ?_,fun h=>by omega⟩
    rw[hq',e23];exact⟨rfl,rfl⟩
 have hmp:m=paid:=by omega
 rw[hmp]at hq;have fin:∀{x e:Int},adJ q n x e->dZ n due paid name two s known x e/\True:=fun h=>fin (by rw[hq];exact h)
 have i_n:aK ((n:Int):Rat) fn fl fd fk:=hf.1;have o_n:okF fn fl fd fk:=⟨⟨_,hf.1⟩,by have:=hf.2.1;omega,by have:=hf.2.2;omega⟩;have he:=he.1 ⟨oq,o_n⟩;rw[iq.fq,i_n.fq]at he;by_cases f1:bM (q*(n:Rat))
 rotate_left
 ·obtain⟨_,e3⟩:=he.2 f1
  exact⟨fun _=>fin ⟨fun _=>⟨rfl,e3⟩,fun k=>absurd k f1⟩,fun h=>by omega⟩
 obtain⟨ip,e0⟩:=he.1 f1;have op:=ip.ok (aj rpl) (aj rpk) f1;refine⟨fun h=>absurd e0 h,fun _=>⟨fun e a b c d=>Di (q*(n:Rat)/12) a b c d e, ?_, ?_⟩⟩
 ·have core:∀(tn:Bool)(tl:Sl),Ranged tl [some .u16]->∀(td:Bool)(tk:Sl),Ranged tk [some .u16]->aU 12 tn tl td tk->OZ pn pl pd pk tn tl td tk/\∀(dn:Bool)(dl:Sl),Ranged dl [some .u16]->∀(dd:Bool)(dk:Sl),Ranged dk [some .u16]->∀e:Int,iA e->xM pn pl pd pk tn tl td tk dn dl dd dk e->Di (q*(n:Rat)/12) dn dl dd dk e:=fun tn tl rtl td tk rtk ht=>⟨trivial,fun dn dl kL dd dk rdk e _ hd=>by
   have it:aK ((12:Int):Rat) tn tl td tk:=ht.1;have ot:okF tn tl td tk:=⟨⟨_,ht.1⟩,by have:=ht.2.1;omega,by have:=ht.2.2;omega⟩;have hd:=(hd.1 ⟨op,ot⟩).1 (by rw[it.fq];decide);rw[ip.fq,it.fq]at hd;exact hd⟩
  exact⟨⟨trivial,core⟩,⟨trivial,core⟩⟩
 intro e1 _ pn' pl' aAX pd' pk' aAY he1;by_cases f2:bM (q*(n:Rat)/12)
 rotate_left
 ·obtain⟨_,e3⟩:=he1.2 f2
  exact⟨fun _=>fin ⟨fun _=>⟨rfl,e3⟩,fun _ k=>absurd k f2⟩,fun h=>by omega⟩
 obtain⟨iv,e0'⟩:=he1.1 f2;have ov:=iv.ok (aj aAX) (aj aAY) f2;have fin:∀{x e:Int},afA (q*(n:Rat)/12) x e->dZ n due paid name two s known x e/\True:=fun h=>fin ⟨fun k=>absurd ⟨f1,f2⟩ k,fun _ _=>h⟩
 generalize q*(n:Rat)/12=Q at*;refine⟨fun h=>absurd e0' h,fun _=>⟨fun e a b c d=>Di ((aO Q 5:Int):Rat) a b c d e, ?_, ?_⟩⟩
 ·have core:∀(tn:Bool)(tl:Sl),Ranged tl [some .u16]->∀(td:Bool)(tk:Sl),Ranged tk [some .u16]->aU 1 tn tl td tk->Hy pn' pl' pd' pk' tn tl td tk 5/\∀(dn:Bool)(dl:Sl),Ranged dl [some .u16]->∀(dd:Bool)(dk:Sl),Ranged dk [some .u16]->∀e:Int,iA e->lK pn' pl' pd' pk' tn tl td tk 5 dn dl dd dk e->Di ((aO Q 5:Int):Rat) dn dl dd dk e:=fun tn tl rtl td tk rtk ht=>⟨⟨⟨ht.1,by have:=ht.2.1;omega,by have:=ht.2.2;omega⟩,rfl⟩,fun dn dl kL dd dk rdk e _ hd=>by
   have hd:=hd.1 ov;rw[iv.fq]at hd;exact hd⟩
  exact⟨⟨trivial,core⟩,⟨trivial,core⟩⟩
 intro e2 _ rn rl rrl rd' rk rrk hr;by_cases hf':bM ((aO Q 5:Int):Rat)
 rotate_left
 ·obtain⟨z,e3⟩:=hr.2 hf'
  refine⟨fun _=>fin ⟨fun k=>absurd (ac9 f2 k) hf',fun _=>⟨rfl,e3⟩,fun k1 k2=>absurd (Gy ?_) hf'⟩,fun h=>by omega⟩
  have:(aO Q 5).natAbs<=1099511627776:=by omega
  exact Nat.lt_of_le_of_lt this (by decide)
 obtain⟨iR,e0⟩:=hr.1 hf';have oR:=iR.ok (aj rrl) (aj rrk) hf';have hneg:=aiK oR rrl;rw[iR.fq,show(0:Rat)=((0:Int):Rat)from rfl,zP]at hneg
 refine⟨fun h=>absurd e0 h,fun _=>⟨fun h=>fin ⟨fun _=>⟨rfl,rfl⟩,fun k=>by have:=hneg.1 h;omega,fun k=>absurd k (hneg.1 h)⟩,fun hx0=>⟨trivial,fun mn ml rml md mk rmk hm=>⟨trivial,fun y _ hy=> ?_⟩⟩⟩⟩
 have hx0:0<=aO Q 5:=zB.1 fun k=>hx0 (hneg.2 k)
 have im:aK ((1099511627776:Int):Rat) mn ml md mk:=hm.1;have om:=im.ok (aj rml) (aj rmk) (Gy (by decide));have sy:=hy.1 ⟨oR,om⟩;rw[iR.fq,im.fq]at sy;unfold Gm at sy;rw[qM,qM,Rat.intCast_inj]at sy;refine⟨fun h=>fin ⟨fun k=>by omega,fun _=>⟨rfl,rfl⟩,fun _ k=>by omega⟩,fun hy0=>⟨trivial,fun v _ e' _ hv=> ?_⟩⟩
 have hv:=(hv.2 oR).2;rw[iR.fq,Rat.den_intCast,qH]at hv;have hv:=(hv rfl).1 ⟨by omega,by omega⟩;exact fin ⟨fun k=>by omega,fun k=>by omega,fun _ _=>⟨hv.1,rfl⟩⟩
def ab4(r:List D):Int:=(r.getD 0 (.int 0)).toI
noncomputable def oK(s:Sl)(known st:Int)(d p:Sl)(day m:Int)(a:OR)(r:List D):OR:=match a with
 | .err e=> .err e
 | .ok l=>EY s known day m (ab4 r) (dS st d p (ab4 r)) l
section
variable{st:Int}{d p s:Sl}{known day m:Int}
theorem agw:∀n:Nat,iD s known st d p day m n=(fJ st d p m n).foldl (oK s known st d p day m) (.ok [])
 |0=>rfl
 | n+1=>by
  simp only[iD,fJ];rw[agw n];by_cases h:iV st d p m n
  ·simp only[if_pos h,qJ]
   cases(fJ st d p m n).foldl (oK s known st d p day m) (.ok [])with
   |err e=>rfl
   |ok l=>rfl
  ·simp only[if_neg h]
   cases(fJ st d p m n).foldl (oK s known st d p day m) (.ok [])with
   |err e=>rfl
   |ok l=>rfl
theorem agx{e:Int}:∀l:List (List D),l.foldl (oK s known st d p day m) (.err e)= .err e
 |[]=>rfl
 |r::l=>agx l
theorem aok{L:List (List D)}{e:Int}{i:Nat}(h:(L.take i).foldl (oK s known st d p day m) (.ok [])= .err e):L.foldl (oK s known st d p day m) (.ok [])= .err e:=by
 have:L.foldl (oK s known st d p day m) (.ok [])=(L.take i++L.drop i).foldl (oK s known st d p day m) (.ok []):=by rw[List.take_append_drop]
 rw[this,qJ,h];exact agx _
theorem aol{L:List (List D)}{l:List (List D)}{i:Nat}(hi:i<L.length)(h:(L.take i).foldl (oK s known st d p day m) (.ok [])= .ok l):(L.take (i+1)).foldl (oK s known st d p day m) (.ok [])=EY s known day m (ab4 (L.getD i [])) (dS st d p (ab4 (L.getD i []))) l:=by
 rw[List.take_add_one,qJ,h,qK hi,qN,qK hi];rfl
theorem YQ:∀{n:Nat}{r:List D},r∈fJ st d p m n->∃k:Nat,k<n/\iV st d p m k/\r=[.int (st+k)]
 | n+1,r,h=>by
  simp only[fJ]at h;split at h
  ·rename_i hl
   rcases List.mem_append.1 h with h|h
   ·obtain⟨k,k1,k2⟩:=YQ h
    exact⟨k,by omega,k2⟩
   ·exact⟨n,by omega,hl,List.mem_singleton.1 h⟩
  ·obtain⟨k,k1,k2⟩:=YQ h
   exact⟨k,by omega,k2⟩
theorem av7{n due paid:Int}:0<=(xW s known n due paid).1:=by
 unfold xW;split
 ·exact zE _
 ·split
  ·unfold abI
   split
   ·exact zE _
   ·split
    ·exact zE _
    ·rename_i h _;show 0<=aO _ 5;omega
  ·exact zE _
theorem asT(hv:aA st d p){s':Sl}(hs:dL s' (zA (fJ st d p m d.n))){i:Int}(i0:0<=i)(i1:i<s'.len):i.toNat<(fJ st d p m d.n).length/\ab4 ((fJ st d p m d.n).getD i.toNat [])=s'.int i 0/\∃k:Int,(0<=k/\k<d.len)/\s'.int i 0=st+k/\st+k<m/\0<dS st d p (st+k):=by
 have hl:=hs.1;rw[jO]at hl;have hi:i.toNat<(fJ st d p m d.n).length:=by omega
 have e:s'.int i 0=ab4 ((fJ st d p m d.n).getD i.toNat []):=hs.2 i i0 i1;refine⟨hi,e.symm, ?_⟩
 have hm:(fJ st d p m d.n).getD i.toNat []∈fJ st d p m d.n:=by
  rw[qN,qK hi];exact List.getElem_mem hi
 obtain⟨k,k1,k2,k3⟩:=YQ hm;refine⟨k,⟨by omega,by unfold zG;omega⟩, ?_,k2.1,k2.2⟩
 rw[e,k3];rfl
end
theorem avj:anK:=by
 intro st _ d _ p _ day _ m _ name two s _ known _ hp;simp only[zC];have d0:=len0 d;have bad:¬okO st d p day m name two s->qB st d p day m name two s known zD 2/\True:=fun h=>⟨⟨fun _=>⟨rfl,rfl⟩,fun k=>absurd k h⟩,trivial⟩
 refine⟨trivial,fun v hv=>⟨fun h=>bad fun k=>h (hv.2 k.1.1),fun h1=>⟨hp,fun w hw=>⟨fun h=>bad fun k=>h (hw.2 k.1.2.1),fun h2=>⟨fun h=>bad fun k=> ?_,fun h3=>⟨fun h=>bad fun k=> ?_,fun h4=>⟨fun h=>bad fun k=> ?_,fun h5=>⟨fun h=>bad fun k=> ?_,fun h6=>⟨fun h=>bad fun k=> ?_,fun h7=> ?_⟩⟩⟩⟩⟩⟩⟩⟩⟩
 ·have:=k.1.2.2;rw[h]at this;cases this
 ·have:=k.2.1.1;omega
 ·have:=k.2.1.2;omega
 ·have:=k.2.2.1;omega
 ·have:=k.2.2.2;omega
 have hv:=hv.1 (zB.1 h1);have hT:nZ name two s/\two=false:=⟨hw.1 (zB.1 h2),by simpa using h3⟩;have hO:okO st d p day m name two s:=⟨⟨hv,hT⟩,⟨by omega,by omega⟩,by omega,by omega⟩;have hb:=hv.1;refine⟨hv,fun t _ ht=> ?_⟩
 have ht:dL t (zA (fJ st d p m d.n)):=ht;have tl:t.len<=d.len:=by
  have:=YN (st:=st) (d:=d) (p:=p) m d.n;rw[ht.1,jO];unfold zG;omega
 have t0:=len0 t;have fin:∀{r:Sl}{e:Int},akr ((fJ st d p m d.n).foldl (oK s known st d p day m) (.ok [])) r e->qB st d p day m name two s known r e/\True:=fun h=>⟨⟨fun g=>absurd hO g,fun _=>by rw[agw];exact h⟩,trivial⟩
 refine⟨fun o i=>(0<=i/\i<=t.len)/\∃l,((fJ st d p m d.n).take i.toNat).foldl (oK s known st d p day m) (.ok [])= .ok l/\o=zA l/\(l.length:Int)<=2*i,fun _ i=>(t.len-i).toNat,⟨⟨zE _,t0⟩,[],rfl,Eb,by simp⟩, ?_⟩
 intro o _ i _ ⟨⟨i0,i1⟩,l,hl,ho,hn⟩ _;refine⟨fun hi=>⟨i0,hi,fun _=> ?_⟩,fun hi=> ?_⟩
 ·obtain⟨hi',hmon,k,⟨k0,k1⟩,hk,hkm,hko⟩:=asT hv ht i0 hi
  have hnx:=aol (s:=s) (known:=known) (day:=day) (st:=st) (d:=d) (p:=p) (m:=m) hi' hl;rw[hmon]at hnx;have fail:∀{e:Int},((fJ st d p m d.n).take (i.toNat+1)).foldl (oK s known st d p day m) (.ok [])= .err e->qB st d p day m name two s known zD e/\True:=fun h=>fin (by rw[aok h];exact⟨rfl,rfl⟩)
  have ob:=avU hv k0 k1;rw[hk]at hnx;rw[hk];refine⟨⟨hv,by omega,by omega⟩,fun x _ hx=> ?_⟩
  have hx:x=dS st d p (st+k):=hx;rw[<-hx]at hnx hko;refine⟨fun hbig=>fail (by rw[hnx];exact if_pos hbig),fun hbig=>⟨i0,hi,fun _=>⟨hp,fun v _ e _ hq=> ?_⟩⟩⟩
  have hnx:((fJ st d p m d.n).take (i.toNat+1)).foldl (oK s known st d p day m) (.ok [])=if(xW s known x (st+k) m).2≠0 then .err (xW s known x (st+k) m).2 else .ok (l++uJ day (st+k) x (xW s known x (st+k) m).1):=by
   rw[hnx];exact if_neg hbig
  have hr:=(hq.2 ⟨⟨by omega,by omega⟩,⟨by omega,by omega,by omega⟩,hT⟩).2 (by omega) (by omega);obtain⟨hv1,he1⟩:=aiH hr;have v0:0<=v:=by rw[hv1];exact av7
  refine⟨fun he=>fail (by rw[hnx,if_pos (by rw[<-he1];exact he),he1]),fun he=> ?_⟩
  rw[if_neg (by rw[<-he1];exact he),<-hv1]at hnx;have l1:∀a b c f:Int,(zA [[D.int a,D.int b,D.int c,D.int f]]).len=1:=fun _ _ _ _=>rfl
  have ll:(zA l).len=(l.length:Int):=rfl;have e1:(i+1).toNat=i.toNat+1:=by omega
  rw[ho,jL];refine⟨i0,hi,fun _=>⟨by rw[ll,l1];omega,fun hv0=> ?_,fun hv0=> ?_⟩⟩
  ·rw[jL]
   refine⟨i0,hi,fun _=>⟨?_,by rw[au];omega,⟨⟨by omega,by omega⟩,_,by rw[e1];exact hnx, ?_, ?_⟩,by show(t.len-(i+1)).toNat<(t.len-i).toNat;omega⟩⟩
   ·rw[l1,jO,zH];simp only[qD,qE];omega
   ·unfold uJ;rw[if_neg (by omega),qL];rfl
   ·unfold uJ;rw[if_neg (by omega),zH];simp only[qD,qE];omega
  ·refine⟨by rw[au];omega,⟨⟨by omega,by omega⟩,_,by rw[e1];exact hnx, ?_, ?_⟩,by show(t.len-(i+1)).toNat<(t.len-i).toNat;omega⟩
   ·unfold uJ;rw[if_pos (by omega)]
   ·unfold uJ;rw[if_pos (by omega),zH];simp only[qD,qE];omega
 ·refine fin ?_
  have:((fJ st d p m d.n).take i.toNat)=fJ st d p m d.n:=List.take_of_length_le (by have:=ht.1;rw[jO]at this;omega);rw[this]at hl;rw[hl,ho];exact⟨fK _,rfl⟩
theorem mG{p q:Sl}(h:aQ p q):aQ q p:=⟨h.1.symm,fun i i0 i1=>by
 have:=h.2 i i0 (by rw[h.1];exact i1);exact⟨this.1.symm,this.2.1.symm,this.2.2.1.symm,this.2.2.2.symm⟩⟩
theorem JI{p q r:Sl}{i j k:Int}(h:xU p i q j)(g:xU q j r k):xU p i r k:=⟨h.1.trans g.1,h.2.1.trans g.2.1,h.2.2.1.trans g.2.2.1,h.2.2.2.trans g.2.2.2⟩
theorem asU{st day m known e e':Int}{d p s r r':Sl}{name:ByteArray}{two:Bool}(h:Uu st d p day m name two s known r e)(g:Uu st d p day m name two s known r' e'):aQ r r'/\e=e':=by
 have nil:∀{r r':Sl},r.len=0->r'.len=0->aQ r r':=fun h g=>⟨by omega,fun i i0 i1=>by omega⟩
 by_cases o:okO st d p day m name two s
 ·have h:=h.2 o
  have g:=g.2 o;cases hr:iD s known st d p day m d.n with
  |err x=>
   rw[hr]at h g;exact⟨nil h.1 g.1,h.2.trans g.2.symm⟩
  |ok l=>
   rw[hr]at h g;exact⟨rF h.1 (mG g.1),h.2.trans g.2.symm⟩
 ·have h:=h.1 o
  have g:=g.1 o;exact⟨nil h.1 g.1,h.2.trans g.2.symm⟩
theorem follow_eq{st n d0:Int}{p q:Sl}(h:aQ p q)(hp:rE st n p d0):rE st n q d0:=fun i i0 i1=>by
 obtain⟨a0,a1,a2,a3⟩:=h.2 i i0 (by rw[h.1];exact i1);have g:=hp i i0 (by rw[h.1];exact i1);have pv:prev q d0 i=prev p d0 i:=by
  unfold prev;split
  ·rfl
  ·exact((h.2 (i-1) (by omega) (by rw[h.1];omega)).1).symm
 unfold qW JA at*;rw[<-a0,<-a1,<-a2,<-a3,pv];exact g
theorem Vy{st:Int}{d p q q':Sl}(hq:aQ q q'){s1 s2 e e':Int}{d1 p1 d2 p2:Sl}(h:aY st d p q s1 d1 p1 e)(g:aY st d p q' s2 d2 p2 e'):e=e'/\Z4 s1 d1 p1 s2 d2 p2:=by
 have zz:∀{a b:Int}{d p d' p':Sl},zeroS a d p->zeroS b d' p'->Z4 a d p b d' p':=fun h g=>⟨h.1.trans g.1.symm,⟨h.2.1.trans g.2.1.symm,fun i i0 i1=>by have:=h.2.1;omega⟩,⟨h.2.2.trans g.2.2.symm,fun i i0 i1=>by have:=h.2.2;omega⟩⟩
 by_cases o:l9 st d p q
 ·have o':l9 st d p q':=⟨o.1,follow_eq hq o.2⟩
  have h:=h.2 o;have g:=g.2 o';rw[<-hq.1]at g;by_cases l:4000<p.len+q.len
  ·have h:=h.1 l
   have g:=g.1 l;exact⟨h.1.trans g.1.symm,zz h.2 g.2⟩
  ·obtain⟨e1,a1,b1,c1⟩:=h.2 (by omega)
   obtain⟨e2,a2,b2,c2⟩:=g.2 (by omega);refine⟨e1.trans e2.symm,a1.trans a2.symm,⟨b1.1.trans b2.1.symm,fun i i0 i1=>(b1.2 i i0 i1).trans (b2.2 i i0 (by rw[b2.1,<-b1.1];exact i1)).symm⟩, ?_⟩
   have hl1:=c1.1;have hl2:=c2.1;refine⟨by rw[hl1,hl2,hq.1],fun i i0 i1=> ?_⟩
   have sy:∀{a b:Sl}{i k:Int},xU a i b k->xU b k a i:=fun h=>⟨h.1.symm,h.2.1.symm,h.2.2.1.symm,h.2.2.2.symm⟩
   by_cases c:i<p.len
   ·exact JI (c1.2.1 i i0 c) (sy (c2.2.1 i i0 c))
   ·have x1:=c1.2.2 (i-p.len) (by omega) (by omega)
    have x2:=c2.2.2 (i-p.len) (by omega) (by have:=hq.1;omega);rw[show p.len+(i-p.len)=i by omega]at x1 x2;exact JI x1 (JI (hq.2 (i-p.len) (by omega) (by omega)) (sy x2))
 ·have o':¬l9 st d p q':=fun k=>o ⟨k.1,follow_eq (mG hq) k.2⟩
  have h:=h.1 o;have g:=g.1 o';exact⟨h.1.trans g.1.symm,zz h.2 g.2⟩
theorem aiL{st:Int}{d p s:Sl}{known day m:Int}:∀(n:Nat)(l:List (List D)),iD s known st d p day m n= .ok l->l.length<=2*n
 |0,l,h=>by simp only[iD,OR.ok.injEq]at h;subst h;simp
 | n +1,l,h=>by
  simp only[iD]at h;cases hn:iD s known st d p day m n with
  |err e=>rw[hn]at h;cases h
  | ok l0=>
   rw[hn]at h;have i0:=aiL n l0 hn;have h:(if iV st d p m n then EY s known day m (st+n) (dS st d p (st+n)) l0 else .ok l0)= .ok l:=h
   split at h
   ·unfold EY at h
    split at h
    ·cases h
    ·split at h
     ·cases h
     ·cases h
      unfold uJ;split<;>simp<;>omega
   ·cases h;omega
theorem aom{st day m known e:Int}{d p s r:Sl}{name:ByteArray}{two:Bool}(h:Uu st d p day m name two s known r e):r.len<=1000000:=by
 by_cases o:okO st d p day m name two s
 ·have h:=h.2 o
  have hd:=o.1.1.1.2.2.1;cases hr:iD s known st d p day m d.n with
  |err x=>rw[hr]at h;rw[h.1];omega
  |ok l=>
   rw[hr]at h;have:=aiL d.n l hr;rw[h.1.1,jO];unfold zG at hd;omega
 ·rw[(h.1 o).1];omega
set_option maxRecDepth 20000
theorem aqo:ah6:=by
 intro st _ d p mo _ g _ t _ l st' _ d' p' dP _ g' _ t' _ l' _;simp only[zC];have no:¬aku st d p mo g t l st' d' p' dP g' t' l'->uF st d p mo g t l st' d' p' dP g' t' l' (decide False)/\True:=fun h=>⟨by simp[uF,h],trivial⟩
 have l0:=len0 l;refine⟨trivial,fun b hb=>⟨fun h=>no fun k=>h (hb.2 k.1),fun h=>⟨fun h2=>no fun k=>h2 k.2.1,fun h2 hs _=>⟨fun h3=>no fun k=>h3 k.2.2.1,fun h3 _=> ?_⟩⟩⟩⟩
 have h:=hb.1 (zB.1 h);have h2:=zB.1 h2;have h3:=zB.1 h3;have hs:=iW hs;refine⟨fun i=>(0<=i/\i<=l.len)/\∀k:Int,0<=k->k<i->uN l k l' k/\(l.bool k 9=true↔l'.bool k 9=true),fun i=>(l.len-i).toNat,⟨⟨by omega,l0⟩,fun k k0 k1=>by omega⟩,fun i ri hJ=> ?_⟩
 obtain⟨⟨i0,i1⟩,hE⟩:=hJ;refine⟨fun hlt=>⟨i0,hlt,fun _ _ _ _ _ _ _ _ _=>⟨i0,by omega,fun _ _ _ _ _ _ _ _ _=>⟨fun h4=>no fun k=>h4 ?_,fun h4=> ?_⟩⟩⟩,fun hge=>⟨?_,trivial⟩⟩
 ·obtain⟨⟨⟨a0,a1,a2,a3⟩,a4,a5,a6,a7,a8⟩,a9⟩:=k.2.2.2 i i0 hlt
  exact⟨a0,a1,a2,a3,a4,a5,a6,a7,a8,a9⟩
 ·obtain⟨a0,a1,a2,a3,a4,a5,a6,a7,a8,a9⟩:=zB.1 h4
  refine⟨by rw[au];omega,⟨⟨by omega,by omega⟩,fun k k0 k1=> ?_⟩,by show(l.len-(i+1)).toNat<(l.len-i).toNat;omega⟩
  by_cases c:k=i
  ·subst c;exact⟨⟨⟨a0,a1,a2,a3⟩,a4,a5,a6,a7,a8⟩,a9⟩
  ·exact hE k k0 (by omega)
 ·simp only[uF,decide_true,true_iff]
  exact⟨h,h2,h3,fun k k0 k1=>hE k k0 (by omega)⟩
theorem amZ:afc:=by
 intro st _ d p mo _ g _ t _ l _;simp only[zC];have no:¬eH st d p mo g t l->bV st d p mo g t l (decide False)/\True:=fun h=>⟨by simp[bV,h],trivial⟩
 have l0:=len0 l;refine⟨trivial,fun b hb=>⟨fun h=>no fun k=>h (hb.2 k.1.1),fun h=>⟨fun h1=>no fun k=>by have:=k.2.1.1.1;omega,fun h1=>⟨fun h2=>no fun k=>by have:=k.2.1.1.2;omega,fun h2=>⟨fun h3=>no fun k=>by have:=k.2.1.2.1.1;omega,fun h3=>⟨fun h4=>no fun k=>by have:=k.2.1.2.1.2;omega,fun h4=>⟨fun h5=>no fun k=>by have:=k.2.1.2.2.1;omega,fun h5=>⟨fun h6=>no fun k=>by have:=k.2.1.2.2.2;omega,fun h6 _=>⟨fun h7=>no fun k=>by have:=k.1.2;omega,fun h7=> ?_⟩⟩⟩⟩⟩⟩⟩⟩⟩
 have h:=hb.1 (zB.1 h);refine⟨fun i=>(0<=i/\i<=l.len)/\∀k:Int,0<=k->k<i->kJ p.len l k,fun i=>(l.len-i).toNat,⟨⟨by omega,l0⟩,fun k k0 k1=>by omega⟩,fun i ri hJ _=> ?_⟩
 obtain⟨⟨i0,i1⟩,hE⟩:=hJ;refine⟨fun hlt=> ?_,fun hge=>⟨?_,trivial⟩⟩
 ·have ok:eH st d p mo g t l->kJ p.len l i/\0<=l.int i 4/\0<=l.int i 0/\0<=l.int i 2:=fun k=>⟨k.2.2 i i0 hlt,NI k.2.2 i0 hlt⟩
  have nx:kJ p.len l i->iA (i+1)/\((0<=i+1/\i+1<=l.len)/\∀k:Int,0<=k->k<i+1->kJ p.len l k)/\(l.len-(i+1)).toNat<(l.len-i).toNat:=fun ho=>⟨by rw[au];omega,⟨⟨by omega,by omega⟩,fun k k0 k1=>by
   by_cases c:k=i
   ·rw[c];exact ho
   ·exact hE k k0 (by omega)⟩,by omega⟩
  refine⟨i0,hlt,fun _ _ _ _ _ _ _ _ _=>⟨fun a=>no fun k=>by have:=(ok k).2;omega,fun a0=>⟨fun a=>no fun k=>by have:=(ok k).2;omega,fun a1=>⟨fun a=>no fun k=>by have:=(ok k).2;omega,fun a2=>⟨fun a=>no fun k=>by have:=(ok k).1.2.1;omega,fun a3 _=>⟨fun a=>no fun k=>by have:=(ok k).1.2.1;omega,fun a4=>
   ⟨fun a=>no fun k=>by have:=(ok k).1.2.2.1.1;omega,fun a5=>⟨fun a=>no fun k=>by have:=(ok k).1.2.2.1.2;omega,fun a6=>⟨fun a=>no fun k=>by have:=(ok k).1.2.2.2.1;omega,fun a7=>⟨fun a=>no fun k=>by have:=(ok k).1.2.2.2.2;omega,fun a8=>⟨fun c=> ?_,fun c=> ?_⟩⟩⟩⟩⟩⟩⟩⟩⟩⟩⟩
  ·have pv:∀(k:Nat)(d0:Int),dH l k d0 i=l.int (i-1) k:=fun k d0=>by unfold dH;rw[if_neg (by omega)]
   have no3:¬(l.int (i-1) 0<l.int i 0/\l.int (i-1) 4<l.int i 4/\l.int (i-1) 3<=l.int i 2)->bV st d p mo g t l (decide False)/\True:=fun hn=>no fun k=>hn (by
    have:=(ok k).1;unfold kJ at this;rw[pv,pv,pv]at this;exact⟨this.1.1,this.1.2,this.2.1.1⟩)
   refine⟨by rw[au];omega,by omega,by omega,fun _=>⟨fun b0=>no3 fun k=>by omega,fun b0=>⟨by rw[au];omega,by omega,by omega,fun _=>⟨fun b1=>no3 fun k=>by omega,fun b1=>⟨by rw[au];omega,by omega,by omega,fun _=>⟨fun b2=>no3 fun k=>by omega,fun b2=>nx ?_⟩⟩⟩⟩⟩⟩
   unfold kJ;rw[pv,pv,pv];exact⟨⟨by omega,by omega⟩,⟨by omega,by omega,by omega⟩,⟨by omega,by omega⟩,⟨by omega,by omega⟩⟩
  ·have e:i=0:=by omega
   subst e;refine nx ?_
   unfold kJ;rw[pV,pV,pV];exact⟨⟨by omega,by omega⟩,⟨by omega,by omega,by omega⟩,⟨by omega,by omega⟩,⟨by omega,by omega⟩⟩
 ·simp only[bV,decide_true,true_iff]
  exact⟨⟨h,by omega⟩,⟨⟨by omega,by omega⟩,⟨by omega,by omega⟩,⟨by omega,by omega⟩⟩,fun k k0 k1=>hE k k0 (by omega)⟩
theorem akg:acF:=by
 intro st _ d p mo _ g _ t _ l num _ day _ _;simp only[zC,zM];have zz:Z7 0 zD zD 0 0 0 zD:=⟨⟨rfl,rfl,rfl⟩,rfl,rfl,rfl,rfl⟩;have l0:=len0 l;refine⟨trivial,fun v hv=>⟨fun h=>⟨⟨fun _=>⟨rfl,zz⟩,fun k=>absurd (hv.2 k) h⟩,trivial⟩,fun h=> ?_⟩⟩
 have hV:=hv.1 (zB.1 h);have hS:=hV.2.2;have hl12:=hV.1.2;refine⟨fun i _ _ _ _ _ _ _=>(0<=i/\i<=l.len)/\∀j:Int,0<=j->j<i->¬pG l num j,fun i _ _ _ _ _ _ _=>(l.len-i).toNat,⟨⟨by omega,l0⟩,fun j _ _=>by omega⟩,fun i ri x2 _ s3 s4 x5 _ x6 _ x7 _ s8 hJ _=> ?_⟩
 obtain⟨⟨i0,i1⟩,hN⟩:=hJ;have next:¬pG l num i->i<l.len->iA (i+1)/\((0<=i+1/\i+1<=l.len)/\∀j:Int,0<=j->j<i+1->¬pG l num j)/\(l.len-(i+1)).toNat<(l.len-i).toNat:=fun hn hlt=>⟨by rw[au];omega,⟨⟨by omega,by omega⟩,fun j j0 j1=>by
  by_cases c:j=i
  ·rw[c];exact hn
  ·exact hN j j0 (by omega)⟩,by omega⟩
 refine⟨fun hlt=>⟨i0,hlt,fun rm0 _ _ _ _ _ _ _ _=>⟨fun hne=>next (fun k=>hne k.2.2.1) hlt,fun heq=>⟨fun hg=>next (fun k=>k.2.2.2 hg) hlt,fun hg=> ?_⟩⟩⟩,fun hge=>⟨⟨fun k=>absurd hV k,fun _=>⟨fun _=>⟨rfl,zz⟩,fun n hn=>absurd hn (hN n hn.1 (by have:=hn.2.1;omega))⟩⟩,trivial⟩⟩
 have ha:pG l num i:=⟨i0,hlt,zB.1 heq,hg⟩;have hs1:=hS i i0 hlt;obtain⟨g0,g1⟩:=hs1.2.2.1;obtain⟨t0,t1⟩:=hs1.2.2.2;have hto:=hs1.2.1;have hlo:=NI hS i0 hlt;obtain⟨m0,m1⟩:=hV.2.1.1;obtain⟨vg0,vg1⟩:=hV.2.1.2.1;obtain⟨vt0,vt1⟩:=hV.2.1.2.2;have pn4:=hV.1.1.2.2.1;have hfo:=hV.1.1.2.2.2;refine⟨fun s k=>s=zA (pR p day (l.int i 2) (k-l.int i 2).toNat)/\l.int i 2<=k/\k<=l.int i 3,fun _ k=>(l.int i 3-k).toNat,⟨by rw[zR];exact Eb,zE _,hto.2.1⟩,fun s k rk hJ2=> ?_⟩
 obtain⟨rfl,k0,k1⟩:=hJ2;have ll:=YI (p:=p) (day:=day) (lo:=l.int i 2) (k-l.int i 2).toNat;have lL:(zA (pR p day (l.int i 2) (k-l.int i 2).toNat)).len<=4000:=by
  show((pR p day (l.int i 2) (k-l.int i 2).toNat).length:Int)<=4000;omega
 refine⟨fun hlt2=>⟨by omega,by omega,fun _ _ _ _=> ?_⟩,fun ayG=> ?_⟩
 ·have tx:-1099511627776<=p.int k 3/\p.int k 3<=1099511627776:=by
   have hx:=(hfo k (by omega) (by omega)).1;rcases hx.2 with k|k<;>exact⟨by omega,by omega⟩
  have one:∀x,(zA [x]).len=1:=fun _=>rfl
  have e1:(k+1-l.int i 2).toNat=(k-l.int i 2).toNat+1:=by omega
  have ek:l.int i 2+(((k-l.int i 2).toNat:Nat):Int)=k:=by omega
  have nx:∀{s':Sl},s'=zA (pR p day (l.int i 2) (k-l.int i 2).toNat++iH p day k)->iA (k+1)/\(s'=zA (pR p day (l.int i 2) (k+1-l.int i 2).toNat)/\l.int i 2<=k+1/\k+1<=l.int i 3)/\(l.int i 3-(k+1)).toNat<(l.int i 3-k).toNat:=fun hs=>⟨by rw[au];omega,⟨by
   rw[hs,e1];show _=zA (pR p day (l.int i 2) (k-l.int i 2).toNat++iH p day (l.int i 2+(((k-l.int i 2).toNat:Nat):Int)));rw[ek],by omega,by omega⟩,by omega⟩
  refine⟨fun c1=>⟨by rw[au];omega,by rw[one];omega,fun c4=>absurd (c1.symm.trans c4) (by decide),fun _=>nx (by rw[jL];unfold iH;rw[if_pos (.inl c1)])⟩,
   fun c1=>⟨fun c2=>⟨by rw[au];omega,by rw[one];omega,fun c4=>absurd (c2.symm.trans c4) (by decide),fun _=>nx (by rw[jL];unfold iH;rw[if_pos (.inr c2)])⟩,
   fun c2=>⟨fun c4=>⟨by rw[au];omega,by rw[one];omega,nx (by rw[jL];unfold iH;rw[if_neg (by omega),if_pos c4])⟩,fun c4=>nx (by unfold iH;rw[if_neg (by omega),if_neg c4,List.append_nil])⟩⟩⟩
 ·have ek:k=l.int i 3:=by omega
  subst ek;refine⟨⟨by omega,by omega⟩,fun st1 _ d1 p1 e1 _ hq=>⟨fun h0=>⟨⟨fun k=>absurd hV k,fun _=>⟨fun k=>absurd ha (k i),fun n hn=> ?_⟩⟩,trivial⟩,fun h0=> ?_⟩⟩
  ·have e:=NJ hS hn ha
   subst e;exact⟨st1,d1,p1,e1,hq,fun _=>⟨rfl,zz⟩,fun k=>absurd k h0⟩
  ·have e0:=zB.1 h0
   subst e0;have hq':=qP hq;have fin:∀g' t',abJ mo g t l i mo g' t'->jX st d p mo g t l num day st1 d1 p1 mo g' t' (Sl.upd l i 9 [.bool (decide True)]) 0/\True:=fun g' t' hb=>⟨⟨fun k=>absurd hV k,fun _=>⟨fun k=>absurd ha (k i),fun n hn=>by
    have e:=NJ hS hn ha;subst e;exact⟨st1,d1,p1,0,hq,fun k=>absurd rfl k,fun _=>⟨rfl,hq'.1,⟨rfl,fun _ _ _=>rfl⟩,fK _,⟨rfl,fun j j0 j1=>⟨⟨⟨iL (by decide),iL (by decide),iL (by decide),iL (by decide)⟩,iL (by decide),iL (by decide),iL (by decide),iL (by decide),iL (by decide)⟩,by
     rw[ac7 i0 j0];by_cases e:j=n
     ·simp[e]
     ·simp[e]⟩⟩,hb⟩⟩⟩⟩,trivial⟩
   rw[xu m0,xu hlo.2.1];refine⟨by show((zA []).len+l.len)*80<=_;have:(zA []).len=0:=rfl;omega,i0,hlt,by decide,by rw[au];omega,by decide,by rw[au]at rm0⊢;have:=hlo.2.1;omega,fun he=>⟨by rw[au];omega,fun hneg=>⟨by rw[au];omega,fun hb=>⟨fun k=>absurd k (by decide),fun _=>fin _ _ ⟨rfl,fun _=>⟨?_, ?_⟩,fun k=>absurd he k⟩⟩,fun hb=>⟨fun hc=>fin _ _ ⟨rfl,fun _=>⟨?_, ?_⟩,fun k=>absurd he k⟩,fun hc=>fin _ _ ⟨rfl,fun _=>⟨?_, ?_⟩,fun k=>absurd he k⟩⟩⟩,
    fun hneg=>⟨by rw[au];omega,fun hb=>⟨fun k=>absurd k (by decide),fun _=>fin _ _ ⟨rfl,fun _=>⟨?_, ?_⟩,fun k=>absurd he k⟩⟩,fun hb=>⟨fun hc=>fin _ _ ⟨rfl,fun _=>⟨?_, ?_⟩,fun k=>absurd he k⟩,fun hc=>fin _ _ ⟨rfl,fun _=>⟨?_, ?_⟩,fun k=>absurd he k⟩⟩⟩⟩,fun he=>fin _ _ ⟨rfl,fun k=>absurd k he,fun _=>⟨rfl,rfl⟩⟩⟩
   all_goals first
    |(unfold imax;split<;>omega)
    |(unfold anN imin imax;(repeat' split)<;>omega)
theorem aao{l s:Sl}{i:Int}(i0:0<=i)(hs:s.len=i)(hE:∀k:Int,0<=k->k<i->uN s k l k/\(s.bool k 9=true↔l.bool k 9=true)){b:Bool}(hb:b=true↔l.bool i 9=true):
  (zF s (zA [[.int (l.int i 0), .int (l.int i 1), .int (l.int i 2), .int (l.int i 3), .int (l.int i 4), .int (l.int i 5), .int (l.int i 6), .int (l.int i 7), .int (l.int i 8), .bool b]])).len=i+1/\
  ∀k:Int,0<=k->k<i+1->uN (zF s (zA [[.int (l.int i 0), .int (l.int i 1), .int (l.int i 2), .int (l.int i 3), .int (l.int i 4), .int (l.int i 5), .int (l.int i 6), .int (l.int i 7), .int (l.int i 8), .bool b]])) k l k/\((zF s (zA [[.int (l.int i 0), .int (l.int i 1), .int (l.int i 2), .int (l.int i 3), .int (l.int i 4), .int (l.int i 5), .int (l.int i 6), .int (l.int i 7), .int (l.int i 8), .bool b]])).bool k 9=true↔l.bool k 9=true):=by
 generalize hr:zA [[.int (l.int i 0), .int (l.int i 1), .int (l.int i 2), .int (l.int i 3), .int (l.int i 4), .int (l.int i 5), .int (l.int i 6), .int (l.int i 7), .int (l.int i 8), .bool b]]=r;have rl:r.len=1:=by rw[<-hr];rfl
 refine⟨by rw[dG,hs,rl],fun k k0 k1=> ?_⟩
 by_cases c:k=i
 ·have hi:∀j,(zF s r).int k j=r.int 0 j:=fun j=>by rw[aG (by omega),c,hs,zR]
  have LV:(zF s r).bool k 9=r.bool 0 9:=by rw[xQ (by omega),c,hs,zR]
  unfold uN;rw[hi,hi,hi,hi,hi,hi,hi,hi,hi,LV,<-hr,c];exact⟨⟨⟨rfl,rfl,rfl,rfl⟩,rfl,rfl,rfl,rfl,rfl⟩,hb⟩
 ·have hi:∀j,(zF s r).int k j=s.int k j:=fun j=>aS k0 (by omega)
  have LV:(zF s r).bool k 9=s.bool k 9:=xP k0 (by omega);unfold uN;rw[hi,hi,hi,hi,hi,hi,hi,hi,hi,LV];exact hE k k0 (by omega)
theorem aqF:ah9:=by
 intro st _ d p mo _ g _ t _ l hp;simp only[zC];have hp:l.len<=1000000:=hp;have l0:=len0 l;refine fun _=>⟨fun i st' d' p' dP g' t' s=>((0<=i/\i<=l.len)/\(st'=st/\d'=d/\p'=p)/\(dP=mo/\g'=g/\t'=t))/\s.len=i/\∀k:Int,0<=k->k<i->uN s k l k/\(s.bool k 9=true↔l.bool k 9=true),fun i _ _ _ _ _ _ _=>(l.len-i).toNat,⟨⟨⟨by omega,l0⟩,⟨rfl,rfl,rfl⟩,rfl,rfl,rfl⟩,rfl,fun k _ _=>by omega⟩,fun i ri st' _ d' p' dP _ g' _ t' _ s hJ=> ?_⟩
 obtain⟨⟨⟨i0,i1⟩,hl,hm⟩,hs,hE⟩:=hJ;refine⟨fun hlt=>⟨i0,hlt,fun _ _ _ _ _ _ _ _ _=>⟨?_,by rw[au];omega,⟨⟨⟨by omega,by omega⟩,hl,hm⟩,aao i0 hs hE Iff.rfl⟩,by show(l.len-(i+1)).toNat<(l.len-i).toNat;omega⟩⟩,fun hge=>⟨⟨hl,hm,by rw[hs];omega,fun k k0 k1=>hE k k0 (by omega)⟩,trivial⟩⟩
 rw[hs];show(i+1)*80<=_;omega
theorem aqD:ah8:=by
 intro st _ d p mo _ g _ t _ l hp;simp only[zC,zM];obtain⟨hd,hq,hp⟩:=(show d.len<=1000000/\p.len<=1000000/\l.len<=1000000 from hp)
 have l0:=len0 l;have e0:(zA []).len=0:=rfl;have s1:((zA []).len+d.len)*8<=140737488355328:=by omega
 have s2:((zA []).len+p.len)*32<=140737488355328:=by omega
 refine⟨⟨⟨s1,s2,fun _=> ?_⟩,s1,s2,fun _=> ?_⟩,s1,s2,fun _=> ?_⟩
 all_goals
  refine⟨fun i st' d' p' dP g' t' s=>((0<=i/\i<=l.len)/\(st'=st/\d'=d/\p'=p)/\(dP=mo/\g'=g/\t'=t))/\s.len=i/\∀k:Int,0<=k->k<i->uN s k l k/\(s.bool k 9=true↔l.bool k 9=true),fun i _ _ _ _ _ _ _=>(l.len-i).toNat,⟨⟨⟨by omega,l0⟩,⟨rfl,rfl,rfl⟩,rfl,rfl,rfl⟩,rfl,fun k _ _=>by omega⟩,fun i ri st' _ d' p' dP _ g' _ t' _ s hJ=> ?_⟩
  obtain⟨⟨⟨i0,i1⟩,hl,hm⟩,hs,hE⟩:=hJ;refine⟨fun hlt=>⟨i0,hlt,fun _ _ _ _ _ _ _ _ _=>⟨?_,by rw[au];omega,⟨⟨⟨by omega,by omega⟩,hl,hm⟩,aao i0 hs hE Iff.rfl⟩,by show(l.len-(i+1)).toNat<(l.len-i).toNat;omega⟩⟩,fun hge=>⟨⟨hl,hm,by rw[hs];omega,fun k k0 k1=>hE k k0 (by omega)⟩,trivial⟩⟩
  rw[hs];show(i+1)*80<=_;omega
theorem vC{a b:Sl}(h:lQ a b):lQ b a:=⟨h.1.symm,fun i i0 i1=>by
 obtain⟨⟨⟨a0,a1,a2,a3⟩,a4,a5,a6,a7,a8⟩,a9⟩:=h.2 i i0 (by rw[h.1];exact i1);exact⟨⟨⟨a0.symm,a1.symm,a2.symm,a3.symm⟩,a4.symm,a5.symm,a6.symm,a7.symm,a8.symm⟩,a9.symm⟩⟩
theorem agy{a b c:Sl}{i j k:Int}(h:uN a i b j)(g:uN b j c k):uN a i c k:=by
 obtain⟨⟨a0,a1,a2,a3⟩,a4,a5,a6,a7,a8⟩:=h;obtain⟨⟨b0,b1,b2,b3⟩,b4,b5,b6,b7,b8⟩:=g;exact⟨⟨a0.trans b0,a1.trans b1,a2.trans b2,a3.trans b3⟩,a4.trans b4,a5.trans b5,a6.trans b6,a7.trans b7,a8.trans b8⟩
theorem SN{a b c:Sl}(h:lQ a b)(g:lQ b c):lQ a c:=⟨h.1.trans g.1,fun i i0 i1=>by
 have x:=h.2 i i0 i1;have y:=g.2 i i0 (by rw[<-h.1];exact i1);exact⟨agy x.1 y.1,x.2.trans y.2⟩⟩
theorem JJ{st:Int}{d p:Sl}{mo g t:Int}{l l2:Sl}(h:lQ l2 l)(hv:eH st d p mo g t l):eH st d p mo g t l2:=by
 refine⟨⟨hv.1.1,by rw[h.1];exact hv.1.2⟩,hv.2.1,fun i i0 i1=> ?_⟩
 have o:=hv.2.2 i i0 (by rw[<-h.1];exact i1);obtain⟨⟨⟨a0,a1,a2,a3⟩,a4,a5,a6,a7,a8⟩,_⟩:=h.2 i i0 i1;have pv:∀(j:Nat)(x0:Int),(j=0\/j=4\/j=3)->dH l2 j x0 i=dH l j x0 i:=fun j x0 hj=>by
  unfold dH;by_cases e:i=0
  ·rw[if_pos e,if_pos e]
  ·rw[if_neg e,if_neg e]
   have r:=(h.2 (i-1) (by omega) (by omega)).1;rcases hj with rfl|rfl|rfl
   ·exact r.1.1
   ·exact r.2.1
   ·exact r.1.2.2.2
 unfold kJ at o⊢;rw[pv 0 _ (.inl rfl),pv 4 _ (.inr (.inl rfl)),pv 3 _ (.inr (.inr rfl)),a0,a4,a2,a3,a6,a7];exact o
theorem anl:afj:=by
 intro y ry ⟨hy,hs⟩ _;simp only[zC];have y0:=len0 y;refine⟨fun z i=>(0<=i/\i<=y.len)/\z.len=i/\∀k:Int,0<=k->k<i->z.int k 0=y.int k 0/\pU (z.sub k 1) (y.sub k 1),fun _ i=>(y.len-i).toNat,⟨⟨zE _,y0⟩,rfl,fun k _ _=>by omega⟩,fun z rz i ri hJ=> ?_⟩
 obtain⟨⟨i0,i1⟩,hz,hk⟩:=hJ;refine⟨fun hi=>⟨i0,hi,fun _ _ _=> ?_⟩,fun hi=>⟨⟨by omega,fun k k0 k1=>hk k k0 (by omega)⟩,trivial⟩⟩
 have hl:=hs i i0 hi;have l0:=len0 (y.sub i 1);refine⟨fun j f s=>(0<=j/\j<=(y.sub i 1).len)/\f=y.int i 0/\s.len=j/\∀k:Int,0<=k->k<j->s.int k 0=(y.sub i 1).int k 0/\wu (s.bool k 1) (s.sub k 2) (s.bool k 3) (s.sub k 4) ((y.sub i 1).bool k 1) ((y.sub i 1).sub k 2) ((y.sub i 1).bool k 3) ((y.sub i 1).sub k 4),fun j _ _=>((y.sub i 1).len-j).toNat,⟨⟨zE _,l0⟩,rfl,rfl,fun k _ _=>by omega⟩,fun j rj f rf s rs hK=> ?_⟩
 obtain⟨⟨j0,j1⟩,hf,hsl,hr⟩:=hK;refine⟨fun hj=>⟨j0,hj,fun _ _ _=> ?_⟩,fun hj=> ?_⟩
 ·have e1:∀r:List D,(zA [r]).len=1:=fun _=>rfl
  refine⟨by rw[e1];omega,by rw[au];omega,⟨⟨by omega,by omega⟩,hf,by rw[dG,e1,hsl],fun k k0 k1=> ?_⟩,by show((y.sub i 1).len-(j+1)).toNat<((y.sub i 1).len-j).toNat;omega⟩
  by_cases c:k<j
  ·rw[aS k0 (by omega),xP k0 (by omega),xP k0 (by omega),RN k0 (by omega),RN k0 (by omega)]
   exact hr k k0 c
  ·have ek:k=j:=by omega
   rw[aG (by omega),xQ (by omega),xQ (by omega),RP (by omega),RP (by omega),show k-s.len=0 by omega,ek];exact⟨rfl,⟨rfl,rfl,fun _ _ _=>rfl⟩,rfl,rfl,fun _ _ _=>rfl⟩
 ·have e1:∀r:List D,(zA [r]).len=1:=fun _=>rfl
  refine⟨by rw[e1];omega,by rw[au];omega,⟨⟨by omega,by omega⟩,by rw[dG,e1,hz],fun k k0 k1=> ?_⟩,by show(y.len-(i+1)).toNat<(y.len-i).toNat;omega⟩
  by_cases c:k<i
  ·rw[aS k0 (by omega),RN k0 (by omega)]
   exact hk k k0 c
  ·have ek:k=i:=by omega
   rw[aG (by omega),RP (by omega),show k-z.len=0 by omega,ek];exact⟨hf,⟨by show s.len=_;omega,fun q q0 q1=>hr q q0 (by have q1:q<s.len:=q1;omega)⟩⟩
theorem arz:aio:=by
 intro st _ d p mo _ g _ t _ l k;have k:eH st d p mo g t l:=k;have l0:=len0 l;have kl:=k.1.2;let f:Int->Int:=fun i=>if l.bool i 9=true then 0 else l.int i 6
 refine⟨fun n i=>(0<=i/\i<=l.len)/\(0<=n/\n<=1099511627776*i)/\n=sumTo f i.toNat,fun _ i=>(l.len-i).toNat,⟨⟨by omega,l0⟩,⟨by omega,by omega⟩,rfl⟩,fun n _ i ri hJ _=> ?_⟩
 obtain⟨⟨i0,i1⟩,⟨n0,n1⟩,hn⟩:=hJ;refine⟨fun hlt=>⟨i0,hlt, ?_⟩,fun hge=>⟨?_,trivial⟩⟩
 ·obtain⟨ka0,ka1⟩:=(k.2.2 i i0 hlt).2.2.1
  refine⟨fun hb=>⟨i0,hlt,fun _=> ?_⟩,fun hb=> ?_⟩
  ·have hf:f i=l.int i 6:=by show(if l.bool i 9=true then _ else _)=_;rw[if_neg hb]
   exact⟨by rw[au];omega,by rw[au];omega,⟨⟨by omega,by omega⟩,⟨by omega,by omega⟩,by rw[Ae i0,<-hn,hf]⟩,by show(l.len-(i+1)).toNat<(l.len-i).toNat;omega⟩
  ·have hf:f i=0:=by show(if l.bool i 9=true then _ else _)=_;rw[if_pos (zB.1 hb)]
   exact⟨by rw[au];omega,⟨⟨by omega,by omega⟩,⟨by omega,by omega⟩,by rw[Ae i0,<-hn,hf,Int.add_zero]⟩,by show(l.len-(i+1)).toNat<(l.len-i).toNat;omega⟩
 ·have:i.toNat=l.n:=by unfold zG at*;omega
  show n=Nv l;rw[hn,this];rfl
theorem aiM{s:Sl}{m:Int}(i:Nat):∀k:Nat,∃r,aT s m (i+k)=aT s m i++r
 |0=>⟨[],by simp⟩
 |k+1=>by
  obtain⟨r,hr⟩:=aiM (s:=s) (m:=m) i k;show∃r,(if s.int ((i+k:Nat):Int) 0<=m then aT s m (i+k)++[uK s ((i+k:Nat):Int)]else aT s m (i+k))=_
  split
  ·exact⟨r++[uK s ((i+k:Nat):Int)],by rw[hr,qL]⟩
  ·exact⟨r,hr⟩
theorem V4{a b:List (List D)}{k:Int}(k0:0<=k)(k1:k<a.length)(j:Nat):(zA (a++b)).int k j=(zA a).int k j:=by
 rw[<-jL];exact aS k0 k1
theorem RU{a:List (List D)}{r:List D}{b:List (List D)}{k:Int}(hk:k=a.length)(j:Nat):(zA (a++(r::b))).int k j=(zA [r]).int 0 j:=by
 have e:a++(r::b)=(a++[r])++b:=by simp
 rw[e,V4 (by omega) (by simp;omega),<-jL,aG (by show(a.length:Int)<=k;omega)];rw[show k-(zA a).len=0 by show k-(a.length:Int)=0;omega]
theorem aiN{s:Sl}{m:Int}:∀n:Nat,(aT s m n).length<=n
 |0=>Nat.le_refl _
 |n+1=>by
  have:=aiN (s:=s) (m:=m) n;show(if s.int n 0<=m then aT s m n++[uK s n]else aT s m n).length<=n+1
  split
  ·simp;omega
  ·omega
theorem agz{s:Sl}{m i:Int}(i0:0<=i)(i1:i<s.len)(h:s.int i 0<=m):((aT s m i.toNat).length:Int)<(zA (aT s m s.n)).len/\∀j,j<3->(zA (aT s m s.n)).int (aT s m i.toNat).length j=s.int i j:=by
 obtain⟨r,hr⟩:=aiM (s:=s) (m:=m) (i+1).toNat (s.n-(i+1).toNat);have e:(i+1).toNat+(s.n-(i+1).toNat)=s.n:=by have i1:i<(s.n:Int):=i1;omega
 rw[e,sH i0,if_pos h,qL]at hr;have hr:aT s m s.n=aT s m i.toNat++(uK s i::r):=hr;refine⟨by rw[hr];show _<(((aT s m i.toNat++(uK s i::r)).length:Nat):Int);simp;omega,fun j hj=> ?_⟩
 rw[hr,RU rfl];rcases j with _|_|_|j
 ·rfl
 ·rfl
 ·rfl
 ·omega
theorem av8{st:Int}{d p:Sl}{m:Int}(hv:aA st d p)(hh:og st d m):qA st d p m (dS st d p m) 0:=
 ⟨fun k=>absurd hv k,fun _=>⟨fun k=>absurd hh k,fun _=>⟨rfl,rfl⟩⟩⟩
theorem avr:anM:=by
 intro st rst d p mo rmo g rg t rt l es day aAE month ayQ bW azx num aAF sa sb sc sd name two Xr ys known ayR hp;simp only[zC];obtain⟨hn,he⟩:=(show Fv name/\es.len<=1000000 from hp)
 let I:iM:=⟨st,d,p,mo,g,t,l,es,day,month,bW,num,sa,sb,sc,sd,name,two,Xr,ys,known⟩
 have err:∀e,I.pay (Vp e)->dJ st d p mo g t l es day month bW num sa sb sc sd name two Xr ys known 0 zD zD 0 0 0 zD 0 0 0 0 0 0 0 0 0 (decide False) e/\True:=fun e h=>⟨h,trivial⟩
 have l0:=len0 l;have p0:=len0 p;have e0:=len0 es;refine⟨trivial,fun v hv=>⟨fun h=>err 2 ⟨fun _=>dI 2,fun k=>absurd (hv.2 k) h⟩,fun h=> ?_⟩⟩
 have hV:eH st d p mo g t l:=hv.1 (zB.1 h);have hst:=hV.1.1.1;have hl12:=hV.1.2;have agf:∀{c o},I.chk c->c≠0->o.err c->I.pay o:=fun{c o} h1 h2 h3=>⟨fun k=>absurd hV k,fun _=>⟨c,h1,fun _=>h3,fun k=>absurd k h2⟩⟩
 have bad:¬I.mD->dJ st d p mo g t l es day month bW num sa sb sc sd name two Xr ys known 0 zD zD 0 0 0 zD 0 0 0 0 0 0 0 0 0 (decide False) 2/\True:=fun h=>err 2 (agf (c:=2) ⟨fun _=>rfl,fun k=>absurd k h,fun k=>absurd k h,fun k=>absurd k h⟩ (by decide) (dI 2))
 have lN:-1<=I.qR:=by
  by_cases c:0<l.len
  ·have:I.qR=l.int (l.len-1) 4:=if_pos c
   have:=(NI hV.2.2 (i:=l.len-1) (by omega) (by omega)).1;omega
  ·have:I.qR=-1:=if_neg c
   omega
 refine⟨fun a=>bad fun k=>by have:=(show 1<=bW from k.1.1);omega,fun a1=>⟨fun a=>bad fun k=>by have:=(show bW<=1099511627776 from k.1.2.1);omega,fun a2=>⟨fun a=>bad fun k=>by have:=(show I.qR<num from k.1.2.2);omega,fun a3=>⟨fun a=>bad fun k=>by have:=(show st<=month from k.2.1.1);omega,fun a4=>⟨fun a=>bad fun k=>by have:=(show month<=2153 from k.2.1.2.1);omega,fun a5=> ?_⟩⟩⟩⟩⟩
 refine⟨fun _ _ _ _ _ _ _ _ _ _ _ _ _ _ _ _ _ _=>I.qR<num/\I.yw<month,fun hsl=>⟨fun hl=> ?_,fun hl=> ?_⟩,fun x0 _ z0 _ z1 z2 z3 _ z4 _ z5 _ z6 z7 _ z8 _ z9 _ z10 _ z11 _ z12 _ z13 _ z14 _ z15 _ z16 hJ=> ?_⟩
 ·have eN:I.qR=l.int (l.len-1) 4:=if_pos hl
  have eM:I.yw=l.int (l.len-1) 0:=if_pos hl;refine⟨by rw[au];omega,by omega,by omega,fun _=>⟨fun a=>bad fun k=>by have:=(show I.yw<month from k.2.1.2.2);omega,fun a6=>⟨by rw[au];omega,by omega,by omega,fun _=>⟨fun a=>bad fun k=>by have:=(show I.qR<num from k.1.2.2);omega,fun a7=>⟨by omega,by omega⟩⟩⟩⟩⟩
 ·have eN:I.qR=-1:=if_neg hl
  have eM:I.yw=-1:=if_neg hl;exact⟨by omega,by omega⟩
 obtain⟨b1,b2⟩:=hJ;have A1:(1<=bW/\bW<=1099511627776/\I.qR<num)/\(st<=month/\month<=2153/\I.yw<month):=⟨⟨by omega,by omega,b1⟩,by omega,by omega,b2⟩;refine⟨fun n i _ _ _ _ _ _ _ _ _ _ _ _ _ _ _ _ _=>(0<=i/\i<=es.len)/\n=st+(aT es month i.toNat).length/\∀k:Int,0<=k->k<(aT es month i.toNat).length->(zA (aT es month i.toNat)).int k 0=st+k,fun _ i _ _ _ _ _ _ _ _ _ _ _ _ _ _ _ _ _=>(es.len-i).toNat,⟨⟨zE _,e0⟩,by show st=st+0;omega,fun k k0 k1=>absurd (show k<0 from k1) (by omega)⟩,fun n rn i ri w0 _ w1 w2 w3 _ w4 _ w5 _ w6 w7 _ w8 _ w9 _ w10 _ w11 _ w12 _ w13 _ w14 _ w15 _ w16 hJ hse=> ?_⟩
 obtain⟨⟨i0,i1⟩,hn1,hk1⟩:=hJ;have ll:=aiN (s:=es) (m:=month) i.toNat;refine⟨fun hi=>⟨i0,hi,fun _=>⟨fun hm=> ?_,fun hm=>⟨i0,hi,fun _=>⟨fun hx=> ?_,fun hx=> ?_⟩⟩⟩⟩,fun hi=>⟨by rw[au];omega,fun hx=> ?_,fun hx hsl2=> ?_⟩⟩
 ·have e:aT es month (i+1).toNat=aT es month i.toNat:=by rw[sH i0,if_neg (by omega)]
  exact⟨by rw[au];omega,⟨⟨by omega,by omega⟩,by rw[e];exact hn1,fun k k0 k1=>by rw[e]at k1⊢;exact hk1 k k0 k1⟩,by show(es.len-(i+1)).toNat<(es.len-i).toNat;omega⟩
 ·refine bad fun k=>hx ?_
  obtain⟨h1,h2⟩:=agz (m:=month) i0 hi (by omega);have:=k.2.2.2 (aT es month i.toNat).length (zI _) h1;have h3:=h2 0 (by decide);have:(zA (aT es month es.n)).int ((aT es month i.toNat).length:Int) 0=st+(aT es month i.toNat).length:=this;omega
 ·have hx:=zB.1 hx
  have e:aT es month (i+1).toNat=aT es month i.toNat++[uK es i]:=by rw[sH i0,if_pos (by omega)]
  refine⟨by rw[au];omega,by rw[au];omega,⟨⟨by omega,by omega⟩,by rw[e,zH];show n+1=st+(((aT es month i.toNat).length+1:Nat):Int);omega,fun k k0 k1=> ?_⟩,by show(es.len-(i+1)).toNat<(es.len-i).toNat;omega⟩
  rw[e]at k1⊢;have k1:k<(((aT es month i.toNat).length+1:Nat):Int):=by rw[zH]at k1;exact k1
  by_cases c:k<(aT es month i.toNat).length
  ·rw[V4 k0 c];exact hk1 k k0 c
  ·have ek:k=(aT es month i.toNat).length:=by omega
   rw[RU ek];show es.int i 0=_;omega
 ·have ei:i.toNat=es.n:=by unfold zG at*;omega
  refine bad fun k=>hx ?_
  have:=k.2.2.1;have:(((aT es month es.n).length:Nat):Int)=month-st+1:=this;rw[hn1,ei];omega
 have ei:i.toNat=es.n:=by unfold zG at*;omega
 rw[ei]at hn1 hk1;have hx:=zB.1 hx;have hargs:I.mD:=⟨A1.1,A1.2,by show(((aT es month es.n).length:Nat):Int)=month-st+1;omega,hk1⟩;refine⟨fun hf=>err 5 (agf (c:=5) ⟨fun k=>absurd hargs k,fun _ _=>rfl,fun _ k=>absurd k (by show¬l.len<1200;omega),fun _ k=>absurd k (by show¬l.len<1200;omega)⟩ (by decide) (dI 5)),fun hf=> ?_⟩
 have hless:l.len<1200:=by omega
 have asV:¬I.qU->dJ st d p mo g t l es day month bW num sa sb sc sd name two Xr ys known 0 zD zD 0 0 0 zD 0 0 0 0 0 0 0 0 0 (decide False) 350/\True:=fun h=>err 350 (agf (c:=350) ⟨fun k=>absurd hargs k,fun _ k=>absurd k (by show¬1200<=l.len;omega),fun _ _ _=>rfl,fun _ _ k=>absurd k h⟩ (by decide) (dI 350))
 have ex:∀i:Int,0<=i->i<es.len->es.int i 0<=month->¬(es.int i 2=0/\amt (es.int i 1))->¬I.qU:=fun i i0 i1 hm hno k=>by
  obtain⟨h1,h2⟩:=agz (m:=month) i0 i1 hm;have:=k (aT es month i.toNat).length (zI _) h1;refine hno ?_
  rw[<-h2 2 (by decide),<-h2 1 (by decide)];exact this
 refine⟨fun i _ _ _ _ _ _ _ _ _ _ _ _ _ _ _ _ _=>(0<=i/\i<=es.len)/\∀k:Int,0<=k->k<(aT es month i.toNat).length->(zA (aT es month i.toNat)).int k 2=0/\amt ((zA (aT es month i.toNat)).int k 1),fun i _ _ _ _ _ _ _ _ _ _ _ _ _ _ _ _ _=>(es.len-i).toNat,⟨⟨zE _,e0⟩,fun k k0 k1=>absurd (show k<0 from k1) (by omega)⟩,fun j rj v0 _ v1 v2 v3 _ v4 _ v5 _ v6 v7 _ v8 _ v9 _ v10 _ v11 _ v12 _ v13 _ v14 _ v15 _ v16 hJ _=> ?_⟩
 obtain⟨⟨j0,j1⟩,hk2⟩:=hJ;refine⟨fun hj=>⟨j0,hj,fun _ _ _=>⟨fun hm=>⟨fun h=>asV (ex j j0 hj hm fun k=>h k.1),fun h2=>⟨fun h=>asV (ex j j0 hj hm fun k=>by have:=k.2.1;omega),fun h3=>⟨fun h=>asV (ex j j0 hj hm fun k=>by have:=k.2.2;omega),fun h4=> ?_⟩⟩⟩,fun hm=> ?_⟩⟩,fun hj=> ?_⟩
 ·have e:aT es month (j+1).toNat=aT es month j.toNat++[uK es j]:=by rw[sH j0,if_pos hm]
  refine⟨by rw[au];omega,⟨⟨by omega,by omega⟩,fun k k0 k1=> ?_⟩,by show(es.len-(j+1)).toNat<(es.len-j).toNat;omega⟩
  rw[e]at k1⊢;have k1:k<(((aT es month j.toNat).length+1:Nat):Int):=by rw[zH]at k1;exact k1
  by_cases c:k<(aT es month j.toNat).length
  ·rw[V4 k0 c,V4 k0 c];exact hk2 k k0 c
  ·have ek:k=(aT es month j.toNat).length:=by omega
   rw[RU ek,RU ek];exact⟨zB.1 h2,by show 0<=es.int j 1;omega,by show es.int j 1<=_;omega⟩
 ·have e:aT es month (j+1).toNat=aT es month j.toNat:=by rw[sH j0,if_neg hm]
  exact⟨by rw[au];omega,⟨⟨by omega,by omega⟩,fun k k0 k1=>by rw[e]at k1⊢;exact hk2 k k0 k1⟩,by show(es.len-(j+1)).toNat<(es.len-j).toNat;omega⟩
 have ej:j.toNat=es.n:=by unfold zG at*;omega
 rw[ej]at hk2;have hent:I.qU:=hk2;have hc:I.chk 0:=⟨fun k=>absurd hargs k,fun _ k=>absurd k (by show¬1200<=l.len;omega),fun _ _ k=>absurd hent k,fun _ _ _=>rfl⟩
 have agh:∀{o},(1200<I.us.len->o.err 5)->(I.us.len<=1200->∃d1 p1,I.learned I.us.len d1 p1/\I.settle d1 p1 o)->I.pay o:=fun h1 h2=>⟨fun k=>absurd hV k,fun _=>⟨0,hc,fun k=>absurd rfl k,fun _=>⟨h1,h2⟩⟩⟩
 have d0:=len0 d;have Ar:I.us.len=month-st+1:=hargs.2.2.1;refine⟨fun i _ _ _ _ _ _ _ _ _ _ _ _ _ _ _ _ _ st' d' p'=>(0<=i/\i<=es.len)/\st'=st/\aA st d' p'/\I.learned (aT es month i.toNat).length d' p',fun i _ _ _ _ _ _ _ _ _ _ _ _ _ _ _ _ _ _ _ _=>(es.len-i).toNat,⟨⟨zE _,e0⟩,rfl,hV.1.1,fK p, ?_,fun k k0 k1=>absurd (show k<0 from k1) (by omega),fun k _ _=>rfl⟩,fun i ri u0 _ u1 u2 u3 _ u4 _ u5 _ u6 u7 _ u8 _ u9 _ u10 _ u11 _ u12 _ u13 _ u14 _ u15 _ u16 st1 _ d1 p1 hJ _=> ?_⟩
 ·show d.len=imax d.len 0
  unfold imax;split<;>omega
 obtain⟨⟨i0,i1⟩,es1,hv1,hI⟩:=hJ;subst es1;refine⟨fun hi=>⟨i0,hi,fun _=>⟨fun hm=>⟨i0,hi,fun _=>⟨i0,hi,fun _=> ?_⟩⟩,fun hm=> ?_⟩⟩,fun hi hsp=> ?_⟩
 ·obtain⟨h1,h2⟩:=agz (m:=month) i0 hi hm
  have m0:=h2 0 (by decide);have m1:=h2 1 (by decide);have aam:=hent (aT es month i.toNat).length (zI _) h1;have hm1:=hargs.2.2.2 (aT es month i.toNat).length (zI _) h1;have hm1:(zA (aT es month es.n)).int ((aT es month i.toNat).length:Int) 0=st1+(aT es month i.toNat).length:=hm1;have ha:amt ((zA (aT es month es.n)).int ((aT es month i.toNat).length:Int) 1):=aam.2;have h1:((aT es month i.toNat).length:Int)<I.us.len:=h1;rw[m0]at hm1;rw[m1]at ha;have e:aT es month (i+1).toNat=aT es month i.toNat++[uK es i]:=by rw[sH i0,if_pos hm]
  have lo:((aT es month i.toNat).length:Int)<=d1.len:=by have:=hI.2.1;rw[this];unfold imax;split<;>omega
  have ok:uM st1 d1 p1 (es.int i 0) (es.int i 1):=⟨hv1,ha.1,ha.2,by omega,by omega⟩;have core:Lu st1 d1 p1 (es.int i 0) (es.int i 1)/\∀(st2:Int),iA st2->∀(d2 p2:Sl)(e:Int),iA e->je st1 d1 p1 (es.int i 0) (es.int i 1) st2 d2 p2 e->
    (e≠0->dJ st1 d p mo g t l es day month bW num sa sb sc sd name two Xr ys known 0 zD zD 0 0 0 zD 0 0 0 0 0 0 0 0 0 (decide False) e/\True)/\(¬e≠0->iA (i+1)/\((0<=i+1/\i+1<=es.len)/\st2=st1/\aA st1 d2 p2/\I.learned (aT es month (i+1).toNat).length d2 p2)/\(es.len-(i+1)).toNat<(es.len-i).toNat):=⟨trivial,fun st2 _ d2 p2 e _ hl=>by
   have hl:dU st1 d1 p1 (es.int i 0) (es.int i 1) st2 d2 p2 e:=hl;by_cases many:jw st1 d1 (es.int i 0)
   ·obtain⟨e5,_⟩:=(hl.2 ok).1 many
    refine⟨fun _=> ?_,fun k=>absurd (by omega) k⟩
    rw[e5];have:1200<=d1.len:=by rcases many.2 with k|k<;>omega
    have:1200<I.us.len:=by have:=many.1;omega
    exact err 5 (agh (fun _=>dI 5) (fun k=>absurd k (by omega)))
   ·obtain⟨e0,hlt'⟩:=(hl.2 ok).2 many
    refine⟨fun k=>absurd e0 k,fun _=>⟨by rw[au];omega,⟨⟨by omega,by omega⟩,hlt'.1, ?_, ?_⟩,by omega⟩⟩
    ·have:=L.Vh ok many hlt'
     rw[hlt'.1]at this;exact this
    ·rw[show(((aT es month (i+1).toNat).length:Nat):Int)=((aT es month i.toNat).length:Int)+1 by rw[‹aT es month (i+1).toNat=_›,zH];rfl]
     have est:=hlt'.1;subst est;rw[hm1]at hlt';exact Vo (I:=I) hI (zI _) hlt' m1.symm⟩
  exact⟨core,core⟩
 ·have e:aT es month (i+1).toNat=aT es month i.toNat:=by rw[sH i0,if_neg hm]
  exact⟨by rw[au];omega,⟨⟨by omega,by omega⟩,rfl,hv1,by rw[e];exact hI⟩,by show(es.len-(i+1)).toNat<(es.len-i).toNat;omega⟩
 have ei:i.toNat=es.n:=by unfold zG at*;omega
 rw[ei]at hI;have pl1:p1.len=p.len:=hI.1.1;have dl1:I.us.len<=d1.len:=by
  have b:d1.len=imax d.len I.us.len:=hI.2.1;unfold imax at b;split at b<;>omega
 have abZ:∀o,I.settle d1 p1 o->I.pay o:=fun o ho=>agh (fun k=>by have:=hv1.1.2.2.1;omega) (fun _=>⟨d1,p1,hI,ho⟩)
 have pn1:=hv1.2.2.1;refine⟨hn,fun r er rer hq=>⟨fun h=>err er (abZ _ ⟨0,zD,zD,er,⟨r,er,hq,fun _=>⟨⟨rfl,rfl,rfl⟩,rfl⟩,fun k=>absurd k h⟩,fun _=>dI er,fun k=>absurd k h⟩),fun h=> ?_⟩⟩
 have h:=zB.1 h;subst h;refine⟨⟨by omega,aom hq⟩,fun st2 _ d2 p2 e2 _ hq2=>⟨fun h=>err e2 (abZ _ ⟨st2,d2,p2,e2,⟨r,0,hq,fun k=>absurd rfl k,fun _=>hq2⟩,fun _=>dI e2,fun k=>absurd k h⟩),fun h=> ?_⟩⟩
 have h:=zB.1 h;subst h;have hq2:aY st1 d1 p1 r st2 d2 p2 0:=hq2;obtain⟨es2,v2,dd2,bb2⟩:=qP hq2;subst es2;have pay3:∀o,I.due d2 p2 o->I.pay o:=fun o ho=>abZ o ⟨_,d2,p2,0,⟨r,0,hq,fun k=>absurd rfl k,fun _=>hq2⟩,fun k=>absurd rfl k,fun _=>ho⟩
 have pl2:=bb2.1;have r0:=len0 r;have hh:og st2 d2 month:=by
  have a:=dd2.1;have b:=hI.2.1;have b:d1.len=imax d.len I.us.len:=b;refine⟨A1.2.1, ?_⟩
  unfold imax at b;split at b<;>omega
 have q0:=av8 v2 hh;refine⟨fun _ _ _ _ _ _ _ _ _ _ _ _ _ _ _ _ _ _ st' d' p'=>st'=st2/\aA st2 d' p'/\p.len<=p'.len/\∀o,I.recover d' p' o->I.pay o,⟨⟨v2,hh⟩,fun n rn hq3=> ?_⟩,fun e3 _ s0 _ s1 s2 s3 _ s4 _ s5 _ s6 s7 _ s8 _ s9 _ s10 _ s11 _ s12 _ s13 _ s14 _ s15 _ s16 st3 _ d3 p3 hJ=> ?_⟩
 ·have hq3:n=dS st2 d2 p2 month:=hq3
  subst hq3;refine⟨fun h1=>⟨fun h2=>err 3 (pay3 _ ⟨_,0,q0,fun k=>absurd rfl k,fun _=>⟨fun k=>by omega,fun _=>dI 3,fun _ k=>by omega⟩⟩),fun h2=>⟨⟨by have:=v2.2.2.1;omega,by show(1:Int)<=1000000;decide⟩,fun st3 _ d3 p3 e3 _ hq3=> ?_⟩⟩,fun h1=>⟨rfl,v2,by omega,fun o ho=>pay3 o ⟨_,0,q0,fun k=>absurd rfl k,fun _=>⟨fun _=>ho,fun k=>by omega,fun k=>by omega⟩⟩⟩⟩
  have hq3:aY st2 d2 p2 (zA [[.int day, .int month, .int 1, .int (dS st2 d2 p2 month)]]) st3 d3 p3 e3:=hq3;refine⟨fun h=>err e3 (pay3 _ ⟨_,0,q0,fun k=>absurd rfl k,fun _=>⟨fun k=>absurd k (by omega),fun k=>absurd k (by omega),fun _ _=>⟨st3,d3,p3,e3,hq3,fun _=>dI e3,fun k=>absurd k h⟩⟩⟩),fun h=> ?_⟩
  have h:=zB.1 h;subst h;obtain⟨es3,v3,_,bb3⟩:=qP hq3;subst es3;have:=bb3.1;have:(zA [[.int day, .int month, .int 1, .int (dS st3 d2 p2 month)]]).len=1:=rfl;exact⟨rfl,v3,by omega,fun o ho=>pay3 o ⟨_,0,q0,fun k=>absurd rfl k,fun _=>⟨fun k=>absurd k (by omega),fun k=>absurd k (by omega),fun _ _=>⟨st3,d3,p3,0,hq3,fun k=>absurd rfl k,fun _=>ho⟩⟩⟩⟩
 obtain⟨es3,v3,pl3,ab1⟩:=hJ;subst es3;refine⟨trivial,fun s e4 re4 hq4=>⟨fun h=>err e4 (ab1 _ ⟨0,zD,zD,e4,⟨s,e4,hq4,fun _=>⟨⟨rfl,rfl,rfl⟩,rfl⟩,fun k=>absurd k h⟩,fun _=>dI e4,fun k=>absurd k h⟩),fun h=> ?_⟩⟩
 have h:=zB.1 h;subst h;have hq4:Aa st3 d3 p3 day month sa sb sc sd s 0:=hq4;obtain⟨lr,le,hlim⟩:=af9 st3 d3 p3 month sa sc sb sd;have sl:=take_len hq4 hlim;refine⟨⟨by have:=v3.2.2.1;omega,by omega⟩,fun st5 _ d5 p5 e5 _ hq5=>⟨fun h=>err e5 (ab1 _ ⟨st5,d5,p5,e5,⟨s,0,hq4,fun k=>absurd rfl k,fun _=>hq5⟩,fun _=>dI e5,fun k=>absurd k h⟩),fun h=> ?_⟩⟩
 have h:=zB.1 h;subst h;have hq5:aY st3 d3 p3 s st5 d5 p5 0:=hq5;obtain⟨es5,v4,_,bb4⟩:=qP hq5;subst es5;have s0:=len0 s;have pl4:p.len<=p5.len:=by have:=bb4.1;omega
 have pn4:=v4.2.2.1;have YH:∀o,I.fin d5 p5 o->I.pay o:=fun o ho=>ab1 o ⟨_,d5,p5,0,⟨s,0,hq4,fun k=>absurd rfl k,fun _=>hq5⟩,fun k=>absurd rfl k,fun _=>ho⟩
 refine⟨fun x i=>(p.len<=i/\i<=p5.len)/\(-(1099511627776*(i-p.len))<=x/\x<=1099511627776*(i-p.len))/\x=sumTo (fun j=>p5.int (p.len+j) 3) (i-p.len).toNat,fun _ i=>(p5.len-i).toNat,⟨⟨by omega,by omega⟩,⟨by omega,by omega⟩,by rw[show(p1.len-p.len).toNat=0 by omega];rfl⟩,fun x rx i ri hJ _=> ?_⟩
 obtain⟨⟨i0,i1⟩,⟨x0,x1⟩,hx⟩:=hJ;refine⟨fun hi=>⟨by omega,hi,fun _=> ?_⟩,fun hi=> ?_⟩
 ·have hr:=(v4.2.2.2 i (by omega) hi).1
  have hx2:-1099511627776<=p5.int i 3/\p5.int i 3<=1099511627776:=by
   rcases hr.2 with k|k<;>omega
  refine⟨by rw[au];omega,by rw[au];omega,⟨⟨by omega,by omega⟩,⟨by omega,by omega⟩, ?_⟩,by show(p5.len-(i+1)).toNat<(p5.len-i).toNat;omega⟩
  rw[show i+1-p.len=(i-p.len)+1 by omega,Ae (by omega),<-hx,show p.len+(i-p.len)=i by omega]
 have hg:x=I.gy p5:=by rw[hx,show i=p5.len by omega];rfl
 refine⟨fun h0=>err 351 (YH _ ⟨fun _=>dI 351,fun k=>by omega,fun k=>by have:=k.1;omega⟩),fun h0=>⟨fun h1=>err 3 (YH _ ⟨fun k=>by omega,fun _=>dI 3,fun k=>by have:=k.2;omega⟩),fun h1=>⟨trivial,fun r2 _ Vq _ g5 _ t5 _ e6 _ hq6=> ?_⟩⟩⟩
 have hga:amt (I.gy p5):=⟨by omega,by omega⟩;have hq6:held ys mo g t month x r2 Vq g5 t5 e6:=hq6;have agj:∀{o},(e6≠0->o.err e6)->(e6=0->(1099511627776<r2->o.err 3)/\(r2<=1099511627776->I.result d5 p5 (I.gy p5) r2 Vq g5 t5 o))->I.pay o:=fun{o} h2 h3=>YH o ⟨fun k=>by have:=hga.1;omega,fun k=>by have:=hga.2;omega,fun _=>⟨r2,Vq,g5,t5,e6,by rw[<-hg];exact hq6,h2,h3⟩⟩
 refine⟨fun h=>err e6 (agj (fun _=>dI e6) fun k=>absurd k h),fun h=> ?_⟩
 have h:=zB.1 h;subst h;refine⟨fun h2=>err 3 (agj (fun k=>absurd rfl k) fun _=>⟨fun _=>dI 3,fun k=>by omega⟩),fun h2 _=> ?_⟩
 have hta:=aiE hq6 rfl (by omega);obtain⟨ta,tb⟩:=hta;have core:(((zA []).len+l.len)*80<=140737488355328)/\(∀z:List D,((zF (zA []) l).len+(zA [z]).len)*80<=140737488355328):=by
  have a:(zA []).len=0:=rfl;refine⟨by rw[a];omega,fun z=> ?_⟩
  have b:(zA [z]).len=1:=rfl;rw[dG,a,b];omega
 have fin:dJ st5 d p mo g t l es day month bW num sa sb sc sd name two Xr ys known st5 d5 p5 Vq g5 t5 (zF (zF (zA []) l) (zA [[.int month, .int day, .int p1.len, .int p5.len, .int num, .int bW, .int x, .int r2, .int (x-r2), .bool (decide False)]])) month day p1.len p5.len num bW x r2 (x-r2) (decide False) 0/\True:=by
  refine⟨agj (fun k=>absurd rfl k) fun _=>⟨fun k=>by omega,fun _=> ?_⟩,trivial⟩
  rw[pl1,hg];exact⟨⟨rfl,rfl,⟨rfl,fun _ _ _=>rfl⟩,fK _⟩,⟨rfl,rfl,rfl⟩,⟨rfl,rfl,rfl,rfl⟩,⟨rfl,rfl,rfl,rfl,rfl⟩,rfl,rfl⟩
 exact⟨by rw[au];omega,⟨⟨core.1,core.2 _,fin⟩,core.1,core.2 _,fin⟩,core.1,core.2 _,fin⟩
theorem wK{d e:Sl}(h:fG d e):fG e d:=⟨h.1.symm,fun i i0 i1=>(h.2 i i0 (by rw[h.1];exact i1)).symm⟩
theorem Oi{d e f:Sl}(h:fG d e)(g:fG e f):fG d f:=⟨h.1.trans g.1,fun i i0 i1=>(h.2 i i0 i1).trans (g.2 i i0 (by rw[<-h.1];exact i1))⟩
theorem aon{p q:Sl}{i k:Int}(h:xU p i q k):xU q k p i:=⟨h.1.symm,h.2.1.symm,h.2.2.1.symm,h.2.2.2.symm⟩
section
variable{st:Int}{d d' p p':Sl}
theorem zN(hd:fG d d')(hp:aQ p p')(h:aA st d p):aA st d' p':=by
 obtain⟨⟨a,b,c,e⟩,f,g,k⟩:=h;have h1:=hd.1;have h2:=hp.1;exact⟨⟨a,b,by omega,by omega⟩,fun i i0 i1=>by rw[<-hd.2 i i0 (by omega)];exact f i i0 (by omega),by omega,L.follow_eq (n:=d.len) (by omega) (by omega) (fun i i0 i1=>aon (hp.2 i i0 (by omega))) k⟩
theorem aiO(hd:fG d d')(hp:aQ p p'){m:Int}(h:og st d m):dS st d p m=dS st d' p' m:=by
 unfold dS;rw[JF hp,hd.2 (m-st) (by have:=h.1;omega) (by have:=h.2;omega)]
theorem aap(hd:fG d d'){m:Int}(h:og st d m):og st d' m:=⟨h.1,by rw[<-hd.1];exact h.2⟩
theorem aoo(hd:fG d d')(hp:aQ p p'){s:Sl}{known day m:Int}:∀n:Nat,(n:Int)<=d.len->iD s known st d p day m n=iD s known st d' p' day m n
 |0,_=>rfl
 | n+1,hn=>by
  have ih:=aoo hd hp (s:=s) (known:=known) (day:=day) (m:=m) n (by omega);have e:dS st d p (st+n)=dS st d' p' (st+n):=aiO hd hp ⟨by omega,by omega⟩;unfold iD;rw[ih];cases iD s known st d' p' day m n with
  |err x=>rfl
  | ok l=>
   by_cases c:iV st d p m n
   ·have c':iV st d' p' m n:=⟨c.1,by rw[<-e];exact c.2⟩
    simp only[if_pos c,if_pos c',e]
   ·have c':¬iV st d' p' m n:=fun k=>c ⟨k.1,by rw[e];exact k.2⟩
    simp only[if_neg c,if_neg c']
theorem av9(hd:fG d d')(hp:aQ p p'){day m known e:Int}{name:ByteArray}{two:Bool}{s r:Sl}(h:Uu st d p day m name two s known r e):Uu st d' p' day m name two s known r e:=by
 have ok:okO st d' p' day m name two s->okO st d p day m name two s:=fun k=>⟨⟨zN (wK hd) (mG hp) k.1.1,k.1.2⟩,k.2⟩
 have ok':okO st d p day m name two s->okO st d' p' day m name two s:=fun k=>⟨⟨zN hd hp k.1.1,k.1.2⟩,k.2⟩
 refine⟨fun k=>h.1 fun g=>k (ok' g),fun k=> ?_⟩
 have h:=h.2 (ok k);have hn:d'.n=d.n:=by have:=hd.1;unfold zG at this;omega
 rw[hn,<-aoo hd hp d.n (zE _)];exact h
theorem ab5(hd:fG d d')(hp:aQ p p'){q:Sl}{s1 e:Int}{d1 p1:Sl}(h:aY st d p q s1 d1 p1 e):aY st d' p' q s1 d1 p1 e:=by
 have hl:=hp.1;have ok:l9 st d' p' q->l9 st d p q:=fun k=>⟨zN (wK hd) (mG hp) k.1,by rw[hd.1,Fp hp];exact k.2⟩
 have ok':l9 st d p q->l9 st d' p' q:=fun k=>⟨zN hd hp k.1,by rw[<-hd.1,<-Fp hp];exact k.2⟩
 refine⟨fun k=>h.1 fun g=>k (ok' g),fun k=> ?_⟩
 obtain⟨h1,h2⟩:=h.2 (ok k);rw[<-hl];refine⟨h1,fun g=> ?_⟩
 obtain⟨a,b,c,f⟩:=h2 g;obtain⟨f1,f2,f3⟩:=f;exact⟨a,b,Oi c hd,by rw[f1,hl],fun i i0 i1=>JI (f2 i i0 (by omega)) (hp.2 i i0 (by omega)),fun i i0 i1=>by rw[<-hl];exact f3 i i0 i1⟩
theorem asW(hd:fG d d')(hp:aQ p p'){m r e:Int}(h:qA st d p m r e):qA st d' p' m r e:=by
 refine⟨fun k=>h.1 fun g=>k (zN hd hp g),fun k=> ?_⟩
 obtain⟨h1,h2⟩:=h.2 (zN (wK hd) (mG hp) k);refine⟨fun g=>h1 fun x=>g (aap hd x),fun g=> ?_⟩
 have g':=aap (wK hd) g;have:=aiO hd hp g';unfold dS at this;rw[<-this];exact h2 g'
theorem ate(hd:fG d d')(hp:aQ p p'){k:Int}(k0:0<=k)(k1:k<d.len):ov st d p k=ov st d' p' k:=by
 unfold ov;rw[JF hp,hd.2 k k0 k1]
theorem aiP(hd:fG d d')(hp:aQ p p'){m lim:Int}:∀n:Nat,(n:Int)<=d.len->gK st d p m lim n=gK st d' p' m lim n
 |0,_=>rfl
 |n+1,hn=>by
  have ih:=aiP hd hp (m:=m) (lim:=lim) n (by omega);unfold gK mX;rw[ih,ate hd hp (by omega) (by omega)]
theorem aiQ(hd:fG d d')(hp:aQ p p'){day m lim:Int}:∀n:Nat,(n:Int)<=d.len->iy st d p day m lim n=iy st d' p' day m lim n
 |0,_=>rfl
 | n+1,hn=>by
  have ih:=aiQ hd hp (day:=day) (m:=m) (lim:=lim) n (by omega);have e:mg st d p m lim n=mg st d' p' m lim n:=by
   unfold mg mX;rw[aiP hd hp n (by omega),ate hd hp (by omega) (by omega)]
  unfold iy;rw[ih,e]
theorem awc(hd:fG d d')(hp:aQ p p'){day m e:Int}{a c:Bool}{b f s:Sl}(h:Aa st d p day m a b c f s e):Aa st d' p' day m a b c f s e:=by
 intro r e0 hl;have hl':Dj st d p m a b c f r e0:=by
  refine⟨fun k=>hl.1 fun g=>k ⟨zN (wK hd) (mG hp) g.1,g.2⟩,fun k=> ?_⟩
  obtain⟨h1,h2⟩:=hl.2 ⟨zN hd hp k.1,k.2⟩;refine⟨fun g=>h1 fun x=>g (aap (wK hd) x),fun g=> ?_⟩
  rw[hd.2 (m-st) (by have:=g.1;omega) (by have:=g.2;omega)];exact h2 (aap hd g)
 obtain⟨t1,t2⟩:=h r e0 hl';refine⟨t1,fun k=> ?_⟩
 obtain⟨t3,t4⟩:=t2 k;have hn:d'.n=d.n:=by have:=hd.1;unfold zG at this;omega
 rw[hn,<-aiQ hd hp d.n (zE _)];exact⟨t3,t4⟩
theorem aop{day m e e':Int}{a c:Bool}{b f s s':Sl}(h:Aa st d p day m a b c f s e)(g:Aa st d p day m a b c f s' e'):aQ s s'/\e=e':=by
 obtain⟨r,e0,hl⟩:=af9 st d p m a c b f;have no:∀{x y:Sl},x.len=0->y.len=0->aQ x y:=fun h g=>⟨h.trans g.symm,fun i i0 i1=>by omega⟩
 obtain⟨t1,t2⟩:=h r e0 hl;obtain⟨u1,u2⟩:=g r e0 hl;by_cases k:e0=0
 ·obtain⟨t3,t4⟩:=t2 k
  obtain⟨u3,u4⟩:=u2 k;by_cases kd:0<=day/\day<65536
  ·exact⟨rF (t4 kd).1 (mG (u4 kd).1),(t4 kd).2.trans (u4 kd).2.symm⟩
  ·exact⟨no (t3 kd).1 (u3 kd).1,(t3 kd).2.trans (u3 kd).2.symm⟩
 ·exact⟨no (t1 k).1 (u1 k).1,(t1 k).2.trans (u1 k).2.symm⟩
theorem alj(hd:fG d d')(hp:aQ p p'){day m known s1 s2 e e':Int}{name:ByteArray}{two:Bool}{s d1 p1 d2 p2:Sl}(h:yJ st d p day m name two s known s1 d1 p1 e)(g:yJ st d' p' day m name two s known s2 d2 p2 e'):e=e'/\(e=0->fG d1 d2/\aQ p1 p2):=by
 obtain⟨r,x,h1,h2,h3⟩:=h;obtain⟨r',x',g1,g2,g3⟩:=g;obtain⟨er,ex⟩:=asU (av9 hd hp h1) g1;subst ex;by_cases k:x=0
 ·obtain⟨a,b⟩:=Vy er (ab5 hd hp (h3 k)) (g3 k)
  exact⟨a,fun _=>b.2⟩
 ·have a:=(h2 k).2
  have b:=(g2 k).2;exact⟨a.trans b.symm,fun z=>absurd (a.symm.trans z) k⟩
theorem aoq(hd:fG d d')(hp:aQ p p'){day m s1 s2 e e':Int}{a c:Bool}{b f d1 p1 d2 p2:Sl}(h:DN st d p day m a b c f s1 d1 p1 e)(g:DN st d' p' day m a b c f s2 d2 p2 e'):e=e'/\(e=0->fG d1 d2/\aQ p1 p2):=by
 obtain⟨r,x,h1,h2,h3⟩:=h;obtain⟨r',x',g1,g2,g3⟩:=g;obtain⟨er,ex⟩:=aop (awc hd hp h1) g1;subst ex;by_cases k:x=0
 ·obtain⟨a,b⟩:=Vy er (ab5 hd hp (h3 k)) (g3 k)
  exact⟨a,fun _=>b.2⟩
 ·have a:=(h2 k).2
  have b:=(g2 k).2;exact⟨a.trans b.symm,fun z=>absurd (a.symm.trans z) k⟩
theorem asX(hd:fG d d')(hp:aQ p p'){m r r' e e':Int}(h:qA st d p m r e)(g:qA st d' p' m r' e'):r=r'/\e=e':=by
 have h:=asW hd hp h;by_cases k:aA st d' p'
 ·by_cases x:og st d' m
  ·have a:=(h.2 k).2 x
   have b:=(g.2 k).2 x;exact⟨a.1.trans b.1.symm,a.2.trans b.2.symm⟩
  ·have a:=(h.2 k).1 x
   have b:=(g.2 k).1 x;exact⟨a.1.trans b.1.symm,a.2.trans b.2.symm⟩
 ·have a:=h.1 k
  have b:=g.1 k;exact⟨a.1.trans b.1.symm,a.2.trans b.2.symm⟩
end
def Sim(n:Int)(o o':wo):Prop:=(0<=n->o.l.len<=n)/\o.e=o'.e/\aku o.st o.d o.p o.mo o.g o.t o.l o'.st o'.d o'.p o'.mo o'.g o'.t o'.l/\(o.m=o'.m/\o.day=o'.day/\o.a=o'.a/\o.b=o'.b)/\(o.num=o'.num/\o.bW=o'.bW/\o.aC=o'.aC/\o.ni=o'.ni/\o.net=o'.net)/\o.gone=o'.gone
theorem rG{n:Int}{o o':wo}{e:Int}(h:o.err e)(k:o'.err e):Sim n o o':=by
 obtain⟨h0,⟨h1,h2,h3⟩,⟨h4,h5,h6,h7⟩,⟨h8,h9,h10,h11⟩,⟨h12,h13,h14,h15,h16⟩,h17⟩:=h;obtain⟨k0,⟨k1,k2,k3⟩,⟨k4,k5,k6,k7⟩,⟨k8,k9,k10,k11⟩,⟨k12,k13,k14,k15,k16⟩,k17⟩:=k;exact⟨fun hn=>by omega,h0.trans k0.symm,⟨⟨h1.trans k1.symm,⟨h2.trans k2.symm,fun i i0 i1=>by omega⟩,⟨h3.trans k3.symm,fun i i0 i1=>by omega⟩⟩,⟨h4.trans k4.symm,h5.trans k5.symm,h6.trans k6.symm⟩,⟨h7.trans k7.symm,fun i i0 i1=>by omega⟩⟩,⟨h8.trans k8.symm,h9.trans k9.symm,h10.trans k10.symm,h11.trans k11.symm⟩,⟨h12.trans k12.symm,h13.trans k13.symm,h14.trans k14.symm,h15.trans k15.symm,h16.trans k16.symm⟩,h17.trans k17.symm⟩
theorem asY{a b r:Sl}(h:lQ a b):lQ (zF a r) (zF b r):=⟨by rw[dG,dG,h.1],fun i i0 i1=>by
 have hl:=h.1;by_cases c:i<a.len
 ·have e:=h.2 i i0 c
  have c':i<b.len:=by omega
  unfold uN at*;simp only[aS i0 c,aS i0 c',xP i0 c,xP i0 c'];exact e
 ·have e:∀j,(zF a r).int i j=(zF b r).int i j:=fun j=>by rw[aG (by omega),aG (by omega),hl]
  have eb:(zF a r).bool i 9=(zF b r).bool i 9:=by rw[xQ (by omega),xQ (by omega),hl]
  exact⟨⟨⟨e 0,e 1,e 2,e 3⟩,e 4,e 5,e 6,e 7,e 8⟩,by rw[eb]⟩⟩
theorem aor{s s':Sl}(h:Nu s' s){m:Int}:∀n:Nat,(n:Int)<=s.len->aT s' m n=aT s m n
 |0,_=>rfl
 |n+1,hn=>by
  have ih:=aor h (m:=m) n (by omega);have hl:=h.1;obtain⟨e0,e1,e2⟩:=h.2 n (by omega) (by omega);unfold aT uK;rw[ih,e0,e1,e2]
section
variable{i:iM}{l' es' ys':Sl}{o o':wo}
theorem awd(hl:lQ l' i.l)(hy:wB ys' i.ys){d4 p4 d5 p5:Sl}(hd:fG d4 d5)(hp:aQ p4 p5)(h:i.fin d4 p4 o)(h':iM.fin {i with l:=l',es:=es',ys:=ys'} d5 p5 o'):Sim (i.l.len+1) o o':=by
 have hpl:=hp.1;have hg:i.gy p4=i.gy p5:=by
  unfold iM.gy;rw[hpl];have a:=len0 i.p;exact qO fun j j0 j1=>(hp.2 (i.p.len+j) (by omega) (by omega)).2.2.2
 obtain⟨h1,h2,h3⟩:=h;obtain⟨g1,g2,g3⟩:=(show(i.gy p5<0->o'.err 351)/\(1099511627776<i.gy p5->o'.err 3)/\(amt (i.gy p5)->∃r mo g t e,held ys' i.mo i.g i.t i.month (i.gy p5) r mo g t e/\(e≠0->o'.err e)/\(e=0->(1099511627776<r->o'.err 3)/\(r<=1099511627776->iM.result {i with l:=l',es:=es',ys:=ys'} d5 p5 (i.gy p5) r mo g t o')))from h')
 rw[<-hg]at g1 g2 g3;by_cases c1:i.gy p4<0
 ·exact rG (h1 c1) (g1 c1)
 by_cases c2:1099511627776<i.gy p4
 ·exact rG (h2 c2) (g2 c2)
 obtain⟨r,mo,g,t,e,a1,a2,a3⟩:=h3 ⟨by omega,by omega⟩;obtain⟨r',dP,g',t',e',b1,b2,b3⟩:=g3 ⟨by omega,by omega⟩;obtain⟨rfl,rfl,rfl,rfl,rfl⟩:=aoj hy a1 b1;by_cases c3:e=0
 ·obtain⟨a4,a5⟩:=a3 c3
  obtain⟨b4,b5⟩:=b3 c3;by_cases c4:1099511627776<r
  ·exact rG (a4 c4) (b4 c4)
  ·obtain⟨⟨x0,x1,x2,x3⟩,⟨x4,x5,x6⟩,⟨x7,x8,x9,x10⟩,⟨x11,x12,aN,x14,x15⟩,x16,x17⟩:=a5 (by omega)
   obtain⟨⟨y0,y1,y2,y3⟩,⟨y4,y5,y6⟩,⟨y7,y8,y9,y10⟩,⟨y11,y12,y13,y14,Ik⟩,cZ,y17⟩:=b5 (by omega);refine⟨fun _=>by rw[x17,Gv,dG];exact zE _,x0.trans y0.symm,⟨⟨x1.trans y1.symm,Oi (Oi x2 hd) (wK y2),rF (rF x3 hp) (mG y3)⟩,⟨x4.trans y4.symm,x5.trans y5.symm,x6.trans y6.symm⟩, ?_⟩,⟨x7.trans y7.symm,x8.trans y8.symm,x9.trans y9.symm,(x10.trans hpl).trans y10.symm⟩,⟨x11.trans y11.symm,x12.trans y12.symm,aN.trans y13.symm,x14.trans y14.symm,x15.trans Ik.symm⟩,x16.trans cZ.symm⟩
   rw[x17,y17,Gv,Gv,hpl];exact asY (vC hl)
 ·exact rG (a2 c3) (b2 c3)
theorem Xv(hl:lQ l' i.l)(hy:wB ys' i.ys){d4 p4 d5 p5:Sl}(hd:fG d4 d5)(hp:aQ p4 p5)(h:i.recover d4 p4 o)(h':iM.recover {i with l:=l',es:=es',ys:=ys'} d5 p5 o'):Sim (i.l.len+1) o o':=by
 obtain⟨s,d,p,e,a1,a2,a3⟩:=h;obtain⟨s',d',p',e',b1,b2,b3⟩:=h';obtain⟨rfl,x⟩:=aoq hd hp a1 b1;by_cases c:e=0
 ·exact awd hl hy (x c).1 (x c).2 (a3 c) (b3 c)
 ·exact rG (a2 c) (b2 c)
theorem awe(hl:lQ l' i.l)(hy:wB ys' i.ys){d4 p4 d5 p5:Sl}(hd:fG d4 d5)(hp:aQ p4 p5)(h:i.due d4 p4 o)(h':iM.due {i with l:=l',es:=es',ys:=ys'} d5 p5 o'):Sim (i.l.len+1) o o':=by
 obtain⟨n,e,a1,a2,a3⟩:=h;obtain⟨n',e',b1,b2,b3⟩:=h';obtain⟨rfl,rfl⟩:=asX hd hp a1 b1;by_cases c:e=0
 ·obtain⟨a4,a5,a6⟩:=a3 c
  obtain⟨b4,b5,b6⟩:=b3 c;by_cases c1:n<=0
  ·exact Xv hl hy hd hp (a4 c1) (b4 c1)
  by_cases c2:1099511627776<n
  ·exact rG (a5 c2) (b5 c2)
  obtain⟨s,d,p,e3,x1,x2,x3⟩:=a6 (by omega) (by omega);obtain⟨s',d',p',e3',y1,y2,y3⟩:=b6 (by omega) (by omega);obtain⟨rfl,z⟩:=Vy (fK _) (ab5 hd hp x1) y1;by_cases c3:e3=0
  ·exact Xv hl hy z.2.1 z.2.2 (x3 c3) (y3 c3)
  ·exact rG (x2 c3) (y2 c3)
 ·exact rG (a2 c) (b2 c)
theorem awf(hl:lQ l' i.l)(hes:Nu es' i.es)(hy:wB ys' i.ys)(h:i.pay o)(h':iM.pay {i with l:=l',es:=es',ys:=ys'} o'):Sim (i.l.len+1) o o':=by
 have hll:=hl.1;have hus:iM.us {i with l:=l',es:=es',ys:=ys'}=i.us:=by
  show zA (aT es' i.month es'.n)=zA (aT i.es i.month i.es.n);have e:es'.n=i.es.n:=by have:=hes.1;unfold zG at this;omega
  rw[e,aor hes i.es.n (zE _)]
 have lm:iM.yw {i with l:=l',es:=es',ys:=ys'}=i.yw:=by
  show(if 0<l'.len then l'.int (l'.len-1) 0 else-1)=if 0<i.l.len then i.l.int (i.l.len-1) 0 else-1
  rw[hll];split
  ·exact(hl.2 (i.l.len-1) (by omega) (by omega)).1.1.1
  ·rfl
 have ln:iM.qR {i with l:=l',es:=es',ys:=ys'}=i.qR:=by
  show(if 0<l'.len then l'.int (l'.len-1) 4 else-1)=if 0<i.l.len then i.l.int (i.l.len-1) 4 else-1
  rw[hll];split
  ·exact(hl.2 (i.l.len-1) (by omega) (by omega)).1.2.1
  ·rfl
 have ha:iM.mD {i with l:=l',es:=es',ys:=ys'}↔i.mD:=by
  unfold iM.mD;rw[hus,lm,ln]
 have he:iM.qU {i with l:=l',es:=es',ys:=ys'}↔i.qU:=by
  unfold iM.qU;rw[hus]
 by_cases hV:eH i.st i.d i.p i.mo i.g i.t i.l
 ·obtain⟨c,a1,a2,a3⟩:=h.2 hV
  obtain⟨c',b1,b2,b3⟩:=h'.2 (JJ hl hV);have ec:c=c':=by
   obtain⟨p1,p2,p3,p4⟩:=a1;obtain⟨q1,q2,q3,q4⟩:=b1;rw[ha]at q1 q2 q3 q4;rw[he]at q3 q4;have q2:i.mD->1200<=l'.len->c'=5:=q2;have q3:i.mD->l'.len<1200->¬i.qU->c'=350:=q3;have q4:i.mD->l'.len<1200->i.qU->c'=0:=q4;rw[hll]at q2 q3 q4;by_cases x:i.mD
   ·rcases Int.lt_or_le i.l.len 1200 with y|y
    ·by_cases z:i.qU
     ·rw[p4 x y z,q4 x y z]
     ·rw[p3 x y z,q3 x y z]
    ·rw[p2 x y,q2 x y]
   ·rw[p1 x,q1 x]
  subst ec;by_cases c0:c=0
  ·obtain⟨a4,a5⟩:=a3 c0
   obtain⟨b4,b5⟩:=b3 c0;rw[hus]at b4 b5;by_cases c1:1200<i.us.len
   ·exact rG (a4 c1) (b4 c1)
   obtain⟨d1,p1,⟨x1,x2,x3,x4⟩,s2,d2,p2,e,x5,x6,x7⟩:=a5 (by omega);obtain⟨d1',p1',y0,s2',d2',p2',e',y5,y6,y7⟩:=b5 (by omega);obtain⟨y1,y2,y3,y4⟩:=y0;rw[hus]at y3;have hd:fG d1 d1':=⟨x2.trans y2.symm,fun k k0 k1=>by
    by_cases q:k<i.us.len
    ·rw[x3 k k0 q,y3 k k0 q]
    ·have q2:k<i.d.len:=by
      rw[x2]at k1;unfold imax at k1;split at k1<;>omega
     rw[x4 k (by omega) q2];exact(y4 k (by omega) q2).symm⟩
   have hp:aQ p1 p1':=rF x1 (mG y1);obtain⟨rfl,z⟩:=alj hd hp x5 y5;by_cases c2:e=0
   ·exact awe hl hy (z c2).1 (z c2).2 (x7 c2) (y7 c2)
   ·exact rG (x6 c2) (y6 c2)
  ·exact rG (a2 c0) (b2 c0)
 ·exact rG (h.1 hV) (h'.1 fun k=>hV (JJ (vC hl) k))
end
end Go.Sx.N
