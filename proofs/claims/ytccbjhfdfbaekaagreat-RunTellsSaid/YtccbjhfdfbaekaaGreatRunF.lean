/-
 Several texts in one. Conditions: none.
-/
import Derived.Test.YtccbjhfdfbaekaaGreatNumVA
import Derived.Test.YtccbjhfdfbaekaaGreatLedF
import Derived.Test.YtccbjhfdfbaekaaGreatTabSpec
import Derived.Test.YtccbjhfdfbaekaaGreatArrF
import Derived.Test.YtccbjhfdfbaekaaGreatNumFc
open Classical renaming not_not->zA,byContradiction->qD
open Go.Sx.Sl renaming lit->zB,nil->zC,len->zD,app->zF,int->zH,upd->zI,rep->zL,part->zP,sub->qE
open Bool renaming decide_eq_true->zE,false_eq_true->qI
open Int renaming le_refl->zG,sub_zero->qM,add_zero->qX,mul_le_mul_of_nonneg_right->q1,natCast_mul->q2,mul_nonneg->q6,lt_or_le->q7
open Rat renaming num_intCast->zR,le_refl->qG,den_intCast->qH,intCast_le_intCast->qJ,num_divInt_den->qK,le_of_lt->qN,num_nonneg->qS,floor_monotone->qT,floor_intCast->qV,le_trans->q5,mul_le_mul_of_nonneg_right->q9
open Nat renaming le_trans->qL,le_refl->qY,mul_le_mul->q3
set_option linter.unusedVariables false
set_option linter.unusedSimpArgs false
namespace Go.Sx.N.L
theorem LY(l:List D):(zL 0 l).len=0:=rfl
theorem wrap64{x:Int}(h:-9223372036854775808<=x)(h':x<=9223372036854775807):IntKind.wrap .i64 x=x:=by rw[IntKind.wrap_i64];omega
theorem TP:XU:=by
 intro st _ d p m hrm due _ _ hsd;have hd0:=len0 d;refine⟨trivial,fun b hb=>⟨fun hn=>⟨?_,trivial⟩,fun hn=> ?_⟩⟩
 ·have:¬aA st d p:=fun hv=>hn (by simpa using hb.2 hv)
  exact⟨fun _=>⟨rfl,rfl,rfl,rfl⟩,fun hv=>absurd hv.1 this⟩
 have hv:aA st d p:=hb.1 (by simpa using hn);have hbs:=hv.1;have hp:p.len<=4000:=hv.2.2.1;have bad:¬(0<=due/\due<=1099511627776/\st<=m/\m<=st+d.len)->dU st d p m due 0 zC zC 2/\True:=fun h=>⟨⟨fun _=>⟨rfl,rfl,rfl,rfl⟩,fun hv=>absurd hv.2 h⟩,trivial⟩
 refine⟨fun h=>bad (by omega),fun h1=>⟨fun h=>bad (by omega),fun h2=>⟨fun h=>bad (by omega),fun h3=> ?_⟩⟩⟩
 rw[au]at hrm;have w1:IntKind.wrap .i64 (st+d.len)=st+d.len:=wrap64 (by omega) (by omega);have w2:IntKind.wrap .i64 (d.len+1)=d.len+1:=wrap64 (by omega) (by omega);have w3:IntKind.wrap .i64 (m-st)=m-st:=wrap64 (by omega) (by omega);simp only[w1,w2,w3];refine⟨fun h=>bad (by omega),fun h4=> ?_⟩
 have hok:uM st d p m due:=⟨hv,by omega,by omega,by omega,by omega⟩;have many:jw st d m->dU st d p m due 0 zC zC 5/\True:=fun h=>⟨⟨fun hn=>absurd hok hn,fun _=>⟨fun _=>⟨rfl,rfl,rfl,rfl⟩,fun hn=>absurd h hn⟩⟩,trivial⟩
 have good:¬jw st d m->∀d' p':Sl,learnt st d p m due st d' p'->dU st d p m due st d' p' 0:=fun h d' p' hl=>⟨fun hn=>absurd hok hn,fun _=>⟨fun hm=>absurd hm h,fun _=>⟨rfl,hl⟩⟩⟩
 have hlenA:(zF (zL 0 [.int 0]) d).len=d.len:=by rw[dG,LY];omega
 have hintA:∀i:Int,0<=i->(zF (zL 0 [.int 0]) d).int i 0=d.int i 0:=fun i h=>by
  rw[aG (by rw[LY];exact h),LY,qM]
 have ak2:(zF (zF (zL 0 [.int 0]) d) (zB [[.int due]])).len=d.len+1:=by rw[dG,hlenA,jO];rfl
 have hintB:∀i:Int,0<=i->i<d.len->(zF (zF (zL 0 [.int 0]) d) (zB [[.int due]])).int i 0=d.int i 0:=fun i h g=>by
  rw[aS h (by rw[hlenA];exact g),hintA i h]
 have tail:∀d':Sl,d'.len=imax d.len (m-st+1)->(∀i:Int,0<=i->i<d'.len->d'.int i 0=if i=m-st then due else d.int i 0)->¬jw st d m->
   ∀b6:Bool,((b6=true->p.len<=0->dU st d p m due st d' zC 0/\True)/\(¬(b6=true)->((zD (zB [])+p.len)*32<=140737488355328)/\dU st d p m due st d' (zF (zB []) p) 0/\True)):=fun d' g1 g2 g3 b6=>
  ⟨fun _ hz=>⟨good g3 d' _ ⟨rfl,ahB hz,g1,g2⟩,trivial⟩,fun _=>⟨by rw[jO];simp;omega,good g3 d' _ ⟨rfl,abU p,g1,g2⟩,trivial⟩⟩
 have azv:m=st+d.len->¬jw st d m->_:=fun e=>tail (zI (zF (zF (zL 0 [.int 0]) d) (zB [[.int due]])) (m-st) 0 [.int due])
  (by rw[dO,ak2];unfold imax;split<;>omega) (fun i g0 g1=>by
   rw[dO,ak2]at g1;rw[dY (by omega) g0];by_cases ei:i=m-st
   ·rw[if_pos ei,if_pos ei]
   ·rw[if_neg ei,if_neg ei,hintB i g0 (by omega)])
 have tailA:¬m=st+d.len->¬jw st d m->_:=fun e=>tail (zI (zF (zL 0 [.int 0]) d) (m-st) 0 [.int due])
  (by rw[dO,hlenA];unfold imax;split<;>omega) (fun i g0 g1=>by
   rw[dY (by omega) g0,hintA i g0])
 refine⟨fun e _=>⟨fun g=>many ⟨e, .inl g⟩,fun g1=>⟨fun g=>many ⟨e, .inr g⟩,fun g2 _=> ?_⟩⟩,fun e _=> ?_⟩
 ·have hnm:¬jw st d m:=fun hm=>by rcases hm.2 with h|h<;>omega
  refine⟨zG _,by omega,by omega,by rw[LY];omega,fun e=>⟨by rw[hlenA,jO];simp;omega,by omega,by rw[ak2];omega,azv e hnm⟩,fun e'=>absurd e e'⟩
 ·have hnm:¬jw st d m:=fun hm=>e hm.1
  refine⟨zG _,by omega,by omega,by rw[LY];omega,fun e'=>absurd e' e,fun e=>⟨by omega,by rw[hlenA];omega,tailA e hnm⟩⟩
theorem avH{st n n':Int}{p q:Sl}{d0 i:Int}(hn:n<=n')(h:xU p i q i)(azw:i≠0->p.int (i-1) 0=q.int (i-1) 0)(hq:qW st n q d0 i):qW st n' p d0 i:=by
 obtain⟨h1,h2⟩:=hq;obtain⟨e0,e1,e2,e3⟩:=h;unfold qW JA VT prev at*;rw[e0,e1,e2,e3];obtain⟨g1,g2⟩:=h1;refine⟨⟨by omega,g2⟩, ?_⟩
 by_cases e:i=0
 ·rw[if_pos e]at*;exact h2
 ·rw[if_neg e]at*;rw[azw e];exact h2
theorem follow_eq{st n n':Int}{p q:Sl}{d0:Int}(hn:n<=n')(hl:p.len<=q.len)(h:∀i:Int,0<=i->i<p.len->xU p i q i)(hq:rE st n q d0):rE st n' p d0:=fun i h0 h1=>
 avH hn (h i h0 h1) (fun e=>(h (i-1) (by omega) (by omega)).1) (hq i h0 (by omega))
theorem Vh{st:Int}{d p:Sl}{m due st':Int}{d' p':Sl}(hok:uM st d p m due)(hm:¬jw st d m)(hl:learnt st d p m due st' d' p'):aA st' d' p':=by
 obtain⟨hv,h1,h2,h3,h4⟩:=hok;obtain⟨rfl,hp,hlen,hd⟩:=hl;have hb:=hv.1;have hmax:d'.len=d.len\/(d'.len=d.len+1/\m=st'+d.len):=by
  rw[hlen];unfold imax;split
  ·exact .inr (by omega)
  ·exact .inl rfl
 have aBJ:m=st'+d.len->d.len<1200/\m<2400:=fun e=>by
  unfold jw at hm;omega
 refine⟨by omega,fun i g0 g1=> ?_,by rw[hp.1];exact hv.2.2.1,follow_eq (by omega) (Int.le_of_eq hp.1) hp.2 hv.2.2.2⟩
 rw[hd i g0 g1];split
 ·exact⟨h1,h2⟩
 ·exact hv.2.1 i g0 (by omega)
end Go.Sx.N.L
namespace Go.Sx.N
theorem TP:XU:=L.TP
theorem aiB{x y:Rat}{r:Int}(h:Gm x y r):r<=0↔x<=y:=by
 rcases h with⟨rfl,h⟩|⟨rfl,h⟩|⟨rfl,h⟩
 ·exact⟨fun _=>qN h,fun _=>by decide⟩
 ·exact⟨fun _=>by rw[h];exact qG,fun _=>by decide⟩
 ·exact⟨fun k=>absurd k (by decide),fun k=>absurd h (Rat.not_lt.2 k)⟩
theorem VY{a c:Bool}{b d:Sl}(h:okF a b c d)(rb:bC 65536 b):0<=fq a b d↔¬a=true:=by
 rw[<-qS,<-h.iO.2.1];have hv0:0<=vl b:=(rb.bound (B:=65536) (by decide)).1;have hz:=bK (B:=65536) (by decide) rb h.nw.1.1;have hz:vl b=0↔b.len=0:=hz;unfold zv;constructor
 ·intro hn ha
  rw[if_pos ha]at hn;have:b.len≠0:=fun h0=>by have:=h.nw.1.2 h0;rw[this]at ha;exact absurd ha (by decide)
  have:vl b≠0:=fun h0=>this (hz.1 h0)
  omega
 ·intro ha
  rw[if_neg ha];exact hv0
theorem Pn{n:Int}{a c:Bool}{b d:Sl}(h:aK ((n:Int):Rat) a b c d)(h1:b.len<=4)(h2:d.len<=4):okF a b c d:=⟨h.pO,by omega,by omega⟩
theorem aj6:acE:=by
 intro a b rb c d rd _;simp only[zE];have no:¬jK a b c d->yK a b c d (decide False)/\True:=fun h=>⟨by simp[yK,h],trivial⟩
 refine⟨trivial,fun v hv=>⟨fun h=>⟨fun hn=>⟨trivial,fun x y ry z u ru h1=>⟨trivial,fun r _ hr=>⟨?_,trivial⟩⟩⟩,fun hn=>no fun k=> ?_⟩,fun h=>no fun k=>h (hv.2 k.1)⟩⟩
 ·have o:=hv.1 h
  have s:=hr.1 ⟨o,Pn h1.1 h1.2.1 h1.2.2⟩;rw[h1.1.fq]at s;show decide (r<=0)=true↔jK a b c d;rw[decide_eq_true_eq,aiB s];exact⟨fun k=>⟨o,(VY o (aj rb)).2 hn,k⟩,fun k=>k.2.2⟩
 ·exact hn ((VY k.1 (aj rb)).1 k.2.1)
theorem LX{q:Rat}{x:Int}(h0:0<=q)(h1:q<=1)(x0:0<=x)(x1:x<=1099511627776):0<=(q*(x:Rat)).floor/\(q*(x:Rat)).floor<=x:=by
 have hx:(0:Rat)<=(x:Rat):=qJ.2 x0;constructor
 ·refine Rat.le_floor_iff.2 ?_
  exact Rat.mul_nonneg h0 hx
 ·have:=q9 h1 hx
  rw[Rat.one_mul]at this;have k:=qT this;rw[qV]at k;exact k
theorem VX{x:Int}(h0:-9223372036854775808<=x)(h1:x<=9223372036854775807):bM (x:Rat):=by
 unfold bM;rw[zR,qH,DU];have:(9223372036854775808:Int)<65536^256:=by decide
 exact⟨by omega,by decide⟩
theorem apZ:ah2:=by
 intro st rst d rd p _ m rm a b rb c f rf hp;simp only[zE]at hp⊢;obtain⟨hv,hs⟩:=hp;have d0:=len0 d;obtain⟨s0,s1,s2,s3⟩:=hv.1;refine⟨fun h=>⟨⟨fun _=>⟨rfl,rfl⟩,fun k=>absurd k.1 (by omega)⟩,trivial⟩,fun h1 _=>⟨by rw[au];omega,fun h=>⟨⟨fun _=>⟨rfl,rfl⟩,fun k=>absurd k.2 (by omega)⟩,trivial⟩,fun h2=> ?_⟩⟩
 have hm:og st d m:=⟨by omega,by omega⟩;obtain⟨D,hD⟩:∃D,D=d.int (m-st) 0:=⟨_,rfl⟩;have Db:=hv.2.1 (m-st) (by omega) (by omega);rw[<-hD]at Db⊢;have lim:∀r e,arU (fq a b f) D r e->DL st d p m a b c f r e:=fun r e h=>⟨fun k=>absurd hm k,fun _=>by rw[<-hD];exact h⟩
 refine⟨by rw[au];omega,by omega,by omega,fun _=>⟨trivial,fun ia ib rib ic WT rid hi=>⟨trivial,fun xa xb rxb xc xd rxd e _ hx=> ?_⟩⟩⟩
 have hx:=hx.1 ⟨hs.1,Pn hi.1 hi.2.1 hi.2.2⟩;rw[hi.1.fq]at hx;by_cases fit:bM (fq a b f*(D:Rat))
 ·obtain⟨qx,rfl⟩:=hx.1 fit
  have ox:=qx.ok (aj rxb) (aj rxd) fit;have fb:=LX hs.2.1 hs.2.2 Db.1 Db.2;refine⟨fun k=>absurd rfl k,fun _=>⟨trivial,fun ua ub rub uc ud rud hu=>⟨⟨hu.1,by have:=hu.2.1;omega,by have:=hu.2.2;omega, .inl rfl⟩,fun ya yb ryb yc yd ryd e2 _ hy=> ?_⟩⟩⟩
  have hy:=hy.1 ox;rw[qx.fq]at hy;have rq:aO (fq a b f*(D:Rat)) 3=(fq a b f*(D:Rat)).floor:=by unfold aO;rw[if_pos rfl]
  rw[rq]at hy;have ayM:=VX (x:=(fq a b f*(D:Rat)).floor) (by omega) (by omega);obtain⟨qy,rfl⟩:=hy.1 ayM;have oy:=qy.ok (aj ryb) (aj ryd) ayM;refine⟨fun k=>absurd rfl k,fun _=>⟨trivial,fun r _ e3 _ hr=>⟨?_,trivial⟩⟩⟩
  have hr:=(hr.2 oy).2 (by rw[qy.fq];exact qH _);have hr:=hr.1 (by rw[qy.fq,zR];unfold tN;omega);rw[qy.fq,zR]at hr;exact lim _ _ ⟨fun _=>hr,fun k=>absurd fit k⟩
 ·obtain⟨zx,rfl⟩:=hx.2 fit
  exact⟨fun _=>⟨lim _ _ ⟨fun k=>absurd k fit,fun _=>⟨rfl,rfl⟩⟩,trivial⟩,fun k=>absurd (by decide) k⟩
theorem ap0:ah3:=by
 intro st rst d rd p _ m rm a b rb c f rf _;simp only[zE];have no:¬(aA st d p/\jK a b c f)->JM st d p m a b c f 0 2/\True:=fun h=>⟨⟨fun _=>⟨rfl,rfl⟩,fun k=>absurd k h⟩,trivial⟩
 refine⟨trivial,fun v hv=>⟨fun h=>no fun k=>h (hv.2 k.1),fun h=>⟨trivial,fun w hw=>⟨fun g=>no fun k=>g (hw.2 k.2),fun g=> ?_⟩⟩⟩⟩
 have k1:=hv.1 (zA.1 h);have k2:=hw.1 (zA.1 g);exact⟨⟨k1,k2⟩,fun r _ e _ hr=>⟨⟨fun k=>absurd ⟨k1,k2⟩ k,fun _=>hr⟩,trivial⟩⟩
section
variable{st:Int}{d p:Sl}
theorem sumTo_le{f:Int->Int}{B:Int}:∀{n:Nat},(∀i:Int,0<=i->i<n->0<=f i/\f i<=B)->0<=sumTo f n/\sumTo f n<=B*n
 |0,_=>by simp[sumTo]
 |n+1,h=>by
  have h1:=sumTo_le (f:=f) (n:=n) (fun i h0 h1=>h i h0 (by omega))
  have h2:=h n (by omega) (by omega);simp only[sumTo];have:B*((n+1:Nat):Int)=B*n+B:=by rw[Int.natCast_add,Int.mul_add];simp
  omega
theorem aah{f:Int->Int}{k:Nat}:∀{n:Nat},k<=n->(∀i:Int,(k:Int)<=i->i<n->f i=0)->sumTo f n=sumTo f k
  | 0, h, _ => by have:k=0:=by omega
                  rw[this]
  | n +1,h,hz=>by
    by_cases e:k=n+1
    · rw[e]
    · simp only[sumTo]
      rw[aah (n:=n) (by omega) (fun i h0 h1=>hz i h0 (by omega)),hz n (by omega) (by omega),qX]
theorem ak3(hv:aA st d p){k:Int}(h0:0<=k)(h1:k<d.len):-4400000000000000<=ov st d p k/\ov st d p k<=4398046511104000:=by
 have a:=Vj hv (st+k);have b:=hv.2.1 k h0 h1;unfold ov;omega
theorem Po(hv:aA st d p){k:Int}(h0:0<=k)(h1:k<d.len):0<=mW (ov st d p k)/\mW (ov st d p k)<=4398046511104000:=by
 have a:=ak3 hv h0 h1;unfold mW;split<;>omega
theorem ayN(hv:aA st d p)(m:Int){n:Nat}(hn:(n:Int)<=d.len):0<=sumTo (fun k=>if st+k<m then mW (ov st d p k)else 0) n/\sumTo (fun k=>if st+k<m then mW (ov st d p k)else 0) n<=5277655813324800000:=by
 have:=sumTo_le (f:=fun k=>if st+k<m then mW (ov st d p k)else 0) (B:=4398046511104000) (n:=n) (fun i h0 h1=>by
  have a:=Po hv h0 (show i<d.len by omega);show 0<=(if st+i<m then mW (ov st d p i)else 0)/\(if st+i<m then mW (ov st d p i)else 0)<=4398046511104000
  split<;>omega)
 have:=hv.1.2.2.1;omega
def OA(d:Sl)(i:Int)(s:Sl):Prop:=(0<=i/\i<=d.len)/\s.len=d.len/\∀k:Int,0<=k->k<i->s.int k 0=-d.int k 0
def OB(st:Int)(d p:Sl)(j:Int)(s:Sl):Prop:=(0<=j/\j<=p.len)/\s.len=d.len/\∀k:Int,0<=k->k<d.len->s.int k 0=sumTo (fun i=>if p.int i 1=st+k then lq p i else 0) j.toNat-d.int k 0
def OC(st:Int)(d p s:Sl):Prop:=s.len=d.len/\∀k:Int,0<=k->k<d.len->s.int k 0=ov st d p k
theorem OA.init:OA d 0 (zL d.len [.int 0]):=by
 have d0:=len0 d;refine⟨⟨zG _,d0⟩, ?_,fun k h0 h1=>by omega⟩
 show((d.len.toNat:Nat):Int)=d.len;omega
theorem OA.step{i:Int}{s:Sl}(hv:aA st d p)(h:OA d i s)(hi:i<d.len):
  0<=i/\i<d.len/\(iA (d.int i 0)->iA (0-d.int i 0)/\0<=i/\i<s.len/\iA (i+1)/\(OA d (i+1) (zI s i 0 [.int (0-d.int i 0)])/\(d.len-(i+1)).toNat<(d.len-i).toNat)):=by
 obtain⟨⟨i0,i1⟩,hl,hk⟩:=h;have b:=hv.2.1 i i0 hi;have:=hv.1.2.2.1;refine⟨i0,hi,fun _=>⟨by rw[au];omega,i0,by omega,by rw[au];omega,⟨⟨by omega,by omega⟩,hl,fun k k0 k1=> ?_⟩,by omega⟩⟩
 rw[dY i0 k0];by_cases e:k=i
 ·rw[if_pos e,e];omega
 ·rw[if_neg e];exact hk k k0 (by omega)
theorem OA.fin{i:Int}{s:Sl}(h:OA d i s)(hi:¬i<d.len):OB st d p 0 s:=by
 obtain⟨⟨i0,i1⟩,hl,hk⟩:=h;refine⟨⟨zG _,len0 p⟩,hl,fun k k0 k1=> ?_⟩
 rw[hk k k0 (by omega)];show _=0-d.int k 0;omega
theorem OB.bd{j:Int}{s:Sl}(hv:aA st d p)(h:OB st d p j s){k:Int}(k0:0<=k)(k1:k<d.len):-4400000000000000<=s.int k 0/\s.int k 0<=4398046511104000:=by
 obtain⟨⟨j0,j1⟩,hl,hk⟩:=h;have:=L.BN (f:=fun i=>if p.int i 1=st+k then lq p i else 0) (n:=j.toNat) (fun i h0 h1=>by
  have:=L.Fq (hv.2.2.2 i h0 (by omega));show-1099511627776<=(if p.int i 1=st+k then lq p i else 0)/\(if p.int i 1=st+k then lq p i else 0)<=1099511627776
  split<;>omega)
 have b:=hv.2.1 k k0 k1;have:=hv.2.2.1;rw[hk k k0 k1];omega
theorem OB.step{j:Int}{s:Sl}(hv:aA st d p)(h:OB st d p j s)(hj:j<p.len):
    0 <=j/\j<p.len/\(iA (p.int j 0)->iA (p.int j 1)->Rng .u8 (p.int j 2)->iA (p.int j 3)->
      ((p.int j 2≠3->iA (p.int j 1-st)/\0<=p.int j 1-st/\p.int j 1-st<s.len/\(iA (s.int (p.int j 1-st) 0)->iA (s.int (p.int j 1-st) 0+p.int j 3)/\0<=p.int j 1-st/\p.int j 1-st<s.len/\iA (j+1)/\
          (OB st d p (j+1) (zI s (p.int j 1-st) 0 [.int (s.int (p.int j 1-st) 0+p.int j 3)])/\(p.len-(j+1)).toNat<(p.len-j).toNat)))/\
       (¬p.int j 2≠3->iA (j+1)/\(OB st d p (j+1) s/\(p.len-(j+1)).toNat<(p.len-j).toNat)))):=by
  have h':=h;obtain⟨⟨j0,j1⟩,hl,hk⟩:=h;have f:=hv.2.2.2 j j0 hj;have am:=L.Vk f;obtain⟨⟨_,_,f1,f2⟩,_⟩:=f.1;have:=hv.2.2.1;have hb:=hv.1;refine⟨j0,hj,fun _ _ _ _=>⟨fun h3=>⟨by rw[au];omega,by omega,by omega,fun _=> ?_⟩,fun h3=>⟨by rw[au];omega,⟨⟨by omega,by omega⟩,hl,fun k k0 k1=> ?_⟩,by omega⟩⟩⟩
  · have b:=h'.bd hv (k:=p.int j 1-st) (by omega) (by omega)
    refine⟨by rw[au];omega,by omega,by omega,by rw[au];omega,⟨⟨by omega,by omega⟩,hl,fun k k0 k1=> ?_⟩,by omega⟩
    rw[dY (by omega) k0,L.Ad _ j0];by_cases e:k=p.int j 1-st
    · rw[if_pos e,<-e,hk k k0 k1,if_pos (by omega)]
      unfold lq;rw[if_neg h3];omega
    · rw[if_neg e,hk k k0 k1,if_neg (by omega)];omega
  · rw[hk k k0 k1,L.Ad _ j0]
    unfold lq;have h3:=zA.1 h3;rw[if_pos h3];split<;>omega
theorem OB.fin{j:Int}{s:Sl}(h:OB st d p j s)(hj:¬j<p.len):OC st d p s:=by
 obtain⟨⟨j0,j1⟩,hl,hk⟩:=h;refine⟨hl,fun k k0 k1=> ?_⟩
 rw[hk k k0 k1];have:j.toNat=p.n:=by unfold zD at*;omega
 rw[this];rfl
end
theorem aaH:Sz:=by
 intro st _ d p m _ hv hsm;have hv:aA st d p:=hv;have d0:=len0 d;have p0:=len0 p;have hd:=hv.1.2.2.1;have hb:=hv.1;refine⟨d0,zG _,by omega,fun _=>⟨OA d,fun i _=>(d.len-i).toNat,OA.init,fun i _ s hA=>⟨fun hi=>hA.step hv hi,fun hi _=>⟨OB st d p,fun j _=>(p.len-j).toNat,hA.fin hi,fun j _ s hB=>⟨fun hj=>hB.step hv hj,fun hj _=> ?_⟩⟩⟩⟩⟩
 obtain⟨hl,hk⟩:=hB.fin hj;refine⟨fun k x=>(0<=k/\k<=d.len)/\x=sumTo (fun k=>if st+k<m then mW (ov st d p k)else 0) k.toNat,fun k _=>(d.len-k).toNat,⟨⟨zG _,d0⟩,rfl⟩,fun k _ x _ hJ=> ?_⟩
 obtain⟨⟨k0,k1⟩,hx⟩:=hJ;rw[hl];refine⟨fun hlt=>⟨k0,hlt,fun _=>⟨by rw[au];omega,fun hge=>⟨?_,trivial⟩,fun hge=> ?_⟩⟩,fun hge=>⟨?_,trivial⟩⟩
 ·show x=aks st d p m
  rw[hx];refine(aah (by unfold zD at hlt;omega) fun i h0 h1=> ?_).symm
  rw[if_neg (by omega)]
 ·have e:=L.Ad (fun k=>if st+k<m then mW (ov st d p k)else 0) k0
  have b:=ayN hv m (n:=(k+1).toNat) (by omega);rw[e,<-hx]at b;have hm:st+k<m:=by omega
  rw[if_pos hm]at b e;rw[hk k k0 hlt];refine⟨fun hp=> ?_,fun hp=> ?_⟩
  ·have:mW (ov st d p k)=ov st d p k:=by unfold mW;rw[if_pos hp]
   rw[this]at b e;exact⟨by rw[au];omega,by rw[au];omega,by rw[au];omega,⟨⟨by omega,by omega⟩,by rw[e,hx]⟩,by show(d.len-(k+1)).toNat<(d.len-k).toNat;omega⟩
  ·have:mW (ov st d p k)=0:=by unfold mW;rw[if_neg hp]
   rw[this,qX]at e;exact⟨by rw[au];omega,⟨⟨by omega,by omega⟩,by rw[e,hx]⟩,by show(d.len-(k+1)).toNat<(d.len-k).toNat;omega⟩
 ·show x=aks st d p m
  rw[hx];have:k.toNat=d.n:=by unfold zD at*;omega
  rw[this];rfl
theorem aaI:SA:=by
 intro st _ d _ p _ m _ _;simp only[zE];refine⟨trivial,fun v hv=>⟨fun h=>⟨⟨fun _=>⟨rfl,rfl⟩,fun k=>absurd (hv.2 k) h⟩,trivial⟩,fun h=> ?_⟩⟩
 have k1:=hv.1 (zA.1 h);exact⟨k1,fun x _ hx=>⟨⟨fun k=>absurd k1 k,fun _=>⟨hx,rfl⟩⟩,trivial⟩⟩
section
variable{st:Int}{d p:Sl}
theorem Vl{m:Int}{a c:Bool}{b f:Sl}{r e r' e':Int}(h:Dj st d p m a b c f r e)(g:Dj st d p m a b c f r' e'):r=r'/\e=e':=by
 by_cases hv:aA st d p/\jK a b c f
 ·have h1:=h.2 hv
  have g1:=g.2 hv;by_cases hm:og st d m
  ·have h2:=h1.2 hm
   have g2:=g1.2 hm;by_cases hf:bM (fq a b f*((d.int (m-st) 0:Int):Rat))
   ·have h3:=h2.1 hf;have g3:=g2.1 hf;exact⟨by omega,by omega⟩
   ·have h3:=h2.2 hf;have g3:=g2.2 hf;exact⟨by omega,by omega⟩
  ·have h2:=h1.1 hm;have g2:=g1.1 hm;exact⟨by omega,by omega⟩
 ·have h2:=h.1 hv;have g2:=g.1 hv;exact⟨by omega,by omega⟩
theorem abV{m:Int}{a c:Bool}{b f:Sl}{r:Int}(h:Dj st d p m a b c f r 0):aA st d p/\jK a b c f/\og st d m/\bM (fq a b f*((d.int (m-st) 0:Int):Rat))/\r=(fq a b f*((d.int (m-st) 0:Int):Rat)).floor/\0<=r/\r<=1099511627776:=by
 by_cases hv:aA st d p/\jK a b c f
 ·have h1:=h.2 hv
  by_cases hm:og st d m
  ·have h2:=h1.2 hm
   by_cases hf:bM (fq a b f*((d.int (m-st) 0:Int):Rat))
   ·have h3:=(h2.1 hf).1
    have b:=hv.1.2.1 (m-st) (by have:=hm.1;omega) (by have:=hm.2;omega);have fb:=LX hv.2.2.1 hv.2.2.2 b.1 b.2;exact⟨hv.1,hv.2,hm,hf,h3,by omega,by omega⟩
   ·have:=(h2.2 hf).2;omega
  ·have:=(h1.1 hm).2;omega
 ·have:=(h.1 hv).2;omega
theorem ayO(hv:aA st d p){m l:Int}{k:Int}(k0:0<=k)(k1:k<d.len)(hl:0<=l):0<=mX st d p m l k/\mX st d p m l k<=l:=by
 have b:=Po hv k0 k1;unfold mX imin;split
 ·split<;>omega
 ·omega
theorem abW(hv:aA st d p){m lim:Int}(hl:0<=lim):∀{n:Nat},(n:Int)<=d.len->0<=gK st d p m lim n/\gK st d p m lim n<=lim
 |0,_=>⟨hl,zG _⟩
 |n+1,hn=>by
  have ih:=abW hv (m:=m) hl (n:=n) (by omega);have u:=ayO hv (m:=m) (l:=gK st d p m lim n) (k:=n) (by omega) (by omega) ih.1;simp only[gK];omega
theorem RG{day m lim:Int}:∀n:Nat,(iy st d p day m lim n).length<=n
 |0=>qY _
 |n+1=>by
  have ih:=RG (day:=day) (m:=m) (lim:=lim) n;simp only[iy];split
  ·simp;omega
  ·omega
theorem Vm {day m lim:Int}{k:Nat}:∀{n:Nat},k<=n->(∀i:Nat,k<=i->i<n->gK st d p m lim i=gK st d p m lim k->mg st d p m lim i=0)->iy st d p day m lim n=iy st d p day m lim k/\gK st d p m lim n=gK st d p m lim k
  | 0, h, _ => by have:k=0:=by omega
                  subst this;exact⟨rfl,rfl⟩
  | n +1,h,hz=>by
    by_cases e:k=n+1
    · subst e;exact⟨rfl,rfl⟩
    · obtain⟨r,l⟩:=Vm (day:=day) (n:=n) (by omega) (fun i h0 h1=>hz i h0 (by omega))
      have u:=hz n (by omega) (by omega) l;simp only[iy,gK];rw[if_neg (by omega),r];have u':mX st d p m (gK st d p m lim n) n=0:=u;exact⟨rfl,by rw[u',qM,l]⟩
theorem ak4{day m lim:Int}{k:Nat}(hk:k<=d.n)(hm:m<=st+k):iy st d p day m lim d.n=iy st d p day m lim k:=
 (Vm hk fun i h0 _ _=>by unfold mg mX;rw[if_neg (by omega)]).1
theorem ak5(hv:aA st d p){day m lim:Int}{k:Nat}(hk:k<=d.n)(hl:gK st d p m lim k=0):iy st d p day m lim d.n=iy st d p day m lim k:=
 (Vm hk fun i h0 h1 hi=>by
  unfold mg mX;rw[hi,hl];have b:=Po hv (k:=i) (by omega) (by unfold zD;omega);unfold imin;split
  ·split<;>omega
  ·rfl).1
theorem acX{day m lim:Int}{k:Int}(k0:0<=k)(h:mg st d p m lim k.toNat=0):iy st d p day m lim (k+1).toNat=iy st d p day m lim k.toNat/\gK st d p m lim (k+1).toNat=gK st d p m lim k.toNat:=by
 have e:(k+1).toNat=k.toNat+1:=by omega
 rw[e];simp only[iy,gK];rw[if_neg (by omega)];have h':mX st d p m (gK st d p m lim k.toNat) k.toNat=0:=h;exact⟨rfl,by rw[h',qM]⟩
theorem acY{day m lim:Int}{k u:Int}(k0:0<=k)(h:mg st d p m lim k.toNat=u)(hu:0<u):zB (iy st d p day m lim (k+1).toNat)=zF (zB (iy st d p day m lim k.toNat)) (zB [[.int day, .int (st+k), .int 4, .int (0-u)]])/\gK st d p m lim (k+1).toNat=gK st d p m lim k.toNat-u:=by
 have e:(k+1).toNat=k.toNat+1:=by omega
 rw[e];simp only[iy,gK];have h':mX st d p m (gK st d p m lim k.toNat) k.toNat=u:=h;rw[h,if_pos hu,jL,h'];have e2:((k.toNat:Nat):Int)=k:=by omega
 rw[e2,Int.zero_sub];exact⟨rfl,rfl⟩
end
theorem af8{st:Int}{d p:Sl}{day m:Int}{a c:Bool}{b f:Sl}{r e:Int}(h:Dj st d p m a b c f r e)(he:e≠0):Aa st d p day m a b c f zC e:=fun r' e' h'=>by
 obtain⟨rfl,rfl⟩:=Vl h h';exact⟨fun _=>⟨rfl,rfl⟩,fun k=>absurd k he⟩
theorem RH{st:Int}{d p:Sl}{day m:Int}{a c:Bool}{b f:Sl}{r:Int}(h:Dj st d p m a b c f r 0)(hd:¬(0<=day/\day<65536)):Aa st d p day m a b c f zC 2:=fun r' e' h'=>by
 obtain⟨rfl,rfl⟩:=Vl h h';exact⟨fun k=>absurd rfl k,fun _=>⟨fun _=>⟨rfl,rfl⟩,fun k=>absurd k hd⟩⟩
theorem aiC{st:Int}{d p:Sl}{day m:Int}{a c:Bool}{b f:Sl}{r:Int}(h:Dj st d p m a b c f r 0)(hd:0<=day/\day<65536){s:Sl}(hs:s=zB (iy st d p day m r d.n)):Aa st d p day m a b c f s 0:=fun r' e' h'=>by
 obtain⟨rfl,rfl⟩:=Vl h h';exact⟨fun k=>absurd rfl k,fun _=>⟨fun k=>absurd hd k,fun _=>⟨by rw[hs];exact fK _,rfl⟩⟩⟩
theorem auH:anI:=by
 intro st _ d _ p _ day _ m _ a b rb c f rf _;simp only[zE];refine⟨trivial,fun lim _ e _ hl=>⟨fun he=>⟨af8 hl he,trivial⟩,fun he=> ?_⟩⟩
 have he:e=0:=zA.1 he;subst he;have hl:Dj st d p m a b c f lim 0:=hl;obtain⟨hv,hs,hm,hf,hr,l0,l1⟩:=abV hl;refine⟨fun h=>⟨RH hl (by omega),trivial⟩,fun h1=>⟨fun h=>⟨RH hl (by omega),trivial⟩,fun h2 _=> ?_⟩⟩
 have xX:0<=day/\day<65536:=⟨by omega,by omega⟩;have d0:=len0 d;have p0:=len0 p;have hd:=hv.1.2.2.1;have hb:=hv.1;refine⟨d0,zG _,by omega,fun _=>⟨OA d,fun i _=>(d.len-i).toNat,OA.init,fun i _ s _ hA=>⟨fun hi=>hA.step hv hi,fun hi _=>⟨OB st d p,fun j _=>(p.len-j).toNat,hA.fin hi,fun j _ s _ hB=>⟨fun hj=>hB.step hv hj,fun hj _=> ?_⟩⟩⟩⟩⟩
 obtain⟨hl',hk⟩:=hB.fin hj;refine⟨fun k x s=>(0<=k/\k<=d.len)/\x=gK st d p m lim k.toNat/\s=zB (iy st d p day m lim k.toNat),fun k _ _=>(d.len-k).toNat,⟨⟨zG _,d0⟩,rfl,Eb⟩,fun k _ x _ t _ hJ=> ?_⟩
 obtain⟨⟨k0,k1⟩,hx,ht⟩:=hJ;have lb:=abW hv (m:=m) l0 (n:=k.toNat) (by omega);rw[<-hx]at lb;rw[hl'];have fin:∀n:Nat,n=d.n->iy st d p day m lim d.n=iy st d p day m lim k.toNat->Aa st d p day m a b c f t 0:=fun n _ e=>aiC hl xX (by rw[ht,e])
 refine⟨fun hlt=>⟨k0,hlt,fun _=>⟨by rw[au];omega,fun hge=>⟨fin _ rfl (ak4 (by unfold zD at hlt;omega) (by omega)),trivial⟩,fun hge=> ?_⟩⟩,fun hge=>⟨fin _ rfl ?_,trivial⟩⟩
 ·have ob:=ak3 hv k0 hlt
  have pb:=Po hv k0 hlt;have hu:mg st d p m lim k.toNat=imin (mW (ov st d p k)) x:=by
   unfold mg mX;have e2:((k.toNat:Nat):Int)=k:=by omega
   rw[e2,if_pos (by omega),<-hx]
  rw[hk k k0 hlt];refine⟨fun hp=>⟨by rw[au];omega,fun hz=>⟨fin _ rfl (ak5 hv (by unfold zD at hlt;omega) (by omega)),trivial⟩,fun hz=> ?_⟩,fun hp=> ?_⟩
  ·have hpo:mW (ov st d p k)=ov st d p k:=by unfold mW;rw[if_pos hp]
   rw[hpo]at hu;obtain⟨u,hU⟩:∃u,u=imin (ov st d p k) x:=⟨_,rfl⟩;have ub:0<u/\u<=x:=by rw[hU];unfold imin;split<;>omega
   rw[<-hU]at hu⊢;obtain⟨t1,t2⟩:=acY (day:=day) k0 hu ub.1;have rl:=RG (st:=st) (d:=d) (p:=p) (day:=day) (m:=m) (lim:=lim) k.toNat;have tl:t.len<=k:=by rw[ht,jO];omega
   have o1:(zB [[D.int day, .int (st+k), .int 4, .int (0-u)]]).len=1:=rfl;have nx:((0<=k+1/\k+1<=d.len)/\x-u=gK st d p m lim (k+1).toNat/\zF t (zB [[D.int day, .int (st+k), .int 4, .int (0-u)]])=zB (iy st d p day m lim (k+1).toNat))/\(d.len-(k+1)).toNat<(d.len-k).toNat:=
    ⟨⟨⟨by omega,by omega⟩,by rw[t2,hx],by rw[t1,ht]⟩,by omega⟩
   have ap:(t.len+(zB [[D.int day, .int (st+k), .int 4, .int (0-u)]]).len)*32<=140737488355328:=by rw[o1];omega
   exact⟨⟨by rw[au];omega,by rw[au];omega,ap,by rw[au];omega,nx⟩,⟨by rw[au];omega,by rw[au];omega,⟨ap,by rw[au];omega,nx⟩,⟨ap,by rw[au];omega,nx⟩⟩⟩
  ·have hpo:mW (ov st d p k)=0:=by unfold mW;rw[if_neg hp]
   have hu0:mg st d p m lim k.toNat=0:=by rw[hu,hpo];unfold imin;split<;>omega
   obtain⟨s1,s2⟩:=acX (day:=day) k0 hu0;exact⟨by rw[au];omega,⟨⟨by omega,by omega⟩,by rw[s2,hx],by rw[s1,ht]⟩,by show(d.len-(k+1)).toNat<(d.len-k).toNat;omega⟩
 ·have:k.toNat=d.n:=by unfold zD at*;omega
  rw[this]
theorem take_len{st:Int}{d p:Sl}{day m:Int}{a c:Bool}{b f:Sl}{s:Sl}{e r e0:Int}(h:Aa st d p day m a b c f s e)(hl:Dj st d p m a b c f r e0):s.len<=1200:=by
 have t:=h r e0 hl;by_cases he:e0=0
 ·have t2:=t.2 he
  subst he;have v:=(abV hl).1.1;by_cases hd:0<=day/\day<65536
  ·have k:=(t2.2 hd).1.1
   have rl:=RG (st:=st) (d:=d) (p:=p) (day:=day) (m:=m) (lim:=r) d.n;rw[jO]at k;unfold zD at*;omega
  ·have:=(t2.1 hd).1;omega
 ·have:=(t.1 he).1;omega
theorem af9(st:Int)(d p:Sl)(m:Int)(a c:Bool)(b f:Sl):∃r e,Dj st d p m a b c f r e:=by
 by_cases hv:aA st d p/\jK a b c f
 ·by_cases hm:og st d m
  ·by_cases hf:bM (fq a b f*((d.int (m-st) 0:Int):Rat))
   ·exact⟨_,0,fun k=>absurd hv k,fun _=>⟨fun k=>absurd hm k,fun _=>⟨fun _=>⟨rfl,rfl⟩,fun k=>absurd hf k⟩⟩⟩
   ·exact⟨0,3,fun k=>absurd hv k,fun _=>⟨fun k=>absurd hm k,fun _=>⟨fun k=>absurd k hf,fun _=>⟨rfl,rfl⟩⟩⟩⟩
  ·exact⟨0,6,fun k=>absurd hv k,fun _=>⟨fun _=>⟨rfl,rfl⟩,fun k=>absurd k hm⟩⟩
 ·exact⟨0,2,fun _=>⟨rfl,rfl⟩,fun k=>absurd k hv⟩
theorem ap1:ah4:=by
 intro st _ d _ p _ day _ m _ a b rb c f rf _;simp only[zE];refine⟨trivial,fun s _ e _ ht=>⟨fun he=>⟨⟨s,e,ht,fun _=>⟨⟨rfl,rfl,rfl⟩,rfl⟩,fun k=>absurd k he⟩,trivial⟩,fun he=> ?_⟩⟩
 have he:e=0:=zA.1 he;obtain⟨r,e0,hl⟩:=af9 st d p m a c b f;have sl:=take_len ht hl;exact⟨by show s.len<=1000000;omega,fun st' _ d' _ p' _ e' _ hq=>⟨⟨s,e,ht,fun k=>absurd he k,fun _=>hq⟩,trivial⟩⟩
theorem aai{st n:Int}{p q r:Sl}(hr:behind p q r)(d0:Int):rE st n r d0↔rE st n p d0/\rE st n q (if 0<p.len then p.int (p.len-1) 0 else d0):=by
 obtain⟨hl,ha,hb⟩:=hr;have p0:=len0 p;have q0:=len0 q;have fa:∀i:Int,0<=i->i<p.len->(qW st n r d0 i↔qW st n p d0 i):=fun i i0 i1=>by
  obtain⟨a0,a1,a2,a3⟩:=ha i i0 i1;have pv:prev r d0 i=prev p d0 i:=by
   unfold prev;split
   ·rfl
   ·exact(ha (i-1) (by omega) (by omega)).1
  unfold qW JA;rw[a0,a1,a2,a3,pv]
 have fb:∀i:Int,0<=i->i<q.len->(qW st n r d0 (p.len+i)↔qW st n q (if 0<p.len then p.int (p.len-1) 0 else d0) i):=fun i i0 i1=>by
  obtain⟨a0,a1,a2,a3⟩:=hb i i0 i1;have pv:prev r d0 (p.len+i)=prev q (if 0<p.len then p.int (p.len-1) 0 else d0) i:=by
   unfold prev;by_cases e:i=0
   ·subst e
    rw[if_pos rfl,qX];by_cases ep:0<p.len
    ·rw[if_neg (by omega),if_pos ep]
     exact(ha (p.len-1) (by omega) (by omega)).1
    ·rw[if_pos (by omega),if_neg ep]
   ·rw[if_neg (by omega),if_neg e,show p.len+i-1=p.len+(i-1) by omega]
    exact(hb (i-1) (by omega) (by omega)).1
  unfold qW JA;rw[a0,a1,a2,a3,pv]
 constructor
 ·intro h
  exact⟨fun i i0 i1=>(fa i i0 i1).1 (h i i0 (by omega)),fun i i0 i1=>(fb i i0 i1).1 (h (p.len+i) (by omega) (by omega))⟩
 ·rintro⟨h1,h2⟩ i i0 i1
  by_cases e:i<p.len
  ·exact(fa i i0 e).2 (h1 i i0 e)
  ·have:=(fb (i-p.len) (by omega) (by omega)).2 (h2 (i-p.len) (by omega) (by omega))
   rwa[show p.len+(i-p.len)=i by omega]at this
theorem Gm.le{x y:Rat}{r:Int}(h:Gm x y r):r<=0↔x<=y:=by
 rcases h with⟨h,g⟩|⟨h,g⟩|⟨h,g⟩
 ·exact⟨fun _=>qN g,fun _=>by omega⟩
 ·exact⟨fun _=>by rw[g];exact qG,fun _=>by omega⟩
 ·exact⟨fun k=>by omega,fun k=>absurd g (Rat.not_lt.2 k)⟩
theorem Gm.ge{x y:Rat}{r:Int}(h:Gm x y r):0<=r↔y<=x:=by
 rcases h with⟨h,g⟩|⟨h,g⟩|⟨h,g⟩
 ·exact⟨fun k=>by omega,fun k=>absurd g (Rat.not_lt.2 k)⟩
 ·exact⟨fun _=>by rw[g];exact qG,fun _=>by omega⟩
 ·exact⟨fun _=>qN g,fun _=>by omega⟩
theorem aK.nonneg{q:Rat}{a c:Bool}{b d:Sl}(h:aK q a b c d)(rb:bC 65536 b):0<=q↔a=false:=by
 rw[<-qS,<-h.2.1];have h0:=(bC.bound (by decide) rb).1;have hv:vl b=val 65536 b:=rfl;cases a with
 |false=>simp only[zv,qI,if_false];exact⟨fun _=>trivial,fun _=>h0⟩
 |true=>
  have hl:b.len≠0:=fun e=>by have:=h.1.2 e;cases this
  have hp:=(fQ (B:=65536) (by decide) rb h.1.1).2 (by have:=len0 b;omega);simp only[zv,if_true,Bool.true_eq_false,iff_false];omega
theorem ahl:ZF:=by
 intro x _ _;refine⟨fun h=>⟨?_,trivial⟩,fun h=>⟨?_,trivial⟩⟩
 ·simp only[rW,decide_eq_true_eq,amt];omega
 ·simp only[rW,decide_false,qI,false_iff,amt];omega
theorem aey:WB:=by
 intro a b rb c d rd _;simp only[zE];have hb:=aj rb;have hd:=aj rd;have ld:=len0 d;have no:¬okR a b c d->lU a b c d (decide False)/\True:=fun h=>⟨by simp only[lU,decide_false,qI,false_iff];exact h,trivial⟩
 refine⟨trivial,fun v hv=>⟨fun h=>no fun hk=>h (hv.2 hk.1),fun h1=> ?_⟩⟩
 have ok:=hv.1 (zA.1 h1);have q:=ok.iO;have hden:vl d=((fq a b d).den:Int):=q.2.2.2.2;refine⟨fun h=>no fun hk=> ?_,fun hpos=>⟨trivial,fun n1 s1 r1 n2 s2 r2 hone=>⟨trivial,fun x _ hx=>⟨fun h=>no fun hk=> ?_,fun hle sm=> ?_⟩⟩⟩⟩
 ·rw[(q.nonneg hb).1 hk.2.1]at h;cases h
 ·have ok1:okF n1 s1 n2 s2:=⟨hone.1.pO,by have:=hone.2.1;omega,by have:=hone.2.2;omega⟩
  have s:=hx.1 ⟨ok,ok1⟩;rw[hone.1.fq]at s;have:=s.le.2 hk.2.2.1;omega
 have ok1:okF n1 s1 n2 s2:=⟨hone.1.pO,by have:=hone.2.1;omega,by have:=hone.2.2;omega⟩;have s:=hx.1 ⟨ok,ok1⟩;rw[hone.1.fq]at s;have hle1:=s.le.1 (by omega);have hnn:=(q.nonneg hb).2 (by simpa using hpos);have:=iW sm;refine⟨by rw[au];omega,fun t i=>t=jC 65536 d (i+1)/\0<=t/\t<=1000000/\-1<=i/\i<d.len,fun _ i=>(i+1).toNat,⟨?_,by omega,by omega,by omega,by omega⟩, ?_⟩
 ·rw[Gl _ _ (by omega)]
 ·intro t _ i _ hJ
  obtain⟨e,t0,t1,i0,i1⟩:=hJ;refine⟨fun hi=>⟨by omega,by omega,i1,fun _=> ?_⟩,fun hi=>⟨?_,trivial⟩⟩
  ·have dgi:=hd.at (i:=i) (by omega) i1
   have st:=o7 65536 d (i:=i) (by omega) i1;have sp:=Ea 65536 d (i:=i) (by omega) (by omega);have b1:=(hd.o8 (by decide) (i:=i) (by omega)).1;have b2:=(hd.Dh (by decide) (i:=i) (by omega)).1;have hv:vl d=val 65536 d:=rfl;have sh:IntKind.wrap .i64 (shl .i64 t 16)=t*65536:=by
    rw[show shl .i64 t 16=t*65536 from O4 .i64 t (n:=16) (by decide),show IntKind.wrap .i64 (t*65536)=t*65536 from wrap_id .i64 _ (by show(-9223372036854775808:Int)<=_/\_<=(9223372036854775807:Int);omega)]
   rw[sh];refine⟨by rw[au];omega,fun hb=>no fun hk=> ?_,fun hs=>⟨by rw[au];omega,⟨?_,by omega,by omega,by omega,by omega⟩,by show(i-1+1).toNat<(i+1).toNat;omega⟩⟩
   ·have hk4:=hk.2.2.2
    have p1:(1:Int)<=65536^i.toNat:=fC (B:=65536) (by decide) i.toNat;have:jC 65536 d i<=65536^i.toNat*jC 65536 d i:=by
     have:=q1 p1 b2;omega
    generalize 65536^i.toNat*jC 65536 d i=P at*;omega
   ·show t*65536+d.int i 0=jC 65536 d (i-1+1)
    rw[show i-1+1=i by omega,st,<-e];omega
  ·have:i=-1:=by omega
   subst this;have hv:vl d=val 65536 d:=rfl;rw[show(-1:Int)+1=0 by omega,oZ]at e;simp only[lU,decide_true,true_iff];exact⟨ok,hnn,by simpa using hle1,by omega⟩
theorem amI:ae9:=by
 intro l rl _;simp only[zE];have l0:=len0 l;have no:¬bZ l->jq l (decide False)/\True:=fun h=>⟨by simp only[jq,decide_false,qI,false_iff];exact h,trivial⟩
 refine fun _=>⟨fun h=>no fun hk=>by have:=hk.1;omega,fun hlen sm=>⟨fun i=>0<=i/\i<=l.len/\∀k:Int,0<=k->k<i->okB l k,fun i=>(l.len-i).toNat,⟨by omega,by omega,fun k _ _=>by omega⟩,fun i _ hJ=> ?_⟩⟩
 obtain⟨i0,i1,hk⟩:=hJ;refine⟨fun hi=>⟨i0,hi,fun _ _ _=>⟨fun h=>no fun hv=> ?_,fun h1=>⟨fun h=>no fun hv=> ?_,fun h2=>⟨trivial,fun v hv=>⟨fun h=>no fun hs=> ?_,fun h=>⟨by rw[au];omega,⟨by omega,by omega, ?_⟩, ?_⟩⟩⟩⟩⟩⟩,fun hi=> ?_⟩
 ·have:=(hv.2.1 i i0 hi).1;omega
 ·have:=(hv.2.1 i i0 hi).1;omega
 ·exact h (hv.2 (hs.2.1 i i0 hi).2)
 ·intro k k0 k1
  by_cases e:k=i
  ·subst e;exact⟨⟨by omega,by omega⟩,hv.1 (zA.1 h)⟩
  ·exact hk k k0 (by omega)
 ·show(l.len-(i+1)).toNat<(l.len-i).toNat;omega
 ·have hall:∀k:Int,0<=k->k<l.len->okB l k:=fun k k0 k1=>hk k k0 (by omega)
  refine⟨fun i=>1<=i/\(i<=l.len\/i=1)/\∀k:Int,1<=k->k<i->okP l k,fun i=>(l.len-i).toNat,⟨by omega,by omega,fun k _ _=>by omega⟩,fun i _ hJ _=> ?_⟩
  obtain⟨i0,i1,hp⟩:=hJ;have body:i<l.len->(((l.int (i-1) 0<l.int i 0)->(ES (l.bool (i-1) 1) (l.sub (i-1) 2) (l.bool (i-1) 3) (l.sub (i-1) 4) (l.bool i 1) (l.sub i 2) (l.bool i 3) (l.sub i 4))/\
   (∀x:Int,((iA x)->((BA (l.bool (i-1) 1) (l.sub (i-1) 2) (l.bool (i-1) 3) (l.sub (i-1) 4) (l.bool i 1) (l.sub i 2) (l.bool i 3) (l.sub i 4) x)->
    (((¬(x<=0))->(jq l (decide False))/\True)/\(¬(¬(x<=0))->(iA (i+1))/\((1<=i+1/\(i+1<=l.len\/i+1=1)/\∀k:Int,1<=k->k<i+1->okP l k)/\(l.len-(i+1)).toNat<(l.len-i).toNat))))))))/\
   (¬(l.int (i-1) 0<l.int i 0)->(jq l (decide False))/\True):=by
   intro hi;have a1:=hall (i-1) (by omega) (by omega);have a2:=hall i (by omega) (by omega);refine⟨fun hlt=>⟨trivial,fun x _ hx=>⟨fun h=>no fun hv=> ?_,fun h=>⟨by rw[au];omega,⟨by omega,by omega, ?_⟩,by omega⟩⟩⟩,fun h=>no fun hv=>h (hv.2.2 i i0 hi).1⟩
   ·have s:=hx.1 ⟨a1.2.1,a2.2.1⟩
    exact h (s.le.2 (hv.2.2 i i0 hi).2)
   ·have s:=hx.1 ⟨a1.2.1,a2.2.1⟩
    intro k k0 k1;by_cases e:k=i
    ·subst e;exact⟨hlt,s.le.1 (by omega)⟩
    ·exact hp k k0 (by omega)
  refine⟨fun hi=>⟨by rw[au];omega,by omega,by omega,by omega,hi,⟨fun _ _ _ _ _ _=>body hi,fun _ _ _ _ _ _=>body hi⟩⟩,fun hi=>⟨?_,trivial⟩⟩
  simp only[jq,decide_true,true_iff];exact⟨by omega,hall,fun k k0 k1=>hp k k0 (by omega)⟩
theorem adC:TW:=by
 intro y ry _;simp only[zE];have l0:=len0 y;have no:¬qF y->kH y (decide False)/\True:=fun h=>⟨by simp only[kH,decide_false,qI,false_iff];exact h,trivial⟩
 refine fun sm=>⟨fun i=>0<=i/\i<=y.len/\∀k:Int,0<=k->k<i->bZ (y.sub k 1),fun i=>(y.len-i).toNat,⟨by omega,by omega,fun k _ _=>by omega⟩,fun i _ hJ=> ?_⟩
 have:=iW sm;obtain⟨i0,i1,hk⟩:=hJ;refine⟨fun hi=>⟨i0,hi,fun _ _=>⟨trivial,fun v hv=>⟨fun h=>no fun hs=>h (hv.2 (hs.1 i i0 hi)),fun h=>⟨by rw[au];omega,⟨by omega,by omega, ?_⟩, ?_⟩⟩⟩⟩,fun hi=> ?_⟩
 ·intro k k0 k1
  by_cases e:k=i
  ·subst e;exact hv.1 (zA.1 h)
  ·exact hk k k0 (by omega)
 ·show(y.len-(i+1)).toNat<(y.len-i).toNat;omega
 ·have hall:∀k:Int,0<=k->k<y.len->bZ (y.sub k 1):=fun k k0 k1=>hk k k0 (by omega)
  refine⟨fun i=>1<=i/\(i<=y.len\/i=1)/\∀k:Int,1<=k->k<i->y.int (k-1) 0<y.int k 0,fun i=>(y.len-i).toNat,⟨by omega,by omega,fun k _ _=>by omega⟩,fun i _ hJ _=> ?_⟩
  obtain⟨i0,i1,hp⟩:=hJ;have body:i<y.len->(((¬(y.int (i-1) 0<y.int i 0))->(kH y (decide False))/\True)/\(¬(¬(y.int (i-1) 0<y.int i 0))->(iA (i+1))/\((1<=i+1/\(i+1<=y.len\/i+1=1)/\∀k:Int,1<=k->k<i+1->y.int (k-1) 0<y.int k 0)/\(y.len-(i+1)).toNat<(y.len-i).toNat))):=by
   intro hi;refine⟨fun h=>no fun hv=>h (hv.2 i i0 hi),fun h=>⟨by rw[au];omega,⟨by omega,by omega, ?_⟩,by omega⟩⟩
   intro k k0 k1;by_cases e:k=i
   ·subst e;exact zA.1 h
   ·exact hp k k0 (by omega)
  refine⟨fun hi=>⟨by rw[au];omega,by omega,by omega,by omega,hi,⟨fun _ _ _ _=>body hi,fun _ _ _ _=>body hi⟩⟩,fun hi=>⟨?_,trivial⟩⟩
  simp only[kH,decide_true,true_iff];exact⟨hall,fun k k0 k1=>hp k k0 (by omega)⟩
theorem aho:ZG:=by
 intro y ry year _ _ sm;have l0:=len0 y;have:=iW sm;refine⟨by rw[au];omega,fun i=>-1<=i/\i<y.len/\∀j:Int,i<j->j<y.len->year<y.int j 0,fun i=>(i+1).toNat,⟨by omega,by omega,fun j _ _=>by omega⟩,fun i _ hJ=> ?_⟩
 obtain⟨i0,i1,hj⟩:=hJ;refine⟨fun hi=>⟨by omega,i1,fun _=>⟨fun h=>⟨by omega,i1,fun _=>⟨⟨fun _=>⟨i,⟨by omega,i1,h,hj⟩,rfl⟩,fun h=>by simp at h⟩,trivial⟩⟩,fun h=>⟨by rw[au];omega,⟨by omega,by omega, ?_⟩, ?_⟩⟩⟩,fun hi=>⟨⟨fun h=>by simp at h,fun _=>⟨fun j j0 j1=>hj j (by omega) j1,rfl⟩⟩,trivial⟩⟩
 ·intro j j0 j1
  by_cases e:j=i
  ·subst e;omega
  ·exact hj j (by omega) j1
 ·show(i-1+1).toNat<(i+1).toNat;omega
def Bd(q:Rat)(K:Int)(D:Nat):Prop:=0<=q/\q<=(K:Rat)/\q.den<=D
theorem aaj(q r:Rat):(q+r).den<=q.den*r.den:=by
 have h:q+r=Rat.divInt (q.num*r.den+r.num*q.den) (q.den*r.den):=by
  rw[<-Rat.divInt_add_divInt _ _ (by have:=q.den_pos;omega) (by have:=r.den_pos;omega),qK,qK]
 have:=xk (n:=q.num*r.den+r.num*q.den) (d:=(q.den:Int)*r.den) (by
  have h1:=q.den_pos;have h2:=r.den_pos;exact Int.mul_ne_zero (by omega) (by omega))
 rw[<-h,<-q2,Int.natAbs_natCast]at this;exact this
theorem ak6(q r:Rat):(q*r).den<=q.den*r.den:=by
 have h:q*r=Rat.divInt (q.num*r.num) (q.den*r.den):=by
  rw[<-Rat.divInt_mul_divInt,qK,qK]
 have:=xk (n:=q.num*r.num) (d:=(q.den:Int)*r.den) (by
  have h1:=q.den_pos;have h2:=r.den_pos;exact Int.mul_ne_zero (by omega) (by omega))
 rw[<-h,<-q2,Int.natAbs_natCast]at this;exact this
theorem ak7(q r:Rat):(q-r).den<=q.den*r.den:=by
 rw[Rat.sub_eq_add_neg];have:=aaj q (-r);exact this
theorem Bd.add{q r:Rat}{K L:Int}{D E:Nat}(h:Bd q K D)(g:Bd r L E):Bd (q+r) (K+L) (D*E):=by
 refine⟨Rat.add_nonneg h.1 g.1, ?_,qL (aaj q r) (q3 h.2.2 g.2.2)⟩
 rw[Rat.intCast_add];have h1:=h.2.1;have g1:=g.2.1
 grind
theorem Bd.mul{q r:Rat}{K L:Int}{D E:Nat}(h:Bd q K D)(g:Bd r L E):Bd (q*r) (K*L) (D*E):=by
 refine⟨Rat.mul_nonneg h.1 g.1, ?_,qL (ak6 q r) (q3 h.2.2 g.2.2)⟩
 rw[Rat.intCast_mul];have e1:=q9 h.2.1 g.1;have e2:=Rat.mul_le_mul_of_nonneg_left g.2.1 (c:=(K:Rat)) (q5 h.1 h.2.1);exact q5 e1 e2
theorem Bd.mono{q:Rat}{K L:Int}{D E:Nat}(h:Bd q K D)(k:K<=L)(d:D<=E):Bd q L E:=
 ⟨h.1,q5 h.2.1 (qJ.2 k),qL h.2.2 d⟩
theorem Bd.int{n K:Int}(h0:0<=n)(h1:n<=K):Bd (n:Rat) K 1:=⟨by have:=qJ.2 h0;simpa using this,qJ.2 h1,by rw[qH];exact qY 1⟩
theorem Bd.aAC{q r:Rat}{K:Int}{D E:Nat}(h:Bd q K D)(g:Bd r K E)(hle:r<=q):Bd (q-r) K (D*E):=by
 have h1:=h.2.1;have g0:=g.1;exact⟨by grind,by grind,qL (ak7 q r) (q3 h.2.2 g.2.2)⟩
theorem Bd.num{q:Rat}{K:Int}{D:Nat}(h:Bd q K D):0<=q.num/\q.num<=K*q.den:=by
 refine⟨qS.2 h.1, ?_⟩
 have:=(Rat.le_iff _ _).1 h.2.1;rw[qH,zR]at this;simpa using this
theorem Bd.fit{q:Rat}{K:Int}{D:Nat}(h:Bd q K D)(hk:1<=K)(hf:K.toNat*D<65536^256):bM q:=by
 have hn:=h.num;have hd:q.den<=D:=h.2.2;have c:BF=((65536^256:Nat):Int):=by rw[DU];exact(Int.natCast_pow 65536 256).symm
 have hKD:K*q.den<=((K.toNat*D:Nat):Int):=by
  rw[q2,Int.toNat_of_nonneg (by omega)];exact Int.mul_le_mul_of_nonneg_left (by omega) (by omega)
 have hD:(q.den:Int)<=((K.toNat*D:Nat):Int):=by
  have:D*1<=D*K.toNat:=Nat.mul_le_mul_left D (by omega);rw[Nat.mul_comm K.toNat D];omega
 have hf':((K.toNat*D:Nat):Int)<BF:=by rw[c];exact Int.ofNat_lt.2 hf
 exact⟨by omega,by omega⟩
section
variable{l:Sl}{m A:Int}
theorem bZ.at(h:bZ l){i:Int}(h0:0<=i)(h1:i<l.len):(0<=l.int i 0/\l.int i 0<=1099511627776)/\Bd (rq l i) 1 1000000:=by
 have b:=h.2.1 i h0 h1;exact⟨b.1,b.2.2.1,by have:=b.2.2.2.1;exact this,by have:=b.2.2.2.2;unfold rq;omega⟩
theorem bZ.as9(h:bZ l){i:Int}(h0:0<=i)(h1:i<l.len):Bd (rp l i) 1 1000000/\rp l i<=rq l i:=by
 unfold rp;have b:=(h.at h0 h1).2;by_cases e:i=0
 ·rw[if_pos e]
  have b0:=b.1;exact⟨⟨by grind,by grind,by decide⟩,b0⟩
 ·rw[if_neg e]
  exact⟨(h.at (i:=i-1) (by omega) (by omega)).2,(h.2.2 i (by omega) h1).2⟩
theorem bZ.rd(h:bZ l){i:Int}(h0:0<=i)(h1:i<l.len):Bd (rq l i-rp l i) 1 1000000000000:=
 ((h.at h0 h1).2.aAC (h.as9 h0 h1).1 (h.as9 h0 h1).2)
theorem adL(h:bZ l)(hm:1<=m/\m<=12)(hA:amt A){i:Int}(h0:0<=i)(h1:i<l.len):0<=PI l m A i/\PI l m A i<=13194139533312:=by
 have b:=(h.at h0 h1).1;have p:0<=l.int i 0*m:=q6 b.1 (by omega);unfold PI amt at*;split<;>omega
def PJ(l:Sl)(m A i:Int):Int:=if i<l.len then PI l m A i else 0
def SS(l:Sl)(m A:Int)(i:Nat):Rat:=TN l m A i-(PJ l m A i:Rat)*rp l i
theorem avI(l:Sl)(i:Nat):rp l ((i+1:Nat):Int)=rq l i:=by
 unfold rp;rw[if_neg (by omega)];congr 1;omega
theorem aiD:SS l m A 0=0:=by
 have:rp l ((0:Nat):Int)=0:=rfl;unfold SS;rw[this];simp only[TN];grind
theorem abX{i:Nat}(h1:(i:Int)<l.len):SS l m A (i+1)=SS l m A i+((PI l m A i-PJ l m A ((i+1:Nat):Int):Int):Rat)*rq l i:=by
 unfold SS;rw[avI,Rat.intCast_sub];have:PJ l m A i=PI l m A i:=by unfold PJ;rw[if_pos h1]
 rw[this];simp only[TN]
 grind
theorem ayP:SS l m A l.len.toNat=TN l m A l.len.toNat:=by
 unfold SS;have:PJ l m A (l.len.toNat:Int)=0:=by unfold PJ;rw[if_neg (by omega)]
 rw[this]
 grind
theorem avJ(h:bZ l)(hm:1<=m/\m<=12){i:Nat}(h1:(i:Int)<l.len){to:Int}
  (ht:(((i:Int)+1<l.len)->to=imin (A*12) (l.int (i+1) 0*m))/\(¬((i:Int)+1<l.len)->to=A*12)):
  (to>l.int i 0*m->to-l.int i 0*m=PI l m A i-PJ l m A ((i+1:Nat):Int))/\(¬(to>l.int i 0*m)->PI l m A i-PJ l m A ((i+1:Nat):Int)=0):=by
 have e1:((i+1:Nat):Int)=(i:Int)+1:=by omega
 rw[e1];unfold PJ PI;by_cases hl:(i:Int)+1<l.len
 ·have hp:=(h.2.2 ((i:Int)+1) (by omega) hl).1
  rw[show(i:Int)+1-1=i by omega]at hp;have hle:l.int i 0*m<=l.int ((i:Int)+1) 0*m:=q1 (by omega) (by omega);have t:=ht.1 hl;rw[if_pos hl];generalize l.int i 0*m=f at*;generalize l.int ((i:Int)+1) 0*m=g at*;unfold imin at t;split at t<;>(subst t;constructor<;>intro hh<;>(repeat' split)<;>omega)
 ·have t:=ht.2 hl
  rw[if_neg hl];generalize l.int i 0*m=f at*;subst t;constructor<;>intro hh<;>(repeat' split)<;>omega
theorem abY(h:bZ l)(hm:1<=m/\m<=12)(hA:amt A){i:Nat}(h1:(i:Int)<l.len):0<=PI l m A i-PJ l m A ((i+1:Nat):Int)/\PI l m A i-PJ l m A ((i+1:Nat):Int)<=13194139533312:=by
 have e1:((i+1:Nat):Int)=(i:Int)+1:=by omega
 rw[e1];have b:=adL (m:=m) (A:=A) h hm hA (i:=(i:Int)) (by omega) h1;unfold PJ;by_cases hl:(i:Int)+1<l.len
 ·have c:=adL (m:=m) (A:=A) h hm hA (i:=(i:Int)+1) (by omega) hl
  rw[if_pos hl];have hp:=(h.2.2 ((i:Int)+1) (by omega) hl).1;rw[show(i:Int)+1-1=i by omega]at hp;have hle:l.int i 0*m<=l.int ((i:Int)+1) 0*m:=q1 (by omega) (by omega);have:PI l m A ((i:Int)+1)<=PI l m A i:=by unfold PI;(repeat' split)<;>omega
  omega
 ·rw[if_neg hl];omega
theorem ata(h:bZ l)(hm:1<=m/\m<=12)(hA:amt A):∀i:Nat,(i:Int)<=l.len->Bd (SS l m A i) (i*13194139533312) (1000000^i)
 |0,_=>by rw[aiD];exact⟨qG,by simp,by decide⟩
 |i+1,hi=>by
  have ih:=ata h hm hA i (by omega);have p:=abY (A:=A) h hm hA (i:=i) (by omega);have g:=ih.add ((Bd.int p.1 p.2).mul (h.at (i:=(i:Int)) (by omega) (by omega)).2);rw[abX (by omega)];exact g.mono (by omega) (by rw[Nat.pow_succ];omega)
theorem atb(h:bZ l)(hm:1<=m/\m<=12)(hA:amt A):∀i:Nat,(i:Int)<=l.len->Bd (TN l m A i) (i*13194139533312) (1000000000000^i)
 |0,_=>⟨qG,by simp[TN],by simp[TN]⟩
 |i+1,hi=>by
  have ih:=atb h hm hA i (by omega);have p:=adL (m:=m) (A:=A) h hm hA (i:=i) (by omega) (by omega);have g:=ih.add ((Bd.int p.1 p.2).mul (h.rd (i:=(i:Int)) (by omega) (by omega)));exact g.mono (by omega) (by rw[Nat.pow_succ];omega)
theorem aga{B n:Nat}(hB:0<B)(h:n<=20):B^n<=B^20:=Nat.pow_le_pow_right hB h
theorem aak(h:bZ l)(hm:1<=m/\m<=12)(hA:amt A){i:Nat}(hi:(i:Int)<=l.len):Bd (TN l m A i) 263882790666240 (1000000000000^20):=
 (atb h hm hA i hi).mono (by have:=h.1;omega) (aga (by decide) (by have:=h.1;omega))
theorem an4(h:bZ l)(hm:1<=m/\m<=12)(hA:amt A){i:Nat}(hi:(i:Int)<=l.len):Bd (SS l m A i) 263882790666240 (1000000^20):=
 (ata h hm hA i hi).mono (by have:=h.1;omega) (aga (by decide) (by have:=h.1;omega))
theorem twelfth:Bd ((12:Rat)⁻¹) 1 12:=⟨by grind,by rw[show((1:Int):Rat)=1 from rfl];grind,by
 rw[Rat.inv_def];exact xk (n:=((12:Rat).den:Int)) (d:=(12:Rat).num) (by decide)⟩
theorem YG{q:Rat}{K:Int}{D:Nat}(h:Bd q K D):Bd (q/12) K (D*12):=by
 have:=h.mul twelfth;rw[<-Rat.div_def,Int.mul_one]at this;exact this
theorem atc(h:bZ l)(hm:1<=m/\m<=12)(hA:amt A):Bd (TT l m A) 263882790666240 (1000000000000^20*12):=
 YG (aak h hm hA (by have:=len0 l;omega))
theorem an5(h:bZ l)(hm:1<=m/\m<=12)(hA:amt A):bM (TT l m A):=
 (atc h hm hA).fit (by decide) (by decide)
end
theorem aal{n:Int}{a c:Bool}{b d:Sl}(h:bF n a b c d):okF a b c d:=⟨h.1.pO,by have:=h.2.1;omega,by have:=h.2.2;omega⟩
def JE(l:Sl)(m A:Int):Int->Bool->Sl->Bool->Sl->Bool->Sl->Bool->Sl->Int->Prop:=fun i a b c d _ _ _ _ _=>0<=i/\i<=l.len/\aK (SS l m A i.toNat) a b c d
def ME(l:Sl):Int->Bool->Sl->Bool->Sl->Bool->Sl->Bool->Sl->Int->Nat:=fun i _ _ _ _ _ _ _ _ _=>(l.len-i).toNat
theorem ak8{l:Sl}{m A i:Int}(hp:VI l m A)(i0:0<=i)(i1:i<l.len){a c:Bool}{b d:Sl}(rb:bC 65536 b)(rd:bC 65536 d)(hJ:aK (SS l m A i.toNat) a b c d)
  {a' c':Bool} {b' d':Sl} {x:Int} {n:Int} (hn:n=PI l m A i-PJ l m A (i+1)) {p r:Bool} {q s:Sl} (hf:bF n p q r s):DV l m A (JE l m A) (ME l) i a b c d a' b' c' d' x p q r s:=by
 simp only[DV,zE];have ei:((i.toNat:Nat):Int)=i:=by omega
 have ei1:((i.toNat+1:Nat):Int)=i+1:=by omega
 have v:=hp.1;have ak9:=v.1;have pb:=abY (A:=A) v hp.2.1 hp.2.2 (i:=i.toNat) (by omega);rw[ei1,ei,<-hn]at pb;have st:=abX (l:=l) (m:=m) (A:=A) (i:=i.toNat) (by omega);rw[ei1,ei,<-hn]at st;have okr:=(v.2.1 i i0 i1).2.1;have rt:=(v.at i0 i1).2;have bS:=an4 (A:=A) v hp.2.1 hp.2.2 (i:=i.toNat) (by omega);have bS1:=an4 (A:=A) v hp.2.1 hp.2.2 (i:=i.toNat+1) (by omega);have okS:okF a b c d:=hJ.ok rb rd (bS.fit (by decide) (by decide));refine⟨trivial,fun a1 b1 r1 c1 d1 r2 e1 _ h1=> ?_⟩
 have m1:=h1.1 ⟨aal hf,okr⟩;rw[hf.1.fq]at m1;have bP:=(Bd.int pb.1 pb.2).mul rt;have m2:=m1.1 (bP.fit (by decide) (by decide));have okP:=m2.1.ok (aj r1) (aj r2) (bP.fit (by decide) (by decide));refine⟨fun e a b c d=>e=0/\aK (SS l m A (i.toNat+1)) a b c d,⟨fun _=>⟨trivial,fun a3 b3 r3 c3 d3 r4 e3 _ h3=> ?_⟩,fun h=>absurd m2.2 h⟩,fun e _ a4 b4 _ c4 d4 _ hj=>⟨fun h=>absurd hj.1 h,fun _=>⟨by rw[au];omega,⟨by omega,by omega, ?_⟩, ?_⟩⟩⟩
 ·have m3:=h3.1 ⟨okS,okP⟩
  rw[hJ.fq,m2.1.fq]at m3;have e4:SS l m A i.toNat+((n:Int):Rat)*fq (l.bool i 1) (l.sub i 2) (l.sub i 4)=SS l m A (i.toNat+1):=st.symm;rw[e4]at m3;have:=m3.1 (bS1.fit (by decide) (by decide));exact⟨this.2,this.1⟩
 ·rw[show(i+1).toNat=i.toNat+1 by omega];exact hj.2
 ·show(l.len-(i+1)).toNat<(l.len-i).toNat;omega
theorem ap5:ah5:=by
 intro l rl m _ A _ hp;simp only[zE];have v:=hp.1;have ak9:=v.1;have l0:=len0 l;refine⟨trivial,fun a0 b0 r0 c0 d0 r1 h0 sm=>⟨JE l m A,ME l,⟨by omega,l0, ?_⟩,fun i _ a b rb c d rd a' b' _ c' d' _ x _ hJ=> ?_⟩⟩
 ·rw[show(0:Int).toNat=0 from rfl,aiD];exact h0.1
 obtain⟨i0,i1,hJ⟩:=hJ;have hA:=hp.2.2;have hm:=hp.2.1;unfold amt at hA;refine⟨fun hi=>⟨i0,hi,fun _ _ _=> ?_⟩,fun hi=> ?_⟩
 ·have b1:=(v.at i0 hi).1
  have f0:0<=l.int i 0*m:=q6 b1.1 (by omega);have f1:l.int i 0*m<=1099511627776*12:=Int.mul_le_mul b1.2 hm.2 (by omega) (by decide);have ei:((i.toNat:Nat):Int)=i:=by omega
  have ei1:((i.toNat+1:Nat):Int)=i+1:=by omega
  refine⟨by rw[au];omega,by rw[au];omega,fun to=>((i+1<l.len)->to=imin (A*12) (l.int (i+1) 0*m))/\(¬(i+1<l.len)->to=A*12),⟨by rw[au];omega,fun _=>⟨fun h=>⟨by rw[au];omega,by omega,h,fun _=>⟨?_,⟨fun _=>rfl,fun g=>absurd h g⟩⟩⟩,fun h=>⟨fun g=>absurd g h,fun _=>rfl⟩⟩⟩,fun to _ ht=> ?_⟩
  ·have b2:=(v.at (i:=i+1) (by omega) h).1
   have g0:0<=l.int (i+1) 0*m:=q6 b2.1 (by omega);have g1:l.int (i+1) 0*m<=1099511627776*12:=Int.mul_le_mul b2.2 hm.2 (by omega) (by decide);rw[au];omega
  ·have pe:=avJ (A:=A) v hm (i:=i.toNat) (by omega) (to:=to) (by rw[ei];exact ht)
   have pb:=abY (A:=A) v hm hp.2.2 (i:=i.toNat) (by omega);rw[ei1,ei]at pe pb;refine⟨fun hgt=> ?_,fun hle=>⟨by rw[au];omega,⟨by omega,by omega, ?_⟩,by show(l.len-(i+1)).toNat<(l.len-i).toNat;omega⟩⟩
   ·have en:=pe.1 hgt
    have core:∀(p:Bool)(q:Sl)(r:Bool)(s:Sl),bF (to-l.int i 0*m) p q r s->DV l m A (JE l m A) (ME l) i a b c d a' b' c' d' x p q r s:=
     fun p q r s hf=>ak8 hp i0 hi (aj rb) (aj rd) hJ en hf
    refine⟨by rw[au];omega,⟨trivial,fun p q _ r s _ hf=>⟨core p q r s hf,core p q r s hf⟩⟩,trivial,fun p q _ r s _ hf=>core p q r s hf⟩
   ·have st:=abX (l:=l) (m:=m) (A:=A) (i:=i.toNat) (by omega)
    rw[ei1,ei,pe.2 hle]at st;rw[show(i+1).toNat=i.toNat+1 by omega,st];have:SS l m A i.toNat+((0:Int):Rat)*rq l i=SS l m A i.toNat:=by
     rw[show((0:Int):Rat)=0 from rfl];grind
    rw[this];exact hJ
 ·have e:i=l.len:=by omega
  subst e;rw[ayP]at hJ;have okS:=hJ.ok (aj rb) (aj rd) ((aak (A:=A) v hm hp.2.2 (by omega)).fit (by decide) (by decide));refine⟨trivial,fun p q rq' r s rs h12=>⟨trivial,fun a2 b2 r2 c2 d2 r3 e2 _ h2=>⟨?_,trivial⟩⟩⟩
  have m1:=h2.1 ⟨okS,aal h12⟩;rw[h12.1.fq,hJ.fq]at m1;have m2:=m1.1 (by decide);have et:TN l m A l.len.toNat/((12:Int):Rat)=TT l m A:=rfl;rw[et]at m2;have ft:=an5 (A:=A) v hm hp.2.2;have m3:=m2.1 ft;exact⟨m3.1,m3.1.ok (aj r2) (aj r3) ft,m3.2⟩
theorem Gw{l:Sl}{m A:Int}(h:bZ l)(hm:1<=m/\m<=12)(hA:amt A):0<=(TT l m A).floor/\(TT l m A).floor<=263882790666240:=by
 have b:=atc (A:=A) h hm hA;have f1:=qT b.1;have f2:=qT b.2.1;rw[qV]at f2;have:(0:Rat).floor=0:=qV 0;omega
theorem asA{l:Sl}{m A:Int}(k1:bZ l)(hm:1<=m/\m<=12)(k2:amt A){a c:Bool}{b d:Sl}(rb:bC 65536 b)(rd:bC 65536 d){e:Int}(hq:Di (aO (TT l m A) 3:Int) a b c d e):
  e=0/\okF a b c d/\fq a b d=(((TT l m A).floor:Int):Rat):=by
 have r3:aO (TT l m A) 3=(TT l m A).floor:=by unfold aO;rw[if_pos rfl]
 rw[r3]at hq;have rg:=Gw (A:=A) k1 hm k2;have ft:bM (((TT l m A).floor:Int):Rat):=(Bd.int rg.1 rg.2).fit (by decide) (by decide);have h:=hq.1 ft;exact⟨h.2,h.1.ok rb rd ft,h.1.fq⟩
theorem auM:anJ:=by
 intro l _ m _ A _ _;simp only[zE];have no:¬(bZ l/\(1<=m/\m<=12)/\amt A)->lZ l m A 0 2/\True:=fun h=>⟨⟨fun k=>absurd k h,fun _=>⟨rfl,rfl⟩⟩,trivial⟩
 refine⟨trivial,fun v hv=>⟨fun h=>no fun k=>h (hv.2 k.1),fun h=>⟨fun g=>no fun k=>by omega,fun g1=>⟨fun g=>no fun k=>by omega,fun g2=>⟨trivial,fun w hw=>⟨fun g=>no fun k=>g (hw.2 k.2.2),fun g=> ?_⟩⟩⟩⟩⟩⟩
 have k1:=hv.1 (zA.1 h);have k2:=hw.1 (zA.1 g);have hm:1<=m/\m<=12:=⟨by omega,by omega⟩;refine⟨⟨k1,hm,k2⟩,fun a b rb c d rd e _ hq=>⟨fun k=>absurd hq.2.2 k,fun _=> ?_⟩⟩
 have core:∀(p:Bool)(q:Sl)(r:Bool)(s:Sl),bF 1 p q r s->yE a b c d p q r s 3/\
   ∀(a1:Bool)(b1:Sl),Ranged b1 [some .u16]->∀(c1:Bool)(d1:Sl),Ranged d1 [some .u16]->∀x:Int,iA x->jV a b c d p q r s 3 a1 b1 c1 d1 x->
    ((x≠0->lZ l m A 0 x/\True)/\(¬(x≠0)->Ho a1 b1 c1 d1/\∀y:Int,iA y->∀z:Int,iA z->uD a1 b1 c1 d1 y z->lZ l m A y z/\True)):=by
  intro p q r s h1;refine⟨⟨h1.1,by have:=h1.2.1;omega,by have:=h1.2.2;omega,Or.inl rfl⟩,fun a1 b1 r1 c1 d1 r2 x _ hx=> ?_⟩
  have hx1:=hx.1 hq.2.1;rw[hq.1.fq]at hx1;obtain⟨e0,ok,ef⟩:=asA k1 hm k2 (aj r1) (aj r2) hx1;refine⟨fun k=>absurd e0 k,fun _=>⟨trivial,fun y _ z _ hy=>⟨⟨fun _=> ?_,fun k=>absurd ⟨k1,hm,k2⟩ k⟩,trivial⟩⟩⟩
  have h2:=hy.2 ok;rw[ef]at h2;have rg:=Gw (A:=A) k1 hm k2;have h3:=(h2.2 (qH _)).1 (by rw[zR];unfold tN;omega);rw[zR]at h3;exact h3
 exact⟨⟨trivial,fun p q _ r s _ h1=>⟨core p q r s h1,core p q r s h1⟩⟩,trivial,fun p q _ r s _ h1=>core p q r s h1⟩
theorem vZ.uniq{y:Sl}{year i j:Int}(h:vZ y year i)(g:vZ y year j):i=j:=by
 obtain⟨a,b,c,d⟩:=h;obtain⟨a',b',c',d'⟩:=g;by_cases e:i<j
 ·have:=d j e b';omega
 ·by_cases e':j<i
  ·have:=d' i e' b;omega
  ·omega
theorem vZ.no{y:Sl}{year i:Int}(h:vZ y year i)(g:zy y year):False:=by
 have:=g i h.1 h.2.1;have:=h.2.2.1;omega
theorem vZ.aA{y:Sl}{year i:Int}(h:vZ y year i)(v:qF y):bZ (y.sub i 1):=v.1 i h.1 h.2.1
theorem agb{y:Sl}{mo g t month aC:Int}(h:¬Dk y mo g t month aC):held y mo g t month aC 0 0 0 0 2:=
 ⟨fun _=>⟨rfl,rfl,rfl,rfl,rfl⟩,fun k=>absurd k h⟩
theorem acZ{y:Sl}{mo g t month aC:Int}(h:Dk y mo g t month aC)(n:zy y (1900+month/12)):held y mo g t month aC 0 0 0 0 6:=
 ⟨fun k=>absurd h k,fun _=>⟨fun _=>⟨rfl,rfl,rfl,rfl,rfl⟩,fun i hi=>(hi.no n).elim⟩⟩
theorem ac0{y:Sl}{mo g t month aC i:Int}(h:Dk y mo g t month aC)(n:vZ y (1900+month/12) i)(k:1099511627776<goes mo month g+aC):held y mo g t month aC 0 0 0 0 3:=
 ⟨fun k=>absurd h k,fun _=>⟨fun k=>(n.no k).elim,fun i hi=>⟨fun _=>⟨rfl,rfl,rfl,rfl,rfl⟩,fun k'=>by omega⟩⟩⟩
theorem ac5{y:Sl}{mo g t month aC i g' d:Int}(h:Dk y mo g t month aC)(n:vZ y (1900+month/12) i)(k:goes mo month g+aC<=1099511627776)(eg:g'=goes mo month g+aC)(ed:d=(TT (y.sub i 1) (month % 12+1) g').floor){r:Int}(er:r=d-goes mo month t):
  held y mo g t month aC r month g' d 0:=
 ⟨fun k=>absurd h k,fun _=>⟨fun k=>(n.no k).elim,fun j hj=>⟨fun k'=>by omega,fun _=>⟨rfl,eg,by rw[ed,hj.uniq n],er,rfl⟩⟩⟩⟩
theorem xu{x:Int}(h:0<=x):Int.tdiv x 12=x/12:=Int.tdiv_eq_ediv_of_nonneg h
theorem an6{x:Int}(h:0<=x):Int.tmod x 12=x % 12:=Int.tmod_eq_emod_of_nonneg h
theorem aeB:WC:=by
 intro y _ mo _ g _ t _ month _ aC _ _;simp only[zE];have no:¬Dk y mo g t month aC->bH y mo g t month aC 0 0 0 0 2/\True:=fun h=>⟨agb h,trivial⟩
 refine⟨trivial,fun v hv=>⟨fun h=>no fun k=>h (hv.2 k.1),fun h=>⟨fun a=>no fun k=> ?_,fun a1=>⟨fun a=>no fun k=> ?_,fun a2=>⟨trivial,fun w hw=>⟨fun a=>no fun k=>a (hw.2 k.2.2.1),fun a3=>⟨fun a=>no fun k=> ?_,fun a4=>⟨fun a=>no fun k=> ?_,fun a5=>⟨fun a=>no fun k=> ?_,fun a6=>⟨fun a=>no fun k=> ?_,fun a7=>⟨trivial,fun u hu=>⟨fun a=>no fun k=>a (hu.2 k.2.2.2.2.2),fun a8=> ?_⟩⟩⟩⟩⟩⟩⟩⟩⟩⟩⟩⟩
 all_goals try(obtain⟨_,⟨_,_⟩,_,⟨_,_⟩,⟨_,_⟩,_⟩:=k;omega)
 have k1:=hv.1 (zA.1 h);have k2:=hw.1 (zA.1 a3);have k3:=hu.1 (zA.1 a8);have ok:Dk y mo g t month aC:=⟨k1,⟨by omega,by omega⟩,k2,⟨by omega,by omega⟩,⟨by omega,by omega⟩,k3⟩;unfold amt at k2 k3;rw[xu (by omega:0<=month),xu (by omega:0<=mo),an6 (by omega:0<=month)];refine⟨by decide,by rw[au];omega,by rw[au];omega,trivial,fun s _ b hb=>⟨fun hn=>⟨acZ ok (hb.2 (by simpa using hn)).1,trivial⟩,fun hy=> ?_⟩⟩
 obtain⟨i,hi,es⟩:=hb.1 (zA.1 hy);subst es;have vs:=hi.aA k1;have tail:∀g' t1:Int,g'=goes mo month g+aC->t1=goes mo month t->-1099511627776<=t1->t1<=1099511627776->0<=g'->
   ((g'>1099511627776->bH y mo g t month aC 0 0 0 0 3/\True)/\(¬(g'>1099511627776)->((12:Int)≠0)/\iA (month % 12)/\iA (month % 12+1)/\Uk (y.sub i 1) (month % 12+1) g'/\
    ∀x:Int,iA x->∀e:Int,iA e->lZ (y.sub i 1) (month % 12+1) g' x e->((e≠0->bH y mo g t month aC 0 0 0 0 e/\True)/\(¬(e≠0)->iA (x-t1)/\bH y mo g t month aC (x-t1) month g' x 0/\True)))):=by
  intro g' t1 eg et b1 b2 b3;refine⟨fun hg=>⟨ac0 ok hi (by omega),trivial⟩,fun hg=>⟨by decide,by rw[au];omega,by rw[au];omega,trivial,fun x _ e _ hq=> ?_⟩⟩
  have q:=hq.1 ⟨vs,⟨by omega,by omega⟩,⟨by omega,by omega⟩⟩;have rg:=Gw (l:=y.sub i 1) (m:=month % 12+1) (A:=g') vs ⟨by omega,by omega⟩ ⟨by omega,by omega⟩;refine⟨fun k=>absurd q.2 k,fun _=>⟨by rw[au];omega, ?_,trivial⟩⟩
  exact ac5 ok hi (by omega) eg q.1 (by rw[et])
 refine⟨by decide,by rw[au];omega,by decide,by rw[au];omega,fun hne=>⟨by rw[au];omega, ?_⟩,fun he=>⟨by rw[au];omega, ?_⟩⟩
 ·have e1:goes mo month g=0:=by unfold goes;rw[if_neg hne]
  have e2:goes mo month t=0:=by unfold goes;rw[if_neg hne]
  exact tail (0+aC) 0 (by rw[e1]) e2.symm (by omega) (by omega) (by omega)
 ·have e1:goes mo month g=g:=by unfold goes;rw[if_pos (by omega)]
  have e2:goes mo month t=t:=by unfold goes;rw[if_pos (by omega)]
  exact tail (g+aC) t (by rw[e1]) e2.symm (by omega) (by omega) (by omega)
theorem akc:acP:=by
 intro x _ _;refine⟨fun h=>⟨?_,trivial⟩,fun h=>⟨?_,trivial⟩⟩
 ·show decide _=true↔amt x
  rw[decide_eq_true_eq];exact⟨fun k=>⟨h,k⟩,fun k=>k.2⟩
 ·show decide False=true↔amt x
  exact⟨fun k=>by simp at k,fun k=>absurd k.1 h⟩
theorem auN:anO:=by
 intro x _ _;refine⟨fun h=>⟨?_,trivial⟩,fun h=>⟨?_,trivial⟩⟩
 ·show decide _=true↔II x
  rw[decide_eq_true_eq];exact⟨fun k=>⟨h,k⟩,fun k=>k.2⟩
 ·show decide False=true↔II x
  exact⟨fun k=>by simp at k,fun k=>absurd k.1 h⟩
theorem pV(l:Sl)(k:Nat)(d0:Int):dH l k d0 0=d0:=by unfold dH;rw[if_pos rfl]
theorem Jd(l:Sl)(k:Nat)(d0:Int){i:Int}(h:0<=i):dH l k d0 (i+1)=l.int i k:=by
 unfold dH;rw[if_neg (by omega),show i+1-1=i by omega]
theorem amS:afF:=by
 intro st _ d p mo _ g _ t _ l _;simp only[zE];have l0:=len0 l;have no:¬eH st d p mo g t l->fP st d p mo g t l (decide False)/\True:=fun h=>⟨by simp[fP,h],trivial⟩
 refine⟨trivial,fun v hv=>⟨fun h=>no fun k=>h (hv.2 k.1.1),fun h hs=>⟨fun h1=>no fun k=>by have:=k.1.2;omega,fun h1=>⟨fun h2=>no fun k=>by have:=k.2.1.1.1;omega,
  fun h2=>⟨fun h3=>no fun k=>by have:=k.2.1.1.2;omega,fun h3=>⟨trivial,fun b hb=>⟨fun h4=>no fun k=>h4 (hb.2 k.2.1.2.1),fun h4=>⟨trivial,fun c hc=>⟨fun h5=>no fun k=>h5 (hc.2 k.2.1.2.2),fun h5 hs2=> ?_⟩⟩⟩⟩⟩⟩⟩⟩⟩
 have k1:=hv.1 (zA.1 h);have k4:=hb.1 (zA.1 h4);have k5:=hc.1 (zA.1 h5);refine⟨fun m n to i=>(0<=i/\i<=l.len)/\(m=dH l 0 (-1) i/\n=dH l 4 (-1) i/\to=dH l 3 0 i)/\∀j:Int,0<=j->j<i->kJ p.len l j,fun _ _ _ i=>(l.len-i).toNat,
  ⟨⟨by omega,l0⟩,⟨by rw[pV],by rw[pV],by rw[pV]⟩,fun j _ _=>by omega⟩,fun m _ n _ to _ i ri hJ=> ?_⟩
 obtain⟨⟨i0,i1⟩,⟨rfl,rfl,rfl⟩,hI⟩:=hJ;refine⟨fun hlt=>⟨i0,hlt,fun _ _ _ _ _ _ _ _ _=>⟨fun g1=>no fun k=>by have:=(k.2.2 i i0 hlt).1.1;omega,fun g1=>⟨fun g2=>no fun k=>by have:=(k.2.2 i i0 hlt).1.2;omega,
  fun g2=>⟨fun g3=>no fun k=>by have:=(k.2.2 i i0 hlt).2.1;omega,fun g3=>⟨fun g4=>no fun k=>by have:=(k.2.2 i i0 hlt).2.1;omega,fun g4 _=>⟨fun g5=>no fun k=>by have:=(k.2.2 i i0 hlt).2.1;omega,
  fun g5=>⟨trivial,fun x hx=>⟨fun g6=>no fun k=>g6 (hx.2 (k.2.2 i i0 hlt).2.2.1),fun g6=>⟨trivial,fun y hy=>⟨fun g7=>no fun k=>g7 (hy.2 (k.2.2 i i0 hlt).2.2.2),fun g7=> ?_⟩⟩⟩⟩⟩⟩⟩⟩⟩⟩,fun hge=> ?_⟩
 ·refine⟨by rw[au];omega,⟨⟨by omega,by omega⟩,⟨by rw[Jd _ _ _ i0],by rw[Jd _ _ _ i0],by rw[Jd _ _ _ i0]⟩,fun j j0 j1=> ?_⟩,by show(l.len-(i+1)).toNat<(l.len-i).toNat;omega⟩
  by_cases e:j=i
  ·rw[e]
   exact⟨⟨by omega,by omega⟩,⟨by omega,by omega,by omega⟩,hx.1 (zA.1 g6),hy.1 (zA.1 g7)⟩
  ·exact hI j j0 (by omega)
 ·refine⟨?_,trivial⟩
  have:eH st d p mo g t l:=⟨⟨k1,by omega⟩,⟨⟨by omega,by omega⟩,k4,k5⟩,fun j j0 j1=>hI j j0 (by omega)⟩
  show decide True=true↔_;simp[this]
theorem sH{s:Sl}{m i:Int}(h:0<=i):aT s m (i+1).toNat=if s.int i 0<=m then aT s m i.toNat++[uK s i]else aT s m i.toNat:=by
 have e:(i+1).toNat=i.toNat+1:=by omega
 have e2:((i.toNat:Nat):Int)=i:=by omega
 rw[e];show(if s.int ((i.toNat:Nat):Int) 0<=m then _ else _)=_
 rw[e2]
theorem an7{s:Sl}{l:List (List D)}{a b c:Int}{x y z:D}(h:Nu s (zB l)):Nu (zF s (zB [[.int a, .int b, .int c,x,y,z]])) (zB (l++[[.int a, .int b, .int c]])):=by
 rw[<-jL];have e1:(zB [[.int a, .int b, .int c,x,y,z]]).len=1:=rfl;refine⟨by rw[dG,dG,h.1];rfl,fun i i0 i1=> ?_⟩
 rw[dG,e1]at i1;by_cases k:i<s.len
 ·have k':i<(zB l).len:=h.1▸k
  rw[aS i0 k,aS i0 k,aS i0 k,aS i0 k',aS i0 k',aS i0 k'];exact h.2 i i0 k
 ·have e:i=s.len:=by omega
  have k1:s.len<=i:=by omega
  have k2:(zB l).len<=i:=by rw[<-h.1];omega
  rw[aG k1,aG k1,aG k1,aG k2,aG k2,aG k2,<-h.1,e,Int.sub_self];exact⟨rfl,rfl,rfl⟩
theorem ap9:aiq:=by
 intro s m _ hp hs;have hp:s.len<=1000000:=hp;have s0:=len0 s;refine⟨fun r i=>(0<=i/\i<=s.len)/\r.len<=i/\Nu r (zB (aT s m i.toNat)),fun _ i=>(s.len-i).toNat,⟨⟨by omega,s0⟩,zG _,⟨rfl,fun i i0 i1=>by rw[len_nil]at i1;omega⟩⟩,fun r i ri hJ=> ?_⟩
 obtain⟨⟨i0,i1⟩,hl,hI⟩:=hJ;have r0:=len0 r;refine⟨fun hlt=>⟨i0,hlt,fun _ _ _=>⟨fun h=> ?_,fun h=> ?_⟩⟩,fun hge=>⟨?_,trivial⟩⟩
 ·have e1:(zB [[.int (s.int i 0), .int (s.int i 1), .int (s.int i 2),(s.sub i 3).d,(s.sub i 4).d,(s.sub i 5).d]]).len=1:=rfl
  refine⟨by rw[e1];omega,by rw[au];omega,⟨⟨by omega,by omega⟩,by rw[dG,e1];omega, ?_⟩,by show(s.len-(i+1)).toNat<(s.len-i).toNat;omega⟩
  rw[sH i0,if_pos h];exact an7 hI
 ·refine⟨by rw[au];omega,⟨⟨by omega,by omega⟩,by omega, ?_⟩,by show(s.len-(i+1)).toNat<(s.len-i).toNat;omega⟩
  rw[sH i0,if_neg h];exact hI
 ·have:i.toNat=s.n:=by unfold zD at*;omega
  rw[this]at hI;exact hI
theorem Ae{f:Int->Int}{i:Int}(h:0<=i):sumTo f (i+1).toNat=sumTo f i.toNat+f i:=by
 have e:(i+1).toNat=i.toNat+1:=by omega
 have e2:((i.toNat:Nat):Int)=i:=by omega
 rw[e];show sumTo f i.toNat+f ((i.toNat:Nat):Int)=_;rw[e2]
theorem auQ:anP:=by
 intro st _ d p mo _ g _ t _ l _;simp only[zE];have l0:=len0 l;refine⟨trivial,fun v hv=>⟨fun h=>⟨⟨fun _=>⟨rfl,rfl⟩,fun k=>absurd (hv.2 k) h⟩,trivial⟩,fun h hs=> ?_⟩⟩
 have k:=hv.1 (zA.1 h);have kl:=k.1.2;let f:Int->Int:=fun i=>if l.bool i 9=true then 0 else l.int i 6
 refine⟨fun n i=>(0<=i/\i<=l.len)/\(0<=n/\n<=1099511627776*i)/\n=sumTo f i.toNat,fun _ i=>(l.len-i).toNat,⟨⟨by omega,l0⟩,⟨by omega,by omega⟩,rfl⟩,fun n _ i ri hJ=> ?_⟩
 obtain⟨⟨i0,i1⟩,⟨n0,n1⟩,hn⟩:=hJ;refine⟨fun hlt=>⟨i0,hlt,fun _ _ _ _ _ _ _ _ _=> ?_⟩,fun hge=>⟨⟨fun k'=>absurd k k',fun _=>⟨?_,rfl⟩⟩,trivial⟩⟩
 ·have ka:=(k.2.2 i i0 hlt).2.2.1
  obtain⟨ka0,ka1⟩:=ka;refine⟨fun hb=> ?_,fun hb=> ?_⟩
  ·have hf:f i=0:=by show(if l.bool i 9=true then _ else _)=_;rw[if_pos hb]
   exact⟨by rw[au];omega,by rw[au];omega,⟨⟨by omega,by omega⟩,⟨by omega,by omega⟩,by rw[Ae i0,<-hn,hf]⟩,by show(l.len-(i+1)).toNat<(l.len-i).toNat;omega⟩
  ·have hf:f i=l.int i 6:=by show(if l.bool i 9=true then _ else _)=_;rw[if_neg hb]
   exact⟨by rw[au];omega,by rw[au];omega,⟨⟨by omega,by omega⟩,⟨by omega,by omega⟩,by rw[Ae i0,<-hn,hf]⟩,by show(l.len-(i+1)).toNat<(l.len-i).toNat;omega⟩
 ·have:i.toNat=l.n:=by unfold zD at*;omega
  rw[hn,this];rfl
theorem ac6{p:Sl}{day i:Int}(h:0<=i):pR p day 0 (i+1).toNat=pR p day 0 i.toNat++iH p day i:=by
 have e:(i+1).toNat=i.toNat+1:=by omega
 have e2:(0:Int)+((i.toNat:Nat):Int)=i:=by omega
 rw[e];show pR p day 0 i.toNat++iH p day (0+((i.toNat:Nat):Int))=_;rw[e2]
theorem auR:anQ:=by
 intro p day _ hp hs;obtain⟨hp,ha⟩:=(show OU p day from hp)
 have p0:=len0 p;refine⟨fun r i=>(0<=i/\i<=p.len)/\r.len<=i/\r=zB (pR p day 0 i.toNat),fun _ i=>(p.len-i).toNat,⟨⟨by omega,p0⟩,zG _,Eb⟩,fun r i ri hJ=> ?_⟩
 obtain⟨⟨i0,i1⟩,hl,hI⟩:=hJ;have r0:=len0 r;refine⟨fun hlt=>⟨i0,hlt,fun _ _ _ _=> ?_⟩,fun hge=>⟨?_,trivial⟩⟩
 ·have hx:=ha i i0 hlt
  obtain⟨x0,x1⟩:=hx;have one:∀a b c e:D,(zB [[a,b,c,e]]).len=1:=fun _ _ _ _=>rfl
  have add:∀{a b c e:D},iH p day i=[[a,b,c,e]]->(r.len+(zB [[a,b,c,e]]).len)*32<=140737488355328/\iA (i+1)/\(((0<=i+1/\i+1<=p.len)/\(zF r (zB [[a,b,c,e]])).len<=i+1/\zF r (zB [[a,b,c,e]])=zB (pR p day 0 (i+1).toNat))/\(p.len-(i+1)).toNat<(p.len-i).toNat):=fun{a b c e} h=>
   ⟨by rw[one];omega,by rw[au];omega,⟨⟨by omega,by omega⟩,by rw[dG,one];omega,by rw[hI,jL,ac6 i0,h]⟩,by omega⟩
  refine⟨by rw[au];omega,fun h1=>add ?_,fun h1=>⟨fun h2=>add ?_,fun h2=>⟨fun h3=>add ?_,fun h3=> ?_⟩⟩⟩
  ·unfold iH;rw[if_pos (.inl h1)]
  ·unfold iH;rw[if_pos (.inr h2)]
  ·unfold iH;rw[if_neg (by omega),if_pos h3]
  ·have e:iH p day i=[]:=by unfold iH;rw[if_neg (by omega),if_neg h3]
   exact⟨by rw[au];omega,⟨⟨by omega,by omega⟩,by omega,by rw[ac6 i0,e,List.append_nil];exact hI⟩,by show(p.len-(i+1)).toNat<(p.len-i).toNat;omega⟩
 ·have:i.toNat=p.n:=by unfold zD at*;omega
  rw[this]at hI;exact hI
theorem aqc:air:=fun n _ d _ _=>⟨trivial,fun a b _ c e _ h=>⟨h,trivial⟩⟩
theorem ahr:aac:=by
 intro f _ l _ hp hs;obtain⟨⟨f0,f1⟩,hl⟩:=(show rX f l from hp)
 have l0:=len0 l;refine⟨fun r i=>(0<=i/\i<=l.len)/\r.len=i/\∀k:Int,0<=k->k<i->r.int k 0=f+k/\r.int k 1=l.int k 0/\r.int k 2=0,fun _ i=>(l.len-i).toNat,⟨⟨by omega,l0⟩,rfl,fun k _ _=>by omega⟩,fun r _ i ri hJ=> ?_⟩
 obtain⟨⟨i0,i1⟩,hr,hI⟩:=hJ;refine⟨fun hlt=>⟨i0,hlt,fun _=> ?_⟩,fun hge=>⟨⟨by omega,fun k k0 k1=>hI k k0 (by omega)⟩,trivial⟩⟩
 have e1:(zB [[.int (f+i), .int (l.int i 0), .int 0,Sl.nil.d,Sl.nil.d,Sl.nil.d]]).len=1:=rfl;refine⟨by rw[au];omega,by rw[e1];omega,by rw[au];omega,⟨⟨by omega,by omega⟩,by rw[dG,e1];omega,fun k k0 k1=> ?_⟩,by show(l.len-(i+1)).toNat<(l.len-i).toNat;omega⟩
 by_cases e:k<i
 ·rw[aS k0 (by omega),aS k0 (by omega),aS k0 (by omega)]
  exact hI k k0 e
 ·have e:k=i:=by omega
  rw[aG (by omega),aG (by omega),aG (by omega),hr,e,Int.sub_self];exact⟨rfl,rfl,rfl⟩
theorem akf:acQ:=by
 intro x _ _;simp only[zE];exact⟨trivial,fun a b _ c e _ h=>⟨⟨rfl,rfl,rfl,rfl,h.1,h.2.1,h.2.2⟩,trivial⟩⟩
theorem amY:afR:=fun a b _ c d _ _ _=>⟨fun h _=>⟨by simp[yM,h],trivial⟩,fun h=>⟨by simp[yM,h],trivial⟩⟩
set_option maxRecDepth 20000
theorem qP{st:Int}{d p q:Sl}{st':Int}{d' p':Sl}(h:aY st d p q st' d' p' 0):st'=st/\aA st d' p'/\fG d' d/\behind p q p':=by
 have ok:l9 st d p q:=qD fun k=>absurd (h.1 k).1 (by decide)
 have hl:p.len+q.len<=4000:=by
  rcases q7 4000 (p.len+q.len)with k|k
  ·exact absurd ((h.2 ok).1 k).1 (by decide)
  ·exact k
 obtain⟨_,e,hd,hb⟩:=(h.2 ok).2 hl;obtain⟨hv,hf⟩:=ok;have dl:=hd.1;refine⟨e,⟨by rw[dl];exact hv.1,fun i i0 i1=>by rw[hd.2 i i0 i1];exact hv.2.1 i i0 (by omega),by rw[hb.1];exact hl, ?_⟩,hd,hb⟩
 rw[dl];exact(aai hb 0).2 ⟨hv.2.2.2,hf⟩
theorem agc{st:Int}{d p q:Sl}{st':Int}{d' p':Sl}(h:aY st d p q st' d' p' 0):p'.len=p.len+q.len:=(qP h).2.2.2.1
theorem ala{st:Int}{d p:Sl}{day m:Int}{name:ByteArray}{two:Bool}{s:Sl}{known st':Int}{d' p':Sl}(h:yJ st d p day m name two s known st' d' p' 0):st'=st/\aA st d' p'/\p.len<=p'.len:=by
 obtain⟨r,e0,ho,h1,h2⟩:=h;have e:e0=0:=qD fun k=>k (h1 k).2.symm
 have:=qP (h2 e);have l:=agc (h2 e);have r0:=len0 r;exact⟨this.1,this.2.1,by omega⟩
theorem an8{st:Int}{d p:Sl}{day m:Int}{a:Bool}{b:Sl}{c:Bool}{f:Sl}{st':Int}{d' p':Sl}(h:DN st d p day m a b c f st' d' p' 0):st'=st/\aA st d' p'/\p.len<=p'.len:=by
 obtain⟨r,e0,ho,h1,h2⟩:=h;have e:e0=0:=qD fun k=>k (h1 k).2.symm
 have:=qP (h2 e);have l:=agc (h2 e);have r0:=len0 r;exact⟨this.1,this.2.1,by omega⟩
theorem rF{p q r:Sl}(h:aQ p q)(g:aQ q r):aQ p r:=⟨h.1.trans g.1,fun i i0 i1=>by
 obtain⟨a,b,c,e⟩:=h.2 i i0 i1;obtain⟨a',b',c',e'⟩:=g.2 i i0 (by rw[<-h.1];exact i1);exact⟨a.trans a',b.trans b',c.trans c',e.trans e'⟩⟩
theorem Vo{I:iM}{n x:Int}{d1 p1 d2 p2:Sl}(h:I.learned n d1 p1)(n0:0<=n)(hl:learnt I.st d1 p1 (I.st+n) x I.st d2 p2)(hx:x=I.us.int n 1):I.learned (n+1) d2 p2:=by
 obtain⟨hp,hd,h1,h2⟩:=h;obtain⟨_,gp,gd,g⟩:=hl;have e:I.st+n-I.st=n:=by omega
 rw[e]at gd g;have d0:=len0 I.d;have le:d2.len=imax I.d.len (n+1):=by rw[gd,hd];unfold imax;(repeat' split)<;>omega
 have lo:n+1<=d2.len/\I.d.len<=d2.len:=by rw[le];unfold imax;split<;>omega
 refine⟨rF gp hp,le,fun k k0 k1=> ?_,fun k k0 k1=> ?_⟩
 ·rw[g k k0 (by omega)]
  by_cases ek:k=n
  ·rw[if_pos ek,hx,ek]
  ·rw[if_neg ek];exact h1 k k0 (by omega)
 ·rw[g k (by omega) (by omega),if_neg (by omega)]
  exact h2 k (by omega) k1
theorem avK{y:Sl}{year:Int}(h:¬zy y year):∃i,vZ y year i:=by
 have key:∀n:Nat,(∃i:Int,0<=i/\i<n/\y.int i 0<=year/\∀j:Int,i<j->j<n->year<y.int j 0)\/∀j:Int,0<=j->j<n->year<y.int j 0:=by
  intro n
  induction n with
  |zero=>exact .inr fun j _ _=>by omega
  | succ n ih=>
   by_cases k:y.int n 0<=year
   ·exact .inl ⟨n,by omega,by omega,k,fun j _ _=>by omega⟩
   ·rcases ih with⟨i,i0,i1,i2,i3⟩|ih
    ·refine .inl ⟨i,i0,by omega,i2,fun j j0 j1=> ?_⟩
     by_cases e:j=n
     ·rw[e];omega
     ·exact i3 j j0 (by omega)
    ·refine .inr fun j j0 j1=> ?_
     by_cases e:j=n
     ·rw[e];omega
     ·exact ih j j0 (by omega)
 rcases key y.n with⟨i,i0,i1,i2,i3⟩|k
 ·exact⟨i,i0,i1,i2,i3⟩
 ·exact absurd k h
theorem aiE{y:Sl}{mo g t month aC r dP g' t' e:Int}(h:held y mo g t month aC r dP g' t' e)(he:e=0)(hr:r<=1099511627776):II r:=by
 have ok:Dk y mo g t month aC:=qD fun k=>absurd ((h.1 k).2.2.2.2.symm.trans he) (by decide)
 have ha:¬zy y (1900+month/12):=fun k=>absurd (((h.2 ok).1 k).2.2.2.2.symm.trans he) (by decide)
 obtain⟨i,hi⟩:=avK ha;have h2:=(h.2 ok).2 i hi;have hg:goes mo month g+aC<=1099511627776:=by
  rcases q7 1099511627776 (goes mo month g+aC)with k|k
  ·exact absurd ((h2.1 k).2.2.2.2.symm.trans he) (by decide)
  ·exact k
 obtain⟨e1,e2,e3,e4,_⟩:=h2.2 hg;obtain⟨o1,o2,o3,o4,o5,o6⟩:=ok;have hA:amt g':=by
  rw[e2];refine⟨?_,hg⟩
  have:=o3.1;have:=o6.1;unfold goes;split<;>omega
 have:=Gw (o1.1 i hi.1 hi.2.1) (m:=month % 12+1) ⟨by omega,by omega⟩ hA;have hgo:-1099511627776<=goes mo month t/\goes mo month t<=1099511627776:=by unfold goes;split<;>omega
 exact⟨by omega,hr⟩
def Vp(e:Int):wo:=⟨0,zC,zC,0,0,0,zC,0,0,0,0,0,0,0,0,0,decide False,e⟩
theorem dI(e:Int):(Vp e).err e:=⟨rfl,⟨rfl,rfl,rfl⟩,⟨rfl,rfl,rfl,rfl⟩,⟨rfl,rfl,rfl,rfl⟩,⟨rfl,rfl,rfl,rfl,rfl⟩,rfl⟩
def JP(l u:Sl)(day month bW num:Int)(a:Bool)(b:Sl)(c:Bool)(f:Sl)(name:ByteArray)(two:Bool)(rt ys:Sl)(known fr st:Int)(K:Int->Sl->Sl->Int->Int->Int->Int->Int->Prop):
  Int->Int->Sl->Sl->Int->Int->Int->Sl->Sl->Int->Int->Int->Int->Bool->Sl->Bool->Sl->ByteArray->Bool->Sl->Sl->Int->Int->Int->Int->Prop:=
 fun e st' d p mo g t l' u' I4 agd Ql num' a' b' c' f' name' two' rt' ys' known' fr' aC ni=>
  (l=l'/\u=u'/\day=I4/\month=agd/\bW=Ql/\num=num')/\(a=a'/\b=b'/\c=c'/\f=f'/\name=name'/\two=two'/\rt=rt'/\ys=ys'/\known=known'/\fr=fr')/\st=st'/\K e d p mo g t aC ni
theorem alb{u l:Sl}{st month:Int}{C:Int->Prop}(b:(0<=st/\st<=2400)/\month<=2153/\st<=month)
  (hbad:¬(u.len=month-st+1/\∀k:Int,0<=k->k<u.len->u.int k 0=st+k)->C 2)
  (aAD:(u.len=month-st+1/\∀k:Int,0<=k->k<u.len->u.int k 0=st+k)->1200<=l.len->C 5)
  (hent:(u.len=month-st+1/\∀k:Int,0<=k->k<u.len->u.int k 0=st+k)->l.len<1200->¬(∀k:Int,0<=k->k<u.len->u.int k 2=0/\amt (u.int k 1))->C 350)
  (hok:(u.len=month-st+1/\∀k:Int,0<=k->k<u.len->u.int k 0=st+k)->l.len<1200->(∀k:Int,0<=k->k<u.len->u.int k 2=0/\amt (u.int k 1))->C 0):
  ((Small u)->(iA (month-st))/\(iA ((month-st)+1))/\((((zD u)≠((month-st)+1))->C 2)/\(¬((zD u)≠((month-st)+1))->((Small u)->(∃(J:Int->Prop)(M:Int->Nat),J 0/\(∀i:Int,((iA i)->(J i->(((i<(zD u))->((0:Int)<=i)/\(i<(zD u))/\((iA (zH u i 0))->((iA (zH u i 1))->((iA (zH u i 2))->((Ranged (qE u i 3) [none,some .i64])->((Ranged (qE u i 4) [none,some .i64,some .i64])->((Ranged (qE u i 5) [none])->(iA (st+i))/\((((zH u i 0)≠(st+i))->C 2)/\(¬((zH u i 0)≠(st+i))->(iA (i+1))/\(J (i+1)/\M (i+1)<M i))))))))))/\(¬(i<(zD u))->((Small l)->((((zD l)>=1200)->C 5)/\(¬((zD l)>=1200)->((Small u)->(∃(J:Int->Prop)(M:Int->Nat),J 0/\(∀i:Int,((iA i)->(J i->(((i<(zD u))->((0:Int)<=i)/\(i<(zD u))/\((iA (zH u i 0))->((iA (zH u i 1))->((iA (zH u i 2))->((Ranged (qE u i 3) [none,some .i64])->((Ranged (qE u i 4) [none,some .i64,some .i64])->((Ranged (qE u i 5) [none])->((((zH u i 2)≠0)->C 350)/\(¬((zH u i 2)≠0)->(yL (zH u i 1))/\(∀b:Bool,((vN (zH u i 1) (decide (b=true)))->(((¬(b=true))->C 350)/\(¬(¬(b=true))->(iA (i+1))/\(J (i+1)/\M (i+1)<M i))))))))))))))/\(¬(i<(zD u))->C 0)))))))))))))))))))):=by
 simp only[zE];have u0:=len0 u;refine fun hs=>⟨by rw[au];omega,by rw[au];omega,fun h=>hbad fun k=>h k.1,fun h hs'=> ?_⟩
 have hlen:u.len=month-st+1:=zA.1 h;refine⟨fun i=>(0<=i/\i<=u.len)/\∀k:Int,0<=k->k<i->u.int k 0=st+k,fun i=>(u.len-i).toNat,⟨⟨by omega,u0⟩,fun k _ _=>by omega⟩,fun i ri hJ=> ?_⟩
 obtain⟨⟨i0,i1⟩,hI⟩:=hJ;refine⟨fun hlt=>⟨i0,hlt,fun _ _ _ _ _ _=>⟨by rw[au];omega,fun hn=>hbad fun k=>hn (k.2 i i0 hlt),fun hn=>⟨by rw[au];omega,⟨⟨by omega,by omega⟩,fun k k0 k1=> ?_⟩,by show(u.len-(i+1)).toNat<(u.len-i).toNat;omega⟩⟩⟩,fun hge hsl=> ?_⟩
 ·by_cases e:k=i
  ·rw[e];exact zA.1 hn
  ·exact hI k k0 (by omega)
 have hA:u.len=month-st+1/\∀k:Int,0<=k->k<u.len->u.int k 0=st+k:=⟨hlen,fun k k0 k1=>hI k k0 (by omega)⟩
 refine⟨fun hf=>aAD hA hf,fun hf _=> ?_⟩
 refine⟨fun i=>(0<=i/\i<=u.len)/\∀k:Int,0<=k->k<i->u.int k 2=0/\amt (u.int k 1),fun i=>(u.len-i).toNat,⟨⟨by omega,u0⟩,fun k _ _=>by omega⟩,fun j rj hJ=> ?_⟩
 obtain⟨⟨j0,j1⟩,hI2⟩:=hJ;refine⟨fun hlt=>⟨j0,hlt,fun _ _ _ _ _ _=>⟨fun hn=>hent hA (by omega) fun k=>hn (k j j0 hlt).1,fun hn=>⟨trivial,fun v hv=>⟨fun hm=>hent hA (by omega) fun k=>hm (hv.2 (k j j0 hlt).2),fun hm=>⟨by rw[au];omega,⟨⟨by omega,by omega⟩,fun k k0 k1=> ?_⟩,by show(u.len-(j+1)).toNat<(u.len-j).toNat;omega⟩⟩⟩⟩⟩,fun hge=>hok hA (by omega) fun k k0 k1=>hI2 k k0 (by omega)⟩
 by_cases e:k=j
 ·rw[e];exact⟨zA.1 hn,hv.1 (zA.1 hm)⟩
 ·exact hI2 k k0 (by omega)
theorem axr:as7:=by
  intro st rst d rd p rp mo rmo g rg t rt l rl es res day aAE month ayQ bW azx num aAF sa sb rsb sc sd rsd name two Xr rrt ys rys known ayR hp;simp only[zE];obtain⟨hn,he⟩:=(show Fv name/\es.len<=1000000 from hp)
  let I:iM:=⟨st,d,p,mo,g,t,l,es,day,month,bW,num,sa,sb,sc,sd,name,two,Xr,ys,known⟩
  have err:∀e,I.pay (Vp e)->qQ st d p mo g t l es day month bW num sa sb sc sd name two Xr ys known 0 zC zC 0 0 0 zC 0 0 0 0 0 0 0 0 0 (decide False) e/\True:=fun e h=>⟨h,trivial⟩
  have l0:=len0 l;have p0:=len0 p;refine⟨trivial,fun v hv=>⟨fun h=>err 2 ⟨fun _=>dI 2,fun k=>absurd (hv.2 k) h⟩,fun h hs2=>⟨he,fun u Jf hu=> ?_⟩⟩⟩
  have hV:eH st d p mo g t l:=hv.1 (zA.1 h);have hu:Nu u I.us:=hu;have ul:u.len=I.us.len:=hu.1;have hst:=hV.1.1.1;have hl12:=hV.1.2;have agf:∀{c o},I.chk c->c≠0->o.err c->I.pay o:=fun{c o} h1 h2 h3=>⟨fun k=>absurd hV k,fun _=>⟨c,h1,fun _=>h3,fun k=>absurd k h2⟩⟩
  have A1:(u.len=month-st+1/\∀k:Int,0<=k->k<u.len->u.int k 0=st+k)↔(I.us.len=I.month-I.st+1/\∀k:Int,0<=k->k<I.us.len->I.us.int k 0=I.st+k):=by
    rw[ul];exact⟨fun k=>⟨k.1,fun j j0 j1=>by rw[<-(hu.2 j j0 (by omega)).1];exact k.2 j j0 j1⟩,fun k=>⟨k.1,fun j j0 j1=>by rw[(hu.2 j j0 (by omega)).1];exact k.2 j j0 j1⟩⟩
  have A2:(∀k:Int,0<=k->k<u.len->u.int k 2=0/\amt (u.int k 1))↔I.qU:=by
    unfold iM.qU;rw[ul];exact⟨fun k j j0 j1=>by rw[<-(hu.2 j j0 (by omega)).2.1,<-(hu.2 j j0 (by omega)).2.2];exact k j j0 j1,fun k j j0 j1=>by rw[(hu.2 j j0 (by omega)).2.1,(hu.2 j j0 (by omega)).2.2];exact k j j0 j1⟩
  have Gx:¬I.mD->I.chk 2:=fun h=>⟨fun _=>rfl,fun k=>absurd k h,fun k=>absurd k h,fun k=>absurd k h⟩
  have tail:(1<=bW/\bW<=1099511627776/\I.qR<num)->(st<=month/\month<=2153/\I.yw<month)->_:=fun a1 a2=>alb (u:=u) (l:=l) (st:=st) (month:=month) (C:=I.chk) ⟨⟨hst.1,hst.2.1⟩,a2.2.1,a2.1⟩
    (fun h=>Gx fun k=>h (A1.2 k.2.2)) (fun h hf=>⟨fun k=>absurd ⟨a1,a2,A1.1 h⟩ k,fun _ _=>rfl,fun _ k=>absurd k (by show¬l.len<1200;omega),fun _ k=>absurd k (by show¬l.len<1200;omega)⟩)
    (fun h hf hx=>⟨fun k=>absurd ⟨a1,a2,A1.1 h⟩ k,fun _ k=>absurd k (by show¬1200<=l.len;omega),fun _ _ _=>rfl,fun _ _ k=>absurd (A2.2 k) hx⟩)
    (fun h hf hx=>⟨fun k=>absurd ⟨a1,a2,A1.1 h⟩ k,fun _ k=>absurd k (by show¬1200<=l.len;omega),fun _ _ k=>absurd (A2.1 hx) k,fun _ _ _=>rfl⟩)
  simp only[zE]at tail;refine⟨fun _=>⟨zG _,by decide,fun _=> ?_,fun h=>absurd (by first|trivial|decide) h⟩,fun h=>absurd (by decide) h⟩
  refine⟨fun c=>I.chk c,fun hsl=>⟨fun hl=> ?_,fun hl=> ?_⟩,fun c rc hc=> ?_⟩
  · have eN:I.qR=l.int (l.len-1) 4:=if_pos hl
    have eM:I.yw=l.int (l.len-1) 0:=if_pos hl;refine⟨by rw[au];omega,by omega,by omega,fun _=>⟨by rw[au];omega,by omega,by omega,fun _=>⟨fun a=>Gx fun k=>by have:=(show 1<=bW from k.1.1);omega,fun a1=>⟨fun a=>Gx fun k=>by have:=(show bW<=1099511627776 from k.1.2.1);omega,fun a2=>⟨fun a=>Gx fun k=>by have:=(show I.qR<num from k.1.2.2);rw[eN]at this;omega,fun a3=>⟨fun a=>Gx fun k=>by have:=(show st<=month from k.2.1.1);omega,fun a4=>⟨fun a=>Gx fun k=>by have:=(show month<=2153 from k.2.1.2.1);omega,fun a5=>⟨fun a=>Gx fun k=>by have:=(show I.yw<month from k.2.1.2.2);rw[eM]at this;omega,fun a6=> ?_⟩⟩⟩⟩⟩⟩⟩⟩
    exact tail ⟨by omega,by omega,by rw[eN];omega⟩ ⟨by omega,by omega,by rw[eM];omega⟩
  · have eN:I.qR=-1:=if_neg hl
    have eM:I.yw=-1:=if_neg hl;refine⟨fun a=>Gx fun k=>by have:=(show 1<=bW from k.1.1);omega,fun a1=>⟨fun a=>Gx fun k=>by have:=(show bW<=1099511627776 from k.1.2.1);omega,fun a2=>⟨fun a=>Gx fun k=>by have:=(show I.qR<num from k.1.2.2);rw[eN]at this;omega,fun a3=>⟨fun a=>Gx fun k=>by have:=(show st<=month from k.2.1.1);omega,fun a4=>⟨fun a=>Gx fun k=>by have:=(show month<=2153 from k.2.1.2.1);omega,fun a5=>⟨fun a=>Gx fun k=>by have:=(show I.yw<month from k.2.1.2.2);rw[eM]at this;omega,fun a6=> ?_⟩⟩⟩⟩⟩⟩
    exact tail ⟨by omega,by omega,by rw[eN];omega⟩ ⟨by omega,by omega,by rw[eM];omega⟩
  refine⟨fun hc0=>err c (agf hc hc0 (dI c)),fun hc0=>⟨by rw[au];omega,fun _=>⟨by decide,by decide,fun k=>absurd k (by decide),fun _=>⟨fun _=> ?_,fun k=>absurd (by first|trivial|decide) k⟩⟩,fun k=>absurd (by decide) k⟩⟩
  have ec:c=0:=zA.1 hc0;rw[ec]at hc;have hargs:I.mD:=qD fun k=>absurd (hc.1 k) (by decide)
  have hless:l.len<1200:=by
    rcases q7 l.len 1200 with k|k
    · exact k
    · exact absurd (hc.2.1 hargs k) (by decide)
  have hent:I.qU:=qD fun k=>absurd (hc.2.2.1 hargs hless k) (by decide)
  have agh:∀{o},(1200<I.us.len->o.err 5)->(I.us.len<=1200->∃d1 p1,I.learned I.us.len d1 p1/\I.settle d1 p1 o)->I.pay o:=fun h1 h2=>⟨fun k=>absurd hV k,fun _=>⟨0,hc,fun k=>absurd rfl k,fun _=>⟨h1,h2⟩⟩⟩
  let J:=JP l u day month bW num sa sb sc sd name two Xr ys known p.len st
  refine⟨J fun e d' p' dP g' t' _ _=>(mo=dP/\g=g'/\t=t')/\(e≠0->I.pay (Vp e))/\(e=0->aA st d' p'/\p'.len=p.len/\∀o,I.settle d' p' o->I.pay o),fun hsu=> ?_,fun e re st1 aAG d1 rd1 p1 rp1 mo1 aAH g1 rg1 t1 rt1 l1 rl1 u1 ru1 RF azy ayS avL alc ayT num1 azz a1 b1 rb1 c1 f1 rf1 name1 aAI aAJ aAK ys1 aAL known1 avM fr1 aAM agi avN asC azA hJ=> ?_⟩
  · refine⟨J fun i d' p' dP g' t' _ _=>(mo=dP/\g=g'/\t=t')/\(0<=i/\i<=u.len)/\aA st d' p'/\I.learned i d' p',fun i _ _ _ _ _ _ _ _ _ _ _ _ _ _ _ _ _ _ _ _ _ _ _ _=>(u.len-i).toNat, ?_,fun i ri st1 aAG d1 rd1 p1 rp1 mo1 aAH g1 rg1 t1 rt1 l1 rl1 u1 ru1 RF azy ayS avL alc ayT num1 azz a1 b1 rb1 c1 f1 rf1 name1 aAI aAJ aAK ys1 aAL known1 avM fr1 aAM agi avN asC azA hJ=> ?_⟩
    · have d0:=len0 d
      refine⟨⟨rfl,rfl,rfl,rfl,rfl,rfl⟩,⟨rfl,rfl,rfl,rfl,rfl,rfl,rfl,rfl,rfl,rfl⟩,rfl,⟨rfl,rfl,rfl⟩,⟨zG _,len0 u⟩,hV.1.1,fK p, ?_,fun k k0 k1=>by omega,fun k _ _=>rfl⟩
      show d.len=imax d.len 0;unfold imax;split<;>omega
    obtain⟨⟨rfl,rfl,rfl,rfl,rfl,rfl⟩,⟨rfl,rfl,rfl,rfl,rfl,rfl,rfl,rfl,rfl,rfl⟩,rfl,⟨rfl,rfl,rfl⟩,⟨i0,i1⟩,hv1,hI⟩:=hJ;have lo:i<=d1.len:=by have:=hI.2.1;rw[this];unfold imax;split<;>omega
    refine⟨fun hlt=>⟨i0,hlt,fun _ _ _ _ _ _=>⟨trivial,fun st2 ayU d2 rd2 p2 rp2 e re hl=> ?_⟩⟩,fun hge=> ?_⟩
    · have aam:=hent i i0 (by omega)
      have hm:=hargs.2.2.2 i i0 (by omega);obtain⟨c0,c1',c2⟩:=hu.2 i i0 hlt;rw[<-c0]at hm;rw[<-c1']at aam;have hm:u.int i 0=st+i:=hm;have ok:uM st d1 p1 (u.int i 0) (u.int i 1):=⟨hv1,aam.2.1,aam.2.2,by omega,by omega⟩;have hk:u.len=month-st+1:=ul.trans hargs.2.2.1;have hmo:month<=2153:=hargs.2.1.2.1;by_cases many:jw st d1 (u.int i 0)
      · obtain⟨e5,z1,z2,z3⟩:=(hl.2 ok).1 many
        refine⟨fun k=>by omega,fun _=>⟨fun _=>⟨⟨rfl,rfl,rfl,rfl,rfl,rfl⟩,⟨rfl,rfl,rfl,rfl,rfl,rfl,rfl,rfl,rfl,rfl⟩,rfl,⟨rfl,rfl,rfl⟩,fun _=> ?_,fun k=>by omega⟩,fun k=>absurd (by omega) k⟩⟩
        rw[e5];have:1200<=d1.len:=by rcases many.2 with k|k<;>omega
        have:1200<I.us.len:=by have:=many.1;omega
        exact agh (fun _=>dI 5) (fun k=>absurd k (by omega))
      · obtain⟨e0,hlt'⟩:=(hl.2 ok).2 many
        have est:st=st2:=hlt'.1.symm;subst est;refine⟨fun _=>⟨fun k=>absurd e0 k,fun _=>⟨by rw[au];omega,⟨⟨rfl,rfl,rfl,rfl,rfl,rfl⟩,⟨rfl,rfl,rfl,rfl,rfl,rfl,rfl,rfl,rfl,rfl⟩,rfl,⟨rfl,rfl,rfl⟩,⟨by omega,by omega⟩,L.Vh ok many hlt', ?_⟩,by show(u.len-(i+1)).toNat<(u.len-i).toNat;omega⟩⟩,fun k=>absurd e0 k⟩
        rw[hm]at hlt';exact Vo (I:=I) hI i0 hlt' c1'
    · have ei:i=u.len:=by omega
      refine⟨⟨rfl,rfl,rfl,rfl,rfl,rfl⟩,⟨rfl,rfl,rfl,rfl,rfl,rfl,rfl,rfl,rfl,rfl⟩,rfl,⟨rfl,rfl,rfl⟩,fun k=>absurd rfl k,fun _=>⟨hv1,hI.1.1,fun o ho=>agh (fun k=> ?_) (fun _=>⟨d1,p1,by rw[<-ul,<-ei];exact hI,ho⟩)⟩⟩
      have:=hv1.1;omega
  obtain⟨⟨rfl,rfl,rfl,rfl,rfl,rfl⟩,⟨rfl,rfl,rfl,rfl,rfl,rfl,rfl,rfl,rfl,rfl⟩,rfl,⟨rfl,rfl,rfl⟩,he1,hk1⟩:=hJ;refine⟨fun h=>err e (he1 h),fun h=>⟨by rw[au];omega,fun _=>⟨by decide,by decide,fun k=>absurd k (by decide),fun _=>⟨fun k=>absurd k (by decide),fun _=>⟨fun _=> ?_,fun k=>absurd (by first|trivial|decide) k⟩⟩⟩,fun k=>absurd (by decide) k⟩⟩
  obtain⟨v1,pl1,abZ⟩:=hk1 (zA.1 h);refine⟨J fun e d' p' dP g' t' _ _=>(mo=dP/\g=g'/\t=t')/\(e≠0->I.pay (Vp e))/\(e=0->aA st d' p'/\p.len<=p'.len/\∀o,I.due d' p' o->I.pay o),⟨hn,fun st2 ayU d2 rd2 p2 rp2 e2 re2 hq=>⟨fun h0=> ?_,fun h0=> ?_⟩⟩,fun e2 re2 st2 ayU d2 rd2 p2 rp2 mo2 aCr g2 rg2 t2 rt2 l2 rl2 u2 ru2 ayV aBK aBk aA2 atd aBl ayW aBL a2 b2 rb2 c2 f2 rf2 name2 aCs aCt aCu ys2 aCv aBm aA3 fr2 aCw an9 aA4 ayX aBM hJ=> ?_⟩
  · subst h0
    obtain⟨es2,v2,pl2⟩:=ala hq;have es2:=es2.symm;subst es2;exact⟨⟨rfl,rfl,rfl,rfl,rfl,rfl⟩,⟨rfl,rfl,rfl,rfl,rfl,rfl,rfl,rfl,rfl,rfl⟩,rfl,⟨rfl,rfl,rfl⟩,fun k=>absurd rfl k,fun _=>⟨v2,by omega,fun o ho=>abZ o ⟨_,d2,p2,0,hq,fun k=>absurd rfl k,fun _=>ho⟩⟩⟩
  · exact⟨⟨rfl,rfl,rfl,rfl,rfl,rfl⟩,⟨rfl,rfl,rfl,rfl,rfl,rfl,rfl,rfl,rfl,rfl⟩,rfl,⟨rfl,rfl,rfl⟩,fun k=>abZ _ ⟨_,d2,p2,e2,hq,fun _=>dI e2,fun k=>absurd k h0⟩,fun k=>absurd k h0⟩
  obtain⟨⟨rfl,rfl,rfl,rfl,rfl,rfl⟩,⟨rfl,rfl,rfl,rfl,rfl,rfl,rfl,rfl,rfl,rfl⟩,rfl,⟨rfl,rfl,rfl⟩,he1,hk1⟩:=hJ;refine⟨fun h=>err e2 (he1 h),fun h=>⟨by rw[au];omega,fun _=>⟨by decide,by decide,⟨fun k=>absurd k (by decide),fun _=>⟨fun k=>absurd k (by decide),fun _=>⟨fun k=>absurd k (by decide),fun _=>⟨fun _=> ?_,fun k=>absurd (by first|trivial|decide) k⟩⟩⟩⟩⟩,fun k=>absurd (by decide) k⟩⟩
  obtain⟨v2,pl2,pay3⟩:=hk1 (zA.1 h);refine⟨J fun e d' p' dP g' t' _ _=>(mo=dP/\g=g'/\t=t')/\(e≠0->I.pay (Vp e))/\(e=0->aA st d' p'/\p.len<=p'.len/\∀o,I.recover d' p' o->I.pay o),⟨trivial,fun n rn eo reo hq=>⟨fun h0=> ?_,fun h0=>⟨fun h1=> ?_,fun h1=>⟨fun h2=> ?_,fun h2=> ?_⟩⟩⟩⟩,fun e3 re3 st3 aAN d3 rd3 p3 rp3 mo3 aCx g3 rg3 t3 rt3 l3 rl3 u3 ru3 aCy aBN aBn aA5 aBO aBo aCz aBP a3 b3 rb3 c3 f3 rf3 name3 aCA aCB aCC ys3 aCD aBp aA6 fr3 aCE aBq aA7 aCF aBQ hJ=> ?_⟩
  · exact⟨⟨rfl,rfl,rfl,rfl,rfl,rfl⟩,⟨rfl,rfl,rfl,rfl,rfl,rfl,rfl,rfl,rfl,rfl⟩,rfl,⟨rfl,rfl,rfl⟩,fun k=>pay3 _ ⟨n,eo,hq,fun _=>dI eo,fun k=>absurd k h0⟩,fun k=>absurd k h0⟩
  · have e0:=zA.1 h0
    exact⟨⟨rfl,rfl,rfl,rfl,rfl,rfl⟩,⟨rfl,rfl,rfl,rfl,rfl,rfl,rfl,rfl,rfl,rfl⟩,rfl,⟨rfl,rfl,rfl⟩,fun k=>absurd e0 k,fun _=>⟨v2,pl2,fun o ho=>pay3 o ⟨n,eo,hq,fun k=>absurd e0 k,fun _=>⟨fun _=>ho,fun k=>by omega,fun k=>by omega⟩⟩⟩⟩
  · have e0:=zA.1 h0
    exact⟨⟨rfl,rfl,rfl,rfl,rfl,rfl⟩,⟨rfl,rfl,rfl,rfl,rfl,rfl,rfl,rfl,rfl,rfl⟩,rfl,⟨rfl,rfl,rfl⟩,fun _=>pay3 _ ⟨n,eo,hq,fun k=>absurd e0 k,fun _=>⟨fun k=>by omega,fun _=>dI 3,fun _ k=>by omega⟩⟩,fun k=>absurd k (by decide)⟩
  · have e0:=zA.1 h0
    and_intros
    all_goals first
      |exact(by show(1:Int)<=1000000;decide)
      | (intro st3 aAN d3 rd3 p3 rp3 e3 re3 hq3
         refine⟨fun h3=> ?_,fun h3=> ?_⟩
         · subst h3
           obtain⟨es3,v3,_,hb3⟩:=qP hq3;have pl3:=hb3.1;have:(zB [[.int day, .int month, .int 1, .int n]]).len=1:=rfl;have es3:=es3.symm;subst es3;exact⟨⟨rfl,rfl,rfl,rfl,rfl,rfl⟩,⟨rfl,rfl,rfl,rfl,rfl,rfl,rfl,rfl,rfl,rfl⟩,rfl,⟨rfl,rfl,rfl⟩,fun k=>absurd rfl k,fun _=>⟨v3,by omega,fun o ho=>pay3 o ⟨n,eo,hq,fun k=>absurd e0 k,fun _=>⟨fun k=>absurd k h1,fun k=>absurd k h2,fun _ _=>⟨_,d3,p3,0,hq3,fun k=>absurd rfl k,fun _=>ho⟩⟩⟩⟩⟩
         · exact⟨⟨rfl,rfl,rfl,rfl,rfl,rfl⟩,⟨rfl,rfl,rfl,rfl,rfl,rfl,rfl,rfl,rfl,rfl⟩,rfl,⟨rfl,rfl,rfl⟩,fun _=>pay3 _ ⟨n,eo,hq,fun k=>absurd e0 k,fun _=>⟨fun k=>absurd k h1,fun k=>absurd k h2,fun _ _=>⟨_,d3,p3,e3,hq3,fun _=>dI e3,fun k=>absurd k h3⟩⟩⟩,fun k=>absurd k h3⟩)
  obtain⟨⟨rfl,rfl,rfl,rfl,rfl,rfl⟩,⟨rfl,rfl,rfl,rfl,rfl,rfl,rfl,rfl,rfl,rfl⟩,rfl,⟨rfl,rfl,rfl⟩,he1,hk1⟩:=hJ;refine⟨fun h=>err e3 (he1 h),fun h=>⟨by rw[au];omega,fun _=> ?_,fun k=>absurd (by decide) k⟩⟩
  obtain⟨v3,pl3,ab1⟩:=hk1 (zA.1 h);refine⟨fun e _ st' d' p' dP g' t' l' u' I4 agd Ql num' a' b' c' f' name' two' rt' ys' known' fr' aC ni _ _ _ _ _ _ _ _ _ _ _ _ _ _ _ _ _=>(J fun e d' p' dP g' t' _ _=>(mo=dP/\g=g'/\t=t')/\aA st d' p'/\p.len<=p'.len/\∀o,I.fin d' p' o->I.pay o) e st' d' p' dP g' t' l' u' I4 agd Ql num' a' b' c' f' name' two' rt' ys' known' fr' aC ni,
    ⟨by decide,by decide,⟨fun k=>absurd k (by decide),fun _=>⟨fun k=>absurd k (by decide),fun _=>⟨fun k=>absurd k (by decide),fun _=>⟨fun k=>absurd k (by decide),fun _=>⟨fun _=>⟨trivial,fun st4 aAO d4 rd4 p4 rp4 e4 re4 hq=>⟨fun h0=>⟨fun k=>absurd h0 k,fun _=> ?_⟩,fun h0=>⟨fun _=>err e4 (ab1 _ ⟨_,d4,p4,e4,hq,fun _=>dI e4,fun k=>absurd k h0⟩),fun k=>k h0⟩⟩⟩,fun k=>absurd (by first|trivial|decide) k⟩⟩⟩⟩⟩⟩,
    fun e4 re4 q4 rq4 st4 aAO d4 rd4 p4 rp4 mo4 aCG g4 rg4 t4 rt4 l4 rl4 u4 ru4 aCH aBR aBr aA8 aBS aBs aCI aBT a4 b4 rb4 c4 f4 rf4 aBU aCJ aCK aCL ys4 aCM aBt aA9 fr4 aCN aBu aBa aCO aBV z0 rz0 z1 rz1 z2 rz2 z3 rz3 z4 rz4 z5 rz5 z6 rz6 z7 rz7 z8 rz8 z9 rz9 z10 aCP z11 aCQ z12 aCR z13 aCS z14 aCT z15 aCU z16 hJ=> ?_⟩
  · subst h0
    obtain⟨es4,v4,pl4⟩:=an8 hq;have es4:=es4.symm;subst es4;exact⟨⟨rfl,rfl,rfl,rfl,rfl,rfl⟩,⟨rfl,rfl,rfl,rfl,rfl,rfl,rfl,rfl,rfl,rfl⟩,rfl,⟨rfl,rfl,rfl⟩,v4,by omega,fun o ho=>ab1 o ⟨_,d4,p4,0,hq,fun k=>absurd rfl k,fun _=>ho⟩⟩
  obtain⟨⟨rfl,rfl,rfl,rfl,rfl,rfl⟩,⟨rfl,rfl,rfl,rfl,rfl,rfl,rfl,rfl,rfl,rfl⟩,rfl,⟨rfl,rfl,rfl⟩,v4,pl4,YH⟩:=hJ;refine⟨by rw[au];omega,fun _=>⟨by decide,by decide,⟨fun k=>absurd k (by decide),fun _=>⟨fun k=>absurd k (by decide),fun _=>⟨fun k=>absurd k (by decide),fun _=>⟨fun k=>absurd k (by decide),fun _=>⟨fun k=>absurd k (by decide),fun _=>⟨fun _=> ?_,fun k=>absurd (by first|trivial|decide) k⟩⟩⟩⟩⟩⟩⟩,fun k=>absurd (by decide) k⟩
  have pn4:=v4.2.2.1;have aCV:(zP p4 p.len p4.len).len=p4.len-p.len:=nK pl4;refine⟨J fun e d' p' dP g' t' aC _=>(mo=dP/\g=g'/\t=t')/\(e≠0->I.pay (Vp e))/\(e=0->aA st d' p'/\aC=I.gy p'/\amt aC/\∀o,I.fin d' p' o->I.pay o), ?_,fun e5 re5 st5 aCW d5 rd5 p5 rp5 Vq aAP g5 rg5 t5 rt5 l5 rl5 u5 ru5 aCX aBW aBv aBb aBX aBw aCY aBY a5 b5 rb5 c5 f5 rf5 name5 aCZ aC0 aC1 ys5 aC2 aBx aBd fr5 aC3 aoa aBe aC4 aBZ hJ=> ?_⟩
  · constructor<;>
    · refine⟨p0,pl4,zG _, ?_⟩
      refine⟨fun s i=>(0<=i/\i<=p4.len-p.len)/\(-(1099511627776*i)<=s/\s<=1099511627776*i)/\s=sumTo (fun j=>p4.int (p.len+j) 3) i.toNat,fun _ i=>(p4.len-p.len-i).toNat,⟨⟨by omega,by omega⟩,⟨by omega,by omega⟩,rfl⟩,fun s rs i ri hJ=> ?_⟩
      obtain⟨⟨i0,i1⟩,⟨s0,s1⟩,hs⟩:=hJ;refine⟨fun hlt=>⟨i0,hlt,fun _ _ _ _=> ?_⟩,fun hge=> ?_⟩
      · have hx:=(v4.2.2.2 (p.len+i) (by omega) (by omega)).1
        have hx2:-1099511627776<=p4.int (p.len+i) 3/\p4.int (p.len+i) 3<=1099511627776:=by
          rcases hx.2 with k|k<;>omega
        exact⟨by rw[au];omega,by rw[au];omega,⟨⟨by omega,by omega⟩,⟨by omega,by omega⟩,by rw[Ae i0,<-hs]⟩,by show(p4.len-p.len-(i+1)).toNat<(p4.len-p.len-i).toNat;omega⟩
      · have ei:i.toNat=(p4.len-p.len).toNat:=by omega
        have hs:s=I.gy p4:=by rw[hs,ei];rfl
        refine⟨fun h0=>⟨⟨rfl,rfl,rfl,rfl,rfl,rfl⟩,⟨rfl,rfl,rfl,rfl,rfl,rfl,rfl,rfl,rfl,rfl⟩,rfl,⟨rfl,rfl,rfl⟩,fun _=>YH _ ⟨fun _=>dI 351,fun k=>by omega,fun k=>by have:=k.1;omega⟩,fun k=>absurd k (by decide)⟩,fun h0=>⟨fun h1=>⟨⟨rfl,rfl,rfl,rfl,rfl,rfl⟩,⟨rfl,rfl,rfl,rfl,rfl,rfl,rfl,rfl,rfl,rfl⟩,rfl,⟨rfl,rfl,rfl⟩,fun _=>YH _ ⟨fun k=>by omega,fun _=>dI 3,fun k=>by have:=k.2;omega⟩,fun k=>absurd k (by decide)⟩,
          fun h1=>⟨⟨rfl,rfl,rfl,rfl,rfl,rfl⟩,⟨rfl,rfl,rfl,rfl,rfl,rfl,rfl,rfl,rfl,rfl⟩,rfl,⟨rfl,rfl,rfl⟩,fun k=>absurd rfl k,fun _=>⟨v4,hs,⟨by omega,by omega⟩,YH⟩⟩⟩⟩
  obtain⟨⟨rfl,rfl,rfl,rfl,rfl,rfl⟩,⟨rfl,rfl,rfl,rfl,rfl,rfl,rfl,rfl,rfl,rfl⟩,rfl,⟨rfl,rfl,rfl⟩,he1,hk1⟩:=hJ;refine⟨fun h=>err e5 (he1 h),fun h=>⟨by rw[au];omega,fun _=>⟨by decide,by decide,⟨fun k=>absurd k (by decide),fun _=>⟨fun k=>absurd k (by decide),fun _=>⟨fun k=>absurd k (by decide),fun _=>⟨fun k=>absurd k (by decide),fun _=>⟨fun k=>absurd k (by decide),fun _=>⟨fun k=>absurd k (by decide),fun _=> ?_⟩⟩⟩⟩⟩⟩⟩,fun k=>absurd (by decide) k⟩⟩
  obtain⟨v5,hgr,hga,agj⟩:=hk1 (zA.1 h);have hfin:∀{o r Vq g5 t5 e5},held ys mo g t month aoa r Vq g5 t5 e5->(e5≠0->o.err e5)->(e5=0->(1099511627776<r->o.err 3)/\(r<=1099511627776->I.result d5 p5 aoa r Vq g5 t5 o))->I.pay o:=fun{o r Vq g5 t5 e5} h1 h2 h3=>by
    rw[hgr]at h1 h3 hga;exact agj o ⟨fun k=>by have:=hga.1;omega,fun k=>by have:=hga.2;omega,fun _=>⟨r,Vq,g5,t5,e5,h1,h2,h3⟩⟩
  refine⟨J fun e d' p' dP g' t' aC ni=>(e≠0->I.pay (Vp e))/\(e=0->aA st d' p'/\amt aC/\II ni/\∀o,I.result d' p' aC ni dP g' t' o->I.pay o), ?_,fun e6 re6 st6 aC5 d6 rd6 p6 rp6 mo6 aC6 g6 rg6 t6 rt6 l6 rl6 u6 ru6 aC7 aB0 aBy aBf aB1 aBz aC8 aB2 a6 b6 rb6 c6 f6 rf6 aB3 aC9 aDa aDb ys6 aDc aBA aBg fr6 aDd aBB aBh aDe aB4 hJ=> ?_⟩
  · and_intros
    all_goals first
      |exact trivial
      | (intro r rr Vq aAP g5 rg5 t5 rt5 e5 re5 hq
         refine⟨fun h0=>⟨⟨rfl,rfl,rfl,rfl,rfl,rfl⟩,⟨rfl,rfl,rfl,rfl,rfl,rfl,rfl,rfl,rfl,rfl⟩,rfl,fun _=>hfin hq (fun _=>dI e5) (fun k=>absurd k h0),fun k=>absurd k h0⟩,fun h0=>⟨fun h1=>⟨⟨rfl,rfl,rfl,rfl,rfl,rfl⟩,⟨rfl,rfl,rfl,rfl,rfl,rfl,rfl,rfl,rfl,rfl⟩,rfl,fun _=>hfin hq (fun k=>absurd (zA.1 h0) k) (fun _=>⟨fun _=>dI 3,fun k=>by omega⟩),fun k=>absurd k (by decide)⟩,
           fun h1=>⟨⟨rfl,rfl,rfl,rfl,rfl,rfl⟩,⟨rfl,rfl,rfl,rfl,rfl,rfl,rfl,rfl,rfl,rfl⟩,rfl,fun k=>absurd rfl k,fun _=>⟨v5,hga,aiE hq (zA.1 h0) (by omega),fun o ho=>hfin hq (fun k=>absurd (zA.1 h0) k) (fun _=>⟨fun k=>by omega,fun _=>ho⟩)⟩⟩⟩⟩)
  obtain⟨⟨rfl,rfl,rfl,rfl,rfl,rfl⟩,⟨rfl,rfl,rfl,rfl,rfl,rfl,rfl,rfl,rfl,rfl⟩,rfl,he1,hk1⟩:=hJ;refine⟨fun h=>err e6 (he1 h),fun h=>⟨by rw[au];omega,fun k=>absurd k (by decide),fun _ hsp=> ?_⟩⟩
  obtain⟨v6,aAQ,aAR,aAS⟩:=hk1 (zA.1 h);obtain⟨ga,gb⟩:=aAQ;obtain⟨ta,tb⟩:=aAR;have en:(zF zC l).len=l.len:=by rw[dG,len_nil];omega
  refine⟨by rw[au];omega,by rw[len_nil];omega, ?_, ?_,trivial⟩
  · rw[en]
    show(l.len+1)*80<=140737488355328;omega
  · exact aAS _ ⟨⟨rfl,rfl,⟨rfl,fun _ _ _=>rfl⟩,fK _⟩,⟨rfl,rfl,rfl⟩,⟨rfl,rfl,rfl,rfl⟩,⟨rfl,rfl,rfl,rfl,rfl⟩,rfl,rfl⟩
theorem Gv(s:Sl):zF zC s=s:=by rw[Eb];exact zM s
theorem iL{l:Sl}{a i:Int}{b:Bool}{j:Nat}(h:j<9):(zI l a 9 [.bool b]).int i j=l.int i j:=by
 unfold zI zH;show D.toI (if _ then _ else _)=_
 rw[if_neg (by omega)]
theorem ac7{l:Sl}{a i:Int}{b:Bool}(a0:0<=a)(i0:0<=i):(zI l a 9 [.bool b]).bool i 9=if i=a then b else l.bool i 9:=by
 unfold zI Sl.bool;show D.toB (if i.toNat=a.toNat/\9<=9/\9<9+1 then _ else _)=_
 by_cases e:i=a
 ·rw[if_pos ⟨by rw[e],by omega,by omega⟩,if_pos e];rfl
 ·rw[if_neg (by omega),if_neg e]
section
variable{np:Int}{l:Sl}
theorem ab2(h:∀i:Int,0<=i->i<l.len->kJ np l i){i:Int}(i0:0<=i):∀n:Nat,i+n<l.len->(n≠0->l.int i 4<l.int (i+n) 4/\l.int i 0<l.int (i+n) 0)
 |0,_,k=>absurd rfl k
 | n+1,hl,_=>by
  have s:=(h (i+(n+1:Nat)) (by omega) hl).1;unfold dH at s;rw[if_neg (by omega),if_neg (by omega),show i+((n+1:Nat):Int)-1=i+(n:Int) by omega]at s;by_cases e:n=0
  ·subst e
   rw[show i+((0:Nat):Int)=i by omega]at s;exact⟨s.2,s.1⟩
  ·have:=ab2 h i0 n (by omega) e
   exact⟨by omega,by omega⟩
theorem agk(h:∀i:Int,0<=i->i<l.len->kJ np l i):∀n:Nat,(n:Int)<l.len->0<=l.int n 4/\0<=l.int n 0/\0<=l.int n 2
 |0,hl=>by
  have s:=h 0 (by omega) hl;unfold kJ at s;rw[pV,pV,pV]at s;exact⟨by show 0<=l.int 0 4;omega,by show 0<=l.int 0 0;omega,by show 0<=l.int 0 2;omega⟩
 |n+1,hl=>by
  have ih:=agk h n (by omega);have s1:=h n (by omega) (by omega);have s:=h ((n+1:Nat):Int) (by omega) hl;unfold kJ dH at s;rw[if_neg (by omega),if_neg (by omega),if_neg (by omega),show((n+1:Nat):Int)-1=(n:Int) by omega]at s;have:=s1.2.1.2.1;exact⟨by omega,by omega,by omega⟩
theorem NI(h:∀i:Int,0<=i->i<l.len->kJ np l i){i:Int}(i0:0<=i)(i1:i<l.len):0<=l.int i 4/\0<=l.int i 0/\0<=l.int i 2:=by
 have:=agk h i.toNat (by omega);rw[show((i.toNat:Nat):Int)=i by omega]at this;exact this
theorem NJ(h:∀i:Int,0<=i->i<l.len->kJ np l i){num i j:Int}(a:pG l num i)(b:pG l num j):i=j:=by
 obtain⟨a0,a1,a2,_⟩:=a;obtain⟨b0,b1,b2,_⟩:=b;rcases Int.lt_trichotomy i j with k|k|k
 ·have:=ab2 h a0 (j-i).toNat (by omega) (by omega)
  rw[show i+(((j-i).toNat:Nat):Int)=j by omega]at this;omega
 ·exact k
 ·have:=ab2 h b0 (i-j).toNat (by omega) (by omega)
  rw[show j+(((i-j).toNat:Nat):Int)=i by omega]at this;omega
end
theorem ac8{p:Sl}{day lo hi:Int}(h0:0<=lo):∀n:Nat,pR (zP p lo hi) day 0 n=pR p day lo n
 |0=>rfl
 | n+1=>by
  have e:iH (zP p lo hi) day (0+(n:Int))=iH p day (lo+(n:Int)):=by
   unfold iH;have k:=fun j=>Yp (s:=p) (l:=lo) (h:=hi) (i:=0+(n:Int)) (j:=j) h0 (by omega)
   rw[k 1,k 2,k 3,show lo+(0+(n:Int))=lo+(n:Int) by omega]
  show pR (zP p lo hi) day 0 n++iH (zP p lo hi) day (0+(n:Int))=pR p day lo n++iH p day (lo+(n:Int));rw[ac8 h0 n,e]
theorem YI{p:Sl}{day lo:Int}:∀n:Nat,(pR p day lo n).length<=n
 |0=>qY _
 |n+1=>by
  have h:=YI (p:=p) (day:=day) (lo:=lo) n;have:(iH p day (lo+(n:Int))).length<=1:=by unfold iH;(repeat' split)<;>simp
  show(pR p day lo n++iH p day (lo+(n:Int))).length<=n+1;rw[List.length_append];omega
theorem amT:afK:=by
 intro st _ d p mo _ g _ t _ l num _ day _ _;simp only[zE];have l0:=len0 l;have zero:∀e,(oU st d p mo g t l num day 0 zC zC 0 0 0 zC e->oU st d p mo g t l num day 0 zC zC 0 0 0 zC e/\True):=fun e h=>⟨h,trivial⟩
 have zz:Z7 0 zC zC 0 0 0 zC:=⟨⟨rfl,rfl,rfl⟩,rfl,rfl,rfl,rfl⟩;refine⟨trivial,fun v hv=>⟨fun h=>zero _ ⟨fun _=>⟨rfl,zz⟩,fun k=>absurd (hv.2 k) h⟩,fun h hs=> ?_⟩⟩
 have hV:=hv.1 (zA.1 h);have hV0:=hV;have hl12:=hV.1.2;have hS:=hV.2.2;refine⟨fun a i=>(0<=i/\i<=l.len)/\((a=-1/\∀j:Int,0<=j->j<i->¬pG l num j)\/(pG l num a/\a<i)),fun _ i=>(l.len-i).toNat,⟨⟨by omega,l0⟩, .inl ⟨rfl,fun j _ _=>by omega⟩⟩,fun a ra i ri hJ=> ?_⟩
 obtain⟨⟨i0,i1⟩,hI⟩:=hJ;refine⟨fun hlt=>⟨i0,hlt,fun _ _ _ _ _ _ _ _ _=> ?_⟩,fun hge=>⟨fun hneg=> ?_,fun hpos=> ?_⟩⟩
 ·have keep:¬pG l num i->iA (i+1)/\(((0<=i+1/\i+1<=l.len)/\((a=-1/\∀j:Int,0<=j->j<i+1->¬pG l num j)\/(pG l num a/\a<i+1)))/\(l.len-(i+1)).toNat<(l.len-i).toNat):=fun hn=>by
   refine⟨by rw[au];omega,⟨⟨by omega,by omega⟩, ?_⟩,by omega⟩
   rcases hI with⟨ha,hI⟩|⟨ha,hI⟩
   ·refine .inl ⟨ha,fun j j0 j1=> ?_⟩
    by_cases e:j=i
    ·rw[e];exact hn
    ·exact hI j j0 (by omega)
   ·exact .inr ⟨ha,by omega⟩
  refine⟨fun hnum=>⟨fun hg=>⟨by rw[au];omega,⟨⟨by omega,by omega⟩, .inr ⟨⟨i0,hlt,hnum,hg⟩,by omega⟩⟩,by show(l.len-(i+1)).toNat<(l.len-i).toNat;omega⟩,fun hg=>keep fun k=>hg k.2.2.2⟩,fun hnum=>keep fun k=>hnum k.2.2.1⟩
 ·refine zero _ ⟨fun k=>absurd hV k,fun _=>⟨fun _=>⟨rfl,zz⟩,fun n hn=> ?_⟩⟩
  rcases hI with⟨ha,hI⟩|⟨ha,hI⟩
  ·exact absurd hn (hI n hn.1 (by have:=hn.2.1;omega))
  ·have:=ha.1;omega
 ·have ha:pG l num a:=by
   rcases hI with⟨ha,_⟩|⟨ha,_⟩
   ·omega
   ·exact ha
  obtain⟨a0,a1,a2,a3⟩:=ha;have ha:pG l num a:=⟨a0,a1,a2,a3⟩;have hs1:=hS a a0 a1;obtain⟨g0,g1⟩:=hs1.2.2.1;obtain⟨t0,t1⟩:=hs1.2.2.2;have hlo:=NI hS a0 a1;obtain⟨vs,⟨vm,vg,vt⟩,_⟩:=hV;obtain⟨m0,m1⟩:=vm;obtain⟨vg0,vg1⟩:=vg;obtain⟨vt0,vt1⟩:=vt;have hto:=hs1.2.1;have pn4:=vs.1.2.2.1;simp only[Gv];have eu:∀j,j<9->(zI l a 9 [.bool (decide True)]).int a j=l.int a j:=fun j hj=>iL hj
  rw[eu 0 (by decide),eu 6 (by decide),eu 7 (by decide)];refine⟨by rw[len_nil];omega,a0,a1, ?_⟩
  have pl:=nK (s:=p) (l:=l.int a 2) (h:=l.int a 3) hto.2.1;have pre:OU (zP p (l.int a 2) (l.int a 3)) day:=by
   refine⟨by rw[pl];omega,fun i i0 i1=> ?_⟩
   rw[pl]at i1;rw[Yp hlo.2.2 i0];have hx:=(vs.1.2.2.2 (l.int a 2+i) (by omega) (by omega)).1;rcases hx.2 with k|k
   ·exact⟨by omega,by omega⟩
   ·exact⟨by omega,by omega⟩
  constructor<;>
  ·intro _ _
   refine⟨hlo.2.2,hto.2.1,hto.2.2,pre,fun r hr=> ?_⟩
   have en:(zP p (l.int a 2) (l.int a 3)).n=(l.int a 3-l.int a 2).toNat:=rfl;have hr:r=zB (pR p day (l.int a 2) (l.int a 3-l.int a 2).toNat):=by
    have hr:r=_:=hr;rw[hr,ac8 hlo.2.2,en]
   subst hr;refine⟨?_,fun st1 _ d1 p1 e1 _ hq=>⟨fun h0=>zero _ ⟨fun k=>absurd hV0 k,fun _=>⟨fun k=>absurd ha (k a),fun n hn=> ?_⟩⟩,fun h0=> ?_⟩⟩
   ·have:=YI (p:=p) (day:=day) (lo:=l.int a 2) (l.int a 3-l.int a 2).toNat
    show((pR p day (l.int a 2) (l.int a 3-l.int a 2).toNat).length:Int)<=1000000;omega
   ·have e:=NJ hS hn ha
    subst e;exact⟨st1,d1,p1,e1,hq,fun _=>⟨rfl,zz⟩,fun k=>absurd k h0⟩
   ·have e0:=zA.1 h0
    subst e0;refine⟨fun dP g' t'=>abJ mo g t l a dP g' t',⟨by decide,by rw[xu m0,au];omega,fun rm=>⟨by decide,by rw[au]at rm;rw[xu hlo.2.1,au];omega,fun he _=>⟨by rw[au];omega,fun _=>⟨by rw[au];omega, ?_⟩⟩,fun he=> ?_⟩⟩,fun dP _ g' _ t' _ hb=>⟨?_,trivial⟩⟩
    ·rw[xu m0,xu hlo.2.1]at he
     exact⟨rfl,fun _=>⟨rfl,rfl⟩,fun k=>absurd he k⟩
    ·rw[xu m0,xu hlo.2.1]at he
     exact⟨rfl,fun k=>absurd k he,fun _=>⟨rfl,rfl⟩⟩
    ·have hq':=qP hq
     refine⟨fun k=>absurd hV0 k,fun _=>⟨fun k=>absurd ha (k a),fun n hn=> ?_⟩⟩
     have e:=NJ hS hn ha;subst e;refine⟨st1,d1,p1,0,hq,fun k=>absurd rfl k,fun _=>⟨rfl,hq'.1,⟨rfl,fun _ _ _=>rfl⟩,fK _,⟨rfl,fun i i0 i1=>⟨⟨⟨iL (by decide),iL (by decide),iL (by decide),iL (by decide)⟩,iL (by decide),iL (by decide),iL (by decide),iL (by decide),iL (by decide)⟩, ?_⟩⟩,hb⟩⟩
     rw[ac7 a0 i0];by_cases e:i=n
     ·simp[e]
     ·simp[e]
theorem amW:afL:=by
 intro n _ a b _ c d _ _;simp only[zE];refine⟨trivial,fun fa fb rfb fc fd rfd hf=> ?_⟩
 obtain⟨hq,h1,h2⟩:=(show DK 0 1 fa fb fc fd from hf)
 have e0:yu 0 1=((0:Int):Rat):=by unfold yu;rw[if_neg (by decide)];decide+kernel
 rw[e0]at hq;have ok:=Pn hq h1 h2;have key:∀y:Sl,Hu 0 y->oV n a b c d 7 n a b c d (bytes [114]) (decide False) (zB [[.int 0, .int 0, .int 0, .bool fa,fb.d, .bool fc,fd.d]]) y 0/\True:=fun y hy=>
  ⟨⟨rfl,rfl,⟨rfl,rfl,rfl,rfl⟩,⟨rfl,rfl,rfl,rfl,rfl,rfl,ok,hq.fq⟩,hy,rfl⟩,trivial⟩
 exact⟨⟨trivial,fun y _ hy=>key y hy⟩,trivial,fun y _ hy=>key y hy⟩
theorem auU:anR:=by
 intro st aDf d _ p _ mo _ g _ t _ l _ es _ month aDg bW _ num _ sa sb _ sc sd _ name two rt _ ys _ known _ _;simp only[zE];have no:ng st d p mo g t l es month bW num sa sb sc sd name two rt ys known (decide False)/\True:=⟨fun h=>by simp at h,trivial⟩
 have r0:=len0 rt;have y0:=len0 ys;refine fun _=>⟨fun _=>no,fun hd _=>⟨fun _=>no,fun hp _=>⟨fun _=>no,fun hl _=>⟨fun _=>no,fun hes _=>⟨fun _=>no,fun hr _=>⟨fun _=>no,fun hy=>⟨trivial,fun v hv=>⟨fun _=>no,fun hs _=> ?_⟩⟩⟩⟩⟩⟩⟩⟩
 have hs:=hv.1 (zA.1 hs);refine⟨fun i=>(0<=i/\i<=rt.len)/\∀k:Int,0<=k->k<i->(rt.sub k 4).len<=4/\(rt.sub k 6).len<=4,fun i=>(rt.len-i).toNat,⟨⟨by omega,r0⟩,fun k k0 k1=>by omega⟩,fun i ri hJ=> ?_⟩
 obtain⟨⟨i0,i1⟩,hR⟩:=hJ;refine⟨fun hlt=>⟨i0,hlt,fun _ _ _ _ _=>⟨trivial,fun v hv=>⟨fun _=>no,fun hb=> ?_⟩⟩⟩,fun hge _=> ?_⟩
 ·have w:IntKind.wrap .i64 (i+1)=i+1:=L.wrap64 (by omega) (by omega)
  rw[w];refine⟨⟨⟨by omega,by omega⟩,fun k k0 k1=> ?_⟩,by show(rt.len-(i+1)).toNat<(rt.len-i).toNat;omega⟩
  by_cases c:k=i
  ·subst c;exact hv.1 (zA.1 hb)
  ·exact hR k k0 (by omega)
 have ei:i=rt.len:=by omega
 subst ei;refine⟨fun i=>(0<=i/\i<=ys.len)/\∀k:Int,0<=k->k<i->(ys.sub k 1).len<=6/\∀j:Int,0<=j->j<(ys.sub k 1).len->((ys.sub k 1).sub j 2).len<=4/\((ys.sub k 1).sub j 4).len<=4,fun i=>(ys.len-i).toNat,⟨⟨by omega,y0⟩,fun k k0 k1=>by omega⟩,fun i ri hJ=> ?_⟩
 obtain⟨⟨i0,i1⟩,hY⟩:=hJ;refine⟨fun hlt=>⟨i0,hlt,fun _ _ _=>⟨fun _=>no,fun h6 _=> ?_⟩⟩,fun hge=> ?_⟩
 ·have k0:=len0 (ys.sub i 1)
  refine⟨fun k=>(0<=k/\k<=(ys.sub i 1).len)/\∀j:Int,0<=j->j<k->((ys.sub i 1).sub j 2).len<=4/\((ys.sub i 1).sub j 4).len<=4,fun k=>((ys.sub i 1).len-k).toNat,⟨⟨by omega,k0⟩,fun k k0 k1=>by omega⟩,fun k rk hJ=> ?_⟩
  obtain⟨⟨k0,k1⟩,hK⟩:=hJ;refine⟨fun hlt2=>⟨k0,hlt2,fun _ _ _=>⟨trivial,fun v hv=>⟨fun _=>no,fun hb=> ?_⟩⟩⟩,fun ayG=> ?_⟩
  ·have w:IntKind.wrap .i64 (k+1)=k+1:=L.wrap64 (by omega) (by omega)
   rw[w];refine⟨⟨⟨by omega,by omega⟩,fun j j0 j1=> ?_⟩,by show((ys.sub i 1).len-(k+1)).toNat<((ys.sub i 1).len-k).toNat;omega⟩
   by_cases c:j=k
   ·subst c;exact hv.1 (zA.1 hb)
   ·exact hK j j0 (by omega)
  ·have w:IntKind.wrap .i64 (i+1)=i+1:=L.wrap64 (by omega) (by omega)
   rw[w];refine⟨⟨⟨by omega,by omega⟩,fun j j0 j1=> ?_⟩,by show(ys.len-(i+1)).toNat<(ys.len-i).toNat;omega⟩
   by_cases c:j=i
   ·subst c;exact⟨by omega,fun m m0 m1=>hK m m0 (by omega)⟩
   ·exact hY j j0 (by omega)
 ·have ei:i=ys.len:=by omega
  subst ei;have yes:∀b:Bool,(b=true->month<st\/st<0\/2153<month\/month-st<=200)->ng st d p mo g t l es month bW num sa sb sc sd name two rt ys known b/\True:=fun b hb=>⟨fun h=>⟨⟨by omega,by omega,by omega,by omega,by omega,by omega⟩,hs,hR,hY,hb h⟩,trivial⟩
  refine⟨fun h=>yes _ fun _=> .inl h,fun h1=>⟨fun h=>yes _ fun _=> .inr (.inl h),fun h2=>⟨fun h=>yes _ fun _=> .inr (.inr (.inl h)),fun h3=>yes _ fun h=> ?_⟩⟩⟩
  have h:=of_decide_eq_true h;rw[L.wrap64 (by omega) (by omega)]at h;exact .inr (.inr (.inr h))
end Go.Sx.N
