/-
 The law RunTells: its condition. Conditions: none.
-/
import Derived.Test.YtccbjhfdfbaekaaGreatNumVQ
import Derived.Test.YtccbjhfdfbaekaaGreatRunX
open Bool renaming decide_eq_true->zA
set_option linter.unusedVariables false
set_option linter.unusedSimpArgs false
set_option maxRecDepth 20000
namespace Go.Sx.N
theorem aos{l l2:Sl}(h:lQ l2 l):Nv l2=Nv l:=by
 have e:l2.n=l.n:=by have:=h.1;unfold Sl.len at this;omega
 unfold Nv;rw[e];refine qO fun i i0 i1=> ?_
 obtain⟨a,b⟩:=h.2 i i0 (by have:=h.1;show i<l2.len;rw[this];exact i1);have c:=a.2.2.2.1;by_cases k:l.bool i 9=true
 ·rw[if_pos k,if_pos (b.2 k)]
 ·rw[if_neg k,if_neg fun g=>k (b.1 g),c]
theorem aiR{st:Int}{d p:Sl}{mo g t:Int}{l es:Sl}{day month bW num:Int}{sa:Bool}{sb:Sl}{sc:Bool}{sd:Sl}{name:ByteArray}{two:Bool}{rt ys:Sl}{known:Int}{l0:Sl}{st1:Int}{d1 p1:Sl}{mo1 g1 t1:Int}{l1:Sl}(hs:lQ l0 l)(hl:l0.len<=1000000):
  JC st d p mo g t l es day month bW num sa sb sc sd name two rt ys known st d p mo g t l0 st1 d1 p1 mo1 g1 t1 l1:=by
 unfold JC;simp only[zA];intro hsp;have hsp:=iW hsp;have p1n:=len0 p1;refine⟨fun i _ _ pp _ _ _ _=>(0<=i/\i<=p1.len)/\pp.len=p1.len,fun i _ _ _ _ _ _ _=>(p1.len-i).toNat,⟨⟨by omega,p1n⟩,rfl⟩,fun i ri x2 _ x3 _ x4 _ x5 _ x6 _ x7 _ x8 _ hJ=> ?_⟩
 obtain⟨⟨i0,i1⟩,hpp⟩:=hJ;refine⟨fun hlt=>⟨i0,by omega,fun _=>⟨i0,by omega, ?_⟩⟩,fun _ hsl=> ?_⟩
 ·rw[L.wrap64 (by omega) (by omega)]
  exact⟨⟨⟨by omega,by omega⟩,hpp⟩,by show(p1.len-(i+1)).toNat<(p1.len-i).toNat;omega⟩
 have hsl:=iW hsl;have x8n:=len0 x8;refine⟨fun k _ _ _ _ _ _ ll=>(0<=k/\k<=x8.len)/\ll.len=x8.len,fun k _ _ _ _ _ _ _=>(x8.len-k).toNat,⟨⟨by omega,x8n⟩,rfl⟩,fun k rk y2 _ y3 _ y4 _ y5 _ y6 _ y7 _ y8 _ hJ=> ?_⟩
 obtain⟨⟨k0,k1⟩,hll⟩:=hJ;refine⟨fun hlt=>⟨k0,by omega,fun _=>⟨k0,by omega, ?_⟩⟩,fun _=>⟨hl,fun st4 _ d4 _ p4 _ mo4 _ g4 _ t4 _ l4 _ hb4=>⟨trivial,fun b3 hb3=>⟨fun _=>⟨trivial,fun b hb=>⟨hb,trivial⟩⟩,fun k=> ?_⟩⟩⟩⟩
 ·rw[L.wrap64 (by omega) (by omega)]
  exact⟨⟨⟨by omega,by omega⟩,hll⟩,by show(x8.len-(k+1)).toNat<(x8.len-k).toNat;omega⟩
 ·obtain⟨⟨rfl,rfl,rfl⟩,⟨rfl,rfl,rfl⟩,hs4⟩:=(show Z8 _ _ _ _ _ _ l0 st4 d4 p4 mo4 g4 t4 l4 from hb4)
  refine absurd (hb3.2 ⟨⟨rfl,⟨rfl,fun _ _ _=>rfl⟩,fK _⟩,⟨rfl,rfl,rfl⟩,SN (vC hs) (vC hs4)⟩) k
theorem awg{st:Int}{d p:Sl}{mo g t:Int}{l es:Sl}{day month bW num:Int}{sa:Bool}{sb:Sl}{sc:Bool}{sd:Sl}{name:ByteArray}{two:Bool}{rt ys:Sl}{known:Int}{l0:Sl}{st1:Int}{d1 p1:Sl}{mo1 g1 t1:Int}{l1:Sl}{r:Int}{v:Bool}(hs:lQ l0 l)(hl:l0.len<=1000000)(hv:v=true->eH st d p mo g t l0/\r=Nv l):
  Fg st d p mo g t l es day month bW num sa sb sc sd name two rt ys known st d p mo g t l0 st1 d1 p1 mo1 g1 t1 l1 r v:=by
 unfold Fg;simp only[zA];refine⟨fun k=>⟨(hv k).1,fun x _ hx=>⟨fun n=>absurd ?_ n,fun _=>aiR hs hl⟩⟩,fun _=>aiR hs hl⟩
 have hx:x=Nv l0:=hx;rw[(hv k).2,hx,aos hs]
theorem alk:YB:=by
 intro st _ d _ p _ mo _ g _ t _ l _ es _ day _ month _ bW _ num _ sa sb _ sc sd _ name two rt _ ys _ known _ hn;simp only[zA];have hn:Fv name:=hn;refine⟨trivial,fun b hb=>⟨fun _=>⟨trivial,fun b hb=>⟨hb,trivial⟩⟩,fun h=> ?_⟩⟩
 obtain⟨⟨hd,hp,hl,hes,hrt,hys⟩,_,_,aAZ,_⟩:=hb (Classical.not_not.1 h);refine⟨⟨by omega,by omega,by omega⟩,fun st0 _ d0 _ p0 _ mo0 _ g0 _ t0 _ l0 _ hc hsm=> ?_⟩
 obtain⟨⟨rfl,rfl,rfl⟩,⟨rfl,rfl,rfl⟩,hs⟩:=(show Z8 st d p mo g t l st0 d0 p0 mo0 g0 t0 l0 from hc)
 have e0:=len0 es;have l00:=len0 l0;have ll0:=len0 l;have hl0:l0.len<=1000000:=by have:=hs.1;omega
 refine⟨fun u i=>(0<=i/\i<=es.len)/\u.len=i/\∀k:Int,0<=k->k<i->u.int k 0=es.int k 0/\u.int k 1=es.int k 1/\u.int k 2=es.int k 2,fun _ i=>(es.len-i).toNat,⟨⟨Int.le_refl _,e0⟩,rfl,fun k _ _=>by omega⟩,fun u ru i ri hJ=> ?_⟩
 obtain⟨⟨i0,i1⟩,Ar,hu⟩:=hJ;refine⟨fun hi=>⟨i0,hi,fun _ _ _ _ _ _=> ?_⟩,fun hi=> ?_⟩
 ·have l1:∀r:List D,(Sl.lit [r]).len=1:=fun _=>rfl
  rw[L.wrap64 (by omega) (by omega)];refine⟨by rw[l1];omega,⟨⟨by omega,by omega⟩,by rw[dG,l1,Ar],fun k k0 k1=> ?_⟩,by show(es.len-(i+1)).toNat<(es.len-i).toNat;omega⟩
  by_cases c:k<i
  ·rw[aS k0 (by omega),aS k0 (by omega),aS k0 (by omega)]
   exact hu k k0 c
  ·have ek:k=i:=by omega
   rw[aG (by omega),aG (by omega),aG (by omega),show k-u.len=0 by omega,ek];exact⟨rfl,rfl,rfl⟩
 have ei:i=es.len:=by omega
 subst ei;have hes':Nu u es:=⟨Ar,fun k k0 k1=>hu k k0 (by omega)⟩
 refine⟨⟨hn,by omega⟩,fun st1 _ d1 _ p1 _ mo1 _ g1 _ t1 _ l1 _ m1 _ RF _ a1 _ b1 _ num1 _ alc _ agi _ asC _ aA0 _ atf e1 _ h1=>⟨⟨by omega,fun k k0 k1=>by have:=(aAZ k k0 k1).1;omega⟩,fun ys' _ hy=>⟨⟨hn,by omega⟩,fun st2 _ d2 _ p2 _ mo2 _ g2 _ t2 _ l2 _ m2 _ ayV _ a2 _ b2 _ ayW _ atd _ an9 _ ayX _ aA1 _ atg e2 _ h2=>⟨trivial,fun r _ e3 _ hpd=>⟨trivial,fun v1 hv1=>⟨trivial,fun v2 hv2=> ?_⟩⟩⟩⟩⟩⟩
 have S:=awf (i:=⟨st0,d0,p0,mo0,g0,t0,l,es,day,month,bW,num,sa,sb,sc,sd,name,two,rt,ys,known⟩) (l':=l0) (es':=u) (ys':=ys') (o:=⟨st1,d1,p1,mo1,g1,t1,l1,m1,RF,a1,b1,num1,alc,agi,asC,aA0,atf,e1⟩) (o':=⟨st2,d2,p2,mo2,g2,t2,l2,m2,ayV,a2,b2,ayW,atd,an9,ayX,aA1,atg,e2⟩) hs hes' hy h1 h2;obtain⟨sl,ee,hsame,⟨q1,q2,q3,q4⟩,⟨q5,q6,q7,q8,q9⟩,q10⟩:=S;have sl:l1.len<=l.len+1:=sl (by show 0<=l.len+1;omega);have ee:e1=e2:=ee;have hl2:l2.len<=1000000:=by
  have:l1.len=l2.len:=hsame.2.2.1;omega
 have hv1:v1=true↔eH st0 d0 p0 mo0 g0 t0 l0:=hv1;have hv2:v2=true↔eH st0 d0 p0 mo0 g0 t0 l:=hv2;have vv:v2=true↔v1=true:=hv2.trans (Iff.trans ⟨JJ hs,JJ (vC hs)⟩ hv1.symm);have e30:e3=0↔v1=true:=⟨fun k=>Classical.byContradiction fun x=>by
  have:=(hpd.1 fun y=>x (vv.1 (hv2.2 y))).2
  omega,fun k=>(hpd.2 (hv2.1 (vv.2 k))).2⟩
 have core:Fg st0 d0 p0 mo0 g0 t0 l es day month bW num sa sb sc sd name two rt ys known st0 d0 p0 mo0 g0 t0 l0 st1 d1 p1 mo1 g1 t1 l1 r v1:=awg hs hl0 fun k=>⟨hv1.1 k,(hpd.2 (hv2.1 (vv.2 k))).1⟩
 refine⟨fun k=>absurd vv k,fun _=>⟨fun k=>absurd ee k,fun _=>⟨hl2,fun st3 _ d3 _ p3 _ mo3 _ g3 _ t3 _ l3 _ hb=>⟨trivial,fun b2 hb2=>⟨fun k=> ?_,fun _=>⟨fun k=>absurd ⟨q1,q2,q3,q4,q5,q6,q7,q8,q9,by rw[show atf=atg from q10]⟩ k,fun _=>⟨fun k=>absurd e30 k,fun _=>⟨fun nv=> ?_,fun _=>core⟩⟩⟩⟩⟩⟩⟩⟩
 ·obtain⟨⟨rfl,rfl,rfl⟩,⟨rfl,rfl,rfl⟩,hs3⟩:=(show Z8 st2 d2 p2 mo2 g2 t2 l2 st3 d3 p3 mo3 g3 t3 l3 from hb)
  exact absurd (hb2.2 ⟨hsame.1,hsame.2.1,SN hsame.2.2 (vC hs3)⟩) k
 ·have x:=hpd.1 fun y=>nv (vv.1 (hv2.2 y))
  exact⟨fun k=>absurd x.2 k,fun _=>⟨fun k=>absurd x.1 k,fun _=>core⟩⟩
end Go.Sx.N
