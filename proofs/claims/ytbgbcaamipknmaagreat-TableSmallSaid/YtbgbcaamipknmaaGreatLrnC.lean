/-
 Several texts in one. Conditions: none.
-/
import Derived.Test.YtbgbcaamipknmaaGreatMemA
import Derived.Test.YtbgbcaamipknmaaGreatLrnG
set_option linter.unusedVariables false
set_option linter.unusedSimpArgs false
namespace Go.Sx.N
end Go.Sx.N
set_option linter.unusedVariables false
set_option linter.unusedSimpArgs false
namespace Go.Sx.N
theorem zeroT_same{n n':ByteArray}{t t':Bool}{s s':Sl}(h:zeroT n t s)(g:zeroT n' t' s'):n=n'/\t=t'/\rowsEq s s':=by
 obtain⟨h1,h2,h3⟩:=h
 obtain⟨g1,g2,g3⟩:=g
 have e:∀x:ByteArray,ylen x=0->x= .empty:=fun x hx=>ByteArray.ext (Array.eq_empty_of_size_eq_zero (by unfold ylen at hx;exact Int.ofNat.inj hx))
 exact⟨(e n h1).trans (e n' g1).symm,by rw[h2,g2],⟨by rw[h3,g3],fun i i0 i1=>by omega⟩⟩
theorem learn_same{name n1 n2:ByteArray}{two t1 t2:Bool}{s s1 s2:Sl}{a b k e1 e2:Int}{nn dn:Bool}{nl dl:Sl}(h:q_Learn name two s a b k nn nl dn dl n1 t1 s1 e1)(g:q_rLearn name two s a b k nn nl dn dl n2 t2 s2 e2):e1=e2/\n1=n2/\t1=t2/\rowsEq s1 s2:=by
 by_cases c:validT name two s/\rightS two a b k nn nl dn dl
 ·by_cases c4:s.len=400
  ·have x:=(h.2 c).1 c4
   have y:=(g.2 c).1 c4
   exact⟨by rw[x.2,y.2],zeroT_same x.1 y.1⟩
  ·have x:=(h.2 c).2 c4
   have y:=(g.2 c).2 c4
   exact⟨by rw[x.2.2.2,y.2.2.2],by rw[x.1,y.1],by rw[x.2.1,y.2.1],ins_det x.2.2.1 y.2.2.1 ⟨rfl,fun i _ _=>rowEq.refl _ _⟩ (rowEq.refl _ _)⟩
 ·have x:=h.1 c
  have y:=g.1 c
  exact⟨by rw[x.2,y.2],zeroT_same x.1 y.1⟩
end Go.Sx.N
set_option linter.unusedVariables false
set_option linter.unusedSimpArgs false
namespace Go.Sx.N
theorem rLearn_ok:V_rLearn:=by
 intro n two s rs a ra b rb k rk nn nl rn dn dl rd hn
 simp only[Bool.decide_eq_true]
 have s0:=len0 s
 refine⟨hn,fun v hv=>⟨fun h=>⟨⟨fun _=>⟨⟨rfl,by decide,rfl⟩,rfl⟩,fun g=>absurd (hv.2 g.1) h⟩,trivial⟩,fun h1=>⟨trivial,fun w hw=>⟨fun h=>⟨⟨fun _=>⟨⟨rfl,by decide,rfl⟩,rfl⟩,fun g=>absurd (hw.2 g.2) h⟩,trivial⟩,fun h2 _=> ?_⟩⟩⟩⟩
 have hV:=hv.1 (Classical.not_not.1 h1)
 have hr:=hw.1 (Classical.not_not.1 h2)
 have s4:=hV.2.1
 refine⟨fun h=>⟨⟨fun g=>absurd ⟨hV,hr⟩ g,fun _=>⟨fun _=>⟨⟨rfl,by decide,rfl⟩,rfl⟩,fun g=>absurd h g⟩⟩,trivial⟩,fun h4=> ?_⟩
 have mono:∀l:Int,0<l->l<s.len->ltR (rowL a b k nn nl dn dl) 0 s (l-1)->ltR (rowL a b k nn nl dn dl) 0 s l:=fun l l0 l1 h=>by
  have g:=hV.2.2.1 l l0 l1
  unfold ltR ltK at*
  omega
 have keep:∀{u:Sl}{r:List D}{l:Int},0<=l->l<u.len->rowEq (Sl.app u (Sl.lit [r])) l u l:=fun l0 l1=>rowEq_cells (f_app_lt l0 l1)
 have new:∀{u:Sl}{i m:Int},m=u.len->rowEq (Sl.app u (Sl.lit [[.int (s.int i 0), .int (s.int i 1), .int (s.int i 2), .bool (s.bool i 3),Sl.d (s.sub i 4), .bool (s.bool i 5),Sl.d (s.sub i 6)]])) m s i:=fun{u i m} h=>(rowEq_lit (s:=s) h).trans ⟨rfl,rfl,rfl,⟨rfl,rfl,fun _ _ _=>rfl⟩,rfl,rfl,fun _ _ _=>rfl⟩
 refine⟨fun x y t u=>(y=n/\t=two)/\(0<=x/\x<=s.len)/\∃q:Int,(0<=q/\q<=x)/\u.len=q/\(∀l:Int,0<=l->l<q->rowEq u l s l/\¬ltR (rowL a b k nn nl dn dl) 0 s l)/\∀l:Int,q<=l->l<x->ltR (rowL a b k nn nl dn dl) 0 s l,fun x _ _ _=>(s.len-x).toNat,
  ⟨⟨rfl,rfl⟩,⟨Int.le_refl _,s0⟩,0,⟨Int.le_refl _,Int.le_refl _⟩,rfl,fun l l0 l1=>by omega,fun l l0 l1=>by omega⟩,fun x rx y t u ru hJ _=> ?_⟩
 obtain⟨⟨hy,ht⟩,⟨x0,x1⟩,q,⟨q0,q1⟩,hu,hlo,hhi⟩:=hJ
 refine⟨fun hx=>⟨x0,hx,fun _ _ _ _ _=>⟨trivial,fun c hc=>⟨fun hn1=> ?_,fun hn1=> ?_⟩⟩⟩,fun hx=> ?_⟩
 ·have hlt:¬ltR (rowL a b k nn nl dn dl) 0 s x:=fun g=>hn1 (hc.2 g)
  have eq:q=x:=by
   rcases Int.lt_or_le q x with g|g
   ·exact absurd (mono x (by omega) hx (hhi (x-1) (by omega) (by omega))) hlt
   ·omega
  subst eq
  have body:∀z:List D,z=[.int (s.int q 0), .int (s.int q 1), .int (s.int q 2), .bool (s.bool q 3),Sl.d (s.sub q 4), .bool (s.bool q 5),Sl.d (s.sub q 6)]->(u.len+(Sl.lit [z]).len)*88<=140737488355328/\Rng .i64 (q+1)/\(((y=n/\t=two)/\(0<=q+1/\q+1<=s.len)/\∃q':Int,(0<=q'/\q'<=q+1)/\(Sl.app u (Sl.lit [z])).len=q'/\(∀l:Int,0<=l->l<q'->rowEq (Sl.app u (Sl.lit [z])) l s l/\¬ltR (rowL a b k nn nl dn dl) 0 s l)/\∀l:Int,q'<=l->l<q+1->ltR (rowL a b k nn nl dn dl) 0 s l)/\(s.len-(q+1)).toNat<(s.len-q).toNat):=fun z hz=>by
   have e1:(Sl.lit [z]).len=1:=rfl
   refine⟨by rw[e1];omega,by rw[rng64];omega,⟨⟨hy,ht⟩,⟨by omega,by omega⟩,q+1,⟨by omega,Int.le_refl _⟩,by rw[len_app,e1,hu],fun l l0 l1=> ?_,fun l l0 l1=>by omega⟩,by omega⟩
   by_cases g:l<q
   ·exact⟨(keep l0 (by omega)).trans (hlo l l0 g).1,(hlo l l0 g).2⟩
   ·have:l=q:=by omega
    subst this
    rw[hz]
    exact⟨new hu.symm,hlt⟩
  exact⟨x0,hx,fun _ _ _ _ _=>body _ rfl,fun _ _ _ _ _=>⟨body _ rfl,body _ rfl⟩⟩
 ·have hlt:ltR (rowL a b k nn nl dn dl) 0 s x:=hc.1 (Classical.not_not.1 hn1)
  refine⟨by rw[rng64];omega,⟨⟨hy,ht⟩,⟨by omega,by omega⟩,q,⟨q0,by omega⟩,hu,hlo,fun l l0 l1=> ?_⟩,by show(s.len-(x+1)).toNat<(s.len-x).toNat;omega⟩
  by_cases g:l<x
  ·exact hhi l l0 g
  ·have:l=x:=by omega
   subst this;exact hlt
 have ex:x=s.len:=by omega
 subst ex
 have er:∀z:List D,(Sl.lit [z]).len=1:=fun _=>rfl
 refine⟨by rw[er];omega,fun x y t v=>(y=n/\t=two)/\(0<=x/\x<=s.len)/\∃m:Int,v.len=q+1+m/\0<=m/\(x<=q->m=0)/\(q<=x->m=x-q)/\(∀l:Int,0<=l->l<q->rowEq v l s l)/\rowEq v q (rowL a b k nn nl dn dl) 0/\∀l:Int,q<=l->l<x->rowEq v (l+1) s l,fun x _ _ _=>(s.len-x).toNat,
  ⟨⟨hy,ht⟩,⟨Int.le_refl _,s0⟩,0,by rw[len_app,er,hu];omega,Int.le_refl _,fun _=>rfl,fun g=>by omega,fun l l0 l1=>(keep l0 (by omega)).trans (hlo l l0 l1).1,rowEq_lit (s:=s) hu.symm,fun l l0 l1=>by omega⟩,fun x rx y t v rv hJ _=> ?_⟩
 obtain⟨⟨hy,ht⟩,⟨x0,x1⟩,m,hl,m0,hm1,hm2,k1,k2,k3⟩:=hJ
 refine⟨fun hx=>⟨x0,hx,fun _ _ _ _ _=>⟨trivial,fun c hc=>⟨fun hn1=> ?_,fun hn1=> ?_⟩⟩⟩,fun hx=> ?_⟩
 ·have hlt:ltR (rowL a b k nn nl dn dl) 0 s x:=hc.1 hn1
  have qx:q<=x:=by
   rcases Int.lt_or_le x q with g|g
   ·exact absurd hlt (hlo x x0 g).2
   ·exact g
  have em:=hm2 qx
  have body:∀z:List D,z=[.int (s.int x 0), .int (s.int x 1), .int (s.int x 2), .bool (s.bool x 3),Sl.d (s.sub x 4), .bool (s.bool x 5),Sl.d (s.sub x 6)]->(v.len+(Sl.lit [z]).len)*88<=140737488355328/\Rng .i64 (x+1)/\(((y=n/\t=two)/\(0<=x+1/\x+1<=s.len)/\∃m:Int,(Sl.app v (Sl.lit [z])).len=q+1+m/\0<=m/\(x+1<=q->m=0)/\(q<=x+1->m=x+1-q)/\(∀l:Int,0<=l->l<q->rowEq (Sl.app v (Sl.lit [z])) l s l)/\rowEq (Sl.app v (Sl.lit [z])) q (rowL a b k nn nl dn dl) 0/\∀l:Int,q<=l->l<x+1->rowEq (Sl.app v (Sl.lit [z])) (l+1) s l)/\(s.len-(x+1)).toNat<(s.len-x).toNat):=fun z hz=>by
   refine⟨by rw[er];omega,by rw[rng64];omega,⟨⟨hy,ht⟩,⟨by omega,by omega⟩,m+1,by rw[len_app,er];omega,by omega,fun g=>by omega,fun g=>by omega,fun l l0 l1=>(keep l0 (by omega)).trans (k1 l l0 l1),(keep q0 (by omega)).trans k2,fun l l0 l1=> ?_⟩,by omega⟩
   by_cases g:l<x
   ·exact(keep (by omega) (by omega)).trans (k3 l l0 g)
   ·have:l=x:=by omega
    subst this
    rw[hz]
    exact new (by omega)
  exact⟨x0,hx,fun _ _ _ _ _=>body _ rfl,fun _ _ _ _ _=>⟨body _ rfl,body _ rfl⟩⟩
 ·have hlt:¬ltR (rowL a b k nn nl dn dl) 0 s x:=fun g=>hn1 (hc.2 g)
  have qx:x<q:=by
   rcases Int.lt_or_le x q with g|g
   ·exact g
   ·exact absurd (hhi x g hx) hlt
  have em:=hm1 (by omega)
  exact⟨by rw[rng64];omega,⟨⟨hy,ht⟩,⟨by omega,by omega⟩,m,hl,m0,fun _=>em,fun g=>by omega,k1,k2,fun l l0 l1=>by omega⟩,by show(s.len-(x+1)).toNat<(s.len-x).toNat;omega⟩
 ·have em:=hm2 (by omega)
  exact⟨⟨fun g=>absurd ⟨hV,hr⟩ g,fun _=>⟨fun h=>absurd h h4,fun _=>⟨hy,ht,⟨q,⟨by omega,⟨q0,q1⟩,k1,k2,fun l l0 l1=>⟨k3 l l0 (by omega),hhi l l0 l1⟩⟩,fun l l0 l1=>(hlo l l0 l1).2⟩,rfl⟩⟩⟩,trivial⟩
theorem learns_ok:V_learns:=by
 intro n two s _ a _ b _ k _ nn nl _ dn dl _ ⟨⟨hn,hb⟩,hr⟩
 simp only[Bool.decide_eq_true]
 refine⟨hb,fun n' two' s' hq=> ?_⟩
 obtain⟨rfl,rfl,rfl⟩:=hq
 refine⟨hr,fun a' _ b' _ k' _ nn' nl' dn' dl' hq=> ?_⟩
 obtain⟨⟨rfl,rfl,rfl⟩,rfl,rfl,rfl,rfl⟩:=hq
 refine⟨hn,fun n1 t1 s1 e1 _ h1=>⟨hn,fun n2 t2 s2 _ e2 _ h2=> ?_⟩⟩
 obtain⟨e,en,et,es⟩:=learn_same h1 h2
 exact⟨fun h=>absurd e h,fun _=>⟨trivial,fun r1 g1=>⟨trivial,fun r2 g2=>⟨fun h=>absurd (Iff.trans g1 (Iff.symm g2)) h,fun _=>⟨trivial,fun r3 g3=>⟨trivial,fun r4 g4=>⟨fun h=>absurd (Iff.trans g3 (Iff.symm g4)) h,fun _=>⟨⟨rfl,rfl,rfl,hb⟩,fun r5 g5=>⟨fun h=>absurd g5 h,fun _=>⟨⟨⟨⟨rfl,rfl,rfl⟩,rfl,rfl,rfl,rfl⟩,hr⟩,fun r6 g6=>⟨fun h=>absurd g6 h,fun _=>⟨trivial,fun r7 g7=>⟨g7.2 ⟨en,et,es⟩,trivial⟩⟩⟩⟩⟩⟩⟩⟩⟩⟩⟩⟩⟩
end Go.Sx.N
