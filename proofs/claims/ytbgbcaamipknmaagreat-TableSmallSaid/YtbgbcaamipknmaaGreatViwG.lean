/-
 Several texts in one. Conditions: none.
-/
import Derived.Test.YtbgbcaamipknmaaGreatLrnC
set_option linter.unusedVariables false
set_option linter.unusedSimpArgs false
namespace Go.Sx.N
end Go.Sx.N
set_option linter.unusedVariables false
set_option linter.unusedSimpArgs false
namespace Go.Sx.N
theorem forced_congr{s t u:Sl}{k:Int}(h:forcedS s k t)(e:rowsEq u t):forcedS s k u:=by
 obtain⟨g,h1,h2,h3⟩:=h
 have el:=e.1
 refine⟨g,fun i i0 i1=>⟨(h1 i i0 (by omega)).1,(e.2 i i0 i1).trans (h1 i i0 (by omega)).2⟩,fun i j i0 ij j1=>h2 i j i0 ij (by omega),fun q hq=> ?_⟩
 obtain⟨i,i0,i1,e1⟩:=h3 q hq
 exact⟨i,i0,by omega,e1⟩
theorem forced_right{two:Bool}{s t:Sl}{k:Int}(h:forcedS s k t)(hr:∀i:Int,0<=i->i<s.len->rightAt two s i){i:Int}(i0:0<=i)(i1:i<t.len):rightAt two t i:=by
 obtain⟨g,h1,_⟩:=h
 obtain⟨a,b⟩:=h1 i i0 i1
 exact rightAt_congr b (hr _ a.1.1 a.1.2)
theorem forced_det{s t u:Sl}{k:Int}(h:forcedS s k t)(h':forcedS s k u):rowsEq t u:=by
 obtain⟨g,h1,h2,h3⟩:=h
 obtain⟨g',h1',h2',h3'⟩:=h'
 have mono:∀{t:Sl}{g:Int->Int},(∀i j:Int,0<=i->i<j->j<t.len->g i<g j)->∀i j:Int,0<=i->0<=j->i<t.len->j<t.len->(g i<g j↔i<j):=fun{t g} hm i j i0 j0 i1 j1=>by
  rcases Int.lt_trichotomy i j with c|c|c
  ·exact⟨fun _=>c,fun _=>hm i j i0 c j1⟩
  ·subst c;exact⟨fun h=>by omega,fun h=>by omega⟩
  ·have:=hm j i j0 c i1
   exact⟨fun h=>by omega,fun h=>by omega⟩
 have same:∀n:Nat,∀i:Int,0<=i->i<n->(i<t.len->i<u.len/\g i=g' i)/\(i<u.len->i<t.len/\g i=g' i):=by
  intro n
  induction n with
  |zero=>intro i i0 i1;omega
  | succ n ih=>
   intro i i0 i1
   by_cases c:i<(n:Int)
   ·exact ih i i0 c
   ·have ei:i=(n:Int):=by omega
    have step:∀{t u:Sl}{g g':Int->Int},(∀i:Int,0<=i->i<t.len->inForce s k (g i)/\rowEq t i s (g i))->(∀i j:Int,0<=i->i<j->j<t.len->g i<g j)->(∀i j:Int,0<=i->i<j->j<u.len->g' i<g' j)->(∀q:Int,inForce s k q->∃i:Int,0<=i/\i<u.len/\g' i=q)->
      (∀j:Int,0<=j->j<n->(j<t.len->j<u.len/\g j=g' j)/\(j<u.len->j<t.len/\g j=g' j))->i<t.len->∃j:Int,i<=j/\j<u.len/\g' j=g i:=fun{t u g g'} a b b' d ih it=>by
     obtain⟨j,j0,j1,e⟩:=d (g i) (a i i0 it).1
     refine⟨j, ?_,j1,e⟩
     rcases Int.lt_or_le j i with c|c
     ·have q:=(ih j j0 (by omega)).2 j1
      have:=(mono b j i j0 i0 q.1 it).2 c
      omega
     ·exact c
    have key:∀{t u:Sl}{g g':Int->Int},(∀i:Int,0<=i->i<t.len->inForce s k (g i)/\rowEq t i s (g i))->(∀i:Int,0<=i->i<u.len->inForce s k (g' i)/\rowEq u i s (g' i))->(∀i j:Int,0<=i->i<j->j<t.len->g i<g j)->(∀i j:Int,0<=i->i<j->j<u.len->g' i<g' j)->
      (∀q:Int,inForce s k q->∃i:Int,0<=i/\i<t.len/\g i=q)->(∀q:Int,inForce s k q->∃i:Int,0<=i/\i<u.len/\g' i=q)->
      (∀j:Int,0<=j->j<n->(j<t.len->j<u.len/\g j=g' j)/\(j<u.len->j<t.len/\g j=g' j))->i<t.len->i<u.len/\g i=g' i:=fun{t u g g'} a a' b b' d d' ih it=>by
     obtain⟨j,ij,j1,e⟩:=step a b b' d' ih it
     have iu:i<u.len:=by omega
     obtain⟨l,il,l1,e'⟩:=step a' b' b d (fun j j0 j1=>⟨fun h=>⟨((ih j j0 j1).2 h).1,((ih j j0 j1).2 h).2.symm⟩,fun h=>⟨((ih j j0 j1).1 h).1,((ih j j0 j1).1 h).2.symm⟩⟩) iu
     refine⟨iu, ?_⟩
     rcases Int.lt_or_le i l with c|c
     ·have a1:=(mono b i l i0 (by omega) it l1).2 c
      rcases Int.lt_or_le i j with d1|d1
      ·have a2:=(mono b' i j i0 (by omega) iu j1).2 d1
       omega
      ·have:j=i:=by omega
       subst this
       exact e.symm
     ·have:l=i:=by omega
      subst this
      exact e'
    exact⟨key h1 h1' h2 h2' h3 h3' ih,fun iu=>by
     have:=key h1' h1 h2' h2 h3' h3 (fun j j0 j1=>⟨fun h=>⟨((ih j j0 j1).2 h).1,((ih j j0 j1).2 h).2.symm⟩,fun h=>⟨((ih j j0 j1).1 h).1,((ih j j0 j1).1 h).2.symm⟩⟩) iu
     exact⟨this.1,this.2.symm⟩⟩
 have t0:=len0 t
 have u0:=len0 u
 have el:t.len=u.len:=by
  rcases Int.lt_trichotomy t.len u.len with c|c|c
  ·have:=((same u.len.toNat t.len t0 (by omega)).2 c).1;omega
  ·exact c
  ·have:=((same t.len.toNat u.len u0 (by omega)).1 c).1;omega
 refine⟨el,fun i i0 i1=> ?_⟩
 have e:=((same t.len.toNat i i0 (by omega)).1 i1).2
 have a:=(h1 i i0 i1).2
 have b:=(h1' i i0 (by omega)).2
 rw[e]at a
 exact a.trans b.symm
theorem View_ok:V_View:=by
 intro y two s rs k rk hp
 simp only[Bool.decide_eq_true]
 refine⟨hp,fun v hv=>⟨fun hn=>⟨⟨fun _=>⟨⟨rfl,rfl,rfl⟩,rfl⟩,fun h=>absurd (hv.2 h) hn⟩,trivial⟩,fun hn=> ?_⟩⟩
 have hv':validT y two s:=hv.1 (Classical.not_not.1 hn)
 refine⟨⟨hv'.2.2.1,hv'.2.1⟩,fun E rE hE _=> ?_⟩
 have hE:forcedS s k E:=hE
 have s4:=hv'.2.1
 have e4:E.len<=400:=by
  obtain⟨g,h1,h2,_⟩:=hE
  have:∀n:Nat,(n:Int)<E.len->(n:Int)<=g n:=by
   intro n
   induction n with
   |zero=>intro h;exact(h1 0 (Int.le_refl _) h).1.1.1
   |succ n ih=>
    intro h
    have a:=ih (by omega)
    have b:=h2 n (n+1:Nat) (by omega) (by omega) h
    omega
  rcases Int.lt_or_le 400 E.len with c|c
  ·have a:=this (E.len.toNat-1) (by omega)
   have b:=(h1 ((E.len.toNat-1:Nat):Int) (by omega) (by omega)).1.1.2
   omega
  ·exact c
 refine⟨fun x u=>((0<=x/\x<=E.len)/\u.len=E.len/\∀l:Int,0<=l->l<E.len->rowEq u l E l)/\(∀l:Int,0<=l->l<x->tgD (u.f l.toNat 4)=true/\tgD (u.f l.toNat 6)=true)/\∀l:Int,x<=l->Untg u l 4/\Untg u l 6,fun x _=>(E.len-x).toNat,
  ⟨⟨⟨Int.le_refl _,len0 E⟩,rfl,fun l _ _=>rowEq_clr E l⟩,fun l _ _=>by omega,fun l _=>⟨untg_clr E l 4,untg_clr E l 6⟩⟩,fun x rx u hJ=> ?_⟩
 obtain⟨⟨⟨x0,x1⟩,hl,hrow⟩,ht,hu⟩:=hJ
 refine⟨fun hx=>⟨x0,by omega,(hu x (Int.le_refl _)).1,(hu x (Int.le_refl _)).2,fun _ _=> ?_⟩,fun hx=>⟨fun j hj q hq=> ?_,⟨fun hn=>absurd hv' hn,fun _=>⟨rfl,rfl,forced_congr hE ⟨hl,fun i i0 i1=>hrow i i0 (by omega)⟩,rfl⟩⟩,trivial⟩⟩
 ·have r:=hrow x x0 hx
  have ok:okF (E.bool x 3) (E.sub x 4) (E.bool x 5) (E.sub x 6):=(forced_right hE hv'.2.2.2 x0 hx).2.2.2.2
  refine⟨SameF.lim r.2.2.2 ok,fun a' b' rb c' d' rd hq=>⟨x0,by omega,by rw[rng64];omega,⟨⟨⟨by omega,by omega⟩,hl,fun l l0 l1=> ?_⟩,fun l l0 l1=> ?_,fun l l0=> ?_⟩,by show(E.len-(x+1)).toNat<(E.len-x).toNat;omega⟩⟩
  ·by_cases e:l=x
   ·subst e
    exact rowEq_upd (SameF_mk (SameF.trans hq r.2.2.2)) r
   ·exact(rowEq_cells (f_upd_ne x0 l0 e)).trans (hrow l l0 l1)
  ·by_cases e:l=x
   ·subst e
    have key:∀q:Nat,3<=q->q<7->(Sl.upd u l 3 [.bool a',Sl.d (Sl.mk1 b'), .bool c',Sl.d (Sl.mk1 d')]).f l.toNat q=[D.bool a',Sl.d (Sl.mk1 b'), .bool c',Sl.d (Sl.mk1 d')].getD (q-3) (.int 0):=fun q h1 h2=>by
     show(if _ then _ else _)=_
     rw[if_pos ⟨rfl,h1,by simpa using h2⟩]
    exact⟨(congrArg tgD (key 4 (by decide) (by decide))).trans (tg_mk1 b'),(congrArg tgD (key 6 (by decide) (by decide))).trans (tg_mk1 d')⟩
   ·rw[f_upd_ne x0 l0 e]
    exact ht l l0 (by omega)
  ·have e:l≠x:=by omega
   unfold Untg
   rw[f_upd_ne x0 (by omega) e]
   exact hu l (by omega)
 ·have:=ht (j:Int) (by omega) (by unfold Sl.len at*;omega)
  rw[show((j:Int)).toNat=j from rfl]at this
  simp only[List.mem_cons,List.not_mem_nil,or_false]at hq
  rcases hq with rfl|rfl
  ·exact this.1
  ·exact this.2
theorem rView_ok:V_rView:=by
 intro n two s rs k rk hn
 simp only[Bool.decide_eq_true]
 have s0:=len0 s
 refine⟨hn,fun v hv=>⟨fun h=>⟨⟨fun _=>⟨⟨rfl,rfl,rfl⟩,rfl⟩,fun g=>absurd (hv.2 g) h⟩,trivial⟩,fun h1=> ?_⟩⟩
 have hV:validT n two s:=hv.1 (Classical.not_not.1 h1)
 have s4:=hV.2.1
 refine⟨fun x y t u=>(y=n/\t=two)/\(0<=x/\x<=s.len)/\u.len<=x/\∃g:Int->Int,(∀i:Int,0<=i->i<u.len->(inForce s k (g i)/\g i<x)/\rowEq u i s (g i))/\(∀i j:Int,0<=i->i<j->j<u.len->g i<g j)/\∀q:Int,inForce s k q->q<x->∃i:Int,0<=i/\i<u.len/\g i=q,fun x _ _ _=>(s.len-x).toNat,
  ⟨⟨rfl,rfl⟩,⟨Int.le_refl _,s0⟩,by rw[len_nil];exact Int.le_refl _,fun _=>0,fun i i0 i1=>by rw[len_nil]at i1;omega,fun i j i0 ij j1=>by rw[len_nil]at j1;omega,fun q hq q1=>by have:=hq.1.1;omega⟩,fun x rx y t u ru hJ _=> ?_⟩
 obtain⟨⟨hy,ht⟩,⟨x0,x1⟩,hl,g,g1,g2,g3⟩:=hJ
 have u0:=len0 u
 refine⟨fun hx=>⟨⟨⟨x0,hx⟩,s4⟩,fun b hb=>⟨fun hn1=> ?_,fun hn1=> ?_⟩⟩,fun hx=> ?_⟩
 ·have hf:inForce s k x:=hb.1 hn1
  have body:∀z:List D,z=[.int (s.int x 0), .int (s.int x 1), .int (s.int x 2), .bool (s.bool x 3),Sl.d (s.sub x 4), .bool (s.bool x 5),Sl.d (s.sub x 6)]->(u.len+(Sl.lit [z]).len)*88<=140737488355328/\Rng .i64 (x+1)/\(((y=n/\t=two)/\(0<=x+1/\x+1<=s.len)/\(Sl.app u (Sl.lit [z])).len<=x+1/\∃g:Int->Int,(∀i:Int,0<=i->i<(Sl.app u (Sl.lit [z])).len->(inForce s k (g i)/\g i<x+1)/\rowEq (Sl.app u (Sl.lit [z])) i s (g i))/\(∀i j:Int,0<=i->i<j->j<(Sl.app u (Sl.lit [z])).len->g i<g j)/\∀q:Int,inForce s k q->q<x+1->∃i:Int,0<=i/\i<(Sl.app u (Sl.lit [z])).len/\g i=q)/\(s.len-(x+1)).toNat<(s.len-x).toNat):=fun z hz=>by
   have e1:(Sl.lit [z]).len=1:=rfl
   have el:(Sl.app u (Sl.lit [z])).len=u.len+1:=by rw[len_app,e1]
   refine⟨by rw[e1];omega,by rw[rng64];omega,⟨⟨hy,ht⟩,⟨by omega,by omega⟩,by omega,fun i=>if i<u.len then g i else x,fun i i0 i1=> ?_,fun i j i0 ij j1=> ?_,fun q hq q1=> ?_⟩,by omega⟩
   ·dsimp only
    by_cases c:i<u.len
    ·rw[if_pos c]
     have a:=g1 i i0 c
     exact⟨⟨a.1.1,by have:=a.1.2;omega⟩,(rowEq_cells (f_app_lt i0 c)).trans a.2⟩
    ·rw[if_neg c]
     have:i=u.len:=by omega
     subst this
     refine⟨⟨hf,by omega⟩, ?_⟩
     rw[hz]
     exact(rowEq_lit (s:=s) rfl).trans ⟨rfl,rfl,rfl,⟨rfl,rfl,fun _ _ _=>rfl⟩,rfl,rfl,fun _ _ _=>rfl⟩
   ·dsimp only
    by_cases c:j<u.len
    ·rw[if_pos (by omega),if_pos c]
     exact g2 i j i0 ij c
    ·rw[if_neg c,if_pos (by omega)]
     exact(g1 i i0 (by omega)).1.2
   ·by_cases c:q<x
    ·obtain⟨i,i0,i1,e⟩:=g3 q hq c
     exact⟨i,i0,by omega,by dsimp only;rw[if_pos i1];exact e⟩
    ·exact⟨u.len,u0,by omega,by dsimp only;rw[if_neg (by omega)];omega⟩
  exact⟨x0,hx,fun _ _ _ _ _=>body _ rfl,fun _ _ _ _ _=>⟨body _ rfl,body _ rfl⟩⟩
 ·have hf:¬inForce s k x:=fun h=>hn1 (hb.2 h)
  refine⟨by rw[rng64];omega,⟨⟨hy,ht⟩,⟨by omega,by omega⟩,by omega,g,fun i i0 i1=>⟨⟨(g1 i i0 i1).1.1,by have:=(g1 i i0 i1).1.2;omega⟩,(g1 i i0 i1).2⟩,g2,fun q hq q1=>g3 q hq (by
   have:q≠x:=fun e=>by subst e;exact hf hq
   omega)⟩,by show(s.len-(x+1)).toNat<(s.len-x).toNat;omega⟩
 ·have ex:x=s.len:=by omega
  subst ex
  exact⟨⟨fun h=>absurd hV h,fun _=>⟨hy,ht,⟨g,fun i i0 i1=>⟨(g1 i i0 i1).1.1,(g1 i i0 i1).2⟩,g2,fun q hq=>g3 q hq hq.1.2⟩,rfl⟩⟩,trivial⟩
end Go.Sx.N
