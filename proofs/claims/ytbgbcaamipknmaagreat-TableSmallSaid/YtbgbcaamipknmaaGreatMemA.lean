/-
 Several texts in one. Conditions: none.
-/
import Derived.Test.YtbgbcaamipknmaaGreatNumVH
import Derived.Test.YtbgbcaamipknmaaGreatMemT
set_option linter.unusedVariables false
set_option linter.unusedSimpArgs false
namespace Go.Sx.N
theorem tRight_ok:V_tRight:=by
 intro two a _ b _ k _ nn nl _ dn dl _ _
 simp only[Bool.decide_eq_true]
 have no:(rightS two a b k nn nl dn dl->False)->q_tRight two a b k nn nl dn dl (decide False)/\True:=fun h=>⟨⟨fun e=>by simp at e,fun e=>absurd e h⟩,trivial⟩
 refine⟨fun h=>no fun e=>by have:=e.1;omega,fun h1=>⟨fun h=>no fun e=>by have:=e.1;omega,fun h2=>⟨fun h=>no fun e=>by have:=e.2.1;omega,fun h3=>⟨fun h=>no fun e=>by have:=e.2.1;omega,fun h4=> ?_⟩⟩⟩⟩
 have core:(two=true\/b=0)->((k>=0->(k<65536->p_rValid2 nn nl dn dl/\∀r:Bool,q_rValid2 nn nl dn dl r->q_tRight two a b k nn nl dn dl r/\True)/\(¬k<65536->q_tRight two a b k nn nl dn dl (decide False)/\True))/\(¬k>=0->q_tRight two a b k nn nl dn dl (decide False)/\True)):=fun ht=>
  ⟨fun h0=>⟨fun h1=>⟨trivial,fun r hr=>⟨⟨fun e=>⟨⟨by omega,by omega⟩,⟨by omega,by omega⟩,ht,⟨h0,h1⟩,hr.1 e⟩,fun e=>hr.2 e.2.2.2.2⟩,trivial⟩⟩,fun h1=>no fun e=>by have:=e.2.2.2.1;omega⟩,fun h0=>no fun e=>by have:=e.2.2.2.1;omega⟩
 exact⟨fun ht=>⟨fun hb=>no fun e=>by rcases e.2.2.1 with h|h;exact ht h;exact hb h,fun hb=>core (.inr (Classical.not_not.1 hb))⟩,fun ht=>core (.inl (Classical.not_not.1 ht))⟩
theorem tBefore_ok:V_tBefore:=by
 intro a _ b _ k _ nn nl _ dn dl _ a' _ b' _ k' _ nn' nl' _ dn' dl' _ _
 refine⟨fun h=>⟨?_,trivial⟩,fun h=>⟨fun h'=>⟨?_,trivial⟩,fun h'=>⟨?_,trivial⟩⟩⟩<;>(unfold q_tBefore ltK;rw[decide_eq_true_eq];omega)
theorem rTValid_ok:V_rTValid:=by
 intro n two s _ hn
 simp only[Bool.decide_eq_true]
 have s0:=len0 s
 have rn:Rng .i64 (ylen n):=by
  have h:ylen n<=9223372036854775807:=hn
  have:0<=ylen n:=Int.natCast_nonneg _
  rw[rng64];omega
 have no:¬validT n two s->q_rTValid n two s (decide False)/\True:=fun h=>⟨⟨fun e=>by simp at e,fun e=>absurd e h⟩,trivial⟩
 refine⟨rn,fun h=>no fun e=>by have:=e.1.1;omega,fun h1=>⟨rn,fun h=>no fun e=>by have:=e.1.2;omega,fun h2 _=>⟨fun h=>no fun e=>by have:=e.2.1;omega,fun h3=> ?_⟩⟩⟩
 refine⟨fun i=>(0<=i/\i<=s.len)/\∀j:Int,0<=j->j<i->rightAt two s j/\(0<j->¬ltR s j s (j-1)),fun i=>(s.len-i).toNat,⟨⟨Int.le_refl _,s0⟩,fun j h0 h1=>by omega⟩,fun i _ hJ _=> ?_⟩
 obtain⟨⟨i0,i1⟩,hz⟩:=hJ
 refine⟨fun hi=>⟨i0,hi,fun _ _ _ _ _=>⟨trivial,fun v hv=>⟨fun hn=>no fun e=>hn (hv.2 (e.2.2.2 i i0 hi)),fun hy=> ?_⟩⟩⟩,fun hi=>⟨⟨fun _=>⟨⟨by omega,by omega⟩,by omega,fun j j0 j1=>(hz j (by omega) (by omega)).2 j0,fun j j0 j1=>(hz j j0 (by omega)).1⟩,fun _=>by decide⟩,trivial⟩⟩
 have hr:rightAt two s i:=hv.1 (Classical.not_not.1 hy)
 have nxt:(0<i->¬ltR s i s (i-1))->Rng .i64 (i+1)/\((0<=i+1/\i+1<=s.len)/\∀j:Int,0<=j->j<i+1->rightAt two s j/\(0<j->¬ltR s j s (j-1)))/\(s.len-(i+1)).toNat<(s.len-i).toNat:=fun hb=>by
  refine⟨by rw[rng64];omega,⟨⟨by omega,by omega⟩,fun j j0 j1=> ?_⟩,by omega⟩
  by_cases c:j<i
  ·exact hz j j0 c
  ·have:j=i:=by omega
   subst this;exact⟨hr,hb⟩
 refine⟨fun hp=>⟨i0,hi,by rw[rng64];omega,by omega,by omega, ?_⟩,fun hp=>nxt fun h=>absurd h hp⟩
 constructor<;>
 ·intro _ _ _ _ _ _ _ _ _ _
  refine⟨trivial,fun w hw=>⟨fun h=>no fun e=> ?_,fun h=>nxt fun _ g=>h (hw.2 g)⟩⟩
  exact e.2.2.1 i hp hi (hw.1 h)
theorem tForce_ok:V_tForce:=by
 intro n two s _ i _ known _ ⟨⟨i0,i1⟩,hl⟩
 have no:¬inForce s known i->q_tForce n two s i known (decide False)/\True:=fun h=>⟨⟨fun e=>by simp at e,fun e=>absurd e h⟩,trivial⟩
 simp only[Bool.decide_eq_true]
 refine⟨i0,i1,fun _=>⟨fun h=>no fun e=>by have:=e.2.1;omega,fun hk=>⟨by rw[rng64];omega, ?_⟩⟩⟩
 refine⟨fun k=>(i<k/\k<=s.len)/\∀j:Int,i<j->j<k->s.int j 0=s.int i 0->s.int j 1=s.int i 1->known<s.int j 2,fun k=>(s.len-k).toNat,⟨⟨by omega,by omega⟩,fun j _ _=>by omega⟩,fun k _ hJ _=> ?_⟩
 obtain⟨⟨k0,k1⟩,hz⟩:=hJ
 have nxt:k<s.len->(s.int k 0=s.int i 0->s.int k 1=s.int i 1->known<s.int k 2)->Rng .i64 (k+1)/\((i<k+1/\k+1<=s.len)/\∀j:Int,i<j->j<k+1->s.int j 0=s.int i 0->s.int j 1=s.int i 1->known<s.int j 2)/\(s.len-(k+1)).toNat<(s.len-k).toNat:=fun hk1 h=>by
  refine⟨by rw[rng64];omega,⟨⟨by omega,by omega⟩,fun j j0 j1=> ?_⟩,by omega⟩
  by_cases c:j<k
  ·exact hz j j0 c
  ·have:j=k:=by omega
   subst this;exact h
 refine⟨fun hk1=>⟨by omega,hk1,fun _=>⟨i0,i1,fun _=>⟨fun e0=>⟨by omega,hk1,fun _=>⟨i0,i1,fun _=>⟨fun e1=>⟨by omega,hk1,fun _=>⟨fun h=>no fun e=> ?_,fun h=>nxt hk1 fun _ _=>by omega⟩⟩,fun e1=>nxt hk1 fun _ g=>absurd g e1⟩⟩⟩,fun e0=>nxt hk1 fun g=>absurd g e0⟩⟩⟩,fun hk1=>⟨⟨fun _=>⟨⟨i0,i1⟩,by omega,fun j j0 j1=>hz j j0 (by omega)⟩,fun _=>by decide⟩,trivial⟩⟩
 have:=e.2.2 k k0 hk1 e0 e1
 omega
theorem rLook_ok:V_rLook:=by
 intro n two s _ a _ known _ hn
 simp only[Bool.decide_eq_true]
 have s0:=len0 s
 have bad:¬(validT n two s/\two=false)->q_rLook n two s a known (decide False) Sl.nil (decide False) Sl.nil 2/\True:=fun h=>⟨⟨fun _=>⟨zeroF_nil,rfl⟩,fun k=>absurd k h⟩,trivial⟩
 refine⟨hn,fun v hv=>⟨fun h=>bad fun k=>h (hv.2 k.1),fun h1=>⟨fun h=>bad fun k=>by rw[h]at k;exact absurd k.2 (by decide),fun h2=> ?_⟩⟩⟩
 have hV:=hv.1 (Classical.not_not.1 h1)
 have h2:two=false:=by simpa using h2
 have hB:∀i:Int,0<=i->i<s.len->s.int i 1=0:=fun i i0 i1=>by
  rcases(hV.2.2.2 i i0 i1).2.2.1 with h|h
  ·rw[h2]at h;cases h
  ·exact h
 have h4:=hV.2.1
 refine⟨fun x i=>(0<=i/\i<=s.len)/\((x<0/\∀k:Int,k<i->inForce s known k->¬s.int k 0<=a)\/((0<=x/\x<i)/\(inForce s known x/\s.int x 0<=a)/\∀k:Int,k<i->inForce s known k->s.int k 0<=a->s.int k 0<=s.int x 0)),
  fun _ i=>(s.len-i).toNat,⟨⟨Int.le_refl _,s0⟩, .inl ⟨by omega,fun k k1 hk=>by have:=hk.1.1;omega⟩⟩,fun x _ i _⟨⟨i0,i1⟩,hJ⟩ _=>⟨fun hi=>⟨⟨⟨i0,hi⟩,h4⟩,fun w hw=>⟨fun hf=> ?_,fun hf=> ?_⟩⟩,fun hi=> ?_⟩⟩
 ·have hf:=hw.1 hf
  have take:(∀k:Int,k<i->inForce s known k->s.int k 0<=a->s.int k 0<=s.int i 0)->s.int i 0<=a->Rng .i64 (i+1)/\((0<=i+1/\i+1<=s.len)/\((i<0/\∀k:Int,k<i+1->inForce s known k->¬s.int k 0<=a)\/((0<=i/\i<i+1)/\(inForce s known i/\s.int i 0<=a)/\∀k:Int,k<i+1->inForce s known k->s.int k 0<=a->s.int k 0<=s.int i 0)))/\(s.len-(i+1)).toNat<(s.len-i).toNat:=fun hz ha=>
   ⟨by rw[rng64];omega,⟨⟨by omega,by omega⟩, .inr ⟨⟨i0,by omega⟩,⟨hf,ha⟩,fun k k1 hk ka=>by
    by_cases c:k<i
    ·exact hz k c hk ka
    ·have:k=i:=by omega
     subst this;exact Int.le_refl _⟩⟩,by omega⟩
  refine⟨i0,hi,fun _=>⟨fun ha=>⟨fun hx=>take (fun k k1 hk ka=> ?_) ha,fun hx=> ?_⟩,fun ha=>⟨by rw[rng64];omega,⟨⟨by omega,by omega⟩, ?_⟩,by show(s.len-(i+1)).toNat<(s.len-i).toNat;omega⟩⟩⟩
  ·rcases hJ with⟨_,h⟩|⟨h,_⟩
   ·exact absurd ka (h k k1 hk)
   ·omega
  ·rcases hJ with⟨h,_⟩|⟨⟨x0,x1⟩,hxf,hmax⟩
   ·exact absurd h hx
   refine⟨i0,hi,fun _=>⟨by omega,by omega,fun _=>⟨fun hg=>take (fun k k1 hk ka=> ?_) ha,fun hg=>⟨by rw[rng64];omega,⟨⟨by omega,by omega⟩, .inr ⟨⟨x0,by omega⟩,hxf,fun k k1 hk ka=> ?_⟩⟩,by show(s.len-(i+1)).toNat<(s.len-i).toNat;omega⟩⟩⟩⟩
   ·have:=hmax k k1 hk ka
    omega
   ·by_cases c:k<i
    ·exact hmax k c hk ka
    ·have:k=i:=by omega
     subst this;omega
  ·rcases hJ with⟨hx,h⟩|⟨⟨x0,x1⟩,hxf,hmax⟩
   ·refine .inl ⟨hx,fun k k1 hk=> ?_⟩
    by_cases c:k<i
    ·exact h k c hk
    ·have:k=i:=by omega
     subst this;exact ha
   ·refine .inr ⟨⟨x0,by omega⟩,hxf,fun k k1 hk ka=> ?_⟩
    by_cases c:k<i
    ·exact hmax k c hk ka
    ·have:k=i:=by omega
     subst this;exact absurd ka ha
 ·have hf:¬inForce s known i:=fun g=>hf (hw.2 g)
  refine⟨by rw[rng64];omega,⟨⟨by omega,by omega⟩, ?_⟩,by show(s.len-(i+1)).toNat<(s.len-i).toNat;omega⟩
  rcases hJ with⟨hx,h⟩|⟨⟨x0,x1⟩,hxf,hmax⟩
  ·refine .inl ⟨hx,fun k k1 hk=> ?_⟩
   by_cases c:k<i
   ·exact h k c hk
   ·have:k=i:=by omega
    subst this;exact absurd hk hf
  ·refine .inr ⟨⟨x0,by omega⟩,hxf,fun k k1 hk ka=> ?_⟩
   by_cases c:k<i
   ·exact hmax k c hk ka
   ·have:k=i:=by omega
    subst this;exact absurd hk hf
 ·refine⟨fun hx=>⟨⟨fun g=>absurd ⟨hV,h2⟩ g,fun _=>⟨fun _=>⟨zeroF_nil,rfl⟩,fun k hk=> ?_⟩⟩,trivial⟩,fun hx=> ?_⟩
  ·rcases hJ with⟨_,h⟩|⟨h,_⟩
   ·exact absurd hk.1.2 (h k (by have:=hk.1.1.1.2;omega) hk.1.1)
   ·omega
  ·rcases hJ with⟨h,_⟩|⟨⟨x0,x1⟩,hxf,hmax⟩
   ·exact absurd h hx
   have hc:candX s a known x:=⟨hxf,fun j hj ja=>hmax j (by have:=hj.1.2;omega) hj ja⟩
   refine⟨by omega,by omega,fun _ _=>⟨⟨fun g=>absurd ⟨hV,h2⟩ g,fun _=>⟨fun h=>absurd hc (h x),fun k hk=> ?_⟩⟩,trivial⟩⟩
   have e0:s.int k 0=s.int x 0:=by
    have a1:=hk.2 x hxf.1 hxf.2
    have a2:=hc.2 k hk.1.1 hk.1.2
    omega
   have:k=x:=force_uniq hk.1.1 hxf.1 e0 (by rw[hB k hk.1.1.1.1 hk.1.1.1.2,hB x (by omega) (by omega)])
   subst this
   exact⟨⟨⟨rfl,SameI.refl _⟩,rfl,SameI.refl _⟩,rfl⟩
end Go.Sx.N
set_option linter.unusedVariables false
set_option linter.unusedSimpArgs false
namespace Go.Sx.N
def bestJ(F:Int->Prop)(v:Int->Int)(n y i:Int):Prop:=(0<=i/\i<=n)/\((y<0/\∀k:Int,k<i->¬F k)\/((0<=y/\y<i)/\F y/\∀k:Int,k<i->F k->v k<=v y))
section
variable{F:Int->Prop}{v:Int->Int}{n y i:Int}
theorem best_start(hF:∀k,F k->0<=k)(h:0<=n):bestJ F v n (-1) 0:=⟨⟨Int.le_refl _,h⟩, .inl ⟨by omega,fun k hk hf=>by have:=hF k hf;omega⟩⟩
theorem best_skip(h:bestJ F v n y i)(hi:i<n)(hf:¬F i):bestJ F v n y (i+1):=by
 obtain⟨⟨h0,h1⟩,hj⟩:=h
 refine⟨⟨by omega,by omega⟩, ?_⟩
 rcases hj with⟨hy,hn⟩|⟨⟨y0,y1⟩,hfy,hm⟩
 ·refine .inl ⟨hy,fun k hk=> ?_⟩
  by_cases c:k<i
  ·exact hn k c
  ·have:k=i:=by omega
   subst this;exact hf
 ·refine .inr ⟨⟨y0,by omega⟩,hfy,fun k hk g=> ?_⟩
  by_cases c:k<i
  ·exact hm k c g
  ·have:k=i:=by omega
   subst this;exact absurd g hf
theorem best_take(h:bestJ F v n y i)(hi:i<n)(hf:F i)(hv:y<0\/v i>v y):bestJ F v n i (i+1):=by
 obtain⟨⟨h0,h1⟩,hj⟩:=h
 refine⟨⟨by omega,by omega⟩, .inr ⟨⟨h0,by omega⟩,hf,fun k hk g=> ?_⟩⟩
 by_cases c:k<i
 ·rcases hj with⟨hy,hn⟩|⟨⟨y0,y1⟩,hfy,hm⟩
  ·exact absurd g (hn k c)
  ·have:=hm k c g
   rcases hv with hv|hv<;>omega
 ·have:k=i:=by omega
  subst this;exact Int.le_refl _
theorem best_keep(h:bestJ F v n y i)(hi:i<n)(hy:¬y<0)(hv:¬v i>v y):bestJ F v n y (i+1):=by
 obtain⟨⟨h0,h1⟩,hj⟩:=h
 refine⟨⟨by omega,by omega⟩, ?_⟩
 rcases hj with⟨hy',hn⟩|⟨⟨y0,y1⟩,hfy,hm⟩
 ·exact absurd hy' hy
 ·refine .inr ⟨⟨y0,by omega⟩,hfy,fun k hk g=> ?_⟩
  by_cases c:k<i
  ·exact hm k c g
  ·have:k=i:=by omega
   subst this;omega
theorem best_none(h:bestJ F v n y i)(hy:y<0)(hall:∀k,F k->k<i):∀k,¬F k:=fun k hf=>by
 rcases h.2 with⟨_,hn⟩|⟨⟨y0,_⟩,_⟩
 ·exact hn k (hall k hf) hf
 ·omega
theorem best_some(h:bestJ F v n y i)(hy:¬y<0)(hall:∀k,F k->k<i):(0<=y/\y<n)/\F y/\∀k,F k->v k<=v y:=by
 obtain⟨⟨h0,h1⟩,hj⟩:=h
 rcases hj with⟨hy',hn⟩|⟨⟨y0,y1⟩,hfy,hm⟩
 ·exact absurd hy' hy
 ·exact⟨⟨y0,by omega⟩,hfy,fun k g=>hm k (hall k g) g⟩
theorem best_next{m x:Int}(hm:n<=400)(h:bestJ F v n y (i+1))(hi:i<n):Rng .i64 (i+1)/\(bestJ F v n y (i+1)/\(n-(i+1)).toNat<(n-i).toNat):=by
 have:=h.1
 exact⟨by rw[rng64];omega,h,by omega⟩
theorem best_nn(h:bestJ F v n y i)(hy:¬y<0):0<=y/\y<n:=by
 obtain⟨⟨h0,h1⟩,hj⟩:=h
 rcases hj with⟨hy',_⟩|⟨⟨y0,y1⟩,_⟩
 ·exact absurd hy' hy
 ·exact⟨y0,by omega⟩
end
theorem rLookTwo_ok:V_rLookTwo:=by
 intro n two s _ a _ b _ known _ hn
 simp only[Bool.decide_eq_true]
 have s0:=len0 s
 have bad:¬(validT n two s/\two=true)->q_rLookTwo n two s a b known (decide False) Sl.nil (decide False) Sl.nil 2/\True:=fun h=>⟨⟨fun _=>⟨zeroF_nil,rfl⟩,fun k=>absurd k h⟩,trivial⟩
 refine⟨hn,fun v hv=>⟨fun h=>bad fun k=>h (hv.2 k.1),fun h1=>⟨fun h=>bad fun k=>h k.2,fun h2=> ?_⟩⟩⟩
 have hV:=hv.1 (Classical.not_not.1 h1)
 have h2:two=true:=Classical.not_not.1 h2
 have h4:=hV.2.1
 have ok:validT n two s/\two=true:=⟨hV,h2⟩
 refine⟨bestJ (fun k=>inForce s known k/\s.int k 0<=a) (fun k=>s.int k 0) s.len,fun _ i=>(s.len-i).toNat,best_start (fun k hk=>hk.1.1.1) s0,fun x _ i _ hJ _=>⟨fun hi=>⟨⟨⟨hJ.1.1,hi⟩,h4⟩,fun w hw=>⟨fun hf=> ?_,fun hf=> ?_⟩⟩,fun hi=> ?_⟩⟩
 ·have hf:=hw.1 hf
  refine⟨hJ.1.1,hi,fun _=>⟨fun ha=>⟨fun hx=>best_next (m:=0) (x:=0) h4 (best_take hJ hi ⟨hf,ha⟩ (.inl hx)) hi,fun hx=>⟨hJ.1.1,hi,fun _=>⟨(best_nn hJ hx).1,(best_nn hJ hx).2,fun _=>⟨fun hg=>best_next (m:=0) (x:=0) h4 (best_take hJ hi ⟨hf,ha⟩ (.inr hg)) hi,fun hg=>best_next (m:=0) (x:=0) h4 (best_keep hJ hi hx hg) hi⟩⟩⟩⟩,
   fun ha=>best_next (m:=0) (x:=0) h4 (best_skip hJ hi fun g=>ha g.2) hi⟩⟩
 ·exact best_next (m:=0) (x:=0) h4 (best_skip hJ hi fun g=>hf (hw.2 g.1)) hi
 have hall1:∀k,(inForce s known k/\s.int k 0<=a)->k<i:=fun k hk=>by have:=hk.1.1.2;omega
 have cX:∀k,candX s a known k↔0<=x/\inForce s known k/\s.int k 0=s.int x 0:=fun k=>by
  constructor
  ·intro hc
   by_cases hx:x<0
   ·exact absurd hc.1 (best_none hJ hx hall1 k)
   obtain⟨_,g1,g2⟩:=best_some hJ hx hall1
   have a1:=hc.2 x g1.1 g1.2
   have a2:=g2 k hc.1
   exact⟨by omega,hc.1.1,by omega⟩
  ·rintro⟨x0,hf,e⟩
   obtain⟨_,g1,g2⟩:=best_some hJ (by omega) hall1
   exact⟨⟨hf,by have:=g1.2;omega⟩,fun j hj ja=>by have:=g2 j ⟨hj,ja⟩;omega⟩
 have hx1:0<=x->x<s.len:=fun h=>(best_nn hJ (by omega)).2
 refine⟨bestJ (fun k=>candX s a known k/\s.int k 1<=b) (fun k=>s.int k 1) s.len,fun _ i=>(s.len-i).toNat,best_start (fun k hk=>hk.1.1.1.1.1) s0,fun y _ j _ hK _=> ?_⟩
 have fin:(∀k,(candX s a known k/\s.int k 1<=b)->k<j)->(y<0->q_rLookTwo n two s a b known (decide False) Sl.nil (decide False) Sl.nil 6/\True)/\
   (¬y<0->0<=y/\y<s.len/\(Ranged (s.sub y 4) [some .u16]->(Ranged (s.sub y 6) [some .u16]->q_rLookTwo n two s a b known (s.bool y 3) (s.sub y 4) (s.bool y 5) (s.sub y 6) 0/\True))):=fun hall=>by
  refine⟨fun hy=>⟨⟨fun g=>absurd ok g,fun _=>⟨fun _=>⟨zeroF_nil,rfl⟩,fun k hk=>absurd hk.1 (best_none hK hy hall k)⟩⟩,trivial⟩,fun hy=> ?_⟩
  obtain⟨hr,g1,g2⟩:=best_some hK hy hall
  have hc:candT s a b known y:=⟨g1,fun j hj jb=>g2 j ⟨hj,jb⟩⟩
  refine⟨hr.1,hr.2,fun _ _=>⟨⟨fun g=>absurd ok g,fun _=>⟨fun h=>absurd hc (h y),fun k hk=> ?_⟩⟩,trivial⟩⟩
  have e0:s.int k 0=s.int y 0:=by
   have:=((cX k).1 hk.1.1).2.2
   have:=((cX y).1 g1.1).2.2
   omega
  have e1:s.int k 1=s.int y 1:=by
   have a1:=hk.2 y g1.1 g1.2
   have a2:=g2 k hk.1
   omega
  have:k=y:=force_uniq hk.1.1.1.1 g1.1.1.1 e0 e1
  subst this
  exact⟨⟨⟨rfl,SameI.refl _⟩,rfl,SameI.refl _⟩,rfl⟩
 refine⟨fun hj=>⟨fun hx=>⟨⟨⟨hK.1.1,hj⟩,h4⟩,fun w hw=>⟨fun hf=> ?_,fun hf=> ?_⟩⟩,fun hx=>fin fun k hk=>absurd ((cX k).1 hk.1).1 hx⟩,fun hj=>fin fun k hk=>by have:=hk.1.1.1.1.2;omega⟩
 ·have hf:=hw.1 hf
  refine⟨hK.1.1,hj,fun _=>⟨hx,hx1 hx,fun _=>⟨fun e0=>⟨hK.1.1,hj,fun _=>⟨fun hb=> ?_,fun hb=>best_next (m:=0) (x:=0) h4 (best_skip hK hj fun g=>hb g.2) hj⟩⟩,fun e0=>best_next (m:=0) (x:=0) h4 (best_skip hK hj fun g=>e0 ((cX j).1 g.1).2.2) hj⟩⟩⟩
  have hc:candX s a known j/\s.int j 1<=b:=⟨(cX j).2 ⟨hx,hf,e0⟩,hb⟩
  exact⟨fun hy=>best_next (m:=0) (x:=0) h4 (best_take hK hj hc (.inl hy)) hj,fun hy=>⟨hK.1.1,hj,fun _=>⟨(best_nn hK hy).1,(best_nn hK hy).2,fun _=>⟨fun hg=>best_next (m:=0) (x:=0) h4 (best_take hK hj hc (.inr hg)) hj,fun hg=>best_next (m:=0) (x:=0) h4 (best_keep hK hj hy hg) hj⟩⟩⟩⟩
 ·exact best_next (m:=0) (x:=0) h4 (best_skip hK hj fun g=>hf (hw.2 g.1.1.1)) hj
theorem zeroF_eq{a c a' c':Bool}{b d b' d':Sl}(h:zeroF a b c d)(g:zeroF a' b' c' d'):SameF a b c d a' b' c' d':=by
 obtain⟨rfl,h2,rfl,h4⟩:=h
 obtain⟨rfl,g2,rfl,g4⟩:=g
 exact⟨⟨rfl,by rw[h2,g2],fun i i0 i1=>by omega⟩,rfl,by rw[h4,g4],fun i i0 i1=>by omega⟩
theorem lookR_same{ok:Prop}{C:Int->Prop}{s:Sl}{a c a' c':Bool}{b d b' d':Sl}{e e':Int}(h:lookR ok C s a b c d e)(h':lookR ok C s a' b' c' d' e'):e=e'/\SameF a b c d a' b' c' d':=by
 by_cases k:ok
 ·by_cases x:∃k,C k
  ·obtain⟨k',hk⟩:=x
   obtain⟨r1,e1⟩:=look_at h k hk
   obtain⟨r2,e2⟩:=look_at h' k hk
   exact⟨by rw[e1,e2],SameF.trans (SameF.symm r1) r2⟩
  ·obtain⟨z1,e1⟩:=look_no h k fun j hj=>x ⟨j,hj⟩
   obtain⟨z2,e2⟩:=look_no h' k fun j hj=>x ⟨j,hj⟩
   exact⟨by rw[e1,e2],zeroF_eq z1 z2⟩
 ·obtain⟨z1,e1⟩:=h.1 k
  obtain⟨z2,e2⟩:=h'.1 k
  exact⟨by rw[e1,e2],zeroF_eq z1 z2⟩
theorem looks_ok:V_looks:=by
 intro n two s _ a _ b _ known _ ⟨hn,hb⟩
 simp only[Bool.decide_eq_true]
 refine⟨hb,fun n' two' s' hq=> ?_⟩
 obtain⟨rfl,rfl,rfl⟩:=hq
 refine⟨hn,fun a1 b1 _ c1 d1 _ e1 _ h1=>⟨hn,fun a2 b2 _ c2 d2 _ e2 _ h2=>⟨hn,fun a3 b3 _ c3 d3 _ e3 _ h3=>⟨hn,fun a4 b4 _ c4 d4 _ e4 _ h4=> ?_⟩⟩⟩⟩
 have s1:=lookR_same h1 h2
 have s2:=lookR_same h3 h4
 exact⟨fun h=>absurd s1.1 h,fun _=>⟨fun h=>absurd s2.1 h,fun _=>⟨⟨rfl,rfl,rfl,hb⟩,fun r hr=>⟨fun h=>absurd hr h,fun _=>⟨trivial,fun u hu=>⟨fun _=>⟨trivial,fun v hv=>⟨hv.2 s2.2,trivial⟩⟩,fun h=>absurd (hu.2 s1.2) h⟩⟩⟩⟩⟩⟩
end Go.Sx.N
