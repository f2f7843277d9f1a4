/-
 Two tables that are their own lie apart. Conditions: as typed.
-/
import Derived.Test.YtbgbcaamipknmaaGreatApaE
import Derived.Test.YtbgbcaamipknmaaGreatApaF
set_option linter.unusedVariables false
set_option linter.unusedSimpArgs false
namespace Go.Sx.Apart
open Go Go.Proofs Go.RowKit Go.Lib Go.Sx Go.Sx.Lent
def Ap2(u v:Value):Prop:=∀c,blkOf u=some c->blkOf v=some c->False
theorem dp_int{w:World}{Z:Nat->Prop}{d:D}{k:IntKind}{u:Value}(h:Dp Tryz.prog w Z d (.int k) u):∃n,u= .int k n:=by
 cases d with
 |int n=>obtain⟨ik,hik,hu,_⟩:=h;cases hik;exact⟨n,hu⟩
 |bool b=>exact absurd h.1 (by simp)
 |str b=>exact absurd h.1 (by simp)
 |sl p q=>obtain⟨_,_,_,hk,_⟩:=h;cases hk
theorem dp_bool{w:World}{Z:Nat->Prop}{d:D}{u:Value}(h:Dp Tryz.prog w Z d .bool u):∃b,u= .bool b:=by
 cases d with
 |int n=>obtain⟨ik,hik,_⟩:=h;cases hik
 |bool b=>exact⟨b,h.2⟩
 |str b=>exact absurd h.1 (by simp)
 |sl p q=>obtain⟨_,_,_,hk,_⟩:=h;cases hk
theorem dp_limb{w:World}{Z:Nat->Prop}{d:D}{u:Value}(h:Dp Tryz.prog w Z d (.sl 105) u):∃(a:Option Addr)(c:Nat)(xs:List Value),u= .slice a d.toS.n c/\Row w 105 1 u d.toS.n xs/\∀g,blkOf u=some g->Z g:=by
 cases d with
 |int n=>obtain⟨ik,hik,_⟩:=h;cases hik
 |bool b=>exact absurd h.1 (by simp)
 |str b=>exact absurd h.1 (by simp)
 | sl m g=>
  have hz:=fun c hc=>Dp.blk h (c:=c) hc
  obtain⟨e,a,cap,hk,rfl,h1,h2,h3,h4⟩:=h
  cases hk
  rcases h4 with rfl|⟨b,cs,rfl,h5,h6,h7⟩
  ·have:m=0:=by omega
   subst this
   exact⟨a,0,[],rfl,⟨rfl, .inl ⟨rfl,a,rfl⟩⟩,hz⟩
  ·have h8:=(h7 _ kindU).1
   have h8:cs.size=cap*1:=h8
   by_cases hc:cap=0
   ·have:m=0:=by omega
    subst this hc
    exact⟨_,0,[],rfl,⟨rfl, .inl ⟨rfl,_,rfl⟩⟩,hz⟩
   ·exact⟨_,cap,cs.toList.take (m*1),rfl,⟨by show(cs.toList.take (m*1)).length=m*1;rw[List.length_take,Array.length_toList];omega, .inr ⟨b,cap,cs,rfl,by omega,by show m<=cap;omega,h2,h6,h8,rfl⟩⟩,hz⟩
theorem dp_rows{w:World}{Z:Nat->Prop}{n:Nat}{f:Nat->Nat->D}{v:Value}(h:Dp Tryz.prog w Z (.sl n f) (.sl 28) v):∃(a:Option Addr)(c:Nat)(rs:Array Value)(xs:List Value),v= .slice a n c/\RowsAt w a n rs/\Row w 28 7 v n xs/\(∀g,blkOf v=some g->Z g)/\(limbsOf rs n).Pairwise Ap2/\
  ∀u∈limbsOf rs n,∃i j,i<n/\(j=4\/j=6)/\∃xs,Row w 105 1 u (f i j).toS.n xs/\∀g,blkOf u=some g->Z g:=by
 have hz:=fun c hc=>Dp.blk h (c:=c) hc
 obtain⟨e,a,cap,hk,rfl,h1,h2,h3,h4⟩:=h
 cases hk
 have none:n=0->cap=0->∃(a':Option Addr)(c:Nat)(rs:Array Value)(xs:List Value),Value.slice a n cap= .slice a' n c/\RowsAt w a' n rs/\Row w 28 7 (.slice a n cap) n xs/\(∀g,blkOf (.slice a n cap)=some g->Z g)/\(limbsOf rs n).Pairwise Ap2/\
   ∀u∈limbsOf rs n,∃i j,i<n/\(j=4\/j=6)/\∃xs,Row w 105 1 u (f i j).toS.n xs/\∀g,blkOf u=some g->Z g:=fun e1 e2=>by
  subst e1 e2
  exact⟨a,0, #[],[],rfl,fun i hi=>by omega,⟨rfl, .inl ⟨rfl,a,rfl⟩⟩,hz,List.Pairwise.nil,fun u hu=>by simp[limbsOf]at hu⟩
 rcases h4 with h4|⟨b,cs,rfl,h5,h6,h7⟩
 ·exact none (by omega) h4
 ·by_cases hc:cap=0
  ·exact none (by omega) hc
  obtain⟨h8,h9,h10⟩:=h7 _ kindR
  have h8:cs.size=cap*7:=h8
  have hl:∀i,i<n->∀j,(j=4\/j=6)->∃u a1 n1 c1,cs[i*7+j]? =some u/\u= .slice a1 n1 c1/\∃xs,Row w 105 1 u (f i j).toS.n xs/\∀g,blkOf u=some g->Z g:=fun i hi j hj=>by
   obtain⟨u,q1,q2⟩:=h9 i j (.sl 105) hi (by rcases hj with rfl|rfl<;>rfl)
   obtain⟨a1,c1,xs,q3,q4,q5⟩:=dp_limb q2
   exact⟨u,a1,_,c1,q1,q3,xs,q4,q5⟩
  refine⟨_,cap,cs,cs.toList.take (n*7),rfl,fun i hi=>⟨b,rfl,h6, ?_⟩,⟨by rw[List.length_take,Array.length_toList];omega, .inr ⟨b,cap,cs,rfl,by omega,by omega,h2,h6,h8,rfl⟩⟩,hz, ?_, ?_⟩
  ·obtain⟨u0,q0,r0⟩:=h9 i 0 _ hi rfl
   obtain⟨u1,q1,r1⟩:=h9 i 1 _ hi rfl
   obtain⟨u2,q2,r2⟩:=h9 i 2 _ hi rfl
   obtain⟨u3,q3,r3⟩:=h9 i 3 _ hi rfl
   obtain⟨u5,q5,r5⟩:=h9 i 5 _ hi rfl
   obtain⟨u4,a4,n4,c4,q4,rfl,_⟩:=hl i hi 4 (by omega)
   obtain⟨u6,a6,n6,c6,q6,rfl,_⟩:=hl i hi 6 (by omega)
   obtain⟨x,rfl⟩:=dp_int r0
   obtain⟨y,rfl⟩:=dp_int r1
   obtain⟨z,rfl⟩:=dp_int r2
   obtain⟨s1,rfl⟩:=dp_bool r3
   obtain⟨s2,rfl⟩:=dp_bool r5
   exact⟨x,y,z,s1,s2,a4,a6,n4,c4,n6,c6,q0,q1,q2,q3,q4,q5,q6⟩
  ·have ap:∀i j i' j',i<n->i'<n->(j=4\/j=6)->(j'=4\/j'=6)->i*7+j≠i'*7+j'->Ap2 (cs.getD (i*7+j) undef) (cs.getD (i'*7+j') undef):=fun i j i' j' hi hi' hj hj' hne c hc hc'=>by
    obtain⟨u,_,_,_,q,_⟩:=hl i hi j hj
    obtain⟨u',_,_,_,q',_⟩:=hl i' hi' j' hj'
    rw[getD_some q]at hc
    rw[getD_some q']at hc'
    exact hne (h10 _ _ _ _ c (by show i*7+j<n*7;omega) (by show i'*7+j'<n*7;omega) q q' hc hc')
   refine List.pairwise_flatMap.2 ⟨fun i hi=> ?_,List.Pairwise.imp_of_mem (fun{i i'} hi hi' hlt u hu u' hu'=> ?_) List.pairwise_lt_range⟩
   ·have hi:i<n:=by simpa using hi
    simp only[List.pairwise_cons,List.mem_singleton,List.not_mem_nil,false_implies,implies_true,List.Pairwise.nil,and_true]
    rintro _ rfl
    exact ap i 4 i 6 hi hi (by omega) (by omega) (by omega)
   ·have hi:i<n:=by simpa using hi
    have hi':i'<n:=by simpa using hi'
    simp only[List.mem_cons,List.not_mem_nil,or_false]at hu hu'
    rcases hu with rfl|rfl<;>rcases hu' with rfl|rfl<;>exact ap _ _ _ _ hi hi' (by omega) (by omega) (by omega)
  ·intro u hu
   unfold limbsOf at hu
   obtain⟨i,hi,hu⟩:=List.mem_flatMap.1 hu
   have hi:i<n:=by simpa using hi
   simp only[List.mem_cons,List.not_mem_nil,or_false]at hu
   rcases hu with rfl|rfl
   ·obtain⟨u,_,_,_,q,_,xs,r1,r2⟩:=hl i hi 4 (by omega)
    rw[getD_some q]
    exact⟨i,4,hi,by omega,xs,r1,r2⟩
   ·obtain⟨u,_,_,_,q,_,xs,r1,r2⟩:=hl i hi 6 (by omega)
    rw[getD_some q]
    exact⟨i,6,hi,by omega,xs,r1,r2⟩
theorem slices_of{w:World}{e:TypeId}{size N M:Nat}{vs:List Value}(hp:vs.Pairwise Ap2)(h:∀u∈vs,∃m xs,m<=M/\Row w e size u m xs/\∀g,blkOf u=some g->N<=g):∃nn S,Slices w e size N vs nn S/\∀k,nn k<=M:=by
 obtain⟨F,hF⟩:=Classical.axiomOfChoice (r:=fun(k:Nat)(p:Nat×List Value)=>p.1<=M/\∀v,vs[k]? =some v->Row w e size v p.1 p.2/\∀g,blkOf v=some g->N<=g) (fun k=>by
  cases hk:vs[k]? with
  |none=>exact⟨(0,[]),Nat.zero_le _,fun v hv=>by cases hv⟩
  |some v=>
   obtain⟨m,xs,h1,h2,h3⟩:=h v (List.mem_of_getElem? hk)
   exact⟨(m,xs),h1,fun v' hv'=>by cases hv';exact⟨h2,h3⟩⟩)
 refine⟨fun k=>(F k).1,fun k=>(F k).2,⟨fun k v hv=>((hF k).2 v hv).1,fun k k' v v' c hv hv' hc hc'=> ?_,fun k v c hv hc=>((hF k).2 v hv).2 c hc⟩,fun k=>(hF k).1⟩
 have key:∀k k' v v',vs[k]? =some v->vs[k']? =some v'->blkOf v=some c->blkOf v'=some c->¬k<k':=fun k k' v v' hv hv' hc hc' hlt=>by
  obtain⟨h1,e1⟩:=List.getElem?_eq_some_iff.1 hv
  obtain⟨h2,e2⟩:=List.getElem?_eq_some_iff.1 hv'
  have:=List.pairwise_iff_getElem.1 hp k k' h1 h2 hlt
  rw[e1,e2]at this
  exact this c hc hc'
 have h1:=key k k' v v' hv hv' hc hc'
 have h2:=key k' k v' v hv' hv hc' hc
 omega
theorem held_of{w:World}{t:TypeId}{a:Option Addr}{c:Nat}{vs:List Value}(h:Row w t 1 (.slice a vs.length c) vs.length vs):Held w t a vs.length vs:=by
 refine⟨rfl, ?_⟩
 rcases h.2 with⟨h0,_⟩|⟨g,cap,cur,hv,_,_,_,h4,_,h6⟩
 ·exact .inl h0
 ·cases hv
  refine .inr ⟨g,cur,rfl,h4,fun k v hk=> ?_⟩
  rw[<-h6,List.getElem?_take]at hk
  split at hk
  ·simpa using hk
  ·cases hk
set_option maxHeartbeats 4000000 in
set_option maxRecDepth 100000 in
theorem oneTable{w:World}{N B:Nat}{F:Nat->List Value}{y:ByteArray}{two:Bool}{a:Option Addr}{n c:Nat}{rs:Array Value}(hB:Bag w N B F)(hN:N<=w.heap.size)(hl:(F 0).length+2*n<=100000000)(hl2:(F 10).length<=100000000)(hR:RowsAt w a n rs):
  Calls Tryz.prog 69 #[.pointer (some ⟨B,0,none⟩), .agg #[.string y, .bool two, .slice a n c]] w fun e w'=>e= .returned (.tuple #[])/\Fr N EB w w'/\Bag w' N B (upd (upd F 10 (F 10++[.slice a n c])) 0 (F 0++limbsOf rs n)):=by
 have hal:=(Below.refl w.heap.size w).alloc (Nat.le_refl _) (.cells #[.string y, .bool two, .slice a n c] 32 (0,0))
 have hR':RowsAt (w.alloc (.cells #[.string y, .bool two, .slice a n c] 32 (0,0))) a n rs:=fun i hi=>by
  obtain⟨b,h1,h2,h3⟩:=hR i hi
  exact⟨b,h1,(hal.block b (Array.getElem?_eq_some_iff.1 h2).1).trans h2,h3⟩
 go_enter Tryz.func69,Tryz.ntmps69
 go_wp2_with (go_at_call 108;refine(putRows (hB.below hal) (Nat.le_trans hN hal.size) hl hl2 hR').mono ?_;rintro e w1 ⟨rfl,hf1,hB1⟩)
 go_end0
 exact⟨rfl,((Fr.refl N EB w).alloc hN _).trans hf1,hB1⟩
theorem RowsAt.fr{w w':World}{N:Nat}{a:Option Addr}{n:Nat}{rs:Array Value}{E:TypeId->Prop}(h:RowsAt w a n rs)(hf:Fr N E w w')(he:¬E 28):RowsAt w' a n rs:=fun i hi=>by
 obtain⟨b,h1,h2,h3⟩:=h i hi
 exact⟨b,h1,hf.ty _ _ _ _ h2 he,h3⟩
theorem Bag.congr{w:World}{N B:Nat}{F F':Nat->List Value}(h:Bag w N B F)(e:∀j,j=0\/j=10\/j=11->F' j=F j):Bag w N B F':=by
 obtain⟨cs,k1,k2,k3,k4,k5⟩:=h
 refine⟨cs,k1,k2,k3,k4,fun j hj=> ?_⟩
 rw[e j hj]
 exact k5 j hj
def bagOf(T r1 r2:Value)(l1 l2:List Value):Nat->List Value:=fun j=>if j=0 then l1++l2 else if j=10 then [r1,r2]else if j=11 then [T]else []
set_option maxHeartbeats 8000000 in
set_option maxRecDepth 100000 in
theorem putTables{w:World}{N B τ:Nat}{y1 y2:ByteArray}{t1 t2:Bool}{a1 a2:Option Addr}{n1 c1 n2 c2:Nat}{r1 r2:Array Value}(hB:Bag w N B fun _=>[])(hN:N<=w.heap.size)(h1:n1<=1000000)(h2:n2<=1000000)
  (hτ:w.heap[τ]? =some (.cells #[.string y1, .bool t1, .slice a1 n1 c1, .string y2, .bool t2, .slice a2 n2 c2] 32 (0,0))) (hR1:RowsAt w a1 n1 r1) (hR2:RowsAt w a2 n2 r2):
  Calls Tryz.prog 45 #[.pointer (some ⟨B,0,none⟩), .slice (some ⟨τ,0,none⟩) 2 2] w fun e w'=>e= .returned (.tuple #[])/\Fr N EB w w'/\Bag w' N B (bagOf (.slice (some ⟨τ,0,none⟩) 2 2) (.slice a1 n1 c1) (.slice a2 n2 c2) (limbsOf r1 n1) (limbsOf r2 n2)):=by
 obtain⟨iL,hiL,hzL,hsL,hbL⟩:=infoTTS
 obtain⟨cs,va,vc,hcs,hv,hsz,hrow⟩:=hB.at 11 (by omega)
 have c0:w.cell? ⟨B,11,none⟩=some (.slice va 0 vc):=by simp[World.cell?,hcs,hv]
 go_enter Tryz.func45,Tryz.ntmps45
 go_wp2_with (at_builtin;refine wpList_app _ rfl (.tmp 9) (.tmp 11) 48 rfl 47 iL (.slice none 0 0) 1 24 Tryz.underlying48 hiL hzL hsL hbL rfl (by omega) _ 0 [] rfl (hrow.below ((Below.refl _ _).alloc (Nat.le_refl _) _)) ⟨w.heap.size,0,none⟩ 1 1 [.slice (some ⟨τ,0,none⟩) 2 2] rfl (by omega) rfl (new_one _ _ _) one1 (by omega) (by omega) ?_;intro v' w2 hr2 ha2;obtain⟨ga,gc,rfl,_⟩:=hr2.form;have hB2:=ha2.ty (((((Below.refl w.heap.size w).alloc (Nat.le_refl _) _).block B (Array.getElem?_eq_some_iff.1 hcs).1)).trans hcs) (by decide);obtain⟨cG,fG⟩:=held_cell (q:=11) hB2 (by omega))
 obtain⟨hf3,hB3⟩:=hB.step (j:=11) (by omega) hcs hv hN hr2 ha2
 go_loopw [4] (fun i wr=>∃q:Nat,q<=2/\i= .int .i64 q/\Fr N EB w wr/\Bag wr N B (fun j=>if j=0 then(if q=0 then []else if q=1 then limbsOf r1 n1 else limbsOf r1 n1++limbsOf r2 n2)else if j=10 then(if q=0 then []else if q=1 then [.slice a1 n1 c1]else [.slice a1 n1 c1, .slice a2 n2 c2])else if j=11 then [.slice (some ⟨τ,0,none⟩) 2 2]else [])) (fun i _=>2-(intOf i).toNat)
 case atStart=>exact⟨0,by omega,rfl,hf3,hB3.congr fun j hj=>by rcases hj with rfl|rfl|rfl<;>rfl⟩
 case round=>
  obtain⟨q,hq,rfl,hf4,hB4⟩:=hrel
  have hN4:N<=wr.heap.size:=Nat.le_trans hN hf4.size
  have k0:=hf4.box hτ nEB.2.2.1 0
  have k1:=hf4.box hτ nEB.2.2.1 1
  have k2:=hf4.box hτ nEB.2.2.1 2
  have k3:=hf4.box hτ nEB.2.2.1 3
  have k4:=hf4.box hτ nEB.2.2.1 4
  have k5:=hf4.box hτ nEB.2.2.1 5
  simp at k0 k1 k2 k3 k4 k5
  have hcase:q=0\/q=1\/q=2:=by omega
  rcases hcase with rfl|rfl|rfl
  ·go_wp2_with (go_at_call 69;refine(oneTable hB4 hN4 (by simp;omega) (by simp) (hR1.fr hf4 nEB.2.1)).mono ?_;rintro e w5 ⟨rfl,hf5,hB5⟩)
   go_roundw
   case rel=>
    exact⟨1,by omega,by go_num,hf4.trans hf5,hB5.congr fun j hj=>by rcases hj with rfl|rfl|rfl<;>rfl⟩
   case measure=>simp[intOf]
  ·go_wp2_with (go_at_call 69;refine(oneTable hB4 hN4 (by simp[limbsOf_len];omega) (by simp) (hR2.fr hf4 nEB.2.1)).mono ?_;rintro e w5 ⟨rfl,hf5,hB5⟩)
   go_roundw
   case rel=>
    exact⟨2,by omega,by go_num,hf4.trans hf5,hB5.congr fun j hj=>by rcases hj with rfl|rfl|rfl<;>rfl⟩
   case measure=>simp[intOf]
  ·go_wp2
   go_end0
   exact⟨rfl,hf4,hB4⟩
end Go.Sx.Apart
