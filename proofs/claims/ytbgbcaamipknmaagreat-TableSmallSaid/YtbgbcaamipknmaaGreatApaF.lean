/-
 The bag of slices: what is put in. Conditions: as typed.
-/
import Derived.Test.YtbgbcaamipknmaaGreatApaD
set_option linter.unusedVariables false
set_option linter.unusedSimpArgs false
namespace Go.Sx.Apart
open Go Go.Proofs Go.RowKit Go.Lib Go.Sx Go.Sx.Lent
def EB(t:TypeId):Prop:=t=96\/t=22\/t=30\/t=47
def te(j:Nat):TypeId:=if j=0 then 22 else if j=10 then 30 else 47
theorem Row.ty{w w':World}{e:TypeId}{size n:Nat}{v:Value}{xs:List Value}(h:Row w e size v n xs)(hk:∀(x:Nat)(cs:Array Value),w.heap[x]? =some (.cells cs e (0,0))->w'.heap[x]? =some (.cells cs e (0,0))):Row w' e size v n xs:=
 ⟨h.1,h.2.imp id fun⟨g,cap,cur,hv,h1,h2,h3,h4,h5,h6⟩=>⟨g,cap,cur,hv,h1,h2,h3,hk g cur h4,h5,h6⟩⟩
def Bag(w:World)(N B:Nat)(F:Nat->List Value):Prop:=
 ∃cs:Array Value,N<=B/\w.heap[B]? =some (.cells cs 96 (0,0))/\cs.size=23/\(∀j,j<23->j≠0->j≠10->j≠11->cs[j]? =some (.slice none 0 0))/\
  ∀j,j=0\/j=10\/j=11->∃v,cs[j]? =some v/\Row w (te j) 1 v (F j).length (F j)/\∀g,blkOf v=some g->N<=g
theorem te_ne{j j':Nat}(h:j=0\/j=10\/j=11)(h':j'=0\/j'=10\/j'=11)(hne:j'≠j):te j'≠te j:=by
 rcases h with rfl|rfl|rfl<;>rcases h' with rfl|rfl|rfl<;>first|omega|(unfold te;decide)
theorem te_bag{j:Nat}(h:j=0\/j=10\/j=11):te j≠96/\EB (te j):=by
 rcases h with rfl|rfl|rfl<;>(unfold te EB;decide)
theorem Bag.fr{w w':World}{N B M:Nat}{F:Nat->List Value}{E:TypeId->Prop}(h:Bag w N B F)(hf:Fr M E w w')(h0:¬E 96)(h1:∀j,j=0\/j=10\/j=11->¬E (te j)):Bag w' N B F:=by
 obtain⟨cs,k1,k2,k3,k4,k5⟩:=h
 refine⟨cs,k1,hf.ty _ _ _ _ k2 h0,k3,k4,fun j hj=> ?_⟩
 obtain⟨v,r1,r2,r3⟩:=k5 j hj
 exact⟨v,r1,r2.ty fun x cs hx=>hf.ty _ _ _ _ hx (h1 j hj),r3⟩
theorem Bag.below{w w':World}{N B:Nat}{F:Nat->List Value}(h:Bag w N B F)(hb:Below w.heap.size w w'):Bag w' N B F:=
 h.fr (Fr.below (N:=w.heap.size) (E:=fun _=>False) (Fr.refl _ _ _) hb (Nat.le_refl _)) id fun _ _=>id
theorem Bag.step{w w2:World}{N B j:Nat}{F:Nat->List Value}{v v' l:Value}{o:Obj}{cs:Array Value}(hB:Bag w N B F)(hj:j=0\/j=10\/j=11)(hcs:w.heap[B]? =some (.cells cs 96 (0,0)))(hv:cs[j]? =some v)(hN:N<=w.heap.size)
  (hr:Row w2 (te j) 1 v' ((F j).length+1) (F j++[l])) (ha:App (w.alloc o) w2 (te j) 1 v v' (F j).length 1):Fr N EB w (w2.setCell ⟨B,j,none⟩ v')/\Bag (w2.setCell ⟨B,j,none⟩ v') N B (upd F j (F j++[l])):=by
 obtain⟨cs',k1,k2,k3,k4,k5⟩:=hB
 rw[hcs]at k2
 cases k2
 have tb:=te_bag hj
 have hal:Below w.heap.size w (w.alloc o):=(Below.refl _ _).alloc (Nat.le_refl _) o
 have hB1:(w.alloc o).heap[B]? =some (.cells cs 96 (0,0)):=(hal.block B (Array.getElem?_eq_some_iff.1 hcs).1).trans hcs
 have hB2:w2.heap[B]? =some (.cells cs 96 (0,0)):=ha.ty hB1 (Ne.symm tb.1)
 obtain⟨v0,r1,r2,r3⟩:=k5 j hj
 rw[hv]at r1
 cases r1
 have hf2:Fr N EB w w2:=ha.fr ((Fr.refl N EB w).alloc hN o) tb.2 (Nat.le_trans hN hal.size) r3
 have lo':∀g,blkOf v'=some g->N<=g:=fun g hg=>by
  rcases ha.blk with h|h
  ·exact r3 g (by rw[<-h];exact hg)
  ·rw[h]at hg;cases hg;exact Nat.le_trans hN hal.size
 refine⟨hf2.cell hB2 (.inl rfl) k1 _,cs.setIfInBounds j v',k1,heap_at hB2,by simpa using k3,fun i h1 h2 h3 h4=> ?_,fun i hi=> ?_⟩
 ·rw[Array.getElem?_setIfInBounds_ne (by rintro rfl;rcases hj with h|h|h<;>omega)]
  exact k4 i h1 h2 h3 h4
 ·by_cases e:i=j
  ·subst e
   refine⟨v',by rw[Array.getElem?_setIfInBounds_self_of_lt (by rcases hi with h|h|h<;>omega)], ?_,lo'⟩
   rw[upd_at,show(F i++[l]).length=(F i).length+1 by simp]
   exact hr.keep fun x hx=>Below.heap_setCell w2 _ _ x (hr.ne hx hB2 (Ne.symm tb.1))
  ·obtain⟨u,q1,q2,q3⟩:=k5 i hi
   refine⟨u,by rw[Array.getElem?_setIfInBounds_ne (by omega)];exact q1, ?_,q3⟩
   rw[upd_ne F _ e]
   have q4:Row w2 (te i) 1 u (F i).length (F i):=(q2.below hal).ty fun x c hx=>ha.ty hx (te_ne hj hi e)
   exact q4.keep fun x hx=>Below.heap_setCell w2 _ _ x (q4.ne hx hB2 (Ne.symm (te_bag hi).1))
theorem Bag.at{w:World}{N B:Nat}{F:Nat->List Value}(h:Bag w N B F)(j:Nat)(hj:j=0\/j=10\/j=11):∃(cs:Array Value)(a:Option Addr)(c:Nat),w.heap[B]? =some (.cells cs 96 (0,0))/\cs[j]? =some (.slice a (F j).length c)/\cs.size=23/\Row w (te j) 1 (.slice a (F j).length c) (F j).length (F j):=by
 obtain⟨cs,k1,k2,k3,k4,k5⟩:=h
 obtain⟨v,r1,r2,r3⟩:=k5 j hj
 obtain⟨a,c,rfl,_⟩:=r2.form
 exact⟨cs,a,c,k2,r1,k3,r2⟩
theorem one1{a:Option Addr}{n c:Nat}:∀u∈([.slice a n c]:List Value),u.oneCell'=true:=by
 intro u hu
 simp at hu
 subst hu
 rfl
set_option maxHeartbeats 4000000 in
set_option maxRecDepth 100000 in
theorem putLimbs{w:World}{N B:Nat}{F:Nat->List Value}{a:Option Addr}{n c:Nat}(hB:Bag w N B F)(hN:N<=w.heap.size)(hl:(F 0).length<=1000000000):
  Calls Tryz.prog 175 #[.pointer (some ⟨B,0,none⟩), .slice a n c] w fun e w'=>e= .returned (.tuple #[])/\Fr N EB w w'/\Bag w' N B (upd F 0 (F 0++[.slice a n c])):=by
 obtain⟨iL,hiL,hzL,hsL,hbL⟩:=infoSL
 obtain⟨cs,va,vc,hcs,hv,hsz,hrow⟩:=hB.at 0 (by omega)
 have c0:w.cell? ⟨B,0,none⟩=some (.slice va (F 0).length vc):=by simp[World.cell?,hcs,hv]
 go_enter Tryz.func175,Tryz.ntmps175
 go_wp2_with (at_builtin;refine wpList_app _ rfl (.tmp 8) (.tmp 10) 73 rfl 22 iL (.slice none 0 0) 1 24 Tryz.underlying73 hiL hzL hsL hbL rfl (by omega) _ (F 0).length _ rfl (hrow.below ((Below.refl _ _).alloc (Nat.le_refl _) _)) ⟨w.heap.size,0,none⟩ 1 1 [.slice a n c] rfl (by omega) rfl (new_one _ _ _) one1 (by omega) (by omega) ?_;intro v' w2 hr2 ha2;obtain⟨ga,gc,rfl,_⟩:=hr2.form;have hB2:=ha2.ty (((((Below.refl w.heap.size w).alloc (Nat.le_refl _) _).block B (Array.getElem?_eq_some_iff.1 hcs).1)).trans hcs) (by decide);obtain⟨cG,fG⟩:=held_cell (q:=0) hB2 (by omega))
 go_end0
 exact⟨rfl,hB.step (j:=0) (by omega) hcs hv hN hr2 ha2⟩
set_option maxHeartbeats 4000000 in
set_option maxRecDepth 100000 in
theorem oneWhole{w:World}{N B:Nat}{F:Nat->List Value}{s:Bool}{a:Option Addr}{n c:Nat}(hB:Bag w N B F)(hN:N<=w.heap.size)(hl:(F 0).length<=1000000000):
  Calls Tryz.prog 167 #[.pointer (some ⟨B,0,none⟩), .agg #[.bool s, .slice a n c]] w fun e w'=>e= .returned (.tuple #[])/\Fr N EB w w'/\Bag w' N B (upd F 0 (F 0++[.slice a n c])):=by
 have hal:=(Below.refl w.heap.size w).alloc (Nat.le_refl _) (.cells #[.bool s, .slice a n c] 24 (0,0))
 go_enter Tryz.func167,Tryz.ntmps167
 go_wp2_with (go_at_call 175;refine(putLimbs (hB.below hal) (Nat.le_trans hN hal.size) hl).mono ?_;rintro e w1 ⟨rfl,hf1,hB1⟩)
 go_end0
 exact⟨rfl,((Fr.refl N EB w).alloc hN _).trans hf1,hB1⟩
theorem lenF{F:Nat->List Value}{v:Value}{j:Nat}:(upd F j (F j++[v]) j)=F j++[v]:=upd_at _ _ _
theorem Fr.box{N:Nat}{w w':World}{x:Nat}{cs:Array Value}{t:TypeId}(h:Fr N EB w w')(hx:w.heap[x]? =some (.cells cs t (0,0)))(ht:¬EB t)(i:Nat):w'.cell? ⟨x,i,none⟩=cs[i]? :=by
 simp[World.cell?,h.ty _ _ _ _ hx ht]
theorem nEB:¬EB 26/\¬EB 28/\¬EB 32/\¬EB 105/\¬EB 24:=by unfold EB;decide
set_option maxHeartbeats 4000000 in
set_option maxRecDepth 100000 in
theorem oneFrac{w:World}{N B:Nat}{F:Nat->List Value}{s1 s2:Bool}{a1 a2:Option Addr}{n1 c1 n2 c2:Nat}(hB:Bag w N B F)(hN:N<=w.heap.size)(hl:(F 0).length+1<=1000000000):
  Calls Tryz.prog 161 #[.pointer (some ⟨B,0,none⟩), .agg #[.bool s1, .slice a1 n1 c1, .bool s2, .slice a2 n2 c2]] w fun e w'=>e= .returned (.tuple #[])/\Fr N EB w w'/\Bag w' N B (upd F 0 (F 0++[.slice a1 n1 c1, .slice a2 n2 c2])):=by
 have hal:=(Below.refl w.heap.size w).alloc (Nat.le_refl _) (.cells #[.bool s1, .slice a1 n1 c1, .bool s2, .slice a2 n2 c2] 26 (0,0))
 go_enter Tryz.func161,Tryz.ntmps161
 go_wp2_with fail
 refine(oneWhole (hB.below hal) (Nat.le_trans hN hal.size) (by omega)).mono ?_
 rintro e w1 ⟨rfl,hf1,hB1⟩
 have q2:=hf1.box (heap_alloc_new w _) nEB.1 2
 have q3:=hf1.box (heap_alloc_new w _) nEB.1 3
 simp at q2 q3
 have hN1:N<=w1.heap.size:=Nat.le_trans (Nat.le_trans hN hal.size) hf1.size
 go_wp2_with fail
 refine(oneWhole hB1 hN1 (by rw[lenF];simp;omega)).mono ?_
 rintro e w2 ⟨rfl,hf2,hB2⟩
 go_wp2
 go_end0
 refine⟨rfl,((Fr.refl N EB w).alloc hN _).trans (hf1.trans hf2), ?_⟩
 rw[lenF,upd_upd,List.append_assoc]at hB2
 exact hB2
set_option maxHeartbeats 4000000 in
set_option maxRecDepth 100000 in
theorem oneRow{w:World}{N B:Nat}{F:Nat->List Value}{x y z:Int}{s1 s2:Bool}{a1 a2:Option Addr}{n1 c1 n2 c2:Nat}(hB:Bag w N B F)(hN:N<=w.heap.size)(hl:(F 0).length+1<=1000000000):
  Calls Tryz.prog 148 #[.pointer (some ⟨B,0,none⟩), .agg #[.int .i64 x, .int .i64 y, .int .i64 z, .bool s1, .slice a1 n1 c1, .bool s2, .slice a2 n2 c2]] w fun e w'=>e= .returned (.tuple #[])/\Fr N EB w w'/\Bag w' N B (upd F 0 (F 0++[.slice a1 n1 c1, .slice a2 n2 c2])):=by
 have hal:=(Below.refl w.heap.size w).alloc (Nat.le_refl _) (.cells #[.int .i64 x, .int .i64 y, .int .i64 z, .bool s1, .slice a1 n1 c1, .bool s2, .slice a2 n2 c2] 28 (0,0))
 go_enter Tryz.func148,Tryz.ntmps148
 go_wp2_with (go_at_call 161;refine(oneFrac (hB.below hal) (Nat.le_trans hN hal.size) hl).mono ?_;rintro e w1 ⟨rfl,hf1,hB1⟩)
 go_end0
 exact⟨rfl,((Fr.refl N EB w).alloc hN _).trans hf1,hB1⟩
def RowsAt(w:World)(ao:Option Addr)(n:Nat)(cs:Array Value):Prop:=
 ∀i,i<n->∃b,ao=some ⟨b,0,none⟩/\w.heap[b]? =some (.cells cs 28 (0,0))/\∃(x y z:Int)(s1 s2:Bool)(a1 a2:Option Addr)(n1 c1 n2 c2:Nat),cs[i*7]? =some (.int .i64 x)/\cs[i*7+1]? =some (.int .i64 y)/\cs[i*7+2]? =some (.int .i64 z)/\cs[i*7+3]? =some (.bool s1)/\
  cs[i*7+4]? =some (.slice a1 n1 c1)/\cs[i*7+5]? =some (.bool s2)/\cs[i*7+6]? =some (.slice a2 n2 c2)
def limbsOf(cs:Array Value)(n:Nat):List Value:=(List.range n).flatMap fun i=>[cs.getD (i*7+4) undef,cs.getD (i*7+6) undef]
theorem limbsOf_succ(cs:Array Value)(n:Nat):limbsOf cs (n+1)=limbsOf cs n++[cs.getD (n*7+4) undef,cs.getD (n*7+6) undef]:=by
 unfold limbsOf
 rw[List.range_succ,List.flatMap_append,List.flatMap_singleton]
theorem limbsOf_len(cs:Array Value)(n:Nat):(limbsOf cs n).length=2*n:=by
 induction n with
 |zero=>rfl
 |succ n ih=>rw[limbsOf_succ,List.length_append,ih];simp;omega
theorem getD_some{cs:Array Value}{i:Nat}{v:Value}(h:cs[i]? =some v):cs.getD i undef=v:=by
 rw[Array.getD_eq_getD_getElem?,h]
 rfl
set_option maxHeartbeats 8000000 in
set_option maxRecDepth 100000 in
theorem putRows{w:World}{N B:Nat}{F:Nat->List Value}{a:Option Addr}{n c:Nat}{rs:Array Value}(hB:Bag w N B F)(hN:N<=w.heap.size)(hl:(F 0).length+2*n<=100000000)(hl2:(F 10).length<=100000000)(hR:RowsAt w a n rs):
  Calls Tryz.prog 108 #[.pointer (some ⟨B,0,none⟩), .slice a n c] w fun e w'=>e= .returned (.tuple #[])/\Fr N EB w w'/\Bag w' N B (upd (upd F 10 (F 10++[.slice a n c])) 0 (F 0++limbsOf rs n)):=by
 obtain⟨iL,hiL,hzL,hsL,hbL⟩:=infoTS
 obtain⟨cs,va,vc,hcs,hv,hsz,hrow⟩:=hB.at 10 (by omega)
 have c0:w.cell? ⟨B,10,none⟩=some (.slice va (F 10).length vc):=by simp[World.cell?,hcs,hv]
 go_enter Tryz.func108,Tryz.ntmps108
 go_wp2_with (at_builtin;refine wpList_app _ rfl (.tmp 9) (.tmp 11) 83 rfl 30 iL (.slice none 0 0) 1 24 Tryz.underlying83 hiL hzL hsL hbL rfl (by omega) _ (F 10).length _ rfl (hrow.below ((Below.refl _ _).alloc (Nat.le_refl _) _)) ⟨w.heap.size,0,none⟩ 1 1 [.slice a n c] rfl (by omega) rfl (new_one _ _ _) one1 (by omega) (by omega) ?_;intro v' w2 hr2 ha2;obtain⟨ga,gc,rfl,_⟩:=hr2.form;have hB2:=ha2.ty (((((Below.refl w.heap.size w).alloc (Nat.le_refl _) _).block B (Array.getElem?_eq_some_iff.1 hcs).1)).trans hcs) (by decide);obtain⟨cG,fG⟩:=held_cell (q:=10) hB2 (by omega))
 obtain⟨hf3,hB3⟩:=hB.step (j:=10) (by omega) hcs hv hN hr2 ha2
 go_loopw [4] (fun i wr=>∃q:Nat,q<=n/\i= .int .i64 q/\Fr N EB w wr/\Bag wr N B (upd (upd F 10 (F 10++[.slice a n c])) 0 (F 0++limbsOf rs q))) (fun i _=>n-(intOf i).toNat)
 case atStart=>
  refine⟨0,Nat.zero_le _,rfl,hf3, ?_⟩
  have e:upd (upd F 10 (F 10++[.slice a n c])) 0 (F 0++limbsOf rs 0)=upd F 10 (F 10++[.slice a n c]):=by
   funext k
   unfold upd limbsOf
   by_cases h:k=0
   ·rw[if_pos h,if_neg (by omega),h];simp
   ·rw[if_neg h]
  rw[e]
  exact hB3
 case round=>
  obtain⟨q,hq,rfl,hf4,hB4⟩:=hrel
  by_cases hlq:q<n
  ·have hlq':(q:Int)<(n:Int):=by omega
   obtain⟨b,rfl,hb,x,y,z,s1,s2,a1,a2,n1,c1,n2,c2,d0,d1,d2,d3,d4,d5,d6⟩:=hR q hlq
   have k0:=hf4.box hb nEB.2.1 (q*7)
   have k1:=hf4.box hb nEB.2.1 (q*7+1)
   have k2:=hf4.box hb nEB.2.1 (q*7+2)
   have k3:=hf4.box hb nEB.2.1 (q*7+3)
   have k4:=hf4.box hb nEB.2.1 (q*7+4)
   have k5:=hf4.box hb nEB.2.1 (q*7+5)
   have k6:=hf4.box hb nEB.2.1 (q*7+6)
   rw[d0]at k0
   rw[d1]at k1
   rw[d2]at k2
   rw[d3]at k3
   rw[d4]at k4
   rw[d5]at k5
   rw[d6]at k6
   have hN4:N<=wr.heap.size:=Nat.le_trans hN hf4.size
   go_wp2_with (go_at_call 148;refine(oneRow hB4 hN4 (by rw[upd_at,List.length_append,limbsOf_len];omega)).mono ?_;rintro e w5 ⟨rfl,hf5,hB5⟩)
   go_roundw
   case rel=>
    refine⟨q+1,by omega,by go_num,hf4.trans hf5, ?_⟩
    rw[upd_at,upd_upd,List.append_assoc]at hB5
    rw[limbsOf_succ,getD_some d4,getD_some d6]
    exact hB5
   case measure=>simp[intOf];omega
  ·have hge:¬(q:Int)<(n:Int):=by omega
   obtain rfl:q=n:=by omega
   go_wp2
   go_end0
   exact⟨rfl,hf4,hB4⟩
end Go.Sx.Apart
