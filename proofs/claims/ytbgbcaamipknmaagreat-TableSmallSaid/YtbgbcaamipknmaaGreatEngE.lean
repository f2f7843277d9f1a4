/-
 Allocs taken last in a region that draws its order: what the machine does earlier is kept by a mark. Conditions: none.
 The run of any served code, in whatever frame: it comes to where its condition says. Conditions: the contracts hold of the callees.
 Calls in place, and the condition of a function: it gives the contract. Conditions: the contracts hold of the callees.
 THE CONDITION of a function gives its contract. Conditions: the contracts hold of the callees.
 Contracts, one function after another. Conditions: the contracts hold of the functions that came before.
 What a claim's reader reads as data, the executor's readings read too. Conditions: the types hold plain data.
 From a contract 'true, whatever the arguments' to a given statement's contract. Conditions: the parameters are plain data, the one result is a bool.
-/
import Derived.LaidLaws
import Derived.Test.YtbgbcaamipknmaaGreatEngD
import GoSem.ClaimJoined
import Derived.ProofKit
import Derived.OpenShut
import Derived.JoinedCond
set_option linter.unusedVariables false
set_option linter.unusedSimpArgs false
namespace Go.Sx
open Go.RowKit (Below)
variable{T:FuncId->Pred}{P:Program}{w0 w:World}{R0:Bs T}{bl:List Nat}{vs:List Value}{R:Nat->Prop}{ow:Nat->Option Owner}
 {boxes:List (Box (sem T))} {ents:List (Ent (sem T))}
theorem HR.keep(h:HR P w0 R0 bl vs R ow boxes ents w){b:Nat}{o:Obj}(hw:w.heap[b]? =some o)(hb:w0.heap.size<=b)(ho:ow b=none)(hR:¬R b):
  HR P w0 R0 bl vs R (setOw ow b (some (.mark 0 o))) boxes ents w where
 below:=h.below
 rlt:=h.rlt
 r0:=h.r0
 rsub:=h.rsub
 ro:=fun x hx=>by
  rw[setOw_ne (fun e:x=b=>hR (by rw[<-e];exact hx))];exact h.ro x hx
 olt:=fun x o' hx=>by
  by_cases e:x=b
  ·subst e;exact⟨hb,(Array.getElem?_eq_some_iff.1 hw).1⟩
  ·rw[setOw_ne e]at hx;exact h.olt x o' hx
 nb:=h.nb
 nv:=h.nv
 vsl:=h.vsl
 glb:=h.glb
 box:=fun i bx hi hl=>by
  obtain⟨b',cs',h1,h2,h3,h4⟩:=h.box i bx hi hl
  have hne:b'≠b:=fun e=>by rw[e,ho]at h2;cases h2
  exact⟨b',cs',h1,by rw[setOw_ne hne];exact h2,h3,h4⟩
 ent:=fun i e hi hl=>by
  obtain⟨v,hv,h1,h2⟩:=h.ent i e hi hl
  refine⟨v,hv,h1,fun hown=>(h2 hown).mono (fun _ x=>x) (fun _ _=>rfl) (fun x hx=>⟨?_,rfl⟩)⟩
  have hne:x≠b:=fun e=>by rw[e,ho]at hx;cases hx
  rw[setOw_ne hne];exact hx
 mrk:=fun x hx=>by
  by_cases e:x=b
  ·subst e;rw[setOw_eq]at hx;cases hx;exact hw
  ·rw[setOw_ne e]at hx;exact h.mrk x hx
 lp:=fun i L hi=>by
  obtain⟨bx,x,h1,h2,h3,h4,h5⟩:=h.lp i L hi
  have hne:x≠b:=fun e=>by rw[e,ho]at h4;cases h4
  exact⟨bx,x,h1,h2,h3,by rw[setOw_ne hne];exact h4,h5⟩
theorem HR.adopt(h:HR P w0 R0 bl vs R ow boxes ents w){b:Nat}{ty:TypeId}{cs:Array Value}{cells:List (SV (sem T))}(hb:ow b=some (.mark 0 (.cells cs ty (0,0))))(hs:SVRs bl vs cells cs.toList):
  HR P w0 R0 (bl++[b]) vs R (setOw ow b (some (.box boxes.length))) (boxes++[⟨ty,cells,0,true⟩]) ents w:=by
 have h1:HR P w0 R0 bl vs R (setOw ow b none) boxes ents w:=h.remark
  (fun x o hx ho=>by
   have hne:x≠b:=fun e=>by rw[e,hb]at hx;cases hx;exact ho _ _ rfl
   rw[setOw_ne hne];exact hx)
  (fun x o hx=>by
   by_cases e:x=b
   ·subst e;rw[setOw_eq]at hx;cases hx
   ·rw[setOw_ne e]at hx;exact .inl hx)
 have hR:¬R b:=fun hr=>by rw[h.ro b hr]at hb;cases hb
 have h2:=h1.pushBox (b:=b) (ty:=ty) (cs:=cs) (cells:=cells) (h.mrk b hb) (h.olt b _ hb).1 setOw_eq hR hs
 have e:setOw (setOw ow b none) b (some (.box boxes.length))=setOw ow b (some (.box boxes.length)):=by
  funext x
  simp only[setOw]
  split<;>rfl
 rwa[e]at h2
theorem HR.adoptMap(h:HR P w0 R0 bl vs R ow boxes ents w){b:Nat}{t kt e:TypeId}{ik:IntKind}(hb:ow b=some (.mark 0 (.map #[] 0)))(hu:P.underlying t=some (.map kt e))(hk:P.underlying kt=some (.int ik)):
  HR P w0 R0 bl (vs++[.map (some b)]) R (setOw ow b (some (.ent ents.length))) boxes (ents++[⟨mapT t,Sl.nil,true,true,0⟩]) w:=by
 have h1:HR P w0 R0 bl vs R (setOw ow b none) boxes ents w:=h.remark
  (fun x o hx ho=>by
   have hne:x≠b:=fun e=>by rw[e,hb]at hx;cases hx;exact ho _ _ rfl
   rw[setOw_ne hne];exact hx)
  (fun x o hx=>by
   by_cases e:x=b
   ·subst e;rw[setOw_eq]at hx;cases hx
   ·rw[setOw_ne e]at hx;exact .inl hx)
 have hR:¬R b:=fun hr=>by rw[h.ro b hr]at hb;cases hb
 have e1:setOw (setOw ow b none) b (some (.ent ents.length))=setOw ow b (some (.ent ents.length)):=by
  funext x
  simp only[setOw]
  split<;>rfl
 have hn:setOw ow b none b=none:=setOw_eq
 have hO:Own P w R (setOw (setOw ow b none) b (some (.ent ents.length))) ents.length (mapT t) Sl.nil (.map (some b)):=by
  refine⟨fun hh=>absurd (hh.symm.trans (isM_mapT t)) Bool.false_ne_true,fun _=> .inl ⟨b,rfl,setOw_eq, ?_⟩⟩
  rw[mapT_sub]
  exact⟨#[],0,ik,kt,e,h.mrk b hb,hu,hk,by simp,fun n=>trivial⟩
 obtain⟨hP,_⟩:=h1.pushOwnB (e:=mapT t) (s:=Sl.nil) (v:= .map (some b)) (b:=b) (h.olt b _ hb).1 (h.olt b _ hb).2 hR (fun i hh=>by rw[hn]at hh;cases hh) (fun _ _ hh=>by rw[hn]at hh;cases hh) (fun i en hh=>by rw[hn]at hh;cases hh) hO
 rwa[e1]at hP
def LateV(T:FuncId->Pred)(P:Program)(t:TypeId)(z:List (SV (sem T)))(b:Nat)(x:Value×Obj):Prop:=
 (isM t=true/\x=(.map (some b), .map #[] 0)/\∃t' kt e ik,t=mapT t'/\P.underlying t'=some (.map kt e)/\P.underlying kt=some (.int ik))\/
 (isM t=false/\∃cs,x=(.pointer (some ⟨b,0,none⟩), .cells cs t (0,0))/\∀bl vs,SVRs (T:=T) bl vs z cs.toList)
def EarlyAt(T:FuncId->Pred)(P:Program)(ops:Array Oper)(ow:Nat->Option Owner)(a:Act)(i b:Nat):Prop:=
 ∃t d z x,lateAt (A:=sem T) P ops i=some (t,d,z)/\a.tmps[d]? =some x.1/\ow b=some (.mark 0 x.2)/\LateV T P t z b x
theorem DR.keepOther{ow ow':Nat->Option Owner}{a:Act}(h:DR ow a)(hm:∀b,ow b=some (.mark 0 mkO)->ow' b=some (.mark 0 mkO)):DR ow' a:=by
 obtain⟨Ds,h1,h2,h3⟩:=h
 exact⟨Ds,h1,fun d hd=>hm d (h2 d hd),h3⟩
theorem adopt_one{ops:Array Oper}{a:Act}{i b:Nat}{t:TypeId}{d:Nat}{z:List (SV (sem T))}{x:Value×Obj}{st:St (sem T)}(h:HR P w0 R0 bl vs R ow st.boxes st.ents w)(ht:TD bl vs ow st.tmps a)
  (h2:a.tmps[d]? =some x.1) (h3:ow b=some (.mark 0 x.2)) (h4:LateV T P t z b x) {st':St (sem T)} (hst:st'=if isM t then setTmp (addEnt st t Sl.nil true) (some d) (.sl st.ents.length)else setTmp (addBox st t z) (some d) (.ptr st.boxes.length 0)):
  ∃bl' vs' ow',HR P w0 R0 bl' vs' R ow' st'.boxes st'.ents w/\TD bl' vs' ow' st'.tmps a/\(∀(i:Nat)(b:Nat),bl[i]? =some b->bl'[i]? =some b)/\(∀(i:Nat)(v:Value),vs[i]? =some v->vs'[i]? =some v)/\
   (∀y,y≠b->ow' y=ow y)/\Ext st st':=by
 have keep:∀{o:Owner}(bl':List Nat)(vs':List Value),(∀(i:Nat)(b:Nat),bl[i]? =some b->bl'[i]? =some b)->(∀(i:Nat)(v:Value),vs[i]? =some v->vs'[i]? =some v)->(x.2≠mkO)->TD bl' vs' (setOw ow b (some o)) st.tmps a:=fun bl' vs' hb hv hne=>
  ⟨ht.1.keepOther fun b' hb'=>by
   have hn:b'≠b:=fun e=>by rw[e,h3]at hb';exact hne (by have:=Option.some.inj hb';injection this)
   rw[setOw_ne hn];exact hb',ht.2.mono hb hv⟩
 rcases h4 with⟨hm,rfl,t',kt,e,ik,rfl,hu,hk⟩|⟨hm,cs,rfl,h4⟩
 ·rw[if_pos hm]at hst
  subst hst
  have hb:=h.adoptMap (ents:=st.ents) h3 hu hk
  refine⟨bl,vs++[.map (some b)],setOw ow b (some (.ent st.ents.length)),hb, ?_,fun _ _ x=>x,fun _ _=>get_append_lt,fun y hy=>setOw_ne hy,Ext.of_append (nb:=[]) (ne:=[⟨mapT t',Sl.nil,true,true,0⟩]) (by simp[addEnt,setTmp]) (by simp[addEnt,setTmp])⟩
  refine(keep bl (vs++[.map (some b)]) (fun _ _ x=>x) (fun _ _=>get_append_lt) (fun e=>by cases e)).same fun v hv=> ?_
  rw[h2]at hv;cases hv
  show(vs++[Value.map (some b)])[st.ents.length]? =some _
  rw[<-h.nv,List.getElem?_append_right (Nat.le_refl _)];simp
 ·rw[if_neg (by rw[hm];exact Bool.false_ne_true)]at hst
  subst hst
  have hb:=h.adopt (boxes:=st.boxes) h3 (h4 bl vs)
  refine⟨bl++[b],vs,setOw ow b (some (.box st.boxes.length)),hb, ?_,fun _ _=>get_append_lt,fun _ _ x=>x,fun y hy=>setOw_ne hy,Ext.of_append (nb:=[⟨t,z,0,true⟩]) (ne:=[]) rfl (by simp[addBox,setTmp])⟩
  refine(keep (bl++[b]) vs (fun _ _=>get_append_lt) (fun _ _ x=>x) (fun e=>by cases e)).same fun v hv=> ?_
  rw[h2]at hv;cases hv
  refine⟨b, ?_,rfl⟩
  rw[<-h.nb];exact bl_last
theorem adopt_all{ops:Array Oper}{a:Act}{B:Nat->Nat}:∀(l:List Nat){bl:List Nat}{vs:List Value}{ow:Nat->Option Owner}{st:St (sem T)},HR P w0 R0 bl vs R ow st.boxes st.ents w->TD bl vs ow st.tmps a->l.Nodup->
  (∀i∈l,EarlyAt T P ops ow a i (B i))->(∀i∈l,∀j∈l,B i=B j->i=j)->
  ∃bl' vs' ow',HR P w0 R0 bl' vs' R ow' (addLate P ops l st).boxes (addLate P ops l st).ents w/\TD bl' vs' ow' (addLate P ops l st).tmps a/\(∀(i:Nat)(b:Nat),bl[i]? =some b->bl'[i]? =some b)/\(∀(i:Nat)(v:Value),vs[i]? =some v->vs'[i]? =some v)/\
   (∀x,(∀i∈l,x≠B i)->ow' x=ow x)/\Ext st (addLate P ops l st)
 |[],bl,vs,ow,st,h,ht,_,_,_=>⟨bl,vs,ow,h,ht,fun _ _ x=>x,fun _ _ x=>x,fun _ _=>rfl,Ext.refl _⟩
 | i::l,bl,vs,ow,st,h,ht,hn,he,hj=>by
  obtain⟨t,d,z,x,h1,h2,h3,h4⟩:=he i (by simp)
  obtain⟨bl1,vs1,ow1,hb,ht1,hbl,hvs,other,x1⟩:=adopt_one (ops:=ops) (i:=i) h ht h2 h3 h4 rfl
  have hn':=List.nodup_cons.1 hn
  have ne:∀j∈l,B j≠B i:=fun j hjl e=>hn'.1 (by have:=hj j (by simp[hjl]) i (by simp) e;rwa[<-this])
  obtain⟨bl',vs',ow',g1,g2,g3,g3',g4,g5⟩:=adopt_all l hb ht1 hn'.2
   (fun j hjl=>by
    obtain⟨t',d',z',x',k1,k2,k3,k4⟩:=he j (by simp[hjl])
    exact⟨t',d',z',x',k1,k2,by rw[other _ (ne j hjl)];exact k3,k4⟩)
   (fun x hx y hy=>hj x (by simp[hx]) y (by simp[hy]))
  have e:addLate P ops (i::l) st=addLate P ops l (if isM t then setTmp (addEnt st t Sl.nil true) (some d) (.sl st.ents.length)else setTmp (addBox st t z) (some d) (.ptr st.boxes.length 0)):=by
   rw[addLate,h1]
  rw[e]
  exact⟨bl',vs',ow',g1,g2,fun j b hb'=>g3 j b (hbl j b hb'),fun j v hv'=>g3' j v (hvs j v hv'),fun x hx=>by
   rw[g4 x (fun j hjl=>hx j (by simp[hjl])),other x (hx i (by simp))],x1.trans g5⟩
theorem listAll_size:∀(l:List Nat)(a:Array Bool),(listAll l a).size=a.size
 |[],_=>rfl
 |i::l,a=>by
  show(listAll l (a.setIfInBounds i true)).size=a.size
  rw[listAll_size l];simp
theorem listAll_get:∀(l:List Nat)(a:Array Bool)(j:Nat),(listAll l a)[j]? =if j∈l/\j<a.size then some true else a[j]?
 |[],a,j=>by simp[listAll]
 | i::l,a,j=>by
  show(listAll l (a.setIfInBounds i true))[j]? =_
  rw[listAll_get l]
  simp only[Array.size_setIfInBounds,List.mem_cons,Array.getElem?_setIfInBounds]
  by_cases h1:j<a.size
  ·by_cases h2:j∈l
   ·simp[h1,h2]
   ·by_cases h3:j=i
    ·subst h3;simp[h1,h2]
    ·simp[h1,h2,h3,Ne.symm h3]
  ·have h4:a[j]? =none:=by simp;omega
   simp only[h1,and_false,if_false,h4]
   split
   ·rename_i h;split<;>first|rfl|omega
   ·rfl
theorem listAll_set(l:List Nat)(a:Array Bool)(i:Nat):(listAll l a).setIfInBounds i true=listAll l (a.setIfInBounds i true):=by
 apply Array.ext_getElem?
 intro j
 rw[listAll_get,Array.getElem?_setIfInBounds,listAll_get]
 simp only[Array.size_setIfInBounds,Array.getElem?_setIfInBounds,listAll_size]
 by_cases h1:j<a.size
 ·by_cases h2:j∈l
  ·by_cases h3:i=j<;>simp[h1,h2,h3]
  ·simp[h2]
 ·simp only[h1,and_false,if_false]
theorem listAll_eq{l l':List Nat}(h:∀j,j∈l↔j∈l')(a:Array Bool):listAll l a=listAll l' a:=by
 apply Array.ext_getElem?
 intro j
 rw[listAll_get,listAll_get]
 simp only[h j]
theorem listAll_two{L now:List Nat}(h:∀i∈now,i∈L)(a:Array Bool):listAll L a=listAll (L.filter fun i=> !now.contains i) (listAll now a):=by
 apply Array.ext_getElem?
 intro j
 rw[listAll_get,listAll_get,listAll_get,listAll_size]
 have hm:j∈(L.filter fun i=> !now.contains i)↔(j∈L/\j∉now):=by rw[List.mem_filter];simp
 by_cases h1:j<a.size
 ·by_cases h2:j∈now
  ·rw[if_pos ⟨h j h2,h1⟩,if_neg (fun k=>(hm.1 k.1).2 h2),if_pos ⟨h2,h1⟩]
  ·by_cases h3:j∈L
   ·rw[if_pos ⟨h3,h1⟩,if_pos ⟨hm.2 ⟨h3,h2⟩,h1⟩]
   ·rw[if_neg (fun k=>h3 k.1),if_neg (fun k=>h3 (hm.1 k.1).1),if_neg (fun k=>h2 k.1)]
 ·rw[if_neg (fun k=>h1 k.2),if_neg (fun k=>h1 k.2),if_neg (fun k=>h1 k.2)]
theorem listAll_false{l:List Nat}{a:Array Bool}{j:Nat}(h:(listAll l a).getD j true=false):j∉l/\a.getD j true=false:=by
 rw[Array.getD_eq_getD_getElem?,listAll_get]at h
 split at h
 ·simp at h
 ·rename_i hn
  rw[Array.getD_eq_getD_getElem?]
  refine⟨fun hm=>hn ⟨hm, ?_⟩,h⟩
  rcases Nat.lt_or_ge j a.size with h'|h'
  ·exact h'
  ·rw[Array.getElem?_eq_none h']at h;simp at h
theorem listAll_true{l:List Nat}{a:Array Bool}{j:Nat}(h:(listAll l a).getD j false=true):j∈l\/a.getD j false=true:=by
 rw[Array.getD_eq_getD_getElem?,listAll_get]at h
 split at h
 ·rename_i hh;exact .inl hh.1
 ·rw[Array.getD_eq_getD_getElem?];exact .inr h
theorem listAll_mono{l:List Nat}{a:Array Bool}{j:Nat}(h:a.getD j true=true):(listAll l a).getD j true=true:=by
 rw[Array.getD_eq_getD_getElem?]at h⊢
 rw[listAll_get]
 split
 ·rfl
 ·exact h
theorem listAll_mono'{l:List Nat}{a:Array Bool}{j:Nat}(h:a.getD j false=true):(listAll l a).getD j false=true:=by
 rw[Array.getD_eq_getD_getElem?]at h⊢
 rw[listAll_get]
 split
 ·rfl
 ·exact h
theorem listAll_un{l:List Nat}{a:Array Bool}{j:Nat}(h:j∉l)(h':a.getD j true=false):(listAll l a).getD j true=false:=by
 rw[Array.getD_eq_getD_getElem?]at h'⊢
 rw[listAll_get,if_neg (fun hh=>h hh.1)]
 exact h'
section
variable{ops:Array Oper}
theorem lateAt_inv{A:Alg}{i d:Nat}{t:TypeId}{z:List (SV A)}(h:lateAt P ops i=some (t,d,z)):
  ∃o,ops[i]? =some o/\o.dst=some d/\o.guard=none/\(∀e∈o.after,Region.binds .any e=false)/\
   ((isM t=false/\o.op= .alloc t/\zeroCellsOf P t=some z)\/(isM t=true/\∃t' s,t=mapT t'/\o.op= .makeMap t' none/\mapShape P t'=some s)):=by
 unfold lateAt at h
 split at h
 ·rename_i o ho
  split at h
  ·rename_i t' d' h1 h2 h3
   split at h
   ·rename_i z' n h4 h5
    split at h
    ·rename_i hc
     cases h
     simp only[Bool.and_eq_true,beq_iff_eq,Bool.not_eq_true']at hc
     refine⟨o,ho,h2,h3,fun e he=> ?_, .inl ⟨hc.1.2,h1,h4⟩⟩
     have:=Array.all_eq_true_iff_forall_mem.1 hc.2 e he
     simpa using this
    ·cases h
   ·cases h
  ·rename_i t' d' h1 h2 h3
   split at h
   ·rename_i hc
    cases h
    simp only[Bool.and_eq_true]at hc
    obtain⟨s,hs⟩:=Option.isSome_iff_exists.1 hc.1
    refine⟨o,ho,h2,h3,fun e he=> ?_, .inr ⟨isM_mapT t',t',s,rfl,h1,hs⟩⟩
    have:=Array.all_eq_true_iff_forall_mem.1 hc.2 e he
    simpa using this
   ·cases h
  ·cases h
 ·cases h
theorem waitsFor_spec{l:List Nat}{j:Nat}{o:Oper}(ho:ops[j]? =some o):waitsFor ops l j=true↔∃e∈o.after,Region.binds .any e=true/\e.on∈l:=by
 unfold waitsFor
 rw[ho]
 simp only[Array.any_eq_true',Bool.and_eq_true,List.contains_iff_mem]
theorem listAll_sub{L als:List Nat}{listed:Array Bool}(hL:∀i∈L,i∈als){j:Nat}(h:(listAll L listed).getD j false=true):(listAll als listed).getD j false=true:=by
 rw[Array.getD_eq_getD_getElem?,listAll_get]at h⊢
 split at h
 ·rename_i hh;rw[if_pos ⟨hL _ hh.1,hh.2⟩];rfl
 ·split
  ·rfl
  ·exact h
theorem ready_late{als L:List Nat}{listed:Array Bool}(hL:∀i∈L,i∈als){j:Nat}(hj:j∈Region.ready .any ops (listAll L listed)):
  (j∈als/\j∉L)\/(j∉als/\j∈Region.ready .any ops (listAll als listed)):=by
 obtain⟨hun,o,ho,hdep⟩:=mem_ready.1 hj
 obtain⟨hjL,hun'⟩:=listAll_false hun
 by_cases ha:j∈als
 ·exact .inl ⟨ha,hjL⟩
 ·exact .inr ⟨ha,mem_ready.2 ⟨listAll_un ha hun',o,ho,fun e he hb=>listAll_sub hL (hdep e he hb)⟩⟩
end
theorem early_step{cfg:Cfg}{ops:Array Oper}{Q:Exit->Act->World->Prop}{K:Act->World->Prop}{bl0:List Nat}{vs0:List Value}{ow0:Nat->Option Owner}{st0 st:St (sem T)}{a:Act}{i:Nat}{t:TypeId}{d:Nat}{z:List (SV (sem T))}
  (hi:lateAt (A:=sem T) cfg.P ops i=some (t,d,z)) (hst:Stp cfg.P w0 R0 bl0 vs0 ow0 st0 bl vs R ow st w) (ht:TD bl vs ow st.tmps a) (hj:st.tmps[d]? =some .junk)
  (hK:∀(a':Act)(w':World)(ow':Nat->Option Owner)(b:Nat)(v:Value),a'=a.put (some d) v->Stp cfg.P w0 R0 bl0 vs0 ow0 st0 bl vs R ow' st w'->TD bl vs ow' st.tmps a'->EarlyAt T cfg.P ops ow' a' i b->
   (∀x,x≠b->ow' x=ow x)->ow b=none->w.heap.size<=b->Below w.heap.size w w'->K a' w'):
  wpOp cfg.P ops Q i K a w:=by
 obtain⟨o,ho,hdst,hg,haf,hop⟩:=lateAt_inv hi
 have hx:∃x:Value×Obj,(execOp a.eval o).run cfg.P w= .ok (.value x.1) {w with heap:=w.heap.push x.2}/\x.2≠mkO/\LateV T cfg.P t z w.heap.size x:=by
  rcases hop with⟨hm,hop,hz⟩|⟨hm,t',⟨ik,e,ks⟩,rfl,hop,hs⟩
  ·obtain⟨inf,v,hinf,hzv,hsv⟩:=zeroCells_sound (T:=T) (bl:=bl) (vs:=vs) hz
   refine⟨(.pointer (some ⟨w.heap.size,0,none⟩), .cells v.cells t (0,0)), ?_,(fun e=>by cases e), .inr ⟨hm,v.cells,rfl,fun bl2 vs2=> ?_⟩⟩
   ·simp[execOp,hop,Instr.alloc,run_zero hinf hzv,newVar,newRow]
   ·obtain⟨inf2,v2,g1,g2,g3⟩:=zeroCells_sound (T:=T) (bl:=bl2) (vs:=vs2) hz
    rw[hinf]at g1;cases g1
    rw[hzv]at g2;cases g2
    exact g3
  ·obtain⟨kt,hu,hk,hks⟩:=mapShape_inv hs
   refine⟨(.map (some w.heap.size), .map #[] 0), ?_,(fun e=>by cases e), .inl ⟨hm,rfl,t',kt,e,ik,rfl,hu,hk⟩⟩
   simp only[execOp,hop,Option.map_none,Sem.run_bind]
   rfl
 obtain⟨x,hrun,hmk,hv⟩:=hx
 unfold wpOp
 rw[ho]
 have hw:Region.wanted o (yielded ops a.tmps)=true:=by simp[Region.wanted,hg]
 simp only[hw,if_true]
 left
 unfold Oper.wp
 rw[hrun,Oper.upon_value,hdst]
 have hB:Below w.heap.size w (w.alloc x.2):=(Below.refl _ _).alloc (Nat.le_refl _) _
 have hk:=(hst.hr.grow hB).keep (heap_alloc_new w x.2) hst.hr.below.size hst.hr.not_own_new hst.hr.not_R_new
 refine hK _ _ (setOw ow w.heap.size (some (.mark 0 x.2))) w.heap.size x.1 rfl ⟨hk,hst.bl,hst.vs,hst.ext,fun b hb=> ?_⟩ ?_ ⟨t,d,z,x,hi, ?_,setOw_eq,hv⟩ (fun x hx=>setOw_ne hx) hst.hr.not_own_new (Nat.le_refl _) hB
 ·have h1:=hst.mrk b hb
  have hne:b≠w.heap.size:=fun e=>by rw[e,hst.hr.not_own_new]at h1;cases h1
  rw[setOw_ne hne];exact h1
 ·have h1:TD bl vs (setOw ow w.heap.size (some (.mark 0 x.2))) st.tmps a:=⟨ht.1.keepOther fun b hb=>by
   have hne:b≠w.heap.size:=fun e=>by rw[e,hst.hr.not_own_new]at hb;cases hb
   rw[setOw_ne hne];exact hb,ht.2⟩
  have h2:=h1.put (st:=st) (some d) (sv:= .junk) (v:=x.1) trivial
  have e:(setTmp st (some d) .junk).tmps=st.tmps:=by
   apply List.ext_getElem?
   intro j
   simp only[setTmp,List.getElem?_set]
   split
   ·rename_i e;subst e
    split
    ·exact hj.symm
    ·rename_i hh;rw[List.getElem?_eq_none (by omega)]
   ·rfl
  rwa[e]at h2
 ·obtain⟨u,hu,_⟩:=tmp_get ht hj
  have hlt:=(Array.getElem?_eq_some_iff.1 hu).1
  simp[Act.put,hlt]
theorem hide_tmps{ops:Array Oper}{bl:List Nat}{vs:List Value}{a:Act}:∀(l:List Nat){st:St (sem T)},TD bl vs ow st.tmps a->TD bl vs ow (hideLate P ops l st).tmps a
 |[],_,h=>h
 | i::l,st,h=>by
  unfold hideLate
  split
  ·rename_i d _ _
   exact hide_tmps l (h.same fun _ _=>trivial)
  ·exact hide_tmps l h
theorem hide_rest{ops:Array Oper}:∀(l:List Nat)(st:St (sem T)),(hideLate P ops l st).boxes=st.boxes/\(hideLate P ops l st).ents=st.ents
 |[],_=>⟨rfl,rfl⟩
 |i::l,st=>by
  unfold hideLate
  split
  ·exact hide_rest l _
  ·exact hide_rest l _
theorem hide_size{ops:Array Oper}:∀(l:List Nat)(st:St (sem T)),(hideLate P ops l st).tmps.length=st.tmps.length
 |[],_=>rfl
 |i::l,st=>by
  unfold hideLate
  split
  ·rw[hide_size l];simp[setTmp]
  ·exact hide_size l _
theorem hide_keeps{ops:Array Oper}{d:Nat}:∀(l:List Nat)(st:St (sem T)),st.tmps[d]? =some .junk->(hideLate P ops l st).tmps[d]? =some .junk
 |[],_,h=>h
 | i::l,st,h=>by
  unfold hideLate
  split
  ·refine hide_keeps l _ ?_
   simp only[setTmp,List.getElem?_set]
   split
   ·rename_i e;subst e
    rw[if_pos (List.getElem?_eq_some_iff.1 h).1]
   ·exact h
  ·exact hide_keeps l _ h
theorem hide_junk{ops:Array Oper}{i d:Nat}{t:TypeId}{z:List (SV (sem T))}(hi:lateAt (A:=sem T) P ops i=some (t,d,z)):∀(l:List Nat)(st:St (sem T)),i∈l->d<st.tmps.length->(hideLate P ops l st).tmps[d]? =some .junk
 | j::l,st,hm,hlt=>by
  unfold hideLate
  by_cases e:i=j
  ·subst e
   rw[hi]
   refine hide_keeps l _ ?_
   simp only[setTmp,List.getElem?_set,if_pos hlt,if_true]
  ·have hm':i∈l:=by simpa[e]using hm
   split
   ·exact hide_junk hi l _ hm' (by simpa[setTmp]using hlt)
   ·exact hide_junk hi l _ hm' hlt
theorem stp_tmps{bl0:List Nat}{vs0:List Value}{ow0:Nat->Option Owner}{st0 st:St (sem T)}(tm:List (SV (sem T)))(h:Stp P w0 R0 bl0 vs0 ow0 st0 bl vs R ow st w):
  Stp P w0 R0 bl0 vs0 ow0 st0 bl vs R ow {st with tmps:=tm} w:=⟨h.hr,h.bl,h.vs,⟨h.ext.box,h.ext.ent⟩,h.mrk⟩
theorem stp_same{bl0:List Nat}{vs0:List Value}{ow0:Nat->Option Owner}{st0 st st1:St (sem T)}(hb:st1.boxes=st.boxes)(he:st1.ents=st.ents)(h:Stp P w0 R0 bl0 vs0 ow0 st0 bl vs R ow st w):
  Stp P w0 R0 bl0 vs0 ow0 st0 bl vs R ow st1 w:=⟨by rw[hb,he];exact h.hr,h.bl,h.vs,⟨by rw[hb];exact h.ext.box,by rw[he];exact h.ext.ent⟩,h.mrk⟩
theorem same_same{base st st1:St (sem T)}(hb:st1.boxes=st.boxes)(he:st1.ents=st.ents)(h:sameBoxes base st=true):sameBoxes base st1=true:=by
 unfold sameBoxes at*
 rw[hb,he];exact h
theorem free_late{ops:Array Oper}{L:List Nat}{listed:Array Bool}{i:Nat}(h:Region.free .any ops listed i=true):Region.free .any ops (listAll L listed) i=true:=by
 unfold Region.free at*
 split at h
 ·cases h
 ·rw[List.all_eq_true]at h⊢
  intro j hj
  have h1:=h j hj
  simp only[Bool.or_eq_true]at h1⊢
  rcases h1 with(h1|h1)|h1
  ·exact .inl (.inl h1)
  ·exact .inl (.inr (listAll_mono h1))
  ·exact .inr h1
theorem ready_more{ops:Array Oper}{L:List Nat}{listed:Array Bool}{j:Nat}(h:j∈Region.ready .any ops listed)(hL:j∉L):j∈Region.ready .any ops (listAll L listed):=by
 obtain⟨h1,o,ho,h2⟩:=mem_ready.1 h
 exact mem_ready.2 ⟨listAll_un hL h1,o,ho,fun e he hb=>listAll_mono' (h2 e he hb)⟩
theorem getD_false{l:Array Bool}{x:Nat}(h:l.getD x true=false):l.getD x false=false:=by
 rw[Array.getD_eq_getD_getElem?]at h⊢
 cases hg:l[x]? with
 |none=>rfl
 |some b=>rw[hg]at h;exact h
theorem late_dst{ops:Array Oper}{als:List Nat}(hok:lateOk ops als=true){i j:Nat}{oi oj:Oper}(hi:i∈als)(hj:j∉als)(hoi:ops[i]? =some oi)(hoj:ops[j]? =some oj):oi.dst≠oj.dst:=by
 have hsz:j<ops.size:=(Array.getElem?_eq_some_iff.1 hoj).1
 unfold lateOk at hok
 have hk:=List.all_eq_true.1 hok j (List.mem_range.2 hsz)
 have hcr:als.contains j=false:=by simpa using hj
 rw[hcr,Bool.false_or]at hk
 have h1:=List.all_eq_true.1 hk i hi
 rw[hoi,hoj]at h1
 simpa using h1
theorem early_keep{ops:Array Oper}{ow ow':Nat->Option Owner}{a:Act}{i b:Nat}{dst:Option Nat}{v:Value}(h:EarlyAt T P ops ow a i b)(hm:∀{l:Nat}{mo:Obj} b,ow b=some (.mark l mo)->ow' b=some (.mark l mo))
  (hdst:∀t d z,lateAt (A:=sem T) P ops i=some (t,d,z)->dst≠some d):EarlyAt T P ops ow' (a.put dst v) i b:=by
 obtain⟨t,d,z,cs,h1,h2,h3,h4⟩:=h
 refine⟨t,d,z,cs,h1, ?_,hm _ h3,h4⟩
 have:=hdst t d z h1
 cases dst with
 |none=>exact h2
 |some e=>
  have hne:e≠d:=fun hh=>this (by rw[hh])
  simp only[Act.put]
  rw[Array.getElem?_setIfInBounds_ne hne];exact h2
theorem runLate_sound{cfg:Cfg}{inl:Inl (sem T)}(hsig:SigOk T cfg)(hinl:InlC cfg w0 R0 inl){path:Nat}{ops:Array Oper}{Q:Exit->Act->World->Prop}(hQp:∀c a w,¬Q (.panic c) a w)(hns:Region.noSelect ops=true)
  {bl0:List Nat} {vs0:List Value} {st0:St (sem T)} {RS:Nat->Prop} {owS ow0:Nat->Option Owner} {wS:World} {written:List Nat} (hS0:HR cfg.P w0 R0 bl0 vs0 RS owS st0.boxes st0.ents wS) {k:St (sem T)->Tree (sem T)}
  {D:List Nat} {a0:Act} (hD:∀(i:Nat)(o:Oper),ops[i]? =some o->∀x,o.dst=some x->x∈D)
  (hQ:∀a' w',Keeps D a0 a'->Reach cfg.P w0 R0 bl0 vs0 ow0 st0 (fun st'=>(k st').den) a' w'->Q .normal a' w')
  {als:List Nat} (hok:lateOk ops als=true) (hnd:als.Nodup)
  (hals:∀i∈als,∃t d z,lateAt (A:=sem T) cfg.P ops i=some (t,d,z)/\d<a0.tmps.size/\∀j∈als,∀t' d' z',lateAt (A:=sem T) cfg.P ops j=some (t',d',z')->i≠j->d≠d'):
  ∀(n fuel:Nat){listed:Array Bool}{L:List Nat}{B:Nat->Nat}{bl:List Nat}{vs:List Value}{R:Nat->Prop}{ow:Nat->Option Owner}{st:St (sem T)}{a:Act}{w:World},
  Stp cfg.P w0 R0 bl0 vs0 ow0 st0 bl vs R ow st w->TD bl vs ow (hideLate cfg.P ops als st).tmps a->(runLate cfg inl path ops (baseOf st0 written) als n listed st k).den->Base cfg.P bl0 vs0 (baseOf st0 written) w->sameBoxes (baseOf st0 written) st=true->todo (listAll L listed)<=fuel->Keeps D a0 a->
  (∀i∈als,listed.getD i true=false)->L.Nodup->(∀i∈L,i∈als)->(∀i∈L,EarlyAt T cfg.P ops ow a i (B i))->(∀i∈L,∀j∈L,B i=B j->i=j)->(∀i∈L,∀l mo,ow0 (B i)≠some (.mark l mo))->
  wpAnyH cfg.P .any ops Q (Base cfg.P bl0 vs0 (baseOf st0 written)) fuel (listAll L listed) a w
 |0,_,_,_,_,_,_,_,_,_,_,_,_,_,hd,_,_,_,_,_,_,_,_,_,_=>hd.elim
 | n + 1,fuel,listed,L,B,bl,vs,R,ow,st,a,w,hst,ht,hd,hB,hsm,hf,hkp,hA,hLn,hLa,hE,hBi,hBn=>by
  have hd0:=hd
  have hrest:=hide_rest (T:=T) (P:=cfg.P) (ops:=ops) als st
  have hsize:=hide_size (T:=T) (P:=cfg.P) (ops:=ops) als st
  have hjk:∀i∈als,∀t d z,lateAt (A:=sem T) cfg.P ops i=some (t,d,z)->d<st.tmps.length->(hideLate cfg.P ops als st).tmps[d]? =some .junk:=fun i hi t d z h hlt=>hide_junk h als st hi hlt
  unfold runLate at hd
  simp only at hd
  generalize hide_st:hideLate cfg.P ops als st=st1 at hd ht hrest hsize hjk
  have hst1:=stp_same hrest.1 hrest.2 hst
  have hsm1:=same_same hrest.1 hrest.2 hsm
  have hlen:st.tmps.length=a0.tmps.size:=by
   rw[<-hsize,ht.2.length,Array.length_toList,hkp.1]
  have hmem:∀i,i∈Region.ready .any ops (listAll L listed)->∃f,fuel=f+1/\todo ((listAll L listed).setIfInBounds i true)<=f:=fun i hi=>by
   have h1:=todo_set (mem_ready.1 hi).1
   exact⟨fuel-1,by omega,by omega⟩
  have early:∀f,fuel=f+1->∀i∈als,i∉L->wpOp cfg.P ops Q i (fun a' w'=>Base cfg.P bl0 vs0 (baseOf st0 written) w'/\wpAnyH cfg.P .any ops Q (Base cfg.P bl0 vs0 (baseOf st0 written)) f ((listAll L listed).setIfInBounds i true) a' w') a w:=by
   intro f hf1 i hi hiL
   obtain⟨t,d,z,hat,hdlt,hdd⟩:=hals i hi
   refine early_step hat hst1 ht (hjk i hi t d z hat (by omega)) ?_
   intro a' w' ow' b v ha' hst' ht' hE' hoth hob hwb hbel
   have hB':=base_again hS0 hst' hsm1
   refine⟨hB', ?_⟩
   have hun:=listAll_un hiL (hA i hi)
   have htodo:=todo_set hun
   have hset:(listAll L listed).setIfInBounds i true=listAll (i::L) listed:=by
    rw[listAll_set];rfl
   rw[hset]at htodo⊢
   have hoL:∀j∈L,B j≠b:=fun j hj e=>by
    obtain⟨_,_,_,_,_,_,g3,_⟩:=hE j hj
    rw[e,hob]at g3;cases g3
   have hjne:∀j∈L,j≠i:=fun j hj e=>hiL (by rw[<-e];exact hj)
   obtain⟨o,ho,hdst,_⟩:=lateAt_inv hat
   have hB1:∀j∈L,(if j=i then b else B j)=B j:=fun j hj=>if_neg (hjne j hj)
   have hB2:(if i=i then b else B i)=b:=if_pos rfl
   refine runLate_sound hsig hinl hQp hns hS0 hD hQ hok hnd hals (n+1) f (B:=fun x=>if x=i then b else B x) (stp_same hrest.1.symm hrest.2.symm hst') (by rw[hide_st];exact ht') hd0 hB' hsm (by omega)
    (hkp.trans (by rw[ha'];exact Keeps.put (fun x hx=>hD i o ho x (by rw[hdst,hx])))) hA (List.nodup_cons.2 ⟨hiL,hLn⟩) (fun j hj=> ?_) (fun j hj=> ?_) (fun x hx y hy hxy=> ?_) (fun j hj l mo hh=> ?_)
   ·rcases List.mem_cons.1 hj with rfl|hj
    ·exact hi
    ·exact hLa j hj
   ·rcases List.mem_cons.1 hj with rfl|hj
    ·show EarlyAt T cfg.P ops ow' a' j (if j=j then b else B j)
     rw[if_pos rfl];exact hE'
    ·show EarlyAt T cfg.P ops ow' a' j (if j=i then b else B j)
     rw[hB1 j hj,ha']
     obtain⟨t',d',z',cs',k1,k2,k3,k4⟩:=hE j hj
     refine⟨t',d',z',cs',k1, ?_,by rw[hoth _ (hoL j hj)];exact k3,k4⟩
     have:d≠d':=hdd j (hLa j hj) t' d' z' k1 (Ne.symm (hjne j hj))
     simp only[Act.put]
     rw[Array.getElem?_setIfInBounds_ne this];exact k2
   ·have hxy:(if x=i then b else B x)=(if y=i then b else B y):=hxy
    rcases List.mem_cons.1 hx with hx1|hx1
    ·rcases List.mem_cons.1 hy with hy1|hy1
     ·rw[hx1,hy1]
     ·rw[if_pos hx1,hB1 y hy1]at hxy;exact absurd hxy.symm (hoL y hy1)
    ·rcases List.mem_cons.1 hy with hy1|hy1
     ·rw[if_pos hy1,hB1 x hx1]at hxy;exact absurd hxy (hoL x hx1)
     ·rw[hB1 x hx1,hB1 y hy1]at hxy;exact hBi x hx1 y hy1 hxy
   ·have hh:ow0 (if j=i then b else B j)=some (.mark l mo):=hh
    rcases List.mem_cons.1 hj with rfl|hj
    ·rw[if_pos rfl]at hh
     have:=hst.mrk b hh
     rw[hob]at this;cases this
    ·rw[hB1 j hj]at hh;exact hBn j hj l mo hh
  have keepE:∀j o,ops[j]? =some o->j∉als->∀(ow':Nat->Option Owner)(v:Value),(∀{l:Nat}{mo:Obj} b,ow b=some (.mark l mo)->ow' b=some (.mark l mo))->∀i∈L,EarlyAt T cfg.P ops ow' (a.put o.dst v) i (B i):=fun j o ho hj ow' v hm i hi=>
   early_keep (hE i hi) hm fun t d z hat e=>by
    obtain⟨oi,hoi,hdst,_⟩:=lateAt_inv hat
    exact late_dst hok (hLa i hi) hj hoi ho (by rw[hdst,e])
  have hAs:∀j,j∉als->∀i∈als,(listed.setIfInBounds j true).getD i true=false:=fun j hj i hi=>by
   rw[getD_set_ne true (fun e:j=i=>hj (by rw[e];exact hi))];exact hA i hi
  split at hd
  ·rename_i hN
   generalize hnow:nowOf ops als listed=now at hd
   generalize hrest':restOf als now=rest at hd
   have nowm:∀i,i∈now↔(i∈als/\∀j∈Region.ready .any ops (listAll als listed),waitsFor ops [i] j=true):=fun i=>by
    rw[<-hnow];unfold nowOf;rw[List.mem_filter,List.all_eq_true]
   have restm:∀i,i∈rest↔(i∈als/\i∉now):=fun i=>by
    rw[<-hrest'];unfold restOf;rw[List.mem_filter];simp
   by_cases hall:∀i∈now,i∈L
   ·
    have hnn:now.Nodup:=by rw[<-hnow];exact List.Pairwise.filter _ hnd
    obtain⟨bl',vs',ow',g1,g2,g3,g3',g4,g5⟩:=adopt_all (P:=cfg.P) (ops:=ops) (B:=B) now (st:=st1) hst1.hr ht hnn (fun i hi=>hE i (hall i hi)) (fun i hi j hj=>hBi i (hall i hi) j (hall j hj))
    have hst2:Stp cfg.P w0 R0 bl0 vs0 ow0 st0 bl' vs' R ow' (addLate cfg.P ops now st1) w:=⟨g1,fun i b hb=>g3 i b (hst1.bl i b hb),fun i v hv=>g3' i v (hst1.vs i v hv),hst1.ext.trans g5,fun b hb=>by
     rw[g4 b (fun i hi e=>hBn i (hall i hi) _ _ (by rw[<-e];exact hb))]
     exact hst1.mrk b hb⟩
    split at hd
    ·rename_i hre
     have hre:rest=[]:=by simpa using hre
     have hsub:∀i∈als,i∈now:=fun i hi=>Classical.byContradiction fun k=>by
      have:=(restm i).2 ⟨hi,k⟩
      rw[hre]at this;cases this
     have e:listAll L listed=listAll now listed:=listAll_eq (fun j=>⟨fun h=>hsub j (hLa j h),hall j⟩) _
     rw[e]at hf⊢
     exact runDraw_sound hsig hinl hQp hns hS0 hD hQ _ hst2 g2 hd hB hf hkp
    ·split at hd
     case isFalse=>exact hd.elim
     rename_i hc
     simp only[Bool.and_eq_true]at hc
     have e:listAll L listed=listAll (L.filter fun i=> !now.contains i) (listAll now listed):=listAll_two hall _
     have hL2:∀i,i∈(L.filter fun i=> !now.contains i)↔(i∈L/\i∉now):=fun i=>by rw[List.mem_filter];simp
     rw[e]at hf⊢
     refine runLate_sound hsig hinl hQp hns hS0 hD hQ (als:=rest) ?_ (by rw[<-hrest'];exact List.Pairwise.filter _ hnd) (fun i hi=> ?_) n fuel (L:=L.filter fun i=> !now.contains i) (B:=B) hst2 (hide_tmps rest g2) hd hB hc.2 hf hkp
      (fun i hi=>listAll_un ((restm i).1 hi).2 (hA i ((restm i).1 hi).1)) (List.Pairwise.filter _ hLn) (fun i hi=>(restm i).2 ⟨hLa i ((hL2 i).1 hi).1,((hL2 i).1 hi).2⟩) (fun i hi=> ?_) (fun i hi j hj=>hBi i ((hL2 i).1 hi).1 j ((hL2 j).1 hj).1) (fun i hi=>hBn i ((hL2 i).1 hi).1)
     ·refine List.all_eq_true.2 fun j hj=> ?_
      rw[List.mem_range]at hj
      by_cases hjr:j∈rest
      ·rw[Bool.or_eq_true];exact .inl (by simpa using hjr)
      ·rw[Bool.or_eq_true]
       refine .inr (List.all_eq_true.2 fun i hi=> ?_)
       obtain⟨t,d,z,hat,_,hdd⟩:=hals i ((restm i).1 hi).1
       obtain⟨oi,hoi,hdst,_⟩:=lateAt_inv hat
       have hoj:ops[j]? =some ops[j]:=Array.getElem?_eq_getElem hj
       rw[hoi,hoj]
       simp only[bne_iff_ne,ne_eq]
       by_cases hja:j∈als
       ·obtain⟨t',d',z',hat',_⟩:=hals j hja
        obtain⟨oj,hoj',hdst',_⟩:=lateAt_inv hat'
        rw[hoj]at hoj';cases hoj'
        have hij:i≠j:=fun e=>hjr (by rw[<-e];exact hi)
        have:=hdd j hja t' d' z' hat' hij
        rw[hdst,hdst']
        exact fun h=>this (Option.some.inj h)
       ·exact late_dst hok ((restm i).1 hi).1 hja hoi hoj
     ·obtain⟨t,d,z,hat,h1,h2⟩:=hals i ((restm i).1 hi).1
      exact⟨t,d,z,hat,h1,fun j hj=>h2 j ((restm j).1 hj).1⟩
     ·have hi':=(hL2 i).1 hi
      obtain⟨t,d,z,x,k1,k2,k3,k4⟩:=hE i hi'.1
      exact⟨t,d,z,x,k1,k2,by rw[g4 (B i) (fun j hj e=>hi'.2 (by have:=hBi i hi'.1 j (hall j hj) e;rw[this];exact hj))];exact k3,k4⟩
   ·
    obtain⟨i0,hi0⟩:=Classical.not_forall.1 hall
    obtain⟨hi0n,hi0L⟩:=Classical.not_imp.1 hi0
    have hi0:=((nowm i0).1 hi0n).1
    have hr0:i0∈Region.ready .any ops (listAll L listed):=by
     obtain⟨t,d,z,hat,_,_⟩:=hals i0 hi0
     obtain⟨o,ho,_,_,haf,_⟩:=lateAt_inv hat
     exact mem_ready.2 ⟨listAll_un hi0L (hA i0 hi0),o,ho,fun e he hb=>by rw[haf e he]at hb;cases hb⟩
    obtain⟨f,rfl,_⟩:=hmem i0 hr0
    refine wpAnyH_all rfl (fun e=>by rw[e]at hr0;cases hr0) (fun i hi=> ?_)
    rcases ready_late hLa hi with h1|h1
    ·exact early f rfl i h1.1 h1.2
    ·have h2:=((nowm i0).1 hi0n).2 i h1.2
     obtain⟨_,o,ho,hdep⟩:=mem_ready.1 hi
     obtain⟨e,he,hb,hm⟩:=(waitsFor_spec ho).1 h2
     simp only[List.mem_singleton]at hm
     have h3:=hdep e he hb
     rw[hm]at h3
     rcases listAll_true h3 with h3|h3
     ·exact absurd h3 hi0L
     ·rw[getD_false (hA i0 hi0)]at h3;cases h3
  ·rename_i hN
   generalize hrs:(Region.ready .any ops listed).filter (fun i=> !als.contains i)=rs at*
   have hrsm:∀i,i∈rs↔(i∈Region.ready .any ops listed/\i∉als):=fun i=>by rw[<-hrs,List.mem_filter];simp
   have hup:∀i∈rs,i∈Region.ready .any ops (listAll L listed):=fun i hi=>ready_more ((hrsm i).1 hi).1 (fun h=>((hrsm i).1 hi).2 (hLa i h))
   generalize htk:findTake cfg.P ops listed (baseOf st0 written) st1 rs=tk at hd
   rcases findTake_inv htk with rfl|⟨i,o,hi,ho,hfree,htake,htne⟩
   ·
    have hd:(if(Region.ready .any ops (listAll als listed)).all fun j=>rs.contains j then _ else _:Tree (sem T)).den:=hd
    split at hd
    case isFalse=>exact hd.elim
    rename_i hM
    have hne':rs≠ []:=fun e=>hN e
    obtain⟨i0,hi0⟩:=List.exists_mem_of_ne_nil rs hne'
    obtain⟨f,rfl,_⟩:=hmem i0 (hup i0 hi0)
    refine wpAnyH_all rfl (fun e=>by have:=hup i0 hi0;rw[e]at this;cases this) (fun i hi=> ?_)
    rcases ready_late hLa hi with h1|h1
    ·exact early f rfl i h1.1 h1.2
    ·have hin:i∈rs:=by simpa using List.all_eq_true.1 hM i h1.2
     have hdi:=bothAll_den hd i hin
     obtain⟨f',hf1,hf2⟩:=hmem i hi
     have:f'=f:=by omega
     subst this
     unfold wpOp
     split at hdi
     ·rename_i o ho
      simp only[ho]
      have hone:=oneOp_sound hsig hinl hst1.hr ht hdi Q
      have hnext:∀a' w',((∃v,a'=a.put o.dst v)/\Reach cfg.P w0 R0 bl vs ow st1 (fun st'=>(if sameBoxes (baseOf st0 written) st' then runLate cfg inl path ops (baseOf st0 written) als n (listed.setIfInBounds i true) st' k else .fail "a region that draws its order: a box is written" path : Tree (sem T)).den) a' w')->
        Base cfg.P bl0 vs0 (baseOf st0 written) w'/\wpAnyH cfg.P .any ops Q (Base cfg.P bl0 vs0 (baseOf st0 written)) f' ((listAll L listed).setIfInBounds i true) a' w':=by
       rintro a' w' ⟨⟨v,rfl⟩,bl',vs',R',ow',st',g1,g2,g3⟩
       split at g3
       ·rename_i hsame
        have hst':=hst1.trans g1
        have hB':=base_again hS0 hst' hsame
        rw[listAll_set]at hf2⊢
        exact⟨hB',runLate_sound hsig hinl hQp hns hS0 hD hQ hok hnd hals n f' hst' (hide_tmps als g2) g3 hB' hsame hf2 (hkp.trans (Keeps.put (hD i o ho))) (hAs i h1.1) hLn hLa (keepE i o ho h1.1 ow' v g1.mrk) hBi hBn⟩
       ·exact g3.elim
      split at hone
      ·rename_i hw
       rw[if_pos hw]
       exact .inl (Oper.wp_mono hnext hone)
      ·rename_i hw
       rw[if_neg hw]
       exact hnext _ _ ⟨⟨undef,rfl⟩,hone⟩
     ·exact hdi.elim
   ·have hok1:=takeOf_ok (P:=cfg.P) ht (ops:=ops) (base:=baseOf st0 written) (i:=i) (o:=o)
    rw[htake]at hok1
    obtain⟨hir,hia⟩:=(hrsm i).1 hi
    obtain⟨f,rfl,hf2⟩:=hmem i (hup i hi)
    have hcont:(Region.ready .any ops (listAll L listed)).contains i=true:=by simpa using hup i hi
    have hfree':=free_late (L:=L) hfree
    cases tk with
    |none=>exact absurd rfl htne
    | ask t b=>
     have hb:st1.tmps[t]? =some (.bool b):=hok1
     obtain⟨v,hv,hs⟩:=tmp_get ht hb
     have hs:v= .bool b.b:=hs
     subst hs
     have hlit:∀c:Bool,b.b=c->TD bl vs ow (st1.tmps.set t (.blit c)) a:=fun c hc=>ht.same (fun u hu=>by rw[hv]at hu;cases hu;exact congrArg Value.bool hc)
     have go:∀c:Bool,b.b=c->(runLate cfg inl path ops (baseOf st0 written) als n listed {st1 with tmps:=st1.tmps.set t (.blit c)} k).den->wpAnyH cfg.P .any ops Q (Base cfg.P bl0 vs0 (baseOf st0 written)) (f+1) (listAll L listed) a w:=fun c hc hdc=>
      runLate_sound hsig hinl hQp hns hS0 hD hQ hok hnd hals n (f+1) (stp_tmps _ hst1) (hide_tmps als (st:={st1 with tmps:=st1.tmps.set t (.blit c)}) (hlit c hc)) hdc hB hsm1 hf hkp hA hLn hLa hE hBi hBn
     by_cases hp:b.p
     ·exact go true (by simp[PB.b,hp]) (hd.1 hp)
     ·exact go false (by simp[PB.b,hp]) (hd.2 hp)
    | skip i' d=>
     obtain⟨rfl,rfl,hw⟩:=hok1
     refine wpAnyH_take ho hns hfree' hcont (fun c a w hh=>(hQp c _ _ hh).elim) (v:=undef) (.inr ⟨hw,rfl⟩) hB ?_
     have hst':Stp cfg.P w0 R0 bl0 vs0 ow0 st0 bl vs R ow (setTmp st1 o.dst (.con (.tuple #[]))) w:=by
      cases hdst:o.dst with
      |none=>exact hst1
      |some d=>exact stp_tmps _ hst1
     have hsm':sameBoxes (baseOf st0 written) (setTmp st1 o.dst (.con (.tuple #[])))=true:=by
      cases hdst:o.dst with
      |none=>exact hsm1
      |some d=>exact hsm1
     rw[listAll_set]at hf2⊢
     exact runLate_sound hsig hinl hQp hns hS0 hD hQ hok hnd hals n f hst' (hide_tmps als (ht.put o.dst rfl)) hd hB hsm' hf2 (hkp.trans (Keeps.put (hD i' o ho))) (hAs i' hia) hLn hLa (keepE i' o ho hia ow undef (fun _ x=>x)) hBi hBn
    | val i' d p=>
     obtain⟨rfl,rfl,hw,hp,hclean⟩:=hok1
     obtain⟨hnsd,hd⟩:=needs_den.1 hd
     obtain⟨R2,hlook⟩:=base_look hst1.bl hst1.vs hst1.hr.vsl hB
     have htb:TD bl vs ow ({baseOf st0 written with tmps:=st1.tmps}:St (sem T)).tmps a:=ht
     obtain⟨v,hrun,hsv,hg⟩:=pure_sound (st:={baseOf st0 written with tmps:=st1.tmps}) hlook htb.tr hp hnsd
     have hy:YieldsIf cfg.P ops (Base cfg.P bl0 vs0 (baseOf st0 written)) o v a:= .inl ⟨hw,fun w2 hB2=>by
      obtain⟨R3,hlook2⟩:=base_look hst1.bl hst1.vs hst1.hr.vsl hB2
      obtain⟨v2,hrun2,hsv2,_⟩:=pure_sound (st:={baseOf st0 written with tmps:=st1.tmps}) hlook2 htb.tr hp hnsd
      rw[SVR.unique hclean hsv hsv2]
      exact hrun2⟩
     refine wpAnyH_take ho hns hfree' hcont (fun c a w hh=>(hQp c _ _ hh).elim) hy hB ?_
     have hst':Stp cfg.P w0 R0 bl0 vs0 ow0 st0 bl vs R ow (setTmp st1 o.dst p.v) w:=by
      cases hdst:o.dst with
      |none=>exact hst1
      |some d=>exact stp_tmps _ hst1
     have hsm':sameBoxes (baseOf st0 written) (setTmp st1 o.dst p.v)=true:=by
      cases hdst:o.dst with
      |none=>exact hsm1
      |some d=>exact hsm1
     rw[listAll_set]at hf2⊢
     exact runLate_sound hsig hinl hQp hns hS0 hD hQ hok hnd hals n f hst' (hide_tmps als (ht.put o.dst hsv)) ((givens_den.1 hd) hg) hB hsm' hf2 (hkp.trans (Keeps.put (hD i' o ho))) (hAs i' hia) hLn hLa (keepE i' o ho hia ow v (fun _ x=>x)) hBi hBn
 termination_by n fuel=>(n,fuel)
 decreasing_by all_goals(first|(apply Prod.Lex.left;omega)|(apply Prod.Lex.right;omega))
theorem lateGood_spec{ops:Array Oper}{base st:St (sem T)}{als:List Nat}(h:lateGood P ops base st als=true):
  lateOk ops als=true/\als.Nodup/\
  (∀i∈als,i<ops.size/\∃t d z,lateAt (A:=sem T) P ops i=some (t,d,z)/\d<st.tmps.length/\∀j∈als,∀t' d' z',lateAt (A:=sem T) P ops j=some (t',d',z')->i≠j->d≠d')/\sameBoxes base st=true:=by
 unfold lateGood at h
 simp only[Bool.and_eq_true]at h
 obtain⟨⟨⟨⟨h1,h2⟩,h3⟩,h5⟩,h6⟩:=h
 refine⟨h1,nodupB_spec h3,fun i hi=> ?_,h6⟩
 ·have:=List.all_eq_true.1 h5 i hi
  rw[Bool.and_eq_true]at this
  obtain⟨g1,g2⟩:=this
  refine⟨by simpa using g1, ?_⟩
  split at g2
  ·rename_i t d z hat
   rw[Bool.and_eq_true]at g2
   refine⟨t,d,z,hat,by simpa using g2.1,fun j hj t' d' z' hat' hne e=> ?_⟩
   have g3:=List.all_eq_true.1 g2.2 j hj
   rw[hat']at g3
   simp[hne,e]at g3
  ·cases g2
end Go.Sx
namespace Go.Sx
open Go.RowKit (Below)
variable{T:FuncId->Pred}{w0:World}
def MkOk(cfg:Cfg)(w0:World)(mk:Ys (sem T)->Inl (sem T)):Prop:=
 (∀(ys:Ys (sem T))(B:Bs T),YsOk cfg w0 ys B->InlOk cfg w0 B (mk ys))/\∀(path i:Nat)(args:List (SV (sem T)))(st:St (sem T))(k:SV (sem T)->St (sem T)->Tree (sem T)),¬(mk [] path (.yld i) args st k).den
theorem MkOk.c{cfg:Cfg}{mk:Ys (sem T)->Inl (sem T)}(h:MkOk cfg w0 mk)(B:Bs T):InlC cfg w0 B (mk []):=
 ⟨fun path f args vals st k bl vs R ow w h1 h2 h3=>h.1 [] B trivial path (.fn f) args vals st k bl vs R ow w h1 h2 h3,h.2⟩
theorem jp_inv{st:St (sem T)}{i:Nat}{j:Jp}(h:jpAt st i=j)(hj:j≠ .bad):∃bx,st.boxes[i]? =some bx/\bx.live=false/\jpOf bx.cells=j:=by
 unfold jpAt at h
 split at h
 ·rename_i bx hbx
  split at h
  ·exact absurd h.symm hj
  ·rename_i hl
   exact⟨bx,hbx,by simpa using hl,h⟩
 ·exact absurd h.symm hj
theorem run_resolve_range{P:Program}{a:Act}{w:World}{f:Operand}{g l:Nat}{cs:Array Value}(hf:a.eval f= .func (.func g) #[] cs):
  (resolve a.eval (rangeCall f l) 0).run P w= .ok {target:= .fn (.func g) cs,args:= #[.func (.yield l) #[] #[]]} w:=by
 simp only[resolve,hf]
 simp[go_sem]
theorem run_invoke_range{P:Program}{w:World}{g:Nat}{cs args:Array Value}(hgo:goBody P g=true):
  (invoke (.fn (.func g) cs) args).run P w= .ok (.enter g (args++cs)) w:=by
 unfold goBody at hgo
 split at hgo
 ·rename_i fn hfn
  simp only[Bool.and_eq_true,bne_iff_ne,ne_eq]at hgo
  have hbn:fn.body.isNone=false:=by
   cases hb:fn.body with
   |none=>rw[hb]at hgo;simp at hgo
   |some _=>rfl
  have hne:(fn.name== "runtime.NumGoroutine") =false:=by simpa using hgo.1
  simp only[invoke,callFunc,Sem.run_bind,Sem.run_pure,Result.andThen_ok,run_program,hfn,hne,hbn,Bool.false_eq_true,if_false]
 ·cases hgo
theorem setJp_box{st:St (sem T)}{i:Nat}{tmps:List (SV (sem T))}{j:Option Nat}{bx:Box (sem T)}(h:st.boxes[i]? =some bx):
  setJp st i tmps j={st with tmps:=tmps,boxes:=st.boxes.set i {bx with cells:=jpCells j,ver:=bx.ver+1}}:=by
 unfold setJp
 rw[h]
theorem hand_sound{cfg:Cfg}{B:Bs T}{ys:Ys (sem T)}{y:Yd (sem T)}{L:LStat T}{ps:Array Tmp}{assign body:Code}{st0:St (sem T)}{Ra:List (SV (sem T))->St (sem T)->(St (sem T)->Tree (sem T))->Tree (sem T)}
  (hB:B.lps y.i=some L) (hys:YsOk cfg w0 ys B) (hne:∀y'∈ys,y'.i≠y.i) (hLb:L.busy=false) (hLp:L.params=ps) (hLa:L.assign=assign) (hLd:L.body=body) (hLt:L.tmps=st0.tmps)
  {EA EB:St (sem T)->(St (sem T)->Tree (sem T))->(Nat->St (sem T)->Tree (sem T))->(St (sem T)->Tree (sem T))->Tree (sem T)}
  (hA:∀(B':Bs T){b:Nat}{n:Nat}{bl:List Nat}{vs:List Value}{R:Nat->Prop}{ow:Nat->Option Owner}{st:St (sem T)}{a:Act}{w:World}{kN kR:St (sem T)->Tree (sem T)}{kE:Nat->St (sem T)->Tree (sem T)},YsOk cfg w0 ys B'->
   HR cfg.P w0 B' bl vs R ow st.boxes st.ents w->TD bl vs ow st.tmps a->(EA st kN kE kR).den->assign.wpIn (FZ (some b)) n cfg.P (Sat cfg.P w0 B' bl vs ow st (dsts assign) a kN kE kR) a w)
  (hBd:∀(B':Bs T){b:Nat}{n:Nat}{bl:List Nat}{vs:List Value}{R:Nat->Prop}{ow:Nat->Option Owner}{st:St (sem T)}{a:Act}{w:World}{kN kR:St (sem T)->Tree (sem T)}{kE:Nat->St (sem T)->Tree (sem T)},YsOk cfg w0 ys B'->
   HR cfg.P w0 B' bl vs R ow st.boxes st.ents w->TD bl vs ow st.tmps a->(EB st kN kE kR).den->body.wpIn (FZ (some b)) n cfg.P (Sat cfg.P w0 B' bl vs ow st (dsts body) a kN kE kR) a w)
  {args:List (SV (sem T))} {vals:List Value} {st1:St (sem T)} {k:SV (sem T)->St (sem T)->Tree (sem T)} {bl:List Nat} {vs:List Value} {R:Nat->Prop} {ow:Nat->Option Owner} {w:World}
  (h:HR cfg.P w0 B bl vs R ow st1.boxes st1.ents w) (hv:SVRs bl vs args vals) (hj:jpAt st1 y.i= .none) (hlen:args.length=ps.size) {wr:Bool}
  (hd:(EA {st1 with tmps:=setMany st0.tmps ps.toList args,wr:=wr} (fun st2=>onNone (jpAt st2 y.i) (EB st2
    (fun st3=>k (.blit true) {st3 with tmps:=st1.tmps,wr:=st1.wr}) (fun id st3=>k (.blit false) (setJp {st3 with wr:=st1.wr} y.i st1.tmps (some id))) (fun st3=>k (.blit false) (setJp {st3 with wr:=st1.wr} y.i st1.tmps none))) (.fail "a loop's assignment" y.i))
    (fun _ _=> .fail "an exit out of a loop's assignment" y.i) (fun _=> .fail "a return out of a loop's assignment" y.i)).den):
  YieldOk cfg.P w0 B bl vs ow st1 w y.i vals k:=by
 obtain⟨bx,g1,g2,g3⟩:=jp_inv hj (by simp)
 obtain⟨bx',b,k1,_,k3,k4,r,r1,r2,r3,r4,r5,j,j1,j2,j3,j4⟩:=h.lp y.i L hB
 rw[g1]at k1;cases k1
 rw[g3]at j1
 have hjn:none=j:=by simpa[jpCode]using j1
 subst hjn
 have hst:r.state= .ready:=by rw[j3,hLb];rfl
 have hargs:vals.toArray.size=r.params.size:=by rw[r2,hLp,<-hlen];simpa using hv.length.symm
 have hy:=run_yield (P:=cfg.P) (args:=vals.toArray) r1 hargs
 refine⟨b,k3,r.fn,_,r.assign,r.body,hy,fun n=>roundIn_of_wpIn trivial ?_⟩
 have htm:TD bl vs ow (setMany st0.tmps ps.toList args) {tmps:=(r.params.zip vals.toArray).foldl (fun tmps(t,a)=>tmps.setIfInBounds t a) r.tmps,defers:=[]}:=by
  refine⟨⟨[],rfl,by simp,List.nodup_nil⟩, ?_⟩
  have:=setMany_tr (bl:=bl) (vs:=vs) (ps:=ps.toList) (tmps:=st0.tmps) (args:=args) (vals:=vals) (t:=r.tmps) (by rw[<-hLt];exact r5) hv (by rw[hlen];simp)
  have e:(r.params.zip vals.toArray).foldl (fun tmps(t,a)=>tmps.setIfInBounds t a) r.tmps=(ps.toList.zip vals).foldl (fun t p=>t.setIfInBounds p.1 p.2) r.tmps:=by
   rw[r2,hLp,<-Array.foldl_toList,Array.toList_zip]
  show SVRs bl vs _ ((r.params.zip vals.toArray).foldl (fun tmps(t,a)=>tmps.setIfInBounds t a) r.tmps).toList
  rw[e]
  exact this
 have hAw:=hA B (b:=b) (n:=n) (st:={st1 with tmps:=setMany st0.tmps ps.toList args,wr:=wr}) hys h htm hd
 rw[r3,hLa]
 refine wpIn_mono (F:=FZ (some b)) hAw ?_
 intro e a1 w1 hq
 cases e with
 |exit id=>obtain⟨_,_,_,_,_,_,_,_,hd⟩:=hq;exact hd.elim
 |ret=>obtain⟨_,_,_,_,_,_,_,_,hd⟩:=hq;exact hd.elim
 |goto l=>exact hq.elim
 |panic ch=>exact hq.elim
 |outgrown=>exact hq.elim
 | normal=>
  obtain⟨_,bl1,vs1,R1,ow1,st2,hS,ht1,hd1⟩:=hq
  have hb1:=hS.bl _ _ k3
  obtain⟨bx1,b',m1,m2,m3,m4,q,q1,q2,q3,q4,q5,jj,jj1,jj2,jj3,jj4⟩:=hS.hr.lp y.i L hB
  rw[hb1]at m3;cases m3
  dsimp only[onNone]at hd1
  split at hd1
  ·rename_i hj2
   obtain⟨bx2,u1,u2,u3⟩:=jp_inv hj2 (by simp)
   rw[m1]at u1;cases u1
   rw[u3]at jj1
   have hjj:none=jj:=by simpa[jpCode]using jj1
   subst hjj
   have hready:q.state= .ready:=by rw[jj3,hLb];rfl
   refine⟨_,run_beginRound q1 hready, ?_⟩
   have hB2:HR cfg.P w0 (B.put y.i (some {L with busy:=true})) bl1 vs1 R1 ow1 st2.boxes st2.ents (w1.putObj b (.loop {q with state:= .busy})):=by
    refine hS.hr.setLoop hb1 m4 rfl (fun j hj=>Bs.put_ne B hj _) (fun _ _=>rfl) m1 m2 rfl (fun L' hL'=> ?_)
    rw[Bs.put_eq]at hL'
    cases hL'
    exact⟨_,rfl,q2,q3,q4,q5,none,by rw[u3];rfl,jj2,rfl,fun _=>rfl⟩
   have hys2:YsOk cfg w0 ys (B.put y.i (some {L with busy:=true})):=hys.mono rfl (fun y' hy'=>Bs.put_ne B (hne y' hy') _)
   rw[r4,hLd]
   refine wpIn_mono (F:=FZ (some b)) (hBd _ hys2 hB2 ht1 hd1) ?_
   intro e a3 w3 hq3
   have fin:∀(jump:Option Code)(st3:St (sem T))(bl3:List Nat)(vs3:List Value)(R3:Nat->Prop)(ow3:Nat->Option Owner),Stp cfg.P w0 (B.put y.i (some {L with busy:=true})) bl1 vs1 ow1 st2 bl3 vs3 R3 ow3 st3 w3->
     ∃(bx3:Box (sem T))(w4:World),st3.boxes[y.i]? =some bx3/\bx3.live=false/\(Instr.endRound b jump).run cfg.P w3= .ok (.bool jump.isNone) w4/\
      ∀(boxes':List (Box (sem T)))(bx':Box (sem T)),(∀j,j≠y.i->boxes'[j]? =st3.boxes[j]?)->boxes'[y.i]? =some bx'->bx'.live=false->boxes'.length=st3.boxes.length->jpCode (jpOf bx'.cells)=some jump->HR cfg.P w0 B bl3 vs3 R3 ow3 boxes' st3.ents w4:=by
    intro jump st3 bl3 vs3 R3 ow3 hS3
    obtain⟨bx3,b3,n1,n2,n3,n4,z,z1,z2,z3,z4,z5,_⟩:=hS3.hr.lp y.i _ (Bs.put_eq B _ _)
    rw[hS3.bl _ _ hb1]at n3;cases n3
    refine⟨bx3,_,n1,n2,run_endRound jump z1,fun boxes' bx' u1 u2 u3 u4 u5=> ?_⟩
    refine hS3.hr.setLoop (hS3.bl _ _ hb1) n4 rfl (fun j hj=>(Bs.put_ne B hj _).symm) u1 u2 u3 u4 (fun L' hL'=> ?_)
    rw[hB]at hL'
    cases hL'
    refine⟨_,rfl,z2,z3,z4,z5,jump,u5,rfl, ?_,fun hh=>by rw[hLb]at hh;cases hh⟩
    rw[hLb]
    cases jump<;>rfl
   cases e with
   |normal=>
    obtain⟨_,bl3,vs3,R3,ow3,st3,hS3,ht3,hd3⟩:=hq3
    obtain⟨bx3,w4,n1,n2,hrun,hH⟩:=fin none st3 bl3 vs3 R3 ow3 hS3
    obtain⟨bx3',b3,o1,o2,o3,o4,z,_,_,_,_,_,j5,j6,_,_,j7⟩:=hS3.hr.lp y.i _ (Bs.put_eq B _ _)
    rw[n1]at o1;cases o1
    refine⟨_,w4,hrun,_,rfl, .blit true,{st3 with tmps:=st1.tmps,wr:=st1.wr},bl3,vs3,R3,ow3,⟨hH _ bx3 (fun _ _=>rfl) n1 n2 rfl (by rw[j6,j7 rfl]),fun i b hb=>hS3.bl i b (hS.bl i b hb),fun i v hv=>hS3.vs i v (hS.vs i v hv), ?_,fun b hb=>hS3.mrk b (hS.mrk b hb)⟩,rfl,rfl,hd3⟩
    have:=hS.ext.trans hS3.ext
    exact⟨this.box,this.ent⟩
   | ret=>
    obtain⟨_,bl3,vs3,R3,ow3,st3,hS3,ht3,hd3⟩:=hq3
    obtain⟨bx3,w4,n1,n2,hrun,hH⟩:=fin (some .ret) st3 bl3 vs3 R3 ow3 hS3
    refine⟨_,w4,hrun,_,rfl, .blit false,setJp {st3 with wr:=st1.wr} y.i st1.tmps none,bl3,vs3,R3,ow3,⟨?_,fun i b hb=>hS3.bl i b (hS.bl i b hb),fun i v hv=>hS3.vs i v (hS.vs i v hv), ?_,fun b hb=>hS3.mrk b (hS.mrk b hb)⟩, ?_,rfl,hd3⟩
    ·rw[setJp_box (st:={st3 with wr:=st1.wr}) n1]
     exact hH _ {bx3 with cells:=jpCells none,ver:=bx3.ver+1} (fun j hj=>by simp only;rw[List.getElem?_set_ne (fun e=>hj e.symm)]) (set_get_same n1) n2 (by simp) rfl
    ·rw[setJp_box (st:={st3 with wr:=st1.wr}) n1]
     have:=(hS.ext.trans hS3.ext).trans (Ext.of_set_box (st:=st3) (st':={st3 with tmps:=st1.tmps,wr:=st1.wr,boxes:=st3.boxes.set y.i {bx3 with cells:=jpCells none,ver:=bx3.ver+1}}) (i:=y.i) rfl rfl (fun b0 h0=>by rw[n1]at h0;cases h0;exact⟨Nat.lt_succ_self _,rfl⟩))
     exact⟨this.box,this.ent⟩
    ·rw[setJp_box (st:={st3 with wr:=st1.wr}) n1]
   | exit id=>
    obtain⟨_,bl3,vs3,R3,ow3,st3,hS3,ht3,hd3⟩:=hq3
    obtain⟨bx3,w4,n1,n2,hrun,hH⟩:=fin (some (.exit id)) st3 bl3 vs3 R3 ow3 hS3
    refine⟨_,w4,hrun,_,rfl, .blit false,setJp {st3 with wr:=st1.wr} y.i st1.tmps (some id),bl3,vs3,R3,ow3,⟨?_,fun i b hb=>hS3.bl i b (hS.bl i b hb),fun i v hv=>hS3.vs i v (hS.vs i v hv), ?_,fun b hb=>hS3.mrk b (hS.mrk b hb)⟩, ?_,rfl,hd3⟩
    ·rw[setJp_box (st:={st3 with wr:=st1.wr}) n1]
     exact hH _ {bx3 with cells:=jpCells (some id),ver:=bx3.ver+1} (fun j hj=>by simp only;rw[List.getElem?_set_ne (fun e=>hj e.symm)]) (set_get_same n1) n2 (by simp) rfl
    ·rw[setJp_box (st:={st3 with wr:=st1.wr}) n1]
     have:=(hS.ext.trans hS3.ext).trans (Ext.of_set_box (st:=st3) (st':={st3 with tmps:=st1.tmps,wr:=st1.wr,boxes:=st3.boxes.set y.i {bx3 with cells:=jpCells (some id),ver:=bx3.ver+1}}) (i:=y.i) rfl rfl (fun b0 h0=>by rw[n1]at h0;cases h0;exact⟨Nat.lt_succ_self _,rfl⟩))
     exact⟨this.box,this.ent⟩
    ·rw[setJp_box (st:={st3 with wr:=st1.wr}) n1]
   |goto l=>exact hq3.elim
   |panic ch=>exact hq3.elim
   |outgrown=>exact hq3.elim
  ·exact hd1.elim
theorem sat_lets{P:Program}{B:Bs T}{bl:List Nat}{vs:List Value}{ow:Nat->Option Owner}{st:St (sem T)}{D:List Nat}{a:Act}{kN kR:St (sem T)->Tree (sem T)}{kE:Nat->St (sem T)->Tree (sem T)}:¬LetsOut (Sat P w0 B bl vs ow st D a kN kE kR):=by
 rintro⟨a,w,h⟩
 exact h
section
variable{T:FuncId->Pred}{P:Program}{w0 w:World}{R0:Bs T}{R:Nat->Prop}{bl:List Nat}{vs:List Value}{ow:Nat->Option Owner}{st:St (sem T)}
theorem isM_lt{e:TypeId}(h:isM e=false):e<1000000000:=Nat.lt_of_not_le fun hh=>by
 have:=Nat.ble_eq_true_of_le hh
 unfold isM at h
 rw[this]at h;cases h
theorem isX_deepT{e:TypeId}(h:isM e=false):isX (deepT e)=false:=by
 cases hh:isX (deepT e)with
 |false=>rfl
 |true=>
  have h1:4000000000<=e+3000000000:=Nat.le_of_ble_eq_true hh
  have key:∀n:Nat,n<1000000000->¬4000000000<=n+3000000000:=fun n _=>by omega
  exact absurd h1 (key e (isM_lt h))
theorem isD_deepT{e:TypeId}(h:isM e=false):isD (deepT e)=true:=by
 unfold isD
 rw[isX_deepT h,show Nat.ble 3000000000 (deepT e)=true from Nat.ble_eq_true_of_le (Nat.le_add_left _ _)]
 rfl
theorem unD_deepT{e:TypeId}(h:isM e=false):unD (deepT e)=e:=by
 have key:∀n:Nat,n<1000000000->(n+3000000000) % 1000000000=n:=fun n _=>by omega
 exact key e (isM_lt h)
open Classical in
theorem HR.disown{boxes:List (Box (sem T))}{ents:List (Ent (sem T))}(h:HR P w0 R0 bl vs R ow boxes ents w)(id:Nat)(hd:∀e,ents[id]? =some e->e.live=false):
  HR P w0 R0 bl vs R (fun b=>if ow b=some (.ent id)then none else ow b) boxes ents w:=by
 have keep:∀{b:Nat}{o:Owner},ow b=some o->o≠ .ent id->(if ow b=some (.ent id)then none else ow b)=some o:=fun{b o} ho hn=>by
  rw[if_neg (fun hh=>by rw[ho]at hh;exact hn (Option.some.inj hh))];exact ho
 have back:∀{b:Nat}{o:Owner},(if ow b=some (.ent id)then none else ow b)=some o->ow b=some o:=fun{b o} ho=>by
  split at ho
  ·cases ho
  ·exact ho
 exact{
  below:=h.below,rlt:=h.rlt,r0:=h.r0,rsub:=h.rsub
  ro:=fun b hr=>by
   show(if ow b=some (.ent id)then none else ow b)=none
   rw[h.ro b hr];rfl
  olt:=fun b o ho=>h.olt b o (back ho)
  nb:=h.nb,nv:=h.nv,vsl:=h.vsl,glb:=h.glb
  box:=fun i bx hi hl=>by
   obtain⟨b,cs,h1,h2,h3,h4⟩:=h.box i bx hi hl
   exact⟨b,cs,h1,keep h2 (fun e=>by cases e),h3,h4⟩
  ent:=fun i e hi hl=>by
   obtain⟨v,hv,h1,h2⟩:=h.ent i e hi hl
   refine⟨v,hv,h1,fun ho=>(h2 ho).mono (fun _ x=>x) (fun _ _=>rfl) fun b hb=>⟨keep hb fun e'=> ?_,rfl⟩⟩
   cases e'
   rw[hd e hi]at hl
   cases hl
  mrk:=fun b hb=>h.mrk b (back hb)
  lp:=fun i L hi=>by
   obtain⟨bx,b,h1,h2,h3,h4,h5⟩:=h.lp i L hi
   exact⟨bx,b,h1,h2,h3,keep h4 (fun e=>by cases e),h5⟩}
theorem tg_clr(d:D):tgD d.clr=false:=by
 cases d with
 |sl n f=>
  show(match(if n<n then f n 0 else D.int 0)with| .int x=>x==777|_=>false)=false
  rw[if_neg (Nat.lt_irrefl _)];rfl
 |int n=>rfl
 |bool b=>rfl
 |str s=>rfl
theorem Rd.clr{d:D}{kk:K}{u:Value}(h:Rd P w R d kk u):Rd P w R d.clr kk u:=by
 cases d with
 |sl n f=>
  obtain⟨e,a,cap,rfl,h⟩:=h
  exact Rd.mk0 (s:=⟨n,f⟩) ⟨e,a,cap,rfl,h⟩
 |int n=>exact h
 |bool b=>exact h
 |str s=>exact h
theorem isX_mixT(e:TypeId):isX (mixT e)=true:=Nat.ble_eq_true_of_le (Nat.le_add_left _ _)
theorem unX_mixT{e:TypeId}(h:isM e=false):unX (mixT e)=e:=by
 have key:∀n:Nat,n<1000000000->(n+4000000000) % 1000000000=n:=fun n _=>by omega
 exact key e (isM_lt h)
theorem OwnS.mix{i:Nat}{e:TypeId}{s:Sl}{v:Value}{Z:Nat->Prop}(h:OwnS P w R ow i e s v)(hZ:∀b,ow b=some (.ent i)->Z b):Mx P w R Z e s.clr v:=by
 obtain⟨a,cap,hv,h1,h2,h3,h4⟩:=h
 refine⟨a,cap,hv,h1,h2,h3,h4.imp id fun⟨b,cs,ha,hz,hb,hc⟩=>⟨b,cs,ha,hZ b hz,hb,fun ks hks=>⟨(hc ks hks).1,fun j k kk hj hk=> ?_,fun j k j' k' u u' c _ _ _ _ ht=> ?_⟩⟩⟩
 ·obtain⟨u,hu,hr⟩:=(hc ks hks).2 j k kk hj hk
  exact⟨u,hu,fun ht=>absurd ((tg_clr (s.f j k)).symm.trans ht) (by simp),fun _=>hr.clr⟩
 ·exact absurd ((tg_clr (s.f j k)).symm.trans ht) (by simp)
open Classical in
theorem toMix_sound{t id:Nat}{en:Ent (sem T)}{a:Act}(h:HR P w0 R0 bl vs R ow st.boxes st.ents w)(ht:TD bl vs ow st.tmps a)(hid:st.tmps[t]? =some (.sl id))(hen:st.ents[id]? =some en)(hlive:en.live=true)(hown:en.own=true)(hm:isM en.elem=false):
  ∃vs' ow',Stp P w0 R0 bl vs ow st bl vs' R ow' (toMix st t id en) w/\TD bl vs' ow' (toMix st t id en).tmps a:=by
 obtain⟨v,hv,_,hO⟩:=h.ent id en hen hlive
 obtain⟨hK,hKt,hKl,hKd⟩:=h.kill id
 obtain⟨en',hen',hdead⟩:=hKd en hen
 have hr2:=hK.hr.disown id (fun e he=>by rw[hen']at he;cases he;exact hdead)
 obtain⟨hP,hmk⟩:=hr2.pushOwnZ (e:=mixT en.elem) (s:=en.s.clr) (v:=v) (Z:=fun b=>ow b=some (.ent id)) (fun b hz=>⟨(h.olt b _ hz).1,(h.olt b _ hz).2,fun hR=>(by rw[h.ro b hR]at hz;cases hz),if_pos hz⟩)
  (Own.of_mix (isX_mixT _) (by rw[unX_mixT hm];exact((hO hown).1 hm).mix fun b hb=>if_pos hb))
 have hmk2:∀{l:Nat}{mo:Obj} b,ow b=some (.mark l mo)->_:=fun{l mo} b hb'=>hmk (l:=l) (mo:=mo) b (by
  show(if ow b=some (.ent id)then none else ow b)=some (.mark l mo)
  rw[if_neg (fun hh=>by rw[hb']at hh;cases hh)];exact hb')
 refine⟨vs++[v],_,⟨hP,fun _ _ x=>x,fun _ _=>get_append_lt,hK.ext.trans (Ext.of_append (nb:=[]) (ne:=[⟨mixT en.elem,en.s.clr,true,true,0⟩]) (by simp[toMix,addEnt]) (by simp[toMix,addEnt,sem])),hmk2⟩, ?_, ?_⟩
 ·obtain⟨Ds,d1,d2,d3⟩:=ht.1
  exact⟨Ds,d1,fun d hd'=>hmk2 d (d2 d hd'),d3⟩
 ·obtain⟨u,hu,hsu⟩:=ht.2.get hid
  have hsu:vs[id]? =some u:=hsu
  rw[hv]at hsu
  cases hsu
  show SVRs bl (vs++[v]) (st.tmps.set t _) a.tmps.toList
  have hq:=(ht.2.mono (bl':=bl) (vs':=vs++[v]) (fun _ _ x=>x) (fun _ _=>get_append_lt)).set (i:=t) (x:= .sl (killEnt st id).ents.length) (u:=v) (show(vs++[v])[(killEnt st id).ents.length]? =some v by
   rw[<-hK.hr.nv,List.getElem?_append_right (Nat.le_refl _)];simp)
  have e:a.tmps.toList.set t v=a.tmps.toList:=by
   obtain⟨hi,rfl⟩:=List.getElem?_eq_some_iff.1 hu
   exact List.set_getElem_self hi
  rw[e]at hq
  exact hq
theorem mix_sound{a:Act}:∀(l:List (Nat×HK)){st:St (sem T)}{vs:List Value}{ow:Nat->Option Owner},HR P w0 R0 bl vs R ow st.boxes st.ents w->TD bl vs ow st.tmps a->
  ∃vs' ow',Stp P w0 R0 bl vs ow st bl vs' R ow' (mixHav st l) w/\TD bl vs' ow' (mixHav st l).tmps a:=by
 intro l
 induction l with
 |nil=>exact fun h ht=>⟨_,_,Stp.refl h,ht⟩
 | cons p l ih=>
  intro st vs ow h ht
  have same:∃vs' ow',Stp P w0 R0 bl vs ow st bl vs' R ow' (mixHav st l) w/\TD bl vs' ow' (mixHav st l).tmps a:=ih h ht
  unfold mixHav
  split
  ·rename_i heq;cases heq
  ·rename_i t e r heq
   cases heq
   split
   ·split
    ·rename_i id hid
     split
     ·rename_i en hen
      split
      ·rename_i hc
       simp only[Bool.and_eq_true,Bool.not_eq_true']at hc
       obtain⟨hlive,hown,hm,_⟩:=hc
       obtain⟨vs1,ow1,hS,hT⟩:=toMix_sound h ht hid hen hlive hown hm
       obtain⟨vs2,ow2,hS2,hT2⟩:=ih hS.hr hT
       exact⟨vs2,ow2,hS.trans hS2,hT2⟩
      ·exact same
     ·exact same
    ·exact same
   ·exact same
  ·rename_i heq
   cases heq
   exact same
theorem slCols_mem:∀{ks:List K}{o j:Nat}{e:TypeId},ks[j]? =some (.sl e)->o+j∈slCols ks o
 |[],_,j,e,h=>by simp at h
 | k::ks,o,j,e,h=>by
  cases j with
  |zero=>
   have:k= .sl e:=by simpa using h
   subst this
   simp[slCols]
  |succ j=>
   have:=slCols_mem (ks:=ks) (o:=o+1) (j:=j) (e:=e) (by simpa using h)
   rw[show o+(j+1)=o+1+j by omega]
   cases k<;>simp[slCols,this]
theorem Mx.deep{Z:Nat->Prop}{e:TypeId}{s:Sl}{v:Value}(h:Mx P w R Z e s v){ks:List K}(hks:kinds P e=some ks)(ht:AllT s (slCols ks 0)):Dp P w Z (.sl s.n s.f) (.sl e) v:=by
 obtain⟨a,cap,hv,h1,h2,h3,h4⟩:=h
 refine⟨e,a,cap,rfl,hv,h1,h2,h3,h4.imp id fun⟨b,cs,ha,hz,hb,hc⟩=>⟨b,cs,ha,hz,hb,fun ks2 hks2=> ?_⟩⟩
 rw[hks]at hks2;cases hks2
 obtain⟨hsz,hcell,hdis⟩:=hc ks hks
 have tg:∀{j k:Nat}{e':TypeId},j<s.n->ks[k]? =some (.sl e')->tgD (s.f j k)=true:=fun{j k e'} hj hk=>ht j hj k (by have:=slCols_mem (o:=0) hk;rwa[Nat.zero_add]at this)
 refine⟨hsz,fun j k kk hj hk=> ?_,fun q q' u u' c hq hq' hu hu' hb1 hb2=> ?_⟩
 ·obtain⟨u,hu,x1,x2⟩:=hcell j k kk hj hk
  refine⟨u,hu, ?_⟩
  by_cases hsl:∃e',kk= .sl e'
  ·obtain⟨e',rfl⟩:=hsl
   exact Dp.mono (fun x hx _=>hx.1) (fun _ _=>rfl) (x1 (tg hj hk))
  ·have hr:=tg_flat (fun e he=>hsl ⟨e,he⟩) x1 x2
   generalize s.f j k=d at hr
   cases d with
   |int n=>exact hr
   |bool b=>exact hr
   |str s=>exact hr
   |sl n f=>obtain⟨e',_,_,hke,_⟩:=hr;exact absurd ⟨e',hke⟩ hsl
 ·have hL:0<ks.length:=by
   rcases Nat.eq_zero_or_pos ks.length with h0|h0
   ·rw[h0,Nat.mul_zero]at hq;omega
   ·exact h0
  have pos:∀{q:Nat}{u:Value},q<s.n*ks.length->cs[q]? =some u->blkOf u=some c->q/ks.length<s.n/\q % ks.length<ks.length/\q/ks.length*ks.length+q % ks.length=q/\tgD (s.f (q/ks.length) (q % ks.length))=true:=fun{q u} hq hu hb1=>by
   have hj:q/ks.length<s.n:=Nat.div_lt_of_lt_mul (by rw[Nat.mul_comm];exact hq)
   have hk:q % ks.length<ks.length:=Nat.mod_lt _ hL
   have he:q/ks.length*ks.length+q % ks.length=q:=by rw[Nat.mul_comm];exact Nat.div_add_mod q ks.length
   refine⟨hj,hk,he, ?_⟩
   obtain⟨u2,hu2,x1,x2⟩:=hcell _ _ _ hj (List.getElem?_eq_getElem hk)
   rw[he,hu]at hu2;cases hu2
   by_cases hsl:∃e',ks[q % ks.length]= .sl e'
   ·obtain⟨e',he'⟩:=hsl
    exact tg hj (by rw[List.getElem?_eq_getElem hk,he'])
   ·have hr:=tg_flat (fun e he=>hsl ⟨e,he⟩) x1 x2
    generalize s.f (q/ks.length) (q % ks.length)=d at hr
    cases d with
    |int n=>obtain⟨_,_,rfl,_⟩:=hr;cases hb1
    |bool b=>obtain⟨_,rfl⟩:=hr;cases hb1
    |str s=>obtain⟨_,rfl⟩:=hr;cases hb1
    |sl n f=>obtain⟨e',_,_,hke,_⟩:=hr;exact absurd ⟨e',hke⟩ hsl
  obtain⟨a1,a2,a3,a4⟩:=pos hq hu hb1
  obtain⟨b1,b2,b3,b4⟩:=pos hq' hu' hb2
  obtain⟨e1,e2⟩:=hdis _ _ _ _ u u' c a1 a2 b1 b2 a4 b4 (by rw[a3];exact hu) (by rw[b3];exact hu') hb1 hb2
  rw[<-a3,<-b3,e1,e2]
theorem deepAll_sound:∀(l:List Nat){st:St (sem T)}{k:St (sem T)->Tree (sem T)},HR P w0 R0 bl vs R ow st.boxes st.ents w->(deepAll P l st k).den->
  ∃st',Stp P w0 R0 bl vs ow st bl vs R ow st' w/\st'.tmps=st.tmps/\st'.boxes=st.boxes/\(k st').den:=by
 intro l
 induction l with
 |nil=>exact fun h hd=>⟨_,Stp.refl h,rfl,rfl,hd⟩
 | cons id l ih=>
  intro st k h hd
  unfold deepAll at hd
  split at hd
  ·rename_i en hen
   split at hd
   ·rename_i hc
    simp only[Bool.and_eq_true,Bool.not_eq_true']at hc
    obtain⟨hmix,hm⟩:=hc
    split at hd
    ·rename_i ks hks
     obtain⟨hT,hd⟩:=hd
     obtain⟨hX,hlive,hown,hnm⟩:=mixOk_inv hmix
     obtain⟨v,hv,hr,hO⟩:=h.ent id en hen hlive
     have hdp:Own P w R ow id (deepT (unX en.elem)) en.s v:=own_deep (isD_deepT hm) (by rw[unD_deepT hm];exact((hO hown).mix hmix).deep hks hT)
     have hS:Stp P w0 R0 bl vs ow st bl vs R ow {st with ents:=st.ents.set id {en with elem:=deepT (unX en.elem),ver:=en.ver+1}} w:=⟨{
      below:=h.below,rlt:=h.rlt,r0:=h.r0,rsub:=h.rsub,ro:=h.ro,olt:=h.olt,nb:=h.nb,nv:=by simp[h.nv],vsl:=h.vsl,box:=h.box,mrk:=h.mrk,lp:=h.lp,glb:=h.glb
      ent:=fun j e hj hlj=>by
       rcases get_set_inv hj with⟨rfl,rfl⟩|⟨hne,hj⟩
       ·exact⟨v,hv,(fun hh=>by rw[hown]at hh;cases hh),fun _=>hdp⟩
       ·exact h.ent j e hj hlj},fun _ _ x=>x,fun _ _ x=>x,Ext.of_set_ent (i:=id) (bx:={en with elem:=deepT (unX en.elem),ver:=en.ver+1}) rfl rfl (fun b0 h0=>by rw[hen]at h0;cases h0;exact Nat.lt_succ_self _),fun _ x=>x⟩
     obtain⟨st',hS2,ht2,hb2,hd2⟩:=ih hS.hr hd
     exact⟨st',hS.trans hS2,ht2,hb2,hd2⟩
    ·exact ih h hd
   ·exact ih h hd
  ·exact ih h hd
end
theorem exec_sound{cfg:Cfg}{mk:Ys (sem T)->Inl (sem T)}(hsig:SigOk T cfg)(hmk:MkOk cfg w0 mk):∀(c:Code){B:Bs T}{ys:Ys (sem T)}{inR:Bool}{rnd:Option Nat}{n:Nat}{path:Nat}{bl:List Nat}{vs:List Value}{R:Nat->Prop}{ow:Nat->Option Owner}{st:St (sem T)}{a:Act}{w:World}{kN kR:St (sem T)->Tree (sem T)}{kE:Nat->St (sem T)->Tree (sem T)},
  YsOk cfg w0 ys B->(inR=false->rnd=none)->HR cfg.P w0 B bl vs R ow st.boxes st.ents w->TD bl vs ow st.tmps a->(exec cfg mk ys inR path c st kN kE kR).den->c.wpIn (FZ rnd) n cfg.P (Sat cfg.P w0 B bl vs ow st (dsts c) a kN kE kR) a w
 | .skip,B,ys,inR,rnd,n,path,bl,vs,R,ow,st,a,w,kN,kR,kE,hys,hr,h,ht,hd=>wpIn_skip ⟨Keeps.refl _ _,bl,vs,R,ow,st,(Stp.refl h),ht,hd⟩
 | .exit id,B,ys,inR,rnd,n,path,bl,vs,R,ow,st,a,w,kN,kR,kE,hys,hr,h,ht,hd=>wpIn_exit ⟨Keeps.refl _ _,bl,vs,R,ow,st,(Stp.refl h),ht,hd⟩
 | .ret,B,ys,inR,rnd,n,path,bl,vs,R,ow,st,a,w,kN,kR,kE,hys,hr,h,ht,hd=>wpIn_ret ⟨Keeps.refl _ _,bl,vs,R,ow,st,(Stp.refl h),ht,hd⟩
 | .seq x y,B,ys,inR,rnd,n,path,bl,vs,R0',ow0,st0,a,w,kN,kR,kE,hys,hr,h0,ht0,hd=>by
  unfold exec at hd
  have keep:∀{t},t∈dsts x->t∈dsts (.seq x y):=fun ht=>by simp[dsts,ht]
  split at hd
  ·simp only at hd
   generalize hh:joinHav cfg.P (fun g=>(cfg.sig g).isSome) (cfg.hav (path*1000+firstRegion y)) ys x y st0=hv at hd
   obtain⟨R,ow,hF,htF,_,_⟩:=h0.freezes (roIds (hksAll hv) (svsAll st0 hv))
   generalize hst:freezeHav hv st0=st at hd
   have hF:Stp cfg.P w0 B bl vs ow0 st0 bl vs R ow st w:=by rw[<-hst];exact hF
   have htF:st.tmps=st0.tmps:=by rw[<-hst];exact htF
   have h:=hF.hr
   have ht:TD bl vs ow st.tmps a:=by rw[htF];exact⟨ht0.1.mono hF.mrk,ht0.2⟩
   refine wpIn_mono (Q:=Sat cfg.P w0 B bl vs ow st (dsts (.seq x y)) a kN kE kR) ?_ (fun e a' w' hq=>hq.of hF (fun _ x=>x) (Keeps.refl _ _))
   split at hd
   ·rename_i hok
    unfold loopOk at hok
    simp only[Bool.and_eq_true]at hok
    obtain⟨⟨hok1,hok2⟩,hok3⟩:=hok
    have hD:∀t∈dsts x,t∈hv.slots.map (·.1):=fun t ht=>by
     have:=List.all_eq_true.1 hok1 t ht
     simpa using this
    obtain⟨J,hd1,hd2⟩:=hd
    refine wpIn_seq (wpIn_mono (exec_sound hsig hmk x hys hr h ht hd1) ?_)
    intro e a' w' hq
    cases e with
    | normal=>
     obtain⟨hk,bl2,vs2,R2,ow2,st2,hS2,ht2,hdn⟩:=hq
     dsimp only at hdn
     obtain⟨R3,ow3,hF2,htF2,_,_⟩:=hS2.hr.freezes (roIds (hksAll hv) (svsAll st2 hv))
     generalize hst2:freezeHav hv st2=st3 at hdn
     have hF2:Stp cfg.P w0 B bl2 vs2 ow2 st2 bl2 vs2 R3 ow3 st3 w':=by rw[<-hst2];exact hF2
     have htF2:st3.tmps=st2.tmps:=by rw[<-hst2];exact htF2
     have ht3:TD bl2 vs2 ow3 st3.tmps a':=by rw[htF2];exact⟨ht2.1.mono hF2.mrk,ht2.2⟩
     have hS3:=hS2.trans hF2
     split at hdn
     ·rename_i hro
      split at hdn
      ·rename_i news hnews
       split at hdn
       ·rename_i hno
        simp only[Bool.and_eq_true]at hno
        have hpre:=join_end h ht hok3 hD hS3 ht3 hk hro hnews hno.1 hno.2
        obtain⟨svs,cs,st1,vs',R',ow',es,hS1,ht1,hcs,hb1,he1,hf⟩:=head_in hpre hok3 hd2
        have hf:=hf (by rw[hcs];exact hdn)
        exact wpIn_mono (exec_sound hsig hmk y hys hr hS1.hr ht1 hf) fun e a2 w2 hq2=>hq2.of hS1 (fun t ht=>by simp[dsts,ht]) (hk.mono fun t ht=>keep ht)
       ·exact hdn.elim
      ·exact hdn.elim
     ·exact hdn.elim
    |exit id=>exact⟨hq.1.mono fun t ht=>keep ht,hq.2⟩
    |ret=>exact⟨hq.1.mono fun t ht=>keep ht,hq.2⟩
    |goto l=>exact hq.elim
    |panic ch=>exact hq.elim
    |outgrown=>exact hq.elim
   ·exact hd.elim
  ·refine wpIn_seq (wpIn_mono (exec_sound hsig hmk x hys hr h0 ht0 hd) ?_)
   intro e a' w' hq
   cases e with
   |normal=>
    obtain⟨hk,bl1,vs1,R1,ow1,st1,hS,ht1,hd1⟩:=hq
    exact wpIn_mono (exec_sound hsig hmk y hys hr hS.hr ht1 hd1) fun e a2 w2 hq2=>hq2.of hS (fun t ht=>by simp[dsts,ht]) (hk.mono fun t ht=>keep ht)
   |exit id=>exact⟨hq.1.mono fun t ht=>keep ht,hq.2⟩
   |ret=>exact⟨hq.1.mono fun t ht=>keep ht,hq.2⟩
   |goto l=>exact hq.elim
   |panic ch=>exact hq.elim
   |outgrown=>exact hq.elim
 | .cond c x y,B,ys,inR,rnd,n,path,bl,vs,R,ow,st,a,w,kN,kR,kE,hys,hr,h,ht,hd=>by
  unfold exec at hd
  obtain⟨st1,hS,ht1,hd1⟩:=decided_sound h ht hd
  have hev:=ev_sound ht1.tr c
  split at hd1
  ·rename_i hc
   rw[hc]at hev
   split at hd1
   ·exact hd1.elim
   exact wpIn_cond_true hev (wpIn_mono (exec_sound hsig hmk x hys hr hS.hr ht1 hd1) fun e a2 w2 hq2=>hq2.of hS (fun t ht=>by simp[dsts,ht]) (Keeps.refl _ _))
  ·rename_i hc
   rw[hc]at hev
   split at hd1
   ·exact hd1.elim
   exact wpIn_cond_false hev (wpIn_mono (exec_sound hsig hmk y hys hr hS.hr ht1 hd1) fun e a2 w2 hq2=>hq2.of hS (fun t ht=>by simp[dsts,ht]) (Keeps.refl _ _))
  ·exact hd1.elim
 | .block id b,B,ys,inR,rnd,n,path,bl,vs,R,ow,st,a,w,kN,kR,kE,hys,hr,h,ht,hd=>by
  unfold exec at hd
  refine wpIn_block (wpIn_mono (exec_sound hsig hmk b hys hr h ht hd) ?_)
  intro e a' w' hq
  cases e with
  |normal=>exact hq
  | exit id'=>
   obtain⟨hk,bl1,vs1,R1,ow1,st1,hS,ht1,hd1⟩:=hq
   simp only[Exit.inBlock]
   by_cases hid:id'=id
   ·simp only[hid,if_true,beq_self_eq_true]at hd1⊢
    exact⟨hk,bl1,vs1,R1,ow1,st1,hS,ht1,hd1⟩
   ·have hd1:(if(id'==id)=true then kN st1 else kE id' st1).den:=hd1
    rw[if_neg (by simpa using hid)]at hd1
    rw[if_neg hid]
    exact⟨hk,bl1,vs1,R1,ow1,st1,hS,ht1,hd1⟩
  |ret=>exact hq
  |goto l=>exact hq.elim
  |panic ch=>exact hq.elim
  |outgrown=>exact hq.elim
 | .region id ops draw,B,ys,inR,rnd,n,path,bl,vs,R,ow,st,a,w,kN,kR,kE,hys,hr,h,ht,hd=>by
  unfold exec at hd
  cases draw with
  | false=>
   simp only[Bool.false_eq_true,if_false]at hd
   exact wp_region_LI (runOps_sound hsig (hmk.1 ys B hys) ops.toList h ht hd fun a' w' hk⟨bl1,vs1,R1,ow1,st1,hS,ht1,hd1⟩=>⟨hk,bl1,vs1,R1,ow1,st1,hS,ht1,by
    have hd1:(if pickBad cfg (path*1000+id+1) ops st1 then Tree.fail "another function" id else kN st1).den:=hd1
    split at hd1
    ·exact hd1.elim
    ·exact hd1⟩)
  | true=>
   simp only[if_true]at hd
   split at hd
   ·rename_i hc
    simp only[Bool.and_eq_true]at hc
    obtain⟨⟨hc1,hc2⟩,hc3⟩:=hc
    refine wpIn_draw (S:=Base cfg.P bl vs (baseOf st (writtenBy cfg.P ops st))) sat_lets hc3 hc2 ?_
    have hdr:Below w.heap.size w {w with drawn:=w.drawn+1}:=Below.drew (Below.refl _ _)
    have h':=h.grow hdr
    have hD:∀(i:Nat)(o:Oper),ops[i]? =some o->∀x,o.dst=some x->x∈dsts (.region id ops true):=fun i o ho x hx=>by
     simp only[dsts,List.mem_filterMap]
     exact⟨o,by simpa using Array.mem_of_getElem? ho,hx⟩
    split at hd
    ·rename_i hl
     rw[Bool.and_eq_true]at hl
     obtain⟨l1,l3,l5,l6⟩:=lateGood_spec hl.2
     generalize lateOf (A:=sem T) cfg.P ops=als at*
     have hsz:st.tmps.length=a.tmps.size:=by rw[ht.2.length,Array.length_toList]
     have hz:∀i,i<ops.size->(Array.replicate ops.size false).getD i true=false:=fun i hi=>by simp[hi]
     exact runLate_sound hsig (hmk.c B) (fun c a w h=>h) hc1 h' (a0:=a) hD (fun a' w' hk hr=>⟨hk,hr⟩) l1 l3
      (fun i hi=>by
       obtain⟨_,t,d,z,k1,k2,k3⟩:=l5 i hi
       exact⟨t,d,z,k1,by omega,k3⟩) _ _ (L:=[]) (B:=fun _=>0) (Stp.refl h') (hide_tmps als ht) hd (base_start h' _) l6 (todo_start _) (Keeps.refl _ _)
      (fun i hi=>hz i (l5 i hi).1) List.nodup_nil (fun _ h=>by cases h) (fun _ h=>by cases h) (fun _ h=>by cases h) (fun _ h=>by cases h)
    ·rw[runDraw_masks _ _ _ (maskOk_start ops)]at hd
     exact runDraw_sound hsig (hmk.c B) (fun c a w h=>h) hc1 h' (D:=dsts (.region id ops true)) (a0:=a) hD (fun a' w' hk hr=>⟨hk,hr⟩) _ (Stp.refl h') ht hd (base_start h' _) (todo_start _) (Keeps.refl _ _)
   ·exact hd.elim
 | .loop b,B,ys,inR,rnd,n,path,bl,vsA,R0',owA,stA,a,w,kN,kR,kE,hys,hr,hA,htA,hd=>by
  unfold exec at hd
  obtain⟨vs,ow0,hMx,ht0⟩:=mix_sound (cfg.hav (path*1000+firstRegion b)).slots hA htA
  simp only at hd
  generalize mixHav stA (cfg.hav (path*1000+firstRegion b)).slots=st0 at hd hMx ht0
  have h0:=hMx.hr
  refine wpIn_mono (Q:=Sat cfg.P w0 B bl vs ow0 st0 (dsts (.loop b)) a kN kE kR) ?_ (fun e a' w' hq=>hq.of hMx (fun _ x=>x) (Keeps.refl _ _))
  split at hd
  ·refine wpIn_loop_ghost (fun m a' w'=>Sat cfg.P w0 B bl vs ow0 st0 (dsts (.loop b)) a (rolls (fun m st k=>exec cfg mk ys inR (path*1000+810+m) b st k kE kR) m) kE kR .normal a' w') 8 ⟨Keeps.refl _ _,bl,vs,R0',ow0,st0,Stp.refl h0,ht0,hd⟩ ?_
   intro m a1 w1 hI
   cases m with
   |zero=>
    obtain⟨_,_,_,_,_,_,_,_,hf⟩:=hI
    exact hf.elim
   |succ m=>
    obtain⟨hk1,bl1,vs1,R1,ow1,st1,hS1,ht1,hd1⟩:=hI
    refine wpIn_mono (exec_sound hsig hmk b hys hr hS1.hr ht1 hd1) ?_
    intro e a2 w2 hq
    have hq':=hq.of hS1 (D:=dsts (.loop b)) (fun t ht=>by simpa[dsts]using ht) hk1
    cases e with
    |normal=>exact⟨m,Nat.lt_succ_self m,hq'⟩
    |exit id=>exact hq'
    |ret=>exact hq'
    |goto l=>exact hq'
    |panic ch=>exact hq'
    |outgrown=>exact hq'
  generalize hh:autoHav cfg.P (fun g=>(cfg.sig g).isSome) (cfg.hav (path*1000+firstRegion b)) ys b st0=hv at hd
  obtain⟨R,ow,hF,htF,_,_⟩:=h0.freezes (roIds (hksAll hv) (svsAll st0 hv))
  generalize hst:freezeHav hv st0=st at hd
  have hF:Stp cfg.P w0 B bl vs ow0 st0 bl vs R ow st w:=by rw[<-hst];exact hF
  have htF:st.tmps=st0.tmps:=by rw[<-hst];exact htF
  have h:=hF.hr
  have ht:TD bl vs ow st.tmps a:=by rw[htF];exact⟨ht0.1.mono hF.mrk,ht0.2⟩
  refine wpIn_mono (Q:=Sat cfg.P w0 B bl vs ow st (dsts (.loop b)) a kN kE kR) ?_ (fun e a' w' hq=>hq.of hF (fun _ x=>x) (Keeps.refl _ _))
  split at hd
  ·rename_i hok
   unfold loopOk at hok
   simp only[Bool.and_eq_true]at hok
   obtain⟨⟨hok1,hok2⟩,hok3⟩:=hok
   have hD:∀t∈dsts b,t∈hv.slots.map (·.1):=fun t ht=>by
    have:=List.all_eq_true.1 hok1 t ht
    simpa using this
   split at hd
   ·rename_i raws hraw
    obtain⟨J,M,hJ,hd⟩:=hd
    refine wpIn_loop_ghost (fun n a' w'=>∃ds,apP (shapeHav hv) J ds/\n=apN (shapeHav hv) M ds/\Keeps (dsts b) a a'/\Pre cfg.P w0 B bl vs ow (headSt st hv) hv ds a' w') (apN (shapeHav hv) M (raws.map Cl.toD))
     ⟨_,hJ,rfl,Keeps.refl _ _,pre_start h ht hok3 hok2 hraw⟩ ?_
    rintro m a1 w1 ⟨ds,hJd,rfl,hk1,hpre⟩
    obtain⟨svs,cs,st1,vs',R',ow',es,hS1,ht1,hcs,hb1,he1,hf⟩:=head_in hpre hok3 hd
    have hf:=hf (by rw[hcs];exact hJd)
    refine wpIn_mono (exec_sound hsig hmk b hys hr hS1.hr ht1 hf) ?_
    intro e a2 w2 hq
    cases e with
    | normal=>
     obtain⟨hk2,bl2,vs2,R2,ow2,st2,hS2,ht2,hd2⟩:=hq
     dsimp only at hd2
     obtain⟨R3,ow3,hF2,htF2,_,_⟩:=hS2.hr.freezes (roIds (hksAll hv) (svsAll st2 hv))
     generalize hst2:freezeHav hv st2=st3 at hd2
     have hF2:Stp cfg.P w0 B bl2 vs2 ow2 st2 bl2 vs2 R3 ow3 st3 w2:=by rw[<-hst2];exact hF2
     have htF2:st3.tmps=st2.tmps:=by rw[<-hst2];exact htF2
     have ht3:TD bl2 vs2 ow3 st3.tmps a2:=by rw[htF2];exact⟨ht2.1.mono hF2.mrk,ht2.2⟩
     have hS3:=hS2.trans hF2
     split at hd2
     ·rename_i hro
      split at hd2
      ·rename_i news hnews
       split at hd2
       ·rename_i hno
        simp only[Bool.and_eq_true]at hno
        obtain⟨g1,g2⟩:=hd2
        exact⟨_,by rw[<-hcs];exact g2,news.map Cl.toD,g1,rfl,hk1.trans hk2,round_end h ht hok3 hD hb1 he1 hS1.vs hS1.mrk hS3 ht3 (hk1.trans hk2) hro hnews hno.1 hno.2⟩
       ·exact hd2.elim
      ·exact hd2.elim
     ·exact hd2.elim
    |exit id'=>exact Sat.of (e:= .exit id') hS1 (fun _ x=>x) hk1 hq
    |ret=>exact Sat.of (e:= .ret) hS1 (fun _ x=>x) hk1 hq
    |goto l=>exact hq.elim
    |panic ch=>exact hq.elim
    |outgrown=>exact hq.elim
   ·exact hd.elim
  ·exact hd.elim
 | .rangeFunc f ps assign body,B,ys,inR,rnd,n,path,bl,vs,R,ow,st,a,w,kN,kR,kE,hys,hr,h,ht,hd=>by
  unfold exec at hd
  have hf:=ev_sound ht.tr f
  split at hd
  ·rename_i g caps hfe
   rw[hfe]at hf
   obtain⟨cs,hfv,hcs⟩:=hf
   split at hd
   ·rename_i hgo
    simp only[Bool.and_eq_true,Bool.not_eq_true']at hgo
    obtain⟨hgo,hin⟩:=hgo
    have hrn:=hr hin
    subst hrn
    dsimp only at hd
    refine wpIn_rangeFunc fun fn _=> ?_
    let L:LStat T:={params:=ps,assign:=assign,body:=body,tmps:=st.tmps,busy:=false}
    let rec0:Loop:={state:= .ready,pending:=none,fn,tmps:=a.tmps,params:=ps,assign,body,defers:=w.heap.size}
    have hE:=h.enterLoop (L:=L) (r:=rec0) rfl rfl rfl ht.2 rfl rfl rfl
    have hnone:∀j,B.lps j≠none->j<st.boxes.length:=fun j hj=>by
     cases hL:B.lps j with
     |none=>exact absurd hL hj
     |some L'=>
      obtain⟨bx,b,g1,_⟩:=h.lp j L' hL
      exact(List.getElem?_eq_some_iff.1 g1).1
    have hne:∀y'∈ys,y'.i≠st.boxes.length:=fun y' hy' e=>by
     obtain⟨L',hL'⟩:=hys.lps y' hy'
     have:=hnone y'.i (by rw[hL'];simp)
     omega
    generalize hyd:({i:=st.boxes.length,code:= .seq assign body,tmps:=st.tmps,run:=_}:Yd (sem T))=yd at hd
    have hydi:yd.i=st.boxes.length:=by rw[<-hyd]
    have hys1:YsOk cfg w0 ys (B.put st.boxes.length (some L)):=hys.mono rfl (fun y' hy'=>Bs.put_ne B (hne y' hy') _)
    have hys':YsOk cfg w0 (yd::ys) (B.put st.boxes.length (some L)):=by
     refine⟨⟨L,by rw[hydi];exact Bs.put_eq _ _ _,rfl,fun B' hR' hL' hysB=> ?_⟩,hys1⟩
     intro args vals st1 k bl' vs' R' ow' w' h' hv' hd'
     rw[<-hyd]at hd'
     dsimp only at hd'
     split at hd'
     ·rename_i hj
      split at hd'
      ·rename_i hlen
       refine hand_sound (y:=yd) (L:=L) (ps:=ps) (assign:=assign) (body:=body) (st0:=st) (Ra:=fun _ _ _=> .done) (EA:=fun st kN kE kR=>exec cfg mk ys true (path*1000+998) assign st kN kE kR) (EB:=fun st kN kE kR=>exec cfg mk ys true (path*1000+999) body st kN kE kR) hL' hysB (fun y' hy'=>by rw[hydi];exact hne y' hy') rfl rfl rfl rfl rfl
        (fun B2{b n bl vs R ow st a w kN kR kE} g1 g2 g3 g4=>exec_sound hsig hmk assign g1 (fun hh=>by cases hh) g2 g3 g4) (fun B2{b n bl vs R ow st a w kN kR kE} g1 g2 g3 g4=>exec_sound hsig hmk body g1 (fun hh=>by cases hh) g2 g3 g4) h' hv' (by rw[hydi];exact hj) (by simpa using hlen) (wr:=st.wr) ?_
       rw[hydi]
       exact hd'
      ·exact hd'.elim
     ·exact hd'.elim
    have hcall:=hmk.1 (yd::ys) _ hys' (path*1000+997) (.fn g) (.yld st.boxes.length::caps) (.func (.yield (w.heap.size+1)) #[] #[]::cs.toList) {st with boxes:=st.boxes++[⟨0,[],0,false⟩]} _ _ _ _ _ _ hE
     ⟨⟨w.heap.size+1,by rw[<-h.nb];simp,rfl⟩,hcs.mono (fun _ _=>get_append_lt) (fun _ _ x=>x)⟩ hd
    refine⟨w.heap.size+1,[markD w.heap.size],_,_,_,g,_,_,run_enterLoop_outer fn a.tmps ps assign body,run_resolve_range hfv,fun _ _=>trivial,run_invoke_range hgo,(fun hh=>nomatch hh), ?_⟩
    dsimp only at hcall
    unfold CallOk at hcall
    have hargs:(.func (.yield (w.heap.size+1)) #[] #[]::cs.toList:List Value).toArray= #[.func (.yield (w.heap.size+1)) #[] #[]]++cs:=by
     rw[<-Array.toList_inj];simp
    rw[hargs]at hcall
    refine(callsIn_FZ (rnd:=none) (n:=n-1)).2 (hcall.mono ?_)
    rintro e w3 ⟨v,rfl,sv,st2,bl2,vs2,R2,ow2,hS2,htm2,_,hd2⟩
    obtain⟨bx,b,m1,m2,m3,m4,q,q1,q2,q3,q4,q5,j,j1,j2,j3,_⟩:=hS2.hr.lp st.boxes.length L (Bs.put_eq _ _ _)
    have hbl:b=w.heap.size+1:=by
     have:=hS2.bl st.boxes.length (w.heap.size+1) (by rw[<-h.nb];simp)
     rw[m3]at this
     exact Option.some.inj this
    subst hbl
    have hnb:q.state≠ .busy:=by
     rw[j3]
     cases j<;>simp[L]
    have hend:=run_endLoop (P:=cfg.P) q1 hnb
    have hlast:B.lps st.boxes.length=none:=by
     cases hL:B.lps st.boxes.length with
     |none=>rfl
     |some L'=>have:=hnone st.boxes.length (by rw[hL];simp);omega
    have hH:HR cfg.P w0 B bl2 vs2 R2 ow2 st2.boxes st2.ents (w3.putObj (w.heap.size+1) (.loop {q with state:= .exhausted})):=
     hS2.hr.setLoop m3 m4 rfl (fun j hj=>(Bs.put_ne B hj _).symm) (fun _ _=>rfl) m1 m2 rfl (fun L' hL'=>by rw[hlast]at hL';cases hL')
    have hmark:ow2 w.heap.size=some (.mark 0 mkO):=hS2.mrk _ (by rw[setOw_ne (by omega),setOw_eq])
    have hmrk:∀{l:Nat}{mo:Obj} x,ow x=some (.mark l mo)->ow2 x=some (.mark l mo):=fun x hx=>by
     have:=(h.olt x _ hx).2
     exact hS2.mrk x (by rw[setOw_ne (by omega),setOw_ne (by omega)];exact hx)
    have hbl2:∀(i b:Nat),bl[i]? =some b->bl2[i]? =some b:=fun i b hb=>hS2.bl i b (get_append_lt hb)
    have hext:=(Ext.of_append (st:=st) (st':={st with boxes:=st.boxes++[⟨0,[],0,false⟩]}) (nb:=[⟨0,[],0,false⟩]) (ne:=[]) rfl (by simp)).trans hS2.ext
    have hSf:Stp cfg.P w0 B bl vs ow st bl2 vs2 R2 ow2 {st2 with tmps:=st.tmps} (w3.putObj (w.heap.size+1) (.loop {q with state:= .exhausted})):=⟨hH,hbl2,hS2.vs,⟨hext.box,hext.ent⟩,hmrk⟩
    have hTf:TD bl2 vs2 ow2 ({st2 with tmps:=st.tmps}:St (sem T)).tmps {a with defers:=[markD w.heap.size]++a.defers}:=by
     obtain⟨Ds,d1,d2,d3⟩:=ht.1
     refine⟨⟨w.heap.size::Ds,by simp[d1],fun d hdm=> ?_, ?_⟩,ht.2.mono hbl2 hS2.vs⟩
     ·simp only[List.mem_cons]at hdm
      rcases hdm with rfl|hdm
      ·exact hmark
      ·exact hmrk d (d2 d hdm)
     ·refine List.nodup_cons.2 ⟨fun hm=> ?_,d3⟩
      have:=(h.olt _ _ (d2 _ hm)).2
      omega
    refine⟨q.pending,_,hend, ?_⟩
    have hkeep:Keeps (dsts (.rangeFunc f ps assign body)) a {a with defers:=[markD w.heap.size]++a.defers}:=⟨rfl,fun _ _=>rfl⟩
    rw[j2]at hSf⊢
    dsimp only at hd2
    split at hd2
    ·rename_i hj
     obtain⟨bx',u1,_,u3⟩:=jp_inv hj (by simp)
     rw[m1]at u1;cases u1
     rw[u3]at j1
     have:none=j:=by simpa[jpCode]using j1
     subst this
     exact⟨hkeep,bl2,vs2,R2,ow2,_,hSf,hTf,hd2⟩
    ·rename_i hj
     obtain⟨bx',u1,_,u3⟩:=jp_inv hj (by simp)
     rw[m1]at u1;cases u1
     rw[u3]at j1
     have:some .ret=j:=by simpa[jpCode]using j1
     subst this
     exact wpIn_ret ⟨hkeep,bl2,vs2,R2,ow2,_,hSf,hTf,hd2⟩
    ·rename_i id hj
     obtain⟨bx',u1,_,u3⟩:=jp_inv hj (by simp)
     rw[m1]at u1;cases u1
     rw[u3]at j1
     have:some (.exit id)=j:=by simpa[jpCode]using j1
     subst this
     exact wpIn_exit ⟨hkeep,bl2,vs2,R2,ow2,_,hSf,hTf,hd2⟩
    ·exact hd2.elim
   ·exact hd.elim
  ·exact hd.elim
 | .scope _,B,ys,inR,rnd,n,path,bl,vs,R,ow,st,a,w,kN,kR,kE,hys,hr,h,ht,hd=>by
  unfold exec at hd
  exact hd.elim
 | .refuse _,B,ys,inR,rnd,n,path,bl,vs,R,ow,st,a,w,kN,kR,kE,hys,hr,h,ht,hd=>by
  unfold exec at hd
  exact hd.elim
 | .label _,B,ys,inR,rnd,n,path,bl,vs,R,ow,st,a,w,kN,kR,kE,hys,hr,h,ht,hd=>by
  unfold exec at hd
  exact hd.elim
 | .goto _,B,ys,inR,rnd,n,path,bl,vs,R,ow,st,a,w,kN,kR,kE,hys,hr,h,ht,hd=>by
  unfold exec at hd
  exact hd.elim
end Go.Sx
namespace Go.Sx
open Go.RowKit (Below)
variable{T:FuncId->Pred}
section
variable{P:Program}{w0 w:World}{R0:Bs T}{R:Nat->Prop}{bl:List Nat}{vs:List Value}{ow:Nat->Option Owner}{st:St (sem T)}{a:Act}
def resVal(tmps:Array Value):ResultVar->Sem Value
 | .tmp t=>pure (tmps.getD t undef)
 | .cell a t=>do loadVar t (<-asAddr (tmps.getD a undef))
theorem resultsOf_sound(hl:Look P R bl vs st.boxes st.ents w)(ht:TD bl vs ow st.tmps a):∀{rs:List ResultVar}{l:List (SV (sem T))},resultsOf P st rs=some l->
  ∃vals:List Value,SVRs bl vs l vals/\(rs.mapM (resVal a.tmps)).run P w= .ok vals w
 |[],l,h=>by
  simp only[resultsOf,Option.some.injEq]at h
  subst h
  exact⟨[],trivial,rfl⟩
 | .tmp t::rs,l,h=>by
  simp only[resultsOf,Option.map_eq_some_iff]at h
  obtain⟨l',h',rfl⟩:=h
  obtain⟨vals,h1,h2⟩:=resultsOf_sound hl ht h'
  refine⟨a.tmps.getD t undef::vals,⟨ev_sound ht.tr (.tmp t),h1⟩, ?_⟩
  simp only[List.mapM_cons,resVal,Sem.run_bind,Sem.run_pure,Result.andThen_ok,h2]
 | .cell t ty::rs,l,h=>by
  simp only[resultsOf]at h
  split at h
  ·rename_i b off n l' hb hs hrec
   split at h
   ·rename_i bx hbx
    split at h
    ·rename_i hc
     simp only[Bool.and_eq_true,decide_eq_true_eq]at hc
     obtain⟨⟨hlive,hoff⟩,hu⟩:=hc
     split at h
     ·rename_i v hp
      cases h
      obtain⟨vals,h1,h2⟩:=resultsOf_sound hl ht hrec
      have hx:=ev_sound ht.tr (.tmp t)
      have hbe:st.ev (.tmp t)= .ptr b off:=hb
      rw[hbe]at hx
      obtain⟨b',hb1,hv⟩:=hx
      obtain⟨b2,cs,hb2,hcs,hr⟩:=hl.box b bx hbx hlive
      rw[hb1]at hb2;cases hb2
      have hlen:=hr.length
      obtain⟨u,hrun,hsv⟩:=run_loadVar' (P:=P) (w:=w) (bl:=bl) (vs:=vs) hs (b:=b') (off:=off) (vals:=(cs.toList.drop off).take n) (by simp;simp at hlen;omega) (fun j u hj=>by
       simp only[World.cell?,hcs]
       have:cs[off+j]? =some u:=by
        rw[List.getElem?_take]at hj
        split at hj
        ·rw[List.getElem?_drop]at hj;simpa using hj
        ·cases hj
       simpa using this) hp ((hr.drop off).take n) hu
      refine⟨u::vals,⟨hsv,h1⟩, ?_⟩
      have hv:a.tmps.getD t undef= .pointer (some ⟨b',off,none⟩):=hv
      simp only[List.mapM_cons,resVal,Sem.run_bind,Sem.run_pure,Result.andThen_ok,hv,asAddr,hrun,h2]
     ·cases h
    ·cases h
   ·cases h
  ·cases h
theorem results_run(hl:Look P R bl vs st.boxes st.ents w)(ht:TD bl vs ow st.tmps a){fn:Func}{l:List (SV (sem T))}(h:resultsOf P st fn.results.toList=some l):
  ∃vals:List Value,SVRs bl vs l vals/\(results fn a.tmps).run P w= .ok (oneV vals) w:=by
 obtain⟨vals,h1,h2⟩:=resultsOf_sound hl ht h
 refine⟨vals,h1, ?_⟩
 have e:fn.results=fn.results.toList.toArray:=by simp
 have hf:∀(rs:Array ResultVar),rs=rs.toList.toArray->(do
   let vs<-rs.mapM (resVal a.tmps)
   pure (if h:vs.size=1 then vs[0]else .tuple vs):Sem Value).run P w=(do
   let vs<-rs.toList.mapM (resVal a.tmps)
   pure (if h:vs.toArray.size=1 then vs.toArray[0]else .tuple vs.toArray):Sem Value).run P w:=by
  intro rs hrs
  rw[hrs,List.mapM_toArray]
  simp
 have hg:results fn a.tmps=(do
   let vs<-fn.results.mapM (resVal a.tmps)
   pure (if h:vs.size=1 then vs[0]else .tuple vs)):=by
  unfold results
  congr 1
 rw[hg,hf _ e]
 simp only[Sem.run_bind,h2,Result.andThen_ok,Sem.run_pure]
 match vals with
 |[]=>rfl
 |[v]=>rfl
 |_::_::_=>simp[oneV]
theorem frame_tr{fn:Func}{args:List (SV (sem T))}{vals:List Value}(hs:SVRs bl vs args vals):TD bl vs ow (frameOf fn args) {tmps:=vals.toArray++Array.replicate (fn.ntmps-vals.toArray.size) undef,defers:=[]}:=by
 refine⟨⟨[],rfl,by simp,List.nodup_nil⟩, ?_⟩
 simp only[frameOf,Array.toList_append,Array.toList_replicate,List.size_toArray,<-hs.length]
 refine SVRs.append (by simpa using hs) ?_
 generalize fn.ntmps-args.length=n
 induction n with
 |zero=>exact trivial
 |succ n ih=>exact⟨rfl,ih⟩
end
def upMarks(ow:Nat->Option Owner):Nat->Option Owner:=fun b=>match ow b with
 |some (.mark l mo)=>some (.mark (l+1) mo)
 |o=>o
def downMarks(ow:Nat->Option Owner):Nat->Option Owner:=fun b=>match ow b with
 |some (.mark (l+1) mo)=>some (.mark l mo)
 |some (.mark 0 _)=>none
 |o=>o
theorem HR.up{P:Program}{w0 w:World}{B:Bs T}{R:Nat->Prop}{bl:List Nat}{vs:List Value}{ow:Nat->Option Owner}{boxes:List (Box (sem T))}{ents:List (Ent (sem T))}(h:HR P w0 B bl vs R ow boxes ents w):
  HR P w0 B bl vs R (upMarks ow) boxes ents w:=by
 refine h.remark (fun b o hb ho=> ?_) (fun b o hb=> ?_)
 ·unfold upMarks
  rw[hb]
  cases o with
  |mark l mo=>exact absurd rfl (ho l _)
  |_=>rfl
 ·unfold upMarks at hb
  split at hb
  ·rename_i l mo hl
   cases hb
   exact .inr ⟨l,_,mo,hl,rfl⟩
  ·exact .inl hb
theorem HR.down{P:Program}{w0 w:World}{B:Bs T}{R:Nat->Prop}{bl:List Nat}{vs:List Value}{ow:Nat->Option Owner}{boxes:List (Box (sem T))}{ents:List (Ent (sem T))}(h:HR P w0 B bl vs R ow boxes ents w):
  HR P w0 B bl vs R (downMarks ow) boxes ents w:=by
 refine h.remark (fun b o hb ho=> ?_) (fun b o hb=> ?_)
 ·unfold downMarks
  rw[hb]
  cases o with
  |mark l mo=>exact absurd rfl (ho l _)
  |_=>rfl
 ·unfold downMarks at hb
  split at hb
  ·rename_i l mo hl
   cases hb
   exact .inr ⟨_,_,mo,hl,rfl⟩
  ·cases hb
  ·exact .inl hb
theorem down_up{ow ow':Nat->Option Owner}(h:∀{l:Nat}{mo:Obj} b,upMarks ow b=some (.mark (l+1) mo)->ow' b=some (.mark (l+1) mo)):∀{l:Nat}{mo:Obj} b,ow b=some (.mark l mo)->downMarks ow' b=some (.mark l mo):=by
 intro l mo b hb
 have:upMarks ow b=some (.mark (l+1) mo):=by unfold upMarks;rw[hb]
 unfold downMarks
 rw[h b this]
theorem leaves_marks{P:Program}{w0:World}{B:Bs T}{R:Nat->Prop}{bl:List Nat}{vs:List Value}{boxes:List (Box (sem T))}{ents:List (Ent (sem T))}{F:Fence}{n:Nat}{fn:Func}{tmps:Array Value}{Q:Ending->World->Prop}:
  ∀(Ds:List Nat){ow:Nat->Option Owner}{w:World},HR P w0 B bl vs R ow boxes ents w->(∀d∈Ds,ow d=some (.mark 0 mkO))->Ds.Nodup->
   (∀(ow':Nat->Option Owner)(w':World),HR P w0 B bl vs R ow' boxes ents w'->(∀b,(∀l mo,ow b≠some (.mark l mo))->ow' b=ow b)->(∀{l:Nat}{mo:Obj} b,ow b=some (.mark (l+1) mo)->ow' b=some (.mark (l+1) mo))->∃v,(results fn tmps).run P w'= .ok v w'/\Q (.returned v) w')->
   LeavesInM F n P fn tmps Q (Ds.map markD) .returning w
 |[],ow,w,h,_,_,hq=>by
  show LeavesIn F n P fn tmps Q [] .returning w
  exact hq ow w h (fun _ _=>rfl) (fun _ x=>x)
 | d::Ds,ow,w,h,hm,hn,hq=>by
  have hd:=hm d (by simp)
  have hn':=List.nodup_cons.1 hn
  refine⟨(fun e=>by cases e), .inl ⟨d,_,rfl,run_takeDeferred (h.mrk d hd), ?_⟩⟩
  refine leaves_marks Ds (h.takeMark hd) (fun d' hd'=> ?_) hn'.2 (fun ow' w' g1 g2 g3=>hq ow' w' g1 (fun b hb=> ?_) (fun b hb=> ?_))
  ·rw[setOw_ne (fun e=>hn'.1 (by rw[<-e];exact hd'))];exact hm d' (by simp[hd'])
  ·have hbd:b≠d:=fun e=>hb 0 _ (by rw[e];exact hd)
   have:=g2 b (fun l=>by rw[setOw_ne hbd];exact hb l)
   rw[this,setOw_ne hbd]
  ·have hbd:b≠d:=fun e=>by rw[e,hd]at hb;cases hb
   exact g3 b (by rw[setOw_ne hbd];exact hb)
theorem callIns_sound{P:Program}{w0 w:World}{R0:Bs T}{R:Nat->Prop}{bl:List Nat}{vs:List Value}{ow:Nat->Option Owner}{st:St (sem T)}{f:FuncId}{e:TypeId}(hi:InsOK P f e)(h:HR P w0 R0 bl vs R ow st.boxes st.ents w){args:List (SV (sem T))}{vals:List Value}(hv:SVRs bl vs args vals)
  {k:SV (sem T)->St (sem T)->Tree (sem T)} (hd:(callIns P e args st k).den):CallOk P w0 R0 bl vs ow st w f vals k:=by
 unfold callIns at hd
 split at hd
 ·rename_i s n jd
  match vals,hv with
  |[v0,v1,v2],hv=>
  obtain⟨g0,g1,g2,_⟩:=hv
  split at hd
  ·rename_i d id? en by_ z hdst hen hby hz
   split at hd
   ·rename_i hc
    simp only[Bool.and_eq_true,beq_iff_eq,Bool.not_eq_true']at hc
    obtain⟨⟨hne,hlive,hown,rfl⟩,hbpos,hposK⟩:=hc
    have hne:id? ≠some jd:=fun x=>by rw[x]at hne;simp at hne
    have hdd:=(needs_den.1 hd).2
    have hns:=(needs_den.1 hd).1
    clear hd
    simp only[List.mem_cons,List.not_mem_nil,or_false,forall_eq_or_imp,forall_eq,sem,arithS,Sl.len]at hns
    obtain⟨n0,n1,n2,n3⟩:=hns
    obtain⟨ks,inf,zv,hks,hinf,hsz,hzv,hzs,_,_⟩:=zeroCls_inv h hz
    obtain⟨i2,hi2,hbb⟩:=bytes_inv hby
    rw[hinf]at hi2;cases hi2
    subst hbb
    simp only[posK,hks,Bool.and_eq_true,decide_eq_true_eq,Bool.not_eq_true']at hposK
    obtain⟨hL,hm⟩:=hposK
    have hbpos:0<inf.bytes:=by simpa using hbpos
    have hbytes:(d.n+en.s.n)*inf.bytes<=140737488355328:=by
     have h1:(((d.n+en.s.n)*inf.bytes:Nat):Int)<=140737488355328:=by
      rw[Int.natCast_mul,Int.natCast_add]
      exact n3
     omega
    obtain⟨i,hi'⟩:=Int.eq_ofNat_of_zero_le n0
    subst hi'
    have hrn:0<en.s.n:=by have:(0:Int)<((en.s.n:Nat):Int):=n2;omega
    obtain⟨u,hu,_,hO⟩:=h.ent jd en hen hlive
    have hu':vs[jd]? =some v2:=g2
    rw[hu']at hu;cases hu
    obtain⟨a2,vcap,rfl,q1,q2,q3,q4⟩:=(hO hown).1 hm
    rcases q4 with q4|⟨vb,vcs,rfl,hob,hvcs,hvc⟩
    ·omega
    obtain⟨hvs,hvc⟩:=hvc ks hks
    have g1:v1= .int .i64 i:=g1.1
    subst g1
    have hlen:(Sl.app (Sl.app (Sl.part d 0 i) en.s) (Sl.part d i d.n)).n=d.n+en.s.n:=by
     have:((i:Nat):Int)<=((d.n:Nat):Int):=n1
     simp only[Sl.app,Sl.part]
     omega
    have h47:d.n+en.s.n<=140737488355328:=Nat.le_trans (Nat.le_mul_of_pos_right _ hbpos) hbytes
    rcases dst_inv h hdst g0 with⟨id',en0,rfl,hen0,hlive0,hown0,he0,hs0,a0,cap,hv0,hvid,hdok,hobk⟩|⟨rfl,rfl,hv0⟩
    rotate_left
    ·have hdok:DstOk P w R en.elem Sl.nil none 0:=⟨Nat.le_refl _,Nat.zero_le _,fun _=>rfl, .inl rfl⟩
     have hcall:=hi w R Sl.nil en.s none 0 vb vcap i vcs ks inf zv hks hL hinf hsz hzv hzs hbpos hdok (by have:((i:Nat):Int)<=(((Sl.nil).n:Nat):Int):=n1;omega) hrn q1 q2 hvcs hvs hvc (fun b hb=>by cases hb) hbytes
     have hv0':v0= .slice none (Sl.nil).n 0:=hv0
     subst hv0'
     refine hcall.mono ?_
     rintro en' w' ⟨v,rfl,hres⟩
     refine⟨v,rfl, .sl st.ents.length,addEnt st en.elem (Sl.app (Sl.app (Sl.part Sl.nil 0 i) en.s) (Sl.part Sl.nil i (Sl.nil).n)) true, ?_⟩
     rcases hres with⟨b,cs,cs',hab,_⟩|⟨cap',cs',rfl,hbel,hcs,hc1,hc2,hsize,hcell⟩
     ·cases hab
     ·obtain⟨ow',hO2⟩:=h.newOwn (e:=en.elem) hm (s:=Sl.app (Sl.app (Sl.part Sl.nil 0 i) en.s) (Sl.part Sl.nil i (Sl.nil).n)) (cap:=cap') (cs:=cs') (w1:=w') hbel hcs (by rw[hlen];omega) hc2
       (fun ks2 hks2=>by rw[hks]at hks2;cases hks2;exact⟨hsize,fun j q kk hj hq=>hcell j q kk (by rw[<-hlen];exact hj) hq⟩)
      refine⟨bl,_,R,ow',hO2,rfl, ?_,hdd⟩
      show _=_
      rw[hlen]
      exact h.ent_last
    subst hv0
    have hcall:=hi w R d en.s a0 cap vb vcap i vcs ks inf zv hks hL hinf hsz hzv hzs hbpos hdok (by have:((i:Nat):Int)<=((d.n:Nat):Int):=n1;omega) hrn q1 q2 hvcs hvs hvc (fun b hb hp hx=>by
     have:=hobk b hb hp
     rw[hx,hob]at this
     cases this
     exact hne rfl) hbytes
    refine hcall.mono ?_
    rintro en' w' ⟨v,rfl,hres⟩
    obtain⟨hK,hKt,hKl,hKd⟩:=h.kill id'
    obtain⟨en1,hen1,hdead⟩:=hKd en0 hen0
    refine⟨v,rfl, .sl (killEnt st id').ents.length,addEnt (killEnt st id') en.elem (Sl.app (Sl.app (Sl.part d 0 i) en.s) (Sl.part d i d.n)) true, ?_⟩
    rcases hres with⟨b,cs,cs',hab,hcpos,hroom,hcs,rfl,hbel,hsize,hcell⟩|⟨cap',cs',rfl,hbel,hcs,hc1,hc2,hsize,hcell⟩
    ·have hob0:=hobk b hab hcpos
     have hB:HR P w0 R0 bl vs R ow (killEnt st id').boxes (killEnt st id').ents (w.setRow b cs'):=hK.hr.setRowDead hen1 hdead hob0 hcs
     have hRn:∀q,R q->(w.setRow b cs').heap[q]? =w.heap[q]? :=fun q hq=>setRow_other w b q cs' (fun e=>by rw[e]at hq;rw[h.ro b hq]at hob0;cases hob0)
     have hG:=hB.grow hbel
     have hsl:=setRow_heap w b cs cs' _ _ hcs
     have hbs:b<(w.setRow b cs').heap.size:=by rw[setRow_size];exact(h.olt b _ hob0).2
     obtain⟨ow',hP,hmk⟩:=hG.pushOwn (e:=en.elem) hm (s:=Sl.app (Sl.app (Sl.part d 0 i) en.s) (Sl.part d i d.n)) (v:= .slice a0 (d.n+en.s.n) cap) (a:=a0) (cap:=cap) (by rw[hlen]) (by rw[hlen];omega) hdok.2.1 hdok.2.2.1
      (.inr ⟨b,cs',hab,(h.olt b _ hob0).1,(fun hr=>by rw[h.ro b hr]at hob0;cases hob0),(fun q hq=>by rw[hob0]at hq;cases hq),(fun _ _ hq=>by rw[hob0]at hq;cases hq),(fun q en2 hq hq2=>by
       rw[hob0]at hq;cases hq
       rw[hen1]at hq2;cases hq2
       exact .inl hdead),(hbel.block b hbs).trans hsl,fun ks2 hks2=>by
        rw[hks]at hks2;cases hks2
        refine⟨hsize,fun j q kk hj hq=> ?_⟩
        obtain⟨u,hu,hru⟩:=hcell j q kk (by rw[<-hlen];exact hj) hq
        exact⟨u,hu,(hru.mono (fun _ x=>x) hRn).mono (fun _ x=>x) fun q hq=>hbel.block q (by rw[setRow_size];exact h.rlt q hq)⟩⟩)
     refine⟨bl,_,R,ow',⟨hP,fun _ _ x=>x,fun _ _=>get_append_lt,hK.ext.trans (Ext.of_append (nb:=[]) (ne:=[⟨en.elem,Sl.app (Sl.app (Sl.part d 0 i) en.s) (Sl.part d i d.n),true,true,0⟩]) (by simp[addEnt]) rfl),hmk⟩,hKt, ?_,hdd⟩
     show _=_
     rw[hKl]
     exact h.ent_last
    ·obtain⟨ow',hO2⟩:=hK.hr.newOwn (e:=en.elem) hm (s:=Sl.app (Sl.app (Sl.part d 0 i) en.s) (Sl.part d i d.n)) (cap:=cap') (cs:=cs') (w1:=w') hbel hcs (by rw[hlen];omega) hc2
      (fun ks2 hks2=>by rw[hks]at hks2;cases hks2;exact⟨hsize,fun j q kk hj hq=>hcell j q kk (by rw[<-hlen];exact hj) hq⟩)
     refine⟨bl,_,R,ow',hK.trans hO2,hKt, ?_,hdd⟩
     show _=_
     rw[hKl,hlen]
     exact h.ent_last
   ·exact hd.elim
  ·exact hd.elim
 ·exact hd.elim
theorem inl_sound{cfg:Cfg}(hsig:SigOk T cfg){w0:World}:∀n,MkOk cfg w0 (inlF (A:=sem T) cfg n)
 |0=>⟨fun ys B hys path g args vals st k bl vs R ow w h hs hd=>hd.elim,fun path i args st k hd=>hd⟩
 | n + 1=>by
  refine⟨fun ys B hys path g args vals st k bl vs R ow w h hs hd=> ?_,fun path i args st k hd=> ?_⟩
  ·cases g with
   | yld i=>
    unfold inlF at hd
    split at hd
    ·rename_i y hy
     obtain⟨rfl,hh⟩:=hys.find hy
     exact hh args vals st k bl vs R ow w h hs hd
    ·exact hd.elim
   | fn f=>
    unfold inlF at hd
    split at hd
    ·rename_i e hp
     exact callIns_sound (hsig.2 f _ hp) h hs hd
    ·rename_i sg hp
     exact callK_sound (hsig.2 f _ hp) h hs hd
    ·rename_i sg hp
     exact callOver_sound (hsig.2 f _ hp) h hs hd
    split at hd
    ·rename_i fn hfn
     split at hd
     ·rename_i body hbody
      show CallOk cfg.P w0 B bl vs ow st w f vals k
      unfold CallOk
      refine callsIn_wide.1 (callsIn_of_wp_marks (n:=0) hfn hbody trivial (wpIn_mono (exec_sound (st:={st with tmps:=frameOf fn args,wr:=cfg.wr f}) (rnd:=none) hsig (inl_sound hsig n) body hys (fun _=>rfl) h.up (frame_tr hs) hd) ?_))
      have fin:∀{D:List Nat}{a0 a':Act}{w':World},Keeps D a0 a'/\Reach cfg.P w0 B bl vs (upMarks ow) {st with tmps:=frameOf fn args,wr:=cfg.wr f} (fun st'=>(retK cfg.P f fn st.tmps k {st' with wr:=st.wr}).den) a' w'->
        LeavesInM Fence.wide 0 cfg.P fn a'.tmps (fun e w'=>∃v,e= .returned v/\∃sv st' bl' vs' R' ow',Stp cfg.P w0 B bl vs ow st bl' vs' R' ow' st' w'/\st'.tmps=st.tmps/\SVR bl' vs' sv v/\(k sv st').den) a'.defers .returning w':=by
       rintro D a0 a' w' ⟨_,bl',vs',R',ow',st',hS,ht',hd'⟩
       obtain⟨⟨Ds,d1,d2,d3⟩,ht2⟩:=ht'
       rw[d1]
       refine leaves_marks Ds hS.hr d2 d3 fun ow2 w2 g1 g2 g3=> ?_
       unfold retK at hd'
       split at hd'
       ·rename_i l hl
        have ht'':TD bl' vs' (fun _=>none) st'.tmps {a' with defers:=[]}:=⟨⟨[],rfl,by simp,List.nodup_nil⟩,ht2⟩
        obtain⟨rvals,k1,k2⟩:=results_run (st:={st' with wr:=st.wr}) (a:={a' with defers:=[]}) g1.look ht'' hl
        exact⟨_,k2,_,rfl,one l,{st' with tmps:=st.tmps,wr:=st.wr},bl',vs',R',downMarks ow2,⟨g1.down,hS.bl,hS.vs,⟨hS.ext.box,hS.ext.ent⟩,fun b hb=>down_up (ow:=ow) (fun b hb=>g3 b (hS.mrk b hb)) b hb⟩,rfl,one_sound k1,hd'⟩
       ·exact hd'.elim
      intro e a' w' hq
      cases e with
      |normal=>exact fin hq
      |ret=>exact fin hq
      |exit id=>
       obtain⟨_,_,_,_,_,_,_,_,hd'⟩:=hq
       exact hd'.elim
      |goto l=>exact hq.elim
      |panic ch=>exact hq.elim
      |outgrown=>exact hq.elim
     ·exact hd.elim
    ·exact hd.elim
  ·unfold inlF at hd
   simp at hd
   exact hd
section
variable{P:Program}{w0 w:World}{R0:Bs T}{R:Nat->Prop}{bl:List Nat}{vs:List Value}{ow:Nat->Option Owner}{st:St (sem T)}{a:Act}
theorem resCells_sound(hr:HR P w0 R0 bl vs R ow st.boxes st.ents w){owr:Nat->Option Owner}:∀{l:List (K×Bool)}{svs:List (SV (sem T))}{vals:List Value}{cs:List CS}{n:Nat},resCells st l svs=some cs->SVRs bl vs svs vals->
  (∀q id,(posCells l svs)[q]? =some (some id)->∀b,ow b=some (.ent id)->owr b=some (.ent (n+q)))->ResCells P w R owr n l vals (cs.map Cl.toD)
 |[],[],vals,cs,n,h,hs,_=>by
  simp only[resCells,Option.some.injEq]at h
  subst h
  cases vals with
  |nil=>trivial
  |cons=>exact hs.elim
 | p ::l,sv::svs,vals,cs,n,h,hs,ho=>by
  cases vals with
  |nil=>exact hs.elim
  | cons v vals=>
   have hrest:∀q id,(posCells l svs)[q]? =some (some id)->∀b,ow b=some (.ent id)->owr b=some (.ent (n+1+q)):=fun q id hq b hb=>by
    have:=ho (q+1) id (by simpa[posCells]using hq) b hb
    rw[show n+1+q=n+(q+1) by omega]
    exact this
   simp only[resCells]at h
   split at h
   ·rename_i c cs' hc hcs
    cases h
    refine⟨?_,resCells_sound hr hcs hs.2 hrest⟩
    unfold resCell at hc
    split at hc
    ·rename_i e id
     split at hc
     ·rename_i en hen
      split at hc
      ·rename_i hcc
       simp only[Bool.and_eq_true,beq_iff_eq]at hcc
       obtain⟨⟨hlive,hown⟩,rfl⟩:=hcc
       cases hc
       obtain⟨u,hu,_,hO⟩:=hr.ent id en hen hlive
       have hsv:vs[id]? =some v:=hs.1
       rw[hu]at hsv;cases hsv
       refine⟨en.s,rfl,(hO hown).relabel (fun b hb _=> ?_)⟩
       have:=ho 0 id (by simp[posCells,idOfC]) b hb
       simpa using this
      ·cases hc
     ·cases hc
    ·rename_i e id
     split at hc
     ·rename_i en hen
      split at hc
      ·rename_i hcc
       simp only[Bool.and_eq_true,beq_iff_eq,Bool.not_eq_true']at hcc
       obtain⟨⟨hlive,hown⟩,rfl⟩:=hcc
       cases hc
       obtain⟨u,hu,hO,_⟩:=hr.ent id en hen hlive
       have hsv:vs[id]? =some v:=hs.1
       rw[hu]at hsv;cases hsv
       exact hO hown
      ·cases hc
     ·cases hc
    ·rename_i e own
     split at hc
     ·cases hc
     rename_i hm
     have hm:isM e=true->isD e=true:=by simpa using hm
     cases hc
     have hv:v= .slice none 0 0:=hs.1
     subst hv
     cases own with
     | true=>
      cases hM:isM e with
      |true=>exact⟨Sl.nil,rfl,own_deep (hm hM) ⟨unD e,none,0,rfl,rfl,Nat.zero_le _,Nat.zero_le _,fun _=>rfl, .inl rfl⟩⟩
      |false=>
       have hm:=hM
       exact⟨Sl.nil,rfl,fun _=>⟨none,0,rfl,Nat.le_refl _,Nat.zero_le _,fun _=>rfl, .inl rfl⟩,fun hh=>absurd (hm.symm.trans hh) Bool.false_ne_true⟩
     |false=>exact⟨e,none,0,rfl,rfl,Nat.le_refl _,Nat.zero_le _,fun _=>rfl,fun ks i j kk _ hi=>absurd hi (Nat.not_lt_zero _)⟩
    ·cases hc
    ·rename_i k own hne1 hne2 hne3 hne4
     have hrd:=toClR_sound hr hc hs.1
     cases k with
     |sl e=>exfalso;first|exact hne1 _ rfl|exact hne2 _ rfl|exact hne3 _ rfl|exact hne4 _ rfl|exact hne3 _ _ rfl|exact hne4 _ _ rfl
     |_=>exact hrd
   ·cases h
 |[],_::_,_,_,_,h,_,_=>by simp[resCells]at h
 |_::_,[],_,_,_,h,_,_=>by simp[resCells]at h
end
end Go.Sx
namespace Go.Sx
open Go.RowKit (Below)
variable{T:FuncId->Pred}
section
variable{P:Program}{w0 w:World}{R0:Bs T}{R:Nat->Prop}{bl:List Nat}{vs:List Value}{ow:Nat->Option Owner}{st:St (sem T)}{a:Act}
theorem posCells_len:∀{l:List (K×Bool)}{svs:List (SV (sem T))}{cs:List CS},resCells st l svs=some cs->(posCells l svs).length=l.length
 |[],[],_,_=>rfl
 | p::l,v::svs,cs,h=>by
  simp only[resCells]at h
  split at h
  ·rename_i c cs' _ hcs
   simp[posCells,posCells_len hcs]
  ·cases h
 |[],_::_,_,h=>by simp[resCells]at h
 |_::_,[],_,h=>by simp[resCells]at h
theorem resVs_sound(hr:HR P w0 R0 bl vs R ow st.boxes st.ents w){owr:Nat->Option Owner}:∀{shs:List VSh}{svs:List (SV (sem T))}{vals:List Value}{cs:List CS}{n:Nat},resVs st shs svs=some cs->SVRs bl vs svs vals->
  (∀q id,(posVs shs svs)[q]? =some (some id)->∀b,ow b=some (.ent id)->owr b=some (.ent (n+q)))->ResVs P w R owr n shs vals (cs.map Cl.toD)
 |[],[],vals,cs,n,h,hs,_=>by
  simp only[resVs,Option.some.injEq]at h
  subst h
  cases vals with
  |nil=>rfl
  |cons=>exact hs.elim
 | sh ::shs,sv::svs,vals,cs,n,h,hs,ho=>by
  cases vals with
  |nil=>exact hs.elim
  | cons v vals=>
   simp only[resVs]at h
   split at h
   ·rename_i c cs' hc hcs
    cases h
    have main:∃l ws us,resCells st l ws=some c/\SVRs bl vs ws us/\posVs (sh::shs) (sv::svs)=posCells l ws++posVs shs svs/\sh.width=l.length/\(ResCells P w R owr n l us (c.map Cl.toD)->ResV P w R owr n sh v (c.map Cl.toD)):=by
     cases sh with
     |cell k own=>
      simp only[resV,Option.map_eq_some_iff]at hc
      obtain⟨c0,hc0,rfl⟩:=hc
      exact⟨[(k,own)],[sv],[v],by simp[resCells,hc0],⟨hs.1,trivial⟩,rfl,rfl,fun h=>h⟩
     | agg l=>
      cases sv with
      |agg ws=>
       simp only[resV]at hc
       obtain⟨us,rfl,hus⟩:=hs.1
       exact⟨l,ws,us.toList,hc,hus,rfl,rfl,fun h=>⟨us,rfl,h⟩⟩
      |_=>simp[resV]at hc
    obtain⟨l,ws,us,g1,g2,g3,g4,g5⟩:=main
    have hlen:=posCells_len g1
    rw[List.map_append]
    refine⟨_,_,rfl,g5 (resCells_sound hr g1 g2 fun q id hq b hb=> ?_),resVs_sound hr hcs hs.2 fun q id hq b hb=> ?_⟩
    ·exact ho q id (by rw[g3];exact get_append_lt hq) b hb
    ·have:=ho (l.length+q) id (by rw[g3,List.getElem?_append_right (by omega),hlen];simpa using hq) b hb
     rw[g4,Nat.add_assoc]
     exact this
   ·cases h
 |[],_::_,_,_,_,h,_,_=>by simp[resVs]at h
 |_::_,[],_,_,_,h,_,_=>by simp[resVs]at h
theorem start_hr(hg:GlobOk P w)(hR:∀b,R b->b<w.heap.size):HR (T:=T) P w ⟨R,fun _=>none⟩ [] [] R (fun _=>none) [] [] w where
 below:=Below.refl _ _
 rlt:=hR
 r0:=fun _ h=>h
 rsub:=fun _ h=> .inl h
 ro:=fun _ _=>rfl
 olt:=fun _ _ h=>by cases h
 nb:=rfl
 nv:=rfl
 glb:=hg
 vsl:=fun _ _ h=>by simp at h
 box:=fun _ _ h=>by simp at h
 ent:=fun _ _ h=>by simp at h
 mrk:=fun _ h=>by cases h
 lp:=fun _ _ h=>by cases h
open Classical in
theorem res_ok(hr:HR P w0 R0 bl vs R ow st.boxes st.ents w){shs:List VSh}{svs:List (SV (sem T))}{vals:List Value}{cs:List CS}(h:resVs st shs svs=some cs)(hs:SVRs bl vs svs vals)(hn:nodupB (ownVs shs svs)=true):
  ResOk P w0 R0.R w shs (oneV vals) (cs.map Cl.toD):=by
 let owr:Nat->Option Owner:=fun b=>if hh:∃q:Nat,∃id,(posVs shs svs)[q]? =some (some id)/\ow b=some (.ent id)then some (.ent (Classical.choose hh))else none
 refine⟨vals,R,owr,rfl,hr.r0,fun b hb=>(hr.rsub b hb).imp id (fun h=>⟨h,hr.rlt b hb⟩),fun b hb=> ?_,fun b o ho=> ?_,resVs_sound hr h hs fun q id hq b hb=> ?_⟩
 ·simp only[owr]
  rw[dif_neg]
  rintro⟨q,id,_,h2⟩
  rw[hr.ro b hb]at h2;cases h2
 ·simp only[owr]at ho
  split at ho
  ·rename_i hh
   obtain⟨q,id,_,h2⟩:=hh
   exact hr.olt b _ h2
  ·cases ho
 ·have hh:∃q:Nat,∃id,(posVs shs svs)[q]? =some (some id)/\ow b=some (.ent id):=⟨q,id,hq,hb⟩
  simp only[owr,dif_pos hh,Nat.zero_add]
  obtain⟨id',k1,k2⟩:=Classical.choose_spec hh
  rw[hb]at k2
  cases k2
  rw[idx_unique (l:=posVs shs svs) (nodupB_spec hn) k1 hq]
end
def ReadsV(P:Program)(w:World)(R:Nat->Prop)(a:Act):List (Nat×K)->List D->Prop
 |[],[]=>True
 |p::r,d::ds=>(∃v,a.tmps[p.1]? =some v/\Rd P w R d p.2 v)/\ReadsV P w R a r ds
 |_,_=>False
def PieceOk(T:FuncId->Pred)(P:Program)(c:Code)(q:LP):Prop:=
 ∀ {w:World}{R:Nat->Prop}{ow:Nat->Option Owner}{i:Nat}{a:Act}{v:Value}{s:Sl}{rds:List D}{Q:Exit->Act->World->Prop},
  GlobOk P w->(∀b,R b->b<w.heap.size)->(∀b,R b->ow b=none)->(∀b o,ow b=some o->b<w.heap.size)->
  a.tmps.size=q.nt->a.tmps[q.arg]? =some v->noMap P (unM q.ae)=true->Own P w R ow i q.ae s v->ReadsV P w R a q.reads rds->(T q.pid).pre (.sl s.n s.f::rds)->
  (∀a' w',a'.defers=a.defers->Keeps (dsts c) a a'->BelowX (fun b=>ow b=some (.ent i)) w w'->
   (∀e,q.out=some e->∃v' s',a'.tmps[q.arg]? =some v'/\Dp P w' (fun b=>ow b=some (.ent i)\/w.heap.size<=b) (.sl (Sl.n s') s'.f) (.sl e) v'/\(T q.pid).post (.sl s.n s.f::rds) [.sl s'.n s'.f])->Q .normal a' w')->
  c.wp P Q a w
section
variable{T:FuncId->Pred}{P:Program}{w0 w:World}{R0:Bs T}{R:Nat->Prop}{bl:List Nat}{vs:List Value}{ow:Nat->Option Owner}{st:St (sem T)}
theorem SVRs.of:∀{s:List (SV (sem T))}{v:List Value},s.length=v.length->(∀(i:Nat)(x:SV (sem T))(y:Value),s[i]? =some x->v[i]? =some y->SVR bl vs x y)->SVRs bl vs s v
 |[],[],_,_=>trivial
 |x::s,y::v,hl,h=>⟨h 0 x y rfl rfl,SVRs.of (by simpa using hl) fun i a b ha hb=>h (i+1) a b (by simpa using ha) (by simpa using hb)⟩
 |[],_::_,hl,_=>by cases hl
 |_::_,[],hl,_=>by cases hl
theorem SVRs.len:∀{s:List (SV (sem T))}{v:List Value},SVRs bl vs s v->s.length=v.length
 |[],[],_=>rfl
 |_::_,_::_,h=>by simp[SVRs.len h.2]
 |[],_::_,h=>h.elim
 |_::_,[],h=>h.elim
theorem piece_tmps{c:Code}{q:LP}{a a':Act}{bl:List Nat}{vs vs':List Value}(h:SVRs bl vs st.tmps a.tmps.toList)(hk:Keeps (dsts c) a a')(hv:∀(i:Nat)(v:Value),vs[i]? =some v->vs'[i]? =some v){x:SV (sem T)}(hx:∀v,a'.tmps[q.arg]? =some v->SVR bl vs' x v):
  SVRs bl vs' ((junkSlots st.tmps ((dsts c).map fun t=>(t,HK.junk))).set q.arg x) a'.tmps.toList:=by
 have hl:=h.len
 refine SVRs.of (by rw[List.length_set,junkSlots_len];simp[hl,hk.1]) fun i y v hy hv'=> ?_
 have hv':a'.tmps[i]? =some v:=by simpa using hv'
 by_cases e:q.arg=i
 ·subst e
  rw[List.getElem?_set_self']at hy
  obtain⟨_,_,rfl⟩:=Option.map_eq_some_iff.1 hy
  exact hx v hv'
 ·rw[List.getElem?_set_ne e]at hy
  rcases junkSlots_get _ _ _ _ hy with rfl|⟨hn,hy⟩
  ·trivial
  ·have hn:i∉dsts c:=fun hm=>hn (by simpa using hm)
   rw[hk.2 i hn]at hv'
   obtain⟨u,hu,hs⟩:=h.get hy
   have hu:a.tmps[i]? =some u:=by simpa using hu
   rw[hv']at hu
   cases hu
   exact hs.mono (fun _ _ x=>x) hv
theorem readsCl_sound{a:Act}(h:HR P w0 R0 bl vs R ow st.boxes st.ents w)(ht:SVRs bl vs st.tmps a.tmps.toList):∀{l:List (Nat×K)}{cs:List CS},readsCl P st l=some cs->ReadsV P w R a l (cs.map Cl.toD)
 |[],cs,hc=>by
  simp only[readsCl,Option.some.injEq]at hc
  subst hc
  trivial
 | (t,e)::l,cs,hc=>by
  simp only[readsCl]at hc
  split at hc
  ·rename_i s hs
   split at hc
   ·rename_i c cs' h1 h2
    cases hc
    obtain⟨v,hv,hsv⟩:=ht.get hs
    exact⟨⟨v,by simpa using hv,toClR_sound h h1 hsv⟩,readsCl_sound h ht h2⟩
   ·cases hc
  ·cases hc
open Classical in
theorem lpStep_sound{cfg:Cfg}{q:LP}{c:Code}(hp:PieceOk T cfg.P c q){n:Nat}{a:Act}{kN kR:St (sem T)->Tree (sem T)}{kE:Nat->St (sem T)->Tree (sem T)}(h:HR cfg.P w0 R0 bl vs R ow st.boxes st.ents w)(ht:TD bl vs ow st.tmps a)(hd:(lpStep cfg q c st kN).den):
  c.wpIn (FZ none) n cfg.P (Sat cfg.P w0 R0 bl vs ow st (dsts c) a kN kE kR) a w:=by
 unfold lpStep at hd
 split at hd
 ·rename_i id hid
  split at hd
  ·rename_i en cs hen hcs
   split at hd
   ·rename_i hcc
    simp only[Bool.and_eq_true,beq_iff_eq]at hcc
    obtain⟨hlive,hown,hel,hnm,hnt,hout0⟩:=hcc
    obtain⟨v,hv,_,hO⟩:=h.ent id en hen hlive
    have hO:=hO hown
    rw[hel]at hO
    obtain⟨u,hu,hsu⟩:=ht.2.get hid
    have hsu:vs[id]? =some u:=hsu
    rw[hv]at hsu
    cases hsu
    have hu:a.tmps[q.arg]? =some v:=by simpa using hu
    obtain⟨hpre,hd⟩:=hd
    refine wpIn_wide.2 (hp h.look.glb h.rlt h.ro (fun b o ho=>(h.olt b o ho).2) (by rw[<-hnt,ht.2.len,Array.length_toList]) hu (by rw[<-hel];exact hnm) hO (readsCl_sound h ht.2 hcs) hpre fun a' w' hdf hk hb hout=>⟨hk, ?_⟩)
    obtain⟨hK,_,hKl,hKd⟩:=h.kill id
    obtain⟨en',hen',hdead⟩:=hKd en hen
    have hr:=hK.hr.over (ids:=[id]) (fun b hz=>⟨id,by simp,hz⟩) (fun i e hi hl hm=>by
     have:i=id:=by simpa using hm
     subst this
     rw[hen']at hi
     cases hi
     rw[hdead]at hl
     cases hl) hb
    cases ho:q.out with
    |none=>
     rw[ho]at hd
     refine⟨bl,vs,R,ow,lpKill st c q id,⟨hr,fun _ _ x=>x,fun _ _ x=>x,⟨hK.ext.box,hK.ext.ent⟩,fun _ x=>x⟩,⟨?_,piece_tmps ht.2 hk (fun _ _ x=>x) fun _ _=>trivial⟩,hd⟩
     obtain⟨Ds,d1,d2⟩:=ht.1
     exact⟨Ds,hdf.trans d1,d2⟩
    | some e=>
     rw[ho]at hd
     rw[ho]at hout0
     have hme:isM e=false:=by simpa using hout0
     obtain⟨v',s',hv',hdp,hpost⟩:=hout e ho
     have hr2:=hr.disown id (fun e he=>by rw[hen']at he;cases he;exact hdead)
     obtain⟨hP,hmk⟩:=hr2.pushOwnZ (e:=deepT e) (s:=s') (v:=v') (Z:=fun b=>(ow b=some (.ent id)\/w.heap.size<=b)/\b<w'.heap.size) (fun b hz=>by
      obtain⟨hz|hz,hlt⟩:=hz
      ·refine⟨(h.olt b _ hz).1,hlt,fun hR=> ?_,if_pos hz⟩
       rw[h.ro b hR]at hz;cases hz
      ·have hno:ow b=none:=by
        cases hob:ow b with
        |none=>rfl
        |some o=>have:=(h.olt b o hob).2;omega
       refine⟨Nat.le_trans h.below.size hz,hlt,fun hR=> ?_, ?_⟩
       ·have:=h.rlt b hR;omega
       ·show(if ow b=some (.ent id)then none else ow b)=none
        rw[hno];rfl) (own_deep (isD_deepT hme) (by
         rw[unD_deepT hme]
         exact Dp.mono (fun b hz hlt=>if_pos ⟨hz,hlt⟩) (fun _ _=>rfl) hdp))
     have hmk2:∀{l:Nat}{mo:Obj} b,ow b=some (.mark l mo)->_:=fun{l mo} b hb'=>hmk (l:=l) (mo:=mo) b (by
      show(if ow b=some (.ent id)then none else ow b)=some (.mark l mo)
      rw[if_neg (fun hh=>by rw[hb']at hh;cases hh)];exact hb')
     refine⟨bl,vs++[v'],R,_,lpSt st c q id e s',⟨hP,fun _ _ x=>x,fun _ _=>get_append_lt,hK.ext.trans (Ext.of_append (nb:=[]) (ne:=[⟨deepT e,s',true,true,0⟩]) (by simp[lpSt,addEnt]) (by simp[lpSt,addEnt])),hmk2⟩,⟨?_,piece_tmps ht.2 hk (fun _ _=>get_append_lt) fun v2 hv2=> ?_⟩, ?_⟩
     ·obtain⟨Ds,d1,d2,d3⟩:=ht.1
      exact⟨Ds,hdf.trans d1,fun d hd'=>hmk2 d (d2 d hd'),d3⟩
     ·rw[hv']at hv2
      cases hv2
      show(vs++[v'])[(killEnt st id).ents.length]? =some v'
      rw[<-hr.nv,List.getElem?_append_right (Nat.le_refl _)];simp
     ·exact hd s' hpost
   ·exact hd.elim
  ·exact hd.elim
 ·exact hd.elim
end
def PiecesOk(T:FuncId->Pred)(cfg:Cfg):Prop:=∀f fn body i c q,cfg.P.funcs[f]? =some fn->fn.body=some body->leafAt body i=some c->cfg.lp f i=some q->PieceOk T cfg.P c q
theorem leafAt_lt:∀{c:Code}{j:Nat}{x:Code},leafAt c j=some x->j<leaves c:=by
 intro c
 induction c with
 |seq a b iha ihb=>
  intro j x h
  simp only[leafAt]at h
  show j<leaves a+leaves b
  split at h
  ·omega
  ·have:=ihb h;omega
 | _=>
  intro j x h
  simp only[leafAt]at h
  split at h
  ·rename_i hj
   have:j=0:=by simpa using hj
   subst this
   exact Nat.zero_lt_one
  ·cases h
theorem execL_sound{w0:World}{cfg:Cfg}{mk:Ys (sem T)->Inl (sem T)}(hsig:SigOk T cfg)(hmk:MkOk cfg w0 mk){f:FuncId}{B:Bs T}(hB:YsOk cfg w0 [] B):∀(c:Code)(i:Nat),(∀j x q,leafAt c j=some x->cfg.lp f (i+j)=some q->PieceOk T cfg.P x q)->
  ∀{n:Nat}{bl:List Nat}{vs:List Value}{R:Nat->Prop}{ow:Nat->Option Owner}{st:St (sem T)}{a:Act}{w:World}{kN kR:St (sem T)->Tree (sem T)}{kE:Nat->St (sem T)->Tree (sem T)},
  HR cfg.P w0 B bl vs R ow st.boxes st.ents w->TD bl vs ow st.tmps a->(execL cfg mk f c i st kN kE kR).den->c.wpIn (FZ none) n cfg.P (Sat cfg.P w0 B bl vs ow st (dsts c) a kN kE kR) a w:=by
 intro c
 have leaf:∀(x:Code)(i:Nat),leafAt x 0=some x->(∀st kN kE kR,execL cfg mk f x i st kN kE kR=match cfg.lp f i with|some q=>lpStep cfg q x st kN|none=>exec cfg mk [] false f x st kN kE kR)->(∀j x' q,leafAt x j=some x'->cfg.lp f (i+j)=some q->PieceOk T cfg.P x' q)->
   ∀{n:Nat}{bl:List Nat}{vs:List Value}{R:Nat->Prop}{ow:Nat->Option Owner}{st:St (sem T)}{a:Act}{w:World}{kN kR:St (sem T)->Tree (sem T)}{kE:Nat->St (sem T)->Tree (sem T)},
   HR cfg.P w0 B bl vs R ow st.boxes st.ents w->TD bl vs ow st.tmps a->(execL cfg mk f x i st kN kE kR).den->x.wpIn (FZ none) n cfg.P (Sat cfg.P w0 B bl vs ow st (dsts x) a kN kE kR) a w:=by
  intro x i hx heq hp n bl vs R ow st a w kN kR kE h ht hd
  rw[heq]at hd
  cases hq:cfg.lp f i with
  |none=>
   rw[hq]at hd
   exact exec_sound hsig hmk x hB (fun _=>rfl) h ht hd
  |some q=>
   rw[hq]at hd
   exact lpStep_sound (hp 0 x q hx hq) h ht hd
 induction c with
 | seq x y ihx ihy=>
  intro i hp n bl vs R ow st a w kN kR kE h ht hd
  unfold execL at hd
  split at hd
  ·refine wpIn_seq (wpIn_mono (ihx i (fun j c q hc hq=>hp j c q (by
    have hlt:j<leaves x:=leafAt_lt hc
    simp only[leafAt,if_pos hlt];exact hc) hq) h ht hd) ?_)
   intro e a' w' hq
   have mx:∀t,t∈dsts x->t∈dsts (.seq x y):=fun t ht=>by simp[dsts,ht]
   cases e with
   | normal=>
    obtain⟨hk1,bl1,vs1,R1,ow1,st1,hS1,ht1,hd1⟩:=hq
    refine wpIn_mono (ihy (i+leaves x) (fun j c q hc hq=>hp (leaves x+j) c q (by
     simp only[leafAt,if_neg (show¬leaves x+j<leaves x by omega),Nat.add_sub_cancel_left];exact hc) (by rw[<-Nat.add_assoc];exact hq)) hS1.hr ht1 hd1) ?_
    intro e a2 w2 hq2
    exact hq2.of hS1 (fun t ht=>by simp[dsts,ht]) (hk1.mono mx)
   |exit id=>exact hq.of (Stp.refl h) mx (Keeps.refl _ _)
   |ret=>exact hq.of (Stp.refl h) mx (Keeps.refl _ _)
   |goto l=>exact hq.elim
   |panic ch=>exact hq.elim
   |outgrown=>exact hq.elim
  ·exact exec_sound hsig hmk _ hB (fun _=>rfl) h ht hd
 |_=>exact fun i hp=>leaf _ i rfl (fun _ _ _ _=>by unfold execL;rfl) hp
theorem vc_sound{cfg:Cfg}(hsig:SigOk T cfg)(hpc:PiecesOk T cfg){depth:Nat}{f:FuncId}{sg:Sig}(hd:(vc (A:=sem T) cfg depth f sg).den):ConOK cfg.P f sg (T f)/\sg.args.all roSh=true:=by
 unfold vc at hd
 split at hd
 ·rename_i fn hfn
  split at hd
  ·rename_i body hbody
   split at hd
   ·exact hd.elim
   ·rename_i hro
    refine⟨?_,by simpa using hro⟩
    intro w R vals ds hglob hR hargs hpre
    obtain⟨svs,cs,st,vs',ow',hS,htm,hsv,hcs,hd⟩:=freshVs_sound (st:=⟨[],[],[],cfg.wr f,cfg.rg f⟩) (start_hr (T:=T) (P:=cfg.P) hglob hR) hargs (fun _ _ _ h=>by cases h) hd
    have hd:=hd (by show(T f).pre (cs.map Cl.toD);rw[hcs];exact hpre)
    refine callsIn_wide.1 (callsIn_of_wp_marks (n:=0) hfn hbody trivial (wpIn_mono (execL_sound (st:={st with tmps:=frameOf fn svs}) hsig (inl_sound hsig depth) trivial body 0 (fun j x q hx hq=>hpc f fn body j x q hfn hbody hx (by rw[<-Nat.zero_add j];exact hq)) hS.hr (frame_tr hsv) hd) ?_))
    have fin:∀{D:List Nat}{a0 a':Act}{w':World},Keeps D a0 a'/\Reach cfg.P w ⟨R,fun _=>none⟩ [] vs' ow' {st with tmps:=frameOf fn svs} (fun st'=>(endK cfg.P f fn sg cs st').den) a' w'->
      LeavesInM Fence.wide 0 cfg.P fn a'.tmps (fun e w'=>∃v rs,e= .returned v/\(T f).post ds rs/\Below w.heap.size w w'/\ResOk cfg.P w R w' sg.res v rs) a'.defers .returning w':=by
     rintro D a0 a' w' ⟨_,bl2,vs2,R2,ow2,st',hS2,ht',hd'⟩
     obtain⟨⟨Ds,d1,d2,d3⟩,ht2⟩:=ht'
     rw[d1]
     refine leaves_marks Ds hS2.hr d2 d3 fun ow3 w3 g1 g2 g3=> ?_
     unfold endK at hd'
     split at hd'
     ·rename_i l hl
      have ht'':TD bl2 vs2 (fun _=>none) st'.tmps {a' with defers:=[]}:=⟨⟨[],rfl,by simp,List.nodup_nil⟩,ht2⟩
      obtain⟨rvals,k1,k2⟩:=results_run (st:=st') (a:={a' with defers:=[]}) g1.look ht'' hl
      obtain⟨st2,hS4,_,_,hd'⟩:=deepAll_sound _ g1 hd'
      split at hd'
      ·rename_i rs hrs
       split at hd'
       ·rename_i hn
        obtain⟨R3,ow4,hS3,_,_,_⟩:=hS4.hr.freezes ((List.range st2.ents.length).filter fun i=> !(ownVs sg.res l).contains i)
        have hpost:(T f).post (cs.map Cl.toD) (rs.map Cl.toD):=hd'.1
        rw[hcs]at hpost
        exact⟨_,k2,_,_,rfl,hpost,hS3.hr.below,res_ok (st:=freezeRes sg st2 l) hS3.hr hrs k1 hn⟩
       ·exact hd'.elim
      ·exact hd'.elim
     ·exact hd'.elim
    intro e a' w' hq
    cases e with
    |normal=>exact fin hq
    |ret=>exact fin hq
    |exit id=>
     obtain⟨_,_,_,_,_,_,_,_,hd'⟩:=hq
     exact hd'.elim
    |goto l=>exact hq.elim
    |panic ch=>exact hq.elim
    |outgrown=>exact hq.elim
  ·exact hd.elim
 ·exact hd.elim
end Go.Sx
namespace Go.Sx
def cfgOf(P:Program)(sgs:FuncId->Option Sig)(hav:Nat->Hav)(wr:FuncId->Bool)(cut:Nat->Bool)(rg:FuncId->Bool)(l:List Nat)(prim:FuncId->Option Prim:=fun _=>none):Cfg:=
 {P:=P,sig:=fun g=>if l.contains g then sgs g else none,hav:=hav,wr:=wr,cut:=cut,rg:=rg,prim:=primAt prim l}
theorem primAt_inv{pm:FuncId->Option Prim}{l:List Nat}{g:FuncId}{q:Prim}(h:primAt pm l g=some q):pm g=some q/\((∃e,q= .ins e)\/l.contains g=true):=by
 unfold primAt at h
 split at h
 ·rename_i e he
  cases h
  exact⟨he, .inl ⟨e,rfl⟩⟩
 ·rename_i hn
  split at h
  ·rename_i hc
   exact⟨h, .inr hc⟩
  ·cases h
theorem primAt_mk{pm:FuncId->Option Prim}{l:List Nat}{g:FuncId}{q:Prim}(h:pm g=some q)(hq:(∃e,q= .ins e)\/l.contains g=true):primAt pm l g=some q:=by
 unfold primAt
 rcases hq with⟨e,rfl⟩|hc
 ·rw[h]
 ·rw[h]
  cases q with
  |ins e=>rfl
  |kept sg=>simp only[hc,if_true]
  |over sg=>simp only[hc,if_true]
theorem SigOk.none{T:FuncId->Pred}{P:Program}{sgs:FuncId->Option Sig}{hav:Nat->Hav}{wr:FuncId->Bool}{cut:Nat->Bool}{rg:FuncId->Bool}{pm:FuncId->Option Prim}(hp:∀g q,pm g=some q->∀e,q= .ins e->PrimOk T P g q):SigOk T (cfgOf P sgs hav wr cut rg [] pm):=⟨fun g sg h=>by simp[cfgOf]at h,fun g q h=>by
 obtain⟨h1,h2⟩:=primAt_inv h
 rcases h2 with⟨e,he⟩|h2
 ·exact hp g q h1 e he
 ·cases h2⟩
theorem SigOk.more{T:FuncId->Pred}{P:Program}{sgs:FuncId->Option Sig}{hav:Nat->Hav}{wr:FuncId->Bool}{cut:Nat->Bool}{rg:FuncId->Bool}{pm:FuncId->Option Prim}{l:List Nat}(h:SigOk T (cfgOf P sgs hav wr cut rg l pm)){f:FuncId}{sg:Sig}(hs:sgs f=some sg)
  (hc:ConOK P f sg (T f)/\sg.args.all roSh=true) (hq:pm f=Option.none):SigOk T (cfgOf P sgs hav wr cut rg (f::l) pm):=⟨fun g sg' hg=>by
 simp only[cfgOf,List.contains_cons]at hg
 by_cases e:g=f
 ·subst e
  simp only[beq_self_eq_true,Bool.true_or,if_true]at hg
  rw[hs]at hg
  cases hg
  exact hc
 ·refine h.1 g sg' ?_
  simp only[cfgOf]
  have:(g==f)=false:=by simpa using e
  rw[this,Bool.false_or]at hg
  exact hg,fun g q hg=>by
 obtain⟨h1,h2⟩:=primAt_inv hg
 by_cases e:g=f
 ·subst e
  rw[hq]at h1
  cases h1
 ·refine h.2 g q (primAt_mk h1 (h2.imp id fun hc=> ?_))
  have:(g==f)=false:=by simpa using e
  rw[List.contains_cons,this,Bool.false_or]at hc
  exact hc⟩
theorem SigOk.moreP{T:FuncId->Pred}{P:Program}{sgs:FuncId->Option Sig}{hav:Nat->Hav}{wr:FuncId->Bool}{cut:Nat->Bool}{rg:FuncId->Bool}{pm:FuncId->Option Prim}{l:List Nat}(h:SigOk T (cfgOf P sgs hav wr cut rg l pm)){f:FuncId}{q:Prim}(hs:sgs f=Option.none)(hq:pm f=some q)
  (hc:PrimOk T P f q):SigOk T (cfgOf P sgs hav wr cut rg (f::l) pm):=⟨fun g sg' hg=>by
 simp only[cfgOf,List.contains_cons]at hg
 by_cases e:g=f
 ·subst e
  rw[hs]at hg
  simp at hg
 ·refine h.1 g sg' ?_
  simp only[cfgOf]
  have:(g==f)=false:=by simpa using e
  rw[this,Bool.false_or]at hg
  exact hg,fun g q' hg=>by
 obtain⟨h1,h2⟩:=primAt_inv hg
 by_cases e:g=f
 ·subst e
  rw[hq]at h1
  cases h1
  exact hc
 ·refine h.2 g q' (primAt_mk h1 (h2.imp id fun hc=> ?_))
  have:(g==f)=false:=by simpa using e
  rw[List.contains_cons,this,Bool.false_or]at hc
  exact hc⟩
theorem noPieces(T:FuncId->Pred)(P:Program)(sgs:FuncId->Option Sig)(hav:Nat->Hav)(wr:FuncId->Bool)(cut:Nat->Bool)(rg:FuncId->Bool){l:List Nat}(pm:FuncId->Option Prim):PiecesOk T (cfgOf P sgs hav wr cut rg l pm):=fun _ _ _ _ _ _ _ _ _ h=>by cases h
theorem SigOk.lps{T:FuncId->Pred}{cfg:Cfg}(h:SigOk T cfg)(lp:FuncId->Nat->Option LP):SigOk T {cfg with lp:=lp}:=h
theorem SigOk.next{T:FuncId->Pred}{P:Program}{sgs:FuncId->Option Sig}{hav:Nat->Hav}{wr:FuncId->Bool}{cut:Nat->Bool}{rg:FuncId->Bool}{pm:FuncId->Option Prim}{l:List Nat}(h:SigOk T (cfgOf P sgs hav wr cut rg l pm)){f:FuncId}{sg:Sig}{depth:Nat}{V:Prop}(hs:sgs f=some sg)
  (j:(vc (A:=sem T) (cfgOf P sgs hav wr cut rg l pm) depth f sg).den=V) (hv:V) (hq:pm f=Option.none):SigOk T (cfgOf P sgs hav wr cut rg (f::l) pm):=h.more hs (vc_sound h (noPieces _ _ _ _ _ _ _ _) (by rw[j];exact hv)) hq
theorem SigOk.law{T:FuncId->Pred}{P:Program}{sgs:FuncId->Option Sig}{hav:Nat->Hav}{wr:FuncId->Bool}{cut:Nat->Bool}{rg:FuncId->Bool}{pm:FuncId->Option Prim}{l:List Nat}(h:SigOk T (cfgOf P sgs hav wr cut rg l pm)){f:FuncId}{sg:Sig}{depth:Nat}{V:Prop}
  (j:(vc (A:=sem T) (cfgOf P sgs hav wr cut rg l pm) depth f sg).den=V) (hv:V):ConOK P f sg (T f):=(vc_sound h (noPieces _ _ _ _ _ _ _ _) (by rw[j];exact hv)).1
theorem SigOk.con{T:FuncId->Pred}{P:Program}{sgs:FuncId->Option Sig}{hav:Nat->Hav}{wr:FuncId->Bool}{cut:Nat->Bool}{rg:FuncId->Bool}{pm:FuncId->Option Prim}{l:List Nat}(h:SigOk T (cfgOf P sgs hav wr cut rg l pm)){f:FuncId}(hf:l.contains f=true){sg:Sig}(hs:sgs f=some sg):ConOK P f sg (T f):=
 (h.1 f sg (by simp only[cfgOf,hf,if_true,hs])).1
end Go.Sx
namespace Go.Sx
def okFields(ok:TypeId->Bool)(P:Program):List Field->Nat->Bool
 |[],_=>true
 |f::fs,off=>match kinds P f.type with
  |some ks=>f.offset==off&&ok f.type&&okFields ok P fs (off+ks.length)
  |none=>false
def okTy(P:Program):Nat->TypeId->Bool
 |0,_=>false
 |n+1,t=>match P.underlying t with
  |some (.int _)=>true
  |some .bool=>true
  |some .string=>true
  |some (.slice e)=>decide (0<P.bytesOf e)&&((kinds P e).isSome&&okTy P n e)
  |some (.struct fs)=>okFields (okTy P n) P fs.toList 0
  |some (.array _ e)=>(kinds P e).isSome&&okTy P n e
  |_=>false
def okD(P:Program):D->K->Prop
 | .str s,_=>s.size<=maxLen
 | .sl n f, .sl e=>n*P.bytesOf e<=reachBytes/\∀ks i j kk,kinds P e=some ks->i<n->ks[j]? =some kk->okD P (f i j) kk
 |_,_=>True
def OkL(P:Program):List K->List D->Prop
 |[],[]=>True
 |k::ks,d::ds=>okD P d k/\OkL P ks ds
 |_,_=>False
def shK:VSh->List K
 | .cell k _=>[k]
 | .agg l=>l.map (·.1)
def strOk:D->Prop
 | .str s=>s.size<=maxLen
 |_=>True
theorem okY{d:D}(h:strOk d):ylen d.toY<=9223372036854775807:=by
 cases d with
 |str s=>
  have h:s.size<=maxLen:=h
  unfold maxLen at h
  show((s.size:Nat):Int)<=_
  omega
 |int n=>exact of_decide_eq_true (Eq.refl true)
 |bool b=>exact of_decide_eq_true (Eq.refl true)
 |sl n f=>exact of_decide_eq_true (Eq.refl true)
def RdL(P:Program)(w:World)(R:Nat->Prop):List K->List Value->List D->Prop
 |[],[],[]=>True
 |k::ks,v::vs,d::ds=>(Rd P w R d k v/\okD P d k)/\RdL P w R ks vs ds
 |_,_,_=>False
variable{P:Program}{w:World}{R:Nat->Prop}
theorem RdL.length:∀{ks:List K}{vs:List Value}{ds:List D},RdL P w R ks vs ds->vs.length=ks.length/\ds.length=ks.length
 |[],[],[],_=>⟨rfl,rfl⟩
 |_::_,_::_,_::_,h=>by have:=h.2.length;simp[this]
 |[],_::_,_,h=>by cases h
 |[],[],_::_,h=>by cases h
 |_::_,[],_,h=>by cases h
 |_::_,_::_,[],h=>by cases h
theorem RdL.append:∀{ks:List K}{vs:List Value}{ds:List D}{ks':List K}{vs':List Value}{ds':List D},RdL P w R ks vs ds->RdL P w R ks' vs' ds'->RdL P w R (ks++ks') (vs++vs') (ds++ds')
 |[],[],[],_,_,_,_,h=>h
 |_::_,_::_,_::_,_,_,_,h,h'=>⟨h.1,h.2.append h'⟩
 |[],_::_,_,_,_,_,h,_=>by cases h
 |[],[],_::_,_,_,_,h,_=>by cases h
 |_::_,[],_,_,_,_,h,_=>by cases h
 |_::_,_::_,[],_,_,_,h,_=>by cases h
theorem RdL.get:∀{ks:List K}{vs:List Value}{ds:List D},RdL P w R ks vs ds->∀{j:Nat}{k:K},ks[j]? =some k->∃v,vs[j]? =some v/\Rd P w R (ds.getD j (.int 0)) k v
 |[],[],[],_,j,k,h=>by simp at h
 |_::_,v::_,_::_,h,0,k,hk=>by
  simp only[List.getElem?_cons_zero,Option.some.injEq]at hk
  subst hk
  exact⟨v,rfl,h.1.1⟩
 |_::_,_::_,_::_,h,j+1,k,hk=>by
  obtain⟨v,h1,h2⟩:=h.2.get (j:=j) (by simpa using hk)
  exact⟨v,by simpa using h1,by simpa using h2⟩
 |[],_::_,_,h,_,_,_=>by cases h
 |[],[],_::_,h,_,_,_=>by cases h
 |_::_,[],_,h,_,_,_=>by cases h
 |_::_,_::_,[],h,_,_,_=>by cases h
theorem RdL.oks:∀{ks:List K}{vs:List Value}{ds:List D},RdL P w R ks vs ds->OkL P ks ds
 |[],[],[],_=>trivial
 |_::_,_::_,_::_,h=>⟨h.1.2,h.2.oks⟩
 |[],_::_,_,h=>by cases h
 |[],[],_::_,h=>by cases h
 |_::_,[],_,h=>by cases h
 |_::_,_::_,[],h=>by cases h
theorem OkL.get:∀{ks:List K}{ds:List D},OkL P ks ds->∀{j:Nat}{k:K},ks[j]? =some k->okD P (ds.getD j (.int 0)) k
 |[],[],_,j,k,h=>by simp at h
 |_::_,_::_,h,0,k,hk=>by
  simp only[List.getElem?_cons_zero,Option.some.injEq]at hk
  subst hk
  exact h.1
 |_::_,_::_,h,j+1,k,hk=>h.2.get (j:=j) (by simpa using hk)
 |[],_::_,h,_,_,_=>by cases h
 |_::_,[],h,_,_,_=>by cases h
theorem OkL.append:∀{ks:List K}{ds:List D}{ks':List K}{ds':List D},OkL P ks ds->OkL P ks' ds'->OkL P (ks++ks') (ds++ds')
 |[],[],_,_,_,h=>h
 |_::_,_::_,_,_,h,h'=>⟨h.1,h.2.append h'⟩
 |[],_::_,_,_,h,_=>by cases h
 |_::_,[],_,_,h,_=>by cases h
theorem okD.str{d:D}{k:K}(h:okD P d k):strOk d:=by
 cases d with
 |str s=>exact h
 |int n=>trivial
 |bool b=>trivial
 |sl n f=>trivial
theorem OkL.str:∀{ks:List K}{ds:List D},OkL P ks ds->∀d∈ds,strOk d
 |[],[],_,d,h=>by cases h
 |_::_,_::_,h,d,hd=>by
  rcases List.mem_cons.1 hd with rfl|hd
  ·exact h.1.str
  ·exact h.2.str d hd
 |[],_::_,h,_,_=>by cases h
 |_::_,[],h,_,_=>by cases h
def catK(f:Nat->TypeId->Option (List K))(n:Nat)(fs:List Field):Option (List K):=fs.foldr (fun x acc=>match f n x.type,acc with|some a,some b=>some (a++b)|_,_=>none) (some [])
theorem kindsF_mono:∀(n:Nat){t:TypeId}{l:List K},kindsF P n t=some l->kindsF P (n+1) t=some l
 |0,t,l,h=>by simp[kindsF]at h
 | n +1,t,l,h=>by
  unfold kindsF at h⊢
  split at h
  ·exact h
  ·exact h
  ·exact h
  ·exact h
  ·rename_i fs _
   generalize fs.toList=fs at h
   induction fs generalizing l with
   |nil=>exact h
   | cons x fs ih=>
    simp only[List.foldr_cons]at h⊢
    split at h
    ·rename_i a b ha hb
     rw[kindsF_mono n ha,ih _ hb]
     exact h
    ·cases h
  ·rename_i m e _
   obtain⟨l',h1,h2⟩:=Option.map_eq_some_iff.1 h
   rw[kindsF_mono n h1,Option.map_some,h2]
  ·cases h
theorem kinds_cells{t:TypeId}{ks:List K}(h:kinds P t=some ks):kindsF P 8 t=some ks/\P.cellsOf t=ks.length:=by
 unfold kinds at h
 split at h
 ·rename_i l i h1 h2
  split at h
  ·rename_i he
   cases h
   refine⟨h1, ?_⟩
   simp only[Program.cellsOf,h2,Option.map_some,Option.getD_some]
   simpa using he
  ·cases h
 ·cases h
theorem mapM_get{α β:Type}{f:α->Option β}:∀{l:List α}{r:List β},l.mapM f=some r->∀{i:Nat}{x:α},l[i]? =some x->∃y,r[i]? =some y/\f x=some y
 |[],r,h,i,x,hx=>by simp at hx
 | y::l,r,h,i,x,hx=>by
  simp only[List.mapM_cons,Option.bind_eq_bind,Option.bind_eq_some_iff,Option.pure_def,Option.some.injEq]at h
  obtain⟨z,h1,r',h2,rfl⟩:=h
  cases i with
  |zero=>
   simp only[List.getElem?_cons_zero,Option.some.injEq]at hx
   subst hx
   exact⟨z,rfl,h1⟩
  |succ i=>exact mapM_get h2 (by simpa using hx)
theorem heap_of_cell{a:Addr}{v:Value}(h:w.cell? a=some v):a.block<w.heap.size/\a.spot=none:=by
 unfold World.cell? at h
 split at h
 ·rename_i c _ _ hb
  refine⟨(Array.getElem?_eq_some_iff.1 hb).1, ?_⟩
  split at h
  ·cases h
  ·rename_i hs
   cases hsp:a.spot with
   |none=>rfl
   |some x=>rw[hsp]at hs;simp at hs
 ·cases h
theorem mapM_size{α β:Type}{f:α->Option β}:∀{l:List α}{r:List β},l.mapM f=some r->r.length=l.length
 |[],r,h=>by simp at h;subst h;rfl
 |y::l,r,h=>by
  simp only[List.mapM_cons,Option.bind_eq_bind,Option.bind_eq_some_iff,Option.pure_def,Option.some.injEq]at h
  obtain⟨z,h1,r',h2,rfl⟩:=h
  simp[mapM_size h2]
theorem cells_get{base:Nat}{a:Addr}{n:Nat}{cs:List Value}(h:w.cells? base a n=some cs){j:Nat}{v:Value}(hj:cs[j]? =some v):w.cell? (a.add j)=some v:=by
 unfold World.cells? at h
 split at h
 ·have hlen:cs.length=n:=by have:=mapM_size h;simpa using this
  have hjn:j<n:=by rw[<-hlen];exact(List.getElem?_eq_some_iff.1 hj).1
  obtain⟨y,h1,h2⟩:=mapM_get h (i:=j) (x:=j) (by rw[List.getElem?_range hjn])
  rw[hj]at h1
  cases h1
  exact h2
 ·cases h
theorem add_eq{a:Addr}(h:a.spot=none)(n:Nat):a.add n=⟨a.block,a.off+n,none⟩:=by
 unfold Addr.add
 split
 ·rename_i e;subst e;cases a;simp_all
 ·rfl
section
variable{H:Type}{enc:TypeId×Value->H}{spare:Nat->Bool}{held:Bool}
theorem trod_fields{fuel:Nat}{ok:TypeId->Bool}(ih:∀{t:TypeId}{cs:List Value}{d:DataW H}{ps:List MemPlace}{ks:List K},DataW.trod enc P w 0 spare held fuel t cs=some (d,ps)->ok t=true->kinds P t=some ks->(d.weights P t).all (· <=reachBytes)=true->∃ds,RdL P w (fun b=>b<w.heap.size) ks cs ds){cs:List Value}{m:Nat}:
  ∀{fs:List Field}{off:Nat}{ks:List K}{xs:List (DataW H×List MemPlace)},okFields ok P fs off=true->catK (kindsF P) m fs=some ks->m<8->cs.length=off+ks.length->
   fs.mapM (fun f=>DataW.trod enc P w 0 spare held fuel f.type ((cs.drop f.offset).take (P.cellsOf f.type)))=some xs->(DataW.weightsEach P (fs.map (·.type)) (xs.map (·.1))).all (· <=reachBytes)=true->∃ds,RdL P w (fun b=>b<w.heap.size) ks (cs.drop off) ds
 |[],off,ks,xs,_,hk,_,hl,_,_=>by
  simp only[catK,List.foldr_nil,Option.some.injEq]at hk
  subst hk
  refine⟨[], ?_⟩
  rw[List.drop_of_length_le (by simpa using Nat.le_of_eq hl)]
  trivial
 | f ::fs,off,ks,xs,hok,hk,hm,hl,hx,hwt=>by
  simp only[okFields]at hok
  split at hok
  ·rename_i kf hkf
   simp only[Bool.and_eq_true,beq_iff_eq]at hok
   obtain⟨⟨hoff,hokf⟩,hokr⟩:=hok
   simp only[catK,List.foldr_cons]at hk
   split at hk
   ·rename_i a b ha hb
    cases hk
    obtain⟨h8,hsz⟩:=kinds_cells hkf
    have haf:a=kf:=by
     have up:∀(d n:Nat),kindsF P n f.type=some a->kindsF P (n+d) f.type=some a:=by
      intro d
      induction d with
      |zero=>intro n h;exact h
      |succ d ihd=>intro n h;exact kindsF_mono _ (ihd n h)
     have:=up (8-m) m ha
     rw[show m+(8-m)=8 by omega,h8]at this
     exact(Option.some.inj this).symm
    subst haf
    simp only[List.mapM_cons,Option.bind_eq_bind,Option.bind_eq_some_iff,Option.pure_def,Option.some.injEq]at hx
    obtain⟨x,hx1,xs',hx2,rfl⟩:=hx
    simp only[List.map_cons,DataW.weightsEach,List.all_append,Bool.and_eq_true]at hwt
    obtain⟨d1,h1⟩:=ih (d:=x.1) (ps:=x.2) hx1 hokf hkf hwt.1
    obtain⟨d2,h2⟩:=trod_fields ih (fs:=fs) (off:=off+a.length) hokr hb hm (by simp at hl;omega) hx2 hwt.2
    rw[hoff,hsz]at h1
    refine⟨d1++d2, ?_⟩
    have:cs.drop off=(cs.drop off).take a.length++cs.drop (off+a.length):=by
     rw[<-List.drop_drop];exact(List.take_append_drop _ _).symm
    rw[this]
    exact h1.append h2
   ·cases hk
  ·cases hok
theorem weightsAll_get{e:TypeId}:∀{l:List (DataW H)}{i:Nat}{d:DataW H},(DataW.weightsAll P e l).all (· <=reachBytes)=true->l[i]? =some d->(d.weights P e).all (· <=reachBytes)=true
 |[],i,d,_,h=>by simp at h
 |x::l,0,d,h,hd=>by
  simp only[List.getElem?_cons_zero,Option.some.injEq]at hd
  subst hd
  simp only[DataW.weightsAll,List.all_append,Bool.and_eq_true]at h
  exact h.1
 |x::l,i+1,d,h,hd=>by
  simp only[DataW.weightsAll,List.all_append,Bool.and_eq_true]at h
  exact weightsAll_get h.2 (by simpa using hd)
theorem trod_read:∀(fuel n:Nat){t:TypeId}{cs:List Value}{d:DataW H}{ps:List MemPlace}{ks:List K},DataW.trod enc P w 0 spare held fuel t cs=some (d,ps)->okTy P n t=true->kinds P t=some ks->(d.weights P t).all (· <=reachBytes)=true->
  ∃ds,RdL P w (fun b=>b<w.heap.size) ks cs ds
 |0,n,t,cs,d,ps,ks,h,_,_,_=>by simp[DataW.trod]at h
 |fuel+1,0,t,cs,d,ps,ks,_,ho,_,_=>by simp[okTy]at ho
 | fuel+1,n+1,t,cs,d,ps,ks,h,ho,hk,hwt=>by
  obtain⟨h8,hsz⟩:=kinds_cells hk
  unfold okTy at ho
  unfold kindsF at h8
  unfold DataW.trod at h
  split at ho
  ·rename_i k hu
   simp only[hu]at h h8
   cases h8
   match cs,h with
   | [.int k' x],h=>
    simp only at h
    split at h
    ·rename_i hc
     obtain⟨rfl,hwf⟩:=hc
     exact⟨[.int x],⟨⟨⟨k',rfl,rfl,by simpa[Lit.wf]using hwf⟩,trivial⟩,trivial⟩⟩
    ·cases h
  ·rename_i hu
   simp only[hu]at h h8
   cases h8
   match cs,h with
   |[.bool b],h=>exact⟨[.bool b],⟨⟨⟨rfl,rfl⟩,trivial⟩,trivial⟩⟩
  ·rename_i hu
   simp only[hu]at h h8
   cases h8
   match cs,h with
   | [.string b],h=>
    have hb:b.size<=maxLen:=by
     simp only at h
     split at h
     ·assumption
     ·cases h
    exact⟨[.str b],⟨⟨⟨rfl,rfl⟩,hb⟩,trivial⟩⟩
  ·rename_i e hu
   simp only[hu]at h h8
   cases h8
   simp only[Bool.and_eq_true,decide_eq_true_eq]at ho
   obtain⟨hbe,hks,hoe⟩:=ho
   obtain⟨ke,hke⟩:=Option.isSome_iff_exists.1 hks
   have hce:=(kinds_cells hke).2
   match cs,h with
   |[.slice none 0 0],_=>exact⟨[.sl 0 fun _ _=> .int 0],⟨⟨⟨e,none,0,rfl,rfl,Nat.zero_le _,Nat.zero_le _,fun _=>rfl,fun ks i j kk _ hi=>absurd hi (Nat.not_lt_zero _)⟩,⟨by rw[Nat.zero_mul];exact Nat.zero_le _,fun ks i j kk _ hi=>absurd hi (Nat.not_lt_zero _)⟩⟩,trivial⟩⟩
   | [.slice (some a) len cap],h=>
    simp only at h
    split at h
    ·rename_i hc
     obtain⟨elems,he,hrest⟩:=Option.bind_eq_some_iff.1 h
     obtain⟨rest,_,hdd⟩:=Option.map_eq_some_iff.1 hrest
     have hd:d= .slice (elems.map (·.1)) (rest.map (·.1)):=(congrArg Prod.fst hdd).symm
     subst hd
     simp only[DataW.weights,hu,List.all_cons,List.all_append,Bool.and_eq_true,decide_eq_true_eq,List.length_map]at hwt
     have hlen47:len<=140737488355328:=by
      have h1:elems.length=len:=by have:=mapM_size he;simpa using this
      have h2:=hwt.1
      unfold reachBytes at h2
      have h3:elems.length+rest.length<=(elems.length+rest.length)*P.bytesOf e:=Nat.le_mul_of_pos_right _ hbe
      omega
     have hall:∀i,i<len->∃dsi csi,w.cells? 0 (a.add (i*P.cellsOf e)) (P.cellsOf e)=some csi/\RdL P w (fun b=>b<w.heap.size) ke csi dsi:=fun i hi=>by
      obtain⟨y,hy0,hy⟩:=mapM_get he (i:=i) (x:=i) (by rw[List.getElem?_range hi])
      obtain⟨csi,h1,h2⟩:=Option.bind_eq_some_iff.1 hy
      obtain⟨dsi,h3⟩:=trod_read fuel n (d:=y.1) (ps:=y.2) h2 hoe hke (weightsAll_get hwt.2.1 (i:=i) (by rw[List.getElem?_map,hy0];rfl))
      exact⟨dsi,csi,h1,h3⟩
     have hspot:0<len->0<ke.length->a.spot=none:=fun h0 h1=>by
      obtain⟨dsi,csi,g1,g2⟩:=hall 0 h0
      have hl:=g2.length.1
      obtain⟨v,hv⟩:∃v,csi[0]? =some v:=⟨csi[0]'(by omega),List.getElem?_eq_getElem _⟩
      have:=cells_get g1 hv
      rw[Nat.zero_mul]at this
      have h0:(a.add 0).add 0=a:=by simp[Addr.add]
      rw[h0]at this
      exact(heap_of_cell this).2
     let F:Nat->List D:=fun i=>if hi:i<len then Classical.choose (hall i hi)else []
     refine⟨[.sl len fun i j=>(F i).getD j (.int 0)],⟨⟨⟨e,some a,cap,rfl,rfl,by omega,hc.2.2,(fun hn=>by cases hn),fun ks i j kk hks' hi hj=> ?_⟩,⟨?_,fun ks i j kk hks' hi hj=> ?_⟩⟩,trivial⟩⟩
     rotate_left
     ·have h1:elems.length=len:=by have:=mapM_size he;simpa using this
      exact Nat.le_trans (Nat.mul_le_mul_right _ (by omega)) hwt.1
     ·rw[hke]at hks'
      cases hks'
      obtain⟨csi,g1,g2⟩:=Classical.choose_spec (hall i hi)
      show okD P ((F i).getD j (.int 0)) kk
      simp only[F,dif_pos hi]
      exact g2.oks.get hj
     rw[hke]at hks'
     cases hks'
     obtain⟨csi,g1,g2⟩:=Classical.choose_spec (hall i hi)
     obtain⟨v,hv,hrd⟩:=g2.get hj
     have hcell:=cells_get g1 hv
     have hjl:j<ke.length:=(List.getElem?_eq_some_iff.1 hj).1
     have hs:=hspot (by omega) (by omega)
     rw[hce,add_eq hs,add_eq rfl]at hcell
     refine⟨a,v,rfl,hs,(heap_of_cell hcell).1, ?_, ?_⟩
     ·rw[Nat.add_assoc]at hcell
      exact hcell
     ·show Rd P w _ ((F i).getD j (.int 0)) kk v
      simp only[F,dif_pos hi]
      exact hrd
    ·cases h
  ·rename_i fs hu
   simp only[hu]at h h8
   split at h
   ·rename_i hlen
    obtain⟨xs,hx,hdd⟩:=Option.map_eq_some_iff.1 h
    have hd:d= .agg (xs.map (·.1)):=(congrArg Prod.fst hdd).symm
    subst hd
    simp only[DataW.weights,hu]at hwt
    obtain⟨ds,hd⟩:=trod_fields (ok:=okTy P n) (fun h1 h2 h3 h4=>trod_read fuel n h1 h2 h3 h4) (off:=0) ho h8 (by omega) (by rw[hlen,hsz];omega) hx hwt
    exact⟨ds,by simpa using hd⟩
   ·cases h
  ·rename_i m e hu
   simp only[hu]at h h8
   simp only[Bool.and_eq_true]at ho
   obtain⟨hks,hoe⟩:=ho
   obtain⟨ke,hke⟩:=Option.isSome_iff_exists.1 hks
   have hce:=(kinds_cells hke).2
   obtain⟨l,hl,rfl⟩:=Option.map_eq_some_iff.1 h8
   have hle:l=ke:=by
    have:=kindsF_mono 7 hl
    rw[(kinds_cells hke).1]at this
    exact(Option.some.inj this).symm
   subst hle
   split at h
   ·rename_i hlen
    obtain⟨xs,hx,hdd⟩:=Option.map_eq_some_iff.1 h
    have hd:d= .agg (xs.map (·.1)):=(congrArg Prod.fst hdd).symm
    subst hd
    simp only[DataW.weights,hu]at hwt
    have key:∀q:Nat,q<=m->∃ds,RdL P w (fun b=>b<w.heap.size) (List.replicate q l).flatten (cs.take (q*l.length)) ds:=by
     intro q
     induction q with
     |zero=>intro _;exact⟨[],by simp[RdL]⟩
     | succ q ih=>
      intro hq
      obtain⟨d1,h1⟩:=ih (by omega)
      obtain⟨y,hy0,hy⟩:=mapM_get hx (i:=q) (x:=q) (by rw[List.getElem?_range (by omega)])
      obtain⟨d2,h2⟩:=trod_read fuel n (d:=y.1) (ps:=y.2) hy hoe hke (weightsAll_get hwt (i:=q) (by rw[List.getElem?_map,hy0];rfl))
      rw[hce]at h2
      refine⟨d1++d2, ?_⟩
      have e1:(List.replicate (q+1) l).flatten=(List.replicate q l).flatten++l:=by
       rw[List.replicate_succ',List.flatten_append];simp
      have e2:cs.take ((q+1)*l.length)=cs.take (q*l.length)++(cs.drop (q*l.length)).take l.length:=by
       rw[Nat.succ_mul,List.take_add]
      rw[e1,e2]
      exact h1.append h2
    obtain⟨ds,hd⟩:=key m (Nat.le_refl _)
    refine⟨ds, ?_⟩
    have:cs.take (m*l.length)=cs:=by
     apply List.take_of_length_le
     rw[hlen,hsz]
     simp
    rwa[this]at hd
   ·cases h
  ·cases ho
end
end Go.Sx
namespace Go.Sx
open Go.RowKit (Below)
open Go.ChangeShapes Go.WideShapes Go.ChangeAt Go.RowKit
def shP(P:Program)(t:TypeId):Option VSh:=
 match P.underlying t with
 |some (.struct _)|some (.array _ _)=>(kinds P t).map fun l=> .agg (l.map fun k=>(k,false))
 |_=>match kinds P t with
  |some [k]=>some (.cell k false)
  |_=>none
def shPs(P:Program):List TypeId->Option (List VSh)
 |[]=>some []
 |t::ts=>match shP P t,shPs P ts with
  |some a,some b=>some (a::b)
  |_,_=>none
section
variable{P:Program}{w:World}{R:Nat->Prop}{ow:Nat->Option Owner}
theorem RdL.res:∀{ks:List K}{vs:List Value}{ds:List D}{n:Nat},RdL P w R ks vs ds->ResCells P w R ow n (ks.map fun k=>(k,false)) vs ds
 |[],[],[],_,_=>trivial
 |k::ks,v::vs,d::ds,n,h=>⟨by cases k<;>exact h.1.1,h.2.res⟩
 |[],_::_,_,_,h=>by cases h
 |[],[],_::_,_,h=>by cases h
 |_::_,[],_,_,h=>by cases h
 |_::_,_::_,[],_,h=>by cases h
theorem cells_one{v:Value}(h:∀cs,v≠ .agg cs):v.cells.toList=[v]:=by
 cases v<;>first|rfl|exact absurd rfl (h _)
theorem okWide_agg{base:Nat}{t:TypeId}{v:Value}(h:Value.okWide P w .any base t v)(ht:(∃fs,P.underlying t=some (.struct fs))\/∃n e,P.underlying t=some (.array n e)):∃cs,v= .agg cs:=by
 unfold Value.okWide at h
 rcases ht with⟨fs,ht⟩|⟨n,e,ht⟩
 ·rw[ht]at h
  obtain⟨cs,h1,_⟩:=h
  exact⟨cs,h1⟩
 ·rw[ht]at h
  obtain⟨cs,h1,_⟩:=h
  exact⟨cs,h1⟩
theorem read_arg{H:Type}{enc:TypeId×Value->H}{sp:Nat->Bool}{held:Bool}{t:TypeId}{v:Value}{d:DataW H}{ps:List MemPlace}{base n m:Nat}{sh:VSh}
  (h:DataW.Trod enc P w 0 sp held t v d ps) (hv:Value.okWide P w .any base t v) (ho:okTy P m t=true) (hs:shP P t=some sh) (hwt:(d.weights P t).all (· <=reachBytes)=true):∃ds,ResV P w (fun b=>b<w.heap.size) ow n sh v ds/\ds.length=sh.width/\OkL P (shK sh) ds:=by
 obtain⟨fuel,hf⟩:=h
 unfold shP at hs
 have one:∀{k:K},kinds P t=some [k]->(∀cs,v≠ .agg cs)->∃ds,ResV P w (fun b=>b<w.heap.size) ow n (.cell k false) v ds/\ds.length=1/\OkL P [k] ds:=fun{k} hk hne=>by
  obtain⟨ds,h1⟩:=trod_read fuel m hf ho hk hwt
  rw[cells_one hne]at h1
  exact⟨ds,h1.res,h1.length.2,h1.oks⟩
 split at hs
 ·rename_i fs hu
  obtain⟨l,hk,rfl⟩:=Option.map_eq_some_iff.1 hs
  obtain⟨cs,rfl⟩:=okWide_agg hv (.inl ⟨fs,hu⟩)
  obtain⟨ds,h1⟩:=trod_read fuel m hf ho hk hwt
  exact⟨ds,⟨cs,rfl,h1.res⟩,by simp[VSh.width,h1.length.2],by
   have e:shK (.agg (l.map fun k=>(k,false)))=l:=by simp[shK,Function.comp_def]
   rw[e];exact h1.oks⟩
 ·rename_i k e hu
  obtain⟨l,hk,rfl⟩:=Option.map_eq_some_iff.1 hs
  obtain⟨cs,rfl⟩:=okWide_agg hv (.inr ⟨k,e,hu⟩)
  obtain⟨ds,h1⟩:=trod_read fuel m hf ho hk hwt
  exact⟨ds,⟨cs,rfl,h1.res⟩,by simp[VSh.width,h1.length.2],by
   have e:shK (.agg (l.map fun k=>(k,false)))=l:=by simp[shK,Function.comp_def]
   rw[e];exact h1.oks⟩
 ·rename_i hn1 hn2
  split at hs
  ·rename_i k hk
   cases hs
   refine one hk (fun cs e=> ?_)
   subst e
   obtain⟨h8,_⟩:=kinds_cells hk
   unfold kindsF at h8
   cases hu:P.underlying t with
   |none=>rw[hu]at h8;cases h8
   |some u=>
    rw[hu]at h8
    cases u with
    |struct fs=>exact hn1 fs hu
    |array a b=>exact hn2 a b hu
    |int k=>unfold Value.okWide at hv;rw[hu]at hv;simp[Cell.okWide,Cell.ok,hu]at hv
    |bool=>unfold Value.okWide at hv;rw[hu]at hv;simp[Cell.okWide,Cell.ok,hu]at hv
    |string=>unfold Value.okWide at hv;rw[hu]at hv;simp[Cell.okWide,Cell.ok,hu]at hv
    |slice e=>unfold Value.okWide at hv;rw[hu]at hv;simp[Cell.okWide,Cell.ok,hu]at hv
    |_=>simp at h8
  ·cases hs
theorem read_args{H:Type}{enc:TypeId×Value->H}{sp:Nat->Bool}{held:Bool}{base m:Nat}:∀{ts:List TypeId}{vs:List Value}{ds:List (DataW H)}{ps:List MemPlace}{shs:List VSh}{n:Nat},
  DataW.TrodAll enc P w 0 sp held ts vs ds ps->(∀(j:Nat) t v,ts[j]? =some t->vs[j]? =some v->Value.okWide P w .any base t v)->ts.all (okTy P m)=true->shPs P ts=some shs->(DataW.weightsEach P ts ds).all (· <=reachBytes)=true->
  ∃xs,ResVs P w (fun b=>b<w.heap.size) ow n shs vs xs/\xs.length=(shs.map VSh.width).sum/\OkL P (shs.flatMap shK) xs
 |[],[],[],ps,shs,n,h,_,_,hs,_=>by
  simp only[shPs,Option.some.injEq]at hs
  subst hs
  exact⟨[],rfl,rfl,trivial⟩
 | t::ts,v::vs,d::ds,ps,shs,n,h,hv,ho,hs,hwt=>by
  simp only[DataW.weightsEach,List.all_append,Bool.and_eq_true]at hwt
  obtain⟨p,q,h1,h2,rfl⟩:=h
  simp only[List.all_cons,Bool.and_eq_true]at ho
  simp only[shPs]at hs
  split at hs
  ·rename_i a b ha hb
   cases hs
   obtain⟨x1,g1,l1,k1⟩:=read_arg (ow:=ow) (n:=n) h1 (hv 0 t v rfl rfl) ho.1 ha hwt.1
   obtain⟨x2,g2,l2,k2⟩:=read_args (n:=n+a.width) h2 (fun j t v=>hv (j+1) t v) ho.2 hb hwt.2
   exact⟨x1++x2,⟨x1,x2,rfl,g1,g2⟩,by simp[l1,l2],by simpa using k1.append k2⟩
  ·cases hs
 |[],_::_,_,_,_,_,h,_,_,_,_=>by cases h
 |[],[],_::_,_,_,_,h,_,_,_,_=>by cases h
 |_::_,[],_,_,_,_,h,_,_,_,_=>by cases h
 |_::_,_::_,[],_,_,_,h,_,_,_,_=>by cases h
theorem trodAll_below{H:Type}{enc:TypeId×Value->H}(hl:laidOutB P=true){W W':World}(hb:Below W.heap.size W W'):∀{ts:List TypeId}{vs:List Value}{ds:List (DataW H)}{ps:List MemPlace},
  (∀t∈ts,P.readableRec t=true/\t<P.types.size)->DataW.TrodAll enc P W 0 (fun _=>true) true ts vs ds ps->(∀p∈ps,p.block<W.heap.size)->∀{sp:Nat->Bool},(∀p∈ps,sp p.block=true)->DataW.TrodAll enc P W' 0 sp true ts vs ds ps
 |[],[],[],ps,_,h,_,sp,_=>h
 |t::ts,v::vs,d::ds,ps,ht,h,hp,sp,hsp=>by
  obtain⟨p,q,h1,h2,rfl⟩:=h
  have ht0:=ht t (by simp)
  refine⟨p,q, ?_,trodAll_below hl hb (fun t' ht'=>ht t' (by simp[ht'])) h2 (fun x hx=>hp x (by simp[hx])) (fun x hx=>hsp x (by simp[hx])),rfl⟩
  exact WideElems.Trod_stays hl ht0.1 ht0.2 h1 (fun x hx=>hb.same (hp x (by simp[hx]))) (fun x hx=>hsp x (by simp[hx]))
 |[],_::_,_,_,_,h,_,_,_=>by cases h
 |[],[],_::_,_,_,h,_,_,_=>by cases h
 |_::_,[],_,_,_,h,_,_,_=>by cases h
 |_::_,_::_,[],_,_,h,_,_,_=>by cases h
theorem post_true{H:Type}{enc:TypeId×Value->H}(hl:laidOutB P=true){f:Func}{s:ChangeSpec}{W W':World}{args:Array Value}{ds gs:List (DataW H)}{before:List MemPlace}{tb:TypeId}
  (hW:DataW.Whole enc P f.params.toList s.vars false W args.toList ds gs before) (hv:s.vars=[])
  (hp:∀t∈f.params.toList,P.readableRec t=true/\t<P.types.size) (hrt:f.resultTypes= #[tb]) (htb:P.underlying tb=some .bool) (hs:s.fn H ds={results:=[.lit (.bool true)],args:=ds}) (hb:Below W.heap.size W W'):
  s.post enc P f false true false false W args (.bool true) W':=by
 have hlt:∀p∈before,p.block<W.heap.size:=fun p hp=>hW.lt p hp
 obtain⟨p,q,hA,hV,rfl,hz,hn⟩:=hW
 have hV':=hV
 rw[hv]at hV'
 obtain⟨rfl,rfl⟩:=trodVars_none hV'
 simp only[List.append_nil]at hlt hz hn
 have hs':s.fn H (ds++[])={results:=[.lit (.bool true)],args:=ds}:=by rw[List.append_nil];exact hs
 refine⟨ds,[],p++[],[],p,[],⟨p,[],hA,hV,rfl,by simpa using hz,by simp⟩, ?_, ?_, ?_,hb.frame _,(fun h=>by cases h)⟩
 ·rw[hrt,hs']
  exact trodAll_mk1 ⟨1,by simp[DataW.trod,Value.cells,htb]⟩
 ·rw[hs']
  exact trodAll_below hl hb hp hA hlt (fun x hx=>by simpa using hlt x hx)
 ·rw[hs',hv]
  exact rfl
theorem weightsEach_left{H:Type}:∀{ts us:List TypeId}{ds gs:List (DataW H)},ds.length=ts.length->(DataW.weightsEach P (ts++us) (ds++gs)).all (· <=reachBytes)=true->(DataW.weightsEach P ts ds).all (· <=reachBytes)=true
 |[],_,ds,_,_,_=>by cases ds<;>rfl
 |t::ts,_,[],_,h,_=>by cases h
 |t::ts,us,d::ds,gs,h,hw=>by
  simp only[List.cons_append,DataW.weightsEach,List.all_append,Bool.and_eq_true]at hw⊢
  exact⟨hw.1,weightsEach_left (us:=us) (gs:=gs) (by simpa using h) hw.2⟩
theorem handed_sized{H:Type}{enc:TypeId×Value->H}{C:Checked}{os:Os}{f:FuncId}{fn:Func}{s:ChangeSpec}{conds:List PathCond}{apart fresh handsOn again:Bool}
  (own:ownKnob C.prog.godebug=none) (started:os.Started) (noInit:C.prog.inits.idxOf? f=none) (hfn:C.prog.funcs[f]? =some fn)
  (witness:∃(w:World)(tape:Tape)(i:Input),w.os=os/\(w.forCall tape i).Shaped C.prog/\i.vars=[]/\Input.okWide C.prog (w.forCall tape i) .any w.heap.size f i/\
   s.pre6 enc C.prog fn conds apart (w.forCall tape i).memory i.args/\({}:Assume).holds C.prog (lone (Frame.enter C.prog f i.args .normal) [] (w.forCall tape i)))
  (contract:∀(W:World)(base:Nat)(args:Array Value)(ds gs:List (DataW H))(before:List MemPlace),
   (∀(j:Nat) t v,fn.params[j]? =some t->args[j]? =some v->Value.okWide C.prog W .any base t v)->
   DataW.Whole enc C.prog fn.params.toList s.vars apart W args.toList ds gs before->
   (DataW.weightsEach C.prog (fn.params.toList++s.plain.varTypes C.prog) (ds++gs)).all (· <=reachBytes)=true->
   Calls C.prog f args W fun e W'=>∃v,e= .returned v/\s.post enc C.prog fn apart fresh handsOn again W args v W'):
  ReturnsInHanded {} C os f .any (s.pre6 enc C.prog fn conds apart) (s.post enc C.prog fn apart fresh handsOn again):=by
 refine returnsInHanded_of_calls own started noInit witness ?_
 intro w tape i _ _ _ hok hpre _
 obtain⟨_,_,_,fn',hfn',_,_,_,_,hval⟩:=hok
 have e:fn'=fn:=Option.some.inj (hfn'.symm.trans hfn)
 subst e
 obtain⟨_,_,ds,gs,before,hw,hwt⟩:=hpre
 have hw':=DataW.Whole.of_heap (w':=w.forCall tape i) (by rfl) hw
 refine(contract (w.forCall tape i) w.heap.size i.args ds gs before hval hw' hwt).mono fun e W'⟨v,he,hp⟩=> ?_
 subst he
 exact ChangeSpec.post_blind hp
theorem globOk_none{P:Program}{W:World}(h:(gTab.all fun r=>(P.globalNamed r.1).isNone)=true):GlobOk P W:=by
 have h1:∀r∈gTab,P.globalNamed r.1=none:=fun r hr=>by simpa using List.all_eq_true.1 h r hr
 intro g r hg
 unfold globOf at hg
 obtain⟨q,hq,hh⟩:=List.exists_of_findSome?_eq_some hg
 rw[h1 q hq]at hh
 cases hh
theorem con_true{H:Type}{enc:TypeId×Value->H}(hl:laidOutB P=true){f:FuncId}{fn:Func}{s:ChangeSpec}{sg:Sig}{pr:Pred}{tb:TypeId}{m:Nat}(hc:ConOK P f sg pr)
  (hpre:∀ds,ds.length=(sg.args.map VSh.width).sum->OkL P (sg.args.flatMap shK) ds->pr.pre ds) (hpost:∀ds b,ds.length=(sg.args.map VSh.width).sum->pr.post ds [.bool b]->b=true)
  (hv:s.vars=[]) (hp:(fn.params.toList.all fun t=>P.readableRec t&&decide (t<P.types.size))=true) (hok:fn.params.toList.all (okTy P m)=true) (hsh:shPs P fn.params.toList=some sg.args) (hres:sg.res=[.cell .bool false])
  (hrt:fn.resultTypes= #[tb]) (htb:P.underlying tb=some .bool) (hs:∀ds:List (DataW H),ds.length=fn.params.toList.length->s.fn H ds={results:=[.lit (.bool true)],args:=ds})
  {W:World} (hglob:GlobOk P W) {base:Nat} {args:Array Value} {ds gs:List (DataW H)} {before:List MemPlace}
  (hval:∀(j:Nat) t v,fn.params[j]? =some t->args[j]? =some v->Value.okWide P W .any base t v)
  (hW:DataW.Whole enc P fn.params.toList s.vars false W args.toList ds gs before) (hwt:(DataW.weightsEach P (fn.params.toList++s.plain.varTypes P) (ds++gs)).all (· <=reachBytes)=true):
  Calls P f args W fun e W'=>∃v,e= .returned v/\s.post enc P fn false true false false W args v W':=by
 have hW':=hW
 obtain⟨p,q,hA,hV,rfl,hz,hn⟩:=hW'
 have hlen:ds.length=fn.params.toList.length:=by
  have:∀{ts:List TypeId}{vs:List Value}{ds:List (DataW H)}{ps:List MemPlace},DataW.TrodAll enc P W 0 (fun _=>true) true ts vs ds ps->ds.length=ts.length:=by
   intro ts
   induction ts with
   |nil=>intro vs ds ps h;obtain⟨_,rfl,_⟩:=trodAll_nil h;rfl
   |cons t ts ih=>
    intro vs ds ps h
    cases vs<;>cases ds<;>first|exact h.elim|skip
    obtain⟨_,_,_,h2,_⟩:=h
    simp[ih h2]
  exact this hA
 obtain⟨xs,g1,g2,g3⟩:=read_args (ow:=fun _=>none) (n:=0) hA (fun j t v h1 h2=>hval j t v (by simpa using h1) (by simpa using h2)) hok hsh (weightsEach_left hlen hwt)
 have hcall:=hc W (fun b=>b<W.heap.size) args.toList xs hglob (fun _ h=>h) g1 (hpre xs g2 g3)
 simp only[Array.toArray_toList]at hcall
 refine hcall.mono fun e W'⟨v,rs,he,hpo,hb,hro⟩=>⟨v,he, ?_⟩
 obtain⟨vals,R',ow',rfl,_,_,_,_,hrv⟩:=hro
 rw[hres]at hrv
 have :∃b:Bool,vals=[.bool b]/\rs=[.bool b]:=by
  cases vals with
  |nil=>exact hrv.elim
  | cons v vs=>
   obtain⟨d1,d2,rfl,h1,h2⟩:=hrv
   cases vs with
   |cons=>exact h2.elim
   | nil=>
    have h2:d2=[]:=h2
    subst h2
    cases d1 with
    |nil=>exact h1.elim
    | cons d d1=>
     cases d1 with
     |cons=>exact h1.2.elim
     |nil=>
      have hr:Rd P W' R' d .bool v:=h1.1
      cases d with
      |bool b=>exact⟨b,by rw[hr.2],rfl⟩
      |int n=>obtain⟨_,hk,_⟩:=hr;cases hk
      |str n=>exact absurd hr.1 (by simp)
      |sl n g=>obtain⟨_,_,_,hk,_⟩:=hr;cases hk
 obtain⟨b,rfl,rfl⟩:=this
 obtain rfl:=hpost xs b g2 hpo
 exact post_true hl hW hv (fun t ht=>by simpa using List.all_eq_true.1 hp t ht) hrt htb (hs ds hlen) hb
end
end Go.Sx
