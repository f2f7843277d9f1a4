/-
 The operations of the symbolic executor that make or write memory are sound. Conditions: the symbolic state relates to the model's.
 The remaining operations that make or write memory, and all of them together. Conditions: the symbolic state relates to the model's.
 A slice's literal, a part of a slice, append; and all operations that make or write memory together. Conditions: the symbolic state relates to the model's.
-/
import Derived.Test.YtbgbcaamipknmaaGreatEngB
import Derived.Lib.SliceRun
import Derived.Lib.AppendZeros
import Derived.WalkSpells
set_option linter.unusedVariables false
set_option linter.unusedSimpArgs false
namespace Go.Sx
open Go.RowKit (Below)
variable{T:FuncId->Pred}{P:Program}{w0 w:World}{R0:Bs T}{R:Nat->Prop}{bl:List Nat}{vs:List Value}{ow:Nat->Option Owner}
variable{st:St (sem T)}{a:Act}{o:Oper}{k:SV (sem T)->St (sem T)->Tree (sem T)}
def EffOk(P:Program)(w0:World)(R0:Bs T)(bl:List Nat)(vs:List Value)(ow:Nat->Option Owner)(st:St (sem T))(a:Act)(w:World)(o:Oper)(k:SV (sem T)->St (sem T)->Tree (sem T)):Prop:=
 ∃v w',((execOp a.eval o).run P w= .ok (.value v) w'\/((execOp a.eval o).run P w= .ok .skip w'/\v=undef))/\
  ∃sv st' bl' vs' R' ow',Stp P w0 R0 bl vs ow st bl' vs' R' ow' st' w'/\st'.tmps=st.tmps/\SVR bl' vs' sv v/\(k sv st').den
theorem needs_den{ps:List Prop}{t:Tree (sem T)}:(needs (A:=sem T) ps t).den↔(∀p∈ps,p)/\t.den:=by
 induction ps with
 |nil=>simp[needs]
 |cons p ps ih=>
  simp only[needs,List.foldr_cons,Tree.den]at ih⊢
  rw[ih]
  simp only[List.mem_cons,forall_eq_or_imp]
  exact and_assoc.symm
theorem givens_den{ps:List Prop}{t:Tree (sem T)}:(givens (A:=sem T) ps t).den↔((∀p∈ps,p)->t.den):=by
 induction ps with
 |nil=>simp[givens]
 |cons p ps ih=>
  simp only[givens,List.foldr_cons,Tree.den]at ih⊢
  rw[ih]
  simp only[List.mem_cons,forall_eq_or_imp]
  exact and_imp.symm
theorem HR.not_own_new(h:HR P w0 R0 bl vs R ow st.boxes st.ents w):ow w.heap.size=none:=by
 cases ho:ow w.heap.size with
 |none=>rfl
 |some o=>have:=(h.olt _ _ ho).2;omega
theorem HR.not_R_new(h:HR P w0 R0 bl vs R ow st.boxes st.ents w):¬R w.heap.size:=fun hr=>by have:=h.rlt _ hr;omega
theorem HR.newBox(h:HR P w0 R0 bl vs R ow st.boxes st.ents w){ty:TypeId}{cs:Array Value}{cells:List (SV (sem T))}(hs:SVRs bl vs cells cs.toList):
  Stp P w0 R0 bl vs ow st (bl++[w.heap.size]) vs R (setOw ow w.heap.size (some (.box st.boxes.length))) (addBox st ty cells) (w.alloc (.cells cs ty)) where
 hr:=by
  have hb:Below w.heap.size w (w.alloc (.cells cs ty)):=(Below.refl _ _).alloc (Nat.le_refl _) _
  exact(h.grow hb).pushBox (heap_alloc_new w _) h.below.size h.not_own_new h.not_R_new hs
 bl:=fun _ _=>get_append_lt
 vs:=fun _ _ x=>x
 ext:=Ext.of_append (nb:=[⟨ty,cells,0,true⟩]) (ne:=[]) rfl (by simp[addBox])
 mrk:=fun b hb=>by
  have hne:b≠w.heap.size:=fun e=>by rw[e,h.not_own_new]at hb;cases hb
  rw[setOw_ne hne];exact hb
theorem bl_last{b:Nat}:(bl++[b])[bl.length]? =some b:=by
 rw[List.getElem?_append_right (Nat.le_refl _)];simp
theorem vs_last{v:Value}:(vs++[v])[vs.length]? =some v:=by
 rw[List.getElem?_append_right (Nat.le_refl _)];simp
theorem eff_alloc(h:HR P w0 R0 bl vs R ow st.boxes st.ents w){t:TypeId}(ho:o.op= .alloc t)(hd:(eAlloc P st t k).den):EffOk P w0 R0 bl vs ow st a w o k:=by
 unfold eAlloc at hd
 split at hd
 ·rename_i z n hz hs
  split at hd
  ·obtain⟨i,v,hi,hzv,hsv⟩:=zeroCells_sound (bl:=bl) (vs:=vs) hz
   refine⟨.pointer (some ⟨w.heap.size,0,none⟩),w.alloc (.cells v.cells t), .inl ?_, .ptr st.boxes.length 0,_,_,_,_,_,h.newBox (ty:=t) hsv,rfl,⟨w.heap.size, ?_,rfl⟩,hd⟩
   ·simp[execOp,ho,Instr.alloc,run_zero hi hzv,newVar,newRow]
   ·rw[<-h.nb];exact bl_last
  ·exact hd.elim
 ·exact hd.elim
theorem eff_box(h:HR P w0 R0 bl vs R ow st.boxes st.ents w)(ht:TR bl vs st.tmps a){t:TypeId}{x:Operand}(ho:o.op= .box t x)(hd:(eBox P st t x k).den):EffOk P w0 R0 bl vs ow st a w o k:=by
 unfold eBox at hd
 split at hd
 ·rename_i n hs
  split at hd
  ·rename_i hc
   simp only[Bool.and_eq_true,beq_iff_eq]at hc
   have hsv:=cells_sound h.vsl (ev_sound ht x) hc.2
   refine⟨.pointer (some ⟨w.heap.size,0,none⟩),w.alloc (.cells (a.eval x).cells t), .inl ?_, .ptr st.boxes.length 0,_,_,_,_,_,h.newBox (ty:=t) hsv,rfl,⟨w.heap.size, ?_,rfl⟩,hd⟩
   ·simp[execOp,ho,Instr.box,newVar,newRow]
   ·rw[<-h.nb];exact bl_last
  ·exact hd.elim
 ·exact hd.elim
theorem size_inv{t:TypeId}{n:Nat}(h:sizeT P t=some n):∃i,P.info? t=some i/\i.size=n:=by
 unfold sizeT at h
 obtain⟨i,hi,rfl⟩:=Option.map_eq_some_iff.1 h
 exact⟨i,hi,rfl⟩
theorem HR.setBox(h:HR P w0 R0 bl vs R ow st.boxes st.ents w){i b:Nat}{bx:Box (sem T)}{cs cs':Array Value}{cells:List (SV (sem T))}(hi:st.boxes[i]? =some bx)(_hl:bx.live=true)
  (hb:bl[i]? =some b) (ho:ow b=some (.box i)) (hw:w.heap[b]? =some (.cells cs bx.ty (0,0))) (hs:SVRs bl vs cells cs'.toList):
  Stp P w0 R0 bl vs ow st bl vs R ow {st with boxes:=st.boxes.set i {bx with cells:=cells,ver:=bx.ver+1}} (w.setRow b cs') where
 bl:=fun _ _ x=>x
 vs:=fun _ _ x=>x
 ext:=Ext.of_set_box (i:=i) (bx:={bx with cells:=cells,ver:=bx.ver+1}) rfl rfl (fun b0 h0=>by rw[hi]at h0;cases h0;exact⟨by simp,rfl⟩)
 mrk:=fun _ x=>x
 hr :={
  mrk:=fun x hx=>(setRow_other w b x cs' (fun e=>by rw[e,ho]at hx;cases hx)).trans (h.mrk x hx)
  lp:=fun j L hj=>by
   obtain⟨bj,x,g1,g2,g3,g4,g5⟩:=h.lp j L hj
   have hne:j≠i:=fun e=>by rw[e,hi]at g1;cases g1;rw[_hl]at g2;cases g2
   have hxb:x≠b:=fun e=>by rw[e,ho]at g4;cases g4;exact hne rfl
   exact⟨bj,x,by rw[List.getElem?_set_ne (fun e=>hne e.symm)];exact g1,g2,g3,g4,g5.mono (setRow_other w b x cs' hxb) (fun _ _ x=>x) (fun _ _ x=>x)⟩
  below:=h.below.trans ⟨by simp,by simp,by simp,by simp,fun x hx=>setRow_other w b x cs' (fun e=>by have:=(h.olt b _ ho).1;omega)⟩
  rlt:=fun x hx=>by simpa using h.rlt x hx
  r0:=h.r0
  rsub:=h.rsub
  ro:=h.ro
  olt:=fun x q hx=>by simpa using h.olt x q hx
  nb:=by simp[h.nb]
  nv:=h.nv
  vsl:=h.vsl
  glb:=h.glb
  box:=fun j bj hj hlj=>by
   rcases get_set_inv hj with⟨rfl,rfl⟩|⟨hne,hj⟩
   ·exact⟨b,cs',hb,ho,setRow_heap w b cs cs' _ _ hw,hs⟩
   ·obtain⟨b2,cs2,h1,h2,h3,h4⟩:=h.box j bj hj hlj
    have hne2:b2≠b:=fun e=>by rw[e,ho]at h2;cases h2;exact hne rfl
    exact⟨b2,cs2,h1,h2,(setRow_other w b b2 cs' hne2).trans h3,h4⟩
  ent:=fun j e hj hlj=>by
   obtain⟨v,hv,h1,h2⟩:=h.ent j e hj hlj
   refine⟨v,hv,fun hown=>(h1 hown).mono (fun _ x=>x) (fun x hx=>setRow_other w b x cs' (fun e=>by rw[e]at hx;rw[h.ro b hx]at ho;cases ho)),
    fun hown=>(h2 hown).mono (fun _ x=>x) (fun x hx=>setRow_other w b x cs' (fun e=>by rw[e]at hx;rw[h.ro b hx]at ho;cases ho)) (fun x hx=>⟨hx,setRow_other w b x cs' (fun e=>by rw[e,ho]at hx;cases hx)⟩)⟩}
theorem SVRs.one{s:List (SV (sem T))}{v:List Value}(hv:∀(i:Nat)(v:Value),vs[i]? =some v->SlV v)(h:SVRs bl vs s v)(hc:s.all isCell=true):∀u∈v,u.oneCell'=true:=by
 induction s generalizing v with
 |nil=>cases v with
  |nil=>simp
  |cons=>exact h.elim
 | cons x s ih=>cases v with
  |nil=>exact h.elim
  |cons u v=>
   simp only[List.all_cons,Bool.and_eq_true]at hc
   intro y hy
   simp only[List.mem_cons]at hy
   rcases hy with rfl|hy
   ·exact isCell_one hv h.1 hc.1
   ·exact ih h.2 hc.2 y hy
theorem eff_store_box(h:HR P w0 R0 bl vs R ow st.boxes st.ents w)(ht:TR bl vs st.tmps a){t:TypeId}{x v:Operand}(ho:o.op= .store t x v){n b off:Nat}(hs:sizeT P t=some n)(hx:st.ev x= .ptr b off)
  (hd:(eStoreBox st t v n b off k).den):EffOk P w0 R0 bl vs ow st a w o k:=by
 unfold eStoreBox at hd
 split at hd
 ·rename_i bx hbx
  split at hd
  ·rename_i hc
   simp only[Bool.and_eq_true,beq_iff_eq,decide_eq_true_eq]at hc
   obtain⟨⟨⟨hlive,rfl⟩,hoff⟩,hcell⟩:=hc
   have hxv:=ev_sound ht x
   rw[hx]at hxv
   obtain⟨b',hb',hv⟩:=hxv
   obtain⟨b2,cs,h1,h2,h3,h4⟩:=h.box b bx hbx hlive
   rw[hb']at h1;cases h1
   obtain⟨i,hi,hsz⟩:=size_inv hs
   have hcs:=cells_sound h.vsl (ev_sound ht v) hcell
   have hl1:=hcs.length
   have hl2:=h4.length
   simp only[Array.length_toList]at hl1 hl2
   have hone:=hcs.one h.vsl hcell
   have hrun:=run_storeCells_at P b' off bx.ty (a.eval v).cells.toList 0 cs w h3 (by simp;omega) hone
   simp only[Nat.add_zero]at hrun
   refine⟨undef,_, .inr ⟨?_,rfl⟩, .con (.tuple #[]),_,bl,vs,R,ow,h.setBox hbx hlive hb' h2 h3 (cells:=bx.cells.take off++cellsOf (st.ev v)++bx.cells.drop (off+(cellsOf (st.ev v)).length)) (cs':=(cs.toList.take off++(a.eval v).cells.toList++cs.toList.drop (off+(a.eval v).cells.toList.length)).toArray) ?_,rfl,rfl,hd⟩
   ·have hne:¬(a.eval v).cells.size≠i.size:=by rw[hsz,<-hl1];simp
    simp only[execOp,ho,Instr.storeAt,hv,Instr.sureAddr,Sem.run_bind,Sem.run_pure,Result.andThen_ok,storeVar,run_sizeOf' hi,if_neg hne,hrun]
   ·simp only[Array.length_toList,<-hl1]
    exact((h4.take off).append hcs).append (h4.drop _)
  ·exact hd.elim
 ·exact hd.elim
theorem OwnS.rd{i:Nat}{e:TypeId}{s:Sl}{v:Value}(h:OwnS P w R ow i e s v):Rd P w (fun b=>R b\/ow b=some (.ent i)) (.sl s.n s.f) (.sl e) v:=by
 obtain⟨a,cap,hv,h1,h2,ha,hc⟩:=h
 refine⟨e,a,cap,rfl,hv,h1,h2,ha,fun ks j q kk hk hj hq=> ?_⟩
 rcases hc with hc|⟨b,cs,hab,hob,hcs,hcont⟩
 ·omega
 ·obtain⟨u,hu,hr⟩:=(hcont ks hk).2 j q kk hj hq
  refine⟨_,u,hab,rfl, .inr hob, ?_,hr.mono (fun _ x=> .inl x) (fun _ _=>rfl)⟩
  simp[World.cell?,hcs,hu]
theorem set_get_same{α:Type}{l:List α}{i:Nat}{x y:α}(h:l[i]? =some x):(l.set i y)[i]? =some y:=by
 rw[List.getElem?_set]
 have:i<l.length:=by
  rcases Nat.lt_or_ge i l.length with h'|h'
  ·exact h'
  ·rw[List.getElem?_eq_none h']at h;cases h
 simp[this]
theorem HR.freeze(h:HR P w0 R0 bl vs R ow st.boxes st.ents w)(id:Nat):
  ∃R' ow',Stp P w0 R0 bl vs ow st bl vs R' ow' (freezeId st id) w/\(freezeId st id).tmps=st.tmps/\(freezeId st id).boxes=st.boxes/\(freezeId st id).ents.length=st.ents.length:=by
 unfold freezeId
 split
 ·rename_i e he
  split
  ·rename_i hc
   simp only[Bool.and_eq_true,Bool.not_eq_true']at hc
   obtain⟨hlive,hown,hm⟩:=hc
   obtain⟨v,hv,_,h2⟩:=h.ent id e he hlive
   have hO:=(h2 hown).1 hm
   refine⟨fun b=>R b\/ow b=some (.ent id),fun b=>match ow b with|some (.ent j)=>if j=id then none else some (.ent j)|o=>o,⟨?_,fun _ _ x=>x,fun _ _ x=>x, ?_,fun b hb=>by simp[hb]⟩,rfl,rfl,by simp⟩
   ·exact{
     below:=h.below
     rlt:=fun b hb=>hb.elim (h.rlt b) (fun hb=>(h.olt b _ hb).2)
     r0:=fun b hb=> .inl (h.r0 b hb)
     rsub:=fun b hb=>hb.elim (h.rsub b) (fun hb=> .inr (h.olt b _ hb).1)
     ro:=fun b hb=>by
      rcases hb with hb|hb
      ·simp[h.ro b hb]
      ·simp[hb]
     olt:=fun b q hb=>by
      cases hob:ow b with
      |none=>simp[hob]at hb
      |some o'=>exact h.olt b o' hob
     nb:=h.nb
     nv:=by simp[h.nv]
     vsl:=h.vsl
     glb:=h.glb
     box:=fun j bj hj hlj=>by
      obtain⟨b2,cs2,h1,h2,h3,h4⟩:=h.box j bj hj hlj
      exact⟨b2,cs2,h1,by simp[h2],h3,h4⟩
     ent:=fun j e' hj hlj=>by
      rcases get_set_inv hj with⟨rfl,rfl⟩|⟨hne,hj⟩
      ·exact⟨v,hv,fun _=>hO.rd,fun hh=>by cases hh⟩
      ·obtain⟨u,hu,h1,h2⟩:=h.ent j e' hj hlj
       refine⟨u,hu,fun hh=>(h1 hh).mono (fun _ x=> .inl x) (fun _ _=>rfl),fun hh=>(h2 hh).mono (fun _ x=> .inl x) (fun _ _=>rfl) (fun b hb=>⟨by simp[hb,hne],rfl⟩)⟩
     mrk:=fun b hb=>by
      cases hob:ow b with
      |none=>simp[hob]at hb
      | some o'=>
       cases o' with
       |mark l mo=>(simp only[hob,Option.some.injEq,Owner.mark.injEq]at hb;obtain⟨rfl,rfl⟩:=hb;exact h.mrk b hob)
       |box j=>simp[hob]at hb
       |ent j=>
        simp only[hob]at hb
        split at hb<;>cases hb
     lp:=fun j L hj=>by
      obtain⟨bj,x,g1,g2,g3,g4,g5⟩:=h.lp j L hj
      exact⟨bj,x,g1,g2,g3,by simp[g4],g5⟩}
   ·exact Ext.of_set_ent (i:=id) (bx:={e with own:=false,ver:=e.ver+1}) rfl rfl (fun b0 h0=>by rw[he]at h0;cases h0;simp)
  ·exact⟨R,ow,(Stp.refl h),rfl,rfl,rfl⟩
 ·exact⟨R,ow,(Stp.refl h),rfl,rfl,rfl⟩
theorem HR.freezes:∀(l:List Nat){st:St (sem T)}{R:Nat->Prop}{ow:Nat->Option Owner},HR P w0 R0 bl vs R ow st.boxes st.ents w->
  ∃R' ow',Stp P w0 R0 bl vs ow st bl vs R' ow' (freezeIds st l) w/\(freezeIds st l).tmps=st.tmps/\(freezeIds st l).boxes=st.boxes/\(freezeIds st l).ents.length=st.ents.length
 |[],st,R,ow,h=>⟨R,ow,(Stp.refl h),rfl,rfl,rfl⟩
 |id::l,st,R,ow,h=>by
  obtain⟨R1,ow1,h1,t1,b1,l1⟩:=h.freeze id
  obtain⟨R2,ow2,h2,t2,b2,l2⟩:=HR.freezes l h1.hr
  exact⟨R2,ow2,h1.trans h2,t2.trans t1,b2.trans b1,l2.trans l1⟩
theorem HR.freezeVs:∀(l:List (SV (sem T))){st:St (sem T)}{R:Nat->Prop}{ow:Nat->Option Owner},HR P w0 R0 bl vs R ow st.boxes st.ents w->
  ∃R' ow',Stp P w0 R0 bl vs ow st bl vs R' ow' (freezeVals st l) w/\(freezeVals st l).tmps=st.tmps/\(freezeVals st l).boxes=st.boxes/\(freezeVals st l).ents.length=st.ents.length
 |[],st,R,ow,h=>⟨R,ow,(Stp.refl h),rfl,rfl,rfl⟩
 | v::l,st,R,ow,h=>by
  cases v with
  |sl id=>
   obtain⟨R1,ow1,h1,t1,b1,l1⟩:=h.freeze id
   obtain⟨R2,ow2,h2,t2,b2,l2⟩:=HR.freezeVs l h1.hr
   exact⟨R2,ow2,h1.trans h2,t2.trans t1,b2.trans b1,l2.trans l1⟩
  |_=>exact HR.freezeVs l h
theorem toCl_sound(hl:HR P w0 R0 bl vs R ow st.boxes st.ents w){kk:K}{s:SV (sem T)}{c:CS}(h:toCl st.ents kk s=some c){v:Value}(hs:SVR bl vs s v):
  Rd P w (fun b=>b<w.heap.size) c.toD kk v:=by
 unfold toCl at h
 split at h
 ·split at h
  ·rename_i k k' x hk
   have:k=k':=by simpa using hk
   subst this
   cases h
   exact⟨k,rfl,hs.1,hs.2⟩
  ·cases h
 ·rename_i b
  cases h
  have hs:v= .bool b:=hs
  subst hs
  cases b<;>exact⟨rfl,rfl⟩
 ·rename_i b
  cases h
  exact⟨rfl,hs⟩
 ·rename_i y
  cases h
  exact⟨rfl,hs⟩
 ·rename_i e id
  split at h
  ·rename_i en hen
   split at h
   ·rename_i hc
    simp only[Bool.and_eq_true,beq_iff_eq,Bool.not_eq_true']at hc
    obtain⟨hlive,rfl,hm⟩:=hc
    cases h
    obtain⟨u,hu,h1,h2⟩:=hl.ent id en hen hlive
    have hs:vs[id]? =some v:=hs
    rw[hu]at hs;cases hs
    cases ho:en.own
    ·exact(h1 ho).mono (fun b hb=>hl.rlt b hb) (fun _ _=>rfl)
    ·exact((h2 ho).1 hm).rd.mono (fun b hb=>hb.elim (hl.rlt b) (fun hb=>(hl.olt b _ hb).2)) (fun _ _=>rfl)
   ·cases h
  ·cases h
 ·rename_i e'
  cases h
  have hs:v= .slice none 0 0:=hs
  subst hs
  exact⟨e',none,0,rfl,rfl,Nat.le_refl _,Nat.zero_le _,fun _=>rfl,fun ks i j kk _ hi=>absurd hi (Nat.not_lt_zero _)⟩
 ·cases h
theorem toCl_flat(hl:HR P w0 R0 bl vs R ow st.boxes st.ents w){kk:K}{s:SV (sem T)}{c:CS}(h:toCl st.ents kk s=some c){v:Value}(hs:SVR bl vs s v)
  (hn:∀id,s≠ .sl id):Rd P w R c.toD kk v:=by
 unfold toCl at h
 split at h
 ·split at h
  ·rename_i k k' x hk
   have:k=k':=by simpa using hk
   subst this
   cases h
   exact⟨k,rfl,hs.1,hs.2⟩
  ·cases h
 ·rename_i b
  cases h
  have hs:v= .bool b:=hs
  subst hs
  cases b<;>exact⟨rfl,rfl⟩
 ·rename_i b
  cases h
  exact⟨rfl,hs⟩
 ·rename_i y
  cases h
  exact⟨rfl,hs⟩
 ·rename_i e id
  exact absurd rfl (hn id)
 ·rename_i e'
  cases h
  have hs:v= .slice none 0 0:=hs
  subst hs
  exact⟨e',none,0,rfl,rfl,Nat.le_refl _,Nat.zero_le _,fun _=>rfl,fun ks i j kk _ hi=>absurd hi (Nat.not_lt_zero _)⟩
 ·cases h
theorem toClR_sound(hl:HR P w0 R0 bl vs R ow st.boxes st.ents w){kk:K}{s:SV (sem T)}{c:CS}(h:toClR st.ents kk s=some c){v:Value}(hs:SVR bl vs s v):
  Rd P w R c.toD kk v:=by
 unfold toClR at h
 split at h
 ·rename_i id
  split at h
  ·rename_i en hen
   split at h
   ·cases h
   ·rename_i hown
    unfold toCl at h
    split at h
    ·rename_i heq;cases heq
    ·rename_i heq;cases heq
    ·rename_i heq;cases heq
    ·rename_i heq;cases heq
    ·rename_i e id' heq
     cases heq
     rw[hen]at h
     simp only at h
     split at h
     ·rename_i hc
      simp only[Bool.and_eq_true,beq_iff_eq]at hc
      obtain⟨hlive,rfl,_⟩:=hc
      cases h
      obtain⟨u,hu,h1,h2⟩:=hl.ent id en hen hlive
      have hs:vs[id]? =some v:=hs
      rw[hu]at hs;cases hs
      exact h1 (by simpa using hown)
     ·cases h
    ·rename_i heq;cases heq
    ·cases h
  ·cases h
 ·rename_i hne
  exact toCl_flat hl h hs (fun id e=>hne id e)
theorem toClsR_sound(hl:HR P w0 R0 bl vs R ow st.boxes st.ents w):∀{ks:List K}{s:List (SV (sem T))}{cs:List CS},toClsR st.ents ks s=some cs->∀{v:List Value},SVRs bl vs s v->
  cs.length=ks.length/\v.length=ks.length/\∀(j:Nat)(kk:K),ks[j]? =some kk->∃c u,cs[j]? =some c/\v[j]? =some u/\Rd P w R c.toD kk u
 |[],[],cs,h,v,hs=>by
  simp only[toClsR,Option.some.injEq]at h
  subst h
  cases v with
  |nil=>exact⟨rfl,rfl,by simp⟩
  |cons=>exact hs.elim
 | k::ks,x::s,cs,h,v,hs=>by
  cases v with
  |nil=>exact hs.elim
  | cons u v=>
   simp only[toClsR]at h
   split at h
   ·rename_i c cs' hc hcs
    cases h
    obtain⟨h1,h2,h3⟩:=toClsR_sound hl hcs hs.2
    refine⟨by simp[h1],by simp[h2],fun j kk hj=> ?_⟩
    cases j with
    |zero=>simp at hj;subst hj;exact⟨c,u,rfl,rfl,toClR_sound hl hc hs.1⟩
    |succ j=>simpa using h3 j kk (by simpa using hj)
   ·cases h
 |[],_::_,_,h,_,_=>by simp[toClsR]at h
 |_::_,[],_,h,_,_=>by simp[toClsR]at h
theorem Rd.one{d:D}{kk:K}{v:Value}(h:Rd P w R d kk v):v.oneCell'=true:=by
 cases d with
 |int n=>obtain⟨ik,_,rfl,_⟩:=h;rfl
 |bool b=>obtain⟨_,rfl⟩:=h;rfl
 |str s=>obtain⟨_,rfl⟩:=h;rfl
 |sl n f=>obtain⟨e,a,cap,_,rfl,_⟩:=h;rfl
theorem row_idx{L n i j:Nat}(hi:i<n)(hj:j<L):i*L+j<n*L:=by
 calc i*L+j<i*L+L:=by omega
  _=(i+1)*L:=by rw[Nat.add_mul,Nat.one_mul]
  _<=n*L:=Nat.mul_le_mul_right _ hi
theorem HR.setRowEnt(h:HR P w0 R0 bl vs R ow st.boxes st.ents w){id b:Nat}{en:Ent (sem T)}{cs cs':Array Value}{s':Sl}{v:Value}{ver:Nat}{a:Option Addr}{cap:Nat}(hi:st.ents[id]? =some en)(_hl:en.live=true)
  (hown:en.own=true) (hm:isM en.elem=false) (hv:vs[id]? =some v) (hve:v= .slice a s'.n cap) (h1:s'.n<=min cap 140737488355328) (h2:cap<=maxLen) (ha:a=some ⟨b,0,none⟩) (ho:ow b=some (.ent id)) (hw:w.heap[b]? =some (.cells cs en.elem (0,0)))
  (hver:en.ver<ver) (hc:∀ks,kinds P en.elem=some ks->cs'.size=cap*ks.length/\∀j k kk,j<s'.n->ks[k]? =some kk->∃u,cs'[j*ks.length+k]? =some u/\Rd P w R (s'.f j k) kk u):
  Stp P w0 R0 bl vs ow st bl vs R ow {st with ents:=st.ents.set id {en with s:=s',ver:=ver}} (w.setRow b cs') where
 bl:=fun _ _ x=>x
 vs:=fun _ _ x=>x
 ext:=Ext.of_set_ent (i:=id) (bx:={en with s:=s',ver:=ver}) rfl rfl (fun b0 h0=>by rw[hi]at h0;cases h0;exact hver)
 mrk:=fun _ x=>x
 hr :=by
  have hR:∀x,R x->(w.setRow b cs').heap[x]? =w.heap[x]? :=fun x hx=>setRow_other w b x cs' (fun e=>by rw[e]at hx;rw[h.ro b hx]at ho;cases ho)
  exact{
  below:=h.below.trans ⟨by simp,by simp,by simp,by simp,fun x hx=>setRow_other w b x cs' (fun e=>by have:=(h.olt b _ ho).1;omega)⟩
  rlt:=fun x hx=>by simpa using h.rlt x hx
  r0:=h.r0
  rsub:=h.rsub
  ro:=h.ro
  olt:=fun x q hx=>by simpa using h.olt x q hx
  nb:=h.nb
  nv:=by simp[h.nv]
  vsl:=h.vsl
  glb:=h.glb
  box:=fun j bj hj hlj=>by
   obtain⟨b2,cs2,h1,h2,h3,h4⟩:=h.box j bj hj hlj
   have hne2:b2≠b:=fun e=>by rw[e,ho]at h2;cases h2
   exact⟨b2,cs2,h1,h2,(setRow_other w b b2 cs' hne2).trans h3,h4⟩
  ent:=fun j e hj hlj=>by
   rcases get_set_inv hj with⟨rfl,rfl⟩|⟨hne,hj⟩
   ·refine⟨v,hv,(fun hh=>by rw[hown]at hh;cases hh),fun _=>⟨fun _=>⟨a,cap,hve,h1,h2,(fun hh=>by rw[ha]at hh;cases hh), .inr ⟨b,cs',ha,ho,setRow_heap w b cs cs' _ _ hw,fun ks hks=>⟨(hc ks hks).1,fun q k kk hq hk=> ?_⟩⟩⟩,fun hh=>absurd (hm.symm.trans hh) Bool.false_ne_true⟩⟩
    obtain⟨u,hu,hr⟩:=(hc ks hks).2 q k kk hq hk
    exact⟨u,hu,hr.mono (fun _ x=>x) hR⟩
   ·obtain⟨u,hu,h1,h2⟩:=h.ent j e hj hlj
    exact⟨u,hu,fun hown=>(h1 hown).mono (fun _ x=>x) hR,fun hown=>(h2 hown).mono (fun _ x=>x) hR (fun x hx=>⟨hx,setRow_other w b x cs' (fun e=>by rw[e,ho]at hx;cases hx;exact hne rfl)⟩)⟩
  mrk:=fun x hx=>(setRow_other w b x cs' (fun e=>by rw[e,ho]at hx;cases hx)).trans (h.mrk x hx)
  lp:=fun j L hj=>by
   obtain⟨bj,x,g1,g2,g3,g4,g5⟩:=h.lp j L hj
   have hxb:x≠b:=fun e=>by rw[e,ho]at g4;cases g4
   exact⟨bj,x,g1,g2,g3,g4,g5.mono (setRow_other w b x cs' hxb) (fun _ _ x=>x) (fun _ _ x=>x)⟩}
theorem eff_store_ent(h:HR P w0 R0 bl vs R ow st.boxes st.ents w)(ht:TR bl vs st.tmps a){t:TypeId}{x v:Operand}(ho:o.op= .store t x v){n id sz off:Nat}{i:Int}(hs:sizeT P t=some n)(hx:st.ev x= .eptr id sz i off)
  (hd:(eStoreEnt P st t v n id sz i off k).den):EffOk P w0 R0 bl vs ow st a w o k:=by
 unfold eStoreEnt at hd
 split at hd
 ·rename_i en hen
  split at hd
  ·rename_i ks hks
   split at hd
   ·rename_i hc
    simp only[Bool.and_eq_true,beq_iff_eq,decide_eq_true_eq,Bool.not_eq_true']at hc
    obtain⟨⟨⟨⟨hlive,hown,hm⟩,hn⟩,hoff⟩,rfl⟩:=hc
    split at hd
    ·rename_i cls en' hcls hen'
     split at hd
     ·rename_i hver
      have hver:en'.ver=en.ver:=by simpa using hver
      obtain⟨R1,ow1,hS,htm,hbx,hlen⟩:=h.freezeVs (cellsOf (st.ev v))
      obtain⟨en1,hen1,_,hsame⟩:=hS.ext.ent id en hen
      rw[hen']at hen1;cases hen1
      have:en'=en:=hsame hver
      subst this
      have hxv:=ev_sound ht x
      rw[hx]at hxv
      obtain⟨ad,len,cap,g1,g2,⟨g3,g4⟩,hv⟩:=hxv
      obtain⟨u0,hu0,_,hO⟩:=hS.hr.ent id en' hen' hlive
      rw[g1]at hu0;cases hu0
      obtain⟨a0,cap0,he0,k1,k2,k3,k4⟩:=(hO hown).1 hm
      cases he0
      rcases k4 with k4|⟨b,cs,hab,hob,hcs,hcont⟩
      ·omega
      ·cases hab
       obtain⟨hsz,hcell⟩:=hcont ks hks
       have hallc:∀{ks':List K}{s:List (SV (sem T))}{cs:List CS},toClsR (freezeVals st (cellsOf (st.ev v))).ents ks' s=some cs->s.all isCell=true:=by
        intro ks'
        induction ks' with
        |nil=>intro s cs hh;cases s with
         |nil=>rfl
         |cons=>simp[toClsR]at hh
        | cons kk ks' ih=>intro s cs hh;cases s with
         |nil=>rfl
         | cons y s=>
          simp only[toClsR]at hh
          split at hh
          ·rename_i c cs' h1 h2
           simp only[List.all_cons,Bool.and_eq_true]
           refine⟨?_,ih h2⟩
           cases y<;>first|rfl|(simp[toClR,toCl]at h1;done)|skip
           rename_i cv
           simp only[toClR]at h1
           unfold toCl at h1
           split at h1<;>first|cases h1;done|rfl|(rename_i heq;cases heq;done)|skip
           all_goals(rename_i heq;cases heq;rfl)
          ·cases hh
       have hcs':=cells_sound h.vsl (ev_sound ht v) (hallc hcls)
       obtain⟨c1,c2,c3⟩:=toClsR_sound hS.hr hcls hcs'
       simp only[Array.length_toList]at c2
       have hilt:i.toNat<en'.s.n:=by omega
       have hL:(List.take n (List.drop off ks)).length=n:=by simp;omega
       have hfit:i.toNat*ks.length+off+n<=cs.size:=by
        rw[hsz]
        have:i.toNat*ks.length+ks.length<=cap*ks.length:=by
         calc i.toNat*ks.length+ks.length=(i.toNat+1)*ks.length:=by rw[Nat.add_mul,Nat.one_mul]
          _<=cap*ks.length:=Nat.mul_le_mul_right _ (by omega)
        omega
       have hone:∀u∈(a.eval v).cells.toList,u.oneCell'=true:=by
        intro u hu
        obtain⟨j,hj⟩:=List.mem_iff_getElem?.1 hu
        have hjl:j<(List.take n (List.drop off ks)).length:=by
         have:=(List.getElem?_eq_some_iff.1 hj).1
         simp only[Array.length_toList]at this
         omega
        obtain⟨c,u',_,hu',hr⟩:=c3 j _ (List.getElem?_eq_getElem hjl)
        rw[hj]at hu';cases hu'
        exact hr.one
       have hrun:=run_storeCells_at P b (i.toNat*ks.length+off) en'.elem (a.eval v).cells.toList 0 cs w hcs (by simp only[Array.length_toList];omega) hone
       simp only[Nat.add_zero]at hrun
       obtain⟨ii,hi,hsi⟩:=size_inv hs
       refine⟨undef,_, .inr ⟨?_,rfl⟩, .con (.tuple #[]),_,bl,vs,R1,ow1,hS.trans (hS.hr.setRowEnt hen' hlive hown hm g1 (s':=(sem T).upd en'.s i off cls) (ver:=en'.ver+1) rfl k1 k2 rfl hob hcs
        (cs':=(cs.toList.take (i.toNat*ks.length+off)++(a.eval v).cells.toList++cs.toList.drop (i.toNat*ks.length+off+(a.eval v).cells.toList.length)).toArray) (by omega) ?_),htm,rfl,hd⟩
       ·have hne:¬(a.eval v).cells.size≠ii.size:=by omega
        simp only[execOp,ho,Instr.storeAt,hv,Instr.sureAddr,Sem.run_bind,Sem.run_pure,Result.andThen_ok,storeVar,run_sizeOf' hi,if_neg hne]
        simp only[Nat.zero_add]at hrun⊢
        rw[hrun]
        rfl
       ·intro ks2 hks2
        rw[hks]at hks2;cases hks2
        refine⟨by simp;omega,fun j q kk hj hq=> ?_⟩
        have hq':q<ks.length:=(List.getElem?_eq_some_iff.1 hq).1
        have hj':j<en'.s.n:=hj
        obtain⟨u0,hu0,hr0⟩:=hcell j q kk hj' hq
        have hpos:=row_idx (L:=ks.length) (n:=cap) (i:=j) (j:=q) (by omega) hq'
        simp only[Sl.upd]
        by_cases hin:j=i.toNat/\off<=q/\q<off+(List.map Cl.toD cls).length
        ·obtain⟨rfl,hq1,hq2⟩:=hin
         simp only[List.length_map]at hq2
         have hqn:q-off<(List.take n (List.drop off ks)).length:=by omega
         obtain⟨c,u,hcj,huj,hr⟩:=c3 (q-off) kk (by rw[List.getElem?_take,if_pos (by omega),List.getElem?_drop];rw[show off+(q-off)=q by omega];exact hq)
         refine⟨u, ?_, ?_⟩
         ·rw[List.getElem?_toArray,List.getElem?_append_left (by simp;omega),List.getElem?_append_right (by simp;omega)]
          simp only[List.length_take,Array.length_toList]
          rw[show i.toNat*ks.length+q-min (i.toNat*ks.length+off) cs.size=q-off by omega]
          exact huj
         ·rw[if_pos ⟨rfl,hq1,by simpa using hq2⟩]
          rw[List.getD_eq_getElem?_getD,List.getElem?_map,hcj]
          exact hr
        ·rw[if_neg hin]
         refine⟨u0, ?_,hr0⟩
         have hout:j*ks.length+q<i.toNat*ks.length+off\/i.toNat*ks.length+off+n<=j*ks.length+q:=by
          rcases Nat.lt_trichotomy j i.toNat with hlt|heq|hgt
          ·left
           have:=row_idx (L:=ks.length) (n:=i.toNat) (i:=j) (j:=q) hlt hq'
           omega
          ·subst heq
           simp only[true_and,not_and,Nat.not_lt,List.length_map]at hin
           by_cases hoq:off<=q
           ·right;have:=hin hoq;omega
           ·left;omega
          ·right
           have:=Nat.mul_le_mul_right ks.length (show i.toNat+1<=j by omega)
           rw[Nat.add_mul,Nat.one_mul]at this
           omega
         have hu0':cs.toList[j*ks.length+q]? =some u0:=by simpa using hu0
         rcases hout with hout|hout
         ·rw[List.getElem?_toArray,List.getElem?_append_left (by simp;omega),List.getElem?_append_left (by simp;omega),List.getElem?_take,if_pos hout]
          exact hu0'
         ·rw[List.getElem?_toArray,List.getElem?_append_right (by simp;omega),List.getElem?_drop]
          simp only[List.length_append,List.length_take,Array.length_toList]
          rw[show i.toNat*ks.length+off+(a.eval v).cells.size+(j*ks.length+q-(min (i.toNat*ks.length+off) cs.size+(a.eval v).cells.size))=j*ks.length+q by omega]
          exact hu0'
     ·exact hd.elim
    ·exact hd.elim
   ·exact hd.elim
  ·exact hd.elim
 ·exact hd.elim
end Go.Sx
namespace Go.Sx
open Go.RowKit (Below)
variable{T:FuncId->Pred}{P:Program}{w0 w:World}{R0:Bs T}{R:Nat->Prop}{bl:List Nat}{vs:List Value}{ow:Nat->Option Owner}
variable{st:St (sem T)}{a:Act}{o:Oper}{k:SV (sem T)->St (sem T)->Tree (sem T)}
theorem HR.newRo(h:HR P w0 R0 bl vs R ow st.boxes st.ents w){e:TypeId}{s:Sl}{v:Value}(hr:Rd P w R (.sl s.n s.f) (.sl e) v):
  Stp P w0 R0 bl vs ow st bl (vs++[v]) R ow (addEnt st e s false) w:=
 ⟨h.pushRo hr,fun _ _ x=>x,fun _ _=>get_append_lt,Ext.of_append (nb:=[]) (ne:=[⟨e,s,false,true,0⟩]) (by simp[addEnt]) rfl,fun _ x=>x⟩
theorem HR.ent_last(h:HR P w0 R0 bl vs R ow st.boxes st.ents w){v:Value}:(vs++[v])[st.ents.length]? =some v:=by
 rw[<-h.nv];exact vs_last
theorem nest_sound{rg:Bool}{s:Sl}{i:Int}{f:Nat->Value}:∀{ks:List K}{j:Nat}{st:St (sem T)}{vs:List Value},HR P w0 R0 bl vs R ow st.boxes st.ents w->
  (∀n kk,ks[n]? =some kk->Rd P w R (s.f i.toNat (j+n)) kk (f (j+n)))->
  ∃vs',Stp P w0 R0 bl vs ow st bl vs' R ow (nestCells (A:=sem T) s i ks j st).2 w/\(nestCells (A:=sem T) s i ks j st).2.tmps=st.tmps/\
   SVRs bl vs' (nestCells (A:=sem T) s i ks j st).1 ((List.range' j ks.length).map f)/\∀q∈elemGivens (A:=sem T) P rg s i ks j,q
 |[],j,st,vs,h,_=>⟨vs,(Stp.refl h),rfl,trivial,by simp[elemGivens]⟩
 | .int k::ks,j,st,vs,h,hf=>by
  obtain⟨vs',h1,h2,h3,h4⟩:=nest_sound (ks:=ks) (j:=j+1) h (fun n kk hn=>by have:=hf (n+1) kk (by simpa using hn);rw[show j+1+n=j+(n+1) by omega];exact this)
  have h0:=hf 0 _ rfl
  simp only[Nat.add_zero]at h0
  have hd:f j= .int k (Sl.int s i j)/\k.min<=Sl.int s i j/\Sl.int s i j<=k.max:=by
   unfold Sl.int
   cases hd:s.f i.toNat j with
   |int n=>rw[hd]at h0;obtain⟨ik,hk,hv,h3,h4⟩:=h0;cases hk;exact⟨hv,h3,h4⟩
   |bool b=>rw[hd]at h0;exact absurd h0.1 (by simp)
   |str b=>rw[hd]at h0;exact absurd h0.1 (by simp)
   |sl n g=>rw[hd]at h0;obtain⟨e,_,_,hk,_⟩:=h0;cases hk
  refine⟨vs',h1,h2, ?_, ?_⟩
  ·simp only[nestCells,List.length_cons,List.range'_succ,List.map_cons]
   exact⟨⟨hd.1,hd.2⟩,h3⟩
  ·intro q hq
   simp only[elemGivens,List.mem_cons]at hq
   rcases hq with hq|hq
   ·rw[hq];exact hd.2
   ·exact h4 q hq
 | .bool::ks,j,st,vs,h,hf=>by
  obtain⟨vs',h1,h2,h3,h4⟩:=nest_sound (ks:=ks) (j:=j+1) h (fun n kk hn=>by have:=hf (n+1) kk (by simpa using hn);rw[show j+1+n=j+(n+1) by omega];exact this)
  have h0:=hf 0 _ rfl
  simp only[Nat.add_zero]at h0
  have hd:f j= .bool (Sl.bool s i j):=by
   unfold Sl.bool
   cases hd:s.f i.toNat j with
   |int n=>rw[hd]at h0;obtain⟨ik,hk,_⟩:=h0;cases hk
   |bool b=>rw[hd]at h0;exact h0.2
   |str b=>rw[hd]at h0;exact absurd h0.1 (by simp)
   |sl n g=>rw[hd]at h0;obtain⟨e,_,_,hk,_⟩:=h0;cases hk
  refine⟨vs',h1,h2, ?_, ?_⟩
  ·simp only[nestCells,List.length_cons,List.range'_succ,List.map_cons]
   refine⟨?_,h3⟩
   rw[hd];simp[SVR,PB.b]
  ·intro q hq
   simp only[elemGivens]at hq
   exact h4 q hq
 | .str::ks,j,st,vs,h,hf=>by
  obtain⟨vs',h1,h2,h3,h4⟩:=nest_sound (ks:=ks) (j:=j+1) h (fun n kk hn=>by have:=hf (n+1) kk (by simpa using hn);rw[show j+1+n=j+(n+1) by omega];exact this)
  have h0:=hf 0 _ rfl
  simp only[Nat.add_zero]at h0
  have hd:f j= .string (Sl.str s i j):=by
   unfold Sl.str
   cases hd:s.f i.toNat j with
   |int n=>rw[hd]at h0;obtain⟨ik,hk,_⟩:=h0;cases hk
   |bool b=>rw[hd]at h0;exact absurd h0.1 (by simp)
   |str b=>rw[hd]at h0;exact h0.2
   |sl n g=>rw[hd]at h0;obtain⟨e,_,_,hk,_⟩:=h0;cases hk
  refine⟨vs',h1,h2, ?_, ?_⟩
  ·simp only[nestCells,List.length_cons,List.range'_succ,List.map_cons]
   exact⟨hd,h3⟩
  ·intro q hq
   simp only[elemGivens]at hq
   exact h4 q hq
 | .sl e::ks,j,st,vs,h,hf=>by
  have h0:=hf 0 _ rfl
  simp only[Nat.add_zero]at h0
  have hd:Rd P w R (.sl (Sl.sub s i j).n (Sl.sub s i j).f) (.sl e) (f j):=by
   unfold Sl.sub
   cases hd:s.f i.toNat j with
   |int n=>rw[hd]at h0;obtain⟨ik,hk,_⟩:=h0;cases hk
   |bool b=>rw[hd]at h0;exact absurd h0.1 (by simp)
   |str b=>rw[hd]at h0;exact absurd h0.1 (by simp)
   |sl n g=>rw[hd]at h0;exact h0
  have hS:=h.newRo hd
  obtain⟨vs',h1,h2,h3,h4⟩:=nest_sound (ks:=ks) (j:=j+1) hS.hr (fun n kk hn=>by have:=hf (n+1) kk (by simpa using hn);rw[show j+1+n=j+(n+1) by omega];exact this)
  refine⟨vs',hS.trans h1,h2, ?_, ?_⟩
  ·simp only[nestCells,List.length_cons,List.range'_succ,List.map_cons]
   exact⟨h1.vs _ _ h.ent_last,h3⟩
  ·intro q hq
   simp only[elemGivens]at hq
   split at hq
   ·simp only[List.mem_cons]at hq
    rcases hq with hq|hq
    ·rw[hq];exact ranged_rd hd
    ·exact h4 q hq
   ·exact h4 q hq
theorem untgs_den{s:Sl}{i:Int}:∀{ks:List K}{j:Nat},(∀q∈untgs (A:=sem T) s i ks j,q)->∀m e,ks[m]? =some (.sl e)->tgD (s.f i.toNat (j+m))=false
 |[],j,_,m,e,hm=>by simp at hm
 | k::ks,j,h,m,e,hm=>by
  have hr:∀q∈untgs (A:=sem T) s i ks (j+1),q:=fun q hq=>h q (by cases k<;>simp[untgs,hq])
  cases m with
  |zero=>
   have:k= .sl e:=by simpa using hm
   subst this
   exact h (Untg s i j) (by simp[untgs,sem])
  |succ m=>
   have:=untgs_den hr m e (by simpa using hm)
   rwa[show j+1+m=j+(m+1) by omega]at this
theorem eff_load_mix(h:HR P w0 R0 bl vs R ow st.boxes st.ents w)(ht:TR bl vs st.tmps a){t:TypeId}{x:Operand}(ho:o.op= .load t x){id sz off n:Nat}{i':Int}(hxx:st.ev x= .eptr id sz i' off)(hs:sizeT P t=some n)(hu:(P.underlying t).isSome=true)
  {en:Ent (sem T)} (hen:st.ents[id]? =some en) (hd:(eLoadX P st t n en sz i' off k).den):EffOk P w0 R0 bl vs ow st a w o k:=by
 have hx:=ev_sound ht x
 rw[hxx]at hx
 obtain⟨ad,len,cap,h1,h2,⟨h3,h4⟩,hv⟩:=hx
 unfold eLoadX at hd
 split at hd
 ·rename_i ks hks
  split at hd
  ·rename_i hc
   simp only[Bool.and_eq_true,decide_eq_true_eq,beq_iff_eq]at hc
   obtain⟨⟨hmix,hoff⟩,rfl⟩:=hc
   simp only at hd
   split at hd
   ·rename_i sv hp
    obtain⟨hns,hd⟩:=needs_den.1 hd
    obtain⟨hX,hlive,hown,_⟩:=mixOk_inv hmix
    obtain⟨v0,hv0,_,hO⟩:=h.ent id en hen hlive
    obtain⟨a0,cap0,he0,hn1,hn2,ha0,hcells⟩:=(hO hown).mix hmix
    rw[h1]at hv0;cases hv0
    cases he0
    have hi:i'.toNat<en.s.n:=by omega
    rcases hcells with hcells|⟨b,cs,hab,hZ,hrow,hcells⟩
    ·omega
    cases hab
    have hcell:∀j kk,off<=j->j<off+n->ks[j]? =some kk->∃u,w.cell? ⟨b,0+(i'.toNat*ks.length+j),none⟩=some u/\Rd P w R (en.s.f i'.toNat j) kk u:=fun j kk hj0 hj1 hj=>by
     obtain⟨u,hu,g1,g2⟩:=(hcells ks hks).2.1 i'.toNat j kk hi hj
     refine⟨u,by simp[World.cell?,hrow,hu], ?_⟩
     by_cases hsl:∃e,kk= .sl e
     ·obtain⟨e,rfl⟩:=hsl
      refine g2 ?_
      have:=untgs_den hns (j-off) e (by rw[List.getElem?_take,if_pos (by omega),List.getElem?_drop,show off+(j-off)=j by omega];exact hj)
      rwa[show off+(j-off)=j by omega]at this
     ·exact tg_flat (fun e he=>hsl ⟨e,he⟩) g1 g2
    obtain⟨vs',g1,g2,g3,g4⟩:=nest_sound (rg:=st.rg) (T:=T) (P:=P) (w:=w) (R:=R) (s:=en.s) (i:=i') (f:=fun j=>(w.cell? ⟨b,0+(i'.toNat*ks.length+j),none⟩).getD undef) (ks:=(ks.drop off).take n) (j:=off) h (fun m kk hm=>by
     rw[List.getElem?_take]at hm
     split at hm
     ·rw[List.getElem?_drop]at hm
      obtain⟨u,hu1,hu2⟩:=hcell (off+m) kk (by omega) (by omega) hm
      simp only[hu1,Option.getD_some];exact hu2
     ·cases hm)
    obtain⟨u,hrun,hsv⟩:=run_loadVar' (P:=P) (w:=w) (bl:=bl) (vs:=vs') hs (b:=b) (off:=0+(i'.toNat*ks.length+off)) (vals:=(List.range' off ((ks.drop off).take n).length).map fun j=>(w.cell? ⟨b,0+(i'.toNat*ks.length+j),none⟩).getD undef) (by simp;omega) (fun j u hj=>by
     simp only[List.getElem?_map,Option.map_eq_some_iff]at hj
     obtain⟨m,hm,rfl⟩:=hj
     obtain⟨hlt,rfl⟩:=range'_get hm
     simp only[List.length_take,List.length_drop]at hlt
     obtain⟨kk,hkk⟩:∃kk,ks[off+j]? =some kk:=⟨ks[off+j]'(by omega),by simp⟩
     obtain⟨u,hu1,_⟩:=hcell (off+j) kk (by omega) (by omega) hkk
     rw[show 0+(i'.toNat*ks.length+off)+j=0+(i'.toNat*ks.length+(off+j)) by omega]
     simp only[hu1,Option.getD_some]) hp g3 hu
    refine⟨u,w, .inl ?_,sv,_,bl,vs',R,ow,g1,g2,hsv,(givens_den.1 hd) g4⟩
    simp only[execOp,ho,hv,Instr.loadAt,Instr.sureAddr,Sem.run_bind,Sem.run_pure,Result.andThen_ok,hrun]
   ·exact hd.elim
  ·exact hd.elim
 ·exact hd.elim
theorem eff_load(h:HR P w0 R0 bl vs R ow st.boxes st.ents w)(ht:TR bl vs st.tmps a){t:TypeId}{x:Operand}(ho:o.op= .load t x)(hd:(eLoad P st t x k).den):EffOk P w0 R0 bl vs ow st a w o k:=by
 have hx:=ev_sound ht x
 unfold eLoad at hd
 split at hd
 ·exact hd.elim
 rename_i hu
 have hu:(P.underlying t).isSome=true:=by
  cases hh:P.underlying t with
  |none=>simp[hh]at hu
  |some d=>rfl
 split at hd
 ·rename_i id sz i off ksT n hxx hkT hs
  rw[hxx]at hx
  obtain⟨i',rfl⟩:∃i':Int,i'=i:=⟨i,rfl⟩
  obtain⟨ad,len,cap,h1,h2,⟨h3,h4⟩,hv⟩:=hx
  split at hd
  ·rename_i en hen
   split at hd
   ·exact eff_load_mix h ht ho hxx hs hu hen hd
   split at hd
   ·rename_i ks hks
    split at hd
    ·rename_i hc
     simp only[Bool.and_eq_true,decide_eq_true_eq,beq_iff_eq,Bool.not_eq_true']at hc
     obtain⟨⟨⟨hlive,hm⟩,hoff⟩,rfl⟩:=hc
     simp only at hd
     split at hd
     ·rename_i sv hp
      obtain⟨v0,hv0,hcc⟩:=h.look.ent id en hen hlive
      obtain⟨a0,cap0,he0,hn1,hn2,ha0,hcells⟩:=hcc.1 hm
      rw[h1]at hv0;cases hv0
      cases he0
      have hi:i'.toNat<en.s.n:=by omega
      have hcell:∀j kk,ks[j]? =some kk->∃u,w.cell? ⟨ad.block,ad.off+(i'.toNat*ks.length+j),none⟩=some u/\Rd P w R (en.s.f i'.toNat j) kk u:=fun j kk hj=>by
       obtain⟨ad',u,hA,hB,hC,hD⟩:=hcells ks i'.toNat j kk hks hi hj
       cases hA
       exact⟨u,hC,hD⟩
      obtain⟨vs',g1,g2,g3,g4⟩:=nest_sound (rg:=st.rg) (T:=T) (P:=P) (w:=w) (R:=R) (s:=en.s) (i:=i') (f:=fun j=>(w.cell? ⟨ad.block,ad.off+(i'.toNat*ks.length+j),none⟩).getD undef) (ks:=(ks.drop off).take n) (j:=off) h (fun m kk hm=>by
       rw[List.getElem?_take]at hm
       split at hm
       ·rw[List.getElem?_drop]at hm
        obtain⟨u,hu1,hu2⟩:=hcell (off+m) kk hm
        simp only[hu1,Option.getD_some];exact hu2
       ·cases hm)
      obtain⟨u,hrun,hsv⟩:=run_loadVar' (P:=P) (w:=w) (bl:=bl) (vs:=vs') hs (b:=ad.block) (off:=ad.off+(i'.toNat*ks.length+off)) (vals:=(List.range' off ((ks.drop off).take n).length).map fun j=>(w.cell? ⟨ad.block,ad.off+(i'.toNat*ks.length+j),none⟩).getD undef) (by simp;omega) (fun j u hj=>by
       simp only[List.getElem?_map,Option.map_eq_some_iff]at hj
       obtain⟨m,hm,rfl⟩:=hj
       obtain⟨hlt,rfl⟩:=range'_get hm
       simp only[List.length_take,List.length_drop]at hlt
       obtain⟨kk,hkk⟩:∃kk,ks[off+j]? =some kk:=⟨ks[off+j]'(by omega),by simp⟩
       obtain⟨u,hu1,_⟩:=hcell (off+j) kk hkk
       rw[show ad.off+(i'.toNat*ks.length+off)+j=ad.off+(i'.toNat*ks.length+(off+j)) by omega]
       simp only[hu1,Option.getD_some]) hp g3 hu
      refine⟨u,w, .inl ?_,sv,_,bl,vs',R,ow,g1,g2,hsv,(givens_den.1 hd) g4⟩
      simp only[execOp,ho,hv,Instr.loadAt,Instr.sureAddr,Sem.run_bind,Sem.run_pure,Result.andThen_ok,hrun]
     ·exact hd.elim
    ·exact hd.elim
   ·exact hd.elim
  ·exact hd.elim
 ·exact hd.elim
theorem HR.newOwn(h:HR P w0 R0 bl vs R ow st.boxes st.ents w){e:TypeId}(hm:isM e=false){s:Sl}{cap:Nat}{cs:Array Value}{w1:World}(hw1:Below w.heap.size w w1)(hh:w1.heap[w.heap.size]? =some (.cells cs e (0,0)))
  (h1:s.n<=min cap 140737488355328) (h2:cap<=maxLen) (hc:∀ks,kinds P e=some ks->cs.size=cap*ks.length/\∀j k kk,j<s.n->ks[k]? =some kk->∃u,cs[j*ks.length+k]? =some u/\Rd P w R (s.f j k) kk u):
  ∃ow',Stp P w0 R0 bl vs ow st bl (vs++[.slice (some ⟨w.heap.size,0,none⟩) s.n cap]) R ow' (addEnt st e s true) w1:=by
 have hg:=h.grow hw1
 obtain⟨ow',hO,hmk⟩:=hg.pushOwn (e:=e) hm (s:=s) (a:=some ⟨w.heap.size,0,none⟩) (cap:=cap) rfl h1 h2 (fun hh=>by cases hh)
  (.inr ⟨w.heap.size,cs,rfl,h.below.size,h.not_R_new,(fun i hh=>by rw[h.not_own_new]at hh;cases hh),(fun _ _ hh=>by rw[h.not_own_new]at hh;cases hh),(fun i en hh=>by rw[h.not_own_new]at hh;cases hh),hh,fun ks hks=>⟨(hc ks hks).1,fun j k kk hj hk=>by
   obtain⟨u,hu,hr⟩:=(hc ks hks).2 j k kk hj hk
   exact⟨u,hu,hr.mono (fun _ x=>x) (fun b hb=>hw1.block b (h.rlt b hb))⟩⟩⟩)
 exact⟨ow',hO,fun _ _ x=>x,fun _ _=>get_append_lt,Ext.of_append (nb:=[]) (ne:=[⟨e,s,true,true,0⟩]) (by simp[addEnt]) rfl,hmk⟩
theorem toCl_nil{ents:List (Ent (sem T))}{kk:K}{x:SV (sem T)}{c:CS}(h:toCl ([]:List (Ent (sem T))) kk x=some c):toCl ents kk x=some c/\∀id,x≠ .sl id:=by
 unfold toCl at h
 split at h
 ·exact⟨h,fun id hh=>by cases hh⟩
 ·exact⟨h,fun id hh=>by cases hh⟩
 ·exact⟨h,fun id hh=>by cases hh⟩
 ·exact⟨h,fun id hh=>by cases hh⟩
 ·simp at h
 ·exact⟨h,fun id hh=>by cases hh⟩
 ·cases h
theorem zeroCls_inv(hl:HR P w0 R0 bl vs R ow st.boxes st.ents w){e:TypeId}{z:List CS}(h:zeroCls (A:=sem T) P e=some z):∃ks i v,kinds P e=some ks/\P.info? e=some i/\i.size=ks.length/\i.zero=some v/\v.cells.size=ks.length/\
  z.length=ks.length/\∀(j:Nat)(kk:K),ks[j]? =some kk->∃c u,z[j]? =some c/\v.cells[j]? =some u/\Rd P w R c.toD kk u:=by
 unfold zeroCls at h
 split at h
 ·rename_i ks zc hks hz
  obtain⟨i,v,hi,hzv,hs⟩:=zeroCells_sound (bl:=bl) (vs:=vs) hz
  obtain⟨i2,hi2,hsz,_⟩:=kinds_inv hks
  rw[hi]at hi2;cases hi2
  have key:∀{ks:List K}{s:List (SV (sem T))}{cs:List CS},toCls ([]:List (Ent (sem T))) ks s=some cs->∀{v:List Value},SVRs bl vs s v->
    cs.length=ks.length/\v.length=ks.length/\∀(j:Nat)(kk:K),ks[j]? =some kk->∃c u,cs[j]? =some c/\v[j]? =some u/\Rd P w R c.toD kk u:=by
   intro ks
   induction ks with
   | nil=>intro s cs hh v hv;cases s with
    |nil=>
     simp only[toCls,Option.some.injEq]at hh
     subst hh
     cases v with
     |nil=>exact⟨rfl,rfl,by simp⟩
     |cons=>exact hv.elim
    |cons=>simp[toCls]at hh
   | cons kk ks ih=>intro s cs hh v hv;cases s with
    |nil=>simp[toCls]at hh
    | cons x s=>cases v with
     |nil=>exact hv.elim
     | cons u v=>
      simp only[toCls]at hh
      split at hh
      ·rename_i c cs' hc hcs
       cases hh
       obtain⟨h1,h2,h3⟩:=ih hcs hv.2
       refine⟨by simp[h1],by simp[h2],fun j kk' hj=> ?_⟩
       cases j with
       |zero=>
        simp at hj;subst hj
        refine⟨c,u,rfl,rfl, ?_⟩
        have hc':=toCl_nil (ents:=st.ents) hc
        exact toCl_flat hl hc'.1 hv.1 hc'.2
       |succ j=>simpa using h3 j kk' (by simpa using hj)
      ·cases hh
  obtain⟨h1,h2,h3⟩:=key h hs
  refine⟨ks,i,v,hks,hi,hsz,hzv,by simpa using h2,h1,fun j kk hj=> ?_⟩
  obtain⟨c,u,hc,hu,hr⟩:=h3 j kk hj
  exact⟨c,u,hc,by simpa using hu,hr⟩
 ·cases h
theorem bytes_inv{t:TypeId}{n:Nat}(h:bytesT P t=some n):∃i,P.info? t=some i/\i.bytes=n:=by
 unfold bytesT at h
 obtain⟨i,hi,rfl⟩:=Option.map_eq_some_iff.1 h
 exact⟨i,hi,rfl⟩
theorem madeCells_get{z:Array Value}{c L:Nat}(hz:z.size=L){j q:Nat}(hj:j<c)(hq:q<L):(madeCells z (c*L))[j*L+q]? =z[q]? :=by
 have h:=row_idx (L:=L) (n:=c) hj hq
 have hmod:(j*L+q) % L=q:=by rw[Nat.mul_comm,Nat.mul_add_mod,Nat.mod_eq_of_lt hq]
 simp only[madeCells,Array.getElem?_map]
 rw[Array.getElem?_eq_getElem (by simpa using h)]
 simp[hz,hmod,hq]
theorem eff_makeSlice(h:HR P w0 R0 bl vs R ow st.boxes st.ents w)(ht:TR bl vs st.tmps a){t:TypeId}{len cap:Operand}(ho:o.op= .makeSlice t len cap)(hd:(eMakeSlice P st t len cap k).den):EffOk P w0 R0 bl vs ow st a w o k:=by
 have hl:=ev_sound ht len
 have hc:=ev_sound ht cap
 unfold eMakeSlice at hd
 split at hd
 ·rename_i e n c he hnn hcc
  rw[hnn]at hl
  rw[hcc]at hc
  obtain⟨n',rfl⟩:∃i':Int,i'=n:=⟨n,rfl⟩
  obtain⟨c',rfl⟩:∃i':Int,i'=c:=⟨c,rfl⟩
  split at hd
  ·exact hd.elim
  rename_i hm
  have hm:isM e=false:=by simpa using hm
  split at hd
  ·rename_i z by_ hz hby
   obtain⟨hns,hk⟩:=needs_den.1 hd
   simp only[List.mem_cons,List.not_mem_nil,or_false,forall_eq_or_imp,forall_eq,sem,arithS]at hns
   obtain⟨h0,h1,h2⟩:=hns
   obtain⟨ks,i,v,hks,hi,hsz,hzv,hvs,hzl,hzc⟩:=zeroCls_inv h hz
   obtain⟨i2,hi2,hbb⟩:=bytes_inv hby
   rw[hi]at hi2;cases hi2
   have hB0:0<by_+1:=Nat.succ_pos _
   obtain⟨B,hB⟩:∃B:Nat,B=by_+1:=⟨_,rfl⟩
   have hbb:i.bytes=B:=Eq.trans hbb hB.symm
   have h2:c'*(B:Int)<=140737488355328:=by rw[hB];exact h2
   rw[<-hB]at hB0
   clear hB
   have hcB:c'*1<=c'*(B:Int):=Int.mul_le_mul_of_nonneg_left (by omega) (by omega)
   have hc47:c'<=140737488355328:=by simp only[Int.mul_one]at hcB;omega
   have hcmax:c'<=9223372036854775807:=by have:=hc.2.2;simpa[IntKind.max,IntKind.signed,IntKind.bits]using this
   have hr:=run_make (P:=P) w t e i v (elem_inv he) hi hzv .i64 .i64 n' c' h0 h1 (by subst hbb;have:(i.bytes:Int)*c'=c'*(i.bytes:Int):=Int.mul_comm _ _;omega) hcmax
   obtain⟨ow',hS⟩:=h.newOwn (e:=e) hm (s:=Sl.rep n' (z.map Cl.toD)) (cap:=c'.toNat) (cs:=madeCells v.cells (c'.toNat*i.size)) ((Below.refl _ _).alloc (Nat.le_refl _) _) (heap_alloc_new w _) (by simp only[Sl.rep];omega) (by unfold maxLen;omega)
    (fun ks2 hks2=>by
     rw[hks]at hks2;cases hks2
     refine⟨by rw[size_madeCells,hsz],fun j q kk hj hq=> ?_⟩
     obtain⟨cl,u,hcl,hu,hr⟩:=hzc q kk hq
     have hq':q<ks.length:=(List.getElem?_eq_some_iff.1 hq).1
     refine⟨u, ?_, ?_⟩
     ·rw[hsz,madeCells_get (L:=ks.length) hvs (by have:(Sl.rep n' (z.map Cl.toD)).n=n'.toNat:=rfl;omega) hq'];exact hu
     ·simp only[Sl.rep]
      rw[List.getD_eq_getElem?_getD,List.getElem?_map,hcl]
      exact hr)
   refine⟨_,_, .inl ?_, .sl st.ents.length,_,bl,_,R,ow',hS,rfl,h.ent_last,hk⟩
   simp only[execOp,ho,hl.1,hc.1,Sem.run_bind,hr,Result.andThen_ok,Sem.run_pure]
   rfl
  ·exact hd.elim
 ·exact hd.elim
end Go.Sx
namespace Go.Sx
open Go.RowKit (Below)
variable{T:FuncId->Pred}{P:Program}{w0 w:World}{R0:Bs T}{R:Nat->Prop}{bl:List Nat}{vs:List Value}{ow:Nat->Option Owner}
variable{st:St (sem T)}{a:Act}{o:Oper}{k:SV (sem T)->St (sem T)->Tree (sem T)}
theorem fill_rows{L len:Nat}:∀(l:List (Nat×Value))(s:Nat)(cells:Array Value),l.map (·.1)=List.range' s l.length->s+l.length<=len->cells.size=len*L->(∀p∈l,p.2.cells.size=L)->
  ∃cs,Instr.fill (fun i=>some (i*L,L)) cells l=some cs/\cs.size=cells.size/\(∀q,q<s*L->cs[q]? =cells[q]?)/\
   ∀(i:Nat)(p:Nat×Value),l[i]? =some p->∀j,j<L->cs[(s+i)*L+j]? =p.2.cells[j]?
 |[],s,cells,_,_,_,_=>⟨cells,rfl,rfl,fun _ _=>rfl,fun i p h=>by simp at h⟩
 | (i0,v)::l,s,cells,hm,hl,hsz,hv=>by
  simp only[List.map_cons,List.length_cons,List.range'_succ,List.cons.injEq]at hm
  obtain⟨rfl,hm⟩:=hm
  simp only[List.length_cons]at hl
  have hvs:v.cells.size=L:=hv (i0,v) (by simp)
  have hfit:i0*L+L<=cells.size:=by
   rw[hsz,<-Nat.succ_mul]
   exact Nat.mul_le_mul_right _ (by omega)
  have hset:=fold_set v.cells.toList 0 (i0*L) cells (by simp;omega)
  have hlen:((v.cells.zipIdx.foldl (fun cs(p:Value×Nat)=>cs.setIfInBounds (i0*L+p.2) p.1) cells)).size=cells.size:=by
   have:=congrArg List.length hset
   rw[<-Array.foldl_toList,Array.toList_zipIdx]
   simp only[Array.length_toList,Nat.add_zero,List.length_append,List.length_take,List.length_drop]at this
   omega
  obtain⟨cs,h1,h2,h3,h4⟩:=fill_rows l (i0+1) _ hm (by omega) (hlen.trans hsz) (fun p hp=>hv p (by simp[hp]))
  refine⟨cs, ?_,h2.trans hlen, ?_, ?_⟩
  ·simp only[Instr.fill]
   rw[if_neg (by simp;omega)]
   exact h1
  ·intro q hq
   rw[h3 q (by rw[Nat.add_mul,Nat.one_mul];omega)]
   have hh:((v.cells.zipIdx.foldl (fun cs(p:Value×Nat)=>cs.setIfInBounds (i0*L+p.2) p.1) cells)).toList[q]? =cells.toList[q]? :=by
    rw[<-Array.foldl_toList,Array.toList_zipIdx,hset,Nat.add_zero,List.append_assoc,List.getElem?_append_left (by simp;omega),List.getElem?_take,if_pos hq]
   simpa using hh
  ·intro i p hi j hj
   cases i with
   | zero=>
    simp at hi
    subst hi
    rw[Nat.add_zero,h3 _ (by rw[Nat.add_mul,Nat.one_mul];omega)]
    have hh:((v.cells.zipIdx.foldl (fun cs(p:Value×Nat)=>cs.setIfInBounds (i0*L+p.2) p.1) cells)).toList[i0*L+j]? =v.cells.toList[j]? :=by
     rw[<-Array.foldl_toList,Array.toList_zipIdx,hset,Nat.add_zero,List.getElem?_append_left (by simp;omega),List.getElem?_append_right (by simp;omega)]
     simp only[List.length_take,Array.length_toList]
     rw[show i0*L+j-min (i0*L) cells.size=j by omega]
    simpa using hh
   |succ i=>
    have:=h4 i p (by simpa using hi) j hj
    rw[show i0+1+i=i0+(i+1) by omega]at this
    exact this
theorem toClR_cell{ents:List (Ent (sem T))}{kk:K}{y:SV (sem T)}{c:CS}(h:toClR ents kk y=some c):isCell y=true:=by
 cases y<;>first|rfl|(simp[toClR,toCl]at h;done)|skip
 rename_i cv
 simp only[toClR]at h
 unfold toCl at h
 split at h<;>first|cases h;done|rfl|(rename_i heq;cases heq;done)|skip
 all_goals(rename_i heq;cases heq;rfl)
theorem toClsR_cells{ents:List (Ent (sem T))}:∀{ks:List K}{s:List (SV (sem T))}{cs:List CS},toClsR ents ks s=some cs->s.all isCell=true
 |_,[],_,_=>rfl
 |[],_::_,_,h=>by simp[toClsR]at h
 | k::ks,x::s,cs,h=>by
  simp only[toClsR]at h
  split at h
  ·rename_i c cs' hc hcs
   simp only[List.all_cons,Bool.and_eq_true]
   exact⟨toClR_cell hc,toClsR_cells hcs⟩
  ·cases h
theorem parts_sound(hl:HR P w0 R0 bl vs R ow st.boxes st.ents w){ks:List K}:∀{s:List (SV (sem T))}{l:List (List CS)},partsCls st.ents ks s=some l->∀{v:List Value},SVRs bl vs s v->
  l.length=v.length/\∀(i:Nat)(u:Value),v[i]? =some u->u.cells.size=ks.length/\∃cs,l[i]? =some cs/\∀(j:Nat)(kk:K),ks[j]? =some kk->∃c x,cs[j]? =some c/\u.cells[j]? =some x/\Rd P w R c.toD kk x
 |[],l,h,v,hv=>by
  simp only[partsCls,Option.some.injEq]at h
  subst h
  cases v with
  |nil=>exact⟨rfl,by simp⟩
  |cons=>exact hv.elim
 | x ::s,l,h,v,hv=>by
  cases v with
  |nil=>exact hv.elim
  | cons u v=>
   simp only[partsCls]at h
   split at h
   ·rename_i c cs hc hcs
    cases h
    obtain⟨h1,h2⟩:=parts_sound hl hcs hv.2
    refine⟨by simp[h1],fun i y hi=> ?_⟩
    cases i with
    |zero=>
     simp at hi;subst hi
     obtain⟨g1,g2,g3⟩:=toClsR_sound hl hc (cells_sound hl.vsl hv.1 (toClsR_cells hc))
     refine⟨by simpa using g2,c,rfl,fun j kk hj=> ?_⟩
     obtain⟨cc,x,a1,a2,a3⟩:=g3 j kk hj
     exact⟨cc,x,a1,by simpa using a2,a3⟩
    |succ i=>simpa using h2 i y (by simpa using hi)
   ·cases h
theorem eff_buildSlice(h:HR P w0 R0 bl vs R ow st.boxes st.ents w)(ht:TR bl vs st.tmps a){t:TypeId}{len:Nat}{parts:Array (Nat×Operand)}(ho:o.op= .buildSlice t len parts)(hd:(eBuildSlice P st t len parts k).den):EffOk P w0 R0 bl vs ow st a w o k:=by
 unfold eBuildSlice at hd
 split at hd
 ·rename_i e he
  split at hd
  ·rename_i ks hks
   split at hd
   ·rename_i hc
    simp only[Bool.and_eq_true,beq_iff_eq,decide_eq_true_eq,Bool.not_eq_true']at hc
    obtain⟨⟨hidx,hsmall⟩,hpos,hm⟩:=hc
    split at hd
    ·rename_i l z hl hz
     obtain⟨R1,ow1,hS,htm,hbx,hlen⟩:=h.freezeVs (parts.toList.flatMap fun p=>cellsOf (st.ev p.2))
     obtain⟨ks2,i,v,hks2,hi,hsz,hzv,hvs,hzl,hzc⟩:=zeroCls_inv h hz
     rw[hks]at hks2;cases hks2
     have hpv:SVRs bl vs (parts.toList.map fun p=>st.ev p.2) (parts.toList.map fun p=>a.eval p.2):=by
      have:=evs_sound ht (parts.toList.map (·.2))
      rw[List.map_map,List.map_map]at this
      exact this
     obtain⟨g1,g2⟩:=parts_sound hS.hr hl hpv
     have hlen':parts.toList.length=len:=by
      have:=congrArg List.length hidx
      simpa using this
     have hpl:((parts.map fun p=>(p.1,a.eval p.2)).toList).map (·.1)=List.range' 0 ((parts.map fun p=>(p.1,a.eval p.2)).toList).length:=by
      simp only[Array.toList_map,List.map_map,List.length_map,hlen']
      rw[<-List.range_eq_range',<-hidx]
      rfl
     obtain⟨cs,f1,f2,_,f4⟩:=fill_rows (L:=ks.length) (len:=len) ((parts.map fun p=>(p.1,a.eval p.2)).toList) 0 ((Array.range (len*ks.length)).map ((if len*ks.length=0 then #[]else v.cells)[· % (if len*ks.length=0 then #[]else v.cells).size]!)) hpl (by simp at hlen'⊢;omega) (by simp) (fun p hp=>by
      simp only[Array.toList_map,List.mem_map]at hp
      obtain⟨q,hq,rfl⟩:=hp
      obtain⟨n,hn⟩:=List.mem_iff_getElem?.1 hq
      exact(g2 n (a.eval q.2) (by simp[hn])).1)
     have hcell:∀j q kk,j<len->ks[q]? =some kk->∃u,cs[j*ks.length+q]? =some u/\Rd P w R1 ((Sl.lit (l.map fun cs=>cs.map Cl.toD)).f j q) kk u:=by
      intro j q kk hj hq
      obtain⟨p,hp⟩:∃p,parts.toList[j]? =some p:=⟨parts.toList[j]'(by omega),by simp⟩
      obtain⟨_,cl,hcl,hh⟩:=g2 j (a.eval p.2) (by simp at hp;simp[hp])
      obtain⟨c,x,a1,a2,a3⟩:=hh q kk hq
      have:=f4 j (p.1,a.eval p.2) (by simp at hp;simp[hp]) q (List.getElem?_eq_some_iff.1 hq).1
      refine⟨x, ?_, ?_⟩
      ·rw[Nat.zero_add]at this
       rw[this];exact a2
      ·simp only[Sl.lit,List.getD_eq_getElem?_getD,List.getElem?_map,hcl,Option.map_some,Option.getD_some,a1]
       exact a3
     have hn:(Sl.lit (l.map fun cs=>cs.map Cl.toD)).n=len:=by simp[Sl.lit,g1];simpa using hlen'
     obtain⟨ow',hO⟩:=hS.hr.newOwn (e:=e) hm (s:=Sl.lit (l.map fun cs=>cs.map Cl.toD)) (cap:=len) (cs:=cs) ((Below.refl _ _).alloc (Nat.le_refl _) _) (heap_alloc_new w _) (by have:=Nat.le_mul_of_pos_right len hpos;omega) (by unfold maxLen;have:=Nat.le_mul_of_pos_right len hpos;omega)
      (fun ks3 hks3=>by rw[hks]at hks3;cases hks3;exact⟨f2.trans (by simp),fun j q kk hj hq=>hcell j q kk (by omega) hq⟩)
     refine⟨.slice (some ⟨w.heap.size,0,none⟩) (Sl.lit (l.map fun cs=>cs.map Cl.toD)).n len,_, .inl ?_, .sl st.ents.length,_,bl,_,R1,ow',hS.trans hO,htm, ?_,hd⟩
     ·have hsm:¬len*ks.length>2^24:=by omega
      simp only[execOp,ho,Instr.buildSlice,Sem.run_bind,run_underlying (elem_inv he),Result.andThen_ok,run_sizeOf' hi,hsz,if_neg hsm,Sem.run_pure]
      by_cases hzz:len*ks.length=0
      ·simp only[hzz,if_true,Sem.run_pure,Result.andThen_ok]at f1⊢
       have hpp:(Array.map (fun x=>(x.1,a.eval x.2)) parts).toList=(parts.map fun p=>(p.1,a.eval p.2)).toList:=rfl
       simp only[hpp,f1,newRow,Sem.run_bind,run_newObj,Result.andThen_ok,Sem.run_pure,hn]
       rfl
      ·simp only[hzz,if_false,Sem.run_bind,run_zero hi hzv,Result.andThen_ok,Sem.run_pure]at f1⊢
       have hpp:(Array.map (fun x=>(x.1,a.eval x.2)) parts).toList=(parts.map fun p=>(p.1,a.eval p.2)).toList:=rfl
       simp only[hpp,f1,newRow,Sem.run_bind,run_newObj,Result.andThen_ok,Sem.run_pure,hn]
       rfl
     ·have:=hS.hr.ent_last (v:=Value.slice (some ⟨w.heap.size,0,none⟩) (Sl.lit (l.map fun cs=>cs.map Cl.toD)).n len)
      rw[hlen]at this
      exact this
    ·exact hd.elim
   ·exact hd.elim
  ·exact hd.elim
 ·exact hd.elim
theorem HR.kill(h:HR P w0 R0 bl vs R ow st.boxes st.ents w)(id:Nat):Stp P w0 R0 bl vs ow st bl vs R ow (killEnt st id) w/\(killEnt st id).tmps=st.tmps/\(killEnt st id).ents.length=st.ents.length/\
  ∀en,st.ents[id]? =some en->∃en',(killEnt st id).ents[id]? =some en'/\en'.live=false:=by
 unfold killEnt
 split
 ·rename_i e he
  refine⟨⟨h.dead id _ rfl,fun _ _ x=>x,fun _ _ x=>x,Ext.of_set_ent (i:=id) (bx:={e with live:=false,ver:=e.ver+1}) rfl rfl (fun b0 h0=>by rw[he]at h0;cases h0;simp),fun _ x=>x⟩,rfl,by simp,fun en hen=>⟨_,set_get_same he,rfl⟩⟩
 ·rename_i he
  exact⟨(Stp.refl h),rfl,rfl,fun en hen=>by rw[he]at hen;cases hen⟩
theorem HR.moveOwn(h:HR P w0 R0 bl vs R ow st.boxes st.ents w){id:Nat}{en:Ent (sem T)}(hen:st.ents[id]? =some en)(hlive:en.live=true)(hown:en.own=true)(hm:isM en.elem=false){s':Sl}(hs:s'.n<=en.s.n)
  (hf:∀j k,j<s'.n->s'.f j k=en.s.f j k):
  ∃a cap ow',vs[id]? =some (.slice a en.s.n cap)/\Stp P w0 R0 bl vs ow st bl (vs++[.slice a s'.n cap]) R ow' (addEnt (killEnt st id) en.elem s' true) w:=by
 obtain⟨v,hv,_,hO⟩:=h.ent id en hen hlive
 obtain⟨a,cap,rfl,h1,h2,ha,hc⟩:=(hO hown).1 hm
 obtain⟨hK,_,hlen,hdead⟩:=h.kill id
 obtain⟨en',hen',hd'⟩:=hdead en hen
 obtain⟨ow',hP,hmk⟩:=hK.hr.pushOwn (e:=en.elem) hm (s:=s') (a:=a) (cap:=cap) rfl (by omega) h2 ha (by
  rcases hc with hc|⟨b,cs,hab,hob,hcs,hcont⟩
  ·exact .inl hc
  ·refine .inr ⟨b,cs,hab,(h.olt b _ hob).1,(fun hr=>by rw[h.ro b hr]at hob;cases hob),(fun i hi=>by rw[hob]at hi;cases hi),(fun _ _ hi=>by rw[hob]at hi;cases hi),(fun i en2 hi hi2=>by
    rw[hob]at hi;cases hi
    rw[hen']at hi2;cases hi2
    exact .inl hd'),hcs,fun ks hks=>⟨(hcont ks hks).1,fun j k kk hj hk=> ?_⟩⟩
   obtain⟨u,hu,hr⟩:=(hcont ks hks).2 j k kk (by omega) hk
   rw[hf j k hj]
   exact⟨u,hu,hr⟩)
 exact⟨a,cap,ow',hv,hP,fun _ _ x=>x,fun _ _=>get_append_lt,hK.ext.trans (Ext.of_append (nb:=[]) (ne:=[⟨en.elem,s',true,true,0⟩]) (by simp[addEnt]) rfl),hmk⟩
theorem sub_rd{e:TypeId}{s:Sl}{a:Option Addr}{cap:Nat}{l h:Nat}{i:TypeInfo}(hi:P.info? e=some i)(hk:(kinds P e).isSome=true)(hr:Rd P w R (.sl s.n s.f) (.sl e) (.slice a s.n cap))(h1:l<=h)(h2:h<=s.n):
  Rd P w R (.sl (h-l) fun p q=>s.f (l+p) q) (.sl e) (sliced a l h cap i.size):=by
 obtain⟨e',a',cap',he',hv,g1,g2,g3,g4⟩:=hr
 cases he';cases hv
 obtain⟨ks,hks⟩:=Option.isSome_iff_exists.1 hk
 obtain⟨i2,hi2,hsz,_⟩:=kinds_inv hks
 rw[hi]at hi2;cases hi2
 refine⟨e,_,_,rfl,rfl,by omega,by omega, ?_,fun ks2 p q kk hks2 hp hq=> ?_⟩
 ·intro hn
  split at hn
  ·omega
  ·cases a with
   |none=>have:=g3 rfl;omega
   |some ad=>cases hn
 ·rw[hks]at hks2;cases hks2
  obtain⟨ad,u,ha,hs,hR,hc,hd⟩:=g4 ks (l+p) q kk hks (by omega) hq
  subst ha
  have hne:¬cap=l:=by omega
  refine⟨⟨ad.block,ad.off+l*ks.length,none⟩,u, ?_,rfl,hR, ?_,hd⟩
  ·rw[if_neg hne,hsz]
   obtain⟨bb,oo,ss⟩:=ad
   cases hs
   simp[Addr.add_lit]
  ·rw[show ad.off+l*ks.length+(p*ks.length+q)=ad.off+((l+p)*ks.length+q) by rw[Nat.add_mul];omega]
   exact hc
theorem run_sliceAt4{t e:TypeId}{i:TypeInfo}(he:P.underlying t=some (.slice e))(hi:P.info? e=some i){a:Option Addr}{len cap:Nat}{lo hi':Option Value}{l h:Int}
  (hlo:(lo=none/\l=0)\/∃k,lo=some (.int k l)) (hhi:(hi'=none/\h=len)\/∃k,hi'=some (.int k h)) (h0:0<=l) (h1:l<=h) (h2:h<=len) (hc:len<=cap):
  (Instr.sliceAt t (.slice a len cap) lo hi' none).run P w= .ok (sliced a l.toNat h.toNat cap i.size) w:=by
 have hE:P.elem t=e:=by simp[Program.elem,he]
 have ht:P.underlying t=some (.slice (P.elem t)):=by rw[hE];exact he
 rw[run_sliceAt_slice (h:=ht)]
 have hsz:(sizeOf (P.elem t)).run P w= .ok i.size w:=by rw[hE];exact run_sizeOf' hi
 rcases hlo with⟨rfl,rfl⟩|⟨k1,rfl⟩<;>rcases hhi with⟨rfl,rfl⟩|⟨k2,rfl⟩
 ·rw[run_slice_all (ht:=ht),hsz];simp
 ·rw[run_slice_h (ht:=ht) (h0:=by omega) (h2:=by omega),hsz];simp
 ·rw[run_slice_l (ht:=ht) (h0:=h0) (h1:=h1),hsz];simp
 ·rw[run_slice_lh (ht:=ht) (h0:=h0) (h1:=h1) (h2:=by omega),hsz];simp
theorem constInt_ev{x:Operand}{n:Int}(h:constInt x=some n):∃k,a.eval x= .int k n:=by
 unfold constInt at h
 split at h
 ·rename_i k m;cases h;exact⟨k,rfl⟩
 ·cases h
theorem eff_slice (h : HR P w0 R0 bl vs R ow st.boxes st.ents w)(ht:TR bl vs st.tmps a){t:TypeId}{x:Operand}{lo hi mx:Option Operand}(ho:o.op= .slice t x lo hi mx)(hd:(eSlice P st t x lo hi mx k).den):EffOk P w0 R0 bl vs ow st a w o k:=by
  have hx:=ev_sound ht x
  unfold eSlice at hd
  split at hd
  · exact hd.elim
  rename_i hkk
  split at hd
  · rename_i e he hxx
    rw[hxx]at hx
    have hxv:a.eval x= .slice none 0 0:=hx
    have hkk:(kinds P e).isSome=true:=by
      simp only[elemsKnown,he]at hkk
      cases hh:kinds P e with
      |none=>simp[hh]at hkk
      |some _=>rfl
    obtain⟨ks,hks⟩:=Option.isSome_iff_exists.1 hkk
    obtain⟨i,hinfo,_,_⟩:=kinds_inv hks
    split at hd
    · exact hd.elim
    · split at hd
      · rename_i l h' hl hh
        obtain⟨l',rfl⟩:∃i':Int,i'=l:=⟨l,rfl⟩
        obtain⟨h'',rfl⟩:∃i':Int,i'=h':=⟨h',rfl⟩
        have hlo:(lo.map a.eval=none/\l'=0)\/∃k,lo.map a.eval=some (.int k l'):=by
          cases lo with
          |none=>left;simp only[Option.some.injEq]at hl;exact⟨rfl,hl.symm⟩
          | some lx=>
            right
            have hlx:=ev_sound ht lx
            simp only at hl
            split at hl
            · rename_i k y hy
              rw[hy]at hlx
              cases hl
              exact⟨k,congrArg some hlx.1⟩
            · cases hl
        have hhi:(hi.map a.eval=none/\h''=((0:Nat):Int))\/∃k,hi.map a.eval=some (.int k h''):=by
          cases hi with
          |none=>left;simp only[Option.some.injEq]at hh;exact⟨rfl,hh.symm⟩
          | some hx'=>
            right
            have hlx:=ev_sound ht hx'
            simp only at hh
            split at hh
            · rename_i k y hy
              rw[hy]at hlx
              cases hh
              exact⟨k,congrArg some hlx.1⟩
            · cases hh
        obtain⟨hns,hd⟩:=needs_den.1 hd
        simp only[List.mem_cons,List.not_mem_nil,or_false,forall_eq_or_imp,forall_eq,sem]at hns
        obtain⟨h0,h1,h2⟩:=hns
        have hrun:(execOp a.eval o).run P w= .ok (.value (.slice none 0 0)) w:=by
          simp only[execOp,ho,hxv,Option.map_none,Sem.run_bind,run_sliceAt4 (elem_inv he) hinfo hlo hhi h0 h1 h2 (Nat.le_refl 0),Result.andThen_ok,Sem.run_pure]
          have e1:l'.toNat=0:=by omega
          have e2:h''.toNat=0:=by omega
          rw[e1,e2]
          simp[sliced]
        exact⟨_,w, .inl hrun, .con (.slice none 0 0),st,bl,vs,R,ow,Stp.refl h,rfl,rfl,hd⟩
      · exact hd.elim
  · rename_i e id he hxx
    rw[hxx]at hx
    have hx:vs[id]? =some (a.eval x):=hx
    have hkk:(kinds P e).isSome=true:=by
      simp only[elemsKnown,he]at hkk
      cases hh:kinds P e with
      |none=>simp[hh]at hkk
      |some _=>rfl
    obtain⟨ks,hks⟩:=Option.isSome_iff_exists.1 hkk
    obtain⟨i,hinfo,hsz,_⟩:=kinds_inv hks
    split at hd
    · rename_i en hen
      split at hd
      · exact hd.elim
      · rename_i hc
        simp only[Bool.not_eq_true',Bool.not_eq_false,Bool.and_eq_true,beq_iff_eq]at hc
        obtain⟨hlive,rfl,hmm⟩:=hc
        obtain⟨v0,hv0,hcc⟩:=h.look.ent id en hen hlive
        obtain⟨a0,cap0,he0,hn1,hn2,ha0,hcells⟩:=hcc.1 hmm
        have hn1m:=hn1
        have hn1:en.s.n<=cap0:=Nat.le_trans hn1 (Nat.min_le_left _ _)
        rw[hx]at hv0
        have hxv:a.eval x= .slice a0 en.s.n cap0:=by rw[Option.some.inj hv0,he0]
        split at hd
        · rename_i m
          split at hd
          · rename_i hm hhi hlo
            obtain⟨km,hm'⟩:=constInt_ev (a:=a) hm
            cases hi with
            |none=>cases hhi
            | some hi=>
              simp only[Option.map_some,Option.some.injEq]at hhi
              obtain⟨kh,hh'⟩:=constInt_ev (a:=a) hhi
              cases lo with
              |some lo=>cases hlo
              | none=>
                have hE:P.elem t=en.elem:=by simp[Program.elem,elem_inv he]
                have htt:P.underlying t=some (.slice (P.elem t)):=by rw[hE];exact elem_inv he
                have hrun:(execOp a.eval o).run P w= .ok (.value (.slice a0 0 0)) w:=by
                  simp only[execOp,ho,hxv,Option.map_some,Option.map_none,hm',hh',Sem.run_bind]
                  rw[run_sliceAt_slice (h:=htt),run_slice_hm (ht:=htt) (h0:=Int.le_refl 0) (h2:=Int.le_refl 0) (h3:=by omega),hE,run_sizeOf' hinfo]
                  simp[sliced]
                obtain⟨ow',hP,hmk⟩:=h.pushOwn (e:=en.elem) hmm (s:=Sl.nil) (v:= .slice a0 0 0) (a:=a0) (cap:=0) rfl (Nat.le_refl _) (Nat.zero_le _) (fun _=>rfl) (.inl rfl)
                exact⟨.slice a0 0 0,w, .inl hrun, .sl st.ents.length,addEnt st en.elem Sl.nil true,bl,_,R,ow',⟨hP,fun _ _ x=>x,fun _ _=>get_append_lt,Ext.of_append (nb:=[]) (ne:=[⟨en.elem,Sl.nil,true,true,0⟩]) (by simp[addEnt]) rfl,hmk⟩,rfl,h.ent_last,hd⟩
          · exact hd.elim
        · split at hd
          · rename_i l h' hl hh
            obtain⟨l',rfl⟩:∃i':Int,i'=l:=⟨l,rfl⟩
            obtain⟨h'',rfl⟩:∃i':Int,i'=h':=⟨h',rfl⟩
            have hlo:(lo.map a.eval=none/\l'=0)\/∃k,lo.map a.eval=some (.int k l'):=by
              cases lo with
              |none=>left;simp only[Option.some.injEq]at hl;exact⟨rfl,hl.symm⟩
              | some lx=>
                right
                have hlx:=ev_sound ht lx
                simp only at hl
                split at hl
                · rename_i k y hy
                  rw[hy]at hlx
                  cases hl
                  exact⟨k,congrArg some hlx.1⟩
                · cases hl
            have hhi:(hi.map a.eval=none/\h''=en.s.n)\/∃k,hi.map a.eval=some (.int k h''):=by
              cases hi with
              |none=>left;simp only[Option.some.injEq]at hh;exact⟨rfl,hh.symm⟩
              | some hx'=>
                right
                have hlx:=ev_sound ht hx'
                simp only at hh
                split at hh
                · rename_i k y hy
                  rw[hy]at hlx
                  cases hh
                  exact⟨k,congrArg some hlx.1⟩
                · cases hh
            simp only at hd
            obtain⟨hns,hd⟩:=needs_den.1 hd
            simp only[List.mem_cons,List.not_mem_nil,or_false,forall_eq_or_imp,forall_eq,sem,Sl.len]at hns
            obtain⟨h0,h1,h2⟩:=hns
            have hrun:(execOp a.eval o).run P w= .ok (.value (sliced a0 l'.toNat h''.toNat cap0 i.size)) w:=by
              simp only[execOp,ho,hxv,Option.map_none,Sem.run_bind,run_sliceAt4 (elem_inv he) hinfo hlo hhi h0 h1 h2 hn1,Result.andThen_ok,Sem.run_pure]
            split at hd
            · rename_i hvw
              simp only[Bool.and_eq_true]at hvw
              obtain⟨⟨hown,_⟩,_⟩:=hvw
              have hct:cellsOfT P en.elem=i.size:=by simp[cellsOfT,hks,hsz]
              obtain⟨u,hu,_,hO⟩:=h.ent id en hen hlive
              rw[hx]at hu
              obtain⟨a1,cap1,hv1,_,_,_,hrow⟩:=(hO hown).1 hmm
              rw[<-Option.some.inj hu,hxv]at hv1
              cases hv1
              refine⟨_,w, .inl hrun, .view id (cellsOfT P en.elem) l' (h''-l'),st,bl,vs,R,ow,Stp.refl h,rfl, ?_,hd⟩
              refine⟨a0,en.s.n,cap0,by rw[hx,hxv],fun ad had hcz=> ?_,ha0,⟨h0,by omega,by omega,hn1,hn2⟩, ?_⟩
              · rcases hrow with hz|⟨b,cs,hab,_⟩
                · exact absurd hz hcz
                · rw[hab]at had;cases had;rfl
              · rw[hct]
                simp only[sliced,viewV]
                congr 1
                omega
            cases hown:en.own
            · simp only[hown,partSt,Bool.false_eq_true,if_false,Bool.false_and]at hd
              obtain⟨u,hu,hR,_⟩:=h.ent id en hen hlive
              rw[hx]at hu
              have hrd:=hR hown
              rw[<-Option.some.inj hu,hxv]at hrd
              have hsub:=sub_rd (l:=l'.toNat) (h:=h''.toNat) hinfo hkk hrd (by omega) (by omega)
              have hpart:Rd P w R (.sl (Sl.part en.s l' h'').n (Sl.part en.s l' h'').f) (.sl en.elem) (sliced a0 l'.toNat h''.toNat cap0 i.size):=by
                have:h''.toNat-l'.toNat=(h''-l').toNat:=by omega
                rw[this]at hsub
                exact hsub
              exact⟨_,w, .inl hrun, .sl st.ents.length,_,bl,_,R,ow,h.newRo hpart,rfl,h.ent_last,hd⟩
            · simp only [hown,partSt,if_true,Bool.true_and]at hd
              by_cases hkeep':(loZero lo&&st.rg)=true
              · simp only[hkeep',if_true]at hd
                have hkeep:loZero lo=true:=(Bool.and_eq_true_iff.1 hkeep').1
                have hl0:l'=0:=by
                  cases lo with
                  | none => rcases hlo with⟨_,hh⟩|⟨k,hh⟩
                            · exact hh
                            · cases hh
                  | some lx=>
                    simp only[loZero]at hkeep
                    split at hkeep
                    · rename_i hcz
                      obtain⟨k,hk⟩:=constInt_ev (a:=a) hcz
                      rcases hlo with⟨hh,_⟩|⟨k2,hh⟩
                      · cases hh
                      · simp only[Option.map_some,Option.some.injEq,hk,Value.int.injEq]at hh
                        exact hh.2.symm
                    · cases hkeep
                subst hl0
                obtain⟨a1,cap1,ow',hv1,hS⟩:=h.moveOwn hen hlive hown hmm (s':=Sl.part en.s 0 h'') (by simp only[Sl.part];omega) (fun j q hj=>by simp[Sl.part])
                rw[hx,hxv]at hv1
                cases hv1
                have hval:sliced a0 (0:Int).toNat h''.toNat cap0 i.size= .slice a0 (Sl.part en.s 0 h'').n cap0:=by
                  simp only[sliced,Int.toNat_zero,Nat.zero_mul,Nat.sub_zero,Sl.part]
                  congr 1
                  · split
                    · rfl
                    · cases a0 with
                      |none=>rfl
                      |some ad=>simp[Addr.add]
                  · omega
                rw[hval]at hrun
                have hlen:=(h.kill id).2.2.1
                refine⟨_,w, .inl hrun, .sl (killEnt st id).ents.length,_,bl,_,R,ow',hS,(h.kill id).2.1, ?_,hd⟩
                show _=_
                rw[hlen]
                exact h.ent_last
              · simp only[hkeep',if_false,Bool.false_eq_true]at hd
                obtain⟨R1,ow1,hS,htm,hbx,hlen⟩:=h.freeze id
                have hfz:(freezeId st id).ents[id]? =some {en with own:=false,ver:=en.ver+1}:=by
                  unfold freezeId
                  simp only[hen,hlive,hown,hmm,Bool.not_false,Bool.and_self,if_true]
                  exact set_get_same hen
                obtain⟨u,hu,hR,_⟩:=hS.hr.ent id _ hfz hlive
                rw[hx]at hu
                have hrd:=hR rfl
                rw[<-Option.some.inj hu,hxv]at hrd
                have hsub:=sub_rd (l:=l'.toNat) (h:=h''.toNat) hinfo hkk hrd (by omega) (by simp only;omega)
                have hpart:Rd P w R1 (.sl (Sl.part en.s l' h'').n (Sl.part en.s l' h'').f) (.sl en.elem) (sliced a0 l'.toNat h''.toNat cap0 i.size):=by
                  have:h''.toNat-l'.toNat=(h''-l').toNat:=by omega
                  rw[this]at hsub
                  exact hsub
                exact⟨_,w, .inl hrun, .sl (freezeId st id).ents.length,_,bl,_,R1,ow1,hS.trans (hS.hr.newRo hpart),htm,hS.hr.ent_last,hd⟩
          · exact hd.elim
    · exact hd.elim
  · exact hd.elim
theorem src_list{e:TypeId}{s:Sl}{ad:Addr}{c:Nat}{ks:List K}(hks:kinds P e=some ks)(hc:Cont P w R e s (.slice (some ad) s.n c))(hn:0<s.n->0<ks.length):
  ∃news:List Value,news.length=s.n*ks.length/\(∀j u,news[j]? =some u->w.cell? (ad.add j)=some u)/\(∀u∈news,u.oneCell'=true)/\
   ∀i j kk,i<s.n->ks[j]? =some kk->∃u,news[i*ks.length+j]? =some u/\Rd P w R (s.f i j) kk u:=by
 obtain⟨a',cap,hv,h1,h2,h3,h4⟩:=hc
 cases hv
 by_cases hz:s.n=0
 ·refine⟨[],by simp[hz],by simp,by simp,fun i j kk hi=>by omega⟩
 ·have hL:0<ks.length:=hn (by omega)
  obtain⟨k0,hk0⟩:∃kk,ks[0]? =some kk:=⟨ks[0],by simp⟩
  obtain⟨ad',_,hA,hspot,_⟩:=h4 ks 0 0 k0 hks (by omega) hk0
  cases hA
  have hget:∀q,q<s.n*ks.length->∃u kk,w.cell? (ad.add q)=some u/\ks[q % ks.length]? =some kk/\Rd P w R (s.f (q/ks.length) (q % ks.length)) kk u:=by
   intro q hq
   have hq1:q/ks.length<s.n:=by rw[Nat.div_lt_iff_lt_mul hL];exact hq
   have hq2:q % ks.length<ks.length:=Nat.mod_lt _ hL
   obtain⟨kk,hkk⟩:∃kk,ks[q % ks.length]? =some kk:=⟨ks[q % ks.length],by simp⟩
   obtain⟨ad',u,hA,_,hc,hd⟩:=h4 ks (q/ks.length) (q % ks.length) kk hks hq1 hkk
   cases hA
   refine⟨u,kk, ?_,hkk,hd⟩
   have he:ad.add q=⟨ad.block,ad.off+(q/ks.length*ks.length+q % ks.length),none⟩:=by
    obtain⟨bb,oo,ss⟩:=ad
    cases hspot
    rw[Addr.add_lit,Nat.mul_comm (q/ks.length),Nat.div_add_mod]
   rw[he];exact hc
  have hnews:∀j u,((List.range (s.n*ks.length)).map fun q=>(w.cell? (ad.add q)).getD undef)[j]? =some u->j<s.n*ks.length/\w.cell? (ad.add j)=some u:=by
   intro j u hj
   simp only[List.getElem?_map,Option.map_eq_some_iff]at hj
   obtain⟨q,hq,rfl⟩:=hj
   have hjl:j<s.n*ks.length:=by
    rcases Nat.lt_or_ge j (s.n*ks.length)with h'|h'
    ·exact h'
    ·rw[List.getElem?_eq_none (by simpa using h')]at hq;cases hq
   rw[List.getElem?_range hjl]at hq
   cases hq
   obtain⟨u,kk,hu,_⟩:=hget j hjl
   exact⟨hjl,by simp[hu]⟩
  refine⟨(List.range (s.n*ks.length)).map fun q=>(w.cell? (ad.add q)).getD undef,by simp,fun j u hj=>(hnews j u hj).2, ?_, ?_⟩
  ·intro u hu
   obtain⟨j,hj⟩:=List.mem_iff_getElem?.1 hu
   obtain⟨hjl,hcu⟩:=hnews j u hj
   obtain⟨u',kk,hu',_,hr⟩:=hget j hjl
   rw[hcu]at hu';cases hu'
   exact hr.one
  ·intro i j kk hi hj
   have hj':j<ks.length:=(List.getElem?_eq_some_iff.1 hj).1
   have hidx:=row_idx (L:=ks.length) (n:=s.n) hi hj'
   obtain⟨ad',u,hA,_,hc,hd⟩:=h4 ks i j kk hks hi hj
   cases hA
   refine⟨u, ?_,hd⟩
   simp only[List.getElem?_map,List.getElem?_range hidx,Option.map_some]
   obtain⟨bb,oo,ss⟩:=ad
   cases hspot
   rw[Addr.add_lit]
   simp only at hc
   rw[hc];rfl
def DstOk(P:Program)(w:World)(R:Nat->Prop)(e:TypeId)(s:Sl)(a:Option Addr)(cap:Nat):Prop:=
 s.n<=min cap 140737488355328/\cap<=maxLen/\(a=none->cap=0)/\(cap=0\/∃(b:Nat)(cs:Array Value),a=some ⟨b,0,none⟩/\w.heap[b]? =some (.cells cs e (0,0))/\
  ∀ks,kinds P e=some ks->cs.size=cap*ks.length/\∀j k kk,j<s.n->ks[k]? =some kk->∃u,cs[j*ks.length+k]? =some u/\Rd P w R (s.f j k) kk u)
theorem append_core{t ty e:TypeId}{d r:Sl}{a:Option Addr}{cap:Nat}{x:Value}{ks:List K}{i:TypeInfo}{z:Value}(he:P.underlying t=some (.slice e))(hks:kinds P e=some ks)(hi:P.info? e=some i)(hsz:i.size=ks.length)(hz:i.zero=some z)(hzs:z.cells.size=ks.length)
  (hL:0<ks.length) (hby:0<i.bytes) (hd:DstOk P w R e d a cap) (hr:Cont P w R e r x) (hbytes:(d.n+r.n)*i.bytes<=140737488355328):
  (r.n=0/\(Builtin.append_ #[t,t] ty #[.slice a d.n cap,x]).run P w= .ok (.slice a d.n cap) w)\/
  (∃b cs cs',a=some ⟨b,0,none⟩/\0<cap/\d.n+r.n<=cap/\w.heap[b]? =some (.cells cs e (0,0))/\(Builtin.append_ #[t,t] ty #[.slice a d.n cap,x]).run P w= .ok (.slice a (d.n+r.n) cap) (w.setRow b cs')/\
   cs'.size=cap*ks.length/\∀j k kk,j<d.n+r.n->ks[k]? =some kk->∃u,cs'[j*ks.length+k]? =some u/\Rd P w R ((Sl.app d r).f j k) kk u)\/
  (∃cap' cs',d.n+r.n<=cap'/\cap'<=maxLen/\(Builtin.append_ #[t,t] ty #[.slice a d.n cap,x]).run P w= .ok (.slice (some ⟨w.heap.size,0,none⟩) (d.n+r.n) cap') (w.drew.alloc (.cells cs' e))/\
   cs'.size=cap'*ks.length/\∀j k kk,j<d.n+r.n->ks[k]? =some kk->∃u,cs'[j*ks.length+k]? =some u/\Rd P w R ((Sl.app d r).f j k) kk u):=by
 obtain⟨h1,h2,h3,h4⟩:=hd
 have hr0:=hr
 obtain⟨ax,capx,rfl,g1,g2,g3,g4⟩:=hr
 have h1m:=h1
 have h1:d.n<=cap:=Nat.le_trans h1 (Nat.min_le_left _ _)
 have g1m:=g1
 have g1:r.n<=capx:=Nat.le_trans g1 (Nat.min_le_left _ _)
 have hsum:d.n+r.n<=140737488355328:=Nat.le_trans (Nat.le_mul_of_pos_right _ hby) hbytes
 by_cases hm:r.n=0
 ·left
  refine⟨hm, ?_⟩
  have hf:(Builtin.firstCells i.size r.n (.slice ax r.n capx)).run P w= .ok #[] w:=by
   cases ax<;>simp[Builtin.firstCells,loadCells,loadCellsFrom,hm]
  have hge:d.n+r.n<=cap:=by omega
  simp only[Builtin.append_,Sem.run_bind,run_underlying he,Result.andThen_ok,run_sizeOf' hi,Builtin.lenOf,Sem.run_pure,List.getElem?_toArray,List.getElem?_cons_zero,List.getElem?_cons_succ]
  simp[hge,hf,hm,storeCells]
  cases a<;>simp[hm,h1,hf,storeCells,Builtin.firstCells,loadCells,loadCellsFrom]
  all_goals(first|done|(cases ax<;>simp[Builtin.firstCells,loadCells,loadCellsFrom,storeCells]))
 ·cases ax with
  |none=>have:=g3 rfl;omega
  | some adx=>
   obtain⟨news,n1,n2,n3,n4⟩:=src_list hks hr0 (fun _=>hL)
   rw[<-hsz]at n1
   have happ:∀(olds:List Value)(rest:List Value),olds.length=d.n*ks.length->(∀j k kk,j<d.n->ks[k]? =some kk->∃u,olds[j*ks.length+k]? =some u/\Rd P w R (d.f j k) kk u)->
     ∀j k kk,j<d.n+r.n->ks[k]? =some kk->∃u,(olds++news++rest)[j*ks.length+k]? =some u/\Rd P w R ((Sl.app d r).f j k) kk u:=by
    intro olds rest ho hold j k kk hj hk
    have hk':k<ks.length:=(List.getElem?_eq_some_iff.1 hk).1
    rw[hsz]at n1
    simp only[Sl.app]
    by_cases hjd:j<d.n
    ·obtain⟨u,hu,hru⟩:=hold j k kk hjd hk
     have:=row_idx (L:=ks.length) hjd hk'
     rw[if_pos hjd]
     refine⟨u, ?_,hru⟩
     rw[List.append_assoc,List.getElem?_append_left (by omega)]
     exact hu
    ·obtain⟨u,hu,hru⟩:=n4 (j-d.n) k kk (by omega) hk
     have h5:=row_idx (L:=ks.length) (n:=r.n) (i:=j-d.n) (j:=k) (by omega) hk'
     have h6:j*ks.length=d.n*ks.length+(j-d.n)*ks.length:=by rw[<-Nat.add_mul];congr 1;omega
     rw[if_neg hjd]
     refine⟨u, ?_,hru⟩
     rw[List.getElem?_append_left (by simp;omega),List.getElem?_append_right (by omega)]
     rw[show j*ks.length+k-olds.length=(j-d.n)*ks.length+k by omega]
     exact hu
   by_cases hroom:d.n+r.n<=cap
   ·right;left
    rcases h4 with h4|⟨b,cs,rfl,hcs,hcont⟩
    ·omega
    ·obtain⟨c1,c2⟩:=hcont ks hks
     have hfit:d.n*i.size+news.length<=cs.size:=by rw[n1,hsz,c1,<-Nat.add_mul];exact Nat.mul_le_mul_right _ hroom
     have hrun:=run_append_room (P:=P) w t ty e i he hi b d.n cap cs hcs adx r.n capx news n1 n2 n3 hroom hfit
     refine⟨b,cs,_,rfl,by omega,hroom,hcs,hrun, ?_, ?_⟩
     ·simp
      omega
     ·have:=happ (cs.toList.take (d.n*i.size)) (cs.toList.drop (d.n*i.size+news.length)) (by rw[hsz];simp;rw[c1];exact Nat.min_eq_left (Nat.mul_le_mul_right _ h1)) (fun j k kk hj hk=>by
       obtain⟨u,hu,hru⟩:=c2 j k kk hj hk
       have:=row_idx (L:=ks.length) hj (List.getElem?_eq_some_iff.1 hk).1
       refine⟨u, ?_,hru⟩
       rw[List.getElem?_take,if_pos (by rw[hsz];omega)]
       simpa using hu)
      intro j k kk hj hk
      obtain⟨u,hu,hru⟩:=this j k kk hj hk
      exact⟨u,by simpa using hu,hru⟩
   ·right;right
    have hcap:=grownCap_ge w (d.n+r.n) cap e
    have hcap2:=grownCap_le_maxLen w (d.n+r.n) cap e (by unfold maxLen;omega)
    have hfits:=growslice_fits (old:=cap) (by omega:cap<d.n+r.n) hbytes
    cases a with
    | none=>
     have hc0:=h3 rfl
     subst hc0
     have hd0:d.n=0:=by omega
     have hrun:=run_append_nil (P:=P) w t ty e i z he hi hz adx r.n capx news n1 n2 (by omega) (by omega) (by rw[hd0,Nat.zero_add]at hbytes;omega)
     refine⟨grownCap w r.n 0 e,_,by rw[hd0,Nat.zero_add];exact grownCap_ge w r.n 0 e,grownCap_le_maxLen w r.n 0 e (by unfold maxLen;omega),by rw[hd0,Nat.zero_add];exact hrun, ?_, ?_⟩
     ·have:=grownCap_ge w r.n 0 e
      simp only[Array.size_append,List.size_toArray,size_zeroCells,n1,hzs,hsz,<-Nat.add_mul]
      congr 1;omega
     ·intro j k kk hj hk
      obtain⟨u,hu,hru⟩:=happ [] (Builtin.zeroCells z.cells (grownCap w r.n 0 e-r.n)).toList (by simp[hd0]) (fun j k kk hj=>by omega) j k kk hj hk
      refine⟨u, ?_,hru⟩
      rw[<-Array.getElem?_toList]
      simpa using hu
    | some adr=>
     have hold:∃olds:List Value,olds.length=d.n*i.size/\(∀j v,olds[j]? =some v->w.cell? (adr.add j)=some v)/\∀j k kk,j<d.n->ks[k]? =some kk->∃u,olds[j*ks.length+k]? =some u/\Rd P w R (d.f j k) kk u:=by
      rcases h4 with h4|⟨b,cs,hab,hcs,hcont⟩
      ·have hd0:d.n=0:=by omega
       exact⟨[],by simp[hd0],by simp,fun j k kk hj=>by omega⟩
      ·cases hab
       obtain⟨c1,c2⟩:=hcont ks hks
       refine⟨cs.toList.take (d.n*i.size),by rw[hsz];simp;rw[c1];exact Nat.min_eq_left (Nat.mul_le_mul_right _ h1),fun j v hj=> ?_,fun j k kk hj hk=> ?_⟩
       ·rw[List.getElem?_take]at hj
        split at hj
        ·rw[Addr.add_lit,Nat.zero_add]
         simp only[World.cell?,hcs]
         simpa using hj
        ·cases hj
       ·obtain⟨u,hu,hru⟩:=c2 j k kk hj hk
        have:=row_idx (L:=ks.length) hj (List.getElem?_eq_some_iff.1 hk).1
        refine⟨u, ?_,hru⟩
        rw[List.getElem?_take,if_pos (by rw[hsz];omega)]
        simpa using hu
     obtain⟨olds,o1,o2,o3⟩:=hold
     have hrun:=run_append_grow (P:=P) w t ty e i z he hi hz adr d.n cap olds o1 o2 adx r.n capx news n1 n2 (by omega) (by omega) hfits
     refine⟨grownCap w (d.n+r.n) cap e,_,hcap,hcap2,hrun, ?_, ?_⟩
     ·simp only[Array.size_append,List.size_toArray,size_zeroCells,o1,n1,hzs,hsz,<-Nat.add_mul]
      congr 1;omega
     ·intro j k kk hj hk
      obtain⟨u,hu,hru⟩:=happ olds (Builtin.zeroCells z.cells (grownCap w (d.n+r.n) cap e-(d.n+r.n))).toList (by rw[<-hsz];exact o1) o3 j k kk hj hk
      refine⟨u, ?_,hru⟩
      rw[<-Array.getElem?_toList]
      simpa using hu
theorem HR.setRowDead(h:HR P w0 R0 bl vs R ow st.boxes st.ents w){id b:Nat}{en:Ent (sem T)}{cs:Array Value}{cs':Array Value}{e:TypeId}(hen:st.ents[id]? =some en)(hd:en.live=false)(ho:ow b=some (.ent id))(_hw:w.heap[b]? =some (.cells cs e (0,0))):
  HR P w0 R0 bl vs R ow st.boxes st.ents (w.setRow b cs'):=by
 have hR:∀x,R x->(w.setRow b cs').heap[x]? =w.heap[x]? :=fun x hx=>setRow_other w b x cs' (fun e=>by rw[e]at hx;rw[h.ro b hx]at ho;cases ho)
 exact{
  below:=h.below.trans ⟨by simp,by simp,by simp,by simp,fun x hx=>setRow_other w b x cs' (fun e=>by have:=(h.olt b _ ho).1;omega)⟩
  rlt:=fun x hx=>by simpa using h.rlt x hx
  r0:=h.r0
  rsub:=h.rsub
  ro:=h.ro
  olt:=fun x q hx=>by simpa using h.olt x q hx
  nb:=h.nb
  nv:=h.nv
  vsl:=h.vsl
  glb:=h.glb
  box:=fun j bj hj hlj=>by
   obtain⟨b2,cs2,h1,h2,h3,h4⟩:=h.box j bj hj hlj
   have hne2:b2≠b:=fun e=>by rw[e,ho]at h2;cases h2
   exact⟨b2,cs2,h1,h2,(setRow_other w b b2 cs' hne2).trans h3,h4⟩
  ent:=fun j e hj hlj=>by
   obtain⟨u,hu,h1,h2⟩:=h.ent j e hj hlj
   refine⟨u,hu,fun hown=>(h1 hown).mono (fun _ x=>x) hR,fun hown=>(h2 hown).mono (fun _ x=>x) hR (fun x hx=>⟨hx,setRow_other w b x cs' (fun e=> ?_)⟩)⟩
   rw[e,ho]at hx
   cases hx
   rw[hen]at hj;cases hj
   rw[hd]at hlj;cases hlj
  mrk:=fun x hx=>(setRow_other w b x cs' (fun e=>by rw[e,ho]at hx;cases hx)).trans (h.mrk x hx)
  lp:=fun j L hj=>by
   obtain⟨bj,x,g1,g2,g3,g4,g5⟩:=h.lp j L hj
   have hxb:x≠b:=fun e=>by rw[e,ho]at g4;cases g4
   exact⟨bj,x,g1,g2,g3,g4,g5.mono (setRow_other w b x cs' hxb) (fun _ _ x=>x) (fun _ _ x=>x)⟩}
theorem dst_inv(h:HR P w0 R0 bl vs R ow st.boxes st.ents w){e:TypeId}{x:SV (sem T)}{d:Sl}{id? :Option Nat}(hd:dstOf st e x=some (d,id?)){v:Value}(hv:SVR bl vs x v):
  (∃id en,id? =some id/\st.ents[id]? =some en/\en.live=true/\en.own=true/\en.elem=e/\en.s=d/\∃a cap,v= .slice a d.n cap/\vs[id]? =some v/\DstOk P w R e d a cap/\(∀b,a=some ⟨b,0,none⟩->0<cap->ow b=some (.ent id)))\/
  (id? =none/\d=Sl.nil/\v= .slice none 0 0):=by
 unfold dstOf at hd
 split at hd
 ·rename_i id
  split at hd
  ·rename_i en hen
   split at hd
   ·rename_i hc
    simp only[Bool.and_eq_true,beq_iff_eq,Bool.not_eq_true']at hc
    obtain⟨⟨hlive,hown⟩,rfl,hm⟩:=hc
    cases hd
    left
    obtain⟨u,hu,_,hO⟩:=h.ent id en hen hlive
    have hv:vs[id]? =some v:=hv
    rw[hv]at hu
    obtain⟨a,cap,rfl,h1,h2,h3,h4⟩:=(hO hown).1 hm
    refine⟨id,en,rfl,hen,hlive,hown,rfl,rfl,a,cap,Option.some.inj hu,hv,⟨h1,h2,h3, ?_⟩, ?_⟩
    ·rcases h4 with h4|⟨b,cs,hab,hob,hcs,hcont⟩
     ·exact .inl h4
     ·exact .inr ⟨b,cs,hab,hcs,hcont⟩
    ·intro b hb hpos
     rcases h4 with h4|⟨b',cs,hab,hob,hcs,hcont⟩
     ·omega
     ·rw[hb]at hab
      cases hab
      exact hob
   ·cases hd
  ·cases hd
 ·cases hd
  exact .inr ⟨rfl,rfl,hv⟩
 ·cases hd
theorem src_inv(h:HR P w0 R0 bl vs R ow st.boxes st.ents w){e:TypeId}{x:SV (sem T)}{r:Sl}(hd:srcOf st e x=some r){v:Value}(hv:SVR bl vs x v):Cont P w R e r v:=by
 unfold srcOf at hd
 split at hd
 ·rename_i id
  split at hd
  ·rename_i en hen
   split at hd
   ·rename_i hc
    simp only[Bool.and_eq_true,beq_iff_eq,Bool.not_eq_true']at hc
    obtain⟨hlive,rfl,hm⟩:=hc
    cases hd
    obtain⟨u,hu,hcont⟩:=h.look.ent id en hen hlive
    have hv:vs[id]? =some v:=hv
    rw[hv]at hu;cases hu
    exact hcont.1 hm
   ·cases hd
  ·cases hd
 ·cases hd
  have hv:v= .slice none 0 0:=hv
  subst hv
  exact⟨none,0,rfl,Nat.le_refl _,Nat.zero_le _,fun _=>rfl,fun ks i j kk _ hi=>absurd hi (Nat.not_lt_zero _)⟩
 ·cases hd
theorem zeroCells_get{zero:Array Value}{n j q:Nat}(hj:j<n)(hq:q<zero.size):(Builtin.zeroCells zero n)[j*zero.size+q]? =zero[q]? :=by
 have hlt:j*zero.size+q<n*zero.size:=row_idx hj hq
 have hm:(j*zero.size+q) % zero.size=q:=by rw[Nat.mul_comm,Nat.mul_add_mod,Nat.mod_eq_of_lt hq]
 simp[Builtin.zeroCells,hlt,hm,hq]
theorem run_append_nil_zero0{P:Program}(w:World)(t tn ty e:TypeId)(i:TypeInfo)(k kn:IntKind)(ht:P.underlying t=some (.slice e))(htn:P.underlying tn=some (.int kn))(hi:P.info? e=some i):
  (Builtin.append_ #[t,tn] ty #[.slice none 0 0, .int k 0]).run P w= .ok (.slice none 0 0) w:=by
 have hw:IntKind.i64.wrap 0=0:=by rw[IntKind.wrap_i64];omega
 simp[Builtin.append_,run_underlying ht,run_underlying htn,sizeOf,typeInfo,hi,asInt,asIntOf,hw]
theorem eff_appendZ(h:HR P w0 R0 bl vs R ow st.boxes st.ents w)(ht:TR bl vs st.tmps a){s x:Operand}{ts tx e:TypeId}(ho:o.op= .call {callee:= .builtin .append,args:= #[s,x],argTypes:= #[ts,tx]})(he:elemOf? P ts=some e)(hd:(eAppendZ P st s x ts tx e k).den):EffOk P w0 R0 bl vs ow st a w o k:=by
 unfold eAppendZ at hd
 have hs:=ev_sound ht s
 have hx:=ev_sound ht x
 split at hd
 ·rename_i n z by_ hss hxx hz hby
  rw[hss]at hs
  rw[hxx]at hx
  obtain⟨n',rfl⟩:∃i':Int,i'=n:=⟨n,rfl⟩
  split at hd
  ·rename_i hc
   simp only[Bool.and_eq_true,decide_eq_true_eq]at hc
   obtain⟨hby0,hint,hposK⟩:=hc
   obtain⟨kn,hkn⟩:∃kn,P.underlying tx=some (.int kn):=by
    unfold isIntT at hint
    split at hint
    ·exact⟨_,by assumption⟩
    ·cases hint
   obtain⟨hns,hk⟩:=needs_den.1 hd
   simp only[List.mem_cons,List.not_mem_nil,or_false,forall_eq_or_imp,forall_eq,sem,arithS]at hns
   obtain⟨h0,h2⟩:=hns
   obtain⟨ks,i,v,hks,hi,hsz,hzv,hvs,hzl,hzc⟩:=zeroCls_inv h hz
   obtain⟨i2,hi2,hbb⟩:=bytes_inv hby
   rw[hi]at hi2;cases hi2
   simp only[posK,hks,Bool.and_eq_true,decide_eq_true_eq,Bool.not_eq_true']at hposK
   obtain⟨hL,hmE⟩:=hposK
   have hcmax:n'<=9223372036854775807:=by have:=hx.2.2;simpa[IntKind.max,IntKind.signed,IntKind.bits]using this
   have hsv:a.eval s= .slice none 0 0:=hs
   have hxv:a.eval x= .int .i64 n':=hx.1
   have hrunOf:∀v w',(Builtin.append_ #[ts,tx] o.type #[a.eval s,a.eval x]).run P w= .ok v w'->(execOp a.eval o).run P w= .ok (.value v) w':=by
    intro v w' hr
    simp[execOp,ho,resolve,invoke,builtin,hr]
   by_cases hn0:n'=0
   ·subst hn0
    have hr:=run_append_nil_zero0 (P:=P) w ts tx o.type e i .i64 kn (elem_inv he) hkn hi
    rw[<-hxv,<-hsv]at hr
    obtain⟨ow',hP,hmk⟩:=h.pushOwn (e:=e) hmE (s:=Sl.rep 0 (z.map Cl.toD)) (v:= .slice none 0 0) (a:=none) (cap:=0) (by simp[Sl.rep]) (by simp[Sl.rep]) (Nat.zero_le _) (fun _=>rfl) (.inl rfl)
    refine⟨_,w, .inl (hrunOf _ _ hr), .sl st.ents.length,addEnt st e (Sl.rep 0 (z.map Cl.toD)) true,bl,_,R,ow',⟨hP,fun _ _ x=>x,fun _ _=>get_append_lt,Ext.of_append (nb:=[]) (ne:=[⟨e,Sl.rep 0 (z.map Cl.toD),true,true,0⟩]) (by simp[addEnt]) rfl,hmk⟩,rfl, ?_,hk⟩
    show _=_
    rw[hsv]
    exact h.ent_last
   ·obtain⟨m,rfl⟩:∃m:Nat,n'=(m:Int):=⟨n'.toNat,by omega⟩
    have hm:0<m:=by omega
    have hbytes:m*i.bytes<=140737488355328:=by
     have h1:((m*i.bytes:Nat):Int)<=140737488355328:=by
      rw[Int.natCast_mul];subst hbb;exact h2
     omega
    have hm47:m<=140737488355328:=Nat.le_trans (Nat.le_mul_of_pos_right _ (by omega)) hbytes
    have hr:=Lib.run_append_nil_zeros (P:=P) w ts tx o.type e i v .i64 kn (elem_inv he) hkn hi hzv m hm (by rw[hsz];exact hL) (by omega) (by omega)
    rw[<-hxv,<-hsv]at hr
    have hcap:=grownCap_ge w m 0 e
    have hcap2:=grownCap_le_maxLen w m 0 e (by unfold maxLen;omega)
    obtain⟨ow',hO⟩:=h.newOwn (e:=e) hmE (s:=Sl.rep (m:Int) (z.map Cl.toD)) (cap:=grownCap w m 0 e) (cs:=Builtin.zeroCells v.cells m++Builtin.zeroCells v.cells (grownCap w m 0 e-m)) (w1:=w.drew.alloc (.cells (Builtin.zeroCells v.cells m++Builtin.zeroCells v.cells (grownCap w m 0 e-m)) e))
     ((Below.drew (Below.refl _ _)).alloc (by simp) _) (heap_alloc_new w.drew _) (by simp only[Sl.rep,Int.toNat_natCast];omega) hcap2
     (fun ks2 hks2=>by
      rw[hks]at hks2;cases hks2
      refine⟨?_,fun j q kk hj hq=> ?_⟩
      ·simp only[Array.size_append,size_zeroCells,hvs,<-Nat.add_mul]
       congr 1;omega
      ·obtain⟨cl,u,hcl,hu,hr⟩:=hzc q kk hq
       have hq':q<ks.length:=(List.getElem?_eq_some_iff.1 hq).1
       have hj':j<m:=by simpa[Sl.rep]using hj
       have hlt:=row_idx (L:=ks.length) hj' hq'
       refine⟨u, ?_, ?_⟩
       ·rw[Array.getElem?_append_left (by rw[size_zeroCells,hvs];exact hlt)]
        have:=zeroCells_get (zero:=v.cells) (n:=m) hj' (q:=q) (by rw[hvs];exact hq')
        rw[hvs]at this
        rw[this];exact hu
       ·simp only[Sl.rep]
        rw[List.getD_eq_getElem?_getD,List.getElem?_map,hcl]
        exact hr)
    refine⟨_,_, .inl (hrunOf _ _ hr), .sl st.ents.length,_,bl,_,R,ow',hO,rfl, ?_,hk⟩
    show _=_
    have:=h.ent_last (v:= .slice (some ⟨w.heap.size,0,none⟩) (Sl.rep (m:Int) (z.map Cl.toD)).n (grownCap w m 0 e))
    simpa[Sl.rep]using this
  ·exact hd.elim
 ·exact hd.elim
theorem eff_append(h:HR P w0 R0 bl vs R ow st.boxes st.ents w)(ht:TR bl vs st.tmps a){args:Array Operand}{argTypes:Array TypeId}(ho:o.op= .call {callee:= .builtin .append,args,argTypes})(hd:(eAppend P st args argTypes k).den):EffOk P w0 R0 bl vs ow st a w o k:=by
 unfold eAppend at hd
 split at hd
 ·rename_i s x ts tx hargs htys
  have hargs':args= #[s,x]:=by rw[<-Array.toList_inj];exact hargs
  have htys':argTypes= #[ts,tx]:=by rw[<-Array.toList_inj];exact htys
  subst hargs' htys'
  have hs:=ev_sound ht s
  have hx:=ev_sound ht x
  split at hd
  ·rename_i e he
   split at hd
   ·exact eff_appendZ h ht ho he hd
   ·rename_i htt
    have htt:ts=tx:=by simpa using htt
    subst htt
    split at hd
    ·rename_i d id? r by_ z hdst hsrc hby hz
     split at hd
     ·rename_i hc
      simp only[Bool.and_eq_true]at hc
      obtain⟨hbpos,hposK⟩:=hc
      have hdd:=(needs_den.1 hd).2
      have hns:=(needs_den.1 hd).1
      clear hd
      simp only[List.mem_singleton,forall_eq,sem,arithS,Sl.len]at hns
      obtain⟨ks,i,zv,hks,hi,hsz,hzv,hzs,_,_⟩:=zeroCls_inv h hz
      obtain⟨i2,hi2,hbb⟩:=bytes_inv hby
      rw[hi]at hi2;cases hi2
      subst hbb
      have hbytes:(d.n+r.n)*i.bytes<=140737488355328:=by
       have h1:(((d.n+r.n)*i.bytes:Nat):Int)<=140737488355328:=by
        rw[Int.natCast_mul,Int.natCast_add]
        exact hns
       omega
      simp only[posK,hks,Bool.and_eq_true,decide_eq_true_eq,Bool.not_eq_true']at hposK
      obtain⟨hL,hm⟩:=hposK
      have hbpos:0<i.bytes:=by simpa using hbpos
      have hcont:=src_inv h hsrc hx
      have hrunOf:∀v w',(Builtin.append_ #[ts,ts] o.type #[a.eval s,a.eval x]).run P w= .ok v w'->(execOp a.eval o).run P w= .ok (.value v) w':=by
       intro v w' hr
       simp[execOp,ho,resolve,invoke,builtin,hr]
      rcases dst_inv h hdst hs with⟨id,en,rfl,hen,hlive,hown,rfl,rfl,a0,cap,hv0,hvid,hdok,hobk⟩|⟨rfl,rfl,hv0⟩
      ·have hcore:=append_core (P:=P) (w:=w) (R:=R) (ty:=o.type) (elem_inv he) hks hi hsz hzv hzs hL hbpos hdok hcont hbytes
       rw[<-hv0]at hcore
       obtain⟨hK,hKt,hKl,hKd⟩:=h.kill id
       obtain⟨en',hen',hdead⟩:=hKd en hen
       rcases hcore with⟨hr0,hrun⟩|⟨b,cs,cs',hab,hcpos,hroom,hcs,hrun,hsize,hcell⟩|⟨cap',cs',hc1,hc2,hrun,hsize,hcell⟩
       ·obtain⟨a1,cap1,ow',hv1,hS⟩:=h.moveOwn hen hlive hown hm (s':=Sl.app en.s r) (by simp[Sl.app,hr0]) (fun j q hj=>by simp only[Sl.app,hr0,Nat.add_zero]at hj⊢;rw[if_pos hj])
        rw[hvid,hv0]at hv1
        cases hv1
        refine⟨_,w, .inl (hrunOf _ _ hrun), .sl (killEnt st id).ents.length,_,bl,_,R,ow',hS,hKt, ?_,hdd⟩
        show _=_
        rw[hKl,hv0,show(Sl.app en.s r).n=en.s.n by simp[Sl.app,hr0]]
        exact h.ent_last
       ·have hob:=hobk b hab hcpos
        have hB:HR P w0 R0 bl vs R ow (killEnt st id).boxes (killEnt st id).ents (w.setRow b cs'):=hK.hr.setRowDead hen' hdead hob hcs
        have hRn:∀q,R q->(w.setRow b cs').heap[q]? =w.heap[q]? :=fun q hq=>setRow_other w b q cs' (fun e=>by rw[e]at hq;rw[h.ro b hq]at hob;cases hob)
        obtain⟨ow',hP,hmk⟩:=hB.pushOwn (e:=en.elem) hm (s:=Sl.app en.s r) (a:=a0) (cap:=cap) rfl (by simp only[Sl.app];have:=Nat.le_trans (Nat.le_mul_of_pos_right _ hbpos) hbytes;omega) hdok.2.1 hdok.2.2.1
         (.inr ⟨b,cs',hab,(h.olt b _ hob).1,(fun hr=>by rw[h.ro b hr]at hob;cases hob),(fun q hq=>by rw[hob]at hq;cases hq),(fun _ _ hq=>by rw[hob]at hq;cases hq),(fun q en2 hq hq2=>by
          rw[hob]at hq;cases hq
          rw[hen']at hq2;cases hq2
          exact .inl hdead),setRow_heap w b cs cs' _ _ hcs,fun ks2 hks2=>by
           rw[hks]at hks2;cases hks2
           refine⟨hsize,fun j q kk hj hq=> ?_⟩
           obtain⟨u,hu,hru⟩:=hcell j q kk hj hq
           exact⟨u,hu,hru.mono (fun _ x=>x) hRn⟩⟩)
        refine⟨_,_, .inl (hrunOf _ _ hrun), .sl (killEnt st id).ents.length,addEnt (killEnt st id) en.elem (Sl.app en.s r) true,bl,_,R,ow',⟨hP,fun _ _ x=>x,fun _ _=>get_append_lt,hK.ext.trans (Ext.of_append (nb:=[]) (ne:=[⟨en.elem,Sl.app en.s r,true,true,0⟩]) (by simp[addEnt]) rfl),hmk⟩,hKt, ?_,hdd⟩
        show _=_
        rw[hKl]
        exact h.ent_last
       ·obtain⟨ow',hO⟩:=hK.hr.newOwn (e:=en.elem) hm (s:=Sl.app en.s r) (cap:=cap') (cs:=cs') (w1:=w.drew.alloc (.cells cs' en.elem)) ((Below.drew (Below.refl _ _)).alloc (by simp) _) (heap_alloc_new w.drew _) (by have:=Nat.le_trans (Nat.le_mul_of_pos_right _ hbpos) hbytes;simp only[Sl.app];omega) hc2
         (fun ks2 hks2=>by rw[hks]at hks2;cases hks2;exact⟨hsize,hcell⟩)
        refine⟨_,_, .inl (hrunOf _ _ hrun), .sl (killEnt st id).ents.length,_,bl,_,R,ow',hK.trans hO,hKt, ?_,hdd⟩
        show _=_
        rw[hKl]
        exact h.ent_last
      ·have hdok:DstOk P w R e Sl.nil none 0:=⟨Nat.le_refl _,Nat.zero_le _,fun _=>rfl, .inl rfl⟩
       have hcore:=append_core (P:=P) (w:=w) (R:=R) (ty:=o.type) (elem_inv he) hks hi hsz hzv hzs hL hbpos hdok hcont hbytes
       have hv0':a.eval s= .slice none (Sl.nil).n 0:=hv0
       rw[<-hv0']at hcore
       rcases hcore with⟨hr0,hrun⟩|⟨b,cs,cs',hab,hcpos,hroom,hcs,hrun,hsize,hcell⟩|⟨cap',cs',hc1,hc2,hrun,hsize,hcell⟩
       ·obtain⟨ow',hP,hmk⟩:=h.pushOwn (e:=e) hm (s:=Sl.app Sl.nil r) (v:= .slice none 0 0) (a:=none) (cap:=0) (by simp[Sl.app,Sl.nil,hr0]) (by simp[Sl.app,Sl.nil,hr0]) (Nat.zero_le _) (fun _=>rfl) (.inl rfl)
        refine⟨_,w, .inl (hrunOf _ _ hrun), .sl st.ents.length,addEnt st e (Sl.app Sl.nil r) true,bl,_,R,ow',⟨hP,fun _ _ x=>x,fun _ _=>get_append_lt,Ext.of_append (nb:=[]) (ne:=[⟨e,Sl.app Sl.nil r,true,true,0⟩]) (by simp[addEnt]) rfl,hmk⟩,rfl, ?_,hdd⟩
        show _=_
        rw[hv0]
        exact h.ent_last
       ·cases hab
       ·obtain⟨ow',hO⟩:=h.newOwn (e:=e) hm (s:=Sl.app Sl.nil r) (cap:=cap') (cs:=cs') (w1:=w.drew.alloc (.cells cs' e)) ((Below.drew (Below.refl _ _)).alloc (by simp) _) (heap_alloc_new w.drew _) (by have:=Nat.le_trans (Nat.le_mul_of_pos_right _ hbpos) hbytes;simp only[Sl.app];omega) hc2
         (fun ks2 hks2=>by rw[hks]at hks2;cases hks2;exact⟨hsize,hcell⟩)
        exact⟨_,_, .inl (hrunOf _ _ hrun), .sl st.ents.length,_,bl,_,R,ow',hO,rfl,h.ent_last,hdd⟩
     ·exact hd.elim
    ·exact hd.elim
  ·exact hd.elim
 ·exact hd.elim
theorem eff_nil(h:HR P w0 R0 bl vs R ow st.boxes st.ents w)(ht:TR bl vs st.tmps a){neq:Bool}{t u:TypeId}{x y:Operand}(ho:o.op= .binOp (if neq then .neq else .eql) t x y u)(hd:(eNil P st neq t x y k).den):EffOk P w0 R0 bl vs ow st a w o k:=by
 unfold eNil at hd
 have hS:Stp P w0 R0 bl vs ow st bl vs R ow st w:=(Stp.refl h)
 have hx:=ev_sound ht x
 have hy:=ev_sound ht y
 have run:∀(e:TypeId)(ad:Option Addr)(n c:Nat),P.underlying t=some (.slice e)->a.eval x= .slice ad n c->a.eval y= .slice none 0 0->(execOp a.eval o).run P w= .ok (.value (.bool (if neq then !ad.isNone else ad.isNone))) w:=by
  intro e ad n c hu hxv hyv
  cases neq with
  |false=>simp only[execOp,ho,hxv,hyv,Bool.false_eq_true,if_false,eqGuard_at_slice,Sem.run_bind,Sem.run_pure,Result.andThen_ok,Lib.run_eql_slice_nil w t e ad n c 0 0 hu]
  |true=>simp only[execOp,ho,hxv,hyv,if_true,eqGuard_at_slice,Sem.run_bind,Sem.run_pure,Result.andThen_ok,run_neq_slice_nil_any w t e ad n c 0 0 hu]
 split at hd
 ·rename_i e id he hxx hyy
  rw[hxx]at hx
  rw[hyy]at hy
  have hyv:a.eval y= .slice none 0 0:=hy
  split at hd
  ·rename_i en hen
   split at hd
   ·rename_i hlive
    simp only[Bool.and_eq_true,Bool.not_eq_true']at hlive
    obtain⟨hlive,hm⟩:=hlive
    have hxs:vs[id]? =some (a.eval x):=hx
    obtain⟨v,hv,hc⟩:=h.look.ent id en hen hlive
    rw[hxs]at hv;cases hv
    obtain⟨ad,cap,hxv,h1,h2,h3,_⟩:=hc.1 hm
    have hd:=hd ad.isNone
    refine⟨_,w, .inl (run e ad _ _ (elem_inv he) hxv hyv), .blit (if neq then !ad.isNone else ad.isNone),st,bl,vs,R,ow,hS,rfl,rfl, ?_⟩
    cases ad with
    |none=>
     have hd:=hd.1 rfl
     have hn:en.s.n=0:=by have:=h3 rfl;omega
     have hd:=hd (by show(Sl.len en.s:Int)<=0;simp[Sl.len,hn])
     cases neq<;>exact hd
    |some ad=>
     have hd:=hd.2 (by simp)
     cases neq<;>exact hd
   ·exact hd.elim
  ·exact hd.elim
 ·rename_i e he hxx hyy
  rw[hxx]at hx
  rw[hyy]at hy
  have hxv:a.eval x= .slice none 0 0:=hx
  have hyv:a.eval y= .slice none 0 0:=hy
  refine⟨_,w, .inl (run e none _ _ (elem_inv he) hxv hyv), .blit (!neq),st,bl,vs,R,ow,hS,rfl, ?_,hd⟩
  cases neq<;>rfl
 ·exact hd.elim
theorem pickTree_den{i:Int}{f:Nat->Tree (sem T)}:∀{m j:Nat},(pickTree (A:=sem T) i f j m).den->(j:Int)<=i->i<(j:Int)+m->(f i.toNat).den
 |0,j,h,_,_=>h.elim
 |1,j,h,h0,h1=>by
  have:i.toNat=j:=by omega
  rw[this];exact h
 | m+2,j,h,h0,h1=>by
  have h:((i=(j:Int))->(f j).den)/\(¬(i=(j:Int))->(pickTree (A:=sem T) i f (j+1) (m+1)).den):=h
  by_cases e:i=(j:Int)
  ·have:i.toNat=j:=by omega
   rw[this];exact h.1 e
  ·exact pickTree_den (h.2 e) (by omega) (by omega)
theorem eff_indexAgg(h:HR P w0 R0 bl vs R ow st.boxes st.ents w)(ht:TR bl vs st.tmps a){t:TypeId}{x ix:Operand}(ho:o.op= .index t x ix)(hd:(eIndexAgg P st t x ix k).den):EffOk P w0 R0 bl vs ow st a w o k:=by
 unfold eIndexAgg at hd
 have hx:=ev_sound ht x
 have hi:=ev_sound ht ix
 split at hd
 ·rename_i n e l kk i hu hxx hii
  rw[hxx]at hx
  rw[hii]at hi
  obtain⟨q,rfl⟩:∃q:Int,q=i:=⟨i,rfl⟩
  obtain⟨cs,hv,hcs⟩:=hx
  split at hd
  ·rename_i sz hsz
   split at hd
   ·rename_i hc
    simp only[Bool.and_eq_true,beq_iff_eq,decide_eq_true_eq]at hc
    obtain⟨⟨hlen,hpos⟩,hue⟩:=hc
    obtain⟨hns,hd⟩:=needs_den.1 hd
    simp only[List.mem_cons,List.not_mem_nil,or_false,forall_eq_or_imp,forall_eq,sem]at hns
    obtain⟨h0,h1⟩:=hns
    have hd:=pickTree_den hd (by omega) (by omega)
    have hjn:q.toNat<n:=by omega
    obtain⟨inf,hinf,rfl⟩:=size_inv hsz
    obtain⟨d,hdd⟩:=Option.isSome_iff_exists.1 hue
    have hl:=hcs.length
    have hle:q.toNat*inf.size+inf.size<=l.length:=by
     rw[hlen,<-Nat.succ_mul]
     exact Nat.mul_le_mul_right _ hjn
    have hpart:(execOp a.eval o).run P w=((Instr.index t (.agg cs) (.int kk q)).run P w).andThen fun v w=> .ok (.value v) w:=by
     simp only[execOp,ho,hv,hi.1,Sem.run_bind,Sem.run_pure]
    have hidx:(Instr.index t (.agg cs) (.int kk q)).run P w=(part e cs (q.toNat*inf.size)).run P w:=by
     simp only[Instr.index,asIntOf,Sem.run_bind,Sem.run_pure,Result.andThen_ok,run_underlying hu,if_pos (show 0<=q/\q<(n:Int)from⟨h0,h1⟩),run_sizeOf' hinf]
    split at hd
    ·rename_i v hp
     rcases pack_inv hp with⟨ha,rfl⟩|⟨ha,hl1⟩
     ·refine⟨.agg (cs.extract (q.toNat*inf.size) (q.toNat*inf.size+inf.size)),w, .inl ?_, .agg ((l.drop (q.toNat*inf.size)).take inf.size),st,bl,vs,R,ow,Stp.refl h,rfl,⟨_,rfl, ?_⟩,hd⟩
      ·rw[hpart,hidx]
       simp only[part,Sem.run_bind,isAgg_run e hdd,ha,Result.andThen_ok,if_true,run_sizeOf' hinf,Sem.run_pure]
      ·have:=(hcs.drop (q.toNat*inf.size)).take inf.size
       simpa[List.extract_eq_take_drop]using this
     ·have hg:l[q.toNat*inf.size]? =some v:=by
       have:=congrArg (·[0]?) hl1
       simp[List.getElem?_take]at this
       exact this.2
      obtain⟨y,hy,hs⟩:=hcs.get hg
      simp only[Array.getElem?_toList]at hy
      refine⟨y,w, .inl ?_,_,st,bl,vs,R,ow,Stp.refl h,rfl,hs,hd⟩
      rw[hpart,hidx]
      simp only[part,Sem.run_bind,isAgg_run e hdd,ha,Result.andThen_ok,Bool.false_eq_true,if_false,hy,Sem.run_pure]
    ·exact hd.elim
   ·exact hd.elim
  ·exact hd.elim
 ·exact hd.elim
theorem add_none{b off:Nat}(n:Nat):(⟨b,off,none⟩:Addr).add n=⟨b,off+n,none⟩:=by
 simp[Addr.add_lit]
theorem eff_indexBox(h:HR P w0 R0 bl vs R ow st.boxes st.ents w)(ht:TR bl vs st.tmps a){t:TypeId}{x ix:Operand}(ho:o.op= .indexAddr t x ix)(hd:(eIndexBox P st t x ix k).den):EffOk P w0 R0 bl vs ow st a w o k:=by
 unfold eIndexBox at hd
 have hx:=ev_sound ht x
 have hi:=ev_sound ht ix
 split at hd
 ·rename_i n e b off kk i hu hxx hii
  rw[hxx]at hx
  rw[hii]at hi
  obtain⟨q,rfl⟩:∃q:Int,q=i:=⟨i,rfl⟩
  obtain⟨b',hb',hv⟩:=hx
  split at hd
  ·rename_i sz hsz
   split at hd
   ·obtain⟨hns,hd⟩:=needs_den.1 hd
    simp only[List.mem_cons,List.not_mem_nil,or_false,forall_eq_or_imp,forall_eq,sem]at hns
    obtain⟨h0,h1⟩:=hns
    have hd:=pickTree_den hd (by omega) (by omega)
    obtain⟨inf,hinf,rfl⟩:=size_inv hsz
    refine⟨.pointer (some ⟨b',off+q.toNat*inf.size,none⟩),w, .inl ?_, .ptr b (off+q.toNat*inf.size),st,bl,vs,R,ow,Stp.refl h,rfl,⟨b',hb',rfl⟩,hd⟩
    simp only[execOp,ho,hv,hi.1,Sem.run_bind,Instr.indexAt,Instr.sureAddr,asIntOf,Sem.run_pure,Result.andThen_ok,run_underlying hu,Sem.run_ite,h0,h1,and_self,if_true,run_sizeOf' hinf,add_none]
   ·exact hd.elim
  ·exact hd.elim
 ·exact hd.elim
theorem eff_indexFns(h:HR P w0 R0 bl vs R ow st.boxes st.ents w)(ht:TR bl vs st.tmps a){t:TypeId}{x ix:Operand}(ho:o.op= .indexAddr t x ix)(hd:(eIndexFns P st t x ix k).den):EffOk P w0 R0 bl vs ow st a w o k:=by
 unfold eIndexFns at hd
 have hx:=ev_sound ht x
 have hi:=ev_sound ht ix
 split at hd
 ·rename_i e b n kk i hu hxx hii
  rw[hxx]at hx
  rw[hii]at hi
  obtain⟨q,rfl⟩:∃q:Int,q=i:=⟨i,rfl⟩
  obtain⟨b',hb',hv⟩:=hx
  split at hd
  ·rename_i sz hsz
   obtain⟨hns,hd⟩:=needs_den.1 hd
   simp only[List.mem_cons,List.not_mem_nil,or_false,forall_eq_or_imp,forall_eq,sem]at hns
   obtain⟨h0,h1⟩:=hns
   have hd:=pickTree_den hd (by omega) (by omega)
   obtain⟨inf,hinf,hone⟩:=size_inv hsz
   have hq:(⟨b',0,none⟩:Addr).add (q.toNat*inf.size)=⟨b',q.toNat*sz,none⟩:=by rw[add_none,hone];simp
   refine⟨.pointer (some ⟨b',q.toNat*sz,none⟩),w, .inl ?_, .ptr b (q.toNat*sz),st,bl,vs,R,ow,Stp.refl h,rfl,⟨b',hb',rfl⟩,hd⟩
   simp only[execOp,ho,hv,hi.1,Sem.run_bind,Instr.indexAt,Instr.sureAddr,asIntOf,Sem.run_pure,Result.andThen_ok,run_underlying (elem_inv hu),Sem.run_ite,h0,h1,and_self,if_true,run_sizeOf' hinf,hq]
  ·exact hd.elim
 ·exact hd.elim
theorem flat_get{α β:Type}{f:α->List β}{L:Nat}:∀{l:List α}{i:Nat}{y:β},(∀p∈l,(f p).length=L)->(l.flatMap f)[i]? =some y->∃j q p,i=j*L+q/\q<L/\l[j]? =some p/\(f p)[q]? =some y
 |[],i,y,_,h=>by simp at h
 | p::l,i,y,hl,h=>by
  have hp:=hl p (by simp)
  by_cases c:i<L
  ·refine⟨0,i,p,by simp,c,rfl, ?_⟩
   rw[List.flatMap_cons,List.getElem?_append_left (by omega)]at h
   exact h
  ·rw[List.flatMap_cons,List.getElem?_append_right (by omega),hp]at h
   obtain⟨j,q,p',h1,h2,h3,h4⟩:=flat_get (fun p' hp'=>hl p' (by simp[hp'])) h
   exact⟨j+1,q,p',by rw[Nat.succ_mul];omega,h2,by simpa using h3,h4⟩
theorem flat_len{α β:Type}{f:α->List β}{L:Nat}:∀{l:List α},(∀p∈l,(f p).length=L)->(l.flatMap f).length=l.length*L
 |[],_=>by simp
 |p::l,hl=>by
  rw[List.flatMap_cons,List.length_append,hl p (by simp),flat_len (fun p' hp'=>hl p' (by simp[hp'])),List.length_cons,Nat.succ_mul]
  omega
theorem eff_buildFns(h:HR P w0 R0 bl vs R ow st.boxes st.ents w)(ht:TR bl vs st.tmps a){t:TypeId}{len:Nat}{parts:Array (Nat×Operand)}(ho:o.op= .buildSlice t len parts)(hd:(eBuildFns P st t len parts k).den):EffOk P w0 R0 bl vs ow st a w o k:=by
 unfold eBuildFns at hd
 split at hd
 ·rename_i e he
  split at hd
  ·rename_i sz z hsz hz
   split at hd
   ·rename_i hc
    simp only[Bool.and_eq_true,beq_iff_eq,decide_eq_true_eq,List.all_eq_true]at hc
    obtain⟨⟨hidx,hpos,hsmall⟩,hfn⟩:=hc
    obtain⟨i,hi,hone⟩:=size_inv hsz
    have hzv:i.zero=some z:=by rw[hi]at hz;exact hz
    have hlen':parts.toList.length=len:=by
     have:=congrArg List.length hidx
     simpa using this
    have hcell:∀p∈parts.toList,SVRs bl vs (cellsOf (st.ev p.2)) (a.eval p.2).cells.toList:=fun p hp=>cells_sound h.vsl (ev_sound ht p.2) (List.all_eq_true.2 (hfn p hp).2)
    have hsize:∀p∈parts.toList,(a.eval p.2).cells.size=sz:=fun p hp=>by
     have:=(hcell p hp).length
     rw[(hfn p hp).1]at this
     simpa using this.symm
    have hpl:((parts.map fun p=>(p.1,a.eval p.2)).toList).map (·.1)=List.range' 0 ((parts.map fun p=>(p.1,a.eval p.2)).toList).length:=by
     simp only[Array.toList_map,List.map_map,List.length_map,hlen']
     rw[<-List.range_eq_range',<-hidx]
     rfl
    obtain⟨cs,f1,f2,_,f4⟩:=fill_rows (L:=sz) (len:=len) ((parts.map fun p=>(p.1,a.eval p.2)).toList) 0 ((Array.range (len*sz)).map ((if len*sz=0 then #[]else z.cells)[· % (if len*sz=0 then #[]else z.cells).size]!)) hpl (by simp at hlen'⊢;omega) (by simp) (fun p hp=>by
     simp only[Array.toList_map,List.mem_map]at hp
     obtain⟨q,hq,rfl⟩:=hp
     exact hsize q hq)
    have hcs:SVRs bl vs (parts.toList.flatMap fun p=>cellsOf (st.ev p.2)) cs.toList:=by
     have hfl:∀p∈parts.toList,(cellsOf (st.ev p.2)).length=sz:=fun p hp=>(hfn p hp).1
     refine SVRs.of_get (by rw[flat_len hfl,hlen'];simp[f2]) fun j x y hx hy=> ?_
     obtain⟨r,q,p,e1,hq,hp,hxq⟩:=flat_get hfl hx
     have hm:p∈parts.toList:=List.mem_of_getElem? hp
     obtain⟨y',hy',hxy⟩:=(hcell p hm).get hxq
     have:=f4 r (p.1,a.eval p.2) (by simp at hp;simp[hp]) q hq
     rw[Nat.zero_add,<-e1]at this
     rw[Array.getElem?_toList,this]at hy
     rw[Array.getElem?_toList]at hy'
     rw[hy']at hy
     cases hy
     exact hxy
    refine⟨.slice (some ⟨w.heap.size,0,none⟩) len len,w.alloc (.cells cs e), .inl ?_, .bsl st.boxes.length len,_,_,_,_,_,h.newBox (ty:=e) hcs,rfl,⟨w.heap.size, ?_,rfl⟩,hd⟩
    ·have hsm:¬len*sz>2^24:=by omega
     have hnz:¬len*sz=0:=by omega
     simp only[hnz,if_false]at f1
     have hpp:(Array.map (fun x=>(x.1,a.eval x.2)) parts).toList=(parts.map fun p=>(p.1,a.eval p.2)).toList:=rfl
     simp only[execOp,ho,Instr.buildSlice,Sem.run_bind,run_underlying (elem_inv he),Result.andThen_ok,run_sizeOf' hi,hone,if_neg hsm,hnz,if_false,run_zero hi hzv,Sem.run_pure,hpp,f1,newRow,run_newObj]
     rfl
    ·rw[<-h.nb];exact bl_last
   ·exact hd.elim
  ·exact hd.elim
 ·exact hd.elim
theorem rowsCl_sound(hl:HR P w0 R0 bl vs R ow st.boxes st.ents w){ks:List K}:∀{n:Nat}{s:List (SV (sem T))}{rows:List (List CS)},rowsCl st.ents ks n s=some rows->∀{v:List Value},SVRs bl vs s v->
  rows.length=n/\∀(p q:Nat)(kk:K),p<n->ks[q]? =some kk->∃u,v[p*ks.length+q]? =some u/\Rd P w R (((rows.map fun c=>c.map Cl.toD).getD p []).getD q (.int 0)) kk u
 |0,s,rows,h,v,hs=>by
  simp only[rowsCl,Option.some.injEq]at h
  subst h
  exact⟨rfl,fun p q kk hp=>absurd hp (Nat.not_lt_zero _)⟩
 | n +1,s,rows,h,v,hs=>by
  simp only[rowsCl]at h
  split at h
  ·rename_i c cs hc hcs
   cases h
   obtain⟨l1,l2,h1⟩:=toClsR_sound hl hc (hs.take ks.length)
   obtain⟨l3,h3⟩:=rowsCl_sound hl hcs (hs.drop ks.length)
   refine⟨by simp[l3],fun p q kk hp hq=> ?_⟩
   have hqlt:q<ks.length:=(List.getElem?_eq_some_iff.1 hq).1
   cases p with
   | zero=>
    obtain⟨c0,u,g1,g2,g3⟩:=h1 q kk hq
    refine⟨u, ?_, ?_⟩
    ·rw[List.getElem?_take,if_pos hqlt]at g2
     simpa using g2
    ·have:((((c::cs).map fun c=>c.map Cl.toD).getD 0 []).getD q (.int 0))=c0.toD:=by
      simp[List.getD_eq_getElem?_getD,g1]
     rw[this];exact g3
   | succ p=>
    obtain⟨u,g1,g2⟩:=h3 p q kk (by omega) hq
    refine⟨u, ?_, ?_⟩
    ·rw[List.getElem?_drop]at g1
     rw[show(p+1)*ks.length+q=ks.length+(p*ks.length+q) by rw[Nat.succ_mul];omega]
     exact g1
    ·simpa[List.getD_eq_getElem?_getD]using g2
  ·cases h
theorem HR.giveBox(h:HR P w0 R0 bl vs R ow st.boxes st.ents w){i b:Nat}{bx:Box (sem T)}{cs:Array Value}(hi:st.boxes[i]? =some bx)(hl:bx.live=true)
  (hb:bl[i]? =some b) (ho:ow b=some (.box i)) (hw:w.heap[b]? =some (.cells cs bx.ty (0,0))):
  Stp P w0 R0 bl vs ow st bl vs (fun x=>R x\/x=b) (setOw ow b none) {st with boxes:=st.boxes.set i {bx with live:=false,ver:=bx.ver+1}} w where
 bl:=fun _ _ x=>x
 vs:=fun _ _ x=>x
 ext:=Ext.of_set_box (i:=i) (bx:={bx with live:=false,ver:=bx.ver+1}) rfl rfl (fun b0 h0=>by rw[hi]at h0;cases h0;exact⟨by simp,rfl⟩)
 mrk:=fun x hx=>by rw[setOw_ne (fun e=>by rw[e,ho]at hx;cases hx)];exact hx
 hr :={
  below:=h.below
  rlt:=fun x hx=>hx.elim (h.rlt x) (fun e=>by subst e;exact(h.olt _ _ ho).2)
  r0:=fun x hx=> .inl (h.r0 x hx)
  rsub:=fun x hx=>hx.elim (h.rsub x) (fun e=>by subst e;exact .inr (h.olt _ _ ho).1)
  ro:=fun x hx=>by
   by_cases e:x=b
   ·subst e;exact setOw_eq
   ·rw[setOw_ne e];exact h.ro x (hx.resolve_right e)
  olt:=fun x q hx=>by
   by_cases e:x=b
   ·subst e;rw[setOw_eq]at hx;cases hx
   ·rw[setOw_ne e]at hx;exact h.olt x q hx
  nb:=by simp[h.nb]
  nv:=h.nv
  vsl:=h.vsl
  glb:=h.glb
  box:=fun j bj hj hlj=>by
   rcases get_set_inv hj with⟨rfl,rfl⟩|⟨hne,hj⟩
   ·cases hlj
   ·obtain⟨b2,cs2,h1,h2,h3,h4⟩:=h.box j bj hj hlj
    have hne2:b2≠b:=fun e=>by rw[e,ho]at h2;cases h2;exact hne rfl
    exact⟨b2,cs2,h1,by rw[setOw_ne hne2];exact h2,h3,h4⟩
  ent:=fun j e hj hlj=>by
   obtain⟨u,hu,h1,h2⟩:=h.ent j e hj hlj
   refine⟨u,hu,fun hh=>(h1 hh).mono (fun _ x=> .inl x) (fun _ _=>rfl),fun hh=>(h2 hh).mono (fun _ x=> .inl x) (fun _ _=>rfl) (fun x hx=>⟨?_,rfl⟩)⟩
   rw[setOw_ne (fun e=>by rw[e,ho]at hx;cases hx)];exact hx
  mrk:=fun x hx=>by
   by_cases e:x=b
   ·subst e;rw[setOw_eq]at hx;cases hx
   ·rw[setOw_ne e]at hx;exact h.mrk x hx
  lp:=fun j L hj=>by
   obtain⟨bj,x,g1,g2,g3,g4,g5⟩:=h.lp j L hj
   have hne:j≠i:=fun e=>by rw[e,hi]at g1;cases g1;rw[hl]at g2;cases g2
   have hxb:x≠b:=fun e=>by rw[e,ho]at g4;cases g4;exact hne rfl
   exact⟨bj,x,by simp only;rw[List.getElem?_set_ne (fun e=>hne e.symm)];exact g1,g2,g3,by rw[setOw_ne hxb];exact g4,g5⟩}
theorem run_sliceAt_box{t e:TypeId}{n:Nat}{i:TypeInfo}(hu:P.underlying t=some (.array n e))(hi:P.info? e=some i){b:Nat}{lo hi':Option Value}{l h:Int}
  (hlo:(lo=none/\l=0)\/∃k,lo=some (.int k l)) (hhi:(hi'=none/\h=(n:Int))\/∃k,hi'=some (.int k h)) (h0:0<=l) (h1:l<=h) (h2:h<=n):
  (Instr.sliceAt t (.pointer (some ⟨b,0,none⟩)) lo hi' none).run P w= .ok (slicedAt ⟨b,0,none⟩ l.toNat h.toNat n i.size) w:=by
 have hE:P.elem t=e:=by simp[Program.elem,hu]
 have hL:P.arrayLen t=n:=by simp[Program.arrayLen,hu]
 have ht:P.underlying t=some (.array (P.arrayLen t) (P.elem t)):=by rw[hE,hL];exact hu
 have hsz:(sizeOf (P.elem t)).run P w= .ok i.size w:=by rw[hE];exact run_sizeOf' hi
 rcases hlo with⟨rfl,rfl⟩|⟨k1,rfl⟩<;>rcases hhi with⟨rfl,rfl⟩|⟨k2,rfl⟩
 ·rw[run_sliceAt_array_all (ht:=ht),hsz,hL];simp
 ·rw[run_sliceAt_array_h (ht:=ht) (h0:=by omega) (h2:=by rw[hL];exact h2),hsz,hL];simp
 ·rw[run_sliceAt_array_l (ht:=ht) (h0:=h0) (h1:=by rw[hL];omega),hsz,hL];simp
 ·rw[run_sliceAt_array_lh (ht:=ht) (h0:=h0) (h1:=h1) (h2:=by rw[hL];exact h2),hsz,hL];simp
theorem eff_sliceBox(h:HR P w0 R0 bl vs R ow st.boxes st.ents w)(ht:TR bl vs st.tmps a){t:TypeId}{x:Operand}{lo hi mx:Option Operand}(ho:o.op= .slice t x lo hi mx)(hd:(eSliceBox P st t x lo hi mx k).den):EffOk P w0 R0 bl vs ow st a w o k:=by
 unfold eSliceBox at hd
 have hx:=ev_sound ht x
 split at hd
 ·rename_i n e b hu hxx
  rw[hxx]at hx
  obtain⟨b',hb',hv⟩:=hx
  split at hd
  ·rename_i bx ks hbx hks
   split at hd
   ·rename_i hc
    simp only[Bool.and_eq_true,beq_iff_eq,decide_eq_true_eq]at hc
    obtain⟨⟨⟨⟨hlive,hlen⟩,hpos⟩,hty⟩,hn1000⟩:=hc
    split at hd
    ·rename_i rows l h' hrows hl hh
     obtain⟨l',rfl⟩:∃i':Int,i'=l:=⟨l,rfl⟩
     obtain⟨h'',rfl⟩:∃i':Int,i'=h':=⟨h',rfl⟩
     have hlo:(lo.map a.eval=none/\l'=0)\/∃k,lo.map a.eval=some (.int k l'):=by
      cases lo with
      |none=>left;simp only[Option.some.injEq]at hl;exact⟨rfl,hl.symm⟩
      | some lx=>
       right
       have hlx:=ev_sound ht lx
       simp only at hl
       split at hl
       ·rename_i k y hy
        rw[hy]at hlx
        cases hl
        exact⟨k,congrArg some hlx.1⟩
       ·cases hl
     have hhi:(hi.map a.eval=none/\h''=(n:Int))\/∃k,hi.map a.eval=some (.int k h''):=by
      cases hi with
      |none=>left;simp only[Option.some.injEq]at hh;exact⟨rfl,hh.symm⟩
      | some hx'=>
       right
       have hlx:=ev_sound ht hx'
       simp only at hh
       split at hh
       ·rename_i k y hy
        rw[hy]at hlx
        cases hh
        exact⟨k,congrArg some hlx.1⟩
       ·cases hh
     obtain⟨hns,hd⟩:=needs_den.1 hd
     simp only[List.mem_cons,List.not_mem_nil,or_false,forall_eq_or_imp,forall_eq,sem]at hns
     obtain⟨h0,h1,h2⟩:=hns
     obtain⟨i,hinfo,hsz,_⟩:=kinds_inv hks
     obtain⟨b2,cs,g1,g2,g3,g4⟩:=h.box b bx hbx hlive
     rw[hb']at g1;cases g1
     obtain⟨r1,r2⟩:=rowsCl_sound h hrows g4
     have hG:=h.giveBox hbx hlive hb' g2 g3
     have hrun:(execOp a.eval o).run P w= .ok (.value (slicedAt ⟨b',0,none⟩ l'.toNat h''.toNat n i.size)) w:=by
      simp only[execOp,ho,hv,Option.map_none,Sem.run_bind,run_sliceAt_box hu hinfo hlo hhi h0 h1 h2,Result.andThen_ok,Sem.run_pure]
     have hrd:Rd P w (fun x=>R x\/x=b') (.sl (Sl.part (Sl.lit (rows.map fun c=>c.map Cl.toD)) l' h'').n (Sl.part (Sl.lit (rows.map fun c=>c.map Cl.toD)) l' h'').f) (.sl e) (slicedAt ⟨b',0,none⟩ l'.toNat h''.toNat n i.size):=by
      refine⟨e,some (if n=l'.toNat then(⟨b',0,none⟩:Addr)else(⟨b',0,none⟩:Addr).add (l'.toNat*i.size)),n-l'.toNat,rfl, ?_, ?_, ?_,(fun hn=>by cases hn),fun ks2 p q kk hk2 hp hq=> ?_⟩
      ·show _=Value.slice _ (h''-l').toNat _
       simp only[slicedAt]
       congr 1
       omega
      ·show(h''-l').toNat<=_;omega
      ·unfold maxLen;omega
      ·rw[hks]at hk2;cases hk2
       have hp:p<(h''-l').toNat:=hp
       obtain⟨u,u1,u2⟩:=r2 (l'.toNat+p) q kk (by omega) hq
       refine⟨_,u,rfl, ?_, ?_, ?_, ?_⟩
       ·split<;>simp[Addr.add_lit]
       ·right
        split<;>simp[Addr.add_lit]
       ·have:(if n=l'.toNat then(⟨b',0,none⟩:Addr)else(⟨b',0,none⟩:Addr).add (l'.toNat*i.size))=⟨b',l'.toNat*i.size,none⟩:=by
         rw[if_neg (by omega),add_none];simp
        simp only[this]
        rw[World.cell?]
        simp only[g3]
        have e1:l'.toNat*i.size+(p*ks.length+q)=(l'.toNat+p)*ks.length+q:=by rw[hsz,Nat.add_mul];omega
        rw[e1]
        simpa using u1
       ·exact u2.mono (fun _ x=> .inl x) (fun _ _=>rfl)
     have hS2:=hG.hr.newRo hrd
     exact⟨_,w, .inl hrun, .sl st.ents.length,_,bl,_,_,_,hG.trans hS2,rfl,h.ent_last,hd⟩
    ·exact hd.elim
   ·exact hd.elim
  ·exact hd.elim
 ·exact hd.elim
def putMap(w:World)(b:Nat)(o:Obj):World:={w with heap:=w.heap.setIfInBounds b o}
theorem putMap_other(w:World)(b x:Nat)(o:Obj)(h:x≠b):(putMap w b o).heap[x]? =w.heap[x]? :=by
 show(w.heap.setIfInBounds b o)[x]? =_
 rw[Array.getElem?_setIfInBounds,if_neg (fun e=>h e.symm)]
theorem putMap_same{w:World}{b:Nat}{o o':Obj}(h:w.heap[b]? =some o'):(putMap w b o).heap[b]? =some o:=by
 have hlt:b<w.heap.size:=(Array.getElem?_eq_some_iff.1 h).1
 show(w.heap.setIfInBounds b o)[b]? =_
 rw[Array.getElem?_setIfInBounds,if_pos rfl,if_pos hlt]
theorem putMap_size(w:World)(b:Nat)(o:Obj):(putMap w b o).heap.size=w.heap.size:=by
 show(w.heap.setIfInBounds b o).size=_
 simp
theorem HR.setMapEnt(h:HR P w0 R0 bl vs R ow st.boxes st.ents w){id b:Nat}{en:Ent (sem T)}{o':Obj}{es':Array MapEntry}{clock':Nat}{s':Sl}{ver:Nat}{ik:IntKind}{kt e:TypeId}(hi:st.ents[id]? =some en)
  (hown:en.own=true) (hm:isM en.elem=true) (hv:vs[id]? =some (.map (some b))) (ho:ow b=some (.ent id)) (hw:w.heap[b]? =some o')
  (hver:en.ver<ver) (hu:P.underlying (unM en.elem)=some (.map kt e)) (hk:P.underlying kt=some (.int ik)) (hc:MapRel P w R ik e s' es'):
  Stp P w0 R0 bl vs ow st bl vs R ow {st with ents:=st.ents.set id {en with s:=s',ver:=ver}} (putMap w b (.map es' clock')) where
 bl:=fun _ _ x=>x
 vs:=fun _ _ x=>x
 ext:=Ext.of_set_ent (i:=id) (bx:={en with s:=s',ver:=ver}) rfl rfl (fun b0 h0=>by rw[hi]at h0;cases h0;exact hver)
 mrk:=fun _ x=>x
 hr :=by
  have hR:∀x,R x->(putMap w b (.map es' clock')).heap[x]? =w.heap[x]? :=fun x hx=>putMap_other w b x _ (fun e=>by rw[e]at hx;rw[h.ro b hx]at ho;cases ho)
  exact{
  below:=h.below.trans ⟨rfl,rfl,rfl,by rw[putMap_size];exact Nat.le_refl _,fun x hx=>putMap_other w b x _ (fun e=>by have:=(h.olt b _ ho).1;omega)⟩
  rlt:=fun x hx=>by rw[putMap_size];exact h.rlt x hx
  r0:=h.r0
  rsub:=h.rsub
  ro:=h.ro
  olt:=fun x q hx=>by rw[putMap_size];exact h.olt x q hx
  nb:=h.nb
  nv:=by simp[h.nv]
  vsl:=h.vsl
  glb:=h.glb
  box:=fun j bj hj hlj=>by
   obtain⟨b2,cs2,h1,h2,h3,h4⟩:=h.box j bj hj hlj
   have hne2:b2≠b:=fun e=>by rw[e,ho]at h2;cases h2
   exact⟨b2,cs2,h1,h2,(putMap_other w b b2 _ hne2).trans h3,h4⟩
  ent:=fun j e' hj hlj=>by
   rcases get_set_inv hj with⟨rfl,rfl⟩|⟨hne,hj⟩
   ·refine⟨_,hv,(fun hh=>by rw[hown]at hh;cases hh),fun _=>⟨fun hh=>absurd (hh.symm.trans hm) Bool.false_ne_true,fun _=> .inl ⟨b,rfl,ho,es',clock',ik,kt,e,putMap_same hw,hu,hk,hc.mono (fun _ x=>x) hR⟩⟩⟩
   ·obtain⟨u,hu,h1,h2⟩:=h.ent j e' hj hlj
    exact⟨u,hu,fun hown=>(h1 hown).mono (fun _ x=>x) hR,fun hown=>(h2 hown).mono (fun _ x=>x) hR (fun x hx=>⟨hx,putMap_other w b x _ (fun e=>by rw[e,ho]at hx;cases hx;exact hne rfl)⟩)⟩
  mrk:=fun x hx=>(putMap_other w b x _ (fun e=>by rw[e,ho]at hx;cases hx)).trans (h.mrk x hx)
  lp:=fun j L hj=>by
   obtain⟨bj,x,g1,g2,g3,g4,g5⟩:=h.lp j L hj
   have hxb:x≠b:=fun e=>by rw[e,ho]at g4;cases g4
   exact⟨bj,x,g1,g2,g3,g4,g5.mono (putMap_other w b x _ hxb) (fun _ _ x=>x) (fun _ _ x=>x)⟩}
theorem eff_makeMap0(h:HR P w0 R0 bl vs R ow st.boxes st.ents w){t:TypeId}{ik:IntKind}{kt e:TypeId}(hu:P.underlying t=some (.map kt e))(hk:P.underlying kt=some (.int ik)):
  ∃ow',Stp P w0 R0 bl vs ow st bl (vs++[.map (some w.heap.size)]) R ow' (addEnt st (mapT t) Sl.nil true) (w.alloc (.map #[] 0)):=by
 have hb:Below w.heap.size w (w.alloc (.map #[] 0)):=(Below.refl _ _).alloc (Nat.le_refl _) _
 have hg:=h.grow hb
 have hO:Own P (w.alloc (.map #[] 0)) R (setOw ow w.heap.size (some (.ent st.ents.length))) st.ents.length (mapT t) Sl.nil (.map (some w.heap.size)):=by
  refine⟨fun hh=>absurd (hh.symm.trans (isM_mapT t)) Bool.false_ne_true,fun _=> .inl ⟨w.heap.size,rfl,setOw_eq, ?_⟩⟩
  rw[mapT_sub]
  exact⟨#[],0,ik,kt,e,heap_alloc_new w _,hu,hk,by simp,fun n=>trivial⟩
 obtain⟨hP,hmk⟩:=hg.pushOwnB (e:=mapT t) (s:=Sl.nil) (v:= .map (some w.heap.size)) (b:=w.heap.size) h.below.size (by show _<(w.heap.push _).size;simp) h.not_R_new
  (fun i hh=>by rw[h.not_own_new]at hh;cases hh) (fun _ _ hh=>by rw[h.not_own_new]at hh;cases hh) (fun i en hh=>by rw[h.not_own_new]at hh;cases hh) hO
 exact⟨_,hP,fun _ _ x=>x,fun _ _=>get_append_lt,Ext.of_append (nb:=[]) (ne:=[⟨mapT t,Sl.nil,true,true,0⟩]) (by simp[addEnt]) rfl,fun x hx=>hmk x hx⟩
theorem eff_makeMap(h:HR P w0 R0 bl vs R ow st.boxes st.ents w){t:TypeId}{r:Option Operand}(ho:o.op= .makeMap t r)(hd:(eMakeMap P st t r k).den):EffOk P w0 R0 bl vs ow st a w o k:=by
 unfold eMakeMap at hd
 split at hd
 ·rename_i ik e ks hsh
  obtain⟨kt,hu,hk,hks⟩:=mapShape_inv hsh
  obtain⟨ow',hS⟩:=eff_makeMap0 h hu hk
  refine⟨.map (some w.heap.size),w.alloc (.map #[] 0), .inl ?_, .sl st.ents.length,_,bl,_,R,ow',hS,rfl,h.ent_last,hd⟩
  simp only[execOp,ho,Option.map_none,Sem.run_bind]
  rfl
 ·exact hd.elim
theorem eff_lookup(h:HR P w0 R0 bl vs R ow st.boxes st.ents w)(ht:TR bl vs st.tmps a){t:TypeId}{x ix:Operand}{ok:Bool}(ho:o.op= .lookup t x ix ok)(hd:(eLookup P st t x ix ok k).den):EffOk P w0 R0 bl vs ow st a w o k:=by
 unfold eLookup at hd
 have hx:=ev_sound ht x
 have hi:=ev_sound ht ix
 split at hd
 ·rename_i ik e ks id en k' i hsh hme hii
  obtain⟨kt,hu,hk,hks⟩:=mapShape_inv hsh
  obtain⟨hxx,hen,hlive,hown,hel⟩:=mapEnt_inv hme
  rw[hxx]at hx
  rw[hii]at hi
  split at hd
  ·rename_i hkk
   simp only[Bool.and_eq_true,beq_iff_eq]at hkk
   obtain⟨rfl,hag⟩:=hkk
   split at hd
   ·rename_i z hz
    simp only at hd
    split at hd
    ·rename_i sv hp
     obtain⟨v0,hv0,hcc⟩:=h.look.ent id en hen hlive
     have hx:vs[id]? =some (a.eval x):=hx
     rw[hx]at hv0;cases hv0
     obtain⟨b,hb,hmc⟩:=hcc.2.1 (by rw[hel];exact isM_mapT t) (by rw[hel];exact mapShape_L hsh) hown
     rw[hel,mapT_sub]at hmc
     obtain⟨zv,hzr,hze⟩:=zeroElem (w:=w) (R:=R) hz hks hag
     obtain⟨v,hv,hrun⟩:=run_lookup_map hu hk (s:=en.s) (i:=i) hmc hzr hze
     have hsz:=(hv ks hks).1
     obtain⟨vs',g1,g2,g3,g4⟩:=nest_sound (rg:=st.rg) (T:=T) (P:=P) (w:=w) (R:=R) (s:=Sl.mget en.s i (z.map Cl.toD)) (i:=0) (f:=fun j=>v.cells.getD j undef) (ks:=ks) (j:=0) h (fun m kk hm=>by
      obtain⟨u,hu1,hu2⟩:=(hv ks hks).2.2.2 m kk hm
      simp only[Nat.zero_add,Array.getD_eq_getD_getElem?,hu1,Option.getD_some]
      exact hu2)
     rw[cells_range hsz]at g3
     refine⟨_,w, .inl ?_,_,_,bl,vs',R,ow,g1,g2,lookV_sound (elem_pack hv hks hp g3) _ ok,(givens_den.1 hd) g4⟩
     simp only[execOp,ho,hb,hi.1,hrun ok,Sem.run_bind,Sem.run_pure,Result.andThen_ok]
    ·exact hd.elim
   ·exact hd.elim
  ·exact hd.elim
 ·exact hd.elim
theorem run_update_map{t kt e:TypeId}{ik:IntKind}(hu:P.underlying t=some (.map kt e))(hk:P.underlying kt=some (.int ik)){b:Nat}{s:Sl}(hc:MapC P w R t s b){i:Int}{cs:List D}{val:Value}
  (hv:Elem P w R e (fun j=>cs.getD j (.int 0)) val):
  ∃es' clock',(Instr.mapUpdate t (.map (some b)) (.int ik i) val).run P w= .ok () (putMap w b (.map es' clock'))/\MapRel P w R ik e (Sl.mset s i cs) es'/\∃o',w.heap[b]? =some o':=by
 obtain⟨es,clock,ik',kt',e',hb,hu',hk',hrel⟩:=hc
 rw[hu]at hu';cases hu'
 rw[hk]at hk';cases hk'
 have hob:(getObj b).run P w= .ok (.map es clock) w:=by simp[getObj,Sem.run,hb]
 have hset:∀o',(setObj b o').run P w= .ok () (putMap w b o'):=fun o'=>by simp[setObj,Sem.run,hb,putMap]
 have hck:(Instr.checkKey false 10000 kt (.int ik i)).run P w= .ok () w:=by
  unfold Instr.checkKey
  simp only[Sem.run_bind,run_underlying hk,Result.andThen_ok,Sem.run_pure]
 have hfk:(Instr.findKey kt (.int ik i) es.toList).run P w= .ok (mfirst i es.toList 0) w:=by
  unfold Instr.findKey
  simp only[Sem.run_bind,run_underlying hk,Result.andThen_ok,findNow_ints es.toList 0 hrel.1,Sem.run_pure]
 have hnew:Elem P w R e (fun j=>(Sl.mset s i cs).f s.n (j+1)) val:=by
  have:(fun j=>(Sl.mset s i cs).f s.n (j+1))=fun j=>cs.getD j (.int 0):=funext fun j=>by rw[mset_new];rfl
  rw[this];exact hv
 have hold:∀(n:Int)(l':List MapEntry),(mfirst n l' 0=if n=i then some ((mfirst n l' 0).getD (0,val))else mfirst n es.toList 0)->(n=i->((mfirst n l' 0).getD (0,val)).2=val)->mapAgree P w R e (Sl.mset s i cs) (mfirst n l' 0) ((Sl.mset s i cs).mfind n (Sl.mset s i cs).n):=by
  intro n l' h1 h2
  rw[mfind_mset]
  by_cases e1:n=i
  ·rw[if_pos e1]at h1
   rw[if_pos e1,h1]
   generalize(mfirst n l' 0).getD (0,val)=q at h2
   have:=h2 e1
   obtain⟨q1,q2⟩:=q
   simp only at this
   subst this
   exact hnew
  ·rw[if_neg e1]at h1
   rw[if_neg e1,h1]
   have:=hrel.2 n
   generalize mfirst n es.toList 0=fa at this
   cases fa with
   |none=>
    cases hfb:s.mfind n s.n with
    |none=>trivial
    |some q=>rw[hfb]at this;exact this.elim
   | some x=>
    cases hfb:s.mfind n s.n with
    |none=>rw[hfb]at this;exact this.elim
    |some q=>
     rw[hfb]at this
     have hlt:=mfind_lt hfb
     have e2:(fun j=>(Sl.mset s i cs).f q (j+1))=fun j=>s.f q (j+1):=funext fun j=>mset_old hlt
     show Elem P w R e (fun j=>(Sl.mset s i cs).f q (j+1)) x.2
     rw[e2];exact this
 cases hfa:mfirst i es.toList 0 with
 | none=>
  refine⟨es.push {key:= .int ik i,val:=val,born:=clock},clock+1, ?_,⟨?_,fun n=> ?_⟩,_,hb⟩
  ·rw[hfa]at hfk
   simp only[Instr.mapUpdate,Sem.run_bind,run_underlying hu,hob,hck,hfk,Result.andThen_ok,hset]
  ·intro x hx
   simp only[Array.toList_push,List.mem_append,List.mem_singleton]at hx
   rcases hx with hx|rfl
   ·exact hrel.1 x hx
   ·exact⟨i,rfl⟩
  ·rw[Array.toList_push]
   refine hold n _ ?_ ?_
   ·rw[mfirst_app]
    by_cases e1:n=i
    ·subst e1;rw[hfa];simp[keyI]
    ·rw[if_neg e1]
     cases mfirst n es.toList 0 with
     |none=>simp[keyI,e1]
     |some r=>rfl
   ·intro e1
    subst e1
    rw[mfirst_app,hfa]
    simp[keyI]
 | some r=>
  obtain⟨q,v0⟩:=r
  obtain⟨m,x,h1,h2,h3⟩:=mfirst_some _ _ _ _ hfa
  have hqm:q=m:=by omega
  subst hqm
  obtain⟨n0,hn0⟩:=hrel.1 x (List.mem_of_getElem? h2)
  have hxk:x.key= .int ik i:=by
   rw[hn0]at h3⊢
   have:n0=i:=h3
   rw[this]
  have hx2:es[q]? =some x:=by simpa using h2
  have hlt:q<es.size:=(Array.getElem?_eq_some_iff.1 hx2).1
  have hml:(es.modify q fun e=>{e with key:= .int ik i,val:=val}).toList=es.toList.set q {x with key:= .int ik i,val:=val}:=by
   apply List.ext_getElem?
   intro j
   rw[Array.getElem?_toList,Array.getElem?_modify,List.getElem?_set,Array.length_toList]
   by_cases e1:q=j
   ·subst e1
    rw[if_pos rfl,if_pos rfl,if_pos hlt,hx2];rfl
   ·rw[if_neg e1,if_neg e1,Array.getElem?_toList]
  have hstay:(Instr.keyThatStays x.key (.int ik i)).run P w= .ok (.int ik i) w:=by
   rw[hxk]
   simp[Instr.keyThatStays,Instr.sameBits]
  refine⟨es.modify q fun e=>{e with key:= .int ik i,val:=val},clock, ?_,⟨?_,fun n=> ?_⟩,_,hb⟩
  ·rw[hfa]at hfk
   simp only[Instr.mapUpdate,Sem.run_bind,run_underlying hu,hob,hck,hfk,Result.andThen_ok,hx2,Option.map_some,Option.getD_some,hstay,hset]
  ·intro y hy
   rw[hml]at hy
   rcases List.mem_or_eq_of_mem_set hy with hy|rfl
   ·exact hrel.1 y hy
   ·exact⟨i,rfl⟩
  ·rw[hml]
   have hs:=mfirst_set (n:=i) (n':=n) (y:={x with key:= .int ik i,val:=val}) rfl es.toList 0 q v0 (by rw[hfa,Nat.zero_add])
   refine hold n _ ?_ ?_
   ·rw[hs]
    by_cases e1:n=i
    ·rw[if_pos e1,if_pos e1];rfl
    ·rw[if_neg e1,if_neg e1]
   ·intro e1
    rw[hs,if_pos e1];rfl
theorem eff_mapUpdate(h:HR P w0 R0 bl vs R ow st.boxes st.ents w)(ht:TR bl vs st.tmps a){t:TypeId}{m x v:Operand}(ho:o.op= .mapUpdate t m x v\/o.op= .insert t m x v)(hd:(eMapUpdate P st t m x v k).den):EffOk P w0 R0 bl vs ow st a w o k:=by
 unfold eMapUpdate at hd
 have hx:=ev_sound ht m
 have hi:=ev_sound ht x
 split at hd
 ·rename_i ik e ks id en k' i hsh hme hii
  obtain⟨kt,hu,hk,hks⟩:=mapShape_inv hsh
  obtain⟨hxx,hen,hlive,hown,hel⟩:=mapEnt_inv hme
  rw[hxx]at hx
  rw[hii]at hi
  obtain⟨i',rfl⟩:∃i':Int,i'=i:=⟨i,rfl⟩
  split at hd
  ·rename_i hkk
   simp only[Bool.and_eq_true,beq_iff_eq]at hkk
   obtain⟨rfl,hag⟩:=hkk
   split at hd
   ·rename_i cls en' hcls hen'
    split at hd
    ·rename_i hver
     have hver:en'.ver=en.ver:=by simpa using hver
     obtain⟨R1,ow1,hS,htm,hbx,hlen⟩:=h.freezeVs (cellsOf (st.ev v))
     obtain⟨en1,hen1,_,hsame⟩:=hS.ext.ent id en hen
     rw[hen']at hen1;cases hen1
     have:en'=en:=hsame hver
     subst this
     have hx:vs[id]? =some (a.eval m):=hx
     obtain⟨u0,hu0,_,hO⟩:=hS.hr.ent id en' hen' hlive
     rw[hx]at hu0;cases hu0
     have hm:isM en'.elem=true:=by rw[hel];exact isM_mapT t
     have hL:isL en'.elem=false:=by rw[hel];exact mapShape_L hsh
     rcases(hO hown).2 hm with⟨b,hb,hob,hmc⟩|⟨hh,_⟩
     rotate_left
     ·rw[hL]at hh;cases hh
     have hmc':MapC P w R1 t en'.s b:=by rw[hel,mapT_sub]at hmc;exact hmc
     have hcell:=toClsR_cells hcls
     have hcs':=cells_sound h.vsl (ev_sound ht v) hcell
     obtain⟨c1,c2,c3⟩:=toClsR_sound hS.hr hcls hcs'
     simp only[Array.length_toList]at c2
     have hE:Elem P w R1 e (fun j=>(cls.map Cl.toD).getD j (.int 0)) (a.eval v):=by
      intro ks2 hks2
      rw[hks]at hks2;cases hks2
      refine⟨c2,fun hh=> ?_,fun hh=> ?_,fun j kk hj=> ?_⟩
      ·rw[hag]at hh
       have hsv:=ev_sound ht v
       cases hev:st.ev v with
       |agg l=>rw[hev]at hsv;obtain⟨cs,hcs,_⟩:=hsv;exact⟨cs,hcs⟩
       |_=>rw[hev]at hh;cases hh
      ·rw[hag]at hh
       have hsv:=ev_sound ht v
       have hc1:isCell (st.ev v)=true:=by
        cases hev:st.ev v with
        |agg l=>rw[hev]at hh;cases hh
        |_=>rw[hev]at hcell;simpa[cellsOf]using hcell
       have:=isCell_one h.vsl hsv hc1
       cases hav:a.eval v with
       |agg cs=>rw[hav]at this;cases this
       |_=>rfl
      ·obtain⟨c,u,hc,hu,hr⟩:=c3 j kk hj
       refine⟨u,by simpa using hu, ?_⟩
       have e1:(cls.map Cl.toD).getD j (.int 0)=c.toD:=by rw[List.getD_eq_getElem?_getD,List.getElem?_map,hc];rfl
       show Rd P w R1 ((cls.map Cl.toD).getD j (.int 0)) kk u
       rw[e1];exact hr
     obtain⟨es',clock',hrun,hrel,o',ho'⟩:=run_update_map hu hk (i:=i') hmc' hE
     refine⟨undef,_, .inr ⟨?_,rfl⟩, .con (.tuple #[]),_,bl,vs,R1,ow1,hS.trans (hS.hr.setMapEnt (clock':=clock') hen' hown hm (by rw[hx,hb]) hob ho' (s':=Sl.mset en'.s i' (cls.map Cl.toD)) (ver:=en'.ver+1) (Nat.lt_succ_self _)
      (by rw[hel,mapT_sub];exact hu) hk hrel),htm,rfl,hd⟩
     rcases ho with ho|ho<;>simp only[execOp,ho,hb,hi.1,Sem.run_bind,hrun,Result.andThen_ok,Sem.run_pure]
    ·exact hd.elim
   ·exact hd.elim
  ·exact hd.elim
 ·exact hd.elim
theorem HR.kills:∀(l:List Nat){st:St (sem T)},HR P w0 R0 bl vs R ow st.boxes st.ents w->Stp P w0 R0 bl vs ow st bl vs R ow (killEnts st l) w/\(killEnts st l).tmps=st.tmps
 |[],st,h=>⟨Stp.refl h,rfl⟩
 |id::l,st,h=>by
  obtain⟨h1,t1,_⟩:=h.kill id
  obtain⟨h2,t2⟩:=HR.kills l h1.hr
  exact⟨h1.trans h2,t2.trans t1⟩
theorem killEnt_dead{st:St (sem T)}{id i:Nat}{e:Ent (sem T)}(h:(killEnt st id).ents[i]? =some e)(hl:e.live=true):i≠id/\st.ents[i]? =some e:=by
 unfold killEnt at h
 split at h
 ·rename_i e0 he0
  rcases get_set_inv h with⟨rfl,rfl⟩|⟨hn,h⟩
  ·cases hl
  ·exact⟨fun e=>hn (by rw[e]),h⟩
 ·rename_i hn
  refine⟨fun e=> ?_,h⟩
  subst e
  rw[hn]at h
  cases h
theorem killEnts_dead:∀(l:List Nat){st:St (sem T)}{i:Nat}{e:Ent (sem T)},(killEnts st l).ents[i]? =some e->e.live=true->i∉l
 |[],_,_,_,_,_=>by simp
 | id::l,st,i,e,h,hl=>by
  have h1:=killEnts_dead l (st:=killEnt st id) h hl
  have:∀(l:List Nat){st:St (sem T)},(killEnts st l).ents[i]? =some e->st.ents[i]? =some e:=by
   intro l
   induction l with
   |nil=>intro st h;exact h
   |cons id l ih=>intro st h;exact(killEnt_dead (ih h) hl).2
  have h2:=killEnt_dead (this l h) hl
  simp only[List.mem_cons,not_or]
  exact⟨h2.1,h1⟩
open Classical in
theorem HR.give0{boxes:List (Box (sem T))}{ents:List (Ent (sem T))}(h:HR P w0 R0 bl vs R ow boxes ents w){ids:List Nat}(id:Nat)(hd:∀(i:Nat)(e:Ent (sem T)),ents[i]? =some e->e.live=true->i∉ids):
  HR P w0 R0 bl vs R (fun b=>if∃i∈ids,ow b=some (.ent i)then some (.ent id)else ow b) boxes ents w:=by
 have keep:∀{b:Nat}{o:Owner},ow b=some o->(∀i∈ids,o≠ .ent i)->(if∃i∈ids,ow b=some (.ent i)then some (.ent id)else ow b)=some o:=fun{b o} ho hn=>by
  rw[if_neg (fun⟨i,hi,hh⟩=>by rw[ho]at hh;exact hn i hi (Option.some.inj hh))];exact ho
 exact{
  below:=h.below,rlt:=h.rlt,r0:=h.r0,rsub:=h.rsub
  ro:=fun b hr=>by
   show(if∃i∈ids,ow b=some (.ent i)then some (.ent id)else ow b)=none
   rw[if_neg (fun⟨i,_,hh⟩=>by rw[h.ro b hr]at hh;cases hh)];exact h.ro b hr
  olt:=fun b o ho=>by
   have ho:(if∃i∈ids,ow b=some (.ent i)then some (.ent id)else ow b)=some o:=ho
   split at ho
   ·rename_i hh;obtain⟨i,_,hh⟩:=hh;exact h.olt b _ hh
   ·exact h.olt b o ho
  nb:=h.nb,nv:=h.nv,vsl:=h.vsl,glb:=h.glb
  box:=fun i bx hi hl=>by
   obtain⟨b,cs,h1,h2,h3,h4⟩:=h.box i bx hi hl
   exact⟨b,cs,h1,keep h2 (fun _ _ e=>by cases e),h3,h4⟩
  ent:=fun i e hi hl=>by
   obtain⟨v,hv,h1,h2⟩:=h.ent i e hi hl
   exact⟨v,hv,h1,fun ho=>(h2 ho).mono (fun _ x=>x) (fun _ _=>rfl) fun b hb=>⟨keep hb fun j hj e'=>(by cases e';exact hd i e hi hl hj),rfl⟩⟩
  mrk:=fun{l mo} b hb=>by
   have hb:(if∃i∈ids,ow b=some (.ent i)then some (.ent id)else ow b)=some (.mark l mo):=hb
   split at hb
   ·cases hb
   ·exact h.mrk b hb
  lp:=fun i L hi=>by
   obtain⟨bx,b,h1,h2,h3,h4,h5⟩:=h.lp i L hi
   exact⟨bx,b,h1,h2,h3,keep h4 (fun _ _ e=>by cases e),h5⟩}
theorem HR.give{boxes:List (Box (sem T))}{ents:List (Ent (sem T))}(h:HR P w0 R0 bl vs R ow boxes ents w){ids:List Nat}(id:Nat)(hd:∀(i:Nat)(e:Ent (sem T)),ents[i]? =some e->e.live=true->i∉ids):
  ∃ow2:Nat->Option Owner,HR P w0 R0 bl vs R ow2 boxes ents w/\(∀b,(∃i∈ids,ow b=some (.ent i))->ow2 b=some (.ent id))/\∀b,(¬∃i∈ids,ow b=some (.ent i))->ow2 b=ow b:=
 ⟨_,h.give0 id hd,fun b hb=>if_pos hb,fun b hb=>if_neg hb⟩
theorem isL_of_isX{e:TypeId}(h:isX e=true):isL e=true:=Nat.ble_eq_true_of_le (Nat.le_trans (Nat.le_of_ble_eq_true (n:=2000000000) (m:=4000000000) rfl) (Nat.le_of_ble_eq_true h))
theorem Own.of_mix{i:Nat}{e:TypeId}{s:Sl}{v:Value}(hX:isX e=true)(h:Mx P w R (fun b=>ow b=some (.ent i)) (unX e) s v):Own P w R ow i e s v:=
 ⟨fun hm=>absurd (hm.symm.trans (isM_of_isX hX)) Bool.false_ne_true,fun _=> .inr ⟨isL_of_isX hX,fun _=>h,fun hx=>absurd (hx.symm.trans hX) Bool.false_ne_true⟩⟩
theorem HR.setRowMix{st:St (sem T)}(h:HR P w0 R0 bl vs R ow st.boxes st.ents w){id b:Nat}{en:Ent (sem T)}{cs':Array Value}{s':Sl}{v:Value}{ver:Nat}(hi:st.ents[id]? =some en)(hX:isX en.elem=true)(hown:en.own=true)
  (hv:vs[id]? =some v) (ho:ow b=some (.ent id)) (hver:en.ver<ver) (hM:Mx P (w.setRow b cs') R (fun x=>ow x=some (.ent id)) (unX en.elem) s' v):
  Stp P w0 R0 bl vs ow st bl vs R ow {st with ents:=st.ents.set id {en with s:=s',ver:=ver}} (w.setRow b cs') where
 bl:=fun _ _ x=>x
 vs:=fun _ _ x=>x
 ext:=Ext.of_set_ent (i:=id) (bx:={en with s:=s',ver:=ver}) rfl rfl (fun b0 h0=>by rw[hi]at h0;cases h0;exact hver)
 mrk:=fun _ x=>x
 hr :=by
  have hR:∀x,R x->(w.setRow b cs').heap[x]? =w.heap[x]? :=fun x hx=>setRow_other w b x cs' (fun e=>by rw[e]at hx;rw[h.ro b hx]at ho;cases ho)
  exact{
  below:=h.below.trans ⟨by simp,by simp,by simp,by simp,fun x hx=>setRow_other w b x cs' (fun e=>by have:=(h.olt b _ ho).1;omega)⟩
  rlt:=fun x hx=>by simpa using h.rlt x hx
  r0:=h.r0
  rsub:=h.rsub
  ro:=h.ro
  olt:=fun x q hx=>by simpa using h.olt x q hx
  nb:=h.nb
  nv:=by simp[h.nv]
  vsl:=h.vsl
  glb:=h.glb
  box:=fun j bj hj hlj=>by
   obtain⟨b2,cs2,h1,h2,h3,h4⟩:=h.box j bj hj hlj
   have hne2:b2≠b:=fun e=>by rw[e,ho]at h2;cases h2
   exact⟨b2,cs2,h1,h2,(setRow_other w b b2 cs' hne2).trans h3,h4⟩
  ent:=fun j e hj hlj=>by
   rcases get_set_inv hj with⟨rfl,rfl⟩|⟨hne,hj⟩
   ·exact⟨v,hv,(fun hh=>by rw[hown]at hh;cases hh),fun _=>Own.of_mix hX hM⟩
   ·obtain⟨u,hu,h1,h2⟩:=h.ent j e hj hlj
    exact⟨u,hu,fun hown=>(h1 hown).mono (fun _ x=>x) hR,fun hown=>(h2 hown).mono (fun _ x=>x) hR (fun x hx=>⟨hx,setRow_other w b x cs' (fun e=>by rw[e,ho]at hx;cases hx;exact hne rfl)⟩)⟩
  mrk:=fun x hx=>(setRow_other w b x cs' (fun e=>by rw[e,ho]at hx;cases hx)).trans (h.mrk x hx)
  lp:=fun j L hj=>by
   obtain⟨bj,x,g1,g2,g3,g4,g5⟩:=h.lp j L hj
   have hxb:x≠b:=fun e=>by rw[e,ho]at g4;cases g4
   exact⟨bj,x,g1,g2,g3,g4,g5.mono (setRow_other w b x cs' hxb) (fun _ _ x=>x) (fun _ _ x=>x)⟩}
theorem Rd.mk0{s:Sl}{e:TypeId}{v:Value}(h:Rd P w R (.sl s.n s.f) (.sl e) v):Rd P w R (.sl s.mk0.n s.mk0.f) (.sl e) v:=by
 obtain⟨e',a,cap,hk,hv,h1,h2,h3,h4⟩:=h
 refine⟨e',a,cap,hk,hv,h1,h2,h3,fun ks i j kk hks hi hj=> ?_⟩
 obtain⟨ad,u,g1,g2,g3,g4,g5⟩:=h4 ks i j kk hks hi hj
 refine⟨ad,u,g1,g2,g3,g4, ?_⟩
 show Rd P w R (if i<s.n then s.f i j else .int 0) kk u
 rw[if_pos (show i<s.n from hi)];exact g5
theorem tg_mk0(s:Sl):tgD (.sl s.mk0.n s.mk0.f)=false:=by
 show(match(if s.n<s.n then s.f s.n 0 else D.int 0)with| .int x=>x==777|_=>false)=false
 rw[if_neg (Nat.lt_irrefl _)];rfl
theorem tg_mk1(s:Sl):tgD (.sl s.mk1.n s.mk1.f)=true:=by
 show(match(if s.n<s.n then s.f s.n 0 else D.int 777)with| .int x=>x==777|_=>false)=true
 rw[if_neg (Nat.lt_irrefl _)];rfl
theorem OwnS.deep{i:Nat}{e:TypeId}{s:Sl}{v:Value}(h:OwnS P w R ow i e s v)(hf:flatK P (.sl e)=true):Dp P w (fun b=>ow b=some (.ent i)) (.sl s.mk1.n s.mk1.f) (.sl e) v:=by
 obtain⟨a,cap,hv,h1,h2,h3,h4⟩:=h
 refine⟨e,a,cap,rfl,hv,h1,h2,h3,h4.imp id fun⟨b,cs,ha,hz,hb,hc⟩=>⟨b,cs,ha,hz,hb,fun ks hks=> ?_⟩⟩
 simp only[flatK,hks]at hf
 have flat:∀{k:Nat}{kk:K},ks[k]? =some kk->∀e,kk≠ .sl e:=fun{k kk} hk e he=>by
  have:=List.all_eq_true.1 hf kk (List.mem_of_getElem? hk)
  rw[he]at this;cases this
 obtain⟨hsz,hcell⟩:=hc ks hks
 refine⟨hsz,fun j k kk hj hk=> ?_,fun q q' u u' c hq hq' hu hu' hb1 hb2=> ?_⟩
 ·obtain⟨u,hu,hr⟩:=hcell j k kk hj hk
  refine⟨u,hu, ?_⟩
  show Dp P w _ (if j<s.n then s.f j k else .int 777) kk u
  rw[if_pos (show j<s.n from hj)]
  generalize s.f j k=d at hr
  cases d with
  |int n=>exact hr
  |bool b=>exact hr
  |str s=>exact hr
  |sl n f=>obtain⟨e',_,_,hke,_⟩:=hr;exact absurd hke (flat hk e')
 ·have hL:0<ks.length:=by
   rcases Nat.eq_zero_or_pos ks.length with h0|h0
   ·rw[h0,Nat.mul_zero]at hq;omega
   ·exact h0
  have hj:q/ks.length<s.n:=Nat.div_lt_of_lt_mul (by rw[Nat.mul_comm];exact hq)
  have hk:q % ks.length<ks.length:=Nat.mod_lt _ hL
  obtain⟨u2,hu2,hr⟩:=hcell (q/ks.length) (q % ks.length) _ hj (List.getElem?_eq_getElem hk)
  rw[Nat.mul_comm,Nat.div_add_mod]at hu2
  rw[hu]at hu2;cases hu2
  generalize s.f (q/ks.length) (q % ks.length)=d at hr
  cases d with
  |int n=>obtain⟨_,_,rfl,_⟩:=hr;cases hb1
  |bool b=>obtain⟨_,rfl⟩:=hr;cases hb1
  |str s=>obtain⟨_,rfl⟩:=hr;cases hb1
  |sl n f=>obtain⟨e',_,_,hke,_⟩:=hr;exact absurd hke (flat (List.getElem?_eq_getElem hk) e')
def XOk(P:Program)(w:World)(R:Nat->Prop)(ow:Nat->Option Owner)(c:D)(oid:Option Nat)(kk:K)(u:Value):Prop:=
 u.oneCell'=true/\(tgD c=true->Dp P w (fun b=>∃i,oid=some i/\ow b=some (.ent i)) c kk u)/\(tgD c=false->Rd P w R c kk u)
theorem xCell_flat{st:St (sem T)}{k:K}(hk:∀e,k≠ .sl e)(s:SV (sem T)):xCell P st k s=(toCl st.ents k s).map fun c=>(c,none):=by
 cases k with
 |sl e=>exact absurd rfl (hk e)
 |_=>cases s<;>rfl
theorem xCell_sound{st:St (sem T)}(h:HR P w0 R0 bl vs R ow st.boxes st.ents w){k:K}{s:SV (sem T)}{c:CS}{oid:Option Nat}(hc:xCell P st k s=some (c,oid)){v:Value}(hs:SVR bl vs s v):XOk P w R ow c.toD oid k v:=by
 by_cases hk:∃e,k= .sl e
 ·obtain⟨e,rfl⟩:=hk
  unfold xCell at hc
  split at hc
  ·rename_i e' id heq
   cases heq
   split at hc
   ·rename_i en hen
    split at hc
    ·rename_i hcc
     simp only[Bool.and_eq_true,beq_iff_eq,Bool.not_eq_true']at hcc
     obtain⟨hlive,rfl,hm⟩:=hcc
     obtain⟨u,hu,hr,hO⟩:=h.ent id en hen hlive
     have hs:vs[id]? =some v:=hs
     rw[hu]at hs;cases hs
     split at hc
     ·rename_i hown
      split at hc
      ·rename_i hf
       cases hc
       have hO:=(hO hown).1 hm
       have hv:∃a m c,v= .slice a m c:=by obtain⟨a,cap,hv,_⟩:=hO;exact⟨_,_,_,hv⟩
       refine⟨by obtain⟨a,m,c,rfl⟩:=hv;rfl,fun _=> ?_,fun hf=>absurd ((tg_mk1 en.s).symm.trans hf) (by simp)⟩
       exact Dp.mono (fun b hb _=>⟨id,rfl,hb⟩) (fun _ _=>rfl) (hO.deep hf)
      ·cases hc
     ·rename_i hown
      cases hc
      have hr:=hr (by simpa using hown)
      exact⟨hr.one,fun hf=>absurd ((tg_mk0 en.s).symm.trans hf) (by simp),fun _=>hr.mk0⟩
    ·cases hc
   ·cases hc
  ·cases hc
   have hs:v= .slice none 0 0:=hs
   subst hs
   exact⟨rfl,fun _=>⟨e,none,0,rfl,rfl,Nat.zero_le _,Nat.zero_le _,fun _=>rfl, .inl rfl⟩,fun hf=>absurd ((tg_mk1 Sl.nil).symm.trans hf) (by simp)⟩
  ·cases hc
  ·rename_i hk1 hk2 hk3
   first
    |exact(hk3 e rfl).elim
    |exact(hk2 e rfl).elim
    |exact(hk1 e rfl).elim
 ·have hns:∀e,k≠ .sl e:=fun e he=>hk ⟨e,he⟩
  rw[xCell_flat hns]at hc
  obtain⟨c',hc',hcc⟩:=Option.map_eq_some_iff.1 hc
  cases hcc
  have hr:=toCl_flat h hc' hs (fun id e=>by
   subst e
   cases k with
   |sl e=>exact hns e rfl
   |_=>simp[toCl]at hc')
  refine⟨hr.one,fun ht=> ?_,fun _=>hr⟩
  have:tgD c.toD=false:=by
   cases hd:c.toD with
   |sl n f=>rw[hd]at hr;obtain⟨e,_,_,hke,_⟩:=hr;exact absurd hke (hns e)
   |int n=>rfl
   |bool b=>rfl
   |str s=>rfl
  rw[this]at ht;cases ht
theorem xCells_sound{st:St (sem T)}(h:HR P w0 R0 bl vs R ow st.boxes st.ents w):∀{ks:List K}{s:List (SV (sem T))}{cs:List (CS×Option Nat)},xCells P st ks s=some cs->∀{v:List Value},SVRs bl vs s v->
  cs.length=ks.length/\v.length=ks.length/\∀(j:Nat)(kk:K),ks[j]? =some kk->∃c u,cs[j]? =some c/\v[j]? =some u/\XOk P w R ow c.1.toD c.2 kk u
 |[],[],cs,hc,v,hs=>by
  simp only[xCells,Option.some.injEq]at hc
  subst hc
  cases v with
  |nil=>exact⟨rfl,rfl,by simp⟩
  |cons=>exact hs.elim
 | k::ks,x::s,cs,hc,v,hs=>by
  cases v with
  |nil=>exact hs.elim
  | cons u v=>
   simp only[xCells]at hc
   split at hc
   ·rename_i c cs' h1 h2
    cases hc
    obtain⟨g1,g2,g3⟩:=xCells_sound h h2 hs.2
    refine⟨by simp[g1],by simp[g2],fun j kk hj=> ?_⟩
    cases j with
    |zero=>simp at hj;subst hj;exact⟨c,u,rfl,rfl,xCell_sound h h1 hs.1⟩
    |succ j=>simpa using g3 j kk (by simpa using hj)
   ·cases hc
 |[],_::_,_,hc,_,_=>by simp[xCells]at hc
 |_::_,[],_,hc,_,_=>by simp[xCells]at hc
theorem nodupB_spec:∀{l:List Nat},nodupB l=true->l.Nodup
 |[],_=>List.nodup_nil
 |x::l,h=>by
  simp only[nodupB,Bool.and_eq_true,Bool.not_eq_true',List.contains_eq_mem,decide_eq_false_iff_not]at h
  exact List.nodup_cons.2 ⟨h.1,nodupB_spec h.2⟩
theorem idx_unique{α:Type}:∀{l:List (Option α)},(l.filterMap id).Nodup->∀{p q:Nat}{x:α},l[p]? =some (some x)->l[q]? =some (some x)->p=q
 |[],_,p,q,x,hp,_=>by simp at hp
 | y::l,hn,p,q,x,hp,hq=>by
  have hmem:∀{r:Nat},l[r]? =some (some x)->x∈l.filterMap id:=fun{r} hr=>by
   rw[List.mem_filterMap]
   exact⟨some x,List.mem_of_getElem? hr,rfl⟩
  have hn':(l.filterMap id).Nodup:=by
   cases y with
   |none=>simpa using hn
   |some y=>simp only[List.filterMap_cons,id]at hn;exact(List.nodup_cons.1 hn).2
  cases p with
  |zero=>
   simp only[List.getElem?_cons_zero,Option.some.injEq]at hp
   subst hp
   simp only[List.filterMap_cons,id]at hn
   cases q with
   |zero=>rfl
   |succ q=>exact absurd (hmem (by simpa using hq)) (List.nodup_cons.1 hn).1
  | succ p=>
   cases q with
   |zero=>
    simp only[List.getElem?_cons_zero,Option.some.injEq]at hq
    subst hq
    simp only[List.filterMap_cons,id]at hn
    exact absurd (hmem (by simpa using hp)) (List.nodup_cons.1 hn).1
   |succ q=>exact congrArg (· +1) (idx_unique (p:=p) (q:=q) (x:=x) hn' (by simpa using hp) (by simpa using hq))
theorem killEnts_other:∀(l:List Nat){st:St (sem T)}{i:Nat},i∉l->(killEnts st l).ents[i]? =st.ents[i]?
 |[],_,_,_=>rfl
 |id::l,st,i,hn=>by
  simp only[List.mem_cons,not_or]at hn
  show(killEnts (killEnt st id) l).ents[i]? =_
  rw[killEnts_other l hn.2]
  unfold killEnt
  split
  ·exact List.getElem?_set_ne (fun e=>hn.1 e.symm)
  ·rfl
theorem xCells_isCell{st:St (sem T)}:∀{ks:List K}{s:List (SV (sem T))}{cs:List (CS×Option Nat)},xCells P st ks s=some cs->s.all isCell=true
 |[],[],_,_=>rfl
 | k::ks,x::s,cs,hc=>by
  simp only[xCells]at hc
  split at hc
  ·rename_i c cs' h1 h2
   simp only[List.all_cons,Bool.and_eq_true]
   refine⟨?_,xCells_isCell h2⟩
   cases x with
   |agg l=>cases k<;>simp[xCell,toCl]at h1
   |tup l=>cases k<;>simp[xCell,toCl]at h1
   |junk=>cases k<;>simp[xCell,toCl]at h1
   |con cv=>
    cases cv with
    |agg l=>cases k<;>simp[xCell,toCl]at h1
    |tuple l=>cases k<;>simp[xCell,toCl]at h1
    |_=>rfl
   |_=>rfl
  ·cases hc
 |[],_::_,_,hc=>by simp[xCells]at hc
 |_::_,[],_,hc=>by simp[xCells]at hc
theorem eff_store_mix(h:HR P w0 R0 bl vs R ow st.boxes st.ents w)(ht:TR bl vs st.tmps a){t:TypeId}{x v:Operand}(ho:o.op= .store t x v){n id sz off:Nat}{i:Int}(hs:sizeT P t=some n)(hx:st.ev x= .eptr id sz i off)
  {en:Ent (sem T)} (hen:st.ents[id]? =some en) (hd:(eStoreX P st t v n id sz i off en k).den):EffOk P w0 R0 bl vs ow st a w o k:=by
 unfold eStoreX at hd
 split at hd
 ·rename_i ks hks
  split at hd
  ·rename_i hc
   simp only[Bool.and_eq_true,beq_iff_eq,decide_eq_true_eq]at hc
   obtain⟨⟨⟨hmix,hn⟩,hoff⟩,rfl⟩:=hc
   split at hd
   ·rename_i cs hcs
    split at hd
    ·rename_i hnd
     simp only[Bool.and_eq_true,Bool.not_eq_true']at hnd
     obtain⟨hnd,hid⟩:=hnd
     have hnd:=nodupB_spec hnd
     have hid:id∉cs.filterMap (·.2):=fun hm=>by
      rw[List.contains_iff_mem.2 hm]at hid;cases hid
     obtain⟨hX,hlive,hown,_⟩:=mixOk_inv hmix
     have hxv:=ev_sound ht x
     rw[hx]at hxv
     obtain⟨ad,len,cap,g1,g2,⟨g3,g4⟩,hv⟩:=hxv
     obtain⟨u0,hu0,_,hO⟩:=h.ent id en hen hlive
     rw[g1]at hu0;cases hu0
     obtain⟨a0,cap0,he0,k1,k2,k3,k4⟩:=(hO hown).mix hmix
     cases he0
     rcases k4 with k4|⟨b,row,hab,hob,hrow,hcont⟩
     ·omega
     cases hab
     obtain⟨hsz,hcell,hdis⟩:=hcont ks hks
     have hcs':=cells_sound h.vsl (ev_sound ht v) (xCells_isCell hcs)
     obtain⟨c1,c2,c3⟩:=xCells_sound h hcs hcs'
     simp only[Array.length_toList]at c2
     have hilt:i.toNat<en.s.n:=by omega
     have hL:(List.take n (List.drop off ks)).length=n:=by simp;omega
     have hfit:i.toNat*ks.length+off+n<=row.size:=by
      rw[hsz]
      have:i.toNat*ks.length+ks.length<=cap*ks.length:=by
       calc i.toNat*ks.length+ks.length=(i.toNat+1)*ks.length:=by rw[Nat.add_mul,Nat.one_mul]
        _<=cap*ks.length:=Nat.mul_le_mul_right _ (by omega)
      omega
     have hone:∀u∈(a.eval v).cells.toList,u.oneCell'=true:=by
      intro u hu
      obtain⟨j,hj⟩:=List.mem_iff_getElem?.1 hu
      have hjl:j<(List.take n (List.drop off ks)).length:=by
       have:=(List.getElem?_eq_some_iff.1 hj).1
       simp only[Array.length_toList]at this
       omega
      obtain⟨c,u',_,hu',hr⟩:=c3 j _ (List.getElem?_eq_getElem hjl)
      rw[hj]at hu';cases hu'
      exact hr.1
     have hrun:=run_storeCells_at P b (i.toNat*ks.length+off) (unX en.elem) (a.eval v).cells.toList 0 row w hrow (by simp only[Array.length_toList];omega) hone
     simp only[Nat.add_zero]at hrun
     obtain⟨ii,hi,hsi⟩:=size_inv hs
     obtain⟨hK,hKt⟩:=HR.kills (cs.filterMap (·.2)) h
     obtain⟨ow2,hG,hG1,hG2⟩:=hK.hr.give (ids:=cs.filterMap (·.2)) id (fun j e hj hl=>killEnts_dead _ hj hl)
     have hen1:(killEnts st (cs.filterMap (·.2))).ents[id]? =some en:=(killEnts_other _ hid).trans hen
     have o2id:∀{x:Nat},ow x=some (.ent id)->ow2 x=some (.ent id):=fun{x} hx=>by
      by_cases hh:∃i∈cs.filterMap (·.2),ow x=some (.ent i)
      ·exact hG1 x hh
      ·rw[hG2 x hh];exact hx
     have o2in:∀{x j:Nat},j∈cs.filterMap (·.2)->ow x=some (.ent j)->ow2 x=some (.ent id):=fun{x j} hj hx=>hG1 x ⟨j,hj,hx⟩
     have hne:∀{x j:Nat},j∈cs.filterMap (·.2)->ow x=some (.ent j)->x≠b:=fun{x j} hj hx e=>by
      subst e
      rw[hob]at hx;cases hx;exact hid hj
     generalize hcs2:(row.toList.take (i.toNat*ks.length+off)++(a.eval v).cells.toList++row.toList.drop (i.toNat*ks.length+off+(a.eval v).cells.toList.length)).toArray=row' at*
     have oth:∀x,x≠b->(w.setRow b row').heap[x]? =w.heap[x]? :=fun x hx=>setRow_other w b x row' hx
     have othR:∀x,R x->(w.setRow b row').heap[x]? =w.heap[x]? :=fun x hx=>oth x fun e=>by rw[e]at hx;rw[h.ro b hx]at hob;cases hob
     have getN:∀q,off<=q->q<off+n->row'[i.toNat*ks.length+q]? =(a.eval v).cells.toList[q-off]? :=fun q hq1 hq2=>by
      rw[<-hcs2,List.getElem?_toArray,List.getElem?_append_left (by simp;omega),List.getElem?_append_right (by simp;omega)]
      simp only[List.length_take,Array.length_toList]
      rw[show i.toNat*ks.length+q-min (i.toNat*ks.length+off) row.size=q-off by omega]
     have getO:∀j q,j<en.s.n->q<ks.length->¬(j=i.toNat/\off<=q/\q<off+n)->row'[j*ks.length+q]? =row[j*ks.length+q]? :=fun j q hj' hq' hin=>by
      have hpos:=row_idx (L:=ks.length) (n:=cap) (i:=j) (j:=q) (by omega) hq'
      have hout:j*ks.length+q<i.toNat*ks.length+off\/i.toNat*ks.length+off+n<=j*ks.length+q:=by
       rcases Nat.lt_trichotomy j i.toNat with hlt|heq|hgt
       ·left
        have:=row_idx (L:=ks.length) (n:=i.toNat) (i:=j) (j:=q) hlt hq'
        omega
       ·subst heq
        simp only[true_and,not_and,Nat.not_lt]at hin
        by_cases hoq:off<=q
        ·right;have:=hin hoq;omega
        ·left;omega
       ·right
        have:=Nat.mul_le_mul_right ks.length (show i.toNat+1<=j by omega)
        rw[Nat.add_mul,Nat.one_mul]at this
        omega
      rw[<-hcs2]
      rcases hout with hout|hout
      ·rw[List.getElem?_toArray,List.getElem?_append_left (by simp;omega),List.getElem?_append_left (by simp;omega),List.getElem?_take,if_pos hout]
       simp
      ·rw[List.getElem?_toArray,List.getElem?_append_right (by simp;omega),List.getElem?_drop]
       simp only[List.length_append,List.length_take,Array.length_toList]
       rw[show i.toNat*ks.length+off+(a.eval v).cells.size+(j*ks.length+q-(min (i.toNat*ks.length+off) row.size+(a.eval v).cells.size))=j*ks.length+q by omega]
       simp
     have updN:∀q c,off<=q->q<off+n->cs[q-off]? =some c->(Sl.upd en.s i off ((cs.map (·.1)).map Cl.toD)).f i.toNat q=c.1.toD:=fun q c hq1 hq2 hc=>by
      simp only[Sl.upd]
      rw[if_pos ⟨trivial,hq1,by simp;omega⟩,List.getD_eq_getElem?_getD,List.getElem?_map,List.getElem?_map,hc]
      rfl
     have updO:∀j q,¬(j=i.toNat/\off<=q/\q<off+n)->(Sl.upd en.s i off ((cs.map (·.1)).map Cl.toD)).f j q=en.s.f j q:=fun j q hin=>by
      simp only[Sl.upd]
      rw[if_neg (fun hh=>hin ⟨hh.1,hh.2.1,by have:=hh.2.2;simp at this;omega⟩)]
     have newX:∀q kk,off<=q->q<off+n->ks[q]? =some kk->∃c u,cs[q-off]? =some c/\(a.eval v).cells.toList[q-off]? =some u/\XOk P w R ow c.1.toD c.2 kk u:=fun q kk hq1 hq2 hq=>c3 (q-off) kk (by rw[List.getElem?_take,if_pos (by omega),List.getElem?_drop,show off+(q-off)=q by omega];exact hq)
     have inIds:∀{p:Nat}{c:CS×Option Nat}{j:Nat},cs[p]? =some c->c.2=some j->j∈cs.filterMap (·.2):=fun{p c j} hp hj=>List.mem_filterMap.2 ⟨c,List.mem_of_getElem? hp,hj⟩
     have hM:Mx P (w.setRow b row') R (fun x=>ow2 x=some (.ent id)) (unX en.elem) (Sl.upd en.s i off ((cs.map (·.1)).map Cl.toD)) (.slice (some ⟨b,0,none⟩) en.s.n cap):=by
      refine⟨some ⟨b,0,none⟩,cap,rfl,k1,k2,(fun hh=>by cases hh), .inr ⟨b,row',rfl,o2id hob,setRow_heap w b row row' _ _ hrow,fun ks2 hks2=> ?_⟩⟩
      rw[hks]at hks2;cases hks2
      refine⟨by rw[<-hcs2];simp;omega,fun j q kk hj hq=> ?_,fun j q j' q' u u' c hj hq hj' hq' t1 t2 hu hu' hb1 hb2=> ?_⟩
      ·have hq':q<ks.length:=(List.getElem?_eq_some_iff.1 hq).1
       by_cases hin:j=i.toNat/\off<=q/\q<off+n
       ·obtain⟨rfl,hq1,hq2⟩:=hin
        obtain⟨c,u,hc,hu,_,x1,x2⟩:=newX q kk hq1 hq2 hq
        refine⟨u,(getN q hq1 hq2).trans hu, ?_, ?_⟩
        ·rw[updN q c hq1 hq2 hc]
         exact fun ht=>Dp.mono (fun x⟨j,hj,hx⟩ _=>⟨o2in (inIds hc hj) hx,hne (inIds hc hj) hx⟩) (fun x⟨j,hj,hx⟩=>oth x (hne (inIds hc hj) hx)) (x1 ht)
        ·rw[updN q c hq1 hq2 hc]
         exact fun ht=>(x2 ht).mono (fun _ x=>x) othR
       ·obtain⟨u,hu,x1,x2⟩:=hcell j q kk hj hq
        refine⟨u,(getO j q hj hq' hin).trans hu, ?_, ?_⟩
        ·rw[updO j q hin]
         exact fun ht=>Dp.mono (fun x hx _=>⟨o2id hx.1,hx.2⟩) (fun x hx=>oth x hx.2) (x1 ht)
        ·rw[updO j q hin]
         exact fun ht=>(x2 ht).mono (fun _ x=>x) othR
      ·
       have whose:∀{j q:Nat}{u:Value},j<en.s.n->q<ks.length->tgD ((Sl.upd en.s i off ((cs.map (·.1)).map Cl.toD)).f j q)=true->row'[j*ks.length+q]? =some u->blkOf u=some c->
         (j=i.toNat/\off<=q/\q<off+n/\∃cc m,cs[q-off]? =some cc/\cc.2=some m/\ow c=some (.ent m))\/(¬(j=i.toNat/\off<=q/\q<off+n)/\ow c=some (.ent id)):=fun{j q u} hj hq t1 hu hb1=>by
        by_cases hin:j=i.toNat/\off<=q/\q<off+n
        ·obtain⟨rfl,hq1,hq2⟩:=hin
         obtain⟨cc,u2,hc,hu2,_,x1,_⟩:=newX q _ hq1 hq2 (List.getElem?_eq_getElem hq)
         rw[getN q hq1 hq2,hu2]at hu
         cases hu
         rw[updN q cc hq1 hq2 hc]at t1
         obtain⟨m,hm,hx⟩:=(x1 t1).blk hb1
         exact .inl ⟨rfl,hq1,hq2,cc,m,hc,hm,hx⟩
        ·obtain⟨u2,hu2,x1,_⟩:=hcell j q _ hj (List.getElem?_eq_getElem hq)
         rw[getO j q hj hq hin,hu2]at hu
         cases hu
         rw[updO j q hin]at t1
         exact .inr ⟨hin,((x1 t1).blk hb1).1⟩
       rcases whose hj hq t1 hu hb1 with⟨e1,p1,p2,cc,m,hc,hm,hx⟩|⟨n1,hx⟩
       ·rcases whose hj' hq' t2 hu' hb2 with⟨e1',p1',p2',cc',m',hc',hm',hx'⟩|⟨n1',hx'⟩
        ·rw[hx]at hx';cases hx'
         have:=idx_unique (l:=cs.map (·.2)) (by rw[List.filterMap_map];exact hnd) (p:=q-off) (q:=q'-off) (x:=m) (by rw[List.getElem?_map,hc];simp[hm]) (by rw[List.getElem?_map,hc'];simp[hm'])
         exact⟨e1.trans e1'.symm,by omega⟩
        ·rw[hx]at hx';cases hx'
         exact absurd (inIds hc hm) hid
       ·rcases whose hj' hq' t2 hu' hb2 with⟨e1',p1',p2',cc',m',hc',hm',hx'⟩|⟨n1',hx'⟩
        ·rw[hx']at hx;cases hx
         exact absurd (inIds hc' hm') hid
        ·rw[getO j q hj hq n1]at hu
         rw[getO j' q' hj' hq' n1']at hu'
         rw[updO j q n1]at t1
         rw[updO j' q' n1']at t2
         exact hdis j q j' q' u u' c hj hq hj' hq' t1 t2 hu hu' hb1 hb2
     refine⟨undef,_, .inr ⟨?_,rfl⟩, .con (.tuple #[]),_,bl,vs,R,ow2,(hK.trans ⟨hG,fun _ _ x=>x,fun _ _ x=>x,Ext.refl _, ?_⟩).trans (hG.setRowMix (cs':=row') (ver:=en.ver+1) hen1 hX hown g1 (o2id hob) (Nat.lt_succ_self _) hM),hKt,rfl,hd⟩
     ·have hne:¬(a.eval v).cells.size≠ii.size:=by omega
      simp only[execOp,ho,Instr.storeAt,hv,Instr.sureAddr,Sem.run_bind,Sem.run_pure,Result.andThen_ok,storeVar,run_sizeOf' hi,if_neg hne]
      simp only[Nat.zero_add]at hrun⊢
      rw[hrun]
      rfl
     ·intro l mo x hx
      rw[hG2 x (fun⟨j,_,hh⟩=>by rw[hx]at hh;cases hh)];exact hx
    ·exact hd.elim
   ·exact hd.elim
  ·exact hd.elim
 ·exact hd.elim
theorem eff_sound(h:HR P w0 R0 bl vs R ow st.boxes st.ents w)(ht:TR bl vs st.tmps a)(hd:(effOp P st o k).den):EffOk P w0 R0 bl vs ow st a w o k:=by
 unfold effOp at hd
 split at hd
 ·rename_i t ho;exact eff_alloc h ho hd
 ·rename_i t x ho;exact eff_box h ht ho hd
 ·rename_i t x v ho
  unfold eStore at hd
  split at hd
  ·rename_i n b off hs hx;exact eff_store_box h ht ho hs hx hd
  ·rename_i n id sz i off hs hx
   split at hd
   ·rename_i en hen
    split at hd
    ·exact eff_store_mix h ht ho hs hx hen hd
    ·exact eff_store_ent h ht ho hs hx hd
   ·exact hd.elim
  ·exact hd.elim
 ·rename_i t x ho;exact eff_load h ht ho hd
 ·rename_i t len parts ho
  split at hd
  ·exact eff_buildSlice h ht ho hd
  ·exact eff_buildFns h ht ho hd
 ·rename_i t len cap ho;exact eff_makeSlice h ht ho hd
 ·rename_i t x lo hi mx ho
  split at hd
  ·exact eff_sliceBox h ht ho hd
  ·exact eff_slice h ht ho hd
 ·rename_i t x ix ho;exact eff_indexAgg h ht ho hd
 ·rename_i t x ix ho
  split at hd
  ·exact eff_indexBox h ht ho hd
  ·exact eff_indexFns h ht ho hd
 ·rename_i args argTypes ho;exact eff_append h ht ho hd
 ·rename_i t r ho;exact eff_makeMap h ho hd
 ·rename_i t x ix ok ho;exact eff_lookup h ht ho hd
 ·rename_i t m x v ho;exact eff_mapUpdate h ht (.inl ho) hd
 ·rename_i t m x v ho;exact eff_mapUpdate h ht (.inr ho) hd
 ·rename_i t x y u ho;exact eff_nil (neq:=false) h ht ho hd
 ·rename_i t x y u ho;exact eff_nil (neq:=true) h ht ho hd
 ·exact hd.elim
end Go.Sx
