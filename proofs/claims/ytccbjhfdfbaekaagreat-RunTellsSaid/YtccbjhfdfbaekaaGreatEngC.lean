/-
 The operations of the symbolic executor that make or write memory are sound. Conditions: the symbolic state relates to the model's.
-/
import Derived.Test.YtccbjhfdfbaekaaGreatEngB
import Derived.Lib.SliceRun
import Derived.Lib.AppendZeros
import Derived.WalkSpells
open Bool renaming and_eq_true->zA,not_eq_true'->zL,false_eq_true->vA,false_ne_true->vD
open Go.Sx.Sl renaming app->zB,nil->zC,rep->zD,part->zP,lit->z2,mset->z3
open List renaming mem_cons->zE,getElem?_eq_some_iff->zR,getElem?_take->z1,getElem?_append_left->z5,getElem?_map->z6,not_mem_nil->z7,getElem?_append_right->z9,getD_eq_getElem?_getD->qE,length_cons->qG,length_take->qL,range'->qM,range'_succ->qN,map_cons->qS,length_map->q3,getElem?_drop->q4,getElem?_toArray->q5,map_map->q6,all_cons->vB,mem_iff_getElem?->vE,length_append->vF,length->vH,flatMap_cons->v6,getElem?_set_ne->v7,getElem?_eq_none->v8,range_eq_range'->v9,getElem?_range->wA,mem_of_getElem?->wC
open Nat renaming le_refl->zF,add_mul->zG,add_zero->zI,zero_add->z0,mul_le_mul_right->z4,le_trans->z8,zero_le->qD,le_mul_of_pos_right->qH,one_mul->qK,succ_mul->qV,not_lt_zero->q0,mul_comm->vG,min_le_left->vR
open Array renaming length_toList->zH,getElem?_toList->qI,toList_map->q7,foldl_toList->vL,toList_zipIdx->vQ,size_append->vY,getElem?_setIfInBounds->wD,getElem?_eq_some_iff->wE
open Option renaming map_some->qJ,getD_some->qT,map_none->qX,map_eq_some_iff->qY,isSome_iff_exists->q9
set_option linter.unusedVariables false
set_option linter.unusedSimpArgs false
namespace Go.Sx
open Go.RowKit (Below)
variable{T:FuncId->Pred}{P:Program}{w0 w:World}{R0:Bs T}{R:Nat->Prop}{bl:List Nat}{vs:List Value}{ow:Nat->Option Owner}
variable{st:St (sem T)}{a:Act}{o:Oper}{k:SV (sem T)->St (sem T)->Tree (sem T)}
def oG(P:Program)(w0:World)(R0:Bs T)(bl:List Nat)(vs:List Value)(ow:Nat->Option Owner)(st:St (sem T))(a:Act)(w:World)(o:Oper)(k:SV (sem T)->St (sem T)->Tree (sem T)):Prop:=
 ∃v w',((execOp a.eval o).run P w= .ok (.value v) w'\/((execOp a.eval o).run P w= .ok .skip w'/\v=undef))/\
  ∃sv st' bl' vs' R' ow',Stp P w0 R0 bl vs ow st bl' vs' R' ow' st' w'/\st'.tmps=st.tmps/\SVR bl' vs' sv v/\(k sv st').den
theorem lC{ps:List Prop}{t:Tree (sem T)}:(needs (A:=sem T) ps t).den↔(∀p∈ps,p)/\t.den:=by
 induction ps with
 |nil=>simp[needs]
 |cons p ps ih=>
  simp only[needs,List.foldr_cons,Tree.den]at ih⊢;rw[ih];simp only[zE,forall_eq_or_imp];exact and_assoc.symm
theorem Ee{ps:List Prop}{t:Tree (sem T)}:(givens (A:=sem T) ps t).den↔((∀p∈ps,p)->t.den):=by
 induction ps with
 |nil=>simp[givens]
 |cons p ps ih=>
  simp only[givens,List.foldr_cons,Tree.den]at ih⊢;rw[ih];simp only[zE,forall_eq_or_imp];exact and_imp.symm
theorem HR.jA(h:HR P w0 R0 bl vs R ow st.boxes st.ents w):ow w.heap.size=none:=by
 cases ho:ow w.heap.size with
 |none=>rfl
 |some o=>have:=(h.olt _ _ ho).2;omega
theorem HR.LZ(h:HR P w0 R0 bl vs R ow st.boxes st.ents w):¬R w.heap.size:=fun hr=>by have:=h.rlt _ hr;omega
theorem HR.ad9(h:HR P w0 R0 bl vs R ow st.boxes st.ents w){ty:TypeId}{cs:Array Value}{cells:List (SV (sem T))}(hs:SVRs bl vs cells cs.toList):
  Stp P w0 R0 bl vs ow st (bl++[w.heap.size]) vs R (setOw ow w.heap.size (some (.box st.boxes.length))) (addBox st ty cells) (w.alloc (.cells cs ty)) where
 hr:=by
  have hb:Below w.heap.size w (w.alloc (.cells cs ty)):=(Below.refl _ _).alloc (zF _) _;exact(h.grow hb).pushBox (heap_alloc_new w _) h.below.size h.jA h.LZ hs
 bl:=fun _ _=>get_append_lt
 vs:=fun _ _ x=>x
 ext:=Ext.of_append (nb:=[⟨ty,cells,0,true⟩]) (ne:=[]) rfl (by simp[addBox])
 mrk:=fun b hb=>by
  have hne:b≠w.heap.size:=fun e=>by rw[e,h.jA]at hb;cases hb
  rw[setOw_ne hne];exact hb
theorem Vz{b:Nat}:(bl++[b])[bl.length]? =some b:=by
 rw[z9 (zF _)];simp
theorem atj{v:Value}:(vs++[v])[vs.length]? =some v:=by
 rw[z9 (zF _)];simp
theorem alE(h:HR P w0 R0 bl vs R ow st.boxes st.ents w){t:TypeId}(ho:o.op= .alloc t)(hd:(eAlloc P st t k).den):oG P w0 R0 bl vs ow st a w o k:=by
 unfold eAlloc at hd;split at hd
 ·rename_i z n hz hs
  split at hd
  ·obtain⟨i,v,hi,hzv,hsv⟩:=zeroCells_sound (bl:=bl) (vs:=vs) hz
   refine⟨.pointer (some ⟨w.heap.size,0,none⟩),w.alloc (.cells v.cells t), .inl ?_, .ptr st.boxes.length 0,_,_,_,_,_,h.ad9 (ty:=t) hsv,rfl,⟨w.heap.size, ?_,rfl⟩,hd⟩
   ·simp[execOp,ho,Instr.alloc,run_zero hi hzv,newVar,newRow]
   ·rw[<-h.nb];exact Vz
  ·exact hd.elim
 ·exact hd.elim
theorem atl(h:HR P w0 R0 bl vs R ow st.boxes st.ents w)(ht:TR bl vs st.tmps a){t:TypeId}{x:Operand}(ho:o.op= .box t x)(hd:(eBox P st t x k).den):oG P w0 R0 bl vs ow st a w o k:=by
 unfold eBox at hd;split at hd
 ·rename_i n hs
  split at hd
  ·rename_i hc
   simp only[zA,beq_iff_eq]at hc;have hsv:=cells_sound h.vsl (ev_sound ht x) hc.2;refine⟨.pointer (some ⟨w.heap.size,0,none⟩),w.alloc (.cells (a.eval x).cells t), .inl ?_, .ptr st.boxes.length 0,_,_,_,_,_,h.ad9 (ty:=t) hsv,rfl,⟨w.heap.size, ?_,rfl⟩,hd⟩
   ·simp[execOp,ho,Instr.box,newVar,newRow]
   ·rw[<-h.nb];exact Vz
  ·exact hd.elim
 ·exact hd.elim
theorem FK{t:TypeId}{n:Nat}(h:sizeT P t=some n):∃i,P.info? t=some i/\i.size=n:=by
 unfold sizeT at h;obtain⟨i,hi,rfl⟩:=qY.1 h;exact⟨i,hi,rfl⟩
theorem HR.awx(h:HR P w0 R0 bl vs R ow st.boxes st.ents w){i b:Nat}{bx:Box (sem T)}{cs cs':Array Value}{cells:List (SV (sem T))}(hi:st.boxes[i]? =some bx)(_hl:bx.live=true)
  (hb:bl[i]? =some b) (ho:ow b=some (.box i)) (hw:w.heap[b]? =some (.cells cs bx.ty (0,0))) (hs:SVRs bl vs cells cs'.toList):
  Stp P w0 R0 bl vs ow st bl vs R ow {st with boxes:=st.boxes.set i {bx with cells:=cells,ver:=bx.ver+1}} (w.setRow b cs') where
 bl:=fun _ _ x=>x
 vs:=fun _ _ x=>x
 ext:=Ext.of_set_box (i:=i) (bx:={bx with cells:=cells,ver:=bx.ver+1}) rfl rfl (fun b0 h0=>by rw[hi]at h0;cases h0;exact⟨by simp,rfl⟩)
 mrk:=fun _ x=>x
 hr :={
  mrk:=fun x hx=>(setRow_other w b x cs' (fun e=>by rw[e,ho]at hx;cases hx)).trans (h.mrk x hx)
  lp:=fun j L hj=>by
   obtain⟨bj,x,g1,g2,g3,g4,g5⟩:=h.lp j L hj;have hne:j≠i:=fun e=>by rw[e,hi]at g1;cases g1;rw[_hl]at g2;cases g2
   have hxb:x≠b:=fun e=>by rw[e,ho]at g4;cases g4;exact hne rfl
   exact⟨bj,x,by rw[v7 (fun e=>hne e.symm)];exact g1,g2,g3,g4,g5.mono (setRow_other w b x cs' hxb) (fun _ _ x=>x) (fun _ _ x=>x)⟩
  below:=h.below.trans ⟨by simp,by simp,by simp,by simp,fun x hx=>setRow_other w b x cs' (fun e=>by have:=(h.olt b _ ho).1;omega)⟩
  rlt:=fun x hx=>by simpa using h.rlt x hx
  r0:=h.r0
  rsub:=h.rsub
  ro:=h.ro
  olt:=fun x q hx=>by simpa using h.olt x q hx
  nb:=by simp[h.nb]
  nv:=h.nv
  vsl:=h.vsl
  glb:=h.glb
  box:=fun j bj hj hlj=>by
   rcases get_set_inv hj with⟨rfl,rfl⟩|⟨hne,hj⟩
   ·exact⟨b,cs',hb,ho,setRow_heap w b cs cs' _ _ hw,hs⟩
   ·obtain⟨b2,cs2,h1,h2,h3,h4⟩:=h.box j bj hj hlj
    have hne2:b2≠b:=fun e=>by rw[e,ho]at h2;cases h2;exact hne rfl
    exact⟨b2,cs2,h1,h2,(setRow_other w b b2 cs' hne2).trans h3,h4⟩
  ent:=fun j e hj hlj=>by
   obtain⟨v,hv,h1,h2⟩:=h.ent j e hj hlj;refine⟨v,hv,fun hown=>(h1 hown).mono (fun _ x=>x) (fun x hx=>setRow_other w b x cs' (fun e=>by rw[e]at hx;rw[h.ro b hx]at ho;cases ho)),
    fun hown=>(h2 hown).mono (fun _ x=>x) (fun x hx=>setRow_other w b x cs' (fun e=>by rw[e]at hx;rw[h.ro b hx]at ho;cases ho)) (fun x hx=>⟨hx,setRow_other w b x cs' (fun e=>by rw[e,ho]at hx;cases hx)⟩)⟩}
theorem SVRs.one{s:List (SV (sem T))}{v:List Value}(hv:∀(i:Nat)(v:Value),vs[i]? =some v->SlV v)(h:SVRs bl vs s v)(hc:s.all isCell=true):∀u∈v,u.oneCell'=true:=by
 induction s generalizing v with
 |nil=>cases v with
  |nil=>simp
  |cons=>exact h.elim
 | cons x s ih=>cases v with
  |nil=>exact h.elim
  |cons u v=>
   simp only[vB,zA]at hc;intro y hy;simp only[zE]at hy;rcases hy with rfl|hy
   ·exact isCell_one hv h.1 hc.1
   ·exact ih h.2 hc.2 y hy
theorem ado(h:HR P w0 R0 bl vs R ow st.boxes st.ents w)(ht:TR bl vs st.tmps a){t:TypeId}{x v:Operand}(ho:o.op= .store t x v){n b off:Nat}(hs:sizeT P t=some n)(hx:st.ev x= .ptr b off)
  (hd:(eStoreBox st t v n b off k).den):oG P w0 R0 bl vs ow st a w o k:=by
 unfold eStoreBox at hd;split at hd
 ·rename_i bx hbx
  split at hd
  ·rename_i hc
   simp only[zA,beq_iff_eq,decide_eq_true_eq]at hc;obtain⟨⟨⟨hlive,rfl⟩,hoff⟩,hcell⟩:=hc;have hxv:=ev_sound ht x;rw[hx]at hxv;obtain⟨b',hb',hv⟩:=hxv;obtain⟨b2,cs,h1,h2,h3,h4⟩:=h.box b bx hbx hlive;rw[hb']at h1;cases h1;obtain⟨i,hi,hsz⟩:=FK hs;have hcs:=cells_sound h.vsl (ev_sound ht v) hcell;have hl1:=hcs.length;have hl2:=h4.length;simp only[zH]at hl1 hl2;have hone:=hcs.one h.vsl hcell;have hrun:=run_storeCells_at P b' off bx.ty (a.eval v).cells.toList 0 cs w h3 (by simp;omega) hone;simp only[zI]at hrun;refine⟨undef,_, .inr ⟨?_,rfl⟩, .con (.tuple #[]),_,bl,vs,R,ow,h.awx hbx hlive hb' h2 h3 (cells:=bx.cells.take off++cellsOf (st.ev v)++bx.cells.drop (off+(cellsOf (st.ev v)).length)) (cs':=(cs.toList.take off++(a.eval v).cells.toList++cs.toList.drop (off+(a.eval v).cells.toList.length)).toArray) ?_,rfl,rfl,hd⟩
   ·have hne:¬(a.eval v).cells.size≠i.size:=by rw[hsz,<-hl1];simp
    simp only[execOp,ho,Instr.storeAt,hv,Instr.sureAddr,Sem.run_bind,Sem.run_pure,Result.andThen_ok,storeVar,run_sizeOf' hi,if_neg hne,hrun]
   ·simp only[zH,<-hl1]
    exact((h4.take off).append hcs).append (h4.drop _)
  ·exact hd.elim
 ·exact hd.elim
theorem OwnS.rd{i:Nat}{e:TypeId}{s:Sl}{v:Value}(h:OwnS P w R ow i e s v):Rd P w (fun b=>R b\/ow b=some (.ent i)) (.sl s.n s.f) (.sl e) v:=by
 obtain⟨a,cap,hv,h1,h2,ha,hc⟩:=h;refine⟨e,a,cap,rfl,hv,h1,h2,ha,fun ks j q kk hk hj hq=> ?_⟩
 rcases hc with hc|⟨b,cs,hab,hob,hcs,hcont⟩
 ·omega
 ·obtain⟨u,hu,hr⟩:=(hcont ks hk).2 j q kk hj hq
  refine⟨_,u,hab,rfl, .inr hob, ?_,hr.mono (fun _ x=> .inl x) (fun _ _=>rfl)⟩
  simp[World.cell?,hcs,hu]
theorem kF{α:Type}{l:List α}{i:Nat}{x y:α}(h:l[i]? =some x):(l.set i y)[i]? =some y:=by
 rw[List.getElem?_set];have:i<l.length:=by
  rcases Nat.lt_or_ge i l.length with h'|h'
  ·exact h'
  ·rw[v8 h']at h;cases h
 simp[this]
theorem HR.freeze(h:HR P w0 R0 bl vs R ow st.boxes st.ents w)(id:Nat):
  ∃R' ow',Stp P w0 R0 bl vs ow st bl vs R' ow' (freezeId st id) w/\(freezeId st id).tmps=st.tmps/\(freezeId st id).boxes=st.boxes/\(freezeId st id).ents.length=st.ents.length:=by
 unfold freezeId;split
 ·rename_i e he
  split
  ·rename_i hc
   simp only[zA,zL]at hc;obtain⟨hlive,hown,hm⟩:=hc;obtain⟨v,hv,_,h2⟩:=h.ent id e he hlive;have hO:=(h2 hown).1 hm;refine⟨fun b=>R b\/ow b=some (.ent id),fun b=>match ow b with|some (.ent j)=>if j=id then none else some (.ent j)|o=>o,⟨?_,fun _ _ x=>x,fun _ _ x=>x, ?_,fun b hb=>by simp[hb]⟩,rfl,rfl,by simp⟩
   ·exact{
     below:=h.below
     rlt:=fun b hb=>hb.elim (h.rlt b) (fun hb=>(h.olt b _ hb).2)
     r0:=fun b hb=> .inl (h.r0 b hb)
     rsub:=fun b hb=>hb.elim (h.rsub b) (fun hb=> .inr (h.olt b _ hb).1)
     ro:=fun b hb=>by
      rcases hb with hb|hb
      ·simp[h.ro b hb]
      ·simp[hb]
     olt:=fun b q hb=>by
      cases hob:ow b with
      |none=>simp[hob]at hb
      |some o'=>exact h.olt b o' hob
     nb:=h.nb
     nv:=by simp[h.nv]
     vsl:=h.vsl
     glb:=h.glb
     box:=fun j bj hj hlj=>by
      obtain⟨b2,cs2,h1,h2,h3,h4⟩:=h.box j bj hj hlj;exact⟨b2,cs2,h1,by simp[h2],h3,h4⟩
     ent:=fun j e' hj hlj=>by
      rcases get_set_inv hj with⟨rfl,rfl⟩|⟨hne,hj⟩
      ·exact⟨v,hv,fun _=>hO.rd,fun hh=>by cases hh⟩
      ·obtain⟨u,hu,h1,h2⟩:=h.ent j e' hj hlj
       refine⟨u,hu,fun hh=>(h1 hh).mono (fun _ x=> .inl x) (fun _ _=>rfl),fun hh=>(h2 hh).mono (fun _ x=> .inl x) (fun _ _=>rfl) (fun b hb=>⟨by simp[hb,hne],rfl⟩)⟩
     mrk:=fun b hb=>by
      cases hob:ow b with
      |none=>simp[hob]at hb
      | some o'=>
       cases o' with
       |mark l mo=>(simp only[hob,Option.some.injEq,Owner.mark.injEq]at hb;obtain⟨rfl,rfl⟩:=hb;exact h.mrk b hob)
       |box j=>simp[hob]at hb
       |ent j=>
        simp only[hob]at hb;split at hb<;>cases hb
     lp:=fun j L hj=>by
      obtain⟨bj,x,g1,g2,g3,g4,g5⟩:=h.lp j L hj;exact⟨bj,x,g1,g2,g3,by simp[g4],g5⟩}
   ·exact Ext.of_set_ent (i:=id) (bx:={e with own:=false,ver:=e.ver+1}) rfl rfl (fun b0 h0=>by rw[he]at h0;cases h0;simp)
  ·exact⟨R,ow,(Stp.refl h),rfl,rfl,rfl⟩
 ·exact⟨R,ow,(Stp.refl h),rfl,rfl,rfl⟩
theorem HR.freezes:∀(l:List Nat){st:St (sem T)}{R:Nat->Prop}{ow:Nat->Option Owner},HR P w0 R0 bl vs R ow st.boxes st.ents w->
  ∃R' ow',Stp P w0 R0 bl vs ow st bl vs R' ow' (freezeIds st l) w/\(freezeIds st l).tmps=st.tmps/\(freezeIds st l).boxes=st.boxes/\(freezeIds st l).ents.length=st.ents.length
 |[],st,R,ow,h=>⟨R,ow,(Stp.refl h),rfl,rfl,rfl⟩
 |id::l,st,R,ow,h=>by
  obtain⟨R1,ow1,h1,t1,b1,l1⟩:=h.freeze id;obtain⟨R2,ow2,h2,t2,b2,l2⟩:=HR.freezes l h1.hr;exact⟨R2,ow2,h1.trans h2,t2.trans t1,b2.trans b1,l2.trans l1⟩
theorem HR.KQ:∀(l:List (SV (sem T))){st:St (sem T)}{R:Nat->Prop}{ow:Nat->Option Owner},HR P w0 R0 bl vs R ow st.boxes st.ents w->
  ∃R' ow',Stp P w0 R0 bl vs ow st bl vs R' ow' (freezeVals st l) w/\(freezeVals st l).tmps=st.tmps/\(freezeVals st l).boxes=st.boxes/\(freezeVals st l).ents.length=st.ents.length
 |[],st,R,ow,h=>⟨R,ow,(Stp.refl h),rfl,rfl,rfl⟩
 | v::l,st,R,ow,h=>by
  cases v with
  |sl id=>
   obtain⟨R1,ow1,h1,t1,b1,l1⟩:=h.freeze id;obtain⟨R2,ow2,h2,t2,b2,l2⟩:=HR.KQ l h1.hr;exact⟨R2,ow2,h1.trans h2,t2.trans t1,b2.trans b1,l2.trans l1⟩
  |_=>exact HR.KQ l h
theorem ai8(hl:HR P w0 R0 bl vs R ow st.boxes st.ents w){kk:K}{s:SV (sem T)}{c:CS}(h:toCl st.ents kk s=some c){v:Value}(hs:SVR bl vs s v):
  Rd P w (fun b=>b<w.heap.size) c.toD kk v:=by
 unfold toCl at h;split at h
 ·split at h
  ·rename_i k k' x hk
   have:k=k':=by simpa using hk
   subst this;cases h
   exact⟨k,rfl,hs.1,hs.2⟩
  ·cases h
 ·rename_i b
  cases h
  have hs:v= .bool b:=hs;subst hs;cases b<;>exact⟨rfl,rfl⟩
 ·rename_i b
  cases h
  exact⟨rfl,hs⟩
 ·rename_i y
  cases h
  exact⟨rfl,hs⟩
 ·rename_i e id
  split at h
  ·rename_i en hen
   split at h
   ·rename_i hc
    simp only[zA,beq_iff_eq,zL]at hc;obtain⟨hlive,rfl,hm⟩:=hc;cases h
    obtain⟨u,hu,h1,h2⟩:=hl.ent id en hen hlive;have hs:vs[id]? =some v:=hs;rw[hu]at hs;cases hs;cases ho:en.own
    ·exact(h1 ho).mono (fun b hb=>hl.rlt b hb) (fun _ _=>rfl)
    ·exact((h2 ho).1 hm).rd.mono (fun b hb=>hb.elim (hl.rlt b) (fun hb=>(hl.olt b _ hb).2)) (fun _ _=>rfl)
   ·cases h
  ·cases h
 ·rename_i e'
  cases h
  have hs:v= .slice none 0 0:=hs;subst hs;exact⟨e',none,0,rfl,rfl,zF _,qD _,fun _=>rfl,fun ks i j kk _ hi=>absurd hi (q0 _)⟩
 ·cases h
theorem acg(hl:HR P w0 R0 bl vs R ow st.boxes st.ents w){kk:K}{s:SV (sem T)}{c:CS}(h:toCl st.ents kk s=some c){v:Value}(hs:SVR bl vs s v)
  (hn:∀id,s≠ .sl id):Rd P w R c.toD kk v:=by
 unfold toCl at h;split at h
 ·split at h
  ·rename_i k k' x hk
   have:k=k':=by simpa using hk
   subst this;cases h
   exact⟨k,rfl,hs.1,hs.2⟩
  ·cases h
 ·rename_i b
  cases h
  have hs:v= .bool b:=hs;subst hs;cases b<;>exact⟨rfl,rfl⟩
 ·rename_i b
  cases h
  exact⟨rfl,hs⟩
 ·rename_i y
  cases h
  exact⟨rfl,hs⟩
 ·rename_i e id
  exact absurd rfl (hn id)
 ·rename_i e'
  cases h
  have hs:v= .slice none 0 0:=hs;subst hs;exact⟨e',none,0,rfl,rfl,zF _,qD _,fun _=>rfl,fun ks i j kk _ hi=>absurd hi (q0 _)⟩
 ·cases h
theorem GH(hl:HR P w0 R0 bl vs R ow st.boxes st.ents w){kk:K}{s:SV (sem T)}{c:CS}(h:toClR st.ents kk s=some c){v:Value}(hs:SVR bl vs s v):
  Rd P w R c.toD kk v:=by
 unfold toClR at h;split at h
 ·rename_i id
  split at h
  ·rename_i en hen
   split at h
   ·cases h
   ·rename_i hown
    unfold toCl at h;split at h
    ·rename_i heq;cases heq
    ·rename_i heq;cases heq
    ·rename_i heq;cases heq
    ·rename_i heq;cases heq
    ·rename_i e id' heq
     cases heq
     rw[hen]at h;simp only at h;split at h
     ·rename_i hc
      simp only[zA,beq_iff_eq]at hc;obtain⟨hlive,rfl,_⟩:=hc;cases h
      obtain⟨u,hu,h1,h2⟩:=hl.ent id en hen hlive;have hs:vs[id]? =some v:=hs;rw[hu]at hs;cases hs;exact h1 (by simpa using hown)
     ·cases h
    ·rename_i heq;cases heq
    ·cases h
  ·cases h
 ·rename_i hne
  exact acg hl h hs (fun id e=>hne id e)
theorem yB(hl:HR P w0 R0 bl vs R ow st.boxes st.ents w):∀{ks:List K}{s:List (SV (sem T))}{cs:List CS},toClsR st.ents ks s=some cs->∀{v:List Value},SVRs bl vs s v->
  cs.length=ks.length/\v.length=ks.length/\∀(j:Nat)(kk:K),ks[j]? =some kk->∃c u,cs[j]? =some c/\v[j]? =some u/\Rd P w R c.toD kk u
 |[],[],cs,h,v,hs=>by
  simp only[toClsR,Option.some.injEq]at h;subst h;cases v with
  |nil=>exact⟨rfl,rfl,by simp⟩
  |cons=>exact hs.elim
 | k::ks,x::s,cs,h,v,hs=>by
  cases v with
  |nil=>exact hs.elim
  | cons u v=>
   simp only[toClsR]at h;split at h
   ·rename_i c cs' hc hcs
    cases h
    obtain⟨h1,h2,h3⟩:=yB hl hcs hs.2;refine⟨by simp[h1],by simp[h2],fun j kk hj=> ?_⟩
    cases j with
    |zero=>simp at hj;subst hj;exact⟨c,u,rfl,rfl,GH hl hc hs.1⟩
    |succ j=>simpa using h3 j kk (by simpa using hj)
   ·cases h
 |[],_::_,_,h,_,_=>by simp[toClsR]at h
 |_::_,[],_,h,_,_=>by simp[toClsR]at h
theorem Rd.one{d:D}{kk:K}{v:Value}(h:Rd P w R d kk v):v.oneCell'=true:=by
 cases d with
 |int n=>obtain⟨ik,_,rfl,_⟩:=h;rfl
 |bool b=>obtain⟨_,rfl⟩:=h;rfl
 |str s=>obtain⟨_,rfl⟩:=h;rfl
 |sl n f=>obtain⟨e,a,cap,_,rfl,_⟩:=h;rfl
theorem xC{L n i j:Nat}(hi:i<n)(hj:j<L):i*L+j<n*L:=by
 calc i*L+j<i*L+L:=by omega
  _=(i+1)*L:=by rw[zG,qK]
  _<=n*L:=z4 _ hi
theorem HR.alF(h:HR P w0 R0 bl vs R ow st.boxes st.ents w){id b:Nat}{en:Ent (sem T)}{cs cs':Array Value}{s':Sl}{v:Value}{ver:Nat}{a:Option Addr}{cap:Nat}(hi:st.ents[id]? =some en)(_hl:en.live=true)
  (hown:en.own=true) (hm:isM en.elem=false) (hv:vs[id]? =some v) (hve:v= .slice a s'.n cap) (h1:s'.n<=min cap 140737488355328) (h2:cap<=maxLen) (ha:a=some ⟨b,0,none⟩) (ho:ow b=some (.ent id)) (hw:w.heap[b]? =some (.cells cs en.elem (0,0)))
  (KR:en.ver<ver) (hc:∀ks,kinds P en.elem=some ks->cs'.size=cap*ks.length/\∀j k kk,j<s'.n->ks[k]? =some kk->∃u,cs'[j*ks.length+k]? =some u/\Rd P w R (s'.f j k) kk u):
  Stp P w0 R0 bl vs ow st bl vs R ow {st with ents:=st.ents.set id {en with s:=s',ver:=ver}} (w.setRow b cs') where
 bl:=fun _ _ x=>x
 vs:=fun _ _ x=>x
 ext:=Ext.of_set_ent (i:=id) (bx:={en with s:=s',ver:=ver}) rfl rfl (fun b0 h0=>by rw[hi]at h0;cases h0;exact KR)
 mrk:=fun _ x=>x
 hr :=by
  have hR:∀x,R x->(w.setRow b cs').heap[x]? =w.heap[x]? :=fun x hx=>setRow_other w b x cs' (fun e=>by rw[e]at hx;rw[h.ro b hx]at ho;cases ho)
  exact{
  below:=h.below.trans ⟨by simp,by simp,by simp,by simp,fun x hx=>setRow_other w b x cs' (fun e=>by have:=(h.olt b _ ho).1;omega)⟩
  rlt:=fun x hx=>by simpa using h.rlt x hx
  r0:=h.r0
  rsub:=h.rsub
  ro:=h.ro
  olt:=fun x q hx=>by simpa using h.olt x q hx
  nb:=h.nb
  nv:=by simp[h.nv]
  vsl:=h.vsl
  glb:=h.glb
  box:=fun j bj hj hlj=>by
   obtain⟨b2,cs2,h1,h2,h3,h4⟩:=h.box j bj hj hlj;have hne2:b2≠b:=fun e=>by rw[e,ho]at h2;cases h2
   exact⟨b2,cs2,h1,h2,(setRow_other w b b2 cs' hne2).trans h3,h4⟩
  ent:=fun j e hj hlj=>by
   rcases get_set_inv hj with⟨rfl,rfl⟩|⟨hne,hj⟩
   ·refine⟨v,hv,(fun hh=>by rw[hown]at hh;cases hh),fun _=>⟨fun _=>⟨a,cap,hve,h1,h2,(fun hh=>by rw[ha]at hh;cases hh), .inr ⟨b,cs',ha,ho,setRow_heap w b cs cs' _ _ hw,fun ks hks=>⟨(hc ks hks).1,fun q k kk hq hk=> ?_⟩⟩⟩,fun hh=>absurd (hm.symm.trans hh) vD⟩⟩
    obtain⟨u,hu,hr⟩:=(hc ks hks).2 q k kk hq hk;exact⟨u,hu,hr.mono (fun _ x=>x) hR⟩
   ·obtain⟨u,hu,h1,h2⟩:=h.ent j e hj hlj
    exact⟨u,hu,fun hown=>(h1 hown).mono (fun _ x=>x) hR,fun hown=>(h2 hown).mono (fun _ x=>x) hR (fun x hx=>⟨hx,setRow_other w b x cs' (fun e=>by rw[e,ho]at hx;cases hx;exact hne rfl)⟩)⟩
  mrk:=fun x hx=>(setRow_other w b x cs' (fun e=>by rw[e,ho]at hx;cases hx)).trans (h.mrk x hx)
  lp:=fun j L hj=>by
   obtain⟨bj,x,g1,g2,g3,g4,g5⟩:=h.lp j L hj;have hxb:x≠b:=fun e=>by rw[e,ho]at g4;cases g4
   exact⟨bj,x,g1,g2,g3,g4,g5.mono (setRow_other w b x cs' hxb) (fun _ _ x=>x) (fun _ _ x=>x)⟩}
theorem adp(h:HR P w0 R0 bl vs R ow st.boxes st.ents w)(ht:TR bl vs st.tmps a){t:TypeId}{x v:Operand}(ho:o.op= .store t x v){n id sz off:Nat}{i:Int}(hs:sizeT P t=some n)(hx:st.ev x= .eptr id sz i off)
  (hd:(eStoreEnt P st t v n id sz i off k).den):oG P w0 R0 bl vs ow st a w o k:=by
 unfold eStoreEnt at hd;split at hd
 ·rename_i en hen
  split at hd
  ·rename_i ks hks
   split at hd
   ·rename_i hc
    simp only[zA,beq_iff_eq,decide_eq_true_eq,zL]at hc;obtain⟨⟨⟨⟨hlive,hown,hm⟩,hn⟩,hoff⟩,rfl⟩:=hc;split at hd
    ·rename_i cls en' hcls hen'
     split at hd
     ·rename_i KR
      have KR:en'.ver=en.ver:=by simpa using KR
      obtain⟨R1,ow1,hS,G5,hbx,hlen⟩:=h.KQ (cellsOf (st.ev v));obtain⟨en1,aea,_,hsame⟩:=hS.ext.ent id en hen;rw[hen']at aea;cases aea;have:en'=en:=hsame KR;subst this;have hxv:=ev_sound ht x;rw[hx]at hxv;obtain⟨ad,len,cap,g1,g2,⟨g3,g4⟩,hv⟩:=hxv;obtain⟨u0,hu0,_,hO⟩:=hS.hr.ent id en' hen' hlive;rw[g1]at hu0;cases hu0;obtain⟨a0,cap0,he0,k1,k2,k3,k4⟩:=(hO hown).1 hm;cases he0
      rcases k4 with k4|⟨b,cs,hab,hob,hcs,hcont⟩
      ·omega
      ·cases hab
       obtain⟨hsz,hcell⟩:=hcont ks hks;have ay8:∀{ks':List K}{s:List (SV (sem T))}{cs:List CS},toClsR (freezeVals st (cellsOf (st.ev v))).ents ks' s=some cs->s.all isCell=true:=by
        intro ks'
        induction ks' with
        |nil=>intro s cs hh;cases s with
         |nil=>rfl
         |cons=>simp[toClsR]at hh
        | cons kk ks' ih=>intro s cs hh;cases s with
         |nil=>rfl
         | cons y s=>
          simp only[toClsR]at hh;split at hh
          ·rename_i c cs' h1 h2
           simp only[vB,zA];refine⟨?_,ih h2⟩
           cases y<;>first|rfl|(simp[toClR,toCl]at h1;done)|skip
           rename_i cv;simp only[toClR]at h1;unfold toCl at h1;split at h1<;>first|cases h1;done|rfl|(rename_i heq;cases heq;done)|skip
           all_goals(rename_i heq;cases heq;rfl)
          ·cases hh
       have hcs':=cells_sound h.vsl (ev_sound ht v) (ay8 hcls);obtain⟨c1,c2,c3⟩:=yB hS.hr hcls hcs';simp only[zH]at c2;have hilt:i.toNat<en'.s.n:=by omega
       have hL:(List.take n (List.drop off ks)).length=n:=by simp;omega
       have hfit:i.toNat*ks.length+off+n<=cs.size:=by
        rw[hsz];have:i.toNat*ks.length+ks.length<=cap*ks.length:=by
         calc i.toNat*ks.length+ks.length=(i.toNat+1)*ks.length:=by rw[zG,qK]
          _<=cap*ks.length:=z4 _ (by omega)
        omega
       have hone:∀u∈(a.eval v).cells.toList,u.oneCell'=true:=by
        intro u hu;obtain⟨j,hj⟩:=vE.1 hu;have hjl:j<(List.take n (List.drop off ks)).length:=by
         have:=(zR.1 hj).1;simp only[zH]at this;omega
        obtain⟨c,u',_,hu',hr⟩:=c3 j _ (List.getElem?_eq_getElem hjl);rw[hj]at hu';cases hu';exact hr.one
       have hrun:=run_storeCells_at P b (i.toNat*ks.length+off) en'.elem (a.eval v).cells.toList 0 cs w hcs (by simp only[zH];omega) hone;simp only[zI]at hrun;obtain⟨ii,hi,hsi⟩:=FK hs;refine⟨undef,_, .inr ⟨?_,rfl⟩, .con (.tuple #[]),_,bl,vs,R1,ow1,hS.trans (hS.hr.alF hen' hlive hown hm g1 (s':=(sem T).upd en'.s i off cls) (ver:=en'.ver+1) rfl k1 k2 rfl hob hcs
        (cs':=(cs.toList.take (i.toNat*ks.length+off)++(a.eval v).cells.toList++cs.toList.drop (i.toNat*ks.length+off+(a.eval v).cells.toList.length)).toArray) (by omega) ?_),G5,rfl,hd⟩
       ·have hne:¬(a.eval v).cells.size≠ii.size:=by omega
        simp only[execOp,ho,Instr.storeAt,hv,Instr.sureAddr,Sem.run_bind,Sem.run_pure,Result.andThen_ok,storeVar,run_sizeOf' hi,if_neg hne];simp only[z0]at hrun⊢;rw[hrun];rfl
       ·intro ks2 nX
        rw[hks]at nX;cases nX;refine⟨by simp;omega,fun j q kk hj hq=> ?_⟩
        have hq':q<ks.length:=(zR.1 hq).1;have hj':j<en'.s.n:=hj;obtain⟨u0,hu0,hr0⟩:=hcell j q kk hj' hq;have hpos:=xC (L:=ks.length) (n:=cap) (i:=j) (j:=q) (by omega) hq';simp only[Sl.upd];by_cases hin:j=i.toNat/\off<=q/\q<off+(List.map Cl.toD cls).length
        ·obtain⟨rfl,hq1,hq2⟩:=hin
         simp only[q3]at hq2;have hqn:q-off<(List.take n (List.drop off ks)).length:=by omega
         obtain⟨c,u,hcj,huj,hr⟩:=c3 (q-off) kk (by rw[z1,if_pos (by omega),q4];rw[show off+(q-off)=q by omega];exact hq);refine⟨u, ?_, ?_⟩
         ·rw[q5,z5 (by simp;omega),z9 (by simp;omega)]
          simp only[qL,zH];rw[show i.toNat*ks.length+q-min (i.toNat*ks.length+off) cs.size=q-off by omega];exact huj
         ·rw[if_pos ⟨rfl,hq1,by simpa using hq2⟩]
          rw[qE,z6,hcj];exact hr
        ·rw[if_neg hin]
         refine⟨u0, ?_,hr0⟩
         have hout:j*ks.length+q<i.toNat*ks.length+off\/i.toNat*ks.length+off+n<=j*ks.length+q:=by
          rcases Nat.lt_trichotomy j i.toNat with hlt|heq|hgt
          ·left
           have:=xC (L:=ks.length) (n:=i.toNat) (i:=j) (j:=q) hlt hq';omega
          ·subst heq
           simp only[true_and,not_and,Nat.not_lt,q3]at hin;by_cases hoq:off<=q
           ·right;have:=hin hoq;omega
           ·left;omega
          ·right
           have:=z4 ks.length (show i.toNat+1<=j by omega);rw[zG,qK]at this;omega
         have awy:cs.toList[j*ks.length+q]? =some u0:=by simpa using hu0
         rcases hout with hout|hout
         ·rw[q5,z5 (by simp;omega),z5 (by simp;omega),z1,if_pos hout]
          exact awy
         ·rw[q5,z9 (by simp;omega),q4]
          simp only[vF,qL,zH];rw[show i.toNat*ks.length+off+(a.eval v).cells.size+(j*ks.length+q-(min (i.toNat*ks.length+off) cs.size+(a.eval v).cells.size))=j*ks.length+q by omega];exact awy
     ·exact hd.elim
    ·exact hd.elim
   ·exact hd.elim
  ·exact hd.elim
 ·exact hd.elim
variable{T:FuncId->Pred}{P:Program}{w0 w:World}{R0:Bs T}{R:Nat->Prop}{bl:List Nat}{vs:List Value}{ow:Nat->Option Owner}
variable{st:St (sem T)}{a:Act}{o:Oper}{k:SV (sem T)->St (sem T)->Tree (sem T)}
theorem HR.YZ(h:HR P w0 R0 bl vs R ow st.boxes st.ents w){e:TypeId}{s:Sl}{v:Value}(hr:Rd P w R (.sl s.n s.f) (.sl e) v):
  Stp P w0 R0 bl vs ow st bl (vs++[v]) R ow (addEnt st e s false) w:=
 ⟨h.pushRo hr,fun _ _ x=>x,fun _ _=>get_append_lt,Ext.of_append (nb:=[]) (ne:=[⟨e,s,false,true,0⟩]) (by simp[addEnt]) rfl,fun _ x=>x⟩
theorem HR.jc(h:HR P w0 R0 bl vs R ow st.boxes st.ents w){v:Value}:(vs++[v])[st.ents.length]? =some v:=by
 rw[<-h.nv];exact atj
theorem zU{rg:Bool}{s:Sl}{i:Int}{f:Nat->Value}:∀{ks:List K}{j:Nat}{st:St (sem T)}{vs:List Value},HR P w0 R0 bl vs R ow st.boxes st.ents w->
  (∀n kk,ks[n]? =some kk->Rd P w R (s.f i.toNat (j+n)) kk (f (j+n)))->
  ∃vs',Stp P w0 R0 bl vs ow st bl vs' R ow (nestCells (A:=sem T) s i ks j st).2 w/\(nestCells (A:=sem T) s i ks j st).2.tmps=st.tmps/\
   SVRs bl vs' (nestCells (A:=sem T) s i ks j st).1 ((qM j ks.length).map f)/\∀q∈elemGivens (A:=sem T) P rg s i ks j,q
 |[],j,st,vs,h,_=>⟨vs,(Stp.refl h),rfl,trivial,by simp[elemGivens]⟩
 | .int k::ks,j,st,vs,h,hf=>by
  obtain⟨vs',h1,h2,h3,h4⟩:=zU (ks:=ks) (j:=j+1) h (fun n kk hn=>by have:=hf (n+1) kk (by simpa using hn);rw[show j+1+n=j+(n+1) by omega];exact this)
  have h0:=hf 0 _ rfl;simp only[zI]at h0;have hd:f j= .int k (Sl.int s i j)/\k.min<=Sl.int s i j/\Sl.int s i j<=k.max:=by
   unfold Sl.int;cases hd:s.f i.toNat j with
   |int n=>rw[hd]at h0;obtain⟨ik,hk,hv,h3,h4⟩:=h0;cases hk;exact⟨hv,h3,h4⟩
   |bool b=>rw[hd]at h0;exact absurd h0.1 (by simp)
   |str b=>rw[hd]at h0;exact absurd h0.1 (by simp)
   |sl n g=>rw[hd]at h0;obtain⟨e,_,_,hk,_⟩:=h0;cases hk
  refine⟨vs',h1,h2, ?_, ?_⟩
  ·simp only[nestCells,qG,qN,qS]
   exact⟨⟨hd.1,hd.2⟩,h3⟩
  ·intro q hq
   simp only[elemGivens,zE]at hq;rcases hq with hq|hq
   ·rw[hq];exact hd.2
   ·exact h4 q hq
 | .bool::ks,j,st,vs,h,hf=>by
  obtain⟨vs',h1,h2,h3,h4⟩:=zU (ks:=ks) (j:=j+1) h (fun n kk hn=>by have:=hf (n+1) kk (by simpa using hn);rw[show j+1+n=j+(n+1) by omega];exact this)
  have h0:=hf 0 _ rfl;simp only[zI]at h0;have hd:f j= .bool (Sl.bool s i j):=by
   unfold Sl.bool;cases hd:s.f i.toNat j with
   |int n=>rw[hd]at h0;obtain⟨ik,hk,_⟩:=h0;cases hk
   |bool b=>rw[hd]at h0;exact h0.2
   |str b=>rw[hd]at h0;exact absurd h0.1 (by simp)
   |sl n g=>rw[hd]at h0;obtain⟨e,_,_,hk,_⟩:=h0;cases hk
  refine⟨vs',h1,h2, ?_, ?_⟩
  ·simp only[nestCells,qG,qN,qS]
   refine⟨?_,h3⟩
   rw[hd];simp[SVR,PB.b]
  ·intro q hq
   simp only[elemGivens]at hq;exact h4 q hq
 | .str::ks,j,st,vs,h,hf=>by
  obtain⟨vs',h1,h2,h3,h4⟩:=zU (ks:=ks) (j:=j+1) h (fun n kk hn=>by have:=hf (n+1) kk (by simpa using hn);rw[show j+1+n=j+(n+1) by omega];exact this)
  have h0:=hf 0 _ rfl;simp only[zI]at h0;have hd:f j= .string (Sl.str s i j):=by
   unfold Sl.str;cases hd:s.f i.toNat j with
   |int n=>rw[hd]at h0;obtain⟨ik,hk,_⟩:=h0;cases hk
   |bool b=>rw[hd]at h0;exact absurd h0.1 (by simp)
   |str b=>rw[hd]at h0;exact h0.2
   |sl n g=>rw[hd]at h0;obtain⟨e,_,_,hk,_⟩:=h0;cases hk
  refine⟨vs',h1,h2, ?_, ?_⟩
  ·simp only[nestCells,qG,qN,qS]
   exact⟨hd,h3⟩
  ·intro q hq
   simp only[elemGivens]at hq;exact h4 q hq
 | .sl e::ks,j,st,vs,h,hf=>by
  have h0:=hf 0 _ rfl;simp only[zI]at h0;have hd:Rd P w R (.sl (Sl.sub s i j).n (Sl.sub s i j).f) (.sl e) (f j):=by
   unfold Sl.sub;cases hd:s.f i.toNat j with
   |int n=>rw[hd]at h0;obtain⟨ik,hk,_⟩:=h0;cases hk
   |bool b=>rw[hd]at h0;exact absurd h0.1 (by simp)
   |str b=>rw[hd]at h0;exact absurd h0.1 (by simp)
   |sl n g=>rw[hd]at h0;exact h0
  have hS:=h.YZ hd;obtain⟨vs',h1,h2,h3,h4⟩:=zU (ks:=ks) (j:=j+1) hS.hr (fun n kk hn=>by have:=hf (n+1) kk (by simpa using hn);rw[show j+1+n=j+(n+1) by omega];exact this)
  refine⟨vs',hS.trans h1,h2, ?_, ?_⟩
  ·simp only[nestCells,qG,qN,qS]
   exact⟨h1.vs _ _ h.jc,h3⟩
  ·intro q hq
   simp only[elemGivens]at hq;split at hq
   ·simp only[zE]at hq
    rcases hq with hq|hq
    ·rw[hq];exact ranged_rd hd
    ·exact h4 q hq
   ·exact h4 q hq
theorem aoJ(h:HR P w0 R0 bl vs R ow st.boxes st.ents w)(ht:TR bl vs st.tmps a){t:TypeId}{x:Operand}(ho:o.op= .load t x)(hd:(eLoad P st t x k).den):oG P w0 R0 bl vs ow st a w o k:=by
 have hx:=ev_sound ht x;unfold eLoad at hd;split at hd
 ·exact hd.elim
 rename_i hu;have hu:(P.underlying t).isSome=true:=by
  cases hh:P.underlying t with
  |none=>simp[hh]at hu
  |some d=>rfl
 split at hd
 ·rename_i id sz i off ksT n hxx hkT hs
  rw[hxx]at hx;obtain⟨i',rfl⟩:∃i':Int,i'=i:=⟨i,rfl⟩;obtain⟨ad,len,cap,h1,h2,⟨h3,h4⟩,hv⟩:=hx;split at hd
  ·rename_i en hen
   split at hd
   ·rename_i ks hks
    split at hd
    ·rename_i hc
     simp only[zA,decide_eq_true_eq,beq_iff_eq,zL]at hc;obtain⟨⟨⟨hlive,hm⟩,hoff⟩,rfl⟩:=hc;simp only at hd;split at hd
     ·rename_i sv hp
      obtain⟨v0,hv0,hcc⟩:=h.look.ent id en hen hlive;obtain⟨a0,cap0,he0,hn1,hn2,ha0,hcells⟩:=hcc.1 hm;rw[h1]at hv0;cases hv0;cases he0
      have hi:i'.toNat<en.s.n:=by omega
      have hcell:∀j kk,ks[j]? =some kk->∃u,w.cell? ⟨ad.block,ad.off+(i'.toNat*ks.length+j),none⟩=some u/\Rd P w R (en.s.f i'.toNat j) kk u:=fun j kk hj=>by
       obtain⟨ad',u,hA,hB,hC,hD⟩:=hcells ks i'.toNat j kk hks hi hj;cases hA
       exact⟨u,hC,hD⟩
      obtain⟨vs',g1,g2,g3,g4⟩:=zU (rg:=st.rg) (T:=T) (P:=P) (w:=w) (R:=R) (s:=en.s) (i:=i') (f:=fun j=>(w.cell? ⟨ad.block,ad.off+(i'.toNat*ks.length+j),none⟩).getD undef) (ks:=(ks.drop off).take n) (j:=off) h (fun m kk hm=>by
       rw[z1]at hm;split at hm
       ·rw[q4]at hm
        obtain⟨u,hu1,hu2⟩:=hcell (off+m) kk hm;simp only[hu1,qT];exact hu2
       ·cases hm)
      obtain⟨u,hrun,hsv⟩:=run_loadVar' (P:=P) (w:=w) (bl:=bl) (vs:=vs') hs (b:=ad.block) (off:=ad.off+(i'.toNat*ks.length+off)) (vals:=(qM off ((ks.drop off).take n).length).map fun j=>(w.cell? ⟨ad.block,ad.off+(i'.toNat*ks.length+j),none⟩).getD undef) (by simp;omega) (fun j u hj=>by
       simp only[z6,qY]at hj;obtain⟨m,hm,rfl⟩:=hj;obtain⟨hlt,rfl⟩:=range'_get hm;simp only[qL,List.length_drop]at hlt;obtain⟨kk,hkk⟩:∃kk,ks[off+j]? =some kk:=⟨ks[off+j]'(by omega),by simp⟩;obtain⟨u,hu1,_⟩:=hcell (off+j) kk hkk;rw[show ad.off+(i'.toNat*ks.length+off)+j=ad.off+(i'.toNat*ks.length+(off+j)) by omega];simp only[hu1,qT]) hp g3 hu
      refine⟨u,w, .inl ?_,sv,_,bl,vs',R,ow,g1,g2,hsv,(Ee.1 hd) g4⟩
      simp only[execOp,ho,hv,Instr.loadAt,Instr.sureAddr,Sem.run_bind,Sem.run_pure,Result.andThen_ok,hrun]
     ·exact hd.elim
    ·exact hd.elim
   ·exact hd.elim
  ·exact hd.elim
 ·exact hd.elim
theorem HR.Tz(h:HR P w0 R0 bl vs R ow st.boxes st.ents w){e:TypeId}(hm:isM e=false){s:Sl}{cap:Nat}{cs:Array Value}{w1:World}(hw1:Below w.heap.size w w1)(hh:w1.heap[w.heap.size]? =some (.cells cs e (0,0)))
  (h1:s.n<=min cap 140737488355328) (h2:cap<=maxLen) (hc:∀ks,kinds P e=some ks->cs.size=cap*ks.length/\∀j k kk,j<s.n->ks[k]? =some kk->∃u,cs[j*ks.length+k]? =some u/\Rd P w R (s.f j k) kk u):
  ∃ow',Stp P w0 R0 bl vs ow st bl (vs++[.slice (some ⟨w.heap.size,0,none⟩) s.n cap]) R ow' (addEnt st e s true) w1:=by
 have hg:=h.grow hw1;obtain⟨ow',hO,hmk⟩:=hg.pushOwn (e:=e) hm (s:=s) (a:=some ⟨w.heap.size,0,none⟩) (cap:=cap) rfl h1 h2 (fun hh=>by cases hh)
  (.inr ⟨w.heap.size,cs,rfl,h.below.size,h.LZ,(fun i hh=>by rw[h.jA]at hh;cases hh),(fun _ _ hh=>by rw[h.jA]at hh;cases hh),(fun i en hh=>by rw[h.jA]at hh;cases hh),hh,fun ks hks=>⟨(hc ks hks).1,fun j k kk hj hk=>by
   obtain⟨u,hu,hr⟩:=(hc ks hks).2 j k kk hj hk;exact⟨u,hu,hr.mono (fun _ x=>x) (fun b hb=>hw1.block b (h.rlt b hb))⟩⟩⟩)
 exact⟨ow',hO,fun _ _ x=>x,fun _ _=>get_append_lt,Ext.of_append (nb:=[]) (ne:=[⟨e,s,true,true,0⟩]) (by simp[addEnt]) rfl,hmk⟩
theorem aoK{ents:List (Ent (sem T))}{kk:K}{x:SV (sem T)}{c:CS}(h:toCl ([]:List (Ent (sem T))) kk x=some c):toCl ents kk x=some c/\∀id,x≠ .sl id:=by
 unfold toCl at h;split at h
 ·exact⟨h,fun id hh=>by cases hh⟩
 ·exact⟨h,fun id hh=>by cases hh⟩
 ·exact⟨h,fun id hh=>by cases hh⟩
 ·exact⟨h,fun id hh=>by cases hh⟩
 ·simp at h
 ·exact⟨h,fun id hh=>by cases hh⟩
 ·cases h
theorem GK(hl:HR P w0 R0 bl vs R ow st.boxes st.ents w){e:TypeId}{z:List CS}(h:zeroCls (A:=sem T) P e=some z):∃ks i v,kinds P e=some ks/\P.info? e=some i/\i.size=ks.length/\i.zero=some v/\v.cells.size=ks.length/\
  z.length=ks.length/\∀(j:Nat)(kk:K),ks[j]? =some kk->∃c u,z[j]? =some c/\v.cells[j]? =some u/\Rd P w R c.toD kk u:=by
 unfold zeroCls at h;split at h
 ·rename_i ks zc hks hz
  obtain⟨i,v,hi,hzv,hs⟩:=zeroCells_sound (bl:=bl) (vs:=vs) hz;obtain⟨i2,hi2,hsz,_⟩:=kinds_inv hks;rw[hi]at hi2;cases hi2;have key:∀{ks:List K}{s:List (SV (sem T))}{cs:List CS},toCls ([]:List (Ent (sem T))) ks s=some cs->∀{v:List Value},SVRs bl vs s v->
    cs.length=ks.length/\v.length=ks.length/\∀(j:Nat)(kk:K),ks[j]? =some kk->∃c u,cs[j]? =some c/\v[j]? =some u/\Rd P w R c.toD kk u:=by
   intro ks
   induction ks with
   | nil=>intro s cs hh v hv;cases s with
    |nil=>
     simp only[toCls,Option.some.injEq]at hh;subst hh;cases v with
     |nil=>exact⟨rfl,rfl,by simp⟩
     |cons=>exact hv.elim
    |cons=>simp[toCls]at hh
   | cons kk ks ih=>intro s cs hh v hv;cases s with
    |nil=>simp[toCls]at hh
    | cons x s=>cases v with
     |nil=>exact hv.elim
     | cons u v=>
      simp only[toCls]at hh;split at hh
      ·rename_i c cs' hc hcs
       cases hh
       obtain⟨h1,h2,h3⟩:=ih hcs hv.2;refine⟨by simp[h1],by simp[h2],fun j kk' hj=> ?_⟩
       cases j with
       |zero=>
        simp at hj;subst hj;refine⟨c,u,rfl,rfl, ?_⟩
        have hc':=aoK (ents:=st.ents) hc;exact acg hl hc'.1 hv.1 hc'.2
       |succ j=>simpa using h3 j kk' (by simpa using hj)
      ·cases hh
  obtain⟨h1,h2,h3⟩:=key h hs;refine⟨ks,i,v,hks,hi,hsz,hzv,by simpa using h2,h1,fun j kk hj=> ?_⟩
  obtain⟨c,u,hc,hu,hr⟩:=h3 j kk hj;exact⟨c,u,hc,by simpa using hu,hr⟩
 ·cases h
theorem TA{t:TypeId}{n:Nat}(h:bytesT P t=some n):∃i,P.info? t=some i/\i.bytes=n:=by
 unfold bytesT at h;obtain⟨i,hi,rfl⟩:=qY.1 h;exact⟨i,hi,rfl⟩
theorem adq{z:Array Value}{c L:Nat}(hz:z.size=L){j q:Nat}(hj:j<c)(hq:q<L):(madeCells z (c*L))[j*L+q]? =z[q]? :=by
 have h:=xC (L:=L) (n:=c) hj hq;have hmod:(j*L+q) % L=q:=by rw[vG,Nat.mul_add_mod,Nat.mod_eq_of_lt hq]
 simp only[madeCells,Array.getElem?_map];rw[Array.getElem?_eq_getElem (by simpa using h)];simp[hz,hmod,hq]
theorem ads(h:HR P w0 R0 bl vs R ow st.boxes st.ents w)(ht:TR bl vs st.tmps a){t:TypeId}{len cap:Operand}(ho:o.op= .makeSlice t len cap)(hd:(eMakeSlice P st t len cap k).den):oG P w0 R0 bl vs ow st a w o k:=by
 have hl:=ev_sound ht len;have hc:=ev_sound ht cap;unfold eMakeSlice at hd;split at hd
 ·rename_i e n c he hnn hcc
  rw[hnn]at hl;rw[hcc]at hc;obtain⟨n',rfl⟩:∃i':Int,i'=n:=⟨n,rfl⟩;obtain⟨c',rfl⟩:∃i':Int,i'=c:=⟨c,rfl⟩;split at hd
  ·exact hd.elim
  rename_i hm;have hm:isM e=false:=by simpa using hm
  split at hd
  ·rename_i z by_ hz hby
   obtain⟨hns,hk⟩:=lC.1 hd;simp only[zE,z7,or_false,forall_eq_or_imp,forall_eq,sem,arithS]at hns;obtain⟨h0,h1,h2⟩:=hns;obtain⟨ks,i,v,hks,hi,hsz,hzv,hvs,hzl,hzc⟩:=GK h hz;obtain⟨i2,hi2,hbb⟩:=TA hby
   rw[hi]at hi2;cases hi2;have hB0:0<by_+1:=Nat.succ_pos _;obtain⟨B,hB⟩:∃B:Nat,B=by_+1:=⟨_,rfl⟩;have hbb:i.bytes=B:=Eq.trans hbb hB.symm;have h2:c'*(B:Int)<=140737488355328:=by rw[hB];exact h2
   rw[<-hB]at hB0;clear hB;have hcB:c'*1<=c'*(B:Int):=Int.mul_le_mul_of_nonneg_left (by omega) (by omega);have hc47:c'<=140737488355328:=by simp only[Int.mul_one]at hcB;omega
   have as2:c'<=9223372036854775807:=by have:=hc.2.2;simpa[IntKind.max,IntKind.signed,IntKind.bits]using this
   have hr:=run_make (P:=P) w t e i v (elem_inv he) hi hzv .i64 .i64 n' c' h0 h1 (by subst hbb;have:(i.bytes:Int)*c'=c'*(i.bytes:Int):=Int.mul_comm _ _;omega) as2;obtain⟨ow',hS⟩:=h.Tz (e:=e) hm (s:=zD n' (z.map Cl.toD)) (cap:=c'.toNat) (cs:=madeCells v.cells (c'.toNat*i.size)) ((Below.refl _ _).alloc (zF _) _) (heap_alloc_new w _) (by simp only[zD];omega) (by unfold maxLen;omega)
    (fun ks2 nX=>by
     rw[hks]at nX;cases nX;refine⟨by rw[size_madeCells,hsz],fun j q kk hj hq=> ?_⟩
     obtain⟨cl,u,hcl,hu,hr⟩:=hzc q kk hq;have hq':q<ks.length:=(zR.1 hq).1;refine⟨u, ?_, ?_⟩
     ·rw[hsz,adq (L:=ks.length) hvs (by have:(zD n' (z.map Cl.toD)).n=n'.toNat:=rfl;omega) hq'];exact hu
     ·simp only[zD]
      rw[qE,z6,hcl];exact hr)
   refine⟨_,_, .inl ?_, .sl st.ents.length,_,bl,_,R,ow',hS,rfl,h.jc,hk⟩
   simp only[execOp,ho,hl.1,hc.1,Sem.run_bind,hr,Result.andThen_ok,Sem.run_pure];rfl
  ·exact hd.elim
 ·exact hd.elim
variable{T:FuncId->Pred}{P:Program}{w0 w:World}{R0:Bs T}{R:Nat->Prop}{bl:List Nat}{vs:List Value}{ow:Nat->Option Owner}
variable{st:St (sem T)}{a:Act}{o:Oper}{k:SV (sem T)->St (sem T)->Tree (sem T)}
theorem TB{L len:Nat}:∀(l:List (Nat×Value))(s:Nat)(cells:Array Value),l.map (·.1)=qM s l.length->s+l.length<=len->cells.size=len*L->(∀p∈l,p.2.cells.size=L)->
  ∃cs,Instr.fill (fun i=>some (i*L,L)) cells l=some cs/\cs.size=cells.size/\(∀q,q<s*L->cs[q]? =cells[q]?)/\
   ∀(i:Nat)(p:Nat×Value),l[i]? =some p->∀j,j<L->cs[(s+i)*L+j]? =p.2.cells[j]?
 |[],s,cells,_,_,_,_=>⟨cells,rfl,rfl,fun _ _=>rfl,fun i p h=>by simp at h⟩
 | (i0,v)::l,s,cells,hm,hl,hsz,hv=>by
  simp only[qS,qG,qN,List.cons.injEq]at hm;obtain⟨rfl,hm⟩:=hm;simp only[qG]at hl;have hvs:v.cells.size=L:=hv (i0,v) (by simp);have hfit:i0*L+L<=cells.size:=by
   rw[hsz,<-qV];exact z4 _ (by omega)
  have hset:=fold_set v.cells.toList 0 (i0*L) cells (by simp;omega);have hlen:((v.cells.zipIdx.foldl (fun cs(p:Value×Nat)=>cs.setIfInBounds (i0*L+p.2) p.1) cells)).size=cells.size:=by
   have:=congrArg vH hset;rw[<-vL,vQ];simp only[zH,zI,vF,qL,List.length_drop]at this;omega
  obtain⟨cs,h1,h2,h3,h4⟩:=TB l (i0+1) _ hm (by omega) (hlen.trans hsz) (fun p hp=>hv p (by simp[hp]))
  refine⟨cs, ?_,h2.trans hlen, ?_, ?_⟩
  ·simp only[Instr.fill]
   rw[if_neg (by simp;omega)];exact h1
  ·intro q hq
   rw[h3 q (by rw[zG,qK];omega)];have hh:((v.cells.zipIdx.foldl (fun cs(p:Value×Nat)=>cs.setIfInBounds (i0*L+p.2) p.1) cells)).toList[q]? =cells.toList[q]? :=by
    rw[<-vL,vQ,hset,zI,List.append_assoc,z5 (by simp;omega),z1,if_pos hq]
   simpa using hh
  ·intro i p hi j hj
   cases i with
   | zero=>
    simp at hi;subst hi;rw[zI,h3 _ (by rw[zG,qK];omega)];have hh:((v.cells.zipIdx.foldl (fun cs(p:Value×Nat)=>cs.setIfInBounds (i0*L+p.2) p.1) cells)).toList[i0*L+j]? =v.cells.toList[j]? :=by
     rw[<-vL,vQ,hset,zI,z5 (by simp;omega),z9 (by simp;omega)];simp only[qL,zH];rw[show i0*L+j-min (i0*L) cells.size=j by omega]
    simpa using hh
   |succ i=>
    have:=h4 i p (by simpa using hi) j hj;rw[show i0+1+i=i0+(i+1) by omega]at this;exact this
theorem ajc{ents:List (Ent (sem T))}{kk:K}{y:SV (sem T)}{c:CS}(h:toClR ents kk y=some c):isCell y=true:=by
 cases y<;>first|rfl|(simp[toClR,toCl]at h;done)|skip
 rename_i cv;simp only[toClR]at h;unfold toCl at h;split at h<;>first|cases h;done|rfl|(rename_i heq;cases heq;done)|skip
 all_goals(rename_i heq;cases heq;rfl)
theorem KT{ents:List (Ent (sem T))}:∀{ks:List K}{s:List (SV (sem T))}{cs:List CS},toClsR ents ks s=some cs->s.all isCell=true
 |_,[],_,_=>rfl
 |[],_::_,_,h=>by simp[toClsR]at h
 | k::ks,x::s,cs,h=>by
  simp only[toClsR]at h;split at h
  ·rename_i c cs' hc hcs
   simp only[vB,zA];exact⟨ajc hc,KT hcs⟩
  ·cases h
theorem Wn(hl:HR P w0 R0 bl vs R ow st.boxes st.ents w){ks:List K}:∀{s:List (SV (sem T))}{l:List (List CS)},partsCls st.ents ks s=some l->∀{v:List Value},SVRs bl vs s v->
  l.length=v.length/\∀(i:Nat)(u:Value),v[i]? =some u->u.cells.size=ks.length/\∃cs,l[i]? =some cs/\∀(j:Nat)(kk:K),ks[j]? =some kk->∃c x,cs[j]? =some c/\u.cells[j]? =some x/\Rd P w R c.toD kk x
 |[],l,h,v,hv=>by
  simp only[partsCls,Option.some.injEq]at h;subst h;cases v with
  |nil=>exact⟨rfl,by simp⟩
  |cons=>exact hv.elim
 | x ::s,l,h,v,hv=>by
  cases v with
  |nil=>exact hv.elim
  | cons u v=>
   simp only[partsCls]at h;split at h
   ·rename_i c cs hc hcs
    cases h
    obtain⟨h1,h2⟩:=Wn hl hcs hv.2;refine⟨by simp[h1],fun i y hi=> ?_⟩
    cases i with
    |zero=>
     simp at hi;subst hi;obtain⟨g1,g2,g3⟩:=yB hl hc (cells_sound hl.vsl hv.1 (KT hc));refine⟨by simpa using g2,c,rfl,fun j kk hj=> ?_⟩
     obtain⟨cc,x,a1,a2,a3⟩:=g3 j kk hj;exact⟨cc,x,a1,by simpa using a2,a3⟩
    |succ i=>simpa using h2 i y (by simpa using hi)
   ·cases h
theorem aaA(h:HR P w0 R0 bl vs R ow st.boxes st.ents w)(ht:TR bl vs st.tmps a){t:TypeId}{len:Nat}{parts:Array (Nat×Operand)}(ho:o.op= .buildSlice t len parts)(hd:(eBuildSlice P st t len parts k).den):oG P w0 R0 bl vs ow st a w o k:=by
 unfold eBuildSlice at hd;split at hd
 ·rename_i e he
  split at hd
  ·rename_i ks hks
   split at hd
   ·rename_i hc
    simp only[zA,beq_iff_eq,decide_eq_true_eq,zL]at hc;obtain⟨⟨hidx,hsmall⟩,hpos,hm⟩:=hc;split at hd
    ·rename_i l z hl hz
     obtain⟨R1,ow1,hS,G5,hbx,hlen⟩:=h.KQ (parts.toList.flatMap fun p=>cellsOf (st.ev p.2))
     obtain⟨ks2,i,v,nX,hi,hsz,hzv,hvs,hzl,hzc⟩:=GK h hz;rw[hks]at nX;cases nX;have hpv:SVRs bl vs (parts.toList.map fun p=>st.ev p.2) (parts.toList.map fun p=>a.eval p.2):=by
      have:=evs_sound ht (parts.toList.map (·.2));rw[q6,q6]at this;exact this
     obtain⟨g1,g2⟩:=Wn hS.hr hl hpv;have hlen':parts.toList.length=len:=by
      have:=congrArg vH hidx;simpa using this
     have hpl:((parts.map fun p=>(p.1,a.eval p.2)).toList).map (·.1)=qM 0 ((parts.map fun p=>(p.1,a.eval p.2)).toList).length:=by
      simp only[q7,q6,q3,hlen'];rw[<-v9,<-hidx];rfl
     obtain⟨cs,f1,f2,_,f4⟩:=TB (L:=ks.length) (len:=len) ((parts.map fun p=>(p.1,a.eval p.2)).toList) 0 ((Array.range (len*ks.length)).map ((if len*ks.length=0 then #[]else v.cells)[· % (if len*ks.length=0 then #[]else v.cells).size]!)) hpl (by simp at hlen'⊢;omega) (by simp) (fun p hp=>by
      simp only[q7,List.mem_map]at hp;obtain⟨q,hq,rfl⟩:=hp;obtain⟨n,hn⟩:=vE.1 hq;exact(g2 n (a.eval q.2) (by simp[hn])).1)
     have hcell:∀j q kk,j<len->ks[q]? =some kk->∃u,cs[j*ks.length+q]? =some u/\Rd P w R1 ((z2 (l.map fun cs=>cs.map Cl.toD)).f j q) kk u:=by
      intro j q kk hj hq;obtain⟨p,hp⟩:∃p,parts.toList[j]? =some p:=⟨parts.toList[j]'(by omega),by simp⟩;obtain⟨_,cl,hcl,hh⟩:=g2 j (a.eval p.2) (by simp at hp;simp[hp]);obtain⟨c,x,a1,a2,a3⟩:=hh q kk hq;have:=f4 j (p.1,a.eval p.2) (by simp at hp;simp[hp]) q (zR.1 hq).1;refine⟨x, ?_, ?_⟩
      ·rw[z0]at this
       rw[this];exact a2
      ·simp only[z2,qE,z6,hcl,qJ,qT,a1]
       exact a3
     have hn:(z2 (l.map fun cs=>cs.map Cl.toD)).n=len:=by simp[z2,g1];simpa using hlen'
     obtain⟨ow',hO⟩:=hS.hr.Tz (e:=e) hm (s:=z2 (l.map fun cs=>cs.map Cl.toD)) (cap:=len) (cs:=cs) ((Below.refl _ _).alloc (zF _) _) (heap_alloc_new w _) (by have:=qH len hpos;omega) (by unfold maxLen;have:=qH len hpos;omega)
      (fun ks3 awz=>by rw[hks]at awz;cases awz;exact⟨f2.trans (by simp),fun j q kk hj hq=>hcell j q kk (by omega) hq⟩)
     refine⟨.slice (some ⟨w.heap.size,0,none⟩) (z2 (l.map fun cs=>cs.map Cl.toD)).n len,_, .inl ?_, .sl st.ents.length,_,bl,_,R1,ow',hS.trans hO,G5, ?_,hd⟩
     ·have hsm:¬len*ks.length>2^24:=by omega
      simp only[execOp,ho,Instr.buildSlice,Sem.run_bind,run_underlying (elem_inv he),Result.andThen_ok,run_sizeOf' hi,hsz,if_neg hsm,Sem.run_pure];by_cases hzz:len*ks.length=0
      ·simp only[hzz,if_true,Sem.run_pure,Result.andThen_ok]at f1⊢
       have hpp:(Array.map (fun x=>(x.1,a.eval x.2)) parts).toList=(parts.map fun p=>(p.1,a.eval p.2)).toList:=rfl
       simp only[hpp,f1,newRow,Sem.run_bind,run_newObj,Result.andThen_ok,Sem.run_pure,hn];rfl
      ·simp only[hzz,if_false,Sem.run_bind,run_zero hi hzv,Result.andThen_ok,Sem.run_pure]at f1⊢
       have hpp:(Array.map (fun x=>(x.1,a.eval x.2)) parts).toList=(parts.map fun p=>(p.1,a.eval p.2)).toList:=rfl
       simp only[hpp,f1,newRow,Sem.run_bind,run_newObj,Result.andThen_ok,Sem.run_pure,hn];rfl
     ·have:=hS.hr.jc (v:=Value.slice (some ⟨w.heap.size,0,none⟩) (z2 (l.map fun cs=>cs.map Cl.toD)).n len)
      rw[hlen]at this;exact this
    ·exact hd.elim
   ·exact hd.elim
  ·exact hd.elim
 ·exact hd.elim
theorem HR.kill(h:HR P w0 R0 bl vs R ow st.boxes st.ents w)(id:Nat):Stp P w0 R0 bl vs ow st bl vs R ow (killEnt st id) w/\(killEnt st id).tmps=st.tmps/\(killEnt st id).ents.length=st.ents.length/\
  ∀en,st.ents[id]? =some en->∃en',(killEnt st id).ents[id]? =some en'/\en'.live=false:=by
 unfold killEnt;split
 ·rename_i e he
  refine⟨⟨h.dead id _ rfl,fun _ _ x=>x,fun _ _ x=>x,Ext.of_set_ent (i:=id) (bx:={e with live:=false,ver:=e.ver+1}) rfl rfl (fun b0 h0=>by rw[he]at h0;cases h0;simp),fun _ x=>x⟩,rfl,by simp,fun en hen=>⟨_,kF he,rfl⟩⟩
 ·rename_i he
  exact⟨(Stp.refl h),rfl,rfl,fun en hen=>by rw[he]at hen;cases hen⟩
theorem HR.ahE(h:HR P w0 R0 bl vs R ow st.boxes st.ents w){id:Nat}{en:Ent (sem T)}(hen:st.ents[id]? =some en)(hlive:en.live=true)(hown:en.own=true)(hm:isM en.elem=false){s':Sl}(hs:s'.n<=en.s.n)
  (hf:∀j k,j<s'.n->s'.f j k=en.s.f j k):
  ∃a cap ow',vs[id]? =some (.slice a en.s.n cap)/\Stp P w0 R0 bl vs ow st bl (vs++[.slice a s'.n cap]) R ow' (addEnt (killEnt st id) en.elem s' true) w:=by
 obtain⟨v,hv,_,hO⟩:=h.ent id en hen hlive;obtain⟨a,cap,rfl,h1,h2,ha,hc⟩:=(hO hown).1 hm;obtain⟨hK,_,hlen,Md⟩:=h.kill id;obtain⟨en',hen',hd'⟩:=Md en hen;obtain⟨ow',hP,hmk⟩:=hK.hr.pushOwn (e:=en.elem) hm (s:=s') (a:=a) (cap:=cap) rfl (by omega) h2 ha (by
  rcases hc with hc|⟨b,cs,hab,hob,hcs,hcont⟩
  ·exact .inl hc
  ·refine .inr ⟨b,cs,hab,(h.olt b _ hob).1,(fun hr=>by rw[h.ro b hr]at hob;cases hob),(fun i hi=>by rw[hob]at hi;cases hi),(fun _ _ hi=>by rw[hob]at hi;cases hi),(fun i en2 hi hi2=>by
    rw[hob]at hi;cases hi;rw[hen']at hi2;cases hi2;exact .inl hd'),hcs,fun ks hks=>⟨(hcont ks hks).1,fun j k kk hj hk=> ?_⟩⟩
   obtain⟨u,hu,hr⟩:=(hcont ks hks).2 j k kk (by omega) hk;rw[hf j k hj];exact⟨u,hu,hr⟩)
 exact⟨a,cap,ow',hv,hP,fun _ _ x=>x,fun _ _=>get_append_lt,hK.ext.trans (Ext.of_append (nb:=[]) (ne:=[⟨en.elem,s',true,true,0⟩]) (by simp[addEnt]) rfl),hmk⟩
theorem alG{e:TypeId}{s:Sl}{a:Option Addr}{cap:Nat}{l h:Nat}{i:TypeInfo}(hi:P.info? e=some i)(hk:(kinds P e).isSome=true)(hr:Rd P w R (.sl s.n s.f) (.sl e) (.slice a s.n cap))(h1:l<=h)(h2:h<=s.n):
  Rd P w R (.sl (h-l) fun p q=>s.f (l+p) q) (.sl e) (sliced a l h cap i.size):=by
 obtain⟨e',a',cap',he',hv,g1,g2,g3,g4⟩:=hr;cases he';cases hv
 obtain⟨ks,hks⟩:=q9.1 hk;obtain⟨i2,hi2,hsz,_⟩:=kinds_inv hks;rw[hi]at hi2;cases hi2;refine⟨e,_,_,rfl,rfl,by omega,by omega, ?_,fun ks2 p q kk nX hp hq=> ?_⟩
 ·intro hn
  split at hn
  ·omega
  ·cases a with
   |none=>have:=g3 rfl;omega
   |some ad=>cases hn
 ·rw[hks]at nX;cases nX
  obtain⟨ad,u,ha,hs,hR,hc,hd⟩:=g4 ks (l+p) q kk hks (by omega) hq;subst ha;have hne:¬cap=l:=by omega
  refine⟨⟨ad.block,ad.off+l*ks.length,none⟩,u, ?_,rfl,hR, ?_,hd⟩
  ·rw[if_neg hne,hsz]
   obtain⟨bb,oo,ss⟩:=ad;cases hs
   simp[Addr.add_lit]
  ·rw[show ad.off+l*ks.length+(p*ks.length+q)=ad.off+((l+p)*ks.length+q) by rw[zG];omega]
   exact hc
theorem TF{t e:TypeId}{i:TypeInfo}(he:P.underlying t=some (.slice e))(hi:P.info? e=some i){a:Option Addr}{len cap:Nat}{lo hi':Option Value}{l h:Int}
  (hlo:(lo=none/\l=0)\/∃k,lo=some (.int k l)) (hhi:(hi'=none/\h=len)\/∃k,hi'=some (.int k h)) (h0:0<=l) (h1:l<=h) (h2:h<=len) (hc:len<=cap):
  (Instr.sliceAt t (.slice a len cap) lo hi' none).run P w= .ok (sliced a l.toNat h.toNat cap i.size) w:=by
 have hE:P.elem t=e:=by simp[Program.elem,he]
 have ht:P.underlying t=some (.slice (P.elem t)):=by rw[hE];exact he
 rw[run_sliceAt_slice (h:=ht)];have hsz:(sizeOf (P.elem t)).run P w= .ok i.size w:=by rw[hE];exact run_sizeOf' hi
 rcases hlo with⟨rfl,rfl⟩|⟨k1,rfl⟩<;>rcases hhi with⟨rfl,rfl⟩|⟨k2,rfl⟩
 ·rw[run_slice_all (ht:=ht),hsz];simp
 ·rw[run_slice_h (ht:=ht) (h0:=by omega) (h2:=by omega),hsz];simp
 ·rw[run_slice_l (ht:=ht) (h0:=h0) (h1:=h1),hsz];simp
 ·rw[run_slice_lh (ht:=ht) (h0:=h0) (h1:=h1) (h2:=by omega),hsz];simp
theorem NQ{x:Operand}{n:Int}(h:constInt x=some n):∃k,a.eval x= .int k n:=by
 unfold constInt at h;split at h
 ·rename_i k m;cases h;exact⟨k,rfl⟩
 ·cases h
theorem alH (h : HR P w0 R0 bl vs R ow st.boxes st.ents w)(ht:TR bl vs st.tmps a){t:TypeId}{x:Operand}{lo hi mx:Option Operand}(ho:o.op= .slice t x lo hi mx)(hd:(eSlice P st t x lo hi mx k).den):oG P w0 R0 bl vs ow st a w o k:=by
  have hx:=ev_sound ht x;unfold eSlice at hd;split at hd
  · exact hd.elim
  rename_i hkk;split at hd
  · rename_i e he hxx
    rw[hxx]at hx;have hxv:a.eval x= .slice none 0 0:=hx;have hkk:(kinds P e).isSome=true:=by
      simp only[elemsKnown,he]at hkk;cases hh:kinds P e with
      |none=>simp[hh]at hkk
      |some _=>rfl
    obtain⟨ks,hks⟩:=q9.1 hkk;obtain⟨i,hinfo,_,_⟩:=kinds_inv hks;split at hd
    · exact hd.elim
    · split at hd
      · rename_i l h' hl hh
        obtain⟨l',rfl⟩:∃i':Int,i'=l:=⟨l,rfl⟩;obtain⟨h'',rfl⟩:∃i':Int,i'=h':=⟨h',rfl⟩;have hlo:(lo.map a.eval=none/\l'=0)\/∃k,lo.map a.eval=some (.int k l'):=by
          cases lo with
          |none=>left;simp only[Option.some.injEq]at hl;exact⟨rfl,hl.symm⟩
          | some lx=>
            right
            have hlx:=ev_sound ht lx;simp only at hl;split at hl
            · rename_i k y hy
              rw[hy]at hlx;cases hl
              exact⟨k,congrArg some hlx.1⟩
            · cases hl
        have hhi:(hi.map a.eval=none/\h''=((0:Nat):Int))\/∃k,hi.map a.eval=some (.int k h''):=by
          cases hi with
          |none=>left;simp only[Option.some.injEq]at hh;exact⟨rfl,hh.symm⟩
          | some hx'=>
            right
            have hlx:=ev_sound ht hx';simp only at hh;split at hh
            · rename_i k y hy
              rw[hy]at hlx;cases hh
              exact⟨k,congrArg some hlx.1⟩
            · cases hh
        obtain⟨hns,hd⟩:=lC.1 hd;simp only[zE,z7,or_false,forall_eq_or_imp,forall_eq,sem]at hns;obtain⟨h0,h1,h2⟩:=hns;have hrun:(execOp a.eval o).run P w= .ok (.value (.slice none 0 0)) w:=by
          simp only[execOp,ho,hxv,qX,Sem.run_bind,TF (elem_inv he) hinfo hlo hhi h0 h1 h2 (zF 0),Result.andThen_ok,Sem.run_pure];have e1:l'.toNat=0:=by omega
          have e2:h''.toNat=0:=by omega
          rw[e1,e2];simp[sliced]
        exact⟨_,w, .inl hrun, .con (.slice none 0 0),st,bl,vs,R,ow,Stp.refl h,rfl,rfl,hd⟩
      · exact hd.elim
  · rename_i e id he hxx
    rw[hxx]at hx;have hx:vs[id]? =some (a.eval x):=hx;have hkk:(kinds P e).isSome=true:=by
      simp only[elemsKnown,he]at hkk;cases hh:kinds P e with
      |none=>simp[hh]at hkk
      |some _=>rfl
    obtain⟨ks,hks⟩:=q9.1 hkk;obtain⟨i,hinfo,hsz,_⟩:=kinds_inv hks;split at hd
    · rename_i en hen
      split at hd
      · exact hd.elim
      · rename_i hc
        simp only[zL,Bool.not_eq_false,zA,beq_iff_eq]at hc;obtain⟨hlive,rfl,hmm⟩:=hc;obtain⟨v0,hv0,hcc⟩:=h.look.ent id en hen hlive;obtain⟨a0,cap0,he0,hn1,hn2,ha0,hcells⟩:=hcc.1 hmm;have aB9:=hn1;have hn1:en.s.n<=cap0:=z8 hn1 (vR _ _);rw[hx]at hv0;have hxv:a.eval x= .slice a0 en.s.n cap0:=by rw[Option.some.inj hv0,he0]
        split at hd
        · rename_i m
          split at hd
          · rename_i hm hhi hlo
            obtain⟨km,hm'⟩:=NQ (a:=a) hm;cases hi with
            |none=>cases hhi
            | some hi=>
              simp only[qJ,Option.some.injEq]at hhi;obtain⟨kh,hh'⟩:=NQ (a:=a) hhi;cases lo with
              |some lo=>cases hlo
              | none=>
                have hE:P.elem t=en.elem:=by simp[Program.elem,elem_inv he]
                have htt:P.underlying t=some (.slice (P.elem t)):=by rw[hE];exact elem_inv he
                have hrun:(execOp a.eval o).run P w= .ok (.value (.slice a0 0 0)) w:=by
                  simp only[execOp,ho,hxv,qJ,qX,hm',hh',Sem.run_bind];rw[run_sliceAt_slice (h:=htt),run_slice_hm (ht:=htt) (h0:=Int.le_refl 0) (h2:=Int.le_refl 0) (h3:=by omega),hE,run_sizeOf' hinfo];simp[sliced]
                obtain⟨ow',hP,hmk⟩:=h.pushOwn (e:=en.elem) hmm (s:=zC) (v:= .slice a0 0 0) (a:=a0) (cap:=0) rfl (zF _) (qD _) (fun _=>rfl) (.inl rfl)
                exact⟨.slice a0 0 0,w, .inl hrun, .sl st.ents.length,addEnt st en.elem zC true,bl,_,R,ow',⟨hP,fun _ _ x=>x,fun _ _=>get_append_lt,Ext.of_append (nb:=[]) (ne:=[⟨en.elem,zC,true,true,0⟩]) (by simp[addEnt]) rfl,hmk⟩,rfl,h.jc,hd⟩
          · exact hd.elim
        · split at hd
          · rename_i l h' hl hh
            obtain⟨l',rfl⟩:∃i':Int,i'=l:=⟨l,rfl⟩;obtain⟨h'',rfl⟩:∃i':Int,i'=h':=⟨h',rfl⟩;have hlo:(lo.map a.eval=none/\l'=0)\/∃k,lo.map a.eval=some (.int k l'):=by
              cases lo with
              |none=>left;simp only[Option.some.injEq]at hl;exact⟨rfl,hl.symm⟩
              | some lx=>
                right
                have hlx:=ev_sound ht lx;simp only at hl;split at hl
                · rename_i k y hy
                  rw[hy]at hlx;cases hl
                  exact⟨k,congrArg some hlx.1⟩
                · cases hl
            have hhi:(hi.map a.eval=none/\h''=en.s.n)\/∃k,hi.map a.eval=some (.int k h''):=by
              cases hi with
              |none=>left;simp only[Option.some.injEq]at hh;exact⟨rfl,hh.symm⟩
              | some hx'=>
                right
                have hlx:=ev_sound ht hx';simp only at hh;split at hh
                · rename_i k y hy
                  rw[hy]at hlx;cases hh
                  exact⟨k,congrArg some hlx.1⟩
                · cases hh
            simp only at hd;obtain⟨hns,hd⟩:=lC.1 hd;simp only[zE,z7,or_false,forall_eq_or_imp,forall_eq,sem,Sl.len]at hns;obtain⟨h0,h1,h2⟩:=hns;have hrun:(execOp a.eval o).run P w= .ok (.value (sliced a0 l'.toNat h''.toNat cap0 i.size)) w:=by
              simp only[execOp,ho,hxv,qX,Sem.run_bind,TF (elem_inv he) hinfo hlo hhi h0 h1 h2 hn1,Result.andThen_ok,Sem.run_pure]
            split at hd
            · rename_i hvw
              simp only[zA]at hvw;obtain⟨⟨hown,_⟩,_⟩:=hvw;have hct:cellsOfT P en.elem=i.size:=by simp[cellsOfT,hks,hsz]
              obtain⟨u,hu,_,hO⟩:=h.ent id en hen hlive;rw[hx]at hu;obtain⟨a1,cap1,hv1,_,_,_,hrow⟩:=(hO hown).1 hmm;rw[<-Option.some.inj hu,hxv]at hv1;cases hv1
              refine⟨_,w, .inl hrun, .view id (cellsOfT P en.elem) l' (h''-l'),st,bl,vs,R,ow,Stp.refl h,rfl, ?_,hd⟩
              refine⟨a0,en.s.n,cap0,by rw[hx,hxv],fun ad had hcz=> ?_,ha0,⟨h0,by omega,by omega,hn1,hn2⟩, ?_⟩
              · rcases hrow with hz|⟨b,cs,hab,_⟩
                · exact absurd hz hcz
                · rw[hab]at had;cases had;rfl
              · rw[hct]
                simp only[sliced,viewV]
                congr 1
                omega
            cases hown:en.own
            · simp only[hown,partSt,vA,if_false,Bool.false_and]at hd
              obtain⟨u,hu,hR,_⟩:=h.ent id en hen hlive;rw[hx]at hu;have hrd:=hR hown;rw[<-Option.some.inj hu,hxv]at hrd;have hsub:=alG (l:=l'.toNat) (h:=h''.toNat) hinfo hkk hrd (by omega) (by omega);have hpart:Rd P w R (.sl (zP en.s l' h'').n (zP en.s l' h'').f) (.sl en.elem) (sliced a0 l'.toNat h''.toNat cap0 i.size):=by
                have:h''.toNat-l'.toNat=(h''-l').toNat:=by omega
                rw[this]at hsub;exact hsub
              exact⟨_,w, .inl hrun, .sl st.ents.length,_,bl,_,R,ow,h.YZ hpart,rfl,h.jc,hd⟩
            · simp only [hown,partSt,if_true,Bool.true_and]at hd
              by_cases aeb:(loZero lo&&st.rg)=true
              · simp only[aeb,if_true]at hd
                have hkeep:loZero lo=true:=(Bool.and_eq_true_iff.1 aeb).1;have hl0:l'=0:=by
                  cases lo with
                  | none => rcases hlo with⟨_,hh⟩|⟨k,hh⟩
                            · exact hh
                            · cases hh
                  | some lx=>
                    simp only[loZero]at hkeep;split at hkeep
                    · rename_i hcz
                      obtain⟨k,hk⟩:=NQ (a:=a) hcz;rcases hlo with⟨hh,_⟩|⟨k2,hh⟩
                      · cases hh
                      · simp only[qJ,Option.some.injEq,hk,Value.int.injEq]at hh
                        exact hh.2.symm
                    · cases hkeep
                subst hl0;obtain⟨a1,cap1,ow',hv1,hS⟩:=h.ahE hen hlive hown hmm (s':=zP en.s 0 h'') (by simp only[zP];omega) (fun j q hj=>by simp[zP])
                rw[hx,hxv]at hv1;cases hv1
                have hval:sliced a0 (0:Int).toNat h''.toNat cap0 i.size= .slice a0 (zP en.s 0 h'').n cap0:=by
                  simp only[sliced,Int.toNat_zero,Nat.zero_mul,Nat.sub_zero,zP]
                  congr 1
                  · split
                    · rfl
                    · cases a0 with
                      |none=>rfl
                      |some ad=>simp[Addr.add]
                  · omega
                rw[hval]at hrun;have hlen:=(h.kill id).2.2.1;refine⟨_,w, .inl hrun, .sl (killEnt st id).ents.length,_,bl,_,R,ow',hS,(h.kill id).2.1, ?_,hd⟩
                show _=_;rw[hlen];exact h.jc
              · simp only[aeb,if_false,vA]at hd
                obtain⟨R1,ow1,hS,G5,hbx,hlen⟩:=h.freeze id;have hfz:(freezeId st id).ents[id]? =some {en with own:=false,ver:=en.ver+1}:=by
                  unfold freezeId;simp only[hen,hlive,hown,hmm,Bool.not_false,Bool.and_self,if_true];exact kF hen
                obtain⟨u,hu,hR,_⟩:=hS.hr.ent id _ hfz hlive;rw[hx]at hu;have hrd:=hR rfl;rw[<-Option.some.inj hu,hxv]at hrd;have hsub:=alG (l:=l'.toNat) (h:=h''.toNat) hinfo hkk hrd (by omega) (by simp only;omega);have hpart:Rd P w R1 (.sl (zP en.s l' h'').n (zP en.s l' h'').f) (.sl en.elem) (sliced a0 l'.toNat h''.toNat cap0 i.size):=by
                  have:h''.toNat-l'.toNat=(h''-l').toNat:=by omega
                  rw[this]at hsub;exact hsub
                exact⟨_,w, .inl hrun, .sl (freezeId st id).ents.length,_,bl,_,R1,ow1,hS.trans (hS.hr.YZ hpart),G5,hS.hr.jc,hd⟩
          · exact hd.elim
    · exact hd.elim
  · exact hd.elim
theorem aoL{e:TypeId}{s:Sl}{ad:Addr}{c:Nat}{ks:List K}(hks:kinds P e=some ks)(hc:Cont P w R e s (.slice (some ad) s.n c))(hn:0<s.n->0<ks.length):
  ∃news:List Value,news.length=s.n*ks.length/\(∀j u,news[j]? =some u->w.cell? (ad.add j)=some u)/\(∀u∈news,u.oneCell'=true)/\
   ∀i j kk,i<s.n->ks[j]? =some kk->∃u,news[i*ks.length+j]? =some u/\Rd P w R (s.f i j) kk u:=by
 obtain⟨a',cap,hv,h1,h2,h3,h4⟩:=hc;cases hv
 by_cases hz:s.n=0
 ·refine⟨[],by simp[hz],by simp,by simp,fun i j kk hi=>by omega⟩
 ·have hL:0<ks.length:=hn (by omega)
  obtain⟨k0,hk0⟩:∃kk,ks[0]? =some kk:=⟨ks[0],by simp⟩;obtain⟨ad',_,hA,hspot,_⟩:=h4 ks 0 0 k0 hks (by omega) hk0;cases hA
  have hget:∀q,q<s.n*ks.length->∃u kk,w.cell? (ad.add q)=some u/\ks[q % ks.length]? =some kk/\Rd P w R (s.f (q/ks.length) (q % ks.length)) kk u:=by
   intro q hq;have hq1:q/ks.length<s.n:=by rw[Nat.div_lt_iff_lt_mul hL];exact hq
   have hq2:q % ks.length<ks.length:=Nat.mod_lt _ hL;obtain⟨kk,hkk⟩:∃kk,ks[q % ks.length]? =some kk:=⟨ks[q % ks.length],by simp⟩;obtain⟨ad',u,hA,_,hc,hd⟩:=h4 ks (q/ks.length) (q % ks.length) kk hks hq1 hkk;cases hA
   refine⟨u,kk, ?_,hkk,hd⟩
   have he:ad.add q=⟨ad.block,ad.off+(q/ks.length*ks.length+q % ks.length),none⟩:=by
    obtain⟨bb,oo,ss⟩:=ad;cases hspot
    rw[Addr.add_lit,vG (q/ks.length),Nat.div_add_mod]
   rw[he];exact hc
  have hnews:∀j u,((List.range (s.n*ks.length)).map fun q=>(w.cell? (ad.add q)).getD undef)[j]? =some u->j<s.n*ks.length/\w.cell? (ad.add j)=some u:=by
   intro j u hj;simp only[z6,qY]at hj;obtain⟨q,hq,rfl⟩:=hj;have hjl:j<s.n*ks.length:=by
    rcases Nat.lt_or_ge j (s.n*ks.length)with h'|h'
    ·exact h'
    ·rw[v8 (by simpa using h')]at hq;cases hq
   rw[wA hjl]at hq;cases hq
   obtain⟨u,kk,hu,_⟩:=hget j hjl;exact⟨hjl,by simp[hu]⟩
  refine⟨(List.range (s.n*ks.length)).map fun q=>(w.cell? (ad.add q)).getD undef,by simp,fun j u hj=>(hnews j u hj).2, ?_, ?_⟩
  ·intro u hu
   obtain⟨j,hj⟩:=vE.1 hu;obtain⟨hjl,hcu⟩:=hnews j u hj;obtain⟨u',kk,hu',_,hr⟩:=hget j hjl;rw[hcu]at hu';cases hu';exact hr.one
  ·intro i j kk hi hj
   have hj':j<ks.length:=(zR.1 hj).1;have hidx:=xC (L:=ks.length) (n:=s.n) hi hj';obtain⟨ad',u,hA,_,hc,hd⟩:=h4 ks i j kk hks hi hj;cases hA
   refine⟨u, ?_,hd⟩
   simp only[z6,wA hidx,qJ];obtain⟨bb,oo,ss⟩:=ad;cases hspot
   rw[Addr.add_lit];simp only at hc;rw[hc];rfl
def aji(P:Program)(w:World)(R:Nat->Prop)(e:TypeId)(s:Sl)(a:Option Addr)(cap:Nat):Prop:=
 s.n<=min cap 140737488355328/\cap<=maxLen/\(a=none->cap=0)/\(cap=0\/∃(b:Nat)(cs:Array Value),a=some ⟨b,0,none⟩/\w.heap[b]? =some (.cells cs e (0,0))/\
  ∀ks,kinds P e=some ks->cs.size=cap*ks.length/\∀j k kk,j<s.n->ks[k]? =some kk->∃u,cs[j*ks.length+k]? =some u/\Rd P w R (s.f j k) kk u)
theorem Wp{t ty e:TypeId}{d r:Sl}{a:Option Addr}{cap:Nat}{x:Value}{ks:List K}{i:TypeInfo}{z:Value}(he:P.underlying t=some (.slice e))(hks:kinds P e=some ks)(hi:P.info? e=some i)(hsz:i.size=ks.length)(hz:i.zero=some z)(hzs:z.cells.size=ks.length)
  (hL:0<ks.length) (hby:0<i.bytes) (hd:aji P w R e d a cap) (hr:Cont P w R e r x) (hbytes:(d.n+r.n)*i.bytes<=140737488355328):
  (r.n=0/\(Builtin.append_ #[t,t] ty #[.slice a d.n cap,x]).run P w= .ok (.slice a d.n cap) w)\/
  (∃b cs cs',a=some ⟨b,0,none⟩/\0<cap/\d.n+r.n<=cap/\w.heap[b]? =some (.cells cs e (0,0))/\(Builtin.append_ #[t,t] ty #[.slice a d.n cap,x]).run P w= .ok (.slice a (d.n+r.n) cap) (w.setRow b cs')/\
   cs'.size=cap*ks.length/\∀j k kk,j<d.n+r.n->ks[k]? =some kk->∃u,cs'[j*ks.length+k]? =some u/\Rd P w R ((zB d r).f j k) kk u)\/
  (∃cap' cs',d.n+r.n<=cap'/\cap'<=maxLen/\(Builtin.append_ #[t,t] ty #[.slice a d.n cap,x]).run P w= .ok (.slice (some ⟨w.heap.size,0,none⟩) (d.n+r.n) cap') (w.drew.alloc (.cells cs' e))/\
   cs'.size=cap'*ks.length/\∀j k kk,j<d.n+r.n->ks[k]? =some kk->∃u,cs'[j*ks.length+k]? =some u/\Rd P w R ((zB d r).f j k) kk u):=by
 obtain⟨h1,h2,h3,h4⟩:=hd;have hr0:=hr;obtain⟨ax,aec,rfl,g1,g2,g3,g4⟩:=hr;have h1m:=h1;have h1:d.n<=cap:=z8 h1 (vR _ _);have g1m:=g1;have g1:r.n<=aec:=z8 g1 (vR _ _);have hsum:d.n+r.n<=140737488355328:=z8 (qH _ hby) hbytes;by_cases hm:r.n=0
 ·left
  refine⟨hm, ?_⟩
  have hf:(Builtin.firstCells i.size r.n (.slice ax r.n aec)).run P w= .ok #[] w:=by
   cases ax<;>simp[Builtin.firstCells,loadCells,loadCellsFrom,hm]
  have hge:d.n+r.n<=cap:=by omega
  simp only[Builtin.append_,Sem.run_bind,run_underlying he,Result.andThen_ok,run_sizeOf' hi,Builtin.lenOf,Sem.run_pure,q5,List.getElem?_cons_zero,List.getElem?_cons_succ];simp[hge,hf,hm,storeCells];cases a<;>simp[hm,h1,hf,storeCells,Builtin.firstCells,loadCells,loadCellsFrom]
  all_goals(first|done|(cases ax<;>simp[Builtin.firstCells,loadCells,loadCellsFrom,storeCells]))
 ·cases ax with
  |none=>have:=g3 rfl;omega
  | some adx=>
   obtain⟨news,n1,n2,n3,n4⟩:=aoL hks hr0 (fun _=>hL)
   rw[<-hsz]at n1;have happ:∀(olds:List Value)(rest:List Value),olds.length=d.n*ks.length->(∀j k kk,j<d.n->ks[k]? =some kk->∃u,olds[j*ks.length+k]? =some u/\Rd P w R (d.f j k) kk u)->
     ∀j k kk,j<d.n+r.n->ks[k]? =some kk->∃u,(olds++news++rest)[j*ks.length+k]? =some u/\Rd P w R ((zB d r).f j k) kk u:=by
    intro olds rest ho hold j k kk hj hk;have hk':k<ks.length:=(zR.1 hk).1;rw[hsz]at n1;simp only[zB];by_cases hjd:j<d.n
    ·obtain⟨u,hu,Jf⟩:=hold j k kk hjd hk
     have:=xC (L:=ks.length) hjd hk';rw[if_pos hjd];refine⟨u, ?_,Jf⟩
     rw[List.append_assoc,z5 (by omega)];exact hu
    ·obtain⟨u,hu,Jf⟩:=n4 (j-d.n) k kk (by omega) hk
     have h5:=xC (L:=ks.length) (n:=r.n) (i:=j-d.n) (j:=k) (by omega) hk';have h6:j*ks.length=d.n*ks.length+(j-d.n)*ks.length:=by rw[<-zG];congr 1;omega
     rw[if_neg hjd];refine⟨u, ?_,Jf⟩
     rw[z5 (by simp;omega),z9 (by omega)];rw[show j*ks.length+k-olds.length=(j-d.n)*ks.length+k by omega];exact hu
   by_cases hroom:d.n+r.n<=cap
   ·right;left
    rcases h4 with h4|⟨b,cs,rfl,hcs,hcont⟩
    ·omega
    ·obtain⟨c1,c2⟩:=hcont ks hks
     have hfit:d.n*i.size+news.length<=cs.size:=by rw[n1,hsz,c1,<-zG];exact z4 _ hroom
     have hrun:=run_append_room (P:=P) w t ty e i he hi b d.n cap cs hcs adx r.n aec news n1 n2 n3 hroom hfit;refine⟨b,cs,_,rfl,by omega,hroom,hcs,hrun, ?_, ?_⟩
     ·simp
      omega
     ·have:=happ (cs.toList.take (d.n*i.size)) (cs.toList.drop (d.n*i.size+news.length)) (by rw[hsz];simp;rw[c1];exact Nat.min_eq_left (z4 _ h1)) (fun j k kk hj hk=>by
       obtain⟨u,hu,Jf⟩:=c2 j k kk hj hk;have:=xC (L:=ks.length) hj (zR.1 hk).1;refine⟨u, ?_,Jf⟩
       rw[z1,if_pos (by rw[hsz];omega)];simpa using hu)
      intro j k kk hj hk;obtain⟨u,hu,Jf⟩:=this j k kk hj hk;exact⟨u,by simpa using hu,Jf⟩
   ·right;right
    have hcap:=grownCap_ge w (d.n+r.n) cap e;have hcap2:=grownCap_le_maxLen w (d.n+r.n) cap e (by unfold maxLen;omega);have hfits:=growslice_fits (old:=cap) (by omega:cap<d.n+r.n) hbytes;cases a with
    | none=>
     have hc0:=h3 rfl;subst hc0;have hd0:d.n=0:=by omega
     have hrun:=run_append_nil (P:=P) w t ty e i z he hi hz adx r.n aec news n1 n2 (by omega) (by omega) (by rw[hd0,z0]at hbytes;omega);refine⟨grownCap w r.n 0 e,_,by rw[hd0,z0];exact grownCap_ge w r.n 0 e,grownCap_le_maxLen w r.n 0 e (by unfold maxLen;omega),by rw[hd0,z0];exact hrun, ?_, ?_⟩
     ·have:=grownCap_ge w r.n 0 e
      simp only[vY,List.size_toArray,size_zeroCells,n1,hzs,hsz,<-zG]
      congr 1;omega
     ·intro j k kk hj hk
      obtain⟨u,hu,Jf⟩:=happ [] (Builtin.zeroCells z.cells (grownCap w r.n 0 e-r.n)).toList (by simp[hd0]) (fun j k kk hj=>by omega) j k kk hj hk
      refine⟨u, ?_,Jf⟩
      rw[<-qI];simpa using hu
    | some adr=>
     have hold:∃olds:List Value,olds.length=d.n*i.size/\(∀j v,olds[j]? =some v->w.cell? (adr.add j)=some v)/\∀j k kk,j<d.n->ks[k]? =some kk->∃u,olds[j*ks.length+k]? =some u/\Rd P w R (d.f j k) kk u:=by
      rcases h4 with h4|⟨b,cs,hab,hcs,hcont⟩
      ·have hd0:d.n=0:=by omega
       exact⟨[],by simp[hd0],by simp,fun j k kk hj=>by omega⟩
      ·cases hab
       obtain⟨c1,c2⟩:=hcont ks hks;refine⟨cs.toList.take (d.n*i.size),by rw[hsz];simp;rw[c1];exact Nat.min_eq_left (z4 _ h1),fun j v hj=> ?_,fun j k kk hj hk=> ?_⟩
       ·rw[z1]at hj
        split at hj
        ·rw[Addr.add_lit,z0]
         simp only[World.cell?,hcs];simpa using hj
        ·cases hj
       ·obtain⟨u,hu,Jf⟩:=c2 j k kk hj hk
        have:=xC (L:=ks.length) hj (zR.1 hk).1;refine⟨u, ?_,Jf⟩
        rw[z1,if_pos (by rw[hsz];omega)];simpa using hu
     obtain⟨olds,o1,o2,o3⟩:=hold;have hrun:=run_append_grow (P:=P) w t ty e i z he hi hz adr d.n cap olds o1 o2 adx r.n aec news n1 n2 (by omega) (by omega) hfits;refine⟨grownCap w (d.n+r.n) cap e,_,hcap,hcap2,hrun, ?_, ?_⟩
     ·simp only[vY,List.size_toArray,size_zeroCells,o1,n1,hzs,hsz,<-zG]
      congr 1;omega
     ·intro j k kk hj hk
      obtain⟨u,hu,Jf⟩:=happ olds (Builtin.zeroCells z.cells (grownCap w (d.n+r.n) cap e-(d.n+r.n))).toList (by rw[<-hsz];exact o1) o3 j k kk hj hk;refine⟨u, ?_,Jf⟩
      rw[<-qI];simpa using hu
theorem HR.ajj(h:HR P w0 R0 bl vs R ow st.boxes st.ents w){id b:Nat}{en:Ent (sem T)}{cs:Array Value}{cs':Array Value}{e:TypeId}(hen:st.ents[id]? =some en)(hd:en.live=false)(ho:ow b=some (.ent id))(_hw:w.heap[b]? =some (.cells cs e (0,0))):
  HR P w0 R0 bl vs R ow st.boxes st.ents (w.setRow b cs'):=by
 have hR:∀x,R x->(w.setRow b cs').heap[x]? =w.heap[x]? :=fun x hx=>setRow_other w b x cs' (fun e=>by rw[e]at hx;rw[h.ro b hx]at ho;cases ho)
 exact{
  below:=h.below.trans ⟨by simp,by simp,by simp,by simp,fun x hx=>setRow_other w b x cs' (fun e=>by have:=(h.olt b _ ho).1;omega)⟩
  rlt:=fun x hx=>by simpa using h.rlt x hx
  r0:=h.r0
  rsub:=h.rsub
  ro:=h.ro
  olt:=fun x q hx=>by simpa using h.olt x q hx
  nb:=h.nb
  nv:=h.nv
  vsl:=h.vsl
  glb:=h.glb
  box:=fun j bj hj hlj=>by
   obtain⟨b2,cs2,h1,h2,h3,h4⟩:=h.box j bj hj hlj;have hne2:b2≠b:=fun e=>by rw[e,ho]at h2;cases h2
   exact⟨b2,cs2,h1,h2,(setRow_other w b b2 cs' hne2).trans h3,h4⟩
  ent:=fun j e hj hlj=>by
   obtain⟨u,hu,h1,h2⟩:=h.ent j e hj hlj;refine⟨u,hu,fun hown=>(h1 hown).mono (fun _ x=>x) hR,fun hown=>(h2 hown).mono (fun _ x=>x) hR (fun x hx=>⟨hx,setRow_other w b x cs' (fun e=> ?_)⟩)⟩
   rw[e,ho]at hx;cases hx
   rw[hen]at hj;cases hj;rw[hd]at hlj;cases hlj
  mrk:=fun x hx=>(setRow_other w b x cs' (fun e=>by rw[e,ho]at hx;cases hx)).trans (h.mrk x hx)
  lp:=fun j L hj=>by
   obtain⟨bj,x,g1,g2,g3,g4,g5⟩:=h.lp j L hj;have hxb:x≠b:=fun e=>by rw[e,ho]at g4;cases g4
   exact⟨bj,x,g1,g2,g3,g4,g5.mono (setRow_other w b x cs' hxb) (fun _ _ x=>x) (fun _ _ x=>x)⟩}
theorem atm(h:HR P w0 R0 bl vs R ow st.boxes st.ents w){e:TypeId}{x:SV (sem T)}{d:Sl}{id? :Option Nat}(hd:dstOf st e x=some (d,id?)){v:Value}(hv:SVR bl vs x v):
  (∃id en,id? =some id/\st.ents[id]? =some en/\en.live=true/\en.own=true/\en.elem=e/\en.s=d/\∃a cap,v= .slice a d.n cap/\vs[id]? =some v/\aji P w R e d a cap/\(∀b,a=some ⟨b,0,none⟩->0<cap->ow b=some (.ent id)))\/
  (id? =none/\d=zC/\v= .slice none 0 0):=by
 unfold dstOf at hd;split at hd
 ·rename_i id
  split at hd
  ·rename_i en hen
   split at hd
   ·rename_i hc
    simp only[zA,beq_iff_eq,zL]at hc;obtain⟨⟨hlive,hown⟩,rfl,hm⟩:=hc;cases hd
    left
    obtain⟨u,hu,_,hO⟩:=h.ent id en hen hlive;have hv:vs[id]? =some v:=hv;rw[hv]at hu;obtain⟨a,cap,rfl,h1,h2,h3,h4⟩:=(hO hown).1 hm;refine⟨id,en,rfl,hen,hlive,hown,rfl,rfl,a,cap,Option.some.inj hu,hv,⟨h1,h2,h3, ?_⟩, ?_⟩
    ·rcases h4 with h4|⟨b,cs,hab,hob,hcs,hcont⟩
     ·exact .inl h4
     ·exact .inr ⟨b,cs,hab,hcs,hcont⟩
    ·intro b hb hpos
     rcases h4 with h4|⟨b',cs,hab,hob,hcs,hcont⟩
     ·omega
     ·rw[hb]at hab
      cases hab
      exact hob
   ·cases hd
  ·cases hd
 ·cases hd
  exact .inr ⟨rfl,rfl,hv⟩
 ·cases hd
theorem atn(h:HR P w0 R0 bl vs R ow st.boxes st.ents w){e:TypeId}{x:SV (sem T)}{r:Sl}(hd:srcOf st e x=some r){v:Value}(hv:SVR bl vs x v):Cont P w R e r v:=by
 unfold srcOf at hd;split at hd
 ·rename_i id
  split at hd
  ·rename_i en hen
   split at hd
   ·rename_i hc
    simp only[zA,beq_iff_eq,zL]at hc;obtain⟨hlive,rfl,hm⟩:=hc;cases hd
    obtain⟨u,hu,hcont⟩:=h.look.ent id en hen hlive;have hv:vs[id]? =some v:=hv;rw[hv]at hu;cases hu;exact hcont.1 hm
   ·cases hd
  ·cases hd
 ·cases hd
  have hv:v= .slice none 0 0:=hv;subst hv;exact⟨none,0,rfl,zF _,qD _,fun _=>rfl,fun ks i j kk _ hi=>absurd hi (q0 _)⟩
 ·cases hd
theorem adt{zero:Array Value}{n j q:Nat}(hj:j<n)(hq:q<zero.size):(Builtin.zeroCells zero n)[j*zero.size+q]? =zero[q]? :=by
 have hlt:j*zero.size+q<n*zero.size:=xC hj hq;have hm:(j*zero.size+q) % zero.size=q:=by rw[vG,Nat.mul_add_mod,Nat.mod_eq_of_lt hq]
 simp[Builtin.zeroCells,hlt,hm,hq]
theorem PK{P:Program}(w:World)(t tn ty e:TypeId)(i:TypeInfo)(k kn:IntKind)(ht:P.underlying t=some (.slice e))(htn:P.underlying tn=some (.int kn))(hi:P.info? e=some i):
  (Builtin.append_ #[t,tn] ty #[.slice none 0 0, .int k 0]).run P w= .ok (.slice none 0 0) w:=by
 have hw:IntKind.i64.wrap 0=0:=by rw[IntKind.wrap_i64];omega
 simp[Builtin.append_,run_underlying ht,run_underlying htn,sizeOf,typeInfo,hi,asInt,asIntOf,hw]
theorem ag1(h:HR P w0 R0 bl vs R ow st.boxes st.ents w)(ht:TR bl vs st.tmps a){s x:Operand}{ts tx e:TypeId}(ho:o.op= .call {callee:= .builtin .append,args:= #[s,x],argTypes:= #[ts,tx]})(he:elemOf? P ts=some e)(hd:(eAppendZ P st s x ts tx e k).den):oG P w0 R0 bl vs ow st a w o k:=by
 unfold eAppendZ at hd;have hs:=ev_sound ht s;have hx:=ev_sound ht x;split at hd
 ·rename_i n z by_ hss hxx hz hby
  rw[hss]at hs;rw[hxx]at hx;obtain⟨n',rfl⟩:∃i':Int,i'=n:=⟨n,rfl⟩;split at hd
  ·rename_i hc
   simp only[zA,decide_eq_true_eq]at hc;obtain⟨aCa,hint,Y3⟩:=hc;obtain⟨kn,hkn⟩:∃kn,P.underlying tx=some (.int kn):=by
    unfold isIntT at hint;split at hint
    ·exact⟨_,by assumption⟩
    ·cases hint
   obtain⟨hns,hk⟩:=lC.1 hd;simp only[zE,z7,or_false,forall_eq_or_imp,forall_eq,sem,arithS]at hns;obtain⟨h0,h2⟩:=hns;obtain⟨ks,i,v,hks,hi,hsz,hzv,hvs,hzl,hzc⟩:=GK h hz;obtain⟨i2,hi2,hbb⟩:=TA hby
   rw[hi]at hi2;cases hi2;simp only[posK,hks,zA,decide_eq_true_eq,zL]at Y3;obtain⟨hL,hmE⟩:=Y3;have as2:n'<=9223372036854775807:=by have:=hx.2.2;simpa[IntKind.max,IntKind.signed,IntKind.bits]using this
   have hsv:a.eval s= .slice none 0 0:=hs;have hxv:a.eval x= .int .i64 n':=hx.1;have G8:∀v w',(Builtin.append_ #[ts,tx] o.type #[a.eval s,a.eval x]).run P w= .ok v w'->(execOp a.eval o).run P w= .ok (.value v) w':=by
    intro v w' hr;simp[execOp,ho,resolve,invoke,builtin,hr]
   by_cases hn0:n'=0
   ·subst hn0
    have hr:=PK (P:=P) w ts tx o.type e i .i64 kn (elem_inv he) hkn hi;rw[<-hxv,<-hsv]at hr;obtain⟨ow',hP,hmk⟩:=h.pushOwn (e:=e) hmE (s:=zD 0 (z.map Cl.toD)) (v:= .slice none 0 0) (a:=none) (cap:=0) (by simp[zD]) (by simp[zD]) (qD _) (fun _=>rfl) (.inl rfl)
    refine⟨_,w, .inl (G8 _ _ hr), .sl st.ents.length,addEnt st e (zD 0 (z.map Cl.toD)) true,bl,_,R,ow',⟨hP,fun _ _ x=>x,fun _ _=>get_append_lt,Ext.of_append (nb:=[]) (ne:=[⟨e,zD 0 (z.map Cl.toD),true,true,0⟩]) (by simp[addEnt]) rfl,hmk⟩,rfl, ?_,hk⟩
    show _=_;rw[hsv];exact h.jc
   ·obtain⟨m,rfl⟩:∃m:Nat,n'=(m:Int):=⟨n'.toNat,by omega⟩
    have hm:0<m:=by omega
    have hbytes:m*i.bytes<=140737488355328:=by
     have h1:((m*i.bytes:Nat):Int)<=140737488355328:=by
      rw[Int.natCast_mul];subst hbb;exact h2
     omega
    have aCb:m<=140737488355328:=z8 (qH _ (by omega)) hbytes;have hr:=Lib.run_append_nil_zeros (P:=P) w ts tx o.type e i v .i64 kn (elem_inv he) hkn hi hzv m hm (by rw[hsz];exact hL) (by omega) (by omega);rw[<-hxv,<-hsv]at hr;have hcap:=grownCap_ge w m 0 e;have hcap2:=grownCap_le_maxLen w m 0 e (by unfold maxLen;omega);obtain⟨ow',hO⟩:=h.Tz (e:=e) hmE (s:=zD (m:Int) (z.map Cl.toD)) (cap:=grownCap w m 0 e) (cs:=Builtin.zeroCells v.cells m++Builtin.zeroCells v.cells (grownCap w m 0 e-m)) (w1:=w.drew.alloc (.cells (Builtin.zeroCells v.cells m++Builtin.zeroCells v.cells (grownCap w m 0 e-m)) e))
     ((Below.drew (Below.refl _ _)).alloc (by simp) _) (heap_alloc_new w.drew _) (by simp only[zD,Int.toNat_natCast];omega) hcap2
     (fun ks2 nX=>by
      rw[hks]at nX;cases nX;refine⟨?_,fun j q kk hj hq=> ?_⟩
      ·simp only[vY,size_zeroCells,hvs,<-zG]
       congr 1;omega
      ·obtain⟨cl,u,hcl,hu,hr⟩:=hzc q kk hq
       have hq':q<ks.length:=(zR.1 hq).1;have hj':j<m:=by simpa[zD]using hj
       have hlt:=xC (L:=ks.length) hj' hq';refine⟨u, ?_, ?_⟩
       ·rw[Array.getElem?_append_left (by rw[size_zeroCells,hvs];exact hlt)]
        have:=adt (zero:=v.cells) (n:=m) hj' (q:=q) (by rw[hvs];exact hq');rw[hvs]at this;rw[this];exact hu
       ·simp only[zD]
        rw[qE,z6,hcl];exact hr)
    refine⟨_,_, .inl (G8 _ _ hr), .sl st.ents.length,_,bl,_,R,ow',hO,rfl, ?_,hk⟩
    show _=_;have:=h.jc (v:= .slice (some ⟨w.heap.size,0,none⟩) (zD (m:Int) (z.map Cl.toD)).n (grownCap w m 0 e));simpa[zD]using this
  ·exact hd.elim
 ·exact hd.elim
theorem ajk(h:HR P w0 R0 bl vs R ow st.boxes st.ents w)(ht:TR bl vs st.tmps a){args:Array Operand}{argTypes:Array TypeId}(ho:o.op= .call {callee:= .builtin .append,args,argTypes})(hd:(eAppend P st args argTypes k).den):oG P w0 R0 bl vs ow st a w o k:=by
 unfold eAppend at hd;split at hd
 ·rename_i s x ts tx hargs htys
  have hargs':args= #[s,x]:=by rw[<-Array.toList_inj];exact hargs
  have htys':argTypes= #[ts,tx]:=by rw[<-Array.toList_inj];exact htys
  subst hargs' htys';have hs:=ev_sound ht s;have hx:=ev_sound ht x;split at hd
  ·rename_i e he
   split at hd
   ·exact ag1 h ht ho he hd
   ·rename_i htt
    have htt:ts=tx:=by simpa using htt
    subst htt;split at hd
    ·rename_i d id? r by_ z hdst hsrc hby hz
     split at hd
     ·rename_i hc
      simp only[zA]at hc;obtain⟨PL,Y3⟩:=hc;have hdd:=(lC.1 hd).2;have hns:=(lC.1 hd).1;clear hd;simp only[List.mem_singleton,forall_eq,sem,arithS,Sl.len]at hns;obtain⟨ks,i,zv,hks,hi,hsz,hzv,hzs,_,_⟩:=GK h hz;obtain⟨i2,hi2,hbb⟩:=TA hby
      rw[hi]at hi2;cases hi2;subst hbb;have hbytes:(d.n+r.n)*i.bytes<=140737488355328:=by
       have h1:(((d.n+r.n)*i.bytes:Nat):Int)<=140737488355328:=by
        rw[Int.natCast_mul,Int.natCast_add];exact hns
       omega
      simp only[posK,hks,zA,decide_eq_true_eq,zL]at Y3;obtain⟨hL,hm⟩:=Y3;have PL:0<i.bytes:=by simpa using PL
      have hcont:=atn h hsrc hx;have G8:∀v w',(Builtin.append_ #[ts,ts] o.type #[a.eval s,a.eval x]).run P w= .ok v w'->(execOp a.eval o).run P w= .ok (.value v) w':=by
       intro v w' hr;simp[execOp,ho,resolve,invoke,builtin,hr]
      rcases atm h hdst hs with⟨id,en,rfl,hen,hlive,hown,rfl,rfl,a0,cap,hv0,azN,aed,azO⟩|⟨rfl,rfl,hv0⟩
      ·have hcore:=Wp (P:=P) (w:=w) (R:=R) (ty:=o.type) (elem_inv he) hks hi hsz hzv hzs hL PL aed hcont hbytes
       rw[<-hv0]at hcore;obtain⟨hK,hKt,hKl,hKd⟩:=h.kill id;obtain⟨en',hen',Md⟩:=hKd en hen;rcases hcore with⟨hr0,hrun⟩|⟨b,cs,cs',hab,as3,hroom,hcs,hrun,hsize,hcell⟩|⟨cap',cs',hc1,hc2,hrun,hsize,hcell⟩
       ·obtain⟨a1,cap1,ow',hv1,hS⟩:=h.ahE hen hlive hown hm (s':=zB en.s r) (by simp[zB,hr0]) (fun j q hj=>by simp only[zB,hr0,zI]at hj⊢;rw[if_pos hj])
        rw[azN,hv0]at hv1;cases hv1
        refine⟨_,w, .inl (G8 _ _ hrun), .sl (killEnt st id).ents.length,_,bl,_,R,ow',hS,hKt, ?_,hdd⟩
        show _=_;rw[hKl,hv0,show(zB en.s r).n=en.s.n by simp[zB,hr0]];exact h.jc
       ·have hob:=azO b hab as3
        have hB:HR P w0 R0 bl vs R ow (killEnt st id).boxes (killEnt st id).ents (w.setRow b cs'):=hK.hr.ajj hen' Md hob hcs;have hRn:∀q,R q->(w.setRow b cs').heap[q]? =w.heap[q]? :=fun q hq=>setRow_other w b q cs' (fun e=>by rw[e]at hq;rw[h.ro b hq]at hob;cases hob)
        obtain⟨ow',hP,hmk⟩:=hB.pushOwn (e:=en.elem) hm (s:=zB en.s r) (a:=a0) (cap:=cap) rfl (by simp only[zB];have:=z8 (qH _ PL) hbytes;omega) aed.2.1 aed.2.2.1
         (.inr ⟨b,cs',hab,(h.olt b _ hob).1,(fun hr=>by rw[h.ro b hr]at hob;cases hob),(fun q hq=>by rw[hob]at hq;cases hq),(fun _ _ hq=>by rw[hob]at hq;cases hq),(fun q en2 hq hq2=>by
          rw[hob]at hq;cases hq;rw[hen']at hq2;cases hq2;exact .inl Md),setRow_heap w b cs cs' _ _ hcs,fun ks2 nX=>by
           rw[hks]at nX;cases nX;refine⟨hsize,fun j q kk hj hq=> ?_⟩
           obtain⟨u,hu,Jf⟩:=hcell j q kk hj hq;exact⟨u,hu,Jf.mono (fun _ x=>x) hRn⟩⟩)
        refine⟨_,_, .inl (G8 _ _ hrun), .sl (killEnt st id).ents.length,addEnt (killEnt st id) en.elem (zB en.s r) true,bl,_,R,ow',⟨hP,fun _ _ x=>x,fun _ _=>get_append_lt,hK.ext.trans (Ext.of_append (nb:=[]) (ne:=[⟨en.elem,zB en.s r,true,true,0⟩]) (by simp[addEnt]) rfl),hmk⟩,hKt, ?_,hdd⟩
        show _=_;rw[hKl];exact h.jc
       ·obtain⟨ow',hO⟩:=hK.hr.Tz (e:=en.elem) hm (s:=zB en.s r) (cap:=cap') (cs:=cs') (w1:=w.drew.alloc (.cells cs' en.elem)) ((Below.drew (Below.refl _ _)).alloc (by simp) _) (heap_alloc_new w.drew _) (by have:=z8 (qH _ PL) hbytes;simp only[zB];omega) hc2
         (fun ks2 nX=>by rw[hks]at nX;cases nX;exact⟨hsize,hcell⟩)
        refine⟨_,_, .inl (G8 _ _ hrun), .sl (killEnt st id).ents.length,_,bl,_,R,ow',hK.trans hO,hKt, ?_,hdd⟩
        show _=_;rw[hKl];exact h.jc
      ·have aed:aji P w R e zC none 0:=⟨zF _,qD _,fun _=>rfl, .inl rfl⟩
       have hcore:=Wp (P:=P) (w:=w) (R:=R) (ty:=o.type) (elem_inv he) hks hi hsz hzv hzs hL PL aed hcont hbytes;have hv0':a.eval s= .slice none (zC).n 0:=hv0;rw[<-hv0']at hcore;rcases hcore with⟨hr0,hrun⟩|⟨b,cs,cs',hab,as3,hroom,hcs,hrun,hsize,hcell⟩|⟨cap',cs',hc1,hc2,hrun,hsize,hcell⟩
       ·obtain⟨ow',hP,hmk⟩:=h.pushOwn (e:=e) hm (s:=zB zC r) (v:= .slice none 0 0) (a:=none) (cap:=0) (by simp[zB,zC,hr0]) (by simp[zB,zC,hr0]) (qD _) (fun _=>rfl) (.inl rfl)
        refine⟨_,w, .inl (G8 _ _ hrun), .sl st.ents.length,addEnt st e (zB zC r) true,bl,_,R,ow',⟨hP,fun _ _ x=>x,fun _ _=>get_append_lt,Ext.of_append (nb:=[]) (ne:=[⟨e,zB zC r,true,true,0⟩]) (by simp[addEnt]) rfl,hmk⟩,rfl, ?_,hdd⟩
        show _=_;rw[hv0];exact h.jc
       ·cases hab
       ·obtain⟨ow',hO⟩:=h.Tz (e:=e) hm (s:=zB zC r) (cap:=cap') (cs:=cs') (w1:=w.drew.alloc (.cells cs' e)) ((Below.drew (Below.refl _ _)).alloc (by simp) _) (heap_alloc_new w.drew _) (by have:=z8 (qH _ PL) hbytes;simp only[zB];omega) hc2
         (fun ks2 nX=>by rw[hks]at nX;cases nX;exact⟨hsize,hcell⟩)
        exact⟨_,_, .inl (G8 _ _ hrun), .sl st.ents.length,_,bl,_,R,ow',hO,rfl,h.jc,hdd⟩
     ·exact hd.elim
    ·exact hd.elim
  ·exact hd.elim
 ·exact hd.elim
theorem ahF(h:HR P w0 R0 bl vs R ow st.boxes st.ents w)(ht:TR bl vs st.tmps a){neq:Bool}{t u:TypeId}{x y:Operand}(ho:o.op= .binOp (if neq then .neq else .eql) t x y u)(hd:(eNil P st neq t x y k).den):oG P w0 R0 bl vs ow st a w o k:=by
 unfold eNil at hd;have hS:Stp P w0 R0 bl vs ow st bl vs R ow st w:=(Stp.refl h);have hx:=ev_sound ht x;have hy:=ev_sound ht y;have run:∀(e:TypeId)(ad:Option Addr)(n c:Nat),P.underlying t=some (.slice e)->a.eval x= .slice ad n c->a.eval y= .slice none 0 0->(execOp a.eval o).run P w= .ok (.value (.bool (if neq then !ad.isNone else ad.isNone))) w:=by
  intro e ad n c hu hxv hyv;cases neq with
  |false=>simp only[execOp,ho,hxv,hyv,vA,if_false,eqGuard_at_slice,Sem.run_bind,Sem.run_pure,Result.andThen_ok,Lib.run_eql_slice_nil w t e ad n c 0 0 hu]
  |true=>simp only[execOp,ho,hxv,hyv,if_true,eqGuard_at_slice,Sem.run_bind,Sem.run_pure,Result.andThen_ok,run_neq_slice_nil_any w t e ad n c 0 0 hu]
 split at hd
 ·rename_i e id he hxx hyy
  rw[hxx]at hx;rw[hyy]at hy;have hyv:a.eval y= .slice none 0 0:=hy;split at hd
  ·rename_i en hen
   split at hd
   ·rename_i hlive
    simp only[zA,zL]at hlive;obtain⟨hlive,hm⟩:=hlive;have hxs:vs[id]? =some (a.eval x):=hx;obtain⟨v,hv,hc⟩:=h.look.ent id en hen hlive;rw[hxs]at hv;cases hv;obtain⟨ad,cap,hxv,h1,h2,h3,_⟩:=hc.1 hm;have hd:=hd ad.isNone;refine⟨_,w, .inl (run e ad _ _ (elem_inv he) hxv hyv), .blit (if neq then !ad.isNone else ad.isNone),st,bl,vs,R,ow,hS,rfl,rfl, ?_⟩
    cases ad with
    |none=>
     have hd:=hd.1 rfl;have hn:en.s.n=0:=by have:=h3 rfl;omega
     have hd:=hd (by show(Sl.len en.s:Int)<=0;simp[Sl.len,hn]);cases neq<;>exact hd
    |some ad=>
     have hd:=hd.2 (by simp);cases neq<;>exact hd
   ·exact hd.elim
  ·exact hd.elim
 ·rename_i e he hxx hyy
  rw[hxx]at hx;rw[hyy]at hy;have hxv:a.eval x= .slice none 0 0:=hx;have hyv:a.eval y= .slice none 0 0:=hy;refine⟨_,w, .inl (run e none _ _ (elem_inv he) hxv hyv), .blit (!neq),st,bl,vs,R,ow,hS,rfl, ?_,hd⟩
  cases neq<;>rfl
 ·exact hd.elim
theorem Em{i:Int}{f:Nat->Tree (sem T)}:∀{m j:Nat},(pickTree (A:=sem T) i f j m).den->(j:Int)<=i->i<(j:Int)+m->(f i.toNat).den
 |0,j,h,_,_=>h.elim
 |1,j,h,h0,h1=>by
  have:i.toNat=j:=by omega
  rw[this];exact h
 | m+2,j,h,h0,h1=>by
  have h:((i=(j:Int))->(f j).den)/\(¬(i=(j:Int))->(pickTree (A:=sem T) i f (j+1) (m+1)).den):=h;by_cases e:i=(j:Int)
  ·have:i.toNat=j:=by omega
   rw[this];exact h.1 e
  ·exact Em (h.2 e) (by omega) (by omega)
theorem aee(h:HR P w0 R0 bl vs R ow st.boxes st.ents w)(ht:TR bl vs st.tmps a){t:TypeId}{x ix:Operand}(ho:o.op= .index t x ix)(hd:(eIndexAgg P st t x ix k).den):oG P w0 R0 bl vs ow st a w o k:=by
 unfold eIndexAgg at hd;have hx:=ev_sound ht x;have hi:=ev_sound ht ix;split at hd
 ·rename_i n e l kk i hu hxx hii
  rw[hxx]at hx;rw[hii]at hi;obtain⟨q,rfl⟩:∃q:Int,q=i:=⟨i,rfl⟩;obtain⟨cs,hv,hcs⟩:=hx;split at hd
  ·rename_i sz hsz
   split at hd
   ·rename_i hc
    simp only[zA,beq_iff_eq,decide_eq_true_eq]at hc;obtain⟨⟨hlen,hpos⟩,hue⟩:=hc;obtain⟨hns,hd⟩:=lC.1 hd;simp only[zE,z7,or_false,forall_eq_or_imp,forall_eq,sem]at hns;obtain⟨h0,h1⟩:=hns;have hd:=Em hd (by omega) (by omega);have hjn:q.toNat<n:=by omega
    obtain⟨inf,hinf,rfl⟩:=FK hsz;obtain⟨d,hdd⟩:=q9.1 hue;have hl:=hcs.length;have hle:q.toNat*inf.size+inf.size<=l.length:=by
     rw[hlen,<-qV];exact z4 _ hjn
    have hpart:(execOp a.eval o).run P w=((Instr.index t (.agg cs) (.int kk q)).run P w).andThen fun v w=> .ok (.value v) w:=by
     simp only[execOp,ho,hv,hi.1,Sem.run_bind,Sem.run_pure]
    have hidx:(Instr.index t (.agg cs) (.int kk q)).run P w=(part e cs (q.toNat*inf.size)).run P w:=by
     simp only[Instr.index,asIntOf,Sem.run_bind,Sem.run_pure,Result.andThen_ok,run_underlying hu,if_pos (show 0<=q/\q<(n:Int)from⟨h0,h1⟩),run_sizeOf' hinf]
    split at hd
    ·rename_i v hp
     rcases pack_inv hp with⟨ha,rfl⟩|⟨ha,hl1⟩
     ·refine⟨.agg (cs.extract (q.toNat*inf.size) (q.toNat*inf.size+inf.size)),w, .inl ?_, .agg ((l.drop (q.toNat*inf.size)).take inf.size),st,bl,vs,R,ow,Stp.refl h,rfl,⟨_,rfl, ?_⟩,hd⟩
      ·rw[hpart,hidx]
       simp only[part,Sem.run_bind,isAgg_run e hdd,ha,Result.andThen_ok,if_true,run_sizeOf' hinf,Sem.run_pure]
      ·have:=(hcs.drop (q.toNat*inf.size)).take inf.size
       simpa[List.extract_eq_take_drop]using this
     ·have hg:l[q.toNat*inf.size]? =some v:=by
       have:=congrArg (·[0]?) hl1;simp[z1]at this;exact this.2
      obtain⟨y,hy,hs⟩:=hcs.get hg;simp only[qI]at hy;refine⟨y,w, .inl ?_,_,st,bl,vs,R,ow,Stp.refl h,rfl,hs,hd⟩
      rw[hpart,hidx];simp only[part,Sem.run_bind,isAgg_run e hdd,ha,Result.andThen_ok,vA,if_false,hy,Sem.run_pure]
    ·exact hd.elim
   ·exact hd.elim
  ·exact hd.elim
 ·exact hd.elim
theorem XF{b off:Nat}(n:Nat):(⟨b,off,none⟩:Addr).add n=⟨b,off+n,none⟩:=by
 simp[Addr.add_lit]
theorem aef(h:HR P w0 R0 bl vs R ow st.boxes st.ents w)(ht:TR bl vs st.tmps a){t:TypeId}{x ix:Operand}(ho:o.op= .indexAddr t x ix)(hd:(eIndexBox P st t x ix k).den):oG P w0 R0 bl vs ow st a w o k:=by
 unfold eIndexBox at hd;have hx:=ev_sound ht x;have hi:=ev_sound ht ix;split at hd
 ·rename_i n e b off kk i hu hxx hii
  rw[hxx]at hx;rw[hii]at hi;obtain⟨q,rfl⟩:∃q:Int,q=i:=⟨i,rfl⟩;obtain⟨b',hb',hv⟩:=hx;split at hd
  ·rename_i sz hsz
   split at hd
   ·obtain⟨hns,hd⟩:=lC.1 hd
    simp only[zE,z7,or_false,forall_eq_or_imp,forall_eq,sem]at hns;obtain⟨h0,h1⟩:=hns;have hd:=Em hd (by omega) (by omega);obtain⟨inf,hinf,rfl⟩:=FK hsz;refine⟨.pointer (some ⟨b',off+q.toNat*inf.size,none⟩),w, .inl ?_, .ptr b (off+q.toNat*inf.size),st,bl,vs,R,ow,Stp.refl h,rfl,⟨b',hb',rfl⟩,hd⟩
    simp only[execOp,ho,hv,hi.1,Sem.run_bind,Instr.indexAt,Instr.sureAddr,asIntOf,Sem.run_pure,Result.andThen_ok,run_underlying hu,Sem.run_ite,h0,h1,and_self,if_true,run_sizeOf' hinf,XF]
   ·exact hd.elim
  ·exact hd.elim
 ·exact hd.elim
theorem aeg(h:HR P w0 R0 bl vs R ow st.boxes st.ents w)(ht:TR bl vs st.tmps a){t:TypeId}{x ix:Operand}(ho:o.op= .indexAddr t x ix)(hd:(eIndexFns P st t x ix k).den):oG P w0 R0 bl vs ow st a w o k:=by
 unfold eIndexFns at hd;have hx:=ev_sound ht x;have hi:=ev_sound ht ix;split at hd
 ·rename_i e b n kk i hu hxx hii
  rw[hxx]at hx;rw[hii]at hi;obtain⟨q,rfl⟩:∃q:Int,q=i:=⟨i,rfl⟩;obtain⟨b',hb',hv⟩:=hx;split at hd
  ·rename_i sz hsz
   obtain⟨hns,hd⟩:=lC.1 hd;simp only[zE,z7,or_false,forall_eq_or_imp,forall_eq,sem]at hns;obtain⟨h0,h1⟩:=hns;have hd:=Em hd (by omega) (by omega);obtain⟨inf,hinf,hone⟩:=FK hsz;have hq:(⟨b',0,none⟩:Addr).add (q.toNat*inf.size)=⟨b',q.toNat*sz,none⟩:=by rw[XF,hone];simp
   refine⟨.pointer (some ⟨b',q.toNat*sz,none⟩),w, .inl ?_, .ptr b (q.toNat*sz),st,bl,vs,R,ow,Stp.refl h,rfl,⟨b',hb',rfl⟩,hd⟩
   simp only[execOp,ho,hv,hi.1,Sem.run_bind,Instr.indexAt,Instr.sureAddr,asIntOf,Sem.run_pure,Result.andThen_ok,run_underlying (elem_inv hu),Sem.run_ite,h0,h1,and_self,if_true,run_sizeOf' hinf,hq]
  ·exact hd.elim
 ·exact hd.elim
theorem flat_get{α β:Type}{f:α->List β}{L:Nat}:∀{l:List α}{i:Nat}{y:β},(∀p∈l,(f p).length=L)->(l.flatMap f)[i]? =some y->∃j q p,i=j*L+q/\q<L/\l[j]? =some p/\(f p)[q]? =some y
 |[],i,y,_,h=>by simp at h
 | p::l,i,y,hl,h=>by
  have hp:=hl p (by simp);by_cases c:i<L
  ·refine⟨0,i,p,by simp,c,rfl, ?_⟩
   rw[v6,z5 (by omega)]at h;exact h
  ·rw[v6,z9 (by omega),hp]at h
   obtain⟨j,q,p',h1,h2,h3,h4⟩:=flat_get (fun p' hp'=>hl p' (by simp[hp'])) h
   exact⟨j+1,q,p',by rw[qV];omega,h2,by simpa using h3,h4⟩
theorem aeh{α β:Type}{f:α->List β}{L:Nat}:∀{l:List α},(∀p∈l,(f p).length=L)->(l.flatMap f).length=l.length*L
 |[],_=>by simp
 |p::l,hl=>by
  rw[v6,vF,hl p (by simp),aeh (fun p' hp'=>hl p' (by simp[hp'])),qG,qV]
  omega
theorem aei(h:HR P w0 R0 bl vs R ow st.boxes st.ents w)(ht:TR bl vs st.tmps a){t:TypeId}{len:Nat}{parts:Array (Nat×Operand)}(ho:o.op= .buildSlice t len parts)(hd:(eBuildFns P st t len parts k).den):oG P w0 R0 bl vs ow st a w o k:=by
 unfold eBuildFns at hd;split at hd
 ·rename_i e he
  split at hd
  ·rename_i sz z hsz hz
   split at hd
   ·rename_i hc
    simp only[zA,beq_iff_eq,decide_eq_true_eq,List.all_eq_true]at hc;obtain⟨⟨hidx,hpos,hsmall⟩,hfn⟩:=hc;obtain⟨i,hi,hone⟩:=FK hsz;have hzv:i.zero=some z:=by rw[hi]at hz;exact hz
    have hlen':parts.toList.length=len:=by
     have:=congrArg vH hidx;simpa using this
    have hcell:∀p∈parts.toList,SVRs bl vs (cellsOf (st.ev p.2)) (a.eval p.2).cells.toList:=fun p hp=>cells_sound h.vsl (ev_sound ht p.2) (List.all_eq_true.2 (hfn p hp).2)
    have hsize:∀p∈parts.toList,(a.eval p.2).cells.size=sz:=fun p hp=>by
     have:=(hcell p hp).length;rw[(hfn p hp).1]at this;simpa using this.symm
    have hpl:((parts.map fun p=>(p.1,a.eval p.2)).toList).map (·.1)=qM 0 ((parts.map fun p=>(p.1,a.eval p.2)).toList).length:=by
     simp only[q7,q6,q3,hlen'];rw[<-v9,<-hidx];rfl
    obtain⟨cs,f1,f2,_,f4⟩:=TB (L:=sz) (len:=len) ((parts.map fun p=>(p.1,a.eval p.2)).toList) 0 ((Array.range (len*sz)).map ((if len*sz=0 then #[]else z.cells)[· % (if len*sz=0 then #[]else z.cells).size]!)) hpl (by simp at hlen'⊢;omega) (by simp) (fun p hp=>by
     simp only[q7,List.mem_map]at hp;obtain⟨q,hq,rfl⟩:=hp;exact hsize q hq)
    have hcs:SVRs bl vs (parts.toList.flatMap fun p=>cellsOf (st.ev p.2)) cs.toList:=by
     have hfl:∀p∈parts.toList,(cellsOf (st.ev p.2)).length=sz:=fun p hp=>(hfn p hp).1
     refine SVRs.of_get (by rw[aeh hfl,hlen'];simp[f2]) fun j x y hx hy=> ?_
     obtain⟨r,q,p,e1,hq,hp,hxq⟩:=flat_get hfl hx;have hm:p∈parts.toList:=wC hp;obtain⟨y',hy',hxy⟩:=(hcell p hm).get hxq;have:=f4 r (p.1,a.eval p.2) (by simp at hp;simp[hp]) q hq;rw[z0,<-e1]at this;rw[qI,this]at hy;rw[qI]at hy';rw[hy']at hy;cases hy
     exact hxy
    refine⟨.slice (some ⟨w.heap.size,0,none⟩) len len,w.alloc (.cells cs e), .inl ?_, .bsl st.boxes.length len,_,_,_,_,_,h.ad9 (ty:=e) hcs,rfl,⟨w.heap.size, ?_,rfl⟩,hd⟩
    ·have hsm:¬len*sz>2^24:=by omega
     have hnz:¬len*sz=0:=by omega
     simp only[hnz,if_false]at f1;have hpp:(Array.map (fun x=>(x.1,a.eval x.2)) parts).toList=(parts.map fun p=>(p.1,a.eval p.2)).toList:=rfl
     simp only[execOp,ho,Instr.buildSlice,Sem.run_bind,run_underlying (elem_inv he),Result.andThen_ok,run_sizeOf' hi,hone,if_neg hsm,hnz,if_false,run_zero hi hzv,Sem.run_pure,hpp,f1,newRow,run_newObj];rfl
    ·rw[<-h.nb];exact Vz
   ·exact hd.elim
  ·exact hd.elim
 ·exact hd.elim
theorem TG(hl:HR P w0 R0 bl vs R ow st.boxes st.ents w){ks:List K}:∀{n:Nat}{s:List (SV (sem T))}{rows:List (List CS)},rowsCl st.ents ks n s=some rows->∀{v:List Value},SVRs bl vs s v->
  rows.length=n/\∀(p q:Nat)(kk:K),p<n->ks[q]? =some kk->∃u,v[p*ks.length+q]? =some u/\Rd P w R (((rows.map fun c=>c.map Cl.toD).getD p []).getD q (.int 0)) kk u
 |0,s,rows,h,v,hs=>by
  simp only[rowsCl,Option.some.injEq]at h;subst h;exact⟨rfl,fun p q kk hp=>absurd hp (q0 _)⟩
 | n +1,s,rows,h,v,hs=>by
  simp only[rowsCl]at h;split at h
  ·rename_i c cs hc hcs
   cases h
   obtain⟨l1,l2,h1⟩:=yB hl hc (hs.take ks.length);obtain⟨l3,h3⟩:=TG hl hcs (hs.drop ks.length);refine⟨by simp[l3],fun p q kk hp hq=> ?_⟩
   have azP:q<ks.length:=(zR.1 hq).1;cases p with
   | zero=>
    obtain⟨c0,u,g1,g2,g3⟩:=h1 q kk hq;refine⟨u, ?_, ?_⟩
    ·rw[z1,if_pos azP]at g2
     simpa using g2
    ·have:((((c::cs).map fun c=>c.map Cl.toD).getD 0 []).getD q (.int 0))=c0.toD:=by
      simp[qE,g1]
     rw[this];exact g3
   | succ p=>
    obtain⟨u,g1,g2⟩:=h3 p q kk (by omega) hq;refine⟨u, ?_, ?_⟩
    ·rw[q4]at g1
     rw[show(p+1)*ks.length+q=ks.length+(p*ks.length+q) by rw[qV];omega];exact g1
    ·simpa[qE]using g2
  ·cases h
theorem HR.ato(h:HR P w0 R0 bl vs R ow st.boxes st.ents w){i b:Nat}{bx:Box (sem T)}{cs:Array Value}(hi:st.boxes[i]? =some bx)(hl:bx.live=true)
  (hb:bl[i]? =some b) (ho:ow b=some (.box i)) (hw:w.heap[b]? =some (.cells cs bx.ty (0,0))):
  Stp P w0 R0 bl vs ow st bl vs (fun x=>R x\/x=b) (setOw ow b none) {st with boxes:=st.boxes.set i {bx with live:=false,ver:=bx.ver+1}} w where
 bl:=fun _ _ x=>x
 vs:=fun _ _ x=>x
 ext:=Ext.of_set_box (i:=i) (bx:={bx with live:=false,ver:=bx.ver+1}) rfl rfl (fun b0 h0=>by rw[hi]at h0;cases h0;exact⟨by simp,rfl⟩)
 mrk:=fun x hx=>by rw[setOw_ne (fun e=>by rw[e,ho]at hx;cases hx)];exact hx
 hr :={
  below:=h.below
  rlt:=fun x hx=>hx.elim (h.rlt x) (fun e=>by subst e;exact(h.olt _ _ ho).2)
  r0:=fun x hx=> .inl (h.r0 x hx)
  rsub:=fun x hx=>hx.elim (h.rsub x) (fun e=>by subst e;exact .inr (h.olt _ _ ho).1)
  ro:=fun x hx=>by
   by_cases e:x=b
   ·subst e;exact setOw_eq
   ·rw[setOw_ne e];exact h.ro x (hx.resolve_right e)
  olt:=fun x q hx=>by
   by_cases e:x=b
   ·subst e;rw[setOw_eq]at hx;cases hx
   ·rw[setOw_ne e]at hx;exact h.olt x q hx
  nb:=by simp[h.nb]
  nv:=h.nv
  vsl:=h.vsl
  glb:=h.glb
  box:=fun j bj hj hlj=>by
   rcases get_set_inv hj with⟨rfl,rfl⟩|⟨hne,hj⟩
   ·cases hlj
   ·obtain⟨b2,cs2,h1,h2,h3,h4⟩:=h.box j bj hj hlj
    have hne2:b2≠b:=fun e=>by rw[e,ho]at h2;cases h2;exact hne rfl
    exact⟨b2,cs2,h1,by rw[setOw_ne hne2];exact h2,h3,h4⟩
  ent:=fun j e hj hlj=>by
   obtain⟨u,hu,h1,h2⟩:=h.ent j e hj hlj;refine⟨u,hu,fun hh=>(h1 hh).mono (fun _ x=> .inl x) (fun _ _=>rfl),fun hh=>(h2 hh).mono (fun _ x=> .inl x) (fun _ _=>rfl) (fun x hx=>⟨?_,rfl⟩)⟩
   rw[setOw_ne (fun e=>by rw[e,ho]at hx;cases hx)];exact hx
  mrk:=fun x hx=>by
   by_cases e:x=b
   ·subst e;rw[setOw_eq]at hx;cases hx
   ·rw[setOw_ne e]at hx;exact h.mrk x hx
  lp:=fun j L hj=>by
   obtain⟨bj,x,g1,g2,g3,g4,g5⟩:=h.lp j L hj;have hne:j≠i:=fun e=>by rw[e,hi]at g1;cases g1;rw[hl]at g2;cases g2
   have hxb:x≠b:=fun e=>by rw[e,ho]at g4;cases g4;exact hne rfl
   exact⟨bj,x,by simp only;rw[v7 (fun e=>hne e.symm)];exact g1,g2,g3,by rw[setOw_ne hxb];exact g4,g5⟩}
theorem Y4{t e:TypeId}{n:Nat}{i:TypeInfo}(hu:P.underlying t=some (.array n e))(hi:P.info? e=some i){b:Nat}{lo hi':Option Value}{l h:Int}
  (hlo:(lo=none/\l=0)\/∃k,lo=some (.int k l)) (hhi:(hi'=none/\h=(n:Int))\/∃k,hi'=some (.int k h)) (h0:0<=l) (h1:l<=h) (h2:h<=n):
  (Instr.sliceAt t (.pointer (some ⟨b,0,none⟩)) lo hi' none).run P w= .ok (slicedAt ⟨b,0,none⟩ l.toNat h.toNat n i.size) w:=by
 have hE:P.elem t=e:=by simp[Program.elem,hu]
 have hL:P.arrayLen t=n:=by simp[Program.arrayLen,hu]
 have ht:P.underlying t=some (.array (P.arrayLen t) (P.elem t)):=by rw[hE,hL];exact hu
 have hsz:(sizeOf (P.elem t)).run P w= .ok i.size w:=by rw[hE];exact run_sizeOf' hi
 rcases hlo with⟨rfl,rfl⟩|⟨k1,rfl⟩<;>rcases hhi with⟨rfl,rfl⟩|⟨k2,rfl⟩
 ·rw[run_sliceAt_array_all (ht:=ht),hsz,hL];simp
 ·rw[run_sliceAt_array_h (ht:=ht) (h0:=by omega) (h2:=by rw[hL];exact h2),hsz,hL];simp
 ·rw[run_sliceAt_array_l (ht:=ht) (h0:=h0) (h1:=by rw[hL];omega),hsz,hL];simp
 ·rw[run_sliceAt_array_lh (ht:=ht) (h0:=h0) (h1:=h1) (h2:=by rw[hL];exact h2),hsz,hL];simp
theorem aej(h:HR P w0 R0 bl vs R ow st.boxes st.ents w)(ht:TR bl vs st.tmps a){t:TypeId}{x:Operand}{lo hi mx:Option Operand}(ho:o.op= .slice t x lo hi mx)(hd:(eSliceBox P st t x lo hi mx k).den):oG P w0 R0 bl vs ow st a w o k:=by
 unfold eSliceBox at hd;have hx:=ev_sound ht x;split at hd
 ·rename_i n e b hu hxx
  rw[hxx]at hx;obtain⟨b',hb',hv⟩:=hx;split at hd
  ·rename_i bx ks hbx hks
   split at hd
   ·rename_i hc
    simp only[zA,beq_iff_eq,decide_eq_true_eq]at hc;obtain⟨⟨⟨⟨hlive,hlen⟩,hpos⟩,hty⟩,aBj⟩:=hc;split at hd
    ·rename_i rows l h' hrows hl hh
     obtain⟨l',rfl⟩:∃i':Int,i'=l:=⟨l,rfl⟩;obtain⟨h'',rfl⟩:∃i':Int,i'=h':=⟨h',rfl⟩;have hlo:(lo.map a.eval=none/\l'=0)\/∃k,lo.map a.eval=some (.int k l'):=by
      cases lo with
      |none=>left;simp only[Option.some.injEq]at hl;exact⟨rfl,hl.symm⟩
      | some lx=>
       right
       have hlx:=ev_sound ht lx;simp only at hl;split at hl
       ·rename_i k y hy
        rw[hy]at hlx;cases hl
        exact⟨k,congrArg some hlx.1⟩
       ·cases hl
     have hhi:(hi.map a.eval=none/\h''=(n:Int))\/∃k,hi.map a.eval=some (.int k h''):=by
      cases hi with
      |none=>left;simp only[Option.some.injEq]at hh;exact⟨rfl,hh.symm⟩
      | some hx'=>
       right
       have hlx:=ev_sound ht hx';simp only at hh;split at hh
       ·rename_i k y hy
        rw[hy]at hlx;cases hh
        exact⟨k,congrArg some hlx.1⟩
       ·cases hh
     obtain⟨hns,hd⟩:=lC.1 hd;simp only[zE,z7,or_false,forall_eq_or_imp,forall_eq,sem]at hns;obtain⟨h0,h1,h2⟩:=hns;obtain⟨i,hinfo,hsz,_⟩:=kinds_inv hks;obtain⟨b2,cs,g1,g2,g3,g4⟩:=h.box b bx hbx hlive;rw[hb']at g1;cases g1;obtain⟨r1,r2⟩:=TG h hrows g4;have hG:=h.ato hbx hlive hb' g2 g3;have hrun:(execOp a.eval o).run P w= .ok (.value (slicedAt ⟨b',0,none⟩ l'.toNat h''.toNat n i.size)) w:=by
      simp only[execOp,ho,hv,qX,Sem.run_bind,Y4 hu hinfo hlo hhi h0 h1 h2,Result.andThen_ok,Sem.run_pure]
     have hrd:Rd P w (fun x=>R x\/x=b') (.sl (zP (z2 (rows.map fun c=>c.map Cl.toD)) l' h'').n (zP (z2 (rows.map fun c=>c.map Cl.toD)) l' h'').f) (.sl e) (slicedAt ⟨b',0,none⟩ l'.toNat h''.toNat n i.size):=by
      refine⟨e,some (if n=l'.toNat then(⟨b',0,none⟩:Addr)else(⟨b',0,none⟩:Addr).add (l'.toNat*i.size)),n-l'.toNat,rfl, ?_, ?_, ?_,(fun hn=>by cases hn),fun ks2 p q kk hk2 hp hq=> ?_⟩
      ·show _=Value.slice _ (h''-l').toNat _
       simp only[slicedAt]
       congr 1
       omega
      ·show(h''-l').toNat<=_;omega
      ·unfold maxLen;omega
      ·rw[hks]at hk2;cases hk2
       have hp:p<(h''-l').toNat:=hp;obtain⟨u,u1,u2⟩:=r2 (l'.toNat+p) q kk (by omega) hq;refine⟨_,u,rfl, ?_, ?_, ?_, ?_⟩
       ·split<;>simp[Addr.add_lit]
       ·right
        split<;>simp[Addr.add_lit]
       ·have:(if n=l'.toNat then(⟨b',0,none⟩:Addr)else(⟨b',0,none⟩:Addr).add (l'.toNat*i.size))=⟨b',l'.toNat*i.size,none⟩:=by
         rw[if_neg (by omega),XF];simp
        simp only[this];rw[World.cell?];simp only[g3];have e1:l'.toNat*i.size+(p*ks.length+q)=(l'.toNat+p)*ks.length+q:=by rw[hsz,zG];omega
        rw[e1];simpa using u1
       ·exact u2.mono (fun _ x=> .inl x) (fun _ _=>rfl)
     have hS2:=hG.hr.YZ hrd;exact⟨_,w, .inl hrun, .sl st.ents.length,_,bl,_,_,_,hG.trans hS2,rfl,h.jc,hd⟩
    ·exact hd.elim
   ·exact hd.elim
  ·exact hd.elim
 ·exact hd.elim
def G9(w:World)(b:Nat)(o:Obj):World:={w with heap:=w.heap.setIfInBounds b o}
theorem tX(w:World)(b x:Nat)(o:Obj)(h:x≠b):(G9 w b o).heap[x]? =w.heap[x]? :=by
 show(w.heap.setIfInBounds b o)[x]? =_;rw[wD,if_neg (fun e=>h e.symm)]
theorem ag2{w:World}{b:Nat}{o o':Obj}(h:w.heap[b]? =some o'):(G9 w b o).heap[b]? =some o:=by
 have hlt:b<w.heap.size:=(wE.1 h).1;show(w.heap.setIfInBounds b o)[b]? =_;rw[wD,if_pos rfl,if_pos hlt]
theorem NR(w:World)(b:Nat)(o:Obj):(G9 w b o).heap.size=w.heap.size:=by
 show(w.heap.setIfInBounds b o).size=_;simp
theorem HR.alI(h:HR P w0 R0 bl vs R ow st.boxes st.ents w){id b:Nat}{en:Ent (sem T)}{o':Obj}{es':Array MapEntry}{clock':Nat}{s':Sl}{ver:Nat}{ik:IntKind}{kt e:TypeId}(hi:st.ents[id]? =some en)
  (hown:en.own=true) (hm:isM en.elem=true) (hv:vs[id]? =some (.map (some b))) (ho:ow b=some (.ent id)) (hw:w.heap[b]? =some o')
  (KR:en.ver<ver) (hu:P.underlying (unM en.elem)=some (.map kt e)) (hk:P.underlying kt=some (.int ik)) (hc:MapRel P w R ik e s' es'):
  Stp P w0 R0 bl vs ow st bl vs R ow {st with ents:=st.ents.set id {en with s:=s',ver:=ver}} (G9 w b (.map es' clock')) where
 bl:=fun _ _ x=>x
 vs:=fun _ _ x=>x
 ext:=Ext.of_set_ent (i:=id) (bx:={en with s:=s',ver:=ver}) rfl rfl (fun b0 h0=>by rw[hi]at h0;cases h0;exact KR)
 mrk:=fun _ x=>x
 hr :=by
  have hR:∀x,R x->(G9 w b (.map es' clock')).heap[x]? =w.heap[x]? :=fun x hx=>tX w b x _ (fun e=>by rw[e]at hx;rw[h.ro b hx]at ho;cases ho)
  exact{
  below:=h.below.trans ⟨rfl,rfl,rfl,by rw[NR];exact zF _,fun x hx=>tX w b x _ (fun e=>by have:=(h.olt b _ ho).1;omega)⟩
  rlt:=fun x hx=>by rw[NR];exact h.rlt x hx
  r0:=h.r0
  rsub:=h.rsub
  ro:=h.ro
  olt:=fun x q hx=>by rw[NR];exact h.olt x q hx
  nb:=h.nb
  nv:=by simp[h.nv]
  vsl:=h.vsl
  glb:=h.glb
  box:=fun j bj hj hlj=>by
   obtain⟨b2,cs2,h1,h2,h3,h4⟩:=h.box j bj hj hlj;have hne2:b2≠b:=fun e=>by rw[e,ho]at h2;cases h2
   exact⟨b2,cs2,h1,h2,(tX w b b2 _ hne2).trans h3,h4⟩
  ent:=fun j e' hj hlj=>by
   rcases get_set_inv hj with⟨rfl,rfl⟩|⟨hne,hj⟩
   ·refine⟨_,hv,(fun hh=>by rw[hown]at hh;cases hh),fun _=>⟨fun hh=>absurd (hh.symm.trans hm) vD,fun _=>⟨b,rfl,ho,es',clock',ik,kt,e,ag2 hw,hu,hk,hc.mono (fun _ x=>x) hR⟩⟩⟩
   ·obtain⟨u,hu,h1,h2⟩:=h.ent j e' hj hlj
    exact⟨u,hu,fun hown=>(h1 hown).mono (fun _ x=>x) hR,fun hown=>(h2 hown).mono (fun _ x=>x) hR (fun x hx=>⟨hx,tX w b x _ (fun e=>by rw[e,ho]at hx;cases hx;exact hne rfl)⟩)⟩
  mrk:=fun x hx=>(tX w b x _ (fun e=>by rw[e,ho]at hx;cases hx)).trans (h.mrk x hx)
  lp:=fun j L hj=>by
   obtain⟨bj,x,g1,g2,g3,g4,g5⟩:=h.lp j L hj;have hxb:x≠b:=fun e=>by rw[e,ho]at g4;cases g4
   exact⟨bj,x,g1,g2,g3,g4,g5.mono (tX w b x _ hxb) (fun _ _ x=>x) (fun _ _ x=>x)⟩}
theorem aek(h:HR P w0 R0 bl vs R ow st.boxes st.ents w){t:TypeId}{ik:IntKind}{kt e:TypeId}(hu:P.underlying t=some (.map kt e))(hk:P.underlying kt=some (.int ik)):
  ∃ow',Stp P w0 R0 bl vs ow st bl (vs++[.map (some w.heap.size)]) R ow' (addEnt st (mapT t) zC true) (w.alloc (.map #[] 0)):=by
 have hb:Below w.heap.size w (w.alloc (.map #[] 0)):=(Below.refl _ _).alloc (zF _) _;have hg:=h.grow hb;have hO:Own P (w.alloc (.map #[] 0)) R (setOw ow w.heap.size (some (.ent st.ents.length))) st.ents.length (mapT t) zC (.map (some w.heap.size)):=by
  refine⟨fun hh=>absurd (hh.symm.trans (isM_mapT t)) vD,fun _=>⟨w.heap.size,rfl,setOw_eq, ?_⟩⟩
  rw[mapT_sub];exact⟨#[],0,ik,kt,e,heap_alloc_new w _,hu,hk,by simp,fun n=>trivial⟩
 obtain⟨hP,hmk⟩:=hg.pushOwnB (e:=mapT t) (s:=zC) (v:= .map (some w.heap.size)) (b:=w.heap.size) h.below.size (by show _<(w.heap.push _).size;simp) h.LZ
  (fun i hh=>by rw[h.jA]at hh;cases hh) (fun _ _ hh=>by rw[h.jA]at hh;cases hh) (fun i en hh=>by rw[h.jA]at hh;cases hh) hO
 exact⟨_,hP,fun _ _ x=>x,fun _ _=>get_append_lt,Ext.of_append (nb:=[]) (ne:=[⟨mapT t,zC,true,true,0⟩]) (by simp[addEnt]) rfl,fun x hx=>hmk x hx⟩
theorem ag3(h:HR P w0 R0 bl vs R ow st.boxes st.ents w){t:TypeId}{r:Option Operand}(ho:o.op= .makeMap t r)(hd:(eMakeMap P st t r k).den):oG P w0 R0 bl vs ow st a w o k:=by
 unfold eMakeMap at hd;split at hd
 ·rename_i ik e ks hsh
  obtain⟨kt,hu,hk,hks⟩:=mapShape_inv hsh;obtain⟨ow',hS⟩:=aek h hu hk;refine⟨.map (some w.heap.size),w.alloc (.map #[] 0), .inl ?_, .sl st.ents.length,_,bl,_,R,ow',hS,rfl,h.jc,hd⟩
  simp only[execOp,ho,qX,Sem.run_bind];rfl
 ·exact hd.elim
theorem ajl(h:HR P w0 R0 bl vs R ow st.boxes st.ents w)(ht:TR bl vs st.tmps a){t:TypeId}{x ix:Operand}{ok:Bool}(ho:o.op= .lookup t x ix ok)(hd:(eLookup P st t x ix ok k).den):oG P w0 R0 bl vs ow st a w o k:=by
 unfold eLookup at hd;have hx:=ev_sound ht x;have hi:=ev_sound ht ix;split at hd
 ·rename_i ik e ks id en k' i hsh hme hii
  obtain⟨kt,hu,hk,hks⟩:=mapShape_inv hsh;obtain⟨hxx,hen,hlive,hown,hel⟩:=mapEnt_inv hme;rw[hxx]at hx;rw[hii]at hi;split at hd
  ·rename_i hkk
   simp only[zA,beq_iff_eq]at hkk;obtain⟨rfl,hag⟩:=hkk;split at hd
   ·rename_i z hz
    simp only at hd;split at hd
    ·rename_i sv hp
     obtain⟨v0,hv0,hcc⟩:=h.look.ent id en hen hlive;have hx:vs[id]? =some (a.eval x):=hx;rw[hx]at hv0;cases hv0;obtain⟨b,hb,hmc⟩:=hcc.2 (by rw[hel];exact isM_mapT t) hown;rw[hel,mapT_sub]at hmc;obtain⟨zv,hzr,hze⟩:=zeroElem (w:=w) (R:=R) hz hks hag;obtain⟨v,hv,hrun⟩:=run_lookup_map hu hk (s:=en.s) (i:=i) hmc hzr hze;have hsz:=(hv ks hks).1;obtain⟨vs',g1,g2,g3,g4⟩:=zU (rg:=st.rg) (T:=T) (P:=P) (w:=w) (R:=R) (s:=Sl.mget en.s i (z.map Cl.toD)) (i:=0) (f:=fun j=>v.cells.getD j undef) (ks:=ks) (j:=0) h (fun m kk hm=>by
      obtain⟨u,hu1,hu2⟩:=(hv ks hks).2.2.2 m kk hm;simp only[z0,Array.getD_eq_getD_getElem?,hu1,qT];exact hu2)
     rw[cells_range hsz]at g3;refine⟨_,w, .inl ?_,_,_,bl,vs',R,ow,g1,g2,lookV_sound (elem_pack hv hks hp g3) _ ok,(Ee.1 hd) g4⟩
     simp only[execOp,ho,hb,hi.1,hrun ok,Sem.run_bind,Sem.run_pure,Result.andThen_ok]
    ·exact hd.elim
   ·exact hd.elim
  ·exact hd.elim
 ·exact hd.elim
theorem aaB{t kt e:TypeId}{ik:IntKind}(hu:P.underlying t=some (.map kt e))(hk:P.underlying kt=some (.int ik)){b:Nat}{s:Sl}(hc:MapC P w R t s b){i:Int}{cs:List D}{val:Value}
  (hv:Elem P w R e (fun j=>cs.getD j (.int 0)) val):
  ∃es' clock',(Instr.mapUpdate t (.map (some b)) (.int ik i) val).run P w= .ok () (G9 w b (.map es' clock'))/\MapRel P w R ik e (z3 s i cs) es'/\∃o',w.heap[b]? =some o':=by
 obtain⟨es,clock,ik',kt',e',hb,hu',hk',hrel⟩:=hc;rw[hu]at hu';cases hu';rw[hk]at hk';cases hk';have hob:(getObj b).run P w= .ok (.map es clock) w:=by simp[getObj,Sem.run,hb]
 have hset:∀o',(setObj b o').run P w= .ok () (G9 w b o'):=fun o'=>by simp[setObj,Sem.run,hb,G9]
 have hck:(Instr.checkKey false 10000 kt (.int ik i)).run P w= .ok () w:=by
  unfold Instr.checkKey;simp only[Sem.run_bind,run_underlying hk,Result.andThen_ok,Sem.run_pure]
 have hfk:(Instr.findKey kt (.int ik i) es.toList).run P w= .ok (mfirst i es.toList 0) w:=by
  unfold Instr.findKey;simp only[Sem.run_bind,run_underlying hk,Result.andThen_ok,findNow_ints es.toList 0 hrel.1,Sem.run_pure]
 have hnew:Elem P w R e (fun j=>(z3 s i cs).f s.n (j+1)) val:=by
  have:(fun j=>(z3 s i cs).f s.n (j+1))=fun j=>cs.getD j (.int 0):=funext fun j=>by rw[mset_new];rfl
  rw[this];exact hv
 have hold:∀(n:Int)(l':List MapEntry),(mfirst n l' 0=if n=i then some ((mfirst n l' 0).getD (0,val))else mfirst n es.toList 0)->(n=i->((mfirst n l' 0).getD (0,val)).2=val)->mapAgree P w R e (z3 s i cs) (mfirst n l' 0) ((z3 s i cs).mfind n (z3 s i cs).n):=by
  intro n l' h1 h2;rw[mfind_mset];by_cases e1:n=i
  ·rw[if_pos e1]at h1
   rw[if_pos e1,h1];generalize(mfirst n l' 0).getD (0,val)=q at h2;have:=h2 e1;obtain⟨q1,q2⟩:=q;simp only at this;subst this;exact hnew
  ·rw[if_neg e1]at h1
   rw[if_neg e1,h1];have:=hrel.2 n;generalize mfirst n es.toList 0=fa at this;cases fa with
   |none=>
    cases hfb:s.mfind n s.n with
    |none=>trivial
    |some q=>rw[hfb]at this;exact this.elim
   | some x=>
    cases hfb:s.mfind n s.n with
    |none=>rw[hfb]at this;exact this.elim
    |some q=>
     rw[hfb]at this;have hlt:=mfind_lt hfb;have e2:(fun j=>(z3 s i cs).f q (j+1))=fun j=>s.f q (j+1):=funext fun j=>mset_old hlt
     show Elem P w R e (fun j=>(z3 s i cs).f q (j+1)) x.2
     rw[e2];exact this
 cases hfa:mfirst i es.toList 0 with
 | none=>
  refine⟨es.push {key:= .int ik i,val:=val,born:=clock},clock+1, ?_,⟨?_,fun n=> ?_⟩,_,hb⟩
  ·rw[hfa]at hfk
   simp only[Instr.mapUpdate,Sem.run_bind,run_underlying hu,hob,hck,hfk,Result.andThen_ok,hset]
  ·intro x hx
   simp only[Array.toList_push,List.mem_append,List.mem_singleton]at hx;rcases hx with hx|rfl
   ·exact hrel.1 x hx
   ·exact⟨i,rfl⟩
  ·rw[Array.toList_push]
   refine hold n _ ?_ ?_
   ·rw[mfirst_app]
    by_cases e1:n=i
    ·subst e1;rw[hfa];simp[keyI]
    ·rw[if_neg e1]
     cases mfirst n es.toList 0 with
     |none=>simp[keyI,e1]
     |some r=>rfl
   ·intro e1
    subst e1;rw[mfirst_app,hfa];simp[keyI]
 | some r=>
  obtain⟨q,v0⟩:=r;obtain⟨m,x,h1,h2,h3⟩:=mfirst_some _ _ _ _ hfa;have hqm:q=m:=by omega
  subst hqm;obtain⟨n0,hn0⟩:=hrel.1 x (wC h2);have hxk:x.key= .int ik i:=by
   rw[hn0]at h3⊢;have:n0=i:=h3;rw[this]
  have hx2:es[q]? =some x:=by simpa using h2
  have hlt:q<es.size:=(wE.1 hx2).1;have hml:(es.modify q fun e=>{e with key:= .int ik i,val:=val}).toList=es.toList.set q {x with key:= .int ik i,val:=val}:=by
   apply List.ext_getElem?;intro j;rw[qI,Array.getElem?_modify,List.getElem?_set,zH];by_cases e1:q=j
   ·subst e1
    rw[if_pos rfl,if_pos rfl,if_pos hlt,hx2];rfl
   ·rw[if_neg e1,if_neg e1,qI]
  have ay9:(Instr.keyThatStays x.key (.int ik i)).run P w= .ok (.int ik i) w:=by
   rw[hxk];simp[Instr.keyThatStays,Instr.sameBits]
  refine⟨es.modify q fun e=>{e with key:= .int ik i,val:=val},clock, ?_,⟨?_,fun n=> ?_⟩,_,hb⟩
  ·rw[hfa]at hfk
   simp only[Instr.mapUpdate,Sem.run_bind,run_underlying hu,hob,hck,hfk,Result.andThen_ok,hx2,qJ,qT,ay9,hset]
  ·intro y hy
   rw[hml]at hy;rcases List.mem_or_eq_of_mem_set hy with hy|rfl
   ·exact hrel.1 y hy
   ·exact⟨i,rfl⟩
  ·rw[hml]
   have hs:=mfirst_set (n:=i) (n':=n) (y:={x with key:= .int ik i,val:=val}) rfl es.toList 0 q v0 (by rw[hfa,z0]);refine hold n _ ?_ ?_
   ·rw[hs]
    by_cases e1:n=i
    ·rw[if_pos e1,if_pos e1];rfl
    ·rw[if_neg e1,if_neg e1]
   ·intro e1
    rw[hs,if_pos e1];rfl
theorem Sj(h:HR P w0 R0 bl vs R ow st.boxes st.ents w)(ht:TR bl vs st.tmps a){t:TypeId}{m x v:Operand}(ho:o.op= .mapUpdate t m x v\/o.op= .insert t m x v)(hd:(eMapUpdate P st t m x v k).den):oG P w0 R0 bl vs ow st a w o k:=by
 unfold eMapUpdate at hd;have hx:=ev_sound ht m;have hi:=ev_sound ht x;split at hd
 ·rename_i ik e ks id en k' i hsh hme hii
  obtain⟨kt,hu,hk,hks⟩:=mapShape_inv hsh;obtain⟨hxx,hen,hlive,hown,hel⟩:=mapEnt_inv hme;rw[hxx]at hx;rw[hii]at hi;obtain⟨i',rfl⟩:∃i':Int,i'=i:=⟨i,rfl⟩;split at hd
  ·rename_i hkk
   simp only[zA,beq_iff_eq]at hkk;obtain⟨rfl,hag⟩:=hkk;split at hd
   ·rename_i cls en' hcls hen'
    split at hd
    ·rename_i KR
     have KR:en'.ver=en.ver:=by simpa using KR
     obtain⟨R1,ow1,hS,G5,hbx,hlen⟩:=h.KQ (cellsOf (st.ev v));obtain⟨en1,aea,_,hsame⟩:=hS.ext.ent id en hen;rw[hen']at aea;cases aea;have:en'=en:=hsame KR;subst this;have hx:vs[id]? =some (a.eval m):=hx;obtain⟨u0,hu0,_,hO⟩:=hS.hr.ent id en' hen' hlive;rw[hx]at hu0;cases hu0;have hm:isM en'.elem=true:=by rw[hel];exact isM_mapT t
     obtain⟨b,hb,hob,hmc⟩:=(hO hown).2 hm;have azQ:MapC P w R1 t en'.s b:=by rw[hel,mapT_sub]at hmc;exact hmc
     have hcell:=KT hcls;have hcs':=cells_sound h.vsl (ev_sound ht v) hcell;obtain⟨c1,c2,c3⟩:=yB hS.hr hcls hcs';simp only[zH]at c2;have hE:Elem P w R1 e (fun j=>(cls.map Cl.toD).getD j (.int 0)) (a.eval v):=by
      intro ks2 nX;rw[hks]at nX;cases nX;refine⟨c2,fun hh=> ?_,fun hh=> ?_,fun j kk hj=> ?_⟩
      ·rw[hag]at hh
       have hsv:=ev_sound ht v;cases hev:st.ev v with
       |agg l=>rw[hev]at hsv;obtain⟨cs,hcs,_⟩:=hsv;exact⟨cs,hcs⟩
       |_=>rw[hev]at hh;cases hh
      ·rw[hag]at hh
       have hsv:=ev_sound ht v;have hc1:isCell (st.ev v)=true:=by
        cases hev:st.ev v with
        |agg l=>rw[hev]at hh;cases hh
        |_=>rw[hev]at hcell;simpa[cellsOf]using hcell
       have:=isCell_one h.vsl hsv hc1;cases hav:a.eval v with
       |agg cs=>rw[hav]at this;cases this
       |_=>rfl
      ·obtain⟨c,u,hc,hu,hr⟩:=c3 j kk hj
       refine⟨u,by simpa using hu, ?_⟩
       have e1:(cls.map Cl.toD).getD j (.int 0)=c.toD:=by rw[qE,z6,hc];rfl
       show Rd P w R1 ((cls.map Cl.toD).getD j (.int 0)) kk u;rw[e1];exact hr
     obtain⟨es',clock',hrun,hrel,o',ho'⟩:=aaB hu hk (i:=i') azQ hE;refine⟨undef,_, .inr ⟨?_,rfl⟩, .con (.tuple #[]),_,bl,vs,R1,ow1,hS.trans (hS.hr.alI (clock':=clock') hen' hown hm (by rw[hx,hb]) hob ho' (s':=z3 en'.s i' (cls.map Cl.toD)) (ver:=en'.ver+1) (Nat.lt_succ_self _)
      (by rw[hel,mapT_sub];exact hu) hk hrel),G5,rfl,hd⟩
     rcases ho with ho|ho<;>simp only[execOp,ho,hb,hi.1,Sem.run_bind,hrun,Result.andThen_ok,Sem.run_pure]
    ·exact hd.elim
   ·exact hd.elim
  ·exact hd.elim
 ·exact hd.elim
theorem alA(h:HR P w0 R0 bl vs R ow st.boxes st.ents w)(ht:TR bl vs st.tmps a)(hd:(effOp P st o k).den):oG P w0 R0 bl vs ow st a w o k:=by
 unfold effOp at hd;split at hd
 ·rename_i t ho;exact alE h ho hd
 ·rename_i t x ho;exact atl h ht ho hd
 ·rename_i t x v ho
  unfold eStore at hd;split at hd
  ·rename_i n b off hs hx;exact ado h ht ho hs hx hd
  ·rename_i n id sz i off hs hx;exact adp h ht ho hs hx hd
  ·exact hd.elim
 ·rename_i t x ho;exact aoJ h ht ho hd
 ·rename_i t len parts ho
  split at hd
  ·exact aaA h ht ho hd
  ·exact aei h ht ho hd
 ·rename_i t len cap ho;exact ads h ht ho hd
 ·rename_i t x lo hi mx ho
  split at hd
  ·exact aej h ht ho hd
  ·exact alH h ht ho hd
 ·rename_i t x ix ho;exact aee h ht ho hd
 ·rename_i t x ix ho
  split at hd
  ·exact aef h ht ho hd
  ·exact aeg h ht ho hd
 ·rename_i args argTypes ho;exact ajk h ht ho hd
 ·rename_i t r ho;exact ag3 h ho hd
 ·rename_i t x ix ok ho;exact ajl h ht ho hd
 ·rename_i t m x v ho;exact Sj h ht (.inl ho) hd
 ·rename_i t m x v ho;exact Sj h ht (.inr ho) hd
 ·rename_i t x y u ho;exact ahF (neq:=false) h ht ho hd
 ·rename_i t x y u ho;exact ahF (neq:=true) h ht ho hd
 ·exact hd.elim
end Go.Sx
