/-
 Contracts of functions, and calls by contract. Conditions: the contract holds of the callee.
 Calls by contract and in place; one operation; regions in the text's order. Conditions: the contracts hold of the callees.
 One operation and regions: in the text's order, and in whatever order the tape draws. Conditions: the contracts hold of the callees.
 A region in whatever order the tape draws. Conditions: the contracts hold of the callees.
 Loops: the head's state, what is forgotten there, and how a round's end comes to it again. Conditions: none beyond each lemma's own.
 Loops, second part: the head's condition from any later state, and the state of a round out of the condition. Conditions: none beyond each lemma's own.
 The run of any served code: it comes to where its condition says. Conditions: the contracts hold of the callees.
-/
import Derived.Test.YtbgbcaamipknmaaGreatEngC
import Derived.OrdersHeld
import Derived.OrdersIn
import Derived.RangeFuncRecord
import Derived.Deep.LoopGhost
set_option linter.unusedVariables false
set_option linter.unusedSimpArgs false
namespace Go.Sx
open Go.RowKit (Below)
variable{T:FuncId->Pred}{P:Program}{w0 w:World}{R0:Bs T}{R:Nat->Prop}{bl:List Nat}{vs:List Value}{ow:Nat->Option Owner}
variable{st:St (sem T)}
def ResCell(P:Program)(w:World)(R:Nat->Prop)(ow:Nat->Option Owner)(n:Nat):K×Bool->Value->D->Prop
 |(.sl e,true),v,d=>∃s:Sl,d= .sl s.n s.f/\Own P w R ow n e s v
 |(k,_),v,d=>Rd P w R d k v
def ResCells(P:Program)(w:World)(R:Nat->Prop)(ow:Nat->Option Owner):Nat->List (K×Bool)->List Value->List D->Prop
 |_,[],[],[]=>True
 |n,p::ps,v::vs,d::ds=>ResCell P w R ow n p v d/\ResCells P w R ow (n+1) ps vs ds
 |_,_,_,_=>False
def ResV(P:Program)(w:World)(R:Nat->Prop)(ow:Nat->Option Owner)(n:Nat):VSh->Value->List D->Prop
 | .cell k own,v,ds=>ResCells P w R ow n [(k,own)] [v] ds
 | .agg l,v,ds=>∃cs,v= .agg cs/\ResCells P w R ow n l cs.toList ds
def VSh.width:VSh->Nat
 | .cell _ _=>1
 | .agg l=>l.length
def ResVs(P:Program)(w:World)(R:Nat->Prop)(ow:Nat->Option Owner):Nat->List VSh->List Value->List D->Prop
 |_,[],[],ds=>ds=[]
 |n,sh::shs,v::vs,ds=>∃d1 d2,ds=d1++d2/\ResV P w R ow n sh v d1/\ResVs P w R ow (n+sh.width) shs vs d2
 |_,_,_,_=>False
def oneV(l:List Value):Value:=match l with
 |[v]=>v
 |l=> .tuple l.toArray
def ResOk(P:Program)(w:World)(R:Nat->Prop)(w':World)(res:List VSh)(v:Value)(rs:List D):Prop:=
 ∃vals R' ow',v=oneV vals/\(∀b,R b->R' b)/\(∀b,R' b->R b\/(w.heap.size<=b/\b<w'.heap.size))/\(∀b,R' b->ow' b=none)/\
  (∀b o,ow' b=some o->w.heap.size<=b/\b<w'.heap.size)/\ResVs P w' R' ow' 0 res vals rs
def ConOK(P:Program)(f:FuncId)(sg:Sig)(pr:Pred):Prop:=
 ∀(w:World)(R:Nat->Prop)(vals:List Value)(ds:List D),GlobOk P w->(∀b,R b->b<w.heap.size)->ResVs P w R (fun _=>none) 0 sg.args vals ds->pr.pre ds->
  Calls P f vals.toArray w fun e w'=>∃v rs,e= .returned v/\pr.post ds rs/\Below w.heap.size w w'/\ResOk P w R w' sg.res v rs
theorem ResCell.ro{n:Nat}{kk:K}{v:Value}{d:D}(h:ResCell P w R ow n (kk,false) v d):Rd P w R d kk v:=by
 cases kk<;>exact h
theorem freshCell_sound(h:HR P w0 R0 bl vs R ow st.boxes st.ents w){own:Bool}{kk:K}{owr:Nat->Option Owner}{n:Nat}{v:Value}{d:D}(hc:ResCell P w R owr n (kk,own) v d)(hw0:∀b,owr b=some (.ent n)->w0.heap.size<=b/\ow b=none/\¬R b)
  {f:SV (sem T)->CS->St (sem T)->Tree (sem T)} (hd:(freshCell P own kk st f).den):
  ∃sv c st' vs' ow',Stp P w0 R0 bl vs ow st bl vs' R ow' st' w/\(st'.tmps=st.tmps/\st'.boxes=st.boxes/\∃es,st'.ents=st.ents++es)/\SVR bl vs' sv v/\c.toD=d/\(f sv c st').den/\∀b,owr b≠some (.ent n)->ow' b=ow b:=by
 have flat:(∀e,kk≠ .sl e)->Rd P w R d kk v:=fun hne=>by
  cases kk with
  |sl e=>exact absurd rfl (hne e)
  |_=>exact hc
 have hS:Stp P w0 R0 bl vs ow st bl vs R ow st w:=(Stp.refl h)
 cases kk with
 | int k=>
  have hr:=flat (fun e he=>by cases he)
  cases d with
  |int m=>
   obtain⟨ik,hk,hv,h1,h2⟩:=hr
   cases hk
   exact⟨.int k m, .int m,st,vs,ow,hS,⟨rfl,rfl,[],by simp⟩,⟨hv,h1,h2⟩,rfl,hd m ⟨h1,h2⟩,fun _ _=>rfl⟩
  |bool b=>exact absurd hr.1 (by simp)
  |str b=>exact absurd hr.1 (by simp)
  |sl m g=>obtain⟨e,_,_,hk,_⟩:=hr;cases hk
 | bool=>
  have hr:=flat (fun e he=>by cases he)
  cases d with
  |bool b=>
   refine⟨.bool ⟨b=true,inferInstance⟩, .bool ⟨b=true,inferInstance⟩,st,vs,ow,hS,⟨rfl,rfl,[],by simp⟩, ?_, ?_,hd b,fun _ _=>rfl⟩
   ·rw[hr.2];simp[SVR,PB.b]
   ·simp[Cl.toD]
  |int m=>obtain⟨ik,hk,_⟩:=hr;cases hk
  |str b=>exact absurd hr.1 (by simp)
  |sl m g=>obtain⟨e,_,_,hk,_⟩:=hr;cases hk
 |str=>
  have hr:=flat (fun e he=>by cases he)
  cases d with
  |str y=>exact⟨.str y, .str y,st,vs,ow,hS,⟨rfl,rfl,[],by simp⟩,hr.2,rfl,hd y,fun _ _=>rfl⟩
  |int m=>obtain⟨ik,hk,_⟩:=hr;cases hk
  |bool b=>exact absurd hr.1 (by simp)
  |sl m g=>obtain⟨e,_,_,hk,_⟩:=hr;cases hk
 | sl e=>
  cases own with
  | false=>
   have hr:=hc.ro
   cases d with
   |sl m g=>
    have hR:=h.newRo (s:=⟨m,g⟩) hr
    exact⟨.sl st.ents.length, .sl ⟨m,g⟩,_,_,ow,hR,⟨rfl,rfl,_,rfl⟩,h.ent_last,rfl,rg_den (hd ⟨m,g⟩) (ranged_rd (s:=⟨m,g⟩) hr),fun _ _=>rfl⟩
   |int m=>obtain⟨ik,hk,_⟩:=hr;cases hk
   |bool b=>exact absurd hr.1 (by simp)
   |str b=>exact absurd hr.1 (by simp)
  | true=>
   obtain⟨s,rfl,hO⟩:=hc
   have hrg:isM e=false->Ranged s (rks P e):=fun hm=>by
    obtain⟨a,cap,hv,h1,h2,h3,h4⟩:=hO.1 hm
    exact ranged_of (w:=w) (R:=R) fun ks i j kk hks hi hj=>by
     rcases h4 with h4|⟨b,cs,hab,hob,hcs,hcont⟩
     ·omega
     ·obtain⟨u,_,hu⟩:=(hcont ks hks).2 i j kk hi hj
      exact⟨u,hu⟩
   have hd:(f (.sl st.ents.length) (.sl s) (addEnt st e s true)).den:=rg_den' (hd s) fun hb=>hrg (by simp only[Bool.and_eq_true,Bool.not_eq_true']at hb;exact hb.2)
   have hz:∀b,(owr b=some (.ent n)/\b<w.heap.size)->w0.heap.size<=b/\b<w.heap.size/\¬R b/\ow b=none:=fun b hb=>⟨(hw0 b hb.1).1,hb.2,(hw0 b hb.1).2.2,(hw0 b hb.1).2.1⟩
   obtain⟨hP,hmk⟩:=h.pushOwnZ (Z:=fun b=>owr b=some (.ent n)/\b<w.heap.size) hz (hO.relabel fun b hb hlt=>if_pos ⟨hb,hlt⟩)
   exact⟨.sl st.ents.length, .sl s,addEnt st e s true,vs++[v],_,⟨hP,fun _ _ x=>x,fun _ _=>get_append_lt,Ext.of_append (nb:=[]) (ne:=[⟨e,s,true,true,0⟩]) (by simp[addEnt]) rfl,fun x hx=>hmk x hx⟩,⟨rfl,rfl,_,rfl⟩,h.ent_last,rfl,hd,fun x hx=>if_neg fun hh=>hx hh.1⟩
theorem freshCells_sound{owr:Nat->Option Owner}:∀{l:List (K×Bool)}{n:Nat}{st:St (sem T)}{vs:List Value}{ow:Nat->Option Owner},HR P w0 R0 bl vs R ow st.boxes st.ents w->∀{vals:List Value}{ds:List D},ResCells P w R owr n l vals ds->
  (∀m b,n<=m->owr b=some (.ent m)->w0.heap.size<=b/\ow b=none/\¬R b)->∀{f:List (SV (sem T))->List CS->St (sem T)->Tree (sem T)},(freshCells P l st f).den->
  ∃svs cs st' vs' ow',Stp P w0 R0 bl vs ow st bl vs' R ow' st' w/\st'.tmps=st.tmps/\SVRs bl vs' svs vals/\cs.map Cl.toD=ds/\(f svs cs st').den/\∀b,(∀m,n<=m->m<n+l.length->owr b≠some (.ent m))->ow' b=ow b
 |[],n,st,vs,ow,h,vals,ds,hc,hw,f,hd=>by
  cases vals<;>cases ds<;>first|exact hc.elim|skip
  exact⟨[],[],st,vs,ow,(Stp.refl h),rfl,trivial,rfl,hd,fun _ _=>rfl⟩
 | (k,own)::l,n,st,vs,ow,h,vals,ds,hc,hw,f,hd=>by
  cases vals with
  |nil=>exact hc.elim
  | cons v vals=>cases ds with
   |nil=>exact hc.elim
   | cons d ds=>
    obtain⟨hc1,hc2⟩:=hc
    obtain⟨sv,c,st1,vs1,ow1,hS,ht,hsv,hcd,hd1,hk⟩:=freshCell_sound h hc1 (fun b hb=>hw n b (Nat.le_refl _) hb) (f:=fun v c st=>freshCells P l st fun vs cs st=>f (v::vs) (c::cs) st) hd
    obtain⟨svs,cs,st2,vs2,ow2,hS2,ht2,hsvs,hcds,hd2,hk2⟩:=freshCells_sound hS.hr hc2 (fun m b hm hb=>by
     obtain⟨g1,g2,g3⟩:=hw m b (by omega) hb
     refine⟨g1, ?_,g3⟩
     rw[hk b (fun e=>by rw[hb]at e;cases e;omega)]
     exact g2) hd1
    refine⟨sv::svs,c::cs,st2,vs2,ow2,hS.trans hS2,ht2.trans ht.1,⟨hsv.mono hS2.bl hS2.vs,hsvs⟩,by simp[hcd,hcds],hd2,fun b hb=> ?_⟩
    rw[hk2 b (fun m h1 h2=>hb m (by omega) (by simp;omega)),hk b (hb n (Nat.le_refl _) (by simp))]
theorem freshV_sound{owr:Nat->Option Owner}{sh:VSh}{n:Nat}(h:HR P w0 R0 bl vs R ow st.boxes st.ents w){v:Value}{ds:List D}(hc:ResV P w R owr n sh v ds)(hw:∀m b,n<=m->owr b=some (.ent m)->w0.heap.size<=b/\ow b=none/\¬R b)
  {f:SV (sem T)->List CS->St (sem T)->Tree (sem T)} (hd:(freshV P sh st f).den):
  ∃sv cs st' vs' ow',Stp P w0 R0 bl vs ow st bl vs' R ow' st' w/\st'.tmps=st.tmps/\SVR bl vs' sv v/\cs.map Cl.toD=ds/\(f sv cs st').den/\∀b,(∀m,n<=m->m<n+sh.width->owr b≠some (.ent m))->ow' b=ow b:=by
 cases sh with
 | cell k own=>
  simp only[ResV]at hc
  cases ds with
  |nil=>exact hc.elim
  | cons d ds=>cases ds with
   |cons=>exact hc.2.elim
   |nil=>
    obtain⟨sv,c,st1,vs1,ow1,hS,ht,hsv,hcd,hd1,hk⟩:=freshCell_sound h hc.1 (fun b hb=>hw n b (Nat.le_refl _) hb) (f:=fun v c st=>f v [c] st) hd
    exact⟨sv,[c],st1,vs1,ow1,hS,ht.1,hsv,by simp[hcd],hd1,fun b hb=>hk b (hb n (Nat.le_refl _) (by simp[VSh.width]))⟩
 |agg l=>
  obtain⟨cs0,rfl,hc⟩:=hc
  obtain⟨svs,cs,st1,vs1,ow1,hS,ht,hsv,hcd,hd1,hk⟩:=freshCells_sound h hc hw (f:=fun vs cs st=>f (.agg vs) cs st) hd
  exact⟨.agg svs,cs,st1,vs1,ow1,hS,ht,⟨cs0,rfl,hsv⟩,hcd,hd1,fun b hb=>hk b hb⟩
theorem freshVs_sound{owr:Nat->Option Owner}:∀{l:List VSh}{n:Nat}{st:St (sem T)}{vs:List Value}{ow:Nat->Option Owner},HR P w0 R0 bl vs R ow st.boxes st.ents w->∀{vals:List Value}{ds:List D},ResVs P w R owr n l vals ds->
  (∀m b,n<=m->owr b=some (.ent m)->w0.heap.size<=b/\ow b=none/\¬R b)->∀{f:List (SV (sem T))->List CS->St (sem T)->Tree (sem T)},(freshVs P l st f).den->
  ∃svs cs st' vs' ow',Stp P w0 R0 bl vs ow st bl vs' R ow' st' w/\st'.tmps=st.tmps/\SVRs bl vs' svs vals/\cs.map Cl.toD=ds/\(f svs cs st').den
 | [],n,st,vs,ow,h,vals,ds,hc,hw,f,hd=>by
  cases vals with
  |cons=>exact hc.elim
  |nil=>
   have hc:ds=[]:=hc
   subst hc
   exact⟨[],[],st,vs,ow,(Stp.refl h),rfl,trivial,rfl,hd⟩
 | sh::l,n,st,vs,ow,h,vals,ds,hc,hw,f,hd=>by
  cases vals with
  |nil=>exact hc.elim
  | cons v vals=>
   obtain⟨d1,d2,rfl,hc1,hc2⟩:=hc
   obtain⟨sv,cs1,st1,vs1,ow1,hS,ht,hsv,hcd,hd1,hk⟩:=freshV_sound h hc1 hw (f:=fun v cs st=>freshVs P l st fun vs ds st=>f (v::vs) (cs++ds) st) hd
   obtain⟨svs,cs,st2,vs2,ow2,hS2,ht2,hsvs,hcds,hd2⟩:=freshVs_sound hS.hr hc2 (fun m b hm hb=>by
    obtain⟨g1,g2,g3⟩:=hw m b (by omega) hb
    refine⟨g1, ?_,g3⟩
    rw[hk b (fun q h1 h2 e=>by rw[hb]at e;cases e;omega)]
    exact g2) hd1
   exact⟨sv::svs,cs1++cs,st2,vs2,ow2,hS.trans hS2,ht2.trans ht,⟨hsv.mono hS2.bl hS2.vs,hsvs⟩,by simp[hcd,hcds],hd2⟩
end Go.Sx
namespace Go.Sx
open Go.RowKit (Below)
variable{T:FuncId->Pred}{P:Program}{w0 w:World}{R0:Bs T}{R:Nat->Prop}{bl:List Nat}{vs:List Value}{ow:Nat->Option Owner}
variable{st:St (sem T)}{a:Act}
theorem toCls_cellsR(hl:HR P w0 R0 bl vs R ow st.boxes st.ents w){ids:List Nat}(hno:∀(i:Nat)(e:Ent (sem T)),i∈ids->st.ents[i]? =some e->e.live=true->isM e.elem=false->e.own=false):∀{l:List (K×Bool)}{n:Nat}{s:List (SV (sem T))}{cs:List CS},toCls st.ents (l.map (·.1)) s=some cs->(∀p∈l,p.2=false)->(∀id,SV.sl id∈s->id∈ids)->∀{v:List Value},SVRs bl vs s v->
  ResCells P w R (fun _=>none) n l v (cs.map Cl.toD)
 |[],n,[],cs,h,_,_,v,hs=>by
  simp only[List.map_nil,toCls,Option.some.injEq]at h
  subst h
  cases v with
  |nil=>trivial
  |cons=>exact hs.elim
 | (k, own)::l,n,x::s,cs,h,ho,hid,v,hs=>by
  cases v with
  |nil=>exact hs.elim
  | cons u v=>
   simp only[List.map_cons,toCls]at h
   split at h
   ·rename_i c cs' hc hcs
    cases h
    have hown:own=false:=ho (k,own) (by simp)
    subst hown
    refine⟨?_,toCls_cellsR hl hno hcs (fun p hp=>ho p (by simp[hp])) (fun id hm=>hid id (by simp[hm])) hs.2⟩
    have hR:toClR st.ents k x=some c:=by
     unfold toClR
     split
     ·rename_i id
      unfold toCl at hc
      split at hc
      ·rename_i heq;cases heq
      ·rename_i heq;cases heq
      ·rename_i heq;cases heq
      ·rename_i heq;cases heq
      ·rename_i e id' heq
       cases heq
       split at hc
       ·rename_i en hen
        split at hc
        ·rename_i hcc
         simp only[Bool.and_eq_true]at hcc
         have hmm:isM en.elem=false:=by
          have h1:=hcc.2.1
          have h2:=hcc.2.2
          rw[beq_iff_eq]at h1
          rw[h1];simpa using h2
         simp only[hno _ _ (hid _ (by simp)) hen hcc.1 hmm,Bool.false_eq_true,if_false]
         unfold toCl
         simp only[hen]
         rw[if_pos (by simpa using hcc)]
         exact hc
        ·cases hc
       ·cases hc
      ·rename_i heq;cases heq
      ·cases hc
     ·exact hc
    have:=toClR_sound hl hR hs.1
    cases k<;>exact this
   ·cases h
 |[],_,_::_,_,h,_,_,_,_=>by simp[toCls]at h
 |_::_,_,[],_,h,_,_,_,_=>by simp[toCls]at h
theorem argsCl_sound{R1:Nat->Prop}{ids:List Nat}(hcells:∀{l:List (K×Bool)}{n:Nat}{s:List (SV (sem T))}{cs:List CS},toCls st.ents (l.map (·.1)) s=some cs->(∀p∈l,p.2=false)->(∀id,SV.sl id∈s->id∈ids)->∀{v:List Value},SVRs bl vs s v->ResCells P w R1 (fun _=>none) n l v (cs.map Cl.toD)):
  ∀{shs:List VSh}{n:Nat}{s:List (SV (sem T))}{cs:List CS},argsCl st.ents shs s=some cs->shs.all roSh=true->(∀id,id∈s.flatMap idsV->id∈ids)->∀{v:List Value},SVRs bl vs s v->ResVs P w R1 (fun _=>none) n shs v (cs.map Cl.toD)
 |[],n,[],cs,h,_,_,v,hs=>by
  simp only[argsCl,Option.some.injEq]at h
  subst h
  cases v with
  |nil=>rfl
  |cons=>exact hs.elim
 | sh ::shs,n,x::s,cs,h,hro,hid,v,hs=>by
  cases v with
  |nil=>exact hs.elim
  | cons u v=>
   simp only[argsCl]at h
   simp only[List.all_cons,Bool.and_eq_true]at hro
   split at h
   ·rename_i c cs' hc hcs
    cases h
    rw[List.map_append]
    refine⟨_,_,rfl, ?_,argsCl_sound hcells hcs hro.2 (fun id hm=>hid id (by simp only[List.flatMap_cons,List.mem_append];exact .inr hm)) hs.2⟩
    cases sh with
    |cell k own=>
     simp only[argCl,Option.map_eq_some_iff]at hc
     obtain⟨c0,hc0,rfl⟩:=hc
     have hown:own=false:=by simpa[roSh]using hro.1
     subst hown
     exact hcells (l:=[(k,false)]) (s:=[x]) (cs:=[c0]) (by simp[toCls,hc0]) (by simp) (fun id hm=>hid id (by simp only[List.flatMap_cons,List.mem_append];left;simp only[List.mem_singleton]at hm;rw[<-hm];simp[idsV])) (v:=[u]) ⟨hs.1,trivial⟩
    | agg l=>
     cases x with
     |agg xs=>
      simp only[argCl]at hc
      obtain⟨cv,rfl,hcv⟩:=hs.1
      exact⟨cv,rfl,hcells hc (fun p hp=>by have:=List.all_eq_true.1 hro.1 p hp;simpa using this) (fun id hm=>hid id (by simp only[List.flatMap_cons,List.mem_append];left;simp only[idsV,List.mem_filterMap];exact⟨_,hm,rfl⟩)) hcv⟩
     |_=>simp[argCl]at hc
   ·cases h
 |[],_,_::_,_,h,_,_,_,_=>by simp[argsCl]at h
 |_::_,_,[],_,h,_,_,_,_=>by simp[argsCl]at h
theorem Rd.flat{k:K}{d:D}{v:Value}{R2:Nat->Prop}(hk:∀e,k≠ .sl e)(h:Rd P w R d k v):Rd P w R2 d k v:=by
 cases d with
 |int n=>exact h
 |bool b=>exact h
 |str s=>exact h
 |sl n f=>obtain⟨e,_,_,hke,_⟩:=h;exact absurd hke (hk e)
theorem isM_of_isL{e:TypeId}(h:isL e=true):isM e=true:=Nat.ble_eq_true_of_le (Nat.le_trans (Nat.le_of_ble_eq_true (n:=1000000000) (m:=2000000000) rfl) (Nat.le_of_ble_eq_true h))
theorem isD_inv{e:TypeId}(h:isD e=true):Nat.ble 3000000000 e=true/\isX e=false:=by
 unfold isD at h
 simpa only[Bool.and_eq_true,Bool.not_eq_true']using h
theorem isL_of_isD{e:TypeId}(h:isD e=true):isL e=true:=Nat.ble_eq_true_of_le (Nat.le_trans (Nat.le_of_ble_eq_true (n:=2000000000) (m:=3000000000) rfl) (Nat.le_of_ble_eq_true (isD_inv h).1))
theorem Own.deep{i:Nat}{e:TypeId}{s:Sl}{v:Value}(hD:isD e=true)(hn:noMap P (unM e)=true)(h:Own P w R ow i e s v):OwnL P w R ow i e s v:=by
 rcases h.2 (isM_of_isL (isL_of_isD hD))with hM|hM
 ·obtain⟨b,_,_,es,clock,ik,kt,e2,_,hun,_⟩:=hM
  exact(noMap_M hn hun).elim
 ·exact hM.2
theorem Own.of_deep{i:Nat}{e:TypeId}{s:Sl}{v:Value}(hD:isD e=true)(h:OwnL P w R ow i e s v):Own P w R ow i e s v:=
 ⟨fun hm=>absurd (hm.symm.trans (isM_of_isL (isL_of_isD hD))) Bool.false_ne_true,fun _=> .inr ⟨isL_of_isD hD,h⟩⟩
theorem own_deep{i:Nat}{e:TypeId}{s:Sl}{v:Value}(hD:isD e=true)(h:Dp P w (fun b=>ow b=some (.ent i)) (.sl s.n s.f) (.sl (unD e)) v):Own P w R ow i e s v:=
 Own.of_deep hD ⟨fun hx=>absurd (hx.symm.trans (isD_inv hD).2) (by simp),fun _=>⟨fun _=>h,fun hf=>absurd (hD.symm.trans hf) (by simp)⟩⟩
theorem ResCell.flat{n:Nat}{p:K×Bool}{v:Value}{d:D}{R2:Nat->Prop}(hf:okResCell P p=true)(h:ResCell P w R ow n p v d):ResCell P w R2 ow n p v d:=by
 obtain⟨k,own⟩:=p
 cases k with
 |int k=>exact Rd.flat (fun e he=>by cases he) h
 |bool=>exact Rd.flat (fun e he=>by cases he) h
 |str=>exact Rd.flat (fun e he=>by cases he) h
 | sl e=>
  simp only[okResCell,flatK,Bool.and_eq_true,Bool.or_eq_true,Bool.not_eq_true']at hf
  obtain⟨rfl,⟨hD,hn⟩|⟨hm,hf⟩⟩:=hf
  ·obtain⟨s,hd,hO⟩:=h
   have hdp:=((hO.deep hD hn).2 (isD_inv hD).2).1 hD
   exact⟨s,hd,Own.of_deep hD ⟨fun hx=>absurd (hx.symm.trans (isD_inv hD).2) (by simp),fun _=>⟨fun _=>hdp,fun hf=>absurd (hD.symm.trans hf) (by simp)⟩⟩⟩
  obtain⟨s,hd,hO⟩:=h
  obtain⟨a,cap,hv,h1,h2,h3,h4⟩:=hO.1 hm
  refine⟨s,hd,fun _=>⟨a,cap,hv,h1,h2,h3, ?_⟩,fun hh=>absurd (hm.symm.trans hh) Bool.false_ne_true⟩
  rcases h4 with h4|⟨b,cs,hab,hob,hcs,hcont⟩
  ·exact .inl h4
  ·refine .inr ⟨b,cs,hab,hob,hcs,fun ks hks=>⟨(hcont ks hks).1,fun j k kk hj hk=> ?_⟩⟩
   obtain⟨u,hu,hr⟩:=(hcont ks hks).2 j k kk hj hk
   refine⟨u,hu,hr.flat (fun e' he'=> ?_)⟩
   rw[hks]at hf
   have:=List.all_eq_true.1 hf kk (List.mem_of_getElem? hk)
   rw[he']at this
   simp at this
theorem ResCells.flat{R2:Nat->Prop}:∀{l:List (K×Bool)}{n:Nat}{v:List Value}{d:List D},l.all (okResCell P)=true->ResCells P w R ow n l v d->ResCells P w R2 ow n l v d
 |[],_,[],[],_,h=>h
 |p::l,n,v::vs,d::ds,hf,h=>by
  simp only[List.all_cons,Bool.and_eq_true]at hf
  exact⟨h.1.flat hf.1,ResCells.flat hf.2 h.2⟩
 |[],_,_::_,_,_,h=>h.elim
 |[],_,[],_::_,_,h=>h.elim
 |_::_,_,[],_,_,h=>h.elim
 |_::_,_,_::_,[],_,h=>h.elim
theorem ResVs.flat{R2:Nat->Prop}:∀{l:List VSh}{n:Nat}{v:List Value}{d:List D},l.all (flatSh P)=true->ResVs P w R ow n l v d->ResVs P w R2 ow n l v d
 |[],_,[],_,_,h=>h
 |sh::l,n,v::vs,d,hf,h=>by
  simp only[List.all_cons,Bool.and_eq_true]at hf
  obtain⟨d1,d2,hd,h1,h2⟩:=h
  refine⟨d1,d2,hd, ?_,ResVs.flat hf.2 h2⟩
  cases sh with
  |cell k own=>exact ResCells.flat (by simpa[flatSh]using hf.1) h1
  |agg l'=>obtain⟨cs,hv,hc⟩:=h1;exact⟨cs,hv,ResCells.flat hf.1 hc⟩
 |[],_,_::_,_,_,h=>h.elim
 |_::_,_,[],_,_,h=>h.elim
theorem HR.addR(h:HR P w0 R0 bl vs R ow st.boxes st.ents w){R':Nat->Prop}(h1:∀b,R b->R' b)(h2:∀b,R' b->R b\/(w0.heap.size<=b/\b<w.heap.size/\ow b=none)):HR P w0 R0 bl vs R' ow st.boxes st.ents w where
 below:=h.below
 rlt:=fun b hb=>(h2 b hb).elim (h.rlt b) (fun hh=>hh.2.1)
 r0:=fun b hb=>h1 b (h.r0 b hb)
 rsub:=fun b hb=>(h2 b hb).elim (h.rsub b) (fun hh=> .inr hh.1)
 ro:=fun b hb=>(h2 b hb).elim (h.ro b) (fun hh=>hh.2.2)
 olt:=h.olt
 nb:=h.nb
 nv:=h.nv
 vsl:=h.vsl
 glb:=h.glb
 box:=h.box
 ent:=fun i e hi hl=>by
  obtain⟨u,hu,g1,g2⟩:=h.ent i e hi hl
  exact⟨u,hu,fun hh=>(g1 hh).mono h1 (fun _ _=>rfl),fun hh=>(g2 hh).mono h1 (fun _ _=>rfl) (fun _ hx=>⟨hx,rfl⟩)⟩
 mrk:=h.mrk
 lp:=h.lp
theorem one_sound{svs:List (SV (sem T))}{vals:List Value}(h:SVRs bl vs svs vals):SVR bl vs (one svs) (oneV vals):=by
 match svs,vals,h with
 |[],[],_=>exact⟨#[],rfl,trivial⟩
 |[s],[v],h=>exact h.1
 |s::s'::ss,v::v'::vals,h=>exact⟨(v::v'::vals).toArray,rfl,by simpa using h⟩
 |[],_::_,h=>exact h.elim
 |_::_,[],h=>exact h.elim
 |[_],_::_::_,h=>exact h.2.elim
 |_::_::_,[_],h=>exact h.2.elim
def CallOk(P:Program)(w0:World)(R0:Bs T)(bl:List Nat)(vs:List Value)(ow:Nat->Option Owner)(st:St (sem T))(w:World)(f:FuncId)(vals:List Value)(k:SV (sem T)->St (sem T)->Tree (sem T)):Prop:=
 Calls P f vals.toArray w fun e w'=>∃v,e= .returned v/\∃sv st' bl' vs' R' ow',Stp P w0 R0 bl vs ow st bl' vs' R' ow' st' w'/\st'.tmps=st.tmps/\SVR bl' vs' sv v/\(k sv st').den
theorem freezeIds_noown:∀(l:List Nat){st:St (sem T)}{i:Nat}{e:Ent (sem T)},i∈l->(freezeIds st l).ents[i]? =some e->e.live=true->isM e.elem=false->e.own=false:=by
 have step:∀(l:List Nat)(st:St (sem T))(i:Nat),(∀e,st.ents[i]? =some e->e.live=true->isM e.elem=false->e.own=false)->∀e,(freezeIds st l).ents[i]? =some e->e.live=true->isM e.elem=false->e.own=false:=by
  intro l
  induction l with
  |nil=>intro st i h;exact h
  | cons j l ih=>
   intro st i h
   refine ih (freezeId st j) i ?_
   intro e he hl hm
   unfold freezeId at he
   split at he
   ·split at he
    ·rcases get_set_inv he with⟨_,rfl⟩|⟨_,he⟩
     ·rfl
     ·exact h e he hl hm
    ·exact h e he hl hm
   ·exact h e he hl hm
 have hit:∀(l:List Nat)(st:St (sem T))(i:Nat),i∈l->∀e,(freezeIds st l).ents[i]? =some e->e.live=true->isM e.elem=false->e.own=false:=by
  intro l
  induction l with
  |nil=>intro st i h;cases h
  | cons j l ih=>
   intro st i h e he hl hm
   by_cases hj:i=j
   ·subst hj
    refine step l (freezeId st i) i ?_ e he hl hm
    intro e he hl hm
    unfold freezeId at he
    split at he
    ·rename_i e0 he0
     split at he
     ·rcases get_set_inv he with⟨_,rfl⟩|⟨hne,_⟩
      ·rfl
      ·exact absurd rfl hne
     ·rename_i hc
      rw[he0]at he
      cases he
      simp only[hl,hm,Bool.true_and,Bool.not_false,Bool.and_true]at hc
      simpa using hc
    ·rename_i hn;rw[hn]at he;cases he
   ·exact ih (freezeId st j) i (by simpa[hj]using h) e he hl hm
 intro l st i e hi he hl hm
 exact hit l st i hi e he hl hm
def ArgCell(P:Program)(w:World)(Z:Nat->Prop)(p:K×Bool)(v:Value)(d:D):Prop:=if p.2=true then Lt P w Z d p.1 v else Rd P w (fun b=>b<w.heap.size) d p.1 v
def ArgCells(P:Program)(w:World)(Z:Nat->Prop):List (K×Bool)->List Value->List D->Prop
 |[],[],[]=>True
 |p::ps,v::vs,d::ds=>ArgCell P w Z p v d/\ArgCells P w Z ps vs ds
 |_,_,_=>False
def ArgV(P:Program)(w:World)(Z:Nat->Prop):VSh->Value->List D->Prop
 | .cell k o,v,ds=>ArgCells P w Z [(k,o)] [v] ds
 | .agg l,v,ds=>∃cs,v= .agg cs/\ArgCells P w Z l cs.toList ds
def ArgVs(P:Program)(w:World)(Z:Nat->Prop):List VSh->List Value->List D->Prop
 |[],[],ds=>ds=[]
 |sh::shs,v::vs,ds=>∃d1 d2,ds=d1++d2/\ArgV P w Z sh v d1/\ArgVs P w Z shs vs d2
 |_,_,_=>False
def KeptOK(P:Program)(f:FuncId)(sg:Sig)(pr:Pred):Prop:=
 ∀(w:World)(vals:List Value)(ds:List D),GlobOk P w->ArgVs P w (fun _=>True) sg.args vals ds->pr.pre ds->
  Calls P f vals.toArray w fun e w'=>∃v rs,e= .returned v/\pr.post ds rs/\Below w.heap.size w w'/\ResOk P w (fun b=>b<w.heap.size) w' sg.res v rs
structure BelowX(Z:Nat->Prop)(w w':World):Prop where
 os:w'.os=w.os
 tape:w'.tape=w.tape
 output:w'.output=w.output
 size:w.heap.size<=w'.heap.size
 block:∀b,b<w.heap.size->¬Z b->w'.heap[b]? =w.heap[b]?
def OverOK(P:Program)(f:FuncId)(sg:Sig):Prop:=
 ∀(w:World)(Z:Nat->Prop)(vals:List Value)(ds:List D),GlobOk P w->ArgVs P w Z sg.args vals ds->
  Calls P f vals.toArray w fun e w'=>e= .returned (.tuple #[])/\BelowX Z w w'
theorem lentCl_inv{ents:List (Ent (sem T))}{k:K}{s:SV (sem T)}{c:CS}(hc:lentCl P ents k s=some c):∃e id en,k= .sl e/\s= .sl id/\ents[id]? =some en/\en.live=true/\en.own=true/\isL en.elem=true/\(isD en.elem=false/\isX en.elem=false)/\unL en.elem=e/\noMap P (unM en.elem)=true/\c= .sl en.s:=by
 unfold lentCl at hc
 split at hc
 ·rename_i e id
  split at hc
  ·rename_i en hen
   split at hc
   ·rename_i hcc
    rw[Bool.and_eq_true,Bool.and_eq_true,Bool.and_eq_true,Bool.and_eq_true,Bool.and_eq_true,Bool.and_eq_true]at hcc
    obtain⟨hl,ho,hL,⟨hd,hx⟩,he,hn⟩:=hcc
    have he:=eq_of_beq he
    have hc:=Option.some.inj hc
    have hd:isD en.elem=false:=by cases hh:isD en.elem with
     |false=>rfl
     |true=>rw[hh]at hd;cases hd
    have hx:isX en.elem=false:=by cases hh:isX en.elem with
     |false=>rfl
     |true=>rw[hh]at hx;cases hx
    exact⟨e,id,en,rfl,rfl,hen,hl,ho,hL,⟨hd,hx⟩,he,hn,hc.symm⟩
   ·cases hc
  ·cases hc
 ·cases hc
theorem lentCl_sound(h:HR P w0 R0 bl vs R ow st.boxes st.ents w){k:K}{s:SV (sem T)}{c:CS}(hc:lentCl P st.ents k s=some c){v:Value}(hs:SVR bl vs s v){Z:Nat->Prop}(hZ:∀id,s= .sl id->∀b,ow b=some (.ent id)->Z b):
  Lt P w Z c.toD k v:=by
 obtain⟨e,id,en,rfl,rfl,hen,hl,ho,hL,hd,he,hn,rfl⟩:=lentCl_inv hc
 obtain⟨u,hu,_,hO⟩:=h.ent id en hen hl
 have hs:vs[id]? =some v:=hs
 have huv:v=u:=Option.some.inj (hs.symm.trans hu)
 subst huv
 rcases(hO ho).2 (isM_of_isL hL)with hM|hM
 ·obtain⟨b,_,_,es,clock,ik,kt,e2,_,hun,_⟩:=hM
  exact(noMap_M hn hun).elim
 ·have hlt:=(hM.2.2 hd.2).2 hd.1
  rw[he]at hlt
  exact Lt.mono (fun b hb _=>hZ id rfl b hb) (fun _ _=>rfl) hlt
theorem deepCl_sound(h:HR P w0 R0 bl vs R ow st.boxes st.ents w){k:K}{s:SV (sem T)}{c:CS}(hc:deepCl P st.ents k s=some c){v:Value}(hs:SVR bl vs s v):
  Rd P w (fun b=>b<w.heap.size) c.toD k v:=by
 unfold deepCl at hc
 split at hc
 ·rename_i e id
  split at hc
  ·rename_i en hen
   split at hc
   ·rename_i hcc
    rw[Bool.and_eq_true,Bool.and_eq_true,Bool.and_eq_true,Bool.and_eq_true]at hcc
    obtain⟨hl,ho,hd,he,hn⟩:=hcc
    have he:=eq_of_beq he
    cases hc
    obtain⟨u,hu,_,hO⟩:=h.ent id en hen hl
    have hs:vs[id]? =some v:=hs
    have huv:v=u:=Option.some.inj (hs.symm.trans hu)
    subst huv
    have hdp:=(((hO ho).deep hd hn).2 (isD_inv hd).2).1 hd
    rw[he]at hdp
    exact Dp.rd (fun _ _ hb=>hb) hdp
   ·cases hc
  ·cases hc
 ·cases hc
theorem bxRows_get{ents:List (Ent (sem T))}{ks:List K}:∀{n:Nat}{l:List (SV (sem T))}{rows:List (List CS)},bxRows ents ks n l=some rows->rows.length=n/\∀i:Nat,i<n->∃cs:List CS,rows[i]? =some cs/\toCls ents ks ((l.drop (i*ks.length)).take ks.length)=some cs
 |0,l,rows,h=>by
  simp only[bxRows,Option.some.injEq]at h
  subst h
  exact⟨rfl,fun i hi=>by omega⟩
 | n+1,l,rows,h=>by
  simp only[bxRows]at h
  split at h
  ·rename_i a b ha hb
   cases h
   obtain⟨h1,h2⟩:=bxRows_get hb
   refine⟨by simp[h1],fun i hi=> ?_⟩
   cases i with
   |zero=>exact⟨a,rfl,by simpa using ha⟩
   |succ i=>
    obtain⟨cs,g1,g2⟩:=h2 i (by omega)
    refine⟨cs,by simpa using g1, ?_⟩
    rw[List.drop_drop]at g2
    rw[Nat.succ_mul,Nat.add_comm]
    exact g2
  ·cases h
theorem toCls_at{ents:List (Ent (sem T))}:∀{ks:List K}{l:List (SV (sem T))}{cs:List CS},toCls ents ks l=some cs->cs.length=ks.length/\∀(j:Nat)(kk:K),ks[j]? =some kk->∃(s:SV (sem T))(c:CS),l[j]? =some s/\cs[j]? =some c/\toCl ents kk s=some c
 |[],[],cs,h=>by
  simp only[toCls,Option.some.injEq]at h
  subst h
  exact⟨rfl,fun j kk hk=>by simp at hk⟩
 | k::ks,s::l,cs,h=>by
  simp only[toCls]at h
  split at h
  ·rename_i c cs' h1 h2
   cases h
   obtain⟨g1,g2⟩:=toCls_at h2
   refine⟨by simp[g1],fun j kk hk=> ?_⟩
   cases j with
   |zero=>
    have:k=kk:=by simpa using hk
    subst this
    exact⟨s,c,rfl,rfl,h1⟩
   |succ j=>simpa using g2 j kk (by simpa using hk)
  ·cases h
 |[],_::_,_,h=>by simp[toCls]at h
 |_::_,[],_,h=>by simp[toCls]at h
theorem bslCl_sound(h:HR P w0 R0 bl vs R ow st.boxes st.ents w){k:K}{s:SV (sem T)}{c:CS}(hc:bslCl P st.boxes st.ents k s=some c){v:Value}(hs:SVR bl vs s v):
  Rd P w (fun b=>b<w.heap.size) c.toD k v:=by
 unfold bslCl at hc
 split at hc
 ·rename_i e b n
  split at hc
  ·rename_i x ks hx hks
   split at hc
   ·rename_i hcc
    simp only[Bool.and_eq_true,decide_eq_true_eq]at hcc
    obtain⟨hl,hpos,hn⟩:=hcc
    have hn:=Nat.le_of_ble_eq_true hn
    obtain⟨rows,hr,rfl⟩:=Option.map_eq_some_iff.1 hc
    obtain⟨hlen,hrow⟩:=bxRows_get hr
    obtain⟨b',hb',rfl⟩:=hs
    obtain⟨b2,cs,h1,h2,h3,h4⟩:=h.box b x hx hl
    rw[hb']at h1
    cases h1
    show Rd P w _ (.sl (rows.map (·.map Cl.toD)).length (Sl.lit (rows.map (·.map Cl.toD))).f) (.sl e) _
    rw[List.length_map,hlen]
    refine⟨e,_,n,rfl,rfl,by omega,by unfold maxLen;omega,fun hh=>(by cases hh),fun ks2 i j kk hks2 hi hj=> ?_⟩
    rw[hks]at hks2
    cases hks2
    obtain⟨row,hrow1,hrow2⟩:=hrow i hi
    obtain⟨_,hat⟩:=toCls_at hrow2
    obtain⟨s,c,hs1,hc1,hcl⟩:=hat j kk hj
    have hjl:=(List.getElem?_eq_some_iff.1 hj).1
    rw[List.getElem?_take_of_lt hjl,List.getElem?_drop]at hs1
    obtain⟨u,hu,hsu⟩:=h4.get hs1
    have hu:cs[i*ks.length+j]? =some u:=by simpa using hu
    refine⟨_,u,rfl,rfl,(Array.getElem?_eq_some_iff.1 h3).1,by simp[World.cell?,h3,hu], ?_⟩
    have hd:(Sl.lit (rows.map (·.map Cl.toD))).f i j=c.toD:=by
     simp[Sl.lit,hrow1,hc1]
    rw[hd]
    exact toCl_sound h hcl hsu
   ·cases hc
  ·cases hc
 ·cases hc
theorem readCl_sound(h:HR P w0 R0 bl vs R ow st.boxes st.ents w){k:K}{s:SV (sem T)}{c:CS}(hc:readCl P st.boxes st.ents k s=some c){v:Value}(hs:SVR bl vs s v):
  Rd P w (fun b=>b<w.heap.size) c.toD k v:=by
 unfold readCl at hc
 split at hc
 ·rename_i c' hc'
  cases hc
  exact toCl_sound h hc' hs
 ·split at hc
  ·rename_i c' hc'
   cases hc
   exact Lt.rd (fun _ _ hb=>hb) (lentCl_sound (Z:=fun _=>True) h hc' hs fun _ _ _ _=>trivial)
  ·split at hc
   ·rename_i c' hc'
    cases hc
    exact deepCl_sound h hc' hs
   ·exact bslCl_sound h hc hs
theorem toClK_sound(h:HR P w0 R0 bl vs R ow st.boxes st.ents w){p:K×Bool}{s:SV (sem T)}{c:CS}(hc:toClK P st.boxes st.ents p s=some c){v:Value}(hs:SVR bl vs s v){Z:Nat->Prop}(hZ:∀id,s= .sl id->∀b,ow b=some (.ent id)->Z b):
  ArgCell P w Z p v c.toD:=by
 unfold toClK at hc
 unfold ArgCell
 split at hc
 ·rename_i hp
  rw[if_pos hp]
  exact lentCl_sound h hc hs hZ
 ·rename_i hp
  rw[if_neg hp]
  exact readCl_sound h hc hs
theorem toClsK_sound(h:HR P w0 R0 bl vs R ow st.boxes st.ents w){Z:Nat->Prop}{ids:List Nat}(hZ:∀id∈ids,∀b,ow b=some (.ent id)->Z b):∀{l:List (K×Bool)}{s:List (SV (sem T))}{cs:List CS},toClsK P st.boxes st.ents l s=some cs->(∀id,SV.sl id∈s->id∈ids)->∀{v:List Value},SVRs bl vs s v->
  ArgCells P w Z l v (cs.map Cl.toD)
 |[],[],cs,hc,_,v,hs=>by
  simp only[toClsK,Option.some.injEq]at hc
  subst hc
  cases v with
  |nil=>trivial
  |cons=>exact hs.elim
 | p::l,x::s,cs,hc,hid,v,hs=>by
  cases v with
  |nil=>exact hs.elim
  | cons u v=>
   simp only[toClsK]at hc
   split at hc
   ·rename_i c cs' hc1 hcs
    cases hc
    exact⟨toClK_sound h hc1 hs.1 fun id e=>hZ id (hid id (by simp[e])),toClsK_sound h hZ hcs (fun id hm=>hid id (by simp[hm])) hs.2⟩
   ·cases hc
 |[],_::_,_,hc,_,_,_=>by simp[toClsK]at hc
 |_::_,[],_,hc,_,_,_=>by simp[toClsK]at hc
theorem argsClK_sound(h:HR P w0 R0 bl vs R ow st.boxes st.ents w){Z:Nat->Prop}{ids:List Nat}(hZ:∀id∈ids,∀b,ow b=some (.ent id)->Z b):∀{shs:List VSh}{s:List (SV (sem T))}{cs:List CS},argsClK P st.boxes st.ents shs s=some cs->(∀id,id∈s.flatMap idsV->id∈ids)->∀{v:List Value},SVRs bl vs s v->
  ArgVs P w Z shs v (cs.map Cl.toD)
 |[],[],cs,hc,_,v,hs=>by
  simp only[argsClK,Option.some.injEq]at hc
  subst hc
  cases v with
  |nil=>rfl
  |cons=>exact hs.elim
 | sh ::shs,x::s,cs,hc,hid,v,hs=>by
  cases v with
  |nil=>exact hs.elim
  | cons u v=>
   simp only[argsClK]at hc
   split at hc
   ·rename_i c cs' hc1 hcs
    cases hc
    refine⟨c.map Cl.toD,cs'.map Cl.toD,by simp, ?_,argsClK_sound h hZ hcs (fun id hm=>hid id (by simp only[List.flatMap_cons,List.mem_append];exact .inr hm)) hs.2⟩
    have hx:∀id,id∈idsV x->id∈ids:=fun id hm=>hid id (by simp only[List.flatMap_cons,List.mem_append];exact .inl hm)
    cases sh with
    | cell k o=>
     have hc1:(toClK P st.boxes st.ents (k,o) x).map (fun c=>[c])=some c:=by
      unfold argClK at hc1
      exact hc1
     cases hk:toClK P st.boxes st.ents (k,o) x with
     |none=>rw[hk]at hc1;cases hc1
     |some c0=>
      rw[hk]at hc1
      cases hc1
      exact⟨toClK_sound h hk hs.1 fun id e=>hZ id (hx id (by rw[e];simp[idsV])),trivial⟩
    | agg l=>
     cases x with
     |agg ys=>
      obtain⟨cs0,rfl,hsv⟩:=hs.1
      exact⟨cs0,rfl,toClsK_sound h hZ hc1 (fun id hm=>hx id (by simp only[idsV,List.mem_filterMap];exact⟨_,hm,rfl⟩)) hsv⟩
     |_=>cases hc1
   ·cases hc
 |[],_::_,_,hc,_,_,_=>by simp[argsClK]at hc
 |_::_,[],_,hc,_,_,_=>by simp[argsClK]at hc
theorem ArgCells.res{Z:Nat->Prop}:∀{l:List (K×Bool)}{n:Nat}{v:List Value}{d:List D},(∀p∈l,p.2=false)->ArgCells P w Z l v d->ResCells P w (fun b=>b<w.heap.size) (fun _=>none) n l v d
 |[],n,[],[],_,_=>trivial
 | (k,o)::l,n,v::vs,d::ds,ho,h=>by
  have e:o=false:=ho (k,o) (by simp)
  subst e
  refine⟨?_,ArgCells.res (fun p hp=>ho p (by simp[hp])) h.2⟩
  have h1:Rd P w (fun b=>b<w.heap.size) d k v:=by
   have:=h.1
   unfold ArgCell at this
   simpa using this
  cases k<;>exact h1
 |[],_,_::_,_,_,h=>h.elim
 |[],_,[],_::_,_,h=>h.elim
 |_::_,_,[],_,_,h=>h.elim
 |_::_,_,_::_,[],_,h=>h.elim
theorem ArgVs.res{Z:Nat->Prop}:∀{l:List VSh}{n:Nat}{v:List Value}{d:List D},l.all roSh=true->ArgVs P w Z l v d->ResVs P w (fun b=>b<w.heap.size) (fun _=>none) n l v d
 |[],n,[],d,_,h=>h
 |sh::l,n,v::vs,d,ho,h=>by
  simp only[List.all_cons,Bool.and_eq_true]at ho
  obtain⟨d1,d2,hd,h1,h2⟩:=h
  refine⟨d1,d2,hd, ?_,ArgVs.res ho.2 h2⟩
  cases sh with
  |cell k own=>exact ArgCells.res (fun p hp=>by simp only[List.mem_singleton]at hp;subst hp;simpa[roSh]using ho.1) h1
  |agg l'=>obtain⟨cs,hv,hc⟩:=h1;exact⟨cs,hv,ArgCells.res (fun p hp=>by have:=ho.1;simp only[roSh,List.all_eq_true]at this;simpa using this p hp) hc⟩
 |[],_,_::_,_,_,h=>h.elim
 |_::_,_,[],_,_,h=>h.elim
theorem ConOK.kept{f:FuncId}{sg:Sig}{pr:Pred}(hc:ConOK P f sg pr)(hro:sg.args.all roSh=true):KeptOK P f sg pr:=fun w vals ds hg ha hp=>hc w (fun b=>b<w.heap.size) vals ds hg (fun _ x=>x) (ha.res hro) hp
theorem callK_sound{cfg:Cfg}{f:FuncId}{sg:Sig}(hcon:KeptOK cfg.P f sg (T f))(h:HR cfg.P w0 R0 bl vs R ow st.boxes st.ents w){args:List (SV (sem T))}{vals:List Value}(hv:SVRs bl vs args vals)
  {k:SV (sem T)->St (sem T)->Tree (sem T)} (hd:(callK cfg f sg args st k).den):CallOk cfg.P w0 R0 bl vs ow st w f vals k:=by
 unfold callK at hd
 split at hd
 ·rename_i hflat
  split at hd
  ·rename_i cs hcs
   obtain⟨hpre,hd⟩:=hd
   have hargs:=argsClK_sound h (Z:=fun _=>True) (ids:=args.flatMap idsV) (fun _ _ _ _=>trivial) hcs (fun _ x=>x) hv
   refine(hcon w vals (cs.map Cl.toD) h.look.glb hargs hpre).mono ?_
   rintro e w' ⟨v,rs,rfl,hpost,hbel,vals',R',ow',rfl,r1,r2,r3,r4,hres⟩
   have hg:=h.grow hbel
   have hres':=ResVs.flat (R2:=R) hflat hres
   obtain⟨svs,rcs,st',vs',ow2,hS2,ht2,hsv,hrc,hd2⟩:=freshVs_sound hg hres' (fun m b _ hb=>by
    have:=(r4 b _ hb).1
    refine⟨Nat.le_trans h.below.size this, ?_,fun hr=>by have:=h.rlt b hr;omega⟩
    cases hob:ow b with
    |none=>rfl
    |some o=>have:=(h.olt b o hob).2;omega) hd
   refine⟨_,rfl,one svs,st',bl,vs',R,ow2,hS2,ht2,one_sound hsv, ?_⟩
   refine hd2 ?_
   show(T f).post (cs.map Cl.toD) (rcs.map Cl.toD)
   rw[hrc];exact hpost
  ·exact hd.elim
 ·exact hd.elim
theorem HR.over{boxes:List (Box (sem T))}{ents:List (Ent (sem T))}(h:HR P w0 R0 bl vs R ow boxes ents w){Z:Nat->Prop}{ids:List Nat}{w':World}(hZ:∀b,Z b->∃i∈ids,ow b=some (.ent i))(hd:∀(i:Nat)(e:Ent (sem T)),ents[i]? =some e->e.live=true->i∉ids)(hb:BelowX Z w w'):HR P w0 R0 bl vs R ow boxes ents w':=by
 have nz:∀b,(∀i,i∈ids->ow b≠some (.ent i))->¬Z b:=fun b hn hz=>by
  obtain⟨i,hi,e⟩:=hZ b hz
  exact hn i hi e
 have kR:∀b,R b->w'.heap[b]? =w.heap[b]? :=fun b hr=>hb.block b (h.rlt b hr) (nz b fun i _ e=>by rw[h.ro b hr]at e;cases e)
 have kO:∀b o,ow b=some o->(∀i,i∈ids->o≠ .ent i)->w'.heap[b]? =w.heap[b]? :=fun b o ho hn=>hb.block b (h.olt b o ho).2 (nz b fun i hi e=>by rw[ho]at e;cases e;exact hn i hi rfl)
 exact{
  below:=⟨hb.os.trans h.below.os,hb.tape.trans h.below.tape,hb.output.trans h.below.output,Nat.le_trans h.below.size hb.size,fun b hlt=>(hb.block b (Nat.lt_of_lt_of_le hlt h.below.size) (nz b fun i _ e=>by have:=(h.olt b _ e).1;omega)).trans (h.below.block b hlt)⟩
  rlt:=fun b hr=>Nat.lt_of_lt_of_le (h.rlt b hr) hb.size
  r0:=h.r0
  rsub:=h.rsub
  ro:=h.ro
  olt:=fun b o ho=>⟨(h.olt b o ho).1,Nat.lt_of_lt_of_le (h.olt b o ho).2 hb.size⟩
  nb:=h.nb
  nv:=h.nv
  vsl:=h.vsl
  glb:=h.glb
  box:=fun i bx hi hl=>by
   obtain⟨b,cs,h1,h2,h3,h4⟩:=h.box i bx hi hl
   exact⟨b,cs,h1,h2,(kO b _ h2 fun _ _ e=>by cases e).trans h3,h4⟩
  ent:=fun i e hi hl=>by
   obtain⟨v,hv,h1,h2⟩:=h.ent i e hi hl
   exact⟨v,hv,fun ho=>(h1 ho).mono (fun _ x=>x) kR,fun ho=>(h2 ho).mono (fun _ x=>x) kR fun b hb'=>⟨hb',kO b _ hb' fun j hj e'=>by cases e';exact hd i e hi hl hj⟩⟩
  mrk:=fun b hb'=>(kO b _ hb' fun _ _ e=>by cases e).trans (h.mrk b hb')
  lp:=fun i L hi=>by
   obtain⟨bx,b,h1,h2,h3,h4,h5⟩:=h.lp i L hi
   exact⟨bx,b,h1,h2,h3,h4,h5.mono (kO b _ h4 fun _ _ e=>by cases e) (fun _ _ x=>x) (fun _ _ x=>x)⟩}
theorem callOver_sound{f:FuncId}{sg:Sig}(hcon:OverOK P f sg)(h:HR P w0 R0 bl vs R ow st.boxes st.ents w){args:List (SV (sem T))}{vals:List Value}(hv:SVRs bl vs args vals)
  {k:SV (sem T)->St (sem T)->Tree (sem T)} (hd:(callOver P f sg args st k).den):CallOk P w0 R0 bl vs ow st w f vals k:=by
 unfold callOver at hd
 split at hd
 ·split at hd
  ·rename_i cs hcs
   have hargs:=argsClK_sound h (Z:=fun b=>∃i∈args.flatMap idsV,ow b=some (.ent i)) (ids:=args.flatMap idsV) (fun id hm b hb=>⟨id,hm,hb⟩) hcs (fun _ x=>x) hv
   refine(hcon w _ vals (cs.map Cl.toD) h.look.glb hargs).mono ?_
   rintro e w' ⟨rfl,hbel⟩
   obtain⟨hS,ht⟩:=h.kills (args.flatMap idsV)
   have hr:=hS.hr.over (ids:=args.flatMap idsV) (fun _ hz=>hz) (fun i e hi hl=>killEnts_dead _ hi hl) hbel
   exact⟨_,rfl, .tup [],_,bl,vs,R,ow,⟨hr,fun _ _ x=>x,fun _ _ x=>x,hS.ext,fun _ x=>x⟩,ht,⟨#[],rfl,trivial⟩,hd⟩
  ·exact hd.elim
 ·exact hd.elim
theorem callC_sound{cfg:Cfg}{f:FuncId}{sg:Sig}(hcon:ConOK cfg.P f sg (T f))(hro:sg.args.all roSh=true)(h:HR cfg.P w0 R0 bl vs R ow st.boxes st.ents w){args:List (SV (sem T))}{vals:List Value}(hv:SVRs bl vs args vals)
  {k:SV (sem T)->St (sem T)->Tree (sem T)} (hd:(callC cfg f sg args st k).den):CallOk cfg.P w0 R0 bl vs ow st w f vals k:=by
 unfold callC at hd
 split at hd
 ·exact callK_sound (hcon.kept hro) h hv hd
 rename_i hflat
 have hflat:sg.flat cfg.P=false:=by simpa using hflat
 simp only at hd
 obtain⟨R1,ow1,hS,htm⟩:∃R1 ow1,Stp cfg.P w0 R0 bl vs ow st bl vs R1 ow1 (callSt cfg.P sg args st) w/\(callSt cfg.P sg args st).tmps=st.tmps:=by
  unfold callSt
  split
  ·exact⟨R,ow,(Stp.refl h),rfl⟩
  ·obtain⟨R1,ow1,h1,h2,_⟩:=h.freezes (args.flatMap idsV)
   exact⟨R1,ow1,h1,h2⟩
 split at hd
 ·rename_i cs hcs
  obtain⟨hpre,hd⟩:=hd
  have hno:∀(i:Nat)(e:Ent (sem T)),i∈args.flatMap idsV->(callSt cfg.P sg args st).ents[i]? =some e->e.live=true->isM e.elem=false->e.own=false:=by
   intro i e hm hi hl hM
   unfold callSt at hi
   rw[hflat]at hi
   simp only[Bool.false_eq_true,if_false]at hi
   exact freezeIds_noown _ hm hi hl hM
  have hargs:=argsCl_sound (P:=cfg.P) (w:=w) (R1:=R1) (n:=0) (ids:=args.flatMap idsV) (fun h1 h2 h4 _ h3=>toCls_cellsR hS.hr hno h1 h2 h4 h3) hcs hro (fun _ x=>x) hv
  refine(hcon w R1 vals (cs.map Cl.toD) hS.hr.look.glb hS.hr.rlt hargs hpre).mono ?_
  rintro e w' ⟨v,rs,rfl,hpost,hbel,vals',R',ow',rfl,r1,r2,r3,r4,hres⟩
  have hg:=hS.hr.grow hbel
  have hfree:∀b,w.heap.size<=b->ow1 b=none:=fun b hb=>by
   cases hob:ow1 b with
   |none=>rfl
   |some o=>have:=(hS.hr.olt b o hob).2;omega
  have hg2:=HR.addR hg r1 (fun b hb=>(r2 b hb).imp id (fun hh=>⟨Nat.le_trans h.below.size hh.1,hh.2,hfree b hh.1⟩))
  obtain⟨svs,rcs,st',vs',ow2,hS2,ht2,hsv,hrc,hd2⟩:=freshVs_sound hg2 hres (fun m b _ hb=>by
   have:=(r4 b _ hb).1
   exact⟨Nat.le_trans h.below.size this,hfree b this,fun hr=>by rw[r3 b hr]at hb;cases hb⟩) hd
  refine⟨_,rfl,one svs,st',bl,vs',R',ow2,⟨hS2.hr,hS2.bl,hS2.vs,hS.ext.trans hS2.ext,fun b hb=>hS2.mrk b (hS.mrk b hb)⟩,ht2.trans htm,one_sound hsv, ?_⟩
  refine hd2 ?_
  show(T f).post (cs.map Cl.toD) (rcs.map Cl.toD)
  rw[hrc];exact hpost
 ·exact hd.elim
end Go.Sx
namespace Go.Sx
open Go.RowKit (Below)
variable{T:FuncId->Pred}{w0:World}{R0:Bs T}
def InsOK(P:Program)(f:FuncId)(e:TypeId):Prop:=
 ∀ (w:World)(R:Nat->Prop)(d r:Sl)(a:Option Addr)(cap vb vcap i:Nat)(vcs:Array Value)(ks:List K)(inf:TypeInfo)(z:Value),
  kinds P e=some ks->0<ks.length->P.info? e=some inf->inf.size=ks.length->inf.zero=some z->z.cells.size=ks.length->0<inf.bytes->DstOk P w R e d a cap->i<=d.n->0<r.n->r.n<=min vcap 140737488355328->vcap<=maxLen->
  w.heap[vb]? =some (.cells vcs e (0,0))->vcs.size=vcap*ks.length->(∀j k kk,j<r.n->ks[k]? =some kk->∃u,vcs[j*ks.length+k]? =some u/\Rd P w R (r.f j k) kk u)->(∀b,a=some ⟨b,0,none⟩->0<cap->b≠vb)->(d.n+r.n)*inf.bytes<=140737488355328->
  Calls P f #[.slice a d.n cap, .int .i64 i, .slice (some ⟨vb,0,none⟩) r.n vcap] w fun en w'=>∃v,en= .returned v/\
   ((∃b cs cs',a=some ⟨b,0,none⟩/\0<cap/\d.n+r.n<=cap/\w.heap[b]? =some (.cells cs e (0,0))/\v= .slice a (d.n+r.n) cap/\Below (w.setRow b cs').heap.size (w.setRow b cs') w'/\cs'.size=cap*ks.length/\
    ∀j k kk,j<d.n+r.n->ks[k]? =some kk->∃u,cs'[j*ks.length+k]? =some u/\Rd P w R ((Sl.app (Sl.app (Sl.part d 0 i) r) (Sl.part d i d.n)).f j k) kk u)\/
   (∃cap' cs',v= .slice (some ⟨w.heap.size,0,none⟩) (d.n+r.n) cap'/\Below w.heap.size w w'/\w'.heap[w.heap.size]? =some (.cells cs' e (0,0))/\d.n+r.n<=cap'/\cap'<=maxLen/\cs'.size=cap'*ks.length/\
    ∀j k kk,j<d.n+r.n->ks[k]? =some kk->∃u,cs'[j*ks.length+k]? =some u/\Rd P w R ((Sl.app (Sl.app (Sl.part d 0 i) r) (Sl.part d i d.n)).f j k) kk u))
def PrimOk(T:FuncId->Pred)(P:Program)(f:FuncId):Prim->Prop
 | .ins e=>InsOK P f e
 | .kept sg=>KeptOK P f sg (T f)
 | .over sg=>OverOK P f sg
def SigOk(T:FuncId->Pred)(cfg:Cfg):Prop:=(∀g sg,cfg.sig g=some sg->ConOK cfg.P g sg (T g)/\sg.args.all roSh=true)/\∀g p,cfg.prim g=some p->PrimOk T cfg.P g p
def markD(b:Nat):Deferred:={target:= .collected b,args:= #[]}
def DR(ow:Nat->Option Owner)(a:Act):Prop:=∃Ds:List Nat,a.defers=Ds.map markD/\(∀d∈Ds,ow d=some (.mark 0 mkO))/\Ds.Nodup
def TD(bl:List Nat)(vs:List Value)(ow:Nat->Option Owner)(tmps:List (SV (sem T)))(a:Act):Prop:=DR ow a/\SVRs bl vs tmps a.tmps.toList
theorem TD.tr{bl:List Nat}{vs:List Value}{ow:Nat->Option Owner}{tmps:List (SV (sem T))}{a:Act}(h:TD bl vs ow tmps a):TR bl vs tmps a:=⟨trivial,h.2⟩
theorem DR.mono{ow ow':Nat->Option Owner}{a:Act}(h:DR ow a)(hm:∀{l:Nat}{mo:Obj} b,ow b=some (.mark l mo)->ow' b=some (.mark l mo)):DR ow' a:=by
 obtain⟨Ds,h1,h2,h3⟩:=h
 exact⟨Ds,h1,fun d hd=>hm d (h2 d hd),h3⟩
def InlC(cfg:Cfg)(w0:World)(R0:Bs T)(inl:Inl (sem T)):Prop:=
 (∀(path:Nat)(f:FuncId)(args:List (SV (sem T)))(vals:List Value)(st:St (sem T))(k:SV (sem T)->St (sem T)->Tree (sem T))(bl:List Nat)(vs:List Value)(R:Nat->Prop)(ow:Nat->Option Owner)(w:World),
  HR cfg.P w0 R0 bl vs R ow st.boxes st.ents w->SVRs bl vs args vals->(inl path (.fn f) args st k).den->CallOk cfg.P w0 R0 bl vs ow st w f vals k)/\
 ∀(path i:Nat)(args:List (SV (sem T)))(st:St (sem T))(k:SV (sem T)->St (sem T)->Tree (sem T)),¬(inl path (.yld i) args st k).den
def YieldOk(P:Program)(w0:World)(R0:Bs T)(bl:List Nat)(vs:List Value)(ow:Nat->Option Owner)(st:St (sem T))(w:World)(i:Nat)(vals:List Value)(k:SV (sem T)->St (sem T)->Tree (sem T)):Prop:=
 ∃b,bl[i]? =some b/\∃fn tmps assign body,(Instr.yield b vals.toArray).run P w= .ok (.round b fn tmps assign body) w/\
  ∀n,RoundIn Fence.wide n P b fn tmps assign body w fun e w'=>∃v,e= .returned v/\∃sv st' bl' vs' R' ow',Stp P w0 R0 bl vs ow st bl' vs' R' ow' st' w'/\st'.tmps=st.tmps/\SVR bl' vs' sv v/\(k sv st').den
def InlOk(cfg:Cfg)(w0:World)(R0:Bs T)(inl:Inl (sem T)):Prop:=
 ∀ (path:Nat)(g:Fi)(args:List (SV (sem T)))(vals:List Value)(st:St (sem T))(k:SV (sem T)->St (sem T)->Tree (sem T))(bl:List Nat)(vs:List Value)(R:Nat->Prop)(ow:Nat->Option Owner)(w:World),
  HR cfg.P w0 R0 bl vs R ow st.boxes st.ents w->SVRs bl vs args vals->(inl path g args st k).den->match g with
   | .fn f=>CallOk cfg.P w0 R0 bl vs ow st w f vals k
   | .yld i=>YieldOk cfg.P w0 R0 bl vs ow st w i vals k
def Reach(P:Program)(w0:World)(R0:Bs T)(bl:List Nat)(vs:List Value)(ow:Nat->Option Owner)(st:St (sem T))(Kp:St (sem T)->Prop)(a':Act)(w':World):Prop:=
 ∃bl' vs' R' ow' st',Stp P w0 R0 bl vs ow st bl' vs' R' ow' st' w'/\TD bl' vs' ow' st'.tmps a'/\Kp st'
section
variable{P:Program}{w:World}{R:Nat->Prop}{bl:List Nat}{vs:List Value}{ow:Nat->Option Owner}{st:St (sem T)}{a:Act}
def Keeps(D:List Nat)(a a':Act):Prop:=a'.tmps.size=a.tmps.size/\∀t,t∉D->a'.tmps[t]? =a.tmps[t]?
theorem Keeps.refl(D:List Nat)(a:Act):Keeps D a a:=⟨rfl,fun _ _=>rfl⟩
theorem Keeps.trans{D:List Nat}{a b c:Act}(h:Keeps D a b)(k:Keeps D b c):Keeps D a c:=⟨k.1.trans h.1,fun t ht=>(k.2 t ht).trans (h.2 t ht)⟩
theorem Keeps.mono{D D':List Nat}{a b:Act}(h:Keeps D a b)(hD:∀t,t∈D->t∈D'):Keeps D' a b:=⟨h.1,fun t ht=>h.2 t (fun hh=>ht (hD t hh))⟩
theorem Keeps.put{D:List Nat}{a:Act}{d:Option Nat}{v:Value}(h:∀x,d=some x->x∈D):Keeps D a (a.put d v):=⟨by cases d<;>simp[Act.put],fun t ht=>by
 cases d with
 |none=>rfl
 |some d=>
  simp only[Act.put]
  rw[Array.getElem?_setIfInBounds_ne (fun e:d=t=>ht (by rw[<-e];exact h d rfl))]⟩
theorem Reach.of{bl1:List Nat}{vs1:List Value}{R1:Nat->Prop}{ow1:Nat->Option Owner}{st1:St (sem T)}{w1:World}{Kp:St (sem T)->Prop}{a':Act}{w':World}(h:Stp P w0 R0 bl vs ow st bl1 vs1 R1 ow1 st1 w1)(hr:Reach P w0 R0 bl1 vs1 ow1 st1 Kp a' w'):Reach P w0 R0 bl vs ow st Kp a' w':=by
 obtain⟨bl',vs',R',ow',st',h1,h2,h3⟩:=hr
 exact⟨bl',vs',R',ow',st',h.trans h1,h2,h3⟩
theorem SVRs.set:∀{s:List (SV (sem T))}{v:List Value}{i:Nat}{x:SV (sem T)}{u:Value},SVRs bl vs s v->SVR bl vs x u->SVRs bl vs (s.set i x) (v.set i u)
 |[],[],_,_,_,_,_=>by simp[SVRs]
 |_::_,_::_,0,_,_,h,hx=>⟨hx,h.2⟩
 |_::_,_::_,i+1,_,_,h,hx=>⟨h.1,h.2.set hx⟩
 |[],_::_,_,_,_,h,_=>h.elim
 |_::_,[],_,_,_,h,_=>h.elim
theorem TD.put(h:TD bl vs ow st.tmps a)(d:Option Nat){sv:SV (sem T)}{v:Value}(hs:SVR bl vs sv v):TD bl vs ow (setTmp st d sv).tmps (a.put d v):=by
 cases d with
 |none=>exact h
 |some d=>
  refine⟨?_,by simp only[setTmp,Act.put,Array.toList_setIfInBounds];exact h.2.set hs⟩
  obtain⟨Ds,h1,h2⟩:=h.1
  exact⟨Ds,h1,h2⟩
theorem TD.mono{bl':List Nat}{vs':List Value}{ow':Nat->Option Owner}(h:TD bl vs ow st.tmps a)(hb:∀(i:Nat)(b:Nat),bl[i]? =some b->bl'[i]? =some b)(hv:∀(i:Nat)(b:Value),vs[i]? =some b->vs'[i]? =some b)
  (hm:∀{l:Nat}{mo:Obj} b,ow b=some (.mark l mo)->ow' b=some (.mark l mo)):TD bl' vs' ow' st.tmps a:=
 ⟨h.1.mono hm,h.2.mono hb hv⟩
theorem TD.same(h:TD bl vs ow st.tmps a){d:Nat}{sv:SV (sem T)}(hs:∀v,a.tmps[d]? =some v->SVR bl vs sv v):TD bl vs ow (st.tmps.set d sv) a:=by
 refine⟨h.1, ?_⟩
 have key:∀(s:List (SV (sem T)))(l:List Value)(d:Nat),SVRs bl vs s l->(∀v,l[d]? =some v->SVR bl vs sv v)->SVRs bl vs (s.set d sv) l:=by
  intro s
  induction s with
  |nil=>intro l d h _;simpa using h
  | cons x s ih=>
   intro l d h hs
   cases l with
   |nil=>exact h.elim
   |cons v l=>
    cases d with
    |zero=>exact⟨hs v rfl,h.2⟩
    |succ d=>exact⟨h.1,ih l d h.2 (fun u hu=>hs u (by simpa using hu))⟩
 exact key _ _ _ h.2 (fun v hv=>hs v (by simpa using hv))
theorem stepOp_sound{cfg:Cfg}{inl:Inl (sem T)}(hsig:SigOk T cfg)(hinl:InlC cfg w0 R0 inl){path:Nat}{o:Oper}(h:HR cfg.P w0 R0 bl vs R ow st.boxes st.ents w)(ht:TD bl vs ow st.tmps a)
  {kk:SV (sem T)->St (sem T)->Tree (sem T)} (hd:(stepOp cfg inl path st o kk).den) (Q:Exit->Act->World->Prop):
  o.wp cfg.P a w (fun a' w'=>∃v sv st' bl' vs' R' ow',a'=a.put o.dst v/\Stp cfg.P w0 R0 bl vs ow st bl' vs' R' ow' st' w'/\st'.tmps=st.tmps/\SVR bl' vs' sv v/\(kk sv st').den) Q:=by
 unfold stepOp at hd
 split at hd
 ·rename_i p hp
  obtain⟨hns,hd⟩:=needs_den.1 hd
  obtain⟨v,hr,hs,hg⟩:=pure_sound h.look ht.tr hp hns
  unfold Oper.wp
  rw[hr]
  exact⟨v,p.v,st,bl,vs,R,ow,rfl,(Stp.refl h),rfl,hs,(givens_den.1 hd) hg⟩
 ·split at hd
  ·rename_i f args hc
   split at hd
   ·rename_i hgo
    have hcall:∃vals,SVRs bl vs args vals/\(execOp a.eval o).run cfg.P w= .ok (.enter f vals.toArray) w:=by
     unfold callee at hc
     split at hc
     ·rename_i fo as tys ho
      split at hc
      ·rename_i g caps hfo
       cases hc
       have hf:=ev_sound ht.tr fo
       rw[hfo]at hf
       obtain⟨cs,hfv,hcs⟩:=hf
       refine⟨as.toList.map a.eval++cs.toList,(evs_sound ht.tr as.toList).append hcs, ?_⟩
       unfold goBody at hgo
       split at hgo
       ·rename_i fn hfn
        simp only[Bool.and_eq_true,bne_iff_ne,ne_eq]at hgo
        have hbn:fn.body.isNone=false:=by
         cases hb:fn.body with
         |none=>rw[hb]at hgo;simp at hgo
         |some _=>rfl
        have hne:(fn.name== "runtime.NumGoroutine")=false:=by simpa using hgo.1
        simp only[execOp,ho,resolve,hfv,Deferred.ofValue,invoke,callFunc,Sem.run_bind,Sem.run_pure,Result.andThen_ok,run_program,hfn,hne,hbn,Bool.false_eq_true,if_false]
        congr 2
        rw[<-Array.toList_inj]
        simp
       ·cases hgo
      ·rename_i g caps hfo
       cases hc
       have hf:=ev_sound ht.tr fo
       rw[hfo]at hf
       obtain⟨cs,hfv,hcs⟩:=hf
       refine⟨cs.toList++as.toList.map a.eval,hcs.append (evs_sound ht.tr as.toList), ?_⟩
       unfold goBody at hgo
       split at hgo
       ·rename_i fn hfn
        simp only[Bool.and_eq_true,bne_iff_ne,ne_eq]at hgo
        have hbn:fn.body.isNone=false:=by
         cases hb:fn.body with
         |none=>rw[hb]at hgo;simp at hgo
         |some _=>rfl
        have hne:(fn.name== "runtime.NumGoroutine") = false:=by simpa using hgo.1
        simp only[execOp,ho,resolve,hfv,Deferred.ofValue,invoke,callFunc,Sem.run_bind,Sem.run_pure,Result.andThen_ok,run_program,hfn,hne,hbn,Bool.false_eq_true,if_false]
        congr 2
        rw[<-Array.toList_inj]
        simp
       ·cases hgo
      ·cases hc
      ·cases hc
     ·cases hc
    obtain⟨vals,hvals,hrun⟩:=hcall
    have hok:CallOk cfg.P w0 R0 bl vs ow st w f vals kk:=by
     split at hd
     ·rename_i sg hsg
      obtain⟨h1,h2⟩:=hsig.1 f sg hsg
      exact callC_sound h1 h2 h hvals hd
     ·exact hinl.1 path f args vals st kk bl vs R ow w h hvals hd
    unfold Oper.wp
    rw[hrun,Oper.upon_enter]
    refine hok.mono ?_
    rintro e w' ⟨v,rfl,sv,st',bl',vs',R',ow',g1,g2,g3,g4⟩
    exact⟨v,sv,st',bl',vs',R',ow',rfl,g1,g2,g3,g4⟩
   ·exact hd.elim
  ·exact(hinl.2 _ _ _ _ _ hd).elim
  ·obtain⟨v,w',hr,sv,st',bl',vs',R',ow',g1,g2,g3,g4⟩:=eff_sound h ht.tr hd
   unfold Oper.wp
   rcases hr with hr|⟨hr,rfl⟩
   ·rw[hr];exact⟨v,sv,st',bl',vs',R',ow',rfl,g1,g2,g3,g4⟩
   ·rw[hr];exact⟨undef,sv,st',bl',vs',R',ow',rfl,g1,g2,g3,g4⟩
theorem tmp_get(ht:TD bl vs ow st.tmps a){d:Nat}{s:SV (sem T)}(h:st.tmps[d]? =some s):∃v,a.tmps[d]? =some v/\SVR bl vs s v:=by
 obtain⟨v,hv,hs⟩:=ht.2.get h
 exact⟨v,by simpa using hv,hs⟩
theorem guardK_sound{ops:Array Oper}{o:Oper}(h:HR P w0 R0 bl vs R ow st.boxes st.ents w)(ht:TD bl vs ow st.tmps a){yes no:St (sem T)->Tree (sem T)}(hd:(guardK ops o st yes no).den):
  ∃st1,Stp P w0 R0 bl vs ow st bl vs R ow st1 w/\TD bl vs ow st1.tmps a/\((Region.wanted o (yielded ops a.tmps)=true/\(yes st1).den)\/(Region.wanted o (yielded ops a.tmps)=false/\(no st1).den)):=by
 have hS:Stp P w0 R0 bl vs ow st bl vs R ow st w:=(Stp.refl h)
 unfold guardK at hd
 split at hd
 ·rename_i hg
  exact⟨st,hS,ht, .inl ⟨by simp[Region.wanted,hg],hd⟩⟩
 ·rename_i j want hg
  split at hd
  ·rename_i hj
   exact⟨st,hS,ht, .inr ⟨by simp[Region.wanted,hg,yielded,hj],hd⟩⟩
  ·rename_i d hj
   split at hd
   ·rename_i b hb
    obtain⟨v,hv,hs⟩:=tmp_get ht hb
    have hs:v= .bool b:=hs
    subst hs
    have hy:yielded ops a.tmps j=some b:=by simp[yielded,hj,hv]
    split at hd
    ·rename_i hbw
     have:b=want:=by simpa using hbw
     exact⟨st,hS,ht, .inl ⟨by simp[Region.wanted,hg,hy,this],hd⟩⟩
    ·rename_i hbw
     have:b≠want:=by simpa using hbw
     exact⟨st,hS,ht, .inr ⟨by simp[Region.wanted,hg,hy,this],hd⟩⟩
   ·rename_i b hb
    obtain⟨v,hv,hs⟩:=tmp_get ht hb
    have hs:v= .bool b.b:=hs
    subst hs
    have hy:yielded ops a.tmps j=some b.b:=by simp[yielded,hj,hv]
    obtain⟨hd1,hd2⟩:=hd
    have hlit:∀c:Bool,b.b=c->TD bl vs ow (st.tmps.set d (.blit c)) a:=fun c hc=>ht.same (fun u hu=>by rw[hv]at hu;cases hu;exact congrArg Value.bool hc)
    have hst:∀c:Bool,Stp P w0 R0 bl vs ow st bl vs R ow {st with tmps:=st.tmps.set d (.blit c)} w:=fun c=>⟨h,fun _ _ x=>x,fun _ _ x=>x,⟨(Ext.refl st).box,(Ext.refl st).ent⟩,fun _ x=>x⟩
    by_cases hp:b.p
    ·have hbt:b.b=true:=by simp[PB.b,hp]
     have hd1:=hd1 hp
     refine⟨_,hst true,hlit true hbt, ?_⟩
     cases want with
     |true=>exact .inl ⟨by simp[Region.wanted,hg,hy,hbt],hd1⟩
     |false=>exact .inr ⟨by simp[Region.wanted,hg,hy,hbt],hd1⟩
    ·have hbt:b.b=false:=by simp[PB.b,hp]
     have hd2:=hd2 hp
     refine⟨_,hst false,hlit false hbt, ?_⟩
     cases want with
     |true=>exact .inr ⟨by simp[Region.wanted,hg,hy,hbt],hd2⟩
     |false=>exact .inl ⟨by simp[Region.wanted,hg,hy,hbt],hd2⟩
   ·rename_i us hb
    obtain⟨v,hv,hs⟩:=tmp_get ht hb
    have hs:v= .tuple us:=hs
    subst hs
    have hy:yielded ops a.tmps j=none:=by simp[yielded,hj,hv]
    exact⟨st,hS,ht, .inr ⟨by simp[Region.wanted,hg,hy],hd⟩⟩
   ·exact hd.elim
theorem oneOp_sound{cfg:Cfg}{inl:Inl (sem T)}(hsig:SigOk T cfg)(hinl:InlC cfg w0 R0 inl){path:Nat}{ops:Array Oper}{o:Oper}(h:HR cfg.P w0 R0 bl vs R ow st.boxes st.ents w)(ht:TD bl vs ow st.tmps a)
  {k:St (sem T)->Tree (sem T)} (hd:(oneOp cfg inl path ops st o k).den) (Q:Exit->Act->World->Prop):
  if Region.wanted o (yielded ops a.tmps)then o.wp cfg.P a w (fun a' w'=>(∃v,a'=a.put o.dst v)/\Reach cfg.P w0 R0 bl vs ow st (fun st'=>(k st').den) a' w') Q else Reach cfg.P w0 R0 bl vs ow st (fun st'=>(k st').den) (a.put o.dst undef) w:=by
 unfold oneOp at hd
 obtain⟨st1,hS,ht1,hw|hw⟩:=guardK_sound h ht hd
 ·rw[if_pos hw.1]
  refine Oper.wp_mono ?_ (stepOp_sound hsig hinl hS.hr ht1 hw.2 Q)
  rintro a' w' ⟨v,sv,st',bl',vs',R',ow',rfl,g1,g2,g3,g4⟩
  refine⟨⟨v,rfl⟩,bl',vs',R',ow',setTmp st' o.dst sv, ?_, ?_,g4⟩
  ·have:=hS.trans g1
   cases hdst:o.dst with
   |none=>exact this
   |some d=>exact⟨this.hr,this.bl,this.vs,⟨this.ext.box,this.ext.ent⟩,this.mrk⟩
  ·have:TD bl' vs' ow' st'.tmps a:=by rw[g2];exact ht1.mono g1.bl g1.vs g1.mrk
   exact this.put o.dst g3
 ·rw[if_neg (by simp[hw.1])]
  refine⟨bl,vs,R,ow,setTmp st1 o.dst (.con (.tuple #[])), ?_,ht1.put o.dst rfl,hw.2⟩
  cases hdst:o.dst with
  |none=>exact hS
  |some d=>exact⟨hS.hr,hS.bl,hS.vs,⟨hS.ext.box,hS.ext.ent⟩,hS.mrk⟩
theorem decided_sound{x:Operand}(h:HR P w0 R0 bl vs R ow st.boxes st.ents w)(ht:TD bl vs ow st.tmps a){k:St (sem T)->Tree (sem T)}(hd:(decided x st k).den):
  ∃st1,Stp P w0 R0 bl vs ow st bl vs R ow st1 w/\TD bl vs ow st1.tmps a/\(k st1).den:=by
 have hS:Stp P w0 R0 bl vs ow st bl vs R ow st w:=(Stp.refl h)
 unfold decided at hd
 split at hd
 ·rename_i t
  split at hd
  ·rename_i b hb
   obtain⟨v,hv,hs⟩:=tmp_get ht hb
   have hs:v= .bool b.b:=hs
   subst hs
   have hlit:∀c:Bool,b.b=c->TD bl vs ow (st.tmps.set t (.blit c)) a:=fun c hc=>ht.same (fun u hu=>by rw[hv]at hu;cases hu;exact congrArg Value.bool hc)
   have hst:∀c:Bool,Stp P w0 R0 bl vs ow st bl vs R ow {st with tmps:=st.tmps.set t (.blit c)} w:=fun c=>⟨h,fun _ _ x=>x,fun _ _ x=>x,⟨(Ext.refl st).box,(Ext.refl st).ent⟩,fun _ x=>x⟩
   by_cases hp:b.p
   ·exact⟨_,hst true,hlit true (by simp[PB.b,hp]),hd.1 hp⟩
   ·exact⟨_,hst false,hlit false (by simp[PB.b,hp]),hd.2 hp⟩
  ·exact⟨st,hS,ht,hd⟩
 ·exact⟨st,hS,ht,hd⟩
end
def FZ(rnd:Option Nat):Fence:={Fence.wide with round:=rnd}
theorem callsIn_FZ{rnd:Option Nat}{n:Nat}{P:Program}{f:FuncId}{args:Array Value}{w:World}{R:Ending->World->Prop}:CallsIn (FZ rnd) n P f args w R↔Calls P f args w R:=callsIn_wide (n:=n)
theorem rowsIn_FZ{rnd:Option Nat}{n:Nat}{P:Program}{row:String}{args:Array Value}{w:World}{R:Value->World->Prop}(h:Rows P row args w R):RowsIn (FZ rnd) n P row args w R:=fun c cs _=>by
 obtain⟨v,w',h1,h2⟩:=h c cs
 exact⟨v,w',h1,stepsIn_wide.2 h2⟩
theorem opIn{P:Program}{rnd:Option Nat}{n:Nat}{o:Oper}{a:Act}{w:World}{next:Act->World->Prop}{Q:Exit->Act->World->Prop}(hd:∀c,o.op≠ .defer c)(h:o.wp P a w next Q):o.wpIn (FZ rnd) n P a w next Q:=by
 refine⟨fun f _=>trivial, ?_⟩
 rw[Oper.semAt_eq _ _ _ hd]
 unfold Oper.wp at h
 generalize(execOp a.eval o).run P w=r at h⊢
 cases r with
 |ok x w'=>
  cases x with
  |value v=>exact h
  |skip=>exact h
  |defer d=>exact h
  |enter f args=>exact⟨(fun hh=>nomatch hh),callsIn_FZ.2 h⟩
  |row row args=>exact⟨(fun hh=>nomatch hh),rowsIn_FZ h⟩
  |_=>exact h.elim
 |halt x w'=>
  cases x<;>first|exact h|exact h.elim
section
variable{P:Program}{w:World}{R:Nat->Prop}{bl:List Nat}{vs:List Value}{ow:Nat->Option Owner}{st:St (sem T)}{a:Act}{rnd:Option Nat}{n:Nat}
theorem stepOp_nodefer{cfg:Cfg}{inl:Inl (sem T)}{path:Nat}{o:Oper}{k:SV (sem T)->St (sem T)->Tree (sem T)}(hd:(stepOp cfg inl path st o k).den):∀c,o.op≠ .defer c:=fun c e=>by
 unfold stepOp at hd
 have h1:pureOp cfg.P st o=none:=by simp[pureOp,e]
 have h2:callee st o=none:=by simp[callee,e]
 rw[h1,h2]at hd
 simp only[effOp,e]at hd
 exact hd
theorem stepOpI_sound{cfg:Cfg}{inl:Inl (sem T)}(hsig:SigOk T cfg)(hinl:InlOk cfg w0 R0 inl){path:Nat}{o:Oper}(h:HR cfg.P w0 R0 bl vs R ow st.boxes st.ents w)(ht:TD bl vs ow st.tmps a)
  {kk:SV (sem T)->St (sem T)->Tree (sem T)} (hd:(stepOp cfg inl path st o kk).den) (Q:Exit->Act->World->Prop):
  o.wpIn (FZ rnd) n cfg.P a w (fun a' w'=>∃v sv st' bl' vs' R' ow',a'=a.put o.dst v/\Stp cfg.P w0 R0 bl vs ow st bl' vs' R' ow' st' w'/\st'.tmps=st.tmps/\SVR bl' vs' sv v/\(kk sv st').den) Q:=by
 have hnd:=stepOp_nodefer hd
 let inl':Inl (sem T):=fun path g args st k=>match g with
  | .fn f=>inl path (.fn f) args st k
  | .yld i=> .fail "" i
 have hC:InlC cfg w0 R0 inl':=⟨fun path f args vals st k bl vs R ow w h1 h2 h3=>hinl path (.fn f) args vals st k bl vs R ow w h1 h2 h3,fun path i args st k h=>h⟩
 by_cases hy:∃i args,pureOp cfg.P st o=none/\callee st o=some (.yld i,args)
 ·obtain⟨i,args,hp,hc⟩:=hy
  have hd':(inl path (.yld i) args st kk).den:=by
   unfold stepOp at hd
   rw[hp,hc]at hd
   exact hd
  unfold callee at hc
  split at hc
  ·rename_i fo as tys ho
   split at hc
   ·cases hc
   ·cases hc
   ·rename_i i' hfo
    cases hc
    have hf:=ev_sound ht.tr fo
    rw[hfo]at hf
    obtain⟨b,hb,hfv⟩:=hf
    have hvals:=evs_sound ht.tr as.toList
    obtain⟨b',hb',fn,tmps,assign,body,hrun,hround⟩:=hinl path (.yld i) _ _ st kk bl vs R ow w h hvals hd'
    rw[hb]at hb';cases hb'
    refine⟨fun f _=>trivial, ?_⟩
    rw[Oper.semAt_eq _ _ _ hnd]
    have hex:(execOp a.eval o).run cfg.P w= .ok (.round b fn tmps assign body) w:=by
     simp only[execOp,ho,resolve,hfv,Deferred.ofValue,invoke,Sem.run_bind,Sem.run_pure,Result.andThen_ok]
     have e:(as.toList.map a.eval).toArray=as.map a.eval:=by rw[<-Array.toList_inj];simp
     rw[e]at hrun
     simpa using hrun
    rw[hex,Oper.uponIn_round]
    refine⟨(fun hh=>nomatch hh), ?_⟩
    have hR:RoundIn (FZ rnd) (n-1) cfg.P b fn tmps assign body w fun e w'=>∃v,e= .returned v/\∃sv st' bl' vs' R' ow',Stp cfg.P w0 R0 bl vs ow st bl' vs' R' ow' st' w'/\st'.tmps=st.tmps/\SVR bl' vs' sv v/\(kk sv st').den:=hround (n-1)
    refine hR.mono ?_
    rintro e w' ⟨v,rfl,sv,st',bl',vs',R',ow',g1,g2,g3,g4⟩
    exact⟨v,sv,st',bl',vs',R',ow',rfl,g1,g2,g3,g4⟩
   ·cases hc
  ·cases hc
 ·have hd':(stepOp cfg inl' path st o kk).den:=by
   unfold stepOp at hd⊢
   split
   ·rename_i p hp
    rw[hp]at hd
    exact hd
   ·rename_i hp
    rw[hp]at hd
    split
    ·rename_i f args hc
     rw[hc]at hd
     exact hd
    ·rename_i i args hc
     exact absurd ⟨i,args,hp,hc⟩ hy
    ·rename_i hc
     rw[hc]at hd
     exact hd
  exact opIn hnd (stepOp_sound hsig hC h ht hd' Q)
theorem wpInOp_mono{F:Fence}{o:Oper}{K K':Act->World->Prop}{Q:Exit->Act->World->Prop}(h:∀a w,K a w->K' a w)(hw:o.wpIn F n P a w K Q):o.wpIn F n P a w K' Q:=Oper.wpIn_mono h hw
theorem oneOpI_sound{cfg:Cfg}{inl:Inl (sem T)}(hsig:SigOk T cfg)(hinl:InlOk cfg w0 R0 inl){path:Nat}{ops:Array Oper}{o:Oper}(h:HR cfg.P w0 R0 bl vs R ow st.boxes st.ents w)(ht:TD bl vs ow st.tmps a)
  {k:St (sem T)->Tree (sem T)} (hd:(oneOp cfg inl path ops st o k).den) (Q:Exit->Act->World->Prop):
  if Region.wanted o (yielded ops a.tmps)then o.wpIn (FZ rnd) n cfg.P a w (fun a' w'=>(∃v,a'=a.put o.dst v)/\Reach cfg.P w0 R0 bl vs ow st (fun st'=>(k st').den) a' w') Q else Reach cfg.P w0 R0 bl vs ow st (fun st'=>(k st').den) (a.put o.dst undef) w:=by
 unfold oneOp at hd
 obtain⟨st1,hS,ht1,hw|hw⟩:=guardK_sound h ht hd
 ·rw[if_pos hw.1]
  refine wpInOp_mono ?_ (stepOpI_sound hsig hinl hS.hr ht1 hw.2 Q)
  rintro a' w' ⟨v,sv,st',bl',vs',R',ow',rfl,g1,g2,g3,g4⟩
  refine⟨⟨v,rfl⟩,bl',vs',R',ow',setTmp st' o.dst sv, ?_, ?_,g4⟩
  ·have:=hS.trans g1
   cases hdst:o.dst with
   |none=>exact this
   |some d=>exact⟨this.hr,this.bl,this.vs,⟨this.ext.box,this.ext.ent⟩,this.mrk⟩
  ·have:TD bl' vs' ow' st'.tmps a:=by rw[g2];exact ht1.mono g1.bl g1.vs g1.mrk
   exact this.put o.dst g3
 ·rw[if_neg (by simp[hw.1])]
  refine⟨bl,vs,R,ow,setTmp st1 o.dst (.con (.tuple #[])), ?_,ht1.put o.dst rfl,hw.2⟩
  cases hdst:o.dst with
  |none=>exact hS
  |some d=>exact⟨hS.hr,hS.bl,hS.vs,⟨hS.ext.box,hS.ext.ent⟩,hS.mrk⟩
def wpLI(F:Fence)(n:Nat)(P:Program)(ops:Array Oper)(Q:Exit->Act->World->Prop):List Oper->Act->World->Prop
 |[],a,w=>Q .normal a w
 |o::rest,a,w=>if Region.wanted o (yielded ops a.tmps)then o.wpIn F n P a w (wpLI F n P ops Q rest) Q else wpLI F n P ops Q rest (a.put o.dst undef) w
theorem wpLI_ops{ops:Array Oper}{Q:Exit->Act->World->Prop}:∀(l:List Oper)(k:Nat)(a:Act)(w:World),(∀j,l[j]? =ops[k+j]?)->wpLI (FZ rnd) n P ops Q l a w->wpOpsIn (FZ rnd) n P ops Q (List.range' k l.length) a w
 |[],k,a,w,_,h=>h
 | o::l,k,a,w,hl,h=>by
  have ho:ops[k]? =some o:=by have:=hl 0;simpa using this.symm
  have hl':∀j,l[j]? =ops[k+1+j]? :=fun j=>by
   have:=hl (j+1)
   rw[show k+1+j=k+(j+1) by omega]
   simpa using this
  simp only[List.length_cons,List.range'_succ]
  unfold wpOpsIn
  simp only[ho]
  unfold wpLI at h
  split at h
  ·rename_i hw
   rw[if_pos hw]
   exact Oper.wpIn_mono (fun a w h=>wpLI_ops l (k+1) a w hl' h) h
  ·rename_i hw
   rw[if_neg hw]
   exact⟨fun f _=>trivial,wpLI_ops l (k+1) _ w hl' h⟩
theorem wp_region_LI{id:Nat}{ops:Array Oper}{Q:Exit->Act->World->Prop}(h:wpLI (FZ rnd) n P ops Q ops.toList a w):(Code.region id ops false).wpIn (FZ rnd) n P Q a w:=by
 refine wpIn_region ?_
 rw[List.range_eq_range',<-Array.length_toList]
 exact wpLI_ops ops.toList 0 a w (fun j=>by simp) h
theorem wpOps_in{ops:Array Oper}{Q:Exit->Act->World->Prop}(hL:¬LetsOut Q)(hn:noDefer ops=true):∀(l:List Nat)(a:Act)(w:World),wpOps P ops Q l a w->wpOpsIn (FZ rnd) n P ops Q l a w
 |[],_,_,h=>h
 | i::rest,a,w,h=>by
  unfold wpOps at h
  unfold wpOpsIn
  split at h
  ·rename_i hi
   simp only[hi]
   exact wpOps_in hL hn rest a w h
  ·rename_i o hi
   simp only[hi]
   have hnd:∀c,o.op≠ .defer c:=fun c e=>by
    have:=List.all_eq_true.1 hn o (by simpa using Array.mem_of_getElem? hi)
    rw[e]at this
    cases this
   split at h
   ·rename_i hw
    rw[if_pos hw]
    exact Oper.wpIn_mono (fun a w h=>wpOps_in hL hn rest a w h) (opIn hnd (h.resolve_right fun hh=>hL hh.2))
   ·rename_i hw
    rw[if_neg hw]
    exact⟨fun f _=>trivial,wpOps_in hL hn rest _ w h⟩
end
theorem runOps_sound{cfg:Cfg}{inl:Inl (sem T)}(hsig:SigOk T cfg)(hinl:InlOk cfg w0 R0 inl){rnd:Option Nat}{n:Nat}{path:Nat}{ops:Array Oper}{Q:Exit->Act->World->Prop}:∀(rest:List Oper){bl:List Nat}{vs:List Value}{R:Nat->Prop}{ow:Nat->Option Owner}{st:St (sem T)}{a:Act}{w:World},
  HR cfg.P w0 R0 bl vs R ow st.boxes st.ents w->TD bl vs ow st.tmps a->∀{k:St (sem T)->Tree (sem T)},(runOps cfg inl path ops rest st k).den->
  (∀a' w',Keeps (rest.filterMap (·.dst)) a a'->Reach cfg.P w0 R0 bl vs ow st (fun st'=>(k st').den) a' w'->Q .normal a' w')->wpLI (FZ rnd) n cfg.P ops Q rest a w
 |[],bl,vs,R,ow,st,a,w,h,ht,k,hd,hQ=>hQ a w (Keeps.refl _ _) ⟨bl,vs,R,ow,st,Stp.refl h,ht,hd⟩
 | o::rest,bl,vs,R,ow,st,a,w,h,ht,k,hd,hQ=>by
  have main:∀st1,Stp cfg.P w0 R0 bl vs ow st bl vs R ow st1 w->TD bl vs ow st1.tmps a->(oneOp cfg inl path ops st1 o fun st=>runOps cfg inl path ops rest st k).den->wpLI (FZ rnd) n cfg.P ops Q (o::rest) a w:=by
   intro st1 hS ht1 hd1
   have hone:=oneOpI_sound (rnd:=rnd) (n:=n) hsig hinl hS.hr ht1 hd1 Q
   have hnext:∀a' w',((∃v,a'=a.put o.dst v)/\Reach cfg.P w0 R0 bl vs ow st1 (fun st'=>(runOps cfg inl path ops rest st' k).den) a' w')->wpLI (FZ rnd) n cfg.P ops Q rest a' w':=by
    rintro a' w' ⟨⟨v,rfl⟩,bl',vs',R',ow',st',g1,g2,g3⟩
    refine runOps_sound hsig hinl rest g1.hr g2 g3 (fun a2 w2 hkp hr=>hQ a2 w2 (Keeps.trans (Keeps.put (fun x hx=> ?_)) (hkp.mono fun t ht=> ?_)) ((hr.of g1).of hS))
    ·simp[List.filterMap_cons,hx]
    ·simp only[List.filterMap_cons];split<;>simp[ht]
   unfold wpLI
   split at hone
   ·rename_i hw
    rw[if_pos hw]
    exact Oper.wpIn_mono hnext hone
   ·rename_i hw
    rw[if_neg hw]
    exact hnext _ _ ⟨⟨undef,rfl⟩,hone⟩
  unfold runOps at hd
  split at hd
  ·obtain⟨st1,hS,ht1,hd1⟩:=decided_sound h ht hd
   exact main st1 hS ht1 hd1
  ·exact main st (Stp.refl h) ht hd
end Go.Sx
namespace Go.Sx
open Go.RowKit (Below)
variable{T:FuncId->Pred}{w0:World}{R0:Bs T}
mutual
theorem SVR.back{bl bl':List Nat}{vs vs':List Value}(hb:∀(i:Nat)(b:Nat),bl[i]? =some b->bl'[i]? =some b)(hv:∀(i:Nat)(b:Value),vs[i]? =some b->vs'[i]? =some b):
  ∀{s:SV (sem T)}{v v0:Value},SVR bl vs s v0->SVR bl' vs' s v->SVR bl vs s v
 | .int _ _,_,_,_,h=>h
 | .blit _,_,_,_,h=>h
 | .bool _,_,_,_,h=>h
 | .str _,_,_,_,h=>h
 | .sl _,_,_,h0,h=>by
  have h0:vs[_]? =some _:=h0
  have h:vs'[_]? =some _:=h
  rw[hv _ _ h0]at h;cases h
  exact h0
 | .ptr _ _,_,_,⟨b,h0,_⟩,⟨b',h,hh⟩=>by
  rw[hb _ _ h0]at h;cases h
  exact⟨b,h0,hh⟩
 | .eptr _ _ _ _,_,_,⟨a,l,c,h0,_⟩,⟨a',l',c',h,h1,h2,hh⟩=>by
  rw[hv _ _ h0]at h;cases h
  exact⟨a,l,c,h0,h1,h2,hh⟩
 | .view _ _ _ _,_,_,⟨a,l,c,h0,_⟩,⟨a',l',c',h,h1,h2,h3,hh⟩=>by
  rw[hv _ _ h0]at h;cases h
  exact⟨a,l,c,h0,h1,h2,h3,hh⟩
 | .bsl _ _,_,_,⟨b,h0,_⟩,⟨b',h,hh⟩=>by
  rw[hb _ _ h0]at h;cases h
  exact⟨b,h0,hh⟩
 | .fn _ _,_,_,⟨cs0,_,h0⟩,⟨cs,h,hh⟩=>⟨cs,h,SVRs.back hb hv h0 hh⟩
 | .fnb _ _,_,_,⟨cs0,_,h0⟩,⟨cs,h,hh⟩=>⟨cs,h,SVRs.back hb hv h0 hh⟩
 | .yld _,_,_,⟨b,h0,_⟩,⟨b',h,hh⟩=>by
  rw[hb _ _ h0]at h;cases h
  exact⟨b,h0,hh⟩
 | .agg _,_,_,⟨cs0,_,h0⟩,⟨cs,h,hh⟩=>⟨cs,h,SVRs.back hb hv h0 hh⟩
 | .tup _,_,_,⟨cs0,_,h0⟩,⟨cs,h,hh⟩=>⟨cs,h,SVRs.back hb hv h0 hh⟩
 | .con _,_,_,_,h=>h
 | .glob _,_,_,_,h=>h
 | .gel _ _ _,_,_,_,h=>h
 | .junk,_,_,_,_=>trivial
theorem SVRs.back{bl bl':List Nat}{vs vs':List Value}(hb:∀(i:Nat)(b:Nat),bl[i]? =some b->bl'[i]? =some b)(hv:∀(i:Nat)(b:Value),vs[i]? =some b->vs'[i]? =some b):
  ∀{s:List (SV (sem T))}{v v0:List Value},SVRs bl vs s v0->SVRs bl' vs' s v->SVRs bl vs s v
 |[],[],_,_,_=>trivial
 |_::_,_::_,_::_,⟨h0,hh0⟩,⟨h,hh⟩=>⟨SVR.back hb hv h0 h,SVRs.back hb hv hh0 hh⟩
 |[],_::_,_,_,h=>h.elim
 |_::_,[],_,_,h=>h.elim
 |_::_,_::_,[],h0,_=>h0.elim
end
theorem zipIdx_all{α:Type}{f:α×Nat->Bool}{l:List α}(h:l.zipIdx.all f=true){i:Nat}{x:α}(hx:l[i]? =some x):f (x,i)=true:=by
 have:=List.all_eq_true.1 h (x,i)
 apply this
 rw[List.mk_mem_zipIdx_iff_getElem?]
 exact hx
theorem zipIdx_get{α β:Type}{f:α×Nat->β}{l:List α}{i:Nat}{y:β}(h:(l.zipIdx.map f)[i]? =some y):∃x,l[i]? =some x/\y=f (x,i):=by
 rw[List.getElem?_map,List.getElem?_zipIdx]at h
 cases hx:l[i]? with
 |none=>rw[hx]at h;simp at h
 |some x=>rw[hx]at h;simp at h;exact⟨x,rfl,by rw[<-h]⟩
section
variable{P:Program}{w:World}{R:Nat->Prop}{bl:List Nat}{vs:List Value}{ow:Nat->Option Owner}{st st0:St (sem T)}{a:Act}
def Base(P:Program)(bl0:List Nat)(vs0:List Value)(base:St (sem T))(w:World):Prop:=
 ∃R2,(∀(i:Nat)(bx:Box (sem T)),base.boxes[i]? =some bx->bx.live=true->∃(b:Nat)(cs:Array Value),bl0[i]? =some b/\w.heap[b]? =some (.cells cs bx.ty (0,0))/\SVRs bl0 vs0 bx.cells cs.toList)/\
  (∀(i:Nat)(e:Ent (sem T)),base.ents[i]? =some e->e.live=true->∃v:Value,vs0[i]? =some v/\EntOk P w R2 e v)/\GlobOk P w
theorem base_box{written:List Nat}{i:Nat}{bx:Box (sem T)}(h:(baseOf st written).boxes[i]? =some bx)(hl:bx.live=true):st.boxes[i]? =some bx:=by
 obtain⟨x,hx,hy⟩:=zipIdx_get h
 simp only at hy
 split at hy
 ·subst hy;cases hl
 ·subst hy;exact hx
theorem base_ent{written:List Nat}{i:Nat}{e:Ent (sem T)}(h:(baseOf st written).ents[i]? =some e)(hl:e.live=true):st.ents[i]? =some e:=by
 simp only[baseOf,List.getElem?_map,Option.map_eq_some_iff]at h
 obtain⟨x,hx,hy⟩:=h
 split at hy
 ·subst hy;cases hl
 ·subst hy
  exact hx
theorem base_start(h:HR P w0 R0 bl vs R ow st.boxes st.ents w)(written:List Nat):Base P bl vs (baseOf st written) w:=
 ⟨R,fun i bx hi hl=>h.look.box i bx (base_box hi hl) hl,fun i e hi hl=>h.look.ent i e (base_ent hi hl) hl,h.look.glb⟩
theorem base_again{bl0:List Nat}{vs0:List Value}{R':Nat->Prop}{ow':Nat->Option Owner}{wS:World}{owS ow0:Nat->Option Owner}{RS:Nat->Prop}{written:List Nat}(hS0:HR P w0 R0 bl0 vs0 RS owS st0.boxes st0.ents wS)
  (hst:Stp P w0 R0 bl0 vs0 ow0 st0 bl vs R' ow' st w) (hsame:sameBoxes (baseOf st0 written) st=true):Base P bl0 vs0 (baseOf st0 written) w:=by
 unfold sameBoxes at hsame
 simp only[Bool.and_eq_true]at hsame
 obtain⟨hb,he⟩:=hsame
 refine⟨R',fun i bx hi hl=> ?_,fun i e hi hl=> ?_,hst.hr.look.glb⟩
 ·have h1:=zipIdx_all hb hi
  simp only[hl,Bool.not_true,Bool.false_or]at h1
  have h0:=base_box hi hl
  obtain⟨bx',hx',_,hsame,_⟩:=hst.ext.box i bx h0
  rw[hx']at h1
  have:bx'=bx:=hsame (by simpa using h1)
  subst this
  obtain⟨b,cs,g1,_,g3,g4⟩:=hst.hr.box i bx' hx' hl
  obtain⟨b0,cs0,k1,_,_,k4⟩:=hS0.box i bx' h0 hl
  have e1:=hst.bl i b0 k1
  rw[g1]at e1
  have e2:b=b0:=Option.some.inj e1
  rw[e2]at g3
  exact⟨b0,cs,k1,g3,k4.back hst.bl hst.vs g4⟩
 ·have h1:=zipIdx_all he hi
  simp only[hl,Bool.not_true,Bool.false_or]at h1
  have h0:=base_ent hi hl
  obtain⟨e',hx',_,hsame⟩:=hst.ext.ent i e h0
  rw[hx']at h1
  have:e'=e:=hsame (by simpa using h1)
  subst this
  obtain⟨v,hv,hc⟩:=hst.hr.look.ent i e' hx' hl
  obtain⟨v0,hv0,_⟩:=hS0.ent i e' h0 hl
  have e1:=hst.vs i v0 hv0
  rw[hv]at e1
  have e2:v=v0:=Option.some.inj e1
  rw[e2]at hc
  exact⟨v0,hv0,hc⟩
theorem base_look{bl0:List Nat}{vs0:List Value}{base:St (sem T)}(hb:∀(i:Nat)(b:Nat),bl0[i]? =some b->bl[i]? =some b)(hv:∀(i:Nat)(b:Value),vs0[i]? =some b->vs[i]? =some b)
  (hvsl:∀(i:Nat)(v:Value),vs[i]? =some v->SlV v) (h:Base P bl0 vs0 base w):∃R2,Look P R2 bl vs base.boxes base.ents w:=by
 obtain⟨R2,h1,h2,h3⟩:=h
 refine⟨R2,⟨fun i bx hi hl=> ?_,fun i e hi hl=> ?_,hvsl,h3⟩⟩
 ·obtain⟨b,cs,g1,g2,g3⟩:=h1 i bx hi hl
  exact⟨b,cs,hb _ _ g1,g2,g3.mono hb hv⟩
 ·obtain⟨v,g1,g2⟩:=h2 i e hi hl
  exact⟨v,hv _ _ g1,g2⟩
theorem findTake_inv{ops:Array Oper}{listed:Array Bool}{base:St (sem T)}:∀{rs:List Nat}{t:Take (sem T)},findTake P ops listed base st rs=t->(t= .none\/∃i o,i∈rs/\ops[i]? =some o/\Region.free .any ops listed i=true/\takeOf P ops base st i o=t/\t≠ .none)
 |[],t,h=> .inl h.symm
 | i::rest,t,h=>by
  have hrec:findTake P ops listed base st rest=t->(t= .none\/∃j o,j∈i::rest/\ops[j]? =some o/\Region.free .any ops listed j=true/\takeOf P ops base st j o=t/\t≠ .none):=fun hh=>
   (findTake_inv hh).imp id (fun⟨j,o,h1,h2⟩=>⟨j,o,by simp[h1],h2⟩)
  unfold findTake at h
  split at h
  ·rename_i o ho
   split at h
   ·rename_i hf
    split at h
    ·exact hrec h
    ·rename_i hne;exact .inr ⟨i,o,by simp,ho,hf,h,fun e=>hne (h.trans e)⟩
   ·exact hrec h
  ·exact hrec h
def TakeOk(P:Program)(ops:Array Oper)(base st:St (sem T))(a:Act)(i:Nat)(o:Oper):Take (sem T)->Prop
 | .skip i' d=>i'=i/\d=o.dst/\Region.wanted o (yielded ops a.tmps)=false
 | .val i' d p=>i'=i/\d=o.dst/\Region.wanted o (yielded ops a.tmps)=true/\pureOp P {base with tmps:=st.tmps} o=some p/\p.v.clean=true
 | .ask t b=>st.tmps[t]? =some (.bool b)
 | .none=>True
theorem takeOf_ok(ht:TD bl vs ow st.tmps a){ops:Array Oper}{base:St (sem T)}{i:Nat}{o:Oper}:TakeOk P ops base st a i o (takeOf P ops base st i o):=by
 have hgo:Region.wanted o (yielded ops a.tmps)=true->TakeOk P ops base st a i o (takeGo P base st i o):=by
  intro hw
  have hpure:TakeOk P ops base st a i o (takeVal P base st i o):=by
   unfold takeVal
   split
   ·rename_i p hp
    split
    ·rename_i hc;exact⟨rfl,rfl,hw,hp,hc⟩
    ·trivial
   ·trivial
  unfold takeGo
  split
  ·split
   ·rename_i b hb;exact hb
   ·exact hpure
  ·exact hpure
 unfold takeOf
 split
 ·rename_i hg
  exact hgo (by simp[Region.wanted,hg])
 ·rename_i j want hg
  split
  ·rename_i hj
   exact⟨rfl,rfl,by simp[Region.wanted,hg,yielded,hj]⟩
  ·rename_i d hj
   split
   ·rename_i b hb
    obtain⟨v,hv,hs⟩:=tmp_get ht hb
    have hs:v= .bool b:=hs
    subst hs
    have hy:yielded ops a.tmps j=some b:=by simp[yielded,hj,hv]
    split
    ·rename_i hbw
     have:b=want:=by simpa using hbw
     exact hgo (by simp[Region.wanted,hg,hy,this])
    ·rename_i hbw
     have:b≠want:=by simpa using hbw
     exact⟨rfl,rfl,by simp[Region.wanted,hg,hy,this]⟩
   ·rename_i b hb;exact hb
   ·rename_i us hb
    obtain⟨v,hv,hs⟩:=tmp_get ht hb
    have hs:v= .tuple us:=hs
    subst hs
    exact⟨rfl,rfl,by simp[Region.wanted,hg,yielded,hj,hv]⟩
   ·trivial
theorem bothAll_den{f:Nat->Tree (sem T)}:∀{l:List Nat},(bothAll f l).den->∀i∈l,(f i).den
 |[],_,_,h=>by cases h
 |[i],hd,j,h=>by simp at h;subst h;exact hd
 |i::i'::l,hd,j,h=>by
  simp only[List.mem_cons]at h
  rcases h with rfl|h
  ·exact hd.1
  ·exact bothAll_den (l:=i'::l) hd.2 j (by simpa using h)
end
def todo(listed:Array Bool):Nat:=listed.toList.countP (· ==false)
theorem todo_set{listed:Array Bool}{i:Nat}(h:listed.getD i true=false):todo (listed.setIfInBounds i true)+1=todo listed:=by
 have hi:i<listed.size:=by
  rcases Nat.lt_or_ge i listed.size with h'|h'
  ·exact h'
  ·simp[Array.getElem?_eq_none h']at h
 have hv:listed.toList[i]? =some false:=by
  simp[hi]at h⊢
  exact h
 have key:∀(l:List Bool)(i:Nat),l[i]? =some false->(l.set i true).countP (· ==false)+1=l.countP (· ==false):=by
  intro l
  induction l with
  |nil=>intro i h;simp at h
  | cons x l ih=>
   intro i h
   cases i with
   |zero=>simp at h;subst h;simp[List.countP_cons]
   |succ i=>
    have:=ih i (by simpa using h)
    simp only[List.set_cons_succ,List.countP_cons]
    omega
 unfold todo
 rw[Array.toList_setIfInBounds]
 exact key _ _ hv
theorem bitM_eq(m i:Nat):bitM m i=m.testBit i:=by
 unfold bitM
 rw[Nat.testBit_eq_decide_div_mod_eq]
 have h1:Nat.land (Nat.shiftRight m i) 1=m/2^i % 2:=by
  show(m>>>i)&&&1=_
  rw[Nat.and_one_is_mod,Nat.shiftRight_eq_div_pow]
 rw[h1]
 by_cases h:m/2^i % 2=1
 ·rw[h];rfl
 ·rw[decide_eq_false h]
  cases hb:Nat.beq (m/2^i % 2) 1 with
  |false=>rfl
  |true=>exact absurd (Nat.eq_of_beq_eq_true hb) h
theorem testBit_shift(i j:Nat):(Nat.shiftLeft 1 i).testBit j=decide (j=i):=by
 show(1<<<i).testBit j=_
 rw[Nat.one_shiftLeft,Nat.testBit_two_pow]
 by_cases h:i=j
 ·subst h;simp
 ·have h':¬j=i:=fun e=>h e.symm
  simp[h,h']
theorem subM_eq(a m:Nat):subM a m=true↔∀j,a.testBit j=true->m.testBit j=true:=by
 unfold subM
 constructor
 ·intro h j hj
  have e:a&&&m=a:=Nat.eq_of_beq_eq_true h
  rw[<-e,Nat.testBit_and]at hj
  simp only[Bool.and_eq_true]at hj
  exact hj.2
 ·intro h
  have e:a&&&m=a:=Nat.eq_of_testBit_eq fun j=>by
   rw[Nat.testBit_and]
   cases ha:a.testBit j with
   |false=>rfl
   |true=>rw[h j ha];rfl
  show Nat.beq (a&&&m) a=true
  rw[e];exact Nat.beq_refl a
theorem testBit_setM(n m i j:Nat):(setM n m i).testBit j=(m.testBit j||decide (j=i/\i<n)):=by
 unfold setM
 split
 ·rename_i h
  have:n<=i:=Nat.le_of_ble_eq_true h
  have e:decide (j=i/\i<n)=false:=decide_eq_false (by omega)
  rw[e,Bool.or_false]
 ·rename_i h
  have hlt:i<n:=by
   rcases Nat.lt_or_ge i n with h'|h'
   ·exact h'
   ·exact absurd (Nat.ble_eq_true_of_le h') h
  show(m|||_).testBit j=_
  rw[Nat.testBit_or,testBit_shift]
  simp[hlt]
theorem testBit_aft(o:Oper)(j:Nat):(aftMask o).testBit j=true↔∃e∈o.after,Region.binds .any e=true/\e.on=j:=by
 have key:∀(l:List Edge)(m:Nat),(l.foldl (fun m e=>if Region.binds .any e then Nat.lor m (Nat.shiftLeft 1 e.on)else m) m).testBit j=true↔m.testBit j=true\/∃e∈l,Region.binds .any e=true/\e.on=j:=by
  intro l
  induction l with
  |nil=>intro m;simp
  | cons e l ih=>
   intro m
   rw[List.foldl_cons,ih]
   by_cases hb:Region.binds .any e=true
   ·rw[if_pos hb]
    have:(Nat.lor m (Nat.shiftLeft 1 e.on)).testBit j=(m.testBit j||decide (j=e.on)):=by
     show(m|||_).testBit j=_
     rw[Nat.testBit_or,testBit_shift]
    rw[this]
    simp only[Bool.or_eq_true,decide_eq_true_eq,List.mem_cons]
    constructor
    ·rintro((h|h)|⟨x,h1,h2⟩)
     ·exact .inl h
     ·exact .inr ⟨e, .inl rfl,hb,h.symm⟩
     ·exact .inr ⟨x, .inr h1,h2⟩
    ·rintro(h|⟨x,rfl|h1,h2,h3⟩)
     ·exact .inl (.inl h)
     ·exact .inl (.inr h3.symm)
     ·exact .inr ⟨x,h1,h2,h3⟩
   ·rw[if_neg hb]
    simp only[List.mem_cons]
    constructor
    ·rintro(h|⟨x,h1,h2⟩)
     ·exact .inl h
     ·exact .inr ⟨x, .inr h1,h2⟩
    ·rintro(h|⟨x,rfl|h1,h2,h3⟩)
     ·exact .inl h
     ·exact absurd h2 hb
     ·exact .inr ⟨x,h1,h2,h3⟩
 unfold aftMask
 rw[key]
 simp
theorem testBit_far(ops:Array Oper)(i:Nat)(oi:Oper)(j:Nat):(farMask ops i oi).testBit j=true↔j<ops.size/\(j==i||(match ops[j]? with
  |some oj=>oj.after.any (fun e=>Region.binds .any e&&e.on==i)||oi.apart ops oj
  |none=>true))=false:=by
 have key:∀(p:Nat->Bool)(l:List Nat)(m:Nat),(l.foldl (fun m j=>if p j then m else Nat.lor m (Nat.shiftLeft 1 j)) m).testBit j=true↔m.testBit j=true\/(j∈l/\p j=false):=by
  intro p l
  induction l with
  |nil=>intro m;simp
  | cons e l ih=>
   intro m
   rw[List.foldl_cons,ih]
   by_cases hb:p e=true
   ·rw[if_pos hb]
    simp only[List.mem_cons]
    constructor
    ·rintro(h|⟨h1,h2⟩)
     ·exact .inl h
     ·exact .inr ⟨.inr h1,h2⟩
    ·rintro(h|⟨rfl|h1,h2⟩)
     ·exact .inl h
     ·rw[hb]at h2;cases h2
     ·exact .inr ⟨h1,h2⟩
   ·rw[if_neg hb]
    have:(Nat.lor m (Nat.shiftLeft 1 e)).testBit j=(m.testBit j||decide (j=e)):=by
     show(m|||_).testBit j=_
     rw[Nat.testBit_or,testBit_shift]
    rw[this]
    simp only[Bool.or_eq_true,decide_eq_true_eq,List.mem_cons]
    constructor
    ·rintro((h|h)|⟨h1,h2⟩)
     ·exact .inl h
     ·exact .inr ⟨.inl h,by rw[h];simpa using hb⟩
     ·exact .inr ⟨.inr h1,h2⟩
    ·rintro(h|⟨rfl|h1,h2⟩)
     ·exact .inl (.inl h)
     ·exact .inl (.inr rfl)
     ·exact .inr ⟨h1,h2⟩
 have k:=key (fun j=>j==i||(match ops[j]? with
  |some oj=>oj.after.any (fun e=>Region.binds .any e&&e.on==i)||oi.apart ops oj
  |none=>true)) (List.range ops.size) 0
 have e:(0:Nat).testBit j=false:=Nat.zero_testBit j
 rw[e]at k
 simp only[Bool.false_eq_true,false_or,List.mem_range]at k
 exact k
def MaskOk(ops:Array Oper)(listed:Array Bool)(m:Nat):Prop:=listed.size=ops.size/\∀j,m.testBit j=listed.getD j false
theorem MaskOk.set{ops:Array Oper}{listed:Array Bool}{m:Nat}(h:MaskOk ops listed m)(i:Nat):MaskOk ops (listed.setIfInBounds i true) (setM ops.size m i):=by
 refine⟨by rw[Array.size_setIfInBounds];exact h.1,fun j=> ?_⟩
 rw[testBit_setM,h.2 j,<-h.1]
 by_cases e:j=i
 ·subst e
  by_cases hlt:j<listed.size
  ·simp[hlt]
  ·simp[hlt]
 ·have:¬i=j:=fun h=>e h.symm
  simp[e,this,Array.getElem?_setIfInBounds]
theorem getD_in{l:Array Bool}{j:Nat}(h:j<l.size):l.getD j true=l.getD j false:=by
 simp[h]
theorem mapRange_get{α:Type}{f:Nat->α}{n i:Nat}(h:i<n):((List.range n).map f)[i]? =some (f i):=by
 rw[List.getElem?_map,List.getElem?_range h];rfl
theorem readyM_range(f:Nat->Nat×Nat)(m:Nat):∀(n s:Nat),readyM ((List.range' s n).map f) s m=(List.range' s n).filter fun i=> !bitM m i&&subM (f i).1 m
 |0,s=>rfl
 |n+1,s=>by
  rw[List.range'_succ,List.map_cons,List.filter_cons]
  show(if !bitM m s&&subM (f s).1 m then _ else _)=_
  rw[readyM_range f m n (s+1)]
theorem ready_masks{ops:Array Oper}{listed:Array Bool}{m:Nat}(h:MaskOk ops listed m):readyM (masks ops) 0 m=Region.ready .any ops listed:=by
 unfold masks Region.ready
 rw[List.range_eq_range',readyM_range]
 refine List.filter_congr fun i hi=> ?_
 have hlt:i<ops.size:=by simpa[List.mem_range'_1]using hi
 have ho:ops[i]? =some ops[i]:=Array.getElem?_eq_getElem hlt
 rw[ho,bitM_eq,h.2 i,getD_in (by rw[h.1];exact hlt)]
 simp only[Option.map_some,Option.getD_some]
 congr 1
 rw[Bool.eq_iff_iff,subM_eq]
 simp only[testBit_aft,Array.all_eq_true_iff_forall_mem,Bool.or_eq_true,Bool.not_eq_true']
 constructor
 ·intro k e he
  by_cases hb:Region.binds .any e=true
  ·right;rw[<-h.2];exact k e.on ⟨e,he,hb,rfl⟩
  ·left;simpa using hb
 ·rintro k j ⟨e,he,hb,rfl⟩
  rw[h.2]
  rcases k e he with k|k
  ·rw[hb]at k;cases k
  ·exact k
theorem free_masks{ops:Array Oper}{listed:Array Bool}{m:Nat}(h:MaskOk ops listed m){i:Nat}{o:Oper}(ho:ops[i]? =some o):freeM (masks ops) m i=Region.free .any ops listed i:=by
 have hlt:i<ops.size:=(Array.getElem?_eq_some_iff.1 ho).1
 unfold freeM masks Region.free
 rw[mapRange_get hlt]
 simp only[ho]
 rw[Bool.eq_iff_iff,subM_eq,List.all_eq_true]
 simp only[testBit_far,List.mem_range]
 constructor
 ·intro k j hj
  by_cases hb:(j==i||(match ops[j]? with
   |some oj=>oj.after.any (fun e=>Region.binds .any e&&e.on==i)||o.apart ops oj
   |none=>true))=false
  ·have:=k j ⟨hj,hb⟩
   rw[h.2 j,<-getD_in (by rw[h.1];exact hj)]at this
   rw[this];simp
  ·have hb:(j==i||(match ops[j]? with
    |some oj=>oj.after.any (fun e=>Region.binds .any e&&e.on==i)||o.apart ops oj
    |none=>true))=true:=Bool.not_eq_false _▸hb
   rw[Bool.or_eq_true]at hb
   rcases hb with hb|hb
   ·rw[hb];rfl
   ·rw[Bool.or_eq_true];exact .inr hb
 ·rintro k j ⟨hj,hb⟩
  have h1:=k j hj
  rw[h.2 j,<-getD_in (by rw[h.1];exact hj)]
  rw[Bool.or_eq_false_iff]at hb
  rw[Bool.or_eq_true,Bool.or_eq_true]at h1
  rcases h1 with(h1|h1)|h1
  ·rw[hb.1]at h1;cases h1
  ·exact h1
  ·exact absurd (hb.2.symm.trans h1) Bool.false_ne_true
theorem find_masks{A:Alg}{P:Program}{ops:Array Oper}{listed:Array Bool}{m:Nat}(h:MaskOk ops listed m)(base st:St A):∀rs:List Nat,findTakeM P ops (masks ops) m base st rs=findTake P ops listed base st rs
 |[]=>rfl
 | i::r=>by
  unfold findTakeM findTake
  split
  ·rename_i o ho
   rw[free_masks h ho,find_masks h base st r]
  ·exact find_masks h base st r
theorem runDraw_masks{A:Alg}{cfg:Cfg}{inl:Inl A}{path:Nat}{ops:Array Oper}{base:St A}:∀(n:Nat){listed:Array Bool}{m:Nat}(st:St A)(k:St A->Tree A),MaskOk ops listed m->
  runDrawM cfg inl path ops (masks ops) base n m st k=runDraw cfg inl path ops base n listed st k
 |0,_,_,_,_,_=>rfl
 | n+1,listed,m,st,k,h=>by
  unfold runDrawM runDraw
  rw[ready_masks h]
  split
  ·rfl
  ·rename_i hr
   rw[find_masks h]
   have step:∀i st,runDrawM cfg inl path ops (masks ops) base n (setM ops.size m i) st k=runDraw cfg inl path ops base n (listed.setIfInBounds i true) st k:=fun i st=>runDraw_masks n st k (h.set i)
   have same:∀st,runDrawM cfg inl path ops (masks ops) base n m st k=runDraw cfg inl path ops base n listed st k:=fun st=>runDraw_masks n st k h
   simp only[step,same]
theorem maskOk_start(ops:Array Oper):MaskOk ops (Array.replicate ops.size false) 0:=by
 refine⟨by simp,fun j=> ?_⟩
 rw[Nat.zero_testBit]
 by_cases h:j<ops.size
 ·simp[h]
 ·simp[h]
theorem runDraw_sound{cfg:Cfg}{inl:Inl (sem T)}(hsig:SigOk T cfg)(hinl:InlC cfg w0 R0 inl){path:Nat}{ops:Array Oper}{Q:Exit->Act->World->Prop}(hQp:∀c a w,¬Q (.panic c) a w)(hns:Region.noSelect ops=true)
  {bl0:List Nat} {vs0:List Value} {st0:St (sem T)} {RS:Nat->Prop} {owS ow0:Nat->Option Owner} {wS:World} {written:List Nat} (hS0:HR cfg.P w0 R0 bl0 vs0 RS owS st0.boxes st0.ents wS) {k:St (sem T)->Tree (sem T)}
  {D:List Nat} {a0:Act} (hD:∀(i:Nat)(o:Oper),ops[i]? =some o->∀x,o.dst=some x->x∈D)
  (hQ:∀a' w',Keeps D a0 a'->Reach cfg.P w0 R0 bl0 vs0 ow0 st0 (fun st'=>(k st').den) a' w'->Q .normal a' w'):
  ∀(n:Nat){listed:Array Bool}{bl:List Nat}{vs:List Value}{R:Nat->Prop}{ow:Nat->Option Owner}{st:St (sem T)}{a:Act}{w:World}{fuel:Nat},
  Stp cfg.P w0 R0 bl0 vs0 ow0 st0 bl vs R ow st w->TD bl vs ow st.tmps a->(runDraw cfg inl path ops (baseOf st0 written) n listed st k).den->Base cfg.P bl0 vs0 (baseOf st0 written) w->todo listed<=fuel->Keeps D a0 a->
  wpAnyH cfg.P .any ops Q (Base cfg.P bl0 vs0 (baseOf st0 written)) fuel listed a w
 |0,_,_,_,_,_,_,_,_,_,_,_,hd,_,_,_=>hd.elim
 | n +1,listed,bl,vs,R,ow,st,a,w,fuel,hst,ht,hd,hB,hf,hkp=>by
  unfold runDraw at hd
  split at hd
  ·rename_i hr
   exact wpAnyH_done hr (hQ a w hkp ⟨bl,vs,R,ow,st,hst,ht,hd⟩) fuel
  ·rename_i hr
   generalize hrs:Region.ready .any ops listed=rs at*
   have hmem:∀i∈rs,i∈Region.ready .any ops listed:=fun i hi=>by rw[hrs];exact hi
   have hfuel:∀i∈rs,∃f,fuel=f+1/\todo (listed.setIfInBounds i true)<=f:=fun i hi=>by
    have h1:=todo_set (mem_ready.1 (hmem i hi)).1
    exact⟨fuel-1,by omega,by omega⟩
   generalize htk:findTake cfg.P ops listed (baseOf st0 written) st rs=tk at hd
   rcases findTake_inv htk with rfl|⟨i,o,hi,ho,hfree,htake,htne⟩
   ·
    have hne:rs≠ []:=by
     intro e
     subst e
     exact hr rfl
    obtain⟨i0,hi0⟩:=List.exists_mem_of_ne_nil rs hne
    obtain⟨f,rfl,_⟩:=hfuel i0 hi0
    refine wpAnyH_all hrs hne (fun i hi=> ?_)
    have hdi:=bothAll_den hd i hi
    obtain⟨f',hf1,hf2⟩:=hfuel i hi
    have:f'=f:=by omega
    subst this
    unfold wpOp
    split at hdi
    ·rename_i o ho
     simp only[ho]
     have hone:=oneOp_sound hsig hinl hst.hr ht hdi Q
     have hnext:∀a' w',((∃v,a'=a.put o.dst v)/\Reach cfg.P w0 R0 bl vs ow st (fun st'=>(if sameBoxes (baseOf st0 written) st' then runDraw cfg inl path ops (baseOf st0 written) n (listed.setIfInBounds i true) st' k else .fail "a region that draws its order: a box is written" path :Tree (sem T)).den) a' w')->
       Base cfg.P bl0 vs0 (baseOf st0 written) w'/\wpAnyH cfg.P .any ops Q (Base cfg.P bl0 vs0 (baseOf st0 written)) f' (listed.setIfInBounds i true) a' w':=by
      rintro a' w' ⟨⟨v,rfl⟩,bl',vs',R',ow',st',g1,g2,g3⟩
      split at g3
      ·rename_i hsame
       have hst':=hst.trans g1
       have hB':=base_again hS0 hst' hsame
       exact⟨hB',runDraw_sound hsig hinl hQp hns hS0 hD hQ n hst' g2 g3 hB' hf2 (hkp.trans (Keeps.put (hD i o ho)))⟩
      ·exact g3.elim
     split at hone
     ·rename_i hw
      rw[if_pos hw]
      exact .inl (Oper.wp_mono hnext hone)
     ·rename_i hw
      rw[if_neg hw]
      exact hnext _ _ ⟨⟨undef,rfl⟩,hone⟩
    ·exact hdi.elim
   ·have hok:=takeOf_ok (P:=cfg.P) ht (ops:=ops) (base:=baseOf st0 written) (i:=i) (o:=o)
    rw[htake]at hok
    obtain⟨f,rfl,hf2⟩:=hfuel i hi
    have hcont:(Region.ready .any ops listed).contains i=true:=by rw[hrs];simpa using hi
    cases tk with
    |none=>exact absurd rfl htne
    |ask t b=>
     have hb:st.tmps[t]? =some (.bool b):=hok
     obtain⟨v,hv,hs⟩:=tmp_get ht hb
     have hs:v= .bool b.b:=hs
     subst hs
     have hlit:∀c:Bool,b.b=c->TD bl vs ow (st.tmps.set t (.blit c)) a:=fun c hc=>ht.same (fun u hu=>by rw[hv]at hu;cases hu;exact congrArg Value.bool hc)
     have hst':∀c:Bool,Stp cfg.P w0 R0 bl0 vs0 ow0 st0 bl vs R ow {st with tmps:=st.tmps.set t (.blit c)} w:=fun c=>⟨hst.hr,hst.bl,hst.vs,⟨hst.ext.box,hst.ext.ent⟩,hst.mrk⟩
     by_cases hp:b.p
     ·exact runDraw_sound hsig hinl hQp hns hS0 hD hQ n (hst' true) (hlit true (by simp[PB.b,hp])) (hd.1 hp) hB hf hkp
     ·exact runDraw_sound hsig hinl hQp hns hS0 hD hQ n (hst' false) (hlit false (by simp[PB.b,hp])) (hd.2 hp) hB hf hkp
    | skip i' d=>
     obtain⟨rfl,rfl,hw⟩:=hok
     refine wpAnyH_take ho hns hfree hcont (fun c a w hh=>(hQp c _ _ hh).elim) (v:=undef) (.inr ⟨hw,rfl⟩) hB ?_
     have hst':Stp cfg.P w0 R0 bl0 vs0 ow0 st0 bl vs R ow (setTmp st o.dst (.con (.tuple #[]))) w:=by
      cases hdst:o.dst with
      |none=>exact hst
      |some d=>exact⟨hst.hr,hst.bl,hst.vs,⟨hst.ext.box,hst.ext.ent⟩,hst.mrk⟩
     exact runDraw_sound hsig hinl hQp hns hS0 hD hQ n hst' (ht.put o.dst rfl) hd hB hf2 (hkp.trans (Keeps.put (hD i' o ho)))
    | val i' d p=>
     obtain⟨rfl,rfl,hw,hp,hclean⟩:=hok
     obtain⟨hnsd,hd⟩:=needs_den.1 hd
     obtain⟨R2,hlook⟩:=base_look hst.bl hst.vs hst.hr.vsl hB
     have htb:TD bl vs ow ({baseOf st0 written with tmps:=st.tmps}:St (sem T)).tmps a:=ht
     obtain⟨v,hrun,hsv,hg⟩:=pure_sound (st:={baseOf st0 written with tmps:=st.tmps}) hlook htb.tr hp hnsd
     have hy:YieldsIf cfg.P ops (Base cfg.P bl0 vs0 (baseOf st0 written)) o v a:= .inl ⟨hw,fun w2 hB2=>by
      obtain⟨R3,hlook2⟩:=base_look hst.bl hst.vs hst.hr.vsl hB2
      obtain⟨v2,hrun2,hsv2,_⟩:=pure_sound (st:={baseOf st0 written with tmps:=st.tmps}) hlook2 htb.tr hp hnsd
      rw[SVR.unique hclean hsv hsv2]
      exact hrun2⟩
     refine wpAnyH_take ho hns hfree hcont (fun c a w hh=>(hQp c _ _ hh).elim) hy hB ?_
     have hst':Stp cfg.P w0 R0 bl0 vs0 ow0 st0 bl vs R ow (setTmp st o.dst p.v) w:=by
      cases hdst:o.dst with
      |none=>exact hst
      |some d=>exact⟨hst.hr,hst.bl,hst.vs,⟨hst.ext.box,hst.ext.ent⟩,hst.mrk⟩
     exact runDraw_sound hsig hinl hQp hns hS0 hD hQ n hst' (ht.put o.dst hsv) ((givens_den.1 hd) hg) hB hf2 (hkp.trans (Keeps.put (hD i' o ho)))
end Go.Sx
namespace Go.Sx
open Go.RowKit (Below)
variable{T:FuncId->Pred}{P:Program}{w0 w:World}{R0:Bs T}{R:Nat->Prop}{bl:List Nat}{vs:List Value}{ow:Nat->Option Owner}{st:St (sem T)}{a:Act}
def HRaw(P:Program)(w:World)(R:Nat->Prop)(owr:Nat->Option Owner):Nat->List HK->List Value->List D->Prop
 |_,[],[],ds=>ds=[]
 |n,hk::hks,v::vals,ds=>match hk.cell with
  |none=>HRaw P w R owr (n+1) hks vals ds
  |some p=>∃d ds',ds=d::ds'/\ResCell P w R owr n p v d/\HRaw P w R owr (n+1) hks vals ds'
 |_,_,_,_=>False
theorem havAll_sound{owr:Nat->Option Owner}:∀{hks:List HK}{n:Nat}{st:St (sem T)}{vs:List Value}{ow:Nat->Option Owner},HR P w0 R0 bl vs R ow st.boxes st.ents w->∀{vals:List Value}{ds:List D},HRaw P w R owr n hks vals ds->
  (∀m b,n<=m->owr b=some (.ent m)->w0.heap.size<=b/\ow b=none/\¬R b)->∀{f:List (SV (sem T))->List CS->St (sem T)->Tree (sem T)},(havAll P hks st f).den->
  ∃svs cs st' vs' ow',Stp P w0 R0 bl vs ow st bl vs' R ow' st' w/\st'.tmps=st.tmps/\st'.boxes=st.boxes/\(∃es,st'.ents=st.ents++es)/\SVRs bl vs' svs vals/\svs.length=hks.length/\cs.map Cl.toD=ds/\(f svs cs st').den
 | [],n,st,vs,ow,h,vals,ds,hc,hw,f,hd=>by
  cases vals with
  |cons=>exact hc.elim
  |nil=>
   have hc:ds=[]:=hc
   subst hc
   exact⟨[],[],st,vs,ow,(Stp.refl h),rfl,rfl,⟨[],by simp⟩,trivial,rfl,rfl,hd⟩
 | hk::hks,n,st,vs,ow,h,vals,ds,hc,hw,f,hd=>by
  cases vals with
  |nil=>exact hc.elim
  | cons v vals=>
   unfold HRaw at hc
   unfold havAll at hd
   cases hcell:hk.cell with
   |none=>
    simp only[hcell]at hc hd
    obtain⟨svs,cs,st2,vs2,ow2,hS2,ht2,hb2,he2,hsvs,hl,hcds,hd2⟩:=havAll_sound h hc (fun m b hm hb=>hw m b (by omega) hb) hd
    exact⟨.junk::svs,cs,st2,vs2,ow2,hS2,ht2,hb2,he2,⟨trivial,hsvs⟩,by simp[hl],hcds,hd2⟩
   | some p=>
    obtain⟨k,own⟩:=p
    simp only[hcell]at hc hd
    obtain⟨d,ds',rfl,hc1,hc2⟩:=hc
    have hfr:=freshCell_sound h hc1 (fun b hb=>hw n b (Nat.le_refl _) hb) hd
    obtain⟨sv,c,st1,vs1,ow1,hS,⟨ht,hbe⟩,hsv,hcd,hd1,hk1⟩:=hfr
    obtain⟨svs,cs,st2,vs2,ow2,hS2,ht2,hb2,⟨es2,he2⟩,hsvs,hl,hcds,hd2⟩:=havAll_sound hS.hr hc2 (fun m b hm hb=>by
     obtain⟨g1,g2,g3⟩:=hw m b (by omega) hb
     refine⟨g1, ?_,g3⟩
     rw[hk1 b (fun e=>by rw[hb]at e;cases e;omega)]
     exact g2) hd1
    obtain⟨hbb,es1,he1⟩:=hbe
    exact⟨sv::svs,c::cs,st2,vs2,ow2,hS.trans hS2,ht2.trans ht,hb2.trans hbb,⟨es1++es2,by rw[he2,he1,List.append_assoc]⟩,⟨hsv.mono hS2.bl hS2.vs,hsvs⟩,by simp[hl],by simp[hcd,hcds],hd2⟩
theorem junkSlots_len:∀(l:List (Nat×HK))(tmps:List (SV (sem T))),(junkSlots tmps l).length=tmps.length
 |[],_=>rfl
 |(t,_)::r,tmps=>by simp[junkSlots,junkSlots_len r]
theorem junkSlots_get:∀(l:List (Nat×HK))(tmps:List (SV (sem T)))(t:Nat)(x:SV (sem T)),(junkSlots tmps l)[t]? =some x->x= .junk\/(t∉l.map (·.1)/\tmps[t]? =some x)
 |[],tmps,t,x,h=> .inr ⟨by simp,h⟩
 | (t0,hk)::r,tmps,t,x,h=>by
  rcases junkSlots_get r _ t x h with h|⟨h1,h2⟩
  ·exact .inl h
  ·rcases get_set_inv h2 with⟨_,rfl⟩|⟨hne,h2⟩
   ·exact .inl rfl
   ·exact .inr ⟨by simp[hne,h1],h2⟩
theorem junkBoxes_spec:∀(l:List (Nat×List HK))(boxes:List (Box (sem T)))(i:Nat)(bx:Box (sem T)),boxes[i]? =some bx->∃bx',(junkBoxes boxes l)[i]? =some bx'/\bx'.ty=bx.ty/\bx'.live=bx.live/\bx'.cells.length=bx.cells.length/\
  ((i∉l.map (·.1)/\bx'=bx)\/(i∈l.map (·.1)/\bx.ver<bx'.ver/\bx'.cells=List.replicate bx.cells.length .junk))
 |[],boxes,i,bx,h=>⟨bx,h,rfl,rfl,rfl, .inl ⟨by simp,rfl⟩⟩
 | (b,hk)::r,boxes,i,bx,h=>by
  simp only[junkBoxes]
  cases hb:boxes[b]? with
  |none=>
   simp only
   obtain⟨bx',h1,h2,h3,h4,h5⟩:=junkBoxes_spec r boxes i bx h
   have hne:i≠b:=fun e=>by rw[e,hb]at h;cases h
   refine⟨bx',h1,h2,h3,h4, ?_⟩
   rcases h5 with⟨h5,h6⟩|⟨h5,h6⟩
   ·exact .inl ⟨by simp[hne];simpa using h5,h6⟩
   ·exact .inr ⟨by simp at h5⊢;exact .inr h5,h6⟩
  | some b0=>
   simp only
   by_cases hib:i=b
   ·subst hib
    rw[hb]at h;cases h
    obtain⟨bx',h1,h2,h3,h4,h5⟩:=junkBoxes_spec r (boxes.set i {bx with cells:=List.replicate bx.cells.length .junk,ver:=bx.ver+1}) i _ (set_get_same hb)
    simp only[List.length_replicate]at h4 h5
    refine⟨bx',h1,h2,h3,h4, .inr ⟨by simp, ?_⟩⟩
    rcases h5 with⟨_,h6⟩|⟨_,h6,h7⟩
    ·subst h6;exact⟨Nat.lt_succ_self _,rfl⟩
    ·exact⟨Nat.lt_trans (Nat.lt_succ_self _) h6,h7⟩
   ·obtain⟨bx',h1,h2,h3,h4,h5⟩:=junkBoxes_spec r (boxes.set b {b0 with cells:=List.replicate b0.cells.length .junk,ver:=b0.ver+1}) i bx (by rw[List.getElem?_set_ne (fun e=>hib e.symm)];exact h)
    refine⟨bx',h1,h2,h3,h4, ?_⟩
    rcases h5 with⟨h5,h6⟩|⟨h5,h6⟩
    ·exact .inl ⟨by simp[hib];simpa using h5,h6⟩
    ·exact .inr ⟨by simp at h5⊢;exact .inr h5,h6⟩
theorem junkBoxes_len:∀(l:List (Nat×List HK))(boxes:List (Box (sem T))),(junkBoxes boxes l).length=boxes.length
 |[],_=>rfl
 |(b,_)::r,boxes=>by
  simp only[junkBoxes]
  rw[junkBoxes_len r]
  split<;>simp
theorem killIds_spec:∀(l:List Nat)(st:St (sem T))(i:Nat)(e:Ent (sem T)),st.ents[i]? =some e->∃e',(killIds st l).ents[i]? =some e'/\((i∉l/\e'=e)\/(i∈l/\e'.live=false/\e.ver<e'.ver))
 |[],st,i,e,h=>⟨e,h, .inl ⟨by simp,rfl⟩⟩
 | id::l,st,i,e,h=>by
  simp only[killIds]
  have h1:∃e1,(killEnt st id).ents[i]? =some e1/\((i≠id/\e1=e)\/(i=id/\e1.live=false/\e.ver<e1.ver)):=by
   unfold killEnt
   split
   ·rename_i e0 he0
    by_cases hi:i=id
    ·subst hi
     rw[h]at he0;cases he0
     exact⟨_,set_get_same h, .inr ⟨rfl,rfl,Nat.lt_succ_self _⟩⟩
    ·exact⟨e,by simp only;rw[List.getElem?_set_ne (fun e=>hi e.symm)];exact h, .inl ⟨hi,rfl⟩⟩
   ·rename_i hn
    exact⟨e,h, .inl ⟨(fun hh=>by rw[hh,hn]at h;cases h),rfl⟩⟩
  obtain⟨e1,he1,hcase⟩:=h1
  obtain⟨e',he',hcase'⟩:=killIds_spec l (killEnt st id) i e1 he1
  refine⟨e',he', ?_⟩
  rcases hcase with⟨hi,rfl⟩|⟨rfl,hd,hv⟩
  ·rcases hcase' with⟨h1,h2⟩|⟨h1,h2⟩
   ·exact .inl ⟨by simp[hi,h1],h2⟩
   ·exact .inr ⟨by simp[h1],h2⟩
  ·rcases hcase' with⟨h1,rfl⟩|⟨h1,h2,h3⟩
   ·exact .inr ⟨by simp,hd,hv⟩
   ·exact .inr ⟨by simp,h2,Nat.lt_trans hv h3⟩
theorem killIds_len:∀(l:List Nat)(st:St (sem T)),(killIds st l).ents.length=st.ents.length
 |[],_=>rfl
 |id::l,st=>by
  simp only[killIds]
  rw[killIds_len l]
  unfold killEnt
  split<;>simp
theorem ext_head(h:Hav):Ext st (headSt st h) where
 box:=fun i bx hi=>by
  obtain⟨bx',h1,h2,h3,h4,h5⟩:=junkBoxes_spec h.boxes st.boxes i bx hi
  refine⟨bx',h1, ?_, ?_,h2⟩
  ·rcases h5 with⟨_,rfl⟩|⟨_,h6,_⟩
   ·exact Nat.le_refl _
   ·exact Nat.le_of_lt h6
  ·rcases h5 with⟨_,rfl⟩|⟨_,h6,_⟩
   ·exact fun _=>rfl
   ·intro hh;omega
 ent:=fun i e hi=>by
  obtain⟨e',h1,h2⟩:=killIds_spec (ownsOf st h) st i e hi
  refine⟨e',h1, ?_, ?_⟩
  ·rcases h2 with⟨_,rfl⟩|⟨_,_,h6⟩
   ·exact Nat.le_refl _
   ·exact Nat.le_of_lt h6
  ·rcases h2 with⟨_,rfl⟩|⟨_,_,h6⟩
   ·exact fun _=>rfl
   ·intro hh;omega
def cellsW(w:World)(bl:List Nat)(b:Nat):List Value:=match bl[b]? with
 |some x=>match w.heap[x]? with
  |some (.cells cs _ _)=>cs.toList
  |_=>[]
 |none=>[]
def valsAll(bl:List Nat)(vs:List Value)(w:World)(a:Act)(h:Hav):List Value:=h.ents.map (fun p=>vs.getD p.1 undef)++(h.slots.map (fun p=>a.tmps.getD p.1 undef)++h.boxes.flatMap fun p=>cellsW w bl p.1)
def Pre(P:Program)(w0:World)(R0:Bs T)(bl:List Nat)(vs:List Value)(ow:Nat->Option Owner)(sj:St (sem T))(h:Hav)(ds:List D)(a:Act)(w:World):Prop:=
 ∃R' ow' owr,HR P w0 R0 bl vs R' ow' sj.boxes sj.ents w/\TD bl vs ow' sj.tmps a/\HRaw P w R' owr 0 (hksAll h) (valsAll bl vs w a h) ds/\
  (∀m b,owr b=some (.ent m)->w0.heap.size<=b/\ow' b=none/\¬R' b)/\∀{l:Nat}{mo:Obj} b,ow b=some (.mark l mo)->ow' b=some (.mark l mo)
theorem svsAll_sound(hr:HR P w0 R0 bl vs R ow st.boxes st.ents w)(ht:TD bl vs ow st.tmps a){h:Hav}(hb:boxesOk st h=true):SVRs bl vs (svsAll st h) (valsAll bl vs w a h)/\(svsAll st h).length=(hksAll h).length:=by
 have h1:SVRs bl vs (h.slots.map fun p=>st.tmps.getD p.1 .junk) (h.slots.map fun p=>a.tmps.getD p.1 undef):=by
  have:=evs_sound ht.tr (h.slots.map fun p=>Operand.tmp p.1)
  rw[List.map_map,List.map_map]at this
  exact this
 have h2:∀(l:List (Nat×List HK)),boxesOkL st l=true->SVRs bl vs (l.flatMap fun p=>cellsAt st p.1) (l.flatMap fun p=>cellsW w bl p.1)/\(l.flatMap fun p=>cellsAt st p.1).length=(l.flatMap (·.2)).length:=by
  intro l
  induction l with
  |nil=>intro _;exact⟨trivial,rfl⟩
  | cons p l ih=>
   intro hl
   simp only[boxesOkL,List.all_cons,Bool.and_eq_true]at hl
   obtain⟨hp,hl⟩:=hl
   obtain⟨i1,i2⟩:=ih hl
   simp only[List.flatMap_cons,List.length_append]
   cases hbx:st.boxes[p.1]? with
   |none=>rw[hbx]at hp;cases hp
   |some bx=>
    rw[hbx]at hp
    simp only[Bool.and_eq_true,beq_iff_eq]at hp
    obtain⟨b,cs,g1,_,g3,g4⟩:=hr.box _ bx hbx hp.1
    have e1:cellsAt st p.1=bx.cells:=by simp[cellsAt,hbx]
    have e2:cellsW w bl p.1=cs.toList:=by simp[cellsW,g1,g3]
    rw[e1,e2]
    exact⟨g4.append i1,by rw[hp.2,i2]⟩
 unfold boxesOk at hb
 simp only[Bool.and_eq_true]at hb
 obtain⟨g1,g2⟩:=h2 h.boxes hb.1
 have h3:∀(l:List (Nat×TypeId)),(∀p∈l,p.1<st.ents.length)->SVRs (T:=T) bl vs (l.map fun p=>SV.sl p.1) (l.map fun p=>vs.getD p.1 undef):=by
  intro l
  induction l with
  |nil=>intro _;trivial
  |cons p l ih=>
   intro hl
   refine⟨?_,ih (fun q hq=>hl q (by simp[hq]))⟩
   have:=hl p (by simp)
   rw[<-hr.nv]at this
   show vs[p.1]? =some (vs.getD p.1 undef)
   rw[List.getD_eq_getElem?_getD,List.getElem?_eq_getElem this]
   rfl
 refine⟨(h3 h.ents (fun p hp=>by simpa using List.all_eq_true.1 hb.2 p hp)).append (h1.append g1), ?_⟩
 simp only[svsAll,hksAll,List.length_append,List.length_map,g2]
open Classical in
theorem HR.revive{boxes:List (Box (sem T))}{ents:List (Ent (sem T))}(h:HR P w0 R0 bl vs R ow boxes ents w)(n id id':Nat)(hv:vs[id]? =vs[id']?):
  ∃ow',HR P w0 R0 bl vs R ow' boxes (revive n ents id id') w/\∀{l:Nat}{mo:Obj} b,ow b=some (.mark l mo)->ow' b=some (.mark l mo):=by
 unfold Go.Sx.revive
 split
 ·rename_i e e' he he'
  split
  ·rename_i hc
   simp only[Bool.and_eq_true,Bool.not_eq_true',decide_eq_true_eq]at hc
   obtain⟨⟨⟨hdead,hlive⟩,hown⟩,_⟩:=hc
   have hne:id≠id':=fun e0=>by subst e0;rw[he]at he';cases he';rw[hdead]at hlive;cases hlive
   refine⟨fun b=>if ow b=some (.ent id')then some (.ent id)else ow b, ?_,fun b hb=>by show(if ow b=some (.ent id')then some (.ent id)else ow b)=_;rw[hb,if_neg (by simp)]⟩
   have hget:∀j x,((ents.set id {e' with ver:=e.ver+1}).set id' {e' with live:=false,ver:=e'.ver+1})[j]? =some x->(j=id'/\x.live=false)\/(j=id/\x={e' with ver:=e.ver+1})\/(j≠id/\j≠id'/\ents[j]? =some x):=by
    intro j x hj
    rcases get_set_inv hj with⟨rfl,rfl⟩|⟨hj1,hj⟩
    ·exact .inl ⟨rfl,rfl⟩
    ·rcases get_set_inv hj with⟨rfl,rfl⟩|⟨hj2,hj⟩
     ·exact .inr (.inl ⟨rfl,rfl⟩)
     ·exact .inr (.inr ⟨fun e=>hj2 (by rw[e]),fun e=>hj1 (by rw[e]),hj⟩)
   exact{
    below:=h.below
    rlt:=h.rlt
    r0:=h.r0
    rsub:=h.rsub
    ro:=fun b hb=>by
     show(if ow b=some (.ent id')then some (.ent id)else ow b)=none
     rw[h.ro b hb,if_neg (by simp)]
    olt:=fun b o ho=>by
     by_cases e0:ow b=some (.ent id')
     ·exact h.olt b _ e0
     ·have ho:(if ow b=some (.ent id')then some (.ent id)else ow b)=some o:=ho
      rw[if_neg e0]at ho;exact h.olt b o ho
    nb:=h.nb
    nv:=by simp[h.nv]
    vsl:=h.vsl
    glb:=h.glb
    box:=fun i bx hi hl=>by
     obtain⟨b,cs,g1,g2,g3,g4⟩:=h.box i bx hi hl
     exact⟨b,cs,g1,(by show(if ow b=some (.ent id')then some (.ent id)else ow b)=_;rw[g2,if_neg (by simp)]),g3,g4⟩
    ent:=fun j x hj hl=>by
     rcases hget j x hj with⟨_,hd⟩|⟨rfl,rfl⟩|⟨n1,n2,hj⟩
     ·rw[hd]at hl;cases hl
     ·obtain⟨v,k1,_,k3⟩:=h.ent id' e' he' hlive
      refine⟨v,by rw[hv];exact k1,fun hh=>(by rw[hown]at hh;cases hh),fun _=>Own.relabel (k3 hown) (fun b hb _=>if_pos hb)⟩
     ·obtain⟨v,k1,k2,k3⟩:=h.ent j x hj hl
      refine⟨v,k1,k2,fun hh=>(k3 hh).mono (fun _ y=>y) (fun _ _=>rfl) (fun b hb=>⟨?_,rfl⟩)⟩
      show(if ow b=some (.ent id')then some (.ent id)else ow b)=_
      rw[hb,if_neg (fun e0=>n2 (by cases e0;rfl))]
    mrk:=fun b hb=>by
     rename_i l mo
     have hb:(if ow b=some (.ent id')then some (.ent id)else ow b)=some (.mark l mo):=hb
     by_cases e0:ow b=some (.ent id')
     ·rw[if_pos e0]at hb;cases hb
     ·rw[if_neg e0]at hb;exact h.mrk b hb
    lp:=fun i L hi=>by
     obtain⟨bx,b,g1,g2,g3,g4,g5⟩:=h.lp i L hi
     exact⟨bx,b,g1,g2,g3,(by show(if ow b=some (.ent id')then some (.ent id)else ow b)=_;rw[g4,if_neg (by simp)]),g5⟩}
  ·exact⟨ow,h,fun _ x=>x⟩
 ·exact⟨ow,h,fun _ x=>x⟩
theorem revive_spec(n:Nat)(ents:List (Ent (sem T)))(id id':Nat):(revive n ents id id').length=ents.length/\
  (∀(i:Nat)(e:Ent (sem T)),ents[i]? =some e->∃e':Ent (sem T),(revive n ents id id')[i]? =some e'/\e.ver<=e'.ver/\(e'.ver=e.ver->e'=e))/\∀i:Nat,i<n->i≠id->(revive n ents id id')[i]? =ents[i]? :=by
 unfold Go.Sx.revive
 split
 ·rename_i e e' he he'
  split
  ·rename_i hc
   simp only[Bool.and_eq_true,Bool.not_eq_true',decide_eq_true_eq]at hc
   obtain⟨⟨⟨hdead,hlive⟩,hown⟩,hn⟩:=hc
   have hne:id≠id':=fun e0=>by subst e0;rw[he]at he';cases he';rw[hdead]at hlive;cases hlive
   refine⟨by simp,fun i x hi=> ?_,fun i hi hid=> ?_⟩
   ·by_cases e1:i=id'
    ·subst e1
     rw[he']at hi;cases hi
     exact⟨_,set_get_same (by rw[List.getElem?_set_ne hne];exact he'),Nat.le_succ _,fun hh=>by simp at hh⟩
    ·by_cases e2:i=id
     ·subst e2
      rw[he]at hi;cases hi
      exact⟨_,by rw[List.getElem?_set_ne (fun e=>e1 e.symm)];exact set_get_same he,Nat.le_succ _,fun hh=>by simp at hh⟩
     ·exact⟨x,by rw[List.getElem?_set_ne (fun e=>e1 e.symm),List.getElem?_set_ne (fun e=>e2 e.symm)];exact hi,Nat.le_refl _,fun _=>rfl⟩
   ·rw[List.getElem?_set_ne (by omega),List.getElem?_set_ne (fun e=>hid e.symm)]
  ·exact⟨rfl,fun i e hi=>⟨e,hi,Nat.le_refl _,fun _=>rfl⟩,fun _ _ _=>rfl⟩
 ·exact⟨rfl,fun i e hi=>⟨e,hi,Nat.le_refl _,fun _=>rfl⟩,fun _ _ _=>rfl⟩
theorem reviveAll_nil(n:Nat)(svs:List (SV (sem T)))(ents:List (Ent (sem T))):Go.Sx.reviveAll n [] svs ents=ents:=by cases svs<;>simp[Go.Sx.reviveAll]
theorem reviveAll_none(n:Nat)(l:List (Nat×TypeId))(ents:List (Ent (sem T))):Go.Sx.reviveAll n l [] ents=ents:=by cases l<;>simp[Go.Sx.reviveAll]
theorem reviveAll_take(n:Nat):∀(l:List (Nat×TypeId))(svs:List (SV (sem T)))(ents:List (Ent (sem T))),Go.Sx.reviveAll n l (svs.take l.length) ents=Go.Sx.reviveAll n l svs ents
 |[],svs,ents=>by rw[reviveAll_nil,reviveAll_nil]
 |(id,t)::l,[],ents=>by simp
 |(id,t)::l,sv::svs,ents=>by
  simp only[List.length_cons,List.take_succ_cons]
  cases sv<;>simp only[Go.Sx.reviveAll]<;>exact reviveAll_take n l svs _
theorem reviveAll_spec(n:Nat):∀(l:List (Nat×TypeId))(svs:List (SV (sem T)))(ents:List (Ent (sem T))),(reviveAll n l svs ents).length=ents.length/\
  (∀(i:Nat)(e:Ent (sem T)),ents[i]? =some e->∃e':Ent (sem T),(reviveAll n l svs ents)[i]? =some e'/\e.ver<=e'.ver/\(e'.ver=e.ver->e'=e))/\∀i:Nat,i<n->i∉l.map (·.1)->(reviveAll n l svs ents)[i]? =ents[i]?
 |[],svs,ents=>by rw[reviveAll_nil];exact⟨rfl,fun i e hi=>⟨e,hi,Nat.le_refl _,fun _=>rfl⟩,fun _ _ _=>rfl⟩
 |(id,t)::l,[],ents=>by rw[reviveAll_none];exact⟨rfl,fun i e hi=>⟨e,hi,Nat.le_refl _,fun _=>rfl⟩,fun _ _ _=>rfl⟩
 | (id,t)::l,sv::svs,ents=>by
  have other:reviveAll n ((id,t)::l) (sv::svs) ents=reviveAll n l svs ents\/∃id',sv= .sl id'/\reviveAll n ((id,t)::l) (sv::svs) ents=reviveAll n l svs (revive n ents id id'):=by
   cases sv<;>first|exact .inr ⟨_,rfl,rfl⟩|exact .inl rfl
  rcases other with h|⟨id',rfl,h⟩
  ·rw[h]
   obtain⟨g1,g2,g3⟩:=reviveAll_spec n l svs ents
   exact⟨g1,g2,fun i hi hm=>g3 i hi (fun hh=>hm (by simp[hh]))⟩
  ·rw[h]
   obtain⟨k1,k2,k3⟩:=revive_spec n ents id id'
   obtain⟨g1,g2,g3⟩:=reviveAll_spec n l svs (revive n ents id id')
   refine⟨g1.trans k1,fun i e hi=> ?_,fun i hi hm=> ?_⟩
   ·obtain⟨e1,q1,q2,q3⟩:=k2 i e hi
    obtain⟨e2,r1,r2,r3⟩:=g2 i e1 q1
    refine⟨e2,r1,Nat.le_trans q2 r2,fun hh=> ?_⟩
    have h1:e1.ver=e.ver:=by omega
    have h2:=q3 h1
    subst h2
    exact r3 hh
   ·simp only[List.map_cons,List.mem_cons,not_or]at hm
    rw[g3 i hi hm.2,k3 i hi hm.1]
theorem HR.reviveAll{boxes:List (Box (sem T))}(n:Nat):∀(l:List (Nat×TypeId))(svs:List (SV (sem T))){ents:List (Ent (sem T))}{ow:Nat->Option Owner},HR P w0 R0 bl vs R ow boxes ents w->(∀p∈l,p.1<vs.length)->SVRs bl vs svs (l.map fun p=>vs.getD p.1 undef)->
  ∃ow',HR P w0 R0 bl vs R ow' boxes (Go.Sx.reviveAll n l svs ents) w/\∀{l:Nat}{mo:Obj} b,ow b=some (.mark l mo)->ow' b=some (.mark l mo)
 |[],svs,ents,ow,h,_,_=>⟨ow,by rw[reviveAll_nil];exact h,fun _ x=>x⟩
 |(id,t)::l,[],ents,ow,h,_,_=>⟨ow,by rw[reviveAll_none];exact h,fun _ x=>x⟩
 | (id,t)::l,sv::svs,ents,ow,h,hl,hs=>by
  have hl':∀p∈l,p.1<vs.length:=fun p hp=>hl p (by simp[hp])
  have other:Go.Sx.reviveAll n ((id,t)::l) (sv::svs) ents=Go.Sx.reviveAll n l svs ents\/∃id',sv= .sl id'/\Go.Sx.reviveAll n ((id,t)::l) (sv::svs) ents=Go.Sx.reviveAll n l svs (Go.Sx.revive n ents id id'):=by
   cases sv<;>first|exact .inr ⟨_,rfl,rfl⟩|exact .inl rfl
  rcases other with hh|⟨id',rfl,hh⟩
  ·rw[hh];exact HR.reviveAll n l svs h hl' hs.2
  ·rw[hh]
   have hid:=hl (id,t) (by simp)
   have h1:vs[id']? =some (vs.getD id undef):=hs.1
   have h2:vs[id]? =some (vs.getD id undef):=by
    rw[List.getD_eq_getElem?_getD,List.getElem?_eq_getElem hid];rfl
   obtain⟨ow1,k1,k2⟩:=h.revive n id id' (h2.trans h1.symm)
   obtain⟨ow2,g1,g2⟩:=HR.reviveAll n l svs k1 hl' hs.2
   exact⟨ow2,g1,fun b hb=>g2 b (k2 b hb)⟩
theorem raw_sound(hr:HR P w0 R0 bl vs R ow st.boxes st.ents w){owr:Nat->Option Owner}:∀{hks:List HK}{svs:List (SV (sem T))}{vals:List Value}{cs:List CS}{n:Nat},rawCells st.ents hks svs=some cs->SVRs bl vs svs vals->
  (∀q id,(idList hks svs)[q]? =some (some id)->∀b,ow b=some (.ent id)->owr b=some (.ent (n+q)))->HRaw P w R owr n hks vals (cs.map Cl.toD)
 |[],[],vals,cs,n,h,hs,_=>by
  simp only[rawCells,Option.some.injEq]at h
  subst h
  cases vals with
  |nil=>rfl
  |cons=>exact hs.elim
 | hk :: hks,sv::svs,vals,cs,n,h,hs,ho=>by
  cases vals with
  |nil=>exact hs.elim
  | cons v vals=>
   have hrest:∀q id,(idList hks svs)[q]? =some (some id)->∀b,ow b=some (.ent id)->owr b=some (.ent (n+1+q)):=fun q id hq b hb=>by
    have:=ho (q+1) id (by simpa[idList]using hq) b hb
    rw[show n+1+q=n+(q+1) by omega]
    exact this
   simp only[rawCells]at h
   unfold HRaw
   split at h
   ·rename_i cs' hcell hcs
    cases h
    simp only[hcell]
    exact raw_sound hr hcs hs.2 hrest
   ·rename_i p cs' hcell hcs
    split at h
    ·rename_i c hc
     cases h
     simp only[hcell]
     refine⟨c.toD,cs'.map Cl.toD,rfl, ?_,raw_sound hr hcs hs.2 hrest⟩
     unfold rawCell at hc
     split at hc
     ·rename_i e id
      split at hc
      ·rename_i en hen
       split at hc
       ·rename_i hcc
        simp only[Bool.and_eq_true,beq_iff_eq]at hcc
        obtain⟨⟨hlive,hown⟩,rfl⟩:=hcc
        cases hc
        obtain⟨u,hu,_,hO⟩:=hr.ent id en hen hlive
        have hsv:vs[id]? =some v:=hs.1
        rw[hu]at hsv;cases hsv
        refine⟨en.s,rfl,(hO hown).relabel (fun b hb _=> ?_)⟩
        have hid:idOf hk (.sl id:SV (sem T))=some id:=by
         cases hk<;>simp[HK.cell]at hcell
         obtain⟨rfl,rfl⟩:=hcell
         rfl
        have:=ho 0 id (by simp[idList,hid]) b hb
        simpa using this
       ·cases hc
      ·cases hc
     ·rename_i e
      split at hc
      ·cases hc
      rename_i hm
      have hm:isM e=false:=by simpa using hm
      cases hc
      have hv:v= .slice none 0 0:=hs.1
      subst hv
      exact⟨Sl.nil,rfl,fun _=>⟨none,0,rfl,Nat.le_refl _,Nat.zero_le _,fun _=>rfl, .inl rfl⟩,fun hh=>absurd (hm.symm.trans hh) Bool.false_ne_true⟩
     ·cases hc
     ·rename_i k own hne1 hne2 hne3
      have hrd:=toClR_sound hr hc hs.1
      cases k with
      |sl e=>
       cases own with
       |false=>exact hrd
       |true=>first|exact(hne2 e rfl rfl).elim|exact(hne1 e rfl rfl).elim|exact(hne3 e rfl rfl).elim
      |_=>exact hrd
    ·cases h
   ·cases h
 |[],_::_,_,_,_,h,_,_=>by simp[rawCells]at h
 |_::_,[],_,_,_,h,_,_=>by simp[rawCells]at h
end Go.Sx
namespace Go.Sx
open Go.RowKit (Below)
variable{T:FuncId->Pred}{P:Program}{w0 w:World}{R0:Bs T}{R:Nat->Prop}{bl:List Nat}{vs:List Value}{ow:Nat->Option Owner}{st:St (sem T)}{a:Act}
theorem cellsW_mono{bl bl1:List Nat}(hb:∀(i:Nat)(b:Nat),bl[i]? =some b->bl1[i]? =some b){i:Nat}(hi:i<bl.length):cellsW w bl1 i=cellsW w bl i:=by
 have h0:bl[i]? =some bl[i]:=List.getElem?_eq_getElem hi
 simp[cellsW,h0,hb _ _ h0]
open Classical in
theorem mkPre{h:Hav}{sj st1:St (sem T)}{bl1:List Nat}{vs1:List Value}{R1:Nat->Prop}{ow1:Nat->Option Owner}{w1:World}{a1:Act}{news:List CS}
  (h1:HR P w0 R0 bl1 vs1 R1 ow1 st1.boxes st1.ents w1) (t1:TD bl1 vs1 ow1 st1.tmps a1)
  (hbl:∀(i:Nat)(b:Nat),bl[i]? =some b->bl1[i]? =some b) (hvs:∀(i:Nat)(b:Value),vs[i]? =some b->vs1[i]? =some b)
  (hraw:rawSt st1 h=some news) (hnd:(ownsOf st1 h).Nodup) (hnb:bl.length=sj.boxes.length) (hnv:vs.length=sj.ents.length) (hbx:∀p∈h.boxes,p.1<bl.length) (hen:∀p∈h.ents,p.1<vs.length)
  (hbox:∀(i:Nat)(bx:Box (sem T)),sj.boxes[i]? =some bx->bx.live=true->∃bx1,st1.boxes[i]? =some bx1/\bx1.live=true/\bx1.ty=bx.ty/\∀cs,SVRs bl1 vs1 bx1.cells cs->SVRs bl vs bx.cells cs)
  (hent:∀(i:Nat)(e:Ent (sem T)),sj.ents[i]? =some e->e.live=true->st1.ents[i]? =some e/\i∉ownsOf st1 h)
  (htr:SVRs bl vs sj.tmps a1.tmps.toList) (hlp:∀i L,R0.lps i=some L->∃bx,sj.boxes[i]? =some bx/\bx.live=false/\st1.boxes[i]? =some bx/\∃v0,SVRs bl vs L.tmps v0)
  (hmk:∀{l:Nat}{mo:Obj} b,ow b=some (.mark l mo)->ow1 b=some (.mark l mo)):Pre P w0 R0 bl vs ow sj h (news.map Cl.toD) a1 w1:=by
 unfold rawSt at hraw
 split at hraw
 rotate_left
 ·cases hraw
 rename_i hbok
 obtain⟨hsv,hlen⟩:=svsAll_sound h1 t1 hbok
 have hval:valsAll bl1 vs1 w1 a1 h=valsAll bl vs w1 a1 h:=by
  unfold valsAll
  congr 1
  ·refine List.map_congr_left fun p hp=> ?_
   have hlt:=hen p hp
   have h0:vs[p.1]? =some vs[p.1]:=List.getElem?_eq_getElem hlt
   rw[List.getD_eq_getElem?_getD,List.getD_eq_getElem?_getD,h0,hvs _ _ h0]
  congr 1
  have:∀(l:List (Nat×List HK)),(∀p∈l,p.1<bl.length)->(l.flatMap fun p=>cellsW w1 bl1 p.1)=l.flatMap fun p=>cellsW w1 bl p.1:=by
   intro l
   induction l with
   |nil=>intro _;rfl
   |cons p l ih=>
    intro hl
    simp only[List.flatMap_cons]
    rw[cellsW_mono hbl (hl p (by simp)),ih (fun q hq=>hl q (by simp[hq]))]
  exact this _ hbx
 rw[hval]at hsv
 let ids:=idList (hksAll h) (svsAll st1 h)
 let ow':Nat->Option Owner:=fun b=>match ow1 b with
  |some (.box i)=>if i<sj.boxes.length then some (.box i)else none
  |some (.ent i)=>if i<sj.ents.length/\i∉ownsOf st1 h then some (.ent i)else none
  |some (.mark l mo)=>some (.mark l mo)
  |none=>none
 let owr:Nat->Option Owner:=fun b=>if hh:∃q:Nat,∃id,ids[q]? =some (some id)/\ow1 b=some (.ent id)then some (.ent (Classical.choose hh))else none
 have how:∀b o,ow' b=some o->ow1 b=some o:=by
  intro b o ho
  simp only[ow']at ho
  split at ho
  ·split at ho<;>simp_all
  ·split at ho<;>simp_all
  ·simp_all
  ·cases ho
 have hmk':∀{l:Nat}{mo:Obj} b,ow1 b=some (.mark l mo)->ow' b=some (.mark l mo):=fun b hb=>by simp only[ow',hb]
 refine⟨R1,ow',owr, ?_,⟨t1.1.mono hmk',htr⟩, ?_, ?_,fun b hb=>hmk' b (hmk b hb)⟩
 ·exact{
   below:=h1.below
   rlt:=h1.rlt
   r0:=h1.r0
   rsub:=h1.rsub
   ro:=fun b hb=>by simp only[ow',h1.ro b hb]
   olt:=fun b o ho=>h1.olt b o (how b o ho)
   nb:=hnb
   nv:=hnv
   glb:=h1.glb
   vsl:=fun i v hi=>h1.vsl i v (hvs i v hi)
   box:=fun i bx hi hl=>by
    obtain⟨bx1,g1,g2,g3,g4⟩:=hbox i bx hi hl
    obtain⟨b,cs,k1,k2,k3,k4⟩:=h1.box i bx1 g1 g2
    have hlt:i<sj.boxes.length:=(List.getElem?_eq_some_iff.1 hi).1
    have hbi:bl[i]? =some b:=by
     have h0:bl[i]? =some bl[i]:=List.getElem?_eq_getElem (hnb▸hlt)
     rw[h0]
     have:=hbl _ _ h0
     rw[k1]at this
     exact this.symm
    exact⟨b,cs,hbi,by simp only[ow',k2,if_pos hlt],by rw[<-g3];exact k3,g4 _ k4⟩
   ent:=fun i e hi hl=>by
    obtain⟨g1,g2⟩:=hent i e hi hl
    obtain⟨v,k1,k2,k3⟩:=h1.ent i e g1 hl
    have hlt:i<sj.ents.length:=(List.getElem?_eq_some_iff.1 hi).1
    have hvi:vs[i]? =some v:=by
     have h0:vs[i]? =some vs[i]:=List.getElem?_eq_getElem (hnv▸hlt)
     rw[h0]
     have:=hvs _ _ h0
     rw[k1]at this
     exact this.symm
    exact⟨v,hvi,k2,fun ho=>(k3 ho).relabel fun b hb _=>by simp only[ow',hb];rw[if_pos ⟨hlt,g2⟩]⟩
   mrk:=fun b hb=>h1.mrk b (how b _ hb)
   lp:=fun i L hi=>by
    obtain⟨bx,g1,g2,g3,v0,g4⟩:=hlp i L hi
    obtain⟨bx1,b,k1,k2,k3,k4,r,r1,r2,r3,r4,r5,r6⟩:=h1.lp i L hi
    rw[g3]at k1;cases k1
    have hlt:i<sj.boxes.length:=(List.getElem?_eq_some_iff.1 g1).1
    have hbi:bl[i]? =some b:=by
     have h0:bl[i]? =some bl[i]:=List.getElem?_eq_getElem (hnb▸hlt)
     rw[h0]
     have:=hbl _ _ h0
     rw[k3]at this
     exact this.symm
    exact⟨bx,b,g1,g2,hbi,by simp only[ow',k4,if_pos hlt],r,r1,r2,r3,r4,g4.back hbl hvs r5,r6⟩}
 ·refine raw_sound h1 hraw hsv fun q id hq b hb=> ?_
  have hh:∃q:Nat,∃id,ids[q]? =some (some id)/\ow1 b=some (.ent id):=⟨q,id,hq,hb⟩
  simp only[owr,dif_pos hh,Nat.zero_add]
  obtain⟨id',k1,k2⟩:=Classical.choose_spec hh
  rw[hb]at k2
  cases k2
  rw[idx_unique (l:=ids) hnd k1 hq]
 ·intro m b hb
  simp only[owr]at hb
  split at hb
  ·rename_i hh
   obtain⟨q,id,k1,k2⟩:=hh
   have hmem:id∈ownsOf st1 h:=by
    unfold ownsOf
    rw[List.mem_filterMap]
    exact⟨some id,List.mem_of_getElem? k1,rfl⟩
   refine⟨(h1.olt b _ k2).1, ?_,fun hR=>by rw[h1.ro b hR]at k2;cases k2⟩
   simp only[ow',k2]
   rw[if_neg (fun hc=>hc.2 hmem)]
  ·cases hb
theorem head_box{h:Hav}{i:Nat}{bx':Box (sem T)}(hi:(headSt st h).boxes[i]? =some bx'):∃bx,st.boxes[i]? =some bx/\bx'.ty=bx.ty/\bx'.live=bx.live/\bx'.cells.length=bx.cells.length/\
  ((i∉h.boxes.map (·.1)/\bx'=bx)\/(i∈h.boxes.map (·.1)/\bx.ver<bx'.ver/\bx'.cells=List.replicate bx.cells.length .junk)):=by
 have hlt:i<st.boxes.length:=by
  have:=(List.getElem?_eq_some_iff.1 hi).1
  simpa[headSt,junkBoxes_len]using this
 have h0:st.boxes[i]? =some st.boxes[i]:=List.getElem?_eq_getElem hlt
 obtain⟨bx'',k1,k2⟩:=junkBoxes_spec h.boxes st.boxes i _ h0
 have:some bx''=some bx':=k1.symm.trans hi
 cases this
 exact⟨_,h0,k2⟩
theorem head_ent{h:Hav}{i:Nat}{e':Ent (sem T)}(hi:(headSt st h).ents[i]? =some e')(hl:e'.live=true):st.ents[i]? =some e'/\i∉ownsOf st h:=by
 have hlt:i<st.ents.length:=by
  have:=(List.getElem?_eq_some_iff.1 hi).1
  simpa[headSt,killIds_len]using this
 have h0:st.ents[i]? =some st.ents[i]:=List.getElem?_eq_getElem hlt
 obtain⟨e'',k1,k2⟩:=killIds_spec (ownsOf st h) st i _ h0
 have:some e''=some e':=k1.symm.trans hi
 cases this
 rcases k2 with⟨k2,rfl⟩|⟨_,k3,_⟩
 ·exact⟨h0,k2⟩
 ·rw[hl]at k3;cases k3
theorem junk_svrs:∀{n:Nat}{cs:List Value},cs.length=n->SVRs bl vs (List.replicate n (.junk:SV (sem T))) cs
 |0,[],_=>trivial
 |n+1,c::cs,h=>⟨trivial,junk_svrs (by simpa using h)⟩
 |0,_::_,h=>by simp at h
 |_+1,[],h=>by simp at h
theorem head_tr{h:Hav}(ht:TD bl vs ow st.tmps a){D:List Nat}(hD:∀t∈D,t∈h.slots.map (·.1)){a':Act}(hk:Keeps D a a'):SVRs bl vs (headSt st h).tmps a'.tmps.toList:=by
 refine SVRs.of_get ?_ fun i x y hx hy=> ?_
 ·have:=ht.2.length
  simp only[headSt,junkSlots_len,Array.length_toList]at this⊢
  rw[this,hk.1]
 ·rcases junkSlots_get h.slots st.tmps i x hx with rfl|⟨h1,h2⟩
  ·trivial
  ·obtain⟨y',hy',hs⟩:=ht.2.get h2
   have:=hk.2 i (fun hh=>h1 (hD i hh))
   simp only[Array.getElem?_toList]at hy hy'
   rw[hy,hy']at this
   cases this
   exact hs
theorem putSlots_tr:∀{l:List (Nat×HK)}{tmps:List (SV (sem T))}{svs:List (SV (sem T))},TD bl vs ow tmps a->SVRs bl vs (svs.take l.length) (l.map fun p=>a.tmps.getD p.1 undef)->TD bl vs ow (putSlots tmps l svs) a
 |[],tmps,svs,ht,_=>by cases svs<;>exact ht
 |(t,hk)::l,tmps,[],ht,_=>ht
 |(t,hk)::l,tmps,v::svs,ht,hs=>by
  simp only[putSlots]
  simp only[List.length_cons,List.take_succ_cons,List.map_cons]at hs
  refine putSlots_tr (TD.same (st:={tmps:=tmps,boxes:=[],ents:=[]}) ht fun u hu=> ?_) hs.2
  have:a.tmps.getD t undef=u:=by simp[Array.getD_eq_getD_getElem?,hu]
  rw[<-this]
  exact hs.1
def BoxesFit(boxes:List (Box (sem T)))(l:List (Nat×List HK)):Prop:=∀p∈l,∃bx,boxes[p.1]? =some bx/\bx.live=true/\bx.cells.length=p.2.length
theorem putBoxes_hr{ents:List (Ent (sem T))}:∀{l:List (Nat×List HK)}{boxes:List (Box (sem T))}{svs:List (SV (sem T))},HR P w0 R0 bl vs R ow boxes ents w->BoxesFit boxes l->SVRs bl vs svs (l.flatMap fun p=>cellsW w bl p.1)->
    HR P w0 R0 bl vs R ow (putBoxes boxes l svs) ents w
  |[],boxes,svs,h,_,_=>h
  | (b, hks)::l,boxes,svs,h,hf,hs=>by
    obtain⟨bx,hbx,hl,hn⟩:=hf (b,hks) (by simp)
    obtain⟨x,cs,k1,k2,k3,k4⟩:=h.box b bx hbx hl
    have hcw:cellsW w bl b=cs.toList:=by simp[cellsW,k1,k3]
    have hlen:cs.toList.length=hks.length:=by rw[<-k4.length,hn]
    simp only[List.flatMap_cons,hcw]at hs
    have hs1:=hs.take hks.length
    have hs2:=hs.drop hks.length
    rw[List.take_left' hlen]at hs1
    rw[List.drop_left' hlen]at hs2
    simp only[putBoxes,hbx]
    refine putBoxes_hr ?_ ?_ hs2
    · exact{h with
        nb:=by simp[h.nb]
        box:=fun i bx' hi hl'=>by
          rcases get_set_inv hi with⟨rfl,rfl⟩|⟨hne,hi⟩
          · exact⟨x,cs,k1,k2,k3,hs1⟩
          · exact h.box i bx' hi hl'
        lp:=fun i L hi=>by
          obtain⟨bx',x',g1,g2,g3,g4,g5⟩:=h.lp i L hi
          have hne:i≠b:=fun e=>by rw[e,hbx]at g1;cases g1;rw[hl]at g2;cases g2
          exact⟨bx',x',by rw[List.getElem?_set_ne (fun e=>hne e.symm)];exact g1,g2,g3,g4,g5⟩}
    · intro p hp
      obtain⟨bx',g1,g2,g3⟩:=hf p (by simp[hp])
      by_cases hpb:p.1=b
      · rw[hpb,hbx]at g1
        cases g1
        refine⟨{bx with cells:=svs.take hks.length},by rw[hpb];exact set_get_same hbx,hl, ?_⟩
        show(svs.take hks.length).length=p.2.length
        rw[hs1.length,hlen,<-hn,g3]
      · exact⟨bx',by rw[List.getElem?_set_ne (fun e=>hpb e.symm)];exact g1,g2,g3⟩
theorem putBoxes_spec:∀(l:List (Nat×List HK))(boxes:List (Box (sem T)))(svs:List (SV (sem T)))(i:Nat)(bx:Box (sem T)),boxes[i]? =some bx->∃cells,(putBoxes boxes l svs)[i]? =some {bx with cells:=cells}/\(i∉l.map (·.1)->cells=bx.cells)
 |[],boxes,svs,i,bx,h=>⟨bx.cells,h,fun _=>rfl⟩
 | (b,hks)::l,boxes,svs,i,bx,h=>by
  simp only[putBoxes]
  by_cases hib:i=b
  ·subst hib
   simp only[h]
   obtain⟨cells,g1,g2⟩:=putBoxes_spec l (boxes.set i {bx with cells:=svs.take hks.length}) (svs.drop hks.length) i _ (set_get_same h)
   exact⟨cells,g1,fun hh=>absurd (by simp) hh⟩
  ·cases hb:boxes[b]? with
   |none=>
    simp only
    obtain⟨cells,g1,g2⟩:=putBoxes_spec l boxes (svs.drop hks.length) i bx h
    exact⟨cells,g1,fun hh=>g2 (fun hm=>hh (List.mem_cons_of_mem _ hm))⟩
   |some bx0=>
    simp only
    obtain⟨cells,g1,g2⟩:=putBoxes_spec l (boxes.set b {bx0 with cells:=svs.take hks.length}) (svs.drop hks.length) i bx (by rw[List.getElem?_set_ne (fun e=>hib e.symm)];exact h)
    exact⟨cells,g1,fun hh=>g2 (fun hm=>hh (List.mem_cons_of_mem _ hm))⟩
end Go.Sx
namespace Go.Sx
open Go.RowKit (Below)
variable{T:FuncId->Pred}{w0:World}{R0:Bs T}
section
variable{P:Program}{w:World}{R:Nat->Prop}{bl:List Nat}{vs:List Value}{ow:Nat->Option Owner}{st:St (sem T)}{a:Act}
theorem boxesOk_at{h:Hav}(hok:boxesOk st h=true){p:Nat×List HK}(hp:p∈h.boxes):∃bx,st.boxes[p.1]? =some bx/\bx.live=true/\bx.cells.length=p.2.length:=by
 unfold boxesOk at hok
 simp only[Bool.and_eq_true]at hok
 have:=List.all_eq_true.1 hok.1 p hp
 split at this
 ·rename_i bx hbx
  simp only[Bool.and_eq_true,beq_iff_eq]at this
  exact⟨bx,hbx,this.1,this.2⟩
 ·cases this
theorem ents_own(l:List (Nat×TypeId))(hks:List HK)(svs:List (SV (sem T))){i:Nat}(hi:i∈l.map (·.1)):i∈(idList (l.map (fun p=>HK.sl p.2 true)++hks) (l.map (fun p=>SV.sl p.1)++svs)).filterMap id:=by
 induction l with
 |nil=>simp at hi
 |cons p l ih=>
  simp only[List.map_cons,List.mem_cons]at hi
  simp only[List.map_cons,List.cons_append,idList,idOf,List.filterMap_cons,id]
  rcases hi with rfl|hi
  ·simp
  ·exact List.mem_cons_of_mem _ (ih hi)
theorem ents_owns{h:Hav}{i:Nat}(hi:i∈h.ents.map (·.1)):i∈ownsOf st h:=ents_own h.ents _ _ hi
theorem entsOk_at{h:Hav}(hok:boxesOk st h=true){p:Nat×TypeId}(hp:p∈h.ents):p.1<st.ents.length:=by
 unfold boxesOk at hok
 simp only[Bool.and_eq_true]at hok
 simpa using List.all_eq_true.1 hok.2 p hp
theorem head_in{h:Hav}{ds:List D}(hp:Pre P w0 R0 bl vs ow (headSt st h) h ds a w)(hok:boxesOk st h=true){f:List (SV (sem T))->List CS->St (sem T)->Tree (sem T)}(hd:(havAll P (hksAll h) (headSt st h) f).den):
  ∃svs cs st1 vs' R' ow' es,Stp P w0 R0 bl vs ow st bl vs' R' ow' (putAll st.ents.length h svs st1) w/\TD bl vs' ow' (putAll st.ents.length h svs st1).tmps a/\cs.map Cl.toD=ds/\st1.boxes=(headSt st h).boxes/\st1.ents=(headSt st h).ents++es/\(f svs cs st1).den:=by
 obtain⟨R',ow0,owr,hhr,htr,hraw,hown,hmk⟩:=hp
 obtain⟨svs,cs,st1,vs',ow',hS,htm,hbe,⟨es,hes⟩,hsv,hlen,hcs,hf⟩:=havAll_sound hhr hraw (fun m b _ hb=>hown m b hb) hd
 have hnv:vs.length=st.ents.length:=by
  rw[hhr.nv]
  simp[headSt,killIds_len]
 have e0:(valsAll bl vs w a h).take h.ents.length=h.ents.map fun p=>vs'.getD p.1 undef:=by
  unfold valsAll
  rw[List.take_left' (by simp)]
  refine List.map_congr_left fun p hp=> ?_
  have hlt:p.1<vs.length:=by rw[hnv];exact entsOk_at hok hp
  have h0:vs[p.1]? =some vs[p.1]:=List.getElem?_eq_getElem hlt
  rw[List.getD_eq_getElem?_getD,List.getD_eq_getElem?_getD,h0,hS.vs _ _ h0]
 have e9:(valsAll bl vs w a h).drop h.ents.length=h.slots.map (fun p=>a.tmps.getD p.1 undef)++h.boxes.flatMap fun p=>cellsW w bl p.1:=by
  unfold valsAll;rw[List.drop_left' (by simp)]
 have s0:=hsv.take h.ents.length
 rw[e0]at s0
 have s9:=hsv.drop h.ents.length
 rw[e9]at s9
 have s1:=s9.take h.slots.length
 have s2:=s9.drop h.slots.length
 rw[List.take_left' (by simp)]at s1
 rw[List.drop_left' (by simp)]at s2
 have hlt:∀p∈h.ents,p.1<vs'.length:=fun p hp=>by
  have h1:p.1<vs.length:=by rw[hnv];exact entsOk_at hok hp
  have h0:vs[p.1]? =some vs[p.1]:=List.getElem?_eq_getElem h1
  exact(List.getElem?_eq_some_iff.1 (hS.vs _ _ h0)).1
 have hb0:=putBoxes_hr hS.hr (l:=h.boxes) (svs:=(svs.drop h.ents.length).drop h.slots.length) (fun p hp=>by
  obtain⟨bx,g1,g2,g3⟩:=boxesOk_at hok hp
  obtain⟨bx',k1,_,k3,k4,_⟩:=junkBoxes_spec h.boxes st.boxes p.1 bx g1
  exact⟨bx',by rw[hbe];exact k1,by rw[k3,g2],by rw[k4,g3]⟩) s2
 obtain⟨ow2,hrev,hmk2⟩:=HR.reviveAll st.ents.length h.ents (svs.take h.ents.length) hb0 hlt s0
 have htk:reviveAll st.ents.length h.ents (svs.take h.ents.length) st1.ents=reviveAll st.ents.length h.ents svs st1.ents:=by
  rw[reviveAll_take]
 rw[htk]at hrev
 obtain⟨rv1,rv2,rv3⟩:=reviveAll_spec st.ents.length h.ents svs st1.ents
 refine⟨svs,cs,st1,vs',R',ow2,es,⟨hrev,hS.bl,hS.vs, ?_,fun b hb=>hmk2 b (hS.mrk b (hmk b hb))⟩, ?_,hcs,hbe,hes,hf⟩
 ·refine⟨fun i bx hi=> ?_,fun i e hi=> ?_⟩
  ·obtain⟨bx',k1,k2,_,_,k5⟩:=junkBoxes_spec h.boxes st.boxes i bx hi
   obtain⟨cells,m1,m2⟩:=putBoxes_spec h.boxes st1.boxes ((svs.drop h.ents.length).drop h.slots.length) i bx' (by rw[hbe];exact k1)
   refine⟨_,m1, ?_, ?_,k2⟩
   ·rcases k5 with⟨_,rfl⟩|⟨_,h6,_⟩
    ·exact Nat.le_refl _
    ·exact Nat.le_of_lt h6
   ·rcases k5 with⟨h5,rfl⟩|⟨_,h6,_⟩
    ·intro _
     rw[m2 h5]
    ·intro hh
     have hh:bx'.ver=bx.ver:=hh
     omega
  ·obtain⟨e',k1,k2,k3⟩:=(ext_head (st:=st) h).ent i e hi
   obtain⟨e2,r1,r2,r3⟩:=rv2 i e' (by rw[hes];exact get_append_lt k1)
   refine⟨e2,r1,Nat.le_trans k2 r2,fun hh=> ?_⟩
   have h1:e'.ver=e.ver:=by omega
   have h2:=k3 h1
   subst h2
   exact r3 hh
 ·refine putSlots_tr ?_ s1
  rw[htm]
  exact⟨htr.1.mono (fun b hb=>hmk2 b (hS.mrk b hb)),htr.2.mono hS.bl hS.vs⟩
theorem lp_tmps(h0:HR P w0 R0 bl vs R ow st.boxes st.ents w){i:Nat}{L:LStat T}(hi:R0.lps i=some L):∃v0,SVRs bl vs L.tmps v0:=by
 obtain⟨_,_,_,_,_,_,r,_,_,_,_,r5,_⟩:=h0.lp i L hi
 exact⟨_,r5⟩
theorem lp_head{h:Hav}(h0:HR P w0 R0 bl vs R ow st.boxes st.ents w)(hok:boxesOk st h=true){i:Nat}{L:LStat T}(hi:R0.lps i=some L):
  ∃bx,(headSt st h).boxes[i]? =some bx/\bx.live=false/\st.boxes[i]? =some bx:=by
 obtain⟨bx,b,g1,g2,g3,_⟩:=h0.lp i L hi
 obtain⟨bx',k1,k2,k3,k4,k5⟩:=junkBoxes_spec h.boxes st.boxes i bx g1
 rcases k5 with⟨_,rfl⟩|⟨k5,_,_⟩
 ·exact⟨bx',k1,g2,g1⟩
 ·obtain⟨p,hp,rfl⟩:=List.mem_map.1 k5
  obtain⟨b1,q1,q2,_⟩:=boxesOk_at hok hp
  rw[g1]at q1;cases q1
  rw[g2]at q2;cases q2
theorem pre_start{h:Hav}(h0:HR P w0 R0 bl vs R ow st.boxes st.ents w)(t0:TD bl vs ow st.tmps a)(hok:boxesOk st h=true)(hnd:nodupB (ownsOf st h)=true){raws:List CS}(hraw:rawSt st h=some raws):
  Pre P w0 R0 bl vs ow (headSt st h) h (raws.map Cl.toD) a w:=by
 refine mkPre h0 t0 (fun _ _ x=>x) (fun _ _ x=>x) hraw (nodupB_spec hnd) ?_ ?_ (fun p hp=> ?_) (fun p hp=>by rw[h0.nv];exact entsOk_at hok hp) (fun i bx hi hl=> ?_) (fun i e hi hl=>head_ent hi hl) (head_tr t0 (D:=[]) (fun _ h=>by cases h) (Keeps.refl _ _)) (fun i L hi=> ?_) (fun _ x=>x)
 ·simp[headSt,junkBoxes_len,h0.nb]
 ·simp[headSt,killIds_len,h0.nv]
 ·obtain⟨bx,g1,_,_⟩:=boxesOk_at hok hp
  rw[h0.nb];exact(List.getElem?_eq_some_iff.1 g1).1
 ·obtain⟨bx0,g1,g2,g3,g4,g5⟩:=head_box hi
  refine⟨bx0,g1,by rw[<-g3];exact hl,g2.symm,fun cs hs=> ?_⟩
  rcases g5 with⟨_,rfl⟩|⟨_,_,h6⟩
  ·exact hs
  ·rw[h6];exact junk_svrs hs.length.symm
 ·obtain⟨bx,g1,g2,g3⟩:=lp_head h0 hok hi
  exact⟨bx,g1,g2,g3,lp_tmps h0 hi⟩
theorem round_end{h:Hav}(h0:HR P w0 R0 bl vs R ow st.boxes st.ents w)(t0:TD bl vs ow st.tmps a)(hok:boxesOk st h=true){D:List Nat}(hD:∀t∈D,t∈h.slots.map (·.1))
  {svs:List (SV (sem T))} {st1:St (sem T)} {es:List (Ent (sem T))} (hb1:st1.boxes=(headSt st h).boxes) (he1:st1.ents=(headSt st h).ents++es)
  {vs':List Value} (hvs:∀(i:Nat)(b:Value),vs[i]? =some b->vs'[i]? =some b) {ow':Nat->Option Owner} (hmk:∀{l:Nat}{mo:Obj} b,ow b=some (.mark l mo)->ow' b=some (.mark l mo)) {bl1:List Nat} {vs1:List Value} {R1:Nat->Prop} {ow1:Nat->Option Owner} {st':St (sem T)} {w':World} {a':Act}
  (hS:Stp P w0 R0 bl vs' ow' (putAll st.ents.length h svs st1) bl1 vs1 R1 ow1 st' w') (t1:TD bl1 vs1 ow1 st'.tmps a') (hk:Keeps D a a') (hro:roundOk h st.ents.length (putAll st.ents.length h svs st1) st'=true) {news:List CS} (hraw:rawSt st' h=some news)
  (hnd:nodupB (ownsOf st' h)=true) (hge:(ownsOf st' h).all (fun id=>decide (st.ents.length<=id)||(h.ents.map (·.1)).contains id)=true):Pre P w0 R0 bl vs ow (headSt st h) h (news.map Cl.toD) a' w':=by
 have hok':boxesOk st' h=true:=by
  unfold rawSt at hraw
  split at hraw
  ·assumption
  ·cases hraw
 unfold roundOk at hro
 simp only[Bool.and_eq_true]at hro
 obtain⟨hro1,hro2⟩:=hro
 refine mkPre hS.hr t1 hS.bl (fun i v hi=>hS.vs i v (hvs i v hi)) hraw (nodupB_spec hnd) ?_ ?_ (fun p hp=> ?_) (fun p hp=>by rw[h0.nv];exact entsOk_at hok hp) (fun i bx hi hl=> ?_) (fun i e hi hl=> ?_) (head_tr t0 hD hk) (fun i L hi=> ?_) (fun b hb=>hS.mrk b (hmk b hb))
 ·simp[headSt,junkBoxes_len,h0.nb]
 ·simp[headSt,killIds_len,h0.nv]
 ·obtain⟨bx,g1,_,_⟩:=boxesOk_at hok hp
  rw[h0.nb];exact(List.getElem?_eq_some_iff.1 g1).1
 ·obtain⟨bx0,g1,g2,g3,g4,g5⟩:=head_box hi
  obtain⟨cells,m1,m2⟩:=putBoxes_spec h.boxes st1.boxes ((svs.drop h.ents.length).drop h.slots.length) i bx (by rw[hb1];exact hi)
  have m1:(putAll st.ents.length h svs st1).boxes[i]? =some {bx with cells:=cells}:=m1
  have hz:=zipIdx_all hro1 m1
  obtain⟨b',k1,k2,k3,k4⟩:=hS.ext.box i _ m1
  rw[k1]at hz
  simp only[hl,Bool.true_and,Bool.or_eq_true,beq_iff_eq,Bool.and_eq_true]at hz
  by_cases hin:i∈h.boxes.map (·.1)
  ·have hcells:bx.cells=List.replicate bx0.cells.length .junk:=by
    rcases g5 with⟨h5,_⟩|⟨_,_,h6⟩
    ·exact absurd hin h5
    ·exact h6
   obtain⟨p,hp,rfl⟩:=List.mem_map.1 hin
   obtain⟨b1,q1,_,q3⟩:=boxesOk_at hok hp
   obtain⟨b2,r1,r2,r3⟩:=boxesOk_at hok' hp
   rw[g1]at q1;cases q1
   rw[k1]at r1;cases r1
   refine⟨b',k1,r2,k4,fun cs hs=> ?_⟩
   rw[hcells,q3]
   exact junk_svrs (by rw[<-hs.length,r3])
  ·have hz:b'.ver=bx.ver:=by
    rcases hz with hz|hz
    ·exact hz
    ·have:=hz.1
     simp only[List.contains_eq_mem,decide_eq_true_eq]at this
     exact absurd this hin
   have:=k3 hz
   subst this
   have hbx:bx=bx0:=by
    rcases g5 with⟨_,h5⟩|⟨h5,_⟩
    ·exact h5
    ·exact absurd h5 hin
   subst hbx
   refine⟨_,k1,hl,rfl,fun cs hs=> ?_⟩
   rw[m2 hin]at hs
   obtain⟨_,cs0,_,_,_,k4'⟩:=h0.box i bx g1 hl
   exact k4'.back hS.bl (fun i v hi=>hS.vs i v (hvs i v hi)) hs
 ·obtain⟨g1,g2⟩:=head_ent hi hl
  have hlt:i<st.ents.length:=(List.getElem?_eq_some_iff.1 g1).1
  have hni:i∉h.ents.map (·.1):=fun hm=>g2 (ents_owns hm)
  have hh:(putAll st.ents.length h svs st1).ents[i]? =some e:=by
   show(reviveAll st.ents.length h.ents svs st1.ents)[i]? =_
   rw[(reviveAll_spec st.ents.length h.ents svs st1.ents).2.2 i hlt hni,he1]
   exact get_append_lt hi
  have hz:=zipIdx_all hro2 (i:=i) (x:=e) (by rw[List.getElem?_take_of_lt hlt];exact hh)
  obtain⟨e',k1,k2,k3⟩:=hS.ext.ent i e hh
  rw[k1]at hz
  have hz:e'.ver=e.ver:=by
   simp only[hl,Bool.not_true,Bool.false_or,Bool.or_eq_true,List.contains_eq_mem,decide_eq_true_eq,beq_iff_eq]at hz
   rcases hz with hz|hz
   ·exact absurd hz hni
   ·exact hz
  have:=k3 hz
  subst this
  refine⟨k1,fun hm=> ?_⟩
  have:=List.all_eq_true.1 hge i hm
  simp only[Bool.or_eq_true,decide_eq_true_eq,List.contains_eq_mem]at this
  rcases this with this|this
  ·omega
  ·exact hni this
 ·obtain⟨bx,g1,g2,g3⟩:=lp_head h0 hok hi
  obtain⟨bx',q1,q2,q3,q4,q5⟩:=head_box g1
  obtain⟨cells,m1,m2⟩:=putBoxes_spec h.boxes st1.boxes ((svs.drop h.ents.length).drop h.slots.length) i bx (by rw[hb1];exact g1)
  have hin:i∉h.boxes.map (·.1):=fun hm=>by
   obtain⟨p,hp,rfl⟩:=List.mem_map.1 hm
   obtain⟨b1,r1,r2,_⟩:=boxesOk_at hok hp
   rw[g3]at r1;cases r1
   rw[g2]at r2;cases r2
  have m1:(putAll st.ents.length h svs st1).boxes[i]? =some {bx with cells:=cells}:=m1
  have hz:=zipIdx_all hro1 m1
  obtain⟨b',k1,k2,k3,k4⟩:=hS.ext.box i _ m1
  rw[k1]at hz
  simp only[g2,Bool.false_and,Bool.or_false,beq_iff_eq]at hz
  have:=k3 hz
  rw[m2 hin]at this
  subst this
  exact⟨bx,g1,g2,k1,lp_tmps h0 hi⟩
theorem join_end{h:Hav}(h0:HR P w0 R0 bl vs R ow st.boxes st.ents w)(t0:TD bl vs ow st.tmps a)(hok:boxesOk st h=true){D:List Nat}(hD:∀t∈D,t∈h.slots.map (·.1))
  {bl1:List Nat} {vs1:List Value} {R1:Nat->Prop} {ow1:Nat->Option Owner} {st':St (sem T)} {w':World} {a':Act}
  (hS:Stp P w0 R0 bl vs ow st bl1 vs1 R1 ow1 st' w') (t1:TD bl1 vs1 ow1 st'.tmps a') (hk:Keeps D a a') (hro:roundOk h st.ents.length (headSt st h) st'=true) {news:List CS} (hraw:rawSt st' h=some news)
  (hnd:nodupB (ownsOf st' h)=true) (hge:(ownsOf st' h).all (fun id=>decide (st.ents.length<=id)||(ownsOf st h).contains id)=true):Pre P w0 R0 bl vs ow (headSt st h) h (news.map Cl.toD) a' w':=by
 have hok':boxesOk st' h=true:=by
  unfold rawSt at hraw
  split at hraw
  ·assumption
  ·cases hraw
 unfold roundOk at hro
 simp only[Bool.and_eq_true]at hro
 obtain⟨hro1,hro2⟩:=hro
 refine mkPre hS.hr t1 hS.bl hS.vs hraw (nodupB_spec hnd) ?_ ?_ (fun p hp=> ?_) (fun p hp=>by rw[h0.nv];exact entsOk_at hok hp) (fun i bx hi hl=> ?_) (fun i e hi hl=> ?_) (head_tr t0 hD hk) (fun i L hi=> ?_) hS.mrk
 ·simp[headSt,junkBoxes_len,h0.nb]
 ·simp[headSt,killIds_len,h0.nv]
 ·obtain⟨bx,g1,_,_⟩:=boxesOk_at hok hp
  rw[h0.nb];exact(List.getElem?_eq_some_iff.1 g1).1
 ·obtain⟨bx0,g1,g2,g3,g4,g5⟩:=head_box hi
  have hz:=zipIdx_all hro1 hi
  obtain⟨b',k1,k2,k3,k4⟩:=hS.ext.box i _ g1
  rw[k1]at hz
  simp only[hl,Bool.true_and,Bool.or_eq_true,beq_iff_eq,Bool.and_eq_true]at hz
  by_cases hin:i∈h.boxes.map (·.1)
  ·have hcells:bx.cells=List.replicate bx0.cells.length .junk:=by
    rcases g5 with⟨h5,_⟩|⟨_,_,h6⟩
    ·exact absurd hin h5
    ·exact h6
   obtain⟨p,hp,rfl⟩:=List.mem_map.1 hin
   obtain⟨b1,q1,_,q3⟩:=boxesOk_at hok hp
   obtain⟨b2,r1,r2,r3⟩:=boxesOk_at hok' hp
   rw[g1]at q1;cases q1
   rw[k1]at r1;cases r1
   refine⟨b',k1,r2,k4.trans g2.symm,fun cs hs=> ?_⟩
   rw[hcells,q3]
   exact junk_svrs (by rw[<-hs.length,r3])
  ·have hz:b'.ver=bx.ver:=by
    rcases hz with hz|hz
    ·exact hz
    ·have:=hz.1
     simp only[List.contains_eq_mem,decide_eq_true_eq]at this
     exact absurd this hin
   have hbx:bx=bx0:=by
    rcases g5 with⟨_,h5⟩|⟨h5,_⟩
    ·exact h5
    ·exact absurd h5 hin
   subst hbx
   have:=k3 hz
   subst this
   refine⟨_,k1,hl,rfl,fun cs hs=> ?_⟩
   obtain⟨_,cs0,_,_,_,k4'⟩:=h0.box i _ g1 hl
   exact k4'.back hS.bl hS.vs hs
 ·obtain⟨g1,g2⟩:=head_ent hi hl
  have hlt:i<st.ents.length:=(List.getElem?_eq_some_iff.1 g1).1
  have hz:=zipIdx_all hro2 (i:=i) (x:=e) (by rw[List.getElem?_take_of_lt hlt];exact hi)
  obtain⟨e',k1,k2,k3⟩:=hS.ext.ent i e g1
  rw[k1]at hz
  have hz:e'.ver=e.ver:=by
   simp only[hl,Bool.not_true,Bool.false_or,Bool.or_eq_true,List.contains_eq_mem,decide_eq_true_eq,beq_iff_eq]at hz
   rcases hz with hz|hz
   ·exact absurd (ents_owns hz) g2
   ·exact hz
  have:=k3 hz
  subst this
  refine⟨k1,fun hm=> ?_⟩
  have:=List.all_eq_true.1 hge i hm
  simp only[Bool.or_eq_true,decide_eq_true_eq,List.contains_eq_mem]at this
  rcases this with this|this
  ·omega
  ·exact g2 this
 ·obtain⟨bx,g1,g2,g3⟩:=lp_head h0 hok hi
  obtain⟨bx',q1,q2,q3,q4,q5⟩:=head_box g1
  have hz:=zipIdx_all hro1 g1
  obtain⟨b',k1,k2,k3,k4⟩:=hS.ext.box i _ g3
  rw[k1]at hz
  simp only[g2,Bool.false_and,Bool.or_false,beq_iff_eq]at hz
  have:=k3 hz
  subst this
  exact⟨_,g1,g2,k1,lp_tmps h0 hi⟩
end
def Sat(P:Program)(w0:World)(R0:Bs T)(bl:List Nat)(vs:List Value)(ow:Nat->Option Owner)(st:St (sem T))(D:List Nat)(a:Act)(kN:St (sem T)->Tree (sem T))(kE:Nat->St (sem T)->Tree (sem T))(kR:St (sem T)->Tree (sem T)):Exit->Act->World->Prop
 | .normal,a',w'=>Keeps D a a'/\Reach P w0 R0 bl vs ow st (fun st'=>(kN st').den) a' w'
 | .exit id,a',w'=>Keeps D a a'/\Reach P w0 R0 bl vs ow st (fun st'=>(kE id st').den) a' w'
 | .ret,a',w'=>Keeps D a a'/\Reach P w0 R0 bl vs ow st (fun st'=>(kR st').den) a' w'
 |_,_,_=>False
theorem Sat.of{P:Program}{bl:List Nat}{vs:List Value}{ow:Nat->Option Owner}{st:St (sem T)}{D D':List Nat}{a a1:Act}{kN kR:St (sem T)->Tree (sem T)}{kE:Nat->St (sem T)->Tree (sem T)}{bl1:List Nat}{vs1:List Value}{R1:Nat->Prop}{ow1:Nat->Option Owner}{st1:St (sem T)}{w1:World}
  (h:Stp P w0 R0 bl vs ow st bl1 vs1 R1 ow1 st1 w1) (hD:∀t,t∈D'->t∈D) (hk:Keeps D a a1):∀{e:Exit}{a':Act}{w':World},Sat P w0 R0 bl1 vs1 ow1 st1 D' a1 kN kE kR e a' w'->Sat P w0 R0 bl vs ow st D a kN kE kR e a' w'
 | .normal,_,_,⟨g1,g2⟩=>⟨hk.trans (g1.mono hD),g2.of h⟩
 | .exit _,_,_,⟨g1,g2⟩=>⟨hk.trans (g1.mono hD),g2.of h⟩
 | .ret,_,_,⟨g1,g2⟩=>⟨hk.trans (g1.mono hD),g2.of h⟩
 | .goto _,_,_,h=>h.elim
 | .panic _,_,_,h=>h.elim
 | .outgrown,_,_,h=>h.elim
theorem todo_start(n:Nat):todo (Array.replicate n false)<=n:=by
 have:=List.countP_le_length (p:=(· ==false)) (l:=List.replicate n false)
 simpa only[todo,Array.toList_replicate,List.length_replicate]using this
theorem wpIn_loop_ghost{F:Fence}{n:Nat}{P:Program}{Q:Exit->Act->World->Prop}{a:Act}{w:World}{c:Code}(I:Nat->Act->World->Prop)(n₀:Nat)(h₀:I n₀ a w)
  (round:∀m a w,I m a w->c.wpIn F n P (Exit.then (fun a' w'=>∃n',n'<m/\I n' a' w') Q) a w):(Code.loop c).wpIn F n P Q a w:=by
 refine wpIn_loop (fun a w=>∃m,I m a w) (fun a w=>leastOf (fun m=>I m a w)) ⟨n₀,h₀⟩ ?_
 intro a w hI
 refine wpIn_mono (round _ a w (leastOf_spec hI).1) ?_
 intro e a' w' hq
 cases e with
 |normal=>
  obtain⟨n',hlt,hI'⟩:=hq
  exact show(∃m,I m a' w')/\leastOf (fun m=>I m a' w')<leastOf (fun m=>I m a w)from⟨⟨n',hI'⟩,Nat.lt_of_le_of_lt ((leastOf_spec ⟨n',hI'⟩).2 n' hI') hlt⟩
 |exit id=>exact hq
 |ret=>exact hq
 |goto l=>exact hq
 |panic ch=>exact hq
 |outgrown=>exact hq
theorem wpIn_draw{rnd:Option Nat}{n:Nat}{P:Program}{id:Nat}{ops:Array Oper}{S:World->Prop}{Q:Exit->Act->World->Prop}{a:Act}{w:World}(hL:¬LetsOut Q)(hn:noDefer ops=true)(hm:P.follows .mixedOrders=true)
  (h:wpAnyH P .any ops Q S ops.size (Array.replicate ops.size false) a {w with drawn:=w.drawn+1}):(Code.region id ops true).wpIn (FZ rnd) n P Q a w:=
 wpIn_region_draw fun t=>by
  simp only[Region.schedule,hm,Bool.true_or,if_true]
  exact wpOps_in hL hn _ _ _ (wpAny_sound ops.size t _ a _ (wpAny_of_held _ _ _ _ h))
def Bs.put(B:Bs T)(i:Nat)(L:Option (LStat T)):Bs T:=⟨B.R,fun j=>if j=i then L else B.lps j⟩
theorem Bs.put_eq(B:Bs T)(i:Nat)(L:Option (LStat T)):(B.put i L).lps i=L:=by simp[Bs.put]
theorem Bs.put_ne(B:Bs T){i j:Nat}(h:j≠i)(L:Option (LStat T)):(B.put i L).lps j=B.lps j:=by simp[Bs.put,h]
section
variable{P:Program}{w:World}{R:Nat->Prop}{bl:List Nat}{vs:List Value}{ow:Nat->Option Owner}{boxes:List (Box (sem T))}{ents:List (Ent (sem T))}
theorem HR.setLoop{B B':Bs T}(h:HR P w0 B bl vs R ow boxes ents w){i b:Nat}{o':Obj}{boxes':List (Box (sem T))}{bx':Box (sem T)}(hb:bl[i]? =some b)(ho:ow b=some (.box i))(hR:B'.R=B.R)
  (hB:∀j,j≠i->B'.lps j=B.lps j) (hbx:∀j,j≠i->boxes'[j]? =boxes[j]?) (hi:boxes'[i]? =some bx') (hd:bx'.live=false) (hlen:boxes'.length=boxes.length)
  (hL:∀L',B'.lps i=some L'->LpOk bl vs L' bx'.cells (some o')):HR P w0 B' bl vs R ow boxes' ents (w.putObj b o'):=by
 have hlt:b<w.heap.size:=(h.olt b _ ho).2
 have other:∀x,x≠b->(w.putObj b o').heap[x]? =w.heap[x]? :=fun x hx=>World.putObj_heap_other hx
 have hRo:∀x,R x->(w.putObj b o').heap[x]? =w.heap[x]? :=fun x hx=>other x (fun e=>by rw[e]at hx;rw[h.ro b hx]at ho;cases ho)
 exact{
  below:=h.below.trans ⟨rfl,rfl,rfl,by simp,fun x hx=>other x (fun e=>by have:=(h.olt b _ ho).1;omega)⟩
  rlt:=fun x hx=>by simpa using h.rlt x hx
  r0:=fun x hx=>h.r0 x (by rw[<-hR];exact hx)
  rsub:=fun x hx=>by rw[hR];exact h.rsub x hx
  ro:=h.ro
  olt:=fun x q hx=>by simpa using h.olt x q hx
  nb:=h.nb.trans hlen.symm
  nv:=h.nv
  vsl:=h.vsl
  glb:=h.glb
  box:=fun j bj hj hl=>by
   have hne:j≠i:=fun e=>by rw[e,hi]at hj;cases hj;rw[hd]at hl;cases hl
   rw[hbx j hne]at hj
   obtain⟨x,cs,g1,g2,g3,g4⟩:=h.box j bj hj hl
   exact⟨x,cs,g1,g2,(other x (fun e=>by rw[e,ho]at g2;cases g2;exact hne rfl)).trans g3,g4⟩
  ent:=fun j e hj hl=>by
   obtain⟨v,hv,g1,g2⟩:=h.ent j e hj hl
   exact⟨v,hv,fun hh=>(g1 hh).mono (fun _ x=>x) hRo,fun hh=>(g2 hh).mono (fun _ x=>x) hRo (fun x hx=>⟨hx,other x (fun e=>by rw[e,ho]at hx;cases hx)⟩)⟩
  mrk:=fun x hx=>(other x (fun e=>by rw[e,ho]at hx;cases hx)).trans (h.mrk x hx)
  lp:=fun j L hj=>by
   by_cases e:j=i
   ·subst e
    exact⟨bx',b,hi,hd,hb,ho,by rw[World.putObj_heap_same hlt];exact hL L hj⟩
   ·rw[hB j e]at hj
    obtain⟨bx,x,g1,g2,g3,g4,g5⟩:=h.lp j L hj
    exact⟨bx,x,by rw[hbx j e];exact g1,g2,g3,g4,g5.mono (other x (fun e'=>by rw[e',ho]at g4;cases g4;exact e rfl)) (fun _ _ x=>x) (fun _ _ x=>x)⟩}
theorem HR.remark{B:Bs T}(h:HR P w0 B bl vs R ow boxes ents w){ow':Nat->Option Owner}(h1:∀b o,ow b=some o->(∀l mo,o≠ .mark l mo)->ow' b=some o)
  (h2:∀b o,ow' b=some o->ow b=some o\/∃l l' mo,ow b=some (.mark l mo)/\o= .mark l' mo):HR P w0 B bl vs R ow' boxes ents w:=by
 exact{
  below:=h.below
  rlt:=h.rlt
  r0:=h.r0
  rsub:=h.rsub
  ro:=fun b hb=>by
   cases ho:ow' b with
   |none=>rfl
   |some o=>
    have:=h.ro b hb
    rcases h2 b o ho with g|⟨l,l',mo,g,_⟩<;>rw[this]at g<;>cases g
  olt:=fun b o ho=>by
   rcases h2 b o ho with g|⟨l,l',mo,g,_⟩
   ·exact h.olt b o g
   ·exact h.olt b _ g
  nb:=h.nb
  nv:=h.nv
  vsl:=h.vsl
  glb:=h.glb
  box:=fun i bx hi hl=>by
   obtain⟨b,cs,g1,g2,g3,g4⟩:=h.box i bx hi hl
   exact⟨b,cs,g1,h1 b _ g2 (fun _ _ e=>by cases e),g3,g4⟩
  ent:=fun i e hi hl=>by
   obtain⟨v,hv,g1,g2⟩:=h.ent i e hi hl
   exact⟨v,hv,g1,fun hh=>(g2 hh).mono (fun _ x=>x) (fun _ _=>rfl) (fun x hx=>⟨h1 x _ hx (fun _ _ e=>by cases e),rfl⟩)⟩
  mrk:=fun b hb=>by
   rcases h2 b _ hb with g|⟨l,l',mo,g,e⟩
   ·exact h.mrk b g
   ·cases e;exact h.mrk b g
  lp:=fun i L hi=>by
   obtain⟨bx,b,g1,g2,g3,g4,g5⟩:=h.lp i L hi
   exact⟨bx,b,g1,g2,g3,h1 b _ g4 (fun _ _ e=>by cases e),g5⟩}
theorem HR.takeMark{B:Bs T}(h:HR P w0 B bl vs R ow boxes ents w){d l:Nat}{mo:Obj}(hd:ow d=some (.mark l mo)):HR P w0 B bl vs R (setOw ow d none) boxes ents (w.putObj d (.deferred none)):=by
 have other:∀x,x≠d->(w.putObj d (.deferred none)).heap[x]? =w.heap[x]? :=fun x hx=>World.putObj_heap_other hx
 have hne:∀x o,ow x=some o->(∀l mo,o≠ .mark l mo)->x≠d:=fun x o hx ho e=>by rw[e,hd]at hx;cases hx;exact ho _ _ rfl
 have hk:∀x o,setOw ow d none x=some o->x≠d/\ow x=some o:=fun x o hx=>by
  by_cases e:x=d
  ·subst e;rw[setOw_eq]at hx;cases hx
  ·rw[setOw_ne e]at hx;exact⟨e,hx⟩
 exact{
  below:=h.below.trans ⟨rfl,rfl,rfl,by simp,fun x hx=>other x (fun e=>by have:=(h.olt d _ hd).1;omega)⟩
  rlt:=fun x hx=>by simpa using h.rlt x hx
  r0:=h.r0
  rsub:=h.rsub
  ro:=fun x hx=>by
   by_cases e:x=d
   ·subst e;exact setOw_eq
   ·rw[setOw_ne e];exact h.ro x hx
  olt:=fun x o hx=>by simpa using h.olt x o (hk x o hx).2
  nb:=h.nb
  nv:=h.nv
  vsl:=h.vsl
  glb:=h.glb
  box:=fun i bx hi hl=>by
   obtain⟨b,cs,g1,g2,g3,g4⟩:=h.box i bx hi hl
   have:=hne b _ g2 (fun _ _ e=>by cases e)
   exact⟨b,cs,g1,by rw[setOw_ne this];exact g2,(other b this).trans g3,g4⟩
  ent:=fun i e hi hl=>by
   obtain⟨v,hv,g1,g2⟩:=h.ent i e hi hl
   have hRo:∀x,R x->(w.putObj d (.deferred none)).heap[x]? =w.heap[x]? :=fun x hx=>other x (fun e=>by rw[e]at hx;rw[h.ro d hx]at hd;cases hd)
   refine⟨v,hv,fun hh=>(g1 hh).mono (fun _ x=>x) hRo,fun hh=>(g2 hh).mono (fun _ x=>x) hRo (fun x hx=> ?_)⟩
   have:=hne x _ hx (fun _ _ e=>by cases e)
   exact⟨by rw[setOw_ne this];exact hx,other x this⟩
  mrk:=fun x hx=>by
   obtain⟨e,g⟩:=hk x _ hx
   exact(other x e).trans (h.mrk x g)
  lp:=fun i L hi=>by
   obtain⟨bx,b,g1,g2,g3,g4,g5⟩:=h.lp i L hi
   have:=hne b _ g4 (fun _ _ e=>by cases e)
   exact⟨bx,b,g1,g2,g3,by rw[setOw_ne this];exact g4,g5.mono (other b this) (fun _ _ x=>x) (fun _ _ x=>x)⟩}
theorem HR.enterLoop{B:Bs T}(h:HR P w0 B bl vs R ow boxes ents w){L:LStat T}{r:Loop}(hp:r.params=L.params)(ha:r.assign=L.assign)(hbd:r.body=L.body)(ht:SVRs bl vs L.tmps r.tmps.toList)
  (hs:r.state= .ready) (hpd:r.pending=none) (hbusy:L.busy=false):
  HR P w0 (B.put boxes.length (some L)) (bl++[w.heap.size+1]) vs R (setOw (setOw ow w.heap.size (some (.mark 0 mkO))) (w.heap.size+1) (some (.box boxes.length))) (boxes++[⟨0,[],0,false⟩]) ents ((w.alloc (.deferred (some []))).alloc (.loop r)):=by
 have hB1:Below w.heap.size w (w.alloc (.deferred (some []))):=(Below.refl _ _).alloc (Nat.le_refl _) _
 have hB2:Below w.heap.size w ((w.alloc (.deferred (some []))).alloc (.loop r)):=hB1.alloc (by simp) _
 have hg:=h.grow hB2
 have hsz:((w.alloc (.deferred (some []))).alloc (.loop r)).heap.size=w.heap.size+2:=by simp
 have hl:((w.alloc (.deferred (some []))).alloc (.loop r)).heap[w.heap.size+1]? =some (.loop r):=by
  have:=World.alloc_heap_new (w.alloc (.deferred (some []))) (.loop r);rwa[World.size_alloc]at this
 have hk:((w.alloc (.deferred (some []))).alloc (.loop r)).heap[w.heap.size]? =some (.deferred (some [])):=
  (Below.heap_alloc _ _ _ (by simp)).trans (World.alloc_heap_new w _)
 have hnew:∀x,w.heap.size<=x->ow x=none:=fun x hx=>by
  cases hox:ow x with
  |none=>rfl
  |some o=>have:=(h.olt x o hox).2;omega
 have hole:∀x o,ow x=some o->setOw (setOw ow w.heap.size (some (.mark 0 mkO))) (w.heap.size+1) (some (.box boxes.length)) x=some o:=fun x o hx=>by
  have:=(h.olt x o hx).2
  rw[setOw_ne (by omega),setOw_ne (by omega)];exact hx
 exact{
  below:=hg.below
  rlt:=hg.rlt
  r0:=hg.r0
  rsub:=hg.rsub
  ro:=fun x hx=>by
   have:=h.rlt x hx
   rw[setOw_ne (by omega),setOw_ne (by omega)];exact h.ro x hx
  olt:=fun x o hx=>by
   by_cases e1:x=w.heap.size+1
   ·subst e1;exact⟨Nat.le_trans h.below.size (by omega),by rw[hsz];omega⟩
   ·rw[setOw_ne e1]at hx
    by_cases e2:x=w.heap.size
    ·subst e2;exact⟨h.below.size,by rw[hsz];omega⟩
    ·rw[setOw_ne e2]at hx;exact hg.olt x o hx
  nb:=by simp[h.nb]
  nv:=h.nv
  vsl:=h.vsl
  glb:=h.glb
  box:=fun j bj hj hlj=>by
   rcases get_append_inv hj with hj|⟨_,rfl⟩
   ·obtain⟨x,cs,g1,g2,g3,g4⟩:=hg.box j bj hj hlj
    exact⟨x,cs,get_append_lt g1,hole x _ g2,g3,g4.mono (fun _ _=>get_append_lt) (fun _ _ x=>x)⟩
   ·cases hlj
  ent:=fun j e hj hlj=>by
   obtain⟨v,hv,g1,g2⟩:=hg.ent j e hj hlj
   exact⟨v,hv,g1,fun hh=>(g2 hh).mono (fun _ x=>x) (fun _ _=>rfl) (fun x hx=>⟨hole x _ hx,rfl⟩)⟩
  mrk:=fun x hx=>by
   by_cases e1:x=w.heap.size+1
   ·subst e1;rw[setOw_eq]at hx;cases hx
   ·rw[setOw_ne e1]at hx
    by_cases e2:x=w.heap.size
    ·subst e2;rw[setOw_eq]at hx;cases hx;exact hk
    ·rw[setOw_ne e2]at hx;exact hg.mrk x hx
  lp:=fun j L' hj=>by
   by_cases e:j=boxes.length
   ·subst e
    rw[Bs.put_eq]at hj
    cases hj
    refine⟨⟨0,[],0,false⟩,w.heap.size+1,by simp,rfl,by rw[<-h.nb];simp,setOw_eq,r,hl,hp,ha,hbd,ht.mono (fun _ _=>get_append_lt) (fun _ _ x=>x),none,rfl,hpd, ?_,fun _=>rfl⟩
    rw[hbusy,hs];rfl
   ·rw[Bs.put_ne _ e]at hj
    obtain⟨bx,x,g1,g2,g3,g4,g5⟩:=hg.lp j L' hj
    exact⟨bx,x,get_append_lt g1,g2,get_append_lt g3,hole x _ g4,g5.mono rfl (fun _ _=>get_append_lt) (fun _ _ x=>x)⟩}
end
def HandOk(cfg:Cfg)(w0:World)(B:Bs T)(y:Yd (sem T)):Prop:=
 ∀(args:List (SV (sem T)))(vals:List Value)(st:St (sem T))(k:SV (sem T)->St (sem T)->Tree (sem T))(bl:List Nat)(vs:List Value)(R:Nat->Prop)(ow:Nat->Option Owner)(w:World),
  HR cfg.P w0 B bl vs R ow st.boxes st.ents w->SVRs bl vs args vals->(y.run args st k).den->YieldOk cfg.P w0 B bl vs ow st w y.i vals k
def YsOk(cfg:Cfg)(w0:World):Ys (sem T)->Bs T->Prop
 |[],_=>True
 |y::ys,B=>(∃L:LStat T,B.lps y.i=some L/\L.busy=false/\∀B':Bs T,B'.R=B.R->B'.lps y.i=some L->YsOk cfg w0 ys B'->HandOk cfg w0 B' y)/\YsOk cfg w0 ys B
theorem YsOk.lps{cfg:Cfg}:∀{ys:Ys (sem T)}{B:Bs T},YsOk cfg w0 ys B->∀y∈ys,∃L,B.lps y.i=some L
 |[],_,_,y,hy=>by cases hy
 |y::ys,B,h,y',hy=>by
  simp only[List.mem_cons]at hy
  rcases hy with rfl|hy
  ·obtain⟨L,hL,_⟩:=h.1;exact⟨L,hL⟩
  ·exact YsOk.lps h.2 y' hy
theorem YsOk.mono{cfg:Cfg}:∀{ys:Ys (sem T)}{B B':Bs T},YsOk cfg w0 ys B->B'.R=B.R->(∀y∈ys,B'.lps y.i=B.lps y.i)->YsOk cfg w0 ys B'
 |[],_,_,_,_,_=>trivial
 |y::ys,B,B',h,hR,hl=>by
  obtain⟨⟨L,h1,h2,h3⟩,h4⟩:=h
  exact⟨⟨L,(hl y (by simp)).trans h1,h2,fun B2 g1 g2 g3=>h3 B2 (g1.trans hR) g2 g3⟩,h4.mono hR (fun y' hy=>hl y' (by simp[hy]))⟩
theorem YsOk.find{cfg:Cfg}:∀{ys:Ys (sem T)}{B:Bs T},YsOk cfg w0 ys B->∀{i:Nat}{y:Yd (sem T)},ys.find? (fun y=>y.i==i)=some y->y.i=i/\HandOk cfg w0 B y
 |[],_,_,i,y,hf=>by simp at hf
 | y0::ys,B,h,i,y,hf=>by
  simp only[List.find?_cons]at hf
  split at hf
  ·rename_i he
   cases hf
   obtain⟨⟨L,h1,h2,h3⟩,h4⟩:=h
   exact⟨by simpa using he,h3 B rfl h1 h4⟩
  ·exact YsOk.find h.2 hf
theorem setMany_tr{bl:List Nat}{vs:List Value}:∀{ps:List Nat}{tmps args:List (SV (sem T))}{vals:List Value}{t:Array Value},SVRs bl vs tmps t.toList->SVRs bl vs args vals->args.length=ps.length->
  SVRs bl vs (setMany tmps ps args) ((ps.zip vals).foldl (fun t p=>t.setIfInBounds p.1 p.2) t).toList
 |[],tmps,[],vals,t,h,ha,hl=>by
  cases vals with
  |nil=>exact h
  |cons=>exact ha.elim
 | p::ps,tmps,x::args,vals,t,h,ha,hl=>by
  cases vals with
  |nil=>exact ha.elim
  |cons v vals=>
   simp only[setMany,List.zip_cons_cons,List.foldl_cons]
   refine setMany_tr ?_ ha.2 (by simpa using hl)
   rw[Array.toList_setIfInBounds]
   exact h.set ha.1
 |[],_,_::_,_,_,_,_,hl=>by simp at hl
 |_::_,_,[],_,_,_,_,hl=>by simp at hl
end Go.Sx
