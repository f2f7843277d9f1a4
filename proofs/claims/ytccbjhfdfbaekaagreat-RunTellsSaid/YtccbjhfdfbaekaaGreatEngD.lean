/-
 Contracts of functions, and calls by contract. Conditions: the contract holds of the callee.
-/
import Derived.Test.YtccbjhfdfbaekaaGreatEngC
import Derived.OrdersHeld
import Derived.OrdersIn
import Derived.RangeFuncRecord
import Derived.Deep.LoopGhost
open Bool renaming and_eq_true->zA,or_eq_true->zC,not_eq_true'->zR,false_eq_true->z4,not_true->z7,false_or->z8,false_ne_true->qH,true_and->qJ,or_false->qT
open Nat renaming le_refl->zB,le_trans->z1,shiftLeft->z5,testBit_or->qV,lt_succ_self->q0,le_of_lt->q6,eq_of_beq_eq_true->vF
open List renaming getElem?_set_ne->zD,getElem?_eq_getElem->zE,getElem?_eq_some_iff->zF,all_eq_true->zG,mem_cons->zH,replicate->zI,map_cons->zL,contains_eq_mem->zP,flatMap_cons->z0,filterMap_cons->z2,getD_eq_getElem?_getD->z3,all_cons->z6,nodup_cons->z9,mem_map->qD,mem_append->qE,mem_filterMap->qG,mem_of_getElem?->qI,range'->qM,length_cons->qN,getElem?_map->qS,foldl_cons->qX,take_left'->q7,drop_left'->q9,mem_cons_of_mem->vA,range_eq_range'->vD,length_replicate->vG,take_succ_cons->vH,getElem?_cons_zero->vL,map_congr_left->vQ,getElem?_take_of_lt->vR
open Array renaming toList_setIfInBounds->qK,toList_inj->qL,replicate->qY,length_toList->vE
open Option renaming map_eq_some_iff->vB
set_option linter.unusedVariables false
set_option linter.unusedSimpArgs false
namespace Go.Sx
open Go.RowKit (Below)
variable{T:FuncId->Pred}{P:Program}{w0 w:World}{R0:Bs T}{R:Nat->Prop}{bl:List Nat}{vs:List Value}{ow:Nat->Option Owner}
variable{st:St (sem T)}
def Dw(P:Program)(w:World)(R:Nat->Prop)(ow:Nat->Option Owner)(n:Nat):K×Bool->Value->D->Prop
 |(.sl e,true),v,d=>∃s:Sl,d= .sl s.n s.f/\Own P w R ow n e s v
 |(k,_),v,d=>Rd P w R d k v
def jS(P:Program)(w:World)(R:Nat->Prop)(ow:Nat->Option Owner):Nat->List (K×Bool)->List Value->List D->Prop
 |_,[],[],[]=>True
 |n,p::ps,v::vs,d::ds=>Dw P w R ow n p v d/\jS P w R ow (n+1) ps vs ds
 |_,_,_,_=>False
def aav(P:Program)(w:World)(R:Nat->Prop)(ow:Nat->Option Owner)(n:Nat):VSh->Value->List D->Prop
 | .cell k own,v,ds=>jS P w R ow n [(k,own)] [v] ds
 | .agg l,v,ds=>∃cs,v= .agg cs/\jS P w R ow n l cs.toList ds
def VSh.width:VSh->Nat
 | .cell _ _=>1
 | .agg l=>l.length
def BO(P:Program)(w:World)(R:Nat->Prop)(ow:Nat->Option Owner):Nat->List VSh->List Value->List D->Prop
 |_,[],[],ds=>ds=[]
 |n,sh::shs,v::vs,ds=>∃d1 d2,ds=d1++d2/\aav P w R ow n sh v d1/\BO P w R ow (n+sh.width) shs vs d2
 |_,_,_,_=>False
def adV(l:List Value):Value:=match l with
 |[v]=>v
 |l=> .tuple l.toArray
def ai5(P:Program)(w:World)(R:Nat->Prop)(w':World)(res:List VSh)(v:Value)(rs:List D):Prop:=
 ∃vals R' ow',v=adV vals/\(∀b,R b->R' b)/\(∀b,R' b->R b\/(w.heap.size<=b/\b<w'.heap.size))/\(∀b,R' b->ow' b=none)/\
  (∀b o,ow' b=some o->w.heap.size<=b/\b<w'.heap.size)/\BO P w' R' ow' 0 res vals rs
def ConOK(P:Program)(f:FuncId)(sg:Sig)(pr:Pred):Prop:=
 ∀(w:World)(R:Nat->Prop)(vals:List Value)(ds:List D),GlobOk P w->(∀b,R b->b<w.heap.size)->BO P w R (fun _=>none) 0 sg.args vals ds->pr.pre ds->
  Calls P f vals.toArray w fun e w'=>∃v rs,e= .returned v/\pr.post ds rs/\Below w.heap.size w w'/\ai5 P w R w' sg.res v rs
theorem Dw.ro{n:Nat}{kk:K}{v:Value}{d:D}(h:Dw P w R ow n (kk,false) v d):Rd P w R d kk v:=by
 cases kk<;>exact h
theorem Ej(h:HR P w0 R0 bl vs R ow st.boxes st.ents w){own:Bool}{kk:K}{jf:Nat->Option Owner}{n:Nat}{v:Value}{d:D}(hc:Dw P w R jf n (kk,own) v d)(hw0:∀b,jf b=some (.ent n)->w0.heap.size<=b/\ow b=none/\¬R b)
  {f:SV (sem T)->CS->St (sem T)->Tree (sem T)} (hd:(freshCell P own kk st f).den):
  ∃sv c st' vs' ow',Stp P w0 R0 bl vs ow st bl vs' R ow' st' w/\(st'.tmps=st.tmps/\st'.boxes=st.boxes/\∃es,st'.ents=st.ents++es)/\SVR bl vs' sv v/\c.toD=d/\(f sv c st').den/\∀b,jf b≠some (.ent n)->ow' b=ow b:=by
 have flat:(∀e,kk≠ .sl e)->Rd P w R d kk v:=fun hne=>by
  cases kk with
  |sl e=>exact absurd rfl (hne e)
  |_=>exact hc
 have hS:Stp P w0 R0 bl vs ow st bl vs R ow st w:=(Stp.refl h);cases kk with
 | int k=>
  have hr:=flat (fun e he=>by cases he)
  cases d with
  |int m=>
   obtain⟨ik,hk,hv,h1,h2⟩:=hr;cases hk
   exact⟨.int k m, .int m,st,vs,ow,hS,⟨rfl,rfl,[],by simp⟩,⟨hv,h1,h2⟩,rfl,hd m ⟨h1,h2⟩,fun _ _=>rfl⟩
  |bool b=>exact absurd hr.1 (by simp)
  |str b=>exact absurd hr.1 (by simp)
  |sl m g=>obtain⟨e,_,_,hk,_⟩:=hr;cases hk
 | bool=>
  have hr:=flat (fun e he=>by cases he)
  cases d with
  |bool b=>
   refine⟨.bool ⟨b=true,inferInstance⟩, .bool ⟨b=true,inferInstance⟩,st,vs,ow,hS,⟨rfl,rfl,[],by simp⟩, ?_, ?_,hd b,fun _ _=>rfl⟩
   ·rw[hr.2];simp[SVR,PB.b]
   ·simp[Cl.toD]
  |int m=>obtain⟨ik,hk,_⟩:=hr;cases hk
  |str b=>exact absurd hr.1 (by simp)
  |sl m g=>obtain⟨e,_,_,hk,_⟩:=hr;cases hk
 |str=>
  have hr:=flat (fun e he=>by cases he)
  cases d with
  |str y=>exact⟨.str y, .str y,st,vs,ow,hS,⟨rfl,rfl,[],by simp⟩,hr.2,rfl,hd y,fun _ _=>rfl⟩
  |int m=>obtain⟨ik,hk,_⟩:=hr;cases hk
  |bool b=>exact absurd hr.1 (by simp)
  |sl m g=>obtain⟨e,_,_,hk,_⟩:=hr;cases hk
 | sl e=>
  cases own with
  | false=>
   have hr:=hc.ro;cases d with
   |sl m g=>
    have hR:=h.YZ (s:=⟨m,g⟩) hr;exact⟨.sl st.ents.length, .sl ⟨m,g⟩,_,_,ow,hR,⟨rfl,rfl,_,rfl⟩,h.jc,rfl,rg_den (hd ⟨m,g⟩) (ranged_rd (s:=⟨m,g⟩) hr),fun _ _=>rfl⟩
   |int m=>obtain⟨ik,hk,_⟩:=hr;cases hk
   |bool b=>exact absurd hr.1 (by simp)
   |str b=>exact absurd hr.1 (by simp)
  | true=>
   obtain⟨s,rfl,hO⟩:=hc;have hrg:isM e=false->Ranged s (rks P e):=fun hm=>by
    obtain⟨a,cap,hv,h1,h2,h3,h4⟩:=hO.1 hm;exact ranged_of (w:=w) (R:=R) fun ks i j kk hks hi hj=>by
     rcases h4 with h4|⟨b,cs,hab,hob,hcs,hcont⟩
     ·omega
     ·obtain⟨u,_,hu⟩:=(hcont ks hks).2 i j kk hi hj
      exact⟨u,hu⟩
   have hd:(f (.sl st.ents.length) (.sl s) (addEnt st e s true)).den:=rg_den' (hd s) fun hb=>hrg (by simp only[zA,zR]at hb;exact hb.2)
   have hz:∀b,(jf b=some (.ent n)/\b<w.heap.size)->w0.heap.size<=b/\b<w.heap.size/\¬R b/\ow b=none:=fun b hb=>⟨(hw0 b hb.1).1,hb.2,(hw0 b hb.1).2.2,(hw0 b hb.1).2.1⟩
   obtain⟨hP,hmk⟩:=h.pushOwnZ (Z:=fun b=>jf b=some (.ent n)/\b<w.heap.size) hz (hO.relabel fun b hb hlt=>if_pos ⟨hb,hlt⟩)
   exact⟨.sl st.ents.length, .sl s,addEnt st e s true,vs++[v],_,⟨hP,fun _ _ x=>x,fun _ _=>get_append_lt,Ext.of_append (nb:=[]) (ne:=[⟨e,s,true,true,0⟩]) (by simp[addEnt]) rfl,fun x hx=>hmk x hx⟩,⟨rfl,rfl,_,rfl⟩,h.jc,rfl,hd,fun x hx=>if_neg fun hh=>hx hh.1⟩
theorem KJ{jf:Nat->Option Owner}:∀{l:List (K×Bool)}{n:Nat}{st:St (sem T)}{vs:List Value}{ow:Nat->Option Owner},HR P w0 R0 bl vs R ow st.boxes st.ents w->∀{vals:List Value}{ds:List D},jS P w R jf n l vals ds->
  (∀m b,n<=m->jf b=some (.ent m)->w0.heap.size<=b/\ow b=none/\¬R b)->∀{f:List (SV (sem T))->List CS->St (sem T)->Tree (sem T)},(freshCells P l st f).den->
  ∃svs cs st' vs' ow',Stp P w0 R0 bl vs ow st bl vs' R ow' st' w/\st'.tmps=st.tmps/\SVRs bl vs' svs vals/\cs.map Cl.toD=ds/\(f svs cs st').den/\∀b,(∀m,n<=m->m<n+l.length->jf b≠some (.ent m))->ow' b=ow b
 |[],n,st,vs,ow,h,vals,ds,hc,hw,f,hd=>by
  cases vals<;>cases ds<;>first|exact hc.elim|skip
  exact⟨[],[],st,vs,ow,(Stp.refl h),rfl,trivial,rfl,hd,fun _ _=>rfl⟩
 | (k,own)::l,n,st,vs,ow,h,vals,ds,hc,hw,f,hd=>by
  cases vals with
  |nil=>exact hc.elim
  | cons v vals=>cases ds with
   |nil=>exact hc.elim
   | cons d ds=>
    obtain⟨hc1,hc2⟩:=hc;obtain⟨sv,c,st1,vs1,ow1,hS,ht,hsv,hcd,hd1,hk⟩:=Ej h hc1 (fun b hb=>hw n b (zB _) hb) (f:=fun v c st=>freshCells P l st fun vs cs st=>f (v::vs) (c::cs) st) hd
    obtain⟨svs,cs,st2,vs2,ow2,hS2,ht2,XA,XB,hd2,hk2⟩:=KJ hS.hr hc2 (fun m b hm hb=>by
     obtain⟨g1,g2,g3⟩:=hw m b (by omega) hb;refine⟨g1, ?_,g3⟩
     rw[hk b (fun e=>by rw[hb]at e;cases e;omega)]
     exact g2) hd1
    refine⟨sv::svs,c::cs,st2,vs2,ow2,hS.trans hS2,ht2.trans ht.1,⟨hsv.mono hS2.bl hS2.vs,XA⟩,by simp[hcd,XB],hd2,fun b hb=> ?_⟩
    rw[hk2 b (fun m h1 h2=>hb m (by omega) (by simp;omega)),hk b (hb n (zB _) (by simp))]
theorem adZ{jf:Nat->Option Owner}{sh:VSh}{n:Nat}(h:HR P w0 R0 bl vs R ow st.boxes st.ents w){v:Value}{ds:List D}(hc:aav P w R jf n sh v ds)(hw:∀m b,n<=m->jf b=some (.ent m)->w0.heap.size<=b/\ow b=none/\¬R b)
  {f:SV (sem T)->List CS->St (sem T)->Tree (sem T)} (hd:(freshV P sh st f).den):
  ∃sv cs st' vs' ow',Stp P w0 R0 bl vs ow st bl vs' R ow' st' w/\st'.tmps=st.tmps/\SVR bl vs' sv v/\cs.map Cl.toD=ds/\(f sv cs st').den/\∀b,(∀m,n<=m->m<n+sh.width->jf b≠some (.ent m))->ow' b=ow b:=by
 cases sh with
 | cell k own=>
  simp only[aav]at hc;cases ds with
  |nil=>exact hc.elim
  | cons d ds=>cases ds with
   |cons=>exact hc.2.elim
   |nil=>
    obtain⟨sv,c,st1,vs1,ow1,hS,ht,hsv,hcd,hd1,hk⟩:=Ej h hc.1 (fun b hb=>hw n b (zB _) hb) (f:=fun v c st=>f v [c] st) hd
    exact⟨sv,[c],st1,vs1,ow1,hS,ht.1,hsv,by simp[hcd],hd1,fun b hb=>hk b (hb n (zB _) (by simp[VSh.width]))⟩
 |agg l=>
  obtain⟨cs0,rfl,hc⟩:=hc;obtain⟨svs,cs,st1,vs1,ow1,hS,ht,hsv,hcd,hd1,hk⟩:=KJ h hc hw (f:=fun vs cs st=>f (.agg vs) cs st) hd
  exact⟨.agg svs,cs,st1,vs1,ow1,hS,ht,⟨cs0,rfl,hsv⟩,hcd,hd1,fun b hb=>hk b hb⟩
theorem BP{jf:Nat->Option Owner}:∀{l:List VSh}{n:Nat}{st:St (sem T)}{vs:List Value}{ow:Nat->Option Owner},HR P w0 R0 bl vs R ow st.boxes st.ents w->∀{vals:List Value}{ds:List D},BO P w R jf n l vals ds->
  (∀m b,n<=m->jf b=some (.ent m)->w0.heap.size<=b/\ow b=none/\¬R b)->∀{f:List (SV (sem T))->List CS->St (sem T)->Tree (sem T)},(freshVs P l st f).den->
  ∃svs cs st' vs' ow',Stp P w0 R0 bl vs ow st bl vs' R ow' st' w/\st'.tmps=st.tmps/\SVRs bl vs' svs vals/\cs.map Cl.toD=ds/\(f svs cs st').den
 | [],n,st,vs,ow,h,vals,ds,hc,hw,f,hd=>by
  cases vals with
  |cons=>exact hc.elim
  |nil=>
   have hc:ds=[]:=hc;subst hc;exact⟨[],[],st,vs,ow,(Stp.refl h),rfl,trivial,rfl,hd⟩
 | sh::l,n,st,vs,ow,h,vals,ds,hc,hw,f,hd=>by
  cases vals with
  |nil=>exact hc.elim
  | cons v vals=>
   obtain⟨d1,d2,rfl,hc1,hc2⟩:=hc;obtain⟨sv,cs1,st1,vs1,ow1,hS,ht,hsv,hcd,hd1,hk⟩:=adZ h hc1 hw (f:=fun v cs st=>freshVs P l st fun vs ds st=>f (v::vs) (cs++ds) st) hd
   obtain⟨svs,cs,st2,vs2,ow2,hS2,ht2,XA,XB,hd2⟩:=BP hS.hr hc2 (fun m b hm hb=>by
    obtain⟨g1,g2,g3⟩:=hw m b (by omega) hb;refine⟨g1, ?_,g3⟩
    rw[hk b (fun q h1 h2 e=>by rw[hb]at e;cases e;omega)]
    exact g2) hd1
   exact⟨sv::svs,cs1++cs,st2,vs2,ow2,hS.trans hS2,ht2.trans ht,⟨hsv.mono hS2.bl hS2.vs,XA⟩,by simp[hcd,XB],hd2⟩
variable{T:FuncId->Pred}{P:Program}{w0 w:World}{R0:Bs T}{R:Nat->Prop}{bl:List Nat}{vs:List Value}{ow:Nat->Option Owner}
variable{st:St (sem T)}{a:Act}
theorem Wh(hl:HR P w0 R0 bl vs R ow st.boxes st.ents w){R1:Nat->Prop}(hR:∀b,b<w.heap.size->R1 b):∀{l:List (K×Bool)}{n:Nat}{s:List (SV (sem T))}{cs:List CS},toCls st.ents (l.map (·.1)) s=some cs->(∀p∈l,p.2=false)->∀{v:List Value},SVRs bl vs s v->
  jS P w R1 (fun _=>none) n l v (cs.map Cl.toD)
 |[],n,[],cs,h,_,v,hs=>by
  simp only[List.map_nil,toCls,Option.some.injEq]at h;subst h;cases v with
  |nil=>trivial
  |cons=>exact hs.elim
 | (k,own)::l,n,x::s,cs,h,ho,v,hs=>by
  cases v with
  |nil=>exact hs.elim
  | cons u v=>
   simp only[zL,toCls]at h;split at h
   ·rename_i c cs' hc hcs
    cases h
    have hown:own=false:=ho (k,own) (by simp);subst hown;refine⟨?_,Wh hl hR hcs (fun p hp=>ho p (by simp[hp])) hs.2⟩
    have:=(ai8 hl hc hs.1).mono (R':=R1) hR (fun _ _=>rfl)
    cases k<;>exact this
   ·cases h
 |[],_,_::_,_,h,_,_,_=>by simp[toCls]at h
 |_::_,_,[],_,h,_,_,_=>by simp[toCls]at h
theorem Tj(hl:HR P w0 R0 bl vs R ow st.boxes st.ents w){ids:List Nat}(hno:∀(i:Nat)(e:Ent (sem T)),i∈ids->st.ents[i]? =some e->e.live=true->isM e.elem=false->e.own=false):∀{l:List (K×Bool)}{n:Nat}{s:List (SV (sem T))}{cs:List CS},toCls st.ents (l.map (·.1)) s=some cs->(∀p∈l,p.2=false)->(∀id,SV.sl id∈s->id∈ids)->∀{v:List Value},SVRs bl vs s v->
  jS P w R (fun _=>none) n l v (cs.map Cl.toD)
 |[],n,[],cs,h,_,_,v,hs=>by
  simp only[List.map_nil,toCls,Option.some.injEq]at h;subst h;cases v with
  |nil=>trivial
  |cons=>exact hs.elim
 | (k, own)::l,n,x::s,cs,h,ho,hid,v,hs=>by
  cases v with
  |nil=>exact hs.elim
  | cons u v=>
   simp only[zL,toCls]at h;split at h
   ·rename_i c cs' hc hcs
    cases h
    have hown:own=false:=ho (k,own) (by simp);subst hown;refine⟨?_,Tj hl hno hcs (fun p hp=>ho p (by simp[hp])) (fun id hm=>hid id (by simp[hm])) hs.2⟩
    have hR:toClR st.ents k x=some c:=by
     unfold toClR;split
     ·rename_i id
      unfold toCl at hc;split at hc
      ·rename_i heq;cases heq
      ·rename_i heq;cases heq
      ·rename_i heq;cases heq
      ·rename_i heq;cases heq
      ·rename_i e id' heq
       cases heq
       split at hc
       ·rename_i en hen
        split at hc
        ·rename_i hcc
         simp only[zA]at hcc;have hmm:isM en.elem=false:=by
          have h1:=hcc.2.1;have h2:=hcc.2.2;rw[beq_iff_eq]at h1;rw[h1];simpa using h2
         simp only[hno _ _ (hid _ (by simp)) hen hcc.1 hmm,z4,if_false];unfold toCl;simp only[hen];rw[if_pos (by simpa using hcc)];exact hc
        ·cases hc
       ·cases hc
      ·rename_i heq;cases heq
      ·cases hc
     ·exact hc
    have:=GH hl hR hs.1;cases k<;>exact this
   ·cases h
 |[],_,_::_,_,h,_,_,_,_=>by simp[toCls]at h
 |_::_,_,[],_,h,_,_,_,_=>by simp[toCls]at h
theorem KL{R1:Nat->Prop}{ids:List Nat}(hcells:∀{l:List (K×Bool)}{n:Nat}{s:List (SV (sem T))}{cs:List CS},toCls st.ents (l.map (·.1)) s=some cs->(∀p∈l,p.2=false)->(∀id,SV.sl id∈s->id∈ids)->∀{v:List Value},SVRs bl vs s v->jS P w R1 (fun _=>none) n l v (cs.map Cl.toD)):
  ∀{shs:List VSh}{n:Nat}{s:List (SV (sem T))}{cs:List CS},argsCl st.ents shs s=some cs->shs.all roSh=true->(∀id,id∈s.flatMap idsV->id∈ids)->∀{v:List Value},SVRs bl vs s v->BO P w R1 (fun _=>none) n shs v (cs.map Cl.toD)
 |[],n,[],cs,h,_,_,v,hs=>by
  simp only[argsCl,Option.some.injEq]at h;subst h;cases v with
  |nil=>rfl
  |cons=>exact hs.elim
 | sh ::shs,n,x::s,cs,h,hro,hid,v,hs=>by
  cases v with
  |nil=>exact hs.elim
  | cons u v=>
   simp only[argsCl]at h;simp only[z6,zA]at hro;split at h
   ·rename_i c cs' hc hcs
    cases h
    rw[List.map_append];refine⟨_,_,rfl, ?_,KL hcells hcs hro.2 (fun id hm=>hid id (by simp only[z0,qE];exact .inr hm)) hs.2⟩
    cases sh with
    |cell k own=>
     simp only[argCl,vB]at hc;obtain⟨c0,hc0,rfl⟩:=hc;have hown:own=false:=by simpa[roSh]using hro.1
     subst hown;exact hcells (l:=[(k,false)]) (s:=[x]) (cs:=[c0]) (by simp[toCls,hc0]) (by simp) (fun id hm=>hid id (by simp only[z0,qE];left;simp only[List.mem_singleton]at hm;rw[<-hm];simp[idsV])) (v:=[u]) ⟨hs.1,trivial⟩
    | agg l=>
     cases x with
     |agg xs=>
      simp only[argCl]at hc;obtain⟨cv,rfl,hcv⟩:=hs.1;exact⟨cv,rfl,hcells hc (fun p hp=>by have:=zG.1 hro.1 p hp;simpa using this) (fun id hm=>hid id (by simp only[z0,qE];left;simp only[idsV,qG];exact⟨_,hm,rfl⟩)) hcv⟩
     |_=>simp[argCl]at hc
   ·cases h
 |[],_,_::_,_,h,_,_,_,_=>by simp[argsCl]at h
 |_::_,_,[],_,h,_,_,_,_=>by simp[argsCl]at h
theorem Rd.flat{k:K}{d:D}{v:Value}{R2:Nat->Prop}(hk:∀e,k≠ .sl e)(h:Rd P w R d k v):Rd P w R2 d k v:=by
 cases d with
 |int n=>exact h
 |bool b=>exact h
 |str s=>exact h
 |sl n f=>obtain⟨e,_,_,hke,_⟩:=h;exact absurd hke (hk e)
theorem Dw.flat{n:Nat}{p:K×Bool}{v:Value}{d:D}{R2:Nat->Prop}(hf:okResCell P p=true)(h:Dw P w R ow n p v d):Dw P w R2 ow n p v d:=by
 obtain⟨k,own⟩:=p;cases k with
 |int k=>exact Rd.flat (fun e he=>by cases he) h
 |bool=>exact Rd.flat (fun e he=>by cases he) h
 |str=>exact Rd.flat (fun e he=>by cases he) h
 | sl e=>
  simp only[okResCell,flatK,zA,zR]at hf;obtain⟨rfl,hm,hf⟩:=hf;obtain⟨s,hd,hO⟩:=h;obtain⟨a,cap,hv,h1,h2,h3,h4⟩:=hO.1 hm;refine⟨s,hd,fun _=>⟨a,cap,hv,h1,h2,h3, ?_⟩,fun hh=>absurd (hm.symm.trans hh) qH⟩
  rcases h4 with h4|⟨b,cs,hab,hob,hcs,hcont⟩
  ·exact .inl h4
  ·refine .inr ⟨b,cs,hab,hob,hcs,fun ks hks=>⟨(hcont ks hks).1,fun j k kk hj hk=> ?_⟩⟩
   obtain⟨u,hu,hr⟩:=(hcont ks hks).2 j k kk hj hk;refine⟨u,hu,hr.flat (fun e' he'=> ?_)⟩
   rw[hks]at hf;have:=zG.1 hf kk (qI hk);rw[he']at this;simp at this
theorem jS.flat{R2:Nat->Prop}:∀{l:List (K×Bool)}{n:Nat}{v:List Value}{d:List D},l.all (okResCell P)=true->jS P w R ow n l v d->jS P w R2 ow n l v d
 |[],_,[],[],_,h=>h
 |p::l,n,v::vs,d::ds,hf,h=>by
  simp only[z6,zA]at hf;exact⟨h.1.flat hf.1,jS.flat hf.2 h.2⟩
 |[],_,_::_,_,_,h=>h.elim
 |[],_,[],_::_,_,h=>h.elim
 |_::_,_,[],_,_,h=>h.elim
 |_::_,_,_::_,[],_,h=>h.elim
theorem BO.flat{R2:Nat->Prop}:∀{l:List VSh}{n:Nat}{v:List Value}{d:List D},l.all (flatSh P)=true->BO P w R ow n l v d->BO P w R2 ow n l v d
 |[],_,[],_,_,h=>h
 |sh::l,n,v::vs,d,hf,h=>by
  simp only[z6,zA]at hf;obtain⟨d1,d2,hd,h1,h2⟩:=h;refine⟨d1,d2,hd, ?_,BO.flat hf.2 h2⟩
  cases sh with
  |cell k own=>exact jS.flat (by simpa[flatSh]using hf.1) h1
  |agg l'=>obtain⟨cs,hv,hc⟩:=h1;exact⟨cs,hv,jS.flat hf.1 hc⟩
 |[],_,_::_,_,_,h=>h.elim
 |_::_,_,[],_,_,h=>h.elim
theorem HR.azK(h:HR P w0 R0 bl vs R ow st.boxes st.ents w){R':Nat->Prop}(h1:∀b,R b->R' b)(h2:∀b,R' b->R b\/(w0.heap.size<=b/\b<w.heap.size/\ow b=none)):HR P w0 R0 bl vs R' ow st.boxes st.ents w where
 below:=h.below
 rlt:=fun b hb=>(h2 b hb).elim (h.rlt b) (fun hh=>hh.2.1)
 r0:=fun b hb=>h1 b (h.r0 b hb)
 rsub:=fun b hb=>(h2 b hb).elim (h.rsub b) (fun hh=> .inr hh.1)
 ro:=fun b hb=>(h2 b hb).elim (h.ro b) (fun hh=>hh.2.2)
 olt:=h.olt
 nb:=h.nb
 nv:=h.nv
 vsl:=h.vsl
 glb:=h.glb
 box:=h.box
 ent:=fun i e hi hl=>by
  obtain⟨u,hu,g1,g2⟩:=h.ent i e hi hl;exact⟨u,hu,fun hh=>(g1 hh).mono h1 (fun _ _=>rfl),fun hh=>(g2 hh).mono h1 (fun _ _=>rfl) (fun _ hx=>⟨hx,rfl⟩)⟩
 mrk:=h.mrk
 lp:=h.lp
theorem Td{svs:List (SV (sem T))}{vals:List Value}(h:SVRs bl vs svs vals):SVR bl vs (one svs) (adV vals):=by
 match svs,vals,h with
 |[],[],_=>exact⟨#[],rfl,trivial⟩
 |[s],[v],h=>exact h.1
 |s::s'::ss,v::v'::vals,h=>exact⟨(v::v'::vals).toArray,rfl,by simpa using h⟩
 |[],_::_,h=>exact h.elim
 |_::_,[],h=>exact h.elim
 |[_],_::_::_,h=>exact h.2.elim
 |_::_::_,[_],h=>exact h.2.elim
def Kr(P:Program)(w0:World)(R0:Bs T)(bl:List Nat)(vs:List Value)(ow:Nat->Option Owner)(st:St (sem T))(w:World)(f:FuncId)(vals:List Value)(k:SV (sem T)->St (sem T)->Tree (sem T)):Prop:=
 Calls P f vals.toArray w fun e w'=>∃v,e= .returned v/\∃sv st' bl' vs' R' ow',Stp P w0 R0 bl vs ow st bl' vs' R' ow' st' w'/\st'.tmps=st.tmps/\SVR bl' vs' sv v/\(k sv st').den
theorem Y2:∀(l:List Nat){st:St (sem T)}{i:Nat}{e:Ent (sem T)},i∈l->(freezeIds st l).ents[i]? =some e->e.live=true->isM e.elem=false->e.own=false:=by
 have step:∀(l:List Nat)(st:St (sem T))(i:Nat),(∀e,st.ents[i]? =some e->e.live=true->isM e.elem=false->e.own=false)->∀e,(freezeIds st l).ents[i]? =some e->e.live=true->isM e.elem=false->e.own=false:=by
  intro l
  induction l with
  |nil=>intro st i h;exact h
  | cons j l ih=>
   intro st i h;refine ih (freezeId st j) i ?_
   intro e he hl hm;unfold freezeId at he;split at he
   ·split at he
    ·rcases get_set_inv he with⟨_,rfl⟩|⟨_,he⟩
     ·rfl
     ·exact h e he hl hm
    ·exact h e he hl hm
   ·exact h e he hl hm
 have hit:∀(l:List Nat)(st:St (sem T))(i:Nat),i∈l->∀e,(freezeIds st l).ents[i]? =some e->e.live=true->isM e.elem=false->e.own=false:=by
  intro l
  induction l with
  |nil=>intro st i h;cases h
  | cons j l ih=>
   intro st i h e he hl hm;by_cases hj:i=j
   ·subst hj
    refine step l (freezeId st i) i ?_ e he hl hm
    intro e he hl hm;unfold freezeId at he;split at he
    ·rename_i e0 he0
     split at he
     ·rcases get_set_inv he with⟨_,rfl⟩|⟨hne,_⟩
      ·rfl
      ·exact absurd rfl hne
     ·rename_i hc
      rw[he0]at he;cases he
      simp only[hl,hm,qJ,Bool.not_false,Bool.and_true]at hc;simpa using hc
    ·rename_i hn;rw[hn]at he;cases he
   ·exact ih (freezeId st j) i (by simpa[hj]using h) e he hl hm
 intro l st i e hi he hl hm;exact hit l st i hi e he hl hm
theorem agD{cfg:Cfg}{f:FuncId}{sg:Sig}(hcon:ConOK cfg.P f sg (T f))(hro:sg.args.all roSh=true)(h:HR cfg.P w0 R0 bl vs R ow st.boxes st.ents w){args:List (SV (sem T))}{vals:List Value}(hv:SVRs bl vs args vals)
  {k:SV (sem T)->St (sem T)->Tree (sem T)} (hd:(callC cfg f sg args st k).den):Kr cfg.P w0 R0 bl vs ow st w f vals k:=by
 unfold callC at hd;simp only at hd;obtain⟨R1,ow1,hS,G5⟩:∃R1 ow1,Stp cfg.P w0 R0 bl vs ow st bl vs R1 ow1 (callSt cfg.P sg args st) w/\(callSt cfg.P sg args st).tmps=st.tmps:=by
  unfold callSt;split
  ·exact⟨R,ow,(Stp.refl h),rfl⟩
  ·obtain⟨R1,ow1,h1,h2,_⟩:=h.freezes (args.flatMap idsV)
   exact⟨R1,ow1,h1,h2⟩
 split at hd
 ·rename_i cs hcs
  obtain⟨hpre,hd⟩:=hd;cases as1:sg.flat cfg.P with
  | true=>
   have hargs:=KL (P:=cfg.P) (w:=w) (R1:=fun b=>b<w.heap.size) (n:=0) (ids:=args.flatMap idsV) (fun h1 h2 _ _ h3=>Wh hS.hr (fun _ x=>x) h1 h2 h3) hcs hro (fun _ x=>x) hv
   refine(hcon w (fun b=>b<w.heap.size) vals (cs.map Cl.toD) hS.hr.look.glb (fun _ x=>x) hargs hpre).mono ?_
   rintro e w' ⟨v,rs,rfl,hpost,hbel,vals',R',ow',rfl,r1,r2,r3,r4,hres⟩
   have hg:=hS.hr.grow hbel;have hres':=BO.flat (R2:=R1) as1 hres;obtain⟨svs,rcs,st',vs',ow2,hS2,ht2,hsv,hrc,hd2⟩:=BP hg hres' (fun m b _ hb=>by
    have:=(r4 b _ hb).1;refine⟨z1 h.below.size this, ?_,fun hr=>by have:=hS.hr.rlt b hr;omega⟩
    cases hob:ow1 b with
    |none=>rfl
    |some o=>have:=(hS.hr.olt b o hob).2;omega) hd
   refine⟨_,rfl,one svs,st',bl,vs',R1,ow2,hS.trans hS2,ht2.trans G5,Td hsv, ?_⟩
   refine hd2 ?_
   show(T f).post (cs.map Cl.toD) (rcs.map Cl.toD);rw[hrc];exact hpost
  | false=>
   have hno:∀(i:Nat)(e:Ent (sem T)),i∈args.flatMap idsV->(callSt cfg.P sg args st).ents[i]? =some e->e.live=true->isM e.elem=false->e.own=false:=by
    intro i e hm hi hl hM;unfold callSt at hi;rw[as1]at hi;simp only[z4,if_false]at hi;exact Y2 _ hm hi hl hM
   have hargs:=KL (P:=cfg.P) (w:=w) (R1:=R1) (n:=0) (ids:=args.flatMap idsV) (fun h1 h2 h4 _ h3=>Tj hS.hr hno h1 h2 h4 h3) hcs hro (fun _ x=>x) hv
   refine(hcon w R1 vals (cs.map Cl.toD) hS.hr.look.glb hS.hr.rlt hargs hpre).mono ?_
   rintro e w' ⟨v,rs,rfl,hpost,hbel,vals',R',ow',rfl,r1,r2,r3,r4,hres⟩
   have hg:=hS.hr.grow hbel;have hfree:∀b,w.heap.size<=b->ow1 b=none:=fun b hb=>by
    cases hob:ow1 b with
    |none=>rfl
    |some o=>have:=(hS.hr.olt b o hob).2;omega
   have hg2:=HR.azK hg r1 (fun b hb=>(r2 b hb).imp id (fun hh=>⟨z1 h.below.size hh.1,hh.2,hfree b hh.1⟩))
   obtain⟨svs,rcs,st',vs',ow2,hS2,ht2,hsv,hrc,hd2⟩:=BP hg2 hres (fun m b _ hb=>by
    have:=(r4 b _ hb).1;exact⟨z1 h.below.size this,hfree b this,fun hr=>by rw[r3 b hr]at hb;cases hb⟩) hd
   refine⟨_,rfl,one svs,st',bl,vs',R',ow2,⟨hS2.hr,hS2.bl,hS2.vs,hS.ext.trans hS2.ext,fun b hb=>hS2.mrk b (hS.mrk b hb)⟩,ht2.trans G5,Td hsv, ?_⟩
   refine hd2 ?_
   show(T f).post (cs.map Cl.toD) (rcs.map Cl.toD);rw[hrc];exact hpost
 ·exact hd.elim
variable{T:FuncId->Pred}{w0:World}{R0:Bs T}
def PrimOk(T:FuncId->Pred)(P:Program)(f:FuncId)(q:Prim):Prop:=True
def SigOk(T:FuncId->Pred)(cfg:Cfg):Prop:=(∀g sg,cfg.sig g=some sg->ConOK cfg.P g sg (T g)/\sg.args.all roSh=true)/\∀g p,cfg.prim g=some p->PrimOk T cfg.P g p
def YU(b:Nat):Deferred:={target:= .collected b,args:= #[]}
def DR(ow:Nat->Option Owner)(a:Act):Prop:=∃Ds:List Nat,a.defers=Ds.map YU/\(∀d∈Ds,ow d=some (.mark 0 mkO))/\Ds.Nodup
def TD(bl:List Nat)(vs:List Value)(ow:Nat->Option Owner)(tmps:List (SV (sem T)))(a:Act):Prop:=DR ow a/\SVRs bl vs tmps a.tmps.toList
theorem TD.tr{bl:List Nat}{vs:List Value}{ow:Nat->Option Owner}{tmps:List (SV (sem T))}{a:Act}(h:TD bl vs ow tmps a):TR bl vs tmps a:=⟨trivial,h.2⟩
theorem DR.mono{ow ow':Nat->Option Owner}{a:Act}(h:DR ow a)(hm:∀{l:Nat}{mo:Obj} b,ow b=some (.mark l mo)->ow' b=some (.mark l mo)):DR ow' a:=by
 obtain⟨Ds,h1,h2,h3⟩:=h;exact⟨Ds,h1,fun d hd=>hm d (h2 d hd),h3⟩
def aaq(cfg:Cfg)(w0:World)(R0:Bs T)(inl:Inl (sem T)):Prop:=
 (∀(path:Nat)(f:FuncId)(args:List (SV (sem T)))(vals:List Value)(st:St (sem T))(k:SV (sem T)->St (sem T)->Tree (sem T))(bl:List Nat)(vs:List Value)(R:Nat->Prop)(ow:Nat->Option Owner)(w:World),
  HR cfg.P w0 R0 bl vs R ow st.boxes st.ents w->SVRs bl vs args vals->(inl path (.fn f) args st k).den->Kr cfg.P w0 R0 bl vs ow st w f vals k)/\
 ∀(path i:Nat)(args:List (SV (sem T)))(st:St (sem T))(k:SV (sem T)->St (sem T)->Tree (sem T)),¬(inl path (.yld i) args st k).den
def aas(P:Program)(w0:World)(R0:Bs T)(bl:List Nat)(vs:List Value)(ow:Nat->Option Owner)(st:St (sem T))(w:World)(i:Nat)(vals:List Value)(k:SV (sem T)->St (sem T)->Tree (sem T)):Prop:=
 ∃b,bl[i]? =some b/\∃fn tmps assign body,(Instr.yield b vals.toArray).run P w= .ok (.round b fn tmps assign body) w/\
  ∀n,RoundIn Fence.wide n P b fn tmps assign body w fun e w'=>∃v,e= .returned v/\∃sv st' bl' vs' R' ow',Stp P w0 R0 bl vs ow st bl' vs' R' ow' st' w'/\st'.tmps=st.tmps/\SVR bl' vs' sv v/\(k sv st').den
def adG(cfg:Cfg)(w0:World)(R0:Bs T)(inl:Inl (sem T)):Prop:=
 ∀ (path:Nat)(g:Fi)(args:List (SV (sem T)))(vals:List Value)(st:St (sem T))(k:SV (sem T)->St (sem T)->Tree (sem T))(bl:List Nat)(vs:List Value)(R:Nat->Prop)(ow:Nat->Option Owner)(w:World),
  HR cfg.P w0 R0 bl vs R ow st.boxes st.ents w->SVRs bl vs args vals->(inl path g args st k).den->match g with
   | .fn f=>Kr cfg.P w0 R0 bl vs ow st w f vals k
   | .yld i=>aas cfg.P w0 R0 bl vs ow st w i vals k
def Reach(P:Program)(w0:World)(R0:Bs T)(bl:List Nat)(vs:List Value)(ow:Nat->Option Owner)(st:St (sem T))(Kp:St (sem T)->Prop)(a':Act)(w':World):Prop:=
 ∃bl' vs' R' ow' st',Stp P w0 R0 bl vs ow st bl' vs' R' ow' st' w'/\TD bl' vs' ow' st'.tmps a'/\Kp st'
section
variable{P:Program}{w:World}{R:Nat->Prop}{bl:List Nat}{vs:List Value}{ow:Nat->Option Owner}{st:St (sem T)}{a:Act}
def Keeps(D:List Nat)(a a':Act):Prop:=a'.tmps.size=a.tmps.size/\∀t,t∉D->a'.tmps[t]? =a.tmps[t]?
theorem Keeps.refl(D:List Nat)(a:Act):Keeps D a a:=⟨rfl,fun _ _=>rfl⟩
theorem Keeps.trans{D:List Nat}{a b c:Act}(h:Keeps D a b)(k:Keeps D b c):Keeps D a c:=⟨k.1.trans h.1,fun t ht=>(k.2 t ht).trans (h.2 t ht)⟩
theorem Keeps.mono{D D':List Nat}{a b:Act}(h:Keeps D a b)(hD:∀t,t∈D->t∈D'):Keeps D' a b:=⟨h.1,fun t ht=>h.2 t (fun hh=>ht (hD t hh))⟩
theorem Keeps.put{D:List Nat}{a:Act}{d:Option Nat}{v:Value}(h:∀x,d=some x->x∈D):Keeps D a (a.put d v):=⟨by cases d<;>simp[Act.put],fun t ht=>by
 cases d with
 |none=>rfl
 |some d=>
  simp only[Act.put];rw[Array.getElem?_setIfInBounds_ne (fun e:d=t=>ht (by rw[<-e];exact h d rfl))]⟩
theorem Reach.of{bl1:List Nat}{vs1:List Value}{R1:Nat->Prop}{ow1:Nat->Option Owner}{st1:St (sem T)}{w1:World}{Kp:St (sem T)->Prop}{a':Act}{w':World}(h:Stp P w0 R0 bl vs ow st bl1 vs1 R1 ow1 st1 w1)(hr:Reach P w0 R0 bl1 vs1 ow1 st1 Kp a' w'):Reach P w0 R0 bl vs ow st Kp a' w':=by
 obtain⟨bl',vs',R',ow',st',h1,h2,h3⟩:=hr;exact⟨bl',vs',R',ow',st',h.trans h1,h2,h3⟩
theorem SVRs.set:∀{s:List (SV (sem T))}{v:List Value}{i:Nat}{x:SV (sem T)}{u:Value},SVRs bl vs s v->SVR bl vs x u->SVRs bl vs (s.set i x) (v.set i u)
 |[],[],_,_,_,_,_=>by simp[SVRs]
 |_::_,_::_,0,_,_,h,hx=>⟨hx,h.2⟩
 |_::_,_::_,i+1,_,_,h,hx=>⟨h.1,h.2.set hx⟩
 |[],_::_,_,_,_,h,_=>h.elim
 |_::_,[],_,_,_,h,_=>h.elim
theorem TD.put(h:TD bl vs ow st.tmps a)(d:Option Nat){sv:SV (sem T)}{v:Value}(hs:SVR bl vs sv v):TD bl vs ow (setTmp st d sv).tmps (a.put d v):=by
 cases d with
 |none=>exact h
 |some d=>
  refine⟨?_,by simp only[setTmp,Act.put,qK];exact h.2.set hs⟩
  obtain⟨Ds,h1,h2⟩:=h.1;exact⟨Ds,h1,h2⟩
theorem TD.mono{bl':List Nat}{vs':List Value}{ow':Nat->Option Owner}(h:TD bl vs ow st.tmps a)(hb:∀(i:Nat)(b:Nat),bl[i]? =some b->bl'[i]? =some b)(hv:∀(i:Nat)(b:Value),vs[i]? =some b->vs'[i]? =some b)
  (hm:∀{l:Nat}{mo:Obj} b,ow b=some (.mark l mo)->ow' b=some (.mark l mo)):TD bl' vs' ow' st.tmps a:=
 ⟨h.1.mono hm,h.2.mono hb hv⟩
theorem TD.same(h:TD bl vs ow st.tmps a){d:Nat}{sv:SV (sem T)}(hs:∀v,a.tmps[d]? =some v->SVR bl vs sv v):TD bl vs ow (st.tmps.set d sv) a:=by
 refine⟨h.1, ?_⟩
 have key:∀(s:List (SV (sem T)))(l:List Value)(d:Nat),SVRs bl vs s l->(∀v,l[d]? =some v->SVR bl vs sv v)->SVRs bl vs (s.set d sv) l:=by
  intro s
  induction s with
  |nil=>intro l d h _;simpa using h
  | cons x s ih=>
   intro l d h hs;cases l with
   |nil=>exact h.elim
   |cons v l=>
    cases d with
    |zero=>exact⟨hs v rfl,h.2⟩
    |succ d=>exact⟨h.1,ih l d h.2 (fun u hu=>hs u (by simpa using hu))⟩
 exact key _ _ _ h.2 (fun v hv=>hs v (by simpa using hv))
theorem Tn{cfg:Cfg}{inl:Inl (sem T)}(hsig:SigOk T cfg)(hinl:aaq cfg w0 R0 inl){path:Nat}{o:Oper}(h:HR cfg.P w0 R0 bl vs R ow st.boxes st.ents w)(ht:TD bl vs ow st.tmps a)
  {kk:SV (sem T)->St (sem T)->Tree (sem T)} (hd:(stepOp cfg inl path st o kk).den) (Q:Exit->Act->World->Prop):
  o.wp cfg.P a w (fun a' w'=>∃v sv st' bl' vs' R' ow',a'=a.put o.dst v/\Stp cfg.P w0 R0 bl vs ow st bl' vs' R' ow' st' w'/\st'.tmps=st.tmps/\SVR bl' vs' sv v/\(kk sv st').den) Q:=by
 unfold stepOp at hd;split at hd
 ·rename_i p hp
  obtain⟨hns,hd⟩:=lC.1 hd;obtain⟨v,hr,hs,hg⟩:=pure_sound h.look ht.tr hp hns;unfold Oper.wp;rw[hr];exact⟨v,p.v,st,bl,vs,R,ow,rfl,(Stp.refl h),rfl,hs,(Ee.1 hd) hg⟩
 ·split at hd
  ·rename_i f args hc
   split at hd
   ·rename_i hgo
    have hcall:∃vals,SVRs bl vs args vals/\(execOp a.eval o).run cfg.P w= .ok (.enter f vals.toArray) w:=by
     unfold callee at hc;split at hc
     ·rename_i fo as tys ho
      split at hc
      ·rename_i g caps hfo
       cases hc
       have hf:=ev_sound ht.tr fo;rw[hfo]at hf;obtain⟨cs,hfv,hcs⟩:=hf;refine⟨as.toList.map a.eval++cs.toList,(evs_sound ht.tr as.toList).append hcs, ?_⟩
       unfold goBody at hgo;split at hgo
       ·rename_i fn hfn
        simp only[zA,bne_iff_ne,ne_eq]at hgo;have hbn:fn.body.isNone=false:=by
         cases hb:fn.body with
         |none=>rw[hb]at hgo;simp at hgo
         |some _=>rfl
        have hne:(fn.name== "runtime.NumGoroutine")=false:=by simpa using hgo.1
        simp only[execOp,ho,resolve,hfv,Deferred.ofValue,invoke,callFunc,Sem.run_bind,Sem.run_pure,Result.andThen_ok,run_program,hfn,hne,hbn,z4,if_false]
        congr 2
        rw[<-qL];simp
       ·cases hgo
      ·rename_i g caps hfo
       cases hc
       have hf:=ev_sound ht.tr fo;rw[hfo]at hf;obtain⟨cs,hfv,hcs⟩:=hf;refine⟨cs.toList++as.toList.map a.eval,hcs.append (evs_sound ht.tr as.toList), ?_⟩
       unfold goBody at hgo;split at hgo
       ·rename_i fn hfn
        simp only[zA,bne_iff_ne,ne_eq]at hgo;have hbn:fn.body.isNone=false:=by
         cases hb:fn.body with
         |none=>rw[hb]at hgo;simp at hgo
         |some _=>rfl
        have hne:(fn.name== "runtime.NumGoroutine") = false:=by simpa using hgo.1
        simp only[execOp,ho,resolve,hfv,Deferred.ofValue,invoke,callFunc,Sem.run_bind,Sem.run_pure,Result.andThen_ok,run_program,hfn,hne,hbn,z4,if_false]
        congr 2
        rw[<-qL];simp
       ·cases hgo
      ·cases hc
      ·cases hc
     ·cases hc
    obtain⟨vals,adH,hrun⟩:=hcall;have hok:Kr cfg.P w0 R0 bl vs ow st w f vals kk:=by
     split at hd
     ·rename_i sg hsg
      obtain⟨h1,h2⟩:=hsig.1 f sg hsg;exact agD h1 h2 h adH hd
     ·exact hinl.1 path f args vals st kk bl vs R ow w h adH hd
    unfold Oper.wp;rw[hrun,Oper.upon_enter];refine hok.mono ?_
    rintro e w' ⟨v,rfl,sv,st',bl',vs',R',ow',g1,g2,g3,g4⟩
    exact⟨v,sv,st',bl',vs',R',ow',rfl,g1,g2,g3,g4⟩
   ·exact hd.elim
  ·exact(hinl.2 _ _ _ _ _ hd).elim
  ·obtain⟨v,w',hr,sv,st',bl',vs',R',ow',g1,g2,g3,g4⟩:=alA h ht.tr hd
   unfold Oper.wp;rcases hr with hr|⟨hr,rfl⟩
   ·rw[hr];exact⟨v,sv,st',bl',vs',R',ow',rfl,g1,g2,g3,g4⟩
   ·rw[hr];exact⟨undef,sv,st',bl',vs',R',ow',rfl,g1,g2,g3,g4⟩
theorem zQ(ht:TD bl vs ow st.tmps a){d:Nat}{s:SV (sem T)}(h:st.tmps[d]? =some s):∃v,a.tmps[d]? =some v/\SVR bl vs s v:=by
 obtain⟨v,hv,hs⟩:=ht.2.get h;exact⟨v,by simpa using hv,hs⟩
theorem Tq{ops:Array Oper}{o:Oper}(h:HR P w0 R0 bl vs R ow st.boxes st.ents w)(ht:TD bl vs ow st.tmps a){yes no:St (sem T)->Tree (sem T)}(hd:(guardK ops o st yes no).den):
  ∃st1,Stp P w0 R0 bl vs ow st bl vs R ow st1 w/\TD bl vs ow st1.tmps a/\((Region.wanted o (yielded ops a.tmps)=true/\(yes st1).den)\/(Region.wanted o (yielded ops a.tmps)=false/\(no st1).den)):=by
 have hS:Stp P w0 R0 bl vs ow st bl vs R ow st w:=(Stp.refl h);unfold guardK at hd;split at hd
 ·rename_i hg
  exact⟨st,hS,ht, .inl ⟨by simp[Region.wanted,hg],hd⟩⟩
 ·rename_i j want hg
  split at hd
  ·rename_i hj
   exact⟨st,hS,ht, .inr ⟨by simp[Region.wanted,hg,yielded,hj],hd⟩⟩
  ·rename_i d hj
   split at hd
   ·rename_i b hb
    obtain⟨v,hv,hs⟩:=zQ ht hb;have hs:v= .bool b:=hs;subst hs;have hy:yielded ops a.tmps j=some b:=by simp[yielded,hj,hv]
    split at hd
    ·rename_i hbw
     have:b=want:=by simpa using hbw
     exact⟨st,hS,ht, .inl ⟨by simp[Region.wanted,hg,hy,this],hd⟩⟩
    ·rename_i hbw
     have:b≠want:=by simpa using hbw
     exact⟨st,hS,ht, .inr ⟨by simp[Region.wanted,hg,hy,this],hd⟩⟩
   ·rename_i b hb
    obtain⟨v,hv,hs⟩:=zQ ht hb;have hs:v= .bool b.b:=hs;subst hs;have hy:yielded ops a.tmps j=some b.b:=by simp[yielded,hj,hv]
    obtain⟨hd1,hd2⟩:=hd;have hlit:∀c:Bool,b.b=c->TD bl vs ow (st.tmps.set d (.blit c)) a:=fun c hc=>ht.same (fun u hu=>by rw[hv]at hu;cases hu;exact congrArg Value.bool hc)
    have hst:∀c:Bool,Stp P w0 R0 bl vs ow st bl vs R ow {st with tmps:=st.tmps.set d (.blit c)} w:=fun c=>⟨h,fun _ _ x=>x,fun _ _ x=>x,⟨(Ext.refl st).box,(Ext.refl st).ent⟩,fun _ x=>x⟩
    by_cases hp:b.p
    ·have hbt:b.b=true:=by simp[PB.b,hp]
     have hd1:=hd1 hp;refine⟨_,hst true,hlit true hbt, ?_⟩
     cases want with
     |true=>exact .inl ⟨by simp[Region.wanted,hg,hy,hbt],hd1⟩
     |false=>exact .inr ⟨by simp[Region.wanted,hg,hy,hbt],hd1⟩
    ·have hbt:b.b=false:=by simp[PB.b,hp]
     have hd2:=hd2 hp;refine⟨_,hst false,hlit false hbt, ?_⟩
     cases want with
     |true=>exact .inr ⟨by simp[Region.wanted,hg,hy,hbt],hd2⟩
     |false=>exact .inl ⟨by simp[Region.wanted,hg,hy,hbt],hd2⟩
   ·rename_i us hb
    obtain⟨v,hv,hs⟩:=zQ ht hb;have hs:v= .tuple us:=hs;subst hs;have hy:yielded ops a.tmps j=none:=by simp[yielded,hj,hv]
    exact⟨st,hS,ht, .inr ⟨by simp[Region.wanted,hg,hy],hd⟩⟩
   ·exact hd.elim
theorem V6{cfg:Cfg}{inl:Inl (sem T)}(hsig:SigOk T cfg)(hinl:aaq cfg w0 R0 inl){path:Nat}{ops:Array Oper}{o:Oper}(h:HR cfg.P w0 R0 bl vs R ow st.boxes st.ents w)(ht:TD bl vs ow st.tmps a)
  {k:St (sem T)->Tree (sem T)} (hd:(oneOp cfg inl path ops st o k).den) (Q:Exit->Act->World->Prop):
  if Region.wanted o (yielded ops a.tmps)then o.wp cfg.P a w (fun a' w'=>(∃v,a'=a.put o.dst v)/\Reach cfg.P w0 R0 bl vs ow st (fun st'=>(k st').den) a' w') Q else Reach cfg.P w0 R0 bl vs ow st (fun st'=>(k st').den) (a.put o.dst undef) w:=by
 unfold oneOp at hd;obtain⟨st1,hS,ht1,hw|hw⟩:=Tq h ht hd
 ·rw[if_pos hw.1]
  refine Oper.wp_mono ?_ (Tn hsig hinl hS.hr ht1 hw.2 Q)
  rintro a' w' ⟨v,sv,st',bl',vs',R',ow',rfl,g1,g2,g3,g4⟩
  refine⟨⟨v,rfl⟩,bl',vs',R',ow',setTmp st' o.dst sv, ?_, ?_,g4⟩
  ·have:=hS.trans g1
   cases hdst:o.dst with
   |none=>exact this
   |some d=>exact⟨this.hr,this.bl,this.vs,⟨this.ext.box,this.ext.ent⟩,this.mrk⟩
  ·have:TD bl' vs' ow' st'.tmps a:=by rw[g2];exact ht1.mono g1.bl g1.vs g1.mrk
   exact this.put o.dst g3
 ·rw[if_neg (by simp[hw.1])]
  refine⟨bl,vs,R,ow,setTmp st1 o.dst (.con (.tuple #[])), ?_,ht1.put o.dst rfl,hw.2⟩
  cases hdst:o.dst with
  |none=>exact hS
  |some d=>exact⟨hS.hr,hS.bl,hS.vs,⟨hS.ext.box,hS.ext.ent⟩,hS.mrk⟩
theorem RX{x:Operand}(h:HR P w0 R0 bl vs R ow st.boxes st.ents w)(ht:TD bl vs ow st.tmps a){k:St (sem T)->Tree (sem T)}(hd:(decided x st k).den):
  ∃st1,Stp P w0 R0 bl vs ow st bl vs R ow st1 w/\TD bl vs ow st1.tmps a/\(k st1).den:=by
 have hS:Stp P w0 R0 bl vs ow st bl vs R ow st w:=(Stp.refl h);unfold decided at hd;split at hd
 ·rename_i t
  split at hd
  ·rename_i b hb
   obtain⟨v,hv,hs⟩:=zQ ht hb;have hs:v= .bool b.b:=hs;subst hs;have hlit:∀c:Bool,b.b=c->TD bl vs ow (st.tmps.set t (.blit c)) a:=fun c hc=>ht.same (fun u hu=>by rw[hv]at hu;cases hu;exact congrArg Value.bool hc)
   have hst:∀c:Bool,Stp P w0 R0 bl vs ow st bl vs R ow {st with tmps:=st.tmps.set t (.blit c)} w:=fun c=>⟨h,fun _ _ x=>x,fun _ _ x=>x,⟨(Ext.refl st).box,(Ext.refl st).ent⟩,fun _ x=>x⟩
   by_cases hp:b.p
   ·exact⟨_,hst true,hlit true (by simp[PB.b,hp]),hd.1 hp⟩
   ·exact⟨_,hst false,hlit false (by simp[PB.b,hp]),hd.2 hp⟩
  ·exact⟨st,hS,ht,hd⟩
 ·exact⟨st,hS,ht,hd⟩
end
def FZ(kG:Option Nat):Fence:={Fence.wide with round:=kG}
theorem YV{kG:Option Nat}{n:Nat}{P:Program}{f:FuncId}{args:Array Value}{w:World}{R:Ending->World->Prop}:CallsIn (FZ kG) n P f args w R↔Calls P f args w R:=callsIn_wide (n:=n)
theorem alB{kG:Option Nat}{n:Nat}{P:Program}{row:String}{args:Array Value}{w:World}{R:Value->World->Prop}(h:Rows P row args w R):RowsIn (FZ kG) n P row args w R:=fun c cs _=>by
 obtain⟨v,w',h1,h2⟩:=h c cs;exact⟨v,w',h1,stepsIn_wide.2 h2⟩
theorem awu{P:Program}{kG:Option Nat}{n:Nat}{o:Oper}{a:Act}{w:World}{next:Act->World->Prop}{Q:Exit->Act->World->Prop}(hd:∀c,o.op≠ .defer c)(h:o.wp P a w next Q):o.wpIn (FZ kG) n P a w next Q:=by
 refine⟨fun f _=>trivial, ?_⟩
 rw[Oper.semAt_eq _ _ _ hd];unfold Oper.wp at h;generalize(execOp a.eval o).run P w=r at h⊢;cases r with
 |ok x w'=>
  cases x with
  |value v=>exact h
  |skip=>exact h
  |defer d=>exact h
  |enter f args=>exact⟨(fun hh=>nomatch hh),YV.2 h⟩
  |row row args=>exact⟨(fun hh=>nomatch hh),alB h⟩
  |_=>exact h.elim
 |halt x w'=>
  cases x<;>first|exact h|exact h.elim
section
variable{P:Program}{w:World}{R:Nat->Prop}{bl:List Nat}{vs:List Value}{ow:Nat->Option Owner}{st:St (sem T)}{a:Act}{kG:Option Nat}{n:Nat}
theorem aaw{cfg:Cfg}{inl:Inl (sem T)}{path:Nat}{o:Oper}{k:SV (sem T)->St (sem T)->Tree (sem T)}(hd:(stepOp cfg inl path st o k).den):∀c,o.op≠ .defer c:=fun c e=>by
 unfold stepOp at hd;have h1:pureOp cfg.P st o=none:=by simp[pureOp,e]
 have h2:callee st o=none:=by simp[callee,e]
 rw[h1,h2]at hd;simp only[effOp,e]at hd;exact hd
theorem adn{cfg:Cfg}{inl:Inl (sem T)}(hsig:SigOk T cfg)(hinl:adG cfg w0 R0 inl){path:Nat}{o:Oper}(h:HR cfg.P w0 R0 bl vs R ow st.boxes st.ents w)(ht:TD bl vs ow st.tmps a)
  {kk:SV (sem T)->St (sem T)->Tree (sem T)} (hd:(stepOp cfg inl path st o kk).den) (Q:Exit->Act->World->Prop):
  o.wpIn (FZ kG) n cfg.P a w (fun a' w'=>∃v sv st' bl' vs' R' ow',a'=a.put o.dst v/\Stp cfg.P w0 R0 bl vs ow st bl' vs' R' ow' st' w'/\st'.tmps=st.tmps/\SVR bl' vs' sv v/\(kk sv st').den) Q:=by
 have hnd:=aaw hd;let inl':Inl (sem T):=fun path g args st k=>match g with
  | .fn f=>inl path (.fn f) args st k
  | .yld i=> .fail "" i
 have hC:aaq cfg w0 R0 inl':=⟨fun path f args vals st k bl vs R ow w h1 h2 h3=>hinl path (.fn f) args vals st k bl vs R ow w h1 h2 h3,fun path i args st k h=>h⟩
 by_cases hy:∃i args,pureOp cfg.P st o=none/\callee st o=some (.yld i,args)
 ·obtain⟨i,args,hp,hc⟩:=hy
  have hd':(inl path (.yld i) args st kk).den:=by
   unfold stepOp at hd;rw[hp,hc]at hd;exact hd
  unfold callee at hc;split at hc
  ·rename_i fo as tys ho
   split at hc
   ·cases hc
   ·cases hc
   ·rename_i i' hfo
    cases hc
    have hf:=ev_sound ht.tr fo;rw[hfo]at hf;obtain⟨b,hb,hfv⟩:=hf;have adH:=evs_sound ht.tr as.toList;obtain⟨b',hb',fn,tmps,assign,body,hrun,awv⟩:=hinl path (.yld i) _ _ st kk bl vs R ow w h adH hd';rw[hb]at hb';cases hb';refine⟨fun f _=>trivial, ?_⟩
    rw[Oper.semAt_eq _ _ _ hnd];have hex:(execOp a.eval o).run cfg.P w= .ok (.round b fn tmps assign body) w:=by
     simp only[execOp,ho,resolve,hfv,Deferred.ofValue,invoke,Sem.run_bind,Sem.run_pure,Result.andThen_ok];have e:(as.toList.map a.eval).toArray=as.map a.eval:=by rw[<-qL];simp
     rw[e]at hrun;simpa using hrun
    rw[hex,Oper.uponIn_round];refine⟨(fun hh=>nomatch hh), ?_⟩
    have hR:RoundIn (FZ kG) (n-1) cfg.P b fn tmps assign body w fun e w'=>∃v,e= .returned v/\∃sv st' bl' vs' R' ow',Stp cfg.P w0 R0 bl vs ow st bl' vs' R' ow' st' w'/\st'.tmps=st.tmps/\SVR bl' vs' sv v/\(kk sv st').den:=awv (n-1)
    refine hR.mono ?_
    rintro e w' ⟨v,rfl,sv,st',bl',vs',R',ow',g1,g2,g3,g4⟩
    exact⟨v,sv,st',bl',vs',R',ow',rfl,g1,g2,g3,g4⟩
   ·cases hc
  ·cases hc
 ·have hd':(stepOp cfg inl' path st o kk).den:=by
   unfold stepOp at hd⊢;split
   ·rename_i p hp
    rw[hp]at hd;exact hd
   ·rename_i hp
    rw[hp]at hd;split
    ·rename_i f args hc
     rw[hc]at hd;exact hd
    ·rename_i i args hc
     exact absurd ⟨i,args,hp,hc⟩ hy
    ·rename_i hc
     rw[hc]at hd;exact hd
  exact awu hnd (Tn hsig hC h ht hd' Q)
theorem agE{F:Fence}{o:Oper}{K K':Act->World->Prop}{Q:Exit->Act->World->Prop}(h:∀a w,K a w->K' a w)(hw:o.wpIn F n P a w K Q):o.wpIn F n P a w K' Q:=Oper.wpIn_mono h hw
theorem ad1{cfg:Cfg}{inl:Inl (sem T)}(hsig:SigOk T cfg)(hinl:adG cfg w0 R0 inl){path:Nat}{ops:Array Oper}{o:Oper}(h:HR cfg.P w0 R0 bl vs R ow st.boxes st.ents w)(ht:TD bl vs ow st.tmps a)
  {k:St (sem T)->Tree (sem T)} (hd:(oneOp cfg inl path ops st o k).den) (Q:Exit->Act->World->Prop):
  if Region.wanted o (yielded ops a.tmps)then o.wpIn (FZ kG) n cfg.P a w (fun a' w'=>(∃v,a'=a.put o.dst v)/\Reach cfg.P w0 R0 bl vs ow st (fun st'=>(k st').den) a' w') Q else Reach cfg.P w0 R0 bl vs ow st (fun st'=>(k st').den) (a.put o.dst undef) w:=by
 unfold oneOp at hd;obtain⟨st1,hS,ht1,hw|hw⟩:=Tq h ht hd
 ·rw[if_pos hw.1]
  refine agE ?_ (adn hsig hinl hS.hr ht1 hw.2 Q)
  rintro a' w' ⟨v,sv,st',bl',vs',R',ow',rfl,g1,g2,g3,g4⟩
  refine⟨⟨v,rfl⟩,bl',vs',R',ow',setTmp st' o.dst sv, ?_, ?_,g4⟩
  ·have:=hS.trans g1
   cases hdst:o.dst with
   |none=>exact this
   |some d=>exact⟨this.hr,this.bl,this.vs,⟨this.ext.box,this.ext.ent⟩,this.mrk⟩
  ·have:TD bl' vs' ow' st'.tmps a:=by rw[g2];exact ht1.mono g1.bl g1.vs g1.mrk
   exact this.put o.dst g3
 ·rw[if_neg (by simp[hw.1])]
  refine⟨bl,vs,R,ow,setTmp st1 o.dst (.con (.tuple #[])), ?_,ht1.put o.dst rfl,hw.2⟩
  cases hdst:o.dst with
  |none=>exact hS
  |some d=>exact⟨hS.hr,hS.bl,hS.vs,⟨hS.ext.box,hS.ext.ent⟩,hS.mrk⟩
def PD(F:Fence)(n:Nat)(P:Program)(ops:Array Oper)(Q:Exit->Act->World->Prop):List Oper->Act->World->Prop
 |[],a,w=>Q .normal a w
 |o::rest,a,w=>if Region.wanted o (yielded ops a.tmps)then o.wpIn F n P a w (PD F n P ops Q rest) Q else PD F n P ops Q rest (a.put o.dst undef) w
theorem XC{ops:Array Oper}{Q:Exit->Act->World->Prop}:∀(l:List Oper)(k:Nat)(a:Act)(w:World),(∀j,l[j]? =ops[k+j]?)->PD (FZ kG) n P ops Q l a w->wpOpsIn (FZ kG) n P ops Q (qM k l.length) a w
 |[],k,a,w,_,h=>h
 | o::l,k,a,w,hl,h=>by
  have ho:ops[k]? =some o:=by have:=hl 0;simpa using this.symm
  have hl':∀j,l[j]? =ops[k+1+j]? :=fun j=>by
   have:=hl (j+1);rw[show k+1+j=k+(j+1) by omega];simpa using this
  simp only[qN,List.range'_succ];unfold wpOpsIn;simp only[ho];unfold PD at h;split at h
  ·rename_i hw
   rw[if_pos hw];exact Oper.wpIn_mono (fun a w h=>XC l (k+1) a w hl' h) h
  ·rename_i hw
   rw[if_neg hw];exact⟨fun f _=>trivial,XC l (k+1) _ w hl' h⟩
theorem adT{id:Nat}{ops:Array Oper}{Q:Exit->Act->World->Prop}(h:PD (FZ kG) n P ops Q ops.toList a w):(Code.region id ops false).wpIn (FZ kG) n P Q a w:=by
 refine wpIn_region ?_
 rw[vD,<-vE];exact XC ops.toList 0 a w (fun j=>by simp) h
theorem PE{ops:Array Oper}{Q:Exit->Act->World->Prop}(hL:¬LetsOut Q)(hn:noDefer ops=true):∀(l:List Nat)(a:Act)(w:World),wpOps P ops Q l a w->wpOpsIn (FZ kG) n P ops Q l a w
 |[],_,_,h=>h
 | i::rest,a,w,h=>by
  unfold wpOps at h;unfold wpOpsIn;split at h
  ·rename_i hi
   simp only[hi];exact PE hL hn rest a w h
  ·rename_i o hi
   simp only[hi];have hnd:∀c,o.op≠ .defer c:=fun c e=>by
    have:=zG.1 hn o (by simpa using Array.mem_of_getElem? hi);rw[e]at this;cases this
   split at h
   ·rename_i hw
    rw[if_pos hw];exact Oper.wpIn_mono (fun a w h=>PE hL hn rest a w h) (awu hnd (h.resolve_right fun hh=>hL hh.2))
   ·rename_i hw
    rw[if_neg hw];exact⟨fun f _=>trivial,PE hL hn rest _ w h⟩
end
theorem Tc{cfg:Cfg}{inl:Inl (sem T)}(hsig:SigOk T cfg)(hinl:adG cfg w0 R0 inl){kG:Option Nat}{n:Nat}{path:Nat}{ops:Array Oper}{Q:Exit->Act->World->Prop}:∀(rest:List Oper){bl:List Nat}{vs:List Value}{R:Nat->Prop}{ow:Nat->Option Owner}{st:St (sem T)}{a:Act}{w:World},
  HR cfg.P w0 R0 bl vs R ow st.boxes st.ents w->TD bl vs ow st.tmps a->∀{k:St (sem T)->Tree (sem T)},(runOps cfg inl path ops rest st k).den->
  (∀a' w',Keeps (rest.filterMap (·.dst)) a a'->Reach cfg.P w0 R0 bl vs ow st (fun st'=>(k st').den) a' w'->Q .normal a' w')->PD (FZ kG) n cfg.P ops Q rest a w
 |[],bl,vs,R,ow,st,a,w,h,ht,k,hd,hQ=>hQ a w (Keeps.refl _ _) ⟨bl,vs,R,ow,st,Stp.refl h,ht,hd⟩
 | o::rest,bl,vs,R,ow,st,a,w,h,ht,k,hd,hQ=>by
  have main:∀st1,Stp cfg.P w0 R0 bl vs ow st bl vs R ow st1 w->TD bl vs ow st1.tmps a->(oneOp cfg inl path ops st1 o fun st=>runOps cfg inl path ops rest st k).den->PD (FZ kG) n cfg.P ops Q (o::rest) a w:=by
   intro st1 hS ht1 hd1;have hone:=ad1 (kG:=kG) (n:=n) hsig hinl hS.hr ht1 hd1 Q;have hnext:∀a' w',((∃v,a'=a.put o.dst v)/\Reach cfg.P w0 R0 bl vs ow st1 (fun st'=>(runOps cfg inl path ops rest st' k).den) a' w')->PD (FZ kG) n cfg.P ops Q rest a' w':=by
    rintro a' w' ⟨⟨v,rfl⟩,bl',vs',R',ow',st',g1,g2,g3⟩
    refine Tc hsig hinl rest g1.hr g2 g3 (fun a2 w2 hkp hr=>hQ a2 w2 (Keeps.trans (Keeps.put (fun x hx=> ?_)) (hkp.mono fun t ht=> ?_)) ((hr.of g1).of hS))
    ·simp[z2,hx]
    ·simp only[z2];split<;>simp[ht]
   unfold PD;split at hone
   ·rename_i hw
    rw[if_pos hw];exact Oper.wpIn_mono hnext hone
   ·rename_i hw
    rw[if_neg hw];exact hnext _ _ ⟨⟨undef,rfl⟩,hone⟩
  unfold runOps at hd;split at hd
  ·obtain⟨st1,hS,ht1,hd1⟩:=RX h ht hd
   exact main st1 hS ht1 hd1
  ·exact main st (Stp.refl h) ht hd
variable{T:FuncId->Pred}{w0:World}{R0:Bs T}
mutual
theorem SVR.back{bl bl':List Nat}{vs vs':List Value}(hb:∀(i:Nat)(b:Nat),bl[i]? =some b->bl'[i]? =some b)(hv:∀(i:Nat)(b:Value),vs[i]? =some b->vs'[i]? =some b):
  ∀{s:SV (sem T)}{v v0:Value},SVR bl vs s v0->SVR bl' vs' s v->SVR bl vs s v
 | .int _ _,_,_,_,h=>h
 | .blit _,_,_,_,h=>h
 | .bool _,_,_,_,h=>h
 | .str _,_,_,_,h=>h
 | .sl _,_,_,h0,h=>by
  have h0:vs[_]? =some _:=h0;have h:vs'[_]? =some _:=h;rw[hv _ _ h0]at h;cases h;exact h0
 | .ptr _ _,_,_,⟨b,h0,_⟩,⟨b',h,hh⟩=>by
  rw[hb _ _ h0]at h;cases h;exact⟨b,h0,hh⟩
 | .eptr _ _ _ _,_,_,⟨a,l,c,h0,_⟩,⟨a',l',c',h,h1,h2,hh⟩=>by
  rw[hv _ _ h0]at h;cases h;exact⟨a,l,c,h0,h1,h2,hh⟩
 | .view _ _ _ _,_,_,⟨a,l,c,h0,_⟩,⟨a',l',c',h,h1,h2,h3,hh⟩=>by
  rw[hv _ _ h0]at h;cases h;exact⟨a,l,c,h0,h1,h2,h3,hh⟩
 | .bsl _ _,_,_,⟨b,h0,_⟩,⟨b',h,hh⟩=>by
  rw[hb _ _ h0]at h;cases h;exact⟨b,h0,hh⟩
 | .fn _ _,_,_,⟨cs0,_,h0⟩,⟨cs,h,hh⟩=>⟨cs,h,SVRs.back hb hv h0 hh⟩
 | .fnb _ _,_,_,⟨cs0,_,h0⟩,⟨cs,h,hh⟩=>⟨cs,h,SVRs.back hb hv h0 hh⟩
 | .yld _,_,_,⟨b,h0,_⟩,⟨b',h,hh⟩=>by
  rw[hb _ _ h0]at h;cases h;exact⟨b,h0,hh⟩
 | .agg _,_,_,⟨cs0,_,h0⟩,⟨cs,h,hh⟩=>⟨cs,h,SVRs.back hb hv h0 hh⟩
 | .tup _,_,_,⟨cs0,_,h0⟩,⟨cs,h,hh⟩=>⟨cs,h,SVRs.back hb hv h0 hh⟩
 | .con _,_,_,_,h=>h
 | .glob _,_,_,_,h=>h
 | .gel _ _ _,_,_,_,h=>h
 | .junk,_,_,_,_=>trivial
theorem SVRs.back{bl bl':List Nat}{vs vs':List Value}(hb:∀(i:Nat)(b:Nat),bl[i]? =some b->bl'[i]? =some b)(hv:∀(i:Nat)(b:Value),vs[i]? =some b->vs'[i]? =some b):
  ∀{s:List (SV (sem T))}{v v0:List Value},SVRs bl vs s v0->SVRs bl' vs' s v->SVRs bl vs s v
 |[],[],_,_,_=>trivial
 |_::_,_::_,_::_,⟨h0,hh0⟩,⟨h,hh⟩=>⟨SVR.back hb hv h0 h,SVRs.back hb hv hh0 hh⟩
 |[],_::_,_,_,h=>h.elim
 |_::_,[],_,_,h=>h.elim
 |_::_,_::_,[],h0,_=>h0.elim
end
theorem rH{α:Type}{f:α×Nat->Bool}{l:List α}(h:l.zipIdx.all f=true){i:Nat}{x:α}(hx:l[i]? =some x):f (x,i)=true:=by
 have:=zG.1 h (x,i);apply this;rw[List.mk_mem_zipIdx_iff_getElem?];exact hx
theorem ai9{α β:Type}{f:α×Nat->β}{l:List α}{i:Nat}{y:β}(h:(l.zipIdx.map f)[i]? =some y):∃x,l[i]? =some x/\y=f (x,i):=by
 rw[qS,List.getElem?_zipIdx]at h;cases hx:l[i]? with
 |none=>rw[hx]at h;simp at h
 |some x=>rw[hx]at h;simp at h;exact⟨x,rfl,by rw[<-h]⟩
section
variable{P:Program}{w:World}{R:Nat->Prop}{bl:List Nat}{vs:List Value}{ow:Nat->Option Owner}{st st0:St (sem T)}{a:Act}
def Base(P:Program)(jP:List Nat)(jQ:List Value)(base:St (sem T))(w:World):Prop:=
 ∃R2,(∀(i:Nat)(bx:Box (sem T)),base.boxes[i]? =some bx->bx.live=true->∃(b:Nat)(cs:Array Value),jP[i]? =some b/\w.heap[b]? =some (.cells cs bx.ty (0,0))/\SVRs jP jQ bx.cells cs.toList)/\
  (∀(i:Nat)(e:Ent (sem T)),base.ents[i]? =some e->e.live=true->∃v:Value,jQ[i]? =some v/\EntOk P w R2 e v)/\GlobOk P w
theorem ad2{written:List Nat}{i:Nat}{bx:Box (sem T)}(h:(baseOf st written).boxes[i]? =some bx)(hl:bx.live=true):st.boxes[i]? =some bx:=by
 obtain⟨x,hx,hy⟩:=ai9 h;simp only at hy;split at hy
 ·subst hy;cases hl
 ·subst hy;exact hx
theorem ad3{written:List Nat}{i:Nat}{e:Ent (sem T)}(h:(baseOf st written).ents[i]? =some e)(hl:e.live=true):st.ents[i]? =some e:=by
 simp only[baseOf,qS,vB]at h;obtain⟨x,hx,hy⟩:=h;split at hy
 ·subst hy;cases hl
 ·subst hy
  exact hx
theorem base_start(h:HR P w0 R0 bl vs R ow st.boxes st.ents w)(written:List Nat):Base P bl vs (baseOf st written) w:=
 ⟨R,fun i bx hi hl=>h.look.box i bx (ad2 hi hl) hl,fun i e hi hl=>h.look.ent i e (ad3 hi hl) hl,h.look.glb⟩
theorem Pv{jP:List Nat}{jQ:List Value}{R':Nat->Prop}{ow':Nat->Option Owner}{wS:World}{owS qj:Nat->Option Owner}{RS:Nat->Prop}{written:List Nat}(hS0:HR P w0 R0 jP jQ RS owS st0.boxes st0.ents wS)
  (hst:Stp P w0 R0 jP jQ qj st0 bl vs R' ow' st w) (hsame:sameBoxes (baseOf st0 written) st=true):Base P jP jQ (baseOf st0 written) w:=by
 unfold sameBoxes at hsame;simp only[zA]at hsame;obtain⟨hb,he⟩:=hsame;refine⟨R',fun i bx hi hl=> ?_,fun i e hi hl=> ?_,hst.hr.look.glb⟩
 ·have h1:=rH hb hi
  simp only[hl,z7,z8]at h1;have h0:=ad2 hi hl;obtain⟨bx',hx',_,hsame,_⟩:=hst.ext.box i bx h0;rw[hx']at h1;have:bx'=bx:=hsame (by simpa using h1);subst this;obtain⟨b,cs,g1,_,g3,g4⟩:=hst.hr.box i bx' hx' hl;obtain⟨b0,cs0,k1,_,_,k4⟩:=hS0.box i bx' h0 hl;have e1:=hst.bl i b0 k1;rw[g1]at e1;have e2:b=b0:=Option.some.inj e1;rw[e2]at g3;exact⟨b0,cs,k1,g3,k4.back hst.bl hst.vs g4⟩
 ·have h1:=rH he hi
  simp only[hl,z7,z8]at h1;have h0:=ad3 hi hl;obtain⟨e',hx',_,hsame⟩:=hst.ext.ent i e h0;rw[hx']at h1;have:e'=e:=hsame (by simpa using h1);subst this;obtain⟨v,hv,hc⟩:=hst.hr.look.ent i e' hx' hl;obtain⟨v0,hv0,_⟩:=hS0.ent i e' h0 hl;have e1:=hst.vs i v0 hv0;rw[hv]at e1;have e2:v=v0:=Option.some.inj e1;rw[e2]at hc;exact⟨v0,hv0,hc⟩
theorem L8{jP:List Nat}{jQ:List Value}{base:St (sem T)}(hb:∀(i:Nat)(b:Nat),jP[i]? =some b->bl[i]? =some b)(hv:∀(i:Nat)(b:Value),jQ[i]? =some b->vs[i]? =some b)
  (hvsl:∀(i:Nat)(v:Value),vs[i]? =some v->SlV v) (h:Base P jP jQ base w):∃R2,Look P R2 bl vs base.boxes base.ents w:=by
 obtain⟨R2,h1,h2,h3⟩:=h;refine⟨R2,⟨fun i bx hi hl=> ?_,fun i e hi hl=> ?_,hvsl,h3⟩⟩
 ·obtain⟨b,cs,g1,g2,g3⟩:=h1 i bx hi hl
  exact⟨b,cs,hb _ _ g1,g2,g3.mono hb hv⟩
 ·obtain⟨v,g1,g2⟩:=h2 i e hi hl
  exact⟨v,hv _ _ g1,g2⟩
theorem Kq{ops:Array Oper}{listed:Array Bool}{base:St (sem T)}:∀{rs:List Nat}{t:Take (sem T)},findTake P ops listed base st rs=t->(t= .none\/∃i o,i∈rs/\ops[i]? =some o/\Region.free .any ops listed i=true/\takeOf P ops base st i o=t/\t≠ .none)
 |[],t,h=> .inl h.symm
 | i::rest,t,h=>by
  have hrec:findTake P ops listed base st rest=t->(t= .none\/∃j o,j∈i::rest/\ops[j]? =some o/\Region.free .any ops listed j=true/\takeOf P ops base st j o=t/\t≠ .none):=fun hh=>
   (Kq hh).imp id (fun⟨j,o,h1,h2⟩=>⟨j,o,by simp[h1],h2⟩)
  unfold findTake at h;split at h
  ·rename_i o ho
   split at h
   ·rename_i hf
    split at h
    ·exact hrec h
    ·rename_i hne;exact .inr ⟨i,o,by simp,ho,hf,h,fun e=>hne (h.trans e)⟩
   ·exact hrec h
  ·exact hrec h
def ad4(P:Program)(ops:Array Oper)(base st:St (sem T))(a:Act)(i:Nat)(o:Oper):Take (sem T)->Prop
 | .skip i' d=>i'=i/\d=o.dst/\Region.wanted o (yielded ops a.tmps)=false
 | .val i' d p=>i'=i/\d=o.dst/\Region.wanted o (yielded ops a.tmps)=true/\pureOp P {base with tmps:=st.tmps} o=some p/\p.v.clean=true
 | .ask t b=>st.tmps[t]? =some (.bool b)
 | .none=>True
theorem ab8(ht:TD bl vs ow st.tmps a){ops:Array Oper}{base:St (sem T)}{i:Nat}{o:Oper}:ad4 P ops base st a i o (takeOf P ops base st i o):=by
 have hgo:Region.wanted o (yielded ops a.tmps)=true->ad4 P ops base st a i o (takeGo P base st i o):=by
  intro hw;have hpure:ad4 P ops base st a i o (takeVal P base st i o):=by
   unfold takeVal;split
   ·rename_i p hp
    split
    ·rename_i hc;exact⟨rfl,rfl,hw,hp,hc⟩
    ·trivial
   ·trivial
  unfold takeGo;split
  ·split
   ·rename_i b hb;exact hb
   ·exact hpure
  ·exact hpure
 unfold takeOf;split
 ·rename_i hg
  exact hgo (by simp[Region.wanted,hg])
 ·rename_i j want hg
  split
  ·rename_i hj
   exact⟨rfl,rfl,by simp[Region.wanted,hg,yielded,hj]⟩
  ·rename_i d hj
   split
   ·rename_i b hb
    obtain⟨v,hv,hs⟩:=zQ ht hb;have hs:v= .bool b:=hs;subst hs;have hy:yielded ops a.tmps j=some b:=by simp[yielded,hj,hv]
    split
    ·rename_i hbw
     have:b=want:=by simpa using hbw
     exact hgo (by simp[Region.wanted,hg,hy,this])
    ·rename_i hbw
     have:b≠want:=by simpa using hbw
     exact⟨rfl,rfl,by simp[Region.wanted,hg,hy,this]⟩
   ·rename_i b hb;exact hb
   ·rename_i us hb
    obtain⟨v,hv,hs⟩:=zQ ht hb;have hs:v= .tuple us:=hs;subst hs;exact⟨rfl,rfl,by simp[Region.wanted,hg,yielded,hj,hv]⟩
   ·trivial
theorem NM{f:Nat->Tree (sem T)}:∀{l:List Nat},(bothAll f l).den->∀i∈l,(f i).den
 |[],_,_,h=>by cases h
 |[i],hd,j,h=>by simp at h;subst h;exact hd
 |i::i'::l,hd,j,h=>by
  simp only[zH]at h;rcases h with rfl|h
  ·exact hd.1
  ·exact NM (l:=i'::l) hd.2 j (by simpa using h)
end
def todo(listed:Array Bool):Nat:=listed.toList.countP (· ==false)
theorem Xx{listed:Array Bool}{i:Nat}(h:listed.getD i true=false):todo (listed.setIfInBounds i true)+1=todo listed:=by
 have hi:i<listed.size:=by
  rcases Nat.lt_or_ge i listed.size with h'|h'
  ·exact h'
  ·simp[Array.getElem?_eq_none h']at h
 have hv:listed.toList[i]? =some false:=by
  simp[hi]at h⊢;exact h
 have key:∀(l:List Bool)(i:Nat),l[i]? =some false->(l.set i true).countP (· ==false)+1=l.countP (· ==false):=by
  intro l
  induction l with
  |nil=>intro i h;simp at h
  | cons x l ih=>
   intro i h;cases i with
   |zero=>simp at h;subst h;simp[List.countP_cons]
   |succ i=>
    have:=ih i (by simpa using h);simp only[List.set_cons_succ,List.countP_cons];omega
 unfold todo;rw[qK];exact key _ _ hv
theorem ati(m i:Nat):bitM m i=m.testBit i:=by
 unfold bitM;rw[Nat.testBit_eq_decide_div_mod_eq];have h1:Nat.land (Nat.shiftRight m i) 1=m/2^i % 2:=by
  show(m>>>i)&&&1=_;rw[Nat.and_one_is_mod,Nat.shiftRight_eq_div_pow]
 rw[h1];by_cases h:m/2^i % 2=1
 ·rw[h];rfl
 ·rw[decide_eq_false h]
  cases hb:Nat.beq (m/2^i % 2) 1 with
  |false=>rfl
  |true=>exact absurd (vF hb) h
theorem Iu(i j:Nat):(z5 1 i).testBit j=decide (j=i):=by
 show(1<<<i).testBit j=_;rw[Nat.one_shiftLeft,Nat.testBit_two_pow];by_cases h:i=j
 ·subst h;simp
 ·have h':¬j=i:=fun e=>h e.symm
  simp[h,h']
theorem ahD(a m:Nat):subM a m=true↔∀j,a.testBit j=true->m.testBit j=true:=by
 unfold subM;constructor
 ·intro h j hj
  have e:a&&&m=a:=vF h;rw[<-e,Nat.testBit_and]at hj;simp only[zA]at hj;exact hj.2
 ·intro h
  have e:a&&&m=a:=Nat.eq_of_testBit_eq fun j=>by
   rw[Nat.testBit_and];cases ha:a.testBit j with
   |false=>rfl
   |true=>rw[h j ha];rfl
  show Nat.beq (a&&&m) a=true;rw[e];exact Nat.beq_refl a
theorem ad5(n m i j:Nat):(setM n m i).testBit j=(m.testBit j||decide (j=i/\i<n)):=by
 unfold setM;split
 ·rename_i h
  have:n<=i:=Nat.le_of_ble_eq_true h;have e:decide (j=i/\i<n)=false:=decide_eq_false (by omega);rw[e,qT]
 ·rename_i h
  have hlt:i<n:=by
   rcases Nat.lt_or_ge i n with h'|h'
   ·exact h'
   ·exact absurd (Nat.ble_eq_true_of_le h') h
  show(m|||_).testBit j=_;rw[qV,Iu];simp[hlt]
theorem agF(o:Oper)(j:Nat):(aftMask o).testBit j=true↔∃e∈o.after,Region.binds .any e=true/\e.on=j:=by
 have key:∀(l:List Edge)(m:Nat),(l.foldl (fun m e=>if Region.binds .any e then Nat.lor m (z5 1 e.on)else m) m).testBit j=true↔m.testBit j=true\/∃e∈l,Region.binds .any e=true/\e.on=j:=by
  intro l
  induction l with
  |nil=>intro m;simp
  | cons e l ih=>
   intro m;rw[qX,ih];by_cases hb:Region.binds .any e=true
   ·rw[if_pos hb]
    have:(Nat.lor m (z5 1 e.on)).testBit j=(m.testBit j||decide (j=e.on)):=by
     show(m|||_).testBit j=_;rw[qV,Iu]
    rw[this];simp only[zC,decide_eq_true_eq,zH];constructor
    ·rintro((h|h)|⟨x,h1,h2⟩)
     ·exact .inl h
     ·exact .inr ⟨e, .inl rfl,hb,h.symm⟩
     ·exact .inr ⟨x, .inr h1,h2⟩
    ·rintro(h|⟨x,rfl|h1,h2,h3⟩)
     ·exact .inl (.inl h)
     ·exact .inl (.inr h3.symm)
     ·exact .inr ⟨x,h1,h2,h3⟩
   ·rw[if_neg hb]
    simp only[zH];constructor
    ·rintro(h|⟨x,h1,h2⟩)
     ·exact .inl h
     ·exact .inr ⟨x, .inr h1,h2⟩
    ·rintro(h|⟨x,rfl|h1,h2,h3⟩)
     ·exact .inl h
     ·exact absurd h2 hb
     ·exact .inr ⟨x,h1,h2,h3⟩
 unfold aftMask;rw[key];simp
theorem agG(ops:Array Oper)(i:Nat)(oi:Oper)(j:Nat):(farMask ops i oi).testBit j=true↔j<ops.size/\(j==i||(match ops[j]? with
  |some oj=>oj.after.any (fun e=>Region.binds .any e&&e.on==i)||oi.apart ops oj
  |none=>true))=false:=by
 have key:∀(p:Nat->Bool)(l:List Nat)(m:Nat),(l.foldl (fun m j=>if p j then m else Nat.lor m (z5 1 j)) m).testBit j=true↔m.testBit j=true\/(j∈l/\p j=false):=by
  intro p l
  induction l with
  |nil=>intro m;simp
  | cons e l ih=>
   intro m;rw[qX,ih];by_cases hb:p e=true
   ·rw[if_pos hb]
    simp only[zH];constructor
    ·rintro(h|⟨h1,h2⟩)
     ·exact .inl h
     ·exact .inr ⟨.inr h1,h2⟩
    ·rintro(h|⟨rfl|h1,h2⟩)
     ·exact .inl h
     ·rw[hb]at h2;cases h2
     ·exact .inr ⟨h1,h2⟩
   ·rw[if_neg hb]
    have:(Nat.lor m (z5 1 e)).testBit j=(m.testBit j||decide (j=e)):=by
     show(m|||_).testBit j=_;rw[qV,Iu]
    rw[this];simp only[zC,decide_eq_true_eq,zH];constructor
    ·rintro((h|h)|⟨h1,h2⟩)
     ·exact .inl h
     ·exact .inr ⟨.inl h,by rw[h];simpa using hb⟩
     ·exact .inr ⟨.inr h1,h2⟩
    ·rintro(h|⟨rfl|h1,h2⟩)
     ·exact .inl (.inl h)
     ·exact .inl (.inr rfl)
     ·exact .inr ⟨h1,h2⟩
 have k:=key (fun j=>j==i||(match ops[j]? with
  |some oj=>oj.after.any (fun e=>Region.binds .any e&&e.on==i)||oi.apart ops oj
  |none=>true)) (List.range ops.size) 0
 have e:(0:Nat).testBit j=false:=Nat.zero_testBit j;rw[e]at k;simp only[z4,false_or,List.mem_range]at k;exact k
def G6(ops:Array Oper)(listed:Array Bool)(m:Nat):Prop:=listed.size=ops.size/\∀j,m.testBit j=listed.getD j false
theorem G6.set{ops:Array Oper}{listed:Array Bool}{m:Nat}(h:G6 ops listed m)(i:Nat):G6 ops (listed.setIfInBounds i true) (setM ops.size m i):=by
 refine⟨by rw[Array.size_setIfInBounds];exact h.1,fun j=> ?_⟩
 rw[ad5,h.2 j,<-h.1];by_cases e:j=i
 ·subst e
  by_cases hlt:j<listed.size
  ·simp[hlt]
  ·simp[hlt]
 ·have:¬i=j:=fun h=>e h.symm
  simp[e,this,Array.getElem?_setIfInBounds]
theorem getD_in{l:Array Bool}{j:Nat}(h:j<l.size):l.getD j true=l.getD j false:=by
 simp[h]
theorem ad6{α:Type}{f:Nat->α}{n i:Nat}(h:i<n):((List.range n).map f)[i]? =some (f i):=by
 rw[qS,List.getElem?_range h];rfl
theorem Tt(f:Nat->Nat×Nat)(m:Nat):∀(n s:Nat),readyM ((qM s n).map f) s m=(qM s n).filter fun i=> !bitM m i&&subM (f i).1 m
 |0,s=>rfl
 |n+1,s=>by
  rw[List.range'_succ,zL,List.filter_cons];show(if !bitM m s&&subM (f s).1 m then _ else _)=_
  rw[Tt f m n (s+1)]
theorem agH{ops:Array Oper}{listed:Array Bool}{m:Nat}(h:G6 ops listed m):readyM (masks ops) 0 m=Region.ready .any ops listed:=by
 unfold masks Region.ready;rw[vD,Tt];refine List.filter_congr fun i hi=> ?_
 have hlt:i<ops.size:=by simpa[List.mem_range'_1]using hi
 have ho:ops[i]? =some ops[i]:=Array.getElem?_eq_getElem hlt;rw[ho,ati,h.2 i,getD_in (by rw[h.1];exact hlt)];simp only[Option.map_some,Option.getD_some]
 congr 1
 rw[Bool.eq_iff_iff,ahD];simp only[agF,Array.all_eq_true_iff_forall_mem,zC,zR];constructor
 ·intro k e he
  by_cases hb:Region.binds .any e=true
  ·right;rw[<-h.2];exact k e.on ⟨e,he,hb,rfl⟩
  ·left;simpa using hb
 ·rintro k j ⟨e,he,hb,rfl⟩
  rw[h.2];rcases k e he with k|k
  ·rw[hb]at k;cases k
  ·exact k
theorem aja{ops:Array Oper}{listed:Array Bool}{m:Nat}(h:G6 ops listed m){i:Nat}{o:Oper}(ho:ops[i]? =some o):freeM (masks ops) m i=Region.free .any ops listed i:=by
 have hlt:i<ops.size:=(Array.getElem?_eq_some_iff.1 ho).1;unfold freeM masks Region.free;rw[ad6 hlt];simp only[ho];rw[Bool.eq_iff_iff,ahD,zG];simp only[agG,List.mem_range];constructor
 ·intro k j hj
  by_cases hb:(j==i||(match ops[j]? with
   |some oj=>oj.after.any (fun e=>Region.binds .any e&&e.on==i)||o.apart ops oj
   |none=>true))=false
  ·have:=k j ⟨hj,hb⟩
   rw[h.2 j,<-getD_in (by rw[h.1];exact hj)]at this;rw[this];simp
  ·have hb:(j==i||(match ops[j]? with
    |some oj=>oj.after.any (fun e=>Region.binds .any e&&e.on==i)||o.apart ops oj
    |none=>true))=true:=Bool.not_eq_false _▸hb
   rw[zC]at hb;rcases hb with hb|hb
   ·rw[hb];rfl
   ·rw[zC];exact .inr hb
 ·rintro k j ⟨hj,hb⟩
  have h1:=k j hj;rw[h.2 j,<-getD_in (by rw[h.1];exact hj)];rw[Bool.or_eq_false_iff]at hb;rw[zC,zC]at h1;rcases h1 with(h1|h1)|h1
  ·rw[hb.1]at h1;cases h1
  ·exact h1
  ·exact absurd (hb.2.symm.trans h1) qH
theorem PG{A:Alg}{P:Program}{ops:Array Oper}{listed:Array Bool}{m:Nat}(h:G6 ops listed m)(base st:St A):∀rs:List Nat,findTakeM P ops (masks ops) m base st rs=findTake P ops listed base st rs
 |[]=>rfl
 | i::r=>by
  unfold findTakeM findTake;split
  ·rename_i o ho
   rw[aja h ho,PG h base st r]
  ·exact PG h base st r
theorem Ir{A:Alg}{cfg:Cfg}{inl:Inl A}{path:Nat}{ops:Array Oper}{base:St A}:∀(n:Nat){listed:Array Bool}{m:Nat}(st:St A)(k:St A->Tree A),G6 ops listed m->
  runDrawM cfg inl path ops (masks ops) base n m st k=runDraw cfg inl path ops base n listed st k
 |0,_,_,_,_,_=>rfl
 | n+1,listed,m,st,k,h=>by
  unfold runDrawM runDraw;rw[agH h];split
  ·rfl
  ·rename_i hr
   rw[PG h];have step:∀i st,runDrawM cfg inl path ops (masks ops) base n (setM ops.size m i) st k=runDraw cfg inl path ops base n (listed.setIfInBounds i true) st k:=fun i st=>Ir n st k (h.set i)
   have same:∀st,runDrawM cfg inl path ops (masks ops) base n m st k=runDraw cfg inl path ops base n listed st k:=fun st=>Ir n st k h
   simp only[step,same]
theorem adU(ops:Array Oper):G6 ops (qY ops.size false) 0:=by
 refine⟨by simp,fun j=> ?_⟩
 rw[Nat.zero_testBit];by_cases h:j<ops.size
 ·simp[h]
 ·simp[h]
theorem oQ{cfg:Cfg}{inl:Inl (sem T)}(hsig:SigOk T cfg)(hinl:aaq cfg w0 R0 inl){path:Nat}{ops:Array Oper}{Q:Exit->Act->World->Prop}(GZ:∀c a w,¬Q (.panic c) a w)(hns:Region.noSelect ops=true)
  {jP:List Nat} {jQ:List Value} {st0:St (sem T)} {RS:Nat->Prop} {owS qj:Nat->Option Owner} {wS:World} {written:List Nat} (hS0:HR cfg.P w0 R0 jP jQ RS owS st0.boxes st0.ents wS) {k:St (sem T)->Tree (sem T)}
  {D:List Nat} {a0:Act} (hD:∀(i:Nat)(o:Oper),ops[i]? =some o->∀x,o.dst=some x->x∈D)
  (hQ:∀a' w',Keeps D a0 a'->Reach cfg.P w0 R0 jP jQ qj st0 (fun st'=>(k st').den) a' w'->Q .normal a' w'):
  ∀(n:Nat){listed:Array Bool}{bl:List Nat}{vs:List Value}{R:Nat->Prop}{ow:Nat->Option Owner}{st:St (sem T)}{a:Act}{w:World}{fuel:Nat},
  Stp cfg.P w0 R0 jP jQ qj st0 bl vs R ow st w->TD bl vs ow st.tmps a->(runDraw cfg inl path ops (baseOf st0 written) n listed st k).den->Base cfg.P jP jQ (baseOf st0 written) w->todo listed<=fuel->Keeps D a0 a->
  wpAnyH cfg.P .any ops Q (Base cfg.P jP jQ (baseOf st0 written)) fuel listed a w
 |0,_,_,_,_,_,_,_,_,_,_,_,hd,_,_,_=>hd.elim
 | n +1,listed,bl,vs,R,ow,st,a,w,fuel,hst,ht,hd,hB,hf,hkp=>by
  unfold runDraw at hd;split at hd
  ·rename_i hr
   exact wpAnyH_done hr (hQ a w hkp ⟨bl,vs,R,ow,st,hst,ht,hd⟩) fuel
  ·rename_i hr
   generalize hrs:Region.ready .any ops listed=rs at*;have hmem:∀i∈rs,i∈Region.ready .any ops listed:=fun i hi=>by rw[hrs];exact hi
   have hfuel:∀i∈rs,∃f,fuel=f+1/\todo (listed.setIfInBounds i true)<=f:=fun i hi=>by
    have h1:=Xx (mem_ready.1 (hmem i hi)).1;exact⟨fuel-1,by omega,by omega⟩
   generalize htk:findTake cfg.P ops listed (baseOf st0 written) st rs=tk at hd;rcases Kq htk with rfl|⟨i,o,hi,ho,hfree,htake,aox⟩
   ·
    have hne:rs≠ []:=by
     intro e;subst e;exact hr rfl
    obtain⟨i0,hi0⟩:=List.exists_mem_of_ne_nil rs hne;obtain⟨f,rfl,_⟩:=hfuel i0 hi0;refine wpAnyH_all hrs hne (fun i hi=> ?_)
    have hdi:=NM hd i hi;obtain⟨f',hf1,hf2⟩:=hfuel i hi;have:f'=f:=by omega
    subst this;unfold wpOp;split at hdi
    ·rename_i o ho
     simp only[ho];have hone:=V6 hsig hinl hst.hr ht hdi Q;have hnext:∀a' w',((∃v,a'=a.put o.dst v)/\Reach cfg.P w0 R0 bl vs ow st (fun st'=>(if sameBoxes (baseOf st0 written) st' then runDraw cfg inl path ops (baseOf st0 written) n (listed.setIfInBounds i true) st' k else .fail "a region that draws its order: a box is written" path :Tree (sem T)).den) a' w')->
       Base cfg.P jP jQ (baseOf st0 written) w'/\wpAnyH cfg.P .any ops Q (Base cfg.P jP jQ (baseOf st0 written)) f' (listed.setIfInBounds i true) a' w':=by
      rintro a' w' ⟨⟨v,rfl⟩,bl',vs',R',ow',st',g1,g2,g3⟩
      split at g3
      ·rename_i hsame
       have hst':=hst.trans g1;have hB':=Pv hS0 hst' hsame;exact⟨hB',oQ hsig hinl GZ hns hS0 hD hQ n hst' g2 g3 hB' hf2 (hkp.trans (Keeps.put (hD i o ho)))⟩
      ·exact g3.elim
     split at hone
     ·rename_i hw
      rw[if_pos hw];exact .inl (Oper.wp_mono hnext hone)
     ·rename_i hw
      rw[if_neg hw];exact hnext _ _ ⟨⟨undef,rfl⟩,hone⟩
    ·exact hdi.elim
   ·have hok:=ab8 (P:=cfg.P) ht (ops:=ops) (base:=baseOf st0 written) (i:=i) (o:=o)
    rw[htake]at hok;obtain⟨f,rfl,hf2⟩:=hfuel i hi;have hcont:(Region.ready .any ops listed).contains i=true:=by rw[hrs];simpa using hi
    cases tk with
    |none=>exact absurd rfl aox
    |ask t b=>
     have hb:st.tmps[t]? =some (.bool b):=hok;obtain⟨v,hv,hs⟩:=zQ ht hb;have hs:v= .bool b.b:=hs;subst hs;have hlit:∀c:Bool,b.b=c->TD bl vs ow (st.tmps.set t (.blit c)) a:=fun c hc=>ht.same (fun u hu=>by rw[hv]at hu;cases hu;exact congrArg Value.bool hc)
     have hst':∀c:Bool,Stp cfg.P w0 R0 jP jQ qj st0 bl vs R ow {st with tmps:=st.tmps.set t (.blit c)} w:=fun c=>⟨hst.hr,hst.bl,hst.vs,⟨hst.ext.box,hst.ext.ent⟩,hst.mrk⟩
     by_cases hp:b.p
     ·exact oQ hsig hinl GZ hns hS0 hD hQ n (hst' true) (hlit true (by simp[PB.b,hp])) (hd.1 hp) hB hf hkp
     ·exact oQ hsig hinl GZ hns hS0 hD hQ n (hst' false) (hlit false (by simp[PB.b,hp])) (hd.2 hp) hB hf hkp
    | skip i' d=>
     obtain⟨rfl,rfl,hw⟩:=hok;refine wpAnyH_take ho hns hfree hcont (fun c a w hh=>(GZ c _ _ hh).elim) (v:=undef) (.inr ⟨hw,rfl⟩) hB ?_
     have hst':Stp cfg.P w0 R0 jP jQ qj st0 bl vs R ow (setTmp st o.dst (.con (.tuple #[]))) w:=by
      cases hdst:o.dst with
      |none=>exact hst
      |some d=>exact⟨hst.hr,hst.bl,hst.vs,⟨hst.ext.box,hst.ext.ent⟩,hst.mrk⟩
     exact oQ hsig hinl GZ hns hS0 hD hQ n hst' (ht.put o.dst rfl) hd hB hf2 (hkp.trans (Keeps.put (hD i' o ho)))
    | val i' d p=>
     obtain⟨rfl,rfl,hw,hp,adQ⟩:=hok;obtain⟨adR,hd⟩:=lC.1 hd;obtain⟨R2,hlook⟩:=L8 hst.bl hst.vs hst.hr.vsl hB;have htb:TD bl vs ow ({baseOf st0 written with tmps:=st.tmps}:St (sem T)).tmps a:=ht;obtain⟨v,hrun,hsv,hg⟩:=pure_sound (st:={baseOf st0 written with tmps:=st.tmps}) hlook htb.tr hp adR;have hy:YieldsIf cfg.P ops (Base cfg.P jP jQ (baseOf st0 written)) o v a:= .inl ⟨hw,fun w2 hB2=>by
      obtain⟨R3,adS⟩:=L8 hst.bl hst.vs hst.hr.vsl hB2;obtain⟨v2,hrun2,aoy,_⟩:=pure_sound (st:={baseOf st0 written with tmps:=st.tmps}) adS htb.tr hp adR;rw[SVR.unique adQ hsv aoy];exact hrun2⟩
     refine wpAnyH_take ho hns hfree hcont (fun c a w hh=>(GZ c _ _ hh).elim) hy hB ?_
     have hst':Stp cfg.P w0 R0 jP jQ qj st0 bl vs R ow (setTmp st o.dst p.v) w:=by
      cases hdst:o.dst with
      |none=>exact hst
      |some d=>exact⟨hst.hr,hst.bl,hst.vs,⟨hst.ext.box,hst.ext.ent⟩,hst.mrk⟩
     exact oQ hsig hinl GZ hns hS0 hD hQ n hst' (ht.put o.dst hsv) ((Ee.1 hd) hg) hB hf2 (hkp.trans (Keeps.put (hD i' o ho)))
variable{T:FuncId->Pred}{P:Program}{w0 w:World}{R0:Bs T}{R:Nat->Prop}{bl:List Nat}{vs:List Value}{ow:Nat->Option Owner}{st:St (sem T)}{a:Act}
def XD(P:Program)(w:World)(R:Nat->Prop)(jf:Nat->Option Owner):Nat->List HK->List Value->List D->Prop
 |_,[],[],ds=>ds=[]
 |n,hk::hks,v::vals,ds=>match hk.cell with
  |none=>XD P w R jf (n+1) hks vals ds
  |some p=>∃d ds',ds=d::ds'/\Dw P w R jf n p v d/\XD P w R jf (n+1) hks vals ds'
 |_,_,_,_=>False
theorem KN{jf:Nat->Option Owner}:∀{hks:List HK}{n:Nat}{st:St (sem T)}{vs:List Value}{ow:Nat->Option Owner},HR P w0 R0 bl vs R ow st.boxes st.ents w->∀{vals:List Value}{ds:List D},XD P w R jf n hks vals ds->
  (∀m b,n<=m->jf b=some (.ent m)->w0.heap.size<=b/\ow b=none/\¬R b)->∀{f:List (SV (sem T))->List CS->St (sem T)->Tree (sem T)},(havAll P hks st f).den->
  ∃svs cs st' vs' ow',Stp P w0 R0 bl vs ow st bl vs' R ow' st' w/\st'.tmps=st.tmps/\st'.boxes=st.boxes/\(∃es,st'.ents=st.ents++es)/\SVRs bl vs' svs vals/\svs.length=hks.length/\cs.map Cl.toD=ds/\(f svs cs st').den
 | [],n,st,vs,ow,h,vals,ds,hc,hw,f,hd=>by
  cases vals with
  |cons=>exact hc.elim
  |nil=>
   have hc:ds=[]:=hc;subst hc;exact⟨[],[],st,vs,ow,(Stp.refl h),rfl,rfl,⟨[],by simp⟩,trivial,rfl,rfl,hd⟩
 | hk::hks,n,st,vs,ow,h,vals,ds,hc,hw,f,hd=>by
  cases vals with
  |nil=>exact hc.elim
  | cons v vals=>
   unfold XD at hc;unfold havAll at hd;cases hcell:hk.cell with
   |none=>
    simp only[hcell]at hc hd;obtain⟨svs,cs,st2,vs2,ow2,hS2,ht2,hb2,he2,XA,hl,XB,hd2⟩:=KN h hc (fun m b hm hb=>hw m b (by omega) hb) hd
    exact⟨.junk::svs,cs,st2,vs2,ow2,hS2,ht2,hb2,he2,⟨trivial,XA⟩,by simp[hl],XB,hd2⟩
   | some p=>
    obtain⟨k,own⟩:=p;simp only[hcell]at hc hd;obtain⟨d,ds',rfl,hc1,hc2⟩:=hc;have hfr:=Ej h hc1 (fun b hb=>hw n b (zB _) hb) hd
    obtain⟨sv,c,st1,vs1,ow1,hS,⟨ht,hbe⟩,hsv,hcd,hd1,hk1⟩:=hfr;obtain⟨svs,cs,st2,vs2,ow2,hS2,ht2,hb2,⟨es2,he2⟩,XA,hl,XB,hd2⟩:=KN hS.hr hc2 (fun m b hm hb=>by
     obtain⟨g1,g2,g3⟩:=hw m b (by omega) hb;refine⟨g1, ?_,g3⟩
     rw[hk1 b (fun e=>by rw[hb]at e;cases e;omega)]
     exact g2) hd1
    obtain⟨hbb,es1,he1⟩:=hbe;exact⟨sv::svs,c::cs,st2,vs2,ow2,hS.trans hS2,ht2.trans ht,hb2.trans hbb,⟨es1++es2,by rw[he2,he1,List.append_assoc]⟩,⟨hsv.mono hS2.bl hS2.vs,XA⟩,by simp[hl],by simp[hcd,XB],hd2⟩
theorem RZ:∀(l:List (Nat×HK))(tmps:List (SV (sem T))),(junkSlots tmps l).length=tmps.length
 |[],_=>rfl
 |(t,_)::r,tmps=>by simp[junkSlots,RZ r]
theorem Si:∀(l:List (Nat×HK))(tmps:List (SV (sem T)))(t:Nat)(x:SV (sem T)),(junkSlots tmps l)[t]? =some x->x= .junk\/(t∉l.map (·.1)/\tmps[t]? =some x)
 |[],tmps,t,x,h=> .inr ⟨by simp,h⟩
 | (t0,hk)::r,tmps,t,x,h=>by
  rcases Si r _ t x h with h|⟨h1,h2⟩
  ·exact .inl h
  ·rcases get_set_inv h2 with⟨_,rfl⟩|⟨hne,h2⟩
   ·exact .inl rfl
   ·exact .inr ⟨by simp[hne,h1],h2⟩
theorem lF:∀(l:List (Nat×List HK))(boxes:List (Box (sem T)))(i:Nat)(bx:Box (sem T)),boxes[i]? =some bx->∃bx',(junkBoxes boxes l)[i]? =some bx'/\bx'.ty=bx.ty/\bx'.live=bx.live/\bx'.cells.length=bx.cells.length/\
  ((i∉l.map (·.1)/\bx'=bx)\/(i∈l.map (·.1)/\bx.ver<bx'.ver/\bx'.cells=zI bx.cells.length .junk))
 |[],boxes,i,bx,h=>⟨bx,h,rfl,rfl,rfl, .inl ⟨by simp,rfl⟩⟩
 | (b,hk)::r,boxes,i,bx,h=>by
  simp only[junkBoxes];cases hb:boxes[b]? with
  |none=>
   simp only;obtain⟨bx',h1,h2,h3,h4,h5⟩:=lF r boxes i bx h;have hne:i≠b:=fun e=>by rw[e,hb]at h;cases h
   refine⟨bx',h1,h2,h3,h4, ?_⟩
   rcases h5 with⟨h5,h6⟩|⟨h5,h6⟩
   ·exact .inl ⟨by simp[hne];simpa using h5,h6⟩
   ·exact .inr ⟨by simp at h5⊢;exact .inr h5,h6⟩
  | some b0=>
   simp only;by_cases hib:i=b
   ·subst hib
    rw[hb]at h;cases h;obtain⟨bx',h1,h2,h3,h4,h5⟩:=lF r (boxes.set i {bx with cells:=zI bx.cells.length .junk,ver:=bx.ver+1}) i _ (kF hb);simp only[vG]at h4 h5;refine⟨bx',h1,h2,h3,h4, .inr ⟨by simp, ?_⟩⟩
    rcases h5 with⟨_,h6⟩|⟨_,h6,h7⟩
    ·subst h6;exact⟨q0 _,rfl⟩
    ·exact⟨Nat.lt_trans (q0 _) h6,h7⟩
   ·obtain⟨bx',h1,h2,h3,h4,h5⟩:=lF r (boxes.set b {b0 with cells:=zI b0.cells.length .junk,ver:=b0.ver+1}) i bx (by rw[zD (fun e=>hib e.symm)];exact h)
    refine⟨bx',h1,h2,h3,h4, ?_⟩
    rcases h5 with⟨h5,h6⟩|⟨h5,h6⟩
    ·exact .inl ⟨by simp[hib];simpa using h5,h6⟩
    ·exact .inr ⟨by simp at h5⊢;exact .inr h5,h6⟩
theorem wU:∀(l:List (Nat×List HK))(boxes:List (Box (sem T))),(junkBoxes boxes l).length=boxes.length
 |[],_=>rfl
 |(b,_)::r,boxes=>by
  simp only[junkBoxes];rw[wU r];split<;>simp
theorem KO:∀(l:List Nat)(st:St (sem T))(i:Nat)(e:Ent (sem T)),st.ents[i]? =some e->∃e',(killIds st l).ents[i]? =some e'/\((i∉l/\e'=e)\/(i∈l/\e'.live=false/\e.ver<e'.ver))
 |[],st,i,e,h=>⟨e,h, .inl ⟨by simp,rfl⟩⟩
 | id::l,st,i,e,h=>by
  simp only[killIds];have h1:∃e1,(killEnt st id).ents[i]? =some e1/\((i≠id/\e1=e)\/(i=id/\e1.live=false/\e.ver<e1.ver)):=by
   unfold killEnt;split
   ·rename_i e0 he0
    by_cases hi:i=id
    ·subst hi
     rw[h]at he0;cases he0;exact⟨_,kF h, .inr ⟨rfl,rfl,q0 _⟩⟩
    ·exact⟨e,by simp only;rw[zD (fun e=>hi e.symm)];exact h, .inl ⟨hi,rfl⟩⟩
   ·rename_i hn
    exact⟨e,h, .inl ⟨(fun hh=>by rw[hh,hn]at h;cases h),rfl⟩⟩
  obtain⟨e1,he1,hcase⟩:=h1;obtain⟨e',he',alC⟩:=KO l (killEnt st id) i e1 he1;refine⟨e',he', ?_⟩
  rcases hcase with⟨hi,rfl⟩|⟨rfl,hd,hv⟩
  ·rcases alC with⟨h1,h2⟩|⟨h1,h2⟩
   ·exact .inl ⟨by simp[hi,h1],h2⟩
   ·exact .inr ⟨by simp[h1],h2⟩
  ·rcases alC with⟨h1,rfl⟩|⟨h1,h2,h3⟩
   ·exact .inr ⟨by simp,hd,hv⟩
   ·exact .inr ⟨by simp,h2,Nat.lt_trans hv h3⟩
theorem xB:∀(l:List Nat)(st:St (sem T)),(killIds st l).ents.length=st.ents.length
 |[],_=>rfl
 |id::l,st=>by
  simp only[killIds];rw[xB l];unfold killEnt;split<;>simp
theorem aoF(h:Hav):Ext st (headSt st h) where
 box:=fun i bx hi=>by
  obtain⟨bx',h1,h2,h3,h4,h5⟩:=lF h.boxes st.boxes i bx hi;refine⟨bx',h1, ?_, ?_,h2⟩
  ·rcases h5 with⟨_,rfl⟩|⟨_,h6,_⟩
   ·exact zB _
   ·exact q6 h6
  ·rcases h5 with⟨_,rfl⟩|⟨_,h6,_⟩
   ·exact fun _=>rfl
   ·intro hh;omega
 ent:=fun i e hi=>by
  obtain⟨e',h1,h2⟩:=KO (ownsOf st h) st i e hi;refine⟨e',h1, ?_, ?_⟩
  ·rcases h2 with⟨_,rfl⟩|⟨_,_,h6⟩
   ·exact zB _
   ·exact q6 h6
  ·rcases h2 with⟨_,rfl⟩|⟨_,_,h6⟩
   ·exact fun _=>rfl
   ·intro hh;omega
def tV(w:World)(bl:List Nat)(b:Nat):List Value:=match bl[b]? with
 |some x=>match w.heap[x]? with
  |some (.cells cs _ _)=>cs.toList
  |_=>[]
 |none=>[]
def zS(bl:List Nat)(vs:List Value)(w:World)(a:Act)(h:Hav):List Value:=h.ents.map (fun p=>vs.getD p.1 undef)++(h.slots.map (fun p=>a.tmps.getD p.1 undef)++h.boxes.flatMap fun p=>tV w bl p.1)
def Pre(P:Program)(w0:World)(R0:Bs T)(bl:List Nat)(vs:List Value)(ow:Nat->Option Owner)(sj:St (sem T))(h:Hav)(ds:List D)(a:Act)(w:World):Prop:=
 ∃R' ow' jf,HR P w0 R0 bl vs R' ow' sj.boxes sj.ents w/\TD bl vs ow' sj.tmps a/\XD P w R' jf 0 (hksAll h) (zS bl vs w a h) ds/\
  (∀m b,jf b=some (.ent m)->w0.heap.size<=b/\ow' b=none/\¬R' b)/\∀{l:Nat}{mo:Obj} b,ow b=some (.mark l mo)->ow' b=some (.mark l mo)
theorem ad7(hr:HR P w0 R0 bl vs R ow st.boxes st.ents w)(ht:TD bl vs ow st.tmps a){h:Hav}(hb:boxesOk st h=true):SVRs bl vs (svsAll st h) (zS bl vs w a h)/\(svsAll st h).length=(hksAll h).length:=by
 have h1:SVRs bl vs (h.slots.map fun p=>st.tmps.getD p.1 .junk) (h.slots.map fun p=>a.tmps.getD p.1 undef):=by
  have:=evs_sound ht.tr (h.slots.map fun p=>Operand.tmp p.1)
  rw[List.map_map,List.map_map]at this;exact this
 have h2:∀(l:List (Nat×List HK)),boxesOkL st l=true->SVRs bl vs (l.flatMap fun p=>cellsAt st p.1) (l.flatMap fun p=>tV w bl p.1)/\(l.flatMap fun p=>cellsAt st p.1).length=(l.flatMap (·.2)).length:=by
  intro l
  induction l with
  |nil=>intro _;exact⟨trivial,rfl⟩
  | cons p l ih=>
   intro hl;simp only[boxesOkL,z6,zA]at hl;obtain⟨hp,hl⟩:=hl;obtain⟨i1,i2⟩:=ih hl;simp only[z0,List.length_append];cases hbx:st.boxes[p.1]? with
   |none=>rw[hbx]at hp;cases hp
   |some bx=>
    rw[hbx]at hp;simp only[zA,beq_iff_eq]at hp;obtain⟨b,cs,g1,_,g3,g4⟩:=hr.box _ bx hbx hp.1;have e1:cellsAt st p.1=bx.cells:=by simp[cellsAt,hbx]
    have e2:tV w bl p.1=cs.toList:=by simp[tV,g1,g3]
    rw[e1,e2];exact⟨g4.append i1,by rw[hp.2,i2]⟩
 unfold boxesOk at hb;simp only[zA]at hb;obtain⟨g1,g2⟩:=h2 h.boxes hb.1;have h3:∀(l:List (Nat×TypeId)),(∀p∈l,p.1<st.ents.length)->SVRs (T:=T) bl vs (l.map fun p=>SV.sl p.1) (l.map fun p=>vs.getD p.1 undef):=by
  intro l
  induction l with
  |nil=>intro _;trivial
  |cons p l ih=>
   intro hl;refine⟨?_,ih (fun q hq=>hl q (by simp[hq]))⟩
   have:=hl p (by simp);rw[<-hr.nv]at this;show vs[p.1]? =some (vs.getD p.1 undef);rw[z3,zE this];rfl
 refine⟨(h3 h.ents (fun p hp=>by simpa using zG.1 hb.2 p hp)).append (h1.append g1), ?_⟩
 simp only[svsAll,hksAll,List.length_append,List.length_map,g2]
open Classical in
theorem HR.revive{boxes:List (Box (sem T))}{ents:List (Ent (sem T))}(h:HR P w0 R0 bl vs R ow boxes ents w)(n id id':Nat)(hv:vs[id]? =vs[id']?):
  ∃ow',HR P w0 R0 bl vs R ow' boxes (revive n ents id id') w/\∀{l:Nat}{mo:Obj} b,ow b=some (.mark l mo)->ow' b=some (.mark l mo):=by
 unfold Go.Sx.revive;split
 ·rename_i e e' he he'
  split
  ·rename_i hc
   simp only[zA,zR,decide_eq_true_eq]at hc;obtain⟨⟨⟨Md,hlive⟩,hown⟩,_⟩:=hc;have hne:id≠id':=fun e0=>by subst e0;rw[he]at he';cases he';rw[Md]at hlive;cases hlive
   refine⟨fun b=>if ow b=some (.ent id')then some (.ent id)else ow b, ?_,fun b hb=>by show(if ow b=some (.ent id')then some (.ent id)else ow b)=_;rw[hb,if_neg (by simp)]⟩
   have hget:∀j x,((ents.set id {e' with ver:=e.ver+1}).set id' {e' with live:=false,ver:=e'.ver+1})[j]? =some x->(j=id'/\x.live=false)\/(j=id/\x={e' with ver:=e.ver+1})\/(j≠id/\j≠id'/\ents[j]? =some x):=by
    intro j x hj;rcases get_set_inv hj with⟨rfl,rfl⟩|⟨hj1,hj⟩
    ·exact .inl ⟨rfl,rfl⟩
    ·rcases get_set_inv hj with⟨rfl,rfl⟩|⟨hj2,hj⟩
     ·exact .inr (.inl ⟨rfl,rfl⟩)
     ·exact .inr (.inr ⟨fun e=>hj2 (by rw[e]),fun e=>hj1 (by rw[e]),hj⟩)
   exact{
    below:=h.below
    rlt:=h.rlt
    r0:=h.r0
    rsub:=h.rsub
    ro:=fun b hb=>by
     show(if ow b=some (.ent id')then some (.ent id)else ow b)=none
     rw[h.ro b hb,if_neg (by simp)]
    olt:=fun b o ho=>by
     by_cases e0:ow b=some (.ent id')
     ·exact h.olt b _ e0
     ·have ho:(if ow b=some (.ent id')then some (.ent id)else ow b)=some o:=ho
      rw[if_neg e0]at ho;exact h.olt b o ho
    nb:=h.nb
    nv:=by simp[h.nv]
    vsl:=h.vsl
    glb:=h.glb
    box:=fun i bx hi hl=>by
     obtain⟨b,cs,g1,g2,g3,g4⟩:=h.box i bx hi hl;exact⟨b,cs,g1,(by show(if ow b=some (.ent id')then some (.ent id)else ow b)=_;rw[g2,if_neg (by simp)]),g3,g4⟩
    ent:=fun j x hj hl=>by
     rcases hget j x hj with⟨_,hd⟩|⟨rfl,rfl⟩|⟨n1,n2,hj⟩
     ·rw[hd]at hl;cases hl
     ·obtain⟨v,k1,_,k3⟩:=h.ent id' e' he' hlive
      refine⟨v,by rw[hv];exact k1,fun hh=>(by rw[hown]at hh;cases hh),fun _=>Own.relabel (k3 hown) (fun b hb _=>if_pos hb)⟩
     ·obtain⟨v,k1,k2,k3⟩:=h.ent j x hj hl
      refine⟨v,k1,k2,fun hh=>(k3 hh).mono (fun _ y=>y) (fun _ _=>rfl) (fun b hb=>⟨?_,rfl⟩)⟩
      show(if ow b=some (.ent id')then some (.ent id)else ow b)=_
      rw[hb,if_neg (fun e0=>n2 (by cases e0;rfl))]
    mrk:=fun b hb=>by
     rename_i l mo;have hb:(if ow b=some (.ent id')then some (.ent id)else ow b)=some (.mark l mo):=hb
     by_cases e0:ow b=some (.ent id')
     ·rw[if_pos e0]at hb;cases hb
     ·rw[if_neg e0]at hb;exact h.mrk b hb
    lp:=fun i L hi=>by
     obtain⟨bx,b,g1,g2,g3,g4,g5⟩:=h.lp i L hi;exact⟨bx,b,g1,g2,g3,(by show(if ow b=some (.ent id')then some (.ent id)else ow b)=_;rw[g4,if_neg (by simp)]),g5⟩}
  ·exact⟨ow,h,fun _ x=>x⟩
 ·exact⟨ow,h,fun _ x=>x⟩
theorem agI(n:Nat)(ents:List (Ent (sem T)))(id id':Nat):(revive n ents id id').length=ents.length/\
  (∀(i:Nat)(e:Ent (sem T)),ents[i]? =some e->∃e':Ent (sem T),(revive n ents id id')[i]? =some e'/\e.ver<=e'.ver/\(e'.ver=e.ver->e'=e))/\∀i:Nat,i<n->i≠id->(revive n ents id id')[i]? =ents[i]? :=by
 unfold Go.Sx.revive;split
 ·rename_i e e' he he'
  split
  ·rename_i hc
   simp only[zA,zR,decide_eq_true_eq]at hc;obtain⟨⟨⟨Md,hlive⟩,hown⟩,hn⟩:=hc;have hne:id≠id':=fun e0=>by subst e0;rw[he]at he';cases he';rw[Md]at hlive;cases hlive
   refine⟨by simp,fun i x hi=> ?_,fun i hi hid=> ?_⟩
   ·by_cases e1:i=id'
    ·subst e1
     rw[he']at hi;cases hi;exact⟨_,kF (by rw[zD hne];exact he'),Nat.le_succ _,fun hh=>by simp at hh⟩
    ·by_cases e2:i=id
     ·subst e2
      rw[he]at hi;cases hi;exact⟨_,by rw[zD (fun e=>e1 e.symm)];exact kF he,Nat.le_succ _,fun hh=>by simp at hh⟩
     ·exact⟨x,by rw[zD (fun e=>e1 e.symm),zD (fun e=>e2 e.symm)];exact hi,zB _,fun _=>rfl⟩
   ·rw[zD (by omega),zD (fun e=>hid e.symm)]
  ·exact⟨rfl,fun i e hi=>⟨e,hi,zB _,fun _=>rfl⟩,fun _ _ _=>rfl⟩
 ·exact⟨rfl,fun i e hi=>⟨e,hi,zB _,fun _=>rfl⟩,fun _ _ _=>rfl⟩
theorem BQ(n:Nat)(svs:List (SV (sem T)))(ents:List (Ent (sem T))):Go.Sx.reviveAll n [] svs ents=ents:=by cases svs<;>simp[Go.Sx.reviveAll]
theorem Oo(n:Nat)(l:List (Nat×TypeId))(ents:List (Ent (sem T))):Go.Sx.reviveAll n l [] ents=ents:=by cases l<;>simp[Go.Sx.reviveAll]
theorem Oq(n:Nat):∀(l:List (Nat×TypeId))(svs:List (SV (sem T)))(ents:List (Ent (sem T))),Go.Sx.reviveAll n l (svs.take l.length) ents=Go.Sx.reviveAll n l svs ents
 |[],svs,ents=>by rw[BQ,BQ]
 |(id,t)::l,[],ents=>by simp
 |(id,t)::l,sv::svs,ents=>by
  simp only[qN,vH];cases sv<;>simp only[Go.Sx.reviveAll]<;>exact Oq n l svs _
theorem zT(n:Nat):∀(l:List (Nat×TypeId))(svs:List (SV (sem T)))(ents:List (Ent (sem T))),(reviveAll n l svs ents).length=ents.length/\
  (∀(i:Nat)(e:Ent (sem T)),ents[i]? =some e->∃e':Ent (sem T),(reviveAll n l svs ents)[i]? =some e'/\e.ver<=e'.ver/\(e'.ver=e.ver->e'=e))/\∀i:Nat,i<n->i∉l.map (·.1)->(reviveAll n l svs ents)[i]? =ents[i]?
 |[],svs,ents=>by rw[BQ];exact⟨rfl,fun i e hi=>⟨e,hi,zB _,fun _=>rfl⟩,fun _ _ _=>rfl⟩
 |(id,t)::l,[],ents=>by rw[Oo];exact⟨rfl,fun i e hi=>⟨e,hi,zB _,fun _=>rfl⟩,fun _ _ _=>rfl⟩
 | (id,t)::l,sv::svs,ents=>by
  have other:reviveAll n ((id,t)::l) (sv::svs) ents=reviveAll n l svs ents\/∃id',sv= .sl id'/\reviveAll n ((id,t)::l) (sv::svs) ents=reviveAll n l svs (revive n ents id id'):=by
   cases sv<;>first|exact .inr ⟨_,rfl,rfl⟩|exact .inl rfl
  rcases other with h|⟨id',rfl,h⟩
  ·rw[h]
   obtain⟨g1,g2,g3⟩:=zT n l svs ents;exact⟨g1,g2,fun i hi hm=>g3 i hi (fun hh=>hm (by simp[hh]))⟩
  ·rw[h]
   obtain⟨k1,k2,k3⟩:=agI n ents id id';obtain⟨g1,g2,g3⟩:=zT n l svs (revive n ents id id');refine⟨g1.trans k1,fun i e hi=> ?_,fun i hi hm=> ?_⟩
   ·obtain⟨e1,q1,q2,q3⟩:=k2 i e hi
    obtain⟨e2,r1,r2,r3⟩:=g2 i e1 q1;refine⟨e2,r1,z1 q2 r2,fun hh=> ?_⟩
    have h1:e1.ver=e.ver:=by omega
    have h2:=q3 h1;subst h2;exact r3 hh
   ·simp only[zL,zH,not_or]at hm
    rw[g3 i hi hm.2,k3 i hi hm.1]
theorem HR.reviveAll{boxes:List (Box (sem T))}(n:Nat):∀(l:List (Nat×TypeId))(svs:List (SV (sem T))){ents:List (Ent (sem T))}{ow:Nat->Option Owner},HR P w0 R0 bl vs R ow boxes ents w->(∀p∈l,p.1<vs.length)->SVRs bl vs svs (l.map fun p=>vs.getD p.1 undef)->
  ∃ow',HR P w0 R0 bl vs R ow' boxes (Go.Sx.reviveAll n l svs ents) w/\∀{l:Nat}{mo:Obj} b,ow b=some (.mark l mo)->ow' b=some (.mark l mo)
 |[],svs,ents,ow,h,_,_=>⟨ow,by rw[BQ];exact h,fun _ x=>x⟩
 |(id,t)::l,[],ents,ow,h,_,_=>⟨ow,by rw[Oo];exact h,fun _ x=>x⟩
 | (id,t)::l,sv::svs,ents,ow,h,hl,hs=>by
  have hl':∀p∈l,p.1<vs.length:=fun p hp=>hl p (by simp[hp])
  have other:Go.Sx.reviveAll n ((id,t)::l) (sv::svs) ents=Go.Sx.reviveAll n l svs ents\/∃id',sv= .sl id'/\Go.Sx.reviveAll n ((id,t)::l) (sv::svs) ents=Go.Sx.reviveAll n l svs (Go.Sx.revive n ents id id'):=by
   cases sv<;>first|exact .inr ⟨_,rfl,rfl⟩|exact .inl rfl
  rcases other with hh|⟨id',rfl,hh⟩
  ·rw[hh];exact HR.reviveAll n l svs h hl' hs.2
  ·rw[hh]
   have hid:=hl (id,t) (by simp);have h1:vs[id']? =some (vs.getD id undef):=hs.1;have h2:vs[id]? =some (vs.getD id undef):=by
    rw[z3,zE hid];rfl
   obtain⟨ow1,k1,k2⟩:=h.revive n id id' (h2.trans h1.symm);obtain⟨ow2,g1,g2⟩:=HR.reviveAll n l svs k1 hl' hs.2;exact⟨ow2,g1,fun b hb=>g2 b (k2 b hb)⟩
theorem Tv(hr:HR P w0 R0 bl vs R ow st.boxes st.ents w){jf:Nat->Option Owner}:∀{hks:List HK}{svs:List (SV (sem T))}{vals:List Value}{cs:List CS}{n:Nat},rawCells st.ents hks svs=some cs->SVRs bl vs svs vals->
  (∀q id,(idList hks svs)[q]? =some (some id)->∀b,ow b=some (.ent id)->jf b=some (.ent (n+q)))->XD P w R jf n hks vals (cs.map Cl.toD)
 |[],[],vals,cs,n,h,hs,_=>by
  simp only[rawCells,Option.some.injEq]at h;subst h;cases vals with
  |nil=>rfl
  |cons=>exact hs.elim
 | hk :: hks,sv::svs,vals,cs,n,h,hs,ho=>by
  cases vals with
  |nil=>exact hs.elim
  | cons v vals=>
   have hrest:∀q id,(idList hks svs)[q]? =some (some id)->∀b,ow b=some (.ent id)->jf b=some (.ent (n+1+q)):=fun q id hq b hb=>by
    have:=ho (q+1) id (by simpa[idList]using hq) b hb;rw[show n+1+q=n+(q+1) by omega];exact this
   simp only[rawCells]at h;unfold XD;split at h
   ·rename_i cs' hcell hcs
    cases h
    simp only[hcell];exact Tv hr hcs hs.2 hrest
   ·rename_i p cs' hcell hcs
    split at h
    ·rename_i c hc
     cases h
     simp only[hcell];refine⟨c.toD,cs'.map Cl.toD,rfl, ?_,Tv hr hcs hs.2 hrest⟩
     unfold rawCell at hc;split at hc
     ·rename_i e id
      split at hc
      ·rename_i en hen
       split at hc
       ·rename_i hcc
        simp only[zA,beq_iff_eq]at hcc;obtain⟨⟨hlive,hown⟩,rfl⟩:=hcc;cases hc
        obtain⟨u,hu,_,hO⟩:=hr.ent id en hen hlive;have hsv:vs[id]? =some v:=hs.1;rw[hu]at hsv;cases hsv;refine⟨en.s,rfl,(hO hown).relabel (fun b hb _=> ?_)⟩
        have hid:idOf hk (.sl id:SV (sem T))=some id:=by
         cases hk<;>simp[HK.cell]at hcell
         obtain⟨rfl,rfl⟩:=hcell;rfl
        have:=ho 0 id (by simp[idList,hid]) b hb;simpa using this
       ·cases hc
      ·cases hc
     ·rename_i e
      split at hc
      ·cases hc
      rename_i hm;have hm:isM e=false:=by simpa using hm
      cases hc
      have hv:v= .slice none 0 0:=hs.1;subst hv;exact⟨Sl.nil,rfl,fun _=>⟨none,0,rfl,zB _,Nat.zero_le _,fun _=>rfl, .inl rfl⟩,fun hh=>absurd (hm.symm.trans hh) qH⟩
     ·cases hc
     ·rename_i k own hne1 hne2 ai4
      have hrd:=GH hr hc hs.1;cases k with
      |sl e=>
       cases own with
       |false=>exact hrd
       |true=>first|exact(hne2 e rfl rfl).elim|exact(hne1 e rfl rfl).elim|exact(ai4 e rfl rfl).elim
      |_=>exact hrd
    ·cases h
   ·cases h
 |[],_::_,_,_,_,h,_,_=>by simp[rawCells]at h
 |_::_,[],_,_,_,h,_,_=>by simp[rawCells]at h
theorem xw:∀{l:List Nat},nodupB l=true->l.Nodup
 |[],_=>List.nodup_nil
 |x::l,h=>by
  simp only[nodupB,zA,zR,zP,decide_eq_false_iff_not]at h;exact z9.2 ⟨h.1,xw h.2⟩
variable{T:FuncId->Pred}{P:Program}{w0 w:World}{R0:Bs T}{R:Nat->Prop}{bl:List Nat}{vs:List Value}{ow:Nat->Option Owner}{st:St (sem T)}{a:Act}
theorem Px{α:Type}:∀{l:List (Option α)},(l.filterMap id).Nodup->∀{p q:Nat}{x:α},l[p]? =some (some x)->l[q]? =some (some x)->p=q
 |[],_,p,q,x,hp,_=>by simp at hp
 | y::l,hn,p,q,x,hp,hq=>by
  have hmem:∀{r:Nat},l[r]? =some (some x)->x∈l.filterMap id:=fun{r} hr=>by
   rw[qG];exact⟨some x,qI hr,rfl⟩
  have hn':(l.filterMap id).Nodup:=by
   cases y with
   |none=>simpa using hn
   |some y=>simp only[z2,id]at hn;exact(z9.1 hn).2
  cases p with
  |zero=>
   simp only[vL,Option.some.injEq]at hp;subst hp;simp only[z2,id]at hn;cases q with
   |zero=>rfl
   |succ q=>exact absurd (hmem (by simpa using hq)) (z9.1 hn).1
  | succ p=>
   cases q with
   |zero=>
    simp only[vL,Option.some.injEq]at hq;subst hq;simp only[z2,id]at hn;exact absurd (hmem (by simpa using hp)) (z9.1 hn).1
   |succ q=>exact congrArg (· +1) (Px (p:=p) (q:=q) (x:=x) hn' (by simpa using hp) (by simpa using hq))
theorem agJ{bl bl1:List Nat}(hb:∀(i:Nat)(b:Nat),bl[i]? =some b->bl1[i]? =some b){i:Nat}(hi:i<bl.length):tV w bl1 i=tV w bl i:=by
 have h0:bl[i]? =some bl[i]:=zE hi;simp[tV,h0,hb _ _ h0]
open Classical in
theorem ajb{h:Hav}{sj st1:St (sem T)}{bl1:List Nat}{vs1:List Value}{R1:Nat->Prop}{ow1:Nat->Option Owner}{w1:World}{a1:Act}{news:List CS}
  (h1:HR P w0 R0 bl1 vs1 R1 ow1 st1.boxes st1.ents w1) (t1:TD bl1 vs1 ow1 st1.tmps a1)
  (hbl:∀(i:Nat)(b:Nat),bl[i]? =some b->bl1[i]? =some b) (hvs:∀(i:Nat)(b:Value),vs[i]? =some b->vs1[i]? =some b)
  (hraw:rawSt st1 h=some news) (hnd:(ownsOf st1 h).Nodup) (hnb:bl.length=sj.boxes.length) (hnv:vs.length=sj.ents.length) (hbx:∀p∈h.boxes,p.1<bl.length) (hen:∀p∈h.ents,p.1<vs.length)
  (hbox:∀(i:Nat)(bx:Box (sem T)),sj.boxes[i]? =some bx->bx.live=true->∃bx1,st1.boxes[i]? =some bx1/\bx1.live=true/\bx1.ty=bx.ty/\∀cs,SVRs bl1 vs1 bx1.cells cs->SVRs bl vs bx.cells cs)
  (hent:∀(i:Nat)(e:Ent (sem T)),sj.ents[i]? =some e->e.live=true->st1.ents[i]? =some e/\i∉ownsOf st1 h)
  (htr:SVRs bl vs sj.tmps a1.tmps.toList) (hlp:∀i L,R0.lps i=some L->∃bx,sj.boxes[i]? =some bx/\bx.live=false/\st1.boxes[i]? =some bx/\∃v0,SVRs bl vs L.tmps v0)
  (hmk:∀{l:Nat}{mo:Obj} b,ow b=some (.mark l mo)->ow1 b=some (.mark l mo)):Pre P w0 R0 bl vs ow sj h (news.map Cl.toD) a1 w1:=by
 unfold rawSt at hraw;split at hraw
 rotate_left
 ·cases hraw
 rename_i azL;obtain⟨hsv,hlen⟩:=ad7 h1 t1 azL;have hval:zS bl1 vs1 w1 a1 h=zS bl vs w1 a1 h:=by
  unfold zS
  congr 1
  ·refine vQ fun p hp=> ?_
   have hlt:=hen p hp;have h0:vs[p.1]? =some vs[p.1]:=zE hlt;rw[z3,z3,h0,hvs _ _ h0]
  congr 1
  have:∀(l:List (Nat×List HK)),(∀p∈l,p.1<bl.length)->(l.flatMap fun p=>tV w1 bl1 p.1)=l.flatMap fun p=>tV w1 bl p.1:=by
   intro l
   induction l with
   |nil=>intro _;rfl
   |cons p l ih=>
    intro hl;simp only[z0];rw[agJ hbl (hl p (by simp)),ih (fun q hq=>hl q (by simp[hq]))]
  exact this _ hbx
 rw[hval]at hsv;let ids:=idList (hksAll h) (svsAll st1 h)
 let ow':Nat->Option Owner:=fun b=>match ow1 b with
  |some (.box i)=>if i<sj.boxes.length then some (.box i)else none
  |some (.ent i)=>if i<sj.ents.length/\i∉ownsOf st1 h then some (.ent i)else none
  |some (.mark l mo)=>some (.mark l mo)
  |none=>none
 let jf:Nat->Option Owner:=fun b=>if hh:∃q:Nat,∃id,ids[q]? =some (some id)/\ow1 b=some (.ent id)then some (.ent (Classical.choose hh))else none
 have how:∀b o,ow' b=some o->ow1 b=some o:=by
  intro b o ho;simp only[ow']at ho;split at ho
  ·split at ho<;>simp_all
  ·split at ho<;>simp_all
  ·simp_all
  ·cases ho
 have hmk':∀{l:Nat}{mo:Obj} b,ow1 b=some (.mark l mo)->ow' b=some (.mark l mo):=fun b hb=>by simp only[ow',hb]
 refine⟨R1,ow',jf, ?_,⟨t1.1.mono hmk',htr⟩, ?_, ?_,fun b hb=>hmk' b (hmk b hb)⟩
 ·exact{
   below:=h1.below
   rlt:=h1.rlt
   r0:=h1.r0
   rsub:=h1.rsub
   ro:=fun b hb=>by simp only[ow',h1.ro b hb]
   olt:=fun b o ho=>h1.olt b o (how b o ho)
   nb:=hnb
   nv:=hnv
   glb:=h1.glb
   vsl:=fun i v hi=>h1.vsl i v (hvs i v hi)
   box:=fun i bx hi hl=>by
    obtain⟨bx1,g1,g2,g3,g4⟩:=hbox i bx hi hl;obtain⟨b,cs,k1,k2,k3,k4⟩:=h1.box i bx1 g1 g2;have hlt:i<sj.boxes.length:=(zF.1 hi).1;have hbi:bl[i]? =some b:=by
     have h0:bl[i]? =some bl[i]:=zE (hnb▸hlt);rw[h0];have:=hbl _ _ h0;rw[k1]at this;exact this.symm
    exact⟨b,cs,hbi,by simp only[ow',k2,if_pos hlt],by rw[<-g3];exact k3,g4 _ k4⟩
   ent:=fun i e hi hl=>by
    obtain⟨g1,g2⟩:=hent i e hi hl;obtain⟨v,k1,k2,k3⟩:=h1.ent i e g1 hl;have hlt:i<sj.ents.length:=(zF.1 hi).1;have hvi:vs[i]? =some v:=by
     have h0:vs[i]? =some vs[i]:=zE (hnv▸hlt);rw[h0];have:=hvs _ _ h0;rw[k1]at this;exact this.symm
    exact⟨v,hvi,k2,fun ho=>(k3 ho).relabel fun b hb _=>by simp only[ow',hb];rw[if_pos ⟨hlt,g2⟩]⟩
   mrk:=fun b hb=>h1.mrk b (how b _ hb)
   lp:=fun i L hi=>by
    obtain⟨bx,g1,g2,g3,v0,g4⟩:=hlp i L hi;obtain⟨bx1,b,k1,k2,k3,k4,r,r1,r2,r3,r4,r5,r6⟩:=h1.lp i L hi;rw[g3]at k1;cases k1;have hlt:i<sj.boxes.length:=(zF.1 g1).1;have hbi:bl[i]? =some b:=by
     have h0:bl[i]? =some bl[i]:=zE (hnb▸hlt);rw[h0];have:=hbl _ _ h0;rw[k3]at this;exact this.symm
    exact⟨bx,b,g1,g2,hbi,by simp only[ow',k4,if_pos hlt],r,r1,r2,r3,r4,g4.back hbl hvs r5,r6⟩}
 ·refine Tv h1 hraw hsv fun q id hq b hb=> ?_
  have hh:∃q:Nat,∃id,ids[q]? =some (some id)/\ow1 b=some (.ent id):=⟨q,id,hq,hb⟩;simp only[jf,dif_pos hh,Nat.zero_add];obtain⟨id',k1,k2⟩:=Classical.choose_spec hh;rw[hb]at k2;cases k2
  rw[Px (l:=ids) hnd k1 hq]
 ·intro m b hb
  simp only[jf]at hb;split at hb
  ·rename_i hh
   obtain⟨q,id,k1,k2⟩:=hh;have hmem:id∈ownsOf st1 h:=by
    unfold ownsOf;rw[qG];exact⟨some id,qI k1,rfl⟩
   refine⟨(h1.olt b _ k2).1, ?_,fun hR=>by rw[h1.ro b hR]at k2;cases k2⟩
   simp only[ow',k2];rw[if_neg (fun hc=>hc.2 hmem)]
  ·cases hb
theorem KP{h:Hav}{i:Nat}{bx':Box (sem T)}(hi:(headSt st h).boxes[i]? =some bx'):∃bx,st.boxes[i]? =some bx/\bx'.ty=bx.ty/\bx'.live=bx.live/\bx'.cells.length=bx.cells.length/\
  ((i∉h.boxes.map (·.1)/\bx'=bx)\/(i∈h.boxes.map (·.1)/\bx.ver<bx'.ver/\bx'.cells=zI bx.cells.length .junk)):=by
 have hlt:i<st.boxes.length:=by
  have:=(zF.1 hi).1;simpa[headSt,wU]using this
 have h0:st.boxes[i]? =some st.boxes[i]:=zE hlt;obtain⟨azM,k1,k2⟩:=lF h.boxes st.boxes i _ h0;have:some azM=some bx':=k1.symm.trans hi;cases this
 exact⟨_,h0,k2⟩
theorem XE{h:Hav}{i:Nat}{e':Ent (sem T)}(hi:(headSt st h).ents[i]? =some e')(hl:e'.live=true):st.ents[i]? =some e'/\i∉ownsOf st h:=by
 have hlt:i<st.ents.length:=by
  have:=(zF.1 hi).1;simpa[headSt,xB]using this
 have h0:st.ents[i]? =some st.ents[i]:=zE hlt;obtain⟨e'',k1,k2⟩:=KO (ownsOf st h) st i _ h0;have:some e''=some e':=k1.symm.trans hi;cases this
 rcases k2 with⟨k2,rfl⟩|⟨_,k3,_⟩
 ·exact⟨h0,k2⟩
 ·rw[hl]at k3;cases k3
theorem Me:∀{n:Nat}{cs:List Value},cs.length=n->SVRs bl vs (zI n (.junk:SV (sem T))) cs
 |0,[],_=>trivial
 |n+1,c::cs,h=>⟨trivial,Me (by simpa using h)⟩
 |0,_::_,h=>by simp at h
 |_+1,[],h=>by simp at h
theorem aax{h:Hav}(ht:TD bl vs ow st.tmps a){D:List Nat}(hD:∀t∈D,t∈h.slots.map (·.1)){a':Act}(hk:Keeps D a a'):SVRs bl vs (headSt st h).tmps a'.tmps.toList:=by
 refine SVRs.of_get ?_ fun i x y hx hy=> ?_
 ·have:=ht.2.length
  simp only[headSt,RZ,vE]at this⊢;rw[this,hk.1]
 ·rcases Si h.slots st.tmps i x hx with rfl|⟨h1,h2⟩
  ·trivial
  ·obtain⟨y',hy',hs⟩:=ht.2.get h2
   have:=hk.2 i (fun hh=>h1 (hD i hh))
   simp only[Array.getElem?_toList]at hy hy';rw[hy,hy']at this;cases this
   exact hs
theorem Wi:∀{l:List (Nat×HK)}{tmps:List (SV (sem T))}{svs:List (SV (sem T))},TD bl vs ow tmps a->SVRs bl vs (svs.take l.length) (l.map fun p=>a.tmps.getD p.1 undef)->TD bl vs ow (putSlots tmps l svs) a
 |[],tmps,svs,ht,_=>by cases svs<;>exact ht
 |(t,hk)::l,tmps,[],ht,_=>ht
 |(t,hk)::l,tmps,v::svs,ht,hs=>by
  simp only[putSlots];simp only[qN,vH,zL]at hs;refine Wi (TD.same (st:={tmps:=tmps,boxes:=[],ents:=[]}) ht fun u hu=> ?_) hs.2
  have:a.tmps.getD t undef=u:=by simp[Array.getD_eq_getD_getElem?,hu]
  rw[<-this];exact hs.1
def aoG(boxes:List (Box (sem T)))(l:List (Nat×List HK)):Prop:=∀p∈l,∃bx,boxes[p.1]? =some bx/\bx.live=true/\bx.cells.length=p.2.length
theorem Wj{ents:List (Ent (sem T))}:∀{l:List (Nat×List HK)}{boxes:List (Box (sem T))}{svs:List (SV (sem T))},HR P w0 R0 bl vs R ow boxes ents w->aoG boxes l->SVRs bl vs svs (l.flatMap fun p=>tV w bl p.1)->
    HR P w0 R0 bl vs R ow (putBoxes boxes l svs) ents w
  |[],boxes,svs,h,_,_=>h
  | (b, hks)::l,boxes,svs,h,hf,hs=>by
    obtain⟨bx,hbx,hl,hn⟩:=hf (b,hks) (by simp);obtain⟨x,cs,k1,k2,k3,k4⟩:=h.box b bx hbx hl;have hcw:tV w bl b=cs.toList:=by simp[tV,k1,k3]
    have hlen:cs.toList.length=hks.length:=by rw[<-k4.length,hn]
    simp only[z0,hcw]at hs;have hs1:=hs.take hks.length;have hs2:=hs.drop hks.length;rw[q7 hlen]at hs1;rw[q9 hlen]at hs2;simp only[putBoxes,hbx];refine Wj ?_ ?_ hs2
    · exact{h with
        nb:=by simp[h.nb]
        box:=fun i bx' hi hl'=>by
          rcases get_set_inv hi with⟨rfl,rfl⟩|⟨hne,hi⟩
          · exact⟨x,cs,k1,k2,k3,hs1⟩
          · exact h.box i bx' hi hl'
        lp:=fun i L hi=>by
          obtain⟨bx',x',g1,g2,g3,g4,g5⟩:=h.lp i L hi;have hne:i≠b:=fun e=>by rw[e,hbx]at g1;cases g1;rw[hl]at g2;cases g2
          exact⟨bx',x',by rw[zD (fun e=>hne e.symm)];exact g1,g2,g3,g4,g5⟩}
    · intro p hp
      obtain⟨bx',g1,g2,g3⟩:=hf p (by simp[hp]);by_cases hpb:p.1=b
      · rw[hpb,hbx]at g1
        cases g1
        refine⟨{bx with cells:=svs.take hks.length},by rw[hpb];exact kF hbx,hl, ?_⟩
        show(svs.take hks.length).length=p.2.length;rw[hs1.length,hlen,<-hn,g3]
      · exact⟨bx',by rw[zD (fun e=>hpb e.symm)];exact g1,g2,g3⟩
theorem qZ:∀(l:List (Nat×List HK))(boxes:List (Box (sem T)))(svs:List (SV (sem T)))(i:Nat)(bx:Box (sem T)),boxes[i]? =some bx->∃cells,(putBoxes boxes l svs)[i]? =some {bx with cells:=cells}/\(i∉l.map (·.1)->cells=bx.cells)
 |[],boxes,svs,i,bx,h=>⟨bx.cells,h,fun _=>rfl⟩
 | (b,hks)::l,boxes,svs,i,bx,h=>by
  simp only[putBoxes];by_cases hib:i=b
  ·subst hib
   simp only[h];obtain⟨cells,g1,g2⟩:=qZ l (boxes.set i {bx with cells:=svs.take hks.length}) (svs.drop hks.length) i _ (kF h);exact⟨cells,g1,fun hh=>absurd (by simp) hh⟩
  ·cases hb:boxes[b]? with
   |none=>
    simp only;obtain⟨cells,g1,g2⟩:=qZ l boxes (svs.drop hks.length) i bx h;exact⟨cells,g1,fun hh=>g2 (fun hm=>hh (vA _ hm))⟩
   |some bx0=>
    simp only;obtain⟨cells,g1,g2⟩:=qZ l (boxes.set b {bx0 with cells:=svs.take hks.length}) (svs.drop hks.length) i bx (by rw[zD (fun e=>hib e.symm)];exact h)
    exact⟨cells,g1,fun hh=>g2 (fun hm=>hh (vA _ hm))⟩
variable{T:FuncId->Pred}{w0:World}{R0:Bs T}
section
variable{P:Program}{w:World}{R:Nat->Prop}{bl:List Nat}{vs:List Value}{ow:Nat->Option Owner}{st:St (sem T)}{a:Act}
theorem nU{h:Hav}(hok:boxesOk st h=true){p:Nat×List HK}(hp:p∈h.boxes):∃bx,st.boxes[p.1]? =some bx/\bx.live=true/\bx.cells.length=p.2.length:=by
 unfold boxesOk at hok;simp only[zA]at hok;have:=zG.1 hok.1 p hp;split at this
 ·rename_i bx hbx
  simp only[zA,beq_iff_eq]at this;exact⟨bx,hbx,this.1,this.2⟩
 ·cases this
theorem aoH(l:List (Nat×TypeId))(hks:List HK)(svs:List (SV (sem T))){i:Nat}(hi:i∈l.map (·.1)):i∈(idList (l.map (fun p=>HK.sl p.2 true)++hks) (l.map (fun p=>SV.sl p.1)++svs)).filterMap id:=by
 induction l with
 |nil=>simp at hi
 |cons p l ih=>
  simp only[zL,zH]at hi;simp only[zL,List.cons_append,idList,idOf,z2,id];rcases hi with rfl|hi
  ·simp
  ·exact vA _ (ih hi)
theorem acf{h:Hav}{i:Nat}(hi:i∈h.ents.map (·.1)):i∈ownsOf st h:=aoH h.ents _ _ hi
theorem G7{h:Hav}(hok:boxesOk st h=true){p:Nat×TypeId}(hp:p∈h.ents):p.1<st.ents.length:=by
 unfold boxesOk at hok;simp only[zA]at hok;simpa using zG.1 hok.2 p hp
theorem ahC{h:Hav}{ds:List D}(hp:Pre P w0 R0 bl vs ow (headSt st h) h ds a w)(hok:boxesOk st h=true){f:List (SV (sem T))->List CS->St (sem T)->Tree (sem T)}(hd:(havAll P (hksAll h) (headSt st h) f).den):
  ∃svs cs st1 vs' R' ow' es,Stp P w0 R0 bl vs ow st bl vs' R' ow' (putAll st.ents.length h svs st1) w/\TD bl vs' ow' (putAll st.ents.length h svs st1).tmps a/\cs.map Cl.toD=ds/\st1.boxes=(headSt st h).boxes/\st1.ents=(headSt st h).ents++es/\(f svs cs st1).den:=by
 obtain⟨R',qj,jf,hhr,htr,hraw,hown,hmk⟩:=hp;obtain⟨svs,cs,st1,vs',ow',hS,G5,hbe,⟨es,hes⟩,hsv,hlen,hcs,hf⟩:=KN hhr hraw (fun m b _ hb=>hown m b hb) hd
 have hnv:vs.length=st.ents.length:=by
  rw[hhr.nv];simp[headSt,xB]
 have e0:(zS bl vs w a h).take h.ents.length=h.ents.map fun p=>vs'.getD p.1 undef:=by
  unfold zS;rw[q7 (by simp)];refine vQ fun p hp=> ?_
  have hlt:p.1<vs.length:=by rw[hnv];exact G7 hok hp
  have h0:vs[p.1]? =some vs[p.1]:=zE hlt;rw[z3,z3,h0,hS.vs _ _ h0]
 have e9:(zS bl vs w a h).drop h.ents.length=h.slots.map (fun p=>a.tmps.getD p.1 undef)++h.boxes.flatMap fun p=>tV w bl p.1:=by
  unfold zS;rw[q9 (by simp)]
 have s0:=hsv.take h.ents.length;rw[e0]at s0;have s9:=hsv.drop h.ents.length;rw[e9]at s9;have s1:=s9.take h.slots.length;have s2:=s9.drop h.slots.length;rw[q7 (by simp)]at s1;rw[q9 (by simp)]at s2;have hlt:∀p∈h.ents,p.1<vs'.length:=fun p hp=>by
  have h1:p.1<vs.length:=by rw[hnv];exact G7 hok hp
  have h0:vs[p.1]? =some vs[p.1]:=zE h1;exact(zF.1 (hS.vs _ _ h0)).1
 have hb0:=Wj hS.hr (l:=h.boxes) (svs:=(svs.drop h.ents.length).drop h.slots.length) (fun p hp=>by
  obtain⟨bx,g1,g2,g3⟩:=nU hok hp;obtain⟨bx',k1,_,k3,k4,_⟩:=lF h.boxes st.boxes p.1 bx g1;exact⟨bx',by rw[hbe];exact k1,by rw[k3,g2],by rw[k4,g3]⟩) s2
 obtain⟨ow2,hrev,aww⟩:=HR.reviveAll st.ents.length h.ents (svs.take h.ents.length) hb0 hlt s0;have htk:reviveAll st.ents.length h.ents (svs.take h.ents.length) st1.ents=reviveAll st.ents.length h.ents svs st1.ents:=by
  rw[Oq]
 rw[htk]at hrev;obtain⟨rv1,rv2,rv3⟩:=zT st.ents.length h.ents svs st1.ents;refine⟨svs,cs,st1,vs',R',ow2,es,⟨hrev,hS.bl,hS.vs, ?_,fun b hb=>aww b (hS.mrk b (hmk b hb))⟩, ?_,hcs,hbe,hes,hf⟩
 ·refine⟨fun i bx hi=> ?_,fun i e hi=> ?_⟩
  ·obtain⟨bx',k1,k2,_,_,k5⟩:=lF h.boxes st.boxes i bx hi
   obtain⟨cells,m1,m2⟩:=qZ h.boxes st1.boxes ((svs.drop h.ents.length).drop h.slots.length) i bx' (by rw[hbe];exact k1);refine⟨_,m1, ?_, ?_,k2⟩
   ·rcases k5 with⟨_,rfl⟩|⟨_,h6,_⟩
    ·exact zB _
    ·exact q6 h6
   ·rcases k5 with⟨h5,rfl⟩|⟨_,h6,_⟩
    ·intro _
     rw[m2 h5]
    ·intro hh
     have hh:bx'.ver=bx.ver:=hh;omega
  ·obtain⟨e',k1,k2,k3⟩:=(aoF (st:=st) h).ent i e hi
   obtain⟨e2,r1,r2,r3⟩:=rv2 i e' (by rw[hes];exact get_append_lt k1);refine⟨e2,r1,z1 k2 r2,fun hh=> ?_⟩
   have h1:e'.ver=e.ver:=by omega
   have h2:=k3 h1;subst h2;exact r3 hh
 ·refine Wi ?_ s1
  rw[G5];exact⟨htr.1.mono (fun b hb=>aww b (hS.mrk b hb)),htr.2.mono hS.bl hS.vs⟩
theorem aay(h0:HR P w0 R0 bl vs R ow st.boxes st.ents w){i:Nat}{L:LStat T}(hi:R0.lps i=some L):∃v0,SVRs bl vs L.tmps v0:=by
 obtain⟨_,_,_,_,_,_,r,_,_,_,_,r5,_⟩:=h0.lp i L hi;exact⟨_,r5⟩
theorem aaz{h:Hav}(h0:HR P w0 R0 bl vs R ow st.boxes st.ents w)(hok:boxesOk st h=true){i:Nat}{L:LStat T}(hi:R0.lps i=some L):
  ∃bx,(headSt st h).boxes[i]? =some bx/\bx.live=false/\st.boxes[i]? =some bx:=by
 obtain⟨bx,b,g1,g2,g3,_⟩:=h0.lp i L hi;obtain⟨bx',k1,k2,k3,k4,k5⟩:=lF h.boxes st.boxes i bx g1;rcases k5 with⟨_,rfl⟩|⟨k5,_,_⟩
 ·exact⟨bx',k1,g2,g1⟩
 ·obtain⟨p,hp,rfl⟩:=qD.1 k5
  obtain⟨b1,q1,q2,_⟩:=nU hok hp;rw[g1]at q1;cases q1;rw[g2]at q2;cases q2
theorem alx{h:Hav}(h0:HR P w0 R0 bl vs R ow st.boxes st.ents w)(t0:TD bl vs ow st.tmps a)(hok:boxesOk st h=true)(hnd:nodupB (ownsOf st h)=true){raws:List CS}(hraw:rawSt st h=some raws):
  Pre P w0 R0 bl vs ow (headSt st h) h (raws.map Cl.toD) a w:=by
 refine ajb h0 t0 (fun _ _ x=>x) (fun _ _ x=>x) hraw (xw hnd) ?_ ?_ (fun p hp=> ?_) (fun p hp=>by rw[h0.nv];exact G7 hok hp) (fun i bx hi hl=> ?_) (fun i e hi hl=>XE hi hl) (aax t0 (D:=[]) (fun _ h=>by cases h) (Keeps.refl _ _)) (fun i L hi=> ?_) (fun _ x=>x)
 ·simp[headSt,wU,h0.nb]
 ·simp[headSt,xB,h0.nv]
 ·obtain⟨bx,g1,_,_⟩:=nU hok hp
  rw[h0.nb];exact(zF.1 g1).1
 ·obtain⟨bx0,g1,g2,g3,g4,g5⟩:=KP hi
  refine⟨bx0,g1,by rw[<-g3];exact hl,g2.symm,fun cs hs=> ?_⟩
  rcases g5 with⟨_,rfl⟩|⟨_,_,h6⟩
  ·exact hs
  ·rw[h6];exact Me hs.length.symm
 ·obtain⟨bx,g1,g2,g3⟩:=aaz h0 hok hi
  exact⟨bx,g1,g2,g3,aay h0 hi⟩
theorem aly{h:Hav}(h0:HR P w0 R0 bl vs R ow st.boxes st.ents w)(t0:TD bl vs ow st.tmps a)(hok:boxesOk st h=true){D:List Nat}(hD:∀t∈D,t∈h.slots.map (·.1))
  {svs:List (SV (sem T))} {st1:St (sem T)} {es:List (Ent (sem T))} (hb1:st1.boxes=(headSt st h).boxes) (he1:st1.ents=(headSt st h).ents++es)
  {vs':List Value} (hvs:∀(i:Nat)(b:Value),vs[i]? =some b->vs'[i]? =some b) {ow':Nat->Option Owner} (hmk:∀{l:Nat}{mo:Obj} b,ow b=some (.mark l mo)->ow' b=some (.mark l mo)) {bl1:List Nat} {vs1:List Value} {R1:Nat->Prop} {ow1:Nat->Option Owner} {st':St (sem T)} {w':World} {a':Act}
  (hS:Stp P w0 R0 bl vs' ow' (putAll st.ents.length h svs st1) bl1 vs1 R1 ow1 st' w') (t1:TD bl1 vs1 ow1 st'.tmps a') (hk:Keeps D a a') (hro:roundOk h st.ents.length (putAll st.ents.length h svs st1) st'=true) {news:List CS} (hraw:rawSt st' h=some news)
  (hnd:nodupB (ownsOf st' h)=true) (hge:(ownsOf st' h).all (fun id=>decide (st.ents.length<=id)||(h.ents.map (·.1)).contains id)=true):Pre P w0 R0 bl vs ow (headSt st h) h (news.map Cl.toD) a' w':=by
 have hok':boxesOk st' h=true:=by
  unfold rawSt at hraw;split at hraw
  ·assumption
  ·cases hraw
 unfold roundOk at hro;simp only[zA]at hro;obtain⟨ad8,aoI⟩:=hro;refine ajb hS.hr t1 hS.bl (fun i v hi=>hS.vs i v (hvs i v hi)) hraw (xw hnd) ?_ ?_ (fun p hp=> ?_) (fun p hp=>by rw[h0.nv];exact G7 hok hp) (fun i bx hi hl=> ?_) (fun i e hi hl=> ?_) (aax t0 hD hk) (fun i L hi=> ?_) (fun b hb=>hS.mrk b (hmk b hb))
 ·simp[headSt,wU,h0.nb]
 ·simp[headSt,xB,h0.nv]
 ·obtain⟨bx,g1,_,_⟩:=nU hok hp
  rw[h0.nb];exact(zF.1 g1).1
 ·obtain⟨bx0,g1,g2,g3,g4,g5⟩:=KP hi
  obtain⟨cells,m1,m2⟩:=qZ h.boxes st1.boxes ((svs.drop h.ents.length).drop h.slots.length) i bx (by rw[hb1];exact hi);have m1:(putAll st.ents.length h svs st1).boxes[i]? =some {bx with cells:=cells}:=m1;have hz:=rH ad8 m1;obtain⟨b',k1,k2,k3,k4⟩:=hS.ext.box i _ m1;rw[k1]at hz;simp only[hl,qJ,zC,beq_iff_eq,zA]at hz;by_cases hin:i∈h.boxes.map (·.1)
  ·have hcells:bx.cells=zI bx0.cells.length .junk:=by
    rcases g5 with⟨h5,_⟩|⟨_,_,h6⟩
    ·exact absurd hin h5
    ·exact h6
   obtain⟨p,hp,rfl⟩:=qD.1 hin;obtain⟨b1,q1,_,q3⟩:=nU hok hp;obtain⟨b2,r1,r2,r3⟩:=nU hok' hp;rw[g1]at q1;cases q1;rw[k1]at r1;cases r1;refine⟨b',k1,r2,k4,fun cs hs=> ?_⟩
   rw[hcells,q3];exact Me (by rw[<-hs.length,r3])
  ·have hz:b'.ver=bx.ver:=by
    rcases hz with hz|hz
    ·exact hz
    ·have:=hz.1
     simp only[zP,decide_eq_true_eq]at this;exact absurd this hin
   have:=k3 hz;subst this;have hbx:bx=bx0:=by
    rcases g5 with⟨_,h5⟩|⟨h5,_⟩
    ·exact h5
    ·exact absurd h5 hin
   subst hbx;refine⟨_,k1,hl,rfl,fun cs hs=> ?_⟩
   rw[m2 hin]at hs;obtain⟨_,cs0,_,_,_,k4'⟩:=h0.box i bx g1 hl;exact k4'.back hS.bl (fun i v hi=>hS.vs i v (hvs i v hi)) hs
 ·obtain⟨g1,g2⟩:=XE hi hl
  have hlt:i<st.ents.length:=(zF.1 g1).1;have hni:i∉h.ents.map (·.1):=fun hm=>g2 (acf hm)
  have hh:(putAll st.ents.length h svs st1).ents[i]? =some e:=by
   show(reviveAll st.ents.length h.ents svs st1.ents)[i]? =_;rw[(zT st.ents.length h.ents svs st1.ents).2.2 i hlt hni,he1];exact get_append_lt hi
  have hz:=rH aoI (i:=i) (x:=e) (by rw[vR hlt];exact hh);obtain⟨e',k1,k2,k3⟩:=hS.ext.ent i e hh;rw[k1]at hz;have hz:e'.ver=e.ver:=by
   simp only[hl,z7,z8,zC,zP,decide_eq_true_eq,beq_iff_eq]at hz;rcases hz with hz|hz
   ·exact absurd hz hni
   ·exact hz
  have:=k3 hz;subst this;refine⟨k1,fun hm=> ?_⟩
  have:=zG.1 hge i hm;simp only[zC,decide_eq_true_eq,zP]at this;rcases this with this|this
  ·omega
  ·exact hni this
 ·obtain⟨bx,g1,g2,g3⟩:=aaz h0 hok hi
  obtain⟨bx',q1,q2,q3,q4,q5⟩:=KP g1;obtain⟨cells,m1,m2⟩:=qZ h.boxes st1.boxes ((svs.drop h.ents.length).drop h.slots.length) i bx (by rw[hb1];exact g1);have hin:i∉h.boxes.map (·.1):=fun hm=>by
   obtain⟨p,hp,rfl⟩:=qD.1 hm;obtain⟨b1,r1,r2,_⟩:=nU hok hp;rw[g3]at r1;cases r1;rw[g2]at r2;cases r2
  have m1:(putAll st.ents.length h svs st1).boxes[i]? =some {bx with cells:=cells}:=m1;have hz:=rH ad8 m1;obtain⟨b',k1,k2,k3,k4⟩:=hS.ext.box i _ m1;rw[k1]at hz;simp only[g2,Bool.false_and,qT,beq_iff_eq]at hz;have:=k3 hz;rw[m2 hin]at this;subst this;exact⟨bx,g1,g2,k1,aay h0 hi⟩
theorem aoA{h:Hav}(h0:HR P w0 R0 bl vs R ow st.boxes st.ents w)(t0:TD bl vs ow st.tmps a)(hok:boxesOk st h=true){D:List Nat}(hD:∀t∈D,t∈h.slots.map (·.1))
  {bl1:List Nat} {vs1:List Value} {R1:Nat->Prop} {ow1:Nat->Option Owner} {st':St (sem T)} {w':World} {a':Act}
  (hS:Stp P w0 R0 bl vs ow st bl1 vs1 R1 ow1 st' w') (t1:TD bl1 vs1 ow1 st'.tmps a') (hk:Keeps D a a') (hro:roundOk h st.ents.length (headSt st h) st'=true) {news:List CS} (hraw:rawSt st' h=some news)
  (hnd:nodupB (ownsOf st' h)=true) (hge:(ownsOf st' h).all (fun id=>decide (st.ents.length<=id)||(ownsOf st h).contains id)=true):Pre P w0 R0 bl vs ow (headSt st h) h (news.map Cl.toD) a' w':=by
 have hok':boxesOk st' h=true:=by
  unfold rawSt at hraw;split at hraw
  ·assumption
  ·cases hraw
 unfold roundOk at hro;simp only[zA]at hro;obtain⟨ad8,aoI⟩:=hro;refine ajb hS.hr t1 hS.bl hS.vs hraw (xw hnd) ?_ ?_ (fun p hp=> ?_) (fun p hp=>by rw[h0.nv];exact G7 hok hp) (fun i bx hi hl=> ?_) (fun i e hi hl=> ?_) (aax t0 hD hk) (fun i L hi=> ?_) hS.mrk
 ·simp[headSt,wU,h0.nb]
 ·simp[headSt,xB,h0.nv]
 ·obtain⟨bx,g1,_,_⟩:=nU hok hp
  rw[h0.nb];exact(zF.1 g1).1
 ·obtain⟨bx0,g1,g2,g3,g4,g5⟩:=KP hi
  have hz:=rH ad8 hi;obtain⟨b',k1,k2,k3,k4⟩:=hS.ext.box i _ g1;rw[k1]at hz;simp only[hl,qJ,zC,beq_iff_eq,zA]at hz;by_cases hin:i∈h.boxes.map (·.1)
  ·have hcells:bx.cells=zI bx0.cells.length .junk:=by
    rcases g5 with⟨h5,_⟩|⟨_,_,h6⟩
    ·exact absurd hin h5
    ·exact h6
   obtain⟨p,hp,rfl⟩:=qD.1 hin;obtain⟨b1,q1,_,q3⟩:=nU hok hp;obtain⟨b2,r1,r2,r3⟩:=nU hok' hp;rw[g1]at q1;cases q1;rw[k1]at r1;cases r1;refine⟨b',k1,r2,k4.trans g2.symm,fun cs hs=> ?_⟩
   rw[hcells,q3];exact Me (by rw[<-hs.length,r3])
  ·have hz:b'.ver=bx.ver:=by
    rcases hz with hz|hz
    ·exact hz
    ·have:=hz.1
     simp only[zP,decide_eq_true_eq]at this;exact absurd this hin
   have hbx:bx=bx0:=by
    rcases g5 with⟨_,h5⟩|⟨h5,_⟩
    ·exact h5
    ·exact absurd h5 hin
   subst hbx;have:=k3 hz;subst this;refine⟨_,k1,hl,rfl,fun cs hs=> ?_⟩
   obtain⟨_,cs0,_,_,_,k4'⟩:=h0.box i _ g1 hl;exact k4'.back hS.bl hS.vs hs
 ·obtain⟨g1,g2⟩:=XE hi hl
  have hlt:i<st.ents.length:=(zF.1 g1).1;have hz:=rH aoI (i:=i) (x:=e) (by rw[vR hlt];exact hi);obtain⟨e',k1,k2,k3⟩:=hS.ext.ent i e g1;rw[k1]at hz;have hz:e'.ver=e.ver:=by
   simp only[hl,z7,z8,zC,zP,decide_eq_true_eq,beq_iff_eq]at hz;rcases hz with hz|hz
   ·exact absurd (acf hz) g2
   ·exact hz
  have:=k3 hz;subst this;refine⟨k1,fun hm=> ?_⟩
  have:=zG.1 hge i hm;simp only[zC,decide_eq_true_eq,zP]at this;rcases this with this|this
  ·omega
  ·exact g2 this
 ·obtain⟨bx,g1,g2,g3⟩:=aaz h0 hok hi
  obtain⟨bx',q1,q2,q3,q4,q5⟩:=KP g1;have hz:=rH ad8 g1;obtain⟨b',k1,k2,k3,k4⟩:=hS.ext.box i _ g3;rw[k1]at hz;simp only[g2,Bool.false_and,qT,beq_iff_eq]at hz;have:=k3 hz;subst this;exact⟨_,g1,g2,k1,aay h0 hi⟩
end
def Sat(P:Program)(w0:World)(R0:Bs T)(bl:List Nat)(vs:List Value)(ow:Nat->Option Owner)(st:St (sem T))(D:List Nat)(a:Act)(kN:St (sem T)->Tree (sem T))(kE:Nat->St (sem T)->Tree (sem T))(kR:St (sem T)->Tree (sem T)):Exit->Act->World->Prop
 | .normal,a',w'=>Keeps D a a'/\Reach P w0 R0 bl vs ow st (fun st'=>(kN st').den) a' w'
 | .exit id,a',w'=>Keeps D a a'/\Reach P w0 R0 bl vs ow st (fun st'=>(kE id st').den) a' w'
 | .ret,a',w'=>Keeps D a a'/\Reach P w0 R0 bl vs ow st (fun st'=>(kR st').den) a' w'
 |_,_,_=>False
theorem Sat.of{P:Program}{bl:List Nat}{vs:List Value}{ow:Nat->Option Owner}{st:St (sem T)}{D D':List Nat}{a a1:Act}{kN kR:St (sem T)->Tree (sem T)}{kE:Nat->St (sem T)->Tree (sem T)}{bl1:List Nat}{vs1:List Value}{R1:Nat->Prop}{ow1:Nat->Option Owner}{st1:St (sem T)}{w1:World}
  (h:Stp P w0 R0 bl vs ow st bl1 vs1 R1 ow1 st1 w1) (hD:∀t,t∈D'->t∈D) (hk:Keeps D a a1):∀{e:Exit}{a':Act}{w':World},Sat P w0 R0 bl1 vs1 ow1 st1 D' a1 kN kE kR e a' w'->Sat P w0 R0 bl vs ow st D a kN kE kR e a' w'
 | .normal,_,_,⟨g1,g2⟩=>⟨hk.trans (g1.mono hD),g2.of h⟩
 | .exit _,_,_,⟨g1,g2⟩=>⟨hk.trans (g1.mono hD),g2.of h⟩
 | .ret,_,_,⟨g1,g2⟩=>⟨hk.trans (g1.mono hD),g2.of h⟩
 | .goto _,_,_,h=>h.elim
 | .panic _,_,_,h=>h.elim
 | .outgrown,_,_,h=>h.elim
theorem YT(n:Nat):todo (qY n false)<=n:=by
 have:=List.countP_le_length (p:=(· ==false)) (l:=zI n false);simpa only[todo,Array.toList_replicate,vG]using this
theorem wpIn_loop_ghost{F:Fence}{n:Nat}{P:Program}{Q:Exit->Act->World->Prop}{a:Act}{w:World}{c:Code}(I:Nat->Act->World->Prop)(n₀:Nat)(h₀:I n₀ a w)
  (round:∀m a w,I m a w->c.wpIn F n P (Exit.then (fun a' w'=>∃n',n'<m/\I n' a' w') Q) a w):(Code.loop c).wpIn F n P Q a w:=by
 refine wpIn_loop (fun a w=>∃m,I m a w) (fun a w=>leastOf (fun m=>I m a w)) ⟨n₀,h₀⟩ ?_
 intro a w hI;refine wpIn_mono (round _ a w (leastOf_spec hI).1) ?_
 intro e a' w' hq;cases e with
 |normal=>
  obtain⟨n',hlt,hI'⟩:=hq;exact show(∃m,I m a' w')/\leastOf (fun m=>I m a' w')<leastOf (fun m=>I m a w)from⟨⟨n',hI'⟩,Nat.lt_of_le_of_lt ((leastOf_spec ⟨n',hI'⟩).2 n' hI') hlt⟩
 |exit id=>exact hq
 |ret=>exact hq
 |goto l=>exact hq
 |panic ch=>exact hq
 |outgrown=>exact hq
theorem alv{kG:Option Nat}{n:Nat}{P:Program}{id:Nat}{ops:Array Oper}{S:World->Prop}{Q:Exit->Act->World->Prop}{a:Act}{w:World}(hL:¬LetsOut Q)(hn:noDefer ops=true)(hm:P.follows .mixedOrders=true)
  (h:wpAnyH P .any ops Q S ops.size (qY ops.size false) a {w with drawn:=w.drawn+1}):(Code.region id ops true).wpIn (FZ kG) n P Q a w:=
 wpIn_region_draw fun t=>by
  simp only[Region.schedule,hm,Bool.true_or,if_true];exact PE hL hn _ _ _ (wpAny_sound ops.size t _ a _ (wpAny_of_held _ _ _ _ h))
def Bs.put(B:Bs T)(i:Nat)(L:Option (LStat T)):Bs T:=⟨B.R,fun j=>if j=i then L else B.lps j⟩
theorem Bs.put_eq(B:Bs T)(i:Nat)(L:Option (LStat T)):(B.put i L).lps i=L:=by simp[Bs.put]
theorem Bs.Oj(B:Bs T){i j:Nat}(h:j≠i)(L:Option (LStat T)):(B.put i L).lps j=B.lps j:=by simp[Bs.put,h]
section
variable{P:Program}{w:World}{R:Nat->Prop}{bl:List Nat}{vs:List Value}{ow:Nat->Option Owner}{boxes:List (Box (sem T))}{ents:List (Ent (sem T))}
theorem HR.aat{B B':Bs T}(h:HR P w0 B bl vs R ow boxes ents w){i b:Nat}{o':Obj}{Bc:List (Box (sem T))}{bx':Box (sem T)}(hb:bl[i]? =some b)(ho:ow b=some (.box i))(hR:B'.R=B.R)
  (hB:∀j,j≠i->B'.lps j=B.lps j) (hbx:∀j,j≠i->Bc[j]? =boxes[j]?) (hi:Bc[i]? =some bx') (hd:bx'.live=false) (hlen:Bc.length=boxes.length)
  (hL:∀L',B'.lps i=some L'->LpOk bl vs L' bx'.cells (some o')):HR P w0 B' bl vs R ow Bc ents (w.putObj b o'):=by
 have hlt:b<w.heap.size:=(h.olt b _ ho).2;have other:∀x,x≠b->(w.putObj b o').heap[x]? =w.heap[x]? :=fun x hx=>World.putObj_heap_other hx
 have hRo:∀x,R x->(w.putObj b o').heap[x]? =w.heap[x]? :=fun x hx=>other x (fun e=>by rw[e]at hx;rw[h.ro b hx]at ho;cases ho)
 exact{
  below:=h.below.trans ⟨rfl,rfl,rfl,by simp,fun x hx=>other x (fun e=>by have:=(h.olt b _ ho).1;omega)⟩
  rlt:=fun x hx=>by simpa using h.rlt x hx
  r0:=fun x hx=>h.r0 x (by rw[<-hR];exact hx)
  rsub:=fun x hx=>by rw[hR];exact h.rsub x hx
  ro:=h.ro
  olt:=fun x q hx=>by simpa using h.olt x q hx
  nb:=h.nb.trans hlen.symm
  nv:=h.nv
  vsl:=h.vsl
  glb:=h.glb
  box:=fun j bj hj hl=>by
   have hne:j≠i:=fun e=>by rw[e,hi]at hj;cases hj;rw[hd]at hl;cases hl
   rw[hbx j hne]at hj;obtain⟨x,cs,g1,g2,g3,g4⟩:=h.box j bj hj hl;exact⟨x,cs,g1,g2,(other x (fun e=>by rw[e,ho]at g2;cases g2;exact hne rfl)).trans g3,g4⟩
  ent:=fun j e hj hl=>by
   obtain⟨v,hv,g1,g2⟩:=h.ent j e hj hl;exact⟨v,hv,fun hh=>(g1 hh).mono (fun _ x=>x) hRo,fun hh=>(g2 hh).mono (fun _ x=>x) hRo (fun x hx=>⟨hx,other x (fun e=>by rw[e,ho]at hx;cases hx)⟩)⟩
  mrk:=fun x hx=>(other x (fun e=>by rw[e,ho]at hx;cases hx)).trans (h.mrk x hx)
  lp:=fun j L hj=>by
   by_cases e:j=i
   ·subst e
    exact⟨bx',b,hi,hd,hb,ho,by rw[World.putObj_heap_same hlt];exact hL L hj⟩
   ·rw[hB j e]at hj
    obtain⟨bx,x,g1,g2,g3,g4,g5⟩:=h.lp j L hj;exact⟨bx,x,by rw[hbx j e];exact g1,g2,g3,g4,g5.mono (other x (fun e'=>by rw[e',ho]at g4;cases g4;exact e rfl)) (fun _ _ x=>x) (fun _ _ x=>x)⟩}
theorem HR.remark{B:Bs T}(h:HR P w0 B bl vs R ow boxes ents w){ow':Nat->Option Owner}(h1:∀b o,ow b=some o->(∀l mo,o≠ .mark l mo)->ow' b=some o)
  (h2:∀b o,ow' b=some o->ow b=some o\/∃l l' mo,ow b=some (.mark l mo)/\o= .mark l' mo):HR P w0 B bl vs R ow' boxes ents w:=by
 exact{
  below:=h.below
  rlt:=h.rlt
  r0:=h.r0
  rsub:=h.rsub
  ro:=fun b hb=>by
   cases ho:ow' b with
   |none=>rfl
   |some o=>
    have:=h.ro b hb;rcases h2 b o ho with g|⟨l,l',mo,g,_⟩<;>rw[this]at g<;>cases g
  olt:=fun b o ho=>by
   rcases h2 b o ho with g|⟨l,l',mo,g,_⟩
   ·exact h.olt b o g
   ·exact h.olt b _ g
  nb:=h.nb
  nv:=h.nv
  vsl:=h.vsl
  glb:=h.glb
  box:=fun i bx hi hl=>by
   obtain⟨b,cs,g1,g2,g3,g4⟩:=h.box i bx hi hl;exact⟨b,cs,g1,h1 b _ g2 (fun _ _ e=>by cases e),g3,g4⟩
  ent:=fun i e hi hl=>by
   obtain⟨v,hv,g1,g2⟩:=h.ent i e hi hl;exact⟨v,hv,g1,fun hh=>(g2 hh).mono (fun _ x=>x) (fun _ _=>rfl) (fun x hx=>⟨h1 x _ hx (fun _ _ e=>by cases e),rfl⟩)⟩
  mrk:=fun b hb=>by
   rcases h2 b _ hb with g|⟨l,l',mo,g,e⟩
   ·exact h.mrk b g
   ·cases e;exact h.mrk b g
  lp:=fun i L hi=>by
   obtain⟨bx,b,g1,g2,g3,g4,g5⟩:=h.lp i L hi;exact⟨bx,b,g1,g2,g3,h1 b _ g4 (fun _ _ e=>by cases e),g5⟩}
theorem HR.aoB{B:Bs T}(h:HR P w0 B bl vs R ow boxes ents w){d l:Nat}{mo:Obj}(hd:ow d=some (.mark l mo)):HR P w0 B bl vs R (setOw ow d none) boxes ents (w.putObj d (.deferred none)):=by
 have other:∀x,x≠d->(w.putObj d (.deferred none)).heap[x]? =w.heap[x]? :=fun x hx=>World.putObj_heap_other hx
 have hne:∀x o,ow x=some o->(∀l mo,o≠ .mark l mo)->x≠d:=fun x o hx ho e=>by rw[e,hd]at hx;cases hx;exact ho _ _ rfl
 have hk:∀x o,setOw ow d none x=some o->x≠d/\ow x=some o:=fun x o hx=>by
  by_cases e:x=d
  ·subst e;rw[setOw_eq]at hx;cases hx
  ·rw[setOw_ne e]at hx;exact⟨e,hx⟩
 exact{
  below:=h.below.trans ⟨rfl,rfl,rfl,by simp,fun x hx=>other x (fun e=>by have:=(h.olt d _ hd).1;omega)⟩
  rlt:=fun x hx=>by simpa using h.rlt x hx
  r0:=h.r0
  rsub:=h.rsub
  ro:=fun x hx=>by
   by_cases e:x=d
   ·subst e;exact setOw_eq
   ·rw[setOw_ne e];exact h.ro x hx
  olt:=fun x o hx=>by simpa using h.olt x o (hk x o hx).2
  nb:=h.nb
  nv:=h.nv
  vsl:=h.vsl
  glb:=h.glb
  box:=fun i bx hi hl=>by
   obtain⟨b,cs,g1,g2,g3,g4⟩:=h.box i bx hi hl;have:=hne b _ g2 (fun _ _ e=>by cases e)
   exact⟨b,cs,g1,by rw[setOw_ne this];exact g2,(other b this).trans g3,g4⟩
  ent:=fun i e hi hl=>by
   obtain⟨v,hv,g1,g2⟩:=h.ent i e hi hl;have hRo:∀x,R x->(w.putObj d (.deferred none)).heap[x]? =w.heap[x]? :=fun x hx=>other x (fun e=>by rw[e]at hx;rw[h.ro d hx]at hd;cases hd)
   refine⟨v,hv,fun hh=>(g1 hh).mono (fun _ x=>x) hRo,fun hh=>(g2 hh).mono (fun _ x=>x) hRo (fun x hx=> ?_)⟩
   have:=hne x _ hx (fun _ _ e=>by cases e)
   exact⟨by rw[setOw_ne this];exact hx,other x this⟩
  mrk:=fun x hx=>by
   obtain⟨e,g⟩:=hk x _ hx;exact(other x e).trans (h.mrk x g)
  lp:=fun i L hi=>by
   obtain⟨bx,b,g1,g2,g3,g4,g5⟩:=h.lp i L hi;have:=hne b _ g4 (fun _ _ e=>by cases e)
   exact⟨bx,b,g1,g2,g3,by rw[setOw_ne this];exact g4,g5.mono (other b this) (fun _ _ x=>x) (fun _ _ x=>x)⟩}
theorem HR.enterLoop{B:Bs T}(h:HR P w0 B bl vs R ow boxes ents w){L:LStat T}{r:Loop}(hp:r.params=L.params)(ha:r.assign=L.assign)(hbd:r.body=L.body)(ht:SVRs bl vs L.tmps r.tmps.toList)
  (hs:r.state= .ready) (hpd:r.pending=none) (ay7:L.busy=false):
  HR P w0 (B.put boxes.length (some L)) (bl++[w.heap.size+1]) vs R (setOw (setOw ow w.heap.size (some (.mark 0 mkO))) (w.heap.size+1) (some (.box boxes.length))) (boxes++[⟨0,[],0,false⟩]) ents ((w.alloc (.deferred (some []))).alloc (.loop r)):=by
 have hB1:Below w.heap.size w (w.alloc (.deferred (some []))):=(Below.refl _ _).alloc (zB _) _;have hB2:Below w.heap.size w ((w.alloc (.deferred (some []))).alloc (.loop r)):=hB1.alloc (by simp) _;have hg:=h.grow hB2;have hsz:((w.alloc (.deferred (some []))).alloc (.loop r)).heap.size=w.heap.size+2:=by simp
 have hl:((w.alloc (.deferred (some []))).alloc (.loop r)).heap[w.heap.size+1]? =some (.loop r):=by
  have:=World.alloc_heap_new (w.alloc (.deferred (some []))) (.loop r);rwa[World.size_alloc]at this
 have hk:((w.alloc (.deferred (some []))).alloc (.loop r)).heap[w.heap.size]? =some (.deferred (some [])):=
  (Below.heap_alloc _ _ _ (by simp)).trans (World.alloc_heap_new w _)
 have hnew:∀x,w.heap.size<=x->ow x=none:=fun x hx=>by
  cases hox:ow x with
  |none=>rfl
  |some o=>have:=(h.olt x o hox).2;omega
 have hole:∀x o,ow x=some o->setOw (setOw ow w.heap.size (some (.mark 0 mkO))) (w.heap.size+1) (some (.box boxes.length)) x=some o:=fun x o hx=>by
  have:=(h.olt x o hx).2;rw[setOw_ne (by omega),setOw_ne (by omega)];exact hx
 exact{
  below:=hg.below
  rlt:=hg.rlt
  r0:=hg.r0
  rsub:=hg.rsub
  ro:=fun x hx=>by
   have:=h.rlt x hx;rw[setOw_ne (by omega),setOw_ne (by omega)];exact h.ro x hx
  olt:=fun x o hx=>by
   by_cases e1:x=w.heap.size+1
   ·subst e1;exact⟨z1 h.below.size (by omega),by rw[hsz];omega⟩
   ·rw[setOw_ne e1]at hx
    by_cases e2:x=w.heap.size
    ·subst e2;exact⟨h.below.size,by rw[hsz];omega⟩
    ·rw[setOw_ne e2]at hx;exact hg.olt x o hx
  nb:=by simp[h.nb]
  nv:=h.nv
  vsl:=h.vsl
  glb:=h.glb
  box:=fun j bj hj hlj=>by
   rcases get_append_inv hj with hj|⟨_,rfl⟩
   ·obtain⟨x,cs,g1,g2,g3,g4⟩:=hg.box j bj hj hlj
    exact⟨x,cs,get_append_lt g1,hole x _ g2,g3,g4.mono (fun _ _=>get_append_lt) (fun _ _ x=>x)⟩
   ·cases hlj
  ent:=fun j e hj hlj=>by
   obtain⟨v,hv,g1,g2⟩:=hg.ent j e hj hlj;exact⟨v,hv,g1,fun hh=>(g2 hh).mono (fun _ x=>x) (fun _ _=>rfl) (fun x hx=>⟨hole x _ hx,rfl⟩)⟩
  mrk:=fun x hx=>by
   by_cases e1:x=w.heap.size+1
   ·subst e1;rw[setOw_eq]at hx;cases hx
   ·rw[setOw_ne e1]at hx
    by_cases e2:x=w.heap.size
    ·subst e2;rw[setOw_eq]at hx;cases hx;exact hk
    ·rw[setOw_ne e2]at hx;exact hg.mrk x hx
  lp:=fun j L' hj=>by
   by_cases e:j=boxes.length
   ·subst e
    rw[Bs.put_eq]at hj;cases hj
    refine⟨⟨0,[],0,false⟩,w.heap.size+1,by simp,rfl,by rw[<-h.nb];simp,setOw_eq,r,hl,hp,ha,hbd,ht.mono (fun _ _=>get_append_lt) (fun _ _ x=>x),none,rfl,hpd, ?_,fun _=>rfl⟩
    rw[ay7,hs];rfl
   ·rw[Bs.Oj _ e]at hj
    obtain⟨bx,x,g1,g2,g3,g4,g5⟩:=hg.lp j L' hj;exact⟨bx,x,get_append_lt g1,g2,get_append_lt g3,hole x _ g4,g5.mono rfl (fun _ _=>get_append_lt) (fun _ _ x=>x)⟩}
end
def alD(cfg:Cfg)(w0:World)(B:Bs T)(y:Yd (sem T)):Prop:=
 ∀(args:List (SV (sem T)))(vals:List Value)(st:St (sem T))(k:SV (sem T)->St (sem T)->Tree (sem T))(bl:List Nat)(vs:List Value)(R:Nat->Prop)(ow:Nat->Option Owner)(w:World),
  HR cfg.P w0 B bl vs R ow st.boxes st.ents w->SVRs bl vs args vals->(y.run args st k).den->aas cfg.P w0 B bl vs ow st w y.i vals k
def vP(cfg:Cfg)(w0:World):Ys (sem T)->Bs T->Prop
 |[],_=>True
 |y::ys,B=>(∃L:LStat T,B.lps y.i=some L/\L.busy=false/\∀B':Bs T,B'.R=B.R->B'.lps y.i=some L->vP cfg w0 ys B'->alD cfg w0 B' y)/\vP cfg w0 ys B
theorem vP.lps{cfg:Cfg}:∀{ys:Ys (sem T)}{B:Bs T},vP cfg w0 ys B->∀y∈ys,∃L,B.lps y.i=some L
 |[],_,_,y,hy=>by cases hy
 |y::ys,B,h,y',hy=>by
  simp only[zH]at hy;rcases hy with rfl|hy
  ·obtain⟨L,hL,_⟩:=h.1;exact⟨L,hL⟩
  ·exact vP.lps h.2 y' hy
theorem vP.mono{cfg:Cfg}:∀{ys:Ys (sem T)}{B B':Bs T},vP cfg w0 ys B->B'.R=B.R->(∀y∈ys,B'.lps y.i=B.lps y.i)->vP cfg w0 ys B'
 |[],_,_,_,_,_=>trivial
 |y::ys,B,B',h,hR,hl=>by
  obtain⟨⟨L,h1,h2,h3⟩,h4⟩:=h;exact⟨⟨L,(hl y (by simp)).trans h1,h2,fun B2 g1 g2 g3=>h3 B2 (g1.trans hR) g2 g3⟩,h4.mono hR (fun y' hy=>hl y' (by simp[hy]))⟩
theorem vP.find{cfg:Cfg}:∀{ys:Ys (sem T)}{B:Bs T},vP cfg w0 ys B->∀{i:Nat}{y:Yd (sem T)},ys.find? (fun y=>y.i==i)=some y->y.i=i/\alD cfg w0 B y
 |[],_,_,i,y,hf=>by simp at hf
 | y0::ys,B,h,i,y,hf=>by
  simp only[List.find?_cons]at hf;split at hf
  ·rename_i he
   cases hf
   obtain⟨⟨L,h1,h2,h3⟩,h4⟩:=h;exact⟨by simpa using he,h3 B rfl h1 h4⟩
  ·exact vP.find h.2 hf
theorem YS{bl:List Nat}{vs:List Value}:∀{ps:List Nat}{tmps args:List (SV (sem T))}{vals:List Value}{t:Array Value},SVRs bl vs tmps t.toList->SVRs bl vs args vals->args.length=ps.length->
  SVRs bl vs (setMany tmps ps args) ((ps.zip vals).foldl (fun t p=>t.setIfInBounds p.1 p.2) t).toList
 |[],tmps,[],vals,t,h,ha,hl=>by
  cases vals with
  |nil=>exact h
  |cons=>exact ha.elim
 | p::ps,tmps,x::args,vals,t,h,ha,hl=>by
  cases vals with
  |nil=>exact ha.elim
  |cons v vals=>
   simp only[setMany,List.zip_cons_cons,qX];refine YS ?_ ha.2 (by simpa using hl)
   rw[qK];exact h.set ha.1
 |[],_,_::_,_,_,_,_,hl=>by simp at hl
 |_::_,_,[],_,_,_,_,hl=>by simp at hl
end Go.Sx
