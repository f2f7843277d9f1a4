/-
 Slices that lie apart: what is marked stays marked. Conditions: as typed.
-/
import Derived.Test.YtbgbcaamipknmaaGreatEngE
import Derived.Test.YtbgbcaamipknmaaGreatProg
set_option linter.unusedVariables false
set_option linter.unusedSimpArgs false
namespace Go.Sx.Apart
open Go Go.Proofs Go.RowKit Go.Lib Go.Sx
structure Fr(N:Nat)(E:TypeId->Prop)(w w':World):Prop where
 bl:Below N w w'
 ty:∀(x:Nat)(cs:Array Value)(t:TypeId)(fz:Nat×Nat),w.heap[x]? =some (.cells cs t fz)->¬E t->w'.heap[x]? =some (.cells cs t fz)
section
variable{N:Nat}{E:TypeId->Prop}{w0 w w':World}
theorem Fr.refl(N:Nat)(E:TypeId->Prop)(w:World):Fr N E w w:=⟨Below.refl _ _,fun _ _ _ _ h _=>h⟩
theorem Fr.trans(h:Fr N E w0 w)(k:Fr N E w w'):Fr N E w0 w':=⟨h.bl.trans k.bl,fun x cs t fz hx ht=>k.ty x cs t fz (h.ty x cs t fz hx ht) ht⟩
theorem Fr.below(h:Fr N E w0 w)(k:Below w.heap.size w w')(hN:N<=w.heap.size):Fr N E w0 w':=
 h.trans ⟨k.mono hN,fun x cs t fz hx _=>(k.block x (Array.getElem?_eq_some_iff.1 hx).1).trans hx⟩
theorem Fr.grown(h:Fr N E w0 w)(k:w.grownBy w' none)(hN:N<=w.heap.size):Fr N E w0 w':=
 h.below ⟨k.os,k.tape,k.output,k.size,fun x hx=>k.block x hx (by simp)⟩ hN
theorem Fr.alloc(h:Fr N E w0 w)(hN:N<=w.heap.size)(o:Obj):Fr N E w0 (w.alloc o):=h.below ((Below.refl w.heap.size w).alloc (Nat.le_refl _) o) hN
theorem Fr.new(h:Fr N E w0 w){a:Addr}(hN:N<=w0.heap.size)(ha:w0.heap.size<=a.block)(v:Value):Fr N E w0 (w.setCell a v):=
 ⟨h.bl.setCell (Nat.le_trans hN ha) v,fun x cs t fz hx ht=>by
  have hl:=(Array.getElem?_eq_some_iff.1 hx).1
  rw[Below.heap_setCell _ _ _ _ (by omega)]
  exact h.ty x cs t fz hx ht⟩
theorem Fr.row(h:Fr N E w0 w){g:Nat}{cur cur':Array Value}{e:TypeId}(hg:w.heap[g]? =some (.cells cur e (0,0)))(he:E e)(hN:N<=g):Fr N E w0 (w.setRow g cur'):=
 h.trans ⟨⟨rfl,rfl,rfl,by rw[setRow_size];exact Nat.le_refl _,fun x hx=>setRow_other w g x cur' (by omega)⟩,fun x cs t fz hx ht=>(setRow_other w g x cur' (fun e=>by subst e;rw[hg]at hx;cases hx;exact ht he)).trans hx⟩
theorem Fr.size(h:Fr N E w0 w):w0.heap.size<=w.heap.size:=h.bl.size
end
def Row(w:World)(e:TypeId)(size:Nat)(v:Value)(n:Nat)(xs:List Value):Prop:=
 xs.length=n*size/\((n=0/\∃a:Option Addr,v= .slice a 0 0)\/∃(g cap:Nat)(cur:Array Value),v= .slice (some ⟨g,0,none⟩) n cap/\0<cap/\n<=cap/\cap<=maxLen/\w.heap[g]? =some (.cells cur e (0,0))/\cur.size=cap*size/\cur.toList.take (n*size)=xs)
section
variable{w w':World}{e:TypeId}{size n:Nat}{v:Value}{xs:List Value}
theorem Row.keep(h:Row w e size v n xs)(hk:∀g,blkOf v=some g->w'.heap[g]? =w.heap[g]?):Row w' e size v n xs:=by
 refine⟨h.1,h.2.imp id fun⟨g,cap,cur,hv,h1,h2,h3,h4,h5,h6⟩=>⟨g,cap,cur,hv,h1,h2,h3,(hk g ?_).trans h4,h5,h6⟩⟩
 subst hv
 cases cap with
 |zero=>omega
 |succ c=>rfl
theorem Row.lt(h:Row w e size v n xs){g:Nat}(hg:blkOf v=some g):g<w.heap.size:=by
 rcases h.2 with⟨_,a,rfl⟩|⟨g',cap,cur,rfl,h1,_,_,h4,_⟩
 ·cases a<;>cases hg
 ·cases cap with
  |zero=>omega
  |succ c=>cases hg;exact(Array.getElem?_eq_some_iff.1 h4).1
theorem Row.below(h:Row w e size v n xs)(hb:Below w.heap.size w w'):Row w' e size v n xs:=h.keep fun g hg=>hb.block g (h.lt hg)
theorem Row.one(h:Row w e size v n xs):v.oneCell'=true:=by
 rcases h.2 with⟨_,a,rfl⟩|⟨g',cap,cur,rfl,_⟩<;>rfl
theorem Row.form(h:Row w e size v n xs):∃a cap,v= .slice a n cap/\n<=cap:=by
 rcases h.2 with⟨rfl,a,rfl⟩|⟨g,cap,cur,rfl,_,h2,_⟩
 ·exact⟨a,0,rfl,Nat.le_refl _⟩
 ·exact⟨_,cap,rfl,h2⟩
theorem Row.blk(h:Row w e size v n xs)(hn:0<n):∃(g cap:Nat)(cur:Array Value),v= .slice (some ⟨g,0,none⟩) n cap/\blkOf v=some g/\w.heap[g]? =some (.cells cur e (0,0))/\n*size<=cur.size/\∀(q:Nat)(u:Value),xs[q]? =some u->cur[q]? =some u:=by
 rcases h.2 with⟨rfl,_⟩|⟨g,cap,cur,rfl,h1,h2,h3,h4,h5,h6⟩
 ·omega
 ·refine⟨g,cap,cur,rfl, ?_,h4, ?_,fun q u hu=> ?_⟩
  ·cases cap with
   |zero=>omega
   |succ c=>rfl
  ·rw[h5];exact Nat.mul_le_mul_right _ h2
  ·rw[<-h6,List.getElem?_take]at hu
   split at hu
   ·simpa using hu
   ·cases hu
theorem Row.set(h:Row w e size v n xs){g q:Nat}(hg:blkOf v=some g)(u:Value):Row (w.setCell ⟨g,q,none⟩ u) e size v n (xs.set q u):=by
 refine⟨by rw[List.length_set];exact h.1, ?_⟩
 rcases h.2 with h0|⟨g',cap,cur,rfl,h1,h2,h3,h4,h5,h6⟩
 ·exact .inl h0
 ·refine .inr ?_
  cases cap with
  |zero=>omega
  | succ c=>
   cases hg
   refine⟨g',_,cur.setIfInBounds q u,rfl,h1,h2,h3, ?_,by simpa using h5, ?_⟩
   ·rw[setCell_eq_setRow w g' q cur e (0,0) u h4]
    exact setRow_heap _ _ _ _ _ _ h4
   ·rw[Array.toList_setIfInBounds,List.take_set,h6]
theorem Row.cut(h:Row w e size v n xs){n0:Nat}{v0:Value}{ys:List Value}(h0:Row w e size v0 n0 ys)(hn:n0<=n){g cap:Nat}(hv:v= .slice (some ⟨g,0,none⟩) n cap)(hv0:v0= .slice (some ⟨g,0,none⟩) n0 cap)(hc:0<cap):
  ys=xs.take (n0*size):=by
 subst hv hv0
 rcases h.2 with⟨_,a,ha⟩|⟨g1,cap1,cur1,e1,h1,h2,h3,h4,h5,h6⟩
 ·cases ha;omega
 rcases h0.2 with⟨_,a,ha⟩|⟨g2,cap2,cur2,e2,k1,k2,k3,k4,k5,k6⟩
 ·cases ha;omega
 cases e1
 cases e2
 rw[h4]at k4
 cases k4
 rw[<-h6,<-k6,List.take_take,Nat.min_eq_left (Nat.mul_le_mul_right _ hn)]
end
section
variable(M:Nat->Nat->List Value)(size:Nat)
def marks(k n:Nat):List Value:=(List.range n).flatMap (M k)
variable{M size}
theorem marks_len(hM:∀k i,(M k i).length=size)(k n:Nat):(marks M k n).length=n*size:=by
 unfold marks
 induction n with
 |zero=>simp
 |succ n ih=>rw[List.range_succ,List.flatMap_append,List.length_append,ih,List.flatMap_singleton,hM,Nat.succ_mul]
theorem marks_succ(k n:Nat):marks M k (n+1)=marks M k n++M k n:=by
 unfold marks
 rw[List.range_succ,List.flatMap_append,List.flatMap_singleton]
theorem marks_get(hM:∀k i,(M k i).length=size){k n i j:Nat}(hi:i<n)(hj:j<size):(marks M k n)[i*size+j]? =(M k i)[j]? :=by
 induction n with
 |zero=>omega
 | succ n ih=>
  rw[marks_succ]
  by_cases h:i<n
  ·have:i*size+j<n*size:=by
    have:(i+1)*size<=n*size:=Nat.mul_le_mul_right _ h
    rw[Nat.succ_mul]at this
    omega
   rw[List.getElem?_append_left (by rw[marks_len hM];exact this)]
   exact ih h
  ·have:i=n:=by omega
   subst this
   rw[List.getElem?_append_right (by rw[marks_len hM];omega),marks_len hM]
   congr 1
   omega
end
def setMany(X:List Value)(q:Nat):List Value->List Value
 |[]=>X
 |u::us=>setMany (X.set q u) (q+1) us
theorem setMany_take:∀(us X:List Value)(q:Nat),q+us.length<=X.length->(setMany X q us).take (q+us.length)=X.take q++us
 |[],X,q,_=>by simp[setMany]
 |u::us,X,q,h=>by
  rw[List.length_cons]at h
  rw[setMany,List.length_cons,show q+(us.length+1)=q+1+us.length by omega,setMany_take us _ _ (by simp;omega)]
  rw[List.take_add_one,List.take_set_of_le (by omega),List.getElem?_set_self (by omega)]
  simp
inductive App(w w':World)(e:TypeId)(size:Nat)(v v':Value)(n m:Nat):Prop where
 |here (g cap:Nat) (cur cur':Array Value):v= .slice (some ⟨g,0,none⟩) n cap->v'= .slice (some ⟨g,0,none⟩) (n+m) cap->0<cap->w.heap[g]? =some (.cells cur e (0,0))->w'=w.setRow g cur'->cur'.size=cur.size->cur'.toList.take (n*size)=cur.toList.take (n*size)->App w w' e size v v' n m
 |new:blkOf v'=some w.heap.size->Below w.heap.size w w'->App w w' e size v v' n m
theorem run_app{P:Program}(w:World)(t ty e:TypeId)(i:TypeInfo)(z:Value)(size bytes:Nat)(ht:P.underlying t=some (.slice e))(hi:P.info? e=some i)(hz:i.zero=some z)
  (hsize:i.size=size) (hby:i.bytes=bytes) (hzs:z.cells.size=size) (hsz:0<size)
  (v:Value) (n:Nat) (xs:List Value) (hrow:Row w e size v n xs)
  (a:Addr) (m c:Nat) (news:List Value) (hm:0<m) (hl:news.length=m*size) (hnews:∀j u,news[j]? =some u->w.cell? (a.add j)=some u) (h1:∀u∈news,u.oneCell'=true)
  (hbytes:(n+m)*bytes<=140737488355328) (hb0:0<bytes):
  ∃v' w',(Builtin.append_ #[t,t] ty #[v, .slice (some a) m c]).run P w= .ok v' w'/\Row w' e size v' (n+m) (xs++news)/\App w w' e size v v' n m:=by
 subst hsize
 subst hby
 have hnm:n+m<=(n+m)*i.bytes:=Nat.le_mul_of_pos_right _ hb0
 have h63:n+m<=maxLen:=by simp only[maxLen];omega
 have hsmall:n+m<=9223372036854775807:=by simp only[maxLen]at h63;omega
 have hlen:(xs++news).length=(n+m)*i.size:=by rw[List.length_append,hrow.1,hl,Nat.add_mul]
 have grown:∀(old:Nat),old<n+m->
   Row (w.drew.alloc (.cells (xs.toArray++news.toArray++Builtin.zeroCells z.cells (grownCap w (n+m) old e-(n+m))) e)) e i.size (.slice (some ⟨w.heap.size,0,none⟩) (n+m) (grownCap w (n+m) old e)) (n+m) (xs++news)/\
   App w (w.drew.alloc (.cells (xs.toArray++news.toArray++Builtin.zeroCells z.cells (grownCap w (n+m) old e-(n+m))) e)) e i.size v (.slice (some ⟨w.heap.size,0,none⟩) (n+m) (grownCap w (n+m) old e)) n m:=by
  intro old ho
  have hge:=grownCap_ge w (n+m) old e
  have hcm:grownCap w (n+m) old e<=maxLen:=grownCap_le_maxLen w (n+m) old e h63
  refine⟨⟨hlen, .inr ⟨w.heap.size,_,_,rfl,by omega,hge,hcm,heap_alloc_new w.drew _, ?_, ?_⟩⟩, .new ?_ ⟨rfl,rfl,rfl,by simp,fun k hk=>Below.heap_alloc w.drew _ k hk⟩⟩
  ·simp only[Array.size_append,List.size_toArray,size_zeroCells,hzs,hrow.1,hl,<-Nat.add_mul]
   congr 1
   omega
  ·simp only[Array.toList_append,List.append_assoc]
   rw[<-List.append_assoc,<-hlen]
   exact List.take_left
  ·generalize grownCap w (n+m) old e=c at hge
   cases c with
   |zero=>omega
   |succ c=>rfl
 rcases hrow.2 with⟨rfl,ad,rfl⟩|⟨g,cap,cur,rfl,hc0,hnc,hcm,hg,hcs,htake⟩
 ·have hx:xs=[]:=List.eq_nil_of_length_eq_zero (by simpa using hrow.1)
  subst hx
  cases ad with
  |none=>
   have hr:=run_append_nil (P:=P) w t ty e i z ht hi hz a m c news hl hnews hm (by omega) (by have hb:=hbytes;simp only[Nat.zero_add]at hb;omega)
   have hgr:=grown 0 (by omega)
   simp only[Nat.zero_add,List.nil_append,Array.empty_append]at hgr⊢
   exact⟨_,_,hr,hgr.1,hgr.2⟩
  |some ad=>
   have hr:=run_append_grow (P:=P) w t ty e i z ht hi hz ad 0 0 [] (by simp) (fun j v h=>by simp at h) a m c news hl hnews (by omega) (by omega) (growslice_fits (by omega) hbytes)
   have hgr:=grown 0 (by omega)
   exact⟨_,_,hr,hgr.1,hgr.2⟩
 ·by_cases hroom:n+m<=cap
  ·have hfit:n*i.size+news.length<=cur.size:=by rw[hl,hcs,<-Nat.add_mul];exact Nat.mul_le_mul_right _ hroom
   have hr:=run_append_room (P:=P) w t ty e i ht hi g n cap cur hg a m c news hl hnews h1 hroom hfit
   refine⟨_,_,hr,⟨hlen, .inr ⟨g,cap,_,rfl,hc0,hroom,hcm,setRow_heap w g cur _ e _ hg, ?_, ?_⟩⟩, .here g cap cur _ rfl rfl hc0 hg rfl ?_ ?_⟩
   ·simp only[List.size_toArray,List.length_append,List.length_take,List.length_drop,Array.length_toList]
    omega
   ·rw[htake,<-hlen]
    exact List.take_left
   ·simp only[List.size_toArray,List.length_append,List.length_take,List.length_drop,Array.length_toList]
    omega
   ·show((cur.toList.take (n*i.size)++news)++_).take _=_
    rw[List.append_assoc]
    exact List.take_left' (by rw[htake];exact hrow.1)
  ·have holds:∀j u,xs[j]? =some u->w.cell? ((⟨g,0,none⟩:Addr).add j)=some u:=fun j u hu=>by
    rw[Addr.add_lit]
    have hj:j<n*i.size:=by rw[<-hrow.1];exact(List.getElem?_eq_some_iff.1 hu).1
    rw[<-htake,List.getElem?_take,if_pos hj]at hu
    simpa[World.cell?,hg]using hu
   have hr:=run_append_grow (P:=P) w t ty e i z ht hi hz ⟨g,0,none⟩ n cap xs hrow.1 holds a m c news hl hnews (by omega) (by omega) (growslice_fits (by omega) hbytes)
   have hgr:=grown cap (by omega)
   exact⟨_,_,hr,hgr.1,hgr.2⟩
theorem wpList_app{P:Program}(w:World){ops:Array Oper}{rest:List Oper}{o:Oper}{a:Act}{Q:Exit->Act->World->Prop}(hgd:o.guard=none)(s x:Operand)(t:TypeId)
  (ho:o.op= .call {callee:= .builtin .append,args:= #[s,x],argTypes:= #[t,t]})
  (e:TypeId) (i:TypeInfo) (z:Value) (size bytes:Nat) (ht:P.underlying t=some (.slice e)) (hi:P.info? e=some i) (hz:i.zero=some z)
  (hsize:i.size=size) (hby:i.bytes=bytes) (hzs:z.cells.size=size) (hsz:0<size)
  (v:Value) (n:Nat) (xs:List Value) (hs:a.eval s=v) (hrow:Row w e size v n xs)
  (ad:Addr) (m c:Nat) (news:List Value) (hx:a.eval x= .slice (some ad) m c) (hm:0<m) (hl:news.length=m*size) (hnews:∀j u,news[j]? =some u->w.cell? (ad.add j)=some u) (h1:∀u∈news,u.oneCell'=true)
  (hbytes:(n+m)*bytes<=140737488355328) (hb0:0<bytes)
  (h:∀v' w',Row w' e size v' (n+m) (xs++news)->App w w' e size v v' n m->wpList P ops Q rest (a.put o.dst v') w'):wpList P ops Q (o::rest) a w:=by
 refine wpList_plain hgd fun K hK=> ?_
 obtain⟨v',w',hr,h2,h3⟩:=run_app (P:=P) w t o.type e i z size bytes ht hi hz hsize hby hzs hsz v n xs hrow ad m c news hm hl hnews h1 hbytes hb0
 unfold Oper.wp execOp
 simp only[ho,resolve,invoke,builtin,Sem.run_bind,Sem.run_pure,Result.andThen_ok,List.map_toArray,List.map_cons,List.map_nil,hs,hx,hr]
 exact hK _ _ (h v' w' h2 h3)
section
variable{w w':World}{e:TypeId}{size n m:Nat}{v v':Value}{N:Nat}{E:TypeId->Prop}{w0:World}
theorem App.other(h:App w w' e size v v' n m){n0:Nat}{v0:Value}{ys:List Value}(h0:Row w e size v0 n0 ys)(hne:∀g,blkOf v0=some g->blkOf v≠some g):Row w' e size v0 n0 ys:=by
 cases h with
 |new _ hb=>exact h0.below hb
 |here g cap cur cur' hv hv' hc hg hw hs ht=>
  subst hw
  refine h0.keep fun x hx=>setRow_other w g x cur' fun hh=>hne x hx ?_
  subst hv hh
  cases cap with
  |zero=>omega
  |succ c=>rfl
theorem App.own(h:App w w' e size v v' n m){n0:Nat}{v0:Value}{ys:List Value}(h0:Row w e size v0 n0 ys)(hn:n0<=n):Row w' e size v0 n0 ys:=by
 cases h with
 |new _ hb=>exact h0.below hb
 | here g cap cur cur' hv hv' hc hg hw hs ht=>
  subst hw
  refine⟨h0.1,h0.2.imp id fun⟨g1,cap1,cur1,e1,k1,k2,k3,k4,k5,k6⟩=> ?_⟩
  by_cases hh:g1=g
  ·subst hh
   rw[hg]at k4
   cases k4
   refine⟨g1,cap1,cur',e1,k1,k2,k3,setRow_heap _ _ _ _ _ _ hg,hs.trans k5, ?_⟩
   have h2:n0*size<=n*size:=Nat.mul_le_mul_right _ hn
   have:=congrArg (List.take (n0*size)) ht
   rw[List.take_take,List.take_take,Nat.min_eq_left h2]at this
   exact this.trans k6
  ·exact⟨g1,cap1,cur1,e1,k1,k2,k3,(setRow_other w g g1 cur' hh).trans k4,k5,k6⟩
theorem App.blk(h:App w w' e size v v' n m):blkOf v'=blkOf v\/blkOf v'=some w.heap.size:=by
 cases h with
 |new hb _=>exact .inr hb
 |here g cap cur cur' hv hv' hc hg hw hs ht=>
  subst hv hv'
  cases cap with
  |zero=>omega
  |succ c=>exact .inl rfl
theorem App.fr(h:App w w' e size v v' n m)(hf:Fr N E w0 w)(he:E e)(hN:N<=w.heap.size)(hv:∀g,blkOf v=some g->N<=g):Fr N E w0 w':=by
 cases h with
 |new _ hb=>exact hf.below hb hN
 |here g cap cur cur' hv' _ hc hg hw hs ht=>
  subst hw
  refine hf.row hg he (hv g ?_)
  subst hv'
  cases cap with
  |zero=>omega
  |succ c=>rfl
theorem App.grows(h:App w w' e size v v' n m):w.heap.size<=w'.heap.size:=by
 cases h with
 |new _ hb=>exact hb.size
 |here g cap cur cur' hv' _ hc hg hw hs ht=>
  subst hw
  rw[setRow_size]
  exact Nat.le_refl _
theorem App.ty(h:App w w' e size v v' n m){x:Nat}{cs:Array Value}{t:TypeId}{fz:Nat×Nat}(hx:w.heap[x]? =some (.cells cs t fz))(ht:t≠e):w'.heap[x]? =some (.cells cs t fz):=by
 cases h with
 |new _ hb=>exact(hb.block x (Array.getElem?_eq_some_iff.1 hx).1).trans hx
 |here g cap cur cur' hv' _ hc hg hw hs _=>
  subst hw
  exact(setRow_other w g x cur' fun hh=>by subst hh;rw[hg]at hx;cases hx;exact ht rfl).trans hx
end
structure Slices(w:World)(e:TypeId)(size N:Nat)(vs:List Value)(nn:Nat->Nat)(S:Nat->List Value):Prop where
 row:∀(k:Nat)(v:Value),vs[k]? =some v->Row w e size v (nn k) (S k)
 ap:∀(k k':Nat)(v v':Value)(c:Nat),vs[k]? =some v->vs[k']? =some v'->blkOf v=some c->blkOf v'=some c->k=k'
 lo:∀(k:Nat)(v:Value)(c:Nat),vs[k]? =some v->blkOf v=some c->N<=c
theorem Slices.step{w w':World}{e:TypeId}{size N:Nat}{vs:List Value}{nn:Nat->Nat}{S S':Nat->List Value}(h:Slices w e size N vs nn S)(hr:∀(k:Nat)(v:Value),vs[k]? =some v->Row w' e size v (nn k) (S' k)):Slices w' e size N vs nn S':=
 ⟨hr,h.ap,h.lo⟩
theorem Slices.below{w w':World}{e:TypeId}{size N:Nat}{vs:List Value}{nn:Nat->Nat}{S:Nat->List Value}(h:Slices w e size N vs nn S)(hb:Below w.heap.size w w'):Slices w' e size N vs nn S:=
 h.step fun k v hk=>(h.row k v hk).below hb
def upd(S:Nat->List Value)(k:Nat)(X:List Value):Nat->List Value:=fun j=>if j=k then X else S j
theorem Slices.set{w:World}{e:TypeId}{size N:Nat}{vs:List Value}{nn:Nat->Nat}{S:Nat->List Value}(h:Slices w e size N vs nn S){k g q:Nat}{v:Value}(hv:vs[k]? =some v)(hg:blkOf v=some g)(u:Value):
  Slices (w.setCell ⟨g,q,none⟩ u) e size N vs nn (upd S k ((S k).set q u)):=by
 refine h.step fun k' v' hk'=> ?_
 unfold upd
 by_cases hh:k'=k
 ·subst hh
  rw[hv]at hk'
  cases hk'
  rw[if_pos rfl]
  exact(h.row _ _ hv).set hg u
 ·rw[if_neg hh]
  exact(h.row _ _ hk').keep fun x hx=>Below.heap_setCell w _ _ x fun hx'=>hh (h.ap _ _ _ _ x hk' hv hx (hg.trans (by rw[hx'])))
def Longer(w:World)(e:TypeId)(size N0:Nat)(vs:List Value)(G:Array Value)(k:Nat)(L:Nat->Nat)(X:Nat->List Value):Prop:=
 ∀j,j<k->∃g v:Value,G[j]? =some g/\vs[j]? =some v/\Row w e size g (L j) (X j)/\(blkOf g=blkOf v\/∃c,blkOf g=some c/\N0<=c)
theorem Longer.app{w w':World}{e:TypeId}{size N N0:Nat}{vs:List Value}{nn:Nat->Nat}{S:Nat->List Value}{G:Array Value}{k n m Nk:Nat}{L:Nat->Nat}{X:Nat->List Value}{v v' u:Value}(h:Longer w e size N0 vs G k L X)(hs:Slices w e size N vs nn S)(hk:vs[k]? =some u)
  (hlt:∀(j:Nat)(v:Value)(c:Nat),vs[j]? =some v->blkOf v=some c->c<N0) (hv:blkOf v=blkOf u\/∃c,blkOf v=some c/\Nk<=c/\N0<=c) (hG:∀(j:Nat)(g:Value)(c:Nat),j<k->G[j]? =some g->blkOf g=some c->c<Nk) (ha:App w w' e size v v' n m):Longer w' e size N0 vs G k L X:=by
 intro j hj
 obtain⟨g,y,h1,h2,h3,h4⟩:=h j hj
 refine⟨g,y,h1,h2,ha.other h3 fun c hc hvc=> ?_,h4⟩
 have hlk:=hG j g c hj h1 hc
 rcases hv with hv|⟨c',hv,hv1,hv2⟩
 ·rw[hv]at hvc
  rcases h4 with h4|⟨c2,h4,h5⟩
  ·have:=hs.ap j k y u c h2 hk (by rw[<-h4];exact hc) hvc
   omega
  ·rw[hc]at h4
   cases h4
   have:=hlt k u c hk hvc
   omega
 ·rw[hv]at hvc
  cases hvc
  omega
theorem Fr.drew{N:Nat}{E:TypeId->Prop}{w0 w:World}(h:Fr N E w0 w):Fr N E w0 w.drew:=⟨h.bl.drew,h.ty⟩
theorem Fr.cell{N:Nat}{E:TypeId->Prop}{w0 w:World}(h:Fr N E w0 w){g i:Nat}{cur:Array Value}{e:TypeId}(hg:w.heap[g]? =some (.cells cur e (0,0)))(he:E e)(hN:N<=g)(v:Value):Fr N E w0 (w.setCell ⟨g,i,none⟩ v):=by
 rw[setCell_eq_setRow w g i cur e (0,0) v hg]
 exact h.row hg he hN
theorem Row.drew{w:World}{e:TypeId}{size n:Nat}{v:Value}{xs:List Value}(h:Row w e size v n xs):Row w.drew e size v n xs:=h
theorem Slices.drew{w:World}{e:TypeId}{size N:Nat}{vs:List Value}{nn:Nat->Nat}{S:Nat->List Value}(h:Slices w e size N vs nn S):Slices w.drew e size N vs nn S:=h.step fun k v hk=>(h.row k v hk).drew
theorem Row.ne{w:World}{e t:TypeId}{size n x y:Nat}{v:Value}{xs:List Value}{cs:Array Value}{fz:Nat×Nat}(h:Row w e size v n xs)(hx:blkOf v=some x)(hy:w.heap[y]? =some (.cells cs t fz))(ht:t≠e):x≠y:=by
 intro hh
 subst hh
 rcases h.2 with⟨_,a,rfl⟩|⟨g',cap,cur,rfl,h1,_,_,h4,_⟩
 ·cases a<;>cases hx
 ·cases cap with
  |zero=>omega
  |succ c=>
   cases hx
   rw[hy]at h4
   cases h4
   exact ht rfl
theorem marks_store{M:Nat->Nat->List Value}{size:Nat}(hM:∀k i,(M k i).length=size){X:List Value}{k q:Nat}(h:X.take (q*size)=marks M k q)(hl:(q+1)*size<=X.length):(setMany X (q*size) (M k q)).take ((q+1)*size)=marks M k (q+1):=by
 have e:(q+1)*size=q*size+(M k q).length:=by rw[hM,Nat.succ_mul]
 rw[e,setMany_take _ _ _ (by rw[<-e];exact hl),h,marks_succ]
theorem Slices.full{w:World}{e:TypeId}{size N:Nat}{vs:List Value}{nn:Nat->Nat}{S:Nat->List Value}(h:Slices w e size N vs nn S){k:Nat}{v:Value}{X:List Value}(hv:vs[k]? =some v)(ht:(S k).take (nn k*size)=X):S k=X:=by
 rw[<-ht,List.take_of_length_le (by rw[(h.row k v hv).1];exact Nat.le_refl _)]
theorem upd_at(S:Nat->List Value)(k:Nat)(X:List Value):upd S k X k=X:=if_pos rfl
theorem upd_ne(S:Nat->List Value){k j:Nat}(X:List Value)(h:j≠k):upd S k X j=S j:=if_neg h
theorem Slices.away{w:World}{e:TypeId}{size N:Nat}{vs:List Value}{nn:Nat->Nat}{S:Nat->List Value}(h:Slices w e size N vs nn S){a:Addr}{u:Value}(hne:∀(k:Nat)(v:Value)(c:Nat),vs[k]? =some v->blkOf v=some c->c≠a.block):Slices (w.setCell a u) e size N vs nn S:=
 h.step fun k v hk=>(h.row k v hk).keep fun x hx=>Below.heap_setCell w a u x (hne k v x hk hx)
theorem Longer.away{w:World}{e:TypeId}{size N0:Nat}{vs:List Value}{G:Array Value}{k:Nat}{L:Nat->Nat}{X:Nat->List Value}(h:Longer w e size N0 vs G k L X){a:Addr}{u:Value}(hne:∀(j:Nat)(g:Value)(c:Nat),j<k->G[j]? =some g->blkOf g=some c->c≠a.block):Longer (w.setCell a u) e size N0 vs G k L X:=by
 intro j hj
 obtain⟨g,v,h1,h2,h3,h4⟩:=h j hj
 exact⟨g,v,h1,h2,h3.keep fun x hx=>Below.heap_setCell w a u x (hne j g x hj h1 hx),h4⟩
theorem Longer.below{w w':World}{e:TypeId}{size N0:Nat}{vs:List Value}{G:Array Value}{k:Nat}{L:Nat->Nat}{X:Nat->List Value}(h:Longer w e size N0 vs G k L X)(hb:Below w.heap.size w w'):Longer w' e size N0 vs G k L X:=by
 intro j hj
 obtain⟨g,v,h1,h2,h3,h4⟩:=h j hj
 exact⟨g,v,h1,h2,h3.below hb,h4⟩
theorem Longer.blk{w:World}{e:TypeId}{size N0:Nat}{vs:List Value}{G:Array Value}{k:Nat}{L:Nat->Nat}{X:Nat->List Value}(h:Longer w e size N0 vs G k L X){j c:Nat}{g:Value}(hj:j<k)(hg:G[j]? =some g)(hc:blkOf g=some c):c<w.heap.size:=by
 obtain⟨g',v,h1,h2,h3,h4⟩:=h j hj
 rw[hg]at h1
 cases h1
 exact h3.lt hc
theorem Longer.nblk{w:World}{e t:TypeId}{size N0:Nat}{vs:List Value}{G:Array Value}{k:Nat}{L:Nat->Nat}{X:Nat->List Value}(h:Longer w e size N0 vs G k L X){j c y:Nat}{g:Value}(hj:j<k)(hg:G[j]? =some g)(hc:blkOf g=some c){cs:Array Value}{fz:Nat×Nat}(hy:w.heap[y]? =some (.cells cs t fz))(ht:t≠e):c≠y:=by
 obtain⟨g',v,h1,h2,h3,h4⟩:=h j hj
 rw[hg]at h1
 cases h1
 exact h3.ne hc hy ht
theorem Longer.put{w:World}{e:TypeId}{size N0:Nat}{vs:List Value}{G:Array Value}{k:Nat}{L:Nat->Nat}{X:Nat->List Value}(h:Longer w e size N0 vs G k L X){g v:Value}(hk:k<G.size)(hv:vs[k]? =some v)(hr:Row w e size g (L k) (X k))(hb:blkOf g=blkOf v\/∃c,blkOf g=some c/\N0<=c):Longer w e size N0 vs (G.setIfInBounds k g) (k+1) L X:=by
 intro j hj
 by_cases hh:j=k
 ·subst hh
  exact⟨g,v,by simp[hk],hv,hr,hb⟩
 ·obtain⟨g',v',h1,h2,h3,h4⟩:=h j (by omega)
  exact⟨g',v',by rw[Array.getElem?_setIfInBounds_ne (by omega)];exact h1,h2,h3,h4⟩
theorem Longer.congr{w:World}{e:TypeId}{size N0:Nat}{vs:List Value}{G:Array Value}{k:Nat}{L:Nat->Nat}{X X':Nat->List Value}(h:Longer w e size N0 vs G k L X)(hX:∀j,j<k->X' j=X j):Longer w e size N0 vs G k L X':=by
 intro j hj
 rw[hX j hj]
 exact h j hj
theorem Slices.app{w w':World}{e:TypeId}{size N n m k:Nat}{vs:List Value}{nn:Nat->Nat}{S:Nat->List Value}{v v' u:Value}(h:Slices w e size N vs nn S)(hk:vs[k]? =some u)(hn:nn k<=n)(hv:blkOf v=blkOf u\/∃c,blkOf v=some c/\∀(j:Nat)(y:Value)(x:Nat),vs[j]? =some y->blkOf y=some x->x<c)
  (ha:App w w' e size v v' n m):Slices w' e size N vs nn S:=
 h.step fun j y hj=>by
  by_cases hh:j=k
  ·subst hh
   exact ha.own (h.row j y hj) hn
  ·refine ha.other (h.row j y hj) fun g hg hvg=> ?_
   rcases hv with hv|⟨c,hv,hlt⟩
   ·exact hh (h.ap j k y u g hj hk hg (by rw[<-hv];exact hvg))
   ·rw[hv]at hvg
    cases hvg
    have:=hlt j y _ hj hg
    omega
theorem made_row{w:World}{base:Nat}{e:TypeId}{size g n:Nat}{xs:List Value}(h:w.ownsRow base e size (.slice (some ⟨g,0,none⟩) n n) n xs):base<=g/\∃cur:Array Value,w.heap[g]? =some (.cells cur e (0,0))/\cur.size=n*size/\cur.toList=xs:=by
 rcases h.2 with⟨h,_⟩|⟨g',cap,cur,h,hb,hg,_,_,hcs,htake⟩
 ·cases h
 ·cases h
  refine⟨hb,cur,hg,hcs, ?_⟩
  rw[<-htake,List.take_of_length_le (by simp[hcs])]
theorem made_one(z:Array Value)(n:Nat)(hz:0<z.size)(h:∀u∈z.toList,u.oneCell'=true):∀u∈(madeCells z n).toList,u.oneCell'=true:=by
 intro u hu
 unfold madeCells at hu
 simp only[Array.toList_map,List.mem_map]at hu
 obtain⟨i,_,rfl⟩:=hu
 have hi:i % z.size<z.size:=Nat.mod_lt _ hz
 rw[getElem!_pos z _ hi]
 exact h _ (by simp)
theorem one_set{cur:Array Value}(h:∀u∈cur.toList,u.oneCell'=true)(q:Nat){x:Value}(hx:x.oneCell'=true):∀u∈(cur.setIfInBounds q x).toList,u.oneCell'=true:=by
 intro u hu
 rw[Array.toList_setIfInBounds]at hu
 rcases List.mem_or_eq_of_mem_set hu with hu|rfl
 ·exact h u hu
 ·exact hx
theorem held_cell{w:World}{g q:Nat}{cur:Array Value}{e:TypeId}(h:w.heap[g]? =some (.cells cur e (0,0)))(hq:q<cur.size):w.cell? ⟨g,q,none⟩=some (cur.getD q undef)/\w.frozen? ⟨g,q,none⟩=false:=by
 simp[World.cell?,World.frozen?,h,Array.getD,hq]
theorem heap_away{w:World}{a:Addr}{u:Value}{x:Nat}{o:Obj}(h:w.heap[x]? =some o)(hne:x≠a.block):(w.setCell a u).heap[x]? =some o:=(Below.heap_setCell w a u x hne).trans h
theorem heap_at{w:World}{g i:Nat}{cur:Array Value}{e:TypeId}{v:Value}(h:w.heap[g]? =some (.cells cur e (0,0))):(w.setCell ⟨g,i,none⟩ v).heap[g]? =some (.cells (cur.setIfInBounds i v) e (0,0)):=by
 rw[setCell_eq_setRow w g i cur e (0,0) v h]
 exact setRow_heap _ _ _ _ _ _ h
theorem row_news{w:World}{g:Nat}{cur:Array Value}{e:TypeId}(h:w.heap[g]? =some (.cells cur e (0,0))):∀j u,cur.toList[j]? =some u->w.cell? ((⟨g,0,none⟩:Addr).add j)=some u:=by
 intro j u hu
 rw[Addr.add_lit]
 simpa[World.cell?,h]using hu
theorem take_get{xs ys:List Value}{n q:Nat}{u:Value}(h:xs.take n=ys)(hu:ys[q]? =some u):xs[q]? =some u:=by
 rw[<-h,List.getElem?_take]at hu
 split at hu
 ·exact hu
 ·cases hu
def putCells(w:World)(g q:Nat):List Value->World
 |[]=>w
 |u::us=>putCells (w.setCell ⟨g,q,none⟩ u) g (q+1) us
theorem put_away{g x:Nat}(hx:x≠g):∀(us:List Value)(w:World)(q:Nat),(putCells w g q us).heap[x]? =w.heap[x]?
 |[],_,_=>rfl
 |u::us,w,q=>(put_away hx us _ _).trans (Below.heap_setCell w ⟨g,q,none⟩ u x hx)
theorem put_at{g:Nat}{e:TypeId}:∀(us:List Value)(w:World)(q:Nat)(cur:Array Value),w.heap[g]? =some (.cells cur e (0,0))->
  ∃cur':Array Value,(putCells w g q us).heap[g]? =some (.cells cur' e (0,0))/\cur'.size=cur.size/\((∀u∈cur.toList,u.oneCell'=true)->(∀u∈us,u.oneCell'=true)->∀u∈cur'.toList,u.oneCell'=true)
 |[],_,_,cur,h=>⟨cur,h,rfl,fun h _=>h⟩
 |u::us,w,q,cur,h=>by
  obtain⟨cur',h1,h2,h3⟩:=put_at us _ (q+1) _ (heap_at (i:=q) (v:=u) h)
  exact⟨cur',h1,by simpa using h2,fun k1 k2=>h3 (one_set k1 q (k2 u (by simp))) fun x hx=>k2 x (by simp[hx])⟩
theorem Fr.puts{N:Nat}{E:TypeId->Prop}{w0:World}{g:Nat}{e:TypeId}(he:E e)(hN:N<=g):∀(us:List Value){w:World}{q:Nat}{cur:Array Value},Fr N E w0 w->w.heap[g]? =some (.cells cur e (0,0))->Fr N E w0 (putCells w g q us)
 |[],_,_,_,h,_=>h
 |u::us,w,q,cur,h,hg=>Fr.puts he hN us (h.cell hg he hN u) (heap_at hg)
theorem Fr.putsNew{N:Nat}{E:TypeId->Prop}{w0:World}{g:Nat}(hN:N<=w0.heap.size)(hg:w0.heap.size<=g):∀(us:List Value){w:World}{q:Nat},Fr N E w0 w->Fr N E w0 (putCells w g q us)
 |[],_,_,h=>h
 |u::us,w,q,h=>Fr.putsNew hN hg us (h.new hN hg u)
theorem upd_upd(S:Nat->List Value)(k:Nat)(X Y:List Value):upd (upd S k X) k Y=upd S k Y:=by
 funext j
 unfold upd
 split<;>rfl
theorem Slices.puts{e:TypeId}{size N:Nat}{vs:List Value}{nn:Nat->Nat}{k g:Nat}{v:Value}(hv:vs[k]? =some v)(hg:blkOf v=some g):∀(us:List Value){w:World}{S:Nat->List Value}{q:Nat},Slices w e size N vs nn S->Slices (putCells w g q us) e size N vs nn (upd S k (setMany (S k) q us))
 | [],w,S,q,h=>by
  have e:upd S k (S k)=S:=by
   funext j
   unfold upd
   split
   ·rename_i hj;rw[hj]
   ·rfl
  show Slices w _ _ _ _ _ (upd S k (S k))
  rw[e]
  exact h
 |u::us,w,S,q,h=>by
  have:=Slices.puts hv hg us (q:=q+1) (h.set (q:=q) hv hg u)
  rw[upd_at,upd_upd]at this
  exact this
theorem Slices.keep{w w':World}{e:TypeId}{size N:Nat}{vs:List Value}{nn:Nat->Nat}{S:Nat->List Value}(h:Slices w e size N vs nn S)(hk:∀(k:Nat)(v:Value)(c:Nat),vs[k]? =some v->blkOf v=some c->w'.heap[c]? =w.heap[c]?):Slices w' e size N vs nn S:=
 h.step fun k v hv=>(h.row k v hv).keep fun x hx=>hk k v x hv hx
theorem Longer.keep{w w':World}{e:TypeId}{size N0:Nat}{vs:List Value}{G:Array Value}{k:Nat}{L:Nat->Nat}{X:Nat->List Value}(h:Longer w e size N0 vs G k L X)(hk:∀(j:Nat)(g:Value)(c:Nat),j<k->G[j]? =some g->blkOf g=some c->w'.heap[c]? =w.heap[c]?):Longer w' e size N0 vs G k L X:=by
 intro j hj
 obtain⟨g,v,h1,h2,h3,h4⟩:=h j hj
 exact⟨g,v,h1,h2,h3.keep fun x hx=>hk j g x hj h1 hx,h4⟩
end Go.Sx.Apart
