/-
 The law about views, walked: what it asks is true. Conditions: as typed.
-/
import Derived.Test.YtbgbcaamipknmaaGreatApaH
import Derived.Test.YtbgbcaamipknmaaGreatMemZ
import Derived.Test.YtbgbcaamipknmaaGreatViwG
set_option linter.unusedVariables false
set_option linter.unusedSimpArgs false
namespace Go.Sx.Apart
open Go Go.Proofs Go.RowKit Go.Lib Go.Sx Go.Sx.Lent Go.Sx.N
theorem rcells_cons{w:World}{R:Nat->Prop}{ow:Nat->Option Owner}{n:Nat}{p:K×Bool}{ps:List (K×Bool)}{vals:List Value}{ds:List D}(h:ResCells Tryz.prog w R ow n (p::ps) vals ds):∃v vs d ds',vals=v::vs/\ds=d::ds'/\ResCell Tryz.prog w R ow n p v d/\ResCells Tryz.prog w R ow (n+1) ps vs ds':=by
 cases vals with
 |nil=>exact h.elim
 |cons v vs=>cases ds with
  |nil=>exact h.elim
  |cons d ds=>exact⟨v,vs,d,ds,rfl,rfl,h.1,h.2⟩
theorem rcells_nil{w:World}{R:Nat->Prop}{ow:Nat->Option Owner}{n:Nat}{vals:List Value}{ds:List D}(h:ResCells Tryz.prog w R ow n [] vals ds):vals=[]/\ds=[]:=by
 cases vals with
 |nil=>cases ds with
  |nil=>exact⟨rfl,rfl⟩
  |cons d ds=>exact h.elim
 |cons v vs=>exact h.elim
theorem res_cons{w:World}{R:Nat->Prop}{ow:Nat->Option Owner}{n:Nat}{sh:VSh}{shs:List VSh}{vals:List Value}{ds:List D}(h:ResVs Tryz.prog w R ow n (sh::shs) vals ds):∃v vs d1 d2,vals=v::vs/\ds=d1++d2/\ResV Tryz.prog w R ow n sh v d1/\ResVs Tryz.prog w R ow (n+sh.width) shs vs d2:=by
 cases vals with
 |nil=>exact h.elim
 |cons v vs=>obtain⟨d1,d2,h1,h2,h3⟩:=h;exact⟨v,vs,d1,d2,rfl,h1,h2,h3⟩
theorem res_nil{w:World}{R:Nat->Prop}{ow:Nat->Option Owner}{n:Nat}{vals:List Value}{ds:List D}(h:ResVs Tryz.prog w R ow n [] vals ds):vals=[]/\ds=[]:=by
 cases vals with
 |nil=>exact⟨rfl,h⟩
 |cons v vs=>exact h.elim
theorem resTab{w:World}{R:Nat->Prop}{ow:Nat->Option Owner}{n:Nat}{k:K×Bool}{v:Value}{ds:List D}(h:ResV Tryz.prog w R ow n (.agg [(.str,false),(.bool,false),k]) v ds):
  ∃y two u d,v= .agg #[.string y, .bool two,u]/\ds=[.str y, .bool two,d]/\ResCell Tryz.prog w R ow (n+1+1) k u d:=by
 obtain⟨cs,rfl,hc⟩:=h
 obtain⟨v0,r0,d0,s0,e0,rfl,a0,hc⟩:=rcells_cons hc
 obtain⟨v1,r1,d1,s1,rfl,rfl,a1,hc⟩:=rcells_cons hc
 obtain⟨v2,r2,d2,s2,rfl,rfl,a2,hc⟩:=rcells_cons hc
 obtain⟨rfl,rfl⟩:=rcells_nil hc
 obtain⟨y,rfl,rfl⟩:=rd_str (show Rd Tryz.prog w R d0 .str v0 from a0)
 obtain⟨two,rfl,rfl⟩:=rd_bool (show Rd Tryz.prog w R d1 .bool v1 from a1)
 have:cs= #[.string y, .bool two,v2]:=Array.ext' e0
 exact⟨y,two,v2,d2,by rw[this],rfl,a2⟩
theorem resInt{w:World}{R:Nat->Prop}{ow:Nat->Option Owner}{n:Nat}{k:IntKind}{v:Value}{ds:List D}(h:ResV Tryz.prog w R ow n (.cell (.int k) false) v ds):∃x,v= .int k x/\ds=[.int x]:=by
 obtain⟨v0,r0,d0,s0,e0,rfl,a0,hc⟩:=rcells_cons h
 obtain⟨rfl,rfl⟩:=rcells_nil hc
 cases e0
 obtain⟨x,rfl,rfl,_⟩:=rd_int (show Rd Tryz.prog w R d0 (.int k) v from a0)
 exact⟨x,rfl,rfl⟩
def sgTab:VSh:= .agg [(.str,false),(.bool,false),(.sl 28,false)]
def sgTV:Sig:=⟨[sgTab, .cell (.int .i64) false],[.agg [(.str,false),(.bool,false),(.sl (28+3000000000),true)], .cell (.int .i64) false]⟩
def sgRV:Sig:=⟨[sgTab, .cell (.int .i64) false],[sgTab, .cell (.int .i64) false]⟩
def sgVA:Sig:=⟨[sgTab],[.cell .bool false]⟩
def sgVW:Sig:=⟨[sgTab, .cell (.int .i64) false],[.cell .bool false]⟩
theorem argTab{w:World}{R:Nat->Prop}{y:ByteArray}{two:Bool}{n:Nat}{f:Nat->Nat->D}{v:Value}{k:Int}(h:Rd Tryz.prog w R (.sl n f) (.sl 28) v)(hk:I64 k):ResVs Tryz.prog w R (fun _=>none) 0 [sgTab, .cell (.int .i64) false] [.agg #[.string y, .bool two,v], .int .i64 k] [.str y, .bool two, .sl n f, .int k]:=
 ⟨[.str y, .bool two, .sl n f],[.int k],rfl,⟨_,rfl,⟨rfl,rfl⟩,⟨rfl,rfl⟩,h,trivial⟩,[.int k],[],rfl,⟨⟨.i64,rfl,rfl,hk.1,hk.2⟩,trivial⟩,rfl⟩
theorem argTab1{w:World}{R:Nat->Prop}{y:ByteArray}{two:Bool}{n:Nat}{f:Nat->Nat->D}{v:Value}(h:Rd Tryz.prog w R (.sl n f) (.sl 28) v):ResVs Tryz.prog w R (fun _=>none) 0 [sgTab] [.agg #[.string y, .bool two,v]] [.str y, .bool two, .sl n f]:=
 ⟨[.str y, .bool two, .sl n f],[],rfl,⟨_,rfl,⟨rfl,rfl⟩,⟨rfl,rfl⟩,h,trivial⟩,rfl⟩
def New(w w':World)(b:Nat):Prop:=w.heap.size<=b/\b<w'.heap.size
theorem lent_c(hc:ConOK Tryz.prog 10 sgLT (Tb 10)){w:World}{y:ByteArray}{two:Bool}{n:Nat}{f:Nat->Nat->D}{v:Value}(hg:GlobOk Tryz.prog w)(h:RD w (.sl n f) (.sl 28) v)(ht:tabB ⟨n,f⟩):
  Calls Tryz.prog 10 #[.agg #[.string y, .bool two,v]] w fun e w'=>∃u,e= .returned (.agg #[.string y, .bool two,u])/\Below w.heap.size w w'/\Lt Tryz.prog w' (New w w') (.sl n f) (.sl 28) u:=by
 refine(hc w (fun b=>b<w.heap.size) [.agg #[.string y, .bool two,v]] [.str y, .bool two, .sl n f] hg (fun _ h=>h) (argTab1 h) (show p_kLentTable y two ⟨n,f⟩from ht)).mono ?_
 rintro e w' ⟨v1,rs,rfl,hpost,hb,vals,R',ow',rfl,_,_,_,ho,hr⟩
 obtain⟨v2,vs,d1,d2,rfl,rfl,hv,hr⟩:=res_cons hr
 obtain⟨rfl,rfl⟩:=res_nil hr
 obtain⟨y',two',u,d,rfl,rfl,s,rfl,hO⟩:=resTab hv
 obtain⟨rfl,rfl,e⟩:=(show q_kLentTable y two ⟨n,f⟩ y' two' s from hpost)
 subst e
 refine⟨u,rfl,hb, ?_⟩
 rcases hO.2 rfl with⟨b,_,_,es,clock,ik,kt,e2,_,hun,_⟩|⟨_,hO⟩
 ·exact(noMap_M (P:=Tryz.prog) (t:=unM (28+2000000000)) (by kernel_rfl) hun).elim
 ·exact Lt.mono (fun b hb _=>ho b _ hb) (fun _ _=>rfl) ((hO.2 rfl).2 rfl)
theorem view_c(hc:ConOK Tryz.prog 11 sgTV (Tb 11)){w:World}{y:ByteArray}{two:Bool}{n:Nat}{f:Nat->Nat->D}{v:Value}{k:Int}(hg:GlobOk Tryz.prog w)(h:RD w (.sl n f) (.sl 28) v)(hk:I64 k)(hp:okN y):
  Calls Tryz.prog 11 #[.agg #[.string y, .bool two,v], .int .i64 k] w fun e w'=>∃(y':ByteArray)(two':Bool)(u:Value)(s:Sl)(er:Int),e= .returned (.tuple #[.agg #[.string y', .bool two',u], .int .i64 er])/\Below w.heap.size w w'/\Dp Tryz.prog w' (New w w') (.sl s.n s.f) (.sl 28) u/\q_View y two ⟨n,f⟩ k y' two' s er:=by
 refine(hc w (fun b=>b<w.heap.size) [.agg #[.string y, .bool two,v], .int .i64 k] [.str y, .bool two, .sl n f, .int k] hg (fun _ h=>h) (argTab h hk) (show p_View y two ⟨n,f⟩ k from hp)).mono ?_
 rintro e w' ⟨v1,rs,rfl,hpost,hb,vals,R',ow',rfl,_,_,_,ho,hr⟩
 obtain⟨v2,vs,d1,d2,rfl,rfl,hv,hr⟩:=res_cons hr
 obtain⟨v3,vs,d3,d4,rfl,rfl,hv3,hr⟩:=res_cons hr
 obtain⟨rfl,rfl⟩:=res_nil hr
 obtain⟨y',two',u,d,rfl,rfl,s,rfl,hO⟩:=resTab hv
 obtain⟨er,rfl,rfl⟩:=resInt hv3
 refine⟨y',two',u,s,er,rfl,hb, ?_,hpost⟩
 exact Dp.mono (fun b hb _=>ho b _ hb) (fun _ _=>rfl) (((hO.deep rfl (by kernel_rfl)).2 rfl).1 rfl)
theorem rview_c(hc:ConOK Tryz.prog 12 sgRV (Tb 12)){w:World}{R:Nat->Prop}{y:ByteArray}{two:Bool}{n:Nat}{f:Nat->Nat->D}{v:Value}{k:Int}(hg:GlobOk Tryz.prog w)(hR:∀b,R b->b<w.heap.size)(h:Rd Tryz.prog w R (.sl n f) (.sl 28) v)(hk:I64 k)(hp:okN y):
  Calls Tryz.prog 12 #[.agg #[.string y, .bool two,v], .int .i64 k] w fun e w'=>∃(y':ByteArray)(two':Bool)(u:Value)(s:Sl)(er:Int),e= .returned (.tuple #[.agg #[.string y', .bool two',u], .int .i64 er])/\Below w.heap.size w w'/\Rd Tryz.prog w' (fun b=>R b\/New w w' b) (.sl s.n s.f) (.sl 28) u/\q_View y two ⟨n,f⟩ k y' two' s er:=by
 refine(hc w R [.agg #[.string y, .bool two,v], .int .i64 k] [.str y, .bool two, .sl n f, .int k] hg hR (argTab h hk) (show p_rView y two ⟨n,f⟩ k from hp)).mono ?_
 rintro e w' ⟨v1,rs,rfl,hpost,hb,vals,R',ow',rfl,_,hR',_,ho,hr⟩
 obtain⟨v2,vs,d1,d2,rfl,rfl,hv,hr⟩:=res_cons hr
 obtain⟨v3,vs,d3,d4,rfl,rfl,hv3,hr⟩:=res_cons hr
 obtain⟨rfl,rfl⟩:=res_nil hr
 obtain⟨y',two',u,d,rfl,rfl,hu⟩:=resTab hv
 have hu:Rd Tryz.prog w' R' d (.sl 28) u:=hu
 obtain⟨m,g,rfl⟩:=rd_sl hu
 obtain⟨er,rfl,rfl⟩:=resInt hv3
 exact⟨y',two',u,⟨m,g⟩,er,rfl,hb,Rd.mono hR' (fun _ _=>rfl) hu,hpost⟩
theorem valid_c{fn:FuncId}(hc:ConOK Tryz.prog fn sgVA (Tb fn)){w:World}{y:ByteArray}{two:Bool}{n:Nat}{f:Nat->Nat->D}{v:Value}{V:Bool}(hg:GlobOk Tryz.prog w)(h:RD w (.sl n f) (.sl 28) v)(hp:(Tb fn).pre [.str y, .bool two, .sl n f])(hq:∀r,(Tb fn).post [.str y, .bool two, .sl n f] [.bool r]->r=V):
  Calls Tryz.prog fn #[.agg #[.string y, .bool two,v]] w fun e w'=>e= .returned (.bool V)/\Below w.heap.size w w':=by
 refine(hc w (fun b=>b<w.heap.size) [.agg #[.string y, .bool two,v]] [.str y, .bool two, .sl n f] hg (fun _ h=>h) (argTab1 h) hp).mono ?_
 rintro e w' ⟨v1,rs,rfl,hpost,hb,vals,R',ow',rfl,_,_,_,_,hr⟩
 obtain⟨v2,vs,d1,d2,rfl,rfl,hv,hr⟩:=res_cons hr
 obtain⟨rfl,rfl⟩:=res_nil hr
 obtain⟨v0,r0,d0,s0,e0,rfl,a0,hv⟩:=rcells_cons hv
 obtain⟨rfl,rfl⟩:=rcells_nil hv
 cases e0
 obtain⟨r,rfl,rfl⟩:=rd_bool (show Rd Tryz.prog w' R' d0 .bool v2 from a0)
 rw[hq r hpost]
 exact⟨rfl,hb⟩
theorem kept_c(hc:KeptOK Tryz.prog 15 sgKT (Tb 15)){w:World}{Z:Nat->Prop}{y:ByteArray}{two:Bool}{n:Nat}{f:Nat->Nat->D}{u v:Value}(hg:GlobOk Tryz.prog w)(hl:Lt Tryz.prog w Z (.sl n f) (.sl 28) u)(h:RD w (.sl n f) (.sl 28) v)(ht:tabB ⟨n,f⟩):
  Calls Tryz.prog 15 #[.agg #[.string y, .bool two,u], .agg #[.string y, .bool two,v]] w fun e w'=>e= .returned (.bool true)/\Below w.heap.size w w':=by
 refine(hc w [.agg #[.string y, .bool two,u], .agg #[.string y, .bool two,v]] [.str y, .bool two, .sl n f, .str y, .bool two, .sl n f] hg
  ⟨[.str y, .bool two, .sl n f],[.str y, .bool two, .sl n f],rfl,⟨_,rfl,⟨rfl,rfl⟩,⟨rfl,rfl⟩,Lt.mono (fun _ _ _=>trivial) (fun _ _=>rfl) hl,trivial⟩,[.str y, .bool two, .sl n f],[],rfl,⟨_,rfl,⟨rfl,rfl⟩,⟨rfl,rfl⟩,h,trivial⟩,rfl⟩
  (show p_kKeptTable y two ⟨n,f⟩ y two ⟨n,f⟩from⟨rfl,rfl,rfl,ht⟩)).mono ?_
 rintro e w' ⟨v1,rs,rfl,hpost,hb,vals,R',ow',rfl,_,_,_,_,hr⟩
 obtain⟨v2,vs,d1,d2,rfl,rfl,hv,hr⟩:=res_cons hr
 obtain⟨rfl,rfl⟩:=res_nil hr
 obtain⟨v0,r0,d0,s0,e0,rfl,a0,hv⟩:=rcells_cons hv
 obtain⟨rfl,rfl⟩:=rcells_nil hv
 cases e0
 obtain⟨r,rfl,rfl⟩:=rd_bool (show Rd Tryz.prog w' R' d0 .bool v2 from a0)
 obtain rfl:=(show q_kKeptTable y two ⟨n,f⟩ y two ⟨n,f⟩ r from hpost)
 exact⟨rfl,hb⟩
theorem over_c(hc:OverOK Tryz.prog 16 sgOT){w:World}{Z:Nat->Prop}{y:ByteArray}{two:Bool}{n:Nat}{f:Nat->Nat->D}{u:Value}(hg:GlobOk Tryz.prog w)(hl:Lt Tryz.prog w Z (.sl n f) (.sl 28) u):
  Calls Tryz.prog 16 #[.agg #[.string y, .bool two,u]] w fun e w'=>e= .returned (.tuple #[])/\BelowX Z w w':=
 hc w Z [.agg #[.string y, .bool two,u]] [.str y, .bool two, .sl n f] hg ⟨[.str y, .bool two, .sl n f],[],rfl,⟨_,rfl,⟨rfl,rfl⟩,⟨rfl,rfl⟩,hl,trivial⟩,rfl⟩
theorem same_c(hc:ConOK Tryz.prog 17 sgST (Tb 17)){w:World}{y:ByteArray}{two:Bool}{s t:Sl}{u v:Value}(hg:GlobOk Tryz.prog w)(h1:RD w (.sl s.n s.f) (.sl 28) u)(h2:RD w (.sl t.n t.f) (.sl 28) v)(he:rowsEq s t):
  Calls Tryz.prog 17 #[.agg #[.string y, .bool two,u], .agg #[.string y, .bool two,v]] w fun e w'=>e= .returned (.bool true)/\Below w.heap.size w w':=
 true_of (vals:=[.agg #[.string y, .bool two,u], .agg #[.string y, .bool two,v]]) (ds:=[.str y, .bool two, .sl s.n s.f, .str y, .bool two, .sl t.n t.f]) hc rfl hg
  ⟨[.str y, .bool two, .sl s.n s.f],[.str y, .bool two, .sl t.n t.f],rfl,⟨_,rfl,⟨rfl,rfl⟩,⟨rfl,rfl⟩,h1,trivial⟩,[.str y, .bool two, .sl t.n t.f],[],rfl,⟨_,rfl,⟨rfl,rfl⟩,⟨rfl,rfl⟩,h2,trivial⟩,rfl⟩
  (show p_kSameTable y two s y two t from trivial) (fun r hr=>(show q_kSameTable y two s y two t r from hr).2 ⟨rfl,rfl,he⟩)
theorem boxed(w:World)(c0 c1 c2:Value):Below w.heap.size w (w.alloc (.cells #[c0,c1,c2] 32 (0,0)))/\(w.alloc (.cells #[c0,c1,c2] 32 (0,0))).heap[w.heap.size]? =some (.cells #[c0,c1,c2] 32 (0,0))/\(w.alloc (.cells #[c0,c1,c2] 32 (0,0))).heap.size=w.heap.size+1:=
 ⟨(Below.refl w.heap.size w).alloc (Nat.le_refl _) _,heap_alloc_new w _,by simp⟩
theorem box3{w:World}{x:Nat}{c0 c1 c2:Value}{t:TypeId}(h:w.heap[x]? =some (.cells #[c0,c1,c2] t (0,0))):w.cell? ⟨x,0,none⟩=some c0/\w.cell? ⟨x,1,none⟩=some c1/\w.cell? ⟨x,2,none⟩=some c2:=by
 simp[World.cell?,h]
theorem keepB{w w':World}{x:Nat}{o:Obj}(hb:Below w.heap.size w w')(h:w.heap[x]? =some o):w'.heap[x]? =some o:=(hb.block x (Array.getElem?_eq_some_iff.1 h).1).trans h
theorem keepX{Z:Nat->Prop}{w w':World}{x:Nat}{o:Obj}(hb:BelowX Z w w')(h:w.heap[x]? =some o)(hz:¬Z x):w'.heap[x]? =some o:=(hb.block x (Array.getElem?_eq_some_iff.1 h).1 hz).trans h
theorem forced_len{s t:Sl}{k:Int}(hE:forcedS s k t)(s4:s.len<=400):t.len<=400:=by
 obtain⟨g,h1,h2,_⟩:=hE
 have:∀n:Nat,(n:Int)<t.len->(n:Int)<=g n:=by
  intro n
  induction n with
  |zero=>intro h;exact(h1 0 (Int.le_refl _) h).1.1.1
  |succ n ih=>
   intro h
   have a:=ih (by omega)
   have b:=h2 n (n+1:Nat) (by omega) (by omega) h
   omega
 rcases Int.lt_or_le 400 t.len with c|c
 ·have a:=this (t.len.toNat-1) (by omega)
  have b:=(h1 ((t.len.toNat-1:Nat):Int) (by omega) (by omega)).1.1.2
  omega
 ·exact c
theorem view_b{y y':ByteArray}{two two':Bool}{s t:Sl}{k e:Int}(h:q_View y two s k y' two' t e):t.n<=10000/\∀i j,i<t.n->j=4\/j=6->(t.f i j).toS.n<=1000000000:=by
 by_cases hv:validT y two s
 ·obtain⟨_,_,hf,_⟩:=h.2 hv
  have h4:=forced_len hf hv.2.1
  unfold Sl.len at h4
  refine⟨by omega,fun i j hi hj=> ?_⟩
  have ok:okF (t.bool i 3) (t.sub i 4) (t.bool i 5) (t.sub i 6):=(forced_right hf hv.2.2.2 (i:=(i:Int)) (by omega) (by unfold Sl.len;omega)).2.2.2.2
  have o1:(((t.f i 4).toS.n:Nat):Int)<=256:=ok.2.1
  have o2:(((t.f i 6).toS.n:Nat):Int)<=256:=ok.2.2
  rcases hj with rfl|rfl<;>omega
 ·obtain⟨⟨_,_,h0⟩,_⟩:=h.1 hv
  unfold Sl.len at h0
  exact⟨by omega,fun i j hi hj=>by omega⟩
theorem view_same{y y1 y2:ByteArray}{two t1 t2:Bool}{s s1 s2:Sl}{k e1 e2:Int}(h:q_View y two s k y1 t1 s1 e1)(g:q_View y two s k y2 t2 s2 e2):e1=e2/\y1=y2/\t1=t2/\rowsEq s1 s2:=by
 by_cases hv:validT y two s
 ·obtain⟨rfl,rfl,h1,rfl⟩:=h.2 hv
  obtain⟨rfl,rfl,g1,rfl⟩:=g.2 hv
  exact⟨rfl,rfl,rfl,forced_det h1 g1⟩
 ·obtain⟨h1,rfl⟩:=h.1 hv
  obtain⟨g1,rfl⟩:=g.1 hv
  obtain⟨a,b,c⟩:=zeroT_same h1 g1
  exact⟨rfl,a,b,c⟩
theorem rd_form{w:World}{R:Nat->Prop}{n:Nat}{f:Nat->Nat->D}{e:TypeId}{v:Value}(h:Rd Tryz.prog w R (.sl n f) (.sl e) v):∃a m c,v= .slice a m c:=by
 obtain⟨_,a,cap,_,hv,_⟩:=h
 exact⟨a,n,cap,hv⟩
set_option maxHeartbeats 16000000 in
set_option maxRecDepth 100000 in
theorem views_w(SM:Sames)(cLT:ConOK Tryz.prog 10 sgLT (Tb 10))(cTV:ConOK Tryz.prog 11 sgTV (Tb 11))(cRV:ConOK Tryz.prog 12 sgRV (Tb 12))(cVA:ConOK Tryz.prog 13 sgVA (Tb 13))(cRA:ConOK Tryz.prog 14 sgVA (Tb 14))(cKT:KeptOK Tryz.prog 15 sgKT (Tb 15))(cOT:OverOK Tryz.prog 16 sgOT)(cST:ConOK Tryz.prog 17 sgST (Tb 17))
  (hgl:∀w,GlobOk Tryz.prog w) {w:World} {R:Nat->Prop} {y:ByteArray} {two:Bool} {n:Nat} {f:Nat->Nat->D} {v:Value} {k:Int} (hR:∀b,R b->b<w.heap.size) (h:Rd Tryz.prog w R (.sl n f) (.sl 28) v) (hk:I64 k) (hp:okN y) (ht:tabB ⟨n,f⟩):
  Calls Tryz.prog 5 #[.agg #[.string y, .bool two,v], .int .i64 k] w fun e w'=>e= .returned (.bool true)/\Below w.heap.size w w':=by
 obtain⟨va,vm,vc,rfl⟩:=rd_form h
 have hA:=(Below.refl w.heap.size w).alloc (Nat.le_refl _) (.cells #[.string y, .bool two, .slice va vm vc] 32 (0,0))
 have sA:(w.alloc (.cells #[.string y, .bool two, .slice va vm vc] 32 (0,0))).heap.size=w.heap.size+1:=by simp
 have b0:=heap_alloc_new w (.cells #[.string y, .bool two, .slice va vm vc] 32 (0,0))
 have hAd:∀{w':World},Below w.heap.size w w'->Rd Tryz.prog w' R (.sl n f) (.sl 28) (.slice va vm vc):=fun hb=>Rd.mono (fun _ h=>h) (fun b hb'=>hb.block b (hR b hb')) h
 have rdW:∀{w':World},Below w.heap.size w w'->RD w' (.sl n f) (.sl 28) (.slice va vm vc):=fun hb=>Rd.mono (fun b hb'=>Nat.lt_of_lt_of_le (hR b hb') hb.size) (fun _ _=>rfl) (hAd hb)
 obtain⟨V,hV⟩:∃V:Bool,V=true↔validT y two ⟨n,f⟩:=by
  by_cases h:validT y two ⟨n,f⟩
  ·exact⟨true,fun _=>h,fun _=>rfl⟩
  ·exact⟨false,Iff.intro (fun e=>Bool.noConfusion e) (fun g=>absurd g h)⟩
 have hVr:∀r:Bool,(r=true↔validT y two ⟨n,f⟩)->r=V:=fun r hr=>Bool.eq_iff_iff.2 (hr.trans hV.symm)
 go_enter Tryz.func5,Tryz.ntmps5
 go_wp2_with fail
 refine(lent_c cLT (hgl _) (rdW hA) ht).mono ?_
 rintro e w1 ⟨u,rfl,hb1,l1⟩
 obtain⟨ua,um,uc,rfl⟩:=Lt.slv l1
 have B1:=hA.trans (hb1.mono hA.size)
 replace b0:=keepB hb1 b0
 obtain⟨x1,b1,s1⟩:=boxed w1 (.string y) (.bool two) (.slice ua um uc)
 have hs1:=hb1.size
 rw[sA]at hs1
 have l1':=Lt.mono (Z':=New (w.alloc (.cells #[.string y, .bool two, .slice va vm vc] 32 (0,0))) w1) (fun b hb _=>hb) (fun b hb=>x1.block b hb.2) l1
 go_wp2_with fail
 refine(view_c cTV (hgl _) (Lt.rd (R:=fun b=>b<(w1.alloc (.cells #[.string y, .bool two, .slice ua um uc] 32 (0,0))).heap.size) (fun b _ hb=>hb) l1') hk hp).mono ?_
 rintro e w2 ⟨y1,two1,u1,t1,e1,rfl,hb2,k1,q1⟩
 obtain⟨u1a,u1m,u1c,rfl⟩:=Dp.slv k1
 have B2:=B1.trans ((x1.trans (hb2.mono x1.size)).mono B1.size)
 replace b0:=keepB hb2 (keepB x1 b0)
 replace b1:=keepB hb2 b1
 have hs2:=hb2.size
 rw[s1]at hs2
 replace l1:=Lt.mono (Z':=New (w.alloc (.cells #[.string y, .bool two, .slice va vm vc] 32 (0,0))) w1) (fun b hb _=>hb) (fun b hb=>hb2.block b (by have:=hb.2;rw[s1];omega)) l1'
 obtain⟨x2,b2,s2⟩:=boxed w2 (.string y1) (.bool two1) (.slice u1a u1m u1c)
 obtain⟨c0,c1,c2⟩:=box3 (keepB x2 b0)
 have hR2:∀b,R b->b<(w2.alloc (.cells #[.string y1, .bool two1, .slice u1a u1m u1c] 32 (0,0))).heap.size:=fun b hb=>by have:=hR b hb;rw[s2];omega
 go_wp2_with fail
 refine(rview_c cRV (hgl _) hR2 (hAd (B2.trans (x2.mono B2.size))) hk hp).mono ?_
 rintro e w3 ⟨y2,two2,u2,t2,e2,rfl,hb3,k2,q2⟩
 obtain⟨u2a,u2m,u2c,rfl⟩:=rd_form k2
 obtain⟨he,hy,htw,hrows⟩:=view_same q1 q2
 subst e2 y2 two2
 have B3:=B2.trans ((x2.trans (hb3.mono x2.size)).mono B2.size)
 replace b0:=keepB hb3 (keepB x2 b0)
 replace b1:=keepB hb3 (keepB x2 b1)
 replace b2:=keepB hb3 b2
 have hs3:=hb3.size
 rw[s2]at hs3
 have t3:=x2.trans (hb3.mono x2.size)
 replace l1:=Lt.mono (Z':=New (w.alloc (.cells #[.string y, .bool two, .slice va vm vc] 32 (0,0))) w1) (fun b hb _=>hb) (fun b hb=>t3.block b (by have:=hb.2;omega)) l1
 replace k1:=Dp.mono (Z':=New (w1.alloc (.cells #[.string y, .bool two, .slice ua um uc] 32 (0,0))) w2) (fun b hb _=>hb) (fun b hb=>t3.block b hb.2) k1
 obtain⟨x3,b3,s3⟩:=boxed w3 (.string y1) (.bool two1) (.slice u2a u2m u2c)
 have B3x:=B3.trans (x3.mono B3.size)
 obtain⟨W,hW⟩:∃W,W=w3.alloc (.cells #[.string y1, .bool two1, .slice u2a u2m u2c] 32 (0,0)):=⟨_,rfl⟩
 rw[<-hW]at x3 b3 s3 B3x
 replace b0:=keepB x3 b0
 replace b1:=keepB x3 b1
 replace b2:=keepB x3 b2
 replace l1:=Lt.mono (Z':=New (w.alloc (.cells #[.string y, .bool two, .slice va vm vc] 32 (0,0))) w1) (fun b hb _=>hb) (fun b hb=>x3.block b (by have:=hb.2;omega)) l1
 replace k1:=Dp.mono (Z':=New (w1.alloc (.cells #[.string y, .bool two, .slice ua um uc] 32 (0,0))) w2) (fun b hb _=>hb) (fun b hb=>x3.block b (by have:=hb.2;omega)) k1
 replace k2:Rd Tryz.prog W (fun b=>R b\/New (w2.alloc (.cells #[.string y1, .bool two1, .slice u1a u1m u1c] 32 (0,0))) w3 b) (.sl t2.n t2.f) (.sl 28) (.slice u2a u2m u2c):=Rd.mono (fun _ h=>h) (fun b hb=>x3.block b (by
  rcases hb with hb|hb
  ·have:=hR b hb;have:=B3.size;omega
  ·exact hb.2)) k2
 have lx:∀x:Bw W,Lt Tryz.prog x.v (New (w.alloc (.cells #[.string y, .bool two, .slice va vm vc] 32 (0,0))) w1) (.sl n f) (.sl 28) (.slice ua um uc):=fun x=>Lt.mono (fun b hb _=>hb) (fun b hb=>x.h.block b (by have:=hb.2;omega)) l1
 have vx:∀x:Bw W,RD x.v (.sl n f) (.sl 28) (.slice va vm vc):=fun x=>rdW (B3x.trans (x.h.mono B3x.size))
 have c0:∀x:Bw W,x.v.cell? ⟨w.heap.size,0,none⟩=some (.string y):=fun x=>(box3 (keepB x.h b0)).1
 have c1:∀x:Bw W,x.v.cell? ⟨w.heap.size,1,none⟩=some (.bool two):=fun x=>(box3 (keepB x.h b0)).2.1
 have c2:∀x:Bw W,x.v.cell? ⟨w.heap.size,2,none⟩=some (.slice va vm vc):=fun x=>(box3 (keepB x.h b0)).2.2
 have d0:∀x:Bw W,x.v.cell? ⟨w1.heap.size,0,none⟩=some (.string y):=fun x=>(box3 (keepB x.h b1)).1
 have d1:∀x:Bw W,x.v.cell? ⟨w1.heap.size,1,none⟩=some (.bool two):=fun x=>(box3 (keepB x.h b1)).2.1
 have d2:∀x:Bw W,x.v.cell? ⟨w1.heap.size,2,none⟩=some (.slice ua um uc):=fun x=>(box3 (keepB x.h b1)).2.2
 have callV:∀x:Bw W,Calls Tryz.prog 13 #[.agg #[.string y, .bool two, .slice ua um uc]] x.v fun e w'=>e= .returned (.bool V)/\∃y:Bw W,w'=y.v:=fun x=>calls_bw (valid_c cVA (hgl _) (Lt.rd (R:=fun b=>b<x.v.heap.size) (fun b _ hb=>hb) (lx x)) (show p_tValid y two ⟨n,f⟩from hp) (fun r hr=>hVr r (show q_tValid y two ⟨n,f⟩ r from hr)))
 have callR:∀x:Bw W,Calls Tryz.prog 14 #[.agg #[.string y, .bool two, .slice va vm vc]] x.v fun e w'=>e= .returned (.bool V)/\∃y:Bw W,w'=y.v:=fun x=>calls_bw (valid_c cRA (hgl _) (vx x) (show p_rTValid y two ⟨n,f⟩from hp) (fun r hr=>hVr r (show q_rTValid y two ⟨n,f⟩ r from hr)))
 have callK:∀x:Bw W,Calls Tryz.prog 15 #[.agg #[.string y, .bool two, .slice ua um uc], .agg #[.string y, .bool two, .slice va vm vc]] x.v fun e w'=>e= .returned (.bool true)/\∃y:Bw W,w'=y.v:=fun x=>calls_bw (kept_c cKT (hgl _) (lx x) (vx x) ht)
 go_wp2_with fail
 rw[<-hW]
 refine wp_region_bw (by kernel_rfl) (by kernel_rfl) ?_
 repeat(go_big_quiet_step (first|exact callV _|exact callR _|exact callK _))
 refine wpQuiet_nil ?_
 intro _ hw'
 obtain⟨xb,hw''⟩:=hw'
 subst hw''
 have B4:=B3x.trans (xb.h.mono B3x.size)
 have l4:=lx xb
 have b1':=keepB xb.h b1
 replace b2:=keepB xb.h b2
 replace b3:=keepB xb.h b3
 have hs4:=xb.h.size
 replace k1:=Dp.mono (Z':=New (w1.alloc (.cells #[.string y, .bool two, .slice ua um uc] 32 (0,0))) w2) (fun b hb _=>hb) (fun b hb=>xb.h.block b (by have:=hb.2;omega)) k1
 replace k2:=Rd.mono (R':=fun b=>R b\/New (w2.alloc (.cells #[.string y1, .bool two1, .slice u1a u1m u1c] 32 (0,0))) w3 b) (fun _ h=>h) (fun b hb=>xb.h.block b (by
  rcases hb with hb|hb
  ·have:=hR b hb;have:=B3x.size;omega
  ·have:=hb.2;omega)) k2
 obtain⟨g0,g1,g2⟩:=box3 b1'
 clear c0 c1 c2 d0 d1 d2 callV callR callK lx
 go_wp2_with fail
 refine(view_c cTV (hgl _) (Lt.rd (R:=fun b=>b<xb.v.heap.size) (fun b _ hb=>hb) l4) hk hp).mono ?_
 rintro e w5 ⟨y3,two3,u3,t3,e3,rfl,hb5,k3,q3⟩
 obtain⟨u3a,u3m,u3c,rfl⟩:=Dp.slv k3
 have B5:=B4.trans (hb5.mono B4.size)
 have hs5:=hb5.size
 obtain⟨x5,b5,s5⟩:=boxed w5 (.string y3) (.bool two3) (.slice u3a u3m u3c)
 have B5x:=B5.trans (x5.mono B5.size)
 have h5:=hb5.trans (x5.mono hb5.size)
 replace b1':=keepB h5 b1'
 replace b2:=keepB h5 b2
 replace b3:=keepB h5 b3
 replace l4:=Lt.mono (Z':=New (w.alloc (.cells #[.string y, .bool two, .slice va vm vc] 32 (0,0))) w1) (fun b hb _=>hb) (fun b hb=>h5.block b (by have:=hb.2;omega)) l4
 replace k1:=Dp.mono (Z':=New (w1.alloc (.cells #[.string y, .bool two, .slice ua um uc] 32 (0,0))) w2) (fun b hb _=>hb) (fun b hb=>h5.block b (by have:=hb.2;omega)) k1
 replace k2:=Rd.mono (R':=fun b=>R b\/New (w2.alloc (.cells #[.string y1, .bool two1, .slice u1a u1m u1c] 32 (0,0))) w3 b) (fun _ h=>h) (fun b hb=>h5.block b (by
  rcases hb with hb|hb
  ·have:=hR b hb;have:=B4.size;omega
  ·have:=hb.2;omega)) k2
 replace k3:=Dp.mono (Z':=New xb.v w5) (fun b hb _=>hb) (fun b hb=>x5.block b hb.2) k3
 obtain⟨g0,g1,g2⟩:=box3 b1'
 go_wp2_with fail
 refine(over_c cOT (hgl _) l4).mono ?_
 rintro e w6 ⟨rfl,x6⟩
 have nz:∀b,w1.heap.size<=b\/b<w.heap.size->¬New (w.alloc (.cells #[.string y, .bool two, .slice va vm vc] 32 (0,0))) w1 b:=fun b hb hz=>by
  have a1:=hz.1
  have a2:=hz.2
  rw[sA]at a1
  omega
 have hs6:=x6.size
 rw[s5]at hs6
 have B6:Below w.heap.size w w6:=B5x.trans ⟨x6.os,x6.tape,x6.output,x6.size,fun b hb=>x6.block b (by have:=B5x.size;omega) (nz b (.inr hb))⟩
 replace b2:=keepX x6 b2 (nz _ (.inl (by omega)))
 replace b3:=keepX x6 b3 (nz _ (.inl (by omega)))
 replace b5:=keepX x6 b5 (nz _ (.inl (by omega)))
 replace k1:=Dp.mono (Z':=New (w1.alloc (.cells #[.string y, .bool two, .slice ua um uc] 32 (0,0))) w2) (fun b hb _=>hb) (fun b hb=>x6.block b (by have:=hb.2;omega) (nz b (.inl (by have:=hb.1;omega)))) k1
 replace k2:=Rd.mono (R':=fun b=>R b\/New (w2.alloc (.cells #[.string y1, .bool two1, .slice u1a u1m u1c] 32 (0,0))) w3 b) (fun _ h=>h) (fun b hb=>by
  rcases hb with hb|hb
  ·exact x6.block b (by have:=hR b hb;have:=B5x.size;omega) (nz b (.inr (hR b hb)))
  ·exact x6.block b (by have:=hb.2;omega) (nz b (.inl (by have:=hb.1;omega)))) k2
 replace k3:=Dp.mono (Z':=New xb.v w5) (fun b hb _=>hb) (fun b hb=>x6.block b (by have:=hb.2;omega) (nz b (.inl (by have:=hb.1;omega)))) k3
 obtain⟨g0,g1,g2⟩:=box3 b2
 obtain⟨g3,g4,g5⟩:=box3 b3
 go_wp2_with fail
 refine(same_c cST (hgl _) (Dp.rd (R:=fun b=>b<w6.heap.size) (fun b _ hb=>hb) k1) (Rd.mono (fun b hb=>by
  rcases hb with hb|hb
  ·have:=hR b hb;have:=B6.size;omega
  ·have:=hb.2;omega) (fun _ _=>rfl) k2) hrows).mono ?_
 rintro e w7 ⟨rfl,hb7⟩
 have B7:=B6.trans (hb7.mono B6.size)
 have hs7:=hb7.size
 replace b2:=keepB hb7 b2
 replace b5:=keepB hb7 b5
 obtain⟨g0,g1,g2⟩:=box3 b2
 obtain⟨g3,g4,g5⟩:=box3 b5
 replace k1:=Dp.mono (Z':=New (w1.alloc (.cells #[.string y, .bool two, .slice ua um uc] 32 (0,0))) w2) (fun b hb _=>hb) (fun b hb=>hb7.block b (by have:=hb.2;omega)) k1
 replace k3:=Dp.mono (Z':=New xb.v w5) (fun b hb _=>hb) (fun b hb=>hb7.block b (by have:=hb.2;omega)) k3
 have xa:=(Below.refl w7.heap.size w7).alloc (Nat.le_refl _) (.cells #[.string y1, .bool two1, .slice u1a u1m u1c, .string y3, .bool two3, .slice u3a u3m u3c] 32 (0,0))
 have xc:=xa.alloc xa.size (.cells #[.slice (some ⟨w7.heap.size,0,none⟩) 2 2] 47 (0,0))
 have hτ:=(Below.heap_alloc (w7.alloc (.cells #[.string y1, .bool two1, .slice u1a u1m u1c, .string y3, .bool two3, .slice u3a u3m u3c] 32 (0,0))) (.cells #[.slice (some ⟨w7.heap.size,0,none⟩) 2 2] 47 (0,0)) w7.heap.size (by simp)).trans (heap_alloc_new w7 _)
 have hL:=heap_alloc_new (w7.alloc (.cells #[.string y1, .bool two1, .slice u1a u1m u1c, .string y3, .bool two3, .slice u3a u3m u3c] 32 (0,0))) (.cells #[.slice (some ⟨w7.heap.size,0,none⟩) 2 2] 47 (0,0))
 rw[show(w7.alloc (.cells #[.string y1, .bool two1, .slice u1a u1m u1c, .string y3, .bool two3, .slice u3a u3m u3c] 32 (0,0))).heap.size=w7.heap.size+1 by simp]at hL
 have hz7:=B7.size
 go_wp2_with fail
 refine(apartTables SM hgl (N:=w.heap.size) (Nat.le_trans B7.size xc.size) hL hτ (by omega)
  (Dp.mono (Z':=New (w1.alloc (.cells #[.string y, .bool two, .slice ua um uc] 32 (0,0))) w2) (fun b hb _=>hb) (fun b hb=>xc.block b (by have:=hb.2;omega)) k1) (Dp.mono (Z':=New xb.v w5) (fun b hb _=>hb) (fun b hb=>xc.block b (by have:=hb.2;omega)) k3)
  (fun b hb=>by have:=hb.1;omega) (fun b hb=>by have:=hb.1;omega) (fun b h1 h2=>by have:=h1.2;have:=h2.1;omega) (view_b q1).1 (view_b q3).1 (view_b q1).2 (view_b q3).2).mono ?_
 rintro e w8 ⟨rfl,hb8⟩
 go_wp2
 go_ret
 exact⟨rfl,(B7.trans (xc.mono B7.size)).trans hb8⟩
theorem views_h{l:List Nat}(h:OKA l)(hl:([52,23,59,17,11,12,13,14].all l.contains)=true):ConOK Tryz.prog 5 sgVW (Tb 5):=by
 have hl':=List.all_eq_true.1 hl
 have hgl:∀w,GlobOk Tryz.prog w:=fun w=>globOk_none (by kernel_rfl)
 have h4:([52,23,59,17].all l.contains)=true:=List.all_eq_true.2 fun x hx=>hl' x (by simp only[List.mem_cons,List.not_mem_nil,or_false]at hx⊢;omega)
 intro w R vals ds hg hR ha hp
 obtain⟨v1,vs,d1,d2,rfl,rfl,hv,ha⟩:=res_cons ha
 obtain⟨v2,vs,d3,d4,rfl,rfl,hv2,ha⟩:=res_cons ha
 obtain⟨rfl,rfl⟩:=res_nil ha
 obtain⟨y,two,u,d,rfl,rfl,hu⟩:=resTab hv
 have hu:Rd Tryz.prog w R d (.sl 28) u:=hu
 obtain⟨n,f,rfl⟩:=rd_sl hu
 obtain⟨v0,r0,d0,s0,e0,rfl,a0,hc⟩:=rcells_cons hv2
 obtain⟨rfl,rfl⟩:=rcells_nil hc
 cases e0
 obtain⟨k,rfl,rfl,hk⟩:=rd_int (show Rd Tryz.prog w R d0 (.int .i64) v2 from a0)
 obtain⟨hn,ht⟩:=(show p_views y two ⟨n,f⟩ k from hp)
 refine(views_w (sames h h4) kLentTable_h (SigOk.con h (hl' 11 (by simp)) (sg:=sgTV) rfl) (SigOk.con h (hl' 12 (by simp)) (sg:=sgRV) rfl) (SigOk.con h (hl' 13 (by simp)) (sg:=sgVA) rfl) (SigOk.con h (hl' 14 (by simp)) (sg:=sgVA) rfl) (kKeptTable_h h h4) overTable_ok (SigOk.con h (hl' 17 (by simp)) (sg:=sgST) rfl) hgl hR hu hk hn ht).mono ?_
 rintro e w' ⟨rfl,hb⟩
 exact⟨_,[.bool true],rfl,(show q_views y two ⟨n,f⟩ k true from rfl),hb,boolOk⟩
end Go.Sx.Apart
