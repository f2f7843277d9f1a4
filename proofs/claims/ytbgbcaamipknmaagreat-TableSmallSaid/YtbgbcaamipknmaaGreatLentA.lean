/-
 Several texts in one. Conditions: none.
-/
import Derived.Test.YtbgbcaamipknmaaGreatEngE
import Derived.Test.YtbgbcaamipknmaaGreatProg
import Derived.BigQuiet
set_option linter.unusedVariables false
set_option linter.unusedSimpArgs false
namespace Go.Sx.Lent
open Go Go.Proofs Go.RowKit Go.Lib Go.Sx
structure Ov(Z:Nat->Prop)(w w':World):Prop where
 bx:BelowX Z w w'
 row:∀(x:Nat)(cs:Array Value)(t:TypeId)(fz:Nat×Nat),w.heap[x]? =some (.cells cs t fz)->∃cs':Array Value,w'.heap[x]? =some (.cells cs' t fz)/\cs'.size=cs.size/\(t≠105->cs'=cs)
theorem Ov.refl(Z:Nat->Prop)(w:World):Ov Z w w:=⟨⟨rfl,rfl,rfl,Nat.le_refl _,fun _ _ _=>rfl⟩,fun x cs t fz h=>⟨cs,h,rfl,fun _=>rfl⟩⟩
theorem Ov.trans{Z:Nat->Prop}{a b c:World}(h:Ov Z a b)(k:Ov Z b c):Ov Z a c:=by
 refine⟨⟨k.bx.os.trans h.bx.os,k.bx.tape.trans h.bx.tape,k.bx.output.trans h.bx.output,Nat.le_trans h.bx.size k.bx.size,fun x hx hz=>(k.bx.block x (Nat.lt_of_lt_of_le hx h.bx.size) hz).trans (h.bx.block x hx hz)⟩,fun x cs t fz hx=> ?_⟩
 obtain⟨c1,h1,h2,h3⟩:=h.row x cs t fz hx
 obtain⟨c2,k1,k2,k3⟩:=k.row x c1 t fz h1
 exact⟨c2,k1,k2.trans h2,fun ht=>(k3 ht).trans (h3 ht)⟩
theorem Ov.setRow{Z:Nat->Prop}{w:World}{b:Nat}{cs cs':Array Value}(hb:w.heap[b]? =some (.cells cs 105 (0,0)))(hs:cs'.size=cs.size)(hz:Z b):Ov Z w (w.setRow b cs'):=by
 refine⟨⟨rfl,rfl,rfl,by rw[setRow_size];exact Nat.le_refl _,fun x hx hn=>setRow_other w b x cs' (fun e=>by subst e;exact hn hz)⟩,fun x c t fz hx=> ?_⟩
 by_cases e:x=b
 ·subst e
  rw[hb]at hx
  cases hx
  exact⟨cs',setRow_heap _ _ _ _ _ _ hb,hs,fun h=>absurd rfl h⟩
 ·exact⟨c,(setRow_other w b x cs' e).trans hx,rfl,fun _=>rfl⟩
set_option maxHeartbeats 2000000 in
set_option maxRecDepth 100000 in
theorem overLimbs(w:World)(Z:Nat->Prop)(b n:Nat)(cs:Array Value)(hn:n+12<=140737488355328)(hb:w.heap[b]? =some (.cells cs 105 (0,0)))(hs:cs.size=n+12)(hz:Z b):
  Calls Tryz.prog 147 #[.slice (some ⟨b,0,none⟩) n (n+12)] w fun e w'=>e= .returned (.tuple #[])/\Ov Z w w':=by
 go_enter Tryz.func147,Tryz.ntmps147
 go_wp2
 go_loopw [3] (fun i wr=>∃(k:Nat)(cs':Array Value),k<=n+12/\i= .int .i64 k/\Ov Z w wr/\wr.heap[b]? =some (.cells cs' 105 (0,0))/\cs'.size=n+12) (fun i _=>n+12-(intOf i).toNat)
 case atStart=>exact⟨0,cs,Nat.zero_le _,rfl,Ov.refl _ _,hb,hs⟩
 case round=>
  obtain⟨k,cs',hk,rfl,ho,hb',hs'⟩:=hrel
  have hfz:wr.frozen? ⟨b,k,none⟩=false:=by simp[World.frozen?,hb']
  by_cases hlt:k<n+12
  ·have hcell:wr.cell? ⟨b,k,none⟩=some (cs'.getD k undef):=by simp[World.cell?,hb',Array.getD,hlt,hs']
   have hlt':(k:Int)<n+12:=by omega
   go_wp2
   go_round
   case rel=>
    have hset:=setCell_eq_setRow wr b k cs' 105 (0,0) (Value.int IntKind.u16 (IntKind.u16.wrap (9000027+(k:Int)))) hb'
    refine⟨k+1,cs'.setIfInBounds k (Value.int IntKind.u16 (IntKind.u16.wrap (9000027+(k:Int)))),by omega,by go_num, ?_, ?_,by simp[hs']⟩
    ·rw[hset]
     exact ho.trans (Ov.setRow hb' (by simp) hz)
    ·rw[hset]
     exact setRow_heap _ _ _ _ _ _ hb'
   case measure=>simp[intOf];omega
  ·have hge:¬(k:Int)<n+12:=by omega
   go_wp2
   go_end0
   exact⟨rfl,ho⟩
def LimbV(w:World)(Z:Nat->Prop)(v:Value):Prop:=
 ∃(b n:Nat)(cs:Array Value),v= .slice (some ⟨b,0,none⟩) n (n+12)/\n+12<=140737488355328/\w.heap[b]? =some (.cells cs 105 (0,0))/\cs.size=n+12/\Z b
theorem LimbV.ov{Z:Nat->Prop}{w w':World}{v:Value}(h:LimbV w Z v)(o:Ov Z w w'):LimbV w' Z v:=by
 obtain⟨b,n,cs,h1,h2,h3,h4,h5⟩:=h
 obtain⟨cs',g1,g2,_⟩:=o.row b cs 105 (0,0) h3
 exact⟨b,n,cs',h1,h2,g1,by omega,h5⟩
theorem Ov.alloc(Z:Nat->Prop)(w:World)(o:Obj):Ov Z w (w.alloc o):=
 ⟨⟨rfl,rfl,rfl,(Below.alloc (Below.refl w.heap.size w) (Nat.le_refl _) o).size,fun x hx _=>Below.heap_alloc w o x hx⟩,fun x cs t fz hx=>⟨cs,(Below.heap_alloc w o x (Array.getElem?_eq_some_iff.1 hx).1).trans hx,rfl,fun _=>rfl⟩⟩
theorem overLimbsV{w:World}{Z:Nat->Prop}{v:Value}(h:LimbV w Z v):Calls Tryz.prog 147 #[v] w fun e w'=>e= .returned (.tuple #[])/\Ov Z w w':=by
 obtain⟨b,n,cs,rfl,h2,h3,h4,h5⟩:=h
 exact overLimbs w Z b n cs h2 h3 h4 h5
set_option maxHeartbeats 2000000 in
set_option maxRecDepth 100000 in
theorem overWhole{w:World}{Z:Nat->Prop}{v s:Value}(h:LimbV w Z v)(h1:s.oneCell'=true)(h2:v.oneCell'=true):Calls Tryz.prog 105 #[.agg #[s,v]] w fun e w'=>e= .returned (.tuple #[])/\Ov Z w w':=by
 go_enter Tryz.func105,Tryz.ntmps105
 go_wp2_with fail
 refine(overLimbsV (h.ov (Ov.alloc Z w _))).mono ?_
 rintro e w' ⟨rfl,ho⟩
 go_wp2
 go_end0
 exact⟨rfl,(Ov.alloc Z w _).trans ho⟩
theorem Ov.box{Z:Nat->Prop}{w w':World}{cs:Array Value}{t:TypeId}(ho:Ov Z (w.alloc (.cells cs t (0,0))) w')(ht:t≠105)(i:Nat):w'.cell? ⟨w.heap.size,i,none⟩=cs[i]? :=by
 obtain⟨cs',h1,_,h3⟩:=ho.row w.heap.size cs t (0,0) (heap_alloc_new w _)
 have:=h3 ht
 subst this
 simp[World.cell?,h1]
set_option maxHeartbeats 2000000 in
set_option maxRecDepth 100000 in
theorem overFrac{w:World}{Z:Nat->Prop}{v1 s1 v2 s2:Value}(h:LimbV w Z v1)(k:LimbV w Z v2)(h1:s1.oneCell'=true)(h2:v1.oneCell'=true)(k1:s2.oneCell'=true)(k2:v2.oneCell'=true):
  Calls Tryz.prog 61 #[.agg #[s1,v1,s2,v2]] w fun e w'=>e= .returned (.tuple #[])/\Ov Z w w':=by
 go_enter Tryz.func61,Tryz.ntmps61
 go_wp2_with fail
 refine(overWhole (h.ov (Ov.alloc Z w _)) h1 h2).mono ?_
 rintro e w' ⟨rfl,ho⟩
 have c2:=ho.box (by decide) 2
 have c3:=ho.box (by decide) 3
 simp at c2 c3
 go_wp2_with fail
 refine(overWhole ((k.ov (Ov.alloc Z w _)).ov ho) k1 k2).mono ?_
 rintro e w2 ⟨rfl,ho2⟩
 go_wp2
 go_end0
 exact⟨rfl,((Ov.alloc Z w _).trans ho).trans ho2⟩
end Go.Sx.Lent
set_option linter.unusedVariables false
set_option linter.unusedSimpArgs false
namespace Go.Sx.Lent
open Go Go.Proofs Go.RowKit Go.Lib Go.Sx
set_option maxHeartbeats 2000000 in
set_option maxRecDepth 100000 in
theorem overRow{w:World}{Z:Nat->Prop}{x0 x1 x2 s1 v1 s2 v2:Value}(h:LimbV w Z v1)(k:LimbV w Z v2)(g0:x0.oneCell'=true)(g1:x1.oneCell'=true)(g2:x2.oneCell'=true)(h1:s1.oneCell'=true)(h2:v1.oneCell'=true)(k1:s2.oneCell'=true)(k2:v2.oneCell'=true):
  Calls Tryz.prog 30 #[.agg #[x0,x1,x2,s1,v1,s2,v2]] w fun e w'=>e= .returned (.tuple #[])/\Ov Z w w':=by
 go_enter Tryz.func30,Tryz.ntmps30
 go_wp2_with fail
 refine(overFrac (h.ov (Ov.alloc Z w _)) (k.ov (Ov.alloc Z w _)) h1 h2 k1 k2).mono ?_
 rintro e w' ⟨rfl,ho⟩
 go_wp2
 go_end0
 exact⟨rfl,(Ov.alloc Z w _).trans ho⟩
def RowC(w:World)(Z:Nat->Prop)(cs:Array Value)(i:Nat):Prop:=
 ∃x0 x1 x2 s1 v1 s2 v2:Value,cs[i*7]? =some x0/\cs[i*7+1]? =some x1/\cs[i*7+2]? =some x2/\cs[i*7+3]? =some s1/\cs[i*7+4]? =some v1/\cs[i*7+5]? =some s2/\cs[i*7+6]? =some v2/\
  x0.oneCell'=true/\x1.oneCell'=true/\x2.oneCell'=true/\s1.oneCell'=true/\v1.oneCell'=true/\s2.oneCell'=true/\v2.oneCell'=true/\LimbV w Z v1/\LimbV w Z v2
def RowsV(w:World)(Z:Nat->Prop)(v:Value):Prop:=
 ∃(b n:Nat)(cs:Array Value),v= .slice (some ⟨b,0,none⟩) n (n+12)/\n+12<=140737488355328/\w.heap[b]? =some (.cells cs 28 (0,0))/\cs.size=(n+12)*7/\Z b/\∀i,i<n->RowC w Z cs i
theorem RowC.ov{Z:Nat->Prop}{w w':World}{cs:Array Value}{i:Nat}(h:RowC w Z cs i)(o:Ov Z w w'):RowC w' Z cs i:=by
 obtain⟨x0,x1,x2,s1,v1,s2,v2,c0,c1,c2,c3,c4,c5,c6,o0,o1,o2,o3,o4,o5,o6,l1,l2⟩:=h
 exact⟨x0,x1,x2,s1,v1,s2,v2,c0,c1,c2,c3,c4,c5,c6,o0,o1,o2,o3,o4,o5,o6,l1.ov o,l2.ov o⟩
set_option maxHeartbeats 2000000 in
set_option maxRecDepth 100000 in
theorem markRow(k:Int)(i:Nat)(hk:0<=k/\k<=1000)(hi:i<=140737488355328)(w:World):Calls Tryz.prog 63 #[.int .i64 k, .int .i64 i] w fun e w'=>
  e= .returned (.agg #[.int .i64 (1000003*(k+7)+i), .int .i64 0, .int .i64 0, .bool false, .slice none 0 0, .bool false, .slice none 0 0])/\Below w.heap.size w w':=by
 have w1:IntKind.i64.wrap (k+7)=k+7:=by rw[IntKind.wrap_i64];omega
 have w2:IntKind.i64.wrap (1000003*(k+7))=1000003*(k+7):=by rw[IntKind.wrap_i64];omega
 have w3:IntKind.i64.wrap (1000003*(k+7)+i)=1000003*(k+7)+i:=by rw[IntKind.wrap_i64];omega
 go_enter Tryz.func63,Tryz.ntmps63
 go_wp2
 exact bodyPost_ret (v:= .agg #[.int .i64 (1000003*(k+7)+i), .int .i64 0, .int .i64 0, .bool false, .slice none 0 0, .bool false, .slice none 0 0]) (by simp[results,Tryz.results63,go_sem]) rfl ⟨rfl,(Below.refl _ _).alloc (Nat.le_refl _) _⟩
theorem _root_.Go.Sx.BelowX.trans{Z:Nat->Prop}{a b c:World}(h:BelowX Z a b)(k:BelowX Z b c):BelowX Z a c:=
 ⟨k.os.trans h.os,k.tape.trans h.tape,k.output.trans h.output,Nat.le_trans h.size k.size,fun x hx hz=>(k.block x (Nat.lt_of_lt_of_le hx h.size) hz).trans (h.block x hx hz)⟩
theorem BelowX.of{Z:Nat->Prop}{w w':World}(h:Below w.heap.size w w'):BelowX Z w w':=⟨h.os,h.tape,h.output,h.size,fun x hx _=>h.block x hx⟩
theorem rowSet{Z:Nat->Prop}{wr wx:World}{b N:Nat}(hz:Z b)(o:Nat)(v:Value)(h:∃cx:Array Value,BelowX Z wr wx/\wx.heap[b]? =some (.cells cx 28 (0,0))/\cx.size=N):
  ∃cx:Array Value,BelowX Z wr (wx.setCell ⟨b,o,none⟩ v)/\(wx.setCell ⟨b,o,none⟩ v).heap[b]? =some (.cells cx 28 (0,0))/\cx.size=N:=by
 obtain⟨cx,h1,h2,h3⟩:=h
 rw[setCell_eq_setRow wx b o cx 28 (0,0) v h2]
 refine⟨cx.setIfInBounds o v,h1.trans ⟨rfl,rfl,rfl,by rw[setRow_size];exact Nat.le_refl _,fun x hx hn=>setRow_other wx b x _ (fun e=>by subst e;exact hn hz)⟩,setRow_heap _ _ _ _ _ _ h2,by simp[h3]⟩
set_option maxHeartbeats 4000000 in
set_option maxRecDepth 100000 in
theorem overRows{w:World}{Z:Nat->Prop}{v:Value}(h:RowsV w Z v):Calls Tryz.prog 43 #[v] w fun e w'=>e= .returned (.tuple #[])/\BelowX Z w w':=by
 obtain⟨b,n,cs,rfl,hn,hb,hs,hz,hr⟩:=h
 go_enter Tryz.func43,Tryz.ntmps43
 go_wp2
 go_loopw [2] (fun i wr=>∃k:Nat,k<=n/\i= .int .i64 k/\Ov Z w wr) (fun i _=>n-(intOf i).toNat)
 case atStart=>exact⟨0,Nat.zero_le _,rfl,Ov.refl _ _⟩
 case round=>
  obtain⟨k,hk,rfl,ho⟩:=hrel
  obtain⟨cs',hb',hs',he⟩:=ho.row b cs 28 (0,0) hb
  have he:=he (by decide)
  subst he
  by_cases hlt:k<n
  ·obtain⟨x0,x1,x2,s1,v1,s2,v2,c0,c1,c2,c3,c4,c5,c6,o0,o1,o2,o3,o4,o5,o6,l1,l2⟩:=hr k hlt
   have q:∀j x,cs'[k*7+j]? =some x->wr.cell? ⟨b,k*7+j,none⟩=some x:=fun j x hx=>by simp[World.cell?,hb',hx]
   have q0:wr.cell? ⟨b,k*7,none⟩=some x0:=q 0 _ c0
   have q1:=q 1 _ c1
   have q2:=q 2 _ c2
   have q3:=q 3 _ c3
   have q4:=q 4 _ c4
   have q5:=q 5 _ c5
   have q6:=q 6 _ c6
   have hlt':(k:Int)<n:=by omega
   clear q
   go_wp2_with (go_at_call 30;refine(overRow (l1.ov ho) (l2.ov ho) o0 o1 o2 o3 o4 o5 o6).mono ?_;rintro e w' ⟨rfl,ho2⟩)
   go_round
   case rel=>exact⟨k+1,by omega,by go_num,ho.trans ho2⟩
   case measure=>simp[intOf];omega
  ·have hge:¬(k:Int)<n:=by omega
   go_wp2
   go_loopw [4] (fun i wx=>∃(k:Nat)(cx:Array Value),k<=n+12/\i= .int .i64 k/\BelowX Z wr wx/\wx.heap[b]? =some (.cells cx 28 (0,0))/\cx.size=(n+12)*7) (fun i _=>n+12-(intOf i).toNat)
   case atStart=>exact⟨0,cs',Nat.zero_le _,rfl,(Ov.refl Z wr).bx,hb',hs⟩
   case round=>
    obtain⟨m,cx,hm,rfl,hx,hbx,hsx⟩:=hrel
    by_cases hlt:m<n+12
    ·have hlt':(m:Int)<n+12:=by omega
     go_wp2_with fail
     refine(markRow 2 m (by omega) (by omega) _).mono ?_
     rintro e w' ⟨rfl,hbel⟩
     have hbw:w'.heap[b]? =some (.cells cx 28 (0,0)):=(hbel.block b (Array.getElem?_eq_some_iff.1 hbx).1).trans hbx
     have q:∀j,j<7->w'.cell? ⟨b,m*7+j,none⟩=some (cx.getD (m*7+j) undef):=fun j hj=>by
      have:m*7+j<cx.size:=by omega
      simp[World.cell?,hbw,Array.getD,this]
     have q0:w'.cell? ⟨b,m*7,none⟩=some (cx.getD (m*7) undef):=q 0 (by decide)
     have q1:=q 1 (by decide)
     have q2:=q 2 (by decide)
     have q3:=q 3 (by decide)
     have q4:=q 4 (by decide)
     have q5:=q 5 (by decide)
     have q6:=q 6 (by decide)
     have f:∀j,w'.frozen? ⟨b,j,none⟩=false:=fun j=>by simp[World.frozen?,hbw]
     clear q
     go_wp2
     go_round
     case rel=>
      have z0:∃cx:Array Value,BelowX Z _ w'/\w'.heap[b]? =some (.cells cx 28 (0,0))/\cx.size=(n+12)*7:=⟨cx,hx.trans (BelowX.of hbel),hbw,hsx⟩
      have z1:=rowSet hz (m*7) (.int .i64 (9000027+(m:Int))) z0
      have z2:=rowSet hz (m*7+1) (.int .i64 0) z1
      have z3:=rowSet hz (m*7+2) (.int .i64 0) z2
      have z4:=rowSet hz (m*7+3) (.bool false) z3
      have z5:=rowSet hz (m*7+4) (.slice none 0 0) z4
      have z6:=rowSet hz (m*7+5) (.bool false) z5
      have z7:=rowSet hz (m*7+6) (.slice none 0 0) z6
      obtain⟨cz,y1,y2,y3⟩:=z7
      exact⟨m+1,cz,by omega,by go_num,y1,y2,y3⟩
     case measure=>simp[intOf];omega
    ·have hge:¬(m:Int)<n+12:=by omega
     go_wp2
     go_end0
     exact⟨rfl,ho.bx.trans hx⟩
set_option maxHeartbeats 2000000 in
set_option maxRecDepth 100000 in
theorem overTable{w:World}{Z:Nat->Prop}{x0 x1 v:Value}(h:RowsV w Z v)(g0:x0.oneCell'=true)(g1:x1.oneCell'=true)(g2:v.oneCell'=true):
  Calls Tryz.prog 16 #[.agg #[x0,x1,v]] w fun e w'=>e= .returned (.tuple #[])/\BelowX Z w w':=by
 go_enter Tryz.func16,Tryz.ntmps16
 go_wp2_with fail
 have ha:=Ov.alloc Z w (.cells #[x0,x1,v] 32 (0,0))
 have h':RowsV (w.alloc (.cells #[x0,x1,v] 32 (0,0))) Z v:=by
  obtain⟨b,n,cs,e1,e2,e3,e4,e5,e6⟩:=h
  exact⟨b,n,cs,e1,e2,(Below.heap_alloc w _ b (Array.getElem?_eq_some_iff.1 e3).1).trans e3,e4,e5,fun i hi=>(e6 i hi).ov ha⟩
 refine(overRows h').mono ?_
 rintro e w' ⟨rfl,ho⟩
 go_wp2
 go_end0
 exact⟨rfl,ha.bx.trans ho⟩
end Go.Sx.Lent
set_option linter.unusedVariables false
set_option linter.unusedSimpArgs false
namespace Go.Sx.Lent
open Go Go.Proofs Go.RowKit Go.Lib Go.Sx
def marksL(k:Nat):List Value:=(List.range k).map fun(j:Nat)=> .int .u16 (IntKind.u16.wrap (8000024+(j:Int)))
theorem marksL_succ(k:Nat):marksL (k+1)=marksL k++[.int .u16 (IntKind.u16.wrap (8000024+(k:Int)))]:=by simp[marksL,List.range_succ]
theorem marksL_len(k:Nat):(marksL k).length=k:=by simp[marksL]
theorem infoU:∃i:TypeInfo,Tryz.prog.info? 105=some i/\i.zero=some (.int .u16 0)/\i.size=1/\i.bytes=2:=⟨Tryz.t105,by kernel_rfl,by kernel_rfl,by kernel_rfl,by kernel_rfl⟩
theorem cell_lt{w:World}{a:Addr}{v:Value}(h:w.cell? a=some v):a.block<w.heap.size:=by
 unfold World.cell? at h
 cases hh:w.heap[a.block]? with
 |none=>simp[hh]at h
 |some o=>exact(Array.getElem?_eq_some_iff.1 hh).1
theorem new_cell(w:World)(v:Value)(t:TypeId):(w.alloc (.cells #[v] t (0,0))).cell? ((⟨w.heap.size,0,none⟩:Addr).add 0)=some v:=by
 show World.cell? _ ⟨w.heap.size,0+0,none⟩=_
 unfold World.cell?
 rw[heap_alloc_new]
 rfl
set_option maxHeartbeats 4000000 in
set_option maxRecDepth 100000 in
theorem lentLimbs(w:World)(ao:Option Addr)(n c:Nat)(xs:List Value)(hn:xs.length=n)(hlim:2*(n+12)<=140737488355328)(h1:∀u∈xs,u.oneCell'=true)(hnone:ao=none->n=0/\c=0)
  (hc:∀ad,ao=some ad->∀(j:Nat) u,xs[j]? =some u->w.cell? (ad.add j)=some u):
  Calls Tryz.prog 138 #[.slice ao n c] w fun e w'=>e= .returned (.slice (some ⟨w.heap.size,0,none⟩) n (n+12))/\Below w.heap.size w w'/\
   ∃cs:Array Value,w'.heap[w.heap.size]? =some (.cells cs 105 (0,0))/\cs.size=n+12/\cs.toList=xs++marksL 12:=by
 obtain⟨i0,hi,hz0,hz1,hz2⟩:=infoU
 go_enter Tryz.func138,Tryz.ntmps138
 go_wp2_with (at_make;refine wpList_make_own _ rfl _ _ 22 rfl w.heap.size 105 i0 (.int .u16 0) 1 Tryz.underlying22 hi hz0 hz1 _ _ _ (n+12) rfl rfl (by omega) ?b2 ?b3 (Nat.le_refl _) ?_)
 case b2=>rw[hz2];omega
 case b3=>unfold maxLen;omega
 intro w0 hown0 hgrow0
 have hcw:∀ad,ao=some ad->∀(j:Nat) u,xs[j]? =some u->w0.cell? (ad.add j)=some u:=fun ad e j u hu=>by
  have h:=hc ad e j u hu
  have hlt:(ad.add j).block<w.heap.size:=cell_lt h
  rw[<-h]
  exact((Below.refl _ _).grown hgrow0 (Nat.le_refl _) (fun k h=>by cases h)).cell hlt
 go_wp2_with (at_builtin;refine wpList_append_fits_any _ rfl (.tmp 9) (.tmp 10) 22 rfl w.heap.size 105 i0 1 Tryz.underlying22 hi hz1 w.heap.size 0 (n+12) _ rfl hown0 ao n c xs rfl (by simp[hn]) hnone hcw h1 (by omega) ?_;intro w1 hown1 hgrow1)
 rw[List.nil_append,Nat.zero_add]at hown1
 go_wp2
 go_loopw [3,4] (fun out i wr=>∃k:Nat,k<=12/\i= .int .i64 k/\out= .slice (some ⟨w.heap.size,0,none⟩) (n+k) (n+12)/\wr.ownsRow w.heap.size 105 1 (.slice (some ⟨w.heap.size,0,none⟩) (n+k) (n+12)) (n+k) (xs++marksL k)/\Below w.heap.size w wr) (fun _ i _=>12-(intOf i).toNat)
 case atStart=>exact⟨0,by omega,rfl,rfl,by simpa[marksL]using hown1,((Below.refl _ _).grown hgrow0 (Nat.le_refl _) (fun k h=>by cases h)).grown hgrow1 hgrow0.size (fun k hk=>by cases hk;exact Nat.le_refl _)⟩
 case round=>
  obtain⟨k,hk,rfl,rfl,hown,hnx⟩:=hrel
  by_cases hlt:k<12
  ·have hlt':(k:Int)<12:=by omega
   go_wp2_with (first
    |(go_at_call 106;go_in)
    |(at_builtin;refine wpList_append_fits _ rfl (.tmp 16) (.tmp 20) 22 rfl w.heap.size 105 i0 1 Tryz.underlying22 hi hz1 w.heap.size (n+k) (n+12) _ rfl (hown.alloc _) ⟨wr.heap.size,0,none⟩ 1 1 [.int .u16 (IntKind.u16.wrap (8000024+(k:Int)))] rfl rfl (by intro t u ht;match t,ht with|0,ht=>simp at ht;subst ht;exact new_cell wr _ 105) (by intro u hu;simp at hu;subst hu;rfl) (by omega) ?_;intro w2 hown2 hgrow2))
   go_roundw
   case rel=>exact⟨k+1,by omega,by go_num,rfl,by rw[marksL_succ,<-List.append_assoc];exact hown2,(hnx.alloc hnx.size _).grown hgrow2 (by simp;have:=hnx.size;omega) (fun k hk=>by cases hk;exact Nat.le_refl _)⟩
   case measure=>simp[intOf];omega
  ·have hge:¬(k:Int)<12:=by omega
   obtain rfl:k=12:=by omega
   go_wp2
   go_ret
   refine⟨rfl,hnx, ?_⟩
   rcases hown.2 with⟨h,_⟩|⟨g,cap,cur,h,_,hg,_,_,hcs,htake⟩
   ·cases h
   ·simp only[Value.slice.injEq,Option.some.injEq,Addr.mk.injEq,and_true,true_and]at h
    obtain⟨rfl,rfl⟩:=h
    refine⟨cur,hg,by omega, ?_⟩
    rw[<-htake,List.take_of_length_le (by simp;omega)]
end Go.Sx.Lent
set_option linter.unusedVariables false
set_option linter.unusedSimpArgs false
namespace Go.Sx.Lent
open Go Go.Proofs Go.RowKit Go.Lib Go.Sx
def ReadL(w:World)(v:Value)(xs:List Value):Prop:=
 ∃(ao:Option Addr)(n c:Nat),v= .slice ao n c/\xs.length=n/\(ao=none->n=0/\c=0)/\(∀ad,ao=some ad->∀(j:Nat) u,xs[j]? =some u->w.cell? (ad.add j)=some u)/\(∀u∈xs,u.oneCell'=true)/\2*(n+12)<=140737488355328
def LentL(w:World)(Z:Nat->Prop)(v:Value)(xs:List Value):Prop:=
 ∃(b:Nat)(cs:Array Value),v= .slice (some ⟨b,0,none⟩) xs.length (xs.length+12)/\Z b/\w.heap[b]? =some (.cells cs 105 (0,0))/\cs.toList=xs++marksL 12
def News(w w':World):Nat->Prop:=fun b=>w.heap.size<=b/\b<w'.heap.size
theorem ReadL.below{w w':World}{v:Value}{xs:List Value}(h:ReadL w v xs)(hb:Below w.heap.size w w'):ReadL w' v xs:=by
 obtain⟨ao,n,c,e1,e2,e3,e4,e5,e6⟩:=h
 refine⟨ao,n,c,e1,e2,e3,fun ad ha j u hu=> ?_,e5,e6⟩
 have q:=e4 ad ha j u hu
 exact(hb.cell (cell_lt q)).trans q
theorem LentL.below{w w':World}{Z Z':Nat->Prop}{v:Value}{xs:List Value}(h:LentL w Z v xs)(hb:Below w.heap.size w w')(hz:∀b,Z b->Z' b):LentL w' Z' v xs:=by
 obtain⟨b,cs,e1,e2,e3,e4⟩:=h
 exact⟨b,cs,e1,hz b e2,(hb.block b (Array.getElem?_eq_some_iff.1 e3).1).trans e3,e4⟩
theorem LentL.one{w:World}{Z:Nat->Prop}{v:Value}{xs:List Value}(h:LentL w Z v xs):v.oneCell'=true:=by
 obtain⟨b,cs,e1,_⟩:=h
 subst e1
 rfl
theorem lentLimbsV{w:World}{v:Value}{xs:List Value}(h:ReadL w v xs):Calls Tryz.prog 138 #[v] w fun e w'=>∃v',e= .returned v'/\Below w.heap.size w w'/\LentL w' (News w w') v' xs:=by
 obtain⟨ao,n,c,rfl,e2,e3,e4,e5,e6⟩:=h
 refine(lentLimbs w ao n c xs e2 e6 e5 e3 e4).mono ?_
 rintro e w' ⟨rfl,hb,cs,h1,h2,h3⟩
 exact⟨_,rfl,hb,w.heap.size,cs,by rw[e2],⟨Nat.le_refl _,(Array.getElem?_eq_some_iff.1 h1).1⟩,h1,h3⟩
theorem heap_setCell_ne(w:World){a:Addr}{v:Value}{b:Nat}(h:b≠a.block):(w.setCell a v).heap[b]? =w.heap[b]? :=by
 unfold World.setCell
 simp[Array.getElem?_modify,Ne.symm h]
theorem Below.al{B:Nat}(w:World)(o:Obj)(h:B<=w.heap.size):Below B w (w.alloc o):=(Below.refl _ _).alloc h o
set_option maxHeartbeats 2000000 in
set_option maxRecDepth 100000 in
theorem lentWhole{w:World}{s:Bool}{v:Value}{xs:List Value}(h:ReadL w v xs)(h2:v.oneCell'=true):
  Calls Tryz.prog 96 #[.agg #[.bool s,v]] w fun e w'=>∃v',e= .returned (.agg #[.bool s,v'])/\Below w.heap.size w w'/\LentL w' (News w w') v' xs:=by
 go_enter Tryz.func96,Tryz.ntmps96
 go_wp2_with fail
 have hb0:Below w.heap.size w ((w.alloc (.cells #[.bool s,v] 24 (0,0))).alloc (.cells #[.bool false, .slice none 0 0] 24 (0,0))):=(Below.al w _ (Nat.le_refl _)).alloc (by simp) _
 refine(lentLimbsV (h.below hb0)).mono ?_
 rintro e w' ⟨v',rfl,hb,hl⟩
 obtain⟨b,cs,rfl,hzb,hcb,hcl⟩:=hl
 have k0:w'.heap[w.heap.size]? =some (.cells #[.bool s,v] 24 (0,0)):=(hb.block _ (by simp;omega)).trans ((Below.heap_alloc _ _ _ (by simp)).trans (heap_alloc_new w _))
 have k1:w'.heap[w.heap.size+1]? =some (.cells #[.bool false, .slice none 0 0] 24 (0,0)):=(hb.block _ (by simp)).trans (by have:=heap_alloc_new (w.alloc (.cells #[.bool s,v] 24 (0,0))) (.cells #[.bool false, .slice none 0 0] 24 (0,0));simpa using this)
 have c0:w'.cell? ⟨w.heap.size,0,none⟩=some (.bool s):=by simp[World.cell?,k0]
 have c1:w'.cell? ⟨w.heap.size,1,none⟩=some v:=by simp[World.cell?,k0]
 have c2:w'.cell? ⟨w.heap.size+1,0,none⟩=some (.bool false):=by simp[World.cell?,k1]
 have c3:w'.cell? ⟨w.heap.size+1,1,none⟩=some (.slice none 0 0):=by simp[World.cell?,k1]
 have f0:∀j,w'.frozen? ⟨w.heap.size,j,none⟩=false:=fun j=>by simp[World.frozen?,k0]
 have f1:∀j,w'.frozen? ⟨w.heap.size+1,j,none⟩=false:=fun j=>by simp[World.frozen?,k1]
 go_wp2
 refine bodyPost_ret (v:= .agg #[.bool s, .slice (some ⟨b,0,none⟩) xs.length (xs.length+12)]) (by simp[results,Tryz.results96,go_sem,c2,c3]) rfl ⟨_,rfl, ?_,b,cs,rfl, ?_, ?_,hcl⟩
 ·exact(((hb0.trans (hb.mono hb0.size)).setCell (by simp) _).setCell (by simp) _).setCell (by simp) _
 ·unfold News at*
  simp at hzb⊢
  omega
 ·have hne:b≠w.heap.size/\b≠w.heap.size+1:=by
   unfold News at hzb
   simp at hzb
   omega
  rw[heap_setCell_ne _ hne.2,heap_setCell_ne _ hne.2,heap_setCell_ne _ hne.1]
  exact hcb
theorem cell_of{w:World}{b i:Nat}{cs:Array Value}{t:TypeId}(h:w.heap[b]? =some (.cells cs t (0,0))):w.cell? ⟨b,i,none⟩=cs[i]? :=by simp[World.cell?,h]
theorem froz_of{w:World}{b i:Nat}{cs:Array Value}{t:TypeId}(h:w.heap[b]? =some (.cells cs t (0,0))):w.frozen? ⟨b,i,none⟩=false:=by simp[World.frozen?,h]
theorem News.lo{w w':World}{b:Nat}(h:News w w' b):w.heap.size<=b:=h.1
theorem heap_setCell_at{w:World}{b i:Nat}{cs:Array Value}{t:TypeId}{v:Value}(h:w.heap[b]? =some (.cells cs t (0,0))):(w.setCell ⟨b,i,none⟩ v).heap[b]? =some (.cells (cs.setIfInBounds i v) t (0,0)):=by
 rw[setCell_eq_setRow w b i cs t (0,0) v h]
 exact setRow_heap _ _ _ _ _ _ h
theorem two_new(w:World)(cs cr:Array Value)(t u:TypeId):Below w.heap.size w ((w.alloc (.cells cs t (0,0))).alloc (.cells cr u (0,0)))/\((w.alloc (.cells cs t (0,0))).alloc (.cells cr u (0,0))).heap.size=w.heap.size+2/\
  ((w.alloc (.cells cs t (0,0))).alloc (.cells cr u (0,0))).heap[w.heap.size]? =some (.cells cs t (0,0))/\((w.alloc (.cells cs t (0,0))).alloc (.cells cr u (0,0))).heap[w.heap.size+1]? =some (.cells cr u (0,0)):=by
 refine⟨(Below.al w _ (Nat.le_refl _)).alloc (by simp) _,by simp,(Below.heap_alloc _ _ _ (by simp)).trans (heap_alloc_new w _), ?_⟩
 have:=heap_alloc_new (w.alloc (.cells cs t (0,0))) (.cells cr u (0,0))
 simpa using this
set_option maxHeartbeats 4000000 in
set_option maxRecDepth 100000 in
theorem lentFrac2{w:World}{s1 s2:Bool}{v1 v2:Value}{xs ys:List Value}(h:ReadL w v1 xs)(k:ReadL w v2 ys)(h2:v1.oneCell'=true)(k2:v2.oneCell'=true):
  Calls Tryz.prog 53 #[.agg #[.bool s1,v1, .bool s2,v2]] w fun e w'=>∃u1 u2 c,e= .returned (.agg #[.bool s1,u1, .bool s2,u2])/\Below w.heap.size w w'/\w.heap.size<=c/\c<=w'.heap.size/\LentL w' (fun b=>w.heap.size<=b/\b<c) u1 xs/\LentL w' (fun b=>c<=b/\b<w'.heap.size) u2 ys:=by
 obtain⟨hb0,hs0,ha0,hr0⟩:=two_new w #[.bool s1,v1, .bool s2,v2] #[.bool false, .slice none 0 0, .bool false, .slice none 0 0] 26 26
 go_enter Tryz.func53,Tryz.ntmps53
 go_wp2_with fail
 refine(lentWhole (h.below hb0) h2).mono ?_
 rintro e w1 ⟨u1,rfl,hb1,hl1⟩
 obtain⟨b1,cs1,rfl,hz1,hc1,ht1⟩:=hl1
 have n1:=hz1.lo
 have ha1:=(hb1.block _ (by omega)).trans ha0
 have hr1:=(hb1.block _ (by omega)).trans hr0
 have hs1:=hb1.size
 rw[hs0]at n1 hs1
 have c0:=cell_of ha1 (i:=0)
 have c1:=cell_of ha1 (i:=1)
 have c2:=cell_of ha1 (i:=2)
 have c3:=cell_of ha1 (i:=3)
 simp at c0 c1 c2 c3
 have f0:∀j,w1.frozen? ⟨w.heap.size,j,none⟩=false:=fun j=>froz_of ha1
 go_wp2_with fail
 have hB1:Below w.heap.size w ((w1.setCell ⟨w.heap.size,0,none⟩ (.bool s1)).setCell ⟨w.heap.size,1,none⟩ (.slice (some ⟨b1,0,none⟩) xs.length (xs.length+12))):=
  ((hb0.trans (hb1.mono (by omega))).setCell (Nat.le_refl _) _).setCell (Nat.le_refl _) _
 have ga:=heap_setCell_at (i:=1) (v:= .slice (some ⟨b1,0,none⟩) xs.length (xs.length+12)) (heap_setCell_at (i:=0) (v:= .bool s1) ha1)
 have gr:=(heap_setCell_ne (w1.setCell ⟨w.heap.size,0,none⟩ (.bool s1)) (a:=⟨w.heap.size,1,none⟩) (v:= .slice (some ⟨b1,0,none⟩) xs.length (xs.length+12)) (b:=w.heap.size+1) (by simp)).trans ((heap_setCell_ne w1 (a:=⟨w.heap.size,0,none⟩) (v:= .bool s1) (by simp)).trans hr1)
 have gl:=(heap_setCell_ne (w1.setCell ⟨w.heap.size,0,none⟩ (.bool s1)) (a:=⟨w.heap.size,1,none⟩) (v:= .slice (some ⟨b1,0,none⟩) xs.length (xs.length+12)) (b:=b1) (by simp;omega)).trans ((heap_setCell_ne w1 (a:=⟨w.heap.size,0,none⟩) (v:= .bool s1) (by simp;omega)).trans hc1)
 have gs:((w1.setCell ⟨w.heap.size,0,none⟩ (.bool s1)).setCell ⟨w.heap.size,1,none⟩ (.slice (some ⟨b1,0,none⟩) xs.length (xs.length+12))).heap.size=w1.heap.size:=by simp
 have l1:=(Array.getElem?_eq_some_iff.1 hc1).1
 refine(lentWhole (k.below hB1) k2).mono ?_
 rintro e w2 ⟨u2,rfl,hb2,hl2⟩
 obtain⟨b2,cs2,rfl,hz2,hc2,ht2⟩:=hl2
 have n2:=hz2.lo
 have l2:=(Array.getElem?_eq_some_iff.1 hc2).1
 rw[gs]at n2
 have ha2:=(hb2.block _ (by omega)).trans ga
 have hr2:=(hb2.block _ (by omega)).trans gr
 have hl2:=(hb2.block _ (by omega)).trans gl
 have hB2:=hB1.trans (hb2.mono (by omega))
 clear c0 c1 c2 c3 f0
 have c0:=cell_of ha2 (i:=0)
 have c1:=cell_of ha2 (i:=1)
 have c2:=cell_of ha2 (i:=2)
 have c3:=cell_of ha2 (i:=3)
 have r0:=cell_of hr2 (i:=0)
 have r1:=cell_of hr2 (i:=1)
 have r2:=cell_of hr2 (i:=2)
 have r3:=cell_of hr2 (i:=3)
 simp at c0 c1 c2 c3 r0 r1 r2 r3
 have f0:∀j,w2.frozen? ⟨w.heap.size,j,none⟩=false:=fun j=>froz_of ha2
 have f1:∀j,w2.frozen? ⟨w.heap.size+1,j,none⟩=false:=fun j=>froz_of hr2
 go_wp2
 have p0:∀b,w.heap.size+2<=b->b≠w.heap.size/\b≠w.heap.size+1:=fun b hb=>by omega
 have e1:=p0 b1 (by omega)
 have e2:=p0 b2 (by omega)
 refine bodyPost_ret (v:= .agg #[.bool s1, .slice (some ⟨b1,0,none⟩) xs.length (xs.length+12), .bool s2, .slice (some ⟨b2,0,none⟩) ys.length (ys.length+12)]) (by simp[results,Tryz.results53,go_sem,r0,r1,r2,r3]) rfl
  ⟨_,_,b2,rfl, ?_,by omega,by simp;omega,⟨b1,cs1,rfl,⟨by omega,by omega⟩, ?_,ht1⟩,⟨b2,cs2,rfl,⟨Nat.le_refl _,by simp;omega⟩, ?_,ht2⟩⟩
 ·exact(((((hB2.setCell (Nat.le_refl _) _).setCell (Nat.le_refl _) _).setCell (by simp) _).setCell (by simp) _).setCell (by simp) _).setCell (by simp) _
 ·rw[heap_setCell_ne _ e1.2,heap_setCell_ne _ e1.2,heap_setCell_ne _ e1.2,heap_setCell_ne _ e1.2,heap_setCell_ne _ e1.1,heap_setCell_ne _ e1.1]
  exact hl2
 ·rw[heap_setCell_ne _ e2.2,heap_setCell_ne _ e2.2,heap_setCell_ne _ e2.2,heap_setCell_ne _ e2.2,heap_setCell_ne _ e2.1,heap_setCell_ne _ e2.1]
  exact hc2
theorem LentL.wide{w:World}{Z Z':Nat->Prop}{v:Value}{xs:List Value}(h:LentL w Z v xs)(hz:∀b,Z b->Z' b):LentL w Z' v xs:=by
 obtain⟨b,cs,e1,e2,e3,e4⟩:=h
 exact⟨b,cs,e1,hz b e2,e3,e4⟩
theorem lentFrac{w:World}{s1 s2:Bool}{v1 v2:Value}{xs ys:List Value}(h:ReadL w v1 xs)(k:ReadL w v2 ys)(h2:v1.oneCell'=true)(k2:v2.oneCell'=true):
  Calls Tryz.prog 53 #[.agg #[.bool s1,v1, .bool s2,v2]] w fun e w'=>∃u1 u2,e= .returned (.agg #[.bool s1,u1, .bool s2,u2])/\Below w.heap.size w w'/\LentL w' (News w w') u1 xs/\LentL w' (News w w') u2 ys:=
 (lentFrac2 h k h2 k2).mono fun e w'⟨u1,u2,c,e1,hb,c0,c1,l1,l2⟩=>⟨u1,u2,e1,hb,l1.wide fun b hb=>⟨hb.1,by omega⟩,l2.wide fun b hb=>⟨by omega,hb.2⟩⟩
end Go.Sx.Lent
set_option linter.unusedVariables false
set_option linter.unusedSimpArgs false
namespace Go.Sx.Lent
open Go Go.Proofs Go.RowKit Go.Lib Go.Sx
set_option maxHeartbeats 4000000 in
set_option maxRecDepth 100000 in
theorem lentRow{w:World}{a b k:Int}{s1 s2:Bool}{v1 v2:Value}{xs ys:List Value}(h:ReadL w v1 xs)(g:ReadL w v2 ys)(h2:v1.oneCell'=true)(k2:v2.oneCell'=true):
  Calls Tryz.prog 24 #[.agg #[.int .i64 a, .int .i64 b, .int .i64 k, .bool s1,v1, .bool s2,v2]] w fun e w'=>∃u1 u2,e= .returned (.agg #[.int .i64 a, .int .i64 b, .int .i64 k, .bool s1,u1, .bool s2,u2])/\Below w.heap.size w w'/\LentL w' (News w w') u1 xs/\LentL w' (News w w') u2 ys:=by
 obtain⟨hb0,hs0,ha0,hr0⟩:=two_new w #[.int .i64 a, .int .i64 b, .int .i64 k, .bool s1,v1, .bool s2,v2] #[.int .i64 0, .int .i64 0, .int .i64 0, .bool false, .slice none 0 0, .bool false, .slice none 0 0] 28 28
 go_enter Tryz.func24,Tryz.ntmps24
 go_wp2_with fail
 refine(lentFrac (h.below hb0) (g.below hb0) h2 k2).mono ?_
 rintro e w2 ⟨u1,u2,rfl,hb1,hl1,hl2⟩
 obtain⟨b1,cs1,rfl,hz1,hc1,ht1⟩:=hl1
 obtain⟨b2,cs2,rfl,hz2,hc2,ht2⟩:=hl2
 have n1:=hz1.lo
 have n2:=hz2.lo
 have l1:=(Array.getElem?_eq_some_iff.1 hc1).1
 have l2:=(Array.getElem?_eq_some_iff.1 hc2).1
 have ha2:=(hb1.block _ (by omega)).trans ha0
 have hr2:=(hb1.block _ (by omega)).trans hr0
 have hs1:=hb1.size
 rw[hs0]at n1 n2 hs1
 have hB2:=hb0.trans (hb1.mono (by omega))
 have c0:=cell_of ha2 (i:=0)
 have c1:=cell_of ha2 (i:=1)
 have c2:=cell_of ha2 (i:=2)
 have c3:=cell_of ha2 (i:=3)
 have c4:=cell_of ha2 (i:=4)
 have c5:=cell_of ha2 (i:=5)
 have c6:=cell_of ha2 (i:=6)
 have r0:=cell_of hr2 (i:=0)
 have r1:=cell_of hr2 (i:=1)
 have r2:=cell_of hr2 (i:=2)
 have r3:=cell_of hr2 (i:=3)
 have r4:=cell_of hr2 (i:=4)
 have r5:=cell_of hr2 (i:=5)
 have r6:=cell_of hr2 (i:=6)
 simp at c0 c1 c2 c3 c4 c5 c6 r0 r1 r2 r3 r4 r5 r6
 have f0:∀j,w2.frozen? ⟨w.heap.size,j,none⟩=false:=fun j=>froz_of ha2
 have f1:∀j,w2.frozen? ⟨w.heap.size+1,j,none⟩=false:=fun j=>froz_of hr2
 go_wp2
 have p0:∀b,w.heap.size+2<=b->b≠w.heap.size/\b≠w.heap.size+1:=fun b hb=>by omega
 have e1:=p0 b1 (by omega)
 have e2:=p0 b2 (by omega)
 refine bodyPost_ret (v:= .agg #[.int .i64 a, .int .i64 b, .int .i64 k, .bool s1, .slice (some ⟨b1,0,none⟩) xs.length (xs.length+12), .bool s2, .slice (some ⟨b2,0,none⟩) ys.length (ys.length+12)]) (by simp[results,Tryz.results24,go_sem,r0,r1,r2,r3,r4,r5,r6]) rfl
  ⟨_,_,rfl, ?_,⟨b1,cs1,rfl,⟨by omega,by simp;omega⟩, ?_,ht1⟩,⟨b2,cs2,rfl,⟨by omega,by simp;omega⟩, ?_,ht2⟩⟩
 ·exact((((((((((hB2.setCell (Nat.le_refl _) _).setCell (Nat.le_refl _) _).setCell (Nat.le_refl _) _).setCell (Nat.le_refl _) _).setCell (by simp) _).setCell (by simp) _).setCell (by simp) _).setCell (by simp) _).setCell (by simp) _).setCell (by simp) _).setCell (by simp) _
 ·rw[heap_setCell_ne _ e1.2,heap_setCell_ne _ e1.2,heap_setCell_ne _ e1.2,heap_setCell_ne _ e1.2,heap_setCell_ne _ e1.2,heap_setCell_ne _ e1.2,heap_setCell_ne _ e1.2,heap_setCell_ne _ e1.1,heap_setCell_ne _ e1.1,heap_setCell_ne _ e1.1,heap_setCell_ne _ e1.1]
  exact hc1
 ·rw[heap_setCell_ne _ e2.2,heap_setCell_ne _ e2.2,heap_setCell_ne _ e2.2,heap_setCell_ne _ e2.2,heap_setCell_ne _ e2.2,heap_setCell_ne _ e2.2,heap_setCell_ne _ e2.2,heap_setCell_ne _ e2.1,heap_setCell_ne _ e2.1,heap_setCell_ne _ e2.1,heap_setCell_ne _ e2.1]
  exact hc2
end Go.Sx.Lent
set_option linter.unusedVariables false
set_option linter.unusedSimpArgs false
namespace Go.Sx.Lent
open Go Go.Proofs Go.RowKit Go.Lib Go.Sx
structure R7 where
 a:Int
 b:Int
 k:Int
 s1:Bool
 xs:List Value
 s2:Bool
 ys:List Value
def ReadA(w:World)(ao:Option Addr)(rows:List R7):Prop:=
 ∀i r,rows[i]? =some r->∃(bl off:Nat)(v1 v2:Value),ao=some ⟨bl,off,none⟩/\
  w.cell? ⟨bl,off+i*7,none⟩=some (.int .i64 r.a)/\w.cell? ⟨bl,off+i*7+1,none⟩=some (.int .i64 r.b)/\w.cell? ⟨bl,off+i*7+2,none⟩=some (.int .i64 r.k)/\w.cell? ⟨bl,off+i*7+3,none⟩=some (.bool r.s1)/\
  w.cell? ⟨bl,off+i*7+4,none⟩=some v1/\w.cell? ⟨bl,off+i*7+5,none⟩=some (.bool r.s2)/\w.cell? ⟨bl,off+i*7+6,none⟩=some v2/\ReadL w v1 r.xs/\ReadL w v2 r.ys/\v1.oneCell'=true/\v2.oneCell'=true
def ReadR(w:World)(v:Value)(rows:List R7):Prop:=
 ∃(ao:Option Addr)(n c:Nat),v= .slice ao n c/\rows.length=n/\88*(n+12)<=140737488355328/\ReadA w ao rows
def LRows(w:World)(Z:Nat->Prop)(L:List Value)(rows:List R7):Prop:=
 L.length=rows.length*7/\∀i r,rows[i]? =some r->∃u1 u2,L[i*7]? =some (.int .i64 r.a)/\L[i*7+1]? =some (.int .i64 r.b)/\L[i*7+2]? =some (.int .i64 r.k)/\L[i*7+3]? =some (.bool r.s1)/\L[i*7+4]? =some u1/\L[i*7+5]? =some (.bool r.s2)/\L[i*7+6]? =some u2/\
  LentL w Z u1 r.xs/\LentL w Z u2 r.ys
def marksR(k:Nat):List Value:=(List.range k).flatMap fun(j:Nat)=>[.int .i64 (8000024+(j:Int)), .int .i64 0, .int .i64 0, .bool false, .slice none 0 0, .bool false, .slice none 0 0]
theorem marksR_succ(k:Nat):marksR (k+1)=marksR k++[.int .i64 (8000024+(k:Int)), .int .i64 0, .int .i64 0, .bool false, .slice none 0 0, .bool false, .slice none 0 0]:=by simp[marksR,List.range_succ]
theorem ReadA.below{w w':World}{ao:Option Addr}{rows:List R7}(e4:ReadA w ao rows)(hb:Below w.heap.size w w'):ReadA w' ao rows:=by
 intro i r hr
 obtain⟨bl,off,v1,v2,ha,c0,c1,c2,c3,c4,c5,c6,l1,l2,o1,o2⟩:=e4 i r hr
 have q:∀{a:Addr}{x:Value},w.cell? a=some x->w'.cell? a=some x:=fun hx=>(hb.cell (cell_lt hx)).trans hx
 exact⟨bl,off,v1,v2,ha,q c0,q c1,q c2,q c3,q c4,q c5,q c6,l1.below hb,l2.below hb,o1,o2⟩
theorem LentL.grown{w w':World}{Z Z':Nat->Prop}{v:Value}{xs:List Value}{g:Nat}(h:LentL w Z v xs)(hg:w.grownBy w' (some g))(hn:∀b,Z b->b≠g)(hz:∀b,Z b->Z' b):LentL w' Z' v xs:=by
 obtain⟨b,cs,e1,e2,e3,e4⟩:=h
 exact⟨b,cs,e1,hz b e2,(hg.block b (Array.getElem?_eq_some_iff.1 e3).1 (fun e=>hn b e2 (by simpa using e))).trans e3,e4⟩
theorem LRows.grown{w w':World}{Z Z':Nat->Prop}{L:List Value}{rows:List R7}{g:Nat}(h:LRows w Z L rows)(hg:w.grownBy w' (some g))(hn:∀b,Z b->b≠g)(hz:∀b,Z b->Z' b):LRows w' Z' L rows:=
 ⟨h.1,fun i r hr=>by
  obtain⟨u1,u2,c0,c1,c2,c3,c4,c5,c6,l1,l2⟩:=h.2 i r hr
  exact⟨u1,u2,c0,c1,c2,c3,c4,c5,c6,l1.grown hg hn hz,l2.grown hg hn hz⟩⟩
theorem LRows.below{w w':World}{Z Z':Nat->Prop}{L:List Value}{rows:List R7}(h:LRows w Z L rows)(hb:Below w.heap.size w w')(hz:∀b,Z b->Z' b):LRows w' Z' L rows:=
 ⟨h.1,fun i r hr=>by
  obtain⟨u1,u2,c0,c1,c2,c3,c4,c5,c6,l1,l2⟩:=h.2 i r hr
  exact⟨u1,u2,c0,c1,c2,c3,c4,c5,c6,l1.below hb hz,l2.below hb hz⟩⟩
theorem LRows.snoc{w:World}{Z:Nat->Prop}{L:List Value}{rows:List R7}{r:R7}{u1 u2:Value}(h:LRows w Z L rows)(l1:LentL w Z u1 r.xs)(l2:LentL w Z u2 r.ys):
  LRows w Z (L++[.int .i64 r.a, .int .i64 r.b, .int .i64 r.k, .bool r.s1,u1, .bool r.s2,u2]) (rows++[r]):=by
 refine⟨by simp[h.1];omega,fun i q hq=> ?_⟩
 by_cases hi:i<rows.length
 ·rw[List.getElem?_append_left hi]at hq
  obtain⟨x1,x2,c0,c1,c2,c3,c4,c5,c6,m1,m2⟩:=h.2 i q hq
  have g:∀j x,L[j]? =some x->(L++[.int .i64 r.a, .int .i64 r.b, .int .i64 r.k, .bool r.s1,u1, .bool r.s2,u2])[j]? =some x:=fun j x hx=>by
   rw[List.getElem?_append_left (List.getElem?_eq_some_iff.1 hx).1];exact hx
  exact⟨x1,x2,g _ _ c0,g _ _ c1,g _ _ c2,g _ _ c3,g _ _ c4,g _ _ c5,g _ _ c6,m1,m2⟩
 ·have hlt:=(List.getElem?_eq_some_iff.1 hq).1
  have e:i=rows.length:=by simp at hlt;omega
  subst e
  rw[List.getElem?_append_right (Nat.le_refl _)]at hq
  simp at hq
  subst hq
  have hl:=h.1
  have g:∀j,(L++[.int .i64 r.a, .int .i64 r.b, .int .i64 r.k, .bool r.s1,u1, .bool r.s2,u2])[rows.length*7+j]? =[Value.int .i64 r.a, .int .i64 r.b, .int .i64 r.k, .bool r.s1,u1, .bool r.s2,u2][j]? :=fun j=>by
   rw[List.getElem?_append_right (by omega),hl]
   congr 1
   omega
  exact⟨u1,u2,g 0,g 1,g 2,g 3,g 4,g 5,g 6,l1,l2⟩
theorem ownsRow_below{w w':World}{base:Nat}{e:TypeId}{size n:Nat}{v:Value}{xs:List Value}(h:w.ownsRow base e size v n xs)(hb:Below w.heap.size w w'):w'.ownsRow base e size v n xs:=by
 refine⟨h.1, ?_⟩
 rcases h.2 with h|⟨g,cap,cur,e1,e2,e3,e4⟩
 ·exact .inl h
 ·exact .inr ⟨g,cap,cur,e1,e2,(hb.block g (Array.getElem?_eq_some_iff.1 e3).1).trans e3,e4⟩
theorem new_cells{l:List Value}{t:TypeId}{G:Nat}(w:World)(hG:G=w.heap.size):∀(j:Nat) u,l[j]? =some u->(w.alloc (.cells l.toArray t (0,0))).cell? ((⟨G,0,none⟩:Addr).add j)=some u:=fun j u hu=>by
 subst hG
 rw[Addr.add_lit]
 unfold World.cell?
 rw[heap_alloc_new]
 simpa using hu
theorem seven{x0 x1 x2:Int}{s1 s2:Bool}{a1 a2:Option Addr}{n1 c1 n2 c2:Nat}:∀u∈ [Value.int .i64 x0, .int .i64 x1, .int .i64 x2, .bool s1, .slice a1 n1 c1, .bool s2, .slice a2 n2 c2],u.oneCell'=true:=by
 intro u hu
 simp only[List.mem_cons,List.not_mem_nil,or_false]at hu
 rcases hu with rfl|rfl|rfl|rfl|rfl|rfl|rfl<;>rfl
theorem infoR:∃i:TypeInfo,Tryz.prog.info? 28=some i/\i.size=7/\i.bytes=88/\i.zero=some (.agg #[.int .i64 0, .int .i64 0, .int .i64 0, .bool false, .slice none 0 0, .bool false, .slice none 0 0]):=⟨Tryz.t28,by kernel_rfl,by kernel_rfl,by kernel_rfl,by kernel_rfl⟩
set_option maxHeartbeats 8000000 in
set_option maxRecDepth 100000 in
theorem lentRows{w:World}{v:Value}{rows:List R7}(h:ReadR w v rows):Calls Tryz.prog 33 #[v] w fun e w'=>e= .returned (.slice (some ⟨w.heap.size,0,none⟩) rows.length (rows.length+12))/\Below w.heap.size w w'/\
  ∃(cs:Array Value)(L:List Value),w'.heap[w.heap.size]? =some (.cells cs 28 (0,0))/\cs.toList=L++marksR 12/\LRows w' (fun b=>w.heap.size<b/\b<w'.heap.size) L rows:=by
 obtain⟨i0,hi,hz1,hz2,hz0⟩:=infoR
 obtain⟨ao,n,c,rfl,hn,hlim,hrow⟩:=id h
 go_enter Tryz.func33,Tryz.ntmps33
 go_wp2_with (at_make;refine wpList_make_own _ rfl _ _ 30 rfl w.heap.size 28 i0 _ 7 Tryz.underlying30 hi hz0 hz1 _ _ _ (n+12) rfl rfl (by omega) ?b2 ?b3 (Nat.le_refl _) ?_)
 case b2=>rw[hz2];omega
 case b3=>unfold maxLen;omega
 intro w0 hown0 hgrow0
 go_wp2
 have hg0:Below w.heap.size w w0:=(Below.refl _ _).grown hgrow0 (Nat.le_refl _) (fun k h=>by cases h)
 have hw0s:w.heap.size<w0.heap.size:=by
  rcases hown0.2 with⟨h,_⟩|⟨g,cap,cur,h,_,hg,_⟩
  ·cases h
  ·simp only[Value.slice.injEq,Option.some.injEq,Addr.mk.injEq,and_true,true_and]at h
   obtain⟨rfl,rfl⟩:=h
   exact(Array.getElem?_eq_some_iff.1 hg).1
 go_loopw [3,4] (fun out i wr=>∃(k:Nat)(L:List Value),k<=n/\i= .int .i64 k/\out= .slice (some ⟨w.heap.size,0,none⟩) k (n+12)/\wr.ownsRow w.heap.size 28 7 (.slice (some ⟨w.heap.size,0,none⟩) k (n+12)) k L/\
   LRows wr (fun b=>w.heap.size<b/\b<wr.heap.size) L (rows.take k)/\Below w.heap.size w wr/\w.heap.size<wr.heap.size) (fun _ i _=>n-(intOf i).toNat)
 case atStart=>exact⟨0,[],Nat.zero_le _,rfl,rfl,hown0,⟨by simp,fun i r hr=>by simp at hr⟩,hg0,hw0s⟩
 case round=>
  obtain⟨k,L,hk,rfl,rfl,hown,hL,hnx,hsz⟩:=hrel
  by_cases hlt:k<n
  ·have hlt':(k:Int)<n:=by omega
   have hr:rows[k]? =some (rows[k]'(by omega)):=List.getElem?_eq_getElem _
   generalize rows[k]'(by omega)=r at hr
   obtain⟨bl,off,v1,v2,rfl,c0,c1,c2,c3,c4,c5,c6,l1,l2,o1,o2⟩:=(hrow.below hnx) k r hr
   go_wp2_with fail
   refine(lentRow l1 l2 o1 o2).mono ?_
   rintro e w1 ⟨u1,u2,rfl,hb1,hl1,hl2⟩
   obtain⟨b1,cs1,rfl,hz1',hc1,ht1⟩:=id hl1
   obtain⟨b2,cs2,rfl,hz2',hc2,ht2⟩:=id hl2
   have hB1:Below w.heap.size w w1:=hnx.trans (hb1.mono hnx.size)
   have hs1:=hb1.size
   go_wp2_with (at_builtin;refine wpList_append_fits _ rfl (.tmp 22) (.tmp 24) 30 rfl w.heap.size 28 i0 7 Tryz.underlying30 hi hz1 w.heap.size k (n+12) L rfl (((ownsRow_below hown hb1).alloc _).alloc _) ⟨w1.heap.size+1,0,none⟩ 1 1 [.int .i64 r.a, .int .i64 r.b, .int .i64 r.k, .bool r.s1, .slice (some ⟨b1,0,none⟩) r.xs.length (r.xs.length+12), .bool r.s2, .slice (some ⟨b2,0,none⟩) r.ys.length (r.ys.length+12)] rfl rfl (new_cells _ (by simp)) seven (by omega) ?_;intro w2 hown2 hgrow2)
   have zlt:∀b,(w.heap.size<b/\b<wr.heap.size)->b≠w.heap.size:=fun b hb=>by omega
   have hB2:=(hB1.alloc hB1.size (.cells #[.int .i64 r.a, .int .i64 r.b, .int .i64 r.k, .bool r.s1, .slice (some ⟨b1,0,none⟩) r.xs.length (r.xs.length+12), .bool r.s2, .slice (some ⟨b2,0,none⟩) r.ys.length (r.ys.length+12)] 28 (0,0)))
   have hB3:=hB2.alloc hB2.size (.cells #[.int .i64 r.a, .int .i64 r.b, .int .i64 r.k, .bool r.s1, .slice (some ⟨b1,0,none⟩) r.xs.length (r.xs.length+12), .bool r.s2, .slice (some ⟨b2,0,none⟩) r.ys.length (r.ys.length+12)] 28 (0,0))
   have hA:=((Below.refl w1.heap.size w1).alloc (Nat.le_refl _) (.cells #[.int .i64 r.a, .int .i64 r.b, .int .i64 r.k, .bool r.s1, .slice (some ⟨b1,0,none⟩) r.xs.length (r.xs.length+12), .bool r.s2, .slice (some ⟨b2,0,none⟩) r.ys.length (r.ys.length+12)] 28 (0,0))).alloc (by simp) (.cells #[.int .i64 r.a, .int .i64 r.b, .int .i64 r.k, .bool r.s1, .slice (some ⟨b1,0,none⟩) r.xs.length (r.xs.length+12), .bool r.s2, .slice (some ⟨b2,0,none⟩) r.ys.length (r.ys.length+12)] 28 (0,0))
   have hs2:=hgrow2.size
   have hs3:=hA.size
   have hL2:LRows w2 (fun b=>w.heap.size<b/\b<w2.heap.size) L (rows.take k):=((hL.below hb1 (Z':=fun b=>w.heap.size<b/\b<wr.heap.size) fun _ x=>x).below hA (Z':=fun b=>w.heap.size<b/\b<wr.heap.size) fun _ x=>x).grown hgrow2 (fun b hb=>by omega) (fun b hb=>by omega)
   have g1:LentL w2 (fun b=>w.heap.size<b/\b<w2.heap.size) (.slice (some ⟨b1,0,none⟩) r.xs.length (r.xs.length+12)) r.xs:=(hl1.below hA (Z':=fun b=>wr.heap.size<=b/\b<w1.heap.size) fun _ x=>x).grown hgrow2 (fun b hb=>by omega) (fun b hb=>by omega)
   have g2:LentL w2 (fun b=>w.heap.size<b/\b<w2.heap.size) (.slice (some ⟨b2,0,none⟩) r.ys.length (r.ys.length+12)) r.ys:=(hl2.below hA (Z':=fun b=>wr.heap.size<=b/\b<w1.heap.size) fun _ x=>x).grown hgrow2 (fun b hb=>by omega) (fun b hb=>by omega)
   go_roundw
   case rel=>
    refine⟨k+1,_,by omega,by go_num,rfl,hown2, ?_,hB3.grown hgrow2 hB3.size (fun k hk=>by cases hk;exact Nat.le_refl _),by omega⟩
    rw[List.take_add_one,hr]
    exact hL2.snoc g1 g2
   case measure=>simp[intOf];omega
  ·have hge:¬(k:Int)<n:=by omega
   obtain rfl:k=n:=by omega
   rw[List.take_of_length_le (by omega)]at hL
   go_wp2
   go_loopw [3,6] (fun out i wx=>∃m:Nat,m<=12/\i= .int .i64 m/\out= .slice (some ⟨w.heap.size,0,none⟩) (k+m) (k+12)/\wx.ownsRow w.heap.size 28 7 (.slice (some ⟨w.heap.size,0,none⟩) (k+m) (k+12)) (k+m) (L++marksR m)/\
    LRows wx (fun b=>w.heap.size<b/\b<wx.heap.size) L rows/\Below w.heap.size w wx/\w.heap.size<wx.heap.size) (fun _ i _=>12-(intOf i).toNat)
   case atStart=>exact⟨0,by omega,rfl,rfl,by simpa[marksR]using hown,hL,hnx,hsz⟩
   case round=>
    obtain⟨m,hm,rfl,rfl,hown,hL,hnx,hsz⟩:=hrel
    by_cases hlt:m<12
    ·have hlt':(m:Int)<12:=by omega
     go_wp2_with fail
     refine(markRow 1 m (by omega) (by omega) _).mono ?_
     rintro e w1 ⟨rfl,hb1⟩
     have hB1:Below w.heap.size w w1:=hnx.trans (hb1.mono hnx.size)
     have hs1:=hb1.size
     go_wp2_with (at_builtin;refine wpList_append_fits _ rfl (.tmp 30) (.tmp 33) 30 rfl w.heap.size 28 i0 7 Tryz.underlying30 hi hz1 w.heap.size (k+m) (k+12) (L++marksR m) rfl ((ownsRow_below hown hb1).alloc _) ⟨w1.heap.size,0,none⟩ 1 1 [.int .i64 (8000024+(m:Int)), .int .i64 0, .int .i64 0, .bool false, .slice none 0 0, .bool false, .slice none 0 0] rfl rfl (new_cells _ rfl) seven (by omega) ?_;intro w2 hown2 hgrow2)
     have hA:=(Below.refl w1.heap.size w1).alloc (Nat.le_refl _) (.cells #[.int .i64 (8000024+(m:Int)), .int .i64 0, .int .i64 0, .bool false, .slice none 0 0, .bool false, .slice none 0 0] 28 (0,0))
     have hB2:=hB1.alloc hB1.size (.cells #[.int .i64 (8000024+(m:Int)), .int .i64 0, .int .i64 0, .bool false, .slice none 0 0, .bool false, .slice none 0 0] 28 (0,0))
     have hs2:=hgrow2.size
     have hs3:=hA.size
     go_roundw
     case rel=>
      refine⟨m+1,by omega,by go_num,rfl,by rw[marksR_succ,<-List.append_assoc];exact hown2, ?_,hB2.grown hgrow2 hB2.size (fun k hk=>by cases hk;exact Nat.le_refl _),by omega⟩
      exact((hL.below hb1 (Z':=fun b=>w.heap.size<b/\b<w1.heap.size) fun b hb=>by omega).below hA (Z':=fun b=>w.heap.size<b/\b<w1.heap.size) fun _ x=>x).grown hgrow2 (fun b hb=>by omega) (fun b hb=>by omega)
     case measure=>simp[intOf];omega
    ·have hge:¬(m:Int)<12:=by omega
     obtain rfl:m=12:=by omega
     go_wp2
     go_ret
     refine⟨rfl,hnx, ?_⟩
     rcases hown.2 with⟨h,_⟩|⟨g,cap,cur,h,_,hg,_,_,hcs,htake⟩
     ·cases h
     ·simp only[Value.slice.injEq,Option.some.injEq,Addr.mk.injEq,and_true,true_and]at h
      obtain⟨rfl,rfl⟩:=h
      refine⟨cur,hg,L, ?_,hL⟩
      rw[<-htake,List.take_of_length_le (by simp;omega)]
end Go.Sx.Lent
set_option linter.unusedVariables false
set_option linter.unusedSimpArgs false
namespace Go.Sx.Lent
open Go Go.Proofs Go.RowKit Go.Lib Go.Sx
theorem ReadR.below{w w':World}{v:Value}{rows:List R7}(h:ReadR w v rows)(hb:Below w.heap.size w w'):ReadR w' v rows:=by
 obtain⟨ao,n,c,e1,e2,e3,e4⟩:=h
 exact⟨ao,n,c,e1,e2,e3,e4.below hb⟩
set_option maxHeartbeats 4000000 in
set_option maxRecDepth 100000 in
theorem lentTable{w:World}{y:ByteArray}{two:Bool}{v:Value}{rows:List R7}(h:ReadR w v rows)(h2:v.oneCell'=true):
  Calls Tryz.prog 10 #[.agg #[.string y, .bool two,v]] w fun e w'=>∃(b:Nat)(cs:Array Value)(L:List Value),e= .returned (.agg #[.string y, .bool two, .slice (some ⟨b,0,none⟩) rows.length (rows.length+12)])/\Below w.heap.size w w'/\News w w' b/\
   w'.heap[b]? =some (.cells cs 28 (0,0))/\cs.toList=L++marksR 12/\LRows w' (News w w') L rows:=by
 obtain⟨hb0,hs0,ha0,hr0⟩:=two_new w #[.string y, .bool two,v] #[.string ⟨#[]⟩, .bool false, .slice none 0 0] 32 32
 go_enter Tryz.func10,Tryz.ntmps10
 go_wp2_with fail
 refine(lentRows (h.below hb0)).mono ?_
 rintro e w2 ⟨rfl,hb1,cs,L,hc1,ht1,hL⟩
 have l1:=(Array.getElem?_eq_some_iff.1 hc1).1
 have ha2:=(hb1.block _ (by omega)).trans ha0
 have hr2:=(hb1.block _ (by omega)).trans hr0
 have hs1:=hb1.size
 rw[hs0]at hs1 hc1 hL l1
 simp only[hs0]at*
 have hB2:=hb0.trans (hb1.mono (by omega))
 have c0:=cell_of ha2 (i:=0)
 have c1:=cell_of ha2 (i:=1)
 have c2:=cell_of ha2 (i:=2)
 have r0:=cell_of hr2 (i:=0)
 have r1:=cell_of hr2 (i:=1)
 have r2:=cell_of hr2 (i:=2)
 simp at c0 c1 c2 r0 r1 r2
 have f0:∀j,w2.frozen? ⟨w.heap.size,j,none⟩=false:=fun j=>froz_of ha2
 have f1:∀j,w2.frozen? ⟨w.heap.size+1,j,none⟩=false:=fun j=>froz_of hr2
 go_wp2
 have keep:∀b,w.heap.size+2<=b->((((w2.setCell ⟨w.heap.size,2,none⟩ (.slice (some ⟨w.heap.size+2,0,none⟩) rows.length (rows.length+12))).setCell ⟨w.heap.size+1,0,none⟩ (.string y)).setCell ⟨w.heap.size+1,1,none⟩ (.bool two)).setCell ⟨w.heap.size+1,2,none⟩ (.slice (some ⟨w.heap.size+2,0,none⟩) rows.length (rows.length+12))).heap[b]? =w2.heap[b]? :=fun b hb=>by
  rw[heap_setCell_ne _ (by simp;omega),heap_setCell_ne _ (by simp;omega),heap_setCell_ne _ (by simp;omega),heap_setCell_ne _ (by simp;omega)]
 have lk:∀{u:Value}{zs:List Value},LentL w2 (fun b=>w.heap.size+2<b/\b<w2.heap.size) u zs->LentL ((((w2.setCell ⟨w.heap.size,2,none⟩ (.slice (some ⟨w.heap.size+2,0,none⟩) rows.length (rows.length+12))).setCell ⟨w.heap.size+1,0,none⟩ (.string y)).setCell ⟨w.heap.size+1,1,none⟩ (.bool two)).setCell ⟨w.heap.size+1,2,none⟩ (.slice (some ⟨w.heap.size+2,0,none⟩) rows.length (rows.length+12))) (News w ((((w2.setCell ⟨w.heap.size,2,none⟩ (.slice (some ⟨w.heap.size+2,0,none⟩) rows.length (rows.length+12))).setCell ⟨w.heap.size+1,0,none⟩ (.string y)).setCell ⟨w.heap.size+1,1,none⟩ (.bool two)).setCell ⟨w.heap.size+1,2,none⟩ (.slice (some ⟨w.heap.size+2,0,none⟩) rows.length (rows.length+12)))) u zs:=fun{u zs} hl=>by
  obtain⟨b,cs,e1,e2,e3,e4⟩:=hl
  exact⟨b,cs,e1,⟨by omega,by simp;omega⟩,(keep b (by omega)).trans e3,e4⟩
 refine bodyPost_ret (v:= .agg #[.string y, .bool two, .slice (some ⟨w.heap.size+2,0,none⟩) rows.length (rows.length+12)]) (by simp[results,Tryz.results10,go_sem,r0,r1,r2]) rfl
  ⟨w.heap.size+2,cs,L,rfl, ?_,⟨by omega,by simp;omega⟩,(keep _ (Nat.le_refl _)).trans hc1,ht1,hL.1,fun i r hr=> ?_⟩
 ·exact(((hB2.setCell (Nat.le_refl _) _).setCell (by simp) _).setCell (by simp) _).setCell (by simp) _
 ·obtain⟨u1,u2,c0,c1,c2,c3,c4,c5,c6,g1,g2⟩:=hL.2 i r hr
  exact⟨u1,u2,c0,c1,c2,c3,c4,c5,c6,lk g1,lk g2⟩
end Go.Sx.Lent
set_option linter.unusedVariables false
set_option linter.unusedSimpArgs false
namespace Go.Sx.Lent
open Go Go.Proofs Go.RowKit Go.Lib Go.Sx
def ints(zs:List Int):List Value:=zs.map (Value.int .u16)
def limbsI(m:Nat)(g:Nat->Nat->D):List Int:=(List.range m).map fun j=>(g j 0).toI
theorem limbs_len(m:Nat)(g:Nat->Nat->D):(ints (limbsI m g)).length=m:=by simp[ints,limbsI]
theorem limbs_get{m:Nat}{g:Nat->Nat->D}{j:Nat}(hj:j<m):(ints (limbsI m g))[j]? =some (.int .u16 (g j 0).toI):=by simp[ints,limbsI,hj]
theorem kindU:kinds Tryz.prog 105=some [.int .u16]:=by kernel_rfl
theorem kindR:kinds Tryz.prog 28=some [.int .i64, .int .i64, .int .i64, .bool, .sl 105, .bool, .sl 105]:=by kernel_rfl
def LimbsOk(m:Nat)(g:Nat->Nat->D):Prop:=∀j,j<m->∃n,g j 0= .int n/\IntKind.u16.min<=n/\n<=IntKind.u16.max
theorem readL_of{w:World}{R:Nat->Prop}{m:Nat}{g:Nat->Nat->D}{v:Value}(h:Rd Tryz.prog w R (.sl m g) (.sl 105) v)(hm:2*(m+12)<=140737488355328):ReadL w v (ints (limbsI m g))/\v.oneCell'=true/\LimbsOk m g:=by
 obtain⟨e,a,cap,hk,hv,h1,h2,h4,h5⟩:=h
 cases hk
 have cell:∀j,j<m->∃ad n,a=some ad/\ad.spot=none/\g j 0= .int n/\(IntKind.u16.min<=n/\n<=IntKind.u16.max)/\w.cell? ⟨ad.block,ad.off+j,none⟩=some (.int .u16 n):=fun j hj=>by
  obtain⟨ad,u,ha,hs,_,hc,hr⟩:=h5 _ j 0 (.int .u16) kindU hj rfl
  cases hd:g j 0 with
  |int n=>
   rw[hd]at hr
   obtain⟨ik,hik,hu,g1,g2⟩:=hr
   cases hik
   subst hu
   refine⟨ad,n,ha,hs,rfl,⟨g1,g2⟩, ?_⟩
   simpa using hc
  |bool b=>rw[hd]at hr;exact absurd hr.1 (by simp)
  |str b=>rw[hd]at hr;exact absurd hr.1 (by simp)
  |sl p q=>rw[hd]at hr;obtain⟨_,_,_,hk,_⟩:=hr;cases hk
 refine⟨⟨a,m,cap,hv,limbs_len m g,fun hn=> ?_,fun ad ha j u hu=> ?_,fun u hu=> ?_,hm⟩,by rw[hv];rfl,fun j hj=> ?_⟩
 ·have hc:=h4 hn
  have:m<=cap:=Nat.le_trans h1 (Nat.min_le_left _ _)
  exact⟨by omega,hc⟩
 ·have hj:j<m:=by
   have:=(List.getElem?_eq_some_iff.1 hu).1
   rwa[limbs_len]at this
  obtain⟨ad',n,ha',hs,hg,_,hc⟩:=cell j hj
  rw[ha]at ha'
  cases ha'
  rw[limbs_get hj,hg]at hu
  cases hu
  obtain⟨bl,off,sp⟩:=ad
  cases hs
  rw[Addr.add_lit]
  exact hc
 ·simp only[ints,List.mem_map]at hu
  obtain⟨z,_,rfl⟩:=hu
  rfl
 ·obtain⟨_,n,_,_,hg,hn,_⟩:=cell j hj
  exact⟨n,hg,hn⟩
theorem marks_get{q:Nat}(hq:q<12):(marksL 12)[q]? =some (tailC [.int .u16] q):=by
 have h1:q % 1=0:=Nat.mod_one q
 simp[marksL,tailC,hq,h1]
theorem lt_of{w:World}{Z:Nat->Prop}{m:Nat}{g:Nat->Nat->D}{v:Value}(h:LentL w Z v (ints (limbsI m g)))(hl:LimbsOk m g)(hm:m+12<=140737488355328):Lt Tryz.prog w Z (.sl m g) (.sl 105) v:=by
 obtain⟨b,cs,hv,hz,hb,hcs⟩:=h
 rw[limbs_len]at hv
 have hsz:cs.size=m+12:=by rw[<-Array.length_toList,hcs,List.length_append,limbs_len,marksL_len]
 have get:∀j,cs[j]? =(ints (limbsI m g)++marksL 12)[j]? :=fun j=>by rw[<-hcs,Array.getElem?_toList]
 refine⟨105,b,cs,rfl,hv,hm,hz,hb,fun ks hks=> ?_⟩
 rw[kindU]at hks
 cases hks
 refine⟨by simpa using hsz,fun i j kk hi hj=> ?_,fun q hq=> ?_⟩
 ·have hj0:j=0:=by
   have:=(List.getElem?_eq_some_iff.1 hj).1
   simp at this
   exact this
  subst hj0
  cases hj
  obtain⟨n,hn,g1,g2⟩:=hl i hi
  refine⟨.int .u16 n, ?_, ?_⟩
  ·have:=get i
   rw[List.getElem?_append_left (by rw[limbs_len];exact hi),limbs_get hi,hn]at this
   have this:cs[i]? =some (.int .u16 n):=this
   simpa using this
  ·rw[hn]
   exact⟨.u16,rfl,rfl,g1,g2⟩
 ·have hq:q<12:=by simpa using hq
  have:=get (m+q)
  rw[List.getElem?_append_right (by rw[limbs_len];omega),limbs_len,show m+q-m=q by omega,marks_get hq]at this
  simpa using this
theorem limbV_of{w:World}{Z:Nat->Prop}{m:Nat}{g:Nat->Nat->D}{v:Value}(h:Lt Tryz.prog w Z (.sl m g) (.sl 105) v):LimbV w Z v/\v.oneCell'=true:=by
 obtain⟨e,b,cs,hk,hv,hm,hz,hb,hc⟩:=h
 cases hk
 refine⟨⟨b,m,cs,hv,hm,hb, ?_,hz⟩,by rw[hv];rfl⟩
 have:=(hc _ kindU).1
 simpa using this
theorem lentL_of{w:World}{Z:Nat->Prop}{m:Nat}{g:Nat->Nat->D}{v:Value}(h:Lt Tryz.prog w Z (.sl m g) (.sl 105) v):LentL w Z v (ints (limbsI m g)):=by
 obtain⟨e,b,cs,hk,hv,hm,hz,hb,hc⟩:=h
 cases hk
 obtain⟨h1,h2,h3⟩:=hc _ kindU
 simp at h1 h3
 refine⟨b,cs,by rw[limbs_len];exact hv,hz,hb, ?_⟩
 apply List.ext_getElem?
 intro j
 rw[Array.getElem?_toList]
 by_cases hj:j<m
 ·rw[List.getElem?_append_left (by rw[limbs_len];exact hj),limbs_get hj]
  obtain⟨u,hu,hl⟩:=h2 j 0 (.int .u16) hj rfl
  simp at hu
  rw[hu]
  cases hd:g j 0 with
  |int n=>
   rw[hd]at hl
   obtain⟨ik,hik,hu,_⟩:=hl
   cases hik
   rw[hu]
   rfl
  |bool b=>rw[hd]at hl;exact absurd hl.1 (by simp)
  |str b=>rw[hd]at hl;exact absurd hl.1 (by simp)
  |sl p q=>rw[hd]at hl;obtain⟨_,_,_,hk,_⟩:=hl;cases hk
 ·rw[List.getElem?_append_right (by rw[limbs_len];omega),limbs_len]
  by_cases hq:j-m<12
  ·rw[marks_get hq]
   have:=h3 (j-m) hq
   rwa[show m+(j-m)=j by omega]at this
  ·rw[List.getElem?_eq_none (by rw[marksL_len];omega),Array.getElem?_eq_none (by omega)]
def rowOf(f:Nat->D):R7:=⟨(f 0).toI,(f 1).toI,(f 2).toI,(f 3).toB,ints (limbsI (f 4).toS.n (f 4).toS.f),(f 5).toB,ints (limbsI (f 6).toS.n (f 6).toS.f)⟩
def rowsOf(n:Nat)(f:Nat->Nat->D):List R7:=(List.range n).map fun i=>rowOf (f i)
theorem rows_get{n:Nat}{f:Nat->Nat->D}{i:Nat}(hi:i<n):(rowsOf n f)[i]? =some (rowOf (f i)):=by simp[rowsOf,hi]
theorem rows_len(n:Nat)(f:Nat->Nat->D):(rowsOf n f).length=n:=by simp[rowsOf]
def RowOk(f:Nat->D):Prop:=∃a b k s1 m1 g1 s2 m2 g2,f 0= .int a/\f 1= .int b/\f 2= .int k/\f 3= .bool s1/\f 4= .sl m1 g1/\f 5= .bool s2/\f 6= .sl m2 g2/\LimbsOk m1 g1/\LimbsOk m2 g2/\m1+12<=140737488355328/\m2+12<=140737488355328/\
 (IntKind.i64.min<=a/\a<=IntKind.i64.max)/\(IntKind.i64.min<=b/\b<=IntKind.i64.max)/\(IntKind.i64.min<=k/\k<=IntKind.i64.max)
theorem rd_int{w:World}{R:Nat->Prop}{d:D}{k:IntKind}{u:Value}(h:Rd Tryz.prog w R d (.int k) u):∃n,d= .int n/\u= .int k n/\k.min<=n/\n<=k.max:=by
 cases d with
 |int n=>
  obtain⟨ik,hik,hu,g1,g2⟩:=h
  cases hik
  exact⟨n,rfl,hu,g1,g2⟩
 |bool b=>exact absurd h.1 (by simp)
 |str b=>exact absurd h.1 (by simp)
 |sl p q=>obtain⟨_,_,_,hk,_⟩:=h;cases hk
theorem rd_bool{w:World}{R:Nat->Prop}{d:D}{u:Value}(h:Rd Tryz.prog w R d .bool u):∃b,d= .bool b/\u= .bool b:=by
 cases d with
 |int n=>obtain⟨ik,hik,_⟩:=h;cases hik
 |bool b=>exact⟨b,rfl,h.2⟩
 |str b=>exact absurd h.1 (by simp)
 |sl p q=>obtain⟨_,_,_,hk,_⟩:=h;cases hk
theorem rd_str{w:World}{R:Nat->Prop}{d:D}{u:Value}(h:Rd Tryz.prog w R d .str u):∃b,d= .str b/\u= .string b:=by
 cases d with
 |int n=>obtain⟨ik,hik,_⟩:=h;cases hik
 |bool b=>exact absurd h.1 (by simp)
 |str b=>exact⟨b,rfl,h.2⟩
 |sl p q=>obtain⟨_,_,_,hk,_⟩:=h;cases hk
theorem rd_sl{w:World}{R:Nat->Prop}{d:D}{e:TypeId}{u:Value}(h:Rd Tryz.prog w R d (.sl e) u):∃m g,d= .sl m g:=by
 cases d with
 |int n=>obtain⟨ik,hik,_⟩:=h;cases hik
 |bool b=>exact absurd h.1 (by simp)
 |str b=>exact absurd h.1 (by simp)
 |sl m g=>exact⟨m,g,rfl⟩
theorem readR_of{w:World}{R:Nat->Prop}{n:Nat}{f:Nat->Nat->D}{v:Value}(h:Rd Tryz.prog w R (.sl n f) (.sl 28) v)(hn:88*(n+12)<=140737488355328)(hl:∀i,i<n->2*((f i 4).toS.n+12)<=140737488355328/\2*((f i 6).toS.n+12)<=140737488355328):
  ReadR w v (rowsOf n f)/\v.oneCell'=true/\∀i,i<n->RowOk (f i):=by
 obtain⟨e,a,cap,hk,hv,h1,h2,h4,h5⟩:=h
 cases hk
 have cell:∀i,i<n->∀(j:Nat) kk,([.int .i64, .int .i64, .int .i64, .bool, .sl 105, .bool, .sl 105]:List K)[j]? =some kk->∃bl off u,a=some ⟨bl,off,none⟩/\w.cell? ⟨bl,off+(i*7+j),none⟩=some u/\Rd Tryz.prog w R (f i j) kk u:=fun i hi j kk hj=>by
  obtain⟨ad,u,ha,hs,_,hc,hr⟩:=h5 _ i j kk kindR hi hj
  obtain⟨bl,off,sp⟩:=ad
  cases hs
  exact⟨bl,off,u,ha,hc,hr⟩
 have row:∀i,i<n->RowOk (f i)/\∃(bl off:Nat)(v1 v2:Value),a=some ⟨bl,off,none⟩/\
  w.cell? ⟨bl,off+i*7,none⟩=some (.int .i64 (rowOf (f i)).a)/\w.cell? ⟨bl,off+i*7+1,none⟩=some (.int .i64 (rowOf (f i)).b)/\w.cell? ⟨bl,off+i*7+2,none⟩=some (.int .i64 (rowOf (f i)).k)/\w.cell? ⟨bl,off+i*7+3,none⟩=some (.bool (rowOf (f i)).s1)/\
  w.cell? ⟨bl,off+i*7+4,none⟩=some v1/\w.cell? ⟨bl,off+i*7+5,none⟩=some (.bool (rowOf (f i)).s2)/\w.cell? ⟨bl,off+i*7+6,none⟩=some v2/\ReadL w v1 (rowOf (f i)).xs/\ReadL w v2 (rowOf (f i)).ys/\v1.oneCell'=true/\v2.oneCell'=true:=fun i hi=>by
  obtain⟨bl,off,u0,ha,c0,r0⟩:=cell i hi 0 _ rfl
  obtain⟨_,_,u1,ha1,c1,r1⟩:=cell i hi 1 _ rfl
  obtain⟨_,_,u2,ha2,c2,r2⟩:=cell i hi 2 _ rfl
  obtain⟨_,_,u3,ha3,c3,r3⟩:=cell i hi 3 _ rfl
  obtain⟨_,_,u4,ha4,c4,r4⟩:=cell i hi 4 _ rfl
  obtain⟨_,_,u5,ha5,c5,r5⟩:=cell i hi 5 _ rfl
  obtain⟨_,_,u6,ha6,c6,r6⟩:=cell i hi 6 _ rfl
  rw[ha]at ha1 ha2 ha3 ha4 ha5 ha6
  cases ha1;cases ha2;cases ha3;cases ha4;cases ha5;cases ha6
  obtain⟨n0,d0,rfl,z0⟩:=rd_int r0
  obtain⟨n1,d1,rfl,z1⟩:=rd_int r1
  obtain⟨n2,d2,rfl,z2⟩:=rd_int r2
  obtain⟨b3,d3,rfl⟩:=rd_bool r3
  obtain⟨m4,g4,d4⟩:=rd_sl r4
  obtain⟨b5,d5,rfl⟩:=rd_bool r5
  obtain⟨m6,g6,d6⟩:=rd_sl r6
  have hl4:=(hl i hi).1
  have hl6:=(hl i hi).2
  rw[d4]at r4 hl4
  rw[d6]at r6 hl6
  have hl4:2*(m4+12)<=140737488355328:=hl4
  have hl6:2*(m6+12)<=140737488355328:=hl6
  obtain⟨p4,o4,q4⟩:=readL_of r4 hl4
  obtain⟨p6,o6,q6⟩:=readL_of r6 hl6
  refine⟨⟨n0,n1,n2,b3,m4,g4,b5,m6,g6,d0,d1,d2,d3,d4,d5,d6,q4,q6,by omega,by omega,z0,z1,z2⟩,bl,off,u4,u6,ha, ?_, ?_, ?_, ?_,c4, ?_,c6, ?_, ?_,o4,o6⟩
  ·show w.cell? _=some (.int .i64 (f i 0).toI);rw[d0];exact c0
  ·show w.cell? _=some (.int .i64 (f i 1).toI);rw[d1];exact c1
  ·show w.cell? _=some (.int .i64 (f i 2).toI);rw[d2];exact c2
  ·show w.cell? _=some (.bool (f i 3).toB);rw[d3];exact c3
  ·show w.cell? _=some (.bool (f i 5).toB);rw[d5];exact c5
  ·show ReadL w u4 (ints (limbsI (f i 4).toS.n (f i 4).toS.f));rw[d4];exact p4
  ·show ReadL w u6 (ints (limbsI (f i 6).toS.n (f i 6).toS.f));rw[d6];exact p6
 refine⟨⟨a,n,cap,hv,rows_len n f,hn,fun i r hr=> ?_⟩,by rw[hv];rfl,fun i hi=>(row i hi).1⟩
 have hi:i<n:=by
  have:=(List.getElem?_eq_some_iff.1 hr).1
  rwa[rows_len]at this
 rw[rows_get hi]at hr
 cases hr
 exact(row i hi).2
end Go.Sx.Lent
set_option linter.unusedVariables false
set_option linter.unusedSimpArgs false
namespace Go.Sx.Lent
open Go Go.Proofs Go.RowKit Go.Lib Go.Sx
theorem drewN_below(w:World)(n:Nat):Below w.heap.size w (w.drewN n):=⟨rfl,rfl,rfl,Nat.le_refl _,fun _ _=>rfl⟩
set_option maxRecDepth 100000 in
theorem mark1(m:Nat)(hm:m<=140737488355328)(w:World):Calls Tryz.prog 106 #[.int .i64 1, .int .i64 m] w fun e w'=>e= .returned (.int .i64 (8000024+(m:Int)))/\w'=w:=by
 go_enter Tryz.func106,Tryz.ntmps106
 go_wp2
 go_ret
 exact⟨rfl,rfl⟩
set_option maxHeartbeats 4000000 in
set_option maxRecDepth 100000 in
theorem keptLimbs{w:World}{Z:Nat->Prop}{v u:Value}{zs:List Int}(h:LentL w Z v (ints zs))(g:ReadL w u (ints zs)):Calls Tryz.prog 146 #[v,u] w fun e w'=>e= .returned (.bool true)/\Below w.heap.size w w':=by
 obtain⟨b,cs,rfl,hz,hb,hcs⟩:=h
 obtain⟨ao,n,c,rfl,hn,hnone,hc,h1,hlim⟩:=g
 go_enter Tryz.func146,Tryz.ntmps146
 have hlen:(ints zs).length=zs.length:=by simp[ints]
 have hcsz:cs.size=zs.length+12:=by rw[<-Array.length_toList,hcs,List.length_append,hlen,marksL_len]
 have get:∀j,cs[j]? =(ints zs++marksL 12)[j]? :=fun j=>by rw[<-hcs,Array.getElem?_toList]
 have hn':n=zs.length:=by omega
 subst hn'
 rw[hlen]at*
 go_wp2
 go_loopw [6] (fun i wr=>∃k:Nat,k<=zs.length+12/\i= .int .i64 k/\Below w.heap.size w wr) (fun i _=>zs.length+12-(intOf i).toNat)
 case atStart=>exact⟨0,Nat.zero_le _,rfl,Below.refl _ _⟩
 case round=>
  obtain⟨k,hk,rfl,hnx⟩:=hrel
  have hbr:wr.heap[b]? =some (.cells cs 105 (0,0)):=(hnx.block b (Array.getElem?_eq_some_iff.1 hb).1).trans hb
  by_cases hlt:k<zs.length+12
  ·have hlt':(k:Int)<(zs.length:Int)+12:=by omega
   by_cases hin:k<zs.length
   ·have hin':(k:Int)<(zs.length:Int):=by omega
    have hx:(ints zs)[k]? =some (.int .u16 zs[k]):=by simp[ints,hin]
    have q1:wr.cell? ⟨b,k,none⟩=some (.int .u16 zs[k]):=by
     rw[cell_of hbr,get,List.getElem?_append_left (by simp[ints];exact hin)]
     exact hx
    obtain⟨ad,rfl⟩:∃ad,ao=some ad:=by
     cases ao with
     |none=>have:=(hnone rfl).1;omega
     |some ad=>exact⟨ad,rfl⟩
    obtain⟨bl,off,sp⟩:=ad
    have q2:wr.cell? ((⟨bl,off,sp⟩:Addr).add k)=some (.int .u16 zs[k]):=by
     have h0:=hc _ rfl k _ hx
     exact(hnx.cell (cell_lt h0)).trans h0
    clear hc
    have d1:decide ((zs.length:Int)<=(k:Int))=false:=by simp;omega
    have d2:decide ((k:Int)>=(zs.length:Int))=false:=by simp;omega
    have d3:decide (zs.length<=k)=false:=by simp;omega
    go_wp2_with fail
    go_quiet (fail)
    go_wp2
    go_round
    case rel=>exact⟨k+1,by omega,by go_num,hnx.trans ((drewN_below wr _).mono hnx.size)⟩
    case measure=>simp[intOf];omega
   ·have hm:k-zs.length<12:=by omega
    obtain⟨m,rfl⟩:∃m,k=zs.length+m:=⟨k-zs.length,by omega⟩
    have q1:wr.cell? ⟨b,zs.length+m,none⟩=some (.int .u16 (IntKind.u16.wrap (8000024+(m:Int)))):=by
     rw[cell_of hbr,get,List.getElem?_append_right (by simp[ints])]
     have:zs.length+m-(ints zs).length=m:=by simp[ints]
     rw[this]
     have hm:m<12:=by omega
     simp[marksL,hm]
    have d1:decide ((zs.length:Int)+(m:Int)<(zs.length:Int))=false:=by simp;omega
    have d2:decide (zs.length+m<zs.length)=false:=by simp
    have d3:decide (zs.length<=zs.length+m)=true:=by simp
    have d4:decide ((zs.length:Int)<=(zs.length:Int)+(m:Int))=true:=by simp;omega
    have d5:decide ((m:Int)<0)=false:=by simp
    have e1:(zs.length:Int)+(m:Int)-(zs.length:Int)=(m:Int):=by omega
    clear hc
    go_wp2_with fail
    go_quiet (first|(go_at_call 106;refine Calls.quiet_of_same (mark1 m (by omega) _)))
    go_wp2
    go_round
    case rel=>exact⟨zs.length+m+1,by omega,by go_num,hnx.trans ((drewN_below wr _).mono hnx.size)⟩
    case measure=>simp[intOf];omega
  ·have hge:¬(k:Int)<(zs.length:Int)+12:=by omega
   go_wp2
   go_ret
   exact⟨rfl,hnx⟩
end Go.Sx.Lent
set_option linter.unusedVariables false
set_option linter.unusedSimpArgs false
namespace Go.Sx.Lent
open Go Go.Proofs Go.RowKit Go.Lib Go.Sx
def ks7:List K:=[.int .i64, .int .i64, .int .i64, .bool, .sl 105, .bool, .sl 105]
theorem marksR_get{q:Nat}(hq:q<84):(marksR 12)[q]? =some (tailC ks7 q):=by
 have h:(List.range 84).map (fun q=>(marksR 12)[q]?)=(List.range 84).map (fun q=>some (tailC ks7 q)):=by kernel_rfl
 have:=congrArg (fun l=>l[q]?) h
 simpa[hq]using this
theorem marksR_len:(marksR 12).length=84:=by kernel_rfl
theorem ltR_of{w:World}{Z:Nat->Prop}{n b:Nat}{f:Nat->Nat->D}{cs:Array Value}{L:List Value}(hz:Z b)(hc:w.heap[b]? =some (.cells cs 28 (0,0)))(hcs:cs.toList=L++marksR 12)(hL:LRows w Z L (rowsOf n f))(ho:∀i,i<n->RowOk (f i))(hn:n+12<=140737488355328):
  Lt Tryz.prog w Z (.sl n f) (.sl 28) (.slice (some ⟨b,0,none⟩) n (n+12)):=by
 have hlen:L.length=n*7:=by rw[hL.1,rows_len]
 have hsz:cs.size=(n+12)*7:=by rw[<-Array.length_toList,hcs,List.length_append,hlen,marksR_len];omega
 have get:∀j,cs[j]? =(L++marksR 12)[j]? :=fun j=>by rw[<-hcs,Array.getElem?_toList]
 have getL:∀j x,L[j]? =some x->cs[j]? =some x:=fun j x hx=>by rw[get,List.getElem?_append_left (List.getElem?_eq_some_iff.1 hx).1];exact hx
 refine⟨28,b,cs,rfl,rfl,hn,hz,hc,fun ks hks=> ?_⟩
 rw[kindR]at hks
 cases hks
 refine⟨hsz,fun i j kk hi hj=> ?_,fun q hq=> ?_⟩
 ·obtain⟨u1,u2,c0,c1,c2,c3,c4,c5,c6,l1,l2⟩:=hL.2 i _ (rows_get hi)
  obtain⟨a,b',k,s1,m1,g1,s2,m2,g2,d0,d1,d2,d3,d4,d5,d6,o1,o2,z1,z2,y0,y1,y2⟩:=ho i hi
  have e4:(rowOf (f i)).xs=ints (limbsI m1 g1):=by show ints (limbsI (f i 4).toS.n (f i 4).toS.f)=_;rw[d4];rfl
  have e6:(rowOf (f i)).ys=ints (limbsI m2 g2):=by show ints (limbsI (f i 6).toS.n (f i 6).toS.f)=_;rw[d6];rfl
  rw[e4]at l1
  rw[e6]at l2
  match j,hj with
  |0,hj=>
   cases hj
   refine⟨_,getL _ _ c0, ?_⟩
   rw[d0]
   exact⟨.i64,rfl,by show Value.int .i64 (f i 0).toI=_;rw[d0];rfl,y0.1,y0.2⟩
  |1,hj=>
   cases hj
   refine⟨_,getL _ _ c1, ?_⟩
   rw[d1]
   exact⟨.i64,rfl,by show Value.int .i64 (f i 1).toI=_;rw[d1];rfl,y1.1,y1.2⟩
  |2,hj=>
   cases hj
   refine⟨_,getL _ _ c2, ?_⟩
   rw[d2]
   exact⟨.i64,rfl,by show Value.int .i64 (f i 2).toI=_;rw[d2];rfl,y2.1,y2.2⟩
  |3,hj=>
   cases hj
   refine⟨_,getL _ _ c3, ?_⟩
   rw[d3]
   exact⟨rfl,by show Value.bool (f i 3).toB=_;rw[d3];rfl⟩
  |4,hj=>
   cases hj
   refine⟨_,getL _ _ c4, ?_⟩
   rw[d4]
   exact lt_of l1 o1 z1
  |5,hj=>
   cases hj
   refine⟨_,getL _ _ c5, ?_⟩
   rw[d5]
   exact⟨rfl,by show Value.bool (f i 5).toB=_;rw[d5];rfl⟩
  |6,hj=>
   cases hj
   refine⟨_,getL _ _ c6, ?_⟩
   rw[d6]
   exact lt_of l2 o2 z2
  |j+7,hj=>simp at hj
 ·have hq:q<84:=by simpa using hq
  show cs[n*7+q]? =some (tailC ks7 q)
  rw[get,List.getElem?_append_right (by omega),hlen,show n*7+q-n*7=q by omega]
  exact marksR_get hq
theorem rowsV_of{w:World}{Z:Nat->Prop}{n:Nat}{f:Nat->Nat->D}{v:Value}(h:Lt Tryz.prog w Z (.sl n f) (.sl 28) v):RowsV w Z v/\v.oneCell'=true:=by
 obtain⟨e,b,cs,hk,hv,hm,hz,hb,hc⟩:=h
 cases hk
 obtain⟨h1,h2,_⟩:=hc _ kindR
 have h1:cs.size=(n+12)*7:=h1
 have lim:∀{d:D}{u:Value},Lt Tryz.prog w Z d (.sl 105) u->LimbV w Z u/\u.oneCell'=true:=fun{d u} hl=>by
  cases d with
  |int n=>obtain⟨ik,hik,_⟩:=hl;cases hik
  |bool b=>exact absurd hl.1 (by simp)
  |str b=>exact absurd hl.1 (by simp)
  |sl m g=>exact limbV_of hl
 have num:∀{d:D}{u:Value}{k:IntKind},Lt Tryz.prog w Z d (.int k) u->u.oneCell'=true:=fun{d u k} hl=>by
  cases d with
  |int n=>obtain⟨ik,hik,hu,_⟩:=hl;rw[hu];rfl
  |bool b=>exact absurd hl.1 (by simp)
  |str b=>exact absurd hl.1 (by simp)
  |sl m g=>obtain⟨_,_,_,hk,_⟩:=hl;cases hk
 have boo:∀{d:D}{u:Value},Lt Tryz.prog w Z d .bool u->u.oneCell'=true:=fun{d u} hl=>by
  cases d with
  |int n=>obtain⟨ik,hik,_⟩:=hl;cases hik
  |bool b=>rw[hl.2];rfl
  |str b=>exact absurd hl.1 (by simp)
  |sl m g=>obtain⟨_,_,_,hk,_⟩:=hl;cases hk
 refine⟨⟨b,n,cs,hv,hm,hb,h1,hz,fun i hi=> ?_⟩,by rw[hv];rfl⟩
 obtain⟨u0,c0,l0⟩:=h2 i 0 _ hi rfl
 obtain⟨u1,c1,l1⟩:=h2 i 1 _ hi rfl
 obtain⟨u2,c2,l2⟩:=h2 i 2 _ hi rfl
 obtain⟨u3,c3,l3⟩:=h2 i 3 _ hi rfl
 obtain⟨u4,c4,l4⟩:=h2 i 4 _ hi rfl
 obtain⟨u5,c5,l5⟩:=h2 i 5 _ hi rfl
 obtain⟨u6,c6,l6⟩:=h2 i 6 _ hi rfl
 exact⟨u0,u1,u2,u3,u4,u5,u6,c0,c1,c2,c3,c4,c5,c6,num l0,num l1,num l2,boo l3,(lim l4).2,boo l5,(lim l6).2,(lim l4).1,(lim l6).1⟩
def sgLT:Sig:=⟨[.agg [(.str,false),(.bool,false),(.sl 28,false)]],[.agg [(.str,false),(.bool,false),(.sl (28+2000000000),true)]]⟩
def sgOT:Sig:=⟨[.agg [(.str,false),(.bool,false),(.sl 28,true)]],[]⟩
theorem three{l:List Value}{P:Value->Value->Value->Prop}(h:∃a b c,l=[a,b,c]/\P a b c){cs:Array Value}(hl:cs.toList=l):∃a b c,cs= #[a,b,c]/\P a b c:=by
 obtain⟨a,b,c,rfl,hp⟩:=h
 refine⟨a,b,c, ?_,hp⟩
 apply Array.ext'
 rw[hl]
theorem resT{w:World}{R:Nat->Prop}{ow:Nat->Option Owner}{vals:List Value}{ds:List D}(h:ResVs Tryz.prog w R ow 0 sgLT.args vals ds):
  ∃y two n f v,vals=[.agg #[.string y, .bool two,v]]/\ds=[.str y, .bool two, .sl n f]/\Rd Tryz.prog w R (.sl n f) (.sl 28) v:=by
 match vals,h with
 |[],h=>exact h.elim
 | v::vs,h=>
  obtain⟨d1,d2,rfl,⟨cs,rfl,hc⟩,h2⟩:=h
  match vs,h2 with
  |_::_,h2=>exact h2.elim
  | [],h2=>
   have h2:d2=[]:=h2
   subst h2
   match hq:cs.toList,d1,hc with
   |[v0,v1,v2],[e0,e1,e2],hc=>
    obtain⟨r0,r1,r2,_⟩:=hc
    obtain⟨y,rfl,rfl⟩:=rd_str (show Rd Tryz.prog w R e0 .str v0 from r0)
    obtain⟨two,rfl,rfl⟩:=rd_bool (show Rd Tryz.prog w R e1 .bool v1 from r1)
    have r2:Rd Tryz.prog w R e2 (.sl 28) v2:=r2
    obtain⟨n,f,rfl⟩:=rd_sl r2
    have:cs= #[.string y, .bool two,v2]:=Array.ext' hq
    exact⟨y,two,n,f,v2,by rw[this],rfl,r2⟩
   |[],[],hc=>exact hc.elim
   |[],_::_,hc=>exact hc.elim
   |[_],[],hc=>exact hc.elim
   |[_],[_],hc=>exact hc.2.elim
   |[_],_::_::_,hc=>exact hc.2.elim
   |[_,_],[],hc=>exact hc.elim
   |[_,_],[_],hc=>exact hc.2.elim
   |[_,_],[_,_],hc=>exact hc.2.2.elim
   |[_,_],_::_::_::_,hc=>exact hc.2.2.elim
   |_::_::_::_,[],hc=>exact hc.elim
   |_::_::_::_,[_],hc=>exact hc.2.elim
   |_::_::_::_,[_,_],hc=>exact hc.2.2.elim
   |_::_::_::_::_,_::_::_::_,hc=>exact hc.2.2.2.elim
   |[_,_,_],_::_::_::_::_,hc=>exact hc.2.2.2.elim
theorem ownL_lent{P:Program}{w:World}{R:Nat->Prop}{ow:Nat->Option Owner}{i:Nat}{e:TypeId}{s:Sl}{v:Value}(hx:isX e=false)(hd:isD e=false)(h:Lt P w (fun b=>ow b=some (.ent i)) (.sl s.n s.f) (.sl (unL e)) v):OwnL P w R ow i e s v:=
 ⟨fun k=>absurd (k.symm.trans hx) (by simp),fun _=>⟨fun k=>absurd (k.symm.trans hd) (by simp),fun _=>h⟩⟩
open Classical in
theorem lentTable_con{pr:Pred}(h1:∀y two n f,pr.pre [.str y, .bool two, .sl n f]->88*(n+12)<=140737488355328/\∀i,i<n->2*((f i 4).toS.n+12)<=140737488355328/\2*((f i 6).toS.n+12)<=140737488355328)
  (h2:∀y two n f,pr.post [.str y, .bool two, .sl n f] [.str y, .bool two, .sl n f]):ConOK Tryz.prog 10 sgLT pr:=by
 intro w R vals ds hglob hR hargs hpre
 obtain⟨y,two,n,f,v,rfl,rfl,hr⟩:=resT hargs
 obtain⟨b1,b2⟩:=h1 y two n f hpre
 obtain⟨p1,p2,p3⟩:=readR_of hr b1 b2
 refine(lentTable p1 p2).mono ?_
 rintro e w' ⟨b,cs,L,rfl,hb,hn,hc,hcs,hL⟩
 rw[rows_len]
 refine⟨_,[.str y, .bool two, .sl n f],rfl,h2 y two n f,hb,[.agg #[.string y, .bool two, .slice (some ⟨b,0,none⟩) n (n+12)]],R,fun x=>if News w w' x then some (.ent 2)else none,rfl,fun _ h=>h,fun _ h=> .inl h,fun x hx=>if_neg fun h=> ?_,fun x o ho=> ?_, ?_⟩
 ·have:=hR x hx
  exact absurd h.1 (by omega)
 ·by_cases h:News w w' x
  ·exact h
  ·have ho:(if News w w' x then some (Owner.ent 2)else none)=some o:=ho
   rw[if_neg h]at ho
   cases ho
 ·refine⟨[.str y, .bool two, .sl n f],[],rfl,⟨_,rfl,⟨rfl,rfl⟩,⟨rfl,rfl⟩,⟨⟨n,f⟩,rfl,fun hm=> ?_,fun _=> .inr ⟨by kernel_rfl, ?_⟩⟩,trivial⟩,rfl⟩
  ·exact absurd hm (by rw[show isM (28+2000000000)=true by kernel_rfl];exact Bool.noConfusion)
  ·refine ownL_lent (by kernel_rfl) (by kernel_rfl) ?_
   show Lt Tryz.prog w' _ (.sl n f) (.sl 28) _
   exact(ltR_of (Z:=News w w') hn hc hcs hL p3 (by omega)).mono (fun x hx _=>if_pos hx) (fun _ _=>rfl)
theorem overTable_ok:OverOK Tryz.prog 16 sgOT:=by
 intro w Z vals ds hglob h
 match vals,h with
 |[],h=>exact h.elim
 | v ::vs,h=>
  obtain⟨d1,d2,rfl,⟨cs,rfl,hc⟩,h2⟩:=h
  match vs,h2 with
  |_::_,h2=>exact h2.elim
  | [],h2=>
   match hq:cs.toList,d1,hc with
   | [v0,v1,v2],[e0,e1,e2],hc=>
    obtain⟨r0,r1,r2,_⟩:=hc
    obtain⟨y,rfl,rfl⟩:=rd_str (show Rd Tryz.prog w _ e0 .str v0 from r0)
    obtain⟨two,rfl,rfl⟩:=rd_bool (show Rd Tryz.prog w _ e1 .bool v1 from r1)
    have r2:Lt Tryz.prog w Z e2 (.sl 28) v2:=r2
    have:cs= #[.string y, .bool two,v2]:=Array.ext' hq
    subst this
    cases e2 with
    |int n=>obtain⟨ik,hik,_⟩:=r2;cases hik
    |bool b=>exact absurd r2.1 (by simp)
    |str b=>exact absurd r2.1 (by simp)
    |sl n f=>
     obtain⟨q1,q2⟩:=rowsV_of r2
     exact overTable q1 rfl rfl q2
   |[],[],hc=>exact hc.elim
   |[],_::_,hc=>exact hc.elim
   |[_],[],hc=>exact hc.elim
   |[_],[_],hc=>exact hc.2.elim
   |[_],_::_::_,hc=>exact hc.2.elim
   |[_,_],[],hc=>exact hc.elim
   |[_,_],[_],hc=>exact hc.2.elim
   |[_,_],[_,_],hc=>exact hc.2.2.elim
   |[_,_],_::_::_::_,hc=>exact hc.2.2.elim
   |_::_::_::_,[],hc=>exact hc.elim
   |_::_::_::_,[_],hc=>exact hc.2.elim
   |_::_::_::_,[_,_],hc=>exact hc.2.2.elim
   |_::_::_::_::_,_::_::_::_,hc=>exact hc.2.2.2.elim
   |[_,_,_],_::_::_::_::_,hc=>exact hc.2.2.2.elim
end Go.Sx.Lent
set_option linter.unusedVariables false
set_option linter.unusedSimpArgs false
namespace Go.Sx.Lent
open Go Go.Proofs Go.RowKit Go.Lib Go.Sx
abbrev RD(w:World)(d:D)(k:K)(v:Value):Prop:=Rd Tryz.prog w (fun b=>b<w.heap.size) d k v
abbrev LT(w:World)(d:D)(k:K)(v:Value):Prop:=Lt Tryz.prog w (fun b=>b<w.heap.size) d k v
theorem RDbelow{w w':World}{d:D}{k:K}{v:Value}(h:RD w d k v)(hb:Below w.heap.size w w'):RD w' d k v:=
 Rd.mono (fun b hb'=>Nat.lt_of_lt_of_le hb' hb.size) (fun b hb'=>hb.block b hb') h
theorem LTbelow{w w':World}{d:D}{k:K}{v:Value}(h:LT w d k v)(hb:Below w.heap.size w w'):LT w' d k v:=
 Lt.mono (fun b hb' _=>Nat.lt_of_lt_of_le hb' hb.size) (fun b hb'=>hb.block b hb') h
theorem LTrd{w:World}{d:D}{k:K}{v:Value}(h:LT w d k v):RD w d k v:=Lt.rd (fun _ h _=>h) h
def I64(a:Int):Prop:=IntKind.i64.min<=a/\a<=IntKind.i64.max
theorem i64_small{a:Int}(h:-1000000000000<=a)(g:a<=1000000000000):I64 a:=by
 have h1:IntKind.i64.min=-9223372036854775808:=by rfl
 have h2:IntKind.i64.max=9223372036854775807:=by rfl
 unfold I64
 omega
structure Sames:Prop where
 whole:∀{w:World}{s:Bool}{m:Nat}{g:Nat->Nat->D}{v u:Value},GlobOk Tryz.prog w->RD w (.sl m g) (.sl 105) v->RD w (.sl m g) (.sl 105) u->
  Calls Tryz.prog 52 #[.agg #[.bool s,v], .agg #[.bool s,u]] w fun e w'=>e= .returned (.bool true)/\Below w.heap.size w w'
 frac:∀{w:World}{s1 s2:Bool}{m1 m2:Nat}{g1 g2:Nat->Nat->D}{v1 v2 u1 u2:Value},GlobOk Tryz.prog w->RD w (.sl m1 g1) (.sl 105) v1->RD w (.sl m2 g2) (.sl 105) v2->RD w (.sl m1 g1) (.sl 105) u1->RD w (.sl m2 g2) (.sl 105) u2->
  Calls Tryz.prog 23 #[.agg #[.bool s1,v1, .bool s2,v2], .agg #[.bool s1,u1, .bool s2,u2]] w fun e w'=>e= .returned (.bool true)/\Below w.heap.size w w'
 row:∀{w:World}{a b k:Int}{s1 s2:Bool}{m1 m2:Nat}{g1 g2:Nat->Nat->D}{v1 v2 u1 u2:Value},GlobOk Tryz.prog w->I64 a->I64 b->I64 k->RD w (.sl m1 g1) (.sl 105) v1->RD w (.sl m2 g2) (.sl 105) v2->RD w (.sl m1 g1) (.sl 105) u1->RD w (.sl m2 g2) (.sl 105) u2->
  Calls Tryz.prog 59 #[.agg #[.int .i64 a, .int .i64 b, .int .i64 k, .bool s1,v1, .bool s2,v2], .agg #[.int .i64 a, .int .i64 b, .int .i64 k, .bool s1,u1, .bool s2,u2]] w fun e w'=>e= .returned (.bool true)/\Below w.heap.size w w'
 table:∀{w:World}{y:ByteArray}{two:Bool}{n:Nat}{f:Nat->Nat->D}{v u:Value},GlobOk Tryz.prog w->RD w (.sl n f) (.sl 28) v->RD w (.sl n f) (.sl 28) u->
  Calls Tryz.prog 17 #[.agg #[.string y, .bool two,v], .agg #[.string y, .bool two,u]] w fun e w'=>e= .returned (.bool true)/\Below w.heap.size w w'
structure Bw(w:World) where
 v:World
 h:Below w.heap.size w v
instance(w:World):Nonempty (Bw w):=⟨⟨w,Below.refl _ _⟩⟩
theorem Bw.then{w:World}(x:Bw w){w':World}(h:Below x.v.heap.size x.v w'):Below w.heap.size w w':=x.h.trans (h.mono x.h.size)
theorem calls_bw{P:Program}{f:FuncId}{args:Array Value}{w:World}{x:Bw w}{v:Value}(h:Calls P f args x.v fun e w'=>e= .returned v/\Below x.v.heap.size x.v w'):
  Calls P f args x.v fun e w'=>e= .returned v/\∃y:Bw w,w'=y.v:=h.mono fun _ w'⟨he,hb⟩=>⟨he,⟨w',x.then hb⟩,rfl⟩
theorem wp_region_bw{P:Program}{id:Nat}{Q:Exit->Act->World->Prop}{a:Act}{w:World}{l:List Oper}(hm:P.follows .mixedOrders=true)(hB:Region.lexB .any l.toArray=true)
  (h:wpQuiet P l.toArray (fun w'=>∃x:Bw w,w'=x.v) (fun a'=>∀w',(∃x:Bw w,w'=x.v)->Q .normal a' w') l a):(Code.region id l.toArray true).wp P Q a w:=
 wp_region_quiet (C:=fun w'=>∃x:Bw w,w'=x.v) hm hB ⟨⟨_,drewN_below w 1⟩,rfl⟩ (by simpa using h)
set_option maxHeartbeats 4000000 in
set_option maxRecDepth 100000 in
theorem keptWhole(S:Sames){w:World}{s:Bool}{m:Nat}{g:Nat->Nat->D}{v u:Value}(hg:GlobOk Tryz.prog w)(h:LT w (.sl m g) (.sl 105) v)(k:RD w (.sl m g) (.sl 105) u)(hm:2*(m+12)<=140737488355328):
  Calls Tryz.prog 104 #[.agg #[.bool s,v], .agg #[.bool s,u]] w fun e w'=>e= .returned (.bool true)/\Below w.heap.size w w':=by
 obtain⟨hb0,hs0,ha0,hr0⟩:=two_new w #[.bool s,v] #[.bool s,u] 24 24
 have ov:=Rd.one (LTrd h)
 have ou:=Rd.one k
 go_enter Tryz.func104,Tryz.ntmps104
 go_wp2_with fail
 refine(S.whole (hg.below hb0) (RDbelow (LTrd h) hb0) (RDbelow k hb0)).mono ?_
 rintro e w1 ⟨rfl,hb1⟩
 have hB1:=hb0.trans (hb1.mono (by omega))
 have ha1:=(hb1.block _ (by omega)).trans ha0
 have hr1:=(hb1.block _ (by omega)).trans hr0
 have c1:=cell_of ha1 (i:=1)
 have d1:=cell_of hr1 (i:=1)
 simp at c1 d1
 go_wp2_with fail
 refine(keptLimbs (lentL_of (LTbelow h hB1)) (readL_of (RDbelow k hB1) hm).1).mono ?_
 rintro e w2 ⟨rfl,hb2⟩
 go_wp2
 go_ret
 exact⟨rfl,hB1.trans (hb2.mono hB1.size)⟩
set_option maxHeartbeats 4000000 in
set_option maxRecDepth 100000 in
theorem keptFrac(S:Sames){w:World}{s1 s2:Bool}{m1 m2:Nat}{g1 g2:Nat->Nat->D}{v1 v2 u1 u2:Value}(hg:GlobOk Tryz.prog w)(h1:LT w (.sl m1 g1) (.sl 105) v1)(h2:LT w (.sl m2 g2) (.sl 105) v2)(k1:RD w (.sl m1 g1) (.sl 105) u1)(k2:RD w (.sl m2 g2) (.sl 105) u2)
  (hm1:2*(m1+12)<=140737488355328) (hm2:2*(m2+12)<=140737488355328):
  Calls Tryz.prog 60 #[.agg #[.bool s1,v1, .bool s2,v2], .agg #[.bool s1,u1, .bool s2,u2]] w fun e w'=>e= .returned (.bool true)/\Below w.heap.size w w':=by
 obtain⟨hb0,hs0,ha0,hr0⟩:=two_new w #[.bool s1,v1, .bool s2,v2] #[.bool s1,u1, .bool s2,u2] 26 26
 have ov1:=Rd.one (LTrd h1)
 have ov2:=Rd.one (LTrd h2)
 have ou1:=Rd.one k1
 have ou2:=Rd.one k2
 go_enter Tryz.func60,Tryz.ntmps60
 go_wp2_with fail
 refine(S.frac (hg.below hb0) (RDbelow (LTrd h1) hb0) (RDbelow (LTrd h2) hb0) (RDbelow k1 hb0) (RDbelow k2 hb0)).mono ?_
 rintro e w1 ⟨rfl,hb1⟩
 have hB1:=hb0.trans (hb1.mono (by omega))
 have ha1:=(hb1.block _ (by omega)).trans ha0
 have hr1:=(hb1.block _ (by omega)).trans hr0
 have c0:=cell_of ha1 (i:=0)
 have c1:=cell_of ha1 (i:=1)
 have d0:=cell_of hr1 (i:=0)
 have d1:=cell_of hr1 (i:=1)
 simp at c0 c1 d0 d1
 go_wp2_with fail
 refine(keptWhole S (hg.below hB1) (LTbelow h1 hB1) (RDbelow k1 hB1) hm1).mono ?_
 rintro e w2 ⟨rfl,hb2⟩
 have hB2:=hB1.trans (hb2.mono hB1.size)
 have hl1:=(Array.getElem?_eq_some_iff.1 ha1).1
 have hl2:=(Array.getElem?_eq_some_iff.1 hr1).1
 have ha2:=(hb2.block _ hl1).trans ha1
 have hr2:=(hb2.block _ hl2).trans hr1
 clear c0 c1 d0 d1
 have c2:=cell_of ha2 (i:=2)
 have c3:=cell_of ha2 (i:=3)
 have d2:=cell_of hr2 (i:=2)
 have d3:=cell_of hr2 (i:=3)
 simp at c2 c3 d2 d3
 go_wp2_with fail
 refine(keptWhole S (hg.below hB2) (LTbelow h2 hB2) (RDbelow k2 hB2) hm2).mono ?_
 rintro e w3 ⟨rfl,hb3⟩
 go_wp2
 go_ret
 exact⟨rfl,hB2.trans (hb3.mono hB2.size)⟩
set_option maxHeartbeats 4000000 in
set_option maxRecDepth 100000 in
theorem keptRow(S:Sames){w:World}{a b k:Int}{s1 s2:Bool}{m1 m2:Nat}{g1 g2:Nat->Nat->D}{v1 v2 u1 u2:Value}(hg:GlobOk Tryz.prog w)(ia:I64 a)(ib:I64 b)(ik:I64 k)(h1:LT w (.sl m1 g1) (.sl 105) v1)(h2:LT w (.sl m2 g2) (.sl 105) v2)(k1:RD w (.sl m1 g1) (.sl 105) u1)(k2:RD w (.sl m2 g2) (.sl 105) u2)
  (hm1:2*(m1+12)<=140737488355328) (hm2:2*(m2+12)<=140737488355328):
  Calls Tryz.prog 29 #[.agg #[.int .i64 a, .int .i64 b, .int .i64 k, .bool s1,v1, .bool s2,v2], .agg #[.int .i64 a, .int .i64 b, .int .i64 k, .bool s1,u1, .bool s2,u2]] w fun e w'=>e= .returned (.bool true)/\Below w.heap.size w w':=by
 obtain⟨hb0,hs0,ha0,hr0⟩:=two_new w #[.int .i64 a, .int .i64 b, .int .i64 k, .bool s1,v1, .bool s2,v2] #[.int .i64 a, .int .i64 b, .int .i64 k, .bool s1,u1, .bool s2,u2] 28 28
 have ov1:=Rd.one (LTrd h1)
 have ov2:=Rd.one (LTrd h2)
 have ou1:=Rd.one k1
 have ou2:=Rd.one k2
 go_enter Tryz.func29,Tryz.ntmps29
 go_wp2_with fail
 refine(S.row (hg.below hb0) ia ib ik (RDbelow (LTrd h1) hb0) (RDbelow (LTrd h2) hb0) (RDbelow k1 hb0) (RDbelow k2 hb0)).mono ?_
 rintro e w1 ⟨rfl,hb1⟩
 have hB1:=hb0.trans (hb1.mono (by omega))
 have ha1:=(hb1.block _ (by omega)).trans ha0
 have hr1:=(hb1.block _ (by omega)).trans hr0
 have c3:=cell_of ha1 (i:=3)
 have c4:=cell_of ha1 (i:=4)
 have c5:=cell_of ha1 (i:=5)
 have c6:=cell_of ha1 (i:=6)
 have d3:=cell_of hr1 (i:=3)
 have d4:=cell_of hr1 (i:=4)
 have d5:=cell_of hr1 (i:=5)
 have d6:=cell_of hr1 (i:=6)
 simp at c3 c4 c5 c6 d3 d4 d5 d6
 go_wp2_with fail
 refine(keptFrac S (hg.below hB1) (LTbelow h1 hB1) (LTbelow h2 hB1) (RDbelow k1 hB1) (RDbelow k2 hB1) hm1 hm2).mono ?_
 rintro e w2 ⟨rfl,hb2⟩
 go_wp2
 go_ret
 exact⟨rfl,hB1.trans (hb2.mono hB1.size)⟩
end Go.Sx.Lent
set_option linter.unusedVariables false
set_option linter.unusedSimpArgs false
namespace Go.Sx.Lent
open Go Go.Proofs Go.RowKit Go.Lib Go.Sx
structure RowD(f:Nat->D)(a b k:Int)(s1:Bool)(m1:Nat)(g1:Nat->Nat->D)(s2:Bool)(m2:Nat)(g2:Nat->Nat->D):Prop where
 d0:f 0= .int a
 d1:f 1= .int b
 d2:f 2= .int k
 d3:f 3= .bool s1
 d4:f 4= .sl m1 g1
 d5:f 5= .bool s2
 d6:f 6= .sl m2 g2
 ia:I64 a
 ib:I64 b
 ik:I64 k
theorem rowD_of{f:Nat->D}(h:RowOk f):∃a b k s1 m1 g1 s2 m2 g2,RowD f a b k s1 m1 g1 s2 m2 g2:=by
 obtain⟨a,b,k,s1,m1,g1,s2,m2,g2,d0,d1,d2,d3,d4,d5,d6,_,_,_,_,y0,y1,y2⟩:=h
 exact⟨a,b,k,s1,m1,g1,s2,m2,g2,d0,d1,d2,d3,d4,d5,d6,y0,y1,y2⟩
theorem marksRow{p:Nat}(hp:p<12):tailC ks7 (p*7)= .int .i64 (8000024+(p:Int))/\tailC ks7 (p*7+1)= .int .i64 0/\tailC ks7 (p*7+2)= .int .i64 0/\tailC ks7 (p*7+3)= .bool false/\
  tailC ks7 (p*7+4)= .slice none 0 0/\tailC ks7 (p*7+5)= .bool false/\tailC ks7 (p*7+6)= .slice none 0 0:=by
 have h:(List.range 12).map (fun p=>((List.range 7).map fun j=>tailC ks7 (p*7+j)))=(List.range 12).map (fun p=>[.int .i64 (8000024+(p:Int)), .int .i64 0, .int .i64 0, .bool false, .slice none 0 0, .bool false, .slice none 0 0]):=by kernel_rfl
 have h2:=congrArg (fun l=>l[p]?) h
 simp[hp]at h2
 have e:(List.range 7)=[0,1,2,3,4,5,6]:=by rfl
 rw[e]at h2
 simpa using h2
theorem lrows_of{w:World}{Z:Nat->Prop}{n:Nat}{f:Nat->Nat->D}{v:Value}(h:Lt Tryz.prog w Z (.sl n f) (.sl 28) v):∃(b:Nat)(cs:Array Value),v= .slice (some ⟨b,0,none⟩) n (n+12)/\n+12<=140737488355328/\Z b/\w.heap[b]? =some (.cells cs 28 (0,0))/\
  (∀i a b k s1 m1 g1 s2 m2 g2,i<n->RowD (f i) a b k s1 m1 g1 s2 m2 g2->∃v1 v2,cs[i*7]? =some (.int .i64 a)/\cs[i*7+1]? =some (.int .i64 b)/\cs[i*7+2]? =some (.int .i64 k)/\cs[i*7+3]? =some (.bool s1)/\cs[i*7+4]? =some v1/\cs[i*7+5]? =some (.bool s2)/\cs[i*7+6]? =some v2/\
   Lt Tryz.prog w Z (.sl m1 g1) (.sl 105) v1/\Lt Tryz.prog w Z (.sl m2 g2) (.sl 105) v2)/\
  (∀p,p<12->cs[(n+p)*7]? =some (.int .i64 (8000024+(p:Int)))/\cs[(n+p)*7+1]? =some (.int .i64 0)/\cs[(n+p)*7+2]? =some (.int .i64 0)/\cs[(n+p)*7+3]? =some (.bool false)/\cs[(n+p)*7+4]? =some (.slice none 0 0)/\cs[(n+p)*7+5]? =some (.bool false)/\cs[(n+p)*7+6]? =some (.slice none 0 0)):=by
 obtain⟨e,b,cs,hk,hv,hm,hz,hb,hc⟩:=h
 cases hk
 obtain⟨h1,h2,h3⟩:=hc _ kindR
 refine⟨b,cs,hv,hm,hz,hb,fun i a b k s1 m1 g1 s2 m2 g2 hi hd=> ?_,fun p hp=> ?_⟩
 ·have num:∀{d:D}{u:Value}{x:Int}{k:IntKind},d= .int x->Lt Tryz.prog w Z d (.int k) u->u= .int k x:=fun{d u x k} hd hl=>by
   subst hd
   obtain⟨ik,hik,hu,_⟩:=hl
   cases hik
   exact hu
  have boo:∀{d:D}{u:Value}{x:Bool},d= .bool x->Lt Tryz.prog w Z d .bool u->u= .bool x:=fun{d u x} hd hl=>by
   subst hd
   exact hl.2
  obtain⟨u0,c0,l0⟩:=h2 i 0 _ hi rfl
  obtain⟨u1,c1,l1⟩:=h2 i 1 _ hi rfl
  obtain⟨u2,c2,l2⟩:=h2 i 2 _ hi rfl
  obtain⟨u3,c3,l3⟩:=h2 i 3 _ hi rfl
  obtain⟨u4,c4,l4⟩:=h2 i 4 _ hi rfl
  obtain⟨u5,c5,l5⟩:=h2 i 5 _ hi rfl
  obtain⟨u6,c6,l6⟩:=h2 i 6 _ hi rfl
  rw[num hd.d0 l0]at c0
  rw[num hd.d1 l1]at c1
  rw[num hd.d2 l2]at c2
  rw[boo hd.d3 l3]at c3
  rw[boo hd.d5 l5]at c5
  rw[hd.d4]at l4
  rw[hd.d6]at l6
  exact⟨u4,u6,c0,c1,c2,c3,c4,c5,c6,l4,l6⟩
 ·have q:∀j,j<7->cs[(n+p)*7+j]? =some (tailC ks7 (p*7+j)):=fun j hj=>by
   have:=h3 (p*7+j) (by simp;omega)
   rw[show n* [K.int .i64, .int .i64, .int .i64, .bool, .sl 105, .bool, .sl 105].length+(p*7+j)=(n+p)*7+j by simp;omega]at this
   exact this
  obtain⟨t0,t1,t2,t3,t4,t5,t6⟩:=marksRow hp
  exact⟨(q 0 (by omega)).trans (by rw[Nat.add_zero,t0]),(q 1 (by omega)).trans (by rw[t1]),(q 2 (by omega)).trans (by rw[t2]),(q 3 (by omega)).trans (by rw[t3]),(q 4 (by omega)).trans (by rw[t4]),(q 5 (by omega)).trans (by rw[t5]),(q 6 (by omega)).trans (by rw[t6])⟩
theorem rrows_of{w:World}{R:Nat->Prop}{n:Nat}{f:Nat->Nat->D}{v:Value}(h:Rd Tryz.prog w R (.sl n f) (.sl 28) v):∃(ao:Option Addr)(c:Nat),v= .slice ao n c/\
  ∀i a b k s1 m1 g1 s2 m2 g2,i<n->RowD (f i) a b k s1 m1 g1 s2 m2 g2->∃bl off v1 v2,ao=some ⟨bl,off,none⟩/\w.cell? ⟨bl,off+i*7,none⟩=some (.int .i64 a)/\w.cell? ⟨bl,off+i*7+1,none⟩=some (.int .i64 b)/\w.cell? ⟨bl,off+i*7+2,none⟩=some (.int .i64 k)/\w.cell? ⟨bl,off+i*7+3,none⟩=some (.bool s1)/\
   w.cell? ⟨bl,off+i*7+4,none⟩=some v1/\w.cell? ⟨bl,off+i*7+5,none⟩=some (.bool s2)/\w.cell? ⟨bl,off+i*7+6,none⟩=some v2/\Rd Tryz.prog w R (.sl m1 g1) (.sl 105) v1/\Rd Tryz.prog w R (.sl m2 g2) (.sl 105) v2:=by
 obtain⟨e,a,cap,hk,hv,h1,h2,h4,h5⟩:=h
 cases hk
 refine⟨a,cap,hv,fun i x b k s1 m1 g1 s2 m2 g2 hi hd=> ?_⟩
 have cell:∀(j:Nat) kk,([.int .i64, .int .i64, .int .i64, .bool, .sl 105, .bool, .sl 105]:List K)[j]? =some kk->∃bl off u,a=some ⟨bl,off,none⟩/\w.cell? ⟨bl,off+(i*7+j),none⟩=some u/\Rd Tryz.prog w R (f i j) kk u:=fun j kk hj=>by
  obtain⟨ad,u,ha,hs,_,hc,hr⟩:=h5 _ i j kk kindR hi hj
  obtain⟨bl,off,sp⟩:=ad
  cases hs
  exact⟨bl,off,u,ha,hc,hr⟩
 have num:∀{d:D}{u:Value}{x:Int}{k:IntKind},d= .int x->Rd Tryz.prog w R d (.int k) u->u= .int k x:=fun{d u x k} hd hl=>by
  subst hd
  obtain⟨ik,hik,hu,_⟩:=hl
  cases hik
  exact hu
 have boo:∀{d:D}{u:Value}{x:Bool},d= .bool x->Rd Tryz.prog w R d .bool u->u= .bool x:=fun{d u x} hd hl=>by
  subst hd
  exact hl.2
 obtain⟨bl,off,u0,ha,c0,r0⟩:=cell 0 _ rfl
 obtain⟨_,_,u1,ha1,c1,r1⟩:=cell 1 _ rfl
 obtain⟨_,_,u2,ha2,c2,r2⟩:=cell 2 _ rfl
 obtain⟨_,_,u3,ha3,c3,r3⟩:=cell 3 _ rfl
 obtain⟨_,_,u4,ha4,c4,r4⟩:=cell 4 _ rfl
 obtain⟨_,_,u5,ha5,c5,r5⟩:=cell 5 _ rfl
 obtain⟨_,_,u6,ha6,c6,r6⟩:=cell 6 _ rfl
 rw[ha]at ha1 ha2 ha3 ha4 ha5 ha6
 cases ha1;cases ha2;cases ha3;cases ha4;cases ha5;cases ha6
 rw[num hd.d0 r0]at c0
 rw[num hd.d1 r1]at c1
 rw[num hd.d2 r2]at c2
 rw[boo hd.d3 r3]at c3
 rw[boo hd.d5 r5]at c5
 rw[hd.d4]at r4
 rw[hd.d6]at r6
 exact⟨bl,off,u4,u6,ha,c0,c1,c2,c3,c4,c5,c6,r4,r6⟩
theorem rd_nil{w:World}{R:Nat->Prop}{g:Nat->Nat->D}:Rd Tryz.prog w R (.sl 0 g) (.sl 105) (.slice none 0 0):=
 ⟨105,none,0,rfl,rfl,by simp,by simp[maxLen],fun _=>rfl,fun _ i _ _ _ hi=>by omega⟩
set_option maxHeartbeats 8000000 in
set_option maxRecDepth 100000 in
theorem keptRows(S:Sames){w:World}{n:Nat}{f:Nat->Nat->D}{v u:Value}(hg:GlobOk Tryz.prog w)(h:LT w (.sl n f) (.sl 28) v)(k:RD w (.sl n f) (.sl 28) u)
  (hok:∀i,i<n->RowOk (f i)) (hl:∀i,i<n->2*((f i 4).toS.n+12)<=140737488355328/\2*((f i 6).toS.n+12)<=140737488355328):
  Calls Tryz.prog 42 #[v,u] w fun e w'=>e= .returned (.bool true)/\Below w.heap.size w w':=by
 obtain⟨b,cs,rfl,hn12,hzb,hb,hin,hout⟩:=lrows_of h
 obtain⟨ao,c,rfl,hrd⟩:=rrows_of k
 go_enter Tryz.func42,Tryz.ntmps42
 go_wp2
 go_loopw [6] (fun i wr=>∃k:Nat,k<=n+12/\i= .int .i64 k/\Below w.heap.size w wr) (fun i _=>n+12-(intOf i).toNat)
 case atStart=>exact⟨0,Nat.zero_le _,rfl,Below.refl _ _⟩
 case round=>
  obtain⟨j,hj,rfl,hnx⟩:=hrel
  by_cases hlt:j<n+12
  ·have hlt':(j:Int)<(n:Int)+12:=by omega
   by_cases hi:j<n
   ·have hi':(j:Int)<(n:Int):=by omega
    obtain⟨a,b',k',s1,m1,g1,s2,m2,g2,hd⟩:=rowD_of (hok j hi)
    obtain⟨v1,v2,p0,p1,p2,p3,p4,p5,p6,lv1,lv2⟩:=hin j _ _ _ _ _ _ _ _ _ hi hd
    obtain⟨bl,off,u1,u2,rfl,q0,q1,q2,q3,q4,q5,q6,lu1,lu2⟩:=hrd j _ _ _ _ _ _ _ _ _ hi hd
    have hB:∀x:Bw wr,Below w.heap.size w x.v:=fun x=>hnx.trans (x.h.mono hnx.size)
    have cc:∀{q:Nat}{y:Value},cs[q]? =some y->∀x:Bw wr,x.v.cell? ⟨b,q,none⟩=some y:=fun{q y} hq x=>by
     rw[cell_of (((hB x).block b (Array.getElem?_eq_some_iff.1 hb).1).trans hb)]
     exact hq
    have dd:∀{p:Addr}{y:Value},w.cell? p=some y->∀x:Bw wr,x.v.cell? p=some y:=fun{p y} hq x=>((hB x).cell (cell_lt hq)).trans hq
    have p0:=cc p0
    have p1:=cc p1
    have p2:=cc p2
    have p3:=cc p3
    have p4:=cc p4
    have p5:=cc p5
    have p6:=cc p6
    have q0:=dd q0
    have q1:=dd q1
    have q2:=dd q2
    have q3:=dd q3
    have q4:=dd q4
    have q5:=dd q5
    have q6:=dd q6
    have e4:=(hl j hi).1
    have e6:=(hl j hi).2
    rw[hd.d4]at e4
    rw[hd.d6]at e6
    have e4:2*(m1+12)<=140737488355328:=e4
    have e6:2*(m2+12)<=140737488355328:=e6
    have d1:decide ((n:Int)<=(j:Int))=false:=by simp;omega
    have d2:decide ((j:Int)>=(n:Int))=false:=by simp;omega
    have d3:decide (n<=j)=false:=by simp;omega
    have call:∀x:Bw wr,Calls Tryz.prog 29 #[.agg #[.int .i64 a, .int .i64 b', .int .i64 k', .bool s1,v1, .bool s2,v2], .agg #[.int .i64 a, .int .i64 b', .int .i64 k', .bool s1,u1, .bool s2,u2]] x.v fun e w'=>e= .returned (.bool true)/\∃y:Bw wr,w'=y.v:=fun x=>
     calls_bw (keptRow S (hg.below (hB x)) hd.ia hd.ib hd.ik (LTbelow lv1 (hB x)) (LTbelow lv2 (hB x)) (RDbelow lu1 (hB x)) (RDbelow lu2 (hB x)) e4 e6)
    clear cc dd hin hout hrd
    go_wp2_with fail
    refine wp_region_bw (by kernel_rfl) (by kernel_rfl) ?_
    repeat(go_big_quiet_step (exact call _))
    refine wpQuiet_nil ?_
    intro _ hw'
    obtain⟨xb,hw''⟩:=hw'
    subst hw''
    go_wp2
    go_round
    case rel=>exact⟨j+1,by omega,by go_num,hnx.trans (xb.h.mono hnx.size)⟩
    case measure=>simp[intOf];omega
   ·have hm:j-n<12:=by omega
    obtain⟨m,rfl⟩:∃m,j=n+m:=⟨j-n,by omega⟩
    have hm:m<12:=by omega
    obtain⟨p0,p1,p2,p3,p4,p5,p6⟩:=hout m hm
    have hB:∀x:Bw wr,Below w.heap.size w x.v:=fun x=>hnx.trans (x.h.mono hnx.size)
    have cc:∀{q:Nat}{y:Value},cs[q]? =some y->∀x:Bw wr,x.v.cell? ⟨b,q,none⟩=some y:=fun{q y} hq x=>by
     rw[cell_of (((hB x).block b (Array.getElem?_eq_some_iff.1 hb).1).trans hb)]
     exact hq
    have p0:=cc p0
    have p1:=cc p1
    have p2:=cc p2
    have p3:=cc p3
    have p4:=cc p4
    have p5:=cc p5
    have p6:=cc p6
    have d1:decide ((n:Int)+(m:Int)<(n:Int))=false:=by simp;omega
    have d2:decide (n+m<n)=false:=by simp
    have d3:decide (n<=n+m)=true:=by simp
    have d4:decide ((n:Int)<=(n:Int)+(m:Int))=true:=by simp;omega
    have d5:decide ((m:Int)<0)=false:=by simp
    have e1:(n:Int)+(m:Int)-(n:Int)=(m:Int):=by omega
    have call1:∀x:Bw wr,Calls Tryz.prog 63 #[.int .i64 1, .int .i64 m] x.v fun e w'=>e= .returned (.agg #[.int .i64 (8000024+(m:Int)), .int .i64 0, .int .i64 0, .bool false, .slice none 0 0, .bool false, .slice none 0 0])/\∃y:Bw wr,w'=y.v:=fun x=>
     calls_bw ((markRow 1 m (by omega) (by omega) _).mono fun e w' hh=>⟨hh.1,hh.2⟩)
    have call2:∀x:Bw wr,Calls Tryz.prog 59 #[.agg #[.int .i64 (8000024+(m:Int)), .int .i64 0, .int .i64 0, .bool false, .slice none 0 0, .bool false, .slice none 0 0], .agg #[.int .i64 (8000024+(m:Int)), .int .i64 0, .int .i64 0, .bool false, .slice none 0 0, .bool false, .slice none 0 0]] x.v fun e w'=>e= .returned (.bool true)/\∃y:Bw wr,w'=y.v:=fun x=>
     calls_bw (S.row (m1:=0) (m2:=0) (g1:=fun _ _=> .int 0) (g2:=fun _ _=> .int 0) (hg.below (hB x)) (i64_small (by omega) (by omega)) (i64_small (by omega) (by omega)) (i64_small (by omega) (by omega)) rd_nil rd_nil rd_nil rd_nil)
    clear cc hin hout hrd
    go_wp2_with fail
    refine wp_region_bw (by kernel_rfl) (by kernel_rfl) ?_
    repeat(go_big_quiet_step (first|exact call1 _|exact call2 _))
    refine wpQuiet_nil ?_
    intro _ hw'
    obtain⟨xb,hw''⟩:=hw'
    subst hw''
    go_wp2
    go_round
    case rel=>exact⟨n+m+1,by omega,by go_num,hnx.trans (xb.h.mono hnx.size)⟩
    case measure=>simp[intOf];omega
  ·have hge:¬(j:Int)<(n:Int)+12:=by omega
   go_wp2
   go_ret
   exact⟨rfl,hnx⟩
end Go.Sx.Lent
set_option linter.unusedVariables false
set_option linter.unusedSimpArgs false
namespace Go.Sx.Lent
open Go Go.Proofs Go.RowKit Go.Lib Go.Sx
set_option maxHeartbeats 4000000 in
set_option maxRecDepth 100000 in
theorem keptTable(S:Sames){w:World}{y:ByteArray}{two:Bool}{n:Nat}{f:Nat->Nat->D}{v u:Value}(hg:GlobOk Tryz.prog w)(h:LT w (.sl n f) (.sl 28) v)(k:RD w (.sl n f) (.sl 28) u)
  (hok:∀i,i<n->RowOk (f i)) (hl:∀i,i<n->2*((f i 4).toS.n+12)<=140737488355328/\2*((f i 6).toS.n+12)<=140737488355328):
  Calls Tryz.prog 15 #[.agg #[.string y, .bool two,v], .agg #[.string y, .bool two,u]] w fun e w'=>e= .returned (.bool true)/\Below w.heap.size w w':=by
 obtain⟨hb0,hs0,ha0,hr0⟩:=two_new w #[.string y, .bool two,v] #[.string y, .bool two,u] 32 32
 have ov:=Rd.one (LTrd h)
 have ou:=Rd.one k
 go_enter Tryz.func15,Tryz.ntmps15
 go_wp2_with fail
 refine(S.table (hg.below hb0) (RDbelow (LTrd h) hb0) (RDbelow k hb0)).mono ?_
 rintro e w1 ⟨rfl,hb1⟩
 have hB1:=hb0.trans (hb1.mono (by omega))
 have ha1:=(hb1.block _ (by omega)).trans ha0
 have hr1:=(hb1.block _ (by omega)).trans hr0
 have c2:=cell_of ha1 (i:=2)
 have d2:=cell_of hr1 (i:=2)
 simp at c2 d2
 go_wp2_with fail
 refine(keptRows S (hg.below hB1) (LTbelow h hB1) (RDbelow k hB1) hok hl).mono ?_
 rintro e w2 ⟨rfl,hb2⟩
 go_wp2
 go_ret
 exact⟨rfl,hB1.trans (hb2.mono hB1.size)⟩
theorem args_cons{w:World}{Z:Nat->Prop}{sh:VSh}{shs:List VSh}{vals:List Value}{ds:List D}(h:ArgVs Tryz.prog w Z (sh::shs) vals ds):∃v vs d1 d2,vals=v::vs/\ds=d1++d2/\ArgV Tryz.prog w Z sh v d1/\ArgVs Tryz.prog w Z shs vs d2:=by
 cases vals with
 |nil=>exact h.elim
 |cons v vs=>obtain⟨d1,d2,h1,h2,h3⟩:=h;exact⟨v,vs,d1,d2,rfl,h1,h2,h3⟩
theorem args_nil{w:World}{Z:Nat->Prop}{vals:List Value}{ds:List D}(h:ArgVs Tryz.prog w Z [] vals ds):vals=[]/\ds=[]:=by
 cases vals with
 |nil=>exact⟨rfl,h⟩
 |cons v vs=>exact h.elim
theorem cells_cons{w:World}{Z:Nat->Prop}{p:K×Bool}{ps:List (K×Bool)}{vals:List Value}{ds:List D}(h:ArgCells Tryz.prog w Z (p::ps) vals ds):∃v vs d ds',vals=v::vs/\ds=d::ds'/\ArgCell Tryz.prog w Z p v d/\ArgCells Tryz.prog w Z ps vs ds':=by
 cases vals with
 |nil=>exact h.elim
 |cons v vs=>cases ds with
  |nil=>exact h.elim
  |cons d ds=>exact⟨v,vs,d,ds,rfl,rfl,h.1,h.2⟩
theorem cells_nil{w:World}{Z:Nat->Prop}{vals:List Value}{ds:List D}(h:ArgCells Tryz.prog w Z [] vals ds):vals=[]/\ds=[]:=by
 cases vals with
 |nil=>cases ds with
  |nil=>exact⟨rfl,rfl⟩
  |cons d ds=>exact h.elim
 |cons v vs=>exact h.elim
theorem argT{w:World}{Z:Nat->Prop}{o:Bool}{v:Value}{ds:List D}(h:ArgV Tryz.prog w Z (.agg [(.str,false),(.bool,false),(.sl 28,o)]) v ds):
  ∃y two n f u,v= .agg #[.string y, .bool two,u]/\ds=[.str y, .bool two, .sl n f]/\ArgCell Tryz.prog w Z (.sl 28,o) u (.sl n f):=by
 obtain⟨cs,rfl,hc⟩:=h
 obtain⟨v0,r0,d0,s0,e0,rfl,a0,hc⟩:=cells_cons hc
 obtain⟨v1,r1,d1,s1,rfl,rfl,a1,hc⟩:=cells_cons hc
 obtain⟨v2,r2,d2,s2,rfl,rfl,a2,hc⟩:=cells_cons hc
 obtain⟨rfl,rfl⟩:=cells_nil hc
 obtain⟨y,rfl,rfl⟩:=rd_str (show Rd Tryz.prog w _ d0 .str v0 from a0)
 obtain⟨two,rfl,rfl⟩:=rd_bool (show Rd Tryz.prog w _ d1 .bool v1 from a1)
 obtain⟨n,f,rfl⟩:∃n f,d2= .sl n f:=by
  cases o with
  |false=>exact rd_sl (show Rd Tryz.prog w _ d2 (.sl 28) v2 from a2)
  |true=>
   have a2:Lt Tryz.prog w Z d2 (.sl 28) v2:=a2
   cases d2 with
   |int n=>obtain⟨ik,hik,_⟩:=a2;cases hik
   |bool b=>exact absurd a2.1 (by simp)
   |str b=>exact absurd a2.1 (by simp)
   |sl n f=>exact⟨n,f,rfl⟩
 have:cs= #[.string y, .bool two,v2]:=Array.ext' e0
 exact⟨y,two,n,f,v2,by rw[this],rfl,a2⟩
def TabB(n:Nat)(f:Nat->Nat->D):Prop:=88*(n+12)<=140737488355328/\∀i,i<n->2*((f i 4).toS.n+12)<=140737488355328/\2*((f i 6).toS.n+12)<=140737488355328
theorem boolOk{w w':World}{R:Nat->Prop}{r:Bool}:ResOk Tryz.prog w R w' [.cell .bool false] (.bool r) [.bool r]:=
 ⟨[.bool r],R,fun _=>none,rfl,fun _ h=>h,fun _ h=> .inl h,fun _ _=>rfl,fun _ _ h=>(by cases h),[.bool r],[],rfl,⟨⟨rfl,rfl⟩,trivial⟩,rfl⟩
def sgKT:Sig:=⟨[.agg [(.str,false),(.bool,false),(.sl 28,true)], .agg [(.str,false),(.bool,false),(.sl 28,false)]],[.cell .bool false]⟩
theorem keptTable_ok{pr:Pred}(S:Sames)(h1:∀y two n f y' two' n' f',pr.pre [.str y, .bool two, .sl n f, .str y', .bool two', .sl n' f']->y=y'/\two=two'/\n=n'/\f=f'/\TabB n f)
  (h2:∀y two n f,pr.post [.str y, .bool two, .sl n f, .str y, .bool two, .sl n f] [.bool true]):KeptOK Tryz.prog 15 sgKT pr:=by
 intro w vals ds hg h hpre
 obtain⟨t,ts,d1,d2,rfl,rfl,a1,h⟩:=args_cons h
 obtain⟨u,us,d3,d4,rfl,rfl,a2,h⟩:=args_cons h
 obtain⟨rfl,rfl⟩:=args_nil h
 obtain⟨y,two,n,f,v1,rfl,rfl,b1⟩:=argT a1
 obtain⟨y',two',n',f',v2,rfl,rfl,b2⟩:=argT a2
 obtain⟨rfl,rfl,rfl,rfl,hb1,hb2⟩:=h1 _ _ _ _ _ _ _ _ hpre
 have b1:Lt Tryz.prog w (fun _=>True) (.sl n f) (.sl 28) v1:=b1
 have b2:RD w (.sl n f) (.sl 28) v2:=b2
 have b1:LT w (.sl n f) (.sl 28) v1:=Lt.mono (fun b _ hb=>hb) (fun b _=>rfl) b1
 obtain⟨_,_,hok⟩:=readR_of b2 hb1 hb2
 refine(keptTable S hg b1 b2 hok hb2).mono ?_
 rintro e w' ⟨rfl,hb⟩
 exact⟨_,[.bool true],rfl,h2 _ _ _ _,hb,boolOk⟩
theorem true_of{f:FuncId}{sg:Sig}{pr:Pred}(hc:ConOK Tryz.prog f sg pr)(hres:sg.res=[.cell .bool false]){w:World}{vals:List Value}{ds:List D}(hg:GlobOk Tryz.prog w)(ha:ResVs Tryz.prog w (fun b=>b<w.heap.size) (fun _=>none) 0 sg.args vals ds)(hp:pr.pre ds)(ht:∀r,pr.post ds [.bool r]->r=true):
  Calls Tryz.prog f vals.toArray w fun e w'=>e= .returned (.bool true)/\Below w.heap.size w w':=by
 refine(hc w _ vals ds hg (fun _ h=>h) ha hp).mono ?_
 rintro e w' ⟨v,rs,rfl,hpost,hb,vals',R',ow',rfl,_,_,_,_,hr⟩
 rw[hres]at hr
 cases vals' with
 |nil=>exact hr.elim
 | cons v vs=>
  obtain⟨d1,d2,rfl,hv,hvs⟩:=hr
  cases vs with
  |cons _ _=>exact hvs.elim
  | nil=>
   have hvs:d2=[]:=hvs
   subst hvs
   match d1,hv with
   |[d],hv=>
    obtain⟨r,rfl,rfl⟩:=rd_bool (show Rd Tryz.prog w' R' d .bool v from hv.1)
    rw[List.append_nil]at hpost
    rw[ht r hpost]
    exact⟨rfl,hb⟩
   |[],hv=>exact hv.elim
   |_::_::_,hv=>exact hv.2.elim
def sgSW:Sig:=⟨[.agg [(.bool,false),(.sl 105,false)], .agg [(.bool,false),(.sl 105,false)]],[.cell .bool false]⟩
def shF:VSh:= .agg [(.bool,false),(.sl 105,false),(.bool,false),(.sl 105,false)]
def shR:VSh:= .agg [(.int .i64,false),(.int .i64,false),(.int .i64,false),(.bool,false),(.sl 105,false),(.bool,false),(.sl 105,false)]
def shT:VSh:= .agg [(.str,false),(.bool,false),(.sl 28,false)]
def sgSF:Sig:=⟨[shF,shF],[.cell .bool false]⟩
def sgSR:Sig:=⟨[shR,shR],[.cell .bool false]⟩
def sgST:Sig:=⟨[shT,shT],[.cell .bool false]⟩
theorem sames_of{pW pF pR pT:Pred}(cW:ConOK Tryz.prog 52 sgSW pW)(cF:ConOK Tryz.prog 23 sgSF pF)(cR:ConOK Tryz.prog 59 sgSR pR)(cT:ConOK Tryz.prog 17 sgST pT)
  (iW:∀s m g,pW.pre [.bool s, .sl m g, .bool s, .sl m g]/\∀r,pW.post [.bool s, .sl m g, .bool s, .sl m g] [.bool r]->r=true)
  (iF:∀s m g t n h,pF.pre [.bool s, .sl m g, .bool t, .sl n h, .bool s, .sl m g, .bool t, .sl n h]/\∀r,pF.post [.bool s, .sl m g, .bool t, .sl n h, .bool s, .sl m g, .bool t, .sl n h] [.bool r]->r=true)
  (iR:∀a b k s m g t n h,pR.pre [.int a, .int b, .int k, .bool s, .sl m g, .bool t, .sl n h, .int a, .int b, .int k, .bool s, .sl m g, .bool t, .sl n h]/\∀r,pR.post [.int a, .int b, .int k, .bool s, .sl m g, .bool t, .sl n h, .int a, .int b, .int k, .bool s, .sl m g, .bool t, .sl n h] [.bool r]->r=true)
  (iT:∀y t n f,pT.pre [.str y, .bool t, .sl n f, .str y, .bool t, .sl n f]/\∀r,pT.post [.str y, .bool t, .sl n f, .str y, .bool t, .sl n f] [.bool r]->r=true):Sames where
 whole {w s m g v u} hg h k:=true_of (vals:=[.agg #[.bool s,v], .agg #[.bool s,u]]) (ds:=[.bool s, .sl m g, .bool s, .sl m g]) cW rfl hg
  ⟨[.bool s, .sl m g],[.bool s, .sl m g],rfl,⟨_,rfl,⟨rfl,rfl⟩,h,trivial⟩,[.bool s, .sl m g],[],rfl,⟨_,rfl,⟨rfl,rfl⟩,k,trivial⟩,rfl⟩ (iW s m g).1 (iW s m g).2
 frac {w s1 s2 m1 m2 g1 g2 v1 v2 u1 u2} hg h1 h2 k1 k2:=true_of (vals:=[.agg #[.bool s1,v1, .bool s2,v2], .agg #[.bool s1,u1, .bool s2,u2]]) (ds:=[.bool s1, .sl m1 g1, .bool s2, .sl m2 g2, .bool s1, .sl m1 g1, .bool s2, .sl m2 g2]) cF rfl hg
  ⟨[.bool s1, .sl m1 g1, .bool s2, .sl m2 g2],[.bool s1, .sl m1 g1, .bool s2, .sl m2 g2],rfl,⟨_,rfl,⟨rfl,rfl⟩,h1,⟨rfl,rfl⟩,h2,trivial⟩,[.bool s1, .sl m1 g1, .bool s2, .sl m2 g2],[],rfl,⟨_,rfl,⟨rfl,rfl⟩,k1,⟨rfl,rfl⟩,k2,trivial⟩,rfl⟩ (iF _ _ _ _ _ _).1 (iF _ _ _ _ _ _).2
 row {w a b k s1 s2 m1 m2 g1 g2 v1 v2 u1 u2} hg ia ib ik h1 h2 k1 k2:=true_of (vals:=[.agg #[.int .i64 a, .int .i64 b, .int .i64 k, .bool s1,v1, .bool s2,v2], .agg #[.int .i64 a, .int .i64 b, .int .i64 k, .bool s1,u1, .bool s2,u2]])
  (ds:=[.int a, .int b, .int k, .bool s1, .sl m1 g1, .bool s2, .sl m2 g2, .int a, .int b, .int k, .bool s1, .sl m1 g1, .bool s2, .sl m2 g2]) cR rfl hg
  ⟨[.int a, .int b, .int k, .bool s1, .sl m1 g1, .bool s2, .sl m2 g2],[.int a, .int b, .int k, .bool s1, .sl m1 g1, .bool s2, .sl m2 g2],rfl,⟨_,rfl,⟨.i64,rfl,rfl,ia.1,ia.2⟩,⟨.i64,rfl,rfl,ib.1,ib.2⟩,⟨.i64,rfl,rfl,ik.1,ik.2⟩,⟨rfl,rfl⟩,h1,⟨rfl,rfl⟩,h2,trivial⟩,
   [.int a, .int b, .int k, .bool s1, .sl m1 g1, .bool s2, .sl m2 g2],[],rfl,⟨_,rfl,⟨.i64,rfl,rfl,ia.1,ia.2⟩,⟨.i64,rfl,rfl,ib.1,ib.2⟩,⟨.i64,rfl,rfl,ik.1,ik.2⟩,⟨rfl,rfl⟩,k1,⟨rfl,rfl⟩,k2,trivial⟩,rfl⟩ (iR _ _ _ _ _ _ _ _ _).1 (iR _ _ _ _ _ _ _ _ _).2
 table {w y two n f v u} hg h k:=true_of (vals:=[.agg #[.string y, .bool two,v], .agg #[.string y, .bool two,u]]) (ds:=[.str y, .bool two, .sl n f, .str y, .bool two, .sl n f]) cT rfl hg
  ⟨[.str y, .bool two, .sl n f],[.str y, .bool two, .sl n f],rfl,⟨_,rfl,⟨rfl,rfl⟩,⟨rfl,rfl⟩,h,trivial⟩,[.str y, .bool two, .sl n f],[],rfl,⟨_,rfl,⟨rfl,rfl⟩,⟨rfl,rfl⟩,k,trivial⟩,rfl⟩ (iT _ _ _ _).1 (iT _ _ _ _).2
end Go.Sx.Lent
set_option linter.unusedVariables false
set_option linter.unusedSimpArgs false
namespace Go.Sx.Lent
open Go Go.Proofs Go.RowKit Go.Lib Go.Sx
theorem res_cons{w:World}{R:Nat->Prop}{ow:Nat->Option Owner}{n:Nat}{sh:VSh}{shs:List VSh}{vals:List Value}{ds:List D}(h:ResVs Tryz.prog w R ow n (sh::shs) vals ds):∃v vs d1 d2,vals=v::vs/\ds=d1++d2/\ResV Tryz.prog w R ow n sh v d1/\ResVs Tryz.prog w R ow (n+sh.width) shs vs d2:=by
 cases vals with
 |nil=>exact h.elim
 |cons v vs=>obtain⟨d1,d2,h1,h2,h3⟩:=h;exact⟨v,vs,d1,d2,rfl,h1,h2,h3⟩
theorem res_nil{w:World}{R:Nat->Prop}{ow:Nat->Option Owner}{n:Nat}{vals:List Value}{ds:List D}(h:ResVs Tryz.prog w R ow n [] vals ds):vals=[]/\ds=[]:=by
 cases vals with
 |nil=>exact⟨rfl,h⟩
 |cons v vs=>exact h.elim
theorem rc_cons{w:World}{R:Nat->Prop}{ow:Nat->Option Owner}{n:Nat}{p:K×Bool}{ps:List (K×Bool)}{vals:List Value}{ds:List D}(h:ResCells Tryz.prog w R ow n (p::ps) vals ds):∃v vs d ds',vals=v::vs/\ds=d::ds'/\ResCell Tryz.prog w R ow n p v d/\ResCells Tryz.prog w R ow (n+1) ps vs ds':=by
 cases vals with
 |nil=>exact h.elim
 |cons v vs=>cases ds with
  |nil=>exact h.elim
  |cons d ds=>exact⟨v,vs,d,ds,rfl,rfl,h.1,h.2⟩
theorem rc_nil{w:World}{R:Nat->Prop}{ow:Nat->Option Owner}{n:Nat}{vals:List Value}{ds:List D}(h:ResCells Tryz.prog w R ow n [] vals ds):vals=[]/\ds=[]:=by
 cases vals with
 |nil=>cases ds with
  |nil=>exact⟨rfl,rfl⟩
  |cons d ds=>exact h.elim
 |cons v vs=>exact h.elim
def roomB(m:Nat):Prop:=2*(m+12)<=140737488355328
end Go.Sx.Lent
set_option linter.unusedVariables false
set_option linter.unusedSimpArgs false
namespace Go.Sx.Lent
open Go Go.Proofs Go.RowKit Go.Lib Go.Sx
set_option maxHeartbeats 4000000 in
set_option maxRecDepth 100000 in
theorem lentRow2{w:World}{a b k:Int}{s1 s2:Bool}{v1 v2:Value}{xs ys:List Value}(h:ReadL w v1 xs)(g:ReadL w v2 ys)(h2:v1.oneCell'=true)(k2:v2.oneCell'=true):
  Calls Tryz.prog 24 #[.agg #[.int .i64 a, .int .i64 b, .int .i64 k, .bool s1,v1, .bool s2,v2]] w fun e w'=>∃u1 u2 c,e= .returned (.agg #[.int .i64 a, .int .i64 b, .int .i64 k, .bool s1,u1, .bool s2,u2])/\Below w.heap.size w w'/\w.heap.size<=c/\c<=w'.heap.size/\LentL w' (fun b=>w.heap.size<=b/\b<c) u1 xs/\LentL w' (fun b=>c<=b/\b<w'.heap.size) u2 ys:=by
 obtain⟨hb0,hs0,ha0,hr0⟩:=two_new w #[.int .i64 a, .int .i64 b, .int .i64 k, .bool s1,v1, .bool s2,v2] #[.int .i64 0, .int .i64 0, .int .i64 0, .bool false, .slice none 0 0, .bool false, .slice none 0 0] 28 28
 go_enter Tryz.func24,Tryz.ntmps24
 go_wp2_with fail
 refine(lentFrac2 (h.below hb0) (g.below hb0) h2 k2).mono ?_
 rintro e w2 ⟨u1,u2,c,rfl,hb1,hq0,hq1,hl1,hl2⟩
 obtain⟨b1,cs1,rfl,hz1,hc1,ht1⟩:=hl1
 obtain⟨b2,cs2,rfl,hz2,hc2,ht2⟩:=hl2
 obtain⟨n1,z1⟩:=hz1
 obtain⟨n2,z2⟩:=hz2
 have l1:=(Array.getElem?_eq_some_iff.1 hc1).1
 have l2:=(Array.getElem?_eq_some_iff.1 hc2).1
 have ha2:=(hb1.block _ (by omega)).trans ha0
 have hr2:=(hb1.block _ (by omega)).trans hr0
 have hs1:=hb1.size
 rw[hs0]at n1 hq0 hs1
 have hB2:=hb0.trans (hb1.mono (by omega))
 have c0:=cell_of ha2 (i:=0)
 have c1:=cell_of ha2 (i:=1)
 have c2:=cell_of ha2 (i:=2)
 have c3:=cell_of ha2 (i:=3)
 have c4:=cell_of ha2 (i:=4)
 have c5:=cell_of ha2 (i:=5)
 have c6:=cell_of ha2 (i:=6)
 have r0:=cell_of hr2 (i:=0)
 have r1:=cell_of hr2 (i:=1)
 have r2:=cell_of hr2 (i:=2)
 have r3:=cell_of hr2 (i:=3)
 have r4:=cell_of hr2 (i:=4)
 have r5:=cell_of hr2 (i:=5)
 have r6:=cell_of hr2 (i:=6)
 simp at c0 c1 c2 c3 c4 c5 c6 r0 r1 r2 r3 r4 r5 r6
 have f0:∀j,w2.frozen? ⟨w.heap.size,j,none⟩=false:=fun j=>froz_of ha2
 have f1:∀j,w2.frozen? ⟨w.heap.size+1,j,none⟩=false:=fun j=>froz_of hr2
 go_wp2
 have p0:∀b,w.heap.size+2<=b->b≠w.heap.size/\b≠w.heap.size+1:=fun b hb=>by omega
 have e1:=p0 b1 (by omega)
 have e2:=p0 b2 (by omega)
 refine bodyPost_ret (v:= .agg #[.int .i64 a, .int .i64 b, .int .i64 k, .bool s1, .slice (some ⟨b1,0,none⟩) xs.length (xs.length+12), .bool s2, .slice (some ⟨b2,0,none⟩) ys.length (ys.length+12)]) (by simp[results,Tryz.results24,go_sem,r0,r1,r2,r3,r4,r5,r6]) rfl
  ⟨_,_,c,rfl, ?_,by omega,by simp;omega,⟨b1,cs1,rfl,⟨by omega,z1⟩, ?_,ht1⟩,⟨b2,cs2,rfl,⟨n2,by simp;omega⟩, ?_,ht2⟩⟩
 ·exact((((((((((hB2.setCell (Nat.le_refl _) _).setCell (Nat.le_refl _) _).setCell (Nat.le_refl _) _).setCell (Nat.le_refl _) _).setCell (by simp) _).setCell (by simp) _).setCell (by simp) _).setCell (by simp) _).setCell (by simp) _).setCell (by simp) _).setCell (by simp) _
 ·rw[heap_setCell_ne _ e1.2,heap_setCell_ne _ e1.2,heap_setCell_ne _ e1.2,heap_setCell_ne _ e1.2,heap_setCell_ne _ e1.2,heap_setCell_ne _ e1.2,heap_setCell_ne _ e1.2,heap_setCell_ne _ e1.1,heap_setCell_ne _ e1.1,heap_setCell_ne _ e1.1,heap_setCell_ne _ e1.1]
  exact hc1
 ·rw[heap_setCell_ne _ e2.2,heap_setCell_ne _ e2.2,heap_setCell_ne _ e2.2,heap_setCell_ne _ e2.2,heap_setCell_ne _ e2.2,heap_setCell_ne _ e2.2,heap_setCell_ne _ e2.2,heap_setCell_ne _ e2.1,heap_setCell_ne _ e2.1,heap_setCell_ne _ e2.1,heap_setCell_ne _ e2.1]
  exact hc2
theorem argR{w:World}{Z:Nat->Prop}{o:Bool}{v:Value}{ds:List D}(h:ArgV Tryz.prog w Z (.agg [(.int .i64,false),(.int .i64,false),(.int .i64,false),(.bool,false),(.sl 105,o),(.bool,false),(.sl 105,o)]) v ds):
  ∃a b k s1 m1 g1 s2 m2 g2 u1 u2,v= .agg #[.int .i64 a, .int .i64 b, .int .i64 k, .bool s1,u1, .bool s2,u2]/\ds=[.int a, .int b, .int k, .bool s1, .sl m1 g1, .bool s2, .sl m2 g2]/\I64 a/\I64 b/\I64 k/\ArgCell Tryz.prog w Z (.sl 105,o) u1 (.sl m1 g1)/\ArgCell Tryz.prog w Z (.sl 105,o) u2 (.sl m2 g2):=by
 obtain⟨cs,rfl,hc⟩:=h
 obtain⟨va,ra,da,sa,e0,rfl,aa,hc⟩:=cells_cons hc
 obtain⟨vb,rb,db,sb,rfl,rfl,ab,hc⟩:=cells_cons hc
 obtain⟨vk,rk,dk,sk,rfl,rfl,ak,hc⟩:=cells_cons hc
 obtain⟨v0,r0,d0,s0,rfl,rfl,a0,hc⟩:=cells_cons hc
 obtain⟨v1,r1,d1,s1,rfl,rfl,a1,hc⟩:=cells_cons hc
 obtain⟨v2,r2,d2,s2,rfl,rfl,a2,hc⟩:=cells_cons hc
 obtain⟨v3,r3,d3,s3,rfl,rfl,a3,hc⟩:=cells_cons hc
 obtain⟨rfl,rfl⟩:=cells_nil hc
 obtain⟨a,rfl,rfl,ia⟩:=rd_int (show Rd Tryz.prog w _ da (.int .i64) va from aa)
 obtain⟨b,rfl,rfl,ib⟩:=rd_int (show Rd Tryz.prog w _ db (.int .i64) vb from ab)
 obtain⟨k,rfl,rfl,ik⟩:=rd_int (show Rd Tryz.prog w _ dk (.int .i64) vk from ak)
 obtain⟨x,rfl,rfl⟩:=rd_bool (show Rd Tryz.prog w _ d0 .bool v0 from a0)
 obtain⟨y,rfl,rfl⟩:=rd_bool (show Rd Tryz.prog w _ d2 .bool v2 from a2)
 have sl:∀{d:D}{u:Value},ArgCell Tryz.prog w Z (.sl 105,o) u d->∃n f,d= .sl n f:=fun{d u} a=>by
  cases o with
  |false=>exact rd_sl (show Rd Tryz.prog w _ d (.sl 105) u from a)
  |true=>
   have a:Lt Tryz.prog w Z d (.sl 105) u:=a
   cases d with
   |int n=>obtain⟨ik,hik,_⟩:=a;cases hik
   |bool b=>exact absurd a.1 (by simp)
   |str b=>exact absurd a.1 (by simp)
   |sl n f=>exact⟨n,f,rfl⟩
 obtain⟨m1,g1,rfl⟩:=sl a1
 obtain⟨m2,g2,rfl⟩:=sl a3
 have:cs= #[.int .i64 a, .int .i64 b, .int .i64 k, .bool x,v1, .bool y,v3]:=Array.ext' e0
 exact⟨a,b,k,x,m1,g1,y,m2,g2,v1,v3,by rw[this],rfl,ia,ib,ik,a1,a3⟩
def sgLR:Sig:=⟨[.agg [(.int .i64,false),(.int .i64,false),(.int .i64,false),(.bool,false),(.sl 105,false),(.bool,false),(.sl 105,false)]],[.agg [(.int .i64,false),(.int .i64,false),(.int .i64,false),(.bool,false),(.sl (105+2000000000),true),(.bool,false),(.sl (105+2000000000),true)]]⟩
def sgKR:Sig:=⟨[.agg [(.int .i64,false),(.int .i64,false),(.int .i64,false),(.bool,false),(.sl 105,true),(.bool,false),(.sl 105,true)], .agg [(.int .i64,false),(.int .i64,false),(.int .i64,false),(.bool,false),(.sl 105,false),(.bool,false),(.sl 105,false)]],[.cell .bool false]⟩
def sgOR:Sig:=⟨[.agg [(.int .i64,false),(.int .i64,false),(.int .i64,false),(.bool,false),(.sl 105,true),(.bool,false),(.sl 105,true)]],[]⟩
open Classical in
theorem lentRow_con{pr:Pred}(h1:∀a b k s1 m1 g1 s2 m2 g2,pr.pre [.int a, .int b, .int k, .bool s1, .sl m1 g1, .bool s2, .sl m2 g2]->roomB m1/\roomB m2)(h2:∀a b k s1 m1 g1 s2 m2 g2,pr.post [.int a, .int b, .int k, .bool s1, .sl m1 g1, .bool s2, .sl m2 g2] [.int a, .int b, .int k, .bool s1, .sl m1 g1, .bool s2, .sl m2 g2]):ConOK Tryz.prog 24 sgLR pr:=by
 intro w R vals ds hglob hR hargs hpre
 obtain⟨v,vs,d1,d2,rfl,rfl,hv,hvs⟩:=res_cons hargs
 obtain⟨rfl,rfl⟩:=res_nil hvs
 obtain⟨cs,rfl,hc⟩:=hv
 obtain⟨va,ra,da,sa,e0,rfl,aa,hc⟩:=rc_cons hc
 obtain⟨vb,rb,db,sb,rfl,rfl,ab,hc⟩:=rc_cons hc
 obtain⟨vk,rk,dk,sk,rfl,rfl,ak,hc⟩:=rc_cons hc
 obtain⟨v0,r0,d0,s0,rfl,rfl,a0,hc⟩:=rc_cons hc
 obtain⟨v1,r1,d1,s1,rfl,rfl,a1,hc⟩:=rc_cons hc
 obtain⟨v2,r2,d2,s2,rfl,rfl,a2,hc⟩:=rc_cons hc
 obtain⟨v3,r3,d3,s3,rfl,rfl,a3,hc⟩:=rc_cons hc
 obtain⟨rfl,rfl⟩:=rc_nil hc
 obtain⟨a,rfl,rfl,ia⟩:=rd_int (show Rd Tryz.prog w _ da (.int .i64) va from aa)
 obtain⟨b,rfl,rfl,ib⟩:=rd_int (show Rd Tryz.prog w _ db (.int .i64) vb from ab)
 obtain⟨k,rfl,rfl,ik⟩:=rd_int (show Rd Tryz.prog w _ dk (.int .i64) vk from ak)
 obtain⟨x,rfl,rfl⟩:=rd_bool (show Rd Tryz.prog w _ d0 .bool v0 from a0)
 obtain⟨y,rfl,rfl⟩:=rd_bool (show Rd Tryz.prog w _ d2 .bool v2 from a2)
 have a1:Rd Tryz.prog w R d1 (.sl 105) v1:=a1
 have a3:Rd Tryz.prog w R d3 (.sl 105) v3:=a3
 obtain⟨m1,g1,rfl⟩:=rd_sl a1
 obtain⟨m2,g2,rfl⟩:=rd_sl a3
 have:cs= #[.int .i64 a, .int .i64 b, .int .i64 k, .bool x,v1, .bool y,v3]:=Array.ext' e0
 subst this
 obtain⟨b1,b2⟩:=h1 _ _ _ _ _ _ _ _ _ hpre
 obtain⟨p1,o1,q1⟩:=readL_of a1 b1
 obtain⟨p2,o2,q2⟩:=readL_of a3 b2
 refine(lentRow2 p1 p2 o1 o2).mono ?_
 rintro e w' ⟨u1,u2,c,rfl,hb,c0,c1,l1,l2⟩
 have t1:=lt_of l1 q1 (by unfold roomB at b1;omega)
 have t2:=lt_of l2 q2 (by unfold roomB at b2;omega)
 refine⟨_,[.int a, .int b, .int k, .bool x, .sl m1 g1, .bool y, .sl m2 g2],rfl,h2 _ _ _ _ _ _ _ _ _,hb,[.agg #[.int .i64 a, .int .i64 b, .int .i64 k, .bool x,u1, .bool y,u2]],R,fun b=>if w.heap.size<=b/\b<c then some (.ent 4)else if c<=b/\b<w'.heap.size then some (.ent 6)else none,rfl,fun _ h=>h,fun _ h=> .inl h,fun b hb'=> ?_,fun b o ho=> ?_, ?_⟩
 ·have:=hR b hb'
  simp only[show¬(w.heap.size<=b/\b<c) by omega,show¬(c<=b/\b<w'.heap.size) by omega,if_false]
 ·by_cases g1:w.heap.size<=b/\b<c
  ·exact⟨g1.1,by omega⟩
  ·by_cases g2:c<=b/\b<w'.heap.size
   ·exact⟨by omega,g2.2⟩
   ·simp only[g1,g2,if_false]at ho
    cases ho
 ·refine⟨[.int a, .int b, .int k, .bool x, .sl m1 g1, .bool y, .sl m2 g2],[],rfl,⟨_,rfl,⟨.i64,rfl,rfl,ia⟩,⟨.i64,rfl,rfl,ib⟩,⟨.i64,rfl,rfl,ik⟩,⟨rfl,rfl⟩,⟨⟨m1,g1⟩,rfl,fun hm=> ?_,fun _=> .inr ⟨by kernel_rfl, ?_⟩⟩,⟨rfl,rfl⟩,⟨⟨m2,g2⟩,rfl,fun hm=> ?_,fun _=> .inr ⟨by kernel_rfl, ?_⟩⟩,trivial⟩,rfl⟩
  ·exact absurd hm (by rw[show isM (105+2000000000)=true by kernel_rfl];exact Bool.noConfusion)
  ·refine ownL_lent (by kernel_rfl) (by kernel_rfl) ?_
   show Lt Tryz.prog w' _ (.sl m1 g1) (.sl 105) _
   exact t1.mono (fun b hb' _=>if_pos hb') (fun _ _=>rfl)
  ·exact absurd hm (by rw[show isM (105+2000000000)=true by kernel_rfl];exact Bool.noConfusion)
  ·refine ownL_lent (by kernel_rfl) (by kernel_rfl) ?_
   show Lt Tryz.prog w' _ (.sl m2 g2) (.sl 105) _
   exact t2.mono (fun b hb' _=>by
    have hb':c<=b/\b<w'.heap.size:=hb'
    show(if w.heap.size<=b/\b<c then some (Owner.ent 4)else if c<=b/\b<w'.heap.size then some (Owner.ent 6)else none)=some (Owner.ent 6)
    rw[if_neg (by omega),if_pos hb']) (fun _ _=>rfl)
theorem keptRow_ok{pr:Pred}(S:Sames)(h1:∀a b k s1 m1 g1 s2 m2 g2 a' b' k' s1' m1' g1' s2' m2' g2',pr.pre [.int a, .int b, .int k, .bool s1, .sl m1 g1, .bool s2, .sl m2 g2, .int a', .int b', .int k', .bool s1', .sl m1' g1', .bool s2', .sl m2' g2']->(a=a'/\b=b'/\k=k')/\s1=s1'/\m1=m1'/\g1=g1'/\s2=s2'/\m2=m2'/\g2=g2'/\roomB m1/\roomB m2)
  (h2:∀a b k s1 m1 g1 s2 m2 g2,pr.post [.int a, .int b, .int k, .bool s1, .sl m1 g1, .bool s2, .sl m2 g2, .int a, .int b, .int k, .bool s1, .sl m1 g1, .bool s2, .sl m2 g2] [.bool true]):KeptOK Tryz.prog 29 sgKR pr:=by
 intro w vals ds hg h hpre
 obtain⟨t,ts,d1,d2,rfl,rfl,a1,h⟩:=args_cons h
 obtain⟨u,us,d3,d4,rfl,rfl,a2,h⟩:=args_cons h
 obtain⟨rfl,rfl⟩:=args_nil h
 obtain⟨a,b,k,s1,m1,g1,s2,m2,g2,v1,v2,rfl,rfl,ia,ib,ik,b1,b2⟩:=argR a1
 obtain⟨a',b',k',s1',m1',g1',s2',m2',g2',u1,u2,rfl,rfl,_,_,_,c1,c2⟩:=argR a2
 obtain⟨⟨rfl,rfl,rfl⟩,rfl,rfl,rfl,rfl,rfl,rfl,q1,q2⟩:=h1 _ _ _ _ _ _ _ _ _ _ _ _ _ _ _ _ _ _ hpre
 have b1:Lt Tryz.prog w (fun _=>True) (.sl m1 g1) (.sl 105) v1:=b1
 have b2:Lt Tryz.prog w (fun _=>True) (.sl m2 g2) (.sl 105) v2:=b2
 have c1:RD w (.sl m1 g1) (.sl 105) u1:=c1
 have c2:RD w (.sl m2 g2) (.sl 105) u2:=c2
 have b1:LT w (.sl m1 g1) (.sl 105) v1:=Lt.mono (fun b _ hb=>hb) (fun b _=>rfl) b1
 have b2:LT w (.sl m2 g2) (.sl 105) v2:=Lt.mono (fun b _ hb=>hb) (fun b _=>rfl) b2
 refine(keptRow S hg ia ib ik b1 b2 c1 c2 q1 q2).mono ?_
 rintro e w' ⟨rfl,hb⟩
 exact⟨_,[.bool true],rfl,h2 _ _ _ _ _ _ _ _ _,hb,boolOk⟩
theorem overRow_ok:OverOK Tryz.prog 30 sgOR:=by
 intro w Z vals ds hglob h
 obtain⟨t,ts,d1,d2,rfl,rfl,a1,h⟩:=args_cons h
 obtain⟨rfl,rfl⟩:=args_nil h
 obtain⟨a,b,k,s1,m1,g1,s2,m2,g2,v1,v2,rfl,rfl,_,_,_,b1,b2⟩:=argR a1
 have b1:Lt Tryz.prog w Z (.sl m1 g1) (.sl 105) v1:=b1
 have b2:Lt Tryz.prog w Z (.sl m2 g2) (.sl 105) v2:=b2
 obtain⟨q1,o1⟩:=limbV_of b1
 obtain⟨q2,o2⟩:=limbV_of b2
 exact(overRow q1 q2 rfl rfl rfl rfl o1 rfl o2).mono fun e w' h=>⟨h.1,h.2.1⟩
end Go.Sx.Lent
