/-
 Several texts in one. Conditions: none.
-/
import Derived.Test.YtbgbcaamipknmaaGreatEngE
import Derived.Test.YtbgbcaamipknmaaGreatProg
import Derived.Shelf.Spec.SlicesInsertGrow
set_option linter.unusedVariables false
set_option linter.unusedSimpArgs false
namespace Go.Sx.Ins
open Go Go.Proofs Go.RowKit Go.Lib Go.Sx
def seg(cur:Array Value)(o:Nat)(xs:List Value):Array Value:=(cur.toList.take o++xs++cur.toList.drop (o+xs.length)).toArray
theorem seg_size{cur:Array Value}{o:Nat}{xs:List Value}(h:o+xs.length<=cur.size):(seg cur o xs).size=cur.size:=by
 simp[seg]
 omega
theorem seg_get{cur:Array Value}{o:Nat}{xs:List Value}(h:o+xs.length<=cur.size)(k:Nat):(seg cur o xs)[k]? =if k<o then cur[k]? else if k<o+xs.length then xs[k-o]? else cur[k]? :=by
 unfold seg
 rw[List.getElem?_toArray,List.append_assoc]
 by_cases h1:k<o
 ·rw[List.getElem?_append_left (by simp;omega),List.getElem?_take,if_pos h1,if_pos h1,Array.getElem?_toList]
 ·rw[if_neg h1,List.getElem?_append_right (by simp;omega)]
  have h0:(cur.toList.take o).length=o:=by simp;omega
  rw[h0]
  by_cases h2:k<o+xs.length
  ·rw[if_pos h2,List.getElem?_append_left (by omega)]
  ·rw[if_neg h2,List.getElem?_append_right (by omega),List.getElem?_drop,Array.getElem?_toList]
   congr 1
   omega
theorem run_copy_rowL{P:Program}(w:World)(dT sT ty elem:TypeId)(L g o dLen dCap:Nat)(a:Addr)(sLen sCap:Nat)(cur:Array Value)(t:TypeId)(cs:List Value)
  (hu:P.underlying dT=some (.slice elem)) (hs:(P.info? elem).map (·.size)=some L)
  (hg:w.heap[g]? =some (.cells cur t (0,0))) (hn:cs.length=Nat.min sLen dLen*L)
  (hsrc:∀j v,cs[j]? =some v->w.cell? (a.add j)=some v) (hfit:o+cs.length<=cur.size) (h1:∀v∈cs,v.oneCell'=true):
  (Builtin.copy_ #[dT,sT] ty #[.slice (some ⟨g,o,none⟩) dLen dCap, .slice (some a) sLen sCap]).run P w=
   .ok (goInt (Nat.min sLen dLen)) (w.setRow g (seg cur o cs)):=by
 have hl:=run_loadCells_list (P:=P) w a cs hsrc
 have hst:=run_storeCells_at P g o t cs 0 cur w hg (by simpa using hfit) h1
 cases hq:P.info? elem with
 |none=>simp[hq]at hs
 |some i=>
  have hi:i.size=L:=by simpa[hq]using hs
  simp[Builtin.copy_,run_underlying hu,Builtin.lenOf,Builtin.firstCells,sizeOf,typeInfo,hq,hi,<-hn,hl,hst,seg]
theorem row_cell{w:World}{b:Nat}{cs:Array Value}{t:TypeId}{o:Nat}(hb:w.heap[b]? =some (.cells cs t (0,0))){l:List Value}(hl:∀j,j<l.length->l[j]? =cs[o+j]?)(j:Nat)(v:Value)(h:l[j]? =some v):w.cell? ((⟨b,o,none⟩:Addr).add j)=some v:=by
 rw[Addr.add_lit]
 have hj:j<l.length:=(List.getElem?_eq_some_iff.1 h).1
 rw[hl j hj]at h
 simp[World.cell?,hb,h]
end Go.Sx.Ins
set_option linter.unusedVariables false
set_option linter.unusedSimpArgs false
namespace Go.Sx.Ins
open Go Go.Proofs Go.RowKit Go.Lib Go.Sx
theorem info40:∃i:TypeInfo,Tryz.prog.info? 28=some i/\i.size=7/\i.bytes=88:=⟨Tryz.t28,by kernel_rfl,by kernel_rfl,by kernel_rfl⟩
theorem size40:(Tryz.prog.info? 28).map (·.size)=some 7:=by
 obtain⟨i,h,h1,_⟩:=info40
 rw[h];simp[h1]
set_option maxHeartbeats 4000000 in
set_option maxRecDepth 100000 in
theorem shift(b cap i n vb m vc:Nat)(cs vcs:Array Value)(w:World)(hi:i<n)(hm:0<m)(hroom:n+m<=cap)(hc63:cap<=9223372036854775807)(hne:vb≠b)
  (hb:w.heap[b]? =some (.cells cs 28 (0,0))) (hsz:cs.size=cap*7) (hv:w.heap[vb]? =some (.cells vcs 28 (0,0))) (hvz:m*7<=vcs.size)
  (h1c:∀v∈(cs.toList.take (n*7)).drop (i*7),v.oneCell'=true) (h1v:∀v∈vcs.toList.take (m*7),v.oneCell'=true):
  Calls Tryz.prog 55 #[.slice (some ⟨b,0,none⟩) n cap, .int .i64 i, .slice (some ⟨vb,0,none⟩) m vc] w fun e w'=>
   e= .returned (.slice (some ⟨b,0,none⟩) (n+m) cap)/\w'=(w.drew.setRow b (seg cs ((i+m)*7) ((cs.toList.take (n*7)).drop (i*7)))).setRow b (seg (seg cs ((i+m)*7) ((cs.toList.take (n*7)).drop (i*7))) (i*7) (vcs.toList.take (m*7))):=by
 have hz1:¬((m:Int)=0):=by omega
 have hz2:¬((i:Int)=(n:Int)):=by omega
 have hlt1:((cs.toList.take (n*7)).drop (i*7)).length=(n-i)*7:=by simp;omega
 have hlt2:(vcs.toList.take (m*7)).length=m*7:=by simp;omega
 have hov:∀lb cb,(callFunc 97 #[.slice (some ⟨vb,0,none⟩) m vc, .slice (some ⟨b,(i+m)*7,none⟩) lb cb]).run Tryz.prog w= .ok (.value (.bool false)) w:=fun lb cb=>by
  rw[run_callFunc_extern Tryz.func97 (by kernel_rfl) (by kernel_rfl) (by kernel_rfl) (e:=Extern.SlicesOverlaps.overlaps #[30,30] #[4]) (by kernel_rfl),
   Lib.run_overlaps_apart w 30 4 28 Tryz.underlying30 7 Tryz.sizeOf28 ⟨vb,0,none⟩ ⟨b,(i+m)*7,none⟩ m vc lb cb hne 28 28 vcs.size cs.size (by simp[World.shape?,hv]) (by simp[World.shape?,hb]) (by omega) (by simp[World.frozen?,hv]) (by simp[World.frozen?,hv])]
  rfl
 have hw1:IntKind.i64.wrap ((i:Int)+(m:Int))=(i:Int)+(m:Int):=by rw[IntKind.wrap_i64];omega
 have hb1:(0:Int)<=(i:Int)+(m:Int):=by omega
 have hin:i<=n:=by omega
 have htn:((i:Int)+(m:Int)).toNat=i+m:=by omega
 have hb2:¬(cap=i+m):=by omega
 have hb3:(i:Int)<=(n:Int)+(m:Int):=by omega
 have hb4:¬(cap=i):=by omega
 have hcp1:∀ty dc sc,(Builtin.copy_ #[30,30] ty #[.slice (some ⟨b,(i+m)*7,none⟩) (n+m-(i+m)) dc, .slice (some ⟨b,i*7,none⟩) (n+m-i) sc]).run Tryz.prog w.drew= .ok (goInt ((n-i:Nat):Int)) (w.drew.setRow b (seg cs ((i+m)*7) ((cs.toList.take (n*7)).drop (i*7)))):=fun ty dc sc=>by
  have:=run_copy_rowL (P:=Tryz.prog) w.drew 30 30 ty 28 7 b ((i+m)*7) (n+m-(i+m)) dc ⟨b,i*7,none⟩ (n+m-i) sc cs 28 ((cs.toList.take (n*7)).drop (i*7)) Tryz.underlying30 size40 hb
   (by rw[hlt1];congr 1;simp only[Nat.min_def];split<;>omega) (row_cell (w:=w.drew) hb fun j hj=>by
    rw[hlt1]at hj
    rw[List.getElem?_drop,List.getElem?_take,if_pos (by omega),Array.getElem?_toList]) (by rw[hlt1];omega) h1c
  rw[this,show Nat.min (n+m-i) (n+m-(i+m))=n-i by simp only[Nat.min_def];split<;>omega]
 obtain⟨c1,hc1⟩:∃c1,c1=seg cs ((i+m)*7) ((cs.toList.take (n*7)).drop (i*7)):=⟨_,rfl⟩
 have hc1s:c1.size=cap*7:=by rw[hc1,seg_size (by rw[hlt1];omega),hsz]
 rw[<-hc1]at hcp1⊢
 have hb':(w.drew.setRow b c1).heap[b]? =some (.cells c1 28 (0,0)):=setRow_heap w.drew b cs c1 _ _ hb
 have hv':(w.drew.setRow b c1).heap[vb]? =some (.cells vcs 28 (0,0)):=(setRow_other w.drew b vb c1 hne).trans hv
 have hcp2:∀ty dc,(Builtin.copy_ #[30,30] ty #[.slice (some ⟨b,i*7,none⟩) (n+m-i) dc, .slice (some ⟨vb,0,none⟩) m vc]).run Tryz.prog (w.drew.setRow b c1)= .ok (goInt m) ((w.drew.setRow b c1).setRow b (seg c1 (i*7) (vcs.toList.take (m*7)))):=fun ty dc=>by
  have:=run_copy_rowL (P:=Tryz.prog) (w.drew.setRow b c1) 30 30 ty 28 7 b (i*7) (n+m-i) dc ⟨vb,0,none⟩ m vc c1 28 (vcs.toList.take (m*7)) Tryz.underlying30 size40 hb'
   (by rw[hlt2];congr 1;simp only[Nat.min_def];split<;>omega) (row_cell hv' fun j hj=>by
    rw[hlt2]at hj
    rw[List.getElem?_take,if_pos (by omega),Array.getElem?_toList,Nat.zero_add]) (by rw[hlt2];omega) h1v
  rw[this,show Nat.min m (n+m-i)=m by simp only[Nat.min_def];split<;>omega]
 clear hc1
 have mixed:Tryz.prog.follows .mixedOrders=true:=by kernel_rfl
 go_enter Tryz.func55,Tryz.ntmps55
 go_wp2_with (simp only[hov])
 go_region_law_o (refine step_copy_runI rfl _ _ 30 30 rfl _ _ (by simp[Act.eval,Act.put]) (by simp[Act.eval,Act.put]) (hcp1 _ _ _) ?_)
 go_wp2_with (at_builtin;refine wpList_copy_runI _ rfl _ _ 30 30 rfl _ _ rfl rfl (hcp2 _ _) ?_)
 go_ret
 exact⟨rfl,rfl⟩
end Go.Sx.Ins
set_option linter.unusedVariables false
set_option linter.unusedSimpArgs false
namespace Go.Sx.Ins
open Go Go.Proofs Go.RowKit Go.Lib Go.Sx
def row0(cs:Array Value)(z:Array Value)(i n m G:Nat):Array Value:=(cs.toList.take (i*7)).toArray++Builtin.zeroCells z (n+m-i)++Builtin.zeroCells z (G-(n+m))
theorem row0_size{cs z:Array Value}{i n m G:Nat}(hz:z.size=7)(hi:i*7<=cs.size)(hin:i<=n)(hG:n+m<=G):(row0 cs z i n m G).size=G*7:=by
 simp only[row0,Array.size_append,size_zeroCells,hz]
 have:(cs.toList.take (i*7)).toArray.size=i*7:=by simp;omega
 rw[this]
 omega
set_option maxHeartbeats 4000000 in
set_option maxRecDepth 100000 in
theorem grow(b cap i n vb m vc:Nat)(cs vcs:Array Value)(z:Value)(inf:TypeInfo)(w:World)(hi:i<n)(hm:0<m)(hnc:n<=cap)(hroom:cap<n+m)
    (hb:w.heap[b]? =some (.cells cs 28 (0,0))) (hsz:cs.size=cap*7) (hv:w.heap[vb]? =some (.cells vcs 28 (0,0))) (hvz:m*7<=vcs.size)
    (hinf:Tryz.prog.info? 28=some inf) (hzv:inf.zero=some z) (hzs:z.cells.size=7) (hbig:(n+m)*inf.bytes<=140737488355328) (hby:0<inf.bytes)
    (h1c:∀v∈(cs.toList.take (n*7)).drop (i*7),v.oneCell'=true) (h1v:∀v∈vcs.toList.take (m*7),v.oneCell'=true):
    Calls Tryz.prog 55 #[.slice (some ⟨b,0,none⟩) n cap, .int .i64 i, .slice (some ⟨vb,0,none⟩) m vc] w fun e w'=>
      ∃ G r1 r2,n+m<=G/\G<=maxLen/\e= .returned (.slice (some ⟨w.heap.size,0,none⟩) (n+m) G)/\r1=seg (row0 cs z.cells i n m G) (i*7) (vcs.toList.take (m*7))/\r2=seg r1 ((i+m)*7) ((cs.toList.take (n*7)).drop (i*7))/\
        Below w.heap.size w w'/\w'.heap[w.heap.size]? =some (.cells r2 28 (0,0)):=by
  have hz1:¬((m:Int)=0):=by omega
  have hz2:¬((i:Int)=(n:Int)):=by omega
  have hz3:(cap:Int)<(n:Int)+(m:Int):=by omega
  have hlt1:((cs.toList.take (n*7)).drop (i*7)).length=(n-i)*7:=by simp;omega
  have hlt2:(vcs.toList.take (m*7)).length=m*7:=by simp;omega
  have hs7:inf.size=7:=by
    obtain⟨i0,h,h1,_⟩:=info40
    rw[hinf]at h;cases h;exact h1
  have hbw:b<w.heap.size:=(Array.getElem?_eq_some_iff.1 hb).1
  have hvw:vb<w.heap.size:=(Array.getElem?_eq_some_iff.1 hv).1
  have hkk:(n:Int)+(m:Int)-(i:Int)=((n+m-i:Nat):Int):=by omega
  have hik:i+(n+m-i)=n+m:=by omega
  have hold:(Builtin.firstCells inf.size i (.slice (some ⟨b,0,none⟩) i cap)).run Tryz.prog w.drew= .ok (cs.toList.take (i*7)).toArray w.drew:=by
    rw[hs7]
    exact run_firstCells_some w.drew 7 i ⟨b,0,none⟩ i cap (cs.toList.take (i*7)) (by simp;omega) (row_cell (w:=w.drew) hb fun j hj=>by
      have hj:j<i*7:=by simp at hj;omega
      rw[List.getElem?_take,if_pos hj,Array.getElem?_toList,Nat.zero_add])
  obtain⟨G,hG⟩:∃G,G=grownCap w (n+m) cap 28:=⟨_,rfl⟩
  have hnm47:n+m<=140737488355328:=Nat.le_trans (Nat.le_mul_of_pos_right _ hby) hbig
  have hGn:n+m<=G:=by rw[hG];exact grownCap_ge w _ _ _
  have hGm:G<=maxLen:=by rw[hG];exact grownCap_le_maxLen w (n+m) cap 28 (by unfold maxLen;omega)
  have hG63:G<=9223372036854775807:=by unfold maxLen at hGm;omega
  obtain⟨ROW,hROW⟩:∃ROW:Array Value,ROW=row0 cs z.cells i n m G:=⟨_,rfl⟩
  have hRs:ROW.size=G*7:=by rw[hROW];exact row0_size hzs (by omega) (by omega) hGn
  have hrz:∀ty,(Builtin.append_ #[30,3] ty #[.slice (some ⟨b,0,none⟩) i cap, .int .i64 ((n:Int)+(m:Int)-(i:Int))]).run Tryz.prog w=
      .ok (.slice (some ⟨w.heap.size,0,none⟩) (n+m) G) (w.drew.alloc (.cells ROW 28)):=fun ty=>by
    have h:=Lib.run_append_grow_zeros w 30 3 ty 28 inf z .i64 .i64 Tryz.underlying30 Tryz.underlying3 hinf hzv (some ⟨b,0,none⟩) i cap (cs.toList.take (i*7)) hold (n+m-i) (by omega) (by omega) (by omega) (by omega)
      (by have:=Nat.mul_le_mul_right inf.bytes (show n+m-i<=n+m by omega);omega) (by rw[hik];exact growslice_fits hroom hbig)
    rw[hik]at h
    rw[hkk,hROW,hG]
    exact h
  obtain⟨r1,hr1⟩:∃r1,r1=seg ROW (i*7) (vcs.toList.take (m*7)):=⟨_,rfl⟩
  obtain⟨r2,hr2⟩:∃r2,r2=seg r1 ((i+m)*7) ((cs.toList.take (n*7)).drop (i*7)):=⟨_,rfl⟩
  have hr1s:r1.size=G*7:=by rw[hr1,seg_size (by rw[hlt2];omega),hRs]
  have hcpA:∀(W:World),W.heap[w.heap.size]? =some (.cells ROW 28 (0,0))->W.heap[vb]? =some (.cells vcs 28 (0,0))->∀ty dc,(Builtin.copy_ #[30,30] ty #[.slice (some ⟨w.heap.size,i*7,none⟩) (n+m-i) dc, .slice (some ⟨vb,0,none⟩) m vc]).run Tryz.prog W= .ok (goInt m) (W.setRow w.heap.size r1):=fun W hW hWv ty dc=>by
    have:=run_copy_rowL (P:=Tryz.prog) W 30 30 ty 28 7 w.heap.size (i*7) (n+m-i) dc ⟨vb,0,none⟩ m vc ROW 28 (vcs.toList.take (m*7)) Tryz.underlying30 size40 hW
      (by rw[hlt2];congr 1;simp only[Nat.min_def];split<;>omega) (row_cell hWv fun j hj=>by
        rw[hlt2]at hj
        rw[List.getElem?_take,if_pos (by omega),Array.getElem?_toList,Nat.zero_add]) (by rw[hlt2];omega) h1v
    rw[this,hr1,show Nat.min m (n+m-i)=m by simp only[Nat.min_def];split<;>omega]
  have hcpB:∀(W:World),W.heap[w.heap.size]? =some (.cells r1 28 (0,0))->W.heap[b]? =some (.cells cs 28 (0,0))->∀ty dc sc,(Builtin.copy_ #[30,30] ty #[.slice (some ⟨w.heap.size,(i+m)*7,none⟩) (n+m-(i+m)) dc, .slice (some ⟨b,i*7,none⟩) (n-i) sc]).run Tryz.prog W= .ok (goInt ((n-i:Nat):Int)) (W.setRow w.heap.size r2):=fun W hW hWb ty dc sc=>by
    have:=run_copy_rowL (P:=Tryz.prog) W 30 30 ty 28 7 w.heap.size ((i+m)*7) (n+m-(i+m)) dc ⟨b,i*7,none⟩ (n-i) sc r1 28 ((cs.toList.take (n*7)).drop (i*7)) Tryz.underlying30 size40 hW
      (by rw[hlt1];congr 1;simp only[Nat.min_def];split<;>omega) (row_cell hWb fun j hj=>by
        rw[hlt1]at hj
        rw[List.getElem?_drop,List.getElem?_take,if_pos (by omega),Array.getElem?_toList]) (by rw[hlt1];omega) h1c
    rw[this,hr2,show Nat.min (n-i) (n+m-(i+m))=n-i by simp only[Nat.min_def];split<;>omega]
  have hA1:((w.alloc (.cells ROW 28)).drew).heap[w.heap.size]? =some (.cells ROW 28 (0,0)):=heap_alloc_new w _
  have hA2:((w.alloc (.cells ROW 28)).drew).heap[vb]? =some (.cells vcs 28 (0,0)):=(Below.heap_alloc w _ vb hvw).trans hv
  have hA3:((w.alloc (.cells ROW 28)).drew).heap[b]? =some (.cells cs 28 (0,0)):=(Below.heap_alloc w _ b hbw).trans hb
  have hB1:(((w.alloc (.cells ROW 28)).drew.setRow w.heap.size r1).drew).heap[w.heap.size]? =some (.cells r1 28 (0,0)):=setRow_heap _ _ _ _ _ _ hA1
  have hB2:(((w.alloc (.cells ROW 28)).drew.setRow w.heap.size r1).drew).heap[b]? =some (.cells cs 28 (0,0)):=(setRow_other _ _ _ _ (by omega)).trans hA3
  have hcA:=hcpA _ hA1 hA2
  have hcB:=hcpB _ hB1 hB2
  have hC1:((((w.alloc (.cells ROW 28)).drew.setRow w.heap.size r1).drew).setRow w.heap.size r2).heap[w.heap.size]? =some (.cells r2 28 (0,0)):=setRow_heap _ _ _ _ _ _ hB1
  have hC2:Below w.heap.size w ((((w.alloc (.cells ROW 28)).drew.setRow w.heap.size r1).drew).setRow w.heap.size r2):=by
    refine⟨rfl,rfl,rfl, ?_,fun k hk=> ?_⟩
    · rw[setRow_size]
      show w.heap.size<=((w.alloc (.cells ROW 28)).drew.setRow w.heap.size r1).heap.size
      rw[setRow_size]
      exact(Below.alloc (Below.refl w.heap.size w) (Nat.le_refl _) _).size
    · exact(setRow_other _ _ _ _ (by omega)).trans ((setRow_other _ _ _ _ (by omega)).trans (Below.heap_alloc w _ k hk))
  have hfin:∃G r1 r2,n+m<=G/\G<=maxLen/\Ending.returned (.slice (some ⟨w.heap.size,0,none⟩) (n+m) G)=Ending.returned (.slice (some ⟨w.heap.size,0,none⟩) (n+m) G)/\r1=seg (row0 cs z.cells i n m G) (i*7) (vcs.toList.take (m*7))/\r2=seg r1 ((i+m)*7) ((cs.toList.take (n*7)).drop (i*7))/\True:=⟨G,r1,r2,hGn,hGm,rfl,by rw[hr1,hROW],hr2,trivial⟩
  have hend:∀w',w'=((((w.alloc (.cells ROW 28)).drew.setRow w.heap.size r1).drew).setRow w.heap.size r2)->∃G' r1 r2,n+m<=G'/\G'<=maxLen/\Ending.returned (.slice (some ⟨w.heap.size,0,none⟩) (n+m) G)=Ending.returned (.slice (some ⟨w.heap.size,0,none⟩) (n+m) G')/\r1=seg (row0 cs z.cells i n m G') (i*7) (vcs.toList.take (m*7))/\r2=seg r1 ((i+m)*7) ((cs.toList.take (n*7)).drop (i*7))/\
        Below w.heap.size w w'/\w'.heap[w.heap.size]? =some (.cells r2 28 (0,0)):=fun w' hw'=>by
    subst hw'
    exact⟨G,r1,r2,hGn,hGm,rfl,by rw[hr1,hROW],hr2,hC2,hC1⟩
  have hw1:IntKind.i64.wrap ((i:Int)+(m:Int))=(i:Int)+(m:Int):=by rw[IntKind.wrap_i64];omega
  have hb1:(0:Int)<=(i:Int)+(m:Int):=by omega
  have hin:i<=n:=by omega
  have htn:((i:Int)+(m:Int)).toNat=i+m:=by omega
  have hb3:(i:Int)<=(n:Int):=by omega
  have hGi:¬(G=i):=by omega
  have hGim:¬(G=i+m):=by omega
  have hci:¬(cap=i):=by omega
  have hbN:b≠w.heap.size:=by omega
  clear hkk hik hold hROW hG hr1 hr2 hC1 hC2 hfin hB1 hB2 hA1 hA2 hA3 hcpA hcpB
  have mixed:Tryz.prog.follows .mixedOrders=true:=by kernel_rfl
  go_enter Tryz.func55,Tryz.ntmps55
  go_wp2_with (first
    |(at_builtin;refine Lib.wpList_append_run _ rfl _ _ _ _ rfl _ _ rfl rfl _ _ (hrz _) ?_)
    |(at_builtin;refine wpList_copy_runI _ rfl _ _ 30 30 rfl _ _ rfl rfl (hcA _ _) ?_))
  go_region_law_o (refine step_copy_runI rfl _ _ 30 30 rfl (.slice (some ⟨w.heap.size,(i+m)*7,none⟩) (n+m-(i+m)) (G-(i+m))) (.slice (some ⟨b,i*7,none⟩) (n-i) (cap-i)) (by simp[Act.eval,Act.put]) (by simp[Act.eval,Act.put]) (hcB _ _ _) ?_)
  go_wp2
  go_ret
  exact hend _ rfl
end Go.Sx.Ins
set_option linter.unusedVariables false
set_option linter.unusedSimpArgs false
namespace Go.Sx.Ins
open Go Go.Proofs Go.RowKit Go.Lib Go.Sx
set_option maxHeartbeats 4000000 in
set_option maxRecDepth 100000 in
theorem atEnd(a:Option Addr)(n cap vb m vc:Nat)(w w1:World)(v:Value)(hm:0<m)(hnc:n<=cap)(h63:cap<=9223372036854775807)(hnil:a=none->cap=0)
  (hrun:(Builtin.append_ #[30,30] 30 #[.slice a n cap, .slice (some ⟨vb,0,none⟩) m vc]).run Tryz.prog w= .ok v w1):
  Calls Tryz.prog 55 #[.slice a n cap, .int .i64 n, .slice (some ⟨vb,0,none⟩) m vc] w fun e w'=>e= .returned v/\w'=w1:=by
 have hz1:¬((m:Int)=0):=by omega
 have mixed:Tryz.prog.follows .mixedOrders=true:=by kernel_rfl
 go_enter Tryz.func55,Tryz.ntmps55
 cases a with
 |none=>
  have h0:=hnil rfl
  subst h0
  obtain rfl:n=0:=by omega
  go_wp2_with (at_builtin;refine Lib.wpList_append_run _ rfl _ _ _ _ rfl _ _ rfl rfl _ _ hrun ?_)
  go_ret
  exact⟨rfl,rfl⟩
 |some x=>
  obtain⟨xb,xo,xs⟩:=x
  go_wp2_with (at_builtin;refine Lib.wpList_append_run _ rfl _ _ _ _ rfl _ _ rfl rfl _ _ hrun ?_)
  all_goals(go_ret;exact⟨rfl,rfl⟩)
theorem one_of{P:Program}{w:World}{R:Nat->Prop}{cs:Array Value}{n:Nat}{ks:List K}{f:Nat->Nat->D}(hk:ks.length=7)(h:∀j k kk,j<n->ks[k]? =some kk->∃u,cs[j*ks.length+k]? =some u/\Rd P w R (f j k) kk u):∀v∈cs.toList.take (n*7),v.oneCell'=true:=by
 intro v hv
 obtain⟨x,hx⟩:=List.mem_iff_getElem?.1 hv
 have hlt:x<n*7:=by
  have:=(List.getElem?_eq_some_iff.1 hx).1
  simp at this
  omega
 rw[List.getElem?_take,if_pos hlt,Array.getElem?_toList]at hx
 have hq:x % 7<ks.length:=by rw[hk];exact Nat.mod_lt _ (by omega)
 obtain⟨u,hu,hr⟩:=h (x/7) (x % 7) (ks[x % 7]) (by omega) (List.getElem?_eq_getElem hq)
 rw[hk,show x/7*7+x % 7=x by omega,hx]at hu
 cases hu
 exact hr.one
theorem reads{P:Program}{w:World}{R:Nat->Prop}{cs vcs cs':Array Value}{d r:Sl}{i:Nat}{ks:List K}(hi:i<=d.n)(hk:ks.length=7)
  (hd:∀j k kk,j<d.n->ks[k]? =some kk->∃u,cs[j*ks.length+k]? =some u/\Rd P w R (d.f j k) kk u)
  (hr:∀j k kk,j<r.n->ks[k]? =some kk->∃u,vcs[j*ks.length+k]? =some u/\Rd P w R (r.f j k) kk u)
  (h1:∀x,x<i*7->cs'[x]? =cs[x]?) (h2:∀x,x<r.n*7->cs'[i*7+x]? =vcs[x]?) (h3:∀x,i*7<=x->x<d.n*7->cs'[r.n*7+x]? =cs[x]?):
  ∀j k kk,j<d.n+r.n->ks[k]? =some kk->∃u,cs'[j*ks.length+k]? =some u/\Rd P w R ((Sl.app (Sl.app (Sl.part d 0 i) r) (Sl.part d i d.n)).f j k) kk u:=by
 intro j k kk hj hq
 have hk':k<7:=by rw[<-hk];exact(List.getElem?_eq_some_iff.1 hq).1
 simp only[Sl.app,Sl.part]
 by_cases hji:j<i
 ·obtain⟨u,hu,hru⟩:=hd j k kk (by omega) hq
  refine⟨u, ?_, ?_⟩
  ·rw[hk]at hu⊢
   rw[h1 _ (by omega)]
   exact hu
  ·have e1:j<((i:Int)-0).toNat+r.n:=by omega
   have e2:j<((i:Int)-0).toNat:=by omega
   simp only[e1,e2,if_true]
   simpa using hru
 ·by_cases hjm:j<i+r.n
  ·obtain⟨u,hu,hru⟩:=hr (j-i) k kk (by omega) hq
   refine⟨u, ?_, ?_⟩
   ·rw[hk]at hu⊢
    rw[show j*7+k=i*7+((j-i)*7+k) by omega,h2 _ (by omega)]
    exact hu
   ·have e1:j<((i:Int)-0).toNat+r.n:=by omega
    have e2:¬j<((i:Int)-0).toNat:=by omega
    simp only[e1,e2,if_true,if_false]
    rw[show j-((i:Int)-0).toNat=j-i by omega]
    exact hru
  ·obtain⟨u,hu,hru⟩:=hd (j-r.n) k kk (by omega) hq
   refine⟨u, ?_, ?_⟩
   ·rw[hk]at hu⊢
    rw[show j*7+k=r.n*7+((j-r.n)*7+k) by omega,h3 _ (by omega) (by omega)]
    exact hu
   ·have e1:¬j<((i:Int)-0).toNat+r.n:=by omega
    simp only[e1,if_false]
    have e3:(i:Int).toNat+(j-(((i:Int)-0).toNat+r.n))=j-r.n:=by omega
    first
     |(rw[e3];exact hru)
     |(rw[show(j-(((i:Int)-0).toNat+r.n))+(i:Int).toNat=j-r.n by omega];exact hru)
theorem insOK:InsOK Tryz.prog 55 28:=by
 intro w R d r a cap vb vcap i vcs ks inf z hks hL hinf hsz hzv hzs hby hd hi hrn hrv hvc hvb hvs hvr hne hbytes
 have hk7:ks.length=7:=by
  obtain⟨i0,h,h1,_⟩:=info40
  rw[hinf]at h;cases h
  rw[<-hsz];exact h1
 have hd0:=hd
 obtain⟨d1,d2,d3,d4⟩:=hd
 have hdc:d.n<=cap:=Nat.le_trans d1 (Nat.min_le_left _ _)
 have hrc:r.n<=vcap:=Nat.le_trans hrv (Nat.min_le_left _ _)
 have h63:cap<=9223372036854775807:=by unfold maxLen at d2;omega
 have hvz:r.n*7<=vcs.size:=by rw[hvs,hk7];exact Nat.mul_le_mul_right _ hrc
 have h1v:=one_of (w:=w) hk7 hvr
 by_cases hin:i=d.n
 ·subst hin
  have hcont:Cont Tryz.prog w R 28 r (.slice (some ⟨vb,0,none⟩) r.n vcap):=⟨some ⟨vb,0,none⟩,vcap,rfl,hrv,hvc,(fun h=>by cases h),fun ks2 j q kk hks2 hj hq=>by
   rw[hks]at hks2;cases hks2
   obtain⟨u,hu,hru⟩:=hvr j q kk hj hq
   exact⟨⟨vb,0,none⟩,u,rfl,rfl,by simp[World.cell?,hvb,hu],hru⟩⟩
  have hcore:=append_core (P:=Tryz.prog) (w:=w) (R:=R) (t:=30) (ty:=30) Tryz.underlying30 hks hinf hsz hzv hzs hL hby hd0 hcont hbytes
  have hsame:∀j k,j<d.n+r.n->(Sl.app (Sl.app (Sl.part d 0 d.n) r) (Sl.part d d.n d.n)).f j k=(Sl.app d r).f j k:=fun j k hj=>by
   simp only[Sl.app,Sl.part]
   have e1:j<((d.n:Int)-0).toNat+r.n:=by omega
   simp only[e1,if_true]
   by_cases e2:j<d.n
   ·have e3:j<((d.n:Int)-0).toNat:=by omega
    simp[e2]
   ·have e3:¬j<((d.n:Int)-0).toNat:=by omega
    simp[e2]
  rcases hcore with⟨hr0,_⟩|⟨b,cs,cs',hab,hcpos,hroom,hcs,hrun,hsize,hcell⟩|⟨cap',cs',hc1,hc2,hrun,hsize,hcell⟩
  ·omega
  ·refine(atEnd a d.n cap vb r.n vcap w _ _ hrn hdc h63 d3 hrun).mono ?_
   rintro en w' ⟨rfl,rfl⟩
   refine⟨_,rfl, .inl ⟨b,cs,cs',hab,hcpos,hroom,hcs,rfl,Below.refl _ _,hsize,fun j k kk hj hq=> ?_⟩⟩
   rw[hsame j k hj]
   exact hcell j k kk hj hq
  ·refine(atEnd a d.n cap vb r.n vcap w _ _ hrn hdc h63 d3 hrun).mono ?_
   rintro en w' ⟨rfl,rfl⟩
   refine⟨_,rfl, .inr ⟨cap',cs',rfl,(Below.drew (Below.refl _ _)).alloc (by simp) _,heap_alloc_new w.drew _,hc1,hc2,hsize,fun j k kk hj hq=> ?_⟩⟩
   rw[hsame j k hj]
   exact hcell j k kk hj hq
 ·have hilt:i<d.n:=by omega
  rcases d4 with d4|⟨b,cs,rfl,hcs,hcont⟩
  ·omega
  obtain⟨hcz,hcd⟩:=hcont ks hks
  rw[hk7]at hcz
  have hnb:vb≠b:=fun e=>hne b rfl (by omega) e.symm
  have h1c0:=one_of (w:=w) hk7 hcd
  have h1c:∀v∈(cs.toList.take (d.n*7)).drop (i*7),v.oneCell'=true:=fun v hv=>h1c0 v (List.mem_of_mem_drop hv)
  have hlt1:((cs.toList.take (d.n*7)).drop (i*7)).length=(d.n-i)*7:=by simp;omega
  have hlt2:(vcs.toList.take (r.n*7)).length=r.n*7:=by simp;omega
  have hD:∀x,x<(d.n-i)*7->((cs.toList.take (d.n*7)).drop (i*7))[x]? =cs[i*7+x]? :=fun x hx=>by
   rw[List.getElem?_drop,List.getElem?_take,if_pos (by omega),Array.getElem?_toList]
  have hV:∀x,x<r.n*7->(vcs.toList.take (r.n*7))[x]? =vcs[x]? :=fun x hx=>by
   rw[List.getElem?_take,if_pos (by omega),Array.getElem?_toList]
  by_cases hroom:d.n+r.n<=cap
  ·refine(shift b cap i d.n vb r.n vcap cs vcs w hilt hrn hroom h63 hnb hcs hcz hvb hvz h1c h1v).mono ?_
   rintro en w' ⟨rfl,rfl⟩
   obtain⟨c1,hc1⟩:∃c1,c1=seg cs ((i+r.n)*7) ((cs.toList.take (d.n*7)).drop (i*7)):=⟨_,rfl⟩
   have hf1:(i+r.n)*7+((cs.toList.take (d.n*7)).drop (i*7)).length<=cs.size:=by rw[hlt1];omega
   have hc1s:c1.size=cap*7:=by rw[hc1,seg_size hf1,hcz]
   have hf2:i*7+(vcs.toList.take (r.n*7)).length<=c1.size:=by rw[hlt2];omega
   rw[<-hc1]
   refine⟨_,rfl, .inl ⟨b,cs,seg c1 (i*7) (vcs.toList.take (r.n*7)),rfl,by omega,hroom,hcs,rfl, ?_,by rw[seg_size hf2,hc1s,hk7], ?_⟩⟩
   ·rw[setRow_setRow]
    exact⟨rfl,rfl,rfl,Nat.le_refl _,fun _ _=>rfl⟩
   ·refine reads hi hk7 hcd hvr (fun x hx=> ?_) (fun x hx=> ?_) (fun x hx hx2=> ?_)
    ·rw[seg_get hf2,if_pos hx,hc1,seg_get hf1,if_pos (by omega)]
    ·rw[seg_get hf2,if_neg (by omega),if_pos (by rw[hlt2];omega),show i*7+x-i*7=x by omega,hV x hx]
    ·rw[seg_get hf2,if_neg (by omega),if_neg (by rw[hlt2];omega),hc1,seg_get hf1,if_neg (by omega),if_pos (by rw[hlt1];omega),hD _ (by omega),show i*7+(r.n*7+x-(i+r.n)*7)=x by omega]
  ·refine(grow b cap i d.n vb r.n vcap cs vcs z inf w hilt hrn hdc (by omega) hcs hcz hvb hvz hinf hzv (by rw[hzs,hk7]) hbytes hby h1c h1v).mono ?_
   rintro en w' ⟨G,r1,r2,hG1,hG2,rfl,hr1,hr2,hbel,hh⟩
   have hf0:(row0 cs z.cells i d.n r.n G).size=G*7:=row0_size (by rw[hzs,hk7]) (by omega) hi hG1
   have hf1:i*7+(vcs.toList.take (r.n*7)).length<=(row0 cs z.cells i d.n r.n G).size:=by rw[hlt2];omega
   have hr1s:r1.size=G*7:=by rw[hr1,seg_size hf1,hf0]
   have hf2:(i+r.n)*7+((cs.toList.take (d.n*7)).drop (i*7)).length<=r1.size:=by rw[hlt1];omega
   refine⟨_,rfl, .inr ⟨G,r2,rfl,hbel,hh,hG1,hG2,by rw[hr2,seg_size hf2,hr1s,hk7], ?_⟩⟩
   refine reads hi hk7 hcd hvr (fun x hx=> ?_) (fun x hx=> ?_) (fun x hx hx2=> ?_)
   ·rw[hr2,seg_get hf2,if_pos (by omega),hr1,seg_get hf1,if_pos hx]
    unfold row0
    rw[Array.getElem?_append_left (by simp;omega),Array.getElem?_append_left (by simp;omega)]
    simp[hx]
   ·rw[hr2,seg_get hf2,if_pos (by omega),hr1,seg_get hf1,if_neg (by omega),if_pos (by rw[hlt2];omega),show i*7+x-i*7=x by omega,hV x hx]
   ·rw[hr2,seg_get hf2,if_neg (by omega),if_pos (by rw[hlt1];omega),hD _ (by omega),show i*7+(r.n*7+x-(i+r.n)*7)=x by omega]
end Go.Sx.Ins
