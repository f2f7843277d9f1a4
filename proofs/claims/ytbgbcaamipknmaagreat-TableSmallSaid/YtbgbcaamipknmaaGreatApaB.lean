/-
 Slices of limbs that lie apart: what is asked of them is true. Conditions: as typed.
-/
import Derived.Test.YtbgbcaamipknmaaGreatApaA
import Derived.Test.YtbgbcaamipknmaaGreatLentA
import Derived.Deep.RegionWith
set_option linter.unusedVariables false
set_option linter.unusedSimpArgs false
namespace Go.Sx.Apart
open Go Go.Proofs Go.RowKit Go.Lib Go.Sx Go.Sx.Lent
def markN(k i:Nat):Int:=1000003*((k:Int)+7)+(i:Int)
def mL(k i:Nat):List Value:=[.int .u16 (IntKind.u16.wrap (markN k i))]
theorem mL_len(k i:Nat):(mL k i).length=1:=rfl
set_option maxRecDepth 100000 in
theorem markI(k i:Nat)(hk:k<=1000000)(hi:i<=140737488355328)(w:World):Calls Tryz.prog 106 #[.int .i64 (k:Int), .int .i64 (i:Int)] w fun e w'=>e= .returned (.int .i64 (markN k i))/\w'=w:=by
 have w1:IntKind.i64.wrap ((k:Int)+7)=(k:Int)+7:=by rw[IntKind.wrap_i64];omega
 have w2:IntKind.i64.wrap (1000003*((k:Int)+7))=1000003*((k:Int)+7):=by rw[IntKind.wrap_i64];omega
 have w3:IntKind.i64.wrap (1000003*((k:Int)+7)+(i:Int))=1000003*((k:Int)+7)+(i:Int):=by rw[IntKind.wrap_i64];omega
 go_enter Tryz.func106,Tryz.ntmps106
 go_wp2
 go_ret
 exact⟨rfl,rfl⟩
theorem markJ(k i:Nat){y x:Int}(hy:y=(k:Int))(hx:x=(i:Int))(hk:k<=1000000)(hi:i<=140737488355328)(w:World):Calls Tryz.prog 106 #[.int .i64 y, .int .i64 x] w fun e w'=>e= .returned (.int .i64 (markN k i))/\w'=w:=by
 subst hx hy
 exact markI k i hk hi w
def Held(w:World)(t:TypeId)(ao:Option Addr)(m:Nat)(vs:List Value):Prop:=
 vs.length=m/\(m=0\/∃(l:Nat)(lc:Array Value),ao=some ⟨l,0,none⟩/\w.heap[l]? =some (.cells lc t (0,0))/\∀(k:Nat)(v:Value),vs[k]? =some v->lc[k]? =some v)
theorem Held.fr{w w':World}{t:TypeId}{ao:Option Addr}{m:Nat}{vs:List Value}{N:Nat}{E:TypeId->Prop}(h:Held w t ao m vs)(hf:Fr N E w w')(ht:¬E t):Held w' t ao m vs:=
 ⟨h.1,h.2.imp id fun⟨l,lc,h1,h2,h3⟩=>⟨l,lc,h1,hf.ty l lc t _ h2 ht,h3⟩⟩
theorem Held.at{w:World}{t:TypeId}{l m k:Nat}{vs:List Value}{v:Value}(h:Held w t (some ⟨l,0,none⟩) m vs)(hv:vs[k]? =some v):∃lc:Array Value,w.heap[l]? =some (.cells lc t (0,0))/\w.cell? ⟨l,k,none⟩=some v:=by
 obtain⟨h1,h2|⟨l',lc,e,h2,h3⟩⟩:=h
 ·have:=(List.getElem?_eq_some_iff.1 hv).1
  omega
 ·cases e
  exact⟨lc,h2,by simp[World.cell?,h2,h3 k v hv]⟩
theorem infoSL:∃i:TypeInfo,Tryz.prog.info? 22=some i/\i.zero=some (.slice none 0 0)/\i.size=1/\i.bytes=24:=⟨Tryz.t22,by kernel_rfl,by kernel_rfl,by kernel_rfl,by kernel_rfl⟩
theorem new_one(w:World)(u:Value)(t:TypeId):∀j x,([u]:List Value)[j]? =some x->(w.alloc (.cells #[u] t (0,0))).cell? ((⟨w.heap.size,0,none⟩:Addr).add j)=some x:=by
 intro j x hj
 match j,hj with
 |0,hj=>
  simp at hj
  subst hj
  show World.cell? _ ⟨w.heap.size,0+0,none⟩=_
  unfold World.cell?
  rw[heap_alloc_new]
  rfl
set_option maxHeartbeats 8000000 in
set_option maxRecDepth 100000 in
theorem flatLimbs{w:World}{N m cap:Nat}{ao:Option Addr}{vs:List Value}{nn:Nat->Nat}{S0:Nat->List Value}(hN:N<=w.heap.size)(hh:Held w 22 ao m vs)(hs:Slices w 105 1 N vs nn S0)(hm:m<=500000)(hnn:∀k,k<m->nn k<=1000000000):
  Calls Tryz.prog 70 #[.slice ao m cap] w fun e w'=>e= .returned (.bool true)/\Fr N (· =105) w w':=by
 obtain⟨iU,hiU,hzU,hsU,hbU⟩:=infoU
 obtain⟨iL,hiL,hzL,hsL,hbL⟩:=infoSL
 have vsm:vs.length=m:=hh.1
 have vget:∀k,k<m->∃v,vs[k]? =some v:=fun k hk=>⟨vs[k]'(by omega),List.getElem?_eq_getElem _⟩
 have vlt:∀{k v},vs[k]? =some v->k<m:=fun{k v} h=>by have:=(List.getElem?_eq_some_iff.1 h).1;omega
 have hat:∀wx,Fr N (· =105) w wx->∀k v,vs[k]? =some v->∃l lc,ao=some ⟨l,0,none⟩/\wx.heap[l]? =some (.cells lc 22 (0,0))/\wx.cell? ⟨l,k,none⟩=some v:=fun wx hf k v hv=>by
  have h:=hh.fr hf (by decide)
  obtain⟨h1,h2|⟨l,lc,e,h2,h3⟩⟩:=id h
  ·have:=vlt hv;omega
  ·exact⟨l,lc,e,h2,by simp[World.cell?,h2,h3 k v hv]⟩
 go_enter Tryz.func70,Tryz.ntmps70
 go_wp2
 go_loopw [3] (fun i wr=>∃(k:Nat)(S:Nat->List Value),k<=m/\i= .int .i64 k/\Fr N (· =105) w wr/\Slices wr 105 1 N vs nn S/\∀j,j<k->S j=marks mL j (nn j)) (fun i _=>m-(intOf i).toNat)
 case atStart=>exact⟨0,S0,Nat.zero_le _,rfl,Fr.refl _ _ _,hs,fun j hj=>by omega⟩
 case round =>
  obtain⟨k,S,hk,rfl,hf,hS,hd⟩:=hrel
  by_cases hlt:k<m
  ·have hlt':(k:Int)<(m:Int):=by omega
   obtain⟨v,hv⟩:=vget k hlt
   obtain⟨l,lc,rfl,hl,c0⟩:=hat wr hf k v hv
   obtain⟨va,vc,rfl,hvc⟩:=(hS.row k v hv).form
   go_wp2
   obtain⟨wo,rfl⟩:∃wo:World,wo=wr:=⟨_,rfl⟩
   go_loopw [4] (fun i wr=>∃(q:Nat)(S:Nat->List Value),q<=nn k/\i= .int .i64 q/\Fr N (· =105) w wr/\Slices wr 105 1 N vs nn S/\(∀j,j<k->S j=marks mL j (nn j))/\(S k).take (q*1)=marks mL k q) (fun i _=>nn k-(intOf i).toNat)
   case atStart=>exact⟨0,S,Nat.zero_le _,rfl,hf,hS,hd,by simp[marks]⟩
   case round=>
    obtain⟨q,S1,hq,rfl,hf1,hS1,hd1,ht1⟩:=hrel
    obtain⟨l2,lc2,he2,hl2,c1⟩:=hat wr hf1 k _ hv
    cases he2
    by_cases hlq:q<nn k
    ·have hlq':(q:Int)<(nn k:Int):=by omega
     obtain⟨g,cap',cur,hvg,hbg,hgc,hgs,hgx⟩:=(hS1.row k _ hv).blk (by omega)
     cases hvg
     have hn1:=hnn k hlt
     have f1:wr.frozen? ⟨g,q,none⟩=false:=by simp[World.frozen?,hgc]
     have g1:wr.cell? ⟨g,q,none⟩=some (cur.getD q undef):=by
      have:q<cur.size:=by omega
      simp[World.cell?,hgc,Array.getD,this]
     have key:∃(q':Nat)(S:Nat->List Value),q'<=nn k/\Value.int .i64 ((q:Int)+1)= .int .i64 q'/\Fr N (· =105) w (wr.setCell ⟨g,q,none⟩ (.int .u16 (IntKind.u16.wrap (markN k q)))).drew/\Slices (wr.setCell ⟨g,q,none⟩ (.int .u16 (IntKind.u16.wrap (markN k q)))).drew 105 1 N vs nn S/\(∀j,j<k->S j=marks mL j (nn j))/\(S k).take (q'*1)=marks mL k q':=by
      refine⟨q+1,upd S1 k ((S1 k).set q _),by omega,by go_num,(hf1.cell hgc rfl (hS1.lo k _ g hv hbg) _).drew,(hS1.set hv hbg _).drew,fun j hj=>by rw[upd_ne _ _ (by omega)];exact hd1 j hj, ?_⟩
      rw[upd_at]
      have:=marks_store mL_len ht1 (by rw[(hS1.row k _ hv).1];omega)
      simpa[mL,setMany]using this
     go_wp2
     go_region_with (first|(go_at_call 106;refine(markI k q (by omega) (by omega) _).mono ?_;rintro e w' ⟨rfl,rfl⟩))
     all_goals go_wp2
     all_goals go_roundw
     all_goals first|exact key|(simp[intOf];omega)
    ·have hge:¬(q:Int)<(nn k:Int):=by omega
     obtain rfl:q=nn k:=by omega
     go_wp2
     go_roundw
     case rel=>
      refine⟨k+1,S1,by omega,by go_num,hf1,hS1,fun j hj=> ?_⟩
      by_cases e:j=k
      ·subst e
       exact hS1.full hv ht1
      ·exact hd1 j (by omega)
     case measure=>simp[intOf];omega
  ·have hge : ¬(k:Int)<(m:Int):=by omega
   have hkm:k=m:=by omega
   subst k
   have hS2:Slices wr 105 1 N vs nn (fun j=>marks mL j (nn j)):=hS.step fun j v hv=>by rw[<-hd j (vlt hv)];exact hS.row j v hv
   clear hd hS hs
   have hN1:=hf.size
   go_wp2_with (at_make;refine wpList_make_full _ rfl _ _ 73 rfl wr.heap.size 22 iL (.slice none 0 0) 1 Tryz.underlying73 hiL hzL hsL _ _ _ _ m rfl rfl rfl rfl ?b2 ?b3 (Nat.le_refl _) ?_)
   case b2=>omega
   case b3=>unfold maxLen;omega
   intro w2 hown2 hgrow2
   obtain⟨_,G2,hG2,hGs2,_⟩:=made_row hown2
   have hb2:Below wr.heap.size wr w2:=⟨hgrow2.os,hgrow2.tape,hgrow2.output,hgrow2.size,fun x hx=>hgrow2.block x hx (by simp)⟩
   have hlo:∀(j:Nat)(v:Value)(c:Nat),vs[j]? =some v->blkOf v=some c->c<wr.heap.size:=fun j v c hj hc=>(hS2.row j v hj).lt hc
   have hf2:=hf.below hb2 (by omega)
   have hS3:=hS2.below hb2
   obtain⟨γ,hγ⟩:∃γ,γ=wr.heap.size:=⟨_,rfl⟩
   rw[<-hγ]at hG2 hlo hN1⊢
   clear hown2 hgrow2 hb2 hS2 hf hγ
   go_wp2
   go_loopw [6] (fun i wr=>∃(q:Nat)(G:Array Value),q<=m/\i= .int .i64 q/\Fr N (· =105) w wr/\Slices wr 105 1 N vs nn (fun j=>marks mL j (nn j))/\wr.heap[γ]? =some (.cells G 22 (0,0))/\G.size=m/\Longer wr 105 1 γ vs G q (fun j=>nn j+64) (fun j=>marks mL j (nn j+64))) (fun i _=>m-(intOf i).toNat)
   case atStart=>exact⟨0,G2,Nat.zero_le _,rfl,hf2,hS3,hG2,by omega,fun j hj=>by omega⟩
   case round =>
    obtain⟨q,G,hq,rfl,hf3,hS4,hG,hGs,hL⟩:=hrel
    by_cases hlq:q<m
    ·have hlq':(q:Int)<(m:Int):=by omega
     obtain⟨v,hv⟩:=vget q hlq
     obtain⟨l,lc,rfl,hl,c0⟩:=hat wr hf3 q v hv
     have hn1:=hnn q hlq
     have hrv:=hS4.row q v hv
     obtain⟨va,vc,rfl,hvc⟩:=hrv.form
     go_wp2
     obtain⟨wo,rfl⟩:∃wo:World,wo=wr:=⟨_,rfl⟩
     go_loopw [7,8] (fun g i wr=>∃p:Nat,p<=64/\i= .int .i64 p/\Fr N (· =105) w wr/\Slices wr 105 1 N vs nn (fun j=>marks mL j (nn j))/\wr.heap[γ]? =some (.cells G 22 (0,0))/\Longer wr 105 1 γ vs G q (fun j=>nn j+64) (fun j=>marks mL j (nn j+64))/\
      Row wr 105 1 g (nn q+p) (marks mL q (nn q+p))/\(blkOf g=blkOf (.slice va (nn q) vc)\/∃c,blkOf g=some c/\wo.heap.size<=c)/\wo.heap.size<=wr.heap.size) (fun _ i _=>64-(intOf i).toNat)
     case atStart=>exact⟨0,by omega,rfl,hf3,hS4,hG,hL,hrv, .inl rfl,Nat.le_refl _⟩
     case round=>
      obtain⟨p,hp,rfl,hf5,hS5,hG5,hL5,hr5,hb5,hw5⟩:=hrel
      by_cases hlp:p<64
      ·have hlp':(p:Int)<64:=by omega
       obtain⟨l2,lc2,he2,hl2,c1⟩:=hat wr hf5 q _ hv
       cases he2
       go_wp2_with (first
        |(go_at_call 106;refine(markJ q (nn q+p) rfl (by omega) (by omega) (by omega) _).mono ?_;rintro e wy ⟨rfl,hy⟩;subst wy)
        |(at_builtin;refine wpList_app _ rfl (.tmp 58) (.tmp 69) 22 rfl 105 iU (.int .u16 0) 1 2 Tryz.underlying22 hiU hzU hsU hbU rfl (by omega) _ (nn q+p) _ rfl (hr5.below ((Below.refl _ _).alloc (Nat.le_refl _) _)) ⟨wr.heap.size,0,none⟩ 1 1 [.int .u16 (IntKind.u16.wrap (markN q (nn q+p)))] rfl (by omega) rfl (new_one _ _ _) (by intro u hu;simp at hu;subst hu;rfl) (by omega) (by omega) ?_;intro v' w6 hr6 ha6))
       have hal:=(Below.refl wr.heap.size wr).alloc (Nat.le_refl _) (.cells #[.int .u16 (IntKind.u16.wrap (markN q (nn q+p)))] 105 (0,0))
       have hNr:N<=wr.heap.size:=Nat.le_trans hN hf5.size
       have hγo:=(Array.getElem?_eq_some_iff.1 hG).1
       have hof:=hf3.size
       have hgo:∀(j:Nat)(g:Value)(c:Nat),j<q->G[j]? =some g->blkOf g=some c->c<wo.heap.size:=fun j g c hj h1 h2=>hL.blk hj h1 h2
       go_roundw
       case rel=>
        refine⟨p+1,by omega,by go_num,ha6.fr (hf5.alloc hNr _) rfl (Nat.le_trans hNr hal.size) (fun x hx=> ?_),(hS5.below hal).app hv (by omega) (hb5.imp id fun⟨c,h1,h2⟩=>⟨c,h1,fun j y x hj hx=>by have:=hlo j y x hj hx;omega⟩) ha6,
         ha6.ty ((hal.block γ (Array.getElem?_eq_some_iff.1 hG5).1).trans hG5) (by decide),(hL5.below hal).app (hS5.below hal) hv hlo (hb5.imp id fun⟨c,h1,h2⟩=>⟨c,h1,h2,by omega⟩) hgo ha6, ?_, ?_, ?_⟩
        ·rcases hb5 with h|⟨c,h1,h2⟩
         ·exact hS5.lo q _ x hv (by rw[<-h];exact hx)
         ·have:=Option.some.inj (h1.symm.trans hx);omega
        ·rw[show nn q+(p+1)=nn q+p+1 from rfl,marks_succ]
         exact hr6
        ·rcases ha6.blk with h|h
         ·rw[h];exact hb5
         ·exact .inr ⟨_,h,Nat.le_trans hw5 hal.size⟩
        ·exact Nat.le_trans hw5 (Nat.le_trans hal.size ha6.grows)
       case measure=>simp[intOf];omega
      ·have hge:¬(p:Int)<64:=by omega
       obtain rfl:p=64:=by omega
       have hγo:=(Array.getElem?_eq_some_iff.1 hG).1
       have hof:=hf3.size
       have cG:wr.cell? ⟨γ,q,none⟩=some (G.getD q undef):=by
        have:q<G.size:=by omega
        simp[World.cell?,hG5,Array.getD,this]
       have fG:wr.frozen? ⟨γ,q,none⟩=false:=by simp[World.frozen?,hG5]
       obtain⟨ga,gc,rfl,hgc⟩:=hr5.form
       go_wp2
       go_roundw
       case rel=>
        refine⟨q+1,G.setIfInBounds q (.slice ga (nn q+64) gc),by omega,by go_num,hf5.new hN hN1 _,hS5.away fun j v c hj hc=>(hS5.row j v hj).ne hc hG5 (by decide), ?_,by simp[hGs], ?_⟩
        ·rw[setCell_eq_setRow wr γ q G 22 (0,0) _ hG5]
         exact setRow_heap _ _ _ _ _ _ hG5
        ·refine Longer.put (hL5.away fun j g c hj h1 h2=>hL5.nblk hj h1 h2 hG5 (by decide)) (by omega) hv (hr5.keep fun x hx=>Below.heap_setCell wr _ _ x (hr5.ne hx hG5 (by decide))) (hb5.imp id fun⟨c,h1,h2⟩=>⟨c,h1,by omega⟩)
       case measure=>simp[intOf];omega
    ·have hge :¬(q:Int)<(m:Int):=by omega
     have hqm:q=m:=by omega
     subst q
     clear hlt hge hlq
     have hγo:=(Array.getElem?_eq_some_iff.1 hG).1
     go_wp2
     obtain⟨w3,rfl⟩:∃w3:World,w3=wr:=⟨_,rfl⟩
     have hw3:N<=w3.heap.size:=Nat.le_trans hN hf3.size
     have hatB:∀wx,Below w3.heap.size w3 wx->∀k v,vs[k]? =some v->∃l,ao=some ⟨l,0,none⟩/\wx.cell? ⟨l,k,none⟩=some v:=fun wx hb k v hv=>by
      obtain⟨l,lc,e,h1,h2⟩:=hat wx (hf3.below hb hw3) k v hv
      exact⟨l,e,h2⟩
     go_loopw [9] (fun i wr=>∃q:Nat,q<=m/\i= .int .i64 q/\Below w3.heap.size w3 wr) (fun i _=>m-(intOf i).toNat)
     case atStart=>exact⟨0,Nat.zero_le _,rfl,Below.refl _ _⟩
     case round=>
      obtain⟨q,hq,rfl,hb3⟩:=hrel
      by_cases hlq:q<m
      ·have hlq':(q:Int)<(m:Int):=by omega
       obtain⟨g,v,hg,hv,hrg,_⟩:=hL q hlq
       have hrv:=hS4.row q v hv
       obtain⟨va,vc,rfl,hvc⟩:=hrv.form
       obtain⟨ga,gc,rfl,hgc⟩:=hrg.form
       have hn1:=hnn q hlq
       go_wp2
       go_loopw [10] (fun i wr=>∃p:Nat,p<=nn q+64/\i= .int .i64 p/\Below w3.heap.size w3 wr) (fun i _=>nn q+64-(intOf i).toNat)
       case atStart=>exact⟨0,Nat.zero_le _,rfl,hb3⟩
       case round=>
        obtain⟨p,hp,rfl,hb4⟩:=hrel
        have hcG:∀wx,Below w3.heap.size w3 wx->wx.cell? ⟨γ,q,none⟩=some (.slice ga (nn q+64) gc):=fun wx hb=>by
         simp[World.cell?,(hb.block γ hγo).trans hG,hg]
        have cG:=hcG wr hb4
        by_cases hlp:p<nn q+64
        ·have hlp':(p:Int)<(nn q:Int)+64:=by omega
         obtain⟨gx,gc',gcur,e1,_,hgx,_,hgu⟩:=hrg.blk (by omega)
         cases e1
         have hB:∀x:Bw wr,Below w3.heap.size w3 x.v:=fun x=>hb4.trans (x.h.mono hb4.size)
         have p0:∀x:Bw wr,x.v.cell? ⟨γ,q,none⟩=some (.slice (some ⟨gx,0,none⟩) (nn q+64) gc):=fun x=>hcG _ (hB x)
         have p1:∀x:Bw wr,x.v.cell? ⟨gx,p,none⟩=some (.int .u16 (IntKind.u16.wrap (markN q p))):=fun x=>by
          have:=hgu _ _ ((marks_get mL_len (k:=q) (j:=0) hlp (by omega)).trans rfl)
          rw[Nat.mul_one,Nat.add_zero]at this
          simp[World.cell?,((hB x).block gx (Array.getElem?_eq_some_iff.1 hgx).1).trans hgx,this]
         obtain⟨l,rfl,_⟩:=hatB wr hb4 q _ hv
         have p2:∀x:Bw wr,x.v.cell? ⟨l,q,none⟩=some (.slice va (nn q) vc):=fun x=>by
          obtain⟨l',e,h⟩:=hatB _ (hB x) q _ hv
          cases e
          exact h
         have call:∀x:Bw wr,Calls Tryz.prog 106 #[.int .i64 q, .int .i64 p] x.v fun e w'=>e= .returned (.int .i64 (markN q p))/\∃y:Bw wr,w'=y.v:=fun x=>
          calls_bw ((markI q p (by omega) (by omega) _).mono fun e w' hh=>⟨hh.1,by rw[hh.2];exact Below.refl _ _⟩)
         by_cases hpn:p<nn q
         ·have hpn':(p:Int)<(nn q:Int):=by omega
          obtain⟨vx,vc',vcur,e1,_,hvx,_,hvu⟩:=hrv.blk (by omega)
          cases e1
          have p3:∀x:Bw wr,x.v.cell? ⟨vx,p,none⟩=some (.int .u16 (IntKind.u16.wrap (markN q p))):=fun x=>by
           have:=hvu _ _ ((marks_get mL_len (k:=q) (j:=0) hpn (by omega)).trans rfl)
           rw[Nat.mul_one,Nat.add_zero]at this
           simp[World.cell?,((hB x).block vx (Array.getElem?_eq_some_iff.1 hvx).1).trans hvx,this]
          go_wp2_with fail
          refine wp_region_bw (by kernel_rfl) (by kernel_rfl) ?_
          repeat(go_big_quiet_step (exact call _))
          refine wpQuiet_nil ?_
          intro _ hw'
          obtain⟨xb,hw''⟩:=hw'
          subst hw''
          go_wp2
          go_roundw
          case rel=>exact⟨p+1,by omega,by go_num,hB xb⟩
          case measure=>simp[intOf];omega
         ·have hpn':¬(p:Int)<(nn q:Int):=by omega
          go_wp2_with fail
          refine wp_region_bw (by kernel_rfl) (by kernel_rfl) ?_
          repeat(go_big_quiet_step (exact call _))
          refine wpQuiet_nil ?_
          intro _ hw'
          obtain⟨xb,hw''⟩:=hw'
          subst hw''
          go_wp2
          go_roundw
          case rel=>exact⟨p+1,by omega,by go_num,hB xb⟩
          case measure=>simp[intOf];omega
        ·have hge:¬(p:Int)<(nn q:Int)+64:=by omega
         go_wp2
         go_roundw
         case rel=>exact⟨q+1,by omega,by go_num,hb4⟩
         case measure=>simp[intOf];omega
      ·have hge:¬(q:Int)<(m:Int):=by omega
       have hf6:=hf3.below hb3 hw3
       have hS6:=hS4.below hb3
       have hG6:=(hb3.block γ hγo).trans hG
       clear hL hatB hb3 hf3 hS4 hG hγo
       go_wp2
       go_loopw [11] (fun i wr=>∃(q:Nat)(G:Array Value)(X:Nat->List Value),q<=m/\i= .int .i64 q/\Fr N (· =105) w wr/\Slices wr 105 1 N vs nn (fun j=>marks mL j (nn j))/\wr.heap[γ]? =some (.cells G 22 (0,0))/\G.size=m/\Longer wr 105 1 γ vs G q (fun j=>nn j+64) X/\∀j,j<q->(X j).take (nn j*1)=marks mL j (nn j)) (fun i _=>m-(intOf i).toNat)
       case atStart=>exact⟨0,G,fun _=>[],Nat.zero_le _,rfl,hf6,hS6,hG6,hGs,fun j hj=>by omega,fun j hj=>by omega⟩
       case round=>
        obtain⟨q,G,X,hq,rfl,hf7,hS7,hG7,hGs7,hL7,hX7⟩:=hrel
        by_cases hlq:q<m
        ·have hlq':(q:Int)<(m:Int):=by omega
         obtain⟨v,hv⟩:=vget q hlq
         have hn1:=hnn q hlq
         have hNr:N<=wr.heap.size:=Nat.le_trans hN hf7.size
         have hγ7:=(Array.getElem?_eq_some_iff.1 hG7).1
         go_wp2_with (at_make;refine wpList_make_full _ rfl _ _ 22 rfl wr.heap.size 105 iU (.int .u16 0) 1 Tryz.underlying22 hiU hzU hsU _ _ _ _ 64 rfl rfl rfl rfl ?b2 ?b3 (Nat.le_refl _) ?_)
         case b2=>omega
         case b3=>unfold maxLen;omega
         intro w8 hown8 hgrow8
         obtain⟨hle8,cur8,hc8,hcs8,hcx8⟩:=made_row hown8
         have hb8:Below wr.heap.size wr w8:=⟨hgrow8.os,hgrow8.tape,hgrow8.output,hgrow8.size,fun x hx=>hgrow8.block x hx (by simp)⟩
         have hone8:∀u∈cur8.toList,u.oneCell'=true:=by rw[hcx8];exact made_one _ _ (by decide) (by decide)
         have hf8:=hf7.below hb8 hNr
         have hS8:=hS7.below hb8
         have hG8:=(hb8.block γ hγ7).trans hG7
         have hL8:=hL7.below hb8
         have hgo:∀(j:Nat)(g:Value)(c:Nat),j<q->G[j]? =some g->blkOf g=some c->c<wr.heap.size:=fun j g c hj h1 h2=>hL7.blk hj h1 h2
         have hwN:w.heap.size<=wr.heap.size:=hf7.size
         obtain⟨μ,hμ⟩:∃μ,μ=wr.heap.size:=⟨_,rfl⟩
         rw[<-hμ]at hc8 hgo hwN hNr hγ7⊢
         clear hown8 hgrow8 hb8 hf7 hS7 hG7 hL7 hle8 hμ
         go_wp2
         go_loopw [13] (fun i wr=>∃(p:Nat)(cur:Array Value),p<=64/\i= .int .i64 p/\Fr N (· =105) w wr/\Slices wr 105 1 N vs nn (fun j=>marks mL j (nn j))/\wr.heap[γ]? =some (.cells G 22 (0,0))/\Longer wr 105 1 γ vs G q (fun j=>nn j+64) X/\
          wr.heap[μ]? =some (.cells cur 105 (0,0))/\cur.size=64/\∀u∈cur.toList,u.oneCell'=true) (fun i _=>64-(intOf i).toNat)
         case atStart=>exact⟨0,cur8,by omega,rfl,hf8,hS8,hG8,hL8,hc8,by omega,hone8⟩
         case round=>
          obtain⟨p,cur,hp,rfl,hf9,hS9,hG9,hL9,hc9,hcs9,hone9⟩:=hrel
          by_cases hlp:p<64
          ·have hlp':(p:Int)<64:=by omega
           have cM:wr.cell? ⟨μ,p,none⟩=some (cur.getD p undef):=by
            have:p<cur.size:=by omega
            simp[World.cell?,hc9,Array.getD,this]
           have fM:wr.frozen? ⟨μ,p,none⟩=false:=by simp[World.frozen?,hc9]
           go_wp2_with (go_at_call 106;refine(markJ (q+m) p (by omega) rfl (by omega) (by omega) _).mono ?_;rintro e wy ⟨rfl,hy⟩;subst wy)
           go_roundw
           case rel=>
            exact⟨p+1,_,by omega,by go_num,hf9.new hN hwN _,hS9.away fun j v c hj hc=>by have:=hlo j v c hj hc;show c≠μ;omega,heap_away hG9 (by show γ≠μ;omega),hL9.away fun j g c hj h1 h2=>by have:=hgo j g c hj h1 h2;show c≠μ;omega,heap_at hc9,by simp[hcs9],one_set hone9 _ rfl⟩
           case measure=>simp[intOf];omega
          ·have hge:¬(p:Int)<64:=by omega
           obtain⟨l,lc,rfl,hl,c0⟩:=hat wr hf9 q v hv
           have hrv:=hS9.row q v hv
           obtain⟨va,vc,rfl,hvc⟩:=hrv.form
           go_wp2_with (at_builtin;refine wpList_app _ rfl (.tmp 153) (.tmp 154) 22 rfl 105 iU (.int .u16 0) 1 2 Tryz.underlying22 hiU hzU hsU hbU rfl (by omega) _ (nn q) _ rfl hrv ⟨μ,0,none⟩ 64 64 cur.toList rfl (by omega) (by simp[hcs9]) (row_news hc9) hone9 (by omega) (by omega) ?_;intro v' w9 hr9 ha9;obtain⟨ga,gc,rfl,hgc⟩:=hr9.form;have hGx:=ha9.ty hG9 (by decide);obtain⟨cG,fG⟩:=held_cell (q:=q) hGx (by omega))
           go_roundw
           case rel=>
            have hS10:=hS9.app hv (Nat.le_refl _) (.inl rfl) ha9
            have hL10:=hL9.app (Nk:=μ) hS9 hv hlo (.inl rfl) hgo ha9
            have hb10:blkOf (.slice ga (nn q+64) gc)=blkOf (.slice va (nn q) vc)\/∃c,blkOf (.slice ga (nn q+64) gc)=some c/\γ<=c:=ha9.blk.imp id fun h=>⟨_,h,by have:=(Array.getElem?_eq_some_iff.1 hG9).1;omega⟩
            refine⟨q+1,G.setIfInBounds q (.slice ga (nn q+64) gc),upd X q (marks mL q (nn q)++cur.toList),by omega,by go_num,(ha9.fr hf9 rfl (Nat.le_trans hN hf9.size) fun x hx=>hS9.lo q _ x hv hx).new hN hN1 _,hS10.away fun j v c hj hc=>(hS10.row j v hj).ne hc hGx (by decide),heap_at hGx,by simp[hGs7], ?_,fun j hj=> ?_⟩
            ·refine Longer.put ((hL10.congr fun j hj=>upd_ne X _ (by omega)).away fun j g c hj h1 h2=>hL10.nblk hj h1 h2 hGx (by decide)) (by omega) hv ?_ hb10
             rw[upd_at]
             exact hr9.keep fun x hx=>Below.heap_setCell w9 _ _ x (hr9.ne hx hGx (by decide))
            ·by_cases e:j=q
             ·subst e
              rw[upd_at]
              exact List.take_left' (marks_len mL_len _ _)
             ·rw[upd_ne X _ e]
              exact hX7 j (by omega)
           case measure=>simp[intOf];omega
        ·have hge:¬(q:Int)<(m:Int):=by omega
         have hqm:q=m:=by omega
         subst q
         clear hge hlq
         have hγo:=(Array.getElem?_eq_some_iff.1 hG7).1
         go_wp2
         obtain⟨w3,rfl⟩:∃w3:World,w3=wr:=⟨_,rfl⟩
         have hw3:N<=w3.heap.size:=Nat.le_trans hN hf7.size
         have hatB:∀wx,Below w3.heap.size w3 wx->∀k v,vs[k]? =some v->∃l,ao=some ⟨l,0,none⟩/\wx.cell? ⟨l,k,none⟩=some v:=fun wx hb k v hv=>by
          obtain⟨l,lc,e,h1,h2⟩:=hat wx (hf7.below hb hw3) k v hv
          exact⟨l,e,h2⟩
         go_loopw [14] (fun i wr=>∃q:Nat,q<=m/\i= .int .i64 q/\Below w3.heap.size w3 wr) (fun i _=>m-(intOf i).toNat)
         case atStart=>exact⟨0,Nat.zero_le _,rfl,Below.refl _ _⟩
         case round=>
          obtain⟨q,hq,rfl,hb3⟩:=hrel
          by_cases hlq:q<m
          ·have hlq':(q:Int)<(m:Int):=by omega
           obtain⟨g,v,hg,hv,hrg,_⟩:=hL7 q hlq
           have hrv:=hS7.row q v hv
           obtain⟨va,vc,rfl,hvc⟩:=hrv.form
           obtain⟨ga,gc,rfl,hgc⟩:=hrg.form
           have hn1:=hnn q hlq
           go_wp2
           go_loopw [15] (fun i wr=>∃p:Nat,p<=nn q/\i= .int .i64 p/\Below w3.heap.size w3 wr) (fun i _=>nn q-(intOf i).toNat)
           case atStart=>exact⟨0,Nat.zero_le _,rfl,hb3⟩
           case round=>
            obtain⟨p,hp,rfl,hb4⟩:=hrel
            obtain⟨l,rfl,cV⟩:=hatB wr hb4 q _ hv
            by_cases hpn:p<nn q
            ·have hpn':(p:Int)<(nn q:Int):=by omega
             have hpn2:(p:Int)<(nn q:Int)+64:=by omega
             obtain⟨gx,gc',gcur,e1,_,hgx,_,hgu⟩:=hrg.blk (by omega)
             cases e1
             obtain⟨vx,vc',vcur,e1,_,hvx,_,hvu⟩:=hrv.blk (by omega)
             cases e1
             have hB:∀x:Bw wr,Below w3.heap.size w3 x.v:=fun x=>hb4.trans (x.h.mono hb4.size)
             have p0:∀x:Bw wr,x.v.cell? ⟨γ,q,none⟩=some (.slice (some ⟨gx,0,none⟩) (nn q+64) gc):=fun x=>by simp[World.cell?,((hB x).block γ hγo).trans hG7,hg]
             have hmk:=(marks_get mL_len (k:=q) (j:=0) hpn (by omega)).trans (show(mL q p)[0]? =some (.int .u16 (IntKind.u16.wrap (markN q p)))from rfl)
             have p1:∀x:Bw wr,x.v.cell? ⟨gx,p,none⟩=some (.int .u16 (IntKind.u16.wrap (markN q p))):=fun x=>by
              have:=hgu _ _ (take_get (hX7 q hlq) hmk)
              rw[Nat.mul_one,Nat.add_zero]at this
              simp[World.cell?,((hB x).block gx (Array.getElem?_eq_some_iff.1 hgx).1).trans hgx,this]
             have p2:∀x:Bw wr,x.v.cell? ⟨l,q,none⟩=some (.slice (some ⟨vx,0,none⟩) (nn q) vc):=fun x=>by
              obtain⟨l',e,h⟩:=hatB _ (hB x) q _ hv
              cases e
              exact h
             have p3:∀x:Bw wr,x.v.cell? ⟨vx,p,none⟩=some (.int .u16 (IntKind.u16.wrap (markN q p))):=fun x=>by
              have:=hvu _ _ hmk
              rw[Nat.mul_one,Nat.add_zero]at this
              simp[World.cell?,((hB x).block vx (Array.getElem?_eq_some_iff.1 hvx).1).trans hvx,this]
             have call:∀x:Bw wr,Calls Tryz.prog 106 #[.int .i64 q, .int .i64 p] x.v fun e w'=>e= .returned (.int .i64 (markN q p))/\∃y:Bw wr,w'=y.v:=fun x=>
              calls_bw ((markI q p (by omega) (by omega) _).mono fun e w' hh=>⟨hh.1,by rw[hh.2];exact Below.refl _ _⟩)
             go_wp2_with fail
             refine wp_region_bw (by kernel_rfl) (by kernel_rfl) ?_
             repeat(go_big_quiet_step (exact call _))
             refine wpQuiet_nil ?_
             intro _ hw'
             obtain⟨xb,hw''⟩:=hw'
             subst hw''
             go_wp2
             go_roundw
             case rel=>exact⟨p+1,by omega,by go_num,hB xb⟩
             case measure=>simp[intOf];omega
            ·have hge:¬(p:Int)<(nn q:Int):=by omega
             go_wp2
             go_roundw
             case rel=>exact⟨q+1,by omega,by go_num,hb4⟩
             case measure=>simp[intOf];omega
          ·have hge:¬(q:Int)<(m:Int):=by omega
           go_wp2
           go_ret
           exact⟨rfl,hf7.below hb3 hw3⟩
end Go.Sx.Apart
