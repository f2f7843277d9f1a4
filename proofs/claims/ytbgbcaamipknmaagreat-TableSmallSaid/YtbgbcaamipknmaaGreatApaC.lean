/-
 Slices of rows that lie apart: what is asked of them is true. Conditions: as typed.
-/
import Derived.Test.YtbgbcaamipknmaaGreatApaB
import Derived.Test.YtbgbcaamipknmaaGreatLentA
set_option linter.unusedVariables false
set_option linter.unusedSimpArgs false
namespace Go.Sx.Apart
open Go Go.Proofs Go.RowKit Go.Lib Go.Sx Go.Sx.Lent
theorem undrew{w w1:World}(h:Below w.drew.heap.size w.drew w1):Below w.heap.size w w1:=⟨h.os,h.tape,h.output,h.size,h.block⟩
theorem _root_.Go.Sx.GlobOk.drew'{P:Program}{w:World}(h:GlobOk P w)(w':World)(e:w'.heap=w.heap):GlobOk P w':=fun g r hg i x hi=>by
 have:=h g r hg i x hi
 unfold World.cell? at this⊢
 rw[e]
 exact this
def mR(k i:Nat):List Value:=[.int .i64 (markN k i), .int .i64 0, .int .i64 0, .bool false, .slice none 0 0, .bool false, .slice none 0 0]
theorem infoTS:∃i:TypeInfo,Tryz.prog.info? 30=some i/\i.zero=some (.slice none 0 0)/\i.size=1/\i.bytes=24:=⟨Tryz.t30,by kernel_rfl,by kernel_rfl,by kernel_rfl,by kernel_rfl⟩
theorem markR(k i:Nat){y x:Int}(hy:y=(k:Int))(hx:x=(i:Int))(hk:k<=1000)(hi:i<=100000000)(w:World):Calls Tryz.prog 63 #[.int .i64 y, .int .i64 x] w fun e w'=>e= .returned (.agg #[.int .i64 (markN k i), .int .i64 0, .int .i64 0, .bool false, .slice none 0 0, .bool false, .slice none 0 0])/\Below w.heap.size w w':=by
 subst hx hy
 exact markRow k i (by omega) (by omega) w
theorem mR_len(k i:Nat):(mR k i).length=7:=rfl
theorem mR_one(k i:Nat):∀u∈mR k i,u.oneCell'=true:=by
 intro u hu
 simp only[mR,List.mem_cons,List.not_mem_nil,or_false]at hu
 rcases hu with rfl|rfl|rfl|rfl|rfl|rfl|rfl<;>rfl
theorem mR_cells{w:World}{g q:Nat}{cur:Array Value}{e:TypeId}(h:w.heap[g]? =some (.cells cur e (0,0)))(hq:q*7+7<=cur.size):(w.cell? ⟨g,q*7,none⟩=some (cur.getD (q*7) undef)/\w.cell? ⟨g,q*7+1,none⟩=some (cur.getD (q*7+1) undef)/\w.cell? ⟨g,q*7+2,none⟩=some (cur.getD (q*7+2) undef)/\w.cell? ⟨g,q*7+3,none⟩=some (cur.getD (q*7+3) undef)/\w.cell? ⟨g,q*7+4,none⟩=some (cur.getD (q*7+4) undef)/\w.cell? ⟨g,q*7+5,none⟩=some (cur.getD (q*7+5) undef)/\w.cell? ⟨g,q*7+6,none⟩=some (cur.getD (q*7+6) undef))/\∀j,w.frozen? ⟨g,j,none⟩=false:=
 ⟨⟨(held_cell h (by omega)).1,(held_cell h (by omega)).1,(held_cell h (by omega)).1,(held_cell h (by omega)).1,(held_cell h (by omega)).1,(held_cell h (by omega)).1,(held_cell h (by omega)).1⟩,fun j=>by simp[World.frozen?,h]⟩
set_option maxHeartbeats 16000000 in
set_option maxRecDepth 100000 in
theorem flatRows(SM:Sames){w:World}{N m cap:Nat}{ao:Option Addr}{vs:List Value}{nn:Nat->Nat}{S0:Nat->List Value}(hgl:GlobOk Tryz.prog w)(hN:N<=w.heap.size)(hglN:∀wx,Below N w wx->GlobOk Tryz.prog wx)(hh:Held w 30 ao m vs)(hs:Slices w 28 7 N vs nn S0)(hm:m<=400)(hnn:∀k,k<m->nn k<=1000000):
  Calls Tryz.prog 80 #[.slice ao m cap] w fun e w'=>e= .returned (.bool true)/\Fr N (· =28) w w':=by
 obtain⟨iU,hiU,hsU,hbU,hzU⟩:=infoR
 obtain⟨iL,hiL,hzL,hsL,hbL⟩:=infoTS
 have vsm:vs.length=m:=hh.1
 have vget:∀k,k<m->∃v,vs[k]? =some v:=fun k hk=>⟨vs[k]'(by omega),List.getElem?_eq_getElem _⟩
 have vlt:∀{k v},vs[k]? =some v->k<m:=fun{k v} h=>by have:=(List.getElem?_eq_some_iff.1 h).1;omega
 have hat:∀wx,Fr N (· =28) w wx->∀k v,vs[k]? =some v->∃l lc,ao=some ⟨l,0,none⟩/\wx.heap[l]? =some (.cells lc 30 (0,0))/\wx.cell? ⟨l,k,none⟩=some v:=fun wx hf k v hv=>by
  have h:=hh.fr hf (by decide)
  obtain⟨h1,h2|⟨l,lc,e,h2,h3⟩⟩:=id h
  ·have:=vlt hv;omega
  ·exact⟨l,lc,e,h2,by simp[World.cell?,h2,h3 k v hv]⟩
 have marked:=fun k i{y x:Int}(hy:y=((k:Nat):Int))(hx:x=((i:Nat):Int))(hk:k<=1000)(hi:i<=100000000) wx(hf:GlobOk Tryz.prog wx)=>markR k i hy hx hk hi wx
 go_enter Tryz.func80,Tryz.ntmps80
 go_wp2
 go_loopw [3] (fun i wr=>∃(k:Nat)(S:Nat->List Value),k<=m/\i= .int .i64 k/\Fr N (· =28) w wr/\Slices wr 28 7 N vs nn S/\∀j,j<k->S j=marks mR j (nn j)) (fun i _=>m-(intOf i).toNat)
 case atStart=>exact⟨0,S0,Nat.zero_le _,rfl,Fr.refl _ _ _,hs,fun j hj=>by omega⟩
 case round =>
  obtain⟨k,S,hk,rfl,hf,hS,hd⟩:=hrel
  by_cases hlt:k<m
  ·have hlt':(k:Int)<(m:Int):=by omega
   obtain⟨v,hv⟩:=vget k hlt
   obtain⟨l,lc,rfl,hl,c0⟩:=hat wr hf k v hv
   obtain⟨va,vc,rfl,hvc⟩:=(hS.row k v hv).form
   go_wp2
   obtain⟨wo,rfl⟩:∃wo:World,wo=wr:=⟨_,rfl⟩
   go_loopw [4] (fun i wr=>∃(q:Nat)(S:Nat->List Value),q<=nn k/\i= .int .i64 q/\Fr N (· =28) w wr/\Slices wr 28 7 N vs nn S/\(∀j,j<k->S j=marks mR j (nn j))/\(S k).take (q*7)=marks mR k q) (fun i _=>nn k-(intOf i).toNat)
   case atStart=>exact⟨0,S,Nat.zero_le _,rfl,hf,hS,hd,by simp[marks]⟩
   case round=>
    obtain⟨q,S1,hq,rfl,hf1,hS1,hd1,ht1⟩:=hrel
    obtain⟨l2,lc2,he2,hl2,c1⟩:=hat wr hf1 k _ hv
    cases he2
    by_cases hlq:q<nn k
    ·have hlq':(q:Int)<(nn k:Int):=by omega
     obtain⟨g,cap',cur,hvg,hbg,hgc,hgs,hgx⟩:=(hS1.row k _ hv).blk (by omega)
     cases hvg
     have hn1:=hnn k hlt
     have hNr:N<=wr.heap.size:=Nat.le_trans hN hf1.size
     have hgl1:=hglN wr hf1.bl
     have key:∀w1,Below wr.heap.size wr w1->∃(q':Nat)(S:Nat->List Value),q'<=nn k/\Value.int .i64 ((q:Int)+1)= .int .i64 q'/\Fr N (· =28) w (putCells w1 g (q*7) (mR k q))/\Slices (putCells w1 g (q*7) (mR k q)) 28 7 N vs nn S/\(∀j,j<k->S j=marks mR j (nn j))/\(S k).take (q'*7)=marks mR k q':=fun w1 hb1=>by
      refine⟨q+1,upd S1 k (setMany (S1 k) (q*7) (mR k q)),by omega,by go_num,Fr.puts (E:=(· =28)) rfl (hS1.lo k _ g hv hbg) _ (hf1.below hb1 hNr) ((hb1.block g (Array.getElem?_eq_some_iff.1 hgc).1).trans hgc),Slices.puts hv hbg _ (hS1.below hb1),fun j hj=>by rw[upd_ne _ _ (by omega)];exact hd1 j hj, ?_⟩
      rw[upd_at]
      exact marks_store mR_len ht1 (by rw[(hS1.row k _ hv).1];omega)
     go_wp2
     go_region_with (first|(go_at_call 63;refine(marked k q rfl rfl (by omega) (by omega) wr.drew (hgl1.drew' wr.drew rfl)).mono ?_;rintro e w1 ⟨rfl,hb1⟩;have hb1:=undrew hb1;have c2:=(hb1.cell (cell_lt c1)).trans c1;have hc1:=(hb1.block g (Array.getElem?_eq_some_iff.1 hgc).1).trans hgc;obtain⟨⟨s0,s1,s2,s3,s4,s5,s6⟩,fz⟩:=mR_cells (q:=q) hc1 (by omega)))
     all_goals go_wp2
     all_goals go_roundw
     all_goals first|exact key _ hb1|(simp[intOf];omega)
    ·have hge:¬(q:Int)<(nn k:Int):=by omega
     obtain rfl:q=nn k:=by omega
     go_wp2
     go_roundw
     case rel=>
      refine⟨k+1,S1,by omega,by go_num,hf1,hS1,fun j hj=> ?_⟩
      by_cases e:j=k
      ·subst e
       exact hS1.full hv ht1
      ·exact hd1 j (by omega)
     case measure=>simp[intOf];omega
  ·have hge : ¬(k:Int)<(m:Int):=by omega
   have hkm:k=m:=by omega
   subst k
   have hS2:Slices wr 28 7 N vs nn (fun j=>marks mR j (nn j)):=hS.step fun j v hv=>by rw[<-hd j (vlt hv)];exact hS.row j v hv
   clear hd hS hs
   have hN1:=hf.size
   go_wp2_with (at_make;refine wpList_make_full _ rfl _ _ 83 rfl wr.heap.size 30 iL (.slice none 0 0) 1 Tryz.underlying83 hiL hzL hsL _ _ _ _ m rfl rfl rfl rfl ?b2 ?b3 (Nat.le_refl _) ?_)
   case b2=>omega
   case b3=>unfold maxLen;omega
   intro w2 hown2 hgrow2
   obtain⟨_,G2,hG2,hGs2,_⟩:=made_row hown2
   have hb2:Below wr.heap.size wr w2:=⟨hgrow2.os,hgrow2.tape,hgrow2.output,hgrow2.size,fun x hx=>hgrow2.block x hx (by simp)⟩
   have hlo:∀(j:Nat)(v:Value)(c:Nat),vs[j]? =some v->blkOf v=some c->c<wr.heap.size:=fun j v c hj hc=>(hS2.row j v hj).lt hc
   have hf2:=hf.below hb2 (by omega)
   have hS3:=hS2.below hb2
   obtain⟨γ,hγ⟩:∃γ,γ=wr.heap.size:=⟨_,rfl⟩
   rw[<-hγ]at hG2 hlo hN1⊢
   clear hown2 hgrow2 hb2 hS2 hf hγ
   go_wp2
   go_loopw [6] (fun i wr=>∃(q:Nat)(G:Array Value),q<=m/\i= .int .i64 q/\Fr N (· =28) w wr/\Slices wr 28 7 N vs nn (fun j=>marks mR j (nn j))/\wr.heap[γ]? =some (.cells G 30 (0,0))/\G.size=m/\Longer wr 28 7 γ vs G q (fun j=>nn j+64) (fun j=>marks mR j (nn j+64))) (fun i _=>m-(intOf i).toNat)
   case atStart=>exact⟨0,G2,Nat.zero_le _,rfl,hf2,hS3,hG2,by omega,fun j hj=>by omega⟩
   case round =>
    obtain⟨q,G,hq,rfl,hf3,hS4,hG,hGs,hL⟩:=hrel
    by_cases hlq:q<m
    ·have hlq':(q:Int)<(m:Int):=by omega
     obtain⟨v,hv⟩:=vget q hlq
     obtain⟨l,lc,rfl,hl,c0⟩:=hat wr hf3 q v hv
     have hn1:=hnn q hlq
     have hrv:=hS4.row q v hv
     obtain⟨va,vc,rfl,hvc⟩:=hrv.form
     go_wp2
     obtain⟨wo,rfl⟩:∃wo:World,wo=wr:=⟨_,rfl⟩
     go_loopw [7,8] (fun g i wr=>∃p:Nat,p<=64/\i= .int .i64 p/\Fr N (· =28) w wr/\Slices wr 28 7 N vs nn (fun j=>marks mR j (nn j))/\wr.heap[γ]? =some (.cells G 30 (0,0))/\Longer wr 28 7 γ vs G q (fun j=>nn j+64) (fun j=>marks mR j (nn j+64))/\
      Row wr 28 7 g (nn q+p) (marks mR q (nn q+p))/\(blkOf g=blkOf (.slice va (nn q) vc)\/∃c,blkOf g=some c/\wo.heap.size<=c)/\wo.heap.size<=wr.heap.size) (fun _ i _=>64-(intOf i).toNat)
     case atStart=>exact⟨0,by omega,rfl,hf3,hS4,hG,hL,hrv, .inl rfl,Nat.le_refl _⟩
     case round=>
      obtain⟨p,hp,rfl,hf5,hS5,hG5,hL5,hr5,hb5,hw5⟩:=hrel
      by_cases hlp:p<64
      ·have hlp':(p:Int)<64:=by omega
       obtain⟨l2,lc2,he2,hl2,c1⟩:=hat wr hf5 q _ hv
       cases he2
       have hgl5:=hglN wr hf5.bl
       go_wp2_with (first
        |(go_at_call 63;refine(marked q (nn q+p) rfl (by omega) (by omega) (by omega) _ hgl5).mono ?_;rintro e w1 ⟨rfl,hb1⟩)
        |(at_builtin;refine wpList_app _ rfl (.tmp 57) (.tmp 67) 30 rfl 28 iU (.agg #[.int .i64 0, .int .i64 0, .int .i64 0, .bool false, .slice none 0 0, .bool false, .slice none 0 0]) 7 88 Tryz.underlying30 hiU hzU hsU hbU rfl (by omega) _ (nn q+p) _ rfl (hr5.below (hb1.alloc hb1.size _)) ⟨w1.heap.size,0,none⟩ 1 1 (mR q (nn q+p)) rfl (by omega) rfl (new_cells _ rfl) (mR_one _ _) (by omega) (by omega) ?_;intro v' w6 hr6 ha6))
       have hal:=hb1.alloc hb1.size (.cells (mR q (nn q+p)).toArray 28 (0,0))
       have hNr:N<=wr.heap.size:=Nat.le_trans hN hf5.size
       have hγo:=(Array.getElem?_eq_some_iff.1 hG).1
       have hof:=hf3.size
       have hgo:∀(j:Nat)(g:Value)(c:Nat),j<q->G[j]? =some g->blkOf g=some c->c<wo.heap.size:=fun j g c hj h1 h2=>hL.blk hj h1 h2
       go_roundw
       case rel=>
        refine⟨p+1,by omega,by go_num,ha6.fr (hf5.below hal hNr) rfl (Nat.le_trans hNr hal.size) (fun x hx=> ?_),(hS5.below hal).app hv (by omega) (hb5.imp id fun⟨c,h1,h2⟩=>⟨c,h1,fun j y x hj hx=>by have:=hlo j y x hj hx;omega⟩) ha6,
         ha6.ty ((hal.block γ (Array.getElem?_eq_some_iff.1 hG5).1).trans hG5) (by decide),(hL5.below hal).app (hS5.below hal) hv hlo (hb5.imp id fun⟨c,h1,h2⟩=>⟨c,h1,h2,by omega⟩) hgo ha6, ?_, ?_, ?_⟩
        ·rcases hb5 with h|⟨c,h1,h2⟩
         ·exact hS5.lo q _ x hv (by rw[<-h];exact hx)
         ·have:=Option.some.inj (h1.symm.trans hx);omega
        ·rw[show nn q+(p+1)=nn q+p+1 from rfl,marks_succ]
         exact hr6
        ·rcases ha6.blk with h|h
         ·rw[h];exact hb5
         ·exact .inr ⟨_,h,Nat.le_trans hw5 hal.size⟩
        ·exact Nat.le_trans hw5 (Nat.le_trans hal.size ha6.grows)
       case measure=>simp[intOf];omega
      ·have hge:¬(p:Int)<64:=by omega
       obtain rfl:p=64:=by omega
       have hγo:=(Array.getElem?_eq_some_iff.1 hG).1
       have hof:=hf3.size
       obtain⟨cG,fG⟩:=held_cell (q:=q) hG5 (by omega)
       obtain⟨ga,gc,rfl,hgc⟩:=hr5.form
       go_wp2
       go_roundw
       case rel=>
        refine⟨q+1,G.setIfInBounds q (.slice ga (nn q+64) gc),by omega,by go_num,hf5.new hN hN1 _,hS5.away fun j v c hj hc=>(hS5.row j v hj).ne hc hG5 (by decide),heap_at hG5,by simp[hGs], ?_⟩
        exact Longer.put (hL5.away fun j g c hj h1 h2=>hL5.nblk hj h1 h2 hG5 (by decide)) (by omega) hv (hr5.keep fun x hx=>Below.heap_setCell wr _ _ x (hr5.ne hx hG5 (by decide))) (hb5.imp id fun⟨c,h1,h2⟩=>⟨c,h1,by omega⟩)
       case measure=>simp[intOf];omega
    ·have hge :¬(q:Int)<(m:Int):=by omega
     have hqm:q=m:=by omega
     subst q
     clear hlt hge hlq
     have hγo:=(Array.getElem?_eq_some_iff.1 hG).1
     go_wp2
     obtain⟨w3,rfl⟩:∃w3:World,w3=wr:=⟨_,rfl⟩
     have hw3:N<=w3.heap.size:=Nat.le_trans hN hf3.size
     have hatB:∀wx,Below w3.heap.size w3 wx->∀k v,vs[k]? =some v->∃l,ao=some ⟨l,0,none⟩/\wx.cell? ⟨l,k,none⟩=some v:=fun wx hb k v hv=>by
      obtain⟨l,lc,e,h1,h2⟩:=hat wx (hf3.below hb hw3) k v hv
      exact⟨l,e,h2⟩
     go_loopw [9] (fun i wr=>∃q:Nat,q<=m/\i= .int .i64 q/\Below w3.heap.size w3 wr) (fun i _=>m-(intOf i).toNat)
     case atStart=>exact⟨0,Nat.zero_le _,rfl,Below.refl _ _⟩
     case round=>
      obtain⟨q,hq,rfl,hb3⟩:=hrel
      by_cases hlq:q<m
      ·have hlq':(q:Int)<(m:Int):=by omega
       obtain⟨g,v,hg,hv,hrg,_⟩:=hL q hlq
       have hrv:=hS4.row q v hv
       obtain⟨va,vc,rfl,hvc⟩:=hrv.form
       obtain⟨ga,gc,rfl,hgc⟩:=hrg.form
       have hn1:=hnn q hlq
       go_wp2
       go_loopw [10] (fun i wr=>∃p:Nat,p<=nn q+64/\i= .int .i64 p/\Below w3.heap.size w3 wr) (fun i _=>nn q+64-(intOf i).toNat)
       case atStart=>exact⟨0,Nat.zero_le _,rfl,hb3⟩
       case round=>
        obtain⟨p,hp,rfl,hb4⟩:=hrel
        have hcG:∀wx,Below w3.heap.size w3 wx->wx.cell? ⟨γ,q,none⟩=some (.slice ga (nn q+64) gc):=fun wx hb=>by
         simp[World.cell?,(hb.block γ hγo).trans hG,hg]
        have cG:=hcG wr hb4
        by_cases hlp:p<nn q+64
        ·have hlp':(p:Int)<(nn q:Int)+64:=by omega
         obtain⟨gx,gc',gcur,e1,_,hgx,_,hgu⟩:=hrg.blk (by omega)
         cases e1
         have hB:∀x:Bw wr,Below w3.heap.size w3 x.v:=fun x=>hb4.trans (x.h.mono hb4.size)
         have p0:∀x:Bw wr,x.v.cell? ⟨γ,q,none⟩=some (.slice (some ⟨gx,0,none⟩) (nn q+64) gc):=fun x=>hcG _ (hB x)
         have hge1:∀j u,(mR q p)[j]? =some u->∀x:Bw wr,x.v.cell? ⟨gx,p*7+j,none⟩=some u:=fun j u hj x=>by
          have:=hgu _ _ ((marks_get mR_len (k:=q) (j:=j) hlp (List.getElem?_eq_some_iff.1 hj).1).trans hj)
          simp[World.cell?,((hB x).block gx (Array.getElem?_eq_some_iff.1 hgx).1).trans hgx,this]
         have a0:∀x:Bw wr,x.v.cell? ⟨gx,p*7,none⟩=some (.int .i64 (markN q p)):=hge1 0 _ rfl
         have a1:∀x:Bw wr,x.v.cell? ⟨gx,p*7+1,none⟩=some (.int .i64 0):=hge1 1 _ rfl
         have a2:∀x:Bw wr,x.v.cell? ⟨gx,p*7+2,none⟩=some (.int .i64 0):=hge1 2 _ rfl
         have a3:∀x:Bw wr,x.v.cell? ⟨gx,p*7+3,none⟩=some (.bool false):=hge1 3 _ rfl
         have a4:∀x:Bw wr,x.v.cell? ⟨gx,p*7+4,none⟩=some (.slice none 0 0):=hge1 4 _ rfl
         have a5:∀x:Bw wr,x.v.cell? ⟨gx,p*7+5,none⟩=some (.bool false):=hge1 5 _ rfl
         have a6:∀x:Bw wr,x.v.cell? ⟨gx,p*7+6,none⟩=some (.slice none 0 0):=hge1 6 _ rfl
         obtain⟨l,rfl,_⟩:=hatB wr hb4 q _ hv
         have p2:∀x:Bw wr,x.v.cell? ⟨l,q,none⟩=some (.slice va (nn q) vc):=fun x=>by
          obtain⟨l',e,h⟩:=hatB _ (hB x) q _ hv
          cases e
          exact h
         have hglx:∀x:Bw wr,GlobOk Tryz.prog x.v:=fun x=>hglN _ (hf3.below (hB x) hw3).bl
         have callM:∀x:Bw wr,Calls Tryz.prog 63 #[.int .i64 q, .int .i64 p] x.v fun e w'=>e= .returned (.agg #[.int .i64 (markN q p), .int .i64 0, .int .i64 0, .bool false, .slice none 0 0, .bool false, .slice none 0 0])/\∃y:Bw wr,w'=y.v:=fun x=>calls_bw (marked q p rfl rfl (by omega) (by omega) _ (hglx x))
         have callS:∀x:Bw wr,Calls Tryz.prog 59 #[(.agg #[.int .i64 (markN q p), .int .i64 0, .int .i64 0, .bool false, .slice none 0 0, .bool false, .slice none 0 0]),(.agg #[.int .i64 (markN q p), .int .i64 0, .int .i64 0, .bool false, .slice none 0 0, .bool false, .slice none 0 0])] x.v fun e w'=>e= .returned (.bool true)/\∃y:Bw wr,w'=y.v:=fun x=>calls_bw (SM.row (m1:=0) (m2:=0) (g1:=fun _ _=> .int 0) (g2:=fun _ _=> .int 0) (hglx x) (i64_small (by unfold markN;omega) (by unfold markN;omega)) (i64_small (by omega) (by omega)) (i64_small (by omega) (by omega)) rd_nil rd_nil rd_nil rd_nil)
         clear hge1
         by_cases hpn:p<nn q
         ·have hpn':(p:Int)<(nn q:Int):=by omega
          obtain⟨vx,vc',vcur,e1,_,hvx,_,hvu⟩:=hrv.blk (by omega)
          cases e1
          have hge1:∀j u,(mR q p)[j]? =some u->∀x:Bw wr,x.v.cell? ⟨vx,p*7+j,none⟩=some u:=fun j u hj x=>by
           have:=hvu _ _ ((marks_get mR_len (k:=q) (j:=j) hpn (List.getElem?_eq_some_iff.1 hj).1).trans hj)
           simp[World.cell?,((hB x).block vx (Array.getElem?_eq_some_iff.1 hvx).1).trans hvx,this]
          have b0:∀x:Bw wr,x.v.cell? ⟨vx,p*7,none⟩=some (.int .i64 (markN q p)):=hge1 0 _ rfl
          have b1:∀x:Bw wr,x.v.cell? ⟨vx,p*7+1,none⟩=some (.int .i64 0):=hge1 1 _ rfl
          have b2:∀x:Bw wr,x.v.cell? ⟨vx,p*7+2,none⟩=some (.int .i64 0):=hge1 2 _ rfl
          have b3:∀x:Bw wr,x.v.cell? ⟨vx,p*7+3,none⟩=some (.bool false):=hge1 3 _ rfl
          have b4:∀x:Bw wr,x.v.cell? ⟨vx,p*7+4,none⟩=some (.slice none 0 0):=hge1 4 _ rfl
          have b5:∀x:Bw wr,x.v.cell? ⟨vx,p*7+5,none⟩=some (.bool false):=hge1 5 _ rfl
          have b6:∀x:Bw wr,x.v.cell? ⟨vx,p*7+6,none⟩=some (.slice none 0 0):=hge1 6 _ rfl
          clear hge1
          go_wp2_with fail
          refine wp_region_bw (by kernel_rfl) (by kernel_rfl) ?_
          repeat(go_big_quiet_step (first|exact callM _|exact callS _))
          refine wpQuiet_nil ?_
          intro _ hw'
          obtain⟨xb,hw''⟩:=hw'
          subst hw''
          go_wp2
          go_roundw
          case rel=>exact⟨p+1,by omega,by go_num,hB xb⟩
          case measure=>simp[intOf];omega
         ·have hpn':¬(p:Int)<(nn q:Int):=by omega
          go_wp2_with fail
          refine wp_region_bw (by kernel_rfl) (by kernel_rfl) ?_
          repeat(go_big_quiet_step (first|exact callM _|exact callS _))
          refine wpQuiet_nil ?_
          intro _ hw'
          obtain⟨xb,hw''⟩:=hw'
          subst hw''
          go_wp2
          go_roundw
          case rel=>exact⟨p+1,by omega,by go_num,hB xb⟩
          case measure=>simp[intOf];omega
        ·have hge:¬(p:Int)<(nn q:Int)+64:=by omega
         go_wp2
         go_roundw
         case rel=>exact⟨q+1,by omega,by go_num,hb4⟩
         case measure=>simp[intOf];omega
      ·have hge:¬(q:Int)<(m:Int):=by omega
       have hf6:=hf3.below hb3 hw3
       have hS6:=hS4.below hb3
       have hG6:=(hb3.block γ hγo).trans hG
       clear hL hatB hb3 hf3 hS4 hG hγo
       go_wp2
       go_loopw [11] (fun i wr=>∃(q:Nat)(G:Array Value)(X:Nat->List Value),q<=m/\i= .int .i64 q/\Fr N (· =28) w wr/\Slices wr 28 7 N vs nn (fun j=>marks mR j (nn j))/\wr.heap[γ]? =some (.cells G 30 (0,0))/\G.size=m/\Longer wr 28 7 γ vs G q (fun j=>nn j+64) X/\∀j,j<q->(X j).take (nn j*7)=marks mR j (nn j)) (fun i _=>m-(intOf i).toNat)
       case atStart=>exact⟨0,G,fun _=>[],Nat.zero_le _,rfl,hf6,hS6,hG6,hGs,fun j hj=>by omega,fun j hj=>by omega⟩
       case round=>
        obtain⟨q,G,X,hq,rfl,hf7,hS7,hG7,hGs7,hL7,hX7⟩:=hrel
        by_cases hlq:q<m
        ·have hlq':(q:Int)<(m:Int):=by omega
         obtain⟨v,hv⟩:=vget q hlq
         have hn1:=hnn q hlq
         have hNr:N<=wr.heap.size:=Nat.le_trans hN hf7.size
         have hγ7:=(Array.getElem?_eq_some_iff.1 hG7).1
         go_wp2_with (at_make;refine wpList_make_full _ rfl _ _ 30 rfl wr.heap.size 28 iU (.agg #[.int .i64 0, .int .i64 0, .int .i64 0, .bool false, .slice none 0 0, .bool false, .slice none 0 0]) 7 Tryz.underlying30 hiU hzU hsU _ _ _ _ 64 rfl rfl rfl rfl ?b2 ?b3 (Nat.le_refl _) ?_)
         case b2=>omega
         case b3=>unfold maxLen;omega
         intro w8 hown8 hgrow8
         obtain⟨hle8,cur8,hc8,hcs8,hcx8⟩:=made_row hown8
         have hb8:Below wr.heap.size wr w8:=⟨hgrow8.os,hgrow8.tape,hgrow8.output,hgrow8.size,fun x hx=>hgrow8.block x hx (by simp)⟩
         have hone8:∀u∈cur8.toList,u.oneCell'=true:=by rw[hcx8];exact made_one _ _ (by decide) (by decide)
         have hf8:=hf7.below hb8 hNr
         have hS8:=hS7.below hb8
         have hG8:=(hb8.block γ hγ7).trans hG7
         have hL8:=hL7.below hb8
         have hgo:∀(j:Nat)(g:Value)(c:Nat),j<q->G[j]? =some g->blkOf g=some c->c<wr.heap.size:=fun j g c hj h1 h2=>hL7.blk hj h1 h2
         have hwN:w.heap.size<=wr.heap.size:=hf7.size
         obtain⟨μ,hμ⟩:∃μ,μ=wr.heap.size:=⟨_,rfl⟩
         rw[<-hμ]at hc8 hgo hwN hNr hγ7⊢
         clear hown8 hgrow8 hb8 hf7 hS7 hG7 hL7 hle8 hμ
         go_wp2
         go_loopw [13] (fun i wr=>∃(p:Nat)(cur:Array Value),p<=64/\i= .int .i64 p/\Fr N (· =28) w wr/\Slices wr 28 7 N vs nn (fun j=>marks mR j (nn j))/\wr.heap[γ]? =some (.cells G 30 (0,0))/\Longer wr 28 7 γ vs G q (fun j=>nn j+64) X/\
          wr.heap[μ]? =some (.cells cur 28 (0,0))/\cur.size=64*7/\∀u∈cur.toList,u.oneCell'=true) (fun i _=>64-(intOf i).toNat)
         case atStart=>exact⟨0,cur8,by omega,rfl,hf8,hS8,hG8,hL8,hc8,by omega,hone8⟩
         case round=>
          obtain⟨p,cur,hp,rfl,hf9,hS9,hG9,hL9,hc9,hcs9,hone9⟩:=hrel
          by_cases hlp:p<64
          ·have hlp':(p:Int)<64:=by omega
           have hgl9:=hglN wr hf9.bl
           have hNr9:N<=wr.heap.size:=Nat.le_trans hN hf9.size
           have key:∀w1,Below wr.heap.size wr w1->∃(p':Nat)(cur:Array Value),p'<=64/\Value.int .i64 ((p:Int)+1)= .int .i64 p'/\Fr N (· =28) w (putCells w1 μ (p*7) (mR (q+m) p))/\Slices (putCells w1 μ (p*7) (mR (q+m) p)) 28 7 N vs nn (fun j=>marks mR j (nn j))/\(putCells w1 μ (p*7) (mR (q+m) p)).heap[γ]? =some (.cells G 30 (0,0))/\Longer (putCells w1 μ (p*7) (mR (q+m) p)) 28 7 γ vs G q (fun j=>nn j+64) X/\
             (putCells w1 μ (p*7) (mR (q+m) p)).heap[μ]? =some (.cells cur 28 (0,0))/\cur.size=64*7/\∀u∈cur.toList,u.oneCell'=true:=fun w1 hb1=>by
            obtain⟨cur',k1,k2,k3⟩:=put_at (mR (q+m) p) w1 (p*7) cur ((hb1.block μ (Array.getElem?_eq_some_iff.1 hc9).1).trans hc9)
            have hal:∀x,x≠μ->(putCells w1 μ (p*7) (mR (q+m) p)).heap[x]? =w1.heap[x]? :=fun x hx=>put_away hx _ _ _
            exact⟨p+1,cur',by omega,by go_num,Fr.putsNew hN hwN _ (hf9.below hb1 hNr9),(hS9.below hb1).keep fun j v c hj hc=>hal c (by have:=hlo j v c hj hc;omega),(hal γ (by omega)).trans ((hb1.block γ (Array.getElem?_eq_some_iff.1 hG9).1).trans hG9),(hL9.below hb1).keep fun j g c hj h1 h2=>hal c (by have:=hgo j g c hj h1 h2;omega),k1,by omega,k3 hone9 (mR_one _ _)⟩
           go_wp2_with (go_at_call 63;refine(marked (q+m) p (by omega) rfl (by omega) (by omega) _ hgl9).mono ?_;rintro e w1 ⟨rfl,hb1⟩;have hc1:=(hb1.block μ (Array.getElem?_eq_some_iff.1 hc9).1).trans hc9;obtain⟨⟨s0,s1,s2,s3,s4,s5,s6⟩,fz⟩:=mR_cells (q:=p) hc1 (by omega))
           go_roundw
           case rel=>exact key _ hb1
           case measure=>simp[intOf];omega
          ·have hge:¬(p:Int)<64:=by omega
           obtain⟨l,lc,rfl,hl,c0⟩:=hat wr hf9 q v hv
           have hrv:=hS9.row q v hv
           obtain⟨va,vc,rfl,hvc⟩:=hrv.form
           go_wp2_with (at_builtin;refine wpList_app _ rfl (.tmp 148) (.tmp 149) 30 rfl 28 iU (.agg #[.int .i64 0, .int .i64 0, .int .i64 0, .bool false, .slice none 0 0, .bool false, .slice none 0 0]) 7 88 Tryz.underlying30 hiU hzU hsU hbU rfl (by omega) _ (nn q) _ rfl hrv ⟨μ,0,none⟩ 64 64 cur.toList rfl (by omega) (by simp[hcs9]) (row_news hc9) hone9 (by omega) (by omega) ?_;intro v' w9 hr9 ha9;obtain⟨ga,gc,rfl,hgc⟩:=hr9.form;have hGx:=ha9.ty hG9 (by decide);obtain⟨cG,fG⟩:=held_cell (q:=q) hGx (by omega))
           go_roundw
           case rel=>
            have hS10:=hS9.app hv (Nat.le_refl _) (.inl rfl) ha9
            have hL10:=hL9.app (Nk:=μ) hS9 hv hlo (.inl rfl) hgo ha9
            have hb10:blkOf (.slice ga (nn q+64) gc)=blkOf (.slice va (nn q) vc)\/∃c,blkOf (.slice ga (nn q+64) gc)=some c/\γ<=c:=ha9.blk.imp id fun h=>⟨_,h,by have:=(Array.getElem?_eq_some_iff.1 hG9).1;omega⟩
            refine⟨q+1,G.setIfInBounds q (.slice ga (nn q+64) gc),upd X q (marks mR q (nn q)++cur.toList),by omega,by go_num,(ha9.fr hf9 rfl (Nat.le_trans hN hf9.size) fun x hx=>hS9.lo q _ x hv hx).new hN hN1 _,hS10.away fun j v c hj hc=>(hS10.row j v hj).ne hc hGx (by decide),heap_at hGx,by simp[hGs7], ?_,fun j hj=> ?_⟩
            ·refine Longer.put ((hL10.congr fun j hj=>upd_ne X _ (by omega)).away fun j g c hj h1 h2=>hL10.nblk hj h1 h2 hGx (by decide)) (by omega) hv ?_ hb10
             rw[upd_at]
             exact hr9.keep fun x hx=>Below.heap_setCell w9 _ _ x (hr9.ne hx hGx (by decide))
            ·by_cases e:j=q
             ·subst e
              rw[upd_at]
              exact List.take_left' (marks_len mR_len _ _)
             ·rw[upd_ne X _ e]
              exact hX7 j (by omega)
           case measure=>simp[intOf];omega
        ·have hge:¬(q:Int)<(m:Int):=by omega
         have hqm:q=m:=by omega
         subst q
         clear hge hlq
         have hγo:=(Array.getElem?_eq_some_iff.1 hG7).1
         go_wp2
         obtain⟨w3,rfl⟩:∃w3:World,w3=wr:=⟨_,rfl⟩
         have hw3:N<=w3.heap.size:=Nat.le_trans hN hf7.size
         have hatB:∀wx,Below w3.heap.size w3 wx->∀k v,vs[k]? =some v->∃l,ao=some ⟨l,0,none⟩/\wx.cell? ⟨l,k,none⟩=some v:=fun wx hb k v hv=>by
          obtain⟨l,lc,e,h1,h2⟩:=hat wx (hf7.below hb hw3) k v hv
          exact⟨l,e,h2⟩
         go_loopw [14] (fun i wr=>∃q:Nat,q<=m/\i= .int .i64 q/\Below w3.heap.size w3 wr) (fun i _=>m-(intOf i).toNat)
         case atStart=>exact⟨0,Nat.zero_le _,rfl,Below.refl _ _⟩
         case round=>
          obtain⟨q,hq,rfl,hb3⟩:=hrel
          by_cases hlq:q<m
          ·have hlq':(q:Int)<(m:Int):=by omega
           obtain⟨g,v,hg,hv,hrg,_⟩:=hL7 q hlq
           have hrv:=hS7.row q v hv
           obtain⟨va,vc,rfl,hvc⟩:=hrv.form
           obtain⟨ga,gc,rfl,hgc⟩:=hrg.form
           have hn1:=hnn q hlq
           go_wp2
           go_loopw [15] (fun i wr=>∃p:Nat,p<=nn q/\i= .int .i64 p/\Below w3.heap.size w3 wr) (fun i _=>nn q-(intOf i).toNat)
           case atStart=>exact⟨0,Nat.zero_le _,rfl,hb3⟩
           case round=>
            obtain⟨p,hp,rfl,hb4⟩:=hrel
            obtain⟨l,rfl,cV⟩:=hatB wr hb4 q _ hv
            by_cases hpn:p<nn q
            ·have hpn':(p:Int)<(nn q:Int):=by omega
             have hpn2:(p:Int)<(nn q:Int)+64:=by omega
             obtain⟨gx,gc',gcur,e1,_,hgx,_,hgu⟩:=hrg.blk (by omega)
             cases e1
             obtain⟨vx,vc',vcur,e1,_,hvx,_,hvu⟩:=hrv.blk (by omega)
             cases e1
             have hB:∀x:Bw wr,Below w3.heap.size w3 x.v:=fun x=>hb4.trans (x.h.mono hb4.size)
             have p0:∀x:Bw wr,x.v.cell? ⟨γ,q,none⟩=some (.slice (some ⟨gx,0,none⟩) (nn q+64) gc):=fun x=>by simp[World.cell?,((hB x).block γ hγo).trans hG7,hg]
             have hge1:∀j u,(mR q p)[j]? =some u->∀x:Bw wr,x.v.cell? ⟨gx,p*7+j,none⟩=some u/\x.v.cell? ⟨vx,p*7+j,none⟩=some u:=fun j u hj x=>by
              have hmk:=(marks_get mR_len (k:=q) (j:=j) hpn (List.getElem?_eq_some_iff.1 hj).1).trans hj
              have h1:=hgu _ _ (take_get (hX7 q hlq) hmk)
              have h2:=hvu _ _ hmk
              exact⟨by simp[World.cell?,((hB x).block gx (Array.getElem?_eq_some_iff.1 hgx).1).trans hgx,h1],by simp[World.cell?,((hB x).block vx (Array.getElem?_eq_some_iff.1 hvx).1).trans hvx,h2]⟩
             have a0:∀x:Bw wr,x.v.cell? ⟨gx,p*7,none⟩=some (.int .i64 (markN q p)):=fun x=>(hge1 0 _ rfl x).1
             have b0:∀x:Bw wr,x.v.cell? ⟨vx,p*7,none⟩=some (.int .i64 (markN q p)):=fun x=>(hge1 0 _ rfl x).2
             have a1:∀x:Bw wr,x.v.cell? ⟨gx,p*7+1,none⟩=some (.int .i64 0):=fun x=>(hge1 1 _ rfl x).1
             have b1:∀x:Bw wr,x.v.cell? ⟨vx,p*7+1,none⟩=some (.int .i64 0):=fun x=>(hge1 1 _ rfl x).2
             have a2:∀x:Bw wr,x.v.cell? ⟨gx,p*7+2,none⟩=some (.int .i64 0):=fun x=>(hge1 2 _ rfl x).1
             have b2:∀x:Bw wr,x.v.cell? ⟨vx,p*7+2,none⟩=some (.int .i64 0):=fun x=>(hge1 2 _ rfl x).2
             have a3:∀x:Bw wr,x.v.cell? ⟨gx,p*7+3,none⟩=some (.bool false):=fun x=>(hge1 3 _ rfl x).1
             have b3:∀x:Bw wr,x.v.cell? ⟨vx,p*7+3,none⟩=some (.bool false):=fun x=>(hge1 3 _ rfl x).2
             have a4:∀x:Bw wr,x.v.cell? ⟨gx,p*7+4,none⟩=some (.slice none 0 0):=fun x=>(hge1 4 _ rfl x).1
             have b4:∀x:Bw wr,x.v.cell? ⟨vx,p*7+4,none⟩=some (.slice none 0 0):=fun x=>(hge1 4 _ rfl x).2
             have a5:∀x:Bw wr,x.v.cell? ⟨gx,p*7+5,none⟩=some (.bool false):=fun x=>(hge1 5 _ rfl x).1
             have b5:∀x:Bw wr,x.v.cell? ⟨vx,p*7+5,none⟩=some (.bool false):=fun x=>(hge1 5 _ rfl x).2
             have a6:∀x:Bw wr,x.v.cell? ⟨gx,p*7+6,none⟩=some (.slice none 0 0):=fun x=>(hge1 6 _ rfl x).1
             have b6:∀x:Bw wr,x.v.cell? ⟨vx,p*7+6,none⟩=some (.slice none 0 0):=fun x=>(hge1 6 _ rfl x).2
             have p2:∀x:Bw wr,x.v.cell? ⟨l,q,none⟩=some (.slice (some ⟨vx,0,none⟩) (nn q) vc):=fun x=>by
              obtain⟨l',e,h⟩:=hatB _ (hB x) q _ hv
              cases e
              exact h
             have hglx:∀x:Bw wr,GlobOk Tryz.prog x.v:=fun x=>hglN _ (hf7.below (hB x) hw3).bl
             have callM:∀x:Bw wr,Calls Tryz.prog 63 #[.int .i64 q, .int .i64 p] x.v fun e w'=>e= .returned (.agg #[.int .i64 (markN q p), .int .i64 0, .int .i64 0, .bool false, .slice none 0 0, .bool false, .slice none 0 0])/\∃y:Bw wr,w'=y.v:=fun x=>calls_bw (marked q p rfl rfl (by omega) (by omega) _ (hglx x))
             have callS:∀x:Bw wr,Calls Tryz.prog 59 #[(.agg #[.int .i64 (markN q p), .int .i64 0, .int .i64 0, .bool false, .slice none 0 0, .bool false, .slice none 0 0]),(.agg #[.int .i64 (markN q p), .int .i64 0, .int .i64 0, .bool false, .slice none 0 0, .bool false, .slice none 0 0])] x.v fun e w'=>e= .returned (.bool true)/\∃y:Bw wr,w'=y.v:=fun x=>calls_bw (SM.row (m1:=0) (m2:=0) (g1:=fun _ _=> .int 0) (g2:=fun _ _=> .int 0) (hglx x) (i64_small (by unfold markN;omega) (by unfold markN;omega)) (i64_small (by omega) (by omega)) (i64_small (by omega) (by omega)) rd_nil rd_nil rd_nil rd_nil)
             clear hge1
             go_wp2_with fail
             refine wp_region_bw (by kernel_rfl) (by kernel_rfl) ?_
             repeat(go_big_quiet_step (first|exact callM _|exact callS _))
             refine wpQuiet_nil ?_
             intro _ hw'
             obtain⟨xb,hw''⟩:=hw'
             subst hw''
             go_wp2
             go_roundw
             case rel=>exact⟨p+1,by omega,by go_num,hB xb⟩
             case measure=>simp[intOf];omega
            ·have hge:¬(p:Int)<(nn q:Int):=by omega
             go_wp2
             go_roundw
             case rel=>exact⟨q+1,by omega,by go_num,hb4⟩
             case measure=>simp[intOf];omega
          ·have hge:¬(q:Int)<(m:Int):=by omega
           go_wp2
           go_ret
           exact⟨rfl,hf7.below hb3 hw3⟩
end Go.Sx.Apart
