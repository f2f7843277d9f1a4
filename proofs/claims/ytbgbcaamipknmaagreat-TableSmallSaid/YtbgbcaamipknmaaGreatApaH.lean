/-
 Slices that are their own lie apart: what the kit asks of two tables is true. Conditions: as typed.
-/
import Derived.Test.YtbgbcaamipknmaaGreatApaG
set_option linter.unusedVariables false
set_option linter.unusedSimpArgs false
namespace Go.Sx.Apart
open Go Go.Proofs Go.RowKit Go.Lib Go.Sx Go.Sx.Lent
theorem Fr.sub{N:Nat}{E E':TypeId->Prop}{w w':World}(h:Fr N E w w')(he:∀t,E t->E' t):Fr N E' w w':=⟨h.bl,fun x cs t fz hx ht=>h.ty x cs t fz hx fun h=>ht (he t h)⟩
def E2(t:TypeId):Prop:=t=105\/t=28
theorem Slices.fr{w w':World}{M:Nat}{E:TypeId->Prop}{e:TypeId}{size N:Nat}{vs:List Value}{nn:Nat->Nat}{S:Nat->List Value}(h:Slices w e size N vs nn S)(hf:Fr M E w w')(he:¬E e):Slices w' e size N vs nn S:=
 h.step fun k v hk=>(h.row k v hk).ty fun x cs hx=>hf.ty _ _ _ _ hx he
theorem bagc{w:World}{B j:Nat}{cs:Array Value}{v:Value}{t:TypeId}(h:w.heap[B]? =some (.cells cs t (0,0)))(hv:cs[j]? =some v):w.cell? ⟨B,j,none⟩=some v:=by simp[World.cell?,h,hv]
theorem nextB{w w1 w2:World}{N B j:Nat}{E:TypeId->Prop}{cs:Array Value}{v:Value}{t:TypeId}(hN:N<=w.heap.size)(f:Fr N E w w1)(k:w1.heap[B]? =some (.cells cs t (0,0)))(hb:Below w1.heap.size w1 w2)(hv:cs[j]? =some v):
  Fr N E w w2/\w2.heap[B]? =some (.cells cs t (0,0))/\w2.cell? ⟨B,j,none⟩=some v:=
 ⟨f.below hb (Nat.le_trans hN f.size),(hb.block B (Array.getElem?_eq_some_iff.1 k).1).trans k,bagc ((hb.block B (Array.getElem?_eq_some_iff.1 k).1).trans k) hv⟩
set_option maxHeartbeats 16000000 in
set_option maxRecDepth 100000 in
theorem apart(SM:Sames){w:World}{N B:Nat}{T r1 r2:Value}{l1 l2:List Value}{nnL nnR nnT:Nat->Nat}{sL sR sT:Nat->List Value}(hgl:∀w,GlobOk Tryz.prog w)(hB:Bag w N B (bagOf T r1 r2 l1 l2))(hN:N<=w.heap.size)
  (hsL:Slices w 105 1 N (l1++l2) nnL sL) (hnL:∀k,nnL k<=1000000000) (hmL:(l1++l2).length<=500000) (hsR:Slices w 28 7 N [r1,r2] nnR sR) (hnR:∀k,nnR k<=1000000) (hsT:Slices w 32 3 N [T] nnT sT) (hnT:∀k,nnT k<=1000000):
  Calls Tryz.prog 46 #[.pointer (some ⟨B,0,none⟩)] w fun e w'=>e= .returned (.bool true)/\Below N w w':=by
 obtain⟨cs,hNB,hcs,hsz,hz,hv⟩:=hB
 obtain⟨v0,h0,q0,_⟩:=hv 0 (by omega)
 obtain⟨v10,h10,q10,_⟩:=hv 10 (by omega)
 obtain⟨v11,h11,q11,_⟩:=hv 11 (by omega)
 obtain⟨a0,d0,rfl,_⟩:=q0.form
 obtain⟨a10,d10,rfl,_⟩:=q10.form
 obtain⟨a11,d11,rfl,_⟩:=q11.form
 have hh0:Held w 22 a0 (l1++l2).length (l1++l2):=held_of q0
 have hh10:Held w 30 a10 2 [r1,r2]:=held_of q10
 have hh11:Held w 47 a11 1 [T]:=held_of q11
 clear q0 q10 q11 hv
 have c0:=bagc hcs h0
 have h0:cs[0]? =some (.slice a0 (l1++l2).length d0):=h0
 have h10:cs[10]? =some (.slice a10 2 d10):=h10
 have h11:cs[11]? =some (.slice a11 1 d11):=h11
 have c0:w.cell? ⟨B,0,none⟩=some (.slice a0 (l1++l2).length d0):=c0
 go_enter Tryz.func46,Tryz.ntmps46
 go_wp2_with (first
  |(go_at_call 70;refine(flatLimbs hN hh0 hsL hmL (fun k _=>hnL k)).mono ?_;rintro e w0 ⟨rfl,f0⟩;have k0:=f0.ty _ _ _ _ hcs (by decide);have c1:=bagc k0 (hz 1 (by omega) (by omega) (by omega) (by omega)))
  |(go_at_call 71;refine(flat0 71 (by decide) _).mono ?_;rintro e w1 ⟨rfl,hb⟩;obtain⟨f1,k1,c2⟩:=nextB hN f0 k0 hb (hz 2 (by omega) (by omega) (by omega) (by omega)))
  |(go_at_call 72;refine(flat0 72 (by decide) _).mono ?_;rintro e w2 ⟨rfl,hb⟩;obtain⟨f2,k2,c3⟩:=nextB hN f1 k1 hb (hz 3 (by omega) (by omega) (by omega) (by omega)))
  |(go_at_call 73;refine(flat0 73 (by decide) _).mono ?_;rintro e w3 ⟨rfl,hb⟩;obtain⟨f3,k3,c4⟩:=nextB hN f2 k2 hb (hz 4 (by omega) (by omega) (by omega) (by omega)))
  |(go_at_call 74;refine(flat0 74 (by decide) _).mono ?_;rintro e w4 ⟨rfl,hb⟩;obtain⟨f4,k4,c5⟩:=nextB hN f3 k3 hb (hz 5 (by omega) (by omega) (by omega) (by omega)))
  |(go_at_call 75;refine(flat0 75 (by decide) _).mono ?_;rintro e w5 ⟨rfl,hb⟩;obtain⟨f5,k5,c6⟩:=nextB hN f4 k4 hb (hz 6 (by omega) (by omega) (by omega) (by omega)))
  |(go_at_call 76;refine(flat0 76 (by decide) _).mono ?_;rintro e w6 ⟨rfl,hb⟩;obtain⟨f6,k6,c7⟩:=nextB hN f5 k5 hb (hz 7 (by omega) (by omega) (by omega) (by omega)))
  |(go_at_call 77;refine(flat0 77 (by decide) _).mono ?_;rintro e w7 ⟨rfl,hb⟩;obtain⟨f7,k7,c8⟩:=nextB hN f6 k6 hb (hz 8 (by omega) (by omega) (by omega) (by omega)))
  |(go_at_call 78;refine(flat0 78 (by decide) _).mono ?_;rintro e w8 ⟨rfl,hb⟩;obtain⟨f8,k8,c9⟩:=nextB hN f7 k7 hb (hz 9 (by omega) (by omega) (by omega) (by omega)))
  |(go_at_call 79;refine(flat0 79 (by decide) _).mono ?_;rintro e w9 ⟨rfl,hb⟩;obtain⟨f9,k9,c10⟩:=nextB hN f8 k8 hb h10)
  |(go_at_call 80;refine(flatRows SM (hgl _) (Nat.le_trans hN f9.size) (fun wx _=>hgl wx) (hh10.fr f9 (by decide)) (hsR.fr f9 (by decide)) (by simp) (fun k _=>hnR k)).mono ?_;rintro e w10 ⟨rfl,g10⟩;have f10:=(f9.sub (E':=E2) fun t h=> .inl h).trans (g10.sub fun t h=> .inr h);have k10:=g10.ty _ _ _ _ k9 (by decide);have c11:=bagc k10 h11)
  |(go_at_call 81;refine(flatTables SM (hgl _) (Nat.le_trans hN f10.size) (fun wx _=>hgl wx) (hh11.fr f10 (by unfold E2;decide)) (hsT.fr f10 (by unfold E2;decide)) (by simp) (fun k _=>hnT k)).mono ?_;rintro e w11 ⟨rfl,g11⟩;have f11:=(f10.sub (E':=fun _=>True) fun _ _=>trivial).trans (g11.sub fun _ _=>trivial);have k11:=g11.ty _ _ _ _ k10 (by decide);have c12:=bagc k11 (hz 12 (by omega) (by omega) (by omega) (by omega)))
  |(go_at_call 82;refine(flat0 82 (by decide) _).mono ?_;rintro e w12 ⟨rfl,hb⟩;obtain⟨f12,k12,c13⟩:=nextB hN f11 k11 hb (hz 13 (by omega) (by omega) (by omega) (by omega)))
  |(go_at_call 83;refine(flat0 83 (by decide) _).mono ?_;rintro e w13 ⟨rfl,hb⟩;obtain⟨f13,k13,c14⟩:=nextB hN f12 k12 hb (hz 14 (by omega) (by omega) (by omega) (by omega)))
  |(go_at_call 84;refine(flat0 84 (by decide) _).mono ?_;rintro e w14 ⟨rfl,hb⟩;obtain⟨f14,k14,c15⟩:=nextB hN f13 k13 hb (hz 15 (by omega) (by omega) (by omega) (by omega)))
  |(go_at_call 85;refine(flat0 85 (by decide) _).mono ?_;rintro e w15 ⟨rfl,hb⟩;obtain⟨f15,k15,c16⟩:=nextB hN f14 k14 hb (hz 16 (by omega) (by omega) (by omega) (by omega)))
  |(go_at_call 86;refine(flat0 86 (by decide) _).mono ?_;rintro e w16 ⟨rfl,hb⟩;obtain⟨f16,k16,c17⟩:=nextB hN f15 k15 hb (hz 17 (by omega) (by omega) (by omega) (by omega)))
  |(go_at_call 87;refine(flat0 87 (by decide) _).mono ?_;rintro e w17 ⟨rfl,hb⟩;obtain⟨f17,k17,c18⟩:=nextB hN f16 k16 hb (hz 18 (by omega) (by omega) (by omega) (by omega)))
  |(go_at_call 88;refine(flat0 88 (by decide) _).mono ?_;rintro e w18 ⟨rfl,hb⟩;obtain⟨f18,k18,c19⟩:=nextB hN f17 k17 hb (hz 19 (by omega) (by omega) (by omega) (by omega)))
  |(go_at_call 89;refine(flat0 89 (by decide) _).mono ?_;rintro e w19 ⟨rfl,hb⟩;obtain⟨f19,k19,c20⟩:=nextB hN f18 k18 hb (hz 20 (by omega) (by omega) (by omega) (by omega)))
  |(go_at_call 90;refine(flat0 90 (by decide) _).mono ?_;rintro e w20 ⟨rfl,hb⟩;obtain⟨f20,k20,c21⟩:=nextB hN f19 k19 hb (hz 21 (by omega) (by omega) (by omega) (by omega)))
  |(go_at_call 91;refine(flat0 91 (by decide) _).mono ?_;rintro e w21 ⟨rfl,hb⟩;obtain⟨f21,k21,c22⟩:=nextB hN f20 k20 hb (hz 22 (by omega) (by omega) (by omega) (by omega)))
  |(go_at_call 92;refine(flat0 92 (by decide) _).mono ?_;rintro e w22 ⟨rfl,hb⟩;have f22:=f21.below hb (Nat.le_trans hN f21.size)))
 go_ret
 exact⟨rfl,f22.bl⟩
set_option maxHeartbeats 8000000 in
set_option maxRecDepth 100000 in
theorem apartTables(SM:Sames){w:World}{N L τ:Nat}{Z1 Z2:Nat->Prop}{y1 y2:ByteArray}{t1 t2:Bool}{n1 n2:Nat}{f1 f2:Nat->Nat->D}{v1 v2:Value}(hgl:∀w,GlobOk Tryz.prog w)(hN:N<=w.heap.size)
  (hL:w.heap[L]? =some (.cells #[.slice (some ⟨τ,0,none⟩) 2 2] 47 (0,0))) (hτ:w.heap[τ]? =some (.cells #[.string y1, .bool t1,v1, .string y2, .bool t2,v2] 32 (0,0))) (hNτ:N<=τ)
  (d1:Dp Tryz.prog w Z1 (.sl n1 f1) (.sl 28) v1) (d2:Dp Tryz.prog w Z2 (.sl n2 f2) (.sl 28) v2) (hz1:∀b,Z1 b->N<=b) (hz2:∀b,Z2 b->N<=b) (hz:∀b,Z1 b->Z2 b->False)
  (b1:n1<=10000) (b2:n2<=10000) (m1:∀i j,i<n1->j=4\/j=6->(f1 i j).toS.n<=1000000000) (m2:∀i j,i<n2->j=4\/j=6->(f2 i j).toS.n<=1000000000):
  Calls Tryz.prog 18 #[.slice (some ⟨L,0,none⟩) 1 1] w fun e w'=>e= .returned (.bool true)/\Below N w w':=by
 obtain⟨a1,e1,rs1,xs1,rfl,R1,W1,Z1',P1,U1⟩:=dp_rows d1
 obtain⟨a2,e2,rs2,xs2,rfl,R2,W2,Z2',P2,U2⟩:=dp_rows d2
 have hpL:(limbsOf rs1 n1++limbsOf rs2 n2).Pairwise Ap2:=List.pairwise_append.2 ⟨P1,P2,fun u hu u' hu' c hc hc'=>by
  obtain⟨_,_,_,_,_,_,k1⟩:=U1 u hu
  obtain⟨_,_,_,_,_,_,k2⟩:=U2 u' hu'
  exact hz c (k1 c hc) (k2 c hc')⟩
 obtain⟨nnL,sL,hsL,hnL⟩:=slices_of (w:=w) (e:=105) (size:=1) (N:=N) (M:=1000000000) hpL (fun u hu=>by
  rcases List.mem_append.1 hu with hu|hu
  ·obtain⟨i,j,hi,hj,xs,k1,k2⟩:=U1 u hu
   exact⟨_,xs,m1 i j hi hj,k1,fun g hg=>hz1 g (k2 g hg)⟩
  ·obtain⟨i,j,hi,hj,xs,k1,k2⟩:=U2 u hu
   exact⟨_,xs,m2 i j hi hj,k1,fun g hg=>hz2 g (k2 g hg)⟩)
 obtain⟨nnR,sR,hsR,hnR⟩:=slices_of (w:=w) (e:=28) (size:=7) (N:=N) (M:=1000000) (vs:=[.slice a1 n1 e1, .slice a2 n2 e2]) (by
  simp only[List.pairwise_cons,List.mem_singleton,List.not_mem_nil,false_implies,implies_true,List.Pairwise.nil,and_true]
  rintro _ rfl c hc hc'
  exact hz c (Z1' c hc) (Z2' c hc')) (fun u hu=>by
  simp only[List.mem_cons,List.not_mem_nil,or_false]at hu
  rcases hu with rfl|rfl
  ·exact⟨n1,xs1,by omega,W1,fun g hg=>hz1 g (Z1' g hg)⟩
  ·exact⟨n2,xs2,by omega,W2,fun g hg=>hz2 g (Z2' g hg)⟩)
 obtain⟨nnT,sT,hsT,hnT⟩:=slices_of (w:=w) (e:=32) (size:=3) (N:=N) (M:=1000000) (vs:=[.slice (some ⟨τ,0,none⟩) 2 2]) (by simp) (fun u hu=>by
  simp only[List.mem_singleton]at hu
  subst hu
  exact⟨2,_,by omega,⟨rfl, .inr ⟨τ,2,_,rfl,by omega,by omega,by unfold maxLen;omega,hτ,rfl,rfl⟩⟩,fun g hg=>by cases hg;exact hNτ⟩)
 have hal:=(Below.refl w.heap.size w).alloc (Nat.le_refl _) (.cells #[.slice none 0 0, .slice none 0 0, .slice none 0 0, .slice none 0 0, .slice none 0 0, .slice none 0 0, .slice none 0 0, .slice none 0 0, .slice none 0 0, .slice none 0 0, .slice none 0 0, .slice none 0 0, .slice none 0 0, .slice none 0 0, .slice none 0 0, .slice none 0 0, .slice none 0 0, .slice none 0 0, .slice none 0 0, .slice none 0 0, .slice none 0 0, .slice none 0 0, .slice none 0 0] 96 (0,0))
 have hB0:Bag (w.alloc (.cells #[.slice none 0 0, .slice none 0 0, .slice none 0 0, .slice none 0 0, .slice none 0 0, .slice none 0 0, .slice none 0 0, .slice none 0 0, .slice none 0 0, .slice none 0 0, .slice none 0 0, .slice none 0 0, .slice none 0 0, .slice none 0 0, .slice none 0 0, .slice none 0 0, .slice none 0 0, .slice none 0 0, .slice none 0 0, .slice none 0 0, .slice none 0 0, .slice none 0 0, .slice none 0 0] 96 (0,0))) N w.heap.size fun _=>[]:=by
  have key:∀j,j<23->(#[.slice none 0 0, .slice none 0 0, .slice none 0 0, .slice none 0 0, .slice none 0 0, .slice none 0 0, .slice none 0 0, .slice none 0 0, .slice none 0 0, .slice none 0 0, .slice none 0 0, .slice none 0 0, .slice none 0 0, .slice none 0 0, .slice none 0 0, .slice none 0 0, .slice none 0 0, .slice none 0 0, .slice none 0 0, .slice none 0 0, .slice none 0 0, .slice none 0 0, .slice none 0 0]:Array Value)[j]? =some (.slice none 0 0):=by
   have h:((List.range 23).all fun j=>decide ((#[.slice none 0 0, .slice none 0 0, .slice none 0 0, .slice none 0 0, .slice none 0 0, .slice none 0 0, .slice none 0 0, .slice none 0 0, .slice none 0 0, .slice none 0 0, .slice none 0 0, .slice none 0 0, .slice none 0 0, .slice none 0 0, .slice none 0 0, .slice none 0 0, .slice none 0 0, .slice none 0 0, .slice none 0 0, .slice none 0 0, .slice none 0 0, .slice none 0 0, .slice none 0 0]:Array Value)[j]?.map (fun v=>match v with| .slice none 0 0=>true|_=>false)=some true))=true:=by decide
   intro j hj
   have:=List.all_eq_true.1 h j (by simpa using hj)
   have:=of_decide_eq_true this
   obtain⟨v,hv,hb⟩:=Option.map_eq_some_iff.1 this
   rw[hv]
   split at hb
   ·rfl
   ·cases hb
  exact⟨_,hN,heap_alloc_new w _,rfl,fun j hj _ _ _=>key j hj,fun j hj=>⟨_,key j (by rcases hj with h|h|h<;>omega),⟨rfl, .inl ⟨rfl,none,rfl⟩⟩,fun g hg=>by cases hg⟩⟩
 have cL:(w.alloc (.cells #[.slice none 0 0, .slice none 0 0, .slice none 0 0, .slice none 0 0, .slice none 0 0, .slice none 0 0, .slice none 0 0, .slice none 0 0, .slice none 0 0, .slice none 0 0, .slice none 0 0, .slice none 0 0, .slice none 0 0, .slice none 0 0, .slice none 0 0, .slice none 0 0, .slice none 0 0, .slice none 0 0, .slice none 0 0, .slice none 0 0, .slice none 0 0, .slice none 0 0, .slice none 0 0] 96 (0,0))).cell? ⟨L,0,none⟩=some (.slice (some ⟨τ,0,none⟩) 2 2):=bagc ((hal.block L (Array.getElem?_eq_some_iff.1 hL).1).trans hL) rfl
 have rfr:∀{a n rs},RowsAt w a n rs->RowsAt (w.alloc (.cells #[.slice none 0 0, .slice none 0 0, .slice none 0 0, .slice none 0 0, .slice none 0 0, .slice none 0 0, .slice none 0 0, .slice none 0 0, .slice none 0 0, .slice none 0 0, .slice none 0 0, .slice none 0 0, .slice none 0 0, .slice none 0 0, .slice none 0 0, .slice none 0 0, .slice none 0 0, .slice none 0 0, .slice none 0 0, .slice none 0 0, .slice none 0 0, .slice none 0 0, .slice none 0 0] 96 (0,0))) a n rs:=fun h=>h.fr (Fr.below (N:=w.heap.size) (E:=fun _=>False) (Fr.refl _ _ _) hal (Nat.le_refl _)) id
 go_enter Tryz.func18,Tryz.ntmps18
 go_wp2
 go_loopw [4] (fun i wr=>(i= .int .i64 0/\wr=w.alloc (.cells #[.slice none 0 0, .slice none 0 0, .slice none 0 0, .slice none 0 0, .slice none 0 0, .slice none 0 0, .slice none 0 0, .slice none 0 0, .slice none 0 0, .slice none 0 0, .slice none 0 0, .slice none 0 0, .slice none 0 0, .slice none 0 0, .slice none 0 0, .slice none 0 0, .slice none 0 0, .slice none 0 0, .slice none 0 0, .slice none 0 0, .slice none 0 0, .slice none 0 0, .slice none 0 0] 96 (0,0)))\/(i= .int .i64 1/\Fr N EB w wr/\Bag wr N w.heap.size (bagOf (.slice (some ⟨τ,0,none⟩) 2 2) (.slice a1 n1 e1) (.slice a2 n2 e2) (limbsOf rs1 n1) (limbsOf rs2 n2)))) (fun i _=>1-(intOf i).toNat)
 case atStart=>exact .inl ⟨rfl,rfl⟩
 case round=>
  rcases hrel with⟨rfl,hwr⟩|⟨rfl,hf,hB1⟩
  ·subst wr
   go_wp2_with (go_at_call 45;refine(putTables hB0 (Nat.le_trans hN hal.size) (by omega) (by omega) ((hal.block τ (Array.getElem?_eq_some_iff.1 hτ).1).trans hτ) (rfr R1) (rfr R2)).mono ?_;rintro e w1 ⟨rfl,hf1,hB1⟩)
   go_roundw
   case rel=>exact .inr ⟨by go_num,((Fr.refl N EB w).alloc hN _).trans hf1,hB1⟩
   case measure=>simp[intOf]
  ·go_wp2_with (go_at_call 46;refine(apart SM hgl hB1 (Nat.le_trans hN hf.size) (hsL.fr hf nEB.2.2.2.1) hnL (by rw[List.length_append,limbsOf_len,limbsOf_len];omega) (hsR.fr hf nEB.2.1) hnR (hsT.fr hf nEB.2.2.1) hnT).mono ?_;rintro e w2 ⟨rfl,hb2⟩)
   go_ret
   exact⟨rfl,hf.bl.trans hb2⟩
end Go.Sx.Apart
