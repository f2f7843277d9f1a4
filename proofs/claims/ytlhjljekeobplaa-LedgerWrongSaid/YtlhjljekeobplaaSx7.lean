/-
  The operations of the symbolic executor that make or write memory are sound. Conditions: the symbolic state relates to the model's.
-/
import Derived.Test.YtlhjljekeobplaaSx6
namespace Go.Sx
open Go.RowKit (Below)

variable {T : FuncId → Pred} {P : Program} {w0 w : World} {R0 : Bs T} {R : Nat → Prop} {bl : List Nat} {vs : List Value} {ow : Nat → Option Owner}
variable {st : St (sem T)} {a : Act} {o : Oper} {k : SV (sem T) → St (sem T) → Tree (sem T)}

def EffOk (P : Program) (w0 : World) (R0 : Bs T) (bl : List Nat) (vs : List Value) (ow : Nat → Option Owner) (st : St (sem T)) (a : Act) (w : World) (o : Oper) (k : SV (sem T) → St (sem T) → Tree (sem T)) : Prop :=
  ∃ v w', ((execOp a.eval o).run P w = .ok (.value v) w' ∨ ((execOp a.eval o).run P w = .ok .skip w' ∧ v = undef)) ∧
    ∃ sv st' bl' vs' R' ow', Stp P w0 R0 bl vs ow st bl' vs' R' ow' st' w' ∧ st'.tmps = st.tmps ∧ SVR bl' vs' sv v ∧ (k sv st').den

theorem needs_den {ps : List Prop} {t : Tree (sem T)} : (needs (A := sem T) ps t).den ↔ (∀ p ∈ ps, p) ∧ t.den := by
  induction ps with
  | nil => simp [needs]
  | cons p ps ih =>
    simp only [needs, List.foldr_cons, Tree.den] at ih ⊢
    rw [ih]
    simp only [List.mem_cons, forall_eq_or_imp]
    exact and_assoc.symm

theorem givens_den {ps : List Prop} {t : Tree (sem T)} : (givens (A := sem T) ps t).den ↔ ((∀ p ∈ ps, p) → t.den) := by
  induction ps with
  | nil => simp [givens]
  | cons p ps ih =>
    simp only [givens, List.foldr_cons, Tree.den] at ih ⊢
    rw [ih]
    simp only [List.mem_cons, forall_eq_or_imp]
    exact and_imp.symm

theorem HR.not_own_new (h : HR P w0 R0 bl vs R ow st.boxes st.ents w) : ow w.heap.size = none := by
  cases ho : ow w.heap.size with
  | none => rfl
  | some o => have := (h.olt _ _ ho).2; omega

theorem HR.not_R_new (h : HR P w0 R0 bl vs R ow st.boxes st.ents w) : ¬ R w.heap.size := fun hr => by have := h.rlt _ hr; omega

/-- A new box. -/
theorem HR.newBox (h : HR P w0 R0 bl vs R ow st.boxes st.ents w) {ty : TypeId} {cs : Array Value} {cells : List (SV (sem T))} (hs : SVRs bl vs cells cs.toList) :
    Stp P w0 R0 bl vs ow st (bl ++ [w.heap.size]) vs R (setOw ow w.heap.size (some (.box st.boxes.length))) (addBox st ty cells) (w.alloc (.cells cs ty)) where
  hr := by
    have hb : Below w.heap.size w (w.alloc (.cells cs ty)) := (Below.refl _ _).alloc (Nat.le_refl _) _
    exact (h.grow hb).pushBox (heap_alloc_new w _) h.below.size h.not_own_new h.not_R_new hs
  bl := fun _ _ => get_append_lt
  vs := fun _ _ x => x
  ext := Ext.of_append (nb := [⟨ty, cells, 0, true⟩]) (ne := []) rfl (by simp [addBox])
  mrk := fun b hb => by
    have hne : b ≠ w.heap.size := fun e => by rw [e, h.not_own_new] at hb; cases hb
    rw [setOw_ne hne]; exact hb

theorem bl_last {b : Nat} : (bl ++ [b])[bl.length]? = some b := by
  rw [List.getElem?_append_right (Nat.le_refl _)]; simp

theorem vs_last {v : Value} : (vs ++ [v])[vs.length]? = some v := by
  rw [List.getElem?_append_right (Nat.le_refl _)]; simp

theorem eff_alloc (h : HR P w0 R0 bl vs R ow st.boxes st.ents w) {t : TypeId} (ho : o.op = .alloc t) (hd : (eAlloc P st t k).den) : EffOk P w0 R0 bl vs ow st a w o k := by
  unfold eAlloc at hd
  split at hd
  · rename_i z n hz hs
    split at hd
    · obtain ⟨i, v, hi, hzv, hsv⟩ := zeroCells_sound (bl := bl) (vs := vs) hz
      refine ⟨.pointer (some ⟨w.heap.size, 0, none⟩), w.alloc (.cells v.cells t), .inl ?_, .ptr st.boxes.length 0, _, _, _, _, _, h.newBox (ty := t) hsv, rfl, ⟨w.heap.size, ?_, rfl⟩, hd⟩
      · simp [execOp, ho, Instr.alloc, run_zero hi hzv, newVar, newRow]
      · rw [← h.nb]; exact bl_last
    · exact hd.elim
  · exact hd.elim

theorem eff_box (h : HR P w0 R0 bl vs R ow st.boxes st.ents w) (ht : TR bl vs st.tmps a) {t : TypeId} {x : Operand} (ho : o.op = .box t x) (hd : (eBox P st t x k).den) : EffOk P w0 R0 bl vs ow st a w o k := by
  unfold eBox at hd
  split at hd
  · rename_i n hs
    split at hd
    · rename_i hc
      simp only [Bool.and_eq_true, beq_iff_eq] at hc
      have hsv := cells_sound h.vsl (ev_sound ht x) hc.2
      refine ⟨.pointer (some ⟨w.heap.size, 0, none⟩), w.alloc (.cells (a.eval x).cells t), .inl ?_, .ptr st.boxes.length 0, _, _, _, _, _, h.newBox (ty := t) hsv, rfl, ⟨w.heap.size, ?_, rfl⟩, hd⟩
      · simp [execOp, ho, Instr.box, newVar, newRow]
      · rw [← h.nb]; exact bl_last
    · exact hd.elim
  · exact hd.elim

theorem size_inv {t : TypeId} {n : Nat} (h : sizeT P t = some n) : ∃ i, P.info? t = some i ∧ i.size = n := by
  unfold sizeT at h
  obtain ⟨i, hi, rfl⟩ := Option.map_eq_some_iff.1 h
  exact ⟨i, hi, rfl⟩

/-- A block's cells are written: the world behind it. -/
theorem HR.setBox (h : HR P w0 R0 bl vs R ow st.boxes st.ents w) {i b : Nat} {bx : Box (sem T)} {cs cs' : Array Value} {cells : List (SV (sem T))} (hi : st.boxes[i]? = some bx) (_hl : bx.live = true)
    (hb : bl[i]? = some b) (ho : ow b = some (.box i)) (hw : w.heap[b]? = some (.cells cs bx.ty (0, 0))) (hs : SVRs bl vs cells cs'.toList) :
    Stp P w0 R0 bl vs ow st bl vs R ow { st with boxes := st.boxes.set i { bx with cells := cells, ver := bx.ver + 1 } } (w.setRow b cs') where
  bl := fun _ _ x => x
  vs := fun _ _ x => x
  ext := Ext.of_set_box (i := i) (bx := { bx with cells := cells, ver := bx.ver + 1 }) rfl rfl (fun b0 h0 => by rw [hi] at h0; cases h0; exact ⟨by simp, rfl⟩)
  mrk := fun _ x => x
  hr := {
    mrk := fun x hx => (setRow_other w b x cs' (fun e => by rw [e, ho] at hx; cases hx)).trans (h.mrk x hx)
    lp := fun j L hj => by
      obtain ⟨bj, x, g1, g2, g3, g4, g5⟩ := h.lp j L hj
      have hne : j ≠ i := fun e => by rw [e, hi] at g1; cases g1; rw [_hl] at g2; cases g2
      have hxb : x ≠ b := fun e => by rw [e, ho] at g4; cases g4; exact hne rfl
      exact ⟨bj, x, by rw [List.getElem?_set_ne (fun e => hne e.symm)]; exact g1, g2, g3, g4, g5.mono (setRow_other w b x cs' hxb) (fun _ _ x => x) (fun _ _ x => x)⟩
    below := h.below.trans ⟨by simp, by simp, by simp, by simp, fun x hx => setRow_other w b x cs' (fun e => by have := (h.olt b _ ho).1; omega)⟩
    rlt := fun x hx => by simpa using h.rlt x hx
    r0 := h.r0
    rsub := h.rsub
    ro := h.ro
    olt := fun x q hx => by simpa using h.olt x q hx
    nb := by simp [h.nb]
    nv := h.nv
    vsl := h.vsl
    box := fun j bj hj hlj => by
      rcases get_set_inv hj with ⟨rfl, rfl⟩ | ⟨hne, hj⟩
      · exact ⟨b, cs', hb, ho, setRow_heap w b cs cs' _ _ hw, hs⟩
      · obtain ⟨b2, cs2, h1, h2, h3, h4⟩ := h.box j bj hj hlj
        have hne2 : b2 ≠ b := fun e => by rw [e, ho] at h2; cases h2; exact hne rfl
        exact ⟨b2, cs2, h1, h2, (setRow_other w b b2 cs' hne2).trans h3, h4⟩
    ent := fun j e hj hlj => by
      obtain ⟨v, hv, h1, h2⟩ := h.ent j e hj hlj
      refine ⟨v, hv, fun hown => (h1 hown).mono (fun _ x => x) (fun x hx => setRow_other w b x cs' (fun e => by rw [e] at hx; rw [h.ro b hx] at ho; cases ho)),
        fun hown => (h2 hown).mono (fun _ x => x) (fun x hx => setRow_other w b x cs' (fun e => by rw [e] at hx; rw [h.ro b hx] at ho; cases ho)) (fun x hx => ⟨hx, setRow_other w b x cs' (fun e => by rw [e, ho] at hx; cases hx)⟩)⟩ }

theorem SVRs.one {s : List (SV (sem T))} {v : List Value} (hv : ∀ (i : Nat) (v : Value), vs[i]? = some v → ∃ a n c, v = .slice a n c) (h : SVRs bl vs s v) (hc : s.all isCell = true) : ∀ u ∈ v, u.oneCell' = true := by
  induction s generalizing v with
  | nil => cases v with
    | nil => simp
    | cons => exact h.elim
  | cons x s ih => cases v with
    | nil => exact h.elim
    | cons u v =>
      simp only [List.all_cons, Bool.and_eq_true] at hc
      intro y hy
      simp only [List.mem_cons] at hy
      rcases hy with rfl | hy
      · exact isCell_one hv h.1 hc.1
      · exact ih h.2 hc.2 y hy

theorem eff_store_box (h : HR P w0 R0 bl vs R ow st.boxes st.ents w) (ht : TR bl vs st.tmps a) {t : TypeId} {x v : Operand} (ho : o.op = .store t x v) {n b off : Nat} (hs : sizeT P t = some n) (hx : st.ev x = .ptr b off)
    (hd : (eStoreBox st t v n b off k).den) : EffOk P w0 R0 bl vs ow st a w o k := by
  unfold eStoreBox at hd
  split at hd
  · rename_i bx hbx
    split at hd
    · rename_i hc
      simp only [Bool.and_eq_true, beq_iff_eq, decide_eq_true_eq] at hc
      obtain ⟨⟨⟨hlive, rfl⟩, hoff⟩, hcell⟩ := hc
      have hxv := ev_sound ht x
      rw [hx] at hxv
      obtain ⟨b', hb', hv⟩ := hxv
      obtain ⟨b2, cs, h1, h2, h3, h4⟩ := h.box b bx hbx hlive
      rw [hb'] at h1; cases h1
      obtain ⟨i, hi, hsz⟩ := size_inv hs
      have hcs := cells_sound h.vsl (ev_sound ht v) hcell
      have hl1 := hcs.length
      have hl2 := h4.length
      simp only [Array.length_toList] at hl1 hl2
      have hone := hcs.one h.vsl hcell
      have hrun := run_storeCells_at P b' off bx.ty (a.eval v).cells.toList 0 cs w h3 (by simp; omega) hone
      simp only [Nat.add_zero] at hrun
      refine ⟨undef, _, .inr ⟨?_, rfl⟩, .con (.tuple #[]), _, bl, vs, R, ow, h.setBox hbx hlive hb' h2 h3 (cells := bx.cells.take off ++ cellsOf (st.ev v) ++ bx.cells.drop (off + (cellsOf (st.ev v)).length)) (cs' := (cs.toList.take off ++ (a.eval v).cells.toList ++ cs.toList.drop (off + (a.eval v).cells.toList.length)).toArray) ?_, rfl, rfl, hd⟩
      · have hne : ¬ (a.eval v).cells.size ≠ i.size := by rw [hsz, ← hl1]; simp
        simp only [execOp, ho, Instr.storeAt, hv, Instr.sureAddr, Sem.run_bind, Sem.run_pure, Result.andThen_ok, storeVar, run_sizeOf' hi, if_neg hne, hrun]
      · simp only [Array.length_toList, ← hl1]
        exact ((h4.take off).append hcs).append (h4.drop _)
    · exact hd.elim
  · exact hd.elim


/-! ### Freezing -/

theorem Own.rd {i : Nat} {e : TypeId} {s : Sl} {v : Value} (h : Own P w R ow i e s v) : Rd P w (fun b => R b ∨ ow b = some (.ent i)) (.sl s.n s.f) (.sl e) v := by
  obtain ⟨a, cap, hv, h1, h2, ha, hc⟩ := h
  refine ⟨e, a, cap, rfl, hv, h1, h2, ha, fun ks j q kk hk hj hq => ?_⟩
  rcases hc with hc | ⟨b, cs, hab, hob, hcs, hcont⟩
  · omega
  · obtain ⟨u, hu, hr⟩ := (hcont ks hk).2 j q kk hj hq
    refine ⟨_, u, hab, rfl, .inr hob, ?_, hr.mono (fun _ x => .inl x) (fun _ _ => rfl)⟩
    simp [World.cell?, hcs, hu]

theorem set_get_same {α : Type} {l : List α} {i : Nat} {x y : α} (h : l[i]? = some x) : (l.set i y)[i]? = some y := by
  rw [List.getElem?_set]
  have : i < l.length := by
    rcases Nat.lt_or_ge i l.length with h' | h'
    · exact h'
    · rw [List.getElem?_eq_none h'] at h; cases h
  simp [this]

/-- An own slice becomes a plain readable one. -/
theorem HR.freeze (h : HR P w0 R0 bl vs R ow st.boxes st.ents w) (id : Nat) :
    ∃ R' ow', Stp P w0 R0 bl vs ow st bl vs R' ow' (freezeId st id) w ∧ (freezeId st id).tmps = st.tmps ∧ (freezeId st id).boxes = st.boxes ∧ (freezeId st id).ents.length = st.ents.length := by
  unfold freezeId
  split
  · rename_i e he
    split
    · rename_i hc
      simp only [Bool.and_eq_true] at hc
      obtain ⟨hlive, hown⟩ := hc
      obtain ⟨v, hv, _, h2⟩ := h.ent id e he hlive
      have hO := h2 hown
      refine ⟨fun b => R b ∨ ow b = some (.ent id), fun b => match ow b with | some (.ent j) => if j = id then none else some (.ent j) | o => o, ⟨?_, fun _ _ x => x, fun _ _ x => x, ?_, fun b hb => by simp [hb]⟩, rfl, rfl, by simp⟩
      · exact {
          below := h.below
          rlt := fun b hb => hb.elim (h.rlt b) (fun hb => (h.olt b _ hb).2)
          r0 := fun b hb => .inl (h.r0 b hb)
          rsub := fun b hb => hb.elim (h.rsub b) (fun hb => .inr (h.olt b _ hb).1)
          ro := fun b hb => by
            rcases hb with hb | hb
            · simp [h.ro b hb]
            · simp [hb]
          olt := fun b q hb => by
            cases hob : ow b with
            | none => simp [hob] at hb
            | some o' => exact h.olt b o' hob
          nb := h.nb
          nv := by simp [h.nv]
          vsl := h.vsl
          box := fun j bj hj hlj => by
            obtain ⟨b2, cs2, h1, h2, h3, h4⟩ := h.box j bj hj hlj
            exact ⟨b2, cs2, h1, by simp [h2], h3, h4⟩
          ent := fun j e' hj hlj => by
            rcases get_set_inv hj with ⟨rfl, rfl⟩ | ⟨hne, hj⟩
            · exact ⟨v, hv, fun _ => hO.rd, fun hh => by cases hh⟩
            · obtain ⟨u, hu, h1, h2⟩ := h.ent j e' hj hlj
              refine ⟨u, hu, fun hh => (h1 hh).mono (fun _ x => .inl x) (fun _ _ => rfl), fun hh => (h2 hh).mono (fun _ x => .inl x) (fun _ _ => rfl) (fun b hb => ⟨by simp [hb, hne], rfl⟩)⟩
          mrk := fun b hb => by
            cases hob : ow b with
            | none => simp [hob] at hb
            | some o' =>
              cases o' with
              | mark l => exact h.mrk b hob
              | box j => simp [hob] at hb
              | ent j =>
                simp only [hob] at hb
                split at hb <;> cases hb
          lp := fun j L hj => by
            obtain ⟨bj, x, g1, g2, g3, g4, g5⟩ := h.lp j L hj
            exact ⟨bj, x, g1, g2, g3, by simp [g4], g5⟩ }
      · exact Ext.of_set_ent (i := id) (bx := { e with own := false, ver := e.ver + 1 }) rfl rfl (fun b0 h0 => by rw [he] at h0; cases h0; simp)
    · exact ⟨R, ow, (Stp.refl h), rfl, rfl, rfl⟩
  · exact ⟨R, ow, (Stp.refl h), rfl, rfl, rfl⟩

theorem HR.freezes : ∀ (l : List Nat) {st : St (sem T)} {R : Nat → Prop} {ow : Nat → Option Owner}, HR P w0 R0 bl vs R ow st.boxes st.ents w →
    ∃ R' ow', Stp P w0 R0 bl vs ow st bl vs R' ow' (freezeIds st l) w ∧ (freezeIds st l).tmps = st.tmps ∧ (freezeIds st l).boxes = st.boxes ∧ (freezeIds st l).ents.length = st.ents.length
  | [], st, R, ow, h => ⟨R, ow, (Stp.refl h), rfl, rfl, rfl⟩
  | id :: l, st, R, ow, h => by
    obtain ⟨R1, ow1, h1, t1, b1, l1⟩ := h.freeze id
    obtain ⟨R2, ow2, h2, t2, b2, l2⟩ := HR.freezes l h1.hr
    exact ⟨R2, ow2, h1.trans h2, t2.trans t1, b2.trans b1, l2.trans l1⟩

theorem HR.freezeVs : ∀ (l : List (SV (sem T))) {st : St (sem T)} {R : Nat → Prop} {ow : Nat → Option Owner}, HR P w0 R0 bl vs R ow st.boxes st.ents w →
    ∃ R' ow', Stp P w0 R0 bl vs ow st bl vs R' ow' (freezeVals st l) w ∧ (freezeVals st l).tmps = st.tmps ∧ (freezeVals st l).boxes = st.boxes ∧ (freezeVals st l).ents.length = st.ents.length
  | [], st, R, ow, h => ⟨R, ow, (Stp.refl h), rfl, rfl, rfl⟩
  | v :: l, st, R, ow, h => by
    cases v with
    | sl id =>
      obtain ⟨R1, ow1, h1, t1, b1, l1⟩ := h.freeze id
      obtain ⟨R2, ow2, h2, t2, b2, l2⟩ := HR.freezeVs l h1.hr
      exact ⟨R2, ow2, h1.trans h2, t2.trans t1, b2.trans b1, l2.trans l1⟩
    | _ => exact HR.freezeVs l h

/-! ### Leaves -/

theorem toCl_sound (hl : HR P w0 R0 bl vs R ow st.boxes st.ents w) {kk : K} {s : SV (sem T)} {c : CS} (h : toCl st.ents kk s = some c) {v : Value} (hs : SVR bl vs s v) :
    Rd P w (fun b => b < w.heap.size) c.toD kk v := by
  unfold toCl at h
  split at h
  · split at h
    · rename_i k k' x hk
      have : k = k' := by simpa using hk
      subst this
      cases h
      exact ⟨k, rfl, hs.1, hs.2⟩
    · cases h
  · rename_i b
    cases h
    have hs : v = .bool b := hs
    subst hs
    cases b <;> exact ⟨rfl, rfl⟩
  · rename_i b
    cases h
    exact ⟨rfl, hs⟩
  · rename_i y
    cases h
    exact ⟨rfl, hs⟩
  · rename_i e id
    split at h
    · rename_i en hen
      split at h
      · rename_i hc
        simp only [Bool.and_eq_true, beq_iff_eq] at hc
        obtain ⟨hlive, rfl⟩ := hc
        cases h
        obtain ⟨u, hu, h1, h2⟩ := hl.ent id en hen hlive
        have hs : vs[id]? = some v := hs
        rw [hu] at hs; cases hs
        cases ho : en.own
        · exact (h1 ho).mono (fun b hb => hl.rlt b hb) (fun _ _ => rfl)
        · exact (h2 ho).rd.mono (fun b hb => hb.elim (hl.rlt b) (fun hb => (hl.olt b _ hb).2)) (fun _ _ => rfl)
      · cases h
    · cases h
  · rename_i e'
    cases h
    have hs : v = .slice none 0 0 := hs
    subst hs
    exact ⟨e', none, 0, rfl, rfl, Nat.le_refl _, Nat.zero_le _, fun _ => rfl, fun ks i j kk _ hi => absurd hi (Nat.not_lt_zero _)⟩
  · cases h


theorem toCl_flat (hl : HR P w0 R0 bl vs R ow st.boxes st.ents w) {kk : K} {s : SV (sem T)} {c : CS} (h : toCl st.ents kk s = some c) {v : Value} (hs : SVR bl vs s v)
    (hn : ∀ id, s ≠ .sl id) : Rd P w R c.toD kk v := by
  unfold toCl at h
  split at h
  · split at h
    · rename_i k k' x hk
      have : k = k' := by simpa using hk
      subst this
      cases h
      exact ⟨k, rfl, hs.1, hs.2⟩
    · cases h
  · rename_i b
    cases h
    have hs : v = .bool b := hs
    subst hs
    cases b <;> exact ⟨rfl, rfl⟩
  · rename_i b
    cases h
    exact ⟨rfl, hs⟩
  · rename_i y
    cases h
    exact ⟨rfl, hs⟩
  · rename_i e id
    exact absurd rfl (hn id)
  · rename_i e'
    cases h
    have hs : v = .slice none 0 0 := hs
    subst hs
    exact ⟨e', none, 0, rfl, rfl, Nat.le_refl _, Nat.zero_le _, fun _ => rfl, fun ks i j kk _ hi => absurd hi (Nat.not_lt_zero _)⟩
  · cases h

theorem toClR_sound (hl : HR P w0 R0 bl vs R ow st.boxes st.ents w) {kk : K} {s : SV (sem T)} {c : CS} (h : toClR st.ents kk s = some c) {v : Value} (hs : SVR bl vs s v) :
    Rd P w R c.toD kk v := by
  unfold toClR at h
  split at h
  · rename_i id
    split at h
    · rename_i en hen
      split at h
      · cases h
      · rename_i hown
        unfold toCl at h
        split at h
        · rename_i heq; cases heq
        · rename_i heq; cases heq
        · rename_i heq; cases heq
        · rename_i heq; cases heq
        · rename_i e id' heq
          cases heq
          rw [hen] at h
          simp only at h
          split at h
          · rename_i hc
            simp only [Bool.and_eq_true, beq_iff_eq] at hc
            obtain ⟨hlive, rfl⟩ := hc
            cases h
            obtain ⟨u, hu, h1, h2⟩ := hl.ent id en hen hlive
            have hs : vs[id]? = some v := hs
            rw [hu] at hs; cases hs
            exact h1 (by simpa using hown)
          · cases h
        · rename_i heq; cases heq
        · cases h
    · cases h
  · rename_i hne
    exact toCl_flat hl h hs (fun id e => hne id e)

theorem toClsR_sound (hl : HR P w0 R0 bl vs R ow st.boxes st.ents w) : ∀ {ks : List K} {s : List (SV (sem T))} {cs : List CS}, toClsR st.ents ks s = some cs → ∀ {v : List Value}, SVRs bl vs s v →
    cs.length = ks.length ∧ v.length = ks.length ∧ ∀ (j : Nat) (kk : K), ks[j]? = some kk → ∃ c u, cs[j]? = some c ∧ v[j]? = some u ∧ Rd P w R c.toD kk u
  | [], [], cs, h, v, hs => by
    simp only [toClsR, Option.some.injEq] at h
    subst h
    cases v with
    | nil => exact ⟨rfl, rfl, by simp⟩
    | cons => exact hs.elim
  | k :: ks, x :: s, cs, h, v, hs => by
    cases v with
    | nil => exact hs.elim
    | cons u v =>
      simp only [toClsR] at h
      split at h
      · rename_i c cs' hc hcs
        cases h
        obtain ⟨h1, h2, h3⟩ := toClsR_sound hl hcs hs.2
        refine ⟨by simp [h1], by simp [h2], fun j kk hj => ?_⟩
        cases j with
        | zero => simp at hj; subst hj; exact ⟨c, u, rfl, rfl, toClR_sound hl hc hs.1⟩
        | succ j => simpa using h3 j kk (by simpa using hj)
      · cases h
  | [], _ :: _, _, h, _, _ => by simp [toClsR] at h
  | _ :: _, [], _, h, _, _ => by simp [toClsR] at h

theorem toCls_sound (hl : HR P w0 R0 bl vs R ow st.boxes st.ents w) : ∀ {ks : List K} {s : List (SV (sem T))} {cs : List CS}, toCls st.ents ks s = some cs → ∀ {v : List Value}, SVRs bl vs s v →
    cs.length = ks.length ∧ v.length = ks.length ∧ ∀ (j : Nat) (kk : K), ks[j]? = some kk → ∃ c u, cs[j]? = some c ∧ v[j]? = some u ∧ Rd P w (fun b => b < w.heap.size) c.toD kk u
  | [], [], cs, h, v, hs => by
    simp only [toCls, Option.some.injEq] at h
    subst h
    cases v with
    | nil => exact ⟨rfl, rfl, by simp⟩
    | cons => exact hs.elim
  | k :: ks, x :: s, cs, h, v, hs => by
    cases v with
    | nil => exact hs.elim
    | cons u v =>
      simp only [toCls] at h
      split at h
      · rename_i c cs' hc hcs
        cases h
        obtain ⟨h1, h2, h3⟩ := toCls_sound hl hcs hs.2
        refine ⟨by simp [h1], by simp [h2], fun j kk hj => ?_⟩
        cases j with
        | zero => simp at hj; subst hj; exact ⟨c, u, rfl, rfl, toCl_sound hl hc hs.1⟩
        | succ j => simpa using h3 j kk (by simpa using hj)
      · cases h
  | [], _ :: _, _, h, _, _ => by simp [toCls] at h
  | _ :: _, [], _, h, _, _ => by simp [toCls] at h

theorem Rd.one {d : D} {kk : K} {v : Value} (h : Rd P w R d kk v) : v.oneCell' = true := by
  cases d with
  | int n => obtain ⟨ik, _, rfl, _⟩ := h; rfl
  | bool b => obtain ⟨_, rfl⟩ := h; rfl
  | str s => obtain ⟨_, rfl⟩ := h; rfl
  | sl n f => obtain ⟨e, a, cap, _, rfl, _⟩ := h; rfl

theorem row_idx {L n i j : Nat} (hi : i < n) (hj : j < L) : i * L + j < n * L := by
  calc i * L + j < i * L + L := by omega
    _ = (i + 1) * L := by rw [Nat.add_mul, Nat.one_mul]
    _ ≤ n * L := Nat.mul_le_mul_right _ hi

theorem row_inj {L i j i' j' : Nat} (hj : j < L) (hj' : j' < L) (h : i * L + j = i' * L + j') : i = i' ∧ j = j' := by
  have h1 : (i * L + j) / L = i := by rw [Nat.mul_comm, Nat.mul_add_div (by omega), Nat.div_eq_of_lt hj]; omega
  have h2 : (i' * L + j') / L = i' := by rw [Nat.mul_comm, Nat.mul_add_div (by omega), Nat.div_eq_of_lt hj']; omega
  have : i = i' := by rw [← h1, ← h2, h]
  subst this
  exact ⟨rfl, by omega⟩

/-- An own row's content is replaced. -/
theorem HR.setRowEnt (h : HR P w0 R0 bl vs R ow st.boxes st.ents w) {id b : Nat} {en : Ent (sem T)} {cs cs' : Array Value} {s' : Sl} {v : Value} {ver : Nat} {a : Option Addr} {cap : Nat} (hi : st.ents[id]? = some en) (_hl : en.live = true)
    (hown : en.own = true) (hv : vs[id]? = some v) (hve : v = .slice a s'.n cap) (h1 : s'.n ≤ cap) (h2 : cap ≤ maxLen) (ha : a = some ⟨b, 0, none⟩) (ho : ow b = some (.ent id)) (hw : w.heap[b]? = some (.cells cs en.elem (0, 0)))
    (hver : en.ver < ver) (hc : ∀ ks, kinds P en.elem = some ks → cs'.size = cap * ks.length ∧ ∀ j k kk, j < s'.n → ks[k]? = some kk → ∃ u, cs'[j * ks.length + k]? = some u ∧ Rd P w R (s'.f j k) kk u) :
    Stp P w0 R0 bl vs ow st bl vs R ow { st with ents := st.ents.set id { en with s := s', ver := ver } } (w.setRow b cs') where
  bl := fun _ _ x => x
  vs := fun _ _ x => x
  ext := Ext.of_set_ent (i := id) (bx := { en with s := s', ver := ver }) rfl rfl (fun b0 h0 => by rw [hi] at h0; cases h0; exact hver)
  mrk := fun _ x => x
  hr := by
    have hR : ∀ x, R x → (w.setRow b cs').heap[x]? = w.heap[x]? := fun x hx => setRow_other w b x cs' (fun e => by rw [e] at hx; rw [h.ro b hx] at ho; cases ho)
    exact {
    below := h.below.trans ⟨by simp, by simp, by simp, by simp, fun x hx => setRow_other w b x cs' (fun e => by have := (h.olt b _ ho).1; omega)⟩
    rlt := fun x hx => by simpa using h.rlt x hx
    r0 := h.r0
    rsub := h.rsub
    ro := h.ro
    olt := fun x q hx => by simpa using h.olt x q hx
    nb := h.nb
    nv := by simp [h.nv]
    vsl := h.vsl
    box := fun j bj hj hlj => by
      obtain ⟨b2, cs2, h1, h2, h3, h4⟩ := h.box j bj hj hlj
      have hne2 : b2 ≠ b := fun e => by rw [e, ho] at h2; cases h2
      exact ⟨b2, cs2, h1, h2, (setRow_other w b b2 cs' hne2).trans h3, h4⟩
    ent := fun j e hj hlj => by
      rcases get_set_inv hj with ⟨rfl, rfl⟩ | ⟨hne, hj⟩
      · refine ⟨v, hv, (fun hh => by rw [hown] at hh; cases hh), fun _ => ⟨a, cap, hve, h1, h2, (fun hh => by rw [ha] at hh; cases hh), .inr ⟨b, cs', ha, ho, setRow_heap w b cs cs' _ _ hw, fun ks hks => ⟨(hc ks hks).1, fun q k kk hq hk => ?_⟩⟩⟩⟩
        obtain ⟨u, hu, hr⟩ := (hc ks hks).2 q k kk hq hk
        exact ⟨u, hu, hr.mono (fun _ x => x) hR⟩
      · obtain ⟨u, hu, h1, h2⟩ := h.ent j e hj hlj
        exact ⟨u, hu, fun hown => (h1 hown).mono (fun _ x => x) hR, fun hown => (h2 hown).mono (fun _ x => x) hR (fun x hx => ⟨hx, setRow_other w b x cs' (fun e => by rw [e, ho] at hx; cases hx; exact hne rfl)⟩)⟩
    mrk := fun x hx => (setRow_other w b x cs' (fun e => by rw [e, ho] at hx; cases hx)).trans (h.mrk x hx)
    lp := fun j L hj => by
      obtain ⟨bj, x, g1, g2, g3, g4, g5⟩ := h.lp j L hj
      have hxb : x ≠ b := fun e => by rw [e, ho] at g4; cases g4
      exact ⟨bj, x, g1, g2, g3, g4, g5.mono (setRow_other w b x cs' hxb) (fun _ _ x => x) (fun _ _ x => x)⟩ }

theorem eff_store_ent (h : HR P w0 R0 bl vs R ow st.boxes st.ents w) (ht : TR bl vs st.tmps a) {t : TypeId} {x v : Operand} (ho : o.op = .store t x v) {n id sz off : Nat} {i : Int} (hs : sizeT P t = some n) (hx : st.ev x = .eptr id sz i off)
    (hd : (eStoreEnt P st t v n id sz i off k).den) : EffOk P w0 R0 bl vs ow st a w o k := by
  unfold eStoreEnt at hd
  split at hd
  · rename_i en hen
    split at hd
    · rename_i ks hks
      split at hd
      · rename_i hc
        simp only [Bool.and_eq_true, beq_iff_eq, decide_eq_true_eq] at hc
        obtain ⟨⟨⟨⟨hlive, hown⟩, hn⟩, hoff⟩, rfl⟩ := hc
        split at hd
        · rename_i cls en' hcls hen'
          split at hd
          · rename_i hver
            have hver : en'.ver = en.ver := by simpa using hver
            obtain ⟨R1, ow1, hS, htm, hbx, hlen⟩ := h.freezeVs (cellsOf (st.ev v))
            obtain ⟨en1, hen1, _, hsame⟩ := hS.ext.ent id en hen
            rw [hen'] at hen1; cases hen1
            have : en' = en := hsame hver
            subst this
            have hxv := ev_sound ht x
            rw [hx] at hxv
            obtain ⟨ad, len, cap, g1, g2, ⟨g3, g4⟩, hv⟩ := hxv
            obtain ⟨u0, hu0, _, hO⟩ := hS.hr.ent id en' hen' hlive
            rw [g1] at hu0; cases hu0
            obtain ⟨a0, cap0, he0, k1, k2, k3, k4⟩ := hO hown
            cases he0
            rcases k4 with k4 | ⟨b, cs, hab, hob, hcs, hcont⟩
            · omega
            · cases hab
              obtain ⟨hsz, hcell⟩ := hcont ks hks
              have hallc : ∀ {ks' : List K} {s : List (SV (sem T))} {cs : List CS}, toClsR (freezeVals st (cellsOf (st.ev v))).ents ks' s = some cs → s.all isCell = true := by
                intro ks'
                induction ks' with
                | nil => intro s cs hh; cases s with
                  | nil => rfl
                  | cons => simp [toClsR] at hh
                | cons kk ks' ih => intro s cs hh; cases s with
                  | nil => rfl
                  | cons y s =>
                    simp only [toClsR] at hh
                    split at hh
                    · rename_i c cs' h1 h2
                      simp only [List.all_cons, Bool.and_eq_true]
                      refine ⟨?_, ih h2⟩
                      cases y <;> first | rfl | (simp [toClR, toCl] at h1; done) | skip
                      rename_i cv
                      simp only [toClR] at h1
                      unfold toCl at h1
                      split at h1 <;> first | cases h1; done | rfl | (rename_i heq; cases heq; done) | skip
                      all_goals (rename_i heq; cases heq; rfl)
                    · cases hh
              have hcs' := cells_sound h.vsl (ev_sound ht v) (hallc hcls)
              obtain ⟨c1, c2, c3⟩ := toClsR_sound hS.hr hcls hcs'
              simp only [Array.length_toList] at c2
              have hilt : i.toNat < en'.s.n := by omega
              have hL : (List.take n (List.drop off ks)).length = n := by simp; omega
              have hfit : i.toNat * ks.length + off + n ≤ cs.size := by
                rw [hsz]
                have : i.toNat * ks.length + ks.length ≤ cap * ks.length := by
                  calc i.toNat * ks.length + ks.length = (i.toNat + 1) * ks.length := by rw [Nat.add_mul, Nat.one_mul]
                    _ ≤ cap * ks.length := Nat.mul_le_mul_right _ (by omega)
                omega
              have hone : ∀ u ∈ (a.eval v).cells.toList, u.oneCell' = true := by
                intro u hu
                obtain ⟨j, hj⟩ := List.mem_iff_getElem?.1 hu
                have hjl : j < (List.take n (List.drop off ks)).length := by
                  have := (List.getElem?_eq_some_iff.1 hj).1
                  simp only [Array.length_toList] at this
                  omega
                obtain ⟨c, u', _, hu', hr⟩ := c3 j _ (List.getElem?_eq_getElem hjl)
                rw [hj] at hu'; cases hu'
                exact hr.one
              have hrun := run_storeCells_at P b (i.toNat * ks.length + off) en'.elem (a.eval v).cells.toList 0 cs w hcs (by simp only [Array.length_toList]; omega) hone
              simp only [Nat.add_zero] at hrun
              obtain ⟨ii, hi, hsi⟩ := size_inv hs
              refine ⟨undef, _, .inr ⟨?_, rfl⟩, .con (.tuple #[]), _, bl, vs, R1, ow1, hS.trans (hS.hr.setRowEnt hen' hlive hown g1 (s' := (sem T).upd en'.s i off cls) (ver := en'.ver + 1) rfl k1 k2 rfl hob hcs
                (cs' := (cs.toList.take (i.toNat * ks.length + off) ++ (a.eval v).cells.toList ++ cs.toList.drop (i.toNat * ks.length + off + (a.eval v).cells.toList.length)).toArray) (by omega) ?_), htm, rfl, hd⟩
              · have hne : ¬ (a.eval v).cells.size ≠ ii.size := by omega
                simp only [execOp, ho, Instr.storeAt, hv, Instr.sureAddr, Sem.run_bind, Sem.run_pure, Result.andThen_ok, storeVar, run_sizeOf' hi, if_neg hne]
                simp only [Nat.zero_add] at hrun ⊢
                rw [hrun]
                rfl
              · intro ks2 hks2
                rw [hks] at hks2; cases hks2
                refine ⟨by simp; omega, fun j q kk hj hq => ?_⟩
                have hq' : q < ks.length := (List.getElem?_eq_some_iff.1 hq).1
                have hj' : j < en'.s.n := hj
                obtain ⟨u0, hu0, hr0⟩ := hcell j q kk hj' hq
                have hpos := row_idx (L := ks.length) (n := cap) (i := j) (j := q) (by omega) hq'
                simp only [Sl.upd]
                by_cases hin : j = i.toNat ∧ off ≤ q ∧ q < off + (List.map Cl.toD cls).length
                · obtain ⟨rfl, hq1, hq2⟩ := hin
                  simp only [List.length_map] at hq2
                  have hqn : q - off < (List.take n (List.drop off ks)).length := by omega
                  obtain ⟨c, u, hcj, huj, hr⟩ := c3 (q - off) kk (by rw [List.getElem?_take, if_pos (by omega), List.getElem?_drop]; rw [show off + (q - off) = q by omega]; exact hq)
                  refine ⟨u, ?_, ?_⟩
                  · rw [List.getElem?_toArray, List.getElem?_append_left (by simp; omega), List.getElem?_append_right (by simp; omega)]
                    simp only [List.length_take, Array.length_toList]
                    rw [show i.toNat * ks.length + q - min (i.toNat * ks.length + off) cs.size = q - off by omega]
                    exact huj
                  · rw [if_pos ⟨rfl, hq1, by simpa using hq2⟩]
                    rw [List.getD_eq_getElem?_getD, List.getElem?_map, hcj]
                    exact hr
                · rw [if_neg hin]
                  refine ⟨u0, ?_, hr0⟩
                  have hout : j * ks.length + q < i.toNat * ks.length + off ∨ i.toNat * ks.length + off + n ≤ j * ks.length + q := by
                    rcases Nat.lt_trichotomy j i.toNat with hlt | heq | hgt
                    · left
                      have := row_idx (L := ks.length) (n := i.toNat) (i := j) (j := q) hlt hq'
                      omega
                    · subst heq
                      simp only [true_and, not_and, Nat.not_lt, List.length_map] at hin
                      by_cases hoq : off ≤ q
                      · right; have := hin hoq; omega
                      · left; omega
                    · right
                      have := Nat.mul_le_mul_right ks.length (show i.toNat + 1 ≤ j by omega)
                      rw [Nat.add_mul, Nat.one_mul] at this
                      omega
                  have hu0' : cs.toList[j * ks.length + q]? = some u0 := by simpa using hu0
                  rcases hout with hout | hout
                  · rw [List.getElem?_toArray, List.getElem?_append_left (by simp; omega), List.getElem?_append_left (by simp; omega), List.getElem?_take, if_pos hout]
                    exact hu0'
                  · rw [List.getElem?_toArray, List.getElem?_append_right (by simp; omega), List.getElem?_drop]
                    simp only [List.length_append, List.length_take, Array.length_toList]
                    rw [show i.toNat * ks.length + off + (a.eval v).cells.size + (j * ks.length + q - (min (i.toNat * ks.length + off) cs.size + (a.eval v).cells.size)) = j * ks.length + q by omega]
                    exact hu0'
          · exact hd.elim
        · exact hd.elim
      · exact hd.elim
    · exact hd.elim
  · exact hd.elim

end Go.Sx
