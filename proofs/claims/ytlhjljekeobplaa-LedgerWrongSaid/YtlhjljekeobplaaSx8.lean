/-
  The remaining operations that make or write memory, and all of them together. Conditions: the symbolic state relates to the model's.
-/
import Derived.Test.YtlhjljekeobplaaSx7
namespace Go.Sx
open Go.RowKit (Below)

variable {T : FuncId → Pred} {P : Program} {w0 w : World} {R0 : Bs T} {R : Nat → Prop} {bl : List Nat} {vs : List Value} {ow : Nat → Option Owner}
variable {st : St (sem T)} {a : Act} {o : Oper} {k : SV (sem T) → St (sem T) → Tree (sem T)}

/-- One more entry, readable. -/
theorem HR.newRo (h : HR P w0 R0 bl vs R ow st.boxes st.ents w) {e : TypeId} {s : Sl} {v : Value} (hr : Rd P w R (.sl s.n s.f) (.sl e) v) :
    Stp P w0 R0 bl vs ow st bl (vs ++ [v]) R ow (addEnt st e s false) w :=
  ⟨h.pushRo hr, fun _ _ x => x, fun _ _ => get_append_lt, Ext.of_append (nb := []) (ne := [⟨e, s, false, true, 0⟩]) (by simp [addEnt]) rfl, fun _ x => x⟩

theorem HR.ent_last (h : HR P w0 R0 bl vs R ow st.boxes st.ents w) {v : Value} : (vs ++ [v])[st.ents.length]? = some v := by
  rw [← h.nv]; exact vs_last

theorem nest_sound {rg : Bool} {s : Sl} {i : Int} {f : Nat → Value} : ∀ {ks : List K} {j : Nat} {st : St (sem T)} {vs : List Value}, HR P w0 R0 bl vs R ow st.boxes st.ents w →
    (∀ n kk, ks[n]? = some kk → Rd P w R (s.f i.toNat (j + n)) kk (f (j + n))) →
    ∃ vs', Stp P w0 R0 bl vs ow st bl vs' R ow (nestCells (A := sem T) s i ks j st).2 w ∧ (nestCells (A := sem T) s i ks j st).2.tmps = st.tmps ∧
      SVRs bl vs' (nestCells (A := sem T) s i ks j st).1 ((List.range' j ks.length).map f) ∧ ∀ q ∈ elemGivens (A := sem T) P rg s i ks j, q
  | [], j, st, vs, h, _ => ⟨vs, (Stp.refl h), rfl, trivial, by simp [elemGivens]⟩
  | .int k :: ks, j, st, vs, h, hf => by
    obtain ⟨vs', h1, h2, h3, h4⟩ := nest_sound (ks := ks) (j := j + 1) h (fun n kk hn => by have := hf (n + 1) kk (by simpa using hn); rw [show j + 1 + n = j + (n + 1) by omega]; exact this)
    have h0 := hf 0 _ rfl
    simp only [Nat.add_zero] at h0
    have hd : f j = .int k (Sl.int s i j) ∧ k.min ≤ Sl.int s i j ∧ Sl.int s i j ≤ k.max := by
      unfold Sl.int
      cases hd : s.f i.toNat j with
      | int n => rw [hd] at h0; obtain ⟨ik, hk, hv, h3, h4⟩ := h0; cases hk; exact ⟨hv, h3, h4⟩
      | bool b => rw [hd] at h0; exact absurd h0.1 (by simp)
      | str b => rw [hd] at h0; exact absurd h0.1 (by simp)
      | sl n g => rw [hd] at h0; obtain ⟨e, _, _, hk, _⟩ := h0; cases hk
    refine ⟨vs', h1, h2, ?_, ?_⟩
    · simp only [nestCells, List.length_cons, List.range'_succ, List.map_cons]
      exact ⟨⟨hd.1, hd.2⟩, h3⟩
    · intro q hq
      simp only [elemGivens, List.mem_cons] at hq
      rcases hq with hq | hq
      · rw [hq]; exact hd.2
      · exact h4 q hq
  | .bool :: ks, j, st, vs, h, hf => by
    obtain ⟨vs', h1, h2, h3, h4⟩ := nest_sound (ks := ks) (j := j + 1) h (fun n kk hn => by have := hf (n + 1) kk (by simpa using hn); rw [show j + 1 + n = j + (n + 1) by omega]; exact this)
    have h0 := hf 0 _ rfl
    simp only [Nat.add_zero] at h0
    have hd : f j = .bool (Sl.bool s i j) := by
      unfold Sl.bool
      cases hd : s.f i.toNat j with
      | int n => rw [hd] at h0; obtain ⟨ik, hk, _⟩ := h0; cases hk
      | bool b => rw [hd] at h0; exact h0.2
      | str b => rw [hd] at h0; exact absurd h0.1 (by simp)
      | sl n g => rw [hd] at h0; obtain ⟨e, _, _, hk, _⟩ := h0; cases hk
    refine ⟨vs', h1, h2, ?_, ?_⟩
    · simp only [nestCells, List.length_cons, List.range'_succ, List.map_cons]
      refine ⟨?_, h3⟩
      rw [hd]; simp [SVR, PB.b]
    · intro q hq
      simp only [elemGivens] at hq
      exact h4 q hq
  | .str :: ks, j, st, vs, h, hf => by
    obtain ⟨vs', h1, h2, h3, h4⟩ := nest_sound (ks := ks) (j := j + 1) h (fun n kk hn => by have := hf (n + 1) kk (by simpa using hn); rw [show j + 1 + n = j + (n + 1) by omega]; exact this)
    have h0 := hf 0 _ rfl
    simp only [Nat.add_zero] at h0
    have hd : f j = .string (Sl.str s i j) := by
      unfold Sl.str
      cases hd : s.f i.toNat j with
      | int n => rw [hd] at h0; obtain ⟨ik, hk, _⟩ := h0; cases hk
      | bool b => rw [hd] at h0; exact absurd h0.1 (by simp)
      | str b => rw [hd] at h0; exact h0.2
      | sl n g => rw [hd] at h0; obtain ⟨e, _, _, hk, _⟩ := h0; cases hk
    refine ⟨vs', h1, h2, ?_, ?_⟩
    · simp only [nestCells, List.length_cons, List.range'_succ, List.map_cons]
      exact ⟨hd, h3⟩
    · intro q hq
      simp only [elemGivens] at hq
      exact h4 q hq
  | .sl e :: ks, j, st, vs, h, hf => by
    have h0 := hf 0 _ rfl
    simp only [Nat.add_zero] at h0
    have hd : Rd P w R (.sl (Sl.sub s i j).n (Sl.sub s i j).f) (.sl e) (f j) := by
      unfold Sl.sub
      cases hd : s.f i.toNat j with
      | int n => rw [hd] at h0; obtain ⟨ik, hk, _⟩ := h0; cases hk
      | bool b => rw [hd] at h0; exact absurd h0.1 (by simp)
      | str b => rw [hd] at h0; exact absurd h0.1 (by simp)
      | sl n g => rw [hd] at h0; exact h0
    have hS := h.newRo hd
    obtain ⟨vs', h1, h2, h3, h4⟩ := nest_sound (ks := ks) (j := j + 1) hS.hr (fun n kk hn => by have := hf (n + 1) kk (by simpa using hn); rw [show j + 1 + n = j + (n + 1) by omega]; exact this)
    refine ⟨vs', hS.trans h1, h2, ?_, ?_⟩
    · simp only [nestCells, List.length_cons, List.range'_succ, List.map_cons]
      exact ⟨h1.vs _ _ h.ent_last, h3⟩
    · intro q hq
      simp only [elemGivens] at hq
      split at hq
      · simp only [List.mem_cons] at hq
        rcases hq with hq | hq
        · rw [hq]; exact ranged_rd hd
        · exact h4 q hq
      · exact h4 q hq

theorem eff_load (h : HR P w0 R0 bl vs R ow st.boxes st.ents w) (ht : TR bl vs st.tmps a) {t : TypeId} {x : Operand} (ho : o.op = .load t x) (hd : (eLoad P st t x k).den) : EffOk P w0 R0 bl vs ow st a w o k := by
  have hx := ev_sound ht x
  unfold eLoad at hd
  split at hd
  · exact hd.elim
  rename_i hu
  have hu : (P.underlying t).isSome = true := by
    cases hh : P.underlying t with
    | none => simp [hh] at hu
    | some d => rfl
  split at hd
  · rename_i id sz i off ksT n hxx hkT hs
    rw [hxx] at hx
    obtain ⟨i', rfl⟩ : ∃ i' : Int, i' = i := ⟨i, rfl⟩
    obtain ⟨ad, len, cap, h1, h2, ⟨h3, h4⟩, hv⟩ := hx
    split at hd
    · rename_i en hen
      split at hd
      · rename_i ks hks
        split at hd
        · rename_i hc
          simp only [Bool.and_eq_true, decide_eq_true_eq, beq_iff_eq] at hc
          obtain ⟨⟨hlive, hoff⟩, rfl⟩ := hc
          simp only at hd
          split at hd
          · rename_i sv hp
            obtain ⟨v0, hv0, a0, cap0, he0, hn1, hn2, ha0, hcells⟩ := h.look.ent id en hen hlive
            rw [h1] at hv0; cases hv0
            cases he0
            have hi : i'.toNat < en.s.n := by omega
            have hcell : ∀ j kk, ks[j]? = some kk → ∃ u, w.cell? ⟨ad.block, ad.off + (i'.toNat * ks.length + j), none⟩ = some u ∧ Rd P w R (en.s.f i'.toNat j) kk u := fun j kk hj => by
              obtain ⟨ad', u, hA, hB, hC, hD⟩ := hcells ks i'.toNat j kk hks hi hj
              cases hA
              exact ⟨u, hC, hD⟩
            obtain ⟨vs', g1, g2, g3, g4⟩ := nest_sound (rg := st.rg) (T := T) (P := P) (w := w) (R := R) (s := en.s) (i := i') (f := fun j => (w.cell? ⟨ad.block, ad.off + (i'.toNat * ks.length + j), none⟩).getD undef) (ks := (ks.drop off).take n) (j := off) h (fun m kk hm => by
              rw [List.getElem?_take] at hm
              split at hm
              · rw [List.getElem?_drop] at hm
                obtain ⟨u, hu1, hu2⟩ := hcell (off + m) kk hm
                simp only [hu1, Option.getD_some]; exact hu2
              · cases hm)
            obtain ⟨u, hrun, hsv⟩ := run_loadVar' (P := P) (w := w) (bl := bl) (vs := vs') hs (b := ad.block) (off := ad.off + (i'.toNat * ks.length + off)) (vals := (List.range' off ((ks.drop off).take n).length).map fun j => (w.cell? ⟨ad.block, ad.off + (i'.toNat * ks.length + j), none⟩).getD undef) (by simp; omega) (fun j u hj => by
              simp only [List.getElem?_map, Option.map_eq_some_iff] at hj
              obtain ⟨m, hm, rfl⟩ := hj
              obtain ⟨hlt, rfl⟩ := range'_get hm
              simp only [List.length_take, List.length_drop] at hlt
              obtain ⟨kk, hkk⟩ : ∃ kk, ks[off + j]? = some kk := ⟨ks[off + j]'(by omega), by simp⟩
              obtain ⟨u, hu1, _⟩ := hcell (off + j) kk hkk
              rw [show ad.off + (i'.toNat * ks.length + off) + j = ad.off + (i'.toNat * ks.length + (off + j)) by omega]
              simp only [hu1, Option.getD_some]) hp g3 hu
            refine ⟨u, w, .inl ?_, sv, _, bl, vs', R, ow, g1, g2, hsv, (givens_den.1 hd) g4⟩
            simp only [execOp, ho, hv, Instr.loadAt, Instr.sureAddr, Sem.run_bind, Sem.run_pure, Result.andThen_ok, hrun]
          · exact hd.elim
        · exact hd.elim
      · exact hd.elim
    · exact hd.elim
  · exact hd.elim

theorem HR.world (h : HR P w0 R0 bl vs R ow st.boxes st.ents w) : ∀ (b : Nat), w0.heap.size ≤ w.heap.size := fun _ => h.below.size

/-- A new row that is the state's own. -/
theorem HR.newOwn (h : HR P w0 R0 bl vs R ow st.boxes st.ents w) {e : TypeId} {s : Sl} {cap : Nat} {cs : Array Value} {w1 : World} (hw1 : Below w.heap.size w w1) (hh : w1.heap[w.heap.size]? = some (.cells cs e (0, 0)))
    (h1 : s.n ≤ cap) (h2 : cap ≤ maxLen) (hc : ∀ ks, kinds P e = some ks → cs.size = cap * ks.length ∧ ∀ j k kk, j < s.n → ks[k]? = some kk → ∃ u, cs[j * ks.length + k]? = some u ∧ Rd P w R (s.f j k) kk u) :
    ∃ ow', Stp P w0 R0 bl vs ow st bl (vs ++ [.slice (some ⟨w.heap.size, 0, none⟩) s.n cap]) R ow' (addEnt st e s true) w1 := by
  have hg := h.grow hw1
  obtain ⟨ow', hO, hmk⟩ := hg.pushOwn (e := e) (s := s) (a := some ⟨w.heap.size, 0, none⟩) (cap := cap) rfl h1 h2 (fun hh => by cases hh)
    (.inr ⟨w.heap.size, cs, rfl, h.below.size, h.not_R_new, (fun i hh => by rw [h.not_own_new] at hh; cases hh), (fun _ hh => by rw [h.not_own_new] at hh; cases hh), (fun i en hh => by rw [h.not_own_new] at hh; cases hh), hh, fun ks hks => ⟨(hc ks hks).1, fun j k kk hj hk => by
      obtain ⟨u, hu, hr⟩ := (hc ks hks).2 j k kk hj hk
      exact ⟨u, hu, hr.mono (fun _ x => x) (fun b hb => hw1.block b (h.rlt b hb))⟩⟩⟩)
  exact ⟨ow', hO, fun _ _ x => x, fun _ _ => get_append_lt, Ext.of_append (nb := []) (ne := [⟨e, s, true, true, 0⟩]) (by simp [addEnt]) rfl, hmk⟩

theorem toCl_nil {ents : List (Ent (sem T))} {kk : K} {x : SV (sem T)} {c : CS} (h : toCl ([] : List (Ent (sem T))) kk x = some c) : toCl ents kk x = some c ∧ ∀ id, x ≠ .sl id := by
  unfold toCl at h
  split at h
  · exact ⟨h, fun id hh => by cases hh⟩
  · exact ⟨h, fun id hh => by cases hh⟩
  · exact ⟨h, fun id hh => by cases hh⟩
  · exact ⟨h, fun id hh => by cases hh⟩
  · simp at h
  · exact ⟨h, fun id hh => by cases hh⟩
  · cases h

theorem zeroCls_inv (hl : HR P w0 R0 bl vs R ow st.boxes st.ents w) {e : TypeId} {z : List CS} (h : zeroCls (A := sem T) P e = some z) : ∃ ks i v, kinds P e = some ks ∧ P.info? e = some i ∧ i.size = ks.length ∧ i.zero = some v ∧ v.cells.size = ks.length ∧
    z.length = ks.length ∧ ∀ (j : Nat) (kk : K), ks[j]? = some kk → ∃ c u, z[j]? = some c ∧ v.cells[j]? = some u ∧ Rd P w R c.toD kk u := by
  unfold zeroCls at h
  split at h
  · rename_i ks zc hks hz
    obtain ⟨i, v, hi, hzv, hs⟩ := zeroCells_sound (bl := bl) (vs := vs) hz
    obtain ⟨i2, hi2, hsz, _⟩ := kinds_inv hks
    rw [hi] at hi2; cases hi2
    have key : ∀ {ks : List K} {s : List (SV (sem T))} {cs : List CS}, toCls ([] : List (Ent (sem T))) ks s = some cs → ∀ {v : List Value}, SVRs bl vs s v →
        cs.length = ks.length ∧ v.length = ks.length ∧ ∀ (j : Nat) (kk : K), ks[j]? = some kk → ∃ c u, cs[j]? = some c ∧ v[j]? = some u ∧ Rd P w R c.toD kk u := by
      intro ks
      induction ks with
      | nil => intro s cs hh v hv; cases s with
        | nil =>
          simp only [toCls, Option.some.injEq] at hh
          subst hh
          cases v with
          | nil => exact ⟨rfl, rfl, by simp⟩
          | cons => exact hv.elim
        | cons => simp [toCls] at hh
      | cons kk ks ih => intro s cs hh v hv; cases s with
        | nil => simp [toCls] at hh
        | cons x s => cases v with
          | nil => exact hv.elim
          | cons u v =>
            simp only [toCls] at hh
            split at hh
            · rename_i c cs' hc hcs
              cases hh
              obtain ⟨h1, h2, h3⟩ := ih hcs hv.2
              refine ⟨by simp [h1], by simp [h2], fun j kk' hj => ?_⟩
              cases j with
              | zero =>
                simp at hj; subst hj
                refine ⟨c, u, rfl, rfl, ?_⟩
                have hc' := toCl_nil (ents := st.ents) hc
                exact toCl_flat hl hc'.1 hv.1 hc'.2
              | succ j => simpa using h3 j kk' (by simpa using hj)
            · cases hh
    obtain ⟨h1, h2, h3⟩ := key h hs
    refine ⟨ks, i, v, hks, hi, hsz, hzv, by simpa using h2, h1, fun j kk hj => ?_⟩
    obtain ⟨c, u, hc, hu, hr⟩ := h3 j kk hj
    exact ⟨c, u, hc, by simpa using hu, hr⟩
  · cases h

theorem bytes_inv {t : TypeId} {n : Nat} (h : bytesT P t = some n) : ∃ i, P.info? t = some i ∧ i.bytes = n := by
  unfold bytesT at h
  obtain ⟨i, hi, rfl⟩ := Option.map_eq_some_iff.1 h
  exact ⟨i, hi, rfl⟩

theorem madeCells_get {z : Array Value} {c L : Nat} (hz : z.size = L) {j q : Nat} (hj : j < c) (hq : q < L) : (madeCells z (c * L))[j * L + q]? = z[q]? := by
  have h := row_idx (L := L) (n := c) hj hq
  have hmod : (j * L + q) % L = q := by rw [Nat.mul_comm, Nat.mul_add_mod, Nat.mod_eq_of_lt hq]
  simp only [madeCells, Array.getElem?_map]
  rw [Array.getElem?_eq_getElem (by simpa using h)]
  simp [hz, hmod, hq]

theorem eff_makeSlice (h : HR P w0 R0 bl vs R ow st.boxes st.ents w) (ht : TR bl vs st.tmps a) {t : TypeId} {len cap : Operand} (ho : o.op = .makeSlice t len cap) (hd : (eMakeSlice P st t len cap k).den) : EffOk P w0 R0 bl vs ow st a w o k := by
  have hl := ev_sound ht len
  have hc := ev_sound ht cap
  unfold eMakeSlice at hd
  split at hd
  · rename_i e n c he hnn hcc
    rw [hnn] at hl
    rw [hcc] at hc
    obtain ⟨n', rfl⟩ : ∃ i' : Int, i' = n := ⟨n, rfl⟩
    obtain ⟨c', rfl⟩ : ∃ i' : Int, i' = c := ⟨c, rfl⟩
    split at hd
    · rename_i z by_ hz hby
      obtain ⟨hns, hk⟩ := needs_den.1 hd
      simp only [List.mem_cons, List.not_mem_nil, or_false, forall_eq_or_imp, forall_eq, sem, arithS] at hns
      obtain ⟨h0, h1, h2⟩ := hns
      obtain ⟨ks, i, v, hks, hi, hsz, hzv, hvs, hzl, hzc⟩ := zeroCls_inv h hz
      obtain ⟨i2, hi2, hbb⟩ := bytes_inv hby
      rw [hi] at hi2; cases hi2
      have hcmax : c' ≤ 9223372036854775807 := by have := hc.2.2; simpa [IntKind.max, IntKind.signed, IntKind.bits] using this
      have hr := run_make (P := P) w t e i v (elem_inv he) hi hzv .i64 .i64 n' c' h0 h1 (by subst hbb; have : (i.bytes : Int) * c' = c' * (i.bytes : Int) := Int.mul_comm _ _; omega) hcmax
      obtain ⟨ow', hS⟩ := h.newOwn (e := e) (s := Sl.rep n' (z.map Cl.toD)) (cap := c'.toNat) (cs := madeCells v.cells (c'.toNat * i.size)) ((Below.refl _ _).alloc (Nat.le_refl _) _) (heap_alloc_new w _) (by simp only [Sl.rep]; omega) (by unfold maxLen; omega)
        (fun ks2 hks2 => by
          rw [hks] at hks2; cases hks2
          refine ⟨by rw [size_madeCells, hsz], fun j q kk hj hq => ?_⟩
          obtain ⟨cl, u, hcl, hu, hr⟩ := hzc q kk hq
          have hq' : q < ks.length := (List.getElem?_eq_some_iff.1 hq).1
          refine ⟨u, ?_, ?_⟩
          · rw [hsz, madeCells_get (L := ks.length) hvs (by have : (Sl.rep n' (z.map Cl.toD)).n = n'.toNat := rfl; omega) hq']; exact hu
          · simp only [Sl.rep]
            rw [List.getD_eq_getElem?_getD, List.getElem?_map, hcl]
            exact hr)
      refine ⟨_, _, .inl ?_, .sl st.ents.length, _, bl, _, R, ow', hS, rfl, h.ent_last, hk⟩
      simp only [execOp, ho, hl.1, hc.1, Sem.run_bind, hr, Result.andThen_ok, Sem.run_pure]
      rfl
    · exact hd.elim
  · exact hd.elim

end Go.Sx
