/-
  A slice's literal, a part of a slice, append; and all operations that make or write memory together. Conditions: the symbolic state relates to the model's.
-/
import Derived.Test.YtlhjljekeobplaaSx8
import Derived.Lib.SliceRun
import Derived.Lib.AppendZeros
import Derived.WalkSpells
namespace Go.Sx
open Go.RowKit (Below)

variable {T : FuncId → Pred} {P : Program} {w0 w : World} {R0 : Bs T} {R : Nat → Prop} {bl : List Nat} {vs : List Value} {ow : Nat → Option Owner}
variable {st : St (sem T)} {a : Act} {o : Oper} {k : SV (sem T) → St (sem T) → Tree (sem T)}

theorem fill_rows {L len : Nat} : ∀ (l : List (Nat × Value)) (s : Nat) (cells : Array Value), l.map (·.1) = List.range' s l.length → s + l.length ≤ len → cells.size = len * L → (∀ p ∈ l, p.2.cells.size = L) →
    ∃ cs, Instr.fill (fun i => some (i * L, L)) cells l = some cs ∧ cs.size = cells.size ∧ (∀ q, q < s * L → cs[q]? = cells[q]?) ∧
      ∀ (i : Nat) (p : Nat × Value), l[i]? = some p → ∀ j, j < L → cs[(s + i) * L + j]? = p.2.cells[j]?
  | [], s, cells, _, _, _, _ => ⟨cells, rfl, rfl, fun _ _ => rfl, fun i p h => by simp at h⟩
  | (i0, v) :: l, s, cells, hm, hl, hsz, hv => by
    simp only [List.map_cons, List.length_cons, List.range'_succ, List.cons.injEq] at hm
    obtain ⟨rfl, hm⟩ := hm
    simp only [List.length_cons] at hl
    have hvs : v.cells.size = L := hv (i0, v) (by simp)
    have hfit : i0 * L + L ≤ cells.size := by
      rw [hsz, ← Nat.succ_mul]
      exact Nat.mul_le_mul_right _ (by omega)
    have hset := fold_set v.cells.toList 0 (i0 * L) cells (by simp; omega)
    have hlen : ((v.cells.zipIdx.foldl (fun cs (p : Value × Nat) => cs.setIfInBounds (i0 * L + p.2) p.1) cells)).size = cells.size := by
      have := congrArg List.length hset
      rw [← Array.foldl_toList, Array.toList_zipIdx]
      simp only [Array.length_toList, Nat.add_zero, List.length_append, List.length_take, List.length_drop] at this
      omega
    obtain ⟨cs, h1, h2, h3, h4⟩ := fill_rows l (i0 + 1) _ hm (by omega) (hlen.trans hsz) (fun p hp => hv p (by simp [hp]))
    refine ⟨cs, ?_, h2.trans hlen, ?_, ?_⟩
    · simp only [Instr.fill]
      rw [if_neg (by simp; omega)]
      exact h1
    · intro q hq
      rw [h3 q (by rw [Nat.add_mul, Nat.one_mul]; omega)]
      have hh : ((v.cells.zipIdx.foldl (fun cs (p : Value × Nat) => cs.setIfInBounds (i0 * L + p.2) p.1) cells)).toList[q]? = cells.toList[q]? := by
        rw [← Array.foldl_toList, Array.toList_zipIdx, hset, Nat.add_zero, List.append_assoc, List.getElem?_append_left (by simp; omega), List.getElem?_take, if_pos hq]
      simpa using hh
    · intro i p hi j hj
      cases i with
      | zero =>
        simp at hi
        subst hi
        rw [Nat.add_zero, h3 _ (by rw [Nat.add_mul, Nat.one_mul]; omega)]
        have hh : ((v.cells.zipIdx.foldl (fun cs (p : Value × Nat) => cs.setIfInBounds (i0 * L + p.2) p.1) cells)).toList[i0 * L + j]? = v.cells.toList[j]? := by
          rw [← Array.foldl_toList, Array.toList_zipIdx, hset, Nat.add_zero, List.getElem?_append_left (by simp; omega), List.getElem?_append_right (by simp; omega)]
          simp only [List.length_take, Array.length_toList]
          rw [show i0 * L + j - min (i0 * L) cells.size = j by omega]
        simpa using hh
      | succ i =>
        have := h4 i p (by simpa using hi) j hj
        rw [show i0 + 1 + i = i0 + (i + 1) by omega] at this
        exact this

theorem toClR_cell {ents : List (Ent (sem T))} {kk : K} {y : SV (sem T)} {c : CS} (h : toClR ents kk y = some c) : isCell y = true := by
  cases y <;> first | rfl | (simp [toClR, toCl] at h; done) | skip
  rename_i cv
  simp only [toClR] at h
  unfold toCl at h
  split at h <;> first | cases h; done | rfl | (rename_i heq; cases heq; done) | skip
  all_goals (rename_i heq; cases heq; rfl)

theorem toClsR_cells {ents : List (Ent (sem T))} : ∀ {ks : List K} {s : List (SV (sem T))} {cs : List CS}, toClsR ents ks s = some cs → s.all isCell = true
  | _, [], _, _ => rfl
  | [], _ :: _, _, h => by simp [toClsR] at h
  | k :: ks, x :: s, cs, h => by
    simp only [toClsR] at h
    split at h
    · rename_i c cs' hc hcs
      simp only [List.all_cons, Bool.and_eq_true]
      exact ⟨toClR_cell hc, toClsR_cells hcs⟩
    · cases h

theorem parts_sound (hl : HR P w0 R0 bl vs R ow st.boxes st.ents w) {ks : List K} : ∀ {s : List (SV (sem T))} {l : List (List CS)}, partsCls st.ents ks s = some l → ∀ {v : List Value}, SVRs bl vs s v →
    l.length = v.length ∧ ∀ (i : Nat) (u : Value), v[i]? = some u → u.cells.size = ks.length ∧ ∃ cs, l[i]? = some cs ∧ ∀ (j : Nat) (kk : K), ks[j]? = some kk → ∃ c x, cs[j]? = some c ∧ u.cells[j]? = some x ∧ Rd P w R c.toD kk x
  | [], l, h, v, hv => by
    simp only [partsCls, Option.some.injEq] at h
    subst h
    cases v with
    | nil => exact ⟨rfl, by simp⟩
    | cons => exact hv.elim
  | x :: s, l, h, v, hv => by
    cases v with
    | nil => exact hv.elim
    | cons u v =>
      simp only [partsCls] at h
      split at h
      · rename_i c cs hc hcs
        cases h
        obtain ⟨h1, h2⟩ := parts_sound hl hcs hv.2
        refine ⟨by simp [h1], fun i y hi => ?_⟩
        cases i with
        | zero =>
          simp at hi; subst hi
          obtain ⟨g1, g2, g3⟩ := toClsR_sound hl hc (cells_sound hl.vsl hv.1 (toClsR_cells hc))
          refine ⟨by simpa using g2, c, rfl, fun j kk hj => ?_⟩
          obtain ⟨cc, x, a1, a2, a3⟩ := g3 j kk hj
          exact ⟨cc, x, a1, by simpa using a2, a3⟩
        | succ i => simpa using h2 i y (by simpa using hi)
      · cases h

theorem eff_buildSlice (h : HR P w0 R0 bl vs R ow st.boxes st.ents w) (ht : TR bl vs st.tmps a) {t : TypeId} {len : Nat} {parts : Array (Nat × Operand)} (ho : o.op = .buildSlice t len parts) (hd : (eBuildSlice P st t len parts k).den) : EffOk P w0 R0 bl vs ow st a w o k := by
  unfold eBuildSlice at hd
  split at hd
  · rename_i e he
    split at hd
    · rename_i ks hks
      split at hd
      · rename_i hc
        simp only [Bool.and_eq_true, beq_iff_eq, decide_eq_true_eq] at hc
        obtain ⟨⟨hidx, hsmall⟩, hpos⟩ := hc
        split at hd
        · rename_i l z hl hz
          obtain ⟨R1, ow1, hS, htm, hbx, hlen⟩ := h.freezeVs (parts.toList.flatMap fun p => cellsOf (st.ev p.2))
          obtain ⟨ks2, i, v, hks2, hi, hsz, hzv, hvs, hzl, hzc⟩ := zeroCls_inv h hz
          rw [hks] at hks2; cases hks2
          have hpv : SVRs bl vs (parts.toList.map fun p => st.ev p.2) (parts.toList.map fun p => a.eval p.2) := by
            have := evs_sound ht (parts.toList.map (·.2))
            rw [List.map_map, List.map_map] at this
            exact this
          obtain ⟨g1, g2⟩ := parts_sound hS.hr hl hpv
          have hlen' : parts.toList.length = len := by
            have := congrArg List.length hidx
            simpa using this
          have hpl : ((parts.map fun p => (p.1, a.eval p.2)).toList).map (·.1) = List.range' 0 ((parts.map fun p => (p.1, a.eval p.2)).toList).length := by
            simp only [Array.toList_map, List.map_map, List.length_map, hlen']
            rw [← List.range_eq_range', ← hidx]
            rfl
          obtain ⟨cs, f1, f2, _, f4⟩ := fill_rows (L := ks.length) (len := len) ((parts.map fun p => (p.1, a.eval p.2)).toList) 0 ((Array.range (len * ks.length)).map ((if len * ks.length = 0 then #[] else v.cells)[· % (if len * ks.length = 0 then #[] else v.cells).size]!)) hpl (by simp at hlen' ⊢; omega) (by simp) (fun p hp => by
            simp only [Array.toList_map, List.mem_map] at hp
            obtain ⟨q, hq, rfl⟩ := hp
            obtain ⟨n, hn⟩ := List.mem_iff_getElem?.1 hq
            exact (g2 n (a.eval q.2) (by simp [hn])).1)
          have hcell : ∀ j q kk, j < len → ks[q]? = some kk → ∃ u, cs[j * ks.length + q]? = some u ∧ Rd P w R1 ((Sl.lit (l.map fun cs => cs.map Cl.toD)).f j q) kk u := by
            intro j q kk hj hq
            obtain ⟨p, hp⟩ : ∃ p, parts.toList[j]? = some p := ⟨parts.toList[j]'(by omega), by simp⟩
            obtain ⟨_, cl, hcl, hh⟩ := g2 j (a.eval p.2) (by simp at hp; simp [hp])
            obtain ⟨c, x, a1, a2, a3⟩ := hh q kk hq
            have := f4 j (p.1, a.eval p.2) (by simp at hp; simp [hp]) q (List.getElem?_eq_some_iff.1 hq).1
            refine ⟨x, ?_, ?_⟩
            · rw [Nat.zero_add] at this
              rw [this]; exact a2
            · simp only [Sl.lit, List.getD_eq_getElem?_getD, List.getElem?_map, hcl, Option.map_some, Option.getD_some, a1]
              exact a3
          have hn : (Sl.lit (l.map fun cs => cs.map Cl.toD)).n = len := by simp [Sl.lit, g1]; simpa using hlen'
          obtain ⟨ow', hO⟩ := hS.hr.newOwn (e := e) (s := Sl.lit (l.map fun cs => cs.map Cl.toD)) (cap := len) (cs := cs) ((Below.refl _ _).alloc (Nat.le_refl _) _) (heap_alloc_new w _) (by omega) (by unfold maxLen; have := Nat.le_mul_of_pos_right len hpos; omega)
            (fun ks3 hks3 => by rw [hks] at hks3; cases hks3; exact ⟨f2.trans (by simp), fun j q kk hj hq => hcell j q kk (by omega) hq⟩)
          refine ⟨.slice (some ⟨w.heap.size, 0, none⟩) (Sl.lit (l.map fun cs => cs.map Cl.toD)).n len, _, .inl ?_, .sl st.ents.length, _, bl, _, R1, ow', hS.trans hO, htm, ?_, hd⟩
          · have hsm : ¬ len * ks.length > 2 ^ 24 := by omega
            simp only [execOp, ho, Instr.buildSlice, Sem.run_bind, run_underlying (elem_inv he), Result.andThen_ok, run_sizeOf' hi, hsz, if_neg hsm, Sem.run_pure]
            by_cases hzz : len * ks.length = 0
            · simp only [hzz, if_true, Sem.run_pure, Result.andThen_ok] at f1 ⊢
              have hpp : (Array.map (fun x => (x.1, a.eval x.2)) parts).toList = (parts.map fun p => (p.1, a.eval p.2)).toList := rfl
              simp only [hpp, f1, newRow, Sem.run_bind, run_newObj, Result.andThen_ok, Sem.run_pure, hn]
              rfl
            · simp only [hzz, if_false, Sem.run_bind, run_zero hi hzv, Result.andThen_ok, Sem.run_pure] at f1 ⊢
              have hpp : (Array.map (fun x => (x.1, a.eval x.2)) parts).toList = (parts.map fun p => (p.1, a.eval p.2)).toList := rfl
              simp only [hpp, f1, newRow, Sem.run_bind, run_newObj, Result.andThen_ok, Sem.run_pure, hn]
              rfl
          · have := hS.hr.ent_last (v := Value.slice (some ⟨w.heap.size, 0, none⟩) (Sl.lit (l.map fun cs => cs.map Cl.toD)).n len)
            rw [hlen] at this
            exact this
        · exact hd.elim
      · exact hd.elim
    · exact hd.elim
  · exact hd.elim


/-! ### A part of a slice -/

theorem HR.kill (h : HR P w0 R0 bl vs R ow st.boxes st.ents w) (id : Nat) : Stp P w0 R0 bl vs ow st bl vs R ow (killEnt st id) w ∧ (killEnt st id).tmps = st.tmps ∧ (killEnt st id).ents.length = st.ents.length ∧
    ∀ en, st.ents[id]? = some en → ∃ en', (killEnt st id).ents[id]? = some en' ∧ en'.live = false := by
  unfold killEnt
  split
  · rename_i e he
    refine ⟨⟨h.dead id _ rfl, fun _ _ x => x, fun _ _ x => x, Ext.of_set_ent (i := id) (bx := { e with live := false, ver := e.ver + 1 }) rfl rfl (fun b0 h0 => by rw [he] at h0; cases h0; simp), fun _ x => x⟩, rfl, by simp, fun en hen => ⟨_, set_get_same he, rfl⟩⟩
  · rename_i he
    exact ⟨(Stp.refl h), rfl, rfl, fun en hen => by rw [he] at hen; cases hen⟩

/-- The own slice of an entry goes over to a new one, with another content of the same row. -/
theorem HR.moveOwn (h : HR P w0 R0 bl vs R ow st.boxes st.ents w) {id : Nat} {en : Ent (sem T)} (hen : st.ents[id]? = some en) (hlive : en.live = true) (hown : en.own = true) {s' : Sl} (hs : s'.n ≤ en.s.n)
    (hf : ∀ j k, j < s'.n → s'.f j k = en.s.f j k) :
    ∃ a cap ow', vs[id]? = some (.slice a en.s.n cap) ∧ Stp P w0 R0 bl vs ow st bl (vs ++ [.slice a s'.n cap]) R ow' (addEnt (killEnt st id) en.elem s' true) w := by
  obtain ⟨v, hv, _, hO⟩ := h.ent id en hen hlive
  obtain ⟨a, cap, rfl, h1, h2, ha, hc⟩ := hO hown
  obtain ⟨hK, _, hlen, hdead⟩ := h.kill id
  obtain ⟨en', hen', hd'⟩ := hdead en hen
  obtain ⟨ow', hP, hmk⟩ := hK.hr.pushOwn (e := en.elem) (s := s') (a := a) (cap := cap) rfl (by omega) h2 ha (by
    rcases hc with hc | ⟨b, cs, hab, hob, hcs, hcont⟩
    · exact .inl hc
    · refine .inr ⟨b, cs, hab, (h.olt b _ hob).1, (fun hr => by rw [h.ro b hr] at hob; cases hob), (fun i hi => by rw [hob] at hi; cases hi), (fun _ hi => by rw [hob] at hi; cases hi), (fun i en2 hi hi2 => by
        rw [hob] at hi; cases hi
        rw [hen'] at hi2; cases hi2
        exact .inl hd'), hcs, fun ks hks => ⟨(hcont ks hks).1, fun j k kk hj hk => ?_⟩⟩
      obtain ⟨u, hu, hr⟩ := (hcont ks hks).2 j k kk (by omega) hk
      rw [hf j k hj]
      exact ⟨u, hu, hr⟩)
  exact ⟨a, cap, ow', hv, hP, fun _ _ x => x, fun _ _ => get_append_lt, hK.ext.trans (Ext.of_append (nb := []) (ne := [⟨en.elem, s', true, true, 0⟩]) (by simp [addEnt]) rfl), hmk⟩

theorem sub_rd {e : TypeId} {s : Sl} {a : Option Addr} {cap : Nat} {l h : Nat} {i : TypeInfo} (hi : P.info? e = some i) (hk : (kinds P e).isSome = true) (hr : Rd P w R (.sl s.n s.f) (.sl e) (.slice a s.n cap)) (h1 : l ≤ h) (h2 : h ≤ s.n) :
    Rd P w R (.sl (h - l) fun p q => s.f (l + p) q) (.sl e) (sliced a l h cap i.size) := by
  obtain ⟨e', a', cap', he', hv, g1, g2, g3, g4⟩ := hr
  cases he'; cases hv
  obtain ⟨ks, hks⟩ := Option.isSome_iff_exists.1 hk
  obtain ⟨i2, hi2, hsz, _⟩ := kinds_inv hks
  rw [hi] at hi2; cases hi2
  refine ⟨e, _, _, rfl, rfl, by omega, by omega, ?_, fun ks2 p q kk hks2 hp hq => ?_⟩
  · intro hn
    split at hn
    · omega
    · cases a with
      | none => have := g3 rfl; omega
      | some ad => cases hn
  · rw [hks] at hks2; cases hks2
    obtain ⟨ad, u, ha, hs, hR, hc, hd⟩ := g4 ks (l + p) q kk hks (by omega) hq
    subst ha
    have hne : ¬ cap = l := by omega
    refine ⟨⟨ad.block, ad.off + l * ks.length, none⟩, u, ?_, rfl, hR, ?_, hd⟩
    · rw [if_neg hne, hsz]
      obtain ⟨bb, oo, ss⟩ := ad
      cases hs
      simp [Addr.add_lit]
    · rw [show ad.off + l * ks.length + (p * ks.length + q) = ad.off + ((l + p) * ks.length + q) by rw [Nat.add_mul]; omega]
      exact hc

theorem run_sliceAt4 {t e : TypeId} {i : TypeInfo} (he : P.underlying t = some (.slice e)) (hi : P.info? e = some i) {a : Option Addr} {len cap : Nat} {lo hi' : Option Value} {l h : Int}
    (hlo : (lo = none ∧ l = 0) ∨ ∃ k, lo = some (.int k l)) (hhi : (hi' = none ∧ h = len) ∨ ∃ k, hi' = some (.int k h)) (h0 : 0 ≤ l) (h1 : l ≤ h) (h2 : h ≤ len) (hc : len ≤ cap) :
    (Instr.sliceAt t (.slice a len cap) lo hi' none).run P w = .ok (sliced a l.toNat h.toNat cap i.size) w := by
  have hE : P.elem t = e := by simp [Program.elem, he]
  have ht : P.underlying t = some (.slice (P.elem t)) := by rw [hE]; exact he
  rw [run_sliceAt_slice (h := ht)]
  have hsz : (sizeOf (P.elem t)).run P w = .ok i.size w := by rw [hE]; exact run_sizeOf' hi
  rcases hlo with ⟨rfl, rfl⟩ | ⟨k1, rfl⟩ <;> rcases hhi with ⟨rfl, rfl⟩ | ⟨k2, rfl⟩
  · rw [run_slice_all (ht := ht), hsz]; simp
  · rw [run_slice_h (ht := ht) (h0 := by omega) (h2 := by omega), hsz]; simp
  · rw [run_slice_l (ht := ht) (h0 := h0) (h1 := h1), hsz]; simp
  · rw [run_slice_lh (ht := ht) (h0 := h0) (h1 := h1) (h2 := by omega), hsz]; simp

theorem constInt_ev {x : Operand} {n : Int} (h : constInt x = some n) : ∃ k, a.eval x = .int k n := by
  unfold constInt at h
  split at h
  · rename_i k m; cases h; exact ⟨k, rfl⟩
  · cases h

theorem eff_slice (h : HR P w0 R0 bl vs R ow st.boxes st.ents w) (ht : TR bl vs st.tmps a) {t : TypeId} {x : Operand} {lo hi mx : Option Operand} (ho : o.op = .slice t x lo hi mx) (hd : (eSlice P st t x lo hi mx k).den) : EffOk P w0 R0 bl vs ow st a w o k := by
  have hx := ev_sound ht x
  unfold eSlice at hd
  split at hd
  · exact hd.elim
  rename_i hkk
  split at hd
  · rename_i e he hxx
    rw [hxx] at hx
    have hxv : a.eval x = .slice none 0 0 := hx
    have hkk : (kinds P e).isSome = true := by
      simp only [elemsKnown, he] at hkk
      cases hh : kinds P e with
      | none => simp [hh] at hkk
      | some _ => rfl
    obtain ⟨ks, hks⟩ := Option.isSome_iff_exists.1 hkk
    obtain ⟨i, hinfo, _, _⟩ := kinds_inv hks
    split at hd
    · exact hd.elim
    · split at hd
      · rename_i l h' hl hh
        obtain ⟨l', rfl⟩ : ∃ i' : Int, i' = l := ⟨l, rfl⟩
        obtain ⟨h'', rfl⟩ : ∃ i' : Int, i' = h' := ⟨h', rfl⟩
        have hlo : (lo.map a.eval = none ∧ l' = 0) ∨ ∃ k, lo.map a.eval = some (.int k l') := by
          cases lo with
          | none => left; simp only [Option.some.injEq] at hl; exact ⟨rfl, hl.symm⟩
          | some lx =>
            right
            have hlx := ev_sound ht lx
            simp only at hl
            split at hl
            · rename_i k y hy
              rw [hy] at hlx
              cases hl
              exact ⟨k, congrArg some hlx.1⟩
            · cases hl
        have hhi : (hi.map a.eval = none ∧ h'' = ((0 : Nat) : Int)) ∨ ∃ k, hi.map a.eval = some (.int k h'') := by
          cases hi with
          | none => left; simp only [Option.some.injEq] at hh; exact ⟨rfl, hh.symm⟩
          | some hx' =>
            right
            have hlx := ev_sound ht hx'
            simp only at hh
            split at hh
            · rename_i k y hy
              rw [hy] at hlx
              cases hh
              exact ⟨k, congrArg some hlx.1⟩
            · cases hh
        obtain ⟨hns, hd⟩ := needs_den.1 hd
        simp only [List.mem_cons, List.not_mem_nil, or_false, forall_eq_or_imp, forall_eq, sem] at hns
        obtain ⟨h0, h1, h2⟩ := hns
        have hrun : (execOp a.eval o).run P w = .ok (.value (.slice none 0 0)) w := by
          simp only [execOp, ho, hxv, Option.map_none, Sem.run_bind, run_sliceAt4 (elem_inv he) hinfo hlo hhi h0 h1 h2 (Nat.le_refl 0), Result.andThen_ok, Sem.run_pure]
          have e1 : l'.toNat = 0 := by omega
          have e2 : h''.toNat = 0 := by omega
          rw [e1, e2]
          simp [sliced]
        exact ⟨_, w, .inl hrun, .con (.slice none 0 0), st, bl, vs, R, ow, Stp.refl h, rfl, rfl, hd⟩
      · exact hd.elim
  · rename_i e id he hxx
    rw [hxx] at hx
    have hx : vs[id]? = some (a.eval x) := hx
    have hkk : (kinds P e).isSome = true := by
      simp only [elemsKnown, he] at hkk
      cases hh : kinds P e with
      | none => simp [hh] at hkk
      | some _ => rfl
    obtain ⟨ks, hks⟩ := Option.isSome_iff_exists.1 hkk
    obtain ⟨i, hinfo, hsz, _⟩ := kinds_inv hks
    split at hd
    · rename_i en hen
      split at hd
      · exact hd.elim
      · rename_i hc
        simp only [Bool.not_eq_true', Bool.not_eq_false, Bool.and_eq_true, beq_iff_eq] at hc
        obtain ⟨hlive, rfl⟩ := hc
        obtain ⟨v0, hv0, a0, cap0, he0, hn1, hn2, ha0, hcells⟩ := h.look.ent id en hen hlive
        rw [hx] at hv0
        have hxv : a.eval x = .slice a0 en.s.n cap0 := by rw [Option.some.inj hv0, he0]
        split at hd
        · rename_i m
          split at hd
          · rename_i hm hhi hlo
            obtain ⟨km, hm'⟩ := constInt_ev (a := a) hm
            cases hi with
            | none => cases hhi
            | some hi =>
              simp only [Option.map_some, Option.some.injEq] at hhi
              obtain ⟨kh, hh'⟩ := constInt_ev (a := a) hhi
              cases lo with
              | some lo => cases hlo
              | none =>
                have hE : P.elem t = en.elem := by simp [Program.elem, elem_inv he]
                have htt : P.underlying t = some (.slice (P.elem t)) := by rw [hE]; exact elem_inv he
                have hrun : (execOp a.eval o).run P w = .ok (.value (.slice a0 0 0)) w := by
                  simp only [execOp, ho, hxv, Option.map_some, Option.map_none, hm', hh', Sem.run_bind]
                  rw [run_sliceAt_slice (h := htt), run_slice_hm (ht := htt) (h0 := Int.le_refl 0) (h2 := Int.le_refl 0) (h3 := by omega), hE, run_sizeOf' hinfo]
                  simp [sliced]
                obtain ⟨ow', hP, hmk⟩ := h.pushOwn (e := en.elem) (s := Sl.nil) (v := .slice a0 0 0) (a := a0) (cap := 0) rfl (Nat.le_refl _) (Nat.zero_le _) (fun _ => rfl) (.inl rfl)
                exact ⟨.slice a0 0 0, w, .inl hrun, .sl st.ents.length, addEnt st en.elem Sl.nil true, bl, _, R, ow', ⟨hP, fun _ _ x => x, fun _ _ => get_append_lt, Ext.of_append (nb := []) (ne := [⟨en.elem, Sl.nil, true, true, 0⟩]) (by simp [addEnt]) rfl, hmk⟩, rfl, h.ent_last, hd⟩
          · exact hd.elim
        · split at hd
          · rename_i l h' hl hh
            obtain ⟨l', rfl⟩ : ∃ i' : Int, i' = l := ⟨l, rfl⟩
            obtain ⟨h'', rfl⟩ : ∃ i' : Int, i' = h' := ⟨h', rfl⟩
            have hlo : (lo.map a.eval = none ∧ l' = 0) ∨ ∃ k, lo.map a.eval = some (.int k l') := by
              cases lo with
              | none => left; simp only [Option.some.injEq] at hl; exact ⟨rfl, hl.symm⟩
              | some lx =>
                right
                have hlx := ev_sound ht lx
                simp only at hl
                split at hl
                · rename_i k y hy
                  rw [hy] at hlx
                  cases hl
                  exact ⟨k, congrArg some hlx.1⟩
                · cases hl
            have hhi : (hi.map a.eval = none ∧ h'' = en.s.n) ∨ ∃ k, hi.map a.eval = some (.int k h'') := by
              cases hi with
              | none => left; simp only [Option.some.injEq] at hh; exact ⟨rfl, hh.symm⟩
              | some hx' =>
                right
                have hlx := ev_sound ht hx'
                simp only at hh
                split at hh
                · rename_i k y hy
                  rw [hy] at hlx
                  cases hh
                  exact ⟨k, congrArg some hlx.1⟩
                · cases hh
            simp only at hd
            obtain ⟨hns, hd⟩ := needs_den.1 hd
            simp only [List.mem_cons, List.not_mem_nil, or_false, forall_eq_or_imp, forall_eq, sem, Sl.len] at hns
            obtain ⟨h0, h1, h2⟩ := hns
            have hrun : (execOp a.eval o).run P w = .ok (.value (sliced a0 l'.toNat h''.toNat cap0 i.size)) w := by
              simp only [execOp, ho, hxv, Option.map_none, Sem.run_bind, run_sliceAt4 (elem_inv he) hinfo hlo hhi h0 h1 h2 hn1, Result.andThen_ok, Sem.run_pure]
            cases hown : en.own
            · simp only [hown, partSt, Bool.false_eq_true, if_false, Bool.false_and] at hd
              obtain ⟨u, hu, hR, _⟩ := h.ent id en hen hlive
              rw [hx] at hu
              have hrd := hR hown
              rw [← Option.some.inj hu, hxv] at hrd
              have hsub := sub_rd (l := l'.toNat) (h := h''.toNat) hinfo hkk hrd (by omega) (by omega)
              have hpart : Rd P w R (.sl (Sl.part en.s l' h'').n (Sl.part en.s l' h'').f) (.sl en.elem) (sliced a0 l'.toNat h''.toNat cap0 i.size) := by
                have : h''.toNat - l'.toNat = (h'' - l').toNat := by omega
                rw [this] at hsub
                exact hsub
              exact ⟨_, w, .inl hrun, .sl st.ents.length, _, bl, _, R, ow, h.newRo hpart, rfl, h.ent_last, hd⟩
            · simp only [hown, partSt, if_true, Bool.true_and] at hd
              by_cases hkeep : loZero lo = true
              · simp only [hkeep, if_true] at hd
                have hl0 : l' = 0 := by
                  cases lo with
                  | none => rcases hlo with ⟨_, hh⟩ | ⟨k, hh⟩
                            · exact hh
                            · cases hh
                  | some lx =>
                    simp only [loZero] at hkeep
                    split at hkeep
                    · rename_i hcz
                      obtain ⟨k, hk⟩ := constInt_ev (a := a) hcz
                      rcases hlo with ⟨hh, _⟩ | ⟨k2, hh⟩
                      · cases hh
                      · simp only [Option.map_some, Option.some.injEq, hk, Value.int.injEq] at hh
                        exact hh.2.symm
                    · cases hkeep
                subst hl0
                obtain ⟨a1, cap1, ow', hv1, hS⟩ := h.moveOwn hen hlive hown (s' := Sl.part en.s 0 h'') (by simp only [Sl.part]; omega) (fun j q hj => by simp [Sl.part])
                rw [hx, hxv] at hv1
                cases hv1
                have hval : sliced a0 (0 : Int).toNat h''.toNat cap0 i.size = .slice a0 (Sl.part en.s 0 h'').n cap0 := by
                  simp only [sliced, Int.toNat_zero, Nat.zero_mul, Nat.sub_zero, Sl.part]
                  congr 1
                  · split
                    · rfl
                    · cases a0 with
                      | none => rfl
                      | some ad => simp [Addr.add]
                  · omega
                rw [hval] at hrun
                have hlen := (h.kill id).2.2.1
                refine ⟨_, w, .inl hrun, .sl (killEnt st id).ents.length, _, bl, _, R, ow', hS, (h.kill id).2.1, ?_, hd⟩
                show _ = _
                rw [hlen]
                exact h.ent_last
              · simp only [hkeep, if_false, Bool.false_eq_true] at hd
                obtain ⟨R1, ow1, hS, htm, hbx, hlen⟩ := h.freeze id
                have hfz : (freezeId st id).ents[id]? = some { en with own := false, ver := en.ver + 1 } := by
                  unfold freezeId
                  simp only [hen, hlive, hown, Bool.and_self, if_true]
                  exact set_get_same hen
                obtain ⟨u, hu, hR, _⟩ := hS.hr.ent id _ hfz hlive
                rw [hx] at hu
                have hrd := hR rfl
                rw [← Option.some.inj hu, hxv] at hrd
                have hsub := sub_rd (l := l'.toNat) (h := h''.toNat) hinfo hkk hrd (by omega) (by simp only; omega)
                have hpart : Rd P w R1 (.sl (Sl.part en.s l' h'').n (Sl.part en.s l' h'').f) (.sl en.elem) (sliced a0 l'.toNat h''.toNat cap0 i.size) := by
                  have : h''.toNat - l'.toNat = (h'' - l').toNat := by omega
                  rw [this] at hsub
                  exact hsub
                exact ⟨_, w, .inl hrun, .sl (freezeId st id).ents.length, _, bl, _, R1, ow1, hS.trans (hS.hr.newRo hpart), htm, hS.hr.ent_last, hd⟩
          · exact hd.elim
    · exact hd.elim
  · exact hd.elim


/-! ### append -/

/-- The cells of a slice value, in a list. -/
theorem src_list {e : TypeId} {s : Sl} {ad : Addr} {c : Nat} {ks : List K} (hks : kinds P e = some ks) (hc : Cont P w R e s (.slice (some ad) s.n c)) (hn : 0 < s.n → 0 < ks.length) :
    ∃ news : List Value, news.length = s.n * ks.length ∧ (∀ j u, news[j]? = some u → w.cell? (ad.add j) = some u) ∧ (∀ u ∈ news, u.oneCell' = true) ∧
      ∀ i j kk, i < s.n → ks[j]? = some kk → ∃ u, news[i * ks.length + j]? = some u ∧ Rd P w R (s.f i j) kk u := by
  obtain ⟨a', cap, hv, h1, h2, h3, h4⟩ := hc
  cases hv
  by_cases hz : s.n = 0
  · refine ⟨[], by simp [hz], by simp, by simp, fun i j kk hi => by omega⟩
  · have hL : 0 < ks.length := hn (by omega)
    obtain ⟨k0, hk0⟩ : ∃ kk, ks[0]? = some kk := ⟨ks[0], by simp⟩
    obtain ⟨ad', _, hA, hspot, _⟩ := h4 ks 0 0 k0 hks (by omega) hk0
    cases hA
    have hget : ∀ q, q < s.n * ks.length → ∃ u kk, w.cell? (ad.add q) = some u ∧ ks[q % ks.length]? = some kk ∧ Rd P w R (s.f (q / ks.length) (q % ks.length)) kk u := by
      intro q hq
      have hq1 : q / ks.length < s.n := by rw [Nat.div_lt_iff_lt_mul hL]; exact hq
      have hq2 : q % ks.length < ks.length := Nat.mod_lt _ hL
      obtain ⟨kk, hkk⟩ : ∃ kk, ks[q % ks.length]? = some kk := ⟨ks[q % ks.length], by simp⟩
      obtain ⟨ad', u, hA, _, hc, hd⟩ := h4 ks (q / ks.length) (q % ks.length) kk hks hq1 hkk
      cases hA
      refine ⟨u, kk, ?_, hkk, hd⟩
      have he : ad.add q = ⟨ad.block, ad.off + (q / ks.length * ks.length + q % ks.length), none⟩ := by
        obtain ⟨bb, oo, ss⟩ := ad
        cases hspot
        rw [Addr.add_lit, Nat.mul_comm (q / ks.length), Nat.div_add_mod]
      rw [he]; exact hc
    have hnews : ∀ j u, ((List.range (s.n * ks.length)).map fun q => (w.cell? (ad.add q)).getD undef)[j]? = some u → j < s.n * ks.length ∧ w.cell? (ad.add j) = some u := by
      intro j u hj
      simp only [List.getElem?_map, Option.map_eq_some_iff] at hj
      obtain ⟨q, hq, rfl⟩ := hj
      have hjl : j < s.n * ks.length := by
        rcases Nat.lt_or_ge j (s.n * ks.length) with h' | h'
        · exact h'
        · rw [List.getElem?_eq_none (by simpa using h')] at hq; cases hq
      rw [List.getElem?_range hjl] at hq
      cases hq
      obtain ⟨u, kk, hu, _⟩ := hget j hjl
      exact ⟨hjl, by simp [hu]⟩
    refine ⟨(List.range (s.n * ks.length)).map fun q => (w.cell? (ad.add q)).getD undef, by simp, fun j u hj => (hnews j u hj).2, ?_, ?_⟩
    · intro u hu
      obtain ⟨j, hj⟩ := List.mem_iff_getElem?.1 hu
      obtain ⟨hjl, hcu⟩ := hnews j u hj
      obtain ⟨u', kk, hu', _, hr⟩ := hget j hjl
      rw [hcu] at hu'; cases hu'
      exact hr.one
    · intro i j kk hi hj
      have hj' : j < ks.length := (List.getElem?_eq_some_iff.1 hj).1
      have hidx := row_idx (L := ks.length) (n := s.n) hi hj'
      obtain ⟨ad', u, hA, _, hc, hd⟩ := h4 ks i j kk hks hi hj
      cases hA
      refine ⟨u, ?_, hd⟩
      simp only [List.getElem?_map, List.getElem?_range hidx, Option.map_some]
      obtain ⟨bb, oo, ss⟩ := ad
      cases hspot
      rw [Addr.add_lit]
      simp only at hc
      rw [hc]; rfl

/-- What is known of the slice that is appended to. -/
def DstOk (P : Program) (w : World) (R : Nat → Prop) (e : TypeId) (s : Sl) (a : Option Addr) (cap : Nat) : Prop :=
  s.n ≤ cap ∧ cap ≤ maxLen ∧ (a = none → cap = 0) ∧ (cap = 0 ∨ ∃ (b : Nat) (cs : Array Value), a = some ⟨b, 0, none⟩ ∧ w.heap[b]? = some (.cells cs e (0, 0)) ∧
    ∀ ks, kinds P e = some ks → cs.size = cap * ks.length ∧ ∀ j k kk, j < s.n → ks[k]? = some kk → ∃ u, cs[j * ks.length + k]? = some u ∧ Rd P w R (s.f j k) kk u)

theorem append_core {t ty e : TypeId} {d r : Sl} {a : Option Addr} {cap : Nat} {x : Value} {ks : List K} {i : TypeInfo} {z : Value} (he : P.underlying t = some (.slice e)) (hks : kinds P e = some ks) (hi : P.info? e = some i) (hsz : i.size = ks.length) (hz : i.zero = some z) (hzs : z.cells.size = ks.length)
    (hL : 0 < ks.length) (hby : 0 < i.bytes) (hd : DstOk P w R e d a cap) (hr : Cont P w R e r x) (hbytes : (d.n + r.n) * i.bytes ≤ 140737488355328) :
    (r.n = 0 ∧ (Builtin.append_ #[t, t] ty #[.slice a d.n cap, x]).run P w = .ok (.slice a d.n cap) w) ∨
    (∃ b cs cs', a = some ⟨b, 0, none⟩ ∧ 0 < cap ∧ d.n + r.n ≤ cap ∧ w.heap[b]? = some (.cells cs e (0, 0)) ∧ (Builtin.append_ #[t, t] ty #[.slice a d.n cap, x]).run P w = .ok (.slice a (d.n + r.n) cap) (w.setRow b cs') ∧
      cs'.size = cap * ks.length ∧ ∀ j k kk, j < d.n + r.n → ks[k]? = some kk → ∃ u, cs'[j * ks.length + k]? = some u ∧ Rd P w R ((Sl.app d r).f j k) kk u) ∨
    (∃ cap' cs', d.n + r.n ≤ cap' ∧ cap' ≤ maxLen ∧ (Builtin.append_ #[t, t] ty #[.slice a d.n cap, x]).run P w = .ok (.slice (some ⟨w.heap.size, 0, none⟩) (d.n + r.n) cap') (w.drew.alloc (.cells cs' e)) ∧
      cs'.size = cap' * ks.length ∧ ∀ j k kk, j < d.n + r.n → ks[k]? = some kk → ∃ u, cs'[j * ks.length + k]? = some u ∧ Rd P w R ((Sl.app d r).f j k) kk u) := by
  obtain ⟨h1, h2, h3, h4⟩ := hd
  have hr0 := hr
  obtain ⟨ax, capx, rfl, g1, g2, g3, g4⟩ := hr
  have hsum : d.n + r.n ≤ 140737488355328 := Nat.le_trans (Nat.le_mul_of_pos_right _ hby) hbytes
  by_cases hm : r.n = 0
  · left
    refine ⟨hm, ?_⟩
    have hf : (Builtin.firstCells i.size r.n (.slice ax r.n capx)).run P w = .ok #[] w := by
      cases ax <;> simp [Builtin.firstCells, loadCells, loadCellsFrom, hm]
    have hge : d.n + r.n ≤ cap := by omega
    simp only [Builtin.append_, Sem.run_bind, run_underlying he, Result.andThen_ok, run_sizeOf' hi, Builtin.lenOf, Sem.run_pure, List.getElem?_toArray, List.getElem?_cons_zero, List.getElem?_cons_succ]
    simp [hge, hf, hm, storeCells]
    cases a <;> simp [hm, h1, hf, storeCells, Builtin.firstCells, loadCells, loadCellsFrom]
    all_goals (first | done | (cases ax <;> simp [Builtin.firstCells, loadCells, loadCellsFrom, storeCells]))
  · cases ax with
    | none => have := g3 rfl; omega
    | some adx =>
      obtain ⟨news, n1, n2, n3, n4⟩ := src_list hks hr0 (fun _ => hL)
      rw [← hsz] at n1
      have happ : ∀ (olds : List Value) (rest : List Value), olds.length = d.n * ks.length → (∀ j k kk, j < d.n → ks[k]? = some kk → ∃ u, olds[j * ks.length + k]? = some u ∧ Rd P w R (d.f j k) kk u) →
          ∀ j k kk, j < d.n + r.n → ks[k]? = some kk → ∃ u, (olds ++ news ++ rest)[j * ks.length + k]? = some u ∧ Rd P w R ((Sl.app d r).f j k) kk u := by
        intro olds rest ho hold j k kk hj hk
        have hk' : k < ks.length := (List.getElem?_eq_some_iff.1 hk).1
        rw [hsz] at n1
        simp only [Sl.app]
        by_cases hjd : j < d.n
        · obtain ⟨u, hu, hru⟩ := hold j k kk hjd hk
          have := row_idx (L := ks.length) hjd hk'
          rw [if_pos hjd]
          refine ⟨u, ?_, hru⟩
          rw [List.append_assoc, List.getElem?_append_left (by omega)]
          exact hu
        · obtain ⟨u, hu, hru⟩ := n4 (j - d.n) k kk (by omega) hk
          have h5 := row_idx (L := ks.length) (n := r.n) (i := j - d.n) (j := k) (by omega) hk'
          have h6 : j * ks.length = d.n * ks.length + (j - d.n) * ks.length := by rw [← Nat.add_mul]; congr 1; omega
          rw [if_neg hjd]
          refine ⟨u, ?_, hru⟩
          rw [List.getElem?_append_left (by simp; omega), List.getElem?_append_right (by omega)]
          rw [show j * ks.length + k - olds.length = (j - d.n) * ks.length + k by omega]
          exact hu
      by_cases hroom : d.n + r.n ≤ cap
      · right; left
        rcases h4 with h4 | ⟨b, cs, rfl, hcs, hcont⟩
        · omega
        · obtain ⟨c1, c2⟩ := hcont ks hks
          have hfit : d.n * i.size + news.length ≤ cs.size := by rw [n1, hsz, c1, ← Nat.add_mul]; exact Nat.mul_le_mul_right _ hroom
          have hrun := run_append_room (P := P) w t ty e i he hi b d.n cap cs hcs adx r.n capx news n1 n2 n3 hroom hfit
          refine ⟨b, cs, _, rfl, by omega, hroom, hcs, hrun, ?_, ?_⟩
          · simp
            omega
          · have := happ (cs.toList.take (d.n * i.size)) (cs.toList.drop (d.n * i.size + news.length)) (by rw [hsz]; simp; rw [c1]; exact Nat.min_eq_left (Nat.mul_le_mul_right _ h1)) (fun j k kk hj hk => by
              obtain ⟨u, hu, hru⟩ := c2 j k kk hj hk
              have := row_idx (L := ks.length) hj (List.getElem?_eq_some_iff.1 hk).1
              refine ⟨u, ?_, hru⟩
              rw [List.getElem?_take, if_pos (by rw [hsz]; omega)]
              simpa using hu)
            intro j k kk hj hk
            obtain ⟨u, hu, hru⟩ := this j k kk hj hk
            exact ⟨u, by simpa using hu, hru⟩
      · right; right
        have hcap := grownCap_ge w (d.n + r.n) cap e
        have hcap2 := grownCap_le_maxLen w (d.n + r.n) cap e (by unfold maxLen; omega)
        have hfits := growslice_fits (old := cap) (by omega : cap < d.n + r.n) hbytes
        cases a with
        | none =>
          have hc0 := h3 rfl
          subst hc0
          have hd0 : d.n = 0 := by omega
          have hrun := run_append_nil (P := P) w t ty e i z he hi hz adx r.n capx news n1 n2 (by omega) (by omega) (by rw [hd0, Nat.zero_add] at hbytes; omega)
          refine ⟨grownCap w r.n 0 e, _, by rw [hd0, Nat.zero_add]; exact grownCap_ge w r.n 0 e, grownCap_le_maxLen w r.n 0 e (by unfold maxLen; omega), by rw [hd0, Nat.zero_add]; exact hrun, ?_, ?_⟩
          · have := grownCap_ge w r.n 0 e
            simp only [Array.size_append, List.size_toArray, size_zeroCells, n1, hzs, hsz, ← Nat.add_mul]
            congr 1; omega
          · intro j k kk hj hk
            obtain ⟨u, hu, hru⟩ := happ [] (Builtin.zeroCells z.cells (grownCap w r.n 0 e - r.n)).toList (by simp [hd0]) (fun j k kk hj => by omega) j k kk hj hk
            refine ⟨u, ?_, hru⟩
            rw [← Array.getElem?_toList]
            simpa using hu
        | some adr =>
          have hold : ∃ olds : List Value, olds.length = d.n * i.size ∧ (∀ j v, olds[j]? = some v → w.cell? (adr.add j) = some v) ∧ ∀ j k kk, j < d.n → ks[k]? = some kk → ∃ u, olds[j * ks.length + k]? = some u ∧ Rd P w R (d.f j k) kk u := by
            rcases h4 with h4 | ⟨b, cs, hab, hcs, hcont⟩
            · have hd0 : d.n = 0 := by omega
              exact ⟨[], by simp [hd0], by simp, fun j k kk hj => by omega⟩
            · cases hab
              obtain ⟨c1, c2⟩ := hcont ks hks
              refine ⟨cs.toList.take (d.n * i.size), by rw [hsz]; simp; rw [c1]; exact Nat.min_eq_left (Nat.mul_le_mul_right _ h1), fun j v hj => ?_, fun j k kk hj hk => ?_⟩
              · rw [List.getElem?_take] at hj
                split at hj
                · rw [Addr.add_lit, Nat.zero_add]
                  simp only [World.cell?, hcs]
                  simpa using hj
                · cases hj
              · obtain ⟨u, hu, hru⟩ := c2 j k kk hj hk
                have := row_idx (L := ks.length) hj (List.getElem?_eq_some_iff.1 hk).1
                refine ⟨u, ?_, hru⟩
                rw [List.getElem?_take, if_pos (by rw [hsz]; omega)]
                simpa using hu
          obtain ⟨olds, o1, o2, o3⟩ := hold
          have hrun := run_append_grow (P := P) w t ty e i z he hi hz adr d.n cap olds o1 o2 adx r.n capx news n1 n2 (by omega) (by omega) hfits
          refine ⟨grownCap w (d.n + r.n) cap e, _, hcap, hcap2, hrun, ?_, ?_⟩
          · simp only [Array.size_append, List.size_toArray, size_zeroCells, o1, n1, hzs, hsz, ← Nat.add_mul]
            congr 1; omega
          · intro j k kk hj hk
            obtain ⟨u, hu, hru⟩ := happ olds (Builtin.zeroCells z.cells (grownCap w (d.n + r.n) cap e - (d.n + r.n))).toList (by rw [← hsz]; exact o1) o3 j k kk hj hk
            refine ⟨u, ?_, hru⟩
            rw [← Array.getElem?_toList]
            simpa using hu


theorem HR.setRowDead (h : HR P w0 R0 bl vs R ow st.boxes st.ents w) {id b : Nat} {en : Ent (sem T)} {cs : Array Value} {cs' : Array Value} {e : TypeId} (hen : st.ents[id]? = some en) (hd : en.live = false) (ho : ow b = some (.ent id)) (_hw : w.heap[b]? = some (.cells cs e (0, 0))) :
    HR P w0 R0 bl vs R ow st.boxes st.ents (w.setRow b cs') := by
  have hR : ∀ x, R x → (w.setRow b cs').heap[x]? = w.heap[x]? := fun x hx => setRow_other w b x cs' (fun e => by rw [e] at hx; rw [h.ro b hx] at ho; cases ho)
  exact {
    below := h.below.trans ⟨by simp, by simp, by simp, by simp, fun x hx => setRow_other w b x cs' (fun e => by have := (h.olt b _ ho).1; omega)⟩
    rlt := fun x hx => by simpa using h.rlt x hx
    r0 := h.r0
    rsub := h.rsub
    ro := h.ro
    olt := fun x q hx => by simpa using h.olt x q hx
    nb := h.nb
    nv := h.nv
    vsl := h.vsl
    box := fun j bj hj hlj => by
      obtain ⟨b2, cs2, h1, h2, h3, h4⟩ := h.box j bj hj hlj
      have hne2 : b2 ≠ b := fun e => by rw [e, ho] at h2; cases h2
      exact ⟨b2, cs2, h1, h2, (setRow_other w b b2 cs' hne2).trans h3, h4⟩
    ent := fun j e hj hlj => by
      obtain ⟨u, hu, h1, h2⟩ := h.ent j e hj hlj
      refine ⟨u, hu, fun hown => (h1 hown).mono (fun _ x => x) hR, fun hown => (h2 hown).mono (fun _ x => x) hR (fun x hx => ⟨hx, setRow_other w b x cs' (fun e => ?_)⟩)⟩
      rw [e, ho] at hx
      cases hx
      rw [hen] at hj; cases hj
      rw [hd] at hlj; cases hlj
    mrk := fun x hx => (setRow_other w b x cs' (fun e => by rw [e, ho] at hx; cases hx)).trans (h.mrk x hx)
    lp := fun j L hj => by
      obtain ⟨bj, x, g1, g2, g3, g4, g5⟩ := h.lp j L hj
      have hxb : x ≠ b := fun e => by rw [e, ho] at g4; cases g4
      exact ⟨bj, x, g1, g2, g3, g4, g5.mono (setRow_other w b x cs' hxb) (fun _ _ x => x) (fun _ _ x => x)⟩ }

theorem killEnt_boxes (st : St (sem T)) (id : Nat) : (killEnt st id).boxes = st.boxes := by
  unfold killEnt; split <;> rfl

theorem dst_inv (h : HR P w0 R0 bl vs R ow st.boxes st.ents w) {e : TypeId} {x : SV (sem T)} {d : Sl} {id? : Option Nat} (hd : dstOf st e x = some (d, id?)) {v : Value} (hv : SVR bl vs x v) :
    (∃ id en, id? = some id ∧ st.ents[id]? = some en ∧ en.live = true ∧ en.own = true ∧ en.elem = e ∧ en.s = d ∧ ∃ a cap, v = .slice a d.n cap ∧ vs[id]? = some v ∧ DstOk P w R e d a cap ∧ (∀ b, a = some ⟨b, 0, none⟩ → 0 < cap → ow b = some (.ent id))) ∨
    (id? = none ∧ d = Sl.nil ∧ v = .slice none 0 0) := by
  unfold dstOf at hd
  split at hd
  · rename_i id
    split at hd
    · rename_i en hen
      split at hd
      · rename_i hc
        simp only [Bool.and_eq_true, beq_iff_eq] at hc
        obtain ⟨⟨hlive, hown⟩, rfl⟩ := hc
        cases hd
        left
        obtain ⟨u, hu, _, hO⟩ := h.ent id en hen hlive
        have hv : vs[id]? = some v := hv
        rw [hv] at hu
        obtain ⟨a, cap, rfl, h1, h2, h3, h4⟩ := hO hown
        refine ⟨id, en, rfl, hen, hlive, hown, rfl, rfl, a, cap, Option.some.inj hu, hv, ⟨h1, h2, h3, ?_⟩, ?_⟩
        · rcases h4 with h4 | ⟨b, cs, hab, hob, hcs, hcont⟩
          · exact .inl h4
          · exact .inr ⟨b, cs, hab, hcs, hcont⟩
        · intro b hb hpos
          rcases h4 with h4 | ⟨b', cs, hab, hob, hcs, hcont⟩
          · omega
          · rw [hb] at hab
            cases hab
            exact hob
      · cases hd
    · cases hd
  · cases hd
    exact .inr ⟨rfl, rfl, hv⟩
  · cases hd

theorem src_inv (h : HR P w0 R0 bl vs R ow st.boxes st.ents w) {e : TypeId} {x : SV (sem T)} {r : Sl} (hd : srcOf st e x = some r) {v : Value} (hv : SVR bl vs x v) : Cont P w R e r v := by
  unfold srcOf at hd
  split at hd
  · rename_i id
    split at hd
    · rename_i en hen
      split at hd
      · rename_i hc
        simp only [Bool.and_eq_true, beq_iff_eq] at hc
        obtain ⟨hlive, rfl⟩ := hc
        cases hd
        obtain ⟨u, hu, hcont⟩ := h.look.ent id en hen hlive
        have hv : vs[id]? = some v := hv
        rw [hv] at hu; cases hu
        exact hcont
      · cases hd
    · cases hd
  · cases hd
    have hv : v = .slice none 0 0 := hv
    subst hv
    exact ⟨none, 0, rfl, Nat.le_refl _, Nat.zero_le _, fun _ => rfl, fun ks i j kk _ hi => absurd hi (Nat.not_lt_zero _)⟩
  · cases hd

theorem zeroCells_get {zero : Array Value} {n j q : Nat} (hj : j < n) (hq : q < zero.size) : (Builtin.zeroCells zero n)[j * zero.size + q]? = zero[q]? := by
  have hlt : j * zero.size + q < n * zero.size := row_idx hj hq
  have hm : (j * zero.size + q) % zero.size = q := by rw [Nat.mul_comm, Nat.mul_add_mod, Nat.mod_eq_of_lt hq]
  simp [Builtin.zeroCells, hlt, hm, hq]

theorem run_append_nil_zero0 {P : Program} (w : World) (t tn ty e : TypeId) (i : TypeInfo) (k kn : IntKind) (ht : P.underlying t = some (.slice e)) (htn : P.underlying tn = some (.int kn)) (hi : P.info? e = some i) :
    (Builtin.append_ #[t, tn] ty #[.slice none 0 0, .int k 0]).run P w = .ok (.slice none 0 0) w := by
  have hw : IntKind.i64.wrap 0 = 0 := by rw [IntKind.wrap_i64]; omega
  simp [Builtin.append_, run_underlying ht, run_underlying htn, sizeOf, typeInfo, hi, asInt, asIntOf, hw]

theorem eff_appendZ (h : HR P w0 R0 bl vs R ow st.boxes st.ents w) (ht : TR bl vs st.tmps a) {s x : Operand} {ts tx e : TypeId} (ho : o.op = .call { callee := .builtin .append, args := #[s, x], argTypes := #[ts, tx] }) (he : elemOf? P ts = some e) (hd : (eAppendZ P st s x ts tx e k).den) : EffOk P w0 R0 bl vs ow st a w o k := by
  unfold eAppendZ at hd
  have hs := ev_sound ht s
  have hx := ev_sound ht x
  split at hd
  · rename_i n z by_ hss hxx hz hby
    rw [hss] at hs
    rw [hxx] at hx
    obtain ⟨n', rfl⟩ : ∃ i' : Int, i' = n := ⟨n, rfl⟩
    split at hd
    · rename_i hc
      simp only [Bool.and_eq_true] at hc
      obtain ⟨hint, hposK⟩ := hc
      obtain ⟨kn, hkn⟩ : ∃ kn, P.underlying tx = some (.int kn) := by
        unfold isIntT at hint
        split at hint
        · exact ⟨_, by assumption⟩
        · cases hint
      obtain ⟨hns, hk⟩ := needs_den.1 hd
      simp only [List.mem_cons, List.not_mem_nil, or_false, forall_eq_or_imp, forall_eq, sem, arithS] at hns
      obtain ⟨h0, h2⟩ := hns
      obtain ⟨ks, i, v, hks, hi, hsz, hzv, hvs, hzl, hzc⟩ := zeroCls_inv h hz
      obtain ⟨i2, hi2, hbb⟩ := bytes_inv hby
      rw [hi] at hi2; cases hi2
      have hL : 0 < ks.length := by
        simp only [posK, hks] at hposK
        simpa using hposK
      have hcmax : n' ≤ 9223372036854775807 := by have := hx.2.2; simpa [IntKind.max, IntKind.signed, IntKind.bits] using this
      have hsv : a.eval s = .slice none 0 0 := hs
      have hxv : a.eval x = .int .i64 n' := hx.1
      have hrunOf : ∀ v w', (Builtin.append_ #[ts, tx] o.type #[a.eval s, a.eval x]).run P w = .ok v w' → (execOp a.eval o).run P w = .ok (.value v) w' := by
        intro v w' hr
        simp [execOp, ho, resolve, invoke, builtin, hr]
      by_cases hn0 : n' = 0
      · subst hn0
        have hr := run_append_nil_zero0 (P := P) w ts tx o.type e i .i64 kn (elem_inv he) hkn hi
        rw [← hxv, ← hsv] at hr
        obtain ⟨ow', hP, hmk⟩ := h.pushOwn (e := e) (s := Sl.rep 0 (z.map Cl.toD)) (v := .slice none 0 0) (a := none) (cap := 0) (by simp [Sl.rep]) (by simp [Sl.rep]) (Nat.zero_le _) (fun _ => rfl) (.inl rfl)
        refine ⟨_, w, .inl (hrunOf _ _ hr), .sl st.ents.length, addEnt st e (Sl.rep 0 (z.map Cl.toD)) true, bl, _, R, ow', ⟨hP, fun _ _ x => x, fun _ _ => get_append_lt, Ext.of_append (nb := []) (ne := [⟨e, Sl.rep 0 (z.map Cl.toD), true, true, 0⟩]) (by simp [addEnt]) rfl, hmk⟩, rfl, ?_, hk⟩
        show _ = _
        rw [hsv]
        exact h.ent_last
      · obtain ⟨m, rfl⟩ : ∃ m : Nat, n' = (m : Int) := ⟨n'.toNat, by omega⟩
        have hm : 0 < m := by omega
        have hbytes : m * i.bytes ≤ 140737488355328 := by
          have h1 : ((m * i.bytes : Nat) : Int) ≤ 140737488355328 := by
            rw [Int.natCast_mul]; subst hbb; exact h2
          omega
        have hr := Lib.run_append_nil_zeros (P := P) w ts tx o.type e i v .i64 kn (elem_inv he) hkn hi hzv m hm (by rw [hsz]; exact hL) (by omega) (by omega)
        rw [← hxv, ← hsv] at hr
        have hcap := grownCap_ge w m 0 e
        have hcap2 := grownCap_le_maxLen w m 0 e (by unfold maxLen; omega)
        obtain ⟨ow', hO⟩ := h.newOwn (e := e) (s := Sl.rep (m : Int) (z.map Cl.toD)) (cap := grownCap w m 0 e) (cs := Builtin.zeroCells v.cells m ++ Builtin.zeroCells v.cells (grownCap w m 0 e - m)) (w1 := w.drew.alloc (.cells (Builtin.zeroCells v.cells m ++ Builtin.zeroCells v.cells (grownCap w m 0 e - m)) e))
          ((Below.drew (Below.refl _ _)).alloc (by simp) _) (heap_alloc_new w.drew _) (by simpa [Sl.rep] using hcap) hcap2
          (fun ks2 hks2 => by
            rw [hks] at hks2; cases hks2
            refine ⟨?_, fun j q kk hj hq => ?_⟩
            · simp only [Array.size_append, size_zeroCells, hvs, ← Nat.add_mul]
              congr 1; omega
            · obtain ⟨cl, u, hcl, hu, hr⟩ := hzc q kk hq
              have hq' : q < ks.length := (List.getElem?_eq_some_iff.1 hq).1
              have hj' : j < m := by simpa [Sl.rep] using hj
              have hlt := row_idx (L := ks.length) hj' hq'
              refine ⟨u, ?_, ?_⟩
              · rw [Array.getElem?_append_left (by rw [size_zeroCells, hvs]; exact hlt)]
                have := zeroCells_get (zero := v.cells) (n := m) hj' (q := q) (by rw [hvs]; exact hq')
                rw [hvs] at this
                rw [this]; exact hu
              · simp only [Sl.rep]
                rw [List.getD_eq_getElem?_getD, List.getElem?_map, hcl]
                exact hr)
        refine ⟨_, _, .inl (hrunOf _ _ hr), .sl st.ents.length, _, bl, _, R, ow', hO, rfl, ?_, hk⟩
        show _ = _
        have := h.ent_last (v := .slice (some ⟨w.heap.size, 0, none⟩) (Sl.rep (m : Int) (z.map Cl.toD)).n (grownCap w m 0 e))
        simpa [Sl.rep] using this
    · exact hd.elim
  · exact hd.elim

theorem eff_append (h : HR P w0 R0 bl vs R ow st.boxes st.ents w) (ht : TR bl vs st.tmps a) {args : Array Operand} {argTypes : Array TypeId} (ho : o.op = .call { callee := .builtin .append, args, argTypes }) (hd : (eAppend P st args argTypes k).den) : EffOk P w0 R0 bl vs ow st a w o k := by
  unfold eAppend at hd
  split at hd
  · rename_i s x ts tx hargs htys
    have hargs' : args = #[s, x] := by rw [← Array.toList_inj]; exact hargs
    have htys' : argTypes = #[ts, tx] := by rw [← Array.toList_inj]; exact htys
    subst hargs' htys'
    have hs := ev_sound ht s
    have hx := ev_sound ht x
    split at hd
    · rename_i e he
      split at hd
      · exact eff_appendZ h ht ho he hd
      · rename_i htt
        have htt : ts = tx := by simpa using htt
        subst htt
        split at hd
        · rename_i d id? r by_ z hdst hsrc hby hz
          split at hd
          · rename_i hc
            simp only [Bool.and_eq_true] at hc
            obtain ⟨hbpos, hposK⟩ := hc
            have hdd := (needs_den.1 hd).2
            have hns := (needs_den.1 hd).1
            clear hd
            simp only [List.mem_singleton, forall_eq, sem, arithS, Sl.len] at hns
            obtain ⟨ks, i, zv, hks, hi, hsz, hzv, hzs, _, _⟩ := zeroCls_inv h hz
            obtain ⟨i2, hi2, hbb⟩ := bytes_inv hby
            rw [hi] at hi2; cases hi2
            subst hbb
            have hbytes : (d.n + r.n) * i.bytes ≤ 140737488355328 := by
              have h1 : (((d.n + r.n) * i.bytes : Nat) : Int) ≤ 140737488355328 := by
                rw [Int.natCast_mul, Int.natCast_add]
                exact hns
              omega
            have hL : 0 < ks.length := by
              simp only [posK, hks] at hposK
              simpa using hposK
            have hbpos : 0 < i.bytes := by simpa using hbpos
            have hcont := src_inv h hsrc hx
            have hrunOf : ∀ v w', (Builtin.append_ #[ts, ts] o.type #[a.eval s, a.eval x]).run P w = .ok v w' → (execOp a.eval o).run P w = .ok (.value v) w' := by
              intro v w' hr
              simp [execOp, ho, resolve, invoke, builtin, hr]
            rcases dst_inv h hdst hs with ⟨id, en, rfl, hen, hlive, hown, rfl, rfl, a0, cap, hv0, hvid, hdok, hobk⟩ | ⟨rfl, rfl, hv0⟩
            · have hcore := append_core (P := P) (w := w) (R := R) (ty := o.type) (elem_inv he) hks hi hsz hzv hzs hL hbpos hdok hcont hbytes
              rw [← hv0] at hcore
              obtain ⟨hK, hKt, hKl, hKd⟩ := h.kill id
              obtain ⟨en', hen', hdead⟩ := hKd en hen
              rcases hcore with ⟨hr0, hrun⟩ | ⟨b, cs, cs', hab, hcpos, hroom, hcs, hrun, hsize, hcell⟩ | ⟨cap', cs', hc1, hc2, hrun, hsize, hcell⟩
              · obtain ⟨a1, cap1, ow', hv1, hS⟩ := h.moveOwn hen hlive hown (s' := Sl.app en.s r) (by simp [Sl.app, hr0]) (fun j q hj => by simp only [Sl.app, hr0, Nat.add_zero] at hj ⊢; rw [if_pos hj])
                rw [hvid, hv0] at hv1
                cases hv1
                refine ⟨_, w, .inl (hrunOf _ _ hrun), .sl (killEnt st id).ents.length, _, bl, _, R, ow', hS, hKt, ?_, hdd⟩
                show _ = _
                rw [hKl, hv0, show (Sl.app en.s r).n = en.s.n by simp [Sl.app, hr0]]
                exact h.ent_last
              · have hob := hobk b hab hcpos
                have hB : HR P w0 R0 bl vs R ow (killEnt st id).boxes (killEnt st id).ents (w.setRow b cs') := hK.hr.setRowDead hen' hdead hob hcs
                have hRn : ∀ q, R q → (w.setRow b cs').heap[q]? = w.heap[q]? := fun q hq => setRow_other w b q cs' (fun e => by rw [e] at hq; rw [h.ro b hq] at hob; cases hob)
                obtain ⟨ow', hP, hmk⟩ := hB.pushOwn (e := en.elem) (s := Sl.app en.s r) (a := a0) (cap := cap) rfl (by simpa [Sl.app] using hroom) hdok.2.1 hdok.2.2.1
                  (.inr ⟨b, cs', hab, (h.olt b _ hob).1, (fun hr => by rw [h.ro b hr] at hob; cases hob), (fun q hq => by rw [hob] at hq; cases hq), (fun _ hq => by rw [hob] at hq; cases hq), (fun q en2 hq hq2 => by
                    rw [hob] at hq; cases hq
                    rw [hen'] at hq2; cases hq2
                    exact .inl hdead), setRow_heap w b cs cs' _ _ hcs, fun ks2 hks2 => by
                      rw [hks] at hks2; cases hks2
                      refine ⟨hsize, fun j q kk hj hq => ?_⟩
                      obtain ⟨u, hu, hru⟩ := hcell j q kk hj hq
                      exact ⟨u, hu, hru.mono (fun _ x => x) hRn⟩⟩)
                refine ⟨_, _, .inl (hrunOf _ _ hrun), .sl (killEnt st id).ents.length, addEnt (killEnt st id) en.elem (Sl.app en.s r) true, bl, _, R, ow', ⟨hP, fun _ _ x => x, fun _ _ => get_append_lt, hK.ext.trans (Ext.of_append (nb := []) (ne := [⟨en.elem, Sl.app en.s r, true, true, 0⟩]) (by simp [addEnt]) rfl), hmk⟩, hKt, ?_, hdd⟩
                show _ = _
                rw [hKl]
                exact h.ent_last
              · obtain ⟨ow', hO⟩ := hK.hr.newOwn (e := en.elem) (s := Sl.app en.s r) (cap := cap') (cs := cs') (w1 := w.drew.alloc (.cells cs' en.elem)) ((Below.drew (Below.refl _ _)).alloc (by simp) _) (heap_alloc_new w.drew _) hc1 hc2
                  (fun ks2 hks2 => by rw [hks] at hks2; cases hks2; exact ⟨hsize, hcell⟩)
                refine ⟨_, _, .inl (hrunOf _ _ hrun), .sl (killEnt st id).ents.length, _, bl, _, R, ow', hK.trans hO, hKt, ?_, hdd⟩
                show _ = _
                rw [hKl]
                exact h.ent_last
            · have hdok : DstOk P w R e Sl.nil none 0 := ⟨Nat.le_refl _, Nat.zero_le _, fun _ => rfl, .inl rfl⟩
              have hcore := append_core (P := P) (w := w) (R := R) (ty := o.type) (elem_inv he) hks hi hsz hzv hzs hL hbpos hdok hcont hbytes
              have hv0' : a.eval s = .slice none (Sl.nil).n 0 := hv0
              rw [← hv0'] at hcore
              rcases hcore with ⟨hr0, hrun⟩ | ⟨b, cs, cs', hab, hcpos, hroom, hcs, hrun, hsize, hcell⟩ | ⟨cap', cs', hc1, hc2, hrun, hsize, hcell⟩
              · obtain ⟨ow', hP, hmk⟩ := h.pushOwn (e := e) (s := Sl.app Sl.nil r) (v := .slice none 0 0) (a := none) (cap := 0) (by simp [Sl.app, Sl.nil, hr0]) (by simp [Sl.app, Sl.nil, hr0]) (Nat.zero_le _) (fun _ => rfl) (.inl rfl)
                refine ⟨_, w, .inl (hrunOf _ _ hrun), .sl st.ents.length, addEnt st e (Sl.app Sl.nil r) true, bl, _, R, ow', ⟨hP, fun _ _ x => x, fun _ _ => get_append_lt, Ext.of_append (nb := []) (ne := [⟨e, Sl.app Sl.nil r, true, true, 0⟩]) (by simp [addEnt]) rfl, hmk⟩, rfl, ?_, hdd⟩
                show _ = _
                rw [hv0]
                exact h.ent_last
              · cases hab
              · obtain ⟨ow', hO⟩ := h.newOwn (e := e) (s := Sl.app Sl.nil r) (cap := cap') (cs := cs') (w1 := w.drew.alloc (.cells cs' e)) ((Below.drew (Below.refl _ _)).alloc (by simp) _) (heap_alloc_new w.drew _) hc1 hc2
                  (fun ks2 hks2 => by rw [hks] at hks2; cases hks2; exact ⟨hsize, hcell⟩)
                exact ⟨_, _, .inl (hrunOf _ _ hrun), .sl st.ents.length, _, bl, _, R, ow', hO, rfl, h.ent_last, hdd⟩
          · exact hd.elim
        · exact hd.elim
    · exact hd.elim
  · exact hd.elim

theorem eff_nil (h : HR P w0 R0 bl vs R ow st.boxes st.ents w) (ht : TR bl vs st.tmps a) {neq : Bool} {t u : TypeId} {x y : Operand} (ho : o.op = .binOp (if neq then .neq else .eql) t x y u) (hd : (eNil P st neq t x y k).den) : EffOk P w0 R0 bl vs ow st a w o k := by
  unfold eNil at hd
  have hS : Stp P w0 R0 bl vs ow st bl vs R ow st w := (Stp.refl h)
  have hx := ev_sound ht x
  have hy := ev_sound ht y
  have run : ∀ (e : TypeId) (ad : Option Addr) (n c : Nat), P.underlying t = some (.slice e) → a.eval x = .slice ad n c → a.eval y = .slice none 0 0 → (execOp a.eval o).run P w = .ok (.value (.bool (if neq then !ad.isNone else ad.isNone))) w := by
    intro e ad n c hu hxv hyv
    cases neq with
    | false => simp only [execOp, ho, hxv, hyv, Bool.false_eq_true, if_false, eqGuard_at_slice, Sem.run_bind, Sem.run_pure, Result.andThen_ok, Lib.run_eql_slice_nil w t e ad n c 0 0 hu]
    | true => simp only [execOp, ho, hxv, hyv, if_true, eqGuard_at_slice, Sem.run_bind, Sem.run_pure, Result.andThen_ok, run_neq_slice_nil_any w t e ad n c 0 0 hu]
  split at hd
  · rename_i e id he hxx hyy
    rw [hxx] at hx
    rw [hyy] at hy
    have hyv : a.eval y = .slice none 0 0 := hy
    split at hd
    · rename_i en hen
      split at hd
      · rename_i hlive
        have hxs : vs[id]? = some (a.eval x) := hx
        obtain ⟨v, hv, hc⟩ := h.look.ent id en hen hlive
        rw [hxs] at hv; cases hv
        obtain ⟨ad, cap, hxv, h1, h2, h3, _⟩ := hc
        have hd := hd ad.isNone
        refine ⟨_, w, .inl (run e ad _ _ (elem_inv he) hxv hyv), .blit (if neq then !ad.isNone else ad.isNone), st, bl, vs, R, ow, hS, rfl, rfl, ?_⟩
        cases ad with
        | none =>
          have hd := hd.1 rfl
          have hn : en.s.n = 0 := by have := h3 rfl; omega
          have hd := hd (by show (Sl.len en.s : Int) ≤ 0; simp [Sl.len, hn])
          cases neq <;> exact hd
        | some ad =>
          have hd := hd.2 (by simp)
          cases neq <;> exact hd
      · exact hd.elim
    · exact hd.elim
  · rename_i e he hxx hyy
    rw [hxx] at hx
    rw [hyy] at hy
    have hxv : a.eval x = .slice none 0 0 := hx
    have hyv : a.eval y = .slice none 0 0 := hy
    refine ⟨_, w, .inl (run e none _ _ (elem_inv he) hxv hyv), .blit (!neq), st, bl, vs, R, ow, hS, rfl, ?_, hd⟩
    cases neq <;> rfl
  · exact hd.elim

/-! ### Arrays -/

theorem pickTree_den {i : Int} {f : Nat → Tree (sem T)} : ∀ {m j : Nat}, (pickTree (A := sem T) i f j m).den → (j : Int) ≤ i → i < (j : Int) + m → (f i.toNat).den
  | 0, j, h, _, _ => h.elim
  | 1, j, h, h0, h1 => by
    have : i.toNat = j := by omega
    rw [this]; exact h
  | m + 2, j, h, h0, h1 => by
    have h : ((i = (j : Int)) → (f j).den) ∧ (¬ (i = (j : Int)) → (pickTree (A := sem T) i f (j + 1) (m + 1)).den) := h
    by_cases e : i = (j : Int)
    · have : i.toNat = j := by omega
      rw [this]; exact h.1 e
    · exact pickTree_den (h.2 e) (by omega) (by omega)

theorem eff_indexAgg (h : HR P w0 R0 bl vs R ow st.boxes st.ents w) (ht : TR bl vs st.tmps a) {t : TypeId} {x ix : Operand} (ho : o.op = .index t x ix) (hd : (eIndexAgg P st t x ix k).den) : EffOk P w0 R0 bl vs ow st a w o k := by
  unfold eIndexAgg at hd
  have hx := ev_sound ht x
  have hi := ev_sound ht ix
  split at hd
  · rename_i n e l kk i hu hxx hii
    rw [hxx] at hx
    rw [hii] at hi
    obtain ⟨q, rfl⟩ : ∃ q : Int, q = i := ⟨i, rfl⟩
    obtain ⟨cs, hv, hcs⟩ := hx
    split at hd
    · rename_i sz hsz
      split at hd
      · rename_i hc
        simp only [Bool.and_eq_true, beq_iff_eq, decide_eq_true_eq] at hc
        obtain ⟨⟨hlen, hpos⟩, hue⟩ := hc
        obtain ⟨hns, hd⟩ := needs_den.1 hd
        simp only [List.mem_cons, List.not_mem_nil, or_false, forall_eq_or_imp, forall_eq, sem] at hns
        obtain ⟨h0, h1⟩ := hns
        have hd := pickTree_den hd (by omega) (by omega)
        have hjn : q.toNat < n := by omega
        obtain ⟨inf, hinf, rfl⟩ := size_inv hsz
        obtain ⟨d, hdd⟩ := Option.isSome_iff_exists.1 hue
        have hl := hcs.length
        have hle : q.toNat * inf.size + inf.size ≤ l.length := by
          rw [hlen, ← Nat.succ_mul]
          exact Nat.mul_le_mul_right _ hjn
        have hpart : (execOp a.eval o).run P w = ((Instr.index t (.agg cs) (.int kk q)).run P w).andThen fun v w => .ok (.value v) w := by
          simp only [execOp, ho, hv, hi.1, Sem.run_bind, Sem.run_pure]
        have hidx : (Instr.index t (.agg cs) (.int kk q)).run P w = (part e cs (q.toNat * inf.size)).run P w := by
          simp only [Instr.index, asIntOf, Sem.run_bind, Sem.run_pure, Result.andThen_ok, run_underlying hu, if_pos (show 0 ≤ q ∧ q < (n : Int) from ⟨h0, h1⟩), run_sizeOf' hinf]
        split at hd
        · rename_i v hp
          rcases pack_inv hp with ⟨ha, rfl⟩ | ⟨ha, hl1⟩
          · refine ⟨.agg (cs.extract (q.toNat * inf.size) (q.toNat * inf.size + inf.size)), w, .inl ?_, .agg ((l.drop (q.toNat * inf.size)).take inf.size), st, bl, vs, R, ow, Stp.refl h, rfl, ⟨_, rfl, ?_⟩, hd⟩
            · rw [hpart, hidx]
              simp only [part, Sem.run_bind, isAgg_run e hdd, ha, Result.andThen_ok, if_true, run_sizeOf' hinf, Sem.run_pure]
            · have := (hcs.drop (q.toNat * inf.size)).take inf.size
              simpa [List.extract_eq_take_drop] using this
          · have hg : l[q.toNat * inf.size]? = some v := by
              have := congrArg (·[0]?) hl1
              simp [List.getElem?_take] at this
              exact this.2
            obtain ⟨y, hy, hs⟩ := hcs.get hg
            simp only [Array.getElem?_toList] at hy
            refine ⟨y, w, .inl ?_, _, st, bl, vs, R, ow, Stp.refl h, rfl, hs, hd⟩
            rw [hpart, hidx]
            simp only [part, Sem.run_bind, isAgg_run e hdd, ha, Result.andThen_ok, Bool.false_eq_true, if_false, hy, Sem.run_pure]
        · exact hd.elim
      · exact hd.elim
    · exact hd.elim
  · exact hd.elim

theorem add_none {b off : Nat} (n : Nat) : (⟨b, off, none⟩ : Addr).add n = ⟨b, off + n, none⟩ := by
  simp [Addr.add_lit]

theorem eff_indexBox (h : HR P w0 R0 bl vs R ow st.boxes st.ents w) (ht : TR bl vs st.tmps a) {t : TypeId} {x ix : Operand} (ho : o.op = .indexAddr t x ix) (hd : (eIndexBox P st t x ix k).den) : EffOk P w0 R0 bl vs ow st a w o k := by
  unfold eIndexBox at hd
  have hx := ev_sound ht x
  have hi := ev_sound ht ix
  split at hd
  · rename_i n e b off kk i hu hxx hii
    rw [hxx] at hx
    rw [hii] at hi
    obtain ⟨q, rfl⟩ : ∃ q : Int, q = i := ⟨i, rfl⟩
    obtain ⟨b', hb', hv⟩ := hx
    split at hd
    · rename_i sz hsz
      split at hd
      · obtain ⟨hns, hd⟩ := needs_den.1 hd
        simp only [List.mem_cons, List.not_mem_nil, or_false, forall_eq_or_imp, forall_eq, sem] at hns
        obtain ⟨h0, h1⟩ := hns
        have hd := pickTree_den hd (by omega) (by omega)
        obtain ⟨inf, hinf, rfl⟩ := size_inv hsz
        refine ⟨.pointer (some ⟨b', off + q.toNat * inf.size, none⟩), w, .inl ?_, .ptr b (off + q.toNat * inf.size), st, bl, vs, R, ow, Stp.refl h, rfl, ⟨b', hb', rfl⟩, hd⟩
        simp only [execOp, ho, hv, hi.1, Sem.run_bind, Instr.indexAt, Instr.sureAddr, asIntOf, Sem.run_pure, Result.andThen_ok, run_underlying hu, Sem.run_ite, h0, h1, and_self, if_true, run_sizeOf' hinf, add_none]
      · exact hd.elim
    · exact hd.elim
  · exact hd.elim

theorem rowsCl_sound (hl : HR P w0 R0 bl vs R ow st.boxes st.ents w) {ks : List K} : ∀ {n : Nat} {s : List (SV (sem T))} {rows : List (List CS)}, rowsCl st.ents ks n s = some rows → ∀ {v : List Value}, SVRs bl vs s v →
    rows.length = n ∧ ∀ (p q : Nat) (kk : K), p < n → ks[q]? = some kk → ∃ u, v[p * ks.length + q]? = some u ∧ Rd P w R (((rows.map fun c => c.map Cl.toD).getD p []).getD q (.int 0)) kk u
  | 0, s, rows, h, v, hs => by
    simp only [rowsCl, Option.some.injEq] at h
    subst h
    exact ⟨rfl, fun p q kk hp => absurd hp (Nat.not_lt_zero _)⟩
  | n + 1, s, rows, h, v, hs => by
    simp only [rowsCl] at h
    split at h
    · rename_i c cs hc hcs
      cases h
      obtain ⟨l1, l2, h1⟩ := toClsR_sound hl hc (hs.take ks.length)
      obtain ⟨l3, h3⟩ := rowsCl_sound hl hcs (hs.drop ks.length)
      refine ⟨by simp [l3], fun p q kk hp hq => ?_⟩
      have hqlt : q < ks.length := (List.getElem?_eq_some_iff.1 hq).1
      cases p with
      | zero =>
        obtain ⟨c0, u, g1, g2, g3⟩ := h1 q kk hq
        refine ⟨u, ?_, ?_⟩
        · rw [List.getElem?_take, if_pos hqlt] at g2
          simpa using g2
        · have : ((((c :: cs).map fun c => c.map Cl.toD).getD 0 []).getD q (.int 0)) = c0.toD := by
            simp [List.getD_eq_getElem?_getD, g1]
          rw [this]; exact g3
      | succ p =>
        obtain ⟨u, g1, g2⟩ := h3 p q kk (by omega) hq
        refine ⟨u, ?_, ?_⟩
        · rw [List.getElem?_drop] at g1
          rw [show (p + 1) * ks.length + q = ks.length + (p * ks.length + q) by rw [Nat.succ_mul]; omega]
          exact g1
        · simpa [List.getD_eq_getElem?_getD] using g2
    · cases h

/-- A box is given up: its block is read from now on. -/
theorem HR.giveBox (h : HR P w0 R0 bl vs R ow st.boxes st.ents w) {i b : Nat} {bx : Box (sem T)} {cs : Array Value} (hi : st.boxes[i]? = some bx) (hl : bx.live = true)
    (hb : bl[i]? = some b) (ho : ow b = some (.box i)) (hw : w.heap[b]? = some (.cells cs bx.ty (0, 0))) :
    Stp P w0 R0 bl vs ow st bl vs (fun x => R x ∨ x = b) (setOw ow b none) { st with boxes := st.boxes.set i { bx with live := false, ver := bx.ver + 1 } } w where
  bl := fun _ _ x => x
  vs := fun _ _ x => x
  ext := Ext.of_set_box (i := i) (bx := { bx with live := false, ver := bx.ver + 1 }) rfl rfl (fun b0 h0 => by rw [hi] at h0; cases h0; exact ⟨by simp, rfl⟩)
  mrk := fun x hx => by rw [setOw_ne (fun e => by rw [e, ho] at hx; cases hx)]; exact hx
  hr := {
    below := h.below
    rlt := fun x hx => hx.elim (h.rlt x) (fun e => by subst e; exact (h.olt _ _ ho).2)
    r0 := fun x hx => .inl (h.r0 x hx)
    rsub := fun x hx => hx.elim (h.rsub x) (fun e => by subst e; exact .inr (h.olt _ _ ho).1)
    ro := fun x hx => by
      by_cases e : x = b
      · subst e; exact setOw_eq
      · rw [setOw_ne e]; exact h.ro x (hx.resolve_right e)
    olt := fun x q hx => by
      by_cases e : x = b
      · subst e; rw [setOw_eq] at hx; cases hx
      · rw [setOw_ne e] at hx; exact h.olt x q hx
    nb := by simp [h.nb]
    nv := h.nv
    vsl := h.vsl
    box := fun j bj hj hlj => by
      rcases get_set_inv hj with ⟨rfl, rfl⟩ | ⟨hne, hj⟩
      · cases hlj
      · obtain ⟨b2, cs2, h1, h2, h3, h4⟩ := h.box j bj hj hlj
        have hne2 : b2 ≠ b := fun e => by rw [e, ho] at h2; cases h2; exact hne rfl
        exact ⟨b2, cs2, h1, by rw [setOw_ne hne2]; exact h2, h3, h4⟩
    ent := fun j e hj hlj => by
      obtain ⟨u, hu, h1, h2⟩ := h.ent j e hj hlj
      refine ⟨u, hu, fun hh => (h1 hh).mono (fun _ x => .inl x) (fun _ _ => rfl), fun hh => (h2 hh).mono (fun _ x => .inl x) (fun _ _ => rfl) (fun x hx => ⟨?_, rfl⟩)⟩
      rw [setOw_ne (fun e => by rw [e, ho] at hx; cases hx)]; exact hx
    mrk := fun x hx => by
      by_cases e : x = b
      · subst e; rw [setOw_eq] at hx; cases hx
      · rw [setOw_ne e] at hx; exact h.mrk x hx
    lp := fun j L hj => by
      obtain ⟨bj, x, g1, g2, g3, g4, g5⟩ := h.lp j L hj
      have hne : j ≠ i := fun e => by rw [e, hi] at g1; cases g1; rw [hl] at g2; cases g2
      have hxb : x ≠ b := fun e => by rw [e, ho] at g4; cases g4; exact hne rfl
      exact ⟨bj, x, by simp only; rw [List.getElem?_set_ne (fun e => hne e.symm)]; exact g1, g2, g3, by rw [setOw_ne hxb]; exact g4, g5⟩ }

theorem run_sliceAt_box {t e : TypeId} {n : Nat} {i : TypeInfo} (hu : P.underlying t = some (.array n e)) (hi : P.info? e = some i) {b : Nat} {lo hi' : Option Value} {l h : Int}
    (hlo : (lo = none ∧ l = 0) ∨ ∃ k, lo = some (.int k l)) (hhi : (hi' = none ∧ h = (n : Int)) ∨ ∃ k, hi' = some (.int k h)) (h0 : 0 ≤ l) (h1 : l ≤ h) (h2 : h ≤ n) :
    (Instr.sliceAt t (.pointer (some ⟨b, 0, none⟩)) lo hi' none).run P w = .ok (slicedAt ⟨b, 0, none⟩ l.toNat h.toNat n i.size) w := by
  have hE : P.elem t = e := by simp [Program.elem, hu]
  have hL : P.arrayLen t = n := by simp [Program.arrayLen, hu]
  have ht : P.underlying t = some (.array (P.arrayLen t) (P.elem t)) := by rw [hE, hL]; exact hu
  have hsz : (sizeOf (P.elem t)).run P w = .ok i.size w := by rw [hE]; exact run_sizeOf' hi
  rcases hlo with ⟨rfl, rfl⟩ | ⟨k1, rfl⟩ <;> rcases hhi with ⟨rfl, rfl⟩ | ⟨k2, rfl⟩
  · rw [run_sliceAt_array_all (ht := ht), hsz, hL]; simp
  · rw [run_sliceAt_array_h (ht := ht) (h0 := by omega) (h2 := by rw [hL]; exact h2), hsz, hL]; simp
  · rw [run_sliceAt_array_l (ht := ht) (h0 := h0) (h1 := by rw [hL]; omega), hsz, hL]; simp
  · rw [run_sliceAt_array_lh (ht := ht) (h0 := h0) (h1 := h1) (h2 := by rw [hL]; exact h2), hsz, hL]; simp

theorem eff_sliceBox (h : HR P w0 R0 bl vs R ow st.boxes st.ents w) (ht : TR bl vs st.tmps a) {t : TypeId} {x : Operand} {lo hi mx : Option Operand} (ho : o.op = .slice t x lo hi mx) (hd : (eSliceBox P st t x lo hi mx k).den) : EffOk P w0 R0 bl vs ow st a w o k := by
  unfold eSliceBox at hd
  have hx := ev_sound ht x
  split at hd
  · rename_i n e b hu hxx
    rw [hxx] at hx
    obtain ⟨b', hb', hv⟩ := hx
    split at hd
    · rename_i bx ks hbx hks
      split at hd
      · rename_i hc
        simp only [Bool.and_eq_true, beq_iff_eq, decide_eq_true_eq] at hc
        obtain ⟨⟨⟨⟨hlive, hlen⟩, hpos⟩, hty⟩, hn1000⟩ := hc
        split at hd
        · rename_i rows l h' hrows hl hh
          obtain ⟨l', rfl⟩ : ∃ i' : Int, i' = l := ⟨l, rfl⟩
          obtain ⟨h'', rfl⟩ : ∃ i' : Int, i' = h' := ⟨h', rfl⟩
          have hlo : (lo.map a.eval = none ∧ l' = 0) ∨ ∃ k, lo.map a.eval = some (.int k l') := by
            cases lo with
            | none => left; simp only [Option.some.injEq] at hl; exact ⟨rfl, hl.symm⟩
            | some lx =>
              right
              have hlx := ev_sound ht lx
              simp only at hl
              split at hl
              · rename_i k y hy
                rw [hy] at hlx
                cases hl
                exact ⟨k, congrArg some hlx.1⟩
              · cases hl
          have hhi : (hi.map a.eval = none ∧ h'' = (n : Int)) ∨ ∃ k, hi.map a.eval = some (.int k h'') := by
            cases hi with
            | none => left; simp only [Option.some.injEq] at hh; exact ⟨rfl, hh.symm⟩
            | some hx' =>
              right
              have hlx := ev_sound ht hx'
              simp only at hh
              split at hh
              · rename_i k y hy
                rw [hy] at hlx
                cases hh
                exact ⟨k, congrArg some hlx.1⟩
              · cases hh
          obtain ⟨hns, hd⟩ := needs_den.1 hd
          simp only [List.mem_cons, List.not_mem_nil, or_false, forall_eq_or_imp, forall_eq, sem] at hns
          obtain ⟨h0, h1, h2⟩ := hns
          obtain ⟨i, hinfo, hsz, _⟩ := kinds_inv hks
          obtain ⟨b2, cs, g1, g2, g3, g4⟩ := h.box b bx hbx hlive
          rw [hb'] at g1; cases g1
          obtain ⟨r1, r2⟩ := rowsCl_sound h hrows g4
          have hG := h.giveBox hbx hlive hb' g2 g3
          have hrun : (execOp a.eval o).run P w = .ok (.value (slicedAt ⟨b', 0, none⟩ l'.toNat h''.toNat n i.size)) w := by
            simp only [execOp, ho, hv, Option.map_none, Sem.run_bind, run_sliceAt_box hu hinfo hlo hhi h0 h1 h2, Result.andThen_ok, Sem.run_pure]
          have hrd : Rd P w (fun x => R x ∨ x = b') (.sl (Sl.part (Sl.lit (rows.map fun c => c.map Cl.toD)) l' h'').n (Sl.part (Sl.lit (rows.map fun c => c.map Cl.toD)) l' h'').f) (.sl e) (slicedAt ⟨b', 0, none⟩ l'.toNat h''.toNat n i.size) := by
            refine ⟨e, some (if n = l'.toNat then (⟨b', 0, none⟩ : Addr) else (⟨b', 0, none⟩ : Addr).add (l'.toNat * i.size)), n - l'.toNat, rfl, ?_, ?_, ?_, (fun hn => by cases hn), fun ks2 p q kk hk2 hp hq => ?_⟩
            · show _ = Value.slice _ (h'' - l').toNat _
              simp only [slicedAt]
              congr 1
              omega
            · show (h'' - l').toNat ≤ _; omega
            · unfold maxLen; omega
            · rw [hks] at hk2; cases hk2
              have hp : p < (h'' - l').toNat := hp
              obtain ⟨u, u1, u2⟩ := r2 (l'.toNat + p) q kk (by omega) hq
              refine ⟨_, u, rfl, ?_, ?_, ?_, ?_⟩
              · split <;> simp [Addr.add_lit]
              · right
                split <;> simp [Addr.add_lit]
              · have : (if n = l'.toNat then (⟨b', 0, none⟩ : Addr) else (⟨b', 0, none⟩ : Addr).add (l'.toNat * i.size)) = ⟨b', l'.toNat * i.size, none⟩ := by
                  rw [if_neg (by omega), add_none]; simp
                simp only [this]
                rw [World.cell?]
                simp only [g3]
                have e1 : l'.toNat * i.size + (p * ks.length + q) = (l'.toNat + p) * ks.length + q := by rw [hsz, Nat.add_mul]; omega
                rw [e1]
                simpa using u1
              · exact u2.mono (fun _ x => .inl x) (fun _ _ => rfl)
          have hS2 := hG.hr.newRo hrd
          exact ⟨_, w, .inl hrun, .sl st.ents.length, _, bl, _, _, _, hG.trans hS2, rfl, h.ent_last, hd⟩
        · exact hd.elim
      · exact hd.elim
    · exact hd.elim
  · exact hd.elim

/-- **An operation that makes or writes memory** does in the model what was said. -/
theorem eff_sound (h : HR P w0 R0 bl vs R ow st.boxes st.ents w) (ht : TR bl vs st.tmps a) (hd : (effOp P st o k).den) : EffOk P w0 R0 bl vs ow st a w o k := by
  unfold effOp at hd
  split at hd
  · rename_i t ho; exact eff_alloc h ho hd
  · rename_i t x ho; exact eff_box h ht ho hd
  · rename_i t x v ho
    unfold eStore at hd
    split at hd
    · rename_i n b off hs hx; exact eff_store_box h ht ho hs hx hd
    · rename_i n id sz i off hs hx; exact eff_store_ent h ht ho hs hx hd
    · exact hd.elim
  · rename_i t x ho; exact eff_load h ht ho hd
  · rename_i t len parts ho; exact eff_buildSlice h ht ho hd
  · rename_i t len cap ho; exact eff_makeSlice h ht ho hd
  · rename_i t x lo hi mx ho
    split at hd
    · exact eff_sliceBox h ht ho hd
    · exact eff_slice h ht ho hd
  · rename_i t x ix ho; exact eff_indexAgg h ht ho hd
  · rename_i t x ix ho; exact eff_indexBox h ht ho hd
  · rename_i args argTypes ho; exact eff_append h ht ho hd
  · rename_i t x y u ho; exact eff_nil (neq := false) h ht ho hd
  · rename_i t x y u ho; exact eff_nil (neq := true) h ht ho hd
  · exact hd.elim

end Go.Sx
