/-
  Loops: the head's state, what is forgotten there, and how a round's end comes to it again. Conditions: none beyond each lemma's own.
-/
import Derived.Test.YtlhjljekeobplaaSxD
namespace Go.Sx
open Go.RowKit (Below)

variable {T : FuncId → Pred} {P : Program} {w0 w : World} {R0 : Bs T} {R : Nat → Prop} {bl : List Nat} {vs : List Value} {ow : Nat → Option Owner} {st : St (sem T)} {a : Act}

def HRaw (P : Program) (w : World) (R : Nat → Prop) (owr : Nat → Option Owner) : Nat → List HK → List Value → List D → Prop
  | _, [], [], ds => ds = []
  | n, hk :: hks, v :: vals, ds => match hk.cell with
    | none => HRaw P w R owr (n + 1) hks vals ds
    | some p => ∃ d ds', ds = d :: ds' ∧ ResCell P w R owr n p v d ∧ HRaw P w R owr (n + 1) hks vals ds'
  | _, _, _, _ => False

theorem havAll_sound {owr : Nat → Option Owner} : ∀ {hks : List HK} {n : Nat} {st : St (sem T)} {vs : List Value} {ow : Nat → Option Owner}, HR P w0 R0 bl vs R ow st.boxes st.ents w → ∀ {vals : List Value} {ds : List D}, HRaw P w R owr n hks vals ds →
    (∀ m b, n ≤ m → owr b = some (.ent m) → w0.heap.size ≤ b ∧ ow b = none ∧ ¬ R b) → ∀ {f : List (SV (sem T)) → List CS → St (sem T) → Tree (sem T)}, (havAll P hks st f).den →
    ∃ svs cs st' vs' ow', Stp P w0 R0 bl vs ow st bl vs' R ow' st' w ∧ st'.tmps = st.tmps ∧ st'.boxes = st.boxes ∧ (∃ es, st'.ents = st.ents ++ es) ∧ SVRs bl vs' svs vals ∧ svs.length = hks.length ∧ cs.map Cl.toD = ds ∧ (f svs cs st').den
  | [], n, st, vs, ow, h, vals, ds, hc, hw, f, hd => by
    cases vals with
    | cons => exact hc.elim
    | nil =>
      have hc : ds = [] := hc
      subst hc
      exact ⟨[], [], st, vs, ow, (Stp.refl h), rfl, rfl, ⟨[], by simp⟩, trivial, rfl, rfl, hd⟩
  | hk :: hks, n, st, vs, ow, h, vals, ds, hc, hw, f, hd => by
    cases vals with
    | nil => exact hc.elim
    | cons v vals =>
      unfold HRaw at hc
      unfold havAll at hd
      cases hcell : hk.cell with
      | none =>
        simp only [hcell] at hc hd
        obtain ⟨svs, cs, st2, vs2, ow2, hS2, ht2, hb2, he2, hsvs, hl, hcds, hd2⟩ := havAll_sound h hc (fun m b hm hb => hw m b (by omega) hb) hd
        exact ⟨.junk :: svs, cs, st2, vs2, ow2, hS2, ht2, hb2, he2, ⟨trivial, hsvs⟩, by simp [hl], hcds, hd2⟩
      | some p =>
        obtain ⟨k, own⟩ := p
        simp only [hcell] at hc hd
        obtain ⟨d, ds', rfl, hc1, hc2⟩ := hc
        have hfr := freshCell_sound h hc1 (fun b hb => hw n b (Nat.le_refl _) hb) hd
        obtain ⟨sv, c, st1, vs1, ow1, hS, ⟨ht, hbe⟩, hsv, hcd, hd1, hk1⟩ := hfr
        obtain ⟨svs, cs, st2, vs2, ow2, hS2, ht2, hb2, ⟨es2, he2⟩, hsvs, hl, hcds, hd2⟩ := havAll_sound hS.hr hc2 (fun m b hm hb => by
          obtain ⟨g1, g2, g3⟩ := hw m b (by omega) hb
          refine ⟨g1, ?_, g3⟩
          rw [hk1 b (fun e => by rw [hb] at e; cases e; omega)]
          exact g2) hd1
        obtain ⟨hbb, es1, he1⟩ := hbe
        exact ⟨sv :: svs, c :: cs, st2, vs2, ow2, hS.trans hS2, ht2.trans ht, hb2.trans hbb, ⟨es1 ++ es2, by rw [he2, he1, List.append_assoc]⟩, ⟨hsv.mono hS2.bl hS2.vs, hsvs⟩, by simp [hl], by simp [hcd, hcds], hd2⟩

/-! ### The head's state -/

theorem junkSlots_len : ∀ (l : List (Nat × HK)) (tmps : List (SV (sem T))), (junkSlots tmps l).length = tmps.length
  | [], _ => rfl
  | (t, _) :: r, tmps => by simp [junkSlots, junkSlots_len r]

theorem junkSlots_get : ∀ (l : List (Nat × HK)) (tmps : List (SV (sem T))) (t : Nat) (x : SV (sem T)), (junkSlots tmps l)[t]? = some x → x = .junk ∨ (t ∉ l.map (·.1) ∧ tmps[t]? = some x)
  | [], tmps, t, x, h => .inr ⟨by simp, h⟩
  | (t0, hk) :: r, tmps, t, x, h => by
    rcases junkSlots_get r _ t x h with h | ⟨h1, h2⟩
    · exact .inl h
    · rcases get_set_inv h2 with ⟨_, rfl⟩ | ⟨hne, h2⟩
      · exact .inl rfl
      · exact .inr ⟨by simp [hne, h1], h2⟩

theorem junkBoxes_spec : ∀ (l : List (Nat × List HK)) (boxes : List (Box (sem T))) (i : Nat) (bx : Box (sem T)), boxes[i]? = some bx → ∃ bx', (junkBoxes boxes l)[i]? = some bx' ∧ bx'.ty = bx.ty ∧ bx'.live = bx.live ∧ bx'.cells.length = bx.cells.length ∧
    ((i ∉ l.map (·.1) ∧ bx' = bx) ∨ (i ∈ l.map (·.1) ∧ bx.ver < bx'.ver ∧ bx'.cells = List.replicate bx.cells.length .junk))
  | [], boxes, i, bx, h => ⟨bx, h, rfl, rfl, rfl, .inl ⟨by simp, rfl⟩⟩
  | (b, hk) :: r, boxes, i, bx, h => by
    simp only [junkBoxes]
    cases hb : boxes[b]? with
    | none =>
      simp only
      obtain ⟨bx', h1, h2, h3, h4, h5⟩ := junkBoxes_spec r boxes i bx h
      have hne : i ≠ b := fun e => by rw [e, hb] at h; cases h
      refine ⟨bx', h1, h2, h3, h4, ?_⟩
      rcases h5 with ⟨h5, h6⟩ | ⟨h5, h6⟩
      · exact .inl ⟨by simp [hne]; simpa using h5, h6⟩
      · exact .inr ⟨by simp at h5 ⊢; exact .inr h5, h6⟩
    | some b0 =>
      simp only
      by_cases hib : i = b
      · subst hib
        rw [hb] at h; cases h
        obtain ⟨bx', h1, h2, h3, h4, h5⟩ := junkBoxes_spec r (boxes.set i { bx with cells := List.replicate bx.cells.length .junk, ver := bx.ver + 1 }) i _ (set_get_same hb)
        simp only [List.length_replicate] at h4 h5
        refine ⟨bx', h1, h2, h3, h4, .inr ⟨by simp, ?_⟩⟩
        rcases h5 with ⟨_, h6⟩ | ⟨_, h6, h7⟩
        · subst h6; exact ⟨Nat.lt_succ_self _, rfl⟩
        · exact ⟨Nat.lt_trans (Nat.lt_succ_self _) h6, h7⟩
      · obtain ⟨bx', h1, h2, h3, h4, h5⟩ := junkBoxes_spec r (boxes.set b { b0 with cells := List.replicate b0.cells.length .junk, ver := b0.ver + 1 }) i bx (by rw [List.getElem?_set_ne (fun e => hib e.symm)]; exact h)
        refine ⟨bx', h1, h2, h3, h4, ?_⟩
        rcases h5 with ⟨h5, h6⟩ | ⟨h5, h6⟩
        · exact .inl ⟨by simp [hib]; simpa using h5, h6⟩
        · exact .inr ⟨by simp at h5 ⊢; exact .inr h5, h6⟩

theorem junkBoxes_len : ∀ (l : List (Nat × List HK)) (boxes : List (Box (sem T))), (junkBoxes boxes l).length = boxes.length
  | [], _ => rfl
  | (b, _) :: r, boxes => by
    simp only [junkBoxes]
    rw [junkBoxes_len r]
    split <;> simp

theorem killIds_spec : ∀ (l : List Nat) (st : St (sem T)) (i : Nat) (e : Ent (sem T)), st.ents[i]? = some e → ∃ e', (killIds st l).ents[i]? = some e' ∧ ((i ∉ l ∧ e' = e) ∨ (i ∈ l ∧ e'.live = false ∧ e.ver < e'.ver))
  | [], st, i, e, h => ⟨e, h, .inl ⟨by simp, rfl⟩⟩
  | id :: l, st, i, e, h => by
    simp only [killIds]
    have h1 : ∃ e1, (killEnt st id).ents[i]? = some e1 ∧ ((i ≠ id ∧ e1 = e) ∨ (i = id ∧ e1.live = false ∧ e.ver < e1.ver)) := by
      unfold killEnt
      split
      · rename_i e0 he0
        by_cases hi : i = id
        · subst hi
          rw [h] at he0; cases he0
          exact ⟨_, set_get_same h, .inr ⟨rfl, rfl, Nat.lt_succ_self _⟩⟩
        · exact ⟨e, by simp only; rw [List.getElem?_set_ne (fun e => hi e.symm)]; exact h, .inl ⟨hi, rfl⟩⟩
      · rename_i hn
        exact ⟨e, h, .inl ⟨(fun hh => by rw [hh, hn] at h; cases h), rfl⟩⟩
    obtain ⟨e1, he1, hcase⟩ := h1
    obtain ⟨e', he', hcase'⟩ := killIds_spec l (killEnt st id) i e1 he1
    refine ⟨e', he', ?_⟩
    rcases hcase with ⟨hi, rfl⟩ | ⟨rfl, hd, hv⟩
    · rcases hcase' with ⟨h1, h2⟩ | ⟨h1, h2⟩
      · exact .inl ⟨by simp [hi, h1], h2⟩
      · exact .inr ⟨by simp [h1], h2⟩
    · rcases hcase' with ⟨h1, rfl⟩ | ⟨h1, h2, h3⟩
      · exact .inr ⟨by simp, hd, hv⟩
      · exact .inr ⟨by simp, h2, Nat.lt_trans hv h3⟩

theorem killIds_len : ∀ (l : List Nat) (st : St (sem T)), (killIds st l).ents.length = st.ents.length
  | [], _ => rfl
  | id :: l, st => by
    simp only [killIds]
    rw [killIds_len l]
    unfold killEnt
    split <;> simp

theorem ext_head (h : Hav) : Ext st (headSt st h) where
  box := fun i bx hi => by
    obtain ⟨bx', h1, h2, h3, h4, h5⟩ := junkBoxes_spec h.boxes st.boxes i bx hi
    refine ⟨bx', h1, ?_, ?_, h2⟩
    · rcases h5 with ⟨_, rfl⟩ | ⟨_, h6, _⟩
      · exact Nat.le_refl _
      · exact Nat.le_of_lt h6
    · rcases h5 with ⟨_, rfl⟩ | ⟨_, h6, _⟩
      · exact fun _ => rfl
      · intro hh; omega
  ent := fun i e hi => by
    obtain ⟨e', h1, h2⟩ := killIds_spec (ownsOf st h) st i e hi
    refine ⟨e', h1, ?_, ?_⟩
    · rcases h2 with ⟨_, rfl⟩ | ⟨_, _, h6⟩
      · exact Nat.le_refl _
      · exact Nat.le_of_lt h6
    · rcases h2 with ⟨_, rfl⟩ | ⟨_, _, h6⟩
      · exact fun _ => rfl
      · intro hh; omega

/-! ### What holds at the head -/

def cellsW (w : World) (bl : List Nat) (b : Nat) : List Value := match bl[b]? with
  | some x => match w.heap[x]? with
    | some (.cells cs _ _) => cs.toList
    | _ => []
  | none => []

def valsAll (bl : List Nat) (w : World) (a : Act) (h : Hav) : List Value := h.slots.map (fun p => a.tmps.getD p.1 undef) ++ h.boxes.flatMap fun p => cellsW w bl p.1

def Pre (P : Program) (w0 : World) (R0 : Bs T) (bl : List Nat) (vs : List Value) (ow : Nat → Option Owner) (sj : St (sem T)) (h : Hav) (ds : List D) (a : Act) (w : World) : Prop :=
  ∃ R' ow' owr, HR P w0 R0 bl vs R' ow' sj.boxes sj.ents w ∧ TD bl vs ow' sj.tmps a ∧ HRaw P w R' owr 0 (hksAll h) (valsAll bl w a h) ds ∧
    (∀ m b, owr b = some (.ent m) → w0.heap.size ≤ b ∧ ow' b = none ∧ ¬ R' b) ∧ ∀ {l : Nat} b, ow b = some (.mark l) → ow' b = some (.mark l)

theorem svsAll_sound (hr : HR P w0 R0 bl vs R ow st.boxes st.ents w) (ht : TD bl vs ow st.tmps a) {h : Hav} (hb : boxesOk st h = true) : SVRs bl vs (svsAll st h) (valsAll bl w a h) ∧ (svsAll st h).length = (hksAll h).length := by
  have h1 : SVRs bl vs (h.slots.map fun p => st.tmps.getD p.1 .junk) (h.slots.map fun p => a.tmps.getD p.1 undef) := by
    have := evs_sound ht.tr (h.slots.map fun p => Operand.tmp p.1)
    rw [List.map_map, List.map_map] at this
    exact this
  have h2 : ∀ (l : List (Nat × List HK)), boxesOkL st l = true → SVRs bl vs (l.flatMap fun p => cellsAt st p.1) (l.flatMap fun p => cellsW w bl p.1) ∧ (l.flatMap fun p => cellsAt st p.1).length = (l.flatMap (·.2)).length := by
    intro l
    induction l with
    | nil => intro _; exact ⟨trivial, rfl⟩
    | cons p l ih =>
      intro hl
      simp only [boxesOkL, List.all_cons, Bool.and_eq_true] at hl
      obtain ⟨hp, hl⟩ := hl
      obtain ⟨i1, i2⟩ := ih hl
      simp only [List.flatMap_cons, List.length_append]
      cases hbx : st.boxes[p.1]? with
      | none => rw [hbx] at hp; cases hp
      | some bx =>
        rw [hbx] at hp
        simp only [Bool.and_eq_true, beq_iff_eq] at hp
        obtain ⟨b, cs, g1, _, g3, g4⟩ := hr.box _ bx hbx hp.1
        have e1 : cellsAt st p.1 = bx.cells := by simp [cellsAt, hbx]
        have e2 : cellsW w bl p.1 = cs.toList := by simp [cellsW, g1, g3]
        rw [e1, e2]
        exact ⟨g4.append i1, by rw [hp.2, i2]⟩
  obtain ⟨g1, g2⟩ := h2 h.boxes hb
  refine ⟨h1.append g1, ?_⟩
  simp only [svsAll, hksAll, List.length_append, List.length_map, g2]

theorem Own.relabel {i n : Nat} {e : TypeId} {s : Sl} {v : Value} {ow' : Nat → Option Owner} (h : Own P w R ow i e s v) (ho : ∀ b, ow b = some (.ent i) → ow' b = some (.ent n)) : Own P w R ow' n e s v := by
  obtain ⟨a, cap, hv, h1, h2, ha, hc⟩ := h
  refine ⟨a, cap, hv, h1, h2, ha, ?_⟩
  rcases hc with hc | ⟨b, cs, hab, hob, hcs, hcont⟩
  · exact .inl hc
  · exact .inr ⟨b, cs, hab, ho b hob, hcs, hcont⟩

theorem raw_sound (hr : HR P w0 R0 bl vs R ow st.boxes st.ents w) {owr : Nat → Option Owner} : ∀ {hks : List HK} {svs : List (SV (sem T))} {vals : List Value} {cs : List CS} {n : Nat}, rawCells st.ents hks svs = some cs → SVRs bl vs svs vals →
    (∀ q id, (idList hks svs)[q]? = some (some id) → ∀ b, ow b = some (.ent id) → owr b = some (.ent (n + q))) → HRaw P w R owr n hks vals (cs.map Cl.toD)
  | [], [], vals, cs, n, h, hs, _ => by
    simp only [rawCells, Option.some.injEq] at h
    subst h
    cases vals with
    | nil => rfl
    | cons => exact hs.elim
  | hk :: hks, sv :: svs, vals, cs, n, h, hs, ho => by
    cases vals with
    | nil => exact hs.elim
    | cons v vals =>
      have hrest : ∀ q id, (idList hks svs)[q]? = some (some id) → ∀ b, ow b = some (.ent id) → owr b = some (.ent (n + 1 + q)) := fun q id hq b hb => by
        have := ho (q + 1) id (by simpa [idList] using hq) b hb
        rw [show n + 1 + q = n + (q + 1) by omega]
        exact this
      simp only [rawCells] at h
      unfold HRaw
      split at h
      · rename_i cs' hcell hcs
        cases h
        simp only [hcell]
        exact raw_sound hr hcs hs.2 hrest
      · rename_i p cs' hcell hcs
        split at h
        · rename_i c hc
          cases h
          simp only [hcell]
          refine ⟨c.toD, cs'.map Cl.toD, rfl, ?_, raw_sound hr hcs hs.2 hrest⟩
          unfold rawCell at hc
          split at hc
          · rename_i e id
            split at hc
            · rename_i en hen
              split at hc
              · rename_i hcc
                simp only [Bool.and_eq_true, beq_iff_eq] at hcc
                obtain ⟨⟨hlive, hown⟩, rfl⟩ := hcc
                cases hc
                obtain ⟨u, hu, _, hO⟩ := hr.ent id en hen hlive
                have hsv : vs[id]? = some v := hs.1
                rw [hu] at hsv; cases hsv
                refine ⟨en.s, rfl, (hO hown).relabel (fun b hb => ?_)⟩
                have hid : idOf hk (.sl id : SV (sem T)) = some id := by
                  cases hk <;> simp [HK.cell] at hcell
                  obtain ⟨rfl, rfl⟩ := hcell
                  rfl
                have := ho 0 id (by simp [idList, hid]) b hb
                simpa using this
              · cases hc
            · cases hc
          · rename_i e
            cases hc
            have hv : v = .slice none 0 0 := hs.1
            subst hv
            exact ⟨Sl.nil, rfl, none, 0, rfl, Nat.le_refl _, Nat.zero_le _, fun _ => rfl, .inl rfl⟩
          · cases hc
          · rename_i k own hne1 hne2 hne3
            have hrd := toClR_sound hr hc hs.1
            cases k with
            | sl e =>
              cases own with
              | false => exact hrd
              | true => first | exact (hne2 e rfl rfl).elim | exact (hne1 e rfl rfl).elim | exact (hne3 e rfl rfl).elim
            | _ => exact hrd
        · cases h
      · cases h
  | [], _ :: _, _, _, _, h, _, _ => by simp [rawCells] at h
  | _ :: _, [], _, _, _, h, _, _ => by simp [rawCells] at h

theorem nodupB_spec : ∀ {l : List Nat}, nodupB l = true → l.Nodup
  | [], _ => List.nodup_nil
  | x :: l, h => by
    simp only [nodupB, Bool.and_eq_true, Bool.not_eq_true', List.contains_eq_mem, decide_eq_false_iff_not] at h
    exact List.nodup_cons.2 ⟨h.1, nodupB_spec h.2⟩

end Go.Sx
