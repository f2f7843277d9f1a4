/-
  Loops, second part: the head's condition from any later state, and the state of a round out of the condition. Conditions: none beyond each lemma's own.
-/
import Derived.Test.YtlhjljekeobplaaSxE
namespace Go.Sx
open Go.RowKit (Below)

variable {T : FuncId → Pred} {P : Program} {w0 w : World} {R0 : Bs T} {R : Nat → Prop} {bl : List Nat} {vs : List Value} {ow : Nat → Option Owner} {st : St (sem T)} {a : Act}

theorem idx_unique {α : Type} : ∀ {l : List (Option α)}, (l.filterMap id).Nodup → ∀ {p q : Nat} {x : α}, l[p]? = some (some x) → l[q]? = some (some x) → p = q
  | [], _, p, q, x, hp, _ => by simp at hp
  | y :: l, hn, p, q, x, hp, hq => by
    have hmem : ∀ {r : Nat}, l[r]? = some (some x) → x ∈ l.filterMap id := fun {r} hr => by
      rw [List.mem_filterMap]
      exact ⟨some x, List.mem_of_getElem? hr, rfl⟩
    have hn' : (l.filterMap id).Nodup := by
      cases y with
      | none => simpa using hn
      | some y => simp only [List.filterMap_cons, id] at hn; exact (List.nodup_cons.1 hn).2
    cases p with
    | zero =>
      simp only [List.getElem?_cons_zero, Option.some.injEq] at hp
      subst hp
      simp only [List.filterMap_cons, id] at hn
      cases q with
      | zero => rfl
      | succ q => exact absurd (hmem (by simpa using hq)) (List.nodup_cons.1 hn).1
    | succ p =>
      cases q with
      | zero =>
        simp only [List.getElem?_cons_zero, Option.some.injEq] at hq
        subst hq
        simp only [List.filterMap_cons, id] at hn
        exact absurd (hmem (by simpa using hp)) (List.nodup_cons.1 hn).1
      | succ q => exact congrArg (· + 1) (idx_unique (p := p) (q := q) (x := x) hn' (by simpa using hp) (by simpa using hq))

theorem cellsW_mono {bl bl1 : List Nat} (hb : ∀ (i : Nat) (b : Nat), bl[i]? = some b → bl1[i]? = some b) {i : Nat} (hi : i < bl.length) : cellsW w bl1 i = cellsW w bl i := by
  have h0 : bl[i]? = some bl[i] := List.getElem?_eq_getElem hi
  simp [cellsW, h0, hb _ _ h0]

open Classical in
theorem mkPre {h : Hav} {sj st1 : St (sem T)} {bl1 : List Nat} {vs1 : List Value} {R1 : Nat → Prop} {ow1 : Nat → Option Owner} {w1 : World} {a1 : Act} {news : List CS}
    (h1 : HR P w0 R0 bl1 vs1 R1 ow1 st1.boxes st1.ents w1) (t1 : TD bl1 vs1 ow1 st1.tmps a1)
    (hbl : ∀ (i : Nat) (b : Nat), bl[i]? = some b → bl1[i]? = some b) (hvs : ∀ (i : Nat) (b : Value), vs[i]? = some b → vs1[i]? = some b)
    (hraw : rawSt st1 h = some news) (hnd : (ownsOf st1 h).Nodup) (hnb : bl.length = sj.boxes.length) (hnv : vs.length = sj.ents.length) (hbx : ∀ p ∈ h.boxes, p.1 < bl.length)
    (hbox : ∀ (i : Nat) (bx : Box (sem T)), sj.boxes[i]? = some bx → bx.live = true → ∃ bx1, st1.boxes[i]? = some bx1 ∧ bx1.live = true ∧ bx1.ty = bx.ty ∧ ∀ cs, SVRs bl1 vs1 bx1.cells cs → SVRs bl vs bx.cells cs)
    (hent : ∀ (i : Nat) (e : Ent (sem T)), sj.ents[i]? = some e → e.live = true → st1.ents[i]? = some e ∧ i ∉ ownsOf st1 h)
    (htr : SVRs bl vs sj.tmps a1.tmps.toList) (hlp : ∀ i L, R0.lps i = some L → ∃ bx, sj.boxes[i]? = some bx ∧ bx.live = false ∧ st1.boxes[i]? = some bx ∧ ∃ v0, SVRs bl vs L.tmps v0)
    (hmk : ∀ {l : Nat} b, ow b = some (.mark l) → ow1 b = some (.mark l)) : Pre P w0 R0 bl vs ow sj h (news.map Cl.toD) a1 w1 := by
  unfold rawSt at hraw
  split at hraw
  rotate_left
  · cases hraw
  rename_i hbok
  obtain ⟨hsv, hlen⟩ := svsAll_sound h1 t1 hbok
  have hval : valsAll bl1 w1 a1 h = valsAll bl w1 a1 h := by
    unfold valsAll
    congr 1
    have : ∀ (l : List (Nat × List HK)), (∀ p ∈ l, p.1 < bl.length) → (l.flatMap fun p => cellsW w1 bl1 p.1) = l.flatMap fun p => cellsW w1 bl p.1 := by
      intro l
      induction l with
      | nil => intro _; rfl
      | cons p l ih =>
        intro hl
        simp only [List.flatMap_cons]
        rw [cellsW_mono hbl (hl p (by simp)), ih (fun q hq => hl q (by simp [hq]))]
    exact this _ hbx
  rw [hval] at hsv
  let ids := idList (hksAll h) (svsAll st1 h)
  let ow' : Nat → Option Owner := fun b => match ow1 b with
    | some (.box i) => if i < sj.boxes.length then some (.box i) else none
    | some (.ent i) => if i < sj.ents.length ∧ i ∉ ownsOf st1 h then some (.ent i) else none
    | some (.mark l) => some (.mark l)
    | none => none
  let owr : Nat → Option Owner := fun b => if hh : ∃ q : Nat, ∃ id, ids[q]? = some (some id) ∧ ow1 b = some (.ent id) then some (.ent (Classical.choose hh)) else none
  have how : ∀ b o, ow' b = some o → ow1 b = some o := by
    intro b o ho
    simp only [ow'] at ho
    split at ho
    · split at ho <;> simp_all
    · split at ho <;> simp_all
    · simp_all
    · cases ho
  have hmk' : ∀ {l : Nat} b, ow1 b = some (.mark l) → ow' b = some (.mark l) := fun b hb => by simp only [ow', hb]
  refine ⟨R1, ow', owr, ?_, ⟨t1.1.mono hmk', htr⟩, ?_, ?_, fun b hb => hmk' b (hmk b hb)⟩
  · exact {
      below := h1.below
      rlt := h1.rlt
      r0 := h1.r0
      rsub := h1.rsub
      ro := fun b hb => by simp only [ow', h1.ro b hb]
      olt := fun b o ho => h1.olt b o (how b o ho)
      nb := hnb
      nv := hnv
      vsl := fun i v hi => h1.vsl i v (hvs i v hi)
      box := fun i bx hi hl => by
        obtain ⟨bx1, g1, g2, g3, g4⟩ := hbox i bx hi hl
        obtain ⟨b, cs, k1, k2, k3, k4⟩ := h1.box i bx1 g1 g2
        have hlt : i < sj.boxes.length := (List.getElem?_eq_some_iff.1 hi).1
        have hbi : bl[i]? = some b := by
          have h0 : bl[i]? = some bl[i] := List.getElem?_eq_getElem (hnb ▸ hlt)
          rw [h0]
          have := hbl _ _ h0
          rw [k1] at this
          exact this.symm
        exact ⟨b, cs, hbi, by simp only [ow', k2, if_pos hlt], by rw [← g3]; exact k3, g4 _ k4⟩
      ent := fun i e hi hl => by
        obtain ⟨g1, g2⟩ := hent i e hi hl
        obtain ⟨v, k1, k2, k3⟩ := h1.ent i e g1 hl
        have hlt : i < sj.ents.length := (List.getElem?_eq_some_iff.1 hi).1
        have hvi : vs[i]? = some v := by
          have h0 : vs[i]? = some vs[i] := List.getElem?_eq_getElem (hnv ▸ hlt)
          rw [h0]
          have := hvs _ _ h0
          rw [k1] at this
          exact this.symm
        exact ⟨v, hvi, k2, fun ho => (k3 ho).relabel fun b hb => by simp only [ow', hb]; rw [if_pos ⟨hlt, g2⟩]⟩
      mrk := fun b hb => h1.mrk b (how b _ hb)
      lp := fun i L hi => by
        obtain ⟨bx, g1, g2, g3, v0, g4⟩ := hlp i L hi
        obtain ⟨bx1, b, k1, k2, k3, k4, r, r1, r2, r3, r4, r5, r6⟩ := h1.lp i L hi
        rw [g3] at k1; cases k1
        have hlt : i < sj.boxes.length := (List.getElem?_eq_some_iff.1 g1).1
        have hbi : bl[i]? = some b := by
          have h0 : bl[i]? = some bl[i] := List.getElem?_eq_getElem (hnb ▸ hlt)
          rw [h0]
          have := hbl _ _ h0
          rw [k3] at this
          exact this.symm
        exact ⟨bx, b, g1, g2, hbi, by simp only [ow', k4, if_pos hlt], r, r1, r2, r3, r4, g4.back hbl hvs r5, r6⟩ }
  · refine raw_sound h1 hraw hsv fun q id hq b hb => ?_
    have hh : ∃ q : Nat, ∃ id, ids[q]? = some (some id) ∧ ow1 b = some (.ent id) := ⟨q, id, hq, hb⟩
    simp only [owr, dif_pos hh, Nat.zero_add]
    obtain ⟨id', k1, k2⟩ := Classical.choose_spec hh
    rw [hb] at k2
    cases k2
    rw [idx_unique (l := ids) hnd k1 hq]
  · intro m b hb
    simp only [owr] at hb
    split at hb
    · rename_i hh
      obtain ⟨q, id, k1, k2⟩ := hh
      have hmem : id ∈ ownsOf st1 h := by
        unfold ownsOf
        rw [List.mem_filterMap]
        exact ⟨some id, List.mem_of_getElem? k1, rfl⟩
      refine ⟨(h1.olt b _ k2).1, ?_, fun hR => by rw [h1.ro b hR] at k2; cases k2⟩
      simp only [ow', k2]
      rw [if_neg (fun hc => hc.2 hmem)]
    · cases hb

/-! ### The head's state of a round -/

theorem head_box {h : Hav} {i : Nat} {bx' : Box (sem T)} (hi : (headSt st h).boxes[i]? = some bx') : ∃ bx, st.boxes[i]? = some bx ∧ bx'.ty = bx.ty ∧ bx'.live = bx.live ∧ bx'.cells.length = bx.cells.length ∧
    ((i ∉ h.boxes.map (·.1) ∧ bx' = bx) ∨ (i ∈ h.boxes.map (·.1) ∧ bx.ver < bx'.ver ∧ bx'.cells = List.replicate bx.cells.length .junk)) := by
  have hlt : i < st.boxes.length := by
    have := (List.getElem?_eq_some_iff.1 hi).1
    simpa [headSt, junkBoxes_len] using this
  have h0 : st.boxes[i]? = some st.boxes[i] := List.getElem?_eq_getElem hlt
  obtain ⟨bx'', k1, k2⟩ := junkBoxes_spec h.boxes st.boxes i _ h0
  have : some bx'' = some bx' := k1.symm.trans hi
  cases this
  exact ⟨_, h0, k2⟩

theorem head_ent {h : Hav} {i : Nat} {e' : Ent (sem T)} (hi : (headSt st h).ents[i]? = some e') (hl : e'.live = true) : st.ents[i]? = some e' ∧ i ∉ ownsOf st h := by
  have hlt : i < st.ents.length := by
    have := (List.getElem?_eq_some_iff.1 hi).1
    simpa [headSt, killIds_len] using this
  have h0 : st.ents[i]? = some st.ents[i] := List.getElem?_eq_getElem hlt
  obtain ⟨e'', k1, k2⟩ := killIds_spec (ownsOf st h) st i _ h0
  have : some e'' = some e' := k1.symm.trans hi
  cases this
  rcases k2 with ⟨k2, rfl⟩ | ⟨_, k3, _⟩
  · exact ⟨h0, k2⟩
  · rw [hl] at k3; cases k3

theorem junk_svrs : ∀ {n : Nat} {cs : List Value}, cs.length = n → SVRs bl vs (List.replicate n (.junk : SV (sem T))) cs
  | 0, [], _ => trivial
  | n + 1, c :: cs, h => ⟨trivial, junk_svrs (by simpa using h)⟩
  | 0, _ :: _, h => by simp at h
  | _ + 1, [], h => by simp at h

theorem head_tr {h : Hav} (ht : TD bl vs ow st.tmps a) {D : List Nat} (hD : ∀ t ∈ D, t ∈ h.slots.map (·.1)) {a' : Act} (hk : Keeps D a a') : SVRs bl vs (headSt st h).tmps a'.tmps.toList := by
  refine SVRs.of_get ?_ fun i x y hx hy => ?_
  · have := ht.2.length
    simp only [headSt, junkSlots_len, Array.length_toList] at this ⊢
    rw [this, hk.1]
  · rcases junkSlots_get h.slots st.tmps i x hx with rfl | ⟨h1, h2⟩
    · trivial
    · obtain ⟨y', hy', hs⟩ := ht.2.get h2
      have := hk.2 i (fun hh => h1 (hD i hh))
      simp only [Array.getElem?_toList] at hy hy'
      rw [hy, hy'] at this
      cases this
      exact hs

theorem putSlots_tr : ∀ {l : List (Nat × HK)} {tmps : List (SV (sem T))} {svs : List (SV (sem T))}, TD bl vs ow tmps a → SVRs bl vs (svs.take l.length) (l.map fun p => a.tmps.getD p.1 undef) → TD bl vs ow (putSlots tmps l svs) a
  | [], tmps, svs, ht, _ => by cases svs <;> exact ht
  | (t, hk) :: l, tmps, [], ht, _ => ht
  | (t, hk) :: l, tmps, v :: svs, ht, hs => by
    simp only [putSlots]
    simp only [List.length_cons, List.take_succ_cons, List.map_cons] at hs
    refine putSlots_tr (TD.same (st := { tmps := tmps, boxes := [], ents := [] }) ht fun u hu => ?_) hs.2
    have : a.tmps.getD t undef = u := by simp [Array.getD_eq_getD_getElem?, hu]
    rw [← this]
    exact hs.1

def BoxesFit (boxes : List (Box (sem T))) (l : List (Nat × List HK)) : Prop := ∀ p ∈ l, ∃ bx, boxes[p.1]? = some bx ∧ bx.live = true ∧ bx.cells.length = p.2.length

theorem putBoxes_hr {ents : List (Ent (sem T))} : ∀ {l : List (Nat × List HK)} {boxes : List (Box (sem T))} {svs : List (SV (sem T))}, HR P w0 R0 bl vs R ow boxes ents w → BoxesFit boxes l → SVRs bl vs svs (l.flatMap fun p => cellsW w bl p.1) →
    HR P w0 R0 bl vs R ow (putBoxes boxes l svs) ents w
  | [], boxes, svs, h, _, _ => h
  | (b, hks) :: l, boxes, svs, h, hf, hs => by
    obtain ⟨bx, hbx, hl, hn⟩ := hf (b, hks) (by simp)
    obtain ⟨x, cs, k1, k2, k3, k4⟩ := h.box b bx hbx hl
    have hcw : cellsW w bl b = cs.toList := by simp [cellsW, k1, k3]
    have hlen : cs.toList.length = hks.length := by rw [← k4.length, hn]
    simp only [List.flatMap_cons, hcw] at hs
    have hs1 := hs.take hks.length
    have hs2 := hs.drop hks.length
    rw [List.take_left' hlen] at hs1
    rw [List.drop_left' hlen] at hs2
    simp only [putBoxes, hbx]
    refine putBoxes_hr ?_ ?_ hs2
    · exact { h with
        nb := by simp [h.nb]
        box := fun i bx' hi hl' => by
          rcases get_set_inv hi with ⟨rfl, rfl⟩ | ⟨hne, hi⟩
          · exact ⟨x, cs, k1, k2, k3, hs1⟩
          · exact h.box i bx' hi hl'
        lp := fun i L hi => by
          obtain ⟨bx', x', g1, g2, g3, g4, g5⟩ := h.lp i L hi
          have hne : i ≠ b := fun e => by rw [e, hbx] at g1; cases g1; rw [hl] at g2; cases g2
          exact ⟨bx', x', by rw [List.getElem?_set_ne (fun e => hne e.symm)]; exact g1, g2, g3, g4, g5⟩ }
    · intro p hp
      obtain ⟨bx', g1, g2, g3⟩ := hf p (by simp [hp])
      by_cases hpb : p.1 = b
      · rw [hpb, hbx] at g1
        cases g1
        refine ⟨{ bx with cells := svs.take hks.length }, by rw [hpb]; exact set_get_same hbx, hl, ?_⟩
        show (svs.take hks.length).length = p.2.length
        rw [hs1.length, hlen, ← hn, g3]
      · exact ⟨bx', by rw [List.getElem?_set_ne (fun e => hpb e.symm)]; exact g1, g2, g3⟩

theorem putBoxes_spec : ∀ (l : List (Nat × List HK)) (boxes : List (Box (sem T))) (svs : List (SV (sem T))) (i : Nat) (bx : Box (sem T)), boxes[i]? = some bx → ∃ cells, (putBoxes boxes l svs)[i]? = some { bx with cells := cells } ∧ (i ∉ l.map (·.1) → cells = bx.cells)
  | [], boxes, svs, i, bx, h => ⟨bx.cells, h, fun _ => rfl⟩
  | (b, hks) :: l, boxes, svs, i, bx, h => by
    simp only [putBoxes]
    by_cases hib : i = b
    · subst hib
      simp only [h]
      obtain ⟨cells, g1, g2⟩ := putBoxes_spec l (boxes.set i { bx with cells := svs.take hks.length }) (svs.drop hks.length) i _ (set_get_same h)
      exact ⟨cells, g1, fun hh => absurd (by simp) hh⟩
    · cases hb : boxes[b]? with
      | none =>
        simp only
        obtain ⟨cells, g1, g2⟩ := putBoxes_spec l boxes (svs.drop hks.length) i bx h
        exact ⟨cells, g1, fun hh => g2 (fun hm => hh (List.mem_cons_of_mem _ hm))⟩
      | some bx0 =>
        simp only
        obtain ⟨cells, g1, g2⟩ := putBoxes_spec l (boxes.set b { bx0 with cells := svs.take hks.length }) (svs.drop hks.length) i bx (by rw [List.getElem?_set_ne (fun e => hib e.symm)]; exact h)
        exact ⟨cells, g1, fun hh => g2 (fun hm => hh (List.mem_cons_of_mem _ hm))⟩

end Go.Sx
