/-
  The run of any served code: it comes to where its condition says. Conditions: the contracts hold of the callees.
-/
import Derived.Test.YtlhjljekeobplaaSxF
import Derived.Deep.LoopGhost
namespace Go.Sx
open Go.RowKit (Below)

variable {T : FuncId → Pred} {w0 : World} {R0 : Bs T}

section
variable {P : Program} {w : World} {R : Nat → Prop} {bl : List Nat} {vs : List Value} {ow : Nat → Option Owner} {st : St (sem T)} {a : Act}

theorem boxesOk_at {h : Hav} (hok : boxesOk st h = true) {p : Nat × List HK} (hp : p ∈ h.boxes) : ∃ bx, st.boxes[p.1]? = some bx ∧ bx.live = true ∧ bx.cells.length = p.2.length := by
  have := List.all_eq_true.1 hok p hp
  split at this
  · rename_i bx hbx
    simp only [Bool.and_eq_true, beq_iff_eq] at this
    exact ⟨bx, hbx, this.1, this.2⟩
  · cases this

theorem head_in {h : Hav} {ds : List D} (hp : Pre P w0 R0 bl vs ow (headSt st h) h ds a w) (hok : boxesOk st h = true) {f : List (SV (sem T)) → List CS → St (sem T) → Tree (sem T)} (hd : (havAll P (hksAll h) (headSt st h) f).den) :
    ∃ svs cs st1 vs' R' ow' es, Stp P w0 R0 bl vs ow st bl vs' R' ow' (putAll h svs st1) w ∧ TD bl vs' ow' (putAll h svs st1).tmps a ∧ cs.map Cl.toD = ds ∧ st1.boxes = (headSt st h).boxes ∧ st1.ents = (headSt st h).ents ++ es ∧ (f svs cs st1).den := by
  obtain ⟨R', ow0, owr, hhr, htr, hraw, hown, hmk⟩ := hp
  obtain ⟨svs, cs, st1, vs', ow', hS, htm, hbe, ⟨es, hes⟩, hsv, hlen, hcs, hf⟩ := havAll_sound hhr hraw (fun m b _ hb => hown m b hb) hd
  have e1 : (valsAll bl w a h).take h.slots.length = h.slots.map fun p => a.tmps.getD p.1 undef := by
    unfold valsAll; rw [List.take_left' (by simp)]
  have e2 : (valsAll bl w a h).drop h.slots.length = h.boxes.flatMap fun p => cellsW w bl p.1 := by
    unfold valsAll; rw [List.drop_left' (by simp)]
  have s1 := hsv.take h.slots.length
  have s2 := hsv.drop h.slots.length
  rw [e1] at s1
  rw [e2] at s2
  refine ⟨svs, cs, st1, vs', R', ow', es, ⟨?_, hS.bl, hS.vs, ?_, fun b hb => hS.mrk b (hmk b hb)⟩, ?_, hcs, hbe, hes, hf⟩
  · refine putBoxes_hr hS.hr (fun p hp => ?_) s2
    obtain ⟨bx, g1, g2, g3⟩ := boxesOk_at hok hp
    obtain ⟨bx', k1, _, k3, k4, _⟩ := junkBoxes_spec h.boxes st.boxes p.1 bx g1
    exact ⟨bx', by rw [hbe]; exact k1, by rw [k3, g2], by rw [k4, g3]⟩
  · refine ⟨fun i bx hi => ?_, fun i e hi => ?_⟩
    · obtain ⟨bx', k1, k2, _, _, k5⟩ := junkBoxes_spec h.boxes st.boxes i bx hi
      obtain ⟨cells, m1, m2⟩ := putBoxes_spec h.boxes st1.boxes (svs.drop h.slots.length) i bx' (by rw [hbe]; exact k1)
      refine ⟨_, m1, ?_, ?_, k2⟩
      · rcases k5 with ⟨_, rfl⟩ | ⟨_, h6, _⟩
        · exact Nat.le_refl _
        · exact Nat.le_of_lt h6
      · rcases k5 with ⟨h5, rfl⟩ | ⟨_, h6, _⟩
        · intro _
          rw [m2 h5]
        · intro hh
          have hh : bx'.ver = bx.ver := hh
          omega
    · obtain ⟨e', k1, k2, k3⟩ := (ext_head (st := st) h).ent i e hi
      exact ⟨e', by show st1.ents[i]? = _; rw [hes]; exact get_append_lt k1, k2, k3⟩
  · refine putSlots_tr ?_ s1
    rw [htm]
    exact ⟨htr.1.mono hS.mrk, htr.2.mono hS.bl hS.vs⟩

theorem lp_tmps (h0 : HR P w0 R0 bl vs R ow st.boxes st.ents w) {i : Nat} {L : LStat T} (hi : R0.lps i = some L) : ∃ v0, SVRs bl vs L.tmps v0 := by
  obtain ⟨_, _, _, _, _, _, r, _, _, _, _, r5, _⟩ := h0.lp i L hi
  exact ⟨_, r5⟩

theorem lp_head {h : Hav} (h0 : HR P w0 R0 bl vs R ow st.boxes st.ents w) (hok : boxesOk st h = true) {i : Nat} {L : LStat T} (hi : R0.lps i = some L) :
    ∃ bx, (headSt st h).boxes[i]? = some bx ∧ bx.live = false ∧ st.boxes[i]? = some bx := by
  obtain ⟨bx, b, g1, g2, g3, _⟩ := h0.lp i L hi
  obtain ⟨bx', k1, k2, k3, k4, k5⟩ := junkBoxes_spec h.boxes st.boxes i bx g1
  rcases k5 with ⟨_, rfl⟩ | ⟨k5, _, _⟩
  · exact ⟨bx', k1, g2, g1⟩
  · obtain ⟨p, hp, rfl⟩ := List.mem_map.1 k5
    obtain ⟨b1, q1, q2, _⟩ := boxesOk_at hok hp
    rw [g1] at q1; cases q1
    rw [g2] at q2; cases q2

theorem pre_start {h : Hav} (h0 : HR P w0 R0 bl vs R ow st.boxes st.ents w) (t0 : TD bl vs ow st.tmps a) (hok : boxesOk st h = true) (hnd : nodupB (ownsOf st h) = true) {raws : List CS} (hraw : rawSt st h = some raws) :
    Pre P w0 R0 bl vs ow (headSt st h) h (raws.map Cl.toD) a w := by
  refine mkPre h0 t0 (fun _ _ x => x) (fun _ _ x => x) hraw (nodupB_spec hnd) ?_ ?_ (fun p hp => ?_) (fun i bx hi hl => ?_) (fun i e hi hl => head_ent hi hl) (head_tr t0 (D := []) (fun _ h => by cases h) (Keeps.refl _ _)) (fun i L hi => ?_) (fun _ x => x)
  · simp [headSt, junkBoxes_len, h0.nb]
  · simp [headSt, killIds_len, h0.nv]
  · obtain ⟨bx, g1, _, _⟩ := boxesOk_at hok hp
    rw [h0.nb]; exact (List.getElem?_eq_some_iff.1 g1).1
  · obtain ⟨bx0, g1, g2, g3, g4, g5⟩ := head_box hi
    refine ⟨bx0, g1, by rw [← g3]; exact hl, g2.symm, fun cs hs => ?_⟩
    rcases g5 with ⟨_, rfl⟩ | ⟨_, _, h6⟩
    · exact hs
    · rw [h6]; exact junk_svrs hs.length.symm
  · obtain ⟨bx, g1, g2, g3⟩ := lp_head h0 hok hi
    exact ⟨bx, g1, g2, g3, lp_tmps h0 hi⟩

theorem round_end {h : Hav} (h0 : HR P w0 R0 bl vs R ow st.boxes st.ents w) (t0 : TD bl vs ow st.tmps a) (hok : boxesOk st h = true) {D : List Nat} (hD : ∀ t ∈ D, t ∈ h.slots.map (·.1))
    {svs : List (SV (sem T))} {st1 : St (sem T)} {es : List (Ent (sem T))} (hb1 : st1.boxes = (headSt st h).boxes) (he1 : st1.ents = (headSt st h).ents ++ es)
    {vs' : List Value} (hvs : ∀ (i : Nat) (b : Value), vs[i]? = some b → vs'[i]? = some b) {ow' : Nat → Option Owner} (hmk : ∀ {l : Nat} b, ow b = some (.mark l) → ow' b = some (.mark l)) {bl1 : List Nat} {vs1 : List Value} {R1 : Nat → Prop} {ow1 : Nat → Option Owner} {st' : St (sem T)} {w' : World} {a' : Act}
    (hS : Stp P w0 R0 bl vs' ow' (putAll h svs st1) bl1 vs1 R1 ow1 st' w') (t1 : TD bl1 vs1 ow1 st'.tmps a') (hk : Keeps D a a') (hro : roundOk h st.ents.length (putAll h svs st1) st' = true) {news : List CS} (hraw : rawSt st' h = some news)
    (hnd : nodupB (ownsOf st' h) = true) (hge : (ownsOf st' h).all (fun id => st.ents.length ≤ id) = true) : Pre P w0 R0 bl vs ow (headSt st h) h (news.map Cl.toD) a' w' := by
  have hok' : boxesOk st' h = true := by
    unfold rawSt at hraw
    split at hraw
    · assumption
    · cases hraw
  unfold roundOk at hro
  simp only [Bool.and_eq_true] at hro
  obtain ⟨hro1, hro2⟩ := hro
  refine mkPre hS.hr t1 hS.bl (fun i v hi => hS.vs i v (hvs i v hi)) hraw (nodupB_spec hnd) ?_ ?_ (fun p hp => ?_) (fun i bx hi hl => ?_) (fun i e hi hl => ?_) (head_tr t0 hD hk) (fun i L hi => ?_) (fun b hb => hS.mrk b (hmk b hb))
  · simp [headSt, junkBoxes_len, h0.nb]
  · simp [headSt, killIds_len, h0.nv]
  · obtain ⟨bx, g1, _, _⟩ := boxesOk_at hok hp
    rw [h0.nb]; exact (List.getElem?_eq_some_iff.1 g1).1
  · obtain ⟨bx0, g1, g2, g3, g4, g5⟩ := head_box hi
    obtain ⟨cells, m1, m2⟩ := putBoxes_spec h.boxes st1.boxes (svs.drop h.slots.length) i bx (by rw [hb1]; exact hi)
    have m1 : (putAll h svs st1).boxes[i]? = some { bx with cells := cells } := m1
    have hz := zipIdx_all hro1 m1
    obtain ⟨b', k1, k2, k3, k4⟩ := hS.ext.box i _ m1
    rw [k1] at hz
    simp only [hl, Bool.true_and, Bool.or_eq_true, beq_iff_eq, Bool.and_eq_true] at hz
    by_cases hin : i ∈ h.boxes.map (·.1)
    · have hcells : bx.cells = List.replicate bx0.cells.length .junk := by
        rcases g5 with ⟨h5, _⟩ | ⟨_, _, h6⟩
        · exact absurd hin h5
        · exact h6
      obtain ⟨p, hp, rfl⟩ := List.mem_map.1 hin
      obtain ⟨b1, q1, _, q3⟩ := boxesOk_at hok hp
      obtain ⟨b2, r1, r2, r3⟩ := boxesOk_at hok' hp
      rw [g1] at q1; cases q1
      rw [k1] at r1; cases r1
      refine ⟨b', k1, r2, k4, fun cs hs => ?_⟩
      rw [hcells, q3]
      exact junk_svrs (by rw [← hs.length, r3])
    · have hz : b'.ver = bx.ver := by
        rcases hz with hz | hz
        · exact hz
        · have := hz.1
          simp only [List.contains_eq_mem, decide_eq_true_eq] at this
          exact absurd this hin
      have := k3 hz
      subst this
      have hbx : bx = bx0 := by
        rcases g5 with ⟨_, h5⟩ | ⟨h5, _⟩
        · exact h5
        · exact absurd h5 hin
      subst hbx
      refine ⟨_, k1, hl, rfl, fun cs hs => ?_⟩
      rw [m2 hin] at hs
      obtain ⟨_, cs0, _, _, _, k4'⟩ := h0.box i bx g1 hl
      exact k4'.back hS.bl (fun i v hi => hS.vs i v (hvs i v hi)) hs
  · obtain ⟨g1, g2⟩ := head_ent hi hl
    have hlt : i < st.ents.length := (List.getElem?_eq_some_iff.1 g1).1
    have hh : (putAll h svs st1).ents[i]? = some e := by
      show st1.ents[i]? = _
      rw [he1]; exact get_append_lt hi
    have hz := zipIdx_all hro2 (i := i) (x := e) (by rw [List.getElem?_take_of_lt hlt]; exact hh)
    simp only [hl, Bool.not_true, Bool.false_or] at hz
    obtain ⟨e', k1, k2, k3⟩ := hS.ext.ent i e hh
    rw [k1] at hz
    simp only [beq_iff_eq] at hz
    have := k3 hz
    subst this
    refine ⟨k1, fun hm => ?_⟩
    have := List.all_eq_true.1 hge i hm
    simp only [decide_eq_true_eq] at this
    omega
  · obtain ⟨bx, g1, g2, g3⟩ := lp_head h0 hok hi
    obtain ⟨bx', q1, q2, q3, q4, q5⟩ := head_box g1
    obtain ⟨cells, m1, m2⟩ := putBoxes_spec h.boxes st1.boxes (svs.drop h.slots.length) i bx (by rw [hb1]; exact g1)
    have hin : i ∉ h.boxes.map (·.1) := fun hm => by
      obtain ⟨p, hp, rfl⟩ := List.mem_map.1 hm
      obtain ⟨b1, r1, r2, _⟩ := boxesOk_at hok hp
      rw [g3] at r1; cases r1
      rw [g2] at r2; cases r2
    have m1 : (putAll h svs st1).boxes[i]? = some { bx with cells := cells } := m1
    have hz := zipIdx_all hro1 m1
    obtain ⟨b', k1, k2, k3, k4⟩ := hS.ext.box i _ m1
    rw [k1] at hz
    simp only [g2, Bool.false_and, Bool.or_false, beq_iff_eq] at hz
    have := k3 hz
    rw [m2 hin] at this
    subst this
    exact ⟨bx, g1, g2, k1, lp_tmps h0 hi⟩

theorem join_end {h : Hav} (h0 : HR P w0 R0 bl vs R ow st.boxes st.ents w) (t0 : TD bl vs ow st.tmps a) (hok : boxesOk st h = true) {D : List Nat} (hD : ∀ t ∈ D, t ∈ h.slots.map (·.1))
    {bl1 : List Nat} {vs1 : List Value} {R1 : Nat → Prop} {ow1 : Nat → Option Owner} {st' : St (sem T)} {w' : World} {a' : Act}
    (hS : Stp P w0 R0 bl vs ow st bl1 vs1 R1 ow1 st' w') (t1 : TD bl1 vs1 ow1 st'.tmps a') (hk : Keeps D a a') (hro : roundOk h st.ents.length (headSt st h) st' = true) {news : List CS} (hraw : rawSt st' h = some news)
    (hnd : nodupB (ownsOf st' h) = true) (hge : (ownsOf st' h).all (fun id => decide (st.ents.length ≤ id) || (ownsOf st h).contains id) = true) : Pre P w0 R0 bl vs ow (headSt st h) h (news.map Cl.toD) a' w' := by
  have hok' : boxesOk st' h = true := by
    unfold rawSt at hraw
    split at hraw
    · assumption
    · cases hraw
  unfold roundOk at hro
  simp only [Bool.and_eq_true] at hro
  obtain ⟨hro1, hro2⟩ := hro
  refine mkPre hS.hr t1 hS.bl hS.vs hraw (nodupB_spec hnd) ?_ ?_ (fun p hp => ?_) (fun i bx hi hl => ?_) (fun i e hi hl => ?_) (head_tr t0 hD hk) (fun i L hi => ?_) hS.mrk
  · simp [headSt, junkBoxes_len, h0.nb]
  · simp [headSt, killIds_len, h0.nv]
  · obtain ⟨bx, g1, _, _⟩ := boxesOk_at hok hp
    rw [h0.nb]; exact (List.getElem?_eq_some_iff.1 g1).1
  · obtain ⟨bx0, g1, g2, g3, g4, g5⟩ := head_box hi
    have hz := zipIdx_all hro1 hi
    obtain ⟨b', k1, k2, k3, k4⟩ := hS.ext.box i _ g1
    rw [k1] at hz
    simp only [hl, Bool.true_and, Bool.or_eq_true, beq_iff_eq, Bool.and_eq_true] at hz
    by_cases hin : i ∈ h.boxes.map (·.1)
    · have hcells : bx.cells = List.replicate bx0.cells.length .junk := by
        rcases g5 with ⟨h5, _⟩ | ⟨_, _, h6⟩
        · exact absurd hin h5
        · exact h6
      obtain ⟨p, hp, rfl⟩ := List.mem_map.1 hin
      obtain ⟨b1, q1, _, q3⟩ := boxesOk_at hok hp
      obtain ⟨b2, r1, r2, r3⟩ := boxesOk_at hok' hp
      rw [g1] at q1; cases q1
      rw [k1] at r1; cases r1
      refine ⟨b', k1, r2, k4.trans g2.symm, fun cs hs => ?_⟩
      rw [hcells, q3]
      exact junk_svrs (by rw [← hs.length, r3])
    · have hz : b'.ver = bx.ver := by
        rcases hz with hz | hz
        · exact hz
        · have := hz.1
          simp only [List.contains_eq_mem, decide_eq_true_eq] at this
          exact absurd this hin
      have hbx : bx = bx0 := by
        rcases g5 with ⟨_, h5⟩ | ⟨h5, _⟩
        · exact h5
        · exact absurd h5 hin
      subst hbx
      have := k3 hz
      subst this
      refine ⟨_, k1, hl, rfl, fun cs hs => ?_⟩
      obtain ⟨_, cs0, _, _, _, k4'⟩ := h0.box i _ g1 hl
      exact k4'.back hS.bl hS.vs hs
  · obtain ⟨g1, g2⟩ := head_ent hi hl
    have hlt : i < st.ents.length := (List.getElem?_eq_some_iff.1 g1).1
    have hz := zipIdx_all hro2 (i := i) (x := e) (by rw [List.getElem?_take_of_lt hlt]; exact hi)
    simp only [hl, Bool.not_true, Bool.false_or] at hz
    obtain ⟨e', k1, k2, k3⟩ := hS.ext.ent i e g1
    rw [k1] at hz
    simp only [beq_iff_eq] at hz
    have := k3 hz
    subst this
    refine ⟨k1, fun hm => ?_⟩
    have := List.all_eq_true.1 hge i hm
    simp only [Bool.or_eq_true, decide_eq_true_eq, List.contains_eq_mem] at this
    rcases this with this | this
    · omega
    · exact g2 this
  · obtain ⟨bx, g1, g2, g3⟩ := lp_head h0 hok hi
    obtain ⟨bx', q1, q2, q3, q4, q5⟩ := head_box g1
    have hz := zipIdx_all hro1 g1
    obtain ⟨b', k1, k2, k3, k4⟩ := hS.ext.box i _ g3
    rw [k1] at hz
    simp only [g2, Bool.false_and, Bool.or_false, beq_iff_eq] at hz
    have := k3 hz
    subst this
    exact ⟨_, g1, g2, k1, lp_tmps h0 hi⟩

end

/-- Where the code may come to. -/
def Sat (P : Program) (w0 : World) (R0 : Bs T) (bl : List Nat) (vs : List Value) (ow : Nat → Option Owner) (st : St (sem T)) (D : List Nat) (a : Act) (kN : St (sem T) → Tree (sem T)) (kE : Nat → St (sem T) → Tree (sem T)) (kR : St (sem T) → Tree (sem T)) : Exit → Act → World → Prop
  | .normal, a', w' => Keeps D a a' ∧ Reach P w0 R0 bl vs ow st (fun st' => (kN st').den) a' w'
  | .exit id, a', w' => Keeps D a a' ∧ Reach P w0 R0 bl vs ow st (fun st' => (kE id st').den) a' w'
  | .ret, a', w' => Keeps D a a' ∧ Reach P w0 R0 bl vs ow st (fun st' => (kR st').den) a' w'
  | _, _, _ => False

theorem Sat.of {P : Program} {bl : List Nat} {vs : List Value} {ow : Nat → Option Owner} {st : St (sem T)} {D D' : List Nat} {a a1 : Act} {kN kR : St (sem T) → Tree (sem T)} {kE : Nat → St (sem T) → Tree (sem T)} {bl1 : List Nat} {vs1 : List Value} {R1 : Nat → Prop} {ow1 : Nat → Option Owner} {st1 : St (sem T)} {w1 : World}
    (h : Stp P w0 R0 bl vs ow st bl1 vs1 R1 ow1 st1 w1) (hD : ∀ t, t ∈ D' → t ∈ D) (hk : Keeps D a a1) : ∀ {e : Exit} {a' : Act} {w' : World}, Sat P w0 R0 bl1 vs1 ow1 st1 D' a1 kN kE kR e a' w' → Sat P w0 R0 bl vs ow st D a kN kE kR e a' w'
  | .normal, _, _, ⟨g1, g2⟩ => ⟨hk.trans (g1.mono hD), g2.of h⟩
  | .exit _, _, _, ⟨g1, g2⟩ => ⟨hk.trans (g1.mono hD), g2.of h⟩
  | .ret, _, _, ⟨g1, g2⟩ => ⟨hk.trans (g1.mono hD), g2.of h⟩
  | .goto _, _, _, h => h.elim
  | .panic _, _, _, h => h.elim
  | .outgrown, _, _, h => h.elim

theorem todo_start (n : Nat) : todo (Array.replicate n false) ≤ n := by
  have := List.countP_le_length (p := (· == false)) (l := List.replicate n false)
  simpa only [todo, Array.toList_replicate, List.length_replicate] using this

theorem wpIn_loop_ghost {F : Fence} {n : Nat} {P : Program} {Q : Exit → Act → World → Prop} {a : Act} {w : World} {c : Code} (I : Nat → Act → World → Prop) (n₀ : Nat) (h₀ : I n₀ a w)
    (round : ∀ m a w, I m a w → c.wpIn F n P (Exit.then (fun a' w' => ∃ n', n' < m ∧ I n' a' w') Q) a w) : (Code.loop c).wpIn F n P Q a w := by
  refine wpIn_loop (fun a w => ∃ m, I m a w) (fun a w => leastOf (fun m => I m a w)) ⟨n₀, h₀⟩ ?_
  intro a w hI
  refine wpIn_mono (round _ a w (leastOf_spec hI).1) ?_
  intro e a' w' hq
  cases e with
  | normal =>
    obtain ⟨n', hlt, hI'⟩ := hq
    exact show (∃ m, I m a' w') ∧ leastOf (fun m => I m a' w') < leastOf (fun m => I m a w) from ⟨⟨n', hI'⟩, Nat.lt_of_le_of_lt ((leastOf_spec ⟨n', hI'⟩).2 n' hI') hlt⟩
  | exit id => exact hq
  | ret => exact hq
  | goto l => exact hq
  | panic ch => exact hq
  | outgrown => exact hq

theorem wpIn_draw {rnd : Option Nat} {n : Nat} {P : Program} {id : Nat} {ops : Array Oper} {S : World → Prop} {Q : Exit → Act → World → Prop} {a : Act} {w : World} (hL : ¬ LetsOut Q) (hn : noDefer ops = true) (hm : P.follows .mixedOrders = true)
    (h : wpAnyH P .any ops Q S ops.size (Array.replicate ops.size false) a { w with drawn := w.drawn + 1 }) : (Code.region id ops true).wpIn (FZ rnd) n P Q a w :=
  wpIn_region_draw fun t => by
    simp only [Region.schedule, hm, Bool.true_or, if_true]
    exact wpOps_in hL hn _ _ _ (wpAny_sound ops.size t _ a _ (wpAny_of_held _ _ _ _ h))

/-! ### Loops over functions -/

def Bs.put (B : Bs T) (i : Nat) (L : Option (LStat T)) : Bs T := ⟨B.R, fun j => if j = i then L else B.lps j⟩

theorem Bs.put_eq (B : Bs T) (i : Nat) (L : Option (LStat T)) : (B.put i L).lps i = L := by simp [Bs.put]
theorem Bs.put_ne (B : Bs T) {i j : Nat} (h : j ≠ i) (L : Option (LStat T)) : (B.put i L).lps j = B.lps j := by simp [Bs.put, h]

section
variable {P : Program} {w : World} {R : Nat → Prop} {bl : List Nat} {vs : List Value} {ow : Nat → Option Owner} {boxes : List (Box (sem T))} {ents : List (Ent (sem T))}

/-- A loop's record is turned. -/
theorem HR.setLoop {B B' : Bs T} (h : HR P w0 B bl vs R ow boxes ents w) {i b : Nat} {o' : Obj} {boxes' : List (Box (sem T))} {bx' : Box (sem T)} (hb : bl[i]? = some b) (ho : ow b = some (.box i)) (hR : B'.R = B.R)
    (hB : ∀ j, j ≠ i → B'.lps j = B.lps j) (hbx : ∀ j, j ≠ i → boxes'[j]? = boxes[j]?) (hi : boxes'[i]? = some bx') (hd : bx'.live = false) (hlen : boxes'.length = boxes.length)
    (hL : ∀ L', B'.lps i = some L' → LpOk bl vs L' bx'.cells (some o')) : HR P w0 B' bl vs R ow boxes' ents (w.putObj b o') := by
  have hlt : b < w.heap.size := (h.olt b _ ho).2
  have other : ∀ x, x ≠ b → (w.putObj b o').heap[x]? = w.heap[x]? := fun x hx => World.putObj_heap_other hx
  have hRo : ∀ x, R x → (w.putObj b o').heap[x]? = w.heap[x]? := fun x hx => other x (fun e => by rw [e] at hx; rw [h.ro b hx] at ho; cases ho)
  exact {
    below := h.below.trans ⟨rfl, rfl, rfl, by simp, fun x hx => other x (fun e => by have := (h.olt b _ ho).1; omega)⟩
    rlt := fun x hx => by simpa using h.rlt x hx
    r0 := fun x hx => h.r0 x (by rw [← hR]; exact hx)
    rsub := fun x hx => by rw [hR]; exact h.rsub x hx
    ro := h.ro
    olt := fun x q hx => by simpa using h.olt x q hx
    nb := h.nb.trans hlen.symm
    nv := h.nv
    vsl := h.vsl
    box := fun j bj hj hl => by
      have hne : j ≠ i := fun e => by rw [e, hi] at hj; cases hj; rw [hd] at hl; cases hl
      rw [hbx j hne] at hj
      obtain ⟨x, cs, g1, g2, g3, g4⟩ := h.box j bj hj hl
      exact ⟨x, cs, g1, g2, (other x (fun e => by rw [e, ho] at g2; cases g2; exact hne rfl)).trans g3, g4⟩
    ent := fun j e hj hl => by
      obtain ⟨v, hv, g1, g2⟩ := h.ent j e hj hl
      exact ⟨v, hv, fun hh => (g1 hh).mono (fun _ x => x) hRo, fun hh => (g2 hh).mono (fun _ x => x) hRo (fun x hx => ⟨hx, other x (fun e => by rw [e, ho] at hx; cases hx)⟩)⟩
    mrk := fun x hx => (other x (fun e => by rw [e, ho] at hx; cases hx)).trans (h.mrk x hx)
    lp := fun j L hj => by
      by_cases e : j = i
      · subst e
        exact ⟨bx', b, hi, hd, hb, ho, by rw [World.putObj_heap_same hlt]; exact hL L hj⟩
      · rw [hB j e] at hj
        obtain ⟨bx, x, g1, g2, g3, g4, g5⟩ := h.lp j L hj
        exact ⟨bx, x, by rw [hbx j e]; exact g1, g2, g3, g4, g5.mono (other x (fun e' => by rw [e', ho] at g4; cases g4; exact e rfl)) (fun _ _ x => x) (fun _ _ x => x)⟩ }

/-- The marks bear other levels, or are dropped. -/
theorem HR.remark {B : Bs T} (h : HR P w0 B bl vs R ow boxes ents w) {ow' : Nat → Option Owner} (h1 : ∀ b o, ow b = some o → (∀ l, o ≠ .mark l) → ow' b = some o)
    (h2 : ∀ b o, ow' b = some o → ow b = some o ∨ ∃ l l', ow b = some (.mark l) ∧ o = .mark l') : HR P w0 B bl vs R ow' boxes ents w := by
  exact {
    below := h.below
    rlt := h.rlt
    r0 := h.r0
    rsub := h.rsub
    ro := fun b hb => by
      cases ho : ow' b with
      | none => rfl
      | some o =>
        have := h.ro b hb
        rcases h2 b o ho with g | ⟨l, l', g, _⟩ <;> rw [this] at g <;> cases g
    olt := fun b o ho => by
      rcases h2 b o ho with g | ⟨l, l', g, _⟩
      · exact h.olt b o g
      · exact h.olt b _ g
    nb := h.nb
    nv := h.nv
    vsl := h.vsl
    box := fun i bx hi hl => by
      obtain ⟨b, cs, g1, g2, g3, g4⟩ := h.box i bx hi hl
      exact ⟨b, cs, g1, h1 b _ g2 (fun _ e => by cases e), g3, g4⟩
    ent := fun i e hi hl => by
      obtain ⟨v, hv, g1, g2⟩ := h.ent i e hi hl
      exact ⟨v, hv, g1, fun hh => (g2 hh).mono (fun _ x => x) (fun _ _ => rfl) (fun x hx => ⟨h1 x _ hx (fun _ e => by cases e), rfl⟩)⟩
    mrk := fun b hb => by
      rcases h2 b _ hb with g | ⟨l, l', g, _⟩
      · exact h.mrk b g
      · exact h.mrk b g
    lp := fun i L hi => by
      obtain ⟨bx, b, g1, g2, g3, g4, g5⟩ := h.lp i L hi
      exact ⟨bx, b, g1, g2, g3, h1 b _ g4 (fun _ e => by cases e), g5⟩ }

/-- A mark is taken. -/
theorem HR.takeMark {B : Bs T} (h : HR P w0 B bl vs R ow boxes ents w) {d l : Nat} (hd : ow d = some (.mark l)) : HR P w0 B bl vs R (setOw ow d none) boxes ents (w.putObj d (.deferred none)) := by
  have other : ∀ x, x ≠ d → (w.putObj d (.deferred none)).heap[x]? = w.heap[x]? := fun x hx => World.putObj_heap_other hx
  have hne : ∀ x o, ow x = some o → (∀ l, o ≠ .mark l) → x ≠ d := fun x o hx ho e => by rw [e, hd] at hx; cases hx; exact ho _ rfl
  have hk : ∀ x o, setOw ow d none x = some o → x ≠ d ∧ ow x = some o := fun x o hx => by
    by_cases e : x = d
    · subst e; rw [setOw_eq] at hx; cases hx
    · rw [setOw_ne e] at hx; exact ⟨e, hx⟩
  exact {
    below := h.below.trans ⟨rfl, rfl, rfl, by simp, fun x hx => other x (fun e => by have := (h.olt d _ hd).1; omega)⟩
    rlt := fun x hx => by simpa using h.rlt x hx
    r0 := h.r0
    rsub := h.rsub
    ro := fun x hx => by
      by_cases e : x = d
      · subst e; exact setOw_eq
      · rw [setOw_ne e]; exact h.ro x hx
    olt := fun x o hx => by simpa using h.olt x o (hk x o hx).2
    nb := h.nb
    nv := h.nv
    vsl := h.vsl
    box := fun i bx hi hl => by
      obtain ⟨b, cs, g1, g2, g3, g4⟩ := h.box i bx hi hl
      have := hne b _ g2 (fun _ e => by cases e)
      exact ⟨b, cs, g1, by rw [setOw_ne this]; exact g2, (other b this).trans g3, g4⟩
    ent := fun i e hi hl => by
      obtain ⟨v, hv, g1, g2⟩ := h.ent i e hi hl
      have hRo : ∀ x, R x → (w.putObj d (.deferred none)).heap[x]? = w.heap[x]? := fun x hx => other x (fun e => by rw [e] at hx; rw [h.ro d hx] at hd; cases hd)
      refine ⟨v, hv, fun hh => (g1 hh).mono (fun _ x => x) hRo, fun hh => (g2 hh).mono (fun _ x => x) hRo (fun x hx => ?_)⟩
      have := hne x _ hx (fun _ e => by cases e)
      exact ⟨by rw [setOw_ne this]; exact hx, other x this⟩
    mrk := fun x hx => by
      obtain ⟨e, g⟩ := hk x _ hx
      exact (other x e).trans (h.mrk x g)
    lp := fun i L hi => by
      obtain ⟨bx, b, g1, g2, g3, g4, g5⟩ := h.lp i L hi
      have := hne b _ g4 (fun _ e => by cases e)
      exact ⟨bx, b, g1, g2, g3, by rw [setOw_ne this]; exact g4, g5.mono (other b this) (fun _ _ x => x) (fun _ _ x => x)⟩ }

/-- A loop over a function begins. -/
theorem HR.enterLoop {B : Bs T} (h : HR P w0 B bl vs R ow boxes ents w) {L : LStat T} {r : Loop} (hp : r.params = L.params) (ha : r.assign = L.assign) (hbd : r.body = L.body) (ht : SVRs bl vs L.tmps r.tmps.toList)
    (hs : r.state = .ready) (hpd : r.pending = none) (hbusy : L.busy = false) :
    HR P w0 (B.put boxes.length (some L)) (bl ++ [w.heap.size + 1]) vs R (setOw (setOw ow w.heap.size (some (.mark 0))) (w.heap.size + 1) (some (.box boxes.length))) (boxes ++ [⟨0, [], 0, false⟩]) ents ((w.alloc (.deferred (some []))).alloc (.loop r)) := by
  have hB1 : Below w.heap.size w (w.alloc (.deferred (some []))) := (Below.refl _ _).alloc (Nat.le_refl _) _
  have hB2 : Below w.heap.size w ((w.alloc (.deferred (some []))).alloc (.loop r)) := hB1.alloc (by simp) _
  have hg := h.grow hB2
  have hsz : ((w.alloc (.deferred (some []))).alloc (.loop r)).heap.size = w.heap.size + 2 := by simp
  have hl : ((w.alloc (.deferred (some []))).alloc (.loop r)).heap[w.heap.size + 1]? = some (.loop r) := by
    have := World.alloc_heap_new (w.alloc (.deferred (some []))) (.loop r); rwa [World.size_alloc] at this
  have hk : ((w.alloc (.deferred (some []))).alloc (.loop r)).heap[w.heap.size]? = some (.deferred (some [])) :=
    (Below.heap_alloc _ _ _ (by simp)).trans (World.alloc_heap_new w _)
  have hnew : ∀ x, w.heap.size ≤ x → ow x = none := fun x hx => by
    cases hox : ow x with
    | none => rfl
    | some o => have := (h.olt x o hox).2; omega
  have hole : ∀ x o, ow x = some o → setOw (setOw ow w.heap.size (some (.mark 0))) (w.heap.size + 1) (some (.box boxes.length)) x = some o := fun x o hx => by
    have := (h.olt x o hx).2
    rw [setOw_ne (by omega), setOw_ne (by omega)]; exact hx
  exact {
    below := hg.below
    rlt := hg.rlt
    r0 := hg.r0
    rsub := hg.rsub
    ro := fun x hx => by
      have := h.rlt x hx
      rw [setOw_ne (by omega), setOw_ne (by omega)]; exact h.ro x hx
    olt := fun x o hx => by
      by_cases e1 : x = w.heap.size + 1
      · subst e1; exact ⟨Nat.le_trans h.below.size (by omega), by rw [hsz]; omega⟩
      · rw [setOw_ne e1] at hx
        by_cases e2 : x = w.heap.size
        · subst e2; exact ⟨h.below.size, by rw [hsz]; omega⟩
        · rw [setOw_ne e2] at hx; exact hg.olt x o hx
    nb := by simp [h.nb]
    nv := h.nv
    vsl := h.vsl
    box := fun j bj hj hlj => by
      rcases get_append_inv hj with hj | ⟨_, rfl⟩
      · obtain ⟨x, cs, g1, g2, g3, g4⟩ := hg.box j bj hj hlj
        exact ⟨x, cs, get_append_lt g1, hole x _ g2, g3, g4.mono (fun _ _ => get_append_lt) (fun _ _ x => x)⟩
      · cases hlj
    ent := fun j e hj hlj => by
      obtain ⟨v, hv, g1, g2⟩ := hg.ent j e hj hlj
      exact ⟨v, hv, g1, fun hh => (g2 hh).mono (fun _ x => x) (fun _ _ => rfl) (fun x hx => ⟨hole x _ hx, rfl⟩)⟩
    mrk := fun x hx => by
      by_cases e1 : x = w.heap.size + 1
      · subst e1; rw [setOw_eq] at hx; cases hx
      · rw [setOw_ne e1] at hx
        by_cases e2 : x = w.heap.size
        · subst e2; exact hk
        · rw [setOw_ne e2] at hx; exact hg.mrk x hx
    lp := fun j L' hj => by
      by_cases e : j = boxes.length
      · subst e
        rw [Bs.put_eq] at hj
        cases hj
        refine ⟨⟨0, [], 0, false⟩, w.heap.size + 1, by simp, rfl, by rw [← h.nb]; simp, setOw_eq, r, hl, hp, ha, hbd, ht.mono (fun _ _ => get_append_lt) (fun _ _ x => x), none, rfl, hpd, ?_, fun _ => rfl⟩
        rw [hbusy, hs]; rfl
      · rw [Bs.put_ne _ e] at hj
        obtain ⟨bx, x, g1, g2, g3, g4, g5⟩ := hg.lp j L' hj
        exact ⟨bx, x, get_append_lt g1, g2, get_append_lt g3, hole x _ g4, g5.mono rfl (fun _ _ => get_append_lt) (fun _ _ x => x)⟩ }
end

/-- What a handler of rounds is: from every state in which the loop is under way. -/
def HandOk (cfg : Cfg) (w0 : World) (B : Bs T) (y : Yd (sem T)) : Prop :=
  ∀ (args : List (SV (sem T))) (vals : List Value) (st : St (sem T)) (k : SV (sem T) → St (sem T) → Tree (sem T)) (bl : List Nat) (vs : List Value) (R : Nat → Prop) (ow : Nat → Option Owner) (w : World),
    HR cfg.P w0 B bl vs R ow st.boxes st.ents w → SVRs bl vs args vals → (y.run args st k).den → YieldOk cfg.P w0 B bl vs ow st w y.i vals k

def YsOk (cfg : Cfg) (w0 : World) : Ys (sem T) → Bs T → Prop
  | [], _ => True
  | y :: ys, B => (∃ L : LStat T, B.lps y.i = some L ∧ L.busy = false ∧ ∀ B' : Bs T, B'.R = B.R → B'.lps y.i = some L → YsOk cfg w0 ys B' → HandOk cfg w0 B' y) ∧ YsOk cfg w0 ys B

theorem YsOk.lps {cfg : Cfg} : ∀ {ys : Ys (sem T)} {B : Bs T}, YsOk cfg w0 ys B → ∀ y ∈ ys, ∃ L, B.lps y.i = some L
  | [], _, _, y, hy => by cases hy
  | y :: ys, B, h, y', hy => by
    simp only [List.mem_cons] at hy
    rcases hy with rfl | hy
    · obtain ⟨L, hL, _⟩ := h.1; exact ⟨L, hL⟩
    · exact YsOk.lps h.2 y' hy

theorem YsOk.mono {cfg : Cfg} : ∀ {ys : Ys (sem T)} {B B' : Bs T}, YsOk cfg w0 ys B → B'.R = B.R → (∀ y ∈ ys, B'.lps y.i = B.lps y.i) → YsOk cfg w0 ys B'
  | [], _, _, _, _, _ => trivial
  | y :: ys, B, B', h, hR, hl => by
    obtain ⟨⟨L, h1, h2, h3⟩, h4⟩ := h
    exact ⟨⟨L, (hl y (by simp)).trans h1, h2, fun B2 g1 g2 g3 => h3 B2 (g1.trans hR) g2 g3⟩, h4.mono hR (fun y' hy => hl y' (by simp [hy]))⟩

theorem YsOk.find {cfg : Cfg} : ∀ {ys : Ys (sem T)} {B : Bs T}, YsOk cfg w0 ys B → ∀ {i : Nat} {y : Yd (sem T)}, ys.find? (fun y => y.i == i) = some y → y.i = i ∧ HandOk cfg w0 B y
  | [], _, _, i, y, hf => by simp at hf
  | y0 :: ys, B, h, i, y, hf => by
    simp only [List.find?_cons] at hf
    split at hf
    · rename_i he
      cases hf
      obtain ⟨⟨L, h1, h2, h3⟩, h4⟩ := h
      exact ⟨by simpa using he, h3 B rfl h1 h4⟩
    · exact YsOk.find h.2 hf

theorem setMany_tr {bl : List Nat} {vs : List Value} : ∀ {ps : List Nat} {tmps args : List (SV (sem T))} {vals : List Value} {t : Array Value}, SVRs bl vs tmps t.toList → SVRs bl vs args vals → args.length = ps.length →
    SVRs bl vs (setMany tmps ps args) ((ps.zip vals).foldl (fun t p => t.setIfInBounds p.1 p.2) t).toList
  | [], tmps, [], vals, t, h, ha, hl => by
    cases vals with
    | nil => exact h
    | cons => exact ha.elim
  | p :: ps, tmps, x :: args, vals, t, h, ha, hl => by
    cases vals with
    | nil => exact ha.elim
    | cons v vals =>
      simp only [setMany, List.zip_cons_cons, List.foldl_cons]
      refine setMany_tr ?_ ha.2 (by simpa using hl)
      rw [Array.toList_setIfInBounds]
      exact h.set ha.1
  | [], _, _ :: _, _, _, _, _, hl => by simp at hl
  | _ :: _, _, [], _, _, _, _, hl => by simp at hl

end Go.Sx
