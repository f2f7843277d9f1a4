/-
  The run of any served code: it comes to where its condition says. Conditions: the contracts hold of the callees.
-/
import Derived.Test.YtlhjljekeobplaaSxF
import Derived.Deep.LoopGhost
namespace Go.Sx
open Go.RowKit (Below)

variable {T : FuncId → Pred} {w0 : World} {R0 : Nat → Prop}

section
variable {P : Program} {w : World} {R : Nat → Prop} {bl : List Nat} {vs : List Value} {ow : Nat → Option Owner} {st : St (sem T)} {a : Act}

theorem boxesOk_at {h : Hav} (hok : boxesOk st h = true) {p : Nat × List HK} (hp : p ∈ h.boxes) : ∃ bx, st.boxes[p.1]? = some bx ∧ bx.live = true ∧ bx.cells.length = p.2.length := by
  have := List.all_eq_true.1 hok p hp
  split at this
  · rename_i bx hbx
    simp only [Bool.and_eq_true, beq_iff_eq] at this
    exact ⟨bx, hbx, this.1, this.2⟩
  · cases this

theorem head_in {h : Hav} {ds : List D} (hp : Pre P w0 R0 bl vs (headSt st h) h ds a w) (hok : boxesOk st h = true) {f : List (SV (sem T)) → List CS → St (sem T) → Tree (sem T)} (hd : (havAll (hksAll h) (headSt st h) f).den) :
    ∃ svs cs st1 vs' R' ow' es, Stp P w0 R0 bl vs st bl vs' R' ow' (putAll h svs st1) w ∧ TR bl vs' (putAll h svs st1).tmps a ∧ cs.map Cl.toD = ds ∧ st1.boxes = (headSt st h).boxes ∧ st1.ents = (headSt st h).ents ++ es ∧ (f svs cs st1).den := by
  obtain ⟨R', ow0, owr, hhr, htr, hraw, hown⟩ := hp
  obtain ⟨svs, cs, st1, vs', ow', hS, htm, hbe, ⟨es, hes⟩, hsv, hlen, hcs, hf⟩ := havAll_sound hhr hraw (fun m b _ hb => hown m b hb) hd
  have e1 : (valsAll bl w a h).take h.slots.length = h.slots.map fun p => a.tmps.getD p.1 undef := by
    unfold valsAll; rw [List.take_left' (by simp)]
  have e2 : (valsAll bl w a h).drop h.slots.length = h.boxes.flatMap fun p => cellsW w bl p.1 := by
    unfold valsAll; rw [List.drop_left' (by simp)]
  have s1 := hsv.take h.slots.length
  have s2 := hsv.drop h.slots.length
  rw [e1] at s1
  rw [e2] at s2
  refine ⟨svs, cs, st1, vs', R', ow', es, ⟨?_, hS.bl, hS.vs, ?_⟩, ?_, hcs, hbe, hes, hf⟩
  · refine putBoxes_hr hS.hr (fun p hp => ?_) s2
    obtain ⟨bx, g1, g2, g3⟩ := boxesOk_at hok hp
    obtain ⟨bx', k1, _, k3, k4, _⟩ := junkBoxes_spec h.boxes st.boxes p.1 bx g1
    exact ⟨bx', by rw [hbe]; exact k1, by rw [k3, g2], by rw [k4, g3]⟩
  · refine ⟨fun i bx hi => ?_, fun i e hi => ?_⟩
    · obtain ⟨bx', k1, k2, _, _, k5⟩ := junkBoxes_spec h.boxes st.boxes i bx hi
      obtain ⟨cells, m1, m2⟩ := putBoxes_spec h.boxes st1.boxes (svs.drop h.slots.length) i bx' (by rw [hbe]; exact k1)
      refine ⟨_, m1, ?_, ?_, k2⟩
      · rcases k5 with ⟨_, rfl⟩ | ⟨_, h6, _⟩
        · exact Nat.le_refl _
        · exact Nat.le_of_lt h6
      · rcases k5 with ⟨h5, rfl⟩ | ⟨_, h6, _⟩
        · intro _
          rw [m2 h5]
        · intro hh
          have hh : bx'.ver = bx.ver := hh
          omega
    · obtain ⟨e', k1, k2, k3⟩ := (ext_head (st := st) h).ent i e hi
      exact ⟨e', by show st1.ents[i]? = _; rw [hes]; exact get_append_lt k1, k2, k3⟩
  · refine putSlots_tr ?_ s1
    rw [htm]
    exact ⟨htr.1, htr.2.mono hS.bl hS.vs⟩

theorem pre_start {h : Hav} (h0 : HR P w0 R0 bl vs R ow st.boxes st.ents w) (t0 : TR bl vs st.tmps a) (hok : boxesOk st h = true) (hnd : nodupB (ownsOf st h) = true) {raws : List CS} (hraw : rawSt st h = some raws) :
    Pre P w0 R0 bl vs (headSt st h) h (raws.map Cl.toD) a w := by
  refine mkPre h0 t0 (fun _ _ x => x) (fun _ _ x => x) hraw (nodupB_spec hnd) ?_ ?_ (fun p hp => ?_) (fun i bx hi hl => ?_) (fun i e hi hl => head_ent hi hl) (head_tr t0 (D := []) (fun _ h => by cases h) (Keeps.refl _ _) t0.1)
  · simp [headSt, junkBoxes_len, h0.nb]
  · simp [headSt, killIds_len, h0.nv]
  · obtain ⟨bx, g1, _, _⟩ := boxesOk_at hok hp
    rw [h0.nb]; exact (List.getElem?_eq_some_iff.1 g1).1
  · obtain ⟨bx0, g1, g2, g3, g4, g5⟩ := head_box hi
    refine ⟨bx0, g1, by rw [← g3]; exact hl, g2.symm, fun cs hs => ?_⟩
    rcases g5 with ⟨_, rfl⟩ | ⟨_, _, h6⟩
    · exact hs
    · rw [h6]; exact junk_svrs hs.length.symm

theorem round_end {h : Hav} (h0 : HR P w0 R0 bl vs R ow st.boxes st.ents w) (t0 : TR bl vs st.tmps a) (hok : boxesOk st h = true) {D : List Nat} (hD : ∀ t ∈ D, t ∈ h.slots.map (·.1))
    {svs : List (SV (sem T))} {st1 : St (sem T)} {es : List (Ent (sem T))} (hb1 : st1.boxes = (headSt st h).boxes) (he1 : st1.ents = (headSt st h).ents ++ es)
    {vs' : List Value} (hvs : ∀ (i : Nat) (b : Value), vs[i]? = some b → vs'[i]? = some b) {bl1 : List Nat} {vs1 : List Value} {R1 : Nat → Prop} {ow1 : Nat → Option Owner} {st' : St (sem T)} {w' : World} {a' : Act}
    (hS : Stp P w0 R0 bl vs' (putAll h svs st1) bl1 vs1 R1 ow1 st' w') (t1 : TR bl1 vs1 st'.tmps a') (hk : Keeps D a a') (hro : roundOk h st.ents.length (putAll h svs st1) st' = true) {news : List CS} (hraw : rawSt st' h = some news)
    (hnd : nodupB (ownsOf st' h) = true) (hge : (ownsOf st' h).all (fun id => st.ents.length ≤ id) = true) : Pre P w0 R0 bl vs (headSt st h) h (news.map Cl.toD) a' w' := by
  have hok' : boxesOk st' h = true := by
    unfold rawSt at hraw
    split at hraw
    · assumption
    · cases hraw
  unfold roundOk at hro
  simp only [Bool.and_eq_true] at hro
  obtain ⟨hro1, hro2⟩ := hro
  refine mkPre hS.hr t1 hS.bl (fun i v hi => hS.vs i v (hvs i v hi)) hraw (nodupB_spec hnd) ?_ ?_ (fun p hp => ?_) (fun i bx hi hl => ?_) (fun i e hi hl => ?_) (head_tr t0 hD hk t1.1)
  · simp [headSt, junkBoxes_len, h0.nb]
  · simp [headSt, killIds_len, h0.nv]
  · obtain ⟨bx, g1, _, _⟩ := boxesOk_at hok hp
    rw [h0.nb]; exact (List.getElem?_eq_some_iff.1 g1).1
  · obtain ⟨bx0, g1, g2, g3, g4, g5⟩ := head_box hi
    obtain ⟨cells, m1, m2⟩ := putBoxes_spec h.boxes st1.boxes (svs.drop h.slots.length) i bx (by rw [hb1]; exact hi)
    have m1 : (putAll h svs st1).boxes[i]? = some { bx with cells := cells } := m1
    have hz := zipIdx_all hro1 m1
    simp only [hl, Bool.not_true, Bool.false_or] at hz
    obtain ⟨b', k1, k2, k3, k4⟩ := hS.ext.box i _ m1
    rw [k1] at hz
    simp only [Bool.or_eq_true, beq_iff_eq, Bool.and_eq_true] at hz
    by_cases hin : i ∈ h.boxes.map (·.1)
    · have hcells : bx.cells = List.replicate bx0.cells.length .junk := by
        rcases g5 with ⟨h5, _⟩ | ⟨_, _, h6⟩
        · exact absurd hin h5
        · exact h6
      obtain ⟨p, hp, rfl⟩ := List.mem_map.1 hin
      obtain ⟨b1, q1, _, q3⟩ := boxesOk_at hok hp
      obtain ⟨b2, r1, r2, r3⟩ := boxesOk_at hok' hp
      rw [g1] at q1; cases q1
      rw [k1] at r1; cases r1
      refine ⟨b', k1, r2, k4, fun cs hs => ?_⟩
      rw [hcells, q3]
      exact junk_svrs (by rw [← hs.length, r3])
    · have hz : b'.ver = bx.ver := by
        rcases hz with hz | hz
        · exact hz
        · have := hz.1
          simp only [List.contains_eq_mem, decide_eq_true_eq] at this
          exact absurd this hin
      have := k3 hz
      subst this
      have hbx : bx = bx0 := by
        rcases g5 with ⟨_, h5⟩ | ⟨h5, _⟩
        · exact h5
        · exact absurd h5 hin
      subst hbx
      refine ⟨_, k1, hl, rfl, fun cs hs => ?_⟩
      rw [m2 hin] at hs
      obtain ⟨_, cs0, _, _, _, k4'⟩ := h0.box i bx g1 hl
      exact k4'.back hS.bl (fun i v hi => hS.vs i v (hvs i v hi)) hs
  · obtain ⟨g1, g2⟩ := head_ent hi hl
    have hlt : i < st.ents.length := (List.getElem?_eq_some_iff.1 g1).1
    have hh : (putAll h svs st1).ents[i]? = some e := by
      show st1.ents[i]? = _
      rw [he1]; exact get_append_lt hi
    have hz := zipIdx_all hro2 (i := i) (x := e) (by rw [List.getElem?_take_of_lt hlt]; exact hh)
    simp only [hl, Bool.not_true, Bool.false_or] at hz
    obtain ⟨e', k1, k2, k3⟩ := hS.ext.ent i e hh
    rw [k1] at hz
    simp only [beq_iff_eq] at hz
    have := k3 hz
    subst this
    refine ⟨k1, fun hm => ?_⟩
    have := List.all_eq_true.1 hge i hm
    simp only [decide_eq_true_eq] at this
    omega

end

/-- Where the code may come to. -/
def Sat (P : Program) (w0 : World) (R0 : Nat → Prop) (bl : List Nat) (vs : List Value) (st : St (sem T)) (D : List Nat) (a : Act) (kN : St (sem T) → Tree (sem T)) (kE : Nat → St (sem T) → Tree (sem T)) (kR : St (sem T) → Tree (sem T)) : Exit → Act → World → Prop
  | .normal, a', w' => Keeps D a a' ∧ Reach P w0 R0 bl vs st (fun st' => (kN st').den) a' w'
  | .exit id, a', w' => Keeps D a a' ∧ Reach P w0 R0 bl vs st (fun st' => (kE id st').den) a' w'
  | .ret, a', w' => Keeps D a a' ∧ Reach P w0 R0 bl vs st (fun st' => (kR st').den) a' w'
  | _, _, _ => False

theorem Sat.of {P : Program} {bl : List Nat} {vs : List Value} {st : St (sem T)} {D D' : List Nat} {a a1 : Act} {kN kR : St (sem T) → Tree (sem T)} {kE : Nat → St (sem T) → Tree (sem T)} {bl1 : List Nat} {vs1 : List Value} {R1 : Nat → Prop} {ow1 : Nat → Option Owner} {st1 : St (sem T)} {w1 : World}
    (h : Stp P w0 R0 bl vs st bl1 vs1 R1 ow1 st1 w1) (hD : ∀ t, t ∈ D' → t ∈ D) (hk : Keeps D a a1) : ∀ {e : Exit} {a' : Act} {w' : World}, Sat P w0 R0 bl1 vs1 st1 D' a1 kN kE kR e a' w' → Sat P w0 R0 bl vs st D a kN kE kR e a' w'
  | .normal, _, _, ⟨g1, g2⟩ => ⟨hk.trans (g1.mono hD), g2.of h⟩
  | .exit _, _, _, ⟨g1, g2⟩ => ⟨hk.trans (g1.mono hD), g2.of h⟩
  | .ret, _, _, ⟨g1, g2⟩ => ⟨hk.trans (g1.mono hD), g2.of h⟩
  | .goto _, _, _, h => h.elim
  | .panic _, _, _, h => h.elim
  | .outgrown, _, _, h => h.elim

theorem todo_start (n : Nat) : todo (Array.replicate n false) ≤ n := by
  have := List.countP_le_length (p := (· == false)) (l := List.replicate n false)
  simpa only [todo, Array.toList_replicate, List.length_replicate] using this

/-- **THE RUN OF CODE.** -/
theorem exec_sound {cfg : Cfg} {inl : Inl (sem T)} (hsig : SigOk T cfg) (hinl : InlOk cfg w0 R0 inl) : ∀ (c : Code) {path : Nat} {bl : List Nat} {vs : List Value} {R : Nat → Prop} {ow : Nat → Option Owner} {st : St (sem T)} {a : Act} {w : World} {kN kR : St (sem T) → Tree (sem T)} {kE : Nat → St (sem T) → Tree (sem T)},
    HR cfg.P w0 R0 bl vs R ow st.boxes st.ents w → TR bl vs st.tmps a → (exec cfg inl path c st kN kE kR).den → c.wp cfg.P (Sat cfg.P w0 R0 bl vs st (dsts c) a kN kE kR) a w
  | .skip, path, bl, vs, R, ow, st, a, w, kN, kR, kE, h, ht, hd => wp_skip ⟨Keeps.refl _ _, bl, vs, R, ow, st, ⟨h, fun _ _ x => x, fun _ _ x => x, Ext.refl _⟩, ht, hd⟩
  | .exit id, path, bl, vs, R, ow, st, a, w, kN, kR, kE, h, ht, hd => wp_exit ⟨Keeps.refl _ _, bl, vs, R, ow, st, ⟨h, fun _ _ x => x, fun _ _ x => x, Ext.refl _⟩, ht, hd⟩
  | .ret, path, bl, vs, R, ow, st, a, w, kN, kR, kE, h, ht, hd => wp_ret ⟨Keeps.refl _ _, bl, vs, R, ow, st, ⟨h, fun _ _ x => x, fun _ _ x => x, Ext.refl _⟩, ht, hd⟩
  | .seq x y, path, bl, vs, R, ow, st, a, w, kN, kR, kE, h, ht, hd => by
    unfold exec at hd
    refine wp_seq (wp_mono (exec_sound hsig hinl x h ht hd) ?_)
    intro e a' w' hq
    have keep : ∀ {t}, t ∈ dsts x → t ∈ dsts (.seq x y) := fun ht => by simp [dsts, ht]
    cases e with
    | normal =>
      obtain ⟨hk, bl1, vs1, R1, ow1, st1, hS, ht1, hd1⟩ := hq
      exact wp_mono (exec_sound hsig hinl y hS.hr ht1 hd1) fun e a2 w2 hq2 => hq2.of hS (fun t ht => by simp [dsts, ht]) (hk.mono fun t ht => keep ht)
    | exit id => exact ⟨hq.1.mono fun t ht => keep ht, hq.2⟩
    | ret => exact ⟨hq.1.mono fun t ht => keep ht, hq.2⟩
    | goto l => exact hq.elim
    | panic ch => exact hq.elim
    | outgrown => exact hq.elim
  | .cond c x y, path, bl, vs, R, ow, st, a, w, kN, kR, kE, h, ht, hd => by
    unfold exec at hd
    obtain ⟨st1, hS, ht1, hd1⟩ := decided_sound h ht hd
    have hev := ev_sound ht1 c
    split at hd1
    · rename_i hc
      rw [hc] at hev
      exact wp_cond_true hev (wp_mono (exec_sound hsig hinl x hS.hr ht1 hd1) fun e a2 w2 hq2 => hq2.of hS (fun t ht => by simp [dsts, ht]) (Keeps.refl _ _))
    · rename_i hc
      rw [hc] at hev
      exact wp_cond_false hev (wp_mono (exec_sound hsig hinl y hS.hr ht1 hd1) fun e a2 w2 hq2 => hq2.of hS (fun t ht => by simp [dsts, ht]) (Keeps.refl _ _))
    · exact hd1.elim
  | .block id b, path, bl, vs, R, ow, st, a, w, kN, kR, kE, h, ht, hd => by
    unfold exec at hd
    refine wp_block (wp_mono (exec_sound hsig hinl b h ht hd) ?_)
    intro e a' w' hq
    cases e with
    | normal => exact hq
    | exit id' =>
      obtain ⟨hk, bl1, vs1, R1, ow1, st1, hS, ht1, hd1⟩ := hq
      simp only [Exit.inBlock]
      by_cases hid : id' = id
      · simp only [hid, if_true, beq_self_eq_true] at hd1 ⊢
        exact ⟨hk, bl1, vs1, R1, ow1, st1, hS, ht1, hd1⟩
      · have hd1 : (if (id' == id) = true then kN st1 else kE id' st1).den := hd1
        rw [if_neg (by simpa using hid)] at hd1
        rw [if_neg hid]
        exact ⟨hk, bl1, vs1, R1, ow1, st1, hS, ht1, hd1⟩
    | ret => exact hq
    | goto l => exact hq.elim
    | panic ch => exact hq.elim
    | outgrown => exact hq.elim
  | .region id ops draw, path, bl, vs, R, ow, st, a, w, kN, kR, kE, h, ht, hd => by
    unfold exec at hd
    cases draw with
    | false =>
      simp only [Bool.false_eq_true, if_false] at hd
      refine wp_region_list (runOps_sound hsig hinl ops.toList h ht hd fun a' w' hk hr => ⟨hk, hr⟩)
    | true =>
      simp only [if_true] at hd
      split at hd
      · rename_i hc
        simp only [Bool.and_eq_true] at hc
        refine wp_region_held (S := Base cfg.P bl vs (baseOf st (writtenIn ops st))) hc.2 ?_
        have hdr : Below w.heap.size w { w with drawn := w.drawn + 1 } := Below.drew (Below.refl _ _)
        have h' := h.grow hdr
        exact runDraw_sound hsig hinl (fun c a w h => h) hc.1 h' (D := dsts (.region id ops true)) (a0 := a) (fun i o ho x hx => by
            simp only [dsts, List.mem_filterMap]
            exact ⟨o, by simpa using Array.mem_of_getElem? ho, hx⟩) (fun a' w' hk hr => ⟨hk, hr⟩) _ ⟨h', fun _ _ x => x, fun _ _ x => x, Ext.refl _⟩ ht hd (base_start h' _) (todo_start _) (Keeps.refl _ _)
      · exact hd.elim
  | .loop b, path, bl, vs, R, ow, st, a, w, kN, kR, kE, h, ht, hd => by
    unfold exec at hd
    simp only at hd
    generalize hh : autoHav cfg.P (cfg.hav (path * 1000 + firstRegion b)) b st = hv at hd
    split at hd
    · rename_i hok
      unfold loopOk at hok
      simp only [Bool.and_eq_true] at hok
      obtain ⟨⟨hok1, hok2⟩, hok3⟩ := hok
      have hD : ∀ t ∈ dsts b, t ∈ hv.slots.map (·.1) := fun t ht => by
        have := List.all_eq_true.1 hok1 t ht
        simpa using this
      split at hd
      · rename_i raws hraw
        obtain ⟨J, M, hJ, hd⟩ := hd
        refine wp_loop_ghost (fun n a' w' => ∃ ds, apP (shapeHav hv) J ds ∧ n = apN (shapeHav hv) M ds ∧ Keeps (dsts b) a a' ∧ Pre cfg.P w0 R0 bl vs (headSt st hv) hv ds a' w') (apN (shapeHav hv) M (raws.map Cl.toD))
          ⟨_, hJ, rfl, Keeps.refl _ _, pre_start h ht hok3 hok2 hraw⟩ ?_
        rintro n a1 w1 ⟨ds, hJd, rfl, hk1, hpre⟩
        obtain ⟨svs, cs, st1, vs', R', ow', es, hS1, ht1, hcs, hb1, he1, hf⟩ := head_in hpre hok3 hd
        have hf := hf (by rw [hcs]; exact hJd)
        refine wp_mono (exec_sound hsig hinl b hS1.hr ht1 hf) ?_
        intro e a2 w2 hq
        cases e with
        | normal =>
          obtain ⟨hk2, bl2, vs2, R2, ow2, st2, hS2, ht2, hd2⟩ := hq
          dsimp only at hd2
          split at hd2
          · rename_i hro
            split at hd2
            · rename_i news hnews
              split at hd2
              · rename_i hno
                simp only [Bool.and_eq_true] at hno
                obtain ⟨g1, g2⟩ := hd2
                exact ⟨_, by rw [← hcs]; exact g2, news.map Cl.toD, g1, rfl, hk1.trans hk2, round_end h ht hok3 hD hb1 he1 hS1.vs hS2 ht2 (hk1.trans hk2) hro hnews hno.1 hno.2⟩
              · exact hd2.elim
            · exact hd2.elim
          · exact hd2.elim
        | exit id' => exact Sat.of (e := .exit id') hS1 (fun _ x => x) hk1 hq
        | ret => exact Sat.of (e := .ret) hS1 (fun _ x => x) hk1 hq
        | goto l => exact hq.elim
        | panic ch => exact hq.elim
        | outgrown => exact hq.elim
      · exact hd.elim
    · exact hd.elim
  | .label _, path, bl, vs, R, ow, st, a, w, kN, kR, kE, h, ht, hd => by
    unfold exec at hd
    exact hd.elim
  | .goto _, path, bl, vs, R, ow, st, a, w, kN, kR, kE, h, ht, hd => by
    unfold exec at hd
    exact hd.elim

end Go.Sx
