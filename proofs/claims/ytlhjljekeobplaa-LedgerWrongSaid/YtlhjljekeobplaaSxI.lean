/-
  THE CONDITION of a function gives its contract. Conditions: the contracts hold of the callees.
-/
import Derived.Test.YtlhjljekeobplaaSxH
namespace Go.Sx
open Go.RowKit (Below)

variable {T : FuncId → Pred}

section
variable {P : Program} {w0 w : World} {R0 : Bs T} {R : Nat → Prop} {bl : List Nat} {vs : List Value} {ow : Nat → Option Owner} {st : St (sem T)} {a : Act}

theorem posCells_len : ∀ {l : List (K × Bool)} {svs : List (SV (sem T))} {cs : List CS}, resCells st l svs = some cs → (posCells l svs).length = l.length
  | [], [], _, _ => rfl
  | p :: l, v :: svs, cs, h => by
    simp only [resCells] at h
    split at h
    · rename_i c cs' _ hcs
      simp [posCells, posCells_len hcs]
    · cases h
  | [], _ :: _, _, h => by simp [resCells] at h
  | _ :: _, [], _, h => by simp [resCells] at h

theorem resVs_sound (hr : HR P w0 R0 bl vs R ow st.boxes st.ents w) {owr : Nat → Option Owner} : ∀ {shs : List VSh} {svs : List (SV (sem T))} {vals : List Value} {cs : List CS} {n : Nat}, resVs st shs svs = some cs → SVRs bl vs svs vals →
    (∀ q id, (posVs shs svs)[q]? = some (some id) → ∀ b, ow b = some (.ent id) → owr b = some (.ent (n + q))) → ResVs P w R owr n shs vals (cs.map Cl.toD)
  | [], [], vals, cs, n, h, hs, _ => by
    simp only [resVs, Option.some.injEq] at h
    subst h
    cases vals with
    | nil => rfl
    | cons => exact hs.elim
  | sh :: shs, sv :: svs, vals, cs, n, h, hs, ho => by
    cases vals with
    | nil => exact hs.elim
    | cons v vals =>
      simp only [resVs] at h
      split at h
      · rename_i c cs' hc hcs
        cases h
        have main : ∃ l ws us, resCells st l ws = some c ∧ SVRs bl vs ws us ∧ posVs (sh :: shs) (sv :: svs) = posCells l ws ++ posVs shs svs ∧ sh.width = l.length ∧ (ResCells P w R owr n l us (c.map Cl.toD) → ResV P w R owr n sh v (c.map Cl.toD)) := by
          cases sh with
          | cell k own =>
            simp only [resV, Option.map_eq_some_iff] at hc
            obtain ⟨c0, hc0, rfl⟩ := hc
            exact ⟨[(k, own)], [sv], [v], by simp [resCells, hc0], ⟨hs.1, trivial⟩, rfl, rfl, fun h => h⟩
          | agg l =>
            cases sv with
            | agg ws =>
              simp only [resV] at hc
              obtain ⟨us, rfl, hus⟩ := hs.1
              exact ⟨l, ws, us.toList, hc, hus, rfl, rfl, fun h => ⟨us, rfl, h⟩⟩
            | _ => simp [resV] at hc
        obtain ⟨l, ws, us, g1, g2, g3, g4, g5⟩ := main
        have hlen := posCells_len g1
        rw [List.map_append]
        refine ⟨_, _, rfl, g5 (resCells_sound hr g1 g2 fun q id hq b hb => ?_), resVs_sound hr hcs hs.2 fun q id hq b hb => ?_⟩
        · exact ho q id (by rw [g3]; exact get_append_lt hq) b hb
        · have := ho (l.length + q) id (by rw [g3, List.getElem?_append_right (by omega), hlen]; simpa using hq) b hb
          rw [g4, Nat.add_assoc]
          exact this
      · cases h
  | [], _ :: _, _, _, _, h, _, _ => by simp [resVs] at h
  | _ :: _, [], _, _, _, h, _, _ => by simp [resVs] at h

theorem start_hr (hR : ∀ b, R b → b < w.heap.size) : HR (T := T) P w ⟨R, fun _ => none⟩ [] [] R (fun _ => none) [] [] w where
  below := Below.refl _ _
  rlt := hR
  r0 := fun _ h => h
  rsub := fun _ h => .inl h
  ro := fun _ _ => rfl
  olt := fun _ _ h => by cases h
  nb := rfl
  nv := rfl
  vsl := fun _ _ h => by simp at h
  box := fun _ _ h => by simp at h
  ent := fun _ _ h => by simp at h
  mrk := fun _ h => by cases h
  lp := fun _ _ h => by cases h

open Classical in
theorem res_ok (hr : HR P w0 R0 bl vs R ow st.boxes st.ents w) {shs : List VSh} {svs : List (SV (sem T))} {vals : List Value} {cs : List CS} (h : resVs st shs svs = some cs) (hs : SVRs bl vs svs vals) (hn : nodupB (ownVs shs svs) = true) :
    ResOk P w0 R0.R w shs (oneV vals) (cs.map Cl.toD) := by
  let owr : Nat → Option Owner := fun b => if hh : ∃ q : Nat, ∃ id, (posVs shs svs)[q]? = some (some id) ∧ ow b = some (.ent id) then some (.ent (Classical.choose hh)) else none
  refine ⟨vals, R, owr, rfl, hr.r0, fun b hb => (hr.rsub b hb).imp id (fun h => ⟨h, hr.rlt b hb⟩), fun b hb => ?_, fun b o ho => ?_, resVs_sound hr h hs fun q id hq b hb => ?_⟩
  · simp only [owr]
    rw [dif_neg]
    rintro ⟨q, id, _, h2⟩
    rw [hr.ro b hb] at h2; cases h2
  · simp only [owr] at ho
    split at ho
    · rename_i hh
      obtain ⟨q, id, _, h2⟩ := hh
      exact hr.olt b _ h2
    · cases ho
  · have hh : ∃ q : Nat, ∃ id, (posVs shs svs)[q]? = some (some id) ∧ ow b = some (.ent id) := ⟨q, id, hq, hb⟩
    simp only [owr, dif_pos hh, Nat.zero_add]
    obtain ⟨id', k1, k2⟩ := Classical.choose_spec hh
    rw [hb] at k2
    cases k2
    rw [idx_unique (l := posVs shs svs) (nodupB_spec hn) k1 hq]
end

/-- **A FUNCTION KEEPS ITS CONTRACT where its condition holds.** -/
theorem vc_sound {cfg : Cfg} (hsig : SigOk T cfg) {depth : Nat} {f : FuncId} {sg : Sig} (hd : (vc (A := sem T) cfg depth f sg).den) : ConOK cfg.P f sg (T f) ∧ sg.args.all roSh = true := by
  unfold vc at hd
  split at hd
  · rename_i fn hfn
    split at hd
    · rename_i body hbody
      split at hd
      · exact hd.elim
      · rename_i hro
        refine ⟨?_, by simpa using hro⟩
        intro w R vals ds hR hargs hpre
        obtain ⟨svs, cs, st, vs', ow', hS, htm, hsv, hcs, hd⟩ := freshVs_sound (st := ⟨[], [], [], cfg.wr f, cfg.rg⟩) (start_hr (T := T) (P := cfg.P) hR) hargs (fun _ _ _ h => by cases h) hd
        have hd := hd (by show (T f).pre (cs.map Cl.toD); rw [hcs]; exact hpre)
        refine callsIn_wide.1 (callsIn_of_wp_marks (n := 0) hfn hbody trivial (wpIn_mono (exec_sound (st := { st with tmps := frameOf fn svs }) (ys := []) (rnd := none) hsig (inl_sound hsig depth) body trivial (fun _ => rfl) hS.hr (frame_tr hsv) hd) ?_))
        have fin : ∀ {D : List Nat} {a0 a' : Act} {w' : World}, Keeps D a0 a' ∧ Reach cfg.P w ⟨R, fun _ => none⟩ [] vs' ow' { st with tmps := frameOf fn svs } (fun st' => (endK cfg.P f fn sg cs st').den) a' w' →
            LeavesInM Fence.wide 0 cfg.P fn a'.tmps (fun e w' => ∃ v rs, e = .returned v ∧ (T f).post ds rs ∧ Below w.heap.size w w' ∧ ResOk cfg.P w R w' sg.res v rs) a'.defers .returning w' := by
          rintro D a0 a' w' ⟨_, bl2, vs2, R2, ow2, st', hS2, ht', hd'⟩
          obtain ⟨⟨Ds, d1, d2, d3⟩, ht2⟩ := ht'
          rw [d1]
          refine leaves_marks Ds hS2.hr d2 d3 fun ow3 w3 g1 g2 g3 => ?_
          unfold endK at hd'
          split at hd'
          · rename_i l hl
            have ht'' : TD bl2 vs2 (fun _ => none) st'.tmps { a' with defers := [] } := ⟨⟨[], rfl, by simp, List.nodup_nil⟩, ht2⟩
            obtain ⟨rvals, k1, k2⟩ := results_run (st := st') (a := { a' with defers := [] }) g1.look ht'' hl
            split at hd'
            · rename_i rs hrs
              split at hd'
              · rename_i hn
                obtain ⟨R3, ow4, hS3, _, _, _⟩ := g1.freezes ((List.range st'.ents.length).filter fun i => !(ownVs sg.res l).contains i)
                have hpost : (T f).post (cs.map Cl.toD) (rs.map Cl.toD) := hd'.1
                rw [hcs] at hpost
                exact ⟨_, k2, _, _, rfl, hpost, hS3.hr.below, res_ok (st := freezeRes sg st' l) hS3.hr hrs k1 hn⟩
              · exact hd'.elim
            · exact hd'.elim
          · exact hd'.elim
        intro e a' w' hq
        cases e with
        | normal => exact fin hq
        | ret => exact fin hq
        | exit id =>
          obtain ⟨_, _, _, _, _, _, _, _, hd'⟩ := hq
          exact hd'.elim
        | goto l => exact hq.elim
        | panic ch => exact hq.elim
        | outgrown => exact hq.elim
    · exact hd.elim
  · exact hd.elim

end Go.Sx
