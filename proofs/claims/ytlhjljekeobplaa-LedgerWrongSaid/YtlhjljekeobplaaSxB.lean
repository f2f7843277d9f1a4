/-
  Calls by contract and in place; one operation; regions in the text's order. Conditions: the contracts hold of the callees.
-/
import Derived.Test.YtlhjljekeobplaaSxA
namespace Go.Sx
open Go.RowKit (Below)

variable {T : FuncId → Pred} {P : Program} {w0 w : World} {R0 : Bs T} {R : Nat → Prop} {bl : List Nat} {vs : List Value} {ow : Nat → Option Owner}
variable {st : St (sem T)} {a : Act}

theorem toCls_cells (hl : HR P w0 R0 bl vs R ow st.boxes st.ents w) {R1 : Nat → Prop} (hR : ∀ b, b < w.heap.size → R1 b) : ∀ {l : List (K × Bool)} {n : Nat} {s : List (SV (sem T))} {cs : List CS}, toCls st.ents (l.map (·.1)) s = some cs → (∀ p ∈ l, p.2 = false) → ∀ {v : List Value}, SVRs bl vs s v →
    ResCells P w R1 (fun _ => none) n l v (cs.map Cl.toD)
  | [], n, [], cs, h, _, v, hs => by
    simp only [List.map_nil, toCls, Option.some.injEq] at h
    subst h
    cases v with
    | nil => trivial
    | cons => exact hs.elim
  | (k, own) :: l, n, x :: s, cs, h, ho, v, hs => by
    cases v with
    | nil => exact hs.elim
    | cons u v =>
      simp only [List.map_cons, toCls] at h
      split at h
      · rename_i c cs' hc hcs
        cases h
        have hown : own = false := ho (k, own) (by simp)
        subst hown
        refine ⟨?_, toCls_cells hl hR hcs (fun p hp => ho p (by simp [hp])) hs.2⟩
        have := (toCl_sound hl hc hs.1).mono (R' := R1) hR (fun _ _ => rfl)
        cases k <;> exact this
      · cases h
  | [], _, _ :: _, _, h, _, _, _ => by simp [toCls] at h
  | _ :: _, _, [], _, h, _, _, _ => by simp [toCls] at h

/-- The same where no slice among them is own. -/
theorem toCls_cellsR (hl : HR P w0 R0 bl vs R ow st.boxes st.ents w) {ids : List Nat} (hno : ∀ (i : Nat) (e : Ent (sem T)), i ∈ ids → st.ents[i]? = some e → e.live = true → e.own = false) : ∀ {l : List (K × Bool)} {n : Nat} {s : List (SV (sem T))} {cs : List CS}, toCls st.ents (l.map (·.1)) s = some cs → (∀ p ∈ l, p.2 = false) → (∀ id, SV.sl id ∈ s → id ∈ ids) → ∀ {v : List Value}, SVRs bl vs s v →
    ResCells P w R (fun _ => none) n l v (cs.map Cl.toD)
  | [], n, [], cs, h, _, _, v, hs => by
    simp only [List.map_nil, toCls, Option.some.injEq] at h
    subst h
    cases v with
    | nil => trivial
    | cons => exact hs.elim
  | (k, own) :: l, n, x :: s, cs, h, ho, hid, v, hs => by
    cases v with
    | nil => exact hs.elim
    | cons u v =>
      simp only [List.map_cons, toCls] at h
      split at h
      · rename_i c cs' hc hcs
        cases h
        have hown : own = false := ho (k, own) (by simp)
        subst hown
        refine ⟨?_, toCls_cellsR hl hno hcs (fun p hp => ho p (by simp [hp])) (fun id hm => hid id (by simp [hm])) hs.2⟩
        have hR : toClR st.ents k x = some c := by
          unfold toClR
          split
          · rename_i id
            unfold toCl at hc
            split at hc
            · rename_i heq; cases heq
            · rename_i heq; cases heq
            · rename_i heq; cases heq
            · rename_i heq; cases heq
            · rename_i e id' heq
              cases heq
              split at hc
              · rename_i en hen
                split at hc
                · rename_i hcc
                  simp only [Bool.and_eq_true] at hcc
                  simp only [hno _ _ (hid _ (by simp)) hen hcc.1, Bool.false_eq_true, if_false]
                  unfold toCl
                  simp only [hen]
                  rw [if_pos (by simpa using hcc)]
                  exact hc
                · cases hc
              · cases hc
            · rename_i heq; cases heq
            · cases hc
          · exact hc
        have := toClR_sound hl hR hs.1
        cases k <;> exact this
      · cases h
  | [], _, _ :: _, _, h, _, _, _, _ => by simp [toCls] at h
  | _ :: _, _, [], _, h, _, _, _, _ => by simp [toCls] at h

theorem argsCl_sound {R1 : Nat → Prop} {ids : List Nat} (hcells : ∀ {l : List (K × Bool)} {n : Nat} {s : List (SV (sem T))} {cs : List CS}, toCls st.ents (l.map (·.1)) s = some cs → (∀ p ∈ l, p.2 = false) → (∀ id, SV.sl id ∈ s → id ∈ ids) → ∀ {v : List Value}, SVRs bl vs s v → ResCells P w R1 (fun _ => none) n l v (cs.map Cl.toD)) :
    ∀ {shs : List VSh} {n : Nat} {s : List (SV (sem T))} {cs : List CS}, argsCl st.ents shs s = some cs → shs.all roSh = true → (∀ id, id ∈ s.flatMap idsV → id ∈ ids) → ∀ {v : List Value}, SVRs bl vs s v → ResVs P w R1 (fun _ => none) n shs v (cs.map Cl.toD)
  | [], n, [], cs, h, _, _, v, hs => by
    simp only [argsCl, Option.some.injEq] at h
    subst h
    cases v with
    | nil => rfl
    | cons => exact hs.elim
  | sh :: shs, n, x :: s, cs, h, hro, hid, v, hs => by
    cases v with
    | nil => exact hs.elim
    | cons u v =>
      simp only [argsCl] at h
      simp only [List.all_cons, Bool.and_eq_true] at hro
      split at h
      · rename_i c cs' hc hcs
        cases h
        rw [List.map_append]
        refine ⟨_, _, rfl, ?_, argsCl_sound hcells hcs hro.2 (fun id hm => hid id (by simp only [List.flatMap_cons, List.mem_append]; exact .inr hm)) hs.2⟩
        cases sh with
        | cell k own =>
          simp only [argCl, Option.map_eq_some_iff] at hc
          obtain ⟨c0, hc0, rfl⟩ := hc
          have hown : own = false := by simpa [roSh] using hro.1
          subst hown
          exact hcells (l := [(k, false)]) (s := [x]) (cs := [c0]) (by simp [toCls, hc0]) (by simp) (fun id hm => hid id (by simp only [List.flatMap_cons, List.mem_append]; left; simp only [List.mem_singleton] at hm; rw [← hm]; simp [idsV])) (v := [u]) ⟨hs.1, trivial⟩
        | agg l =>
          cases x with
          | agg xs =>
            simp only [argCl] at hc
            obtain ⟨cv, rfl, hcv⟩ := hs.1
            exact ⟨cv, rfl, hcells hc (fun p hp => by have := List.all_eq_true.1 hro.1 p hp; simpa using this) (fun id hm => hid id (by simp only [List.flatMap_cons, List.mem_append]; left; simp only [idsV, List.mem_filterMap]; exact ⟨_, hm, rfl⟩)) hcv⟩
          | _ => simp [argCl] at hc
      · cases h
  | [], _, _ :: _, _, h, _, _, _, _ => by simp [argsCl] at h
  | _ :: _, _, [], _, h, _, _, _, _ => by simp [argsCl] at h

theorem Rd.flat {k : K} {d : D} {v : Value} {R2 : Nat → Prop} (hk : ∀ e, k ≠ .sl e) (h : Rd P w R d k v) : Rd P w R2 d k v := by
  cases d with
  | int n => exact h
  | bool b => exact h
  | str s => exact h
  | sl n f => obtain ⟨e, _, _, hke, _⟩ := h; exact absurd hke (hk e)

theorem ResCell.flat {n : Nat} {p : K × Bool} {v : Value} {d : D} {R2 : Nat → Prop} (hf : okResCell P p = true) (h : ResCell P w R ow n p v d) : ResCell P w R2 ow n p v d := by
  obtain ⟨k, own⟩ := p
  cases k with
  | int k => exact Rd.flat (fun e he => by cases he) h
  | bool => exact Rd.flat (fun e he => by cases he) h
  | str => exact Rd.flat (fun e he => by cases he) h
  | sl e =>
    simp only [okResCell, flatK, Bool.and_eq_true] at hf
    obtain ⟨rfl, hf⟩ := hf
    obtain ⟨s, hd, a, cap, hv, h1, h2, h3, h4⟩ := h
    refine ⟨s, hd, a, cap, hv, h1, h2, h3, ?_⟩
    rcases h4 with h4 | ⟨b, cs, hab, hob, hcs, hcont⟩
    · exact .inl h4
    · refine .inr ⟨b, cs, hab, hob, hcs, fun ks hks => ⟨(hcont ks hks).1, fun j k kk hj hk => ?_⟩⟩
      obtain ⟨u, hu, hr⟩ := (hcont ks hks).2 j k kk hj hk
      refine ⟨u, hu, hr.flat (fun e' he' => ?_)⟩
      rw [hks] at hf
      have := List.all_eq_true.1 hf kk (List.mem_of_getElem? hk)
      rw [he'] at this
      simp at this

theorem ResCells.flat {R2 : Nat → Prop} : ∀ {l : List (K × Bool)} {n : Nat} {v : List Value} {d : List D}, l.all (okResCell P) = true → ResCells P w R ow n l v d → ResCells P w R2 ow n l v d
  | [], _, [], [], _, h => h
  | p :: l, n, v :: vs, d :: ds, hf, h => by
    simp only [List.all_cons, Bool.and_eq_true] at hf
    exact ⟨h.1.flat hf.1, ResCells.flat hf.2 h.2⟩
  | [], _, _ :: _, _, _, h => h.elim
  | [], _, [], _ :: _, _, h => h.elim
  | _ :: _, _, [], _, _, h => h.elim
  | _ :: _, _, _ :: _, [], _, h => h.elim

theorem ResVs.flat {R2 : Nat → Prop} : ∀ {l : List VSh} {n : Nat} {v : List Value} {d : List D}, l.all (flatSh P) = true → ResVs P w R ow n l v d → ResVs P w R2 ow n l v d
  | [], _, [], _, _, h => h
  | sh :: l, n, v :: vs, d, hf, h => by
    simp only [List.all_cons, Bool.and_eq_true] at hf
    obtain ⟨d1, d2, hd, h1, h2⟩ := h
    refine ⟨d1, d2, hd, ?_, ResVs.flat hf.2 h2⟩
    cases sh with
    | cell k own => exact ResCells.flat (by simpa [flatSh] using hf.1) h1
    | agg l' => obtain ⟨cs, hv, hc⟩ := h1; exact ⟨cs, hv, ResCells.flat hf.1 hc⟩
  | [], _, _ :: _, _, _, h => h.elim
  | _ :: _, _, [], _, _, h => h.elim

/-- More blocks are readable. -/
theorem HR.addR (h : HR P w0 R0 bl vs R ow st.boxes st.ents w) {R' : Nat → Prop} (h1 : ∀ b, R b → R' b) (h2 : ∀ b, R' b → R b ∨ (w0.heap.size ≤ b ∧ b < w.heap.size ∧ ow b = none)) : HR P w0 R0 bl vs R' ow st.boxes st.ents w where
  below := h.below
  rlt := fun b hb => (h2 b hb).elim (h.rlt b) (fun hh => hh.2.1)
  r0 := fun b hb => h1 b (h.r0 b hb)
  rsub := fun b hb => (h2 b hb).elim (h.rsub b) (fun hh => .inr hh.1)
  ro := fun b hb => (h2 b hb).elim (h.ro b) (fun hh => hh.2.2)
  olt := h.olt
  nb := h.nb
  nv := h.nv
  vsl := h.vsl
  box := h.box
  ent := fun i e hi hl => by
    obtain ⟨u, hu, g1, g2⟩ := h.ent i e hi hl
    exact ⟨u, hu, fun hh => (g1 hh).mono h1 (fun _ _ => rfl), fun hh => (g2 hh).mono h1 (fun _ _ => rfl) (fun _ hx => ⟨hx, rfl⟩)⟩
  mrk := h.mrk
  lp := h.lp

theorem one_sound {svs : List (SV (sem T))} {vals : List Value} (h : SVRs bl vs svs vals) : SVR bl vs (one svs) (oneV vals) := by
  match svs, vals, h with
  | [], [], _ => exact ⟨#[], rfl, trivial⟩
  | [s], [v], h => exact h.1
  | s :: s' :: ss, v :: v' :: vals, h => exact ⟨(v :: v' :: vals).toArray, rfl, by simpa using h⟩
  | [], _ :: _, h => exact h.elim
  | _ :: _, [], h => exact h.elim
  | [_], _ :: _ :: _, h => exact h.2.elim
  | _ :: _ :: _, [_], h => exact h.2.elim

/-- What a call, by contract or in place, must come to. -/
def CallOk (P : Program) (w0 : World) (R0 : Bs T) (bl : List Nat) (vs : List Value) (ow : Nat → Option Owner) (st : St (sem T)) (w : World) (f : FuncId) (vals : List Value) (k : SV (sem T) → St (sem T) → Tree (sem T)) : Prop :=
  Calls P f vals.toArray w fun e w' => ∃ v, e = .returned v ∧ ∃ sv st' bl' vs' R' ow', Stp P w0 R0 bl vs ow st bl' vs' R' ow' st' w' ∧ st'.tmps = st.tmps ∧ SVR bl' vs' sv v ∧ (k sv st').den

theorem freezeIds_noown : ∀ (l : List Nat) {st : St (sem T)} {i : Nat} {e : Ent (sem T)}, i ∈ l → (freezeIds st l).ents[i]? = some e → e.live = true → e.own = false := by
  have step : ∀ (l : List Nat) (st : St (sem T)) (i : Nat), (∀ e, st.ents[i]? = some e → e.live = true → e.own = false) → ∀ e, (freezeIds st l).ents[i]? = some e → e.live = true → e.own = false := by
    intro l
    induction l with
    | nil => intro st i h; exact h
    | cons j l ih =>
      intro st i h
      refine ih (freezeId st j) i ?_
      intro e he hl
      unfold freezeId at he
      split at he
      · split at he
        · rcases get_set_inv he with ⟨_, rfl⟩ | ⟨_, he⟩
          · rfl
          · exact h e he hl
        · exact h e he hl
      · exact h e he hl
  have hit : ∀ (l : List Nat) (st : St (sem T)) (i : Nat), i ∈ l → ∀ e, (freezeIds st l).ents[i]? = some e → e.live = true → e.own = false := by
    intro l
    induction l with
    | nil => intro st i h; cases h
    | cons j l ih =>
      intro st i h e he hl
      by_cases hj : i = j
      · subst hj
        refine step l (freezeId st i) i ?_ e he hl
        intro e he hl
        unfold freezeId at he
        split at he
        · rename_i e0 he0
          split at he
          · rcases get_set_inv he with ⟨_, rfl⟩ | ⟨hne, _⟩
            · rfl
            · exact absurd rfl hne
          · rename_i hc
            rw [he0] at he
            cases he
            simp only [hl, Bool.true_and] at hc
            simpa using hc
        · rename_i hn; rw [hn] at he; cases he
      · exact ih (freezeId st j) i (by simpa [hj] using h) e he hl
  intro l st i e hi he hl
  exact hit l st i hi e he hl

theorem callC_sound {cfg : Cfg} {f : FuncId} {sg : Sig} (hcon : ConOK cfg.P f sg (T f)) (hro : sg.args.all roSh = true) (h : HR cfg.P w0 R0 bl vs R ow st.boxes st.ents w) {args : List (SV (sem T))} {vals : List Value} (hv : SVRs bl vs args vals)
    {k : SV (sem T) → St (sem T) → Tree (sem T)} (hd : (callC cfg f sg args st k).den) : CallOk cfg.P w0 R0 bl vs ow st w f vals k := by
  unfold callC at hd
  simp only at hd
  obtain ⟨R1, ow1, hS, htm⟩ : ∃ R1 ow1, Stp cfg.P w0 R0 bl vs ow st bl vs R1 ow1 (callSt cfg.P sg args st) w ∧ (callSt cfg.P sg args st).tmps = st.tmps := by
    unfold callSt
    split
    · exact ⟨R, ow, (Stp.refl h), rfl⟩
    · obtain ⟨R1, ow1, h1, h2, _⟩ := h.freezes (args.flatMap idsV)
      exact ⟨R1, ow1, h1, h2⟩
  split at hd
  · rename_i cs hcs
    obtain ⟨hpre, hd⟩ := hd
    cases hflat : sg.flat cfg.P with
    | true =>
      have hargs := argsCl_sound (P := cfg.P) (w := w) (R1 := fun b => b < w.heap.size) (n := 0) (ids := args.flatMap idsV) (fun h1 h2 _ _ h3 => toCls_cells hS.hr (fun _ x => x) h1 h2 h3) hcs hro (fun _ x => x) hv
      refine (hcon w (fun b => b < w.heap.size) vals (cs.map Cl.toD) (fun _ x => x) hargs hpre).mono ?_
      rintro e w' ⟨v, rs, rfl, hpost, hbel, vals', R', ow', rfl, r1, r2, r3, r4, hres⟩
      have hg := hS.hr.grow hbel
      have hres' := ResVs.flat (R2 := R1) hflat hres
      obtain ⟨svs, rcs, st', vs', ow2, hS2, ht2, hsv, hrc, hd2⟩ := freshVs_sound hg hres' (fun m b _ hb => by
        have := (r4 b _ hb).1
        refine ⟨Nat.le_trans h.below.size this, ?_, fun hr => by have := hS.hr.rlt b hr; omega⟩
        cases hob : ow1 b with
        | none => rfl
        | some o => have := (hS.hr.olt b o hob).2; omega) hd
      refine ⟨_, rfl, one svs, st', bl, vs', R1, ow2, hS.trans hS2, ht2.trans htm, one_sound hsv, ?_⟩
      refine hd2 ?_
      show (T f).post (cs.map Cl.toD) (rcs.map Cl.toD)
      rw [hrc]; exact hpost
    | false =>
      have hno : ∀ (i : Nat) (e : Ent (sem T)), i ∈ args.flatMap idsV → (callSt cfg.P sg args st).ents[i]? = some e → e.live = true → e.own = false := by
        intro i e hm hi hl
        unfold callSt at hi
        rw [hflat] at hi
        simp only [Bool.false_eq_true, if_false] at hi
        exact freezeIds_noown _ hm hi hl
      have hargs := argsCl_sound (P := cfg.P) (w := w) (R1 := R1) (n := 0) (ids := args.flatMap idsV) (fun h1 h2 h4 _ h3 => toCls_cellsR hS.hr hno h1 h2 h4 h3) hcs hro (fun _ x => x) hv
      refine (hcon w R1 vals (cs.map Cl.toD) hS.hr.rlt hargs hpre).mono ?_
      rintro e w' ⟨v, rs, rfl, hpost, hbel, vals', R', ow', rfl, r1, r2, r3, r4, hres⟩
      have hg := hS.hr.grow hbel
      have hfree : ∀ b, w.heap.size ≤ b → ow1 b = none := fun b hb => by
        cases hob : ow1 b with
        | none => rfl
        | some o => have := (hS.hr.olt b o hob).2; omega
      have hg2 := HR.addR hg r1 (fun b hb => (r2 b hb).imp id (fun hh => ⟨Nat.le_trans h.below.size hh.1, hh.2, hfree b hh.1⟩))
      obtain ⟨svs, rcs, st', vs', ow2, hS2, ht2, hsv, hrc, hd2⟩ := freshVs_sound hg2 hres (fun m b _ hb => by
        have := (r4 b _ hb).1
        exact ⟨Nat.le_trans h.below.size this, hfree b this, fun hr => by rw [r3 b hr] at hb; cases hb⟩) hd
      refine ⟨_, rfl, one svs, st', bl, vs', R', ow2, ⟨hS2.hr, hS2.bl, hS2.vs, hS.ext.trans hS2.ext, fun b hb => hS2.mrk b (hS.mrk b hb)⟩, ht2.trans htm, one_sound hsv, ?_⟩
      refine hd2 ?_
      show (T f).post (cs.map Cl.toD) (rcs.map Cl.toD)
      rw [hrc]; exact hpost
  · exact hd.elim

end Go.Sx
