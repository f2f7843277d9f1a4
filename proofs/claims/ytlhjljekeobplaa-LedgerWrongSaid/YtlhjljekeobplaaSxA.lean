/-
  Contracts of functions, and calls by contract. Conditions: the contract holds of the callee.
-/
import Derived.Test.YtlhjljekeobplaaSx9
namespace Go.Sx
open Go.RowKit (Below)

variable {T : FuncId → Pred} {P : Program} {w0 w : World} {R0 : Bs T} {R : Nat → Prop} {bl : List Nat} {vs : List Value} {ow : Nat → Option Owner}
variable {st : St (sem T)}

/-! ### Contracts -/

def ResCell (P : Program) (w : World) (R : Nat → Prop) (ow : Nat → Option Owner) (n : Nat) : K × Bool → Value → D → Prop
  | (.sl e, true), v, d => ∃ s : Sl, d = .sl s.n s.f ∧ Own P w R ow n e s v
  | (k, _), v, d => Rd P w R d k v

def ResCells (P : Program) (w : World) (R : Nat → Prop) (ow : Nat → Option Owner) : Nat → List (K × Bool) → List Value → List D → Prop
  | _, [], [], [] => True
  | n, p :: ps, v :: vs, d :: ds => ResCell P w R ow n p v d ∧ ResCells P w R ow (n + 1) ps vs ds
  | _, _, _, _ => False

def ResV (P : Program) (w : World) (R : Nat → Prop) (ow : Nat → Option Owner) (n : Nat) : VSh → Value → List D → Prop
  | .cell k own, v, ds => ResCells P w R ow n [(k, own)] [v] ds
  | .agg l, v, ds => ∃ cs, v = .agg cs ∧ ResCells P w R ow n l cs.toList ds

def VSh.width : VSh → Nat
  | .cell _ _ => 1
  | .agg l => l.length

def ResVs (P : Program) (w : World) (R : Nat → Prop) (ow : Nat → Option Owner) : Nat → List VSh → List Value → List D → Prop
  | _, [], [], ds => ds = []
  | n, sh :: shs, v :: vs, ds => ∃ d1 d2, ds = d1 ++ d2 ∧ ResV P w R ow n sh v d1 ∧ ResVs P w R ow (n + sh.width) shs vs d2
  | _, _, _, _ => False

def oneV (l : List Value) : Value := match l with
  | [v] => v
  | l => .tuple l.toArray

/-- What a contract says of a call's result. -/
def ResOk (P : Program) (w : World) (R : Nat → Prop) (w' : World) (res : List VSh) (v : Value) (rs : List D) : Prop :=
  ∃ vals R' ow', v = oneV vals ∧ (∀ b, R b → R' b) ∧ (∀ b, R' b → R b ∨ (w.heap.size ≤ b ∧ b < w'.heap.size)) ∧ (∀ b, R' b → ow' b = none) ∧
    (∀ b o, ow' b = some o → w.heap.size ≤ b ∧ b < w'.heap.size) ∧ ResVs P w' R' ow' 0 res vals rs

/-- **A contract**: whatever the world and the arguments that read as data for which pre holds: the call returns, writes nothing that was there, and post holds of what its results read as. -/
def ConOK (P : Program) (f : FuncId) (sg : Sig) (pr : Pred) : Prop :=
  ∀ (w : World) (R : Nat → Prop) (vals : List Value) (ds : List D), (∀ b, R b → b < w.heap.size) → ResVs P w R (fun _ => none) 0 sg.args vals ds → pr.pre ds →
    Calls P f vals.toArray w fun e w' => ∃ v rs, e = .returned v ∧ pr.post ds rs ∧ Below w.heap.size w w' ∧ ResOk P w R w' sg.res v rs

/-! ### Fresh leaves for what is there -/

theorem ResCell.ro {n : Nat} {kk : K} {v : Value} {d : D} (h : ResCell P w R ow n (kk, false) v d) : Rd P w R d kk v := by
  cases kk <;> exact h

/-- One cell of a result, or of an argument: the leaf is what it reads as. -/
theorem freshCell_sound (h : HR P w0 R0 bl vs R ow st.boxes st.ents w) {own : Bool} {kk : K} {owr : Nat → Option Owner} {n : Nat} {v : Value} {d : D} (hc : ResCell P w R owr n (kk, own) v d) (hw0 : ∀ b, owr b = some (.ent n) → w0.heap.size ≤ b ∧ ow b = none ∧ ¬ R b)
    {f : SV (sem T) → CS → St (sem T) → Tree (sem T)} (hd : (freshCell P own kk st f).den) :
    ∃ sv c st' vs' ow', Stp P w0 R0 bl vs ow st bl vs' R ow' st' w ∧ (st'.tmps = st.tmps ∧ st'.boxes = st.boxes ∧ ∃ es, st'.ents = st.ents ++ es) ∧ SVR bl vs' sv v ∧ c.toD = d ∧ (f sv c st').den ∧ ∀ b, owr b ≠ some (.ent n) → ow' b = ow b := by
  have flat : (∀ e, kk ≠ .sl e) → Rd P w R d kk v := fun hne => by
    cases kk with
    | sl e => exact absurd rfl (hne e)
    | _ => exact hc
  have hS : Stp P w0 R0 bl vs ow st bl vs R ow st w := (Stp.refl h)
  cases kk with
  | int k =>
    have hr := flat (fun e he => by cases he)
    cases d with
    | int m =>
      obtain ⟨ik, hk, hv, h1, h2⟩ := hr
      cases hk
      exact ⟨.int k m, .int m, st, vs, ow, hS, ⟨rfl, rfl, [], by simp⟩, ⟨hv, h1, h2⟩, rfl, hd m ⟨h1, h2⟩, fun _ _ => rfl⟩
    | bool b => exact absurd hr.1 (by simp)
    | str b => exact absurd hr.1 (by simp)
    | sl m g => obtain ⟨e, _, _, hk, _⟩ := hr; cases hk
  | bool =>
    have hr := flat (fun e he => by cases he)
    cases d with
    | bool b =>
      refine ⟨.bool ⟨b = true, inferInstance⟩, .bool ⟨b = true, inferInstance⟩, st, vs, ow, hS, ⟨rfl, rfl, [], by simp⟩, ?_, ?_, hd b, fun _ _ => rfl⟩
      · rw [hr.2]; simp [SVR, PB.b]
      · simp [Cl.toD]
    | int m => obtain ⟨ik, hk, _⟩ := hr; cases hk
    | str b => exact absurd hr.1 (by simp)
    | sl m g => obtain ⟨e, _, _, hk, _⟩ := hr; cases hk
  | str =>
    have hr := flat (fun e he => by cases he)
    cases d with
    | str y => exact ⟨.str y, .str y, st, vs, ow, hS, ⟨rfl, rfl, [], by simp⟩, hr.2, rfl, hd y, fun _ _ => rfl⟩
    | int m => obtain ⟨ik, hk, _⟩ := hr; cases hk
    | bool b => exact absurd hr.1 (by simp)
    | sl m g => obtain ⟨e, _, _, hk, _⟩ := hr; cases hk
  | sl e =>
    cases own with
    | false =>
      have hr := hc.ro
      cases d with
      | sl m g =>
        have hR := h.newRo (s := ⟨m, g⟩) hr
        exact ⟨.sl st.ents.length, .sl ⟨m, g⟩, _, _, ow, hR, ⟨rfl, rfl, _, rfl⟩, h.ent_last, rfl, rg_den (hd ⟨m, g⟩) (ranged_rd (s := ⟨m, g⟩) hr), fun _ _ => rfl⟩
      | int m => obtain ⟨ik, hk, _⟩ := hr; cases hk
      | bool b => exact absurd hr.1 (by simp)
      | str b => exact absurd hr.1 (by simp)
    | true =>
      obtain ⟨s, rfl, a, cap, hv, h1, h2, h3, h4⟩ := hc
      have hrg : Ranged s (rks P e) := ranged_of (w := w) (R := R) fun ks i j kk hks hi hj => by
        rcases h4 with h4 | ⟨b, cs, hab, hob, hcs, hcont⟩
        · omega
        · obtain ⟨u, _, hu⟩ := (hcont ks hks).2 i j kk hi hj
          exact ⟨u, hu⟩
      have hd : ∀ s : Sl, Ranged s (rks P e) → (f (.sl st.ents.length) (.sl s) (addEnt st e s true)).den := fun s hs => rg_den (hd s) hs
      rcases h4 with h4 | ⟨b, cs, hab, hob, hcs, hcont⟩
      · refine ⟨.sl st.ents.length, .sl s, addEnt st e s true, vs ++ [v], ow, ⟨?_, fun _ _ x => x, fun _ _ => get_append_lt, Ext.of_append (nb := []) (ne := [⟨e, s, true, true, 0⟩]) (by simp [addEnt]) rfl, fun _ x => x⟩, ⟨rfl, rfl, _, rfl⟩, h.ent_last, rfl, hd s hrg, fun _ _ => rfl⟩
        exact {
          below := h.below
          rlt := h.rlt
          r0 := h.r0
          rsub := h.rsub
          ro := h.ro
          olt := h.olt
          nb := h.nb
          nv := by simp [addEnt, h.nv]
          vsl := fun i u hi => by
            rcases get_append_inv hi with hi | ⟨_, rfl⟩
            · exact h.vsl i u hi
            · exact ⟨_, _, _, hv⟩
          box := fun i bx hi hl => by
            obtain ⟨b, cs, h1, h2, h3, h4⟩ := h.box i bx hi hl
            exact ⟨b, cs, h1, h2, h3, h4.mono (fun _ _ x => x) (fun _ _ => get_append_lt)⟩
          ent := fun i e' hi hl => by
            rcases get_append_inv hi with hi | ⟨rfl, rfl⟩
            · obtain ⟨u, hu, h1, h2⟩ := h.ent i e' hi hl
              exact ⟨u, get_append_lt hu, h1, h2⟩
            · exact ⟨v, h.ent_last, (fun ho => by cases ho), fun _ => ⟨a, cap, hv, h1, h2, h3, .inl h4⟩⟩
          mrk := h.mrk
          lp := fun i L hi => by
            obtain ⟨bx, x, g1, g2, g3, g4, g5⟩ := h.lp i L hi
            exact ⟨bx, x, g1, g2, g3, g4, g5.mono rfl (fun _ _ x => x) (fun _ _ => get_append_lt)⟩ }
      · obtain ⟨g1, g2, g3⟩ := hw0 b hob
        refine ⟨.sl st.ents.length, .sl s, addEnt st e s true, vs ++ [v], setOw ow b (some (.ent st.ents.length)), ⟨?_, fun _ _ x => x, fun _ _ => get_append_lt, Ext.of_append (nb := []) (ne := [⟨e, s, true, true, 0⟩]) (by simp [addEnt]) rfl, fun x hx => by rw [setOw_ne (fun e => by rw [e, g2] at hx; cases hx)]; exact hx⟩, ⟨rfl, rfl, _, rfl⟩, h.ent_last, rfl, hd s hrg, fun x hx => setOw_ne (fun e => hx (by rw [e]; exact hob))⟩
        exact {
          below := h.below
          rlt := h.rlt
          r0 := h.r0
          rsub := h.rsub
          ro := fun x hx => by
            rw [setOw_ne (fun e : x = b => g3 (by rw [← e]; exact hx))]; exact h.ro x hx
          olt := fun x o hx => by
            by_cases e : x = b
            · subst e; exact ⟨g1, (Array.getElem?_eq_some_iff.1 hcs).1⟩
            · rw [setOw_ne e] at hx; exact h.olt x o hx
          nb := h.nb
          nv := by simp [addEnt, h.nv]
          vsl := fun i u hi => by
            rcases get_append_inv hi with hi | ⟨_, rfl⟩
            · exact h.vsl i u hi
            · exact ⟨_, _, _, hv⟩
          box := fun i bx hi hl => by
            obtain ⟨b', cs', h1, h2, h3, h4⟩ := h.box i bx hi hl
            have hbne : b' ≠ b := fun e => by rw [e, g2] at h2; cases h2
            exact ⟨b', cs', h1, by rw [setOw_ne hbne]; exact h2, h3, h4.mono (fun _ _ x => x) (fun _ _ => get_append_lt)⟩
          ent := fun i e' hi hl => by
            rcases get_append_inv hi with hi | ⟨rfl, rfl⟩
            · obtain ⟨u, hu, h1, h2⟩ := h.ent i e' hi hl
              refine ⟨u, get_append_lt hu, h1, fun hown => (h2 hown).mono (fun _ x => x) (fun _ _ => rfl) (fun x hx => ⟨?_, rfl⟩)⟩
              have hxne : x ≠ b := fun e => by rw [e, g2] at hx; cases hx
              rw [setOw_ne hxne]; exact hx
            · exact ⟨v, h.ent_last, (fun ho => by cases ho), fun _ => ⟨a, cap, hv, h1, h2, h3, .inr ⟨b, cs, hab, setOw_eq, hcs, hcont⟩⟩⟩
          mrk := fun x hx => by
            by_cases e : x = b
            · subst e; rw [setOw_eq] at hx; cases hx
            · rw [setOw_ne e] at hx; exact h.mrk x hx
          lp := fun i L hi => by
            obtain ⟨bx, x, k1, k2, k3, k4, k5⟩ := h.lp i L hi
            have hxne : x ≠ b := fun e => by rw [e, g2] at k4; cases k4
            exact ⟨bx, x, k1, k2, k3, by rw [setOw_ne hxne]; exact k4, k5.mono rfl (fun _ _ x => x) (fun _ _ => get_append_lt)⟩ }

theorem freshCells_sound {owr : Nat → Option Owner} : ∀ {l : List (K × Bool)} {n : Nat} {st : St (sem T)} {vs : List Value} {ow : Nat → Option Owner}, HR P w0 R0 bl vs R ow st.boxes st.ents w → ∀ {vals : List Value} {ds : List D}, ResCells P w R owr n l vals ds →
    (∀ m b, n ≤ m → owr b = some (.ent m) → w0.heap.size ≤ b ∧ ow b = none ∧ ¬ R b) → ∀ {f : List (SV (sem T)) → List CS → St (sem T) → Tree (sem T)}, (freshCells P l st f).den →
    ∃ svs cs st' vs' ow', Stp P w0 R0 bl vs ow st bl vs' R ow' st' w ∧ st'.tmps = st.tmps ∧ SVRs bl vs' svs vals ∧ cs.map Cl.toD = ds ∧ (f svs cs st').den ∧ ∀ b, (∀ m, n ≤ m → m < n + l.length → owr b ≠ some (.ent m)) → ow' b = ow b
  | [], n, st, vs, ow, h, vals, ds, hc, hw, f, hd => by
    cases vals <;> cases ds <;> first | exact hc.elim | skip
    exact ⟨[], [], st, vs, ow, (Stp.refl h), rfl, trivial, rfl, hd, fun _ _ => rfl⟩
  | (k, own) :: l, n, st, vs, ow, h, vals, ds, hc, hw, f, hd => by
    cases vals with
    | nil => exact hc.elim
    | cons v vals => cases ds with
      | nil => exact hc.elim
      | cons d ds =>
        obtain ⟨hc1, hc2⟩ := hc
        obtain ⟨sv, c, st1, vs1, ow1, hS, ht, hsv, hcd, hd1, hk⟩ := freshCell_sound h hc1 (fun b hb => hw n b (Nat.le_refl _) hb) (f := fun v c st => freshCells P l st fun vs cs st => f (v :: vs) (c :: cs) st) hd
        obtain ⟨svs, cs, st2, vs2, ow2, hS2, ht2, hsvs, hcds, hd2, hk2⟩ := freshCells_sound hS.hr hc2 (fun m b hm hb => by
          obtain ⟨g1, g2, g3⟩ := hw m b (by omega) hb
          refine ⟨g1, ?_, g3⟩
          rw [hk b (fun e => by rw [hb] at e; cases e; omega)]
          exact g2) hd1
        refine ⟨sv :: svs, c :: cs, st2, vs2, ow2, hS.trans hS2, ht2.trans ht.1, ⟨hsv.mono hS2.bl hS2.vs, hsvs⟩, by simp [hcd, hcds], hd2, fun b hb => ?_⟩
        rw [hk2 b (fun m h1 h2 => hb m (by omega) (by simp; omega)), hk b (hb n (Nat.le_refl _) (by simp))]

theorem freshV_sound {owr : Nat → Option Owner} {sh : VSh} {n : Nat} (h : HR P w0 R0 bl vs R ow st.boxes st.ents w) {v : Value} {ds : List D} (hc : ResV P w R owr n sh v ds) (hw : ∀ m b, n ≤ m → owr b = some (.ent m) → w0.heap.size ≤ b ∧ ow b = none ∧ ¬ R b)
    {f : SV (sem T) → List CS → St (sem T) → Tree (sem T)} (hd : (freshV P sh st f).den) :
    ∃ sv cs st' vs' ow', Stp P w0 R0 bl vs ow st bl vs' R ow' st' w ∧ st'.tmps = st.tmps ∧ SVR bl vs' sv v ∧ cs.map Cl.toD = ds ∧ (f sv cs st').den ∧ ∀ b, (∀ m, n ≤ m → m < n + sh.width → owr b ≠ some (.ent m)) → ow' b = ow b := by
  cases sh with
  | cell k own =>
    simp only [ResV] at hc
    cases ds with
    | nil => exact hc.elim
    | cons d ds => cases ds with
      | cons => exact hc.2.elim
      | nil =>
        obtain ⟨sv, c, st1, vs1, ow1, hS, ht, hsv, hcd, hd1, hk⟩ := freshCell_sound h hc.1 (fun b hb => hw n b (Nat.le_refl _) hb) (f := fun v c st => f v [c] st) hd
        exact ⟨sv, [c], st1, vs1, ow1, hS, ht.1, hsv, by simp [hcd], hd1, fun b hb => hk b (hb n (Nat.le_refl _) (by simp [VSh.width]))⟩
  | agg l =>
    obtain ⟨cs0, rfl, hc⟩ := hc
    obtain ⟨svs, cs, st1, vs1, ow1, hS, ht, hsv, hcd, hd1, hk⟩ := freshCells_sound h hc hw (f := fun vs cs st => f (.agg vs) cs st) hd
    exact ⟨.agg svs, cs, st1, vs1, ow1, hS, ht, ⟨cs0, rfl, hsv⟩, hcd, hd1, fun b hb => hk b hb⟩

theorem freshVs_sound {owr : Nat → Option Owner} : ∀ {l : List VSh} {n : Nat} {st : St (sem T)} {vs : List Value} {ow : Nat → Option Owner}, HR P w0 R0 bl vs R ow st.boxes st.ents w → ∀ {vals : List Value} {ds : List D}, ResVs P w R owr n l vals ds →
    (∀ m b, n ≤ m → owr b = some (.ent m) → w0.heap.size ≤ b ∧ ow b = none ∧ ¬ R b) → ∀ {f : List (SV (sem T)) → List CS → St (sem T) → Tree (sem T)}, (freshVs P l st f).den →
    ∃ svs cs st' vs' ow', Stp P w0 R0 bl vs ow st bl vs' R ow' st' w ∧ st'.tmps = st.tmps ∧ SVRs bl vs' svs vals ∧ cs.map Cl.toD = ds ∧ (f svs cs st').den
  | [], n, st, vs, ow, h, vals, ds, hc, hw, f, hd => by
    cases vals with
    | cons => exact hc.elim
    | nil =>
      have hc : ds = [] := hc
      subst hc
      exact ⟨[], [], st, vs, ow, (Stp.refl h), rfl, trivial, rfl, hd⟩
  | sh :: l, n, st, vs, ow, h, vals, ds, hc, hw, f, hd => by
    cases vals with
    | nil => exact hc.elim
    | cons v vals =>
      obtain ⟨d1, d2, rfl, hc1, hc2⟩ := hc
      obtain ⟨sv, cs1, st1, vs1, ow1, hS, ht, hsv, hcd, hd1, hk⟩ := freshV_sound h hc1 hw (f := fun v cs st => freshVs P l st fun vs ds st => f (v :: vs) (cs ++ ds) st) hd
      obtain ⟨svs, cs, st2, vs2, ow2, hS2, ht2, hsvs, hcds, hd2⟩ := freshVs_sound hS.hr hc2 (fun m b hm hb => by
        obtain ⟨g1, g2, g3⟩ := hw m b (by omega) hb
        refine ⟨g1, ?_, g3⟩
        rw [hk b (fun q h1 h2 e => by rw [hb] at e; cases e; omega)]
        exact g2) hd1
      exact ⟨sv :: svs, cs1 ++ cs, st2, vs2, ow2, hS.trans hS2, ht2.trans ht, ⟨hsv.mono hS2.bl hS2.vs, hsvs⟩, by simp [hcd, hcds], hd2⟩

end Go.Sx
