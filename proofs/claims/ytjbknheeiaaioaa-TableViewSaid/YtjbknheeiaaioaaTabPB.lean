/-
  The law TableView: its condition. Conditions: none.
-/
import Derived.Test.YtjbknheeiaaioaaNumVTView
import Derived.Test.YtjbknheeiaaioaaTabFe
set_option linter.unusedVariables false
set_option linter.unusedSimpArgs false
namespace Go.Sx.N

/-- A table all of whose rows are in force. -/
def allForce (v : Sl) (k : Int) : Prop := ∀ i : Int, 0 ≤ i → i < v.len → inForce v k i

theorem view_all {s v : Sl} {known k : Int} {g : Int → Int} (hs : sortedT s) (h1 : ∀ i : Int, 0 ≤ i → i < v.len → inForce s known (g i) ∧ rowEq v i s (g i)) (h2 : ∀ i j : Int, 0 ≤ i → i < j → j < v.len → g i < g j) (hk : known ≤ k) : allForce v k := fun i i0 i1 => by
  have a := h1 i i0 i1
  refine ⟨⟨i0, i1⟩, by rw [a.2.2.2.1]; have := a.1.2.1; omega, fun j j0 j1 e0 e1 => ?_⟩
  have := fTo_rows hs h1 h2 i0 j0 j1
  omega

theorem view_valid {n : ByteArray} {two : Bool} {s v : Sl} {known : Int} {g : Int → Int} (hv : validT n two s) (h1 : ∀ i : Int, 0 ≤ i → i < v.len → inForce s known (g i) ∧ rowEq v i s (g i)) (h2 : ∀ i j : Int, 0 ≤ i → i < j → j < v.len → g i < g j)
    (hl : v.len ≤ s.len) : validT n two v := by
  refine ⟨hv.1, by have := hv.2.1; omega, fun i i0 i1 => ?_, fun i i0 i1 => ?_⟩
  · have := fTo_rows hv.2.2.1 h1 h2 (show 0 ≤ i - 1 by omega) (by omega) i1
    unfold ltR ltK
    omega
  · have a := h1 i i0 i1
    have r := hv.2.2.2 (g i) a.1.1.1 a.1.1.2
    unfold rightAt rightS at *
    rw [a.2.1, a.2.2.1, a.2.2.2.1]
    exact ⟨r.1, r.2.1, r.2.2.1, r.2.2.2.1, okF.of_same r.2.2.2.2 a.2.2.2.2⟩

/-- The view of a table all of whose rows are in force is the table. -/
theorem forced_all {v w : Sl} {k : Int} (ha : allForce v k) (hf : forcedS v k w) : rowsEq v w := by
  obtain ⟨g, h1, h2, h3⟩ := hf
  have up : ∀ i : Nat, (i : Int) < w.len → (i : Int) ≤ g i := by
    intro i
    induction i with
    | zero => intro hi; have := (h1 0 (by omega) hi).1.1.1; simpa using this
    | succ i ih =>
      intro hi
      have a := ih (by omega)
      have := h2 i (i + 1 : Nat) (by omega) (by omega) hi
      omega
  have fix : ∀ n : Nat, (n : Int) < v.len → (n : Int) < w.len ∧ g n = n := by
    intro n
    induction n with
    | zero =>
      intro hn
      obtain ⟨i, i0, i1, e⟩ := h3 0 (ha 0 (by omega) hn)
      have := up i.toNat (by omega)
      rw [show ((i.toNat : Nat) : Int) = i by omega] at this
      have : i = 0 := by omega
      subst this
      exact ⟨i1, e⟩
    | succ n ih =>
      intro hn
      obtain ⟨p, q⟩ := ih (by omega)
      obtain ⟨i, i0, i1, e⟩ := h3 (n + 1 : Nat) (ha _ (by omega) hn)
      have u := up i.toNat (by omega)
      rw [show ((i.toNat : Nat) : Int) = i by omega] at u
      have : (n : Int) < i := by
        rcases Int.lt_or_le (n : Int) i with c | c
        · exact c
        · by_cases d : i = n
          · rw [d, q] at e; omega
          · have := h2 i n i0 (by omega) p
            omega
      have : i = (n + 1 : Nat) := by omega
      subst this
      exact ⟨i1, e⟩
  have l1 : w.len ≤ v.len := fTo_len (n := v.len) (len0 v) ⟨g, h1, h2, h3⟩
  have l2 : v.len ≤ w.len := by
    have v0 := len0 v
    have w0 := len0 w
    by_cases c : v.len = 0
    · omega
    · have := (fix (v.len - 1).toNat (by omega)).1
      omega
  refine ⟨by omega, fun i i0 i1 => ?_⟩
  have a := (h1 i i0 (by omega)).2
  have b := (fix i.toNat (by omega)).2
  rw [show ((i.toNat : Nat) : Int) = i by omega] at b
  rw [b] at a
  exact a.symm

theorem zeroF_same {a c a' c' : Bool} {b d b' d' : Sl} (h : zeroF a b c d) (g : zeroF a' b' c' d') : SameF a b c d a' b' c' d' := by
  obtain ⟨rfl, h2, rfl, h4⟩ := h
  obtain ⟨rfl, g2, rfl, g4⟩ := g
  exact ⟨⟨rfl, by rw [h2, g2], fun i i0 i1 => by omega⟩, rfl, by rw [h4, g4], fun i i0 i1 => by omega⟩

theorem look_same {ok ok' : Prop} {C C' : Int → Prop} {t v : Sl} {a c a' c' : Bool} {b d b' d' : Sl} {e e' : Int} (h : lookR ok C t a b c d e) (h' : lookR ok' C' v a' b' c' d' e') (ho : ok ↔ ok')
    (m1 : ∀ k, C k → ∃ i, C' i ∧ rowEq v i t k) (m2 : ∀ i, C' i → ∃ k, C k) : e = e' ∧ SameF a b c d a' b' c' d' := by
  by_cases k : ok
  · by_cases x : ∃ k, C k
    · obtain ⟨k', hk⟩ := x
      obtain ⟨i, hi, r⟩ := m1 k' hk
      obtain ⟨r1, e1⟩ := look_at h k hk
      obtain ⟨r2, e2⟩ := look_at h' (ho.1 k) hi
      exact ⟨by rw [e1, e2], SameF.trans (SameF.symm r1) (SameF.trans (SameF.symm r.2.2.2) r2)⟩
    · obtain ⟨z1, e1⟩ := look_no h k fun j hj => x ⟨j, hj⟩
      obtain ⟨z2, e2⟩ := look_no h' (ho.1 k) fun j hj => x (m2 j hj)
      exact ⟨by rw [e1, e2], zeroF_same z1 z2⟩
  · obtain ⟨z1, e1⟩ := h.1 k
    obtain ⟨z2, e2⟩ := h'.1 fun g => k (ho.2 g)
    exact ⟨by rw [e1, e2], zeroF_same z1 z2⟩

section
variable {s v : Sl} {known k : Int} {g : Int → Int}

theorem cand_view (h1 : ∀ i : Int, 0 ≤ i → i < v.len → inForce s known (g i) ∧ rowEq v i s (g i)) (h2 : ∀ i j : Int, 0 ≤ i → i < j → j < v.len → g i < g j) (h3 : ∀ k : Int, inForce s known k → ∃ i : Int, 0 ≤ i ∧ i < v.len ∧ g i = k) (ha : allForce v k)
    {a i : Int} (i0 : 0 ≤ i) (i1 : i < v.len) : candX s a known (g i) ↔ candX v a k i := by
  constructor
  · intro h
    obtain ⟨j, j0, j1, e, hj, hm⟩ := candX_at h1 h3 h
    have : j = i := by
      rcases Int.lt_trichotomy j i with c | c | c
      · have := h2 j i j0 c i1; omega
      · exact c
      · have := h2 i j i0 c j1; omega
    subst this
    exact ⟨⟨ha j j0 j1, hj⟩, fun l hl hla => hm l hl.1.1 hl.1.2 hla⟩
  · intro h
    exact at_candX h1 h3 i0 i1 h.1.2 fun j j0 j1 hj => h.2 j (ha j j0 j1) hj

theorem candT_view (h1 : ∀ i : Int, 0 ≤ i → i < v.len → inForce s known (g i) ∧ rowEq v i s (g i)) (h2 : ∀ i j : Int, 0 ≤ i → i < j → j < v.len → g i < g j) (h3 : ∀ k : Int, inForce s known k → ∃ i : Int, 0 ≤ i ∧ i < v.len ∧ g i = k) (ha : allForce v k)
    {a b i : Int} (i0 : 0 ≤ i) (i1 : i < v.len) : candT s a b known (g i) ↔ candT v a b k i := by
  have r := (h1 i i0 i1).2.2.1
  constructor
  · intro h
    refine ⟨⟨(cand_view h1 h2 h3 ha i0 i1).1 h.1.1, by rw [r]; exact h.1.2⟩, fun j hj hb => ?_⟩
    have rj := (h1 j hj.1.1.1.1 hj.1.1.1.2).2.2.1
    rw [rj] at hb ⊢
    rw [r]
    exact h.2 (g j) ((cand_view h1 h2 h3 ha hj.1.1.1.1 hj.1.1.1.2).2 hj) hb
  · intro h
    refine ⟨⟨(cand_view h1 h2 h3 ha i0 i1).2 h.1.1, by rw [← r]; exact h.1.2⟩, fun l hl hb => ?_⟩
    obtain ⟨j, j0, j1, e⟩ := h3 l hl.1.1
    rw [← e] at hl hb ⊢
    have rj := (h1 j j0 j1).2.2.1
    rw [← rj] at hb ⊢
    rw [← r]
    exact h.2 j ((cand_view h1 h2 h3 ha j0 j1).1 hl) hb

end

theorem TView_ok : V_TView := by
  intro s rs two a ra b rb known rk _
  simp only [Bool.decide_eq_true]
  refine ⟨trivial, fun w hw => ⟨fun h => absurd hw h, fun _ => ⟨trivial, fun y two1 t rt hB => ?_⟩⟩⟩
  have v1 := built_valid hB
  have n1 := built_name hB
  obtain rfl : two1 = two := hB.2.1
  refine ⟨n1, fun y2 two2 v rv x2 rx2 hV => ?_⟩
  obtain ⟨ey, et, hF, ex⟩ := hV.2 v1
  subst ey et ex
  refine ⟨n1, fun y3 two3 u ru x3 rx3 hV2 => ?_⟩
  have t0 := len0 t
  have vl : v.len ≤ t.len := fTo_len (n := t.len) t0 hF
  obtain ⟨g, h1, h2, h3⟩ := hF
  have v2 := view_valid v1 h1 h2 vl
  obtain ⟨ey, et, hF2, ex⟩ := hV2.2 v2
  subst ey et ex
  have hs := v1.2.2.1
  have al := view_all (k := known) hs h1 h2 (Int.le_refl _)
  have e2 := forced_all al hF2
  have tl := v1.2.1
  have l0 := len0 v
  rw [rng64] at ra rb rk
  have find : ∀ i : Int, 0 ≤ i → i < v.len → ∀ r, q_holds y3 two3 t (v.int i 0) (v.int i 1) known r → r = g i := fun i i0 i1 r hr => by
    have a := h1 i i0 i1
    rcases Int.lt_or_le r 0 with d | d
    · exact absurd ⟨a.2.1.symm, a.2.2.1.symm⟩ ((holds_none hr d).2 (g i) a.1)
    · obtain ⟨k1, k2, k3⟩ := holds_some hr d
      exact force_uniq k1 a.1 (by rw [k2, a.2.1]) (by rw [k3, a.2.2.1])
  refine ⟨by rw [rng64]; omega, fun h => absurd rfl h, fun _ => ⟨n1, fun b1 hb1 => ⟨fun h => absurd (hb1.2 v2) h, fun _ => ⟨fun h => absurd rfl h, fun _ => ⟨fun h => absurd Iff.rfl h, fun _ => ⟨trivial, fun b2 hb2 => ⟨fun h => absurd (hb2.2 ⟨rfl, rfl, e2⟩) h, fun _ _ => ?_⟩⟩⟩⟩⟩⟩⟩
  refine ⟨fun i => 0 ≤ i ∧ i ≤ v.len, fun i => (v.len - i).toNat, ⟨Int.le_refl _, l0⟩, fun i ri hJ => ?_⟩
  have hJ : 0 ≤ i ∧ i ≤ v.len := hJ
  refine ⟨fun hi => ⟨hJ.1, hi, fun _ _ _ _ _ => ⟨trivial, fun r rr hr => ?_⟩⟩, fun hi _ => ?_⟩
  · have er := find i hJ.1 hi r hr
    have ai := h1 i hJ.1 hi
    have row : V_TView_0 s two3 a b known t v (fun i => 0 ≤ i ∧ i ≤ v.len) (fun i => (v.len - i).toNat) i r := by
      unfold V_TView_0
      simp only [Bool.decide_eq_true]
      have g0 := ai.1.1.1
      have g1 := ai.1.1.2
      refine ⟨fun h => by omega, fun _ => ⟨by omega, by omega, fun _ _ _ _ _ => ⟨trivial, fun c hc => ⟨fun h => absurd (hc.2 ?_) h, fun _ => ⟨by rw [rng64]; omega, ⟨by omega, by omega⟩, by show (v.len - (i + 1)).toNat < (v.len - i).toNat; omega⟩⟩⟩⟩⟩
      rw [er]
      have q := ai.2.symm
      exact ⟨q.1, q.2.1, q.2.2.1, q.2.2.2⟩
    refine ⟨fun h0 => ⟨by rw [rng64]; omega, by omega, by omega, fun _ => ⟨by rw [rng64]; omega, by omega, by omega, fun _ => ⟨trivial, fun c hc => ⟨fun h => absurd (hc.2 ?_) h, fun _ => row⟩⟩⟩⟩, fun _ => row⟩
    have := fTo_rows hs h1 h2 (show 0 ≤ i - 1 by omega) (show i - 1 < i by omega) hi
    unfold ltK
    omega
  refine ⟨fun i => 0 ≤ i ∧ i ≤ t.len, fun i => (t.len - i).toNat, ⟨Int.le_refl _, t0⟩, fun i ri hJ => ?_⟩
  have hJ : 0 ≤ i ∧ i ≤ t.len := hJ
  refine ⟨fun hi => ⟨hJ.1, hi, fun _ _ _ _ _ _ => ?_⟩, fun hi _ => ?_⟩
  · refine ⟨fun c j => (0 ≤ j ∧ j ≤ v.len) ∧ (c = true ↔ ∃ l : Int, 0 ≤ l ∧ l < j ∧ v.int l 0 = t.int i 0 ∧ v.int l 1 = t.int i 1), fun _ j => (v.len - j).toNat, ⟨⟨Int.le_refl _, l0⟩, ?_⟩, fun c j rj hJ => ?_⟩
    · constructor
      · intro h; simp at h
      · rintro ⟨l, h0, h1, _⟩; omega
    obtain ⟨hj, hc⟩ := hJ
    refine ⟨fun hj1 => ⟨hj.1, hj1, fun _ _ _ _ _ => ?_⟩, fun hj1 => ⟨trivial, fun r rr hr => ⟨fun h => absurd ?_ h, fun _ => ⟨by rw [rng64]; omega, ⟨by omega, by omega⟩, by show (t.len - (i + 1)).toNat < (t.len - i).toNat; omega⟩⟩⟩⟩
    · have nx : Rng .i64 (j + 1) := by rw [rng64]; omega
      have ms : (v.len - (j + 1)).toNat < (v.len - j).toNat := by omega
      have st : ∀ c' : Bool, (c' = true ↔ c = true ∨ (v.int j 0 = t.int i 0 ∧ v.int j 1 = t.int i 1)) → ((0 ≤ j + 1 ∧ j + 1 ≤ v.len) ∧ (c' = true ↔ ∃ l : Int, 0 ≤ l ∧ l < j + 1 ∧ v.int l 0 = t.int i 0 ∧ v.int l 1 = t.int i 1)) := fun c' e => by
        refine ⟨by omega, ?_⟩
        rw [e, hc]
        constructor
        · rintro (⟨l, a1, a2, a3⟩ | h)
          · exact ⟨l, a1, by omega, a3⟩
          · exact ⟨j, hj.1, by omega, h⟩
        · rintro ⟨l, a1, a2, a3⟩
          by_cases d : l < j
          · exact .inl ⟨l, a1, d, a3⟩
          · have : l = j := by omega
            subst this
            exact .inr a3
      refine ⟨fun h => ⟨nx, st _ (by simp [h]), ms⟩, fun h => ⟨fun e => ⟨nx, st _ (by simp [h, e]), ms⟩, fun e => ⟨nx, st _ (by simp [h, e]), ms⟩⟩⟩
    · rw [hc]
      constructor
      · rintro ⟨l, a1, a2, a3, a4⟩
        rcases Int.lt_or_le r 0 with d | d
        · have q := h1 l a1 (by omega)
          exact absurd ⟨by rw [← q.2.1]; exact a3, by rw [← q.2.2.1]; exact a4⟩ ((holds_none hr d).2 (g l) q.1)
        · exact d
      · intro d
        obtain ⟨k1, k2, k3⟩ := holds_some hr d
        obtain ⟨l, a1, a2, e⟩ := h3 r k1
        have q := (h1 l a1 a2).2
        rw [e] at q
        exact ⟨l, a1, by omega, by rw [q.1]; exact k2, by rw [q.2.1]; exact k3⟩
  have lens : ∀ x z : Int, (Sl.lit [[D.int x], [.int z]]).len = 2 := fun _ _ => rfl
  refine ⟨fun i => 0 ≤ i ∧ i ≤ 2, fun i => (2 - i).toNat, ⟨by decide, by decide⟩, fun i ri hJ => ?_⟩
  have hJ : 0 ≤ i ∧ i ≤ 2 := hJ
  rw [lens]
  refine ⟨fun hi => ⟨hJ.1, hi, fun _ => ⟨n1, fun xa xb _ xc xd _ xe _ hq1 => ⟨n1, fun ya yb _ yc yd _ ye _ hq2 => ⟨n1, fun za zb _ zc zd _ ze _ hq3 => ⟨n1, fun ua ub _ uc ud _ ue _ hq4 => ?_⟩⟩⟩⟩⟩, fun hi => ⟨rfl, trivial⟩⟩
  have kk : known ≤ (Sl.lit [[D.int known], [.int (imax known 65536)]]).int i 0 := by
    rcases (show i = 0 ∨ i = 1 by omega) with rfl | rfl
    · exact Int.le_refl _
    · show known ≤ imax known 65536
      unfold imax; split <;> omega
  have al2 := view_all hs h1 h2 kk
  have s1 := look_same hq1 hq2 (by simp [v1, v2]) (fun k hk => by
    obtain ⟨l, a1, a2, e⟩ := h3 k hk.1.1
    have q := (h1 l a1 a2).2
    rw [← e] at hk ⊢
    exact ⟨l, (cand_view h1 h2 h3 al2 a1 a2).1 hk, q⟩) (fun l hl => ⟨g l, (cand_view h1 h2 h3 al2 hl.1.1.1.1 hl.1.1.1.2).2 hl⟩)
  have s2 := look_same hq3 hq4 (by simp [v1, v2]) (fun k hk => by
    obtain ⟨l, a1, a2, e⟩ := h3 k hk.1.1.1.1
    have q := (h1 l a1 a2).2
    rw [← e] at hk ⊢
    exact ⟨l, (candT_view h1 h2 h3 al2 a1 a2).1 hk, q⟩) (fun l hl => ⟨g l, (candT_view h1 h2 h3 al2 hl.1.1.1.1.1.1 hl.1.1.1.1.1.2).2 hl⟩)
  refine ⟨fun h => absurd s1.1 h, fun _ => ⟨fun h => absurd s2.1 h, fun _ => ⟨trivial, fun c1 hc1 => ⟨fun h => absurd (hc1.2 s1.2) h, fun _ => ⟨trivial, fun c2 hc2 => ⟨fun h => absurd (hc2.2 s2.2) h, fun _ => ⟨by rw [rng64]; omega, ⟨by omega, by omega⟩, by show (2 - (i + 1)).toNat < (2 - i).toNat; omega⟩⟩⟩⟩⟩⟩⟩

end Go.Sx.N
