/-
  The tables that the statements build. Conditions: none.
-/
import Derived.Test.YtjbknheeiaaioaaTabFc
set_option linter.unusedVariables false
set_option linter.unusedSimpArgs false
namespace Go.Sx.N

theorem litF_ok {q : Rat} {a c : Bool} {b d : Sl} (h : litF q a b c d) : okF a b c d := ⟨⟨q, h.1⟩, by have := h.2.1; omega, by have := h.2.2; omega⟩

theorem Pool_ok : V_Pool := by
  intro x rx _
  have rx : 0 ≤ x ∧ x ≤ 65535 := rx
  have ta : Int.tmod x 8 = x % 8 := Int.tmod_eq_emod_of_nonneg rx.1
  rw [ta]
  have body : ∀ n d : Int, fracQ n d = poolQ x → p_kFrac n d ∧ ∀ (a : Bool) (b : Sl), Ranged b [some .u16] → ∀ (c : Bool) (e : Sl), Ranged e [some .u16] → q_kFrac n d (decide (a = true)) b (decide (c = true)) e → q_Pool x 2 (decide (a = true)) b (decide (c = true)) e 0 ∧ True := fun n d hq =>
    ⟨trivial, fun a b _ c e _ h => ⟨⟨by rw [← hq]; exact h.1, h.2.1, h.2.2⟩, trivial⟩⟩
  have fr : ∀ n d : Int, 1 ≤ d → fracQ n d = Rat.divInt n d := fun n d h => fracQ_eq h
  have one : ∀ n : Int, Rat.divInt n 1 = (n : Rat) := intCast_divInt
  refine ⟨by decide, by show (0 : Int) ≤ _ ∧ _ ≤ (65535 : Int); omega, by omega, by omega,
    fun h0 => body 0 1 ?_, fun h0 => ⟨fun h1 => body 1 1 ?_, fun h1 => ⟨fun h2 => body 1 2 ?_, fun h2 => ⟨fun h3 => body (-3) 4 ?_, fun h3 => ⟨fun h4 => body 5 3 ?_, fun h4 => ⟨fun h5 => body 65537 7 ?_, fun h5 => ⟨fun h6 => body (-1) 1 ?_, fun h6 => body 1099511627776 1 ?_⟩⟩⟩⟩⟩⟩⟩
  all_goals rw [fr _ _ (by decide)]; unfold poolQ
  · rw [if_pos h0, one]; rfl
  · rw [if_neg h0, if_pos h1, one]; rfl
  · rw [if_neg h0, if_neg h1, if_pos h2]
  · rw [if_neg h0, if_neg h1, if_neg h2, if_pos h3]
  · rw [if_neg h0, if_neg h1, if_neg h2, if_neg h3, if_pos h4]
  · rw [if_neg h0, if_neg h1, if_neg h2, if_neg h3, if_neg h4, if_pos h5]
  · rw [if_neg h0, if_neg h1, if_neg h2, if_neg h3, if_neg h4, if_neg h5, if_pos h6, one]; rfl
  · rw [if_neg h0, if_neg h1, if_neg h2, if_neg h3, if_neg h4, if_neg h5, if_neg h6, one]; rfl

/-! ### Rows put in -/
theorem ltR_congr {s t u v : Sl} {i k j l : Int} (h : rowEq s i t k) (g : rowEq u j v l) : ltR s i u j ↔ ltR t k v l := by
  unfold ltR
  rw [h.1, h.2.1, h.2.2.1, g.1, g.2.1, g.2.2.1]

theorem ins_sorted {u r t : Sl} (hs : sortedT u) (h : ins u r t) : sortedT t := by
  obtain ⟨p, ⟨hl, hp, h1, h2, h3⟩, h4⟩ := h
  intro i i0 i1 hlt
  rcases Int.lt_trichotomy i p with c | c | c
  · rw [ltR_congr (h1 i (by omega) c) (h1 (i - 1) (by omega) (by omega))] at hlt
    exact hs i i0 (by omega) hlt
  · subst c
    rw [ltR_congr h2 (h1 (i - 1) (by omega) (by omega))] at hlt
    exact h4 (i - 1) (by omega) (by omega) hlt
  · have a := h3 (i - 1) (by omega) (by omega)
    have e : i - 1 + 1 = i := by omega
    rw [e] at a
    by_cases d : i - 1 = p
    · rw [← d] at h2
      rw [ltR_congr a.1 h2] at hlt
      have b := a.2
      unfold ltR ltK at hlt b
      omega
    · have b := h3 (i - 1 - 1) (by omega) (by omega)
      rw [show i - 1 - 1 + 1 = i - 1 by omega] at b
      rw [ltR_congr a.1 b.1] at hlt
      exact hs (i - 1) (by omega) (by omega) hlt

theorem ins_rows {u r t : Sl} (h : ins u r t) {Q : Sl → Int → Prop} (hc : ∀ {s t : Sl} {i k : Int}, rowEq s i t k → Q t k → Q s i) (hr : Q r 0) (hu : ∀ i : Int, 0 ≤ i → i < u.len → Q u i) :
    ∀ i : Int, 0 ≤ i → i < t.len → Q t i := by
  obtain ⟨p, ⟨hl, hp, h1, h2, h3⟩, _⟩ := h
  intro i i0 i1
  rcases Int.lt_trichotomy i p with c | c | c
  · exact hc (h1 i i0 c) (hu i i0 (by omega))
  · subst c; exact hc h2 hr
  · have a := (h3 (i - 1) (by omega) (by omega)).1
    rw [show i - 1 + 1 = i by omega] at a
    exact hc a (hu (i - 1) (by omega) (by omega))

theorem builtAt_congr {two : Bool} {s t : Sl} {i k : Int} (h : rowEq s i t k) (g : builtAt two t k) : builtAt two s i := by
  unfold builtAt at *
  rw [h.1, h.2.1, h.2.2.1]
  exact ⟨g.1, g.2.1, g.2.2.1, g.2.2.2.1, okF.of_same g.2.2.2.2 h.2.2.2⟩

theorem isOf_at {s r : Sl} {i : Int} {two : Bool} (h : isOf s i two r) (h0 : 0 ≤ s.int i 3) (h1 : s.int i 3 ≤ 65535) : builtAt two r 0 := by
  obtain ⟨⟨e0, e1, e2, e3⟩, _, _⟩ := h
  refine ⟨by rw [e0]; omega, by rw [e1]; split <;> omega, ?_, by rw [e2]; omega, litF_ok e3⟩
  rw [e1]
  cases two
  · exact .inr rfl
  · exact .inl rfl

def row7 (a b k : Int) (nn : Bool) (nl : Sl) (dn : Bool) (dl : Sl) : Sl := Sl.lit [[.int a, .int b, .int k, .bool nn, Sl.d nl, .bool dn, Sl.d dl]]

theorem rowEq_lit {a s : Sl} {l : List D} {m : Int} (h : m = a.len) : rowEq (Sl.app a (Sl.lit [l])) m (Sl.lit [l]) 0 := by
  refine rowEq_cells ?_
  rw [app_new h]
  rfl

/-- Two rows change places. -/
theorem f_upd_full {s : Sl} {i : Int} {l : List D} {j : Nat} (hj : j < l.length) : (Sl.upd s i 0 l).f i.toNat j = l.getD j (.int 0) := by
  unfold Sl.upd
  simp [hj]
def cpb (s : Sl) (i : Int) : List D := [.int (s.int i 0), .int (s.int i 1), .int (s.int i 2), .bool (s.bool i 3), Sl.d (s.sub i 4), .bool (s.bool i 5), Sl.d (s.sub i 6)]
theorem rowEq_cp {s t : Sl} {i k : Int} : rowEq (Sl.upd s i 0 (cpb t k)) i t k := by
  have e : ∀ j, j < 7 → (Sl.upd s i 0 (cpb t k)).f i.toNat j = (cpb t k).getD j (.int 0) := fun j hj => f_upd_full hj
  unfold rowEq rowF Sl.int Sl.bool Sl.sub
  rw [e 0 (by decide), e 1 (by decide), e 2 (by decide), e 3 (by decide), e 4 (by decide), e 5 (by decide), e 6 (by decide)]
  exact ⟨rfl, rfl, rfl, ⟨rfl, SameI.refl _⟩, rfl, SameI.refl _⟩

theorem insP_swap {u r t : Sl} {p : Int} (h : insP u r t p) (hp : 0 < p) (hlt : ltR r 0 u (p - 1)) : insP u r (Sl.upd (Sl.upd t p 0 (cpb t (p - 1))) (p - 1) 0 (cpb t p)) (p - 1) := by
  obtain ⟨hl, hp', h1, h2, h3⟩ := h
  refine ⟨hl, by omega, fun k k0 k1 => ?_, rowEq.trans rowEq_cp h2, fun k k0 k1 => ?_⟩
  · refine rowEq.trans (rowEq_cells (t := t) (k := k) ?_) (h1 k k0 (by omega))
    rw [f_upd_ne (by omega) k0 (by omega), f_upd_ne (by omega) k0 (by omega)]
  · by_cases c : k = p - 1
    · subst c
      rw [show p - 1 + 1 = p by omega]
      refine ⟨?_, hlt⟩
      refine rowEq.trans (rowEq_cells (t := Sl.upd t p 0 (cpb t (p - 1))) (k := p) ?_) (rowEq.trans rowEq_cp (h1 (p - 1) (by omega) (by omega)))
      rw [f_upd_ne (by omega) (by omega) (by omega)]
    · have a := h3 k (by omega) k1
      refine ⟨rowEq.trans (rowEq_cells (t := t) (k := k + 1) ?_) a.1, a.2⟩
      rw [f_upd_ne (by omega) (by omega) (by omega), f_upd_ne (by omega) (by omega) (by omega)]

def lessP (s : Sl) (i : Int) (t : Sl) (k : Int) : Prop := p_tLess (s.int i 0) (s.int i 1) (s.int i 2) (s.bool i 3) (s.sub i 4) (s.bool i 5) (s.sub i 6) (t.int k 0) (t.int k 1) (t.int k 2) (t.bool k 3) (t.sub k 4) (t.bool k 5) (t.sub k 6)
def lessQ (s : Sl) (i : Int) (t : Sl) (k : Int) (r : Bool) : Prop := q_tLess (s.int i 0) (s.int i 1) (s.int i 2) (s.bool i 3) (s.sub i 4) (s.bool i 5) (s.sub i 6) (t.int k 0) (t.int k 1) (t.int k 2) (t.bool k 3) (t.sub k 4) (t.bool k 5) (t.sub k 6) r

set_option maxHeartbeats 4000000 in
theorem Built_ok : V_Built := by
  intro s rs two _
  simp only [Bool.decide_eq_true]
  have s0 := len0 s
  have e1 : ∀ l : List D, (Sl.lit [l]).len = 1 := fun l => rfl
  refine ⟨fun i y b u => (0 ≤ i ∧ i ≤ s.len ∧ i ≤ 50) ∧ y = builtN ∧ b = two ∧ u.len = i ∧ sortedT u ∧ (∀ k : Int, 0 ≤ k → k < u.len → builtAt two u k) ∧ Bt s two i.toNat u, fun i _ _ _ => (50 - i).toNat,
    ⟨⟨Int.le_refl _, s0, by decide⟩, rfl, rfl, rfl, fun i h0 h1 => by rw [len_nil] at h1; omega, fun i h0 h1 => by rw [len_nil] at h1; omega, .nil rfl⟩, fun i ri y b u ru hJ sm => ?_⟩
  obtain ⟨⟨i0, i1, i2⟩, ey, eb, hl, hs, hb, hB⟩ := hJ
  have fin : ¬ (i < s.len ∧ i < 50) → q_Built s two y b u := fun hn => by
    have e : imin s.len 50 = i := by unfold imin; split <;> omega
    refine ⟨ey, eb, by rw [e]; exact hl, hs, hb, by rw [e]; exact hB⟩
  refine ⟨fun hi => ⟨fun h50 => ?_, fun h50 => ⟨fin fun h => h50 h.2, trivial⟩⟩, fun hi => ⟨fin fun h => hi h.1, trivial⟩⟩
  refine ⟨fun y' b' v => y' = y ∧ b' = b ∧ ∃ r, isOf s i two r ∧ insP u r v i, ?_, fun y' b' v rv hJ7 sv => ?_⟩
  · have call : p_tOf (s.int i 0) (s.int i 1) (s.int i 2) (s.int i 3) two ∧ ∀ (a : Int), Rng .i64 a → ∀ (c : Int), Rng .i64 c → ∀ (k : Int), Rng .i64 k → ∀ (nn : Bool) (nl : Sl), Ranged nl [some .u16] → ∀ (dn : Bool) (dl : Sl), Ranged dl [some .u16] →
        q_tOf (s.int i 0) (s.int i 1) (s.int i 2) (s.int i 3) two a c k nn nl dn dl →
        ((u.len + (row7 a c k nn nl dn dl).len) * 88 ≤ 140737488355328) ∧ (y = y ∧ b = b ∧ ∃ r, isOf s i two r ∧ insP u r (Sl.app u (row7 a c k nn nl dn dl)) i) := by
      refine ⟨trivial, fun a _ c _ k _ nn nl rnl dn dl rdl hq => ⟨?_, rfl, rfl, row7 a c k nn nl dn dl, ⟨hq, rnl, rdl⟩, ?_⟩⟩
      · show (u.len + 1) * 88 ≤ _
        omega
      · refine ⟨len_app1 _ _, ⟨i0, by omega⟩, fun k k0 k1 => rowEq_cells (f_app_lt k0 (by omega)), rowEq_lit (s := s) hl.symm, fun k k0 k1 => by omega⟩
    refine ⟨i0, hi, fun _ _ _ _ => ⟨call, ⟨trivial, fun a ra c rc k rk nn nl rnl dn dl rdl hq => ?_⟩⟩⟩
    have z := call.2 a ra c rc k rk nn nl rnl dn dl rdl hq
    exact ⟨z, z⟩
  · obtain ⟨rfl, rfl, r, hr, hP0⟩ := hJ7
    have vl := hP0.1
    have r3 : Rng .u16 (s.int i 3) := rs i 3 .u16 i0 hi rfl
    have r3 : 0 ≤ s.int i 3 ∧ s.int i 3 ≤ 65535 := r3
    have br := isOf_at hr r3.1 r3.2
    refine ⟨by rw [rng64]; omega, fun k z c w => z = y' ∧ c = b' ∧ insP u r w k, fun k _ _ _ => k.toNat, ⟨rfl, rfl, by rw [vl, hl, Int.add_sub_cancel]; exact hP0⟩, fun k rk z c w rw_ hJ => ?_⟩
    obtain ⟨rfl, rfl, hP⟩ := hJ
    have hk := hP.2.1
    have wl := hP.1
    have nx : Rng .i64 (i + 1) := by rw [rng64]; omega
    have nx1 : Rng .i64 (k - 1) := by rw [rng64]; omega
    have stop : ¬ (0 < k ∧ ltR r 0 u (k - 1)) → ((0 ≤ i + 1 ∧ i + 1 ≤ s.len ∧ i + 1 ≤ 50) ∧ z = builtN ∧ c = two ∧ w.len = i + 1 ∧ sortedT w ∧ (∀ k : Int, 0 ≤ k → k < w.len → builtAt two w k) ∧ Bt s two (i + 1).toNat w) ∧ (50 - (i + 1)).toNat < (50 - i).toNat := fun hn => by
      have hI : ins u r w := by
        refine ⟨k, hP, fun l l0 l1 => ?_⟩
        have a : ¬ ltR r 0 u (k - 1) := fun h => hn ⟨by omega, h⟩
        have b := sorted_lt hs l0 (show l ≤ k - 1 by omega) (by omega)
        unfold ltR at a b ⊢
        exact not_lt_trans a b
      have e : (i + 1).toNat = i.toNat + 1 := by omega
      refine ⟨⟨by omega, ey, eb, by omega, ins_sorted hs hI, ins_rows (Q := builtAt two) hI builtAt_congr br hb, ?_⟩, by omega⟩
      rw [e]
      refine .step hB ?_ hI
      rw [show ((i.toNat : Nat) : Int) = i by omega]
      exact hr
    refine ⟨0 < k ∧ ltR r 0 u (k - 1), ?_, ?_⟩
    · refine ⟨fun k0 => ⟨nx1, ?_⟩, fun k0 => ⟨nx, stop fun h => k0 h.1⟩⟩
      have a0 : 0 ≤ k - 1 := by omega
      have a1 : k - 1 < w.len := by omega
      have a2 : 0 ≤ k := by omega
      have a3 : k < w.len := by omega
      have ls : lessP w k w (k - 1) ∧ ∀ b17 : Bool, lessQ w k w (k - 1) b17 → (b17 = true → 0 < k ∧ ltR r 0 u (k - 1)) ∧ (¬ b17 = true → Rng .i64 (i + 1) ∧
          (((0 ≤ i + 1 ∧ i + 1 ≤ s.len ∧ i + 1 ≤ 50) ∧ z = builtN ∧ c = two ∧ w.len = i + 1 ∧ sortedT w ∧ (∀ k : Int, 0 ≤ k → k < w.len → builtAt two w k) ∧ Bt s two (i + 1).toNat w) ∧ (50 - (i + 1)).toNat < (50 - i).toNat)) := by
        have e : ltR w k w (k - 1) ↔ ltR r 0 u (k - 1) := ltR_congr hP.2.2.2.1 (hP.2.2.1 (k - 1) a0 (by omega))
        refine ⟨trivial, fun b17 hq => ⟨fun h => ⟨k0, e.1 (hq.1 h)⟩, fun h => ⟨nx, stop fun g => h (hq.2 (e.2 g.2))⟩⟩⟩
      repeat' (first | exact ls | assumption | apply And.intro | intro _)
    · refine fun hlt => ⟨fun z' c' x => z' = z ∧ c' = c ∧ insP u r x (k - 1), ?_, fun z' c' x rx hJ => ⟨nx1, hJ, by show (k - 1).toNat < k.toNat; omega⟩⟩
      have k0 := hlt.1
      have a0 : 0 ≤ k - 1 := by omega
      have a1 : k - 1 < w.len := by omega
      have a2 : 0 ≤ k := by omega
      have a3 : k < w.len := by omega
      have a4 : k - 1 < (Sl.upd w k 0 (cpb w (k - 1))).len := a1
      have sw : z = z ∧ c = c ∧ insP u r (Sl.upd (Sl.upd w k 0 (cpb w (k - 1))) (k - 1) 0 (cpb w k)) (k - 1) := ⟨rfl, rfl, insP_swap hP k0 hlt.2⟩
      repeat' (first | exact sw | assumption | apply And.intro | intro _)

end Go.Sx.N
