/-
  The index that the statements build. Conditions: none.
-/
import Derived.Test.YtjljnieafhdkgaaGreatDoorIdxFd
set_option linter.unusedVariables false
set_option linter.unusedSimpArgs false
namespace Go.Sx.N

def rowB (s : Sl) (i : Int) : Prop := (1900 ≤ s.int i 0 ∧ s.int i 0 ≤ 2200) ∧ s.int i 1 = 0 ∧ (0 ≤ s.int i 2 ∧ s.int i 2 < 65536) ∧ okF (s.bool i 3) (s.sub i 4) (s.bool i 5) (s.sub i 6) ∧ rateB (fq (s.bool i 3) (s.sub i 4) (s.sub i 6))

theorem rowB_eq {s t : Sl} {i k : Int} (h : s.f i.toNat = t.f k.toNat) : rowB s i ↔ rowB t k := by
  unfold rowB Sl.int Sl.bool Sl.sub
  rw [h]

theorem key_eq {s t : Sl} {i k : Int} (h : s.f i.toNat = t.f k.toNat) : s.int i 0 = t.int k 0 ∧ s.int i 1 = t.int k 1 ∧ s.int i 2 = t.int k 2 := by
  unfold Sl.int
  rw [h]
  exact ⟨rfl, rfl, rfl⟩

/-- Rows so far: sorted, each good, none behind the key (y, 0, k). -/
def gI (s : Sl) (y k L : Int) : Prop := s.len ≤ L ∧ sortedT s ∧ (∀ i : Int, 0 ≤ i → i < s.len → rowB s i) ∧ ∀ i : Int, 0 ≤ i → i < s.len → s.int i 0 < y ∨ (s.int i 0 = y ∧ s.int i 2 ≤ k)

theorem gI.mono {s : Sl} {y k L y' k' L' : Int} (h : gI s y k L) (hy : y < y' ∨ (y = y' ∧ k ≤ k')) (hL : L ≤ L') : gI s y' k' L' :=
  ⟨Int.le_trans h.1 hL, h.2.1, h.2.2.1, fun i i0 i1 => by have := h.2.2.2 i i0 i1; omega⟩

theorem gI.add {s : Sl} {y k k' L n : Int} {a b c : Int} {nn dn : Bool} {nl dl : Sl} (h : gI s y k' L) (hk : k' ≤ k) (hk0 : 0 ≤ k ∧ k < 65536) (hy : 1900 ≤ y ∧ y ≤ 2200) (hn : -300 ≤ n ∧ n ≤ 699) (hr : q_iRow y k n 1000 a b c nn nl dn dl) :
    gI (Sl.app s (Sl.lit [[.int a, .int b, .int c, .bool nn, Sl.d nl, .bool dn, Sl.d dl]])) y k (L + 1) := by
  obtain ⟨rfl, rfl, rfl, hf⟩ := hr
  obtain ⟨h1, h2, h3, h4⟩ := h
  have l : (Sl.app s (Sl.lit [[.int a, .int 0, .int c, .bool nn, Sl.d nl, .bool dn, Sl.d dl]])).len = s.len + 1 := len_app1 _ _
  have s0 := len0 s
  have old : ∀ i : Int, 0 ≤ i → i < s.len → (Sl.app s (Sl.lit [[.int a, .int 0, .int c, .bool nn, Sl.d nl, .bool dn, Sl.d dl]])).f i.toNat = s.f i.toNat := fun i i0 i1 => f_app_lt i0 i1
  have new : (Sl.app s (Sl.lit [[.int a, .int 0, .int c, .bool nn, Sl.d nl, .bool dn, Sl.d dl]])).f s.len.toNat = (Sl.lit [[.int a, .int 0, .int c, .bool nn, Sl.d nl, .bool dn, Sl.d dl]]).f (0 : Int).toNat := by
    rw [app_new rfl]; rfl
  have kn := key_eq new
  have e0 : (Sl.lit [[.int a, .int 0, .int c, .bool nn, Sl.d nl, .bool dn, Sl.d dl]]).int 0 0 = a := rfl
  have e1 : (Sl.lit [[.int a, .int 0, .int c, .bool nn, Sl.d nl, .bool dn, Sl.d dl]]).int 0 1 = 0 := rfl
  have e2 : (Sl.lit [[.int a, .int 0, .int c, .bool nn, Sl.d nl, .bool dn, Sl.d dl]]).int 0 2 = c := rfl
  rw [e0, e1, e2] at kn
  refine ⟨by omega, fun i i0 i1 => ?_, fun i i0 i1 => ?_, fun i i0 i1 => ?_⟩
  · have kp := key_eq (old (i - 1) (by omega) (by omega))
    unfold ltR
    rw [kp.1, kp.2.1, kp.2.2]
    by_cases e : i < s.len
    · have ki := key_eq (old i (by omega) e)
      rw [ki.1, ki.2.1, ki.2.2]
      exact h2 i i0 e
    · have : i = s.len := by omega
      subst this
      rw [kn.1, kn.2.1, kn.2.2]
      have := h4 (s.len - 1) (by omega) (by omega)
      have := (h3 (s.len - 1) (by omega) (by omega)).2.1
      unfold ltK
      omega
  · by_cases e : i < s.len
    · exact (rowB_eq (old i i0 e)).2 (h3 i i0 e)
    · have : i = s.len := by omega
      subst this
      refine (rowB_eq new).2 ⟨hy, rfl, hk0, litF_okF hf, n, hn, ?_⟩
      show fq nn nl dl = _
      rw [hf.1.fq, fracQ_pos (by decide)]
  · by_cases e : i < s.len
    · have ki := key_eq (old i i0 e)
      have := h4 i i0 e
      rw [ki.1, ki.2.2]
      omega
    · have : i = s.len := by omega
      subst this
      rw [kn.1, kn.2.2]
      omega

theorem gI_nil {y k L : Int} (h : 0 ≤ L) : gI Sl.nil y k L := by
  refine ⟨h, fun i i0 i1 => ?_, fun i i0 i1 => ?_, fun i i0 i1 => ?_⟩
  all_goals
    have : i < 0 := i1
    omega

theorem iBuilt_ok : V_iBuilt := by
  intro m rm _
  simp only [Bool.decide_eq_true]
  have rs : ∀ x : Int, -1000000 ≤ x → x ≤ 1000000 → Rng .i64 x := fun x a b => by rw [rng64]; omega
  have m0 := len0 m
  refine ⟨fun y i n two s => (n = builtN ∧ two = false) ∧ (0 ≤ i ∧ i ≤ 100 ∧ i % 2 = 0) ∧ (1900 ≤ y ∧ y ≤ 1900 + 2 * i) ∧ gI s y (-1) i, fun _ i _ _ _ => (100 - i).toNat, ⟨⟨rfl, rfl⟩, by omega, by omega, gI_nil (Int.le_refl _)⟩, fun y _ i _ n two s _ ⟨⟨hn, h2⟩, ⟨i0, i1, i2⟩, ⟨y0, y1⟩, g⟩ => ⟨rs _ (by omega) (by omega), fun _ => ⟨fun hi => ⟨fun hi2 => ?_, fun _ => ⟨?_, trivial⟩⟩, fun _ => ⟨?_, trivial⟩⟩⟩⟩
  · have hm : i < m.len := by omega
    refine ⟨fun v => 0 ≤ v ∧ v ≤ 65535, ⟨i0, hm, fun r => ⟨by decide, ?_, fun _ => ⟨i0, hm, fun _ => r⟩, fun _ => ⟨Int.le_refl _, by decide⟩⟩⟩, fun v _ ⟨v0, v1⟩ => ⟨fun n' two' s' => (n' = builtN ∧ two' = false) ∧ gI s' y v (i + 1), ⟨rs _ (by omega) (by omega), by omega, hi, fun r => ?_⟩, fun n' two' s' _ ⟨⟨hn', h2'⟩, g'⟩ => ⟨fun n'' two'' s'' => (n'' = builtN ∧ two'' = false) ∧ gI s'' y 65536 (i + 2), ⟨i0, hm, fun r => ?_⟩, fun n'' two'' s'' _ ⟨⟨hn'', h2''⟩, g''⟩ => ⟨i0, hm, fun r => ?_⟩⟩⟩⟩
    · have t := Int.tmod_eq_emod_of_nonneg (b := 8) r.1
      rw [t, rngu16]; omega
    · have r := rngu16.1 r
      have t := Int.tmod_eq_emod_of_nonneg (b := 1000) r.1
      rw [t]
      have add : ∀ (a b c : Int) (nn : Bool) (nl : Sl) (dn : Bool) (dl : Sl), q_iRow y v (m.int (i + 1) 0 % 1000 - 300) 1000 a b c nn nl dn dl → (s.len + (Sl.lit [[.int a, .int b, .int c, .bool nn, Sl.d nl, .bool dn, Sl.d dl]]).len) * 88 ≤ 140737488355328 ∧ (n = builtN ∧ two = false) ∧ gI (Sl.app s (Sl.lit [[.int a, .int b, .int c, .bool nn, Sl.d nl, .bool dn, Sl.d dl]])) y v (i + 1) := fun a b c nn nl dn dl hq => by
        have := g.1
        refine ⟨?_, ⟨hn, h2⟩, g.add (by omega) (by omega) (by omega) (by omega) hq⟩
        show (s.len + 1) * 88 ≤ _
        omega
      exact ⟨by decide, rs _ (by omega) (by omega), rs _ (by omega) (by omega), ⟨trivial, fun a _ b _ c _ nn nl _ dn dl _ hq => add a b c nn nl dn dl hq⟩, trivial, fun a _ b _ c _ nn nl _ dn dl _ hq => ⟨add a b c nn nl dn dl hq, add a b c nn nl dn dl hq⟩⟩
    · have r := rngu16.1 r
      have t := Int.tmod_eq_emod_of_nonneg (b := 8) r.1
      rw [t]
      have keep : (n' = builtN ∧ two' = false) ∧ gI s' y 65536 (i + 2) := ⟨⟨hn', h2'⟩, g'.mono (by omega) (by omega)⟩
      refine ⟨by decide, by rw [rngu16]; omega, fun h6 => ⟨fun hv => ⟨i0, hm, fun _ => ⟨rs _ (by omega) (by omega), rs _ (by omega) (by omega), by omega, hi, fun r' => ?_⟩⟩, fun _ => keep⟩, fun _ => keep⟩
      have r' := rngu16.1 r'
      have t' := Int.tmod_eq_emod_of_nonneg (b := 700) r'.1
      rw [t']
      have add : ∀ (a b c : Int) (nn : Bool) (nl : Sl) (dn : Bool) (dl : Sl), q_iRow y (1 + m.int i 0) (m.int (i + 1) 0 % 700) 1000 a b c nn nl dn dl → (s'.len + (Sl.lit [[.int a, .int b, .int c, .bool nn, Sl.d nl, .bool dn, Sl.d dl]]).len) * 88 ≤ 140737488355328 ∧ (n' = builtN ∧ two' = false) ∧ gI (Sl.app s' (Sl.lit [[.int a, .int b, .int c, .bool nn, Sl.d nl, .bool dn, Sl.d dl]])) y 65536 (i + 2) := fun a b c nn nl dn dl hq => by
        have := g'.1
        refine ⟨?_, ⟨hn', h2'⟩, (g'.add (by omega) (by omega) (by omega) (by omega) hq).mono (by omega) (by omega)⟩
        show (s'.len + 1) * 88 ≤ _
        omega
      exact ⟨by decide, rs _ (by omega) (by omega), ⟨trivial, fun a _ b _ c _ nn nl _ dn dl _ hq => add a b c nn nl dn dl hq⟩, trivial, fun a _ b _ c _ nn nl _ dn dl _ hq => ⟨add a b c nn nl dn dl hq, add a b c nn nl dn dl hq⟩⟩
    · have r := rngu16.1 r
      have t := Int.tdiv_eq_ediv_of_nonneg (b := 8) r.1
      have t2 := Int.tmod_eq_emod_of_nonneg (a := m.int i 0 / 8) (b := 3) (by omega)
      rw [t, t2]
      refine ⟨by decide, rs _ (by omega) (by omega), by decide, rs _ (by omega) (by omega), rs _ (by omega) (by omega), rs _ (by omega) (by omega), rs _ (by omega) (by omega), ⟨⟨hn'', h2''⟩, by omega, by omega, g''.mono (by omega) (by omega)⟩, ?_⟩
      show (100 - (i + 2)).toNat < (100 - i).toNat
      omega
  all_goals
    exact ⟨hn, h2, ⟨by have := g.1; omega, g.2.1, g.2.2.1⟩, by have := g.1; omega⟩

end Go.Sx.N
