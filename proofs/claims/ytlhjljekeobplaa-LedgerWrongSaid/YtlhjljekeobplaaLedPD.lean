/-
  The condition of the law Days. Conditions: none.
-/
import Derived.Test.YtlhjljekeobplaaLedPC
import Derived.Test.YtlhjljekeobplaaLedP9
import Derived.Test.YtlhjljekeobplaaLedVDays
namespace Go.Sx.L

theorem int_part {s : Sl} {l h i : Int} {j : Nat} (h0 : 0 ≤ l) (hi : 0 ≤ i) : (Sl.part s l h).int i j = s.int (l + i) j := by
  unfold Sl.part Sl.int
  simp only
  congr 2
  omega

theorem len_part {s : Sl} {l h : Int} (h0 : 0 ≤ l) (h1 : l ≤ h) : (Sl.part s l h).len = h - l := by
  unfold Sl.part Sl.len
  simp only
  omega

theorem follow_rest {st n : Int} {p q : Sl} {d0 : Int} (hf : followS st n p d0) (hl : q.len ≤ p.len) (hq : ∀ i : Int, 0 ≤ i → i < q.len → eqAt q i p i) (h0 : 0 ≤ d0) : followS st n (Sl.part p q.len p.len) (lastDay q) := by
  intro i i0 i1
  have hq0 := len0 q
  rw [len_part hq0 hl] at i1
  obtain ⟨g1, g2⟩ := hf (q.len + i) (by omega) (by omega)
  refine ⟨?_, ?_⟩
  · unfold fitAt at *
    rw [int_part hq0 i0, int_part hq0 i0, int_part hq0 i0, int_part hq0 i0]
    exact g1
  · rw [int_part hq0 i0]
    unfold prev at g2 ⊢
    by_cases ei : i = 0
    · rw [if_pos ei]
      subst ei
      rw [Int.add_zero] at g2 ⊢
      unfold lastDay
      split
      · rename_i hpos
        rw [if_neg (by omega)] at g2
        rw [(hq (q.len - 1) (by omega) (by omega)).1]
        exact g2
      · have := g1.1.1
        rw [Int.add_zero] at this
        exact this
    · rw [if_neg ei, int_part hq0 (by omega)]
      rw [if_neg (by omega)] at g2
      rw [show q.len + (i - 1) = q.len + i - 1 by omega]
      exact g2

theorem eqDue.symm {d e : Sl} (h : eqDue d e) : eqDue e d := ⟨h.1.symm, fun i h0 h1 => (h.2 i h0 (by rw [h.1]; exact h1)).symm⟩
theorem eqDue.trans {d e f : Sl} (h : eqDue d e) (g : eqDue e f) : eqDue d f := ⟨h.1.trans g.1, fun i h0 h1 => (h.2 i h0 h1).trans (g.2 i h0 (by rw [← h.1]; exact h1))⟩

theorem Days_ok : V_Days := by
  intro st _ d p a _ b _ _
  have rs := rsL
  have aw : p_awake ∧ ∀ b5 : Bool, q_awake (decide (b5 = true)) → q_Days st d p a b (decide (b5 = true)) ∧ True := ⟨trivial, fun b hb => ⟨hb, trivial⟩⟩
  refine ⟨trivial, fun u hu => ⟨fun _ => aw, fun hn => ?_⟩⟩
  obtain ⟨hu1, hu2, hv⟩ := hu.1 (by simpa using hn)
  obtain ⟨lo, hlo⟩ : ∃ lo, lo = imin a b := ⟨_, rfl⟩
  obtain ⟨hi, hhi⟩ : ∃ hi, hi = imax a b := ⟨_, rfl⟩
  have hle : lo ≤ hi := by rw [hlo, hhi]; unfold imin imax; split <;> (try split) <;> omega
  rw [← hlo, ← hhi]
  have hd0 := len0 d
  have hp0 := len0 p
  refine ⟨trivial, fun x6 _ s7 s8 x9 _ hx => ⟨trivial, fun x10 _ s11 s12 x13 _ hy => ⟨trivial, fun x14 _ s15 s16 x17 _ hz => ?_⟩⟩⟩
  obtain ⟨rfl, e6, hxd, hxp⟩ := hx.2 hv
  obtain rfl := e6.symm
  obtain ⟨rfl, e10, hyd, hyp⟩ := hy.2 hv
  obtain rfl := e10.symm
  have hvy := upTo_valid hv hyd hyp
  obtain ⟨rfl, e14, hzd, hzp⟩ := hz.2 hvy
  obtain rfl := e14.symm
  have hvx := upTo_valid hv hxd hxp
  have h80 := len0 s8
  have h12 := len0 s12
  have h16 := len0 s16
  have hlen : s8.len = s16.len := by
    rcases Int.lt_trichotomy s8.len s16.len with h | h | h
    · have h1 := hxp.2.2 s8.len (Int.le_refl _) (by have := hzp.1; have := hyp.1; omega)
      have h2 := (hzp.2.1 s8.len h80 h).2
      have h3 := (hyp.2.1 s8.len h80 (by have := hzp.1; omega)).1.1
      omega
    · exact h
    · have h1 := (hxp.2.1 s16.len h16 h).2
      by_cases h2 : s16.len < s12.len
      · have h3 := hzp.2.2 s16.len (Int.le_refl _) h2
        have h4 := (hyp.2.1 s16.len h16 h2).1.1
        omega
      · have h3 := hyp.2.2 s16.len (by omega) (by have := hxp.1; omega)
        omega
  have hsame : sameS st s7 s8 st s15 s16 := by
    refine ⟨rfl, hxd.trans (hzd.trans hyd).symm, hlen, fun i i0 i1 => ?_⟩
    have g1 := (hxp.2.1 i i0 i1).1
    have g2 := (hzp.2.1 i i0 (by omega)).1
    have g3 := (hyp.2.1 i i0 (by have := hzp.1; omega)).1
    unfold eqAt at *
    omega
  have tail : p_Post st s7 s8 (Sl.part p s8.len p.len) ∧ ∀ x22 : Int, Rng .i64 x22 → ∀ s23 s24 : Sl, ∀ x25 : Int, Rng .i64 x25 → q_Post st s7 s8 (Sl.part p s8.len p.len) x22 s23 s24 x25 →
      (x25 = 0 → p_Same x22 s23 s24 st d p ∧ ∀ b26 : Bool, q_Same x22 s23 s24 st d p (decide (b26 = true)) → (b26 = true → p_awake ∧ ∀ b27 : Bool, q_awake (decide (b27 = true)) → q_Days st d p a b (decide (b27 = true)) ∧ True) ∧ (¬ b26 = true → q_Days st d p a b (decide False) ∧ True)) ∧
      (¬ x25 = 0 → q_Days st d p a b (decide False) ∧ True) := by
    have hpl := len_part (s := p) (l := s8.len) (h := p.len) h80 hxp.1
    have hp4 := hv.2.2.1
    refine ⟨by show (Sl.part p s8.len p.len).len ≤ 1000000; omega, fun x22 _ s23 s24 x25 _ hq => ?_⟩
    have hok : postOk st s7 s8 (Sl.part p s8.len p.len) := ⟨hvx, by rw [hxd.1]; exact follow_rest hv.2.2.2 hxp.1 (fun i i0 i1 => (hxp.2.1 i i0 i1).1) (Int.le_refl _)⟩
    obtain ⟨rfl, e22, hdd, hbl, hba, hbb⟩ := (hq.2 hok).2 (by omega)
    obtain rfl := e22.symm
    refine ⟨fun _ => ⟨trivial, fun b26 hb => ⟨fun _ => aw, fun hn => absurd ?_ hn⟩⟩, fun h => absurd rfl h⟩
    have hb : b26 = true ↔ sameS st s23 s24 st d p := by simpa [q_Same] using hb
    refine hb.2 ⟨rfl, hdd.trans hxd, by omega, fun i i0 i1 => ?_⟩
    by_cases hi : i < s8.len
    · have g1 := hba i i0 hi
      have g2 := (hxp.2.1 i i0 hi).1
      unfold eqAt at *
      omega
    · have g1 := hbb (i - s8.len) (by omega) (by omega)
      unfold eqAt at g1 ⊢
      rw [int_part h80 (by omega), int_part h80 (by omega), int_part h80 (by omega), int_part h80 (by omega), show s8.len + (i - s8.len) = i by omega] at g1
      exact g1
  have z : ∀ y : Int, y = 0 → Rng .i64 y := fun y h => by rw [h, rng64]; omega
  refine ⟨z _ (by omega), z _ (by omega), fun h => absurd (by omega) h, fun _ => ⟨trivial, fun b18 hb18 => ⟨fun h => absurd ?_ h, fun _ => ⟨trivial, fun b19 hb19 => ⟨fun h => absurd ?_ h, fun _ _ _ => ⟨fun h => absurd hxp.1 (by omega), fun _ _ => ?_⟩⟩⟩⟩⟩⟩
  · have hb : b18 = true ↔ sameS st s7 s8 st s15 s16 := by simpa [q_Same] using hb18
    exact hb.2 hsame
  · have hb : b19 = true ↔ validS st s7 s8 := by simpa [q_Valid] using hb19
    exact hb.2 hvx
  refine ⟨fun i => 0 ≤ i ∧ i ≤ s8.len, fun i => (s8.len - i).toNat, ⟨Int.le_refl _, h80⟩, fun i _ ⟨i0, i1⟩ => ⟨fun hlt => ?_, fun hge _ _ => ⟨fun hlt _ => ⟨h80, hlt, fun _ => ⟨fun h => ?_, fun _ => ?_⟩⟩, fun hge2 => ?_⟩⟩⟩
  · obtain ⟨g1, g2⟩ := hxp.2.1 i i0 hlt
    have := hxp.1
    refine ⟨i0, hlt, fun _ _ _ _ => ⟨i0, by omega, fun _ _ _ _ => ⟨fun h => absurd g1 h, fun _ => ⟨fun h => absurd g2 (by omega), fun _ => ⟨rs _ (by omega), ⟨by omega, by omega⟩, ?_⟩⟩⟩⟩⟩
    show (s8.len - (i + 1)).toNat < (s8.len - i).toNat; omega
  · have := hxp.2.2 s8.len (Int.le_refl _) hlt
    omega
  · have h1 := hxp.1
    repeat' first | exact tail | exact h80 | exact h1 | exact Int.le_refl _ | apply And.intro | intro _
  · have h1 := hxp.1
    repeat' first | exact tail | exact h80 | exact h1 | exact Int.le_refl _ | apply And.intro | intro _

end Go.Sx.L
