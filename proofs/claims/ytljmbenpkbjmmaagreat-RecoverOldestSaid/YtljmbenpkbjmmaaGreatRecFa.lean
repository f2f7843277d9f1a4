/-
  Conditions: the numbers that the checks make, shares, limits. Conditions: none.
-/
import Derived.Test.YtljmbenpkbjmmaaGreatNumVH
import Derived.Test.YtljmbenpkbjmmaaGreatNumFc
import Derived.Test.YtljmbenpkbjmmaaGreatLedF
set_option linter.unusedVariables false
set_option linter.unusedSimpArgs false
namespace Go.Sx.N

theorem kWhole_ok : V_kWhole := by
  intro n rn _
  rw [rng64] at rn
  simp only [Bool.decide_eq_true]
  refine ⟨fun s => s = (if n < 0 then -n else n), ⟨fun h => ?_, fun h => ?_⟩, fun s rs hs => ?_⟩
  · rw [if_pos h, wu64, wu64]; omega
  · rw [if_neg h, wu64]; omega
  have hs : s = (if n < 0 then -n else n) := hs
  have hs0 : 0 ≤ s ∧ s ≤ 9223372036854775808 := by rw [hs]; split <;> omega
  refine ⟨fun u b l => b = decide (n < 0) ∧ 0 ≤ u ∧ u ≤ s ∧ vl l + u * 65536 ^ l.n = s ∧ 0 ≤ vl l ∧ (u = 0 → Nrm l) ∧ l.len ≤ 4, fun u _ _ => u.toNat, ⟨rfl, hs0.1, Int.le_refl _, ?_, Int.le_refl _, fun _ => nrm_nil, by decide⟩, fun u ru b l rl hj => ?_⟩
  · show 0 + s * 65536 ^ 0 = s
    rw [Int.pow_zero]; omega
  obtain ⟨rfl, u0, us, hv, hl0, hn, hl4⟩ := hj
  have e1 : ∀ d : Int, (Sl.lit [[.int d]]).len = 1 := fun d => rfl
  refine ⟨fun hp => ?_, fun hz => ?_⟩
  · have hlen : l.n < 4 := by
      have h1 : 1 * 65536 ^ l.n ≤ u * 65536 ^ l.n := Int.mul_le_mul_of_nonneg_right (by omega) (Int.le_of_lt (pos_pow (by decide) _))
      have h2 : (65536 : Int) ^ l.n < 65536 ^ 4 := by
        have : (65536 : Int) ^ 4 = 18446744073709551616 := rfl
        omega
      exact pow_strict (B := 65536) (by decide) h2
    have sh : shr .u64 u 16 = u / 65536 := shr_def .u64 (x := u) (n := 16) (by decide)
    rw [sh, wu16]
    have hval : vl (Sl.app l (Sl.lit [[.int (u % 65536)]])) = vl l + u % 65536 * 65536 ^ l.n := by unfold vl; rw [val_app1]
    have hpn := pos_pow (B := 65536) (by decide) l.n
    refine ⟨by rw [e1]; unfold Sl.len; omega, by decide, rngu64.2 (by omega), ⟨rfl, by omega, by omega, ?_, ?_, fun hz => ?_, ?_⟩, by show (u / 65536).toNat < u.toNat; omega⟩
    · rw [hval]
      show _ + u / 65536 * 65536 ^ (l.n + 1) = s
      rw [Int.pow_succ, ← hv]
      generalize (65536 : Int) ^ l.n = Q at *
      have e2 : u % 65536 = u - 65536 * (u / 65536) := by omega
      rw [e2]
      generalize u / 65536 = q at *
      grind
    · rw [hval]
      have : 0 ≤ u % 65536 * 65536 ^ l.n := Int.mul_nonneg (by omega) (by omega)
      omega
    · intro _
      rw [len_app1, show l.len + 1 - 1 = l.len from by omega, int_app_ge (Int.le_refl _), Int.sub_self]
      show u % 65536 ≠ 0
      omega
    · rw [len_app1]
      unfold Sl.len
      omega
  · have hu : u = 0 := by omega
    rw [hu, Int.zero_mul, Int.add_zero] at hv
    have hN := hn hu
    refine ⟨⟨⟨hN, fun h0 => ?_⟩, ?_, hl4⟩, trivial⟩
    · have : vl l = 0 := by have := zv_zero (n := false) h0; unfold zv at this; rw [if_neg (by decide)] at this; exact this
      rw [decide_eq_false_iff_not]
      split at hs <;> omega
    · unfold zv
      by_cases h : n < 0
      · rw [if_pos (by simpa using h), hv, hs, if_pos h]; omega
      · rw [if_neg (by simpa using h), hv, hs, if_neg h]

theorem fracQ_zero {d : Int} : fracQ 0 d = 0 := by
  unfold fracQ
  split
  · rfl
  · exact Rat.zero_divInt d
theorem fracQ_low {n d : Int} (h : d < 1) : fracQ n d = 0 := by unfold fracQ; rw [if_pos h]
theorem fracQ_eq {n d : Int} (h : 1 ≤ d) : fracQ n d = Rat.divInt n d := by unfold fracQ; rw [if_neg (by omega)]

theorem kFrac_ok : V_kFrac := by
  intro n rn d rd _
  rw [rng64] at rn rd
  have zero : ∀ (h : fracQ n d = 0), p_kWhole 1 ∧ ∀ b2 : Bool, ∀ s3 : Sl, Ranged s3 [some .u16] → q_kWhole 1 (decide (b2 = true)) s3 → q_kFrac n d (decide False) Sl.nil (decide (b2 = true)) s3 ∧ True := fun h => ⟨trivial, fun b s rs hw => by
    simp only [Bool.decide_eq_true] at hw ⊢
    refine ⟨⟨?_, by decide, hw.2.2⟩, trivial⟩
    rw [h]
    have z : zv (decide False) Sl.nil = 0 := zv_zero rfl
    exact isQ_int (n := 0) (ranged16 rs) ⟨nrm_nil, fun _ => rfl⟩ z hw.1 hw.2.1⟩
  refine ⟨fun h => zero (fracQ_low h), fun h1 => ⟨fun h => zero (by rw [h]; exact fracQ_zero), fun hn0 => ?_⟩⟩
  refine ⟨fun s => s = (if n < 0 then -n else n), ⟨fun h => ?_, fun h => ?_⟩, fun s rs hs => ?_⟩
  · rw [if_pos h, wu64, wu64]; omega
  · rw [if_neg h, wu64]; omega
  have hs : s = (if n < 0 then -n else n) := hs
  have hs0 : 0 < s ∧ s ≤ 9223372036854775808 := by rw [hs]; split <;> omega
  have gs : Int.gcd s d = Int.gcd n d := by
    rw [hs]; split
    · exact Int.neg_gcd
    · rfl
  have wd : IntKind.wrap .u64 d = d := by rw [wu64]; omega
  rw [wd]
  refine ⟨fun a b => 0 ≤ a ∧ 0 ≤ b ∧ b ≤ 9223372036854775807 ∧ (Int.gcd a b = Int.gcd n d), fun _ b => b.toNat, ⟨by omega, by omega, by omega, gs⟩, fun a ra b rb hj => ?_⟩
  obtain ⟨a0, b0, b1, hg⟩ := hj
  refine ⟨fun hp => ?_, fun hz => ?_⟩
  · rw [Int.tmod_eq_emod_of_nonneg a0]
    have m0 := Int.emod_nonneg a (show b ≠ 0 by omega)
    have m1 := Int.emod_lt_of_pos a hp
    refine ⟨by omega, rngu64.2 (by omega), ⟨by omega, m0, by omega, ?_⟩, by show (a % b).toNat < b.toNat; omega⟩
    rw [← hg]
    have e := Int.mul_ediv_add_emod a b
    exact gcd_div (x := a) (y := b) (q := a / b) (r := a % b) (by omega)
  · have hb : b = 0 := by omega
    subst hb
    have ga : a = (Int.gcd n d : Nat) := by
      rw [← hg, Int.gcd_zero_right]; omega
    have gd : a ∣ d := by rw [ga]; exact Int.gcd_dvd_right ..
    have gn : a ∣ n := by rw [ga]; exact Int.gcd_dvd_left ..
    have apos : 0 < a := by
      rcases Int.lt_or_eq_of_le a0 with h | h
      · exact h
      · rw [← h] at gd; have := Int.zero_dvd.1 gd; omega
    have ad : a ≤ d := Int.le_of_dvd (by omega) gd
    have wa : IntKind.wrap .i64 a = a := wrap_id .i64 _ (by show (-9223372036854775808 : Int) ≤ _ ∧ _ ≤ (9223372036854775807 : Int); omega)
    rw [wa, Int.tdiv_eq_ediv_of_dvd gn, Int.tdiv_eq_ediv_of_dvd gd]
    obtain ⟨kn, hkn⟩ := gn
    obtain ⟨kd, hkd⟩ := gd
    have en : n / a = kn := by rw [hkn]; exact Int.mul_ediv_cancel_left _ (by omega)
    have ed : d / a = kd := by rw [hkd]; exact Int.mul_ediv_cancel_left _ (by omega)
    have bn : -9223372036854775808 ≤ kn ∧ kn ≤ 9223372036854775807 := by
      rcases Int.lt_or_le kn 0 with h | h
      · have : a * kn ≤ 1 * kn := Int.mul_le_mul_of_nonpos_right (by omega) (by omega)
        omega
      · have : 1 * kn ≤ a * kn := Int.mul_le_mul_of_nonneg_right (by omega) h
        omega
    have bd : 0 ≤ kd ∧ kd ≤ 9223372036854775807 := by
      have h0 : 0 ≤ kd := by
        rw [← ed]; exact Int.ediv_nonneg (by omega) (by omega)
      have : 1 * kd ≤ a * kd := Int.mul_le_mul_of_nonneg_right (by omega) h0
      omega
    rw [en, ed]
    refine ⟨by omega, by rw [rng64]; omega, by omega, by rw [rng64]; omega, trivial, fun x l rl hx => ⟨trivial, fun y k rk hy => ⟨?_, trivial⟩⟩⟩
    simp only [Bool.decide_eq_true] at hx hy ⊢
    refine ⟨?_, hx.2.2, hy.2.2⟩
    rw [fracQ_eq (by omega)]
    exact isQ_of_div (g := a) (ranged16 rk) hx.1 hy.1 (by omega) ga (by rw [hx.2.1, en]) (by rw [hy.2.1, ed])

theorem rMul2_ok : V_rMul2 := by
  intro a b rb c d rd a' b' rb' c' d' rd' _
  simp only [Bool.decide_eq_true]
  have no : ¬ (okF a b c d ∧ okF a' b' c' d') → q_rMul2 a b c d a' b' c' d' (decide False) Sl.nil (decide False) Sl.nil 2 ∧ True := fun h => ⟨⟨fun k => absurd k h, fun _ => ⟨⟨rfl, rfl, rfl, rfl⟩, rfl⟩⟩, trivial⟩
  refine ⟨trivial, fun v hv => ⟨fun h => no fun k => h (hv.2 k.1), fun h => ⟨trivial, fun w hw => ⟨fun g => no fun k => g (hw.2 k.2), fun g => ?_⟩⟩⟩⟩
  have o1 := hv.1 (Classical.not_not.1 h)
  have o2 := hw.1 (Classical.not_not.1 g)
  refine ⟨⟨⟨o1.1, by have := o1.2; omega, by have := o1.2; omega⟩, ⟨o2.1, by have := o2.2; omega, by have := o2.2; omega⟩⟩, fun x y ry z u ru hq => ⟨trivial, fun t ht => ⟨fun k => ⟨⟨fun _ => ?_, fun k' => absurd ⟨o1, o2⟩ k'⟩, trivial⟩, fun k => ⟨⟨fun _ => ?_, fun k' => absurd ⟨o1, o2⟩ k'⟩, trivial⟩⟩⟩⟩
  · exact resF_long hq (ranged16 ry) (ranged16 ru) fun hh => k (ht.2 hh)
  · have := ht.1 (Classical.not_not.1 k)
    exact resF_ok hq (ranged16 ry) (ranged16 ru) this.1 this.2

theorem sgnQ_le {x y : Rat} {r : Int} (h : sgnQ x y r) : r ≤ 0 ↔ x ≤ y := by
  rcases h with ⟨rfl, h⟩ | ⟨rfl, h⟩ | ⟨rfl, h⟩
  · exact ⟨fun _ => Rat.le_of_lt h, fun _ => by decide⟩
  · exact ⟨fun _ => by rw [h]; exact Rat.le_refl, fun _ => by decide⟩
  · exact ⟨fun k => absurd k (by decide), fun k => absurd h (Rat.not_lt.2 k)⟩
theorem okF_neg {a c : Bool} {b d : Sl} (h : okF a b c d) (rb : Dig 65536 b) : 0 ≤ fq a b d ↔ ¬ a = true := by
  rw [← Rat.num_nonneg, ← h.isQ.2.1]
  have hv0 : 0 ≤ vl b := (rb.bound (B := 65536) (by decide)).1
  have hz := val_zero_iff (B := 65536) (by decide) rb h.nw.1.1
  have hz : vl b = 0 ↔ b.len = 0 := hz
  unfold zv
  constructor
  · intro hn ha
    rw [if_pos ha] at hn
    have : b.len ≠ 0 := fun h0 => by have := h.nw.1.2 h0; rw [this] at ha; exact absurd ha (by decide)
    have : vl b ≠ 0 := fun h0 => this (hz.1 h0)
    omega
  · intro ha
    rw [if_neg ha]; exact hv0

theorem one_ok {a c : Bool} {b d : Sl} (h : IsQ ((1 : Int) : Rat) a b c d) (h1 : b.len ≤ 4) (h2 : d.len ≤ 4) : okF a b c d := ⟨h.lowF, by omega, by omega⟩
theorem intF_ok {n : Int} {a c : Bool} {b d : Sl} (h : IsQ ((n : Int) : Rat) a b c d) (h1 : b.len ≤ 4) (h2 : d.len ≤ 4) : okF a b c d := ⟨h.lowF, by omega, by omega⟩

theorem isShare_ok : V_isShare := by
  intro a b rb c d rd _
  simp only [Bool.decide_eq_true]
  have no : ¬ okShare a b c d → q_isShare a b c d (decide False) ∧ True := fun h => ⟨by simp [q_isShare, h], trivial⟩
  refine ⟨trivial, fun v hv => ⟨fun h => ⟨fun hn => ⟨trivial, fun x y ry z u ru h1 => ⟨trivial, fun r _ hr => ⟨?_, trivial⟩⟩⟩, fun hn => no fun k => ?_⟩, fun h => no fun k => h (hv.2 k.1)⟩⟩
  · have o := hv.1 h
    have s := hr.1 ⟨o, intF_ok h1.1 h1.2.1 h1.2.2⟩
    rw [h1.1.fq] at s
    show decide (r ≤ 0) = true ↔ okShare a b c d
    rw [decide_eq_true_eq, sgnQ_le s]
    exact ⟨fun k => ⟨o, (okF_neg o (ranged16 rb)).2 hn, k⟩, fun k => k.2.2⟩
  · exact hn ((okF_neg k.1 (ranged16 rb)).1 k.2.1)

theorem xShare_ok : V_xShare := by
  intro a b rb c d rd _
  simp only [Bool.decide_eq_true]
  have no : ¬ okShare a b c d → q_xShare a b c d (decide False) ∧ True := fun h => ⟨by simp [q_xShare, h], trivial⟩
  refine ⟨trivial, fun v hv => ⟨fun h => ⟨fun hn => ⟨trivial, fun x y ry z u ru h1 => ⟨trivial, fun r _ hr => ⟨?_, trivial⟩⟩⟩, fun hn => no fun k => ?_⟩, fun h => no fun k => h (hv.2 k.1)⟩⟩
  · have o := hv.1 h
    have s := hr.1 ⟨o, intF_ok h1.1 h1.2.1 h1.2.2⟩
    rw [h1.1.fq] at s
    show decide (r ≤ 0) = true ↔ okShare a b c d
    rw [decide_eq_true_eq, sgnQ_le s]
    exact ⟨fun k => ⟨o, (okF_neg o (ranged16 rb)).2 hn, k⟩, fun k => k.2.2⟩
  · exact hn ((okF_neg k.1 (ranged16 rb)).1 k.2.1)

/-- A share of an amount. -/
theorem share_bd {q : Rat} {x : Int} (h0 : 0 ≤ q) (h1 : q ≤ 1) (x0 : 0 ≤ x) (x1 : x ≤ 1099511627776) : 0 ≤ (q * (x : Rat)).floor ∧ (q * (x : Rat)).floor ≤ x := by
  have hx : (0 : Rat) ≤ (x : Rat) := Rat.intCast_le_intCast.2 x0
  constructor
  · refine Rat.le_floor_iff.2 ?_
    exact Rat.mul_nonneg h0 hx
  · have := Rat.mul_le_mul_of_nonneg_right h1 hx
    rw [Rat.one_mul] at this
    have k := Rat.floor_monotone this
    rw [Rat.floor_intCast] at k
    exact k

theorem fit_int {x : Int} (h0 : -9223372036854775808 ≤ x) (h1 : x ≤ 9223372036854775807) : fitQ (x : Rat) := by
  unfold fitQ
  rw [Rat.num_intCast, Rat.den_intCast, cap256_eq]
  have : (9223372036854775808 : Int) < 65536 ^ 256 := by decide
  exact ⟨by omega, by decide⟩

theorem limit_ok : V_limit := by
  intro st rst d rd p _ m rm a b rb c f rf hp
  simp only [Bool.decide_eq_true] at hp ⊢
  obtain ⟨hv, hs⟩ := hp
  have d0 := len0 d
  obtain ⟨s0, s1, s2, s3⟩ := hv.1
  refine ⟨fun h => ⟨⟨fun _ => ⟨rfl, rfl⟩, fun k => absurd k.1 (by omega)⟩, trivial⟩, fun h1 _ => ⟨by rw [rng64]; omega, fun h => ⟨⟨fun _ => ⟨rfl, rfl⟩, fun k => absurd k.2 (by omega)⟩, trivial⟩, fun h2 => ?_⟩⟩
  have hm : hasS st d m := ⟨by omega, by omega⟩
  obtain ⟨D, hD⟩ : ∃ D, D = d.int (m - st) 0 := ⟨_, rfl⟩
  have Db := hv.2.1 (m - st) (by omega) (by omega)
  rw [← hD] at Db ⊢
  have lim : ∀ r e, limR (fq a b f) D r e → q_limit st d p m a b c f r e := fun r e h => ⟨fun k => absurd hm k, fun _ => by rw [← hD]; exact h⟩
  refine ⟨by rw [rng64]; omega, by omega, by omega, fun _ => ⟨trivial, fun ia ib rib ic id_ rid hi => ⟨trivial, fun xa xb rxb xc xd rxd e _ hx => ?_⟩⟩⟩
  have hx := hx.1 ⟨hs.1, intF_ok hi.1 hi.2.1 hi.2.2⟩
  rw [hi.1.fq] at hx
  by_cases fit : fitQ (fq a b f * (D : Rat))
  · obtain ⟨qx, rfl⟩ := hx.1 fit
    have ox := qx.ok (ranged16 rxb) (ranged16 rxd) fit
    have fb := share_bd hs.2.1 hs.2.2 Db.1 Db.2
    refine ⟨fun k => absurd rfl k, fun _ => ⟨trivial, fun ua ub rub uc ud rud hu => ⟨⟨hu.1, by have := hu.2.1; omega, by have := hu.2.2; omega, .inl rfl⟩, fun ya yb ryb yc yd ryd e2 _ hy => ?_⟩⟩⟩
    have hy := hy.1 ox
    rw [qx.fq] at hy
    have rq : roundQ (fq a b f * (D : Rat)) 3 = (fq a b f * (D : Rat)).floor := by unfold roundQ; rw [if_pos rfl]
    rw [rq] at hy
    have fit2 := fit_int (x := (fq a b f * (D : Rat)).floor) (by omega) (by omega)
    obtain ⟨qy, rfl⟩ := hy.1 fit2
    have oy := qy.ok (ranged16 ryb) (ranged16 ryd) fit2
    refine ⟨fun k => absurd rfl k, fun _ => ⟨trivial, fun r _ e3 _ hr => ⟨?_, trivial⟩⟩⟩
    have hr := (hr.2 oy).2 (by rw [qy.fq]; exact Rat.den_intCast _)
    have hr := hr.1 (by rw [qy.fq, Rat.num_intCast]; unfold inI64; omega)
    rw [qy.fq, Rat.num_intCast] at hr
    exact lim _ _ ⟨fun _ => hr, fun k => absurd fit k⟩
  · obtain ⟨zx, rfl⟩ := hx.2 fit
    exact ⟨fun _ => ⟨lim _ _ ⟨fun k => absurd k fit, fun _ => ⟨rfl, rfl⟩⟩, trivial⟩, fun k => absurd (by decide) k⟩

theorem Limit_ok : V_Limit := by
  intro st rst d rd p _ m rm a b rb c f rf _
  simp only [Bool.decide_eq_true]
  have no : ¬ (validS st d p ∧ okShare a b c f) → q_Limit st d p m a b c f 0 2 ∧ True := fun h => ⟨⟨fun _ => ⟨rfl, rfl⟩, fun k => absurd k h⟩, trivial⟩
  refine ⟨trivial, fun v hv => ⟨fun h => no fun k => h (hv.2 k.1), fun h => ⟨trivial, fun w hw => ⟨fun g => no fun k => g (hw.2 k.2), fun g => ?_⟩⟩⟩⟩
  have k1 := hv.1 (Classical.not_not.1 h)
  have k2 := hw.1 (Classical.not_not.1 g)
  exact ⟨⟨k1, k2⟩, fun r _ e _ hr => ⟨⟨fun k => absurd ⟨k1, k2⟩ k, fun _ => hr⟩, trivial⟩⟩

theorem xLimit_ok : V_xLimit := by
  intro st rst d rd p _ m rm a b rb c f rf _
  simp only [Bool.decide_eq_true]
  have d0 := len0 d
  have no : ¬ (validS st d p ∧ okShare a b c f) → q_xLimit st d p m a b c f 0 2 ∧ True := fun h => ⟨⟨fun _ => ⟨rfl, rfl⟩, fun k => absurd k h⟩, trivial⟩
  refine ⟨trivial, fun v hv => ⟨fun h => no fun k => h (hv.2 k.1), fun h => ⟨trivial, fun w hw => ⟨fun g => no fun k => g (hw.2 k.2), fun g => ?_⟩⟩⟩⟩
  have k1 := hv.1 (Classical.not_not.1 h)
  have k2 := hw.1 (Classical.not_not.1 g)
  obtain ⟨s0, s1, s2, s3⟩ := k1.1
  have ok : ∀ r e, limM st d m (fq a b f) r e → q_xLimit st d p m a b c f r e ∧ True := fun r e h => ⟨⟨fun k => absurd ⟨k1, k2⟩ k, fun _ => h⟩, trivial⟩
  refine ⟨⟨s0, s1, s2⟩, fun t ht => ⟨fun hn => ok _ _ ⟨fun _ => ⟨rfl, rfl⟩, fun k => absurd (ht.2 k) hn⟩, fun hn => ?_⟩⟩
  have hm := ht.1 (Classical.not_not.1 hn)
  obtain ⟨m0, m1⟩ := hm
  obtain ⟨D, hD⟩ : ∃ D, D = d.int (m - st) 0 := ⟨_, rfl⟩
  have Db := k1.2.1 (m - st) (by omega) (by omega)
  rw [← hD] at Db ⊢
  have lim : ∀ r e, limR (fq a b f) D r e → q_xLimit st d p m a b c f r e ∧ True := fun r e h => ok _ _ ⟨fun k => absurd ⟨m0, m1⟩ k, fun _ => by rw [← hD]; exact h⟩
  have tail : ∀ ia ib ic id_, q_rFromInt2 D ia ib ic id_ → p_rMul2 a b c f ia ib ic id_ ∧ ∀ b15 : Bool, ∀ s16 : Sl, Ranged s16 [some .u16] → ∀ b17 : Bool, ∀ s18 : Sl, Ranged s18 [some .u16] → ∀ x19 : Int, Rng .i64 x19 → q_rMul2 a b c f ia ib ic id_ b15 s16 b17 s18 x19 →
      ((x19 ≠ 0 → q_xLimit st d p m a b c f 0 x19 ∧ True) ∧ (¬ x19 ≠ 0 → p_rFloor2 b15 s16 b17 s18 ∧ ∀ b20 : Bool, ∀ s21 : Sl, Ranged s21 [some .u16] → ∀ x22 : Int, Rng .i64 x22 → q_rFloor2 b15 s16 b17 s18 b20 s21 x22 → p_rInt1 b20 s21 ∧ ∀ x23 : Int, Rng .i64 x23 → ∀ x24 : Int, Rng .i64 x24 → q_rInt1 b20 s21 x23 x24 → q_xLimit st d p m a b c f x23 x24 ∧ True)) := by
    intro ia ib ic id_ hi
    refine ⟨trivial, fun xa xb rxb xc xd rxd e _ hx => ?_⟩
    have hx := hx.1 ⟨k2.1, intF_ok hi.1 hi.2.1 hi.2.2⟩
    rw [hi.1.fq] at hx
    by_cases fit : fitQ (fq a b f * (D : Rat))
    · obtain ⟨qx, rfl⟩ := hx.1 fit
      have ox := qx.ok (ranged16 rxb) (ranged16 rxd) fit
      have fb := share_bd k2.2.1 k2.2.2 Db.1 Db.2
      refine ⟨fun k => absurd rfl k, fun _ => ⟨trivial, fun ya yb ryb e2 _ hy => ?_⟩⟩
      have hy := hy.1 ox
      rw [qx.fq] at hy
      have yl : yb.len ≤ 4 := by
        refine len_zv (ranged16 ryb) hy.1 (k := 4) ?_
        rw [hy.2.1]
        have : (65536 : Int) ^ 4 = 18446744073709551616 := rfl
        omega
      refine ⟨⟨hy.1, by omega⟩, fun r _ e3 _ hr => ?_⟩
      have hr : (inI64 (zv ya yb) ∧ r = zv ya yb ∧ e3 = 0) ∨ (¬ inI64 (zv ya yb) ∧ r = 0 ∧ e3 = 3) := hr
      rw [hy.2.1] at hr
      rcases hr with hr | hr
      · exact lim _ _ ⟨fun _ => hr.2, fun k => absurd fit k⟩
      · exact absurd (show inI64 _ by unfold inI64; omega) hr.1
    · obtain ⟨zx, rfl⟩ := hx.2 fit
      exact ⟨fun _ => lim _ _ ⟨fun k => absurd k fit, fun _ => ⟨rfl, rfl⟩⟩, fun k => absurd (by decide) k⟩
  refine ⟨by rw [rng64]; omega, by omega, by omega, fun _ => ⟨⟨trivial, fun ia ib rib ic id_ rid hi => ⟨tail ia ib ic id_ hi, tail ia ib ic id_ hi⟩⟩, ⟨trivial, fun ia ib rib ic id_ rid hi => tail ia ib ic id_ hi⟩⟩⟩

end Go.Sx.N
