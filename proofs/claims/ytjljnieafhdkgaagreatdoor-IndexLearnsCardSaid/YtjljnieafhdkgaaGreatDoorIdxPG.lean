/-
  The condition of IndexLearns. Conditions: none.
-/
import Derived.Test.YtjljnieafhdkgaaGreatDoorNumVWLearns
import Derived.Test.YtjljnieafhdkgaaGreatDoorIdxM
import Derived.Test.YtjljnieafhdkgaaGreatDoorIdxTd
set_option linter.unusedVariables false
set_option linter.unusedSimpArgs false
namespace Go.Sx.N

theorem zero_same {a c a' c' : Bool} {b d b' d' : Sl} {r : Bool} (h : q_kSameFrac a b c d a' b' c' d' r) (h1 : zeroF a b c d) (h2 : zeroF a' b' c' d') : r = true :=
  h.2 ⟨⟨by rw [h1.1, h2.1], by rw [h1.2.1, h2.2.1], fun i i0 i1 => by have := h1.2.1; omega⟩, by rw [h1.2.2.1, h2.2.2.1], by rw [h1.2.2.2, h2.2.2.2], fun i i0 i1 => by have := h1.2.2.2; omega⟩

theorem fq_same {s t : Sl} {i k : Int} (h : rowEq t i s k) (o : okF (s.bool k 3) (s.sub k 4) (s.bool k 5) (s.sub k 6)) : fq (t.bool i 3) (t.sub i 4) (t.sub i 6) = fq (s.bool k 3) (s.sub k 4) (s.sub k 6) :=
  (o.isQ.of_same h.2.2.2.1.1 h.2.2.2.1.2 h.2.2.2.2.1 h.2.2.2.2.2).fq

/-- With a row that is not seen, a rate is what it was. -/
theorem rate_ins {u r t : Sl} {known z : Int} (h : ins u r t) (hk : known < r.int 0 2 ∨ z < r.int 0 0) (hu : builtI u) (ht : builtI t) : rateO t known z = rateO u known z := by
  obtain ⟨m1, m2⟩ := ins_cand h hk
  have bu : ∀ i : Int, 0 ≤ i → i < u.len → u.int i 1 = 0 := fun i i0 i1 => (hu.2.2 i i0 i1).2.1
  have bt : ∀ i : Int, 0 ≤ i → i < t.len → t.int i 1 = 0 := fun i i0 i1 => (ht.2.2 i i0 i1).2.1
  by_cases x : ∃ k, candX u z known k
  · obtain ⟨k, hk'⟩ := x
    obtain ⟨i, hi, e⟩ := m1 k hk'
    rw [rate_some bu hk', rate_some bt hi, fq_same e (built_rows hu k hk'.1.1.1.1 hk'.1.1.1.2)]
  · rw [rate_none fun k hk' => x ⟨k, hk'⟩, rate_none fun k hk' => x (m2 k hk')]

theorem gr_same {s t : Sl} {known a : Int} : ∀ {n : Nat}, (∀ i : Nat, i < n → rateO t known (a + i) = rateO s known (a + i)) → grS t known a n = grS s known a n
  | 0, _ => rfl
  | n + 1, h => by
    unfold grS
    rw [gr_same fun i hi => h i (by omega), h n (by omega)]

theorem force_of_hit {s : Sl} {a b known : Int} : ∀ (n : Nat) (k : Int), (s.len - k).toNat ≤ n → 0 ≤ k → k < s.len → hitT s a b known k → ∃ j, inForce s known j ∧ s.int j 0 = a ∧ s.int j 1 = b := by
  intro n
  induction n with
  | zero => intro k hn k0 k1; omega
  | succ n ih =>
    intro k hn k0 k1 hk
    by_cases x : ∃ l, k < l ∧ l < s.len ∧ hitT s a b known l
    · obtain ⟨l, l0, l1, hl⟩ := x
      exact ih l (by omega) (by omega) l1 hl
    · refine ⟨k, ⟨⟨k0, k1⟩, hk.2.2, fun j j0 j1 e0 e1 => ?_⟩, hk.1, hk.2.1⟩
      rcases Int.lt_or_le known (s.int j 2) with c | c
      · exact c
      · exact absurd ⟨j, j0, j1, by rw [e0]; exact hk.1, by rw [e1]; exact hk.2.1, c⟩ x

theorem fY_of {y : Int} (h : 1900 ≤ y) (h' : y ≤ 2078) : fY (dayS y) = y ∧ fY (dayS y + 1) = y + 1 := by
  have e1 : y = 1900 ∨ dayS (y - 1) < dayS y := by
    by_cases c : y = 1900
    · exact .inl c
    · exact .inr (by have := dayS_lt (show 1900 ≤ y - 1 by omega) (show y - 1 < y by omega); omega)
  have e2 := dayS_lt h (show y < y + 1 by omega)
  refine ⟨fY_eq h (by omega) e1 (by omega), fY_eq (by omega) (by omega) (.inr ?_) (by omega)⟩
  rw [show y + 1 - 1 = y by omega]
  omega

theorem learnt_row {y k n : Int} {a b c : Int} {nn dn : Bool} {nl dl : Sl} (hr : q_iRow y k n 1000 a b c nn nl dn dl) (hy : 1900 ≤ y ∧ y ≤ 1999) (hk : 0 ≤ k ∧ k ≤ 65535) (hn : 0 ≤ n ∧ n ≤ 76) :
    rightS false a b c nn nl dn dl ∧ a = y ∧ b = 0 ∧ c = k ∧ rateB (fq nn nl dl) := by
  obtain ⟨e0, e1, e2, e3⟩ := hr
  rw [fracQ_pos (by decide)] at e3
  refine ⟨⟨by omega, by omega, .inr e1, by omega, litF_okF e3⟩, e0, e1, e2, n, by omega, e3.1.fq⟩

theorem ins_built {u : Sl} {a b k : Int} {nn dn : Bool} {nl dl t : Sl} (hu : builtI u) (hl : u.len ≤ 100) (h : ins u (rowL a b k nn nl dn dl) t) (hr : rightS false a b k nn nl dn dl) (ha : 1900 ≤ a ∧ a ≤ 1999) (hb : b = 0) (hq : rateB (fq nn nl dl)) : builtI t := by
  refine ⟨by have := ins_len h; omega, ins_sorted hu.2.1 h, ?_⟩
  refine ins_rows (Q := fun s i => (1900 ≤ s.int i 0 ∧ s.int i 0 ≤ 2200) ∧ s.int i 1 = 0 ∧ (0 ≤ s.int i 2 ∧ s.int i 2 < 65536) ∧ okF (s.bool i 3) (s.sub i 4) (s.bool i 5) (s.sub i 6) ∧ rateB (fq (s.bool i 3) (s.sub i 4) (s.sub i 6))) h ?_ ?_ hu.2.2
  · intro s t i k e g
    rw [e.1, e.2.1, e.2.2.1, fq_same e g.2.2.2.1]
    exact ⟨g.1, g.2.1, g.2.2.1, okF.of_same g.2.2.2.1 e.2.2.2, g.2.2.2.2⟩
  · have e0 : (rowL a b k nn nl dn dl).int 0 0 = a := rfl
    refine ⟨by rw [e0]; omega, hb, hr.2.2.2.1, hr.2.2.2.2, hq⟩

theorem day_mono {y z : Int} (h : 1900 ≤ y) (hz : y ≤ z) : dayS y ≤ dayS z := by
  by_cases c : y = z
  · subst c; exact Int.le_refl _
  · have := dayS_lt h (show y < z by omega)
    omega

set_option maxHeartbeats 1000000 in
theorem WLearns_ok : V_WLearns := by
  intro m _ x1 r1 x2 r2 x3 _ x4 _ known rk _
  simp only [Bool.decide_eq_true]
  have rs : ∀ x : Int, -1000000 ≤ x → x ≤ 1000000 → Rng .i64 x := fun x a b => by rw [rng64]; omega
  have r1 : 0 ≤ x1 ∧ x1 ≤ 65535 := r1
  have r2 : 0 ≤ x2 ∧ x2 ≤ 65535 := r2
  have t1 := Int.tmod_eq_emod_of_nonneg (b := 100) r1.1
  have t2 := Int.tmod_eq_emod_of_nonneg (b := 77) r1.1
  refine ⟨trivial, fun b4 h4 => ⟨fun h => absurd h4 h, fun _ => ⟨trivial, fun name two s _ ⟨hn, h2, hB, hL⟩ => ⟨trivial, fun a _ b _ hab => ?_⟩⟩⟩⟩
  subst h2
  have core : ∀ (A B K : Int) (nn : Bool) (nl : Sl) (dn : Bool) (dl : Sl), Ranged nl [some .u16] → Ranged dl [some .u16] → q_iRow (1900 + Int.tmod x1 100) x2 (Int.tmod x1 77) 1000 A B K nn nl dn dl → V_WLearns_2 m x1 x2 x3 x4 known name false s a b A B K nn nl dn dl := by
    intro A B K nn nl dn dl rn rd hq
    unfold V_WLearns_2
    simp only [Bool.decide_eq_true]
    rw [t1, t2] at hq
    rw [t1]
    have hyb : 1900 ≤ 1900 + x1 % 100 ∧ 1900 + x1 % 100 ≤ 1999 := by omega
    generalize 1900 + x1 % 100 = y at hq hyb ⊢
    obtain ⟨hr, eA, eB, eK, hrate⟩ := learnt_row hq hyb r2 (by omega)
    have v1 := built_valid hn rfl hB
    refine ⟨built_name hn, fun n3 two3 t rt e re hLn => ⟨⟨rfl, rfl⟩, fun x104 r104 x105 r105 hD => ?_⟩⟩
    obtain ⟨hn3, h23, hI, rfl⟩ := (hLn.2 ⟨v1.1, hr⟩).2 (by omega)
    subst h23
    have hn3 : n3 = builtN := hn3.trans hn
    obtain ⟨rfl, rfl⟩ := hD.2 (by omega)
    have hB' : builtI t := ins_built hB hL hI hr (by omega) eB hrate
    have v2 := built_valid hn3 rfl hB'
    have bt : ∀ i : Int, 0 ≤ i → i < t.len → t.int i 1 = 0 := fun i i0 i1 => (hB'.2.2 i i0 i1).2.1
    have dy := dayS_bd hyb.1 (show y ≤ 2080 by omega)
    have e0 : (rowL A B K nn nl dn dl).int 0 0 = y := eA
    have e2 : (rowL A B K nn nl dn dl).int 0 2 = x2 := eK
    have e1' : (rowL A B K nn nl dn dl).int 0 1 = 0 := eB
    refine ⟨built_name hn, fun n1 l1 rl1 k1 m1 rm1 e1 _ g1 => ⟨built_name hn3, fun n2 l2 rl2 k2 m2 rm2 e2' _ g2 => ⟨rs _ (by decide) (by decide), fun h => absurd rfl h, fun _ => ?_⟩⟩⟩
    have sp := asked_span hab
    have z : known < x2 ∨ b ≤ dayS y → V_WLearns_0 m x1 x2 x3 x4 known n1 l1 k1 m1 e1 n2 l2 k2 m2 e2' := fun hk => by
      have eg : grS t known (fY a) (len180 a b) = grS s known (fY a) (len180 a b) := gr_same fun i hi => rate_ins hI (by
        rw [e0, e2]
        rcases hk with h | h
        · exact .inl h
        · refine .inr ?_
          have fa := fY_bd a
          have fb := fY_bd b
          have hi' : fY a + (i : Int) < fY b := by unfold len180 at hi; omega
          have hd := (fY_spec b (y := fY a + (i : Int)) (by omega) (by omega)).2 hi'
          rcases Int.lt_or_le (fY a + (i : Int)) y with c | c
          · exact c
          · have := day_mono hyb.1 c
            omega) hB hB'
      unfold V_WLearns_0
      simp only [Bool.decide_eq_true]
      have ee : e1 = e2' ∧ ∀ r, q_kSameFrac n1 l1 k1 m1 n2 l2 k2 m2 r → r = true := by
        rcases grow_res hn rfl hB sp.1 g1 rl1 rm1 with ⟨w1, w2, w3⟩ | ⟨q, w1, _, _, _, w2, _, w3⟩
        · rcases grow_res hn3 rfl hB' sp.1 g2 rl2 rm2 with ⟨u1, u2, u3⟩ | ⟨q', u1, _⟩
          · exact ⟨by rw [w3, u3], fun r hr => zero_same hr w2 u2⟩
          · rw [eg, w1] at u1; cases u1
        · rcases grow_res hn3 rfl hB' sp.1 g2 rl2 rm2 with ⟨u1, u2, u3⟩ | ⟨q', u1, _, _, _, u2, _, u3⟩
          · rw [eg, w1] at u1; cases u1
          · rw [eg, w1] at u1
            cases u1
            exact ⟨by rw [w3, u3], fun r hr => same_frac hr w2 u2 rl1 rm1 rl2 rm2⟩
      exact ⟨fun _ => ⟨trivial, fun c hc => ⟨ee.2 c hc, trivial⟩⟩, fun h => absurd ee.1 h⟩
    refine ⟨fun h => z (.inl h), fun hk => ⟨fun h => z (.inr h), fun hb => ?_⟩⟩
    -- the year's own rate
    obtain ⟨k, hc, hky⟩ : ∃ k, candX t y known k ∧ t.int k 0 = y := by
      obtain ⟨p, f, hp, hl, ep, hf, _⟩ := ins_map hI
      obtain ⟨j, hj, j0, _⟩ := force_of_hit (a := y) (b := 0) (known := known) _ p (Nat.le_refl _) hp.1 hp.2 ⟨by rw [ep.1, e0], by rw [ep.2.1, e1'], by rw [ep.2.2.1, e2]; omega⟩
      exact ⟨j, ⟨⟨hj, by omega⟩, fun l _ la => by omega⟩, j0⟩
    have hrt := rate_some bt hc
    refine ⟨built_name hn3, fun n5 l5 rl5 k5 m5 rm5 e5 _ hLk => ⟨rs _ (by omega) (by omega), built_name hn3, fun n6 l6 rl6 k6 m6 rm6 e6 _ g6 => ?_⟩⟩
    rcases look_rate hLk v2 (built_rows hB') rl5 rm5 with ⟨w1, _⟩ | ⟨q, w1, w2, w3, w4, rfl⟩
    · rw [hrt] at w1; cases w1
    obtain ⟨f1, f2⟩ := fY_of hyb.1 (by omega)
    have hone := gr_next hB' (n := 0) (by decide) (rfl : grS t known y 0 = .ok 1) (r := q) (by rw [show y + ((0 : Nat) : Int) = y by omega]; exact w1)
    have hs1 : spanS (dayS y) (dayS y + 1) := ⟨⟨by omega, by omega⟩, by omega, by omega⟩
    have hlen : len180 (dayS y) (dayS y + 1) = 1 := by unfold len180; rw [f1, f2]; omega
    rcases grow_res hn3 rfl hB' hs1 g6 rl6 rm6 with ⟨u1, _⟩ | ⟨q', u1, _, _, _, u2, _, rfl⟩
    · rw [hlen, f1, hone.1] at u1; cases u1
    rw [hlen, f1, hone.1] at u1
    cases u1
    rw [Rat.one_mul] at u2
    have last : ∀ (on : Bool) (ol : Sl), Ranged ol [some .u16] → ∀ (od : Bool) (om : Sl), Ranged om [some .u16] → q_iOne on ol od om → V_WLearns_1 m x1 x2 x3 x4 known n5 l5 k5 m5 0 n6 l6 k6 m6 0 on ol od om := fun on ol rol od om rom ho => by
      unfold V_WLearns_1
      simp only [Bool.decide_eq_true]
      refine ⟨trivial, fun n7 l7 rl7 k7 m7 rm7 e7 _ ha => ?_⟩
      obtain ⟨i7, rfl⟩ := (add_res ha ho.1 ⟨⟨1, ho.1⟩, by have := ho.2.1; omega, by have := ho.2.2; omega⟩ w2 w4).1 hone.2.1
      exact ⟨rs _ (by decide) (by decide), rs _ (by decide) (by decide), fun _ => ⟨trivial, fun c hc => ⟨same_frac hc u2 i7 rl6 rm6 rl7 rm7, trivial⟩⟩, fun h => absurd rfl h⟩
    exact ⟨⟨trivial, fun on ol rol od om rom ho => ⟨last on ol rol od om rom ho, last on ol rol od om rom ho⟩⟩, trivial, fun on ol rol od om rom ho => last on ol rol od om rom ho⟩
  rw [t1, t2] at core ⊢
  exact ⟨by decide, rs _ (by omega) (by omega), rs _ (by omega) (by omega), by decide, rs _ (by omega) (by omega), ⟨trivial, fun A _ B _ K _ nn nl rn dn dl rd hq => ⟨core A B K nn nl dn dl rn rd hq, core A B K nn nl dn dl rn rd hq⟩⟩, trivial, fun A _ B _ K _ nn nl rn dn dl rd hq => core A B K nn nl dn dl rn rd hq⟩

end Go.Sx.N
