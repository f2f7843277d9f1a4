/-
  Growth over a span, values raised and lowered: the conditions of these functions. Conditions: none.
-/
import Derived.Test.YtjljnieafhdkgaaGreatDoorIdxFa
import Derived.Test.YtjljnieafhdkgaaGreatDoorIdxTc
import Derived.Test.YtjljnieafhdkgaaGreatDoorNumFc
set_option linter.unusedVariables false
set_option linter.unusedSimpArgs false
namespace Go.Sx.N

theorem look_at {ok : Prop} {C : Int → Prop} {s : Sl} {a c : Bool} {b d : Sl} {e k : Int} (h : lookR ok C s a b c d e) (hok : ok) (hk : C k) : rowF s k a b c d ∧ e = 0 := (h.2 hok).2 k hk
theorem look_no {ok : Prop} {C : Int → Prop} {s : Sl} {a c : Bool} {b d : Sl} {e : Int} (h : lookR ok C s a b c d e) (hok : ok) (hk : ∀ k, ¬ C k) : zeroF a b c d ∧ e = 6 := (h.2 hok).1 hk
theorem force_uniq {s : Sl} {known i j : Int} (h : inForce s known i) (g : inForce s known j) (e0 : s.int i 0 = s.int j 0) (e1 : s.int i 1 = s.int j 1) : i = j := by
  rcases Int.lt_trichotomy i j with c | c | c
  · have := h.2.2 j c g.1.2 e0.symm e1.symm
    have := g.2.1
    omega
  · exact c
  · have := g.2.2 i c h.1.2 e0 e1
    have := h.2.1
    omega

theorem one_fit : fitQ 1 := by
  have c : cap256 = ((65536 ^ 256 : Nat) : Int) := by rw [cap256_eq]; exact (Int.natCast_pow 65536 256).symm
  have one : ((1 : Nat) : Int) < cap256 := by rw [c]; exact Int.ofNat_lt.2 (by decide)
  exact ⟨one, one⟩

/-- What a look gives, told by the rate. -/
theorem look_rate {ok : Prop} {s : Sl} {y known : Int} {a c : Bool} {b d : Sl} {e : Int} (h : lookR ok (candX s y known) s a b c d e) (hok : ok) (hr : ∀ i : Int, 0 ≤ i → i < s.len → okF (s.bool i 3) (s.sub i 4) (s.bool i 5) (s.sub i 6))
    (rb : Ranged b [some .u16]) (rd : Ranged d [some .u16]) : (rateO s known y = none ∧ zeroF a b c d ∧ e = 6) ∨ (∃ r, rateO s known y = some r ∧ IsQ r a b c d ∧ fitQ r ∧ okF a b c d ∧ e = 0) := by
  by_cases hk : ∃ k, candX s y known k
  · right
    have hc := Classical.choose_spec hk
    obtain ⟨hrow, he⟩ := look_at h hok hc
    have hok2 := hr _ hc.1.1.1.1 hc.1.1.1.2
    refine ⟨fq (s.bool (Classical.choose hk) 3) (s.sub (Classical.choose hk) 4) (s.sub (Classical.choose hk) 6), by unfold rateO; rw [dif_pos hk], ?_, ?_, ?_, he⟩
    · exact hok2.isQ.of_same hrow.1.1.symm ⟨hrow.1.2.1.symm, fun i i0 i1 => (hrow.1.2.2 i i0 (by rw [hrow.1.2.1]; exact i1)).symm⟩ hrow.2.1.symm ⟨hrow.2.2.1.symm, fun i i0 i1 => (hrow.2.2.2 i i0 (by rw [hrow.2.2.1]; exact i1)).symm⟩
    · have hv : IsQ (fq (s.bool (Classical.choose hk) 3) (s.sub (Classical.choose hk) 4) (s.sub (Classical.choose hk) 6)) a b c d := hok2.isQ.of_same hrow.1.1.symm ⟨hrow.1.2.1.symm, fun i i0 i1 => (hrow.1.2.2 i i0 (by rw [hrow.1.2.1]; exact i1)).symm⟩ hrow.2.1.symm ⟨hrow.2.2.1.symm, fun i i0 i1 => (hrow.2.2.2 i i0 (by rw [hrow.2.2.1]; exact i1)).symm⟩
      exact (hv.fit (ranged16 rb) (ranged16 rd)).1 ⟨by rw [← hrow.1.2.1]; exact hok2.2.1, by rw [← hrow.2.2.1]; exact hok2.2.2⟩
    · have hv : IsQ (fq (s.bool (Classical.choose hk) 3) (s.sub (Classical.choose hk) 4) (s.sub (Classical.choose hk) 6)) a b c d := hok2.isQ.of_same hrow.1.1.symm ⟨hrow.1.2.1.symm, fun i i0 i1 => (hrow.1.2.2 i i0 (by rw [hrow.1.2.1]; exact i1)).symm⟩ hrow.2.1.symm ⟨hrow.2.2.1.symm, fun i i0 i1 => (hrow.2.2.2 i i0 (by rw [hrow.2.2.1]; exact i1)).symm⟩
      exact ⟨hv.lowF, by rw [← hrow.1.2.1]; exact hok2.2.1, by rw [← hrow.2.2.1]; exact hok2.2.2⟩
  · left
    obtain ⟨h1, h2⟩ := look_no h hok (fun k hk2 => hk ⟨k, hk2⟩)
    exact ⟨by unfold rateO; rw [dif_neg hk], h1, h2⟩

theorem add_res {p q : Rat} {a c a' c' nn dn : Bool} {b d b' d' nl dl : Sl} {e : Int} (h : q_fAdd a b c d a' b' c' d' nn nl dn dl e) (hp : IsQ p a b c d) (ho : okF a b c d) (hq : IsQ q a' b' c' d') (ho' : okF a' b' c' d') : resF (p + q) nn nl dn dl e := by
  have := h.1 ⟨ho, ho'⟩
  rw [hp.fq, hq.fq] at this
  exact this
theorem mul_res {p q : Rat} {a c a' c' nn dn : Bool} {b d b' d' nl dl : Sl} {e : Int} (h : q_fMul a b c d a' b' c' d' nn nl dn dl e) (hp : IsQ p a b c d) (ho : okF a b c d) (hq : IsQ q a' b' c' d') (ho' : okF a' b' c' d') : resF (p * q) nn nl dn dl e := by
  have := h.1 ⟨ho, ho'⟩
  rw [hp.fq, hq.fq] at this
  exact this

/-! Growth -/
theorem grS_ok {s : Sl} {known a : Int} : ∀ {n : Nat} {q : Rat}, grS s known a n = .ok q → fitQ q
  | 0, q, h => by simp only [grS, GR.ok.injEq] at h; subst h; exact one_fit
  | n + 1, q, h => by
    unfold grS at h
    split at h
    · cases h
    · split at h
      · cases h
      · split at h
        · split at h
          · rename_i hf; cases h; exact hf
          · cases h
        · cases h
theorem grS_err {s : Sl} {known a e : Int} {n : Nat} (h : grS s known a n = .err e) : ∀ {m : Nat}, n ≤ m → grS s known a m = .err e
  | 0, hm => by have : n = 0 := by omega
                subst this; exact h
  | m + 1, hm => by
    by_cases e1 : n = m + 1
    · subst e1; exact h
    · have := grS_err h (m := m) (by omega)
      unfold grS
      rw [this]
theorem grS_ne {s : Sl} {known a : Int} : ∀ {n : Nat} {e : Int}, grS s known a n = .err e → e = 6 ∨ e = 3
  | 0, e, h => by simp [grS] at h
  | n + 1, e, h => by
    unfold grS at h
    split at h
    · rename_i e' he; cases h; exact grS_ne he
    · split at h
      · cases h; exact .inl rfl
      · split at h
        · split at h
          · cases h
          · cases h; exact .inr rfl
        · cases h; exact .inr rfl
theorem grS_none {s : Sl} {known a : Int} {n : Nat} {q : Rat} (h : grS s known a n = .ok q) (hr : rateO s known (a + n) = none) : grS s known a (n + 1) = .err 6 := by
  unfold grS; rw [h]; simp only [hr]
theorem grS_long1 {s : Sl} {known a : Int} {n : Nat} {q r : Rat} (h : grS s known a n = .ok q) (hr : rateO s known (a + n) = some r) (hf : ¬ fitQ (1 + r)) : grS s known a (n + 1) = .err 3 := by
  unfold grS; rw [h]; simp only [hr, if_neg hf]
theorem grS_long2 {s : Sl} {known a : Int} {n : Nat} {q r : Rat} (h : grS s known a n = .ok q) (hr : rateO s known (a + n) = some r) (hf : fitQ (1 + r)) (hg : ¬ fitQ (q * (1 + r))) : grS s known a (n + 1) = .err 3 := by
  unfold grS; rw [h]; simp only [hr, if_pos hf, if_neg hg]
theorem grS_step {s : Sl} {known a : Int} {n : Nat} {q r : Rat} (h : grS s known a n = .ok q) (hr : rateO s known (a + n) = some r) (hf : fitQ (1 + r)) (hg : fitQ (q * (1 + r))) : grS s known a (n + 1) = .ok (q * (1 + r)) := by
  unfold grS; rw [h]; simp only [hr, if_pos hf, if_pos hg]

/-- How many years have been grown. -/
def grN (a b y : Int) : Nat := (imax 0 (imin y (fY b) - fY a)).toNat
theorem grN_0 (a b : Int) : grN a b 1900 = 0 := by
  have := fY_bd a
  unfold grN imax imin; (repeat' split) <;> omega
theorem grN_end {a b y : Int} (h : fY b ≤ y) : grN a b y = (fY b - fY a).toNat := by
  unfold grN imax imin; (repeat' split) <;> omega
theorem grN_in {a b y : Int} (h1 : fY a ≤ y) (h2 : y < fY b) : grN a b y = (y - fY a).toNat ∧ grN a b (y + 1) = (y - fY a).toNat + 1 ∧ (y - fY a).toNat < (fY b - fY a).toNat ∧ fY a + ((y - fY a).toNat : Nat) = y := by
  unfold grN imax imin; (repeat' split) <;> omega
theorem grN_before {a b y : Int} (h1 : y < fY a) : grN a b (y + 1) = grN a b y := by
  unfold grN imax imin; (repeat' split) <;> omega

theorem xGrow_ok : V_xGrow := by
  intro name two s rs a _ b _ known _ hp
  simp only [Bool.decide_eq_true]
  have bad : ¬ okT name two s a b → q_xGrow name two s a b known (decide False) Sl.nil (decide False) Sl.nil 2 ∧ True := fun h => ⟨⟨fun _ => ⟨⟨rfl, rfl, rfl, rfl⟩, rfl⟩, fun k => absurd k h⟩, trivial⟩
  refine ⟨hp, fun v hv => ⟨fun h => bad (fun k => h (hv.2 k.1.1)), fun h => ⟨fun h2 => bad (fun k => by have := k.1.2; rw [h2] at this; cases this), fun h2 => ⟨trivial, fun w hw => ⟨fun h3 => bad (fun k => h3 (hw.2 k.2)), fun h3 => ?_⟩⟩⟩⟩⟩
  have ht : okT name two s a b := ⟨⟨hv.1 (Classical.not_not.1 h), by simpa using h2⟩, hw.1 (Classical.not_not.1 h3)⟩
  have hrow : ∀ i : Int, 0 ≤ i → i < s.len → okF (s.bool i 3) (s.sub i 4) (s.bool i 5) (s.sub i 6) := fun i i0 i1 => (ht.1.1.2.2.2 i i0 i1).2.2.2.2
  have fin : ∀ {x : GR} {nn dn : Bool} {nl dl : Sl} {e : Int}, growS s a b known = x → resG x nn nl dn dl e → q_xGrow name two s a b known nn nl dn dl e ∧ True := fun hx hr => ⟨⟨fun k => absurd ht k, fun _ => by rw [hx]; exact hr⟩, trivial⟩
  refine ⟨trivial, fun on ol rol od ok rok h1 => ⟨trivial, fun gn gl rgl gd gk rgk hg1 => ?_⟩⟩
  have ho1 : IsQ 1 on ol od ok := h1.1
  have oo1 : okF on ol od ok := ho1.ok (ranged16 rol) (ranged16 rok) one_fit
  refine ⟨fun y _ _ _ _ _ gn gl gd gk => (1900 ≤ y ∧ y ≤ 2080) ∧ ∃ q, grS s known (fY a) (grN a b y) = .ok q ∧ IsQ q gn gl gd gk, fun y _ _ _ _ _ _ _ _ _ => (2080 - y).toNat, ⟨⟨by omega, by omega⟩, 1, by rw [grN_0]; rfl, hg1.1⟩, fun y _ r1 r2 rr2 r3 r4 rr4 e0 _ gn gl rgl gd gk rgk hJ => ?_⟩
  obtain ⟨⟨y0, y1⟩, q, hq, hg⟩ := hJ
  have og : okF gn gl gd gk := hg.ok (ranged16 rgl) (ranged16 rgk) (grS_ok hq)
  refine ⟨⟨rfl, rfl⟩, fun d _ e _ hd => ⟨fun he => ?_, fun he => ?_⟩⟩
  · have hy : fY b ≤ y := by
      have := fY_bd b
      rcases Int.lt_or_le y 2080 with k | k
      · exact absurd (hd.2 ⟨y0, by omega⟩).2 he
      · omega
    rw [grN_end hy] at hq
    exact fin hq ⟨hg, rfl⟩
  have y2 : y ≤ 2079 := by
    rcases Int.lt_or_le y 2080 with k | k
    · omega
    · have := (hd.1 (by omega)).2; omega
  have hdd : d = dayS y := (hd.2 ⟨y0, y2⟩).1
  refine ⟨fun h4 => ?_, fun h4 => ⟨fun h5 => ?_, fun h5 => ?_⟩⟩
  · have hy : fY b ≤ y := by have := fY_spec b y0 y2; omega
    rw [grN_end hy] at hq
    exact fin hq ⟨hg, rfl⟩
  · have ya : fY a ≤ y := by have := fY_spec a y0 y2; omega
    have yb : y < fY b := (fY_spec b y0 y2).1 (by omega)
    obtain ⟨n1, n2, n3, n4⟩ := grN_in ya yb
    rw [n1] at hq
    have mid : ∀ {x : Int}, grS s known (fY a) ((y - fY a).toNat + 1) = .err x → growS s a b known = .err x := fun hx => grS_err hx (by omega)
    have hz : zeroF (decide False) Sl.nil (decide False) Sl.nil := ⟨rfl, rfl, rfl, rfl⟩
    refine ⟨fun i _ _ _ _ vn vl vd vk => (0 ≤ i ∧ i ≤ 3) ∧ (i = 1 → ∃ r, rateO s known y = some r ∧ IsQ r vn vl vd vk ∧ okF vn vl vd vk) ∧ (i = 2 → ∃ r, rateO s known y = some r ∧ fitQ (1 + r) ∧ IsQ (1 + r) vn vl vd vk ∧ okF vn vl vd vk) ∧
      (i = 3 → ∃ r, rateO s known y = some r ∧ fitQ (1 + r) ∧ fitQ (q * (1 + r)) ∧ IsQ (q * (1 + r)) vn vl vd vk), fun i _ _ _ _ _ _ _ _ => (3 - i).toNat, ⟨⟨by omega, by omega⟩, fun k => by omega, fun k => by omega, fun k => by omega⟩, fun i _ t1 t2 rt2 t3 t4 rt4 vn vl rvl vd vk rvk hJ => ?_⟩
    obtain ⟨⟨i0, i1⟩, j1, j2, j3⟩ := hJ
    refine ⟨fun hi => ⟨i0, hi, ⟨fun k0 => ⟨hp, fun ln ll rll ld lk rlk e1 _ hl => ?_⟩, fun k0 => ⟨fun k1 => ⟨trivial, fun ln ll rll ld lk rlk e1 _ hl => ?_⟩, fun k1 => ⟨trivial, fun ln ll rll ld lk rlk e1 _ hl => ?_⟩⟩⟩⟩, fun hi => ⟨fun h => absurd rfl h, fun _ => ?_⟩⟩
    · rcases look_rate hl ht.1 hrow rll rlk with ⟨r1, _, r3⟩ | ⟨r, r1, r2, r3, r4, r5⟩
      · refine ⟨fun he1 => ⟨fun _ => fin (mid (grS_none hq (by rw [n4]; exact r1))) ⟨hz, r3⟩, fun h => absurd he1 h⟩, fun h => by omega⟩
      · refine ⟨fun h => absurd r5 h, fun _ => ⟨by rw [rng64]; omega, ⟨⟨by omega, by omega⟩, fun _ => ⟨r, r1, r2, r4⟩, fun k => by omega, fun k => by omega⟩, by show (3 - (i + 1)).toNat < (3 - i).toNat; omega⟩⟩
    · obtain ⟨r, r1, r2, r3⟩ := j1 k1
      have hres := add_res hl ho1 oo1 r2 r3
      by_cases hf : fitQ (1 + r)
      · obtain ⟨g1, g2⟩ := hres.1 hf
        exact ⟨fun h => absurd g2 h, fun _ => ⟨by rw [rng64]; omega, ⟨⟨by omega, by omega⟩, fun k => by omega, fun _ => ⟨r, r1, hf, g1, g1.ok (ranged16 rll) (ranged16 rlk) hf⟩, fun k => by omega⟩, by show (3 - (i + 1)).toNat < (3 - i).toNat; omega⟩⟩
      · obtain ⟨g1, g2⟩ := hres.2 hf
        exact ⟨fun he1 => ⟨fun _ => fin (mid (grS_long1 hq (by rw [n4]; exact r1) hf)) ⟨hz, g2⟩, fun h => absurd he1 h⟩, fun h => by omega⟩
    · have hi2 : i = 2 := by omega
      obtain ⟨r, r1, r2, r3, r4⟩ := j2 hi2
      have hres := mul_res hl hg og r3 r4
      by_cases hf : fitQ (q * (1 + r))
      · obtain ⟨g1, g2⟩ := hres.1 hf
        exact ⟨fun h => absurd g2 h, fun _ => ⟨by rw [rng64]; omega, ⟨⟨by omega, by omega⟩, fun k => by omega, fun k => by omega, fun _ => ⟨r, r1, r2, hf, g1⟩⟩, by show (3 - (i + 1)).toNat < (3 - i).toNat; omega⟩⟩
      · obtain ⟨g1, g2⟩ := hres.2 hf
        exact ⟨fun he1 => ⟨fun _ => fin (mid (grS_long2 hq (by rw [n4]; exact r1) r2 hf)) ⟨hz, g2⟩, fun h => absurd he1 h⟩, fun h => by omega⟩
    · have hi3 : i = 3 := by omega
      obtain ⟨r, r1, r2, r3, r4⟩ := j3 hi3
      refine ⟨by rw [rng64]; omega, ⟨⟨by omega, by omega⟩, q * (1 + r), by rw [n2]; exact grS_step hq (by rw [n4]; exact r1) r2 r3, r4⟩, by show (2080 - (y + 1)).toNat < (2080 - y).toNat; omega⟩
  · have ya : y < fY a := (fY_spec a y0 y2).1 (by omega)
    exact ⟨by rw [rng64]; omega, ⟨⟨by omega, by omega⟩, q, by rw [grN_before ya]; exact hq, hg⟩, by show (2080 - (y + 1)).toNat < (2080 - y).toNat; omega⟩

theorem grow_fit {s : Sl} {a b known : Int} {q : Rat} (h : growS s a b known = .ok q) : fitQ q := grS_ok h

theorem xRaise_ok : V_xRaise := by
  intro vn vl rvl vd vk rvk name two s rs a _ b _ known _ hp
  simp only [Bool.decide_eq_true]
  have hz : zeroF (decide False) Sl.nil (decide False) Sl.nil := ⟨rfl, rfl, rfl, rfl⟩
  refine ⟨trivial, fun v hv => ⟨fun h => ⟨⟨fun _ => ⟨hz, rfl⟩, fun k => absurd (hv.2 k.1) h⟩, trivial⟩, fun h => ⟨hp, fun gn gl rgl gd gk rgk e _ hg => ?_⟩⟩⟩
  have ov : okF vn vl vd vk := hv.1 (Classical.not_not.1 h)
  by_cases ht : okT name two s a b
  · have g := hg.2 ht
    cases hgr : growS s a b known with
    | err x =>
      rw [hgr] at g
      have hx := grS_ne (n := (fY b - fY a).toNat) hgr
      have ge := g.2
      exact ⟨fun he => ⟨⟨fun k => absurd ⟨ov, ht⟩ k, fun _ => by rw [hgr]; exact ⟨hz, ge⟩⟩, trivial⟩, fun he => absurd (Classical.not_not.1 he) (by omega)⟩
    | ok q =>
      rw [hgr] at g
      refine ⟨fun he => absurd g.2 he, fun _ => ⟨trivial, fun cn cl _ cd ck _ f _ hm => ⟨⟨fun k => absurd ⟨ov, ht⟩ k, fun _ => ?_⟩, trivial⟩⟩⟩
      rw [hgr]
      exact mul_res hm ov.isQ ov g.1 (g.1.ok (ranged16 rgl) (ranged16 rgk) (grow_fit hgr))
  · have g := hg.1 ht
    refine ⟨fun he => ⟨⟨fun _ => ⟨hz, g.2⟩, fun k => absurd k.2 ht⟩, trivial⟩, fun he => absurd (Classical.not_not.1 he) (by have := g.2; omega)⟩

theorem xLower_ok : V_xLower := by
  intro vn vl rvl vd vk rvk name two s rs a _ b _ known _ hp
  simp only [Bool.decide_eq_true]
  have hz : zeroF (decide False) Sl.nil (decide False) Sl.nil := ⟨rfl, rfl, rfl, rfl⟩
  refine ⟨trivial, fun v hv => ⟨fun h => ⟨⟨fun _ => ⟨hz, rfl⟩, fun k => absurd (hv.2 k.1) h⟩, trivial⟩, fun h => ⟨hp, fun gn gl rgl gd gk rgk e _ hg => ?_⟩⟩⟩
  have ov : okF vn vl vd vk := hv.1 (Classical.not_not.1 h)
  by_cases ht : okT name two s a b
  · have g := hg.2 ht
    cases hgr : growS s a b known with
    | err x =>
      rw [hgr] at g
      have hx := grS_ne (n := (fY b - fY a).toNat) hgr
      have ge := g.2
      exact ⟨fun he => ⟨⟨fun k => absurd ⟨ov, ht⟩ k, fun _ => by rw [hgr]; exact ⟨hz, ge⟩⟩, trivial⟩, fun he => absurd (Classical.not_not.1 he) (by omega)⟩
    | ok q =>
      rw [hgr] at g
      refine ⟨fun he => absurd g.2 he, fun _ => ⟨trivial, fun cn cl _ cd ck _ f _ hm => ⟨⟨fun k => absurd ⟨ov, ht⟩ k, fun _ => ?_⟩, trivial⟩⟩⟩
      rw [hgr]
      have := hm.1 ⟨ov, g.1.ok (ranged16 rgl) (ranged16 rgk) (grow_fit hgr)⟩
      rw [g.1.fq] at this
      exact this
  · have g := hg.1 ht
    refine ⟨fun he => ⟨⟨fun _ => ⟨hz, g.2⟩, fun k => absurd k.2 ht⟩, trivial⟩, fun he => absurd (Classical.not_not.1 he) (by have := g.2; omega)⟩

end Go.Sx.N
