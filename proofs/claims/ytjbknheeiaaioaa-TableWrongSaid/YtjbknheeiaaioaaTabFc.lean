/-
  Views and look-ups: what they return. Conditions: none.
-/
import Derived.Test.YtjbknheeiaaioaaTabFb
set_option linter.unusedVariables false
set_option linter.unusedSimpArgs false
namespace Go.Sx.N

theorem int_upd3 {s : Sl} {i k : Int} {cs : List D} {j : Nat} (hj : j < 3) : (Sl.upd s i 3 cs).int k j = s.int k j := by
  unfold Sl.int Sl.upd
  have : ¬ (k.toNat = i.toNat ∧ 3 ≤ j ∧ j < 3 + cs.length) := by omega
  simp [this]
theorem f_upd_ne {s : Sl} {i k : Int} {cs : List D} {j : Nat} (h0 : 0 ≤ i) (h1 : 0 ≤ k) (hne : k ≠ i) : (Sl.upd s i j cs).f k.toNat = s.f k.toNat := by
  funext x
  unfold Sl.upd
  have : ¬ (k.toNat = i.toNat ∧ j ≤ x ∧ x < j + cs.length) := by omega
  simp [this]
theorem rowEq_upd {s t : Sl} {i k : Int} {a c : Bool} {b d : Sl} (hf : SameF a b c d (t.bool k 3) (t.sub k 4) (t.bool k 5) (t.sub k 6)) (h : rowEq s i t k) :
    rowEq (Sl.upd s i 3 [.bool a, Sl.d b, .bool c, Sl.d d]) i t k := by
  refine ⟨by rw [int_upd3 (by decide)]; exact h.1, by rw [int_upd3 (by decide)]; exact h.2.1, by rw [int_upd3 (by decide)]; exact h.2.2.1, ?_⟩
  have e1 : (Sl.upd s i 3 [.bool a, Sl.d b, .bool c, Sl.d d]).bool i 3 = a := by simp [Sl.bool, Sl.upd, D.toB]
  have e2 : (Sl.upd s i 3 [.bool a, Sl.d b, .bool c, Sl.d d]).sub i 4 = b := by simp [Sl.sub, Sl.upd, D.toS, Sl.d]
  have e3 : (Sl.upd s i 3 [.bool a, Sl.d b, .bool c, Sl.d d]).bool i 5 = c := by simp [Sl.bool, Sl.upd, D.toB]
  have e4 : (Sl.upd s i 3 [.bool a, Sl.d b, .bool c, Sl.d d]).sub i 6 = d := by simp [Sl.sub, Sl.upd, D.toS, Sl.d]
  unfold rowF
  rw [e1, e2, e3, e4]
  exact hf

theorem SameF.lim {a c a' c' : Bool} {b d b' d' : Sl} (h : SameF a b c d a' b' c' d') (g : okF a' b' c' d') : Lim b ∧ Lim d := (okF.of_same g h).lim

theorem View_ok : V_View := by
  intro y two s rs known rk hp
  simp only [Bool.decide_eq_true]
  refine ⟨hp, fun b hb => ⟨fun hn => ⟨⟨fun _ => ⟨⟨rfl, by decide, rfl⟩, rfl⟩, fun hv => absurd (hb.2 hv) hn⟩, trivial⟩, fun hn => ?_⟩⟩
  have hv : validT y two s := hb.1 (Classical.not_not.1 hn)
  refine ⟨⟨hv.2.2.1, hv.2.1⟩, fun t rt hf st => ?_⟩
  have t0 := len0 t
  have s0 := len0 s
  obtain ⟨g, h1, h2, h3⟩ := hf
  have tl : t.len ≤ s.len := fTo_len (n := s.len) s0 ⟨g, h1, h2, h3⟩
  have hs4 := hv.2.1
  refine ⟨fun i u => (0 ≤ i ∧ i ≤ t.len) ∧ u.len = t.len ∧ ∀ k : Int, 0 ≤ k → k < t.len → rowEq u k t k, fun i _ => (t.len - i).toNat, ⟨⟨Int.le_refl _, t0⟩, rfl, fun k _ _ => rowEq.refl _ _⟩, fun i ri u ru hJ => ?_⟩
  obtain ⟨⟨i0, i1⟩, hl, hr⟩ := hJ
  refine ⟨fun hi => ⟨i0, by omega, fun _ _ => ?_⟩, fun hi => ⟨⟨fun hn => absurd hv hn, fun _ => ⟨rfl, rfl, ⟨g, fun k k0 k1 => ?_, fun k j k0 kj j1 => h2 k j k0 kj (by omega), fun k hk => ?_⟩, rfl⟩⟩, trivial⟩⟩
  · have r := hr i i0 hi
    have a := h1 i i0 hi
    have r2 := r.trans a.2
    have ok : okF (s.bool (g i) 3) (s.sub (g i) 4) (s.bool (g i) 5) (s.sub (g i) 6) := (hv.2.2.2 (g i) a.1.1.1 a.1.1.2).2.2.2.2
    refine ⟨SameF.lim r2.2.2.2 ok, fun a' b' rb c' d' rd hq => ⟨i0, by omega, by rw [rng64]; omega, ⟨⟨by omega, by omega⟩, hl, fun k k0 k1 => ?_⟩, by show (t.len - (i + 1)).toNat < (t.len - i).toNat; omega⟩⟩
    by_cases e : k = i
    · subst e
      exact rowEq_upd (SameF.trans hq r.2.2.2) r
    · exact (rowEq_cells (f_upd_ne i0 k0 e)).trans (hr k k0 k1)
  · rw [hl] at k1
    exact ⟨(h1 k k0 k1).1, (hr k k0 k1).trans (h1 k k0 k1).2⟩
  · obtain ⟨i, a, b, c⟩ := h3 k hk
    exact ⟨i, a, by omega, c⟩

/-! ### Look -/
section
variable {s t : Sl} {known a : Int} {g : Int → Int}

theorem candX_at (h1 : ∀ i : Int, 0 ≤ i → i < t.len → inForce s known (g i) ∧ rowEq t i s (g i)) (h3 : ∀ k : Int, inForce s known k → ∃ i : Int, 0 ≤ i ∧ i < t.len ∧ g i = k) {k : Int} (h : candX s a known k) :
    ∃ i : Int, 0 ≤ i ∧ i < t.len ∧ g i = k ∧ t.int i 0 ≤ a ∧ ∀ j : Int, 0 ≤ j → j < t.len → t.int j 0 ≤ a → t.int j 0 ≤ t.int i 0 := by
  obtain ⟨i, i0, i1, e⟩ := h3 k h.1.1
  have r := (h1 i i0 i1).2.1
  rw [e] at r
  refine ⟨i, i0, i1, e, by rw [r]; exact h.1.2, fun j j0 j1 hj => ?_⟩
  have b := h1 j j0 j1
  rw [b.2.1] at hj ⊢
  rw [r]
  exact h.2 (g j) b.1 hj
theorem at_candX (h1 : ∀ i : Int, 0 ≤ i → i < t.len → inForce s known (g i) ∧ rowEq t i s (g i)) (h3 : ∀ k : Int, inForce s known k → ∃ i : Int, 0 ≤ i ∧ i < t.len ∧ g i = k) {i : Int} (i0 : 0 ≤ i) (i1 : i < t.len)
    (ha : t.int i 0 ≤ a) (hm : ∀ j : Int, 0 ≤ j → j < t.len → t.int j 0 ≤ a → t.int j 0 ≤ t.int i 0) : candX s a known (g i) := by
  have r := h1 i i0 i1
  refine ⟨⟨r.1, by rw [← r.2.1]; exact ha⟩, fun k hk hka => ?_⟩
  obtain ⟨j, j0, j1, e⟩ := h3 k hk
  have b := (h1 j j0 j1).2.1
  rw [e] at b
  rw [← b, ← r.2.1]
  exact hm j j0 j1 (by rw [b]; exact hka)

end

theorem rowF_of {s t : Sl} {i k : Int} {a c : Bool} {b d : Sl} (h : rowEq t i s k) (hq : SameF a b c d (t.bool i 3) (t.sub i 4) (t.bool i 5) (t.sub i 6)) : rowF s k a b c d := SameF.symm (SameF.trans hq h.2.2.2)

theorem look_zero {ok : Prop} {C : Int → Prop} {s : Sl} (hok : ok) (h : ∀ k, ¬ C k) : lookR ok C s false Sl.nil false Sl.nil 6 :=
  ⟨fun hn => absurd hok hn, fun _ => ⟨fun _ => ⟨zeroF_nil, rfl⟩, fun k hk => absurd hk (h k)⟩⟩
theorem look_bad {ok : Prop} {C : Int → Prop} {s : Sl} (hok : ¬ ok) : lookR ok C s false Sl.nil false Sl.nil 2 :=
  ⟨fun _ => ⟨zeroF_nil, rfl⟩, fun h => absurd h hok⟩

theorem row_lim {name : ByteArray} {two : Bool} {s t : Sl} {i k : Int} (hv : validT name two s) (h0 : 0 ≤ k) (h1 : k < s.len) (h : rowEq t i s k) : Lim (t.sub i 4) ∧ Lim (t.sub i 6) :=
  SameF.lim h.2.2.2 (hv.2.2.2 k h0 h1).2.2.2.2

theorem rowEq_part {t : Sl} {l h i : Int} (h0 : 0 ≤ l) (h1 : 0 ≤ i) : rowEq (Sl.part t l h) i t (l + i) := by
  refine rowEq_cells ?_
  funext j
  show t.f (l.toNat + i.toNat) j = t.f (l + i).toNat j
  rw [show (l + i).toNat = l.toNat + i.toNat by omega]

theorem mono_A {s t : Sl} {known a : Int} {g : Int → Int} (hs : sortedT s) (h1 : ∀ i : Int, 0 ≤ i → i < t.len → inForce s known (g i) ∧ rowEq t i s (g i)) (h2 : ∀ i j : Int, 0 ≤ i → i < j → j < t.len → g i < g j) :
    ∀ k l : Int, 0 ≤ k → k ≤ l → l < t.len → t.int k 0 ≤ t.int l 0 := fun k l k0 kl l1 => by
  by_cases e : k = l
  · rw [e]; exact Int.le_refl _
  · have := fTo_rows hs h1 h2 k0 (by omega) l1
    omega

theorem Look_ok : V_Look := by
  intro y two s rs a ra known rk hp
  simp only [Bool.decide_eq_true]
  refine ⟨hp, fun b hb => ⟨fun hn => ⟨look_bad fun h => hn (hb.2 h.1), trivial⟩, fun hn => ⟨fun ht => ⟨look_bad fun h => by rw [ht] at h; exact absurd h.2 (by decide), trivial⟩, fun ht => ?_⟩⟩⟩
  have hv : validT y two s := hb.1 (Classical.not_not.1 hn)
  have ht : two = false := by simpa using ht
  refine ⟨⟨hv.2.2.1, hv.2.1⟩, fun t rt hf st => ?_⟩
  have t0 := len0 t
  have s0 := len0 s
  obtain ⟨g, h1, h2, h3⟩ := hf
  have tl : t.len ≤ s.len := fTo_len (n := s.len) s0 ⟨g, h1, h2, h3⟩
  have hs4 := hv.2.1
  have mo := mono_A (a := a) hv.2.2.1 h1 h2
  have mo' : ∀ k l : Int, 0 ≤ k → k ≤ l → l < t.len → t.int k 0 > a → t.int l 0 > a := fun k l k0 kl l1 h => by have := mo k l k0 kl l1; omega
  refine ⟨fun i j => bs t.len (fun k => t.int k 0 > a) i j, fun i j => (j - i).toNat, bs_start t0, fun i ri j rj hJ => ?_⟩
  have hJ : bs t.len (fun k => t.int k 0 > a) i j := hJ
  have b1 := hJ.1
  refine ⟨fun hi => ?_, fun hi => ?_⟩
  · have em := mid_eq b1.1 hi (by omega)
    have er := mid_rng b1.1 hi (by omega)
    refine ⟨by rw [rng64]; omega, by decide, er, ?_⟩
    rw [em]
    refine ⟨by omega, by omega, fun _ _ _ _ _ => ⟨fun hp => ⟨by rw [rng64]; omega, bs_up mo' hJ (by omega) (by omega) hp, ?_⟩, fun hp => ⟨bs_down mo' hJ (by omega) (by omega) (Classical.not_not.1 hp), ?_⟩⟩⟩
    · show (j - ((i + j) / 2 + 1)).toNat < (j - i).toNat; omega
    · show ((i + j) / 2 - i).toNat < (j - i).toNat; omega
  · have e : j = i := by omega
    subst e
    refine ⟨by decide, b1.1, b1.2.2, ?_⟩
    rw [len_part b1.1, Int.sub_zero]
    have bnd : ∀ l : Int, 0 ≤ l → l < t.len → t.int l 0 ≤ a → l < j := fun l l0 l1 hl => by
      rcases Int.lt_or_le l j with c | c
      · exact c
      · have h' : t.int l 0 > a := hJ.2.2 l c l1
        omega
    refine fun _ => ⟨fun hz => ⟨look_zero ⟨hv, ht⟩ fun k hk => ?_, trivial⟩, fun hz _ => ⟨by rw [rng64]; omega, by omega, by omega, fun _ _ => ?_⟩⟩
    · obtain ⟨l, l0, l1, _, hl, _⟩ := candX_at h1 h3 hk
      have := bnd l l0 l1 hl
      omega
    · have rw1 : rowEq (Sl.part t 0 j) (j - 1) t (j - 1) := by
        have := rowEq_part (t := t) (l := 0) (h := j) (i := j - 1) (by decide) (by omega)
        rwa [Int.zero_add] at this
      have rr := (h1 (j - 1) (by omega) (by omega))
      have rw2 := rw1.trans rr.2
      refine ⟨row_lim hv rr.1.1.1 rr.1.1.2 rw2, fun a' b' _ c' d' _ hq => ⟨⟨fun hn => absurd ⟨hv, ht⟩ hn, fun _ => ⟨fun hn => ?_, fun k hk => ⟨?_, rfl⟩⟩⟩, trivial⟩⟩
      · refine absurd (at_candX (a := a) h1 h3 (i := j - 1) (by omega) (by omega) ?_ fun l l0 l1 hl => ?_) (hn _)
        · have := hJ.2.1 (j - 1) (by omega) (by omega)
          have : ¬ (t.int (j - 1) 0 > a) := this
          omega
        · exact mo l (j - 1) l0 (by have := bnd l l0 l1 hl; omega) (by omega)
      · obtain ⟨l, l0, l1, e, hl, hm⟩ := candX_at h1 h3 hk
        have hlj := bnd l l0 l1 hl
        have hA := hm (j - 1) (by omega) (by omega) (by
          have := hJ.2.1 (j - 1) (by omega) (by omega)
          have : ¬ (t.int (j - 1) 0 > a) := this
          omega)
        have el : l = j - 1 := by
          by_cases c : l = j - 1
          · exact c
          · have st := fTo_rows hv.2.2.1 h1 h2 l0 (show l < j - 1 by omega) (by omega)
            have z1 := h1 l l0 l1
            have z2 := h1 (j - 1) (by omega) (by omega)
            have q1 := (hv.2.2.2 (g l) z1.1.1.1 z1.1.1.2).2.2.1
            have q2 := (hv.2.2.2 (g (j - 1)) z2.1.1.1 z2.1.1.2).2.2.1
            rw [ht] at q1 q2
            simp only [Bool.false_eq_true, false_or] at q1 q2
            rw [z1.2.2.1, z2.2.2.1] at st
            omega
        rw [← e, el]
        exact rowF_of rw2 hq

theorem LookTwo_ok : V_LookTwo := by
  intro y two s a ra b rb known rk hp
  simp only [Bool.decide_eq_true]
  refine ⟨hp, fun v hb => ⟨fun hn => ⟨look_bad fun h => hn (hb.2 h.1), trivial⟩, fun hn => ⟨fun ht => ⟨look_bad fun h => ht h.2, trivial⟩, fun ht => ?_⟩⟩⟩
  have hv : validT y two s := hb.1 (Classical.not_not.1 hn)
  have ht : two = true := Classical.not_not.1 ht
  refine ⟨⟨hv.2.2.1, hv.2.1⟩, fun t hf st => ?_⟩
  have t0 := len0 t
  have s0 := len0 s
  obtain ⟨g, h1, h2, h3⟩ := hf
  have tl : t.len ≤ s.len := fTo_len (n := s.len) s0 ⟨g, h1, h2, h3⟩
  have hs4 := hv.2.1
  have mo := mono_A (a := a) hv.2.2.1 h1 h2
  have mo' : ∀ k l : Int, 0 ≤ k → k ≤ l → l < t.len → t.int k 0 > a → t.int l 0 > a := fun k l k0 kl l1 h => by have := mo k l k0 kl l1; omega
  refine ⟨fun i j => bs t.len (fun k => t.int k 0 > a) i j, fun i j => (j - i).toNat, bs_start t0, fun i ri j rj hJ => ?_⟩
  have hJ : bs t.len (fun k => t.int k 0 > a) i j := hJ
  have b1 := hJ.1
  refine ⟨fun hi => ?_, fun hi => ?_⟩
  · have em := mid_eq b1.1 hi (by omega)
    have er := mid_rng b1.1 hi (by omega)
    refine ⟨by rw [rng64]; omega, by decide, er, ?_⟩
    rw [em]
    refine ⟨by omega, by omega, fun _ _ _ => ⟨fun hp => ⟨by rw [rng64]; omega, bs_up mo' hJ (by omega) (by omega) hp, ?_⟩, fun hp => ⟨bs_down mo' hJ (by omega) (by omega) (Classical.not_not.1 hp), ?_⟩⟩⟩
    · show (j - ((i + j) / 2 + 1)).toNat < (j - i).toNat; omega
    · show ((i + j) / 2 - i).toNat < (j - i).toNat; omega
  have e : j = i := by omega
  subst e
  refine ⟨by decide, b1.1, b1.2.2, ?_⟩
  have bnd : ∀ l : Int, 0 ≤ l → l < t.len → t.int l 0 ≤ a → l < j := fun l l0 l1 hl => by
    rcases Int.lt_or_le l j with c | c
    · exact c
    · have h' : t.int l 0 > a := hJ.2.2 l c l1
      omega
  have low : ∀ l : Int, 0 ≤ l → l < j → t.int l 0 ≤ a := fun l l0 l1 => by
    have : ¬ (t.int l 0 > a) := hJ.2.1 l l0 l1
    omega
  clear hJ
  obtain ⟨u, hu⟩ : ∃ u, u = Sl.part t 0 j := ⟨_, rfl⟩
  rw [← hu]
  have ul : u.len = j := by rw [hu, len_part b1.1, Int.sub_zero]
  have ur : ∀ i : Int, 0 ≤ i → rowEq u i t i := fun i i0 => by
    rw [hu]
    have := rowEq_part (t := t) (l := 0) (h := j) (i := i) (by decide) i0
    rwa [Int.zero_add] at this
  rw [ul]
  refine fun _ => ⟨fun hz => ⟨look_zero ⟨hv, ht⟩ fun k hk => ?_, trivial⟩, fun hz _ => ⟨by rw [rng64]; omega, by omega, by omega, fun _ _ => ?_⟩⟩
  · obtain ⟨l, l0, l1, _, hl, _⟩ := candX_at h1 h3 hk.1.1
    have := bnd l l0 l1 hl
    omega
  obtain ⟨x, hx⟩ : ∃ x, x = u.int (j - 1) 0 := ⟨_, rfl⟩
  rw [← hx]
  have hx' : x = t.int (j - 1) 0 := hx.trans (ur _ (by omega)).1
  have mo2 : ∀ k l : Int, 0 ≤ k → k ≤ l → l < j → u.int k 0 ≥ x → u.int l 0 ≥ x := fun k l k0 kl l1 h => by
    have := mo k l k0 kl (by omega)
    rw [(ur k k0).1] at h
    rw [(ur l (by omega)).1]
    omega
  refine ⟨fun i k => bs j (fun k => u.int k 0 ≥ x) i k, fun i k => (k - i).toNat, bs_start b1.1, fun i ri p rp hJ => ?_⟩
  have hJ : bs j (fun k => u.int k 0 ≥ x) i p := hJ
  have b2 := hJ.1
  refine ⟨fun hi => ?_, fun hi => ?_⟩
  · have em := mid_eq b2.1 hi (by omega)
    have er := mid_rng b2.1 hi (by omega)
    refine ⟨by rw [rng64]; omega, by decide, er, ?_⟩
    rw [em]
    refine ⟨by omega, by omega, fun _ _ _ => ⟨fun hp => ⟨by rw [rng64]; omega, bs_up mo2 hJ (by omega) (by omega) hp, ?_⟩, fun hp => ⟨bs_down mo2 hJ (by omega) (by omega) (Classical.not_not.1 hp), ?_⟩⟩⟩
    · show (p - ((i + p) / 2 + 1)).toNat < (p - i).toNat; omega
    · show ((i + p) / 2 - i).toNat < (p - i).toNat; omega
  have e : p = i := by omega
  subst e
  have pl : (Sl.part u 0 p).len = p := by rw [len_part b2.1, Int.sub_zero]
  rw [pl]
  refine ⟨by decide, b2.1, b2.2.2, fun _ => ⟨b2.1, b2.2.2, Int.le_refl _, ?_⟩⟩
  have inX : ∀ l : Int, 0 ≤ l → l < j → (t.int l 0 = x ↔ p ≤ l) := fun l l0 l1 => by
    constructor
    · intro h
      rcases Int.lt_or_le l p with c | c
      · have : ¬ (u.int l 0 ≥ x) := hJ.2.1 l l0 c
        rw [(ur l l0).1] at this
        omega
      · exact c
    · intro h
      have : u.int l 0 ≥ x := hJ.2.2 l h l1
      rw [(ur l l0).1] at this
      have := mo l (j - 1) l0 (by omega) (by omega)
      omega
  clear hJ
  have pj : p ≤ j - 1 := (inX (j - 1) (by omega) (by omega)).1 hx'.symm
  obtain ⟨w, hw⟩ : ∃ w, w = Sl.part u p j := ⟨_, rfl⟩
  rw [← hw]
  have wl : w.len = j - p := by rw [hw, len_part b2.2.2]
  have wr : ∀ i : Int, 0 ≤ i → rowEq w i t (p + i) := fun i i0 => by
    rw [hw]
    exact (rowEq_part (t := u) (l := p) (h := j) (i := i) b2.1 i0).trans (ur _ (by omega))
  rw [wl]
  have cX : ∀ l : Int, 0 ≤ l → l < t.len → (candX s a known (g l) ↔ (p ≤ l ∧ l < j)) := fun l l0 l1 => by
    constructor
    · intro h
      obtain ⟨l', q0, q1, e, hl, hm⟩ := candX_at h1 h3 h
      have el : l' = l := by
        rcases Int.lt_trichotomy l' l with c | c | c
        · have := h2 l' l q0 c l1; omega
        · exact c
        · have := h2 l l' l0 c q1; omega
      subst el
      have hlj := bnd l' q0 q1 hl
      refine ⟨(inX l' q0 hlj).1 ?_, hlj⟩
      have := hm (j - 1) (by omega) (by omega) (low _ (by omega) (by omega))
      have := mo l' (j - 1) q0 (by omega) (by omega)
      omega
    · intro h
      refine at_candX h1 h3 l0 l1 (low l l0 h.2) fun q q0 q1 hq => ?_
      have := mo q (j - 1) q0 (by have := bnd q q0 q1 hq; omega) (by omega)
      rw [(inX l l0 h.2).2 h.1, hx']
      exact this
  have mo3 : ∀ k l : Int, p ≤ k → k < l → l < j → t.int k 1 < t.int l 1 := fun k l k0 kl l1 => by
    have := fTo_rows hv.2.2.1 h1 h2 (show 0 ≤ k by omega) kl (by omega)
    have e1 := (inX k (by omega) (by omega)).2 k0
    have e2 := (inX l (by omega) (by omega)).2 (by omega)
    omega
  have mo3' : ∀ k l : Int, 0 ≤ k → k ≤ l → l < j - p → w.int k 1 > b → w.int l 1 > b := fun k l k0 kl l1 h => by
    by_cases c : k = l
    · rw [← c]; exact h
    · have := mo3 (p + k) (p + l) (by omega) (by omega) (by omega)
      rw [(wr k k0).2.1] at h
      rw [(wr l (by omega)).2.1]
      omega
  refine fun _ => ⟨fun i k => bs (j - p) (fun k => w.int k 1 > b) i k, fun i k => (k - i).toNat, bs_start (by omega), fun i ri n rn hJ => ?_⟩
  have hJ : bs (j - p) (fun k => w.int k 1 > b) i n := hJ
  have b3 := hJ.1
  refine ⟨fun hi => ?_, fun hi => ?_⟩
  · have em := mid_eq b3.1 hi (by omega)
    have er := mid_rng b3.1 hi (by omega)
    refine ⟨by rw [rng64]; omega, by decide, er, ?_⟩
    rw [em]
    refine ⟨by omega, by omega, fun _ _ _ => ⟨fun hp => ⟨by rw [rng64]; omega, bs_up mo3' hJ (by omega) (by omega) hp, ?_⟩, fun hp => ⟨bs_down mo3' hJ (by omega) (by omega) (Classical.not_not.1 hp), ?_⟩⟩⟩
    · show (n - ((i + n) / 2 + 1)).toNat < (n - i).toNat; omega
    · show ((i + n) / 2 - i).toNat < (n - i).toNat; omega
  have e : n = i := by omega
  subst e
  have vl' : (Sl.part w 0 n).len = n := by rw [len_part b3.1, Int.sub_zero]
  rw [vl']
  have inB : ∀ l : Int, p ≤ l → l < j → (t.int l 1 ≤ b ↔ l < p + n) := fun l l0 l1 => by
    have r := (wr (l - p) (by omega)).2.1
    rw [show p + (l - p) = l by omega] at r
    constructor
    · intro h
      rcases Int.lt_or_le l (p + n) with c | c
      · exact c
      · have : w.int (l - p) 1 > b := hJ.2.2 (l - p) (by omega) (by omega)
        rw [r] at this
        omega
    · intro h
      have : ¬ (w.int (l - p) 1 > b) := hJ.2.1 (l - p) (by omega) (by omega)
      rw [r] at this
      omega
  clear hJ
  refine ⟨by decide, b3.1, b3.2.2, fun _ => ⟨fun hz => ⟨look_zero ⟨hv, ht⟩ fun k hk => ?_, trivial⟩, fun hz _ => ⟨by rw [rng64]; omega, by omega, by omega, ?_⟩⟩⟩
  · obtain ⟨l, l0, l1, e, _, _⟩ := candX_at h1 h3 hk.1.1
    have c := hk.1.1
    rw [← e] at c
    have c := (cX l l0 l1).1 c
    have hb := hk.1.2
    rw [← e, ← (h1 l l0 l1).2.2.1] at hb
    have := (inB l c.1 c.2).1 hb
    omega
  have rr := h1 (p + n - 1) (by omega) (by omega)
  have rw1 : rowEq (Sl.part w 0 n) (n - 1) t (p + n - 1) := by
    have q := rowEq_part (t := w) (l := 0) (h := n) (i := n - 1) (by decide) (by omega)
    rw [Int.zero_add] at q
    have q2 := wr (n - 1) (by omega)
    rw [show p + (n - 1) = p + n - 1 by omega] at q2
    exact q.trans q2
  have rw2 := rw1.trans rr.2
  have cT : candT s a b known (g (p + n - 1)) := by
    refine ⟨⟨(cX _ (by omega) (by omega)).2 ⟨by omega, by omega⟩, ?_⟩, fun k hk hkb => ?_⟩
    · rw [← rr.2.2.1]
      exact (inB _ (by omega) (by omega)).2 (by omega)
    · obtain ⟨l, l0, l1, e, _, _⟩ := candX_at h1 h3 hk
      rw [← e] at hk hkb ⊢
      have c := (cX l l0 l1).1 hk
      rw [← (h1 l l0 l1).2.2.1] at hkb ⊢
      rw [← rr.2.2.1]
      have := (inB l c.1 c.2).1 hkb
      by_cases d : l = p + n - 1
      · rw [d]; exact Int.le_refl _
      · have := mo3 l (p + n - 1) c.1 (by omega) (by omega)
        omega
  refine ⟨row_lim hv rr.1.1.1 rr.1.1.2 rw2, fun a' b' c' d' hq => ⟨⟨fun hn => absurd ⟨hv, ht⟩ hn, fun _ => ⟨fun hn => absurd cT (hn _), fun k hk => ⟨?_, rfl⟩⟩⟩, trivial⟩⟩
  obtain ⟨l, l0, l1, e, _, _⟩ := candX_at h1 h3 hk.1.1
  have ek : l = p + n - 1 := by
    have hk' := hk
    rw [← e] at hk'
    have c := (cX l l0 l1).1 hk'.1.1
    have z := hk'.2 _ cT.1.1 cT.1.2
    have zb := hk'.1.2
    rw [← (h1 l l0 l1).2.2.1] at z zb
    rw [← rr.2.2.1] at z
    have := (inB l c.1 c.2).1 zb
    by_cases d : l = p + n - 1
    · exact d
    · have := mo3 l (p + n - 1) c.1 (by omega) (by omega)
      omega
  rw [← e, ek]
  exact rowF_of rw2 hq

end Go.Sx.N
