/-
  What is taken over from the texts of the tables. Conditions: none.
-/
import Derived.Test.YtjljnieafhdkgaaGreatDoorIdxTb
set_option linter.unusedVariables false
set_option linter.unusedSimpArgs false
namespace Go.Sx.N

theorem int_upd3 {s : Sl} {i k : Int} {cs : List D} {j : Nat} (hj : j < 3) : (Sl.upd s i 3 cs).int k j = s.int k j := by
  unfold Sl.int Sl.upd
  have : ¬ (k.toNat = i.toNat ∧ 3 ≤ j ∧ j < 3 + cs.length) := by omega
  simp [this]
theorem f_upd_ne {s : Sl} {i k : Int} {cs : List D} {j : Nat} (h0 : 0 ≤ i) (h1 : 0 ≤ k) (hne : k ≠ i) : (Sl.upd s i j cs).f k.toNat = s.f k.toNat := by
  funext x
  unfold Sl.upd
  have : ¬ (k.toNat = i.toNat ∧ j ≤ x ∧ x < j + cs.length) := by omega
  simp [this]
theorem rowEq_upd {s t : Sl} {i k : Int} {a c : Bool} {b d : Sl} (hf : SameF a b c d (t.bool k 3) (t.sub k 4) (t.bool k 5) (t.sub k 6)) (h : rowEq s i t k) :
    rowEq (Sl.upd s i 3 [.bool a, Sl.d b, .bool c, Sl.d d]) i t k := by
  refine ⟨by rw [int_upd3 (by decide)]; exact h.1, by rw [int_upd3 (by decide)]; exact h.2.1, by rw [int_upd3 (by decide)]; exact h.2.2.1, ?_⟩
  have e1 : (Sl.upd s i 3 [.bool a, Sl.d b, .bool c, Sl.d d]).bool i 3 = a := by simp [Sl.bool, Sl.upd, D.toB]
  have e2 : (Sl.upd s i 3 [.bool a, Sl.d b, .bool c, Sl.d d]).sub i 4 = b := by simp [Sl.sub, Sl.upd, D.toS, Sl.d]
  have e3 : (Sl.upd s i 3 [.bool a, Sl.d b, .bool c, Sl.d d]).bool i 5 = c := by simp [Sl.bool, Sl.upd, D.toB]
  have e4 : (Sl.upd s i 3 [.bool a, Sl.d b, .bool c, Sl.d d]).sub i 6 = d := by simp [Sl.sub, Sl.upd, D.toS, Sl.d]
  unfold rowF
  rw [e1, e2, e3, e4]
  exact hf

theorem SameF.lim {a c a' c' : Bool} {b d b' d' : Sl} (h : SameF a b c d a' b' c' d') (g : okF a' b' c' d') : Lim b ∧ Lim d := (okF.of_same g h).lim

/-! ### Look -/
section
variable {s t : Sl} {known a : Int} {g : Int → Int}

theorem candX_at (h1 : ∀ i : Int, 0 ≤ i → i < t.len → inForce s known (g i) ∧ rowEq t i s (g i)) (h3 : ∀ k : Int, inForce s known k → ∃ i : Int, 0 ≤ i ∧ i < t.len ∧ g i = k) {k : Int} (h : candX s a known k) :
    ∃ i : Int, 0 ≤ i ∧ i < t.len ∧ g i = k ∧ t.int i 0 ≤ a ∧ ∀ j : Int, 0 ≤ j → j < t.len → t.int j 0 ≤ a → t.int j 0 ≤ t.int i 0 := by
  obtain ⟨i, i0, i1, e⟩ := h3 k h.1.1
  have r := (h1 i i0 i1).2.1
  rw [e] at r
  refine ⟨i, i0, i1, e, by rw [r]; exact h.1.2, fun j j0 j1 hj => ?_⟩
  have b := h1 j j0 j1
  rw [b.2.1] at hj ⊢
  rw [r]
  exact h.2 (g j) b.1 hj
theorem at_candX (h1 : ∀ i : Int, 0 ≤ i → i < t.len → inForce s known (g i) ∧ rowEq t i s (g i)) (h3 : ∀ k : Int, inForce s known k → ∃ i : Int, 0 ≤ i ∧ i < t.len ∧ g i = k) {i : Int} (i0 : 0 ≤ i) (i1 : i < t.len)
    (ha : t.int i 0 ≤ a) (hm : ∀ j : Int, 0 ≤ j → j < t.len → t.int j 0 ≤ a → t.int j 0 ≤ t.int i 0) : candX s a known (g i) := by
  have r := h1 i i0 i1
  refine ⟨⟨r.1, by rw [← r.2.1]; exact ha⟩, fun k hk hka => ?_⟩
  obtain ⟨j, j0, j1, e⟩ := h3 k hk
  have b := (h1 j j0 j1).2.1
  rw [e] at b
  rw [← b, ← r.2.1]
  exact hm j j0 j1 (by rw [b]; exact hka)

end

theorem rowF_of {s t : Sl} {i k : Int} {a c : Bool} {b d : Sl} (h : rowEq t i s k) (hq : SameF a b c d (t.bool i 3) (t.sub i 4) (t.bool i 5) (t.sub i 6)) : rowF s k a b c d := SameF.symm (SameF.trans hq h.2.2.2)

theorem look_zero {ok : Prop} {C : Int → Prop} {s : Sl} (hok : ok) (h : ∀ k, ¬ C k) : lookR ok C s false Sl.nil false Sl.nil 6 :=
  ⟨fun hn => absurd hok hn, fun _ => ⟨fun _ => ⟨zeroF_nil, rfl⟩, fun k hk => absurd hk (h k)⟩⟩
theorem look_bad {ok : Prop} {C : Int → Prop} {s : Sl} (hok : ¬ ok) : lookR ok C s false Sl.nil false Sl.nil 2 :=
  ⟨fun _ => ⟨zeroF_nil, rfl⟩, fun h => absurd h hok⟩

theorem row_lim {name : ByteArray} {two : Bool} {s t : Sl} {i k : Int} (hv : validT name two s) (h0 : 0 ≤ k) (h1 : k < s.len) (h : rowEq t i s k) : Lim (t.sub i 4) ∧ Lim (t.sub i 6) :=
  SameF.lim h.2.2.2 (hv.2.2.2 k h0 h1).2.2.2.2

theorem rowEq_part {t : Sl} {l h i : Int} (h0 : 0 ≤ l) (h1 : 0 ≤ i) : rowEq (Sl.part t l h) i t (l + i) := by
  refine rowEq_cells ?_
  funext j
  show t.f (l.toNat + i.toNat) j = t.f (l + i).toNat j
  rw [show (l + i).toNat = l.toNat + i.toNat by omega]

theorem mono_A {s t : Sl} {known a : Int} {g : Int → Int} (hs : sortedT s) (h1 : ∀ i : Int, 0 ≤ i → i < t.len → inForce s known (g i) ∧ rowEq t i s (g i)) (h2 : ∀ i j : Int, 0 ≤ i → i < j → j < t.len → g i < g j) :
    ∀ k l : Int, 0 ≤ k → k ≤ l → l < t.len → t.int k 0 ≤ t.int l 0 := fun k l k0 kl l1 => by
  by_cases e : k = l
  · rw [e]; exact Int.le_refl _
  · have := fTo_rows hs h1 h2 k0 (by omega) l1
    omega

theorem Look_ok : V_Look := by
  intro y two s rs a ra known rk hp
  simp only [Bool.decide_eq_true]
  refine ⟨hp, fun b hb => ⟨fun hn => ⟨look_bad fun h => hn (hb.2 h.1), trivial⟩, fun hn => ⟨fun ht => ⟨look_bad fun h => by rw [ht] at h; exact absurd h.2 (by decide), trivial⟩, fun ht => ?_⟩⟩⟩
  have hv : validT y two s := hb.1 (Classical.not_not.1 hn)
  have ht : two = false := by simpa using ht
  refine ⟨⟨hv.2.2.1, hv.2.1⟩, fun t rt hf st => ?_⟩
  have t0 := len0 t
  have s0 := len0 s
  obtain ⟨g, h1, h2, h3⟩ := hf
  have tl : t.len ≤ s.len := fTo_len (n := s.len) s0 ⟨g, h1, h2, h3⟩
  have hs4 := hv.2.1
  have mo := mono_A (a := a) hv.2.2.1 h1 h2
  have mo' : ∀ k l : Int, 0 ≤ k → k ≤ l → l < t.len → t.int k 0 > a → t.int l 0 > a := fun k l k0 kl l1 h => by have := mo k l k0 kl l1; omega
  refine ⟨fun i j => bs t.len (fun k => t.int k 0 > a) i j, fun i j => (j - i).toNat, bs_start t0, fun i ri j rj hJ => ?_⟩
  have hJ : bs t.len (fun k => t.int k 0 > a) i j := hJ
  have b1 := hJ.1
  refine ⟨fun hi => ?_, fun hi => ?_⟩
  · have em := mid_eq b1.1 hi (by omega)
    have er := mid_rng b1.1 hi (by omega)
    refine ⟨by rw [rng64]; omega, by decide, er, ?_⟩
    rw [em]
    refine ⟨by omega, by omega, fun _ _ _ _ _ => ⟨fun hp => ⟨by rw [rng64]; omega, bs_up mo' hJ (by omega) (by omega) hp, ?_⟩, fun hp => ⟨bs_down mo' hJ (by omega) (by omega) (Classical.not_not.1 hp), ?_⟩⟩⟩
    · show (j - ((i + j) / 2 + 1)).toNat < (j - i).toNat; omega
    · show ((i + j) / 2 - i).toNat < (j - i).toNat; omega
  · have e : j = i := by omega
    subst e
    refine ⟨by decide, b1.1, b1.2.2, ?_⟩
    rw [len_part b1.1, Int.sub_zero]
    have bnd : ∀ l : Int, 0 ≤ l → l < t.len → t.int l 0 ≤ a → l < j := fun l l0 l1 hl => by
      rcases Int.lt_or_le l j with c | c
      · exact c
      · have h' : t.int l 0 > a := hJ.2.2 l c l1
        omega
    refine fun _ => ⟨fun hz => ⟨look_zero ⟨hv, ht⟩ fun k hk => ?_, trivial⟩, fun hz _ => ⟨by rw [rng64]; omega, by omega, by omega, fun _ _ => ?_⟩⟩
    · obtain ⟨l, l0, l1, _, hl, _⟩ := candX_at h1 h3 hk
      have := bnd l l0 l1 hl
      omega
    · have rw1 : rowEq (Sl.part t 0 j) (j - 1) t (j - 1) := by
        have := rowEq_part (t := t) (l := 0) (h := j) (i := j - 1) (by decide) (by omega)
        rwa [Int.zero_add] at this
      have rr := (h1 (j - 1) (by omega) (by omega))
      have rw2 := rw1.trans rr.2
      refine ⟨row_lim hv rr.1.1.1 rr.1.1.2 rw2, fun a' b' _ c' d' _ hq => ⟨⟨fun hn => absurd ⟨hv, ht⟩ hn, fun _ => ⟨fun hn => ?_, fun k hk => ⟨?_, rfl⟩⟩⟩, trivial⟩⟩
      · refine absurd (at_candX (a := a) h1 h3 (i := j - 1) (by omega) (by omega) ?_ fun l l0 l1 hl => ?_) (hn _)
        · have := hJ.2.1 (j - 1) (by omega) (by omega)
          have : ¬ (t.int (j - 1) 0 > a) := this
          omega
        · exact mo l (j - 1) l0 (by have := bnd l l0 l1 hl; omega) (by omega)
      · obtain ⟨l, l0, l1, e, hl, hm⟩ := candX_at h1 h3 hk
        have hlj := bnd l l0 l1 hl
        have hA := hm (j - 1) (by omega) (by omega) (by
          have := hJ.2.1 (j - 1) (by omega) (by omega)
          have : ¬ (t.int (j - 1) 0 > a) := this
          omega)
        have el : l = j - 1 := by
          by_cases c : l = j - 1
          · exact c
          · have st := fTo_rows hv.2.2.1 h1 h2 l0 (show l < j - 1 by omega) (by omega)
            have z1 := h1 l l0 l1
            have z2 := h1 (j - 1) (by omega) (by omega)
            have q1 := (hv.2.2.2 (g l) z1.1.1.1 z1.1.1.2).2.2.1
            have q2 := (hv.2.2.2 (g (j - 1)) z2.1.1.1 z2.1.1.2).2.2.1
            rw [ht] at q1 q2
            simp only [Bool.false_eq_true, false_or] at q1 q2
            rw [z1.2.2.1, z2.2.2.1] at st
            omega
        rw [← e, el]
        exact rowF_of rw2 hq

end Go.Sx.N
