/-
 Several texts in one. Conditions: none.
-/
import Derived.Test.YtclonhmgeabdeaaGreatDoorNumVM
import Derived.Test.YtclonhmgeabdeaaGreatDoorNumVN
import Derived.Test.YtclonhmgeabdeaaGreatDoorGroF
set_option linter.unusedVariables false
set_option linter.unusedSimpArgs false
namespace Go.Sx.N
theorem tRight_ok : V_tRight := by
 intro two a _ b _ k _ nn nl _ dn dl _ _
 simp only [Bool.decide_eq_true]
 have no : (rightS two a b k nn nl dn dl -> False) -> q_tRight two a b k nn nl dn dl (decide False) /\ True := fun h => ⟨⟨fun e => by simp at e, fun e => absurd e h⟩, trivial⟩
 refine ⟨fun h => no fun e => by have := e.1; omega, fun h1 => ⟨fun h => no fun e => by have := e.1; omega, fun h2 => ⟨fun h => no fun e => by have := e.2.1; omega, fun h3 => ⟨fun h => no fun e => by have := e.2.1; omega, fun h4 => ?_⟩⟩⟩⟩
 have core : (two = true \/ b = 0) -> ((k >= 0 -> (k < 65536 -> p_rValid2 nn nl dn dl /\ ∀ r : Bool, q_rValid2 nn nl dn dl r -> q_tRight two a b k nn nl dn dl r /\ True) /\ (¬ k < 65536 -> q_tRight two a b k nn nl dn dl (decide False) /\ True)) /\ (¬ k >= 0 -> q_tRight two a b k nn nl dn dl (decide False) /\ True)) := fun ht =>
  ⟨fun h0 => ⟨fun h1 => ⟨trivial, fun r hr => ⟨⟨fun e => ⟨⟨by omega, by omega⟩, ⟨by omega, by omega⟩, ht, ⟨h0, h1⟩, hr.1 e⟩, fun e => hr.2 e.2.2.2.2⟩, trivial⟩⟩, fun h1 => no fun e => by have := e.2.2.2.1; omega⟩, fun h0 => no fun e => by have := e.2.2.2.1; omega⟩
 exact ⟨fun ht => ⟨fun hb => no fun e => by rcases e.2.2.1 with h | h; exact ht h; exact hb h, fun hb => core (.inr (Classical.not_not.1 hb))⟩, fun ht => core (.inl (Classical.not_not.1 ht))⟩
theorem tBefore_ok : V_tBefore := by
 intro a _ b _ k _ nn nl _ dn dl _ a' _ b' _ k' _ nn' nl' _ dn' dl' _ _
 refine ⟨fun h => ⟨?_, trivial⟩, fun h => ⟨fun h' => ⟨?_, trivial⟩, fun h' => ⟨?_, trivial⟩⟩⟩ <;> (unfold q_tBefore ltK; rw [decide_eq_true_eq]; omega)
theorem rTValid_ok : V_rTValid := by
 intro n two s _ hn
 simp only [Bool.decide_eq_true]
 have s0 := len0 s
 have rn : Rng .i64 (ylen n) := by
  have h : ylen n <= 9223372036854775807 := hn
  have : 0 <= ylen n := Int.natCast_nonneg _
  rw [rng64]; omega
 have no : ¬ validT n two s -> q_rTValid n two s (decide False) /\ True := fun h => ⟨⟨fun e => by simp at e, fun e => absurd e h⟩, trivial⟩
 refine ⟨rn, fun h => no fun e => by have := e.1.1; omega, fun h1 => ⟨rn, fun h => no fun e => by have := e.1.2; omega, fun h2 _ => ⟨fun h => no fun e => by have := e.2.1; omega, fun h3 => ?_⟩⟩⟩
 refine ⟨fun i => (0 <= i /\ i <= s.len) /\ ∀ j : Int, 0 <= j -> j < i -> rightAt two s j /\ (0 < j -> ¬ ltR s j s (j - 1)), fun i => (s.len - i).toNat, ⟨⟨Int.le_refl _, s0⟩, fun j h0 h1 => by omega⟩, fun i _ hJ _ => ?_⟩
 obtain ⟨⟨i0, i1⟩, hz⟩ := hJ
 refine ⟨fun hi => ⟨i0, hi, fun _ _ _ _ _ => ⟨trivial, fun v hv => ⟨fun hn => no fun e => hn (hv.2 (e.2.2.2 i i0 hi)), fun hy => ?_⟩⟩⟩, fun hi => ⟨⟨fun _ => ⟨⟨by omega, by omega⟩, by omega, fun j j0 j1 => (hz j (by omega) (by omega)).2 j0, fun j j0 j1 => (hz j j0 (by omega)).1⟩, fun _ => by decide⟩, trivial⟩⟩
 have hr : rightAt two s i := hv.1 (Classical.not_not.1 hy)
 have nxt : (0 < i -> ¬ ltR s i s (i - 1)) -> Rng .i64 (i + 1) /\ ((0 <= i + 1 /\ i + 1 <= s.len) /\ ∀ j : Int, 0 <= j -> j < i + 1 -> rightAt two s j /\ (0 < j -> ¬ ltR s j s (j - 1))) /\ (s.len - (i + 1)).toNat < (s.len - i).toNat := fun hb => by
  refine ⟨by rw [rng64]; omega, ⟨⟨by omega, by omega⟩, fun j j0 j1 => ?_⟩, by omega⟩
  by_cases c : j < i
  ·exact hz j j0 c
  ·have : j = i := by omega
   subst this; exact ⟨hr, hb⟩
 refine ⟨fun hp => ⟨i0, hi, by rw [rng64]; omega, by omega, by omega, ?_⟩, fun hp => nxt fun h => absurd h hp⟩
 constructor <;>
 ·intro _ _ _ _ _ _ _ _ _ _
  refine ⟨trivial, fun w hw => ⟨fun h => no fun e => ?_, fun h => nxt fun _ g => h (hw.2 g)⟩⟩
  exact e.2.2.1 i hp hi (hw.1 h)
theorem tForce_ok : V_tForce := by
 intro n two s _ i _ known _ ⟨⟨i0, i1⟩, hl⟩
 have no : ¬ inForce s known i -> q_tForce n two s i known (decide False) /\ True := fun h => ⟨⟨fun e => by simp at e, fun e => absurd e h⟩, trivial⟩
 simp only [Bool.decide_eq_true]
 refine ⟨i0, i1, fun _ => ⟨fun h => no fun e => by have := e.2.1; omega, fun hk => ⟨by rw [rng64]; omega, ?_⟩⟩⟩
 refine ⟨fun k => (i < k /\ k <= s.len) /\ ∀ j : Int, i < j -> j < k -> s.int j 0 = s.int i 0 -> s.int j 1 = s.int i 1 -> known < s.int j 2, fun k => (s.len - k).toNat, ⟨⟨by omega, by omega⟩, fun j _ _ => by omega⟩, fun k _ hJ _ => ?_⟩
 obtain ⟨⟨k0, k1⟩, hz⟩ := hJ
 have nxt : k < s.len -> (s.int k 0 = s.int i 0 -> s.int k 1 = s.int i 1 -> known < s.int k 2) -> Rng .i64 (k + 1) /\ ((i < k + 1 /\ k + 1 <= s.len) /\ ∀ j : Int, i < j -> j < k + 1 -> s.int j 0 = s.int i 0 -> s.int j 1 = s.int i 1 -> known < s.int j 2) /\ (s.len - (k + 1)).toNat < (s.len - k).toNat := fun hk1 h => by
  refine ⟨by rw [rng64]; omega, ⟨⟨by omega, by omega⟩, fun j j0 j1 => ?_⟩, by omega⟩
  by_cases c : j < k
  ·exact hz j j0 c
  ·have : j = k := by omega
   subst this; exact h
 refine ⟨fun hk1 => ⟨by omega, hk1, fun _ => ⟨i0, i1, fun _ => ⟨fun e0 => ⟨by omega, hk1, fun _ => ⟨i0, i1, fun _ => ⟨fun e1 => ⟨by omega, hk1, fun _ => ⟨fun h => no fun e => ?_, fun h => nxt hk1 fun _ _ => by omega⟩⟩, fun e1 => nxt hk1 fun _ g => absurd g e1⟩⟩⟩, fun e0 => nxt hk1 fun g => absurd g e0⟩⟩⟩, fun hk1 => ⟨⟨fun _ => ⟨⟨i0, i1⟩, by omega, fun j j0 j1 => hz j j0 (by omega)⟩, fun _ => by decide⟩, trivial⟩⟩
 have := e.2.2 k k0 hk1 e0 e1
 omega
theorem fits_end {q : Rat} {nn dn : Bool} {nl dl : Sl} {F : Bool -> Sl -> Bool -> Sl -> Int -> Prop} (hF : ∀ nn nl dn dl e, resF q nn nl dn dl e -> F nn nl dn dl e) (h : IsQ q nn nl dn dl) (rn : Dig 65536 nl) (rd : Dig 65536 dl) :
  p_rFits nn nl dn dl /\ ∀ t : Bool, q_rFits nn nl dn dl t -> (¬ t = true -> F (decide False) Sl.nil (decide False) Sl.nil 3 /\ True) /\ (¬ ¬ t = true -> F nn nl dn dl 0 /\ True) :=
 ⟨trivial, fun t ht => ⟨fun hn => ⟨hF _ _ _ _ _ (resF_long h rn rd fun k => hn (ht.2 k)), trivial⟩, fun hy => ⟨hF _ _ _ _ _ (resF_ok h rn rd (ht.1 (Classical.not_not.1 hy)).1 (ht.1 (Classical.not_not.1 hy)).2), trivial⟩⟩⟩
theorem rOver_ok : V_rOver := by
 intro a b rb c d rd a' b' rb' c' d' rd' hp
 simp only [Bool.decide_eq_true] at hp ⊢
 obtain ⟨⟨h, h'⟩, hz⟩ := hp
 have l1 := h.2
 have l2 := h'.2
 refine ⟨⟨by unfold Lim; omega, by unfold Lim; omega⟩, fun t3 x3 r3 q3 => ⟨⟨by unfold Lim; omega, by unfold Lim; omega⟩, fun t4 x4 r4 q4 => ?_⟩⟩
 have y3 := times_len (k := 200000000) (ranged16 rb) (ranged16 rd') (ranged16 r3) q3.1 q3.2 (by omega)
 have y4 := times_len (k := 200000000) (ranged16 rd) (ranged16 rb') (ranged16 r4) q4.1 q4.2 (by omega)
 have hne : zv t4 x4 ≠ 0 := by rw [q4.2]; exact Int.mul_ne_zero (den_ne h.1) hz
 refine ⟨⟨q3.1, q4.1, by unfold Sm; omega, by unfold Sm; omega, pos_len (ranged16 r4) q4.1 hne⟩, fun nn nl rn dn dl rdl hq => ⟨?_, trivial⟩⟩
 have hq : IsQ (Rat.divInt (zv t3 x3) (zv t4 x4)) nn nl dn dl := hq
 have e : Rat.divInt (zv t3 x3) (zv t4 x4) = fq a b d / fq a' b' d' := by
  rw [q3.2, q4.2, h.fq_def, h'.fq_def, Rat.div_def, Rat.inv_divInt, Rat.divInt_mul_divInt]
 rw [e] at hq
 exact hq
theorem rZero_ok : V_rZero := by
 intro a b _ c d _ _ _
 refine ⟨?_, trivial⟩
 unfold q_rZero
 rw [decide_eq_true_eq]
theorem rAdd2_ok : V_rAdd2 := by
 intro a b rb c d rd a' b' rb' c' d' rd' _
 simp only [Bool.decide_eq_true]
 refine ⟨trivial, fun v hv => ⟨fun hn => ⟨⟨fun h => absurd (hv.2 h.1) hn, fun _ => ⟨zeroF_nil, rfl⟩⟩, trivial⟩, fun hy => ⟨trivial, fun w hw => ⟨fun hn => ⟨⟨fun h => absurd (hw.2 h.2) hn, fun _ => ⟨zeroF_nil, rfl⟩⟩, trivial⟩, fun hy' => ?_⟩⟩⟩⟩
 have h := hv.1 (Classical.not_not.1 hy)
 have h' := hw.1 (Classical.not_not.1 hy')
 exact ⟨⟨h.sm, h'.sm⟩, fun nn nl rn dn dl rdl hq => fits_end (F := fun nn nl dn dl e => q_rAdd2 a b c d a' b' c' d' nn nl dn dl e) (fun _ _ _ _ _ hr => ⟨fun _ => hr, fun k => absurd ⟨h, h'⟩ k⟩) hq (ranged16 rn) (ranged16 rdl)⟩
theorem rMul2_ok : V_rMul2 := by
 intro a b rb c d rd a' b' rb' c' d' rd' _
 simp only [Bool.decide_eq_true]
 refine ⟨trivial, fun v hv => ⟨fun hn => ⟨⟨fun h => absurd (hv.2 h.1) hn, fun _ => ⟨zeroF_nil, rfl⟩⟩, trivial⟩, fun hy => ⟨trivial, fun w hw => ⟨fun hn => ⟨⟨fun h => absurd (hw.2 h.2) hn, fun _ => ⟨zeroF_nil, rfl⟩⟩, trivial⟩, fun hy' => ?_⟩⟩⟩⟩
 have h := hv.1 (Classical.not_not.1 hy)
 have h' := hw.1 (Classical.not_not.1 hy')
 exact ⟨⟨h.sm, h'.sm⟩, fun nn nl rn dn dl rdl hq => fits_end (F := fun nn nl dn dl e => q_rMul2 a b c d a' b' c' d' nn nl dn dl e) (fun _ _ _ _ _ hr => ⟨fun _ => hr, fun k => absurd ⟨h, h'⟩ k⟩) hq (ranged16 rn) (ranged16 rdl)⟩
theorem rDiv2_ok : V_rDiv2 := by
 intro a b rb c d rd a' b' rb' c' d' rd' _
 simp only [Bool.decide_eq_true]
 refine ⟨trivial, fun v hv => ⟨fun hn => ⟨⟨fun h => absurd (hv.2 h.1) hn, fun _ => ⟨zeroF_nil, rfl⟩⟩, trivial⟩, fun hy => ⟨trivial, fun w hw => ⟨fun hn => ⟨⟨fun h => absurd (hw.2 h.2) hn, fun _ => ⟨zeroF_nil, rfl⟩⟩, trivial⟩, fun hy' => ⟨trivial, fun z hz => ?_⟩⟩⟩⟩⟩
 have h := hv.1 (Classical.not_not.1 hy)
 have h' := hw.1 (Classical.not_not.1 hy')
 have zz := fq_zero (ranged16 rb') h'.1
 refine ⟨fun hl => ⟨⟨fun _ => ⟨fun hn => absurd (zz.2 (hz.1 hl)) hn, fun _ => ⟨zeroF_nil, rfl⟩⟩, fun hn => absurd ⟨h, h'⟩ hn⟩, trivial⟩, fun hl => ?_⟩
 have hnz : fq a' b' d' ≠ 0 := fun h0 => hl (hz.2 (zz.1 h0))
 have hzn : zv a' b' ≠ 0 := by
  intro h0
  have := natAbs_zv (n := a') (ranged16 rb')
  exact hl (hz.2 ((val_zero_iff (B := 65536) (by decide) (ranged16 rb') h'.nw.1.1).1 (by show vl b' = 0; omega)))
 exact ⟨⟨⟨h.sm, h'.sm⟩, hzn⟩, fun nn nl rn dn dl rdl hq => fits_end (F := fun nn nl dn dl e => q_rDiv2 a b c d a' b' c' d' nn nl dn dl e) (fun _ _ _ _ _ hr => ⟨fun _ => ⟨fun _ => hr, fun h0 => absurd h0 hnz⟩, fun k => absurd ⟨h, h'⟩ k⟩) hq (ranged16 rn) (ranged16 rdl)⟩
end Go.Sx.N
set_option linter.unusedVariables false
set_option linter.unusedSimpArgs false
namespace Go.Sx.N
theorem rLook_ok : V_rLook := by
 intro n two s _ a _ known _ hn
 simp only [Bool.decide_eq_true]
 have s0 := len0 s
 have bad : ¬ (validT n two s /\ two = false) -> q_rLook n two s a known (decide False) Sl.nil (decide False) Sl.nil 2 /\ True := fun h => ⟨⟨fun _ => ⟨zeroF_nil, rfl⟩, fun k => absurd k h⟩, trivial⟩
 refine ⟨hn, fun v hv => ⟨fun h => bad fun k => h (hv.2 k.1), fun h1 => ⟨fun h => bad fun k => by rw [h] at k; exact absurd k.2 (by decide), fun h2 => ?_⟩⟩⟩
 have hV := hv.1 (Classical.not_not.1 h1)
 have h2 : two = false := by simpa using h2
 have hB : ∀ i : Int, 0 <= i -> i < s.len -> s.int i 1 = 0 := fun i i0 i1 => by
  rcases (hV.2.2.2 i i0 i1).2.2.1 with h | h
  ·rw [h2] at h; cases h
  ·exact h
 have h4 := hV.2.1
 refine ⟨fun x i => (0 <= i /\ i <= s.len) /\ ((x < 0 /\ ∀ k : Int, k < i -> inForce s known k -> ¬ s.int k 0 <= a) \/ ((0 <= x /\ x < i) /\ (inForce s known x /\ s.int x 0 <= a) /\ ∀ k : Int, k < i -> inForce s known k -> s.int k 0 <= a -> s.int k 0 <= s.int x 0)),
  fun _ i => (s.len - i).toNat, ⟨⟨Int.le_refl _, s0⟩, .inl ⟨by omega, fun k k1 hk => by have := hk.1.1; omega⟩⟩, fun x _ i _ ⟨⟨i0, i1⟩, hJ⟩ _ => ⟨fun hi => ⟨⟨⟨i0, hi⟩, h4⟩, fun w hw => ⟨fun hf => ?_, fun hf => ?_⟩⟩, fun hi => ?_⟩⟩
 ·have hf := hw.1 hf
  have take : (∀ k : Int, k < i -> inForce s known k -> s.int k 0 <= a -> s.int k 0 <= s.int i 0) -> s.int i 0 <= a -> Rng .i64 (i + 1) /\ ((0 <= i + 1 /\ i + 1 <= s.len) /\ ((i < 0 /\ ∀ k : Int, k < i + 1 -> inForce s known k -> ¬ s.int k 0 <= a) \/ ((0 <= i /\ i < i + 1) /\ (inForce s known i /\ s.int i 0 <= a) /\ ∀ k : Int, k < i + 1 -> inForce s known k -> s.int k 0 <= a -> s.int k 0 <= s.int i 0))) /\ (s.len - (i + 1)).toNat < (s.len - i).toNat := fun hz ha =>
   ⟨by rw [rng64]; omega, ⟨⟨by omega, by omega⟩, .inr ⟨⟨i0, by omega⟩, ⟨hf, ha⟩, fun k k1 hk ka => by
    by_cases c : k < i
    ·exact hz k c hk ka
    ·have : k = i := by omega
     subst this; exact Int.le_refl _⟩⟩, by omega⟩
  refine ⟨i0, hi, fun _ => ⟨fun ha => ⟨fun hx => take (fun k k1 hk ka => ?_) ha, fun hx => ?_⟩, fun ha => ⟨by rw [rng64]; omega, ⟨⟨by omega, by omega⟩, ?_⟩, by show (s.len - (i + 1)).toNat < (s.len - i).toNat; omega⟩⟩⟩
  ·rcases hJ with ⟨_, h⟩ | ⟨h, _⟩
   ·exact absurd ka (h k k1 hk)
   ·omega
  ·rcases hJ with ⟨h, _⟩ | ⟨⟨x0, x1⟩, hxf, hmax⟩
   ·exact absurd h hx
   refine ⟨i0, hi, fun _ => ⟨by omega, by omega, fun _ => ⟨fun hg => take (fun k k1 hk ka => ?_) ha, fun hg => ⟨by rw [rng64]; omega, ⟨⟨by omega, by omega⟩, .inr ⟨⟨x0, by omega⟩, hxf, fun k k1 hk ka => ?_⟩⟩, by show (s.len - (i + 1)).toNat < (s.len - i).toNat; omega⟩⟩⟩⟩
   ·have := hmax k k1 hk ka
    omega
   ·by_cases c : k < i
    ·exact hmax k c hk ka
    ·have : k = i := by omega
     subst this; omega
  ·rcases hJ with ⟨hx, h⟩ | ⟨⟨x0, x1⟩, hxf, hmax⟩
   ·refine .inl ⟨hx, fun k k1 hk => ?_⟩
    by_cases c : k < i
    ·exact h k c hk
    ·have : k = i := by omega
     subst this; exact ha
   ·refine .inr ⟨⟨x0, by omega⟩, hxf, fun k k1 hk ka => ?_⟩
    by_cases c : k < i
    ·exact hmax k c hk ka
    ·have : k = i := by omega
     subst this; exact absurd ka ha
 ·have hf : ¬ inForce s known i := fun g => hf (hw.2 g)
  refine ⟨by rw [rng64]; omega, ⟨⟨by omega, by omega⟩, ?_⟩, by show (s.len - (i + 1)).toNat < (s.len - i).toNat; omega⟩
  rcases hJ with ⟨hx, h⟩ | ⟨⟨x0, x1⟩, hxf, hmax⟩
  ·refine .inl ⟨hx, fun k k1 hk => ?_⟩
   by_cases c : k < i
   ·exact h k c hk
   ·have : k = i := by omega
    subst this; exact absurd hk hf
  ·refine .inr ⟨⟨x0, by omega⟩, hxf, fun k k1 hk ka => ?_⟩
   by_cases c : k < i
   ·exact hmax k c hk ka
   ·have : k = i := by omega
    subst this; exact absurd hk hf
 ·refine ⟨fun hx => ⟨⟨fun g => absurd ⟨hV, h2⟩ g, fun _ => ⟨fun _ => ⟨zeroF_nil, rfl⟩, fun k hk => ?_⟩⟩, trivial⟩, fun hx => ?_⟩
  ·rcases hJ with ⟨_, h⟩ | ⟨h, _⟩
   ·exact absurd hk.1.2 (h k (by have := hk.1.1.1.2; omega) hk.1.1)
   ·omega
  ·rcases hJ with ⟨h, _⟩ | ⟨⟨x0, x1⟩, hxf, hmax⟩
   ·exact absurd h hx
   have hc : candX s a known x := ⟨hxf, fun j hj ja => hmax j (by have := hj.1.2; omega) hj ja⟩
   refine ⟨by omega, by omega, fun _ _ => ⟨⟨fun g => absurd ⟨hV, h2⟩ g, fun _ => ⟨fun h => absurd hc (h x), fun k hk => ?_⟩⟩, trivial⟩⟩
   have e0 : s.int k 0 = s.int x 0 := by
    have a1 := hk.2 x hxf.1 hxf.2
    have a2 := hc.2 k hk.1.1 hk.1.2
    omega
   have : k = x := force_uniq hk.1.1 hxf.1 e0 (by rw [hB k hk.1.1.1.1 hk.1.1.1.2, hB x (by omega) (by omega)])
   subst this
   exact ⟨⟨⟨rfl, SameI.refl _⟩, rfl, SameI.refl _⟩, rfl⟩
end Go.Sx.N
set_option linter.unusedVariables false
set_option linter.unusedSimpArgs false
namespace Go.Sx.N
theorem few_years {a b : Int} {s : Sl} (h : yearsS a b s) : s.len <= 180 := by
 have := fY_bd a
 have := fY_bd b
 have := h.1
 unfold imax at this
 split at this <;> omega
theorem yGrow_ok : V_yGrow := by
 intro name two s rs a _ b _ known _ hp
 simp only [Bool.decide_eq_true]
 have hz : zeroF (decide False) Sl.nil (decide False) Sl.nil := ⟨rfl, rfl, rfl, rfl⟩
 have bad : ¬ okT name two s a b -> q_yGrow name two s a b known (decide False) Sl.nil (decide False) Sl.nil 2 /\ True := fun h => ⟨⟨fun _ => ⟨hz, rfl⟩, fun k => absurd k h⟩, trivial⟩
 refine ⟨trivial, fun ys _ ey _ hy => ⟨fun h => bad fun k => h (hy.2 k.2).2, fun h => ⟨hp, fun v hv => ⟨fun h1 => bad fun k => h1 (hv.2 k.1.1), fun h1 => ⟨fun h2 => bad (fun k => by have := k.1.2; rw [h2] at this; cases this), fun h2 => ?_⟩⟩⟩⟩⟩
 have hs : spanS a b := Classical.byContradiction fun k => by have := (hy.1 k).2; omega
 have hY := (hy.2 hs).1
 have ht : okT name two s a b := ⟨⟨hv.1 (Classical.not_not.1 h1), by simpa using h2⟩, hs⟩
 have hrow : ∀ i : Int, 0 <= i -> i < s.len -> okF (s.bool i 3) (s.sub i 4) (s.bool i 5) (s.sub i 6) := fun i i0 i1 => (ht.1.1.2.2.2 i i0 i1).2.2.2.2
 have fin : ∀ {x : GR} {nn dn : Bool} {nl dl : Sl} {e : Int}, growS s a b known = x -> resG x nn nl dn dl e -> q_yGrow name two s a b known nn nl dn dl e /\ True := fun hx hr => ⟨⟨fun k => absurd ht k, fun _ => by rw [hx]; exact hr⟩, trivial⟩
 have hl := few_years hY
 have y0 := len0 ys
 have hlen : (fY b - fY a).toNat = ys.len.toNat := by
  have := hY.1
  unfold imax at this
  split at this <;> omega
 refine ⟨trivial, fun on ol rol od ok rok h1 => ?_⟩
 refine ⟨fun i _ _ _ _ gn gl gd gk => (0 <= i /\ i <= ys.len) /\ ∃ q, grS s known (fY a) i.toNat = .ok q /\ IsQ q gn gl gd gk, fun i _ _ _ _ _ _ _ _ => (ys.len - i).toNat, ⟨⟨Int.le_refl _, y0⟩, 1, rfl, h1.1⟩, fun i _ t1 t2 rt2 t3 t4 rt4 gn gl rgl gd gk rgk hJ _ => ?_⟩
 obtain ⟨⟨i0, i1⟩, q, hq, hg⟩ := hJ
 have og : okF gn gl gd gk := hg.ok (ranged16 rgl) (ranged16 rgk) (grS_ok hq)
 refine ⟨fun hi => ⟨i0, hi, fun _ => ⟨hp, fun ln ll rll ld lk rlk e1 _ hk => ?_⟩⟩, fun hi => ?_⟩
 ·have hyi : ys.int i 0 = fY a + i := hY.2 i i0 hi
  have n4 : fY a + ((i.toNat : Nat) : Int) = ys.int i 0 := by rw [hyi]; omega
  have n3 : i.toNat + 1 <= (fY b - fY a).toNat := by omega
  have n5 : (i + 1).toNat = i.toNat + 1 := by omega
  have mid : ∀ {x : Int}, grS s known (fY a) (i.toNat + 1) = .err x -> growS s a b known = .err x := fun hx => grS_err hx n3
  rcases look_rate hk ht.1 hrow rll rlk with ⟨r1, _, r3⟩ | ⟨r, r1, r2, r3, r4, r5⟩
  ·exact ⟨fun he => fin (mid (grS_none hq (by rw [n4]; exact r1))) ⟨hz, r3⟩, fun h => by omega⟩
  refine ⟨fun h => absurd r5 h, fun _ => ?_⟩
  constructor <;>
  ·refine ⟨trivial, fun un ul rul ud uk ruk hu => ⟨trivial, fun an al ral ad ak rak e2 _ ha => ?_⟩⟩
   have ou : okF un ul ud uk := hu.1.ok (ranged16 rul) (ranged16 ruk) one_fit
   have hres := add_res ha hu.1 ou r2 r4
   by_cases hf : fitQ (1 + r)
   case neg =>
    obtain ⟨g1, g2⟩ := hres.2 hf
    exact ⟨fun he1 => fin (mid (grS_long1 hq (by rw [n4]; exact r1) hf)) ⟨hz, g2⟩, fun h => by omega⟩
   obtain ⟨f1, f2⟩ := hres.1 hf
   refine ⟨fun h => absurd f2 h, fun _ => ⟨trivial, fun mn ml rml md mk rmk e3 _ hm => ?_⟩⟩
   have hres := mul_res hm hg og f1 (f1.ok (ranged16 ral) (ranged16 rak) hf)
   by_cases hf2 : fitQ (q * (1 + r))
   case neg =>
    obtain ⟨g1, g2⟩ := hres.2 hf2
    exact ⟨fun he1 => fin (mid (grS_long2 hq (by rw [n4]; exact r1) hf hf2)) ⟨hz, g2⟩, fun h => by omega⟩
   obtain ⟨g1, g2⟩ := hres.1 hf2
   exact ⟨fun h => absurd g2 h, fun _ => ⟨by rw [rng64]; omega, ⟨⟨by omega, by omega⟩, q * (1 + r), by rw [n5]; exact grS_step hq (by rw [n4]; exact r1) hf hf2, g1⟩, by show (ys.len - (i + 1)).toNat < (ys.len - i).toNat; omega⟩⟩
 ·have e : (fY b - fY a).toNat = i.toNat := by omega
  refine fin (x := .ok q) ?_ ⟨hg, rfl⟩
  unfold growS
  rw [e]
  exact hq
theorem yRaise_ok : V_yRaise := by
 intro vn vl rvl vd vk rvk name two s rs a _ b _ known _ hp
 simp only [Bool.decide_eq_true]
 have hz : zeroF (decide False) Sl.nil (decide False) Sl.nil := ⟨rfl, rfl, rfl, rfl⟩
 refine ⟨trivial, fun v hv => ⟨fun h => ⟨⟨fun _ => ⟨hz, rfl⟩, fun k => absurd (hv.2 k.1) h⟩, trivial⟩, fun h => ⟨hp, fun gn gl rgl gd gk rgk e _ hg => ?_⟩⟩⟩
 have ov : okF vn vl vd vk := hv.1 (Classical.not_not.1 h)
 by_cases ht : okT name two s a b
 ·have g := hg.2 ht
  cases hgr : growS s a b known with
  | err x =>
   rw [hgr] at g
   have hx := grS_ne (n := (fY b - fY a).toNat) hgr
   have ge := g.2
   exact ⟨fun he => ⟨⟨fun k => absurd ⟨ov, ht⟩ k, fun _ => by rw [hgr]; exact ⟨hz, ge⟩⟩, trivial⟩, fun he => absurd (Classical.not_not.1 he) (by omega)⟩
  | ok q =>
   rw [hgr] at g
   refine ⟨fun he => absurd g.2 he, fun _ => ⟨trivial, fun cn cl _ cd ck _ f _ hm => ⟨⟨fun k => absurd ⟨ov, ht⟩ k, fun _ => ?_⟩, trivial⟩⟩⟩
   rw [hgr]
   exact mul_res hm ov.isQ ov g.1 (g.1.ok (ranged16 rgl) (ranged16 rgk) (grow_fit hgr))
 ·have g := hg.1 ht
  refine ⟨fun he => ⟨⟨fun _ => ⟨hz, g.2⟩, fun k => absurd k.2 ht⟩, trivial⟩, fun he => absurd (Classical.not_not.1 he) (by have := g.2; omega)⟩
theorem yLower_ok : V_yLower := by
 intro vn vl rvl vd vk rvk name two s rs a _ b _ known _ hp
 simp only [Bool.decide_eq_true]
 have hz : zeroF (decide False) Sl.nil (decide False) Sl.nil := ⟨rfl, rfl, rfl, rfl⟩
 refine ⟨trivial, fun v hv => ⟨fun h => ⟨⟨fun _ => ⟨hz, rfl⟩, fun k => absurd (hv.2 k.1) h⟩, trivial⟩, fun h => ⟨hp, fun gn gl rgl gd gk rgk e _ hg => ?_⟩⟩⟩
 have ov : okF vn vl vd vk := hv.1 (Classical.not_not.1 h)
 by_cases ht : okT name two s a b
 ·have g := hg.2 ht
  cases hgr : growS s a b known with
  | err x =>
   rw [hgr] at g
   have hx := grS_ne (n := (fY b - fY a).toNat) hgr
   have ge := g.2
   exact ⟨fun he => ⟨⟨fun k => absurd ⟨ov, ht⟩ k, fun _ => by rw [hgr]; exact ⟨hz, ge⟩⟩, trivial⟩, fun he => absurd (Classical.not_not.1 he) (by omega)⟩
  | ok q =>
   rw [hgr] at g
   refine ⟨fun he => absurd g.2 he, fun _ => ⟨trivial, fun cn cl _ cd ck _ f _ hm => ⟨⟨fun k => absurd ⟨ov, ht⟩ k, fun _ => ?_⟩, trivial⟩⟩⟩
   rw [hgr]
   have := hm.1 ⟨ov, g.1.ok (ranged16 rgl) (ranged16 rgk) (grow_fit hgr)⟩
   rw [g.1.fq] at this
   exact this
 ·have g := hg.1 ht
  refine ⟨fun he => ⟨⟨fun _ => ⟨hz, g.2⟩, fun k => absurd k.2 ht⟩, trivial⟩, fun he => absurd (Classical.not_not.1 he) (by have := g.2; omega)⟩
theorem zeroF_eq {a c a' c' : Bool} {b d b' d' : Sl} (h : zeroF a b c d) (g : zeroF a' b' c' d') : SameF a b c d a' b' c' d' := by
 obtain ⟨rfl, h2, rfl, h4⟩ := h
 obtain ⟨rfl, g2, rfl, g4⟩ := g
 exact ⟨⟨rfl, by rw [h2, g2], fun i i0 i1 => by omega⟩, rfl, by rw [h4, g4], fun i i0 i1 => by omega⟩
section
variable {a c a' c' : Bool} {b d b' d' : Sl} {e e' : Int}
theorem isQ_same (rb : Ranged b [some .u16]) (rd : Ranged d [some .u16]) (rb' : Ranged b' [some .u16]) (rd' : Ranged d' [some .u16]) {q : Rat} (h : IsQ q a b c d) (h' : IsQ q a' b' c' d') : SameF a b c d a' b' c' d' := h.same h' (ranged16 rb) (ranged16 rd) (ranged16 rb') (ranged16 rd')
theorem resG_same (rb : Ranged b [some .u16]) (rd : Ranged d [some .u16]) (rb' : Ranged b' [some .u16]) (rd' : Ranged d' [some .u16]) {g : GR} (h : resG g a b c d e) (h' : resG g a' b' c' d' e') : e = e' /\ SameF a b c d a' b' c' d' := by
 cases g with
 | ok q => exact ⟨h.2.trans h'.2.symm, isQ_same rb rd rb' rd' h.1 h'.1⟩
 | err x => exact ⟨h.2.trans h'.2.symm, zeroF_eq h.1 h'.1⟩
theorem resF_same (rb : Ranged b [some .u16]) (rd : Ranged d [some .u16]) (rb' : Ranged b' [some .u16]) (rd' : Ranged d' [some .u16]) {q : Rat} (h : resF q a b c d e) (h' : resF q a' b' c' d' e') : e = e' /\ SameF a b c d a' b' c' d' := by
 by_cases k : fitQ q
 ·exact ⟨(h.1 k).2.trans (h'.1 k).2.symm, isQ_same rb rd rb' rd' (h.1 k).1 (h'.1 k).1⟩
 ·exact ⟨(h.2 k).2.trans (h'.2 k).2.symm, zeroF_eq (h.2 k).1 (h'.2 k).1⟩
theorem growR_same (rb : Ranged b [some .u16]) (rd : Ranged d [some .u16]) (rb' : Ranged b' [some .u16]) (rd' : Ranged d' [some .u16]) {name : ByteArray} {two : Bool} {s : Sl} {x y known : Int} (h : growR name two s x y known a b c d e) (h' : growR name two s x y known a' b' c' d' e') : e = e' /\ SameF a b c d a' b' c' d' := by
 by_cases k : okT name two s x y
 ·exact resG_same rb rd rb' rd' (h.2 k) (h'.2 k)
 ·exact ⟨(h.1 k).2.trans (h'.1 k).2.symm, zeroF_eq (h.1 k).1 (h'.1 k).1⟩
theorem chgR_same {F : Rat -> Bool -> Sl -> Bool -> Sl -> Int -> Prop} (hF : ∀ q, F q a b c d e -> F q a' b' c' d' e' -> e = e' /\ SameF a b c d a' b' c' d') {vn vd : Bool} {vl vk : Sl} {name : ByteArray} {two : Bool} {s : Sl} {x y known : Int}
  (h : chgR F vn vl vd vk name two s x y known a b c d e) (h' : chgR F vn vl vd vk name two s x y known a' b' c' d' e') : e = e' /\ SameF a b c d a' b' c' d' := by
 by_cases k : okF vn vl vd vk /\ okT name two s x y
 ·have g := h.2 k
  have g' := h'.2 k
  cases hg : growS s x y known with
  | ok q => rw [hg] at g g'; exact hF q g g'
  | err z => rw [hg] at g g'; exact ⟨g.2.trans g'.2.symm, zeroF_eq g.1 g'.1⟩
 ·exact ⟨(h.1 k).2.trans (h'.1 k).2.symm, zeroF_eq (h.1 k).1 (h'.1 k).1⟩
theorem mulF_same (rb : Ranged b [some .u16]) (rd : Ranged d [some .u16]) (rb' : Ranged b' [some .u16]) (rd' : Ranged d' [some .u16]) {v : Rat} (q : Rat) (h : mulF v q a b c d e) (h' : mulF v q a' b' c' d' e') : e = e' /\ SameF a b c d a' b' c' d' := resF_same rb rd rb' rd' h h'
theorem divF_same (rb : Ranged b [some .u16]) (rd : Ranged d [some .u16]) (rb' : Ranged b' [some .u16]) (rd' : Ranged d' [some .u16]) {v : Rat} (q : Rat) (h : divF v q a b c d e) (h' : divF v q a' b' c' d' e') : e = e' /\ SameF a b c d a' b' c' d' := by
 by_cases k : q = 0
 ·exact ⟨(h.2 k).2.trans (h'.2 k).2.symm, zeroF_eq (h.2 k).1 (h'.2 k).1⟩
 ·exact resF_same rb rd rb' rd' (h.1 k) (h'.1 k)
end
theorem grows_ok : V_grows := by
 intro vn vl rvl vd vk rvk name two s rs a _ b _ known _ ⟨⟨hn, hb⟩, hr⟩
 simp only [Bool.decide_eq_true]
 refine ⟨hb, fun n' two' s' hq => ?_⟩
 obtain ⟨rfl, rfl, rfl⟩ := hq
 refine ⟨hr, fun vn' vl' vd' vk' hq => ?_⟩
 obtain ⟨rfl, rfl, rfl, rfl⟩ := hq
 refine ⟨hn, fun a1 b1 r1 c1 d1 t1 e1 _ h1 => ⟨hn, fun a2 b2 r2 c2 d2 t2 e2 _ h2 => ⟨hn, fun a3 b3 r3 c3 d3 t3 e3 _ h3 => ⟨hn, fun a4 b4 r4 c4 d4 t4 e4 _ h4 => ⟨hn, fun a5 b5 r5 c5 d5 t5 e5 _ h5 => ⟨hn, fun a6 b6 r6 c6 d6 t6 e6 _ h6 => ?_⟩⟩⟩⟩⟩⟩
 have s1 := growR_same r1 t1 r4 t4 h1 h4
 have s2 := chgR_same (mulF_same r2 t2 r5 t5) h2 h5
 have s3 := chgR_same (divF_same r3 t3 r6 t6) h3 h6
 exact ⟨fun h => absurd s1.1 h, fun _ => ⟨fun h => absurd s2.1 h, fun _ => ⟨fun h => absurd s3.1 h, fun _ => ⟨⟨rfl, rfl, rfl, hb⟩, fun x hx => ⟨fun h => absurd hx h, fun _ => ⟨⟨⟨rfl, rfl, rfl, rfl⟩, hr⟩, fun y hy => ⟨fun h => absurd hy h, fun _ => ⟨trivial, fun u hu => ⟨fun _ => ⟨trivial, fun v hv => ⟨fun _ => ⟨trivial, fun w hw => ⟨hw.2 s3.2, trivial⟩⟩, fun h => absurd (hv.2 s2.2) h⟩⟩, fun h => absurd (hu.2 s1.2) h⟩⟩⟩⟩⟩⟩⟩⟩⟩
end Go.Sx.N
