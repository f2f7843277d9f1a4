/-
 The reference of the tables, and of fractions that are added, multiplied, divided and rounded. Conditions: none.
-/
import Derived.Test.YtmhhcnaflklapaaGreatNumVR
import Derived.Test.YtmhhcnaflklapaaGreatArrFk
set_option linter.unusedVariables false
set_option linter.unusedSimpArgs false
namespace Go.Sx.N
theorem tRight_ok : V_tRight := by
 intro two a _ b _ k _ nn nl _ dn dl _ _
 simp only [Bool.decide_eq_true]
 have no : (rightS two a b k nn nl dn dl -> False) -> q_tRight two a b k nn nl dn dl (decide False) /\ True := fun h => ⟨⟨fun e => by simp at e, fun e => absurd e h⟩, trivial⟩
 refine ⟨fun h => no fun e => by have := e.1; omega, fun h1 => ⟨fun h => no fun e => by have := e.1; omega, fun h2 => ⟨fun h => no fun e => by have := e.2.1; omega, fun h3 => ⟨fun h => no fun e => by have := e.2.1; omega, fun h4 => ?_⟩⟩⟩⟩
 have core : (two = true \/ b = 0) -> ((k >= 0 -> (k < 65536 -> p_rValid2 nn nl dn dl /\ ∀ r : Bool, q_rValid2 nn nl dn dl r -> q_tRight two a b k nn nl dn dl r /\ True) /\ (¬ k < 65536 -> q_tRight two a b k nn nl dn dl (decide False) /\ True)) /\ (¬ k >= 0 -> q_tRight two a b k nn nl dn dl (decide False) /\ True)) := fun ht =>
  ⟨fun h0 => ⟨fun h1 => ⟨trivial, fun r hr => ⟨⟨fun e => ⟨⟨by omega, by omega⟩, ⟨by omega, by omega⟩, ht, ⟨h0, h1⟩, hr.1 e⟩, fun e => hr.2 e.2.2.2.2⟩, trivial⟩⟩, fun h1 => no fun e => by have := e.2.2.2.1; omega⟩, fun h0 => no fun e => by have := e.2.2.2.1; omega⟩
 exact ⟨fun ht => ⟨fun hb => no fun e => by rcases e.2.2.1 with h | h; exact ht h; exact hb h, fun hb => core (.inr (Classical.not_not.1 hb))⟩, fun ht => core (.inl (Classical.not_not.1 ht))⟩
theorem tBefore_ok : V_tBefore := by
 intro a _ b _ k _ nn nl _ dn dl _ a' _ b' _ k' _ nn' nl' _ dn' dl' _ _
 refine ⟨fun h => ⟨?_, trivial⟩, fun h => ⟨fun h' => ⟨?_, trivial⟩, fun h' => ⟨?_, trivial⟩⟩⟩ <;> (unfold q_tBefore ltK; rw [decide_eq_true_eq]; omega)
theorem rTValid_ok : V_rTValid := by
 intro n two s _ hn
 simp only [Bool.decide_eq_true]
 have s0 := len0 s
 have rn : Rng .i64 (ylen n) := by
  have h : ylen n <= 9223372036854775807 := hn
  have : 0 <= ylen n := Int.natCast_nonneg _
  rw [rng64]; omega
 have no : ¬ validT n two s -> q_rTValid n two s (decide False) /\ True := fun h => ⟨⟨fun e => by simp at e, fun e => absurd e h⟩, trivial⟩
 refine ⟨rn, fun h => no fun e => by have := e.1.1; omega, fun h1 => ⟨rn, fun h => no fun e => by have := e.1.2; omega, fun h2 _ => ⟨fun h => no fun e => by have := e.2.1; omega, fun h3 => ?_⟩⟩⟩
 refine ⟨fun i => (0 <= i /\ i <= s.len) /\ ∀ j : Int, 0 <= j -> j < i -> rightAt two s j /\ (0 < j -> ¬ ltR s j s (j - 1)), fun i => (s.len - i).toNat, ⟨⟨Int.le_refl _, s0⟩, fun j h0 h1 => by omega⟩, fun i _ hJ _ => ?_⟩
 obtain ⟨⟨i0, i1⟩, hz⟩ := hJ
 refine ⟨fun hi => ⟨i0, hi, fun _ _ _ _ _ => ⟨trivial, fun v hv => ⟨fun hn => no fun e => hn (hv.2 (e.2.2.2 i i0 hi)), fun hy => ?_⟩⟩⟩, fun hi => ⟨⟨fun _ => ⟨⟨by omega, by omega⟩, by omega, fun j j0 j1 => (hz j (by omega) (by omega)).2 j0, fun j j0 j1 => (hz j j0 (by omega)).1⟩, fun _ => by decide⟩, trivial⟩⟩
 have hr : rightAt two s i := hv.1 (Classical.not_not.1 hy)
 have nxt : (0 < i -> ¬ ltR s i s (i - 1)) -> Rng .i64 (i + 1) /\ ((0 <= i + 1 /\ i + 1 <= s.len) /\ ∀ j : Int, 0 <= j -> j < i + 1 -> rightAt two s j /\ (0 < j -> ¬ ltR s j s (j - 1))) /\ (s.len - (i + 1)).toNat < (s.len - i).toNat := fun hb => by
  refine ⟨by rw [rng64]; omega, ⟨⟨by omega, by omega⟩, fun j j0 j1 => ?_⟩, by omega⟩
  by_cases c : j < i
  ·exact hz j j0 c
  ·have : j = i := by omega
   subst this; exact ⟨hr, hb⟩
 refine ⟨fun hp => ⟨i0, hi, by rw [rng64]; omega, by omega, by omega, ?_⟩, fun hp => nxt fun h => absurd h hp⟩
 constructor <;>
 ·intro _ _ _ _ _ _ _ _ _ _
  refine ⟨trivial, fun w hw => ⟨fun h => no fun e => ?_, fun h => nxt fun _ g => h (hw.2 g)⟩⟩
  exact e.2.2.1 i hp hi (hw.1 h)
theorem tForce_ok : V_tForce := by
 intro n two s _ i _ known _ ⟨⟨i0, i1⟩, hl⟩
 have no : ¬ inForce s known i -> q_tForce n two s i known (decide False) /\ True := fun h => ⟨⟨fun e => by simp at e, fun e => absurd e h⟩, trivial⟩
 simp only [Bool.decide_eq_true]
 refine ⟨i0, i1, fun _ => ⟨fun h => no fun e => by have := e.2.1; omega, fun hk => ⟨by rw [rng64]; omega, ?_⟩⟩⟩
 refine ⟨fun k => (i < k /\ k <= s.len) /\ ∀ j : Int, i < j -> j < k -> s.int j 0 = s.int i 0 -> s.int j 1 = s.int i 1 -> known < s.int j 2, fun k => (s.len - k).toNat, ⟨⟨by omega, by omega⟩, fun j _ _ => by omega⟩, fun k _ hJ _ => ?_⟩
 obtain ⟨⟨k0, k1⟩, hz⟩ := hJ
 have nxt : k < s.len -> (s.int k 0 = s.int i 0 -> s.int k 1 = s.int i 1 -> known < s.int k 2) -> Rng .i64 (k + 1) /\ ((i < k + 1 /\ k + 1 <= s.len) /\ ∀ j : Int, i < j -> j < k + 1 -> s.int j 0 = s.int i 0 -> s.int j 1 = s.int i 1 -> known < s.int j 2) /\ (s.len - (k + 1)).toNat < (s.len - k).toNat := fun hk1 h => by
  refine ⟨by rw [rng64]; omega, ⟨⟨by omega, by omega⟩, fun j j0 j1 => ?_⟩, by omega⟩
  by_cases c : j < k
  ·exact hz j j0 c
  ·have : j = k := by omega
   subst this; exact h
 refine ⟨fun hk1 => ⟨by omega, hk1, fun _ => ⟨i0, i1, fun _ => ⟨fun e0 => ⟨by omega, hk1, fun _ => ⟨i0, i1, fun _ => ⟨fun e1 => ⟨by omega, hk1, fun _ => ⟨fun h => no fun e => ?_, fun h => nxt hk1 fun _ _ => by omega⟩⟩, fun e1 => nxt hk1 fun _ g => absurd g e1⟩⟩⟩, fun e0 => nxt hk1 fun g => absurd g e0⟩⟩⟩, fun hk1 => ⟨⟨fun _ => ⟨⟨i0, i1⟩, by omega, fun j j0 j1 => hz j j0 (by omega)⟩, fun _ => by decide⟩, trivial⟩⟩
 have := e.2.2 k k0 hk1 e0 e1
 omega
theorem rLook_ok : V_rLook := by
 intro n two s _ a _ known _ hn
 simp only [Bool.decide_eq_true]
 have s0 := len0 s
 have bad : ¬ (validT n two s /\ two = false) -> q_rLook n two s a known (decide False) Sl.nil (decide False) Sl.nil 2 /\ True := fun h => ⟨⟨fun _ => ⟨zeroF_nil, rfl⟩, fun k => absurd k h⟩, trivial⟩
 refine ⟨hn, fun v hv => ⟨fun h => bad fun k => h (hv.2 k.1), fun h1 => ⟨fun h => bad fun k => by rw [h] at k; exact absurd k.2 (by decide), fun h2 => ?_⟩⟩⟩
 have hV := hv.1 (Classical.not_not.1 h1)
 have h2 : two = false := by simpa using h2
 have hB : ∀ i : Int, 0 <= i -> i < s.len -> s.int i 1 = 0 := fun i i0 i1 => by
  rcases (hV.2.2.2 i i0 i1).2.2.1 with h | h
  ·rw [h2] at h; cases h
  ·exact h
 have h4 := hV.2.1
 refine ⟨fun x i => (0 <= i /\ i <= s.len) /\ ((x < 0 /\ ∀ k : Int, k < i -> inForce s known k -> ¬ s.int k 0 <= a) \/ ((0 <= x /\ x < i) /\ (inForce s known x /\ s.int x 0 <= a) /\ ∀ k : Int, k < i -> inForce s known k -> s.int k 0 <= a -> s.int k 0 <= s.int x 0)),
  fun _ i => (s.len - i).toNat, ⟨⟨Int.le_refl _, s0⟩, .inl ⟨by omega, fun k k1 hk => by have := hk.1.1; omega⟩⟩, fun x _ i _ ⟨⟨i0, i1⟩, hJ⟩ _ => ⟨fun hi => ⟨⟨⟨i0, hi⟩, h4⟩, fun w hw => ⟨fun hf => ?_, fun hf => ?_⟩⟩, fun hi => ?_⟩⟩
 ·have hf := hw.1 hf
  have take : (∀ k : Int, k < i -> inForce s known k -> s.int k 0 <= a -> s.int k 0 <= s.int i 0) -> s.int i 0 <= a -> Rng .i64 (i + 1) /\ ((0 <= i + 1 /\ i + 1 <= s.len) /\ ((i < 0 /\ ∀ k : Int, k < i + 1 -> inForce s known k -> ¬ s.int k 0 <= a) \/ ((0 <= i /\ i < i + 1) /\ (inForce s known i /\ s.int i 0 <= a) /\ ∀ k : Int, k < i + 1 -> inForce s known k -> s.int k 0 <= a -> s.int k 0 <= s.int i 0))) /\ (s.len - (i + 1)).toNat < (s.len - i).toNat := fun hz ha =>
   ⟨by rw [rng64]; omega, ⟨⟨by omega, by omega⟩, .inr ⟨⟨i0, by omega⟩, ⟨hf, ha⟩, fun k k1 hk ka => by
    by_cases c : k < i
    ·exact hz k c hk ka
    ·have : k = i := by omega
     subst this; exact Int.le_refl _⟩⟩, by omega⟩
  refine ⟨i0, hi, fun _ => ⟨fun ha => ⟨fun hx => take (fun k k1 hk ka => ?_) ha, fun hx => ?_⟩, fun ha => ⟨by rw [rng64]; omega, ⟨⟨by omega, by omega⟩, ?_⟩, by show (s.len - (i + 1)).toNat < (s.len - i).toNat; omega⟩⟩⟩
  ·rcases hJ with ⟨_, h⟩ | ⟨h, _⟩
   ·exact absurd ka (h k k1 hk)
   ·omega
  ·rcases hJ with ⟨h, _⟩ | ⟨⟨x0, x1⟩, hxf, hmax⟩
   ·exact absurd h hx
   refine ⟨i0, hi, fun _ => ⟨by omega, by omega, fun _ => ⟨fun hg => take (fun k k1 hk ka => ?_) ha, fun hg => ⟨by rw [rng64]; omega, ⟨⟨by omega, by omega⟩, .inr ⟨⟨x0, by omega⟩, hxf, fun k k1 hk ka => ?_⟩⟩, by show (s.len - (i + 1)).toNat < (s.len - i).toNat; omega⟩⟩⟩⟩
   ·have := hmax k k1 hk ka
    omega
   ·by_cases c : k < i
    ·exact hmax k c hk ka
    ·have : k = i := by omega
     subst this; omega
  ·rcases hJ with ⟨hx, h⟩ | ⟨⟨x0, x1⟩, hxf, hmax⟩
   ·refine .inl ⟨hx, fun k k1 hk => ?_⟩
    by_cases c : k < i
    ·exact h k c hk
    ·have : k = i := by omega
     subst this; exact ha
   ·refine .inr ⟨⟨x0, by omega⟩, hxf, fun k k1 hk ka => ?_⟩
    by_cases c : k < i
    ·exact hmax k c hk ka
    ·have : k = i := by omega
     subst this; exact absurd ka ha
 ·have hf : ¬ inForce s known i := fun g => hf (hw.2 g)
  refine ⟨by rw [rng64]; omega, ⟨⟨by omega, by omega⟩, ?_⟩, by show (s.len - (i + 1)).toNat < (s.len - i).toNat; omega⟩
  rcases hJ with ⟨hx, h⟩ | ⟨⟨x0, x1⟩, hxf, hmax⟩
  ·refine .inl ⟨hx, fun k k1 hk => ?_⟩
   by_cases c : k < i
   ·exact h k c hk
   ·have : k = i := by omega
    subst this; exact absurd hk hf
  ·refine .inr ⟨⟨x0, by omega⟩, hxf, fun k k1 hk ka => ?_⟩
   by_cases c : k < i
   ·exact hmax k c hk ka
   ·have : k = i := by omega
    subst this; exact absurd hk hf
 ·refine ⟨fun hx => ⟨⟨fun g => absurd ⟨hV, h2⟩ g, fun _ => ⟨fun _ => ⟨zeroF_nil, rfl⟩, fun k hk => ?_⟩⟩, trivial⟩, fun hx => ?_⟩
  ·rcases hJ with ⟨_, h⟩ | ⟨h, _⟩
   ·exact absurd hk.1.2 (h k (by have := hk.1.1.1.2; omega) hk.1.1)
   ·omega
  ·rcases hJ with ⟨h, _⟩ | ⟨⟨x0, x1⟩, hxf, hmax⟩
   ·exact absurd h hx
   have hc : candX s a known x := ⟨hxf, fun j hj ja => hmax j (by have := hj.1.2; omega) hj ja⟩
   refine ⟨by omega, by omega, fun _ _ => ⟨⟨fun g => absurd ⟨hV, h2⟩ g, fun _ => ⟨fun h => absurd hc (h x), fun k hk => ?_⟩⟩, trivial⟩⟩
   have e0 : s.int k 0 = s.int x 0 := by
    have a1 := hk.2 x hxf.1 hxf.2
    have a2 := hc.2 k hk.1.1 hk.1.2
    omega
   have : k = x := force_uniq hk.1.1 hxf.1 e0 (by rw [hB k hk.1.1.1.1 hk.1.1.1.2, hB x (by omega) (by omega)])
   subst this
   exact ⟨⟨⟨rfl, SameI_refl _⟩, rfl, SameI_refl _⟩, rfl⟩
theorem fits_end {q : Rat} {nn dn : Bool} {nl dl : Sl} {F : Bool -> Sl -> Bool -> Sl -> Int -> Prop} (hF : ∀ nn nl dn dl e, resF q nn nl dn dl e -> F nn nl dn dl e) (h : IsQ q nn nl dn dl) (rn : Dig 65536 nl) (rd : Dig 65536 dl) :
  p_rFits nn nl dn dl /\ ∀ t : Bool, q_rFits nn nl dn dl t -> (¬ t = true -> F (decide False) Sl.nil (decide False) Sl.nil 3 /\ True) /\ (¬ ¬ t = true -> F nn nl dn dl 0 /\ True) :=
 ⟨trivial, fun t ht => ⟨fun hn => ⟨hF _ _ _ _ _ (resF_long h rn rd fun k => hn (ht.2 k)), trivial⟩, fun hy => ⟨hF _ _ _ _ _ (resF_ok h rn rd (ht.1 (Classical.not_not.1 hy)).1 (ht.1 (Classical.not_not.1 hy)).2), trivial⟩⟩⟩
theorem rOver_ok : V_rOver := by
 intro a b rb c d rd a' b' rb' c' d' rd' hp
 simp only [Bool.decide_eq_true] at hp ⊢
 obtain ⟨⟨h, h'⟩, hz⟩ := hp
 have l1 := h.2
 have l2 := h'.2
 refine ⟨⟨by unfold Lim; omega, by unfold Lim; omega⟩, fun t3 x3 r3 q3 => ⟨⟨by unfold Lim; omega, by unfold Lim; omega⟩, fun t4 x4 r4 q4 => ?_⟩⟩
 have y3 := times_len (k := 200000000) (ranged16 rb) (ranged16 rd') (ranged16 r3) q3.1 q3.2 (by omega)
 have y4 := times_len (k := 200000000) (ranged16 rd) (ranged16 rb') (ranged16 r4) q4.1 q4.2 (by omega)
 have hne : zv t4 x4 ≠ 0 := by rw [q4.2]; exact Int.mul_ne_zero (den_ne h.1) hz
 refine ⟨⟨q3.1, q4.1, by unfold Sm; omega, by unfold Sm; omega, pos_len (ranged16 r4) q4.1 hne⟩, fun nn nl rn dn dl rdl hq => ⟨?_, trivial⟩⟩
 have hq : IsQ (Rat.divInt (zv t3 x3) (zv t4 x4)) nn nl dn dl := hq
 have e : Rat.divInt (zv t3 x3) (zv t4 x4) = fq a b d / fq a' b' d' := by
  rw [q3.2, q4.2, h.fq_def, h'.fq_def, Rat.div_def, Rat.inv_divInt, Rat.divInt_mul_divInt]
 rw [e] at hq
 exact hq
theorem rZero_ok : V_rZero := by
 intro a b _ c d _ _ _
 refine ⟨?_, trivial⟩
 unfold q_rZero
 rw [decide_eq_true_eq]
theorem rAdd2_ok : V_rAdd2 := by
 intro a b rb c d rd a' b' rb' c' d' rd' _
 simp only [Bool.decide_eq_true]
 refine ⟨trivial, fun v hv => ⟨fun hn => ⟨⟨fun h => absurd (hv.2 h.1) hn, fun _ => ⟨zeroF_nil, rfl⟩⟩, trivial⟩, fun hy => ⟨trivial, fun w hw => ⟨fun hn => ⟨⟨fun h => absurd (hw.2 h.2) hn, fun _ => ⟨zeroF_nil, rfl⟩⟩, trivial⟩, fun hy' => ?_⟩⟩⟩⟩
 have h := hv.1 (Classical.not_not.1 hy)
 have h' := hw.1 (Classical.not_not.1 hy')
 exact ⟨⟨h.sm, h'.sm⟩, fun nn nl rn dn dl rdl hq => fits_end (F := fun nn nl dn dl e => q_rAdd2 a b c d a' b' c' d' nn nl dn dl e) (fun _ _ _ _ _ hr => ⟨fun _ => hr, fun k => absurd ⟨h, h'⟩ k⟩) hq (ranged16 rn) (ranged16 rdl)⟩
theorem rMul2_ok : V_rMul2 := by
 intro a b rb c d rd a' b' rb' c' d' rd' _
 simp only [Bool.decide_eq_true]
 refine ⟨trivial, fun v hv => ⟨fun hn => ⟨⟨fun h => absurd (hv.2 h.1) hn, fun _ => ⟨zeroF_nil, rfl⟩⟩, trivial⟩, fun hy => ⟨trivial, fun w hw => ⟨fun hn => ⟨⟨fun h => absurd (hw.2 h.2) hn, fun _ => ⟨zeroF_nil, rfl⟩⟩, trivial⟩, fun hy' => ?_⟩⟩⟩⟩
 have h := hv.1 (Classical.not_not.1 hy)
 have h' := hw.1 (Classical.not_not.1 hy')
 exact ⟨⟨h.sm, h'.sm⟩, fun nn nl rn dn dl rdl hq => fits_end (F := fun nn nl dn dl e => q_rMul2 a b c d a' b' c' d' nn nl dn dl e) (fun _ _ _ _ _ hr => ⟨fun _ => hr, fun k => absurd ⟨h, h'⟩ k⟩) hq (ranged16 rn) (ranged16 rdl)⟩
theorem rDiv2_ok : V_rDiv2 := by
 intro a b rb c d rd a' b' rb' c' d' rd' _
 simp only [Bool.decide_eq_true]
 refine ⟨trivial, fun v hv => ⟨fun hn => ⟨⟨fun h => absurd (hv.2 h.1) hn, fun _ => ⟨zeroF_nil, rfl⟩⟩, trivial⟩, fun hy => ⟨trivial, fun w hw => ⟨fun hn => ⟨⟨fun h => absurd (hw.2 h.2) hn, fun _ => ⟨zeroF_nil, rfl⟩⟩, trivial⟩, fun hy' => ⟨trivial, fun z hz => ?_⟩⟩⟩⟩⟩
 have h := hv.1 (Classical.not_not.1 hy)
 have h' := hw.1 (Classical.not_not.1 hy')
 have zz := fq_zero (ranged16 rb') h'.1
 refine ⟨fun hl => ⟨⟨fun _ => ⟨fun hn => absurd (zz.2 (hz.1 hl)) hn, fun _ => ⟨zeroF_nil, rfl⟩⟩, fun hn => absurd ⟨h, h'⟩ hn⟩, trivial⟩, fun hl => ?_⟩
 have hnz : fq a' b' d' ≠ 0 := fun h0 => hl (hz.2 (zz.1 h0))
 have hzn : zv a' b' ≠ 0 := by
  intro h0
  have := natAbs_zv (n := a') (ranged16 rb')
  exact hl (hz.2 ((val_zero_iff (B := 65536) (by decide) (ranged16 rb') h'.nw.1.1).1 (by show vl b' = 0; omega)))
 exact ⟨⟨⟨h.sm, h'.sm⟩, hzn⟩, fun nn nl rn dn dl rdl hq => fits_end (F := fun nn nl dn dl e => q_rDiv2 a b c d a' b' c' d' nn nl dn dl e) (fun _ _ _ _ _ hr => ⟨fun _ => ⟨fun _ => hr, fun h0 => absurd h0 hnz⟩, fun k => absurd ⟨h, h'⟩ k⟩) hq (ranged16 rn) (ranged16 rdl)⟩
theorem neg_iff {a c : Bool} {b d : Sl} (h : okF a b c d) (rb : Ranged b [some .u16]) : a = true ↔ ¬ 0 <= fq a b d := by
 rw [<- Rat.num_nonneg, <- h.isQ.2.1]
 have hv0 : 0 <= vl b := ((ranged16 rb).bound (B := 65536) (by decide)).1
 have hz : vl b = 0 ↔ b.len = 0 := val_zero_iff (B := 65536) (by decide) (ranged16 rb) h.nw.1.1
 unfold zv
 constructor
 ·intro ha
  rw [if_pos ha]
  have : b.len ≠ 0 := fun h0 => by have := h.nw.1.2 h0; rw [this] at ha; exact absurd ha (by decide)
  have : vl b ≠ 0 := fun h0 => this (hz.1 h0)
  omega
 ·intro hn
  cases a
  ·exfalso; simp at hn; omega
  ·rfl
theorem rFactor_ok : V_rFactor := by
 intro a b rb c d rd a' b' rb' c' d' rd' mode rm hp
 simp only [Bool.decide_eq_true] at hp ⊢
 obtain ⟨⟨h, hu', hu⟩, rfl⟩ := hp
 have u1 : zv a' b' = 1 := hu.2.1
 have u2 : zv c' d' = 1 := hu.zd
 have l1 := h.2
 have l2 := hu'.2
 refine ⟨⟨by unfold Lim; omega, by unfold Lim; omega⟩, fun bn bt rbt hbt => ⟨⟨by unfold Lim; omega, by unfold Lim; omega⟩, fun tn t rt ht => ?_⟩⟩
 have hbz : zv bn bt = ((fq a b d).den : Int) := by rw [hbt.2, u1, h.isQ.zd, Int.mul_one]
 have hbl := times_len (k := 512) (ranged16 rd) (ranged16 rb') (ranged16 rbt) hbt.1 hbt.2 (by omega)
 have hb0 := pos_len (ranged16 rbt) hbt.1 (by rw [hbz]; have := (fq a b d).den_pos; omega)
 have htl := times_len (k := 512) (ranged16 rb) (ranged16 rd') (ranged16 rt) ht.1 ht.2 (by omega)
 refine ⟨⟨ht.1, hbt.1, by unfold Sm; omega, by unfold Sm; omega, hb0⟩, fun kn k rk rn r rr hq => ?_⟩
 obtain ⟨nk, nr, n3, n4, _⟩ := hq
 rw [ht.2, u2, Int.mul_one, h.isQ.2.1, hbz] at n3
 rw [hbz] at n4
 obtain ⟨r0, r1⟩ := n4 (by have := (fq a b d).den_pos; omega)
 obtain ⟨t3, t5a, t5b, t5c⟩ := round_by n3 r0 r1
 have hR : zv rn r = 0 ↔ r.len = 0 := by
  constructor
  ·intro hz
   have := natAbs_zv (n := rn) (ranged16 rr)
   exact (val_zero_iff (B := 65536) (by decide) (ranged16 rr) nr.1).1 (by show vl r = 0; omega)
  ·exact zv_zero
 have hrl : r.len <= 512 := by
  refine len_zv (ranged16 rr) nr (k := 512) ?_
  have := zv_len (n := bn) (ranged16 rbt) (k := 512) hbl
  rw [hbz] at this
  generalize (65536 : Int) ^ 512 = P at *
  omega
 have hkl : k.len <= 513 := by
  refine len_zv (ranged16 rk) nk (k := 513) ?_
  have h1 := zv_len (n := a) (ranged16 rb) (k := 512) (by have := h.2.1; omega)
  rw [h.isQ.2.1] at h1
  have h2 : (65536 : Int) ^ 513 = 65536 ^ 512 * 65536 := Int.pow_succ ..
  have h3 := pos_pow (B := 65536) (by decide) 512
  generalize (65536 : Int) ^ 513 = Q at *
  generalize (65536 : Int) ^ 512 = P at *
  have hd1 : (1 : Int) <= (fq a b d).den := by have := (fq a b d).den_pos; omega
  rcases Int.lt_or_le (zv kn k) 0 with hneg | hpos
  ·have : ((fq a b d).den : Int) * (zv kn k + 1) <= 1 * (zv kn k + 1) := Int.mul_le_mul_of_nonpos_right hd1 (show zv kn k + 1 <= 0 by omega)
   rw [Int.mul_add] at this
   omega
  ·have : 1 * zv kn k <= ((fq a b d).den : Int) * zv kn k := Int.mul_le_mul_of_nonneg_right hd1 hpos
   omega
 have hneg := neg_iff h rb
 have keep : roundQ (fq a b d) 5 = zv kn k -> q_rFactor a b c d a' b' c' d' 5 kn k /\ True := fun he => ⟨⟨⟨nk, he.symm⟩, by omega⟩, trivial⟩
 refine ⟨trivial, fun on o ro ho => ⟨⟨nk, ho.1, by unfold Lim; omega, by have := ho.2.2; unfold Lim; omega⟩, fun sn s rs hs _ => ?_⟩⟩
 have hsl := plus_len (ranged16 rk) (ranged16 ro) (ranged16 rs) hs.1 (k := 513) (.inl hs.2) hkl (by have := ho.2.2; omega)
 have inc : roundQ (fq a b d) 5 = zv kn k + 1 -> q_rFactor a b c d a' b' c' d' 5 sn s /\ True := fun he => ⟨⟨⟨hs.1, by rw [hs.2, ho.2.1, he]⟩, by omega⟩, trivial⟩
 refine ⟨fun hz => keep (t5a (by have := hR.2 hz; have := (fq a b d).den_pos; omega)), fun hz => ?_⟩
 refine ⟨fun v => v = false, ⟨fun k => absurd k (by decide), fun _ => ⟨fun k => absurd k (by decide), fun _ => by decide⟩⟩, fun v hv => ⟨fun k => absurd (hv.symm.trans k) (by decide), fun _ => ⟨fun k => absurd k (by decide), fun _ => ⟨⟨nr, nr, by unfold Lim; omega, by unfold Lim; omega⟩, fun dn dt rdt hdt => ?_⟩⟩⟩⟩
 have hdl := plus_len (ranged16 rr) (ranged16 rr) (ranged16 rdt) hdt.1 (k := 512) (.inl hdt.2) hrl hrl
 refine ⟨⟨hdt.1, hbt.1, by unfold Lim; omega, by unfold Lim; omega⟩, fun x _ hx => ⟨fun _ => True, fun _ => ⟨fun h0 => ⟨Int.le_refl _, h0, fun rk0 => ⟨by decide, ?_, trivial⟩⟩, fun _ => trivial⟩, fun v _ => ?_⟩⟩
 ·rw [rngu16] at rk0
  rw [Int.tmod_eq_emod_of_nonneg rk0.1]
  exact rngu16.2 (by omega)
 have hx : sgn (zv dn dt) (zv bn bt) x := hx
 rw [hdt.2, hbz] at hx
 refine ⟨fun u => u = true ↔ x > 0 \/ (x = 0 /\ ¬ a = true), ⟨fun h => ⟨fun _ => .inl h, fun _ => rfl⟩, fun h => ⟨fun h0 => ⟨fun _ => ⟨fun ha => ⟨fun _ => .inr ⟨h0, ha⟩, fun _ => rfl⟩, fun ha => ⟨fun k => absurd k (by decide), fun _ => ⟨fun k => absurd k Bool.false_ne_true, fun k => by rcases k with k | k; exact absurd k h; exact absurd k.2 ha⟩⟩⟩, fun k => absurd rfl k⟩, fun h0 => ⟨fun k => absurd k Bool.false_ne_true, fun k => by omega⟩⟩⟩, fun u hu => ⟨fun h => ?_, fun h => ?_⟩⟩
 ·rcases hu.1 h with k | ⟨k, ka⟩
  ·refine inc (t5b ?_)
   rcases hx with hx | hx | hx <;> omega
  ·refine inc ?_
   rw [t5c (by rcases hx with hx | hx | hx <;> omega), if_pos (Classical.not_not.1 fun g => ka (hneg.2 g))]
 ·have h : ¬ (x > 0 \/ (x = 0 /\ ¬ a = true)) := fun k => h (hu.2 k)
  rcases hx with hx | hx | hx
  ·exact keep (t5a hx.2)
  ·refine keep ?_
   rw [t5c hx.2, if_neg (hneg.1 (Classical.not_not.1 fun g => h (.inr ⟨hx.1, g⟩)))]
  ·omega
theorem rRound2_ok : V_rRound2 := by
 intro a b rb c d rd a' b' rb' c' d' rd' mode rm hp
 simp only [Bool.decide_eq_true] at hp ⊢
 obtain ⟨⟨hu, hul, hdl⟩, rfl⟩ := hp
 have u1 : zv a' b' = 1 := hu.2.1
 have u2 : zv c' d' = 1 := hu.zd
 have huok : okF a' b' c' d' := ⟨hu.lowF, hul, hdl⟩
 refine ⟨trivial, fun v hv => ⟨fun hn => ⟨⟨fun h => absurd (hv.2 h) hn, fun _ => ⟨zeroF_nil, rfl⟩⟩, trivial⟩, fun hy => ⟨trivial, fun w hw => ⟨fun hn => absurd (hw.2 huok) hn, fun _ => ⟨fun h => absurd h (by decide), fun _ => ⟨fun h => absurd h (by decide), fun _ => ⟨fun h => ?_, fun _ => ⟨trivial, fun z hz => ⟨fun h => ?_, fun _ => ?_⟩⟩⟩⟩⟩⟩⟩⟩⟩
 ·exfalso
  unfold zv at u1
  rw [if_pos h] at u1
  have : 0 <= vl b' := ((ranged16 rb').bound (B := 65536) (by decide)).1
  omega
 ·have := zv_zero (n := a') (hz.1 h)
  omega
 have h := hv.1 (Classical.not_not.1 hy)
 refine ⟨⟨⟨h, huok, hu⟩, rfl⟩, fun sn s rs hs => ?_⟩
 obtain ⟨⟨h1, h3⟩, h2⟩ := hs
 refine ⟨⟨by unfold Lim; omega, by unfold Lim; omega⟩, fun tn t rt ht => ?_⟩
 have htl := times_len (k := 1300) (ranged16 rs) (ranged16 rb') (ranged16 rt) ht.1 ht.2 (by omega)
 refine ⟨⟨ht.1, hu.nwd, by unfold Sm; omega, by unfold Sm; omega, hu.den_len (ranged16 rd')⟩, fun nn nl rn' dn dl rdl hq => ?_⟩
 have hq : IsQ (Rat.divInt (zv tn t) (zv c' d')) nn nl dn dl := hq
 rw [ht.2, u1, u2, Int.mul_one, h3, intCast_divInt] at hq
 exact fits_end (F := fun nn nl dn dl e => q_rRound2 a b c d a' b' c' d' 5 nn nl dn dl e) (fun _ _ _ _ _ hr => ⟨fun _ => hr, fun hn => absurd h hn⟩) hq (ranged16 rn') (ranged16 rdl)
end Go.Sx.N
