/-
 The sum of rates from the first month on (slow). Conditions: none.
-/
import Derived.Test.YtmhhcnaflklapaaGreatArrFd
set_option linter.unusedVariables false
set_option linter.unusedSimpArgs false
namespace Go.Sx.N
section
variable {s : Sl} {known due : Int}
theorem sum_err {e : Int} {n : Nat} (h : sumS s known due n = .err e) : ∀ {m : Nat}, n <= m -> sumS s known due m = .err e
  | 0, hm => by have : n = 0 := by omega
                subst this; exact h
  | m + 1, hm => by
    by_cases k : n = m + 1
    · subst k; exact h
    · have := sum_err h (m := m) (by omega)
      unfold sumS
      rw [this]
theorem sum_none {n : Nat} {q : Rat} (h : sumS s known due n = .ok q) (hr : rateO s known (1900 + (due + n) / 12) = none) : sumS s known due (n + 1) = .err 6 := by
 unfold sumS
 rw [h]
 simp only [hr]
theorem sum_long {n : Nat} {q r : Rat} (h : sumS s known due n = .ok q) (hr : rateO s known (1900 + (due + n) / 12) = some r) (hf : ¬ fitQ (q + r)) : sumS s known due (n + 1) = .err 3 := by
 unfold sumS
 rw [h]
 simp only [hr]
 exact if_neg hf
theorem sum_step {n : Nat} {q r : Rat} (h : sumS s known due n = .ok q) (hr : rateO s known (1900 + (due + n) / 12) = some r) (hf : fitQ (q + r)) : sumS s known due (n + 1) = .ok (q + r) := by
 unfold sumS
 rw [h]
 simp only [hr]
 exact if_pos hf
end
theorem g0_ok {x : Int} {K : Int -> Int -> ByteArray -> Bool -> Sl -> Int -> Int -> Sl -> Sl -> Int -> Prop} {y : ByteArray} {b : Bool} {s : Sl} {k p : Int} {yr su : Sl} {l : Int} {J : Int -> Int -> ByteArray -> Bool -> Sl -> Int -> Int -> Sl -> Sl -> Int -> Bool -> Sl -> Bool -> Sl -> Prop} (h : x ≠ 0 -> K 0 x y b s k p yr su l) : G_0 x K y b s k p yr su l J := by
 unfold G_0
 simp only [Bool.decide_eq_true]
 exact fun h0 => ⟨fun _ => h h0, fun k => absurd h0 k⟩
def JR (C : ByteArray -> Bool -> Sl -> Int -> Int -> Sl -> Sl -> Int -> Prop) (g : GR) : Int -> Int -> ByteArray -> Bool -> Sl -> Int -> Int -> Sl -> Sl -> Int -> Bool -> Sl -> Bool -> Sl -> Prop :=
 fun _ _ nm tw rows kn pd yrs sums lst a b c d => C nm tw rows kn pd yrs sums lst /\ ∃ q, g = .ok q /\ IsQ q a b c d /\ okF a b c d
theorem sum_add {s : Sl} {known due paid m : Int} {q r : Rat} {a c a' c' nn dn : Bool} {b d b' d' nl dl : Sl} {e : Int} (h1 : due <= m) (h2 : m < paid) (hq : sumS s known due (m - due).toNat = .ok q) (iq : IsQ q a b c d) (oq : okF a b c d)
  (hr : rateO s known (1900 + m / 12) = some r) (ir : IsQ r a' b' c' d') (or' : okF a' b' c' d') (h : q_fAdd a b c d a' b' c' d' nn nl dn dl e) (rl : Ranged nl [some .u16]) (rd : Ranged dl [some .u16]) :
  (e = 0 /\ ∃ q', sumS s known due (m + 1 - due).toNat = .ok q' /\ IsQ q' nn nl dn dl /\ okF nn nl dn dl) \/ (e = 3 /\ sumS s known due (paid - due).toNat = .err 3) := by
 have hm : due + ((m - due).toNat : Int) = m := by omega
 have hs : (m + 1 - due).toNat = (m - due).toNat + 1 := by omega
 have h := add_res h iq oq ir or'
 by_cases f : fitQ (q + r)
 ·obtain ⟨i, e0⟩ := h.1 f
  exact .inl ⟨e0, q + r, by rw [hs]; exact sum_step hq (by rw [hm]; exact hr) f, i, i.ok (ranged16 rl) (ranged16 rd) f⟩
 ·obtain ⟨_, e3⟩ := h.2 f
  exact .inr ⟨e3, sum_err (sum_long hq (by rw [hm]; exact hr) f) (by omega)⟩
theorem slow_ok {K : Int -> Int -> ByteArray -> Bool -> Sl -> Int -> Int -> Sl -> Sl -> Int -> Prop} {name : ByteArray} {two : Bool} {s : Sl} {known due paid : Int} {yrs sums : Sl} {lst : Int} (hv : validT name two s /\ two = false) (hn : okN name) (hd : 0 <= due /\ due <= paid /\ paid <= 2400)
  (hS : St name two s known paid name two s known paid yrs sums lst)
  (hE : ∀ (e : Int) (nm : ByteArray) (tw : Bool) (rows : Sl) (kn pd : Int) (yrs sums : Sl) (lst : Int), Rng .i64 e -> St name two s known paid nm tw rows kn pd yrs sums lst -> sumS s known due (paid - due).toNat = .err e -> K 0 e nm tw rows kn pd yrs sums lst) :
  G_1 due name two s known paid yrs sums lst K (JR (St name two s known paid) (sumS s known due (paid - due).toNat)) := by
 unfold G_1
 simp only [Bool.decide_eq_true]
 have hrow : ∀ i : Int, 0 <= i -> i < s.len -> okF (s.bool i 3) (s.sub i 4) (s.bool i 5) (s.sub i 6) := fun i i0 i1 => (hv.1.2.2.2 i i0 i1).2.2.2.2
 have f0 : fitQ 0 := int_fitA (n := 0) (by decide)
 refine ⟨trivial, fun zn zl rzl zd zk rzk hz => ⟨fun m nm tw rows kn pd yrs sums lst _ _ _ _ a b c d => St name two s known paid nm tw rows kn pd yrs sums lst /\ (due <= m /\ m <= paid) /\ ∃ q, sumS s known due (m - due).toNat = .ok q /\ IsQ q a b c d /\ okF a b c d,
  fun m _ _ _ _ _ _ _ _ _ _ _ _ _ _ _ _ => (paid - m).toNat, ⟨hS, ⟨by omega, hd.2.1⟩, 0, by rw [show (due - due).toNat = 0 by omega]; rfl, hz.1, ⟨⟨_, hz.1⟩, by have := hz.2.1; omega, by have := hz.2.2; omega⟩⟩, ?_⟩⟩
 intro m rm nm tw rows rr kn rk pd rp yrs sums lst rl u1 u2 ru2 u3 u4 ru4 a b rb c d rd ⟨hS, ⟨m0, m1⟩, q, hq, iq, oq⟩
 obtain ⟨⟨rfl, rfl, rfl, rfl, rfl⟩, hy, hsm⟩ := hS
 have hS : ∀ {yrs : Sl}, yearsM rows kn yrs -> St nm tw rows kn pd nm tw rows kn pd yrs sums lst := fun h => ⟨⟨rfl, rfl, rfl, rfl, rfl⟩, h, hsm⟩
 have td : Int.tdiv m 12 = m / 12 := Int.tdiv_eq_ediv_of_nonneg (by omega)
 rw [td]
 refine ⟨fun hm => ⟨by decide, by rw [rng64]; omega, by rw [rng64]; omega, fun ry rz => ⟨fun hh => ⟨fun k => absurd rfl k, fun _ => ?_⟩, fun hh => ⟨hn, fun vn vl rvl vd vk rvk e re hl => ?_⟩⟩⟩, fun hm => ⟨fun k => absurd rfl k, fun _ => ⟨hS hy, q, by rw [show pd = m by omega]; exact hq, iq, oq⟩⟩⟩
 ·obtain ⟨r, hr, ir, or'⟩ := hy _ hh
  refine ⟨fun e a b c d => (e = 0 /\ ∃ q', sumS rows kn due (m + 1 - due).toNat = .ok q' /\ IsQ q' a b c d /\ okF a b c d) \/ (e = 3 /\ sumS rows kn due (pd - due).toNat = .err 3), ⟨trivial, fun nn nl rnl dn dl rdl e _ h => sum_add m0 hm hq iq oq hr ir or' h rnl rdl⟩, fun e re nn nl rnl dn dl rdl h => ⟨g0_ok fun he => ?_, fun he => ?_⟩⟩
  ·rcases h with ⟨e0, _⟩ | ⟨e3, h⟩
   ·exact absurd e0 he
   ·rw [e3]; exact hE _ _ _ _ _ _ _ _ _ (by rw [rng64]; omega) (hS hy) h
  ·rcases h with ⟨_, h⟩ | ⟨e3, _⟩
   ·exact ⟨by rw [rng64]; omega, ⟨hS hy, ⟨by omega, by omega⟩, h⟩, by show (pd - (m + 1)).toNat < (pd - m).toNat; omega⟩
   ·omega
 ·have hm' : due + ((m - due).toNat : Int) = m := by omega
  refine ⟨fun nm' tw' rows' kn' pd' yrs sums lst => St nm tw rows kn pd nm' tw' rows' kn' pd' yrs sums lst, ⟨fun he => hS ?_, fun _ => hS hy⟩, fun nm' tw' rows' _ kn' _ pd' _ yrs' sums' lst' _ hS' => ⟨g0_ok fun he => ?_, fun he => ?_⟩⟩
  ·rcases look_rate hl hv hrow rvl rvk with ⟨_, _, e6⟩ | ⟨r, hr, ir, _, or', _⟩
   ·omega
   ·exact years_set hy hr ir or'
  ·rcases look_rate hl hv hrow rvl rvk with ⟨hr, _, e6⟩ | ⟨_, _, _, _, _, e0⟩
   ·rw [e6]; exact hE _ _ _ _ _ _ _ _ _ (by rw [rng64]; omega) hS' (sum_err (sum_none hq (by rw [hm']; exact hr)) (by omega))
   ·exact absurd e0 he
  ·rcases look_rate hl hv hrow rvl rvk with ⟨_, _, e6⟩ | ⟨r, hr, ir, _, or', _⟩
   ·omega
   ·refine ⟨fun e a b c d => (e = 0 /\ ∃ q', sumS rows kn due (m + 1 - due).toNat = .ok q' /\ IsQ q' a b c d /\ okF a b c d) \/ (e = 3 /\ sumS rows kn due (pd - due).toNat = .err 3), ⟨trivial, fun nn nl rnl dn dl rdl e _ h => sum_add m0 hm hq iq oq hr ir or' h rnl rdl⟩, fun e re nn nl rnl dn dl rdl h => ⟨g0_ok fun he => ?_, fun he => ?_⟩⟩
    ·rcases h with ⟨e0, _⟩ | ⟨e3, h⟩
     ·exact absurd e0 he
     ·rw [e3]; exact hE _ _ _ _ _ _ _ _ _ (by rw [rng64]; omega) hS' h
    ·rcases h with ⟨_, h⟩ | ⟨e3, _⟩
     ·exact ⟨by rw [rng64]; omega, ⟨hS', ⟨by omega, by omega⟩, h⟩, by show (pd - (m + 1)).toNat < (pd - m).toNat; omega⟩
     ·omega
end Go.Sx.N
