/-
 The statements' helpers. Conditions: none.
-/
import Derived.Test.YtmhhcnaflklapaaGreatArrFh
set_option linter.unusedVariables false
set_option linter.unusedSimpArgs false
namespace Go.Sx.N
theorem Settle_ok : V_Settle := by
 intro st _ d _ p _ day _ m _ name two s _ known _ hp
 simp only [Bool.decide_eq_true]
 refine ⟨hp, fun r rr e re h => ⟨fun he => ⟨⟨r, e, h, fun _ => ⟨⟨rfl, rfl, rfl⟩, rfl⟩, fun k => absurd k he⟩, trivial⟩, fun he => ?_⟩⟩
 have he := Classical.not_not.1 he
 have hlen : r.len <= 1000000 := by
  by_cases ho : okO st d p day m name two s
  ·have := h.2 ho
   cases hr : oweR s known st d p day m d.n with
   | err x => rw [hr] at this; rw [this.1]; omega
   | ok l =>
    rw [hr] at this
    have hl : ∀ n : Nat, ∀ l, oweR s known st d p day m n = .ok l -> l.length <= 2 * n := fun n => by
     induction n with
     | zero => intro l h; simp only [oweR, OR.ok.injEq] at h; subst h; simp
     | succ n ih =>
      intro l h
      simp only [oweR] at h
      cases hn : oweR s known st d p day m n with
      | err e => rw [hn] at h; cases h
      | ok l0 =>
       rw [hn] at h
       have i0 := ih l0 hn
       have h : (if lateP st d p m n then oweAdd s known day m (st + n) (openS st d p (st + n)) l0 else .ok l0) = .ok l := h
       split at h
       ·unfold oweAdd at h
        split at h
        ·cases h
        ·split at h
         ·cases h
         ·cases h
          unfold oweRow
          split <;> simp <;> omega
       ·cases h; omega
    have := hl d.n l hr
    have e := ‹resO (.ok l) r e›.1.1
    have := ho.1.1.1.2.2.1
    rw [e, len_lit]
    unfold Sl.len at *; omega
  ·rw [(h.1 ho).1]; omega
 exact ⟨hlen, fun st' _ d' _ p' _ e' _ hq => ⟨⟨r, e, h, fun k => absurd he k, fun _ => hq⟩, trivial⟩⟩
theorem part_ok : V_part := by
 intro n _ d _ _
 simp only [Bool.decide_eq_true]
 exact ⟨trivial, fun a b _ c e _ h => ⟨h, trivial⟩⟩
theorem rowI_of {s t : Sl} {i k y kn : Int} {q : Rat} (h : rowI s i y kn q) (e : t.f k.toNat = s.f i.toNat) : rowI t k y kn q := by
 unfold rowI Sl.int Sl.bool Sl.sub at *
 rw [e]; exact h
theorem row_lit {n d : Int} {q : Rat} {a c : Bool} {b e : Sl} (h : q_part n d a b c e) (hq : fracQ n d = q) : okF a b c e /\ fq a b e = q := by
 have i : IsQ (fracQ n d) a b c e := h.1
 exact ⟨⟨⟨_, i⟩, by have := h.2.1; omega, by have := h.2.2; omega⟩, by rw [<- hq]; exact i.fq⟩
theorem rates_ok : V_rates := by
 intro t rt _
 simp only [Bool.decide_eq_true]
 have t0 := len0 t
 have m0 : 0 <= imin t.len 8 /\ imin t.len 8 <= 8 /\ imin t.len 8 <= t.len := by unfold imin; split <;> omega
 have pl : (Sl.part t 0 (imin t.len 8)).len = imin t.len 8 := by
  show (((imin t.len 8 - 0).toNat : Nat) : Int) = _; omega
 have pi : ∀ i : Int, (Sl.part t 0 (imin t.len 8)).int i 0 = t.int i 0 := fun i => by unfold Sl.int; rw [f_part0]
 refine ⟨trivial, fun a b rb c e re h0 st => ⟨by omega, by omega, by omega, fun sp => ?_⟩⟩
 rw [pl]
 simp only [pi]
 refine ⟨fun i y two s => (0 <= i /\ i <= imin t.len 8) /\ y = ratesN /\ two = false /\ s.len = 1 + i /\ rowI s 0 0 0 0 /\ ∀ j : Int, 0 <= j -> j < i -> rowI s (1 + j) (1990 + j) 0 (Rat.divInt (t.int j 0) 1000), fun i _ _ _ => (imin t.len 8 - i).toNat, ⟨⟨by omega, by omega⟩, rfl, by simp, rfl, ?_, fun j j0 j1 => by omega⟩, ?_⟩
 ·exact ⟨rfl, rfl, rfl, row_lit h0 (by decide +kernel)⟩
 ·rintro i _ y two s rs ⟨⟨i0, i1⟩, hy, htw, hl, hr, hrs⟩
  have core : ∀ (a c : Bool) (b e : Sl), i < imin t.len 8 -> q_part (t.int i 0) 1000 a b c e -> (s.len + (Sl.lit [[D.int (1990 + i), .int 0, .int 0, .bool a, Sl.d b, .bool c, Sl.d e]]).len) * 88 <= 140737488355328 /\ Rng .i64 (i + 1) /\
    (((0 <= i + 1 /\ i + 1 <= imin t.len 8) /\ y = ratesN /\ two = false /\ (Sl.app s (Sl.lit [[D.int (1990 + i), .int 0, .int 0, .bool a, Sl.d b, .bool c, Sl.d e]])).len = 1 + (i + 1) /\ rowI (Sl.app s (Sl.lit [[D.int (1990 + i), .int 0, .int 0, .bool a, Sl.d b, .bool c, Sl.d e]])) 0 0 0 0 /\
     ∀ j : Int, 0 <= j -> j < i + 1 -> rowI (Sl.app s (Sl.lit [[D.int (1990 + i), .int 0, .int 0, .bool a, Sl.d b, .bool c, Sl.d e]])) (1 + j) (1990 + j) 0 (Rat.divInt (t.int j 0) 1000)) /\ (imin t.len 8 - (i + 1)).toNat < (imin t.len 8 - i).toNat) := fun a c b e hi h => by
   have ll : (Sl.lit [[D.int (1990 + i), .int 0, .int 0, .bool a, Sl.d b, .bool c, Sl.d e]]).len = 1 := rfl
   refine ⟨by rw [ll]; omega, by rw [rng64]; omega, ⟨⟨by omega, by omega⟩, hy, htw, by rw [len_app, ll]; omega, rowI_of hr (f_app_lt (by omega) (by omega)), fun j j0 j1 => ?_⟩, by omega⟩
   by_cases ej : j = i
   ·subst ej
    have := app_new (a := s) (l := [D.int (1990 + j), .int 0, .int 0, .bool a, Sl.d b, .bool c, Sl.d e]) (i := 1 + j) (by omega)
    unfold rowI Sl.int Sl.bool Sl.sub
    rw [this]
    exact ⟨rfl, rfl, rfl, row_lit h (by unfold fracQ; rw [if_neg (by omega)]; rfl)⟩
   ·exact rowI_of (hrs j j0 (by omega)) (f_app_lt (by omega) (by omega))
  refine ⟨fun hi => ⟨i0, hi, fun ri => ⟨by rw [rng64]; omega, ?_⟩⟩, fun hi => ⟨⟨hy, htw, by omega, hr, fun j j0 j1 => hrs j j0 (by omega)⟩, trivial⟩⟩
  exact ⟨⟨trivial, fun a b _ c e _ h => core a c b e hi h⟩, trivial, fun a b _ c e _ h => ⟨core a c b e hi h, core a c b e hi h⟩⟩
theorem yearly_ok : V_yearly := by
 intro _
 simp only [Bool.decide_eq_true]
 refine ⟨trivial, fun a b rb c e re h0 => ⟨trivial, fun a' b' rb' c' e' re' h1 => ⟨⟨rfl, by simp, rfl, ⟨rfl, rfl, rfl, row_lit h0 (by decide +kernel)⟩, ⟨rfl, rfl, rfl, row_lit h1 (by decide +kernel)⟩⟩, trivial⟩⟩⟩
theorem lPosted_ok : V_lPosted := fun _ => ⟨⟨rfl, rfl, rfl⟩, trivial⟩
theorem paids_ok : V_paids := by
 intro p q _ sm _
 have sm := small64 sm
 have no : ¬ eqPosts p q -> q_paids p q (decide False) /\ True := fun h => ⟨by simp [q_paids, h], trivial⟩
 refine ⟨fun h => no fun k => h k.1, fun h _ => ?_⟩
 have h := Classical.not_not.1 h
 refine ⟨fun i => (0 <= i /\ i <= p.len) /\ ∀ k : Int, 0 <= k -> k < i -> eqAt p k q k, fun i => (p.len - i).toNat, ⟨⟨Int.le_refl _, len0 p⟩, fun k k0 k1 => by omega⟩, fun i _ hJ => ?_⟩
 obtain ⟨⟨i0, i1⟩, hk⟩ := hJ
 refine ⟨fun hi => ⟨i0, hi, fun _ _ _ _ => ⟨i0, by omega, fun _ _ _ _ => ⟨fun g => no fun k => g (k.2 i i0 hi), fun g => ⟨by rw [rng64]; omega, ⟨⟨by omega, by omega⟩, fun k k0 k1 => ?_⟩, by show (p.len - (i + 1)).toNat < (p.len - i).toNat; omega⟩⟩⟩⟩, fun hi => ⟨?_, trivial⟩⟩
 ·by_cases e : k = i
  ·rw [e]; exact Classical.not_not.1 g
  ·exact hk k k0 (by omega)
 ·simp only [q_paids, decide_true, true_iff]
  exact ⟨h, fun k k0 k1 => hk k k0 (by omega)⟩
theorem ints_ok : V_ints := by
 intro p _ q _ _ sm _
 have sm := small64 sm
 have no : ¬ SameI p q -> q_ints p q (decide False) /\ True := fun h => ⟨by simp [q_ints, h], trivial⟩
 refine ⟨fun h => no fun k => h k.1, fun h _ => ?_⟩
 have h := Classical.not_not.1 h
 refine ⟨fun i => (0 <= i /\ i <= p.len) /\ ∀ k : Int, 0 <= k -> k < i -> p.int k 0 = q.int k 0, fun i => (p.len - i).toNat, ⟨⟨Int.le_refl _, len0 p⟩, fun k k0 k1 => by omega⟩, fun i _ hJ => ?_⟩
 obtain ⟨⟨i0, i1⟩, hk⟩ := hJ
 refine ⟨fun hi => ⟨i0, hi, fun _ => ⟨i0, by omega, fun _ => ⟨fun g => no fun k => g (k.2 i i0 hi), fun g => ⟨by rw [rng64]; omega, ⟨⟨by omega, by omega⟩, fun k k0 k1 => ?_⟩, by show (p.len - (i + 1)).toNat < (p.len - i).toNat; omega⟩⟩⟩⟩, fun hi => ⟨?_, trivial⟩⟩
 ·by_cases e : k = i
  ·rw [e]; exact Classical.not_not.1 g
  ·exact hk k k0 (by omega)
 ·simp only [q_ints, decide_true, true_iff]
  exact ⟨h, fun k k0 k1 => hk k k0 (by omega)⟩
theorem light_ok : V_light := by
 intro name two s _ _ sm
 have sm := small64 sm
 have s0 := len0 s
 have no : ¬ (s.len <= 12 /\ ∀ i : Int, 0 <= i -> i < s.len -> (s.sub i 4).len <= 4 /\ (s.sub i 6).len <= 4) -> q_light name (decide (two = true)) s (decide False) /\ True := fun h => ⟨by simp only [q_light, decide_false]; exact ⟨fun k => absurd k Bool.false_ne_true, fun k => absurd k h⟩, trivial⟩
 refine ⟨fun h => no fun k => by have := k.1; omega, fun h _ => ?_⟩
 refine ⟨fun i => (0 <= i /\ i <= s.len) /\ ∀ k : Int, 0 <= k -> k < i -> (s.sub k 4).len <= 4 /\ (s.sub k 6).len <= 4, fun i => (s.len - i).toNat, ⟨⟨Int.le_refl _, s0⟩, fun k k0 k1 => by omega⟩, fun i _ hJ => ?_⟩
 obtain ⟨⟨i0, i1⟩, hk⟩ := hJ
 refine ⟨fun hi => ⟨i0, hi, fun _ _ _ _ _ _ => ⟨fun g => no fun k => by have := (k.2 i i0 hi).1; omega, fun g _ => ⟨fun g' => no fun k => by have := (k.2 i i0 hi).2; omega, fun g' => ⟨by rw [rng64]; omega, ⟨⟨by omega, by omega⟩, fun k k0 k1 => ?_⟩, by show (s.len - (i + 1)).toNat < (s.len - i).toNat; omega⟩⟩⟩⟩, fun hi => ⟨?_, trivial⟩⟩
 ·by_cases e : k = i
  ·rw [e]; exact ⟨by omega, by omega⟩
  ·exact hk k k0 (by omega)
 ·simp only [q_light, decide_true, true_iff]
  exact ⟨by omega, fun k k0 k1 => hk k k0 (by omega)⟩
theorem near_ok : V_near := by
 intro a _ b _ _
 refine ⟨fun h => ⟨?_, trivial⟩, fun h1 => ⟨fun h => ⟨?_, trivial⟩, fun h2 => ⟨fun h => ⟨?_, trivial⟩, fun h3 => ⟨by rw [rng64]; omega, ?_, trivial⟩⟩⟩⟩
 ·simp only [q_near, decide_true, true_iff]; exact .inl h
 ·simp only [q_near, decide_true, true_iff]; exact .inr (.inl h)
 ·simp only [q_near, decide_true, true_iff]; exact .inr (.inr (.inl h))
 ·simp only [q_near, decide_eq_true_eq]
  unfold nearS
  omega
theorem few_ok : V_few := by
 intro st _ d p m _ _ _
 refine ⟨fun h1 _ => ⟨fun h2 => ⟨fun h => ⟨?_, trivial⟩, fun h3 => ⟨fun h => ⟨?_, trivial⟩, fun h4 => ⟨trivial, fun v hv => ⟨?_, trivial⟩⟩⟩⟩, fun h => ⟨?_, trivial⟩⟩, fun h => ⟨?_, trivial⟩⟩
 ·simp only [q_few, decide_true, true_iff]; exact ⟨⟨h1, h2⟩, .inl h⟩
 ·simp only [q_few, decide_true, true_iff]; exact ⟨⟨h1, h2⟩, .inr (.inl h)⟩
 ·refine hv.trans ⟨fun k => ⟨⟨h1, h2⟩, .inr (.inr k)⟩, fun k => ?_⟩
  rcases k.2 with k | k | k
  ·omega
  ·omega
  ·exact k
 ·simp only [q_few, decide_false]; exact ⟨fun k => absurd k Bool.false_ne_true, fun k => absurd k.1.2 h⟩
 ·simp only [q_few, decide_false]; exact ⟨fun k => absurd k Bool.false_ne_true, fun k => absurd k.1.1 h⟩
theorem xOpen_ok : V_xOpen := by
 intro st _ d p m _ ⟨hv, hh⟩
 have hb := hv.1
 have d0 := len0 d
 obtain ⟨h1, h2⟩ : st <= m /\ m < st + d.len := hh
 refine ⟨by rw [rng64]; omega, by omega, by omega, fun _ => ⟨hv, fun x _ hx => ?_⟩⟩
 have hx : x = postedS p m := hx
 have a := posted_bd hv m
 have b := hv.2.1 (m - st) (by omega) (by omega)
 exact ⟨by rw [rng64]; omega, by show _ = openS st d p m; unfold openS; rw [hx], trivial⟩
theorem xLate_ok : V_xLate := by
 intro st _ d p m _ hv
 have hv : validS st d p := hv
 have hb := hv.1
 have d0 := len0 d
 refine ⟨fun t i => (0 <= i /\ i <= d.len) /\ t = Sl.lit (lateS st d p m i.toNat), fun _ i => (d.len - i).toNat, ⟨⟨Int.le_refl _, d0⟩, nil_lit⟩, fun t i _ ⟨⟨i0, i1⟩, ht⟩ _ => ⟨fun hi => ⟨by rw [rng64]; omega, fun hm => ⟨by rw [rng64]; omega, ⟨hv, by show st <= st + i; omega, by omega⟩, fun x _ hx => ?_⟩, fun hm => ?_⟩, fun hi => ⟨?_, trivial⟩⟩⟩
 ·have hx : x = openS st d p (st + i) := hx
  have ll := late_len (st := st) (d := d) (p := p) m i.toNat
  refine ⟨fun h0 => ?_, fun h0 => ⟨by rw [rng64]; omega, ⟨⟨by omega, by omega⟩, ?_⟩, by show (d.len - (i + 1)).toNat < (d.len - i).toNat; omega⟩⟩
  ·refine ⟨by rw [rng64]; omega, ?_, by rw [rng64]; omega, ⟨⟨by omega, by omega⟩, ?_⟩, by show (d.len - (i + 1)).toNat < (d.len - i).toNat; omega⟩
   ·rw [ht, len_lit, len_lit]
    simp only [List.length_cons, List.length_nil]
    omega
   ·rw [ht]; exact ((late_at i0 hm hx h0).1).symm
  ·rw [ht, (late_no i0 hx h0).1]
 ·refine ⟨by rw [rng64]; omega, ⟨⟨by omega, by omega⟩, ?_⟩, by show (d.len - (i + 1)).toNat < (d.len - i).toNat; omega⟩
  have e : (i + 1).toNat = i.toNat + 1 := by omega
  rw [e, (late_stop (st := st) (d := d) (p := p) (m := m) (k := i.toNat) (by omega) (Nat.le_succ _)).1]
  exact ht
 ·have : i.toNat = d.n := by unfold Sl.len at *; omega
  rw [ht, this]; exact SameI_refl _
end Go.Sx.N
