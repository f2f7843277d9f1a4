/-
 Sums that are kept (quick), and what follows them. Conditions: none.
-/
import Derived.Test.YtmhhcnaflklapaaGreatArrFe
set_option linter.unusedVariables false
set_option linter.unusedSimpArgs false
namespace Go.Sx.N
theorem tail_rate {s : Sl} {known paid : Int} {n : Nat} {q : Rat} (h : tailS s known paid (n + 1) = some q) : ∃ r t, rateO s known (1900 + (paid - (n + 1)) / 12) = some r /\ tailS s known paid n = some t /\ q = r + t := by
 unfold tailS at h
 split at h
 ·rename_i r t hr ht
  exact ⟨r, t, hr, ht, (Option.some.inj h).symm⟩
 ·cases h
theorem tail_psum {s : Sl} {known due paid : Int} {f : Nat -> Rat} {n : Nat} (hn : due + n = paid) (hr : ∀ j : Nat, j < n -> rateO s known (1900 + (due + j) / 12) = some (f j)) : ∀ i : Nat, i <= n -> tailS s known paid i = some (psum f n - psum f (n - i))
 | 0, _ => by
  show some 0 = _
  rw [Nat.sub_zero]; congr 1; grind
 | i + 1, hi => by
  have ih := tail_psum hn hr i (by omega)
  have h1 := hr (n - (i + 1)) (by omega)
  unfold tailS
  rw [show paid - ((i : Int) + 1) = due + ((n - (i + 1) : Nat) : Int) by omega, h1, ih]
  show some _ = _
  congr 1
  have : psum f (n - i) = psum f (n - (i + 1)) + f (n - (i + 1)) := by
   rw [show n - i = (n - (i + 1)) + 1 by omega]; rfl
  grind
theorem tail_sum {s : Sl} {known due paid : Int} {n : Nat} (hn : due + n = paid) (h : ∀ j : Nat, j <= n -> ∃ q, tailS s known paid j = some q /\ shortQ q) : ∃ q, tailS s known paid n = some q /\ sumS s known due n = .ok q := by
 have hr : ∀ j : Nat, j < n -> rateO s known (1900 + (due + j) / 12) = some ((rateO s known (1900 + (due + j) / 12)).getD 0) := fun j hj => by
  obtain ⟨q, hq, _⟩ := h (n - j) (by omega)
  rw [show n - j = (n - j - 1) + 1 by omega] at hq
  obtain ⟨r, _, hr, _⟩ := tail_rate hq
  rw [show paid - (((n - j - 1 : Nat) : Int) + 1) = due + j by omega] at hr
  rw [hr]; rfl
 have hf : ∃ f : Nat -> Rat, ∀ j : Nat, j < n -> rateO s known (1900 + (due + j) / 12) = some (f j) := ⟨_, hr⟩
 obtain ⟨f, hr⟩ := hf
 have ht := tail_psum hn hr
 refine ⟨psum f n, ?_, quick_sum hr fun j hj => ?_⟩
 ·rw [ht n (Nat.le_refl _), Nat.sub_self]
  congr 1
  show psum f n - 0 = _
  grind
 ·obtain ⟨q, hq, hs⟩ := h (n - j) (by omega)
  rw [ht (n - j) (by omega), show n - (n - j) = j by omega] at hq
  rw [Option.some.inj hq]; exact hs
theorem sums_first {s : Sl} {known paid : Int} {a c : Bool} {b d : Sl} (h : q_fFromInt 0 a b c d) : sumsM s known paid (Sl.mset Sl.nil paid [.bool a, Sl.d b, .bool c, Sl.d d]) paid :=
 ⟨Int.le_refl _, fun n hn => by
  have : n = 0 := by omega
  subst this
  have e : paid - ((0 : Nat) : Int) = paid := by omega
  rw [e]
  exact ⟨by rw [mhas_mset, decide_eq_true rfl, Bool.true_or], 0, rfl, ⟨by decide +kernel, by decide +kernel⟩, okM_same h.1 ⟨⟨_, h.1⟩, by have := h.2.1; omega, by have := h.2.2; omega⟩⟩⟩
theorem sums_get {s : Sl} {known paid : Int} {sums : Sl} {lst k : Int} (h : sumsM s known paid sums lst) (h1 : lst <= k) (h2 : k <= paid) : Sl.mhas sums k = true /\ ∃ q, tailS s known paid (paid - k).toNat = some q /\ shortQ q /\ okM sums k q := by
 have := h.2 (paid - k).toNat (by omega)
 rw [show paid - (((paid - k).toNat : Nat) : Int) = k by omega] at this
 exact this
theorem sums_set {s : Sl} {known paid : Int} {sums : Sl} {lst : Int} {q r : Rat} {a c : Bool} {b d : Sl} (h : sumsM s known paid sums lst) (hq : tailS s known paid (paid - lst).toNat = some q) (hr : rateO s known (1900 + (lst - 1) / 12) = some r) (hs : shortQ (r + q)) (i : IsQ (r + q) a b c d) (o : okF a b c d) :
  sumsM s known paid (Sl.mset sums (lst - 1) [.bool a, Sl.d b, .bool c, Sl.d d]) (lst - 1) :=
 ⟨by have := h.1; omega, fun n hn => by
  have hl := h.1
  by_cases e : paid - n = lst - 1
  ·rw [e]
   refine ⟨by rw [mhas_mset, decide_eq_true rfl, Bool.true_or], r + q, ?_, hs, okM_same i o⟩
   rw [show n = (paid - lst).toNat + 1 by omega]
   unfold tailS
   rw [show paid - (((paid - lst).toNat : Int) + 1) = lst - 1 by omega, hr, hq]
  ·obtain ⟨g1, q', g2, g3, g4⟩ := h.2 n (by omega)
   exact ⟨by rw [mhas_mset, g1, Bool.or_true], q', g2, g3, okM_other e g4⟩⟩
theorem quick_ok {K : Int -> Int -> ByteArray -> Bool -> Sl -> Int -> Int -> Sl -> Sl -> Int -> Prop} {name : ByteArray} {two : Bool} {s : Sl} {known n due paid : Int} {yrs sums : Sl} {lst : Int} (hv : validT name two s /\ two = false) (hn : okN name) (hd : 0 <= due /\ due <= paid /\ paid <= 2400)
  (hS : St name two s known paid name two s known paid yrs sums lst)
  (hK : ∀ (v e : Int) (nm : ByteArray) (tw : Bool) (rows : Sl) (kn pd : Int) (yrs sums : Sl) (lst : Int), Rng .i64 v -> Rng .i64 e -> St name two s known paid nm tw rows kn pd yrs sums lst -> resI (sumS s known due (paid - due).toNat) n v e -> K v e nm tw rows kn pd yrs sums lst) :
  G_6 K n due name two s known paid yrs sums lst := by
 unfold G_6
 simp only [Bool.decide_eq_true]
 have hrow : ∀ i : Int, 0 <= i -> i < s.len -> okF (s.bool i 3) (s.sub i 4) (s.bool i 5) (s.sub i 6) := fun i i0 i1 => (hv.1.2.2.2 i i0 i1).2.2.2.2
 refine ⟨fun nm tw rows kn pd yrs sums lst _ _ _ _ => St name two s known paid nm tw rows kn pd yrs sums lst, fun nm tw rows kn pd yrs sums lst _ _ _ _ => (lst - due).toNat, hS, ?_⟩
 intro nm tw rows rr kn rk pd rp yrs sums lst rl u1 u2 ru2 u3 u4 ru4 hS
 obtain ⟨⟨rfl, rfl, rfl, rfl, rfl⟩, hy, hsm⟩ := hS
 have hE : ∀ (e : Int) (nm' : ByteArray) (tw' : Bool) (rows' : Sl) (kn' pd' : Int) (yrs sums : Sl) (lst : Int), Rng .i64 e -> St nm tw rows kn pd nm' tw' rows' kn' pd' yrs sums lst -> sumS rows kn due (pd - due).toNat = .err e -> K 0 e nm' tw' rows' kn' pd' yrs sums lst := fun e _ _ _ _ _ _ _ _ re h he => hK _ _ _ _ _ _ _ _ _ _ (by rw [rng64]; omega) re h (by rw [he]; exact ⟨rfl, rfl⟩)
 have tl : ∀ {J}, (J = JR (St nm tw rows kn pd) (sumS rows kn due (pd - due).toNat)) -> G_2 J n K := fun hJ => by
  subst hJ
  exact tail_ok (C := St nm tw rows kn pd) (g := sumS rows kn due (pd - due).toNat) hK fun _ _ _ _ _ _ _ _ _ _ _ _ _ _ h => h
 have g3 : ∀ {yrs' sums' : Sl} {lst' : Int}, St nm tw rows kn pd nm tw rows kn pd yrs' sums' lst' -> G_3 due nm tw rows kn pd yrs' sums' lst' K n := fun h => by
  unfold G_3
  exact ⟨_, slow_ok hv hn hd h hE, tl rfl⟩
 have g4 : ∀ {x : Int} {yrs' sums' : Sl} {lst' : Int}, St nm tw rows kn pd nm tw rows kn pd yrs' sums' lst' -> G_4 x due nm tw rows kn pd yrs' sums' lst' K n := fun h => by
  unfold G_4
  exact fun _ => g3 h
 have g5 : ∀ {x : Bool} {yrs' sums' : Sl} {lst' : Int}, St nm tw rows kn pd nm tw rows kn pd yrs' sums' lst' -> G_5 x due nm tw rows kn pd yrs' sums' lst' K n := fun h => by
  unfold G_5
  exact fun _ => g3 h
 have hS : ∀ {yrs : Sl}, yearsM rows kn yrs -> St nm tw rows kn pd nm tw rows kn pd yrs sums lst := fun h => ⟨⟨rfl, rfl, rfl, rfl, rfl⟩, h, hsm⟩
 refine ⟨fun hm => ?_, fun hm ry rz => ?_⟩
 ·have hlp := hsm.1
  have td : Int.tdiv (lst - 1) 12 = (lst - 1) / 12 := Int.tdiv_eq_ediv_of_nonneg (by omega)
  rw [td]
  obtain ⟨_, q, hq, sq, iq, oq⟩ := sums_get hsm (Int.le_refl _) hlp
  have put : ∀ {yrs' : Sl} {r : Rat} {a' c' nn dn : Bool} {b' d' nl dl : Sl} {e : Int}, yearsM rows kn yrs' -> rateO rows kn (1900 + (lst - 1) / 12) = some r -> IsQ r a' b' c' d' -> okF a' b' c' d' -> q_fAdd a' b' c' d' (Sl.bool (Sl.mget sums lst zr) 0 0) (Sl.sub (Sl.mget sums lst zr) 0 1) (Sl.bool (Sl.mget sums lst zr) 0 2) (Sl.sub (Sl.mget sums lst zr) 0 3) nn nl dn dl e -> Ranged nl [some .u16] -> Ranged dl [some .u16] -> e = 0 -> nl.len <= 120 /\ dl.len <= 120 ->
    St nm tw rows kn pd nm tw rows kn pd yrs' (Sl.mset sums (lst - 1) [.bool nn, Sl.d nl, .bool dn, Sl.d dl]) (lst - 1) := by
   intro yrs' r a' c' nn dn b' d' nl dl e hy hr ir or' h rl rd he hs
   have h := add_res h ir or' iq oq
   by_cases f : fitQ (r + q)
   ·obtain ⟨i, _⟩ := h.1 f
    exact ⟨⟨rfl, rfl, rfl, rfl, rfl⟩, hy, sums_set hsm hq hr (short_of i rl rd hs.1 hs.2) i (i.ok (ranged16 rl) (ranged16 rd) f)⟩
   ·have := (h.2 f).2; omega
  refine ⟨by rw [rng64]; omega, by decide, by rw [rng64]; omega, by rw [rng64]; omega, fun ry rz => ⟨fun hh => ⟨fun k => absurd rfl k, fun _ rs rt => ⟨trivial, fun nn nl rnl dn dl rdl e re h => ⟨g4 (hS hy), fun he => ⟨trivial, fun o ho => ⟨g5 (hS hy), fun hb => ⟨by rw [rng64]; omega, ?_, ?_⟩⟩⟩⟩⟩⟩, fun hh => ⟨hn, fun vn vl rvl vd vk rvk e re hl => ?_⟩⟩⟩
  ·obtain ⟨r, hr, ir, or'⟩ := hy _ hh
   exact put hy hr ir or' h rnl rdl (Classical.not_not.1 he) (ho.1 (Classical.not_not.1 hb))
  ·show (lst - 1 - due).toNat < (lst - due).toNat; omega
  ·refine ⟨fun nm' tw' rows' kn' pd' yrs' sums' lst' => (nm' = nm /\ tw' = tw /\ rows' = rows /\ kn' = kn /\ pd' = pd) /\ yearsM rows kn yrs' /\ sums' = sums /\ lst' = lst, ⟨fun he => ⟨⟨rfl, rfl, rfl, rfl, rfl⟩, ?_, rfl, rfl⟩, fun _ => ⟨⟨rfl, rfl, rfl, rfl, rfl⟩, hy, rfl, rfl⟩⟩, ?_⟩
   ·rcases look_rate hl hv hrow rvl rvk with ⟨_, _, e6⟩ | ⟨r, hr, ir, _, or', _⟩
    ·omega
    ·exact years_set hy hr ir or'
   ·rintro nm' tw' rows' _ kn' _ pd' _ yrs' sums' lst' _ ⟨⟨rfl, rfl, rfl, rfl, rfl⟩, hy', rfl, rfl⟩
    refine ⟨g4 (hS hy'), fun he rs rt => ⟨trivial, fun nn nl rnl dn dl rdl e' re' h => ⟨g4 (hS hy'), fun he' => ⟨trivial, fun o ho => ⟨g5 (hS hy'), fun hb => ⟨by rw [rng64]; omega, ?_, ?_⟩⟩⟩⟩⟩⟩
    ·rcases look_rate hl hv hrow rvl rvk with ⟨_, _, e6⟩ | ⟨r, hr, ir, _, or', _⟩
     ·omega
     ·exact put hy' hr ir or' h rnl rdl (Classical.not_not.1 he') (ho.1 (Classical.not_not.1 hb))
    ·show (lst' - 1 - due).toNat < (lst' - due).toNat; omega
 ·have h1 : lst <= due := by omega
  obtain ⟨hh, q, hq, _, iq, oq⟩ := sums_get hsm h1 hd.2.1
  obtain ⟨q', hq', hs⟩ := tail_sum (s := rows) (known := kn) (due := due) (paid := pd) (n := (pd - due).toNat) (by omega) fun j hj => by
   obtain ⟨_, q, g1, g2, _⟩ := hsm.2 j (by omega)
   exact ⟨q, g1, g2⟩
  rw [hq] at hq'
  cases hq'
  exact ⟨JR (St nm tw rows kn pd) (sumS rows kn due (pd - due).toNat), ⟨fun k => absurd hh k, fun _ => ⟨hS hy, q, hs, iq, oq⟩⟩, tl rfl⟩
end Go.Sx.N
