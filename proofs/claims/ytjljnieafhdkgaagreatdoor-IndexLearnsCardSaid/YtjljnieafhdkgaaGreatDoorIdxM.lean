/-
  Growth by the index that the statements build: nothing of it is too long. Conditions: none.
-/
import Derived.Test.YtjljnieafhdkgaaGreatDoorIdxFe
set_option linter.unusedVariables false
set_option linter.unusedSimpArgs false
namespace Go.Sx.N

theorem rate_built {s : Sl} {known y : Int} {r : Rat} (h : builtI s) (e : rateO s known y = some r) : rateB r := by
  unfold rateO at e
  split at e
  · rename_i hk
    have hc := Classical.choose_spec hk
    have := (h.2.2 _ hc.1.1.1.1 hc.1.1.1.2).2.2.2.2
    rw [Option.some.inj e] at this
    exact this
  · cases e

theorem rateB.one {r : Rat} (h : rateB r) : 0 < 1 + r ∧ Bd (1 + r) 2 1000 := by
  obtain ⟨n, hn, rfl⟩ := h
  have e : (1 : Rat) + Rat.divInt n 1000 = Rat.divInt (1000 + n) 1000 := by
    rw [show (1 : Rat) = Rat.divInt 1000 1000 by decide +kernel, Rat.divInt_add_divInt _ _ (by decide) (by decide)]
    rw [Rat.divInt_eq_divInt_iff (by decide) (by decide)]
    omega
  rw [e]
  have p0 : (0 : Rat) ≤ Rat.divInt (1000 + n) 1000 := (Rat.divInt_nonneg_iff_of_pos_right (by decide)).2 (by omega)
  have pn : (0 : Rat) ≠ Rat.divInt (1000 + n) 1000 := fun h => by
    rw [show (0 : Rat) = Rat.divInt 0 1000 by decide +kernel, Rat.divInt_eq_divInt_iff (by decide) (by decide)] at h
    omega
  refine ⟨Rat.lt_of_le_of_ne p0 pn, p0, ?_, ?_⟩
  · have u : (0 : Rat) ≤ Rat.divInt (1000 - n) 1000 := (Rat.divInt_nonneg_iff_of_pos_right (by decide)).2 (by omega)
    have e2 : Rat.divInt (1000 + n) 1000 + Rat.divInt (1000 - n) 1000 = ((2 : Int) : Rat) := by
      rw [show ((2 : Int) : Rat) = Rat.divInt 2000 1000 by decide +kernel, Rat.divInt_add_divInt _ _ (by decide) (by decide), Rat.divInt_eq_divInt_iff (by decide) (by decide)]
      omega
    rw [← e2]
    have := Rat.add_le_add_left (c := Rat.divInt (1000 + n) 1000) |>.2 u
    rw [Rat.add_zero] at this
    exact this
  · rw [Rat.den_divInt, if_neg (by decide)]
    exact Nat.div_le_self _ _

theorem pow_fit {q : Rat} {n : Nat} (hn : n ≤ 180) (h : Bd q ((2 ^ n : Nat) : Int) (1000 ^ n)) : fitQ q := by
  refine h.fit ?_ ?_
  · have : 0 < 2 ^ n := Nat.pow_pos (by decide)
    omega
  · rw [Int.toNat_natCast, ← Nat.mul_pow]
    exact Nat.lt_of_le_of_lt (Nat.pow_le_pow_right (by decide) hn) (by decide +kernel)

theorem pow_step {q r : Rat} {n : Nat} (h : Bd q ((2 ^ n : Nat) : Int) (1000 ^ n)) (g : Bd r 2 1000) : Bd (q * r) ((2 ^ (n + 1) : Nat) : Int) (1000 ^ (n + 1)) := by
  have := h.mul g
  rw [Nat.pow_succ, Nat.pow_succ]
  exact this.mono (by rw [Int.natCast_mul]; exact Int.le_refl _) (Nat.le_refl _)

theorem one_fit2 {r : Rat} (g : Bd r 2 1000) : fitQ r := g.fit (by decide) (by decide +kernel)

theorem gr_built {s : Sl} {known a : Int} (h : builtI s) : ∀ {n : Nat}, n ≤ 180 → grS s known a n = .err 6 ∨ ∃ q, grS s known a n = .ok q ∧ 0 < q ∧ Bd q ((2 ^ n : Nat) : Int) (1000 ^ n)
  | 0, _ => .inr ⟨1, rfl, by decide +kernel, by decide +kernel, by decide +kernel, by decide +kernel⟩
  | n + 1, hn => by
    rcases gr_built (known := known) (a := a) h (n := n) (by omega) with e | ⟨q, e, p, b⟩
    · exact .inl (grS_err e (by omega))
    · cases hr : rateO s known (a + n) with
      | none => exact .inl (grS_none e hr)
      | some r =>
        obtain ⟨g1, g2⟩ := (rate_built h hr).one
        have b2 := pow_step b g2
        exact .inr ⟨q * (1 + r), grS_step e hr (one_fit2 g2) (pow_fit hn b2), Rat.mul_pos p g1, b2⟩

theorem gr_next {s : Sl} {known a : Int} (h : builtI s) {n : Nat} (hn : n + 1 ≤ 180) {q r : Rat} (e : grS s known a n = .ok q) (hr : rateO s known (a + n) = some r) : grS s known a (n + 1) = .ok (q * (1 + r)) ∧ fitQ (1 + r) ∧ fitQ (q * (1 + r)) := by
  rcases gr_built (known := known) (a := a) h (n := n) (by omega) with e' | ⟨q', e', p, b⟩
  · rw [e'] at e; cases e
  · rw [e'] at e
    cases e
    obtain ⟨g1, g2⟩ := (rate_built h hr).one
    have b2 := pow_step b g2
    exact ⟨grS_step e' hr (one_fit2 g2) (pow_fit hn b2), one_fit2 g2, pow_fit hn b2⟩

theorem built_name {name : ByteArray} (h : name = builtN) : okN name := by subst h; unfold okN; decide

theorem built_valid {name : ByteArray} {two : Bool} {s : Sl} (hn : name = builtN) (h2 : two = false) (h : builtI s) : validT name two s ∧ two = false := by
  subst hn h2
  refine ⟨⟨by decide, by have := h.1; omega, h.2.1, fun i i0 i1 => ?_⟩, rfl⟩
  obtain ⟨a, b, c, d, _⟩ := h.2.2 i i0 i1
  exact ⟨by omega, by omega, .inr b, c, d⟩

theorem built_rows {s : Sl} (h : builtI s) : ∀ i : Int, 0 ≤ i → i < s.len → okF (s.bool i 3) (s.sub i 4) (s.bool i 5) (s.sub i 6) := fun i i0 i1 => (h.2.2 i i0 i1).2.2.2.1

def len180 (a b : Int) : Nat := (fY b - fY a).toNat
theorem len180_le (a b : Int) : len180 a b ≤ 180 := by
  have := fY_bd a
  have := fY_bd b
  unfold len180; omega

/-- What growth answers. -/
theorem grow_res {name : ByteArray} {two : Bool} {s : Sl} {a b known : Int} {nn dn : Bool} {nl dl : Sl} {e : Int} (hn : name = builtN) (h2 : two = false) (h : builtI s) (hs : spanS a b) (hq : q_xGrow name two s a b known nn nl dn dl e)
    (rb : Ranged nl [some .u16]) (rd : Ranged dl [some .u16]) :
    (grS s known (fY a) (len180 a b) = .err 6 ∧ zeroF nn nl dn dl ∧ e = 6) ∨ ∃ q, grS s known (fY a) (len180 a b) = .ok q ∧ 0 < q ∧ Bd q ((2 ^ len180 a b : Nat) : Int) (1000 ^ len180 a b) ∧ fitQ q ∧ IsQ q nn nl dn dl ∧ okF nn nl dn dl ∧ e = 0 := by
  have r := hq.2 ⟨built_valid hn h2 h, hs⟩
  unfold growS at r
  rw [show (fY b - fY a).toNat = len180 a b from rfl] at r
  rcases gr_built (known := known) (a := fY a) h (len180_le a b) with k | ⟨q, k, p, d⟩
  · rw [k] at r
    exact .inl ⟨k, r.1, r.2⟩
  · rw [k] at r
    have f := pow_fit (len180_le a b) d
    exact .inr ⟨q, k, p, d, f, r.1, r.1.ok (ranged16 rb) (ranged16 rd) f, r.2⟩

theorem asked_span {x y a b : Int} (h : q_asked x y a b) : spanS a b ∧ spanS b a ∧ a ≤ b := by
  obtain ⟨h1, h2, h3, _⟩ := h
  exact ⟨⟨by omega, by omega⟩, ⟨by omega, by omega⟩, h2⟩
end Go.Sx.N
