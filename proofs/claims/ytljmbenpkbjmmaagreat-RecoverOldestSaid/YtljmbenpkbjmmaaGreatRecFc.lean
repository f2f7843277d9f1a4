/-
  Conditions: the statements' helpers, and the example. Conditions: none.
-/
import Derived.Test.YtljmbenpkbjmmaaGreatNumVI
import Derived.Test.YtljmbenpkbjmmaaGreatRecFb
set_option linter.unusedVariables false
set_option linter.unusedSimpArgs false
namespace Go.Sx.N

/-- A fraction from 0 to K with a denominator of at most D. -/
def Bd (q : Rat) (K : Int) (D : Nat) : Prop := 0 ≤ q ∧ q ≤ (K : Rat) ∧ q.den ≤ D

theorem add_den_le (q r : Rat) : (q + r).den ≤ q.den * r.den := by
  have h : q + r = Rat.divInt (q.num * r.den + r.num * q.den) (q.den * r.den) := by
    rw [← Rat.divInt_add_divInt _ _ (by have := q.den_pos; omega) (by have := r.den_pos; omega), Rat.num_divInt_den, Rat.num_divInt_den]
  have := divInt_den_le (n := q.num * r.den + r.num * q.den) (d := (q.den : Int) * r.den) (by
    have h1 := q.den_pos; have h2 := r.den_pos
    exact Int.mul_ne_zero (by omega) (by omega))
  rw [← h, ← Int.natCast_mul, Int.natAbs_natCast] at this
  exact this
theorem mul_den_le (q r : Rat) : (q * r).den ≤ q.den * r.den := by
  have h : q * r = Rat.divInt (q.num * r.num) (q.den * r.den) := by
    rw [← Rat.divInt_mul_divInt, Rat.num_divInt_den, Rat.num_divInt_den]
  have := divInt_den_le (n := q.num * r.num) (d := (q.den : Int) * r.den) (by
    have h1 := q.den_pos; have h2 := r.den_pos
    exact Int.mul_ne_zero (by omega) (by omega))
  rw [← h, ← Int.natCast_mul, Int.natAbs_natCast] at this
  exact this
theorem sub_den_le (q r : Rat) : (q - r).den ≤ q.den * r.den := by
  rw [Rat.sub_eq_add_neg]; have := add_den_le q (-r); exact this
theorem Bd.add {q r : Rat} {K L : Int} {D E : Nat} (h : Bd q K D) (g : Bd r L E) : Bd (q + r) (K + L) (D * E) := by
  refine ⟨Rat.add_nonneg h.1 g.1, ?_, Nat.le_trans (add_den_le q r) (Nat.mul_le_mul h.2.2 g.2.2)⟩
  rw [Rat.intCast_add]
  have h1 := h.2.1; have g1 := g.2.1
  grind
theorem Bd.mul {q r : Rat} {K L : Int} {D E : Nat} (h : Bd q K D) (g : Bd r L E) : Bd (q * r) (K * L) (D * E) := by
  refine ⟨Rat.mul_nonneg h.1 g.1, ?_, Nat.le_trans (mul_den_le q r) (Nat.mul_le_mul h.2.2 g.2.2)⟩
  rw [Rat.intCast_mul]
  have e1 := Rat.mul_le_mul_of_nonneg_right h.2.1 g.1
  have e2 := Rat.mul_le_mul_of_nonneg_left g.2.1 (c := (K : Rat)) (Rat.le_trans h.1 h.2.1)
  exact Rat.le_trans e1 e2
theorem Bd.mono {q : Rat} {K L : Int} {D E : Nat} (h : Bd q K D) (k : K ≤ L) (d : D ≤ E) : Bd q L E :=
  ⟨h.1, Rat.le_trans h.2.1 (Rat.intCast_le_intCast.2 k), Nat.le_trans h.2.2 d⟩
theorem Bd.int {n K : Int} (h0 : 0 ≤ n) (h1 : n ≤ K) : Bd (n : Rat) K 1 := ⟨by have := Rat.intCast_le_intCast.2 h0; simpa using this, Rat.intCast_le_intCast.2 h1, by rw [Rat.den_intCast]; exact Nat.le_refl 1⟩
theorem Bd.sub1 {q r : Rat} {K : Int} {D E : Nat} (h : Bd q K D) (g : Bd r K E) (hle : r ≤ q) : Bd (q - r) K (D * E) := by
  have h1 := h.2.1; have g0 := g.1
  exact ⟨by grind, by grind, Nat.le_trans (sub_den_le q r) (Nat.mul_le_mul h.2.2 g.2.2)⟩
theorem Bd.num {q : Rat} {K : Int} {D : Nat} (h : Bd q K D) : 0 ≤ q.num ∧ q.num ≤ K * q.den := by
  refine ⟨Rat.num_nonneg.2 h.1, ?_⟩
  have := (Rat.le_iff _ _).1 h.2.1
  rw [Rat.den_intCast, Rat.num_intCast] at this
  simpa using this
theorem Bd.fit {q : Rat} {K : Int} {D : Nat} (h : Bd q K D) (hk : 1 ≤ K) (hf : K.toNat * D < 65536 ^ 256) : fitQ q := by
  have hn := h.num
  have hd : q.den ≤ D := h.2.2
  have c : cap256 = ((65536 ^ 256 : Nat) : Int) := by rw [cap256_eq]; exact (Int.natCast_pow 65536 256).symm
  have hKD : K * q.den ≤ ((K.toNat * D : Nat) : Int) := by
    rw [Int.natCast_mul, Int.toNat_of_nonneg (by omega)]
    exact Int.mul_le_mul_of_nonneg_left (by omega) (by omega)
  have hD : (q.den : Int) ≤ ((K.toNat * D : Nat) : Int) := by
    have : D * 1 ≤ D * K.toNat := Nat.mul_le_mul_left D (by omega)
    rw [Nat.mul_comm K.toNat D]; omega
  have hf' : ((K.toNat * D : Nat) : Int) < cap256 := by rw [c]; exact Int.ofNat_lt.2 hf
  exact ⟨by omega, by omega⟩

/-- A share of an amount is a fraction that fits. -/
theorem share_fit {q : Rat} {x : Int} (h0 : 0 ≤ q) (h1 : q ≤ 1) (hd : q.den ≤ 18446744073709551616) (x0 : 0 ≤ x) (x1 : x ≤ 1099511627776) : fitQ (q * (x : Rat)) :=
  ((show Bd q 1 18446744073709551616 from ⟨h0, h1, hd⟩).mul (Bd.int (n := x) (K := 1099511627776) x0 x1)).fit (by decide) (by decide)

theorem Part_ok : V_Part := by
  intro n _ d _ _
  simp only [Bool.decide_eq_true]
  exact ⟨trivial, fun a b _ c e _ h => ⟨h, trivial⟩⟩

theorem few_ok : V_few := by
  intro st _ d p _ _
  simp only [q_few, decide_eq_true_eq, decide_false]
  exact ⟨fun h _ => ⟨⟨fun k => ⟨h, k⟩, fun k => k.2⟩, trivial⟩, fun h => ⟨⟨fun k => absurd k (by decide), fun k => absurd k.1 h⟩, trivial⟩⟩

theorem light_ok : V_light := by
  intro a b c d _ _
  simp only [q_light, decide_eq_true_eq, decide_false]
  exact ⟨fun h _ => ⟨⟨fun k => ⟨h, k⟩, fun k => k.2⟩, trivial⟩, fun h => ⟨⟨fun k => absurd k (by decide), fun k => absurd k.1 h⟩, trivial⟩⟩

theorem paids_ok : V_paids := by
  intro p q _ sm _
  have sm := small64 sm
  have no : ¬ eqPosts p q → q_paids p q (decide False) ∧ True := fun h => ⟨by simp [q_paids, h], trivial⟩
  refine ⟨fun h => no fun k => h k.1, fun h _ => ?_⟩
  have h := Classical.not_not.1 h
  refine ⟨fun i => (0 ≤ i ∧ i ≤ p.len) ∧ ∀ k : Int, 0 ≤ k → k < i → eqAt p k q k, fun i => (p.len - i).toNat, ⟨⟨Int.le_refl _, len0 p⟩, fun k k0 k1 => by omega⟩, fun i _ hJ => ?_⟩
  obtain ⟨⟨i0, i1⟩, hk⟩ := hJ
  refine ⟨fun hi => ⟨i0, hi, fun _ _ _ _ => ⟨i0, by omega, fun _ _ _ _ => ⟨fun g => no fun k => g (k.2 i i0 hi), fun g => ⟨by rw [rng64]; omega, ⟨⟨by omega, by omega⟩, fun k k0 k1 => ?_⟩, by show (p.len - (i + 1)).toNat < (p.len - i).toNat; omega⟩⟩⟩⟩, fun hi => ⟨?_, trivial⟩⟩
  · by_cases e : k = i
    · rw [e]; exact Classical.not_not.1 g
    · exact hk k k0 (by omega)
  · simp only [q_paids, decide_true, true_iff]
    exact ⟨h, fun k k0 k1 => hk k k0 (by omega)⟩

theorem example_ok : V_example := by
  intro _
  refine ⟨?_, trivial⟩
  unfold q_example
  decide

section
variable {st : Int} {d p : Sl}
/-- Postings of a small ledger. -/
theorem posted2 (hp : p.len = 2) (m : Int) : postedS p m = (if p.int 0 1 = m then prin p 0 else 0) + (if p.int 1 1 = m then prin p 1 else 0) := by
  have : p.n = 2 := by unfold Sl.len at hp; omega
  unfold postedS
  rw [this]
  show 0 + (if p.int 0 1 = m then prin p 0 else 0) + (if p.int 1 1 = m then prin p 1 else 0) = _
  omega
theorem posted3 (hp : p.len = 3) (m : Int) : postedS p m = (if p.int 0 1 = m then prin p 0 else 0) + (if p.int 1 1 = m then prin p 1 else 0) + (if p.int 2 1 = m then prin p 2 else 0) := by
  have : p.n = 3 := by unfold Sl.len at hp; omega
  unfold postedS
  rw [this]
  show 0 + (if p.int 0 1 = m then prin p 0 else 0) + (if p.int 1 1 = m then prin p 1 else 0) + (if p.int 2 1 = m then prin p 2 else 0) = _
  omega
theorem out4 (hd : d.len = 4) (m : Int) {a b c e : Int} (h0 : ov st d p 0 = a) (h1 : ov st d p 1 = b) (h2 : ov st d p 2 = c) (h3 : ov st d p 3 = e) :
    outS st d p m = (if st + 0 < m then posi a else 0) + (if st + 1 < m then posi b else 0) + (if st + 2 < m then posi c else 0) + (if st + 3 < m then posi e else 0) := by
  have : d.n = 4 := by unfold Sl.len at hd; omega
  unfold outS
  rw [this]
  show 0 + (if st + 0 < m then posi (ov st d p 0) else 0) + (if st + 1 < m then posi (ov st d p 1) else 0) + (if st + 2 < m then posi (ov st d p 2) else 0) + (if st + 3 < m then posi (ov st d p 3) else 0) = _
  rw [h0, h1, h2, h3]
  omega
end

theorem quarter_floor {x k : Int} (h : k * 4 ≤ x) (g : x < (k + 1) * 4) : (Rat.divInt 1 4 * (x : Rat)).floor = k := by
  have e : Rat.divInt 1 4 * (x : Rat) = Rat.divInt x 4 := by
    rw [← intCast_divInt x, Rat.divInt_mul_divInt, Int.one_mul, Int.mul_one]
  have l1 : (k : Rat) ≤ Rat.divInt x 4 := by
    rw [Rat.divInt_eq_div, ← Rat.not_lt, Rat.div_lt_iff (by decide), Rat.not_lt, ← Rat.intCast_mul]
    exact Rat.intCast_le_intCast.2 h
  have l2 : Rat.divInt x 4 < ((k + 1 : Int) : Rat) := by
    rw [Rat.divInt_eq_div, Rat.div_lt_iff (by decide), ← Rat.intCast_mul]
    exact Rat.intCast_lt_intCast.2 g
  rw [e]
  have h1 := Rat.le_floor_iff.2 l1
  have h2 := Rat.floor_le (Rat.divInt x 4)
  have h3 : (((Rat.divInt x 4).floor : Int) : Rat) < ((k + 1 : Int) : Rat) := by grind
  have h4 := Rat.intCast_lt_intCast.1 h3
  omega
theorem quarter_share {a c : Bool} {b f : Sl} (h : q_kFrac 1 4 a b c f) : okShare a b c f ∧ fq a b f = Rat.divInt 1 4 := by
  have hq := h.1
  rw [fracQ_eq (by decide)] at hq
  have e := hq.fq
  refine ⟨⟨⟨hq.lowF, by have := h.2.1; omega, by have := h.2.2; omega⟩, ?_, ?_⟩, e⟩
  · rw [e]; decide
  · rw [e]; decide
theorem quarter_fit {x : Int} (x0 : 0 ≤ x) (x1 : x ≤ 1099511627776) : fitQ (Rat.divInt 1 4 * (x : Rat)) := share_fit (by decide) (by decide) (by decide) x0 x1

theorem awake_ok : V_awake := by
  intro _
  simp only [Bool.decide_eq_true]
  refine ⟨trivial, fun st _ d _ p _ hex => ⟨trivial, fun a b _ c f _ hq => ⟨trivial, fun x7 _ x8 _ h7 => ⟨trivial, fun x9 _ x10 _ h9 => ⟨trivial, fun s11 _ x12 _ h11 => ⟨trivial, fun x13 _ s14 _ s15 _ x16 _ h13 => ⟨trivial, fun x17 _ x18 _ h17 => ⟨trivial, fun s19 _ x20 _ h19 => ⟨trivial, fun x21 _ x22 _ h21 => ?_⟩⟩⟩⟩⟩⟩⟩⟩⟩
  obtain ⟨rfl, ⟨ld, d0, d1, d2, d3⟩, lp, ⟨p00, p01, p02, p03⟩, ⟨p10, p11, p12, p13⟩⟩ := hex
  obtain ⟨hs, eq⟩ := quarter_share hq
  have dn : d.n = 4 := by unfold Sl.len at ld; omega
  have hv : validS 1500 d p := by
    refine ⟨⟨by omega, by omega, by omega, by omega⟩, fun i i0 i1 => ?_, by omega, fun i i0 i1 => ?_⟩
    · rcases (show i = 0 ∨ i = 1 ∨ i = 2 ∨ i = 3 by omega) with rfl | rfl | rfl | rfl <;> omega
    · rcases (show i = 0 ∨ i = 1 by omega) with rfl | rfl
      · refine ⟨⟨⟨by omega, by omega, by omega, by omega⟩, .inl ⟨by omega, by omega, by omega⟩⟩, ?_⟩
        unfold prev; rw [if_pos rfl]; omega
      · refine ⟨⟨⟨by omega, by omega, by omega, by omega⟩, .inl ⟨by omega, by omega, by omega⟩⟩, ?_⟩
        unfold prev; rw [if_neg (by decide), show (1 : Int) - 1 = 0 from rfl]; omega
  have pr0 : prin p 0 = 130 := by unfold prin; rw [if_neg (by omega), p03]
  have pr1 : prin p 1 = 115 := by unfold prin; rw [if_neg (by omega), p13]
  have po : ∀ k : Int, ov 1500 d p k = (if k = 0 then 130 else 0) + (if k = 1 then 115 else 0) - d.int k 0 := fun k => by
    unfold ov
    rw [posted2 lp, pr0, pr1, p01, p11]
    have e1 : (1500 = 1500 + k) ↔ k = 0 := by omega
    have e2 : (1501 = 1500 + k) ↔ k = 1 := by omega
    simp only [e1, e2]
  have o0 : ov 1500 d p 0 = 30 := by rw [po, d0]; rfl
  have o1 : ov 1500 d p 1 = 15 := by rw [po, d1]; rfl
  have o2 : ov 1500 d p 2 = -90 := by rw [po, d2]; rfl
  have o3 : ov 1500 d p 3 = -90 := by rw [po, d3]; rfl
  -- the limit
  have lim : limS 1500 d p 1502 a b c f 22 0 := ⟨fun k => absurd ⟨hv, hs⟩ k, fun _ => ⟨fun k => absurd ⟨by omega, by omega⟩ k, fun _ => by
    rw [eq, show (1502 : Int) - 1500 = 2 from rfl, d2]
    exact ⟨fun _ => ⟨(quarter_floor (by decide) (by decide)).symm, rfl⟩, fun k => absurd (quarter_fit (by decide) (by decide)) k⟩⟩⟩
  obtain ⟨rfl, rfl⟩ := limS_uniq h7 lim
  -- outstanding
  have out : outS 1500 d p 1502 = 45 := by rw [out4 ld 1502 o0 o1 o2 o3]; decide
  obtain ⟨rfl, rfl⟩ := h9.2 hv
  -- taken
  have rows : rowsS 1500 d p 7 1502 22 4 = [[.int 7, .int 1500, .int 4, .int (-22)]] := by
    have u0 : usedS 1500 d p 1502 22 0 = 22 := by
      show useS 1500 d p 1502 22 0 = 22
      unfold useS; rw [o0]; decide
    have l1 : leftS 1500 d p 1502 22 1 = 0 := by
      show (22 : Int) - usedS 1500 d p 1502 22 0 = 0
      rw [u0]; decide
    have r1 : rowsS 1500 d p 7 1502 22 1 = [[.int 7, .int 1500, .int 4, .int (-22)]] := by
      show (if 0 < usedS 1500 d p 1502 22 0 then [] ++ [[D.int 7, .int (1500 + ((0 : Nat) : Int)), .int 4, .int (-(usedS 1500 d p 1502 22 0))]] else []) = _
      rw [u0]; rfl
    rw [← r1, ← dn]
    exact rows_empty hv (by omega) l1
  have t1 := (h11 22 0 lim).2 rfl
  obtain ⟨e11, rfl⟩ := t1.2 ⟨by decide, by decide⟩
  rw [dn, rows] at e11
  -- posted
  obtain ⟨s, e0, ht, hz, hg⟩ := h13
  obtain ⟨es, rfl⟩ := ((ht 22 0 lim).2 rfl).2 ⟨by decide, by decide⟩
  rw [dn, rows] at es
  have hg := hg rfl
  have sl : s.len = 1 := es.1
  obtain ⟨s0, s1, s2, s3⟩ := es.2 0 (by decide) (by omega)
  have s0 : s.int 0 0 = 7 := s0
  have s1 : s.int 0 1 = 1500 := s1
  have s2 : s.int 0 2 = 4 := s2
  have s3 : s.int 0 3 = -22 := s3
  have ldy : lastDay p = 0 := by unfold lastDay; rw [if_pos (by omega), lp, show (2 : Int) - 1 = 1 from rfl, p10]
  have pok : postOk 1500 d p s := ⟨hv, fun i i0 i1 => by
    have : i = 0 := by omega
    subst this
    refine ⟨⟨⟨by omega, by omega, by omega, by omega⟩, .inr ⟨by omega, by omega, by omega⟩⟩, ?_⟩
    unfold prev; rw [if_pos rfl, ldy]; omega⟩
  obtain ⟨rfl, rfl, ed, bh⟩ := (hg.2 pok).2 (by omega)
  have ld' : s14.len = 4 := by rw [ed.1, ld]
  have dn' : s14.n = 4 := by unfold Sl.len at ld'; omega
  have l15 : s15.len = 3 := by rw [bh.1]; omega
  obtain ⟨a0, a1, a2, a3⟩ := bh.2.1 0 (by decide) (by omega)
  obtain ⟨b0, b1, b2, b3⟩ := bh.2.1 1 (by decide) (by omega)
  obtain ⟨c0, c1, c2, c3⟩ := bh.2.2 0 (by decide) (by omega)
  rw [lp, show (2 : Int) + 0 = 2 from rfl] at c0 c1 c2 c3
  have hv' : validS 1500 s14 s15 := by
    refine ⟨⟨by omega, by omega, by omega, by omega⟩, fun i i0 i1 => ?_, by omega, fun i i0 i1 => ?_⟩
    · rw [ed.2 i i0 i1]; exact hv.2.1 i i0 (by omega)
    · rw [show s14.len = d.len from ed.1]
      have fl := (follow_app (n := d.len) (st := 1500) bh 0).2 ⟨hv.2.2.2, by
        have := pok.2
        unfold lastDay at this
        exact this⟩
      exact fl i i0 i1
  have qr0 : prin s15 0 = 130 := by unfold prin; rw [if_neg (by omega)]; omega
  have qr1 : prin s15 1 = 115 := by unfold prin; rw [if_neg (by omega)]; omega
  have qr2 : prin s15 2 = -22 := by unfold prin; rw [if_neg (by omega)]; omega
  have po' : ∀ k : Int, ov 1500 s14 s15 k = (if k = 0 then 130 else 0) + (if k = 1 then 115 else 0) + (if k = 0 then -22 else 0) - s14.int k 0 := fun k => by
    unfold ov
    rw [posted3 l15, qr0, qr1, qr2, a1, b1, c1, p01, p11, s1]
    have e1 : (1500 = 1500 + k) ↔ k = 0 := by omega
    have e2 : (1501 = 1500 + k) ↔ k = 1 := by omega
    simp only [e1, e2]
  have n0 : ov 1500 s14 s15 0 = 8 := by rw [po', ed.2 0 (by decide) (by omega), d0]; rfl
  have n1 : ov 1500 s14 s15 1 = 15 := by rw [po', ed.2 1 (by decide) (by omega), d1]; rfl
  have n2 : ov 1500 s14 s15 2 = -90 := by rw [po', ed.2 2 (by decide) (by omega), d2]; rfl
  have n3 : ov 1500 s14 s15 3 = -90 := by rw [po', ed.2 3 (by decide) (by omega), d3]; rfl
  have out' : outS 1500 s14 s15 1503 = 23 := by rw [out4 ld' 1503 n0 n1 n2 n3]; decide
  obtain ⟨rfl, rfl⟩ := h17.2 hv'
  have lim' : limS 1500 s14 s15 1503 a b c f 22 0 := ⟨fun k => absurd ⟨hv', hs⟩ k, fun _ => ⟨fun k => absurd ⟨by omega, by omega⟩ k, fun _ => by
    rw [eq, show (1503 : Int) - 1500 = 3 from rfl, ed.2 3 (by decide) (by omega), d3]
    exact ⟨fun _ => ⟨(quarter_floor (by decide) (by decide)).symm, rfl⟩, fun k => absurd (quarter_fit (by decide) (by decide)) k⟩⟩⟩
  have rows' : rowsS 1500 s14 s15 8 1503 22 4 = [[.int 8, .int 1500, .int 4, .int (-8)], [.int 8, .int 1501, .int 4, .int (-14)]] := by
    have u0 : usedS 1500 s14 s15 1503 22 0 = 8 := by
      show useS 1500 s14 s15 1503 22 0 = 8
      unfold useS; rw [n0]; decide
    have l1 : leftS 1500 s14 s15 1503 22 1 = 14 := by
      show (22 : Int) - usedS 1500 s14 s15 1503 22 0 = 14
      rw [u0]; decide
    have u1 : usedS 1500 s14 s15 1503 22 1 = 14 := by
      show useS 1500 s14 s15 1503 (leftS 1500 s14 s15 1503 22 1) 1 = 14
      rw [l1]
      unfold useS; rw [n1]; decide
    have l2 : leftS 1500 s14 s15 1503 22 2 = 0 := by
      show leftS 1500 s14 s15 1503 22 1 - usedS 1500 s14 s15 1503 22 1 = 0
      rw [u1, l1]; decide
    have r1 : rowsS 1500 s14 s15 8 1503 22 1 = [[.int 8, .int 1500, .int 4, .int (-8)]] := by
      show (if 0 < usedS 1500 s14 s15 1503 22 0 then [] ++ [[D.int 8, .int (1500 + ((0 : Nat) : Int)), .int 4, .int (-(usedS 1500 s14 s15 1503 22 0))]] else []) = _
      rw [u0]; rfl
    have r2 : rowsS 1500 s14 s15 8 1503 22 2 = [[.int 8, .int 1500, .int 4, .int (-8)], [.int 8, .int 1501, .int 4, .int (-14)]] := by
      show (if 0 < usedS 1500 s14 s15 1503 22 1 then rowsS 1500 s14 s15 8 1503 22 1 ++ [[D.int 8, .int (1500 + ((1 : Nat) : Int)), .int 4, .int (-(usedS 1500 s14 s15 1503 22 1))]] else rowsS 1500 s14 s15 8 1503 22 1) = _
      rw [u1, r1]; rfl
    rw [← r2, ← dn']
    exact rows_empty hv' (by omega) l2
  have t2 := (h19 22 0 lim').2 rfl
  obtain ⟨e19, rfl⟩ := t2.2 ⟨by decide, by decide⟩
  rw [dn', rows'] at e19
  -- months after each other
  have h21 : runsD 1500 d p 1502 (fq a b f) x21 x22 := (h21 22 0 lim).2 rfl
  rw [eq] at h21
  have c1' : cumS 1500 d 1502 (Rat.divInt 1 4) 1 = 22 := by
    show 0 + (Rat.divInt 1 4 * ((d.int (1502 + ((0 : Nat) : Int) - 1500) 0 : Int) : Rat)).floor = 22
    rw [show (1502 + ((0 : Nat) : Int) - 1500) = 2 from rfl, d2, quarter_floor (k := 22) (by decide) (by decide)]; rfl
  have c2' : cumS 1500 d 1502 (Rat.divInt 1 4) 2 = 44 := by
    show cumS 1500 d 1502 (Rat.divInt 1 4) 1 + (Rat.divInt 1 4 * ((d.int (1502 + ((1 : Nat) : Int) - 1500) 0 : Int) : Rat)).floor = 44
    rw [c1', show (1502 + ((1 : Nat) : Int) - 1500) = 3 from rfl, d3, quarter_floor (k := 22) (by decide) (by decide)]; rfl
  have x226 : x22 = 6 := by
    have small : ∀ k : Nat, underS 1500 d p 1502 (Rat.divInt 1 4) k → k ≤ 2 := fun k hu => by
      rcases Nat.lt_or_ge 2 k with h | h
      · have := (hu 2 h).2.1.2; omega
      · exact h
    have cum : ∀ k : Nat, k ≤ 2 → cumS 1500 d 1502 (Rat.divInt 1 4) k < outS 1500 d p 1502 := fun k hk => by
      rw [out]
      rcases (show k = 0 ∨ k = 1 ∨ k = 2 by omega) with rfl | rfl | rfl
      · show (0 : Int) < 45; decide
      · rw [c1']; decide
      · rw [c2']; decide
    rcases h21 with ⟨_, k, _, hu, hle⟩ | ⟨_, _, k, hu, _, h⟩
    · have := cum k (small k hu); omega
    · rcases h with h | h
      · exact h.2
      · exfalso
        have sk := small k hu
        have := h.1.2
        refine h.2.1 ?_
        rcases (show k = 0 ∨ k = 1 by omega) with rfl | rfl
        · rw [show (1502 + ((0 : Nat) : Int) - 1500) = 2 from rfl, d2]; exact quarter_fit (by decide) (by decide)
        · rw [show (1502 + ((1 : Nat) : Int) - 1500) = 3 from rfl, d3]; exact quarter_fit (by decide) (by decide)
  have R : ∀ x : Int, -9223372036854775808 ≤ x ∧ x ≤ 9223372036854775807 → Rng .i64 x := fun _ h => h
  refine ⟨R _ (by omega), R _ (by omega), R _ (by omega), R _ (by omega), R _ (by omega), fun _ => ⟨fun _ => ⟨fun _ => ⟨fun _ => ⟨fun _ => ⟨trivial, fun r1 hr1 => ⟨fun _ => ⟨trivial, fun r2 hr2 => ⟨hr2.2 e19, trivial⟩⟩, fun k => absurd (hr1.2 e11) k⟩⟩, fun k => absurd x226 k⟩, fun k => absurd out' k⟩, fun k => absurd out k⟩, fun k => absurd rfl k⟩, fun k => absurd (by omega) k⟩

end Go.Sx.N
