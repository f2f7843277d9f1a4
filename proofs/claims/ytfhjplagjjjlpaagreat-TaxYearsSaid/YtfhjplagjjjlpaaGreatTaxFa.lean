/-
 The conditions of the tax layer's checks. Conditions: none.
 Bounds of sums of fractions, and the tax as a sum. Conditions: none.
 The conditions of the tax's sum and what uses it. Conditions: none.
 Conditions of the tax's withholding. Conditions: none.
-/
import Derived.Test.YtfhjplagjjjlpaaGreatNumVT
import Derived.Test.YtfhjplagjjjlpaaGreatNumFc
set_option linter.unusedVariables false
set_option linter.unusedSimpArgs false
namespace Go.Sx.N
theorem sgnQ.le {x y : Rat} {r : Int} (h : sgnQ x y r) : r <= 0 ↔ x <= y := by
 rcases h with ⟨h, g⟩ | ⟨h, g⟩ | ⟨h, g⟩
 ·exact ⟨fun _ => Rat.le_of_lt g, fun _ => by omega⟩
 ·exact ⟨fun _ => by rw [g]; exact Rat.le_refl, fun _ => by omega⟩
 ·exact ⟨fun k => by omega, fun k => absurd g (Rat.not_lt.2 k)⟩
theorem sgnQ.ge {x y : Rat} {r : Int} (h : sgnQ x y r) : 0 <= r ↔ y <= x := by
 rcases h with ⟨h, g⟩ | ⟨h, g⟩ | ⟨h, g⟩
 ·exact ⟨fun k => by omega, fun k => absurd g (Rat.not_lt.2 k)⟩
 ·exact ⟨fun _ => by rw [g]; exact Rat.le_refl, fun _ => by omega⟩
 ·exact ⟨fun _ => Rat.le_of_lt g, fun _ => by omega⟩
theorem IsQ.nonneg {q : Rat} {a c : Bool} {b d : Sl} (h : IsQ q a b c d) (rb : Dig 65536 b) : 0 <= q ↔ a = false := by
 rw [<- Rat.num_nonneg, <- h.2.1]
 have h0 := (Dig.bound (by decide) rb).1
 have hv : vl b = val 65536 b := rfl
 cases a with
 | false => simp only [zv, Bool.false_eq_true, if_false]; exact ⟨fun _ => trivial, fun _ => h0⟩
 | true =>
  have hl : b.len ≠ 0 := fun e => by have := h.1.2 e; cases this
  have hp := (val_pos_iff (B := 65536) (by decide) rb h.1.1).2 (by have := len0 b; omega)
  simp only [zv, if_true, Bool.true_eq_false, iff_false]
  omega
theorem isAmount_ok : V_isAmount := by
 intro x _ _
 refine ⟨fun h => ⟨?_, trivial⟩, fun h => ⟨?_, trivial⟩⟩
 ·simp only [q_isAmount, decide_eq_true_eq, amt]; omega
 ·simp only [q_isAmount, decide_false, Bool.false_eq_true, false_iff, amt]; omega
theorem validRate_ok : V_validRate := by
 intro a b rb c d rd _
 simp only [Bool.decide_eq_true]
 have hb := ranged16 rb
 have hd := ranged16 rd
 have ld := len0 d
 have no : ¬ okR a b c d -> q_validRate a b c d (decide False) /\ True := fun h => ⟨by simp only [q_validRate, decide_false, Bool.false_eq_true, false_iff]; exact h, trivial⟩
 refine ⟨trivial, fun v hv => ⟨fun h => no fun hk => h (hv.2 hk.1), fun h1 => ?_⟩⟩
 have ok := hv.1 (Classical.not_not.1 h1)
 have q := ok.isQ
 have hden : vl d = ((fq a b d).den : Int) := q.2.2.2.2
 refine ⟨fun h => no fun hk => ?_, fun hpos => ⟨trivial, fun n1 s1 r1 n2 s2 r2 hone => ⟨trivial, fun x _ hx => ⟨fun h => no fun hk => ?_, fun hle sm => ?_⟩⟩⟩⟩
 ·rw [(q.nonneg hb).1 hk.2.1] at h; cases h
 ·have ok1 : okF n1 s1 n2 s2 := ⟨hone.1.lowF, by have := hone.2.1; omega, by have := hone.2.2; omega⟩
  have s := hx.1 ⟨ok, ok1⟩
  rw [hone.1.fq] at s
  have := s.le.2 hk.2.2.1
  omega
 have ok1 : okF n1 s1 n2 s2 := ⟨hone.1.lowF, by have := hone.2.1; omega, by have := hone.2.2; omega⟩
 have s := hx.1 ⟨ok, ok1⟩
 rw [hone.1.fq] at s
 have hle1 := s.le.1 (by omega)
 have hnn := (q.nonneg hb).2 (by simpa using hpos)
 have := small64 sm
 refine ⟨by rw [rng64]; omega, fun t i => t = vhi 65536 d (i + 1) /\ 0 <= t /\ t <= 1000000 /\ -1 <= i /\ i < d.len, fun _ i => (i + 1).toNat, ⟨?_, by omega, by omega, by omega, by omega⟩, ?_⟩
 ·rw [vhi_end _ _ (by omega)]
 ·intro t _ i _ hJ
  obtain ⟨e, t0, t1, i0, i1⟩ := hJ
  refine ⟨fun hi => ⟨by omega, by omega, i1, fun _ => ?_⟩, fun hi => ⟨?_, trivial⟩⟩
  ·have dgi := hd.at (i := i) (by omega) i1
   have st := vhi_step 65536 d (i := i) (by omega) i1
   have sp := val_split 65536 d (i := i) (by omega) (by omega)
   have b1 := (hd.bound_to (by decide) (i := i) (by omega)).1
   have b2 := (hd.bound_hi (by decide) (i := i) (by omega)).1
   have hv : vl d = val 65536 d := rfl
   have sh : IntKind.wrap .i64 (shl .i64 t 16) = t * 65536 := by
    rw [show shl .i64 t 16 = t * 65536 from shl_def .i64 t (n := 16) (by decide), show IntKind.wrap .i64 (t * 65536) = t * 65536 from wrap_id .i64 _ (by show (-9223372036854775808 : Int) <= _ /\ _ <= (9223372036854775807 : Int); omega)]
   rw [sh]
   refine ⟨by rw [rng64]; omega, fun hb => no fun hk => ?_, fun hs => ⟨by rw [rng64]; omega, ⟨?_, by omega, by omega, by omega, by omega⟩, by show (i - 1 + 1).toNat < (i + 1).toNat; omega⟩⟩
   ·have hk4 := hk.2.2.2
    have p1 : (1 : Int) <= 65536 ^ i.toNat := pos_pow (B := 65536) (by decide) i.toNat
    have : vhi 65536 d i <= 65536 ^ i.toNat * vhi 65536 d i := by
     have := Int.mul_le_mul_of_nonneg_right p1 b2
     omega
    generalize 65536 ^ i.toNat * vhi 65536 d i = P at *
    omega
   ·show t * 65536 + d.int i 0 = vhi 65536 d (i - 1 + 1)
    rw [show i - 1 + 1 = i by omega, st, <- e]; omega
  ·have : i = -1 := by omega
   subst this
   have hv : vl d = val 65536 d := rfl
   rw [show (-1 : Int) + 1 = 0 by omega, vhi_zero] at e
   simp only [q_validRate, decide_true, true_iff]
   exact ⟨ok, hnn, by simpa using hle1, by omega⟩
theorem tValid_ok : V_tValid := by
 intro l rl _
 simp only [Bool.decide_eq_true]
 have l0 := len0 l
 have no : ¬ validS l -> q_tValid l (decide False) /\ True := fun h => ⟨by simp only [q_tValid, decide_false, Bool.false_eq_true, false_iff]; exact h, trivial⟩
 refine fun _ => ⟨fun h => no fun hk => by have := hk.1; omega, fun hlen sm => ⟨fun i => 0 <= i /\ i <= l.len /\ ∀ k : Int, 0 <= k -> k < i -> okB l k, fun i => (l.len - i).toNat, ⟨by omega, by omega, fun k _ _ => by omega⟩, fun i _ hJ => ?_⟩⟩
 obtain ⟨i0, i1, hk⟩ := hJ
 refine ⟨fun hi => ⟨i0, hi, fun _ _ _ => ⟨fun h => no fun hv => ?_, fun h1 => ⟨fun h => no fun hv => ?_, fun h2 => ⟨trivial, fun v hv => ⟨fun h => no fun hs => ?_, fun h => ⟨by rw [rng64]; omega, ⟨by omega, by omega, ?_⟩, ?_⟩⟩⟩⟩⟩⟩, fun hi => ?_⟩
 ·have := (hv.2.1 i i0 hi).1; omega
 ·have := (hv.2.1 i i0 hi).1; omega
 ·exact h (hv.2 (hs.2.1 i i0 hi).2)
 ·intro k k0 k1
  by_cases e : k = i
  ·subst e; exact ⟨⟨by omega, by omega⟩, hv.1 (Classical.not_not.1 h)⟩
  ·exact hk k k0 (by omega)
 ·show (l.len - (i + 1)).toNat < (l.len - i).toNat; omega
 ·have hall : ∀ k : Int, 0 <= k -> k < l.len -> okB l k := fun k k0 k1 => hk k k0 (by omega)
  refine ⟨fun i => 1 <= i /\ (i <= l.len \/ i = 1) /\ ∀ k : Int, 1 <= k -> k < i -> okP l k, fun i => (l.len - i).toNat, ⟨by omega, by omega, fun k _ _ => by omega⟩, fun i _ hJ _ => ?_⟩
  obtain ⟨i0, i1, hp⟩ := hJ
  have body : i < l.len -> (((l.int (i - 1) 0 < l.int i 0) -> (p_fCmp (l.bool (i - 1) 1) (l.sub (i - 1) 2) (l.bool (i - 1) 3) (l.sub (i - 1) 4) (l.bool i 1) (l.sub i 2) (l.bool i 3) (l.sub i 4)) /\
   (∀ x : Int, ((Rng .i64 x) -> ((q_fCmp (l.bool (i - 1) 1) (l.sub (i - 1) 2) (l.bool (i - 1) 3) (l.sub (i - 1) 4) (l.bool i 1) (l.sub i 2) (l.bool i 3) (l.sub i 4) x) ->
    (((¬ (x <= 0)) -> (q_tValid l (decide False)) /\ True) /\ (¬ (¬ (x <= 0)) -> (Rng .i64 (i + 1)) /\ ((1 <= i + 1 /\ (i + 1 <= l.len \/ i + 1 = 1) /\ ∀ k : Int, 1 <= k -> k < i + 1 -> okP l k) /\ (l.len - (i + 1)).toNat < (l.len - i).toNat)))))))) /\
   (¬ (l.int (i - 1) 0 < l.int i 0) -> (q_tValid l (decide False)) /\ True) := by
   intro hi
   have a1 := hall (i - 1) (by omega) (by omega)
   have a2 := hall i (by omega) (by omega)
   refine ⟨fun hlt => ⟨trivial, fun x _ hx => ⟨fun h => no fun hv => ?_, fun h => ⟨by rw [rng64]; omega, ⟨by omega, by omega, ?_⟩, by omega⟩⟩⟩, fun h => no fun hv => h (hv.2.2 i i0 hi).1⟩
   ·have s := hx.1 ⟨a1.2.1, a2.2.1⟩
    exact h (s.le.2 (hv.2.2 i i0 hi).2)
   ·have s := hx.1 ⟨a1.2.1, a2.2.1⟩
    intro k k0 k1
    by_cases e : k = i
    ·subst e; exact ⟨hlt, s.le.1 (by omega)⟩
    ·exact hp k k0 (by omega)
  refine ⟨fun hi => ⟨by rw [rng64]; omega, by omega, by omega, by omega, hi, ⟨fun _ _ _ _ _ _ => body hi, fun _ _ _ _ _ _ => body hi⟩⟩, fun hi => ⟨?_, trivial⟩⟩
  simp only [q_tValid, decide_true, true_iff]
  exact ⟨by omega, hall, fun k k0 k1 => hp k k0 (by omega)⟩
theorem validYears_ok : V_validYears := by
 intro y ry _
 simp only [Bool.decide_eq_true]
 have l0 := len0 y
 have no : ¬ validY y -> q_validYears y (decide False) /\ True := fun h => ⟨by simp only [q_validYears, decide_false, Bool.false_eq_true, false_iff]; exact h, trivial⟩
 refine fun sm => ⟨fun i => 0 <= i /\ i <= y.len /\ ∀ k : Int, 0 <= k -> k < i -> validS (y.sub k 1), fun i => (y.len - i).toNat, ⟨by omega, by omega, fun k _ _ => by omega⟩, fun i _ hJ => ?_⟩
 have := small64 sm
 obtain ⟨i0, i1, hk⟩ := hJ
 refine ⟨fun hi => ⟨i0, hi, fun _ _ => ⟨trivial, fun v hv => ⟨fun h => no fun hs => h (hv.2 (hs.1 i i0 hi)), fun h => ⟨by rw [rng64]; omega, ⟨by omega, by omega, ?_⟩, ?_⟩⟩⟩⟩, fun hi => ?_⟩
 ·intro k k0 k1
  by_cases e : k = i
  ·subst e; exact hv.1 (Classical.not_not.1 h)
  ·exact hk k k0 (by omega)
 ·show (y.len - (i + 1)).toNat < (y.len - i).toNat; omega
 ·have hall : ∀ k : Int, 0 <= k -> k < y.len -> validS (y.sub k 1) := fun k k0 k1 => hk k k0 (by omega)
  refine ⟨fun i => 1 <= i /\ (i <= y.len \/ i = 1) /\ ∀ k : Int, 1 <= k -> k < i -> y.int (k - 1) 0 < y.int k 0, fun i => (y.len - i).toNat, ⟨by omega, by omega, fun k _ _ => by omega⟩, fun i _ hJ _ => ?_⟩
  obtain ⟨i0, i1, hp⟩ := hJ
  have body : i < y.len -> (((¬ (y.int (i - 1) 0 < y.int i 0)) -> (q_validYears y (decide False)) /\ True) /\ (¬ (¬ (y.int (i - 1) 0 < y.int i 0)) -> (Rng .i64 (i + 1)) /\ ((1 <= i + 1 /\ (i + 1 <= y.len \/ i + 1 = 1) /\ ∀ k : Int, 1 <= k -> k < i + 1 -> y.int (k - 1) 0 < y.int k 0) /\ (y.len - (i + 1)).toNat < (y.len - i).toNat))) := by
   intro hi
   refine ⟨fun h => no fun hv => h (hv.2 i i0 hi), fun h => ⟨by rw [rng64]; omega, ⟨by omega, by omega, ?_⟩, by omega⟩⟩
   intro k k0 k1
   by_cases e : k = i
   ·subst e; exact Classical.not_not.1 h
   ·exact hp k k0 (by omega)
  refine ⟨fun hi => ⟨by rw [rng64]; omega, by omega, by omega, by omega, hi, ⟨fun _ _ _ _ => body hi, fun _ _ _ _ => body hi⟩⟩, fun hi => ⟨?_, trivial⟩⟩
  simp only [q_validYears, decide_true, true_iff]
  exact ⟨hall, fun k k0 k1 => hp k k0 (by omega)⟩
theorem applying_ok : V_applying := by
 intro y ry year _ _ sm
 have l0 := len0 y
 have := small64 sm
 refine ⟨by rw [rng64]; omega, fun i => -1 <= i /\ i < y.len /\ ∀ j : Int, i < j -> j < y.len -> year < y.int j 0, fun i => (i + 1).toNat, ⟨by omega, by omega, fun j _ _ => by omega⟩, fun i _ hJ => ?_⟩
 obtain ⟨i0, i1, hj⟩ := hJ
 refine ⟨fun hi => ⟨by omega, i1, fun _ => ⟨fun h => ⟨by omega, i1, fun _ => ⟨⟨fun _ => ⟨i, ⟨by omega, i1, h, hj⟩, rfl⟩, fun h => by simp at h⟩, trivial⟩⟩, fun h => ⟨by rw [rng64]; omega, ⟨by omega, by omega, ?_⟩, ?_⟩⟩⟩, fun hi => ⟨⟨fun h => by simp at h, fun _ => ⟨fun j j0 j1 => hj j (by omega) j1, rfl⟩⟩, trivial⟩⟩
 ·intro j j0 j1
  by_cases e : j = i
  ·subst e; omega
  ·exact hj j (by omega) j1
 ·show (i - 1 + 1).toNat < (i + 1).toNat; omega
end Go.Sx.N
namespace Go.Sx.N
def Bd (q : Rat) (K : Int) (D : Nat) : Prop := 0 <= q /\ q <= (K : Rat) /\ q.den <= D
theorem add_den_le (q r : Rat) : (q + r).den <= q.den * r.den := by
 have h : q + r = Rat.divInt (q.num * r.den + r.num * q.den) (q.den * r.den) := by
  rw [<- Rat.divInt_add_divInt _ _ (by have := q.den_pos; omega) (by have := r.den_pos; omega), Rat.num_divInt_den, Rat.num_divInt_den]
 have := divInt_den_le (n := q.num * r.den + r.num * q.den) (d := (q.den : Int) * r.den) (by
  have h1 := q.den_pos; have h2 := r.den_pos
  exact Int.mul_ne_zero (by omega) (by omega))
 rw [<- h, <- Int.natCast_mul, Int.natAbs_natCast] at this
 exact this
theorem mul_den_le (q r : Rat) : (q * r).den <= q.den * r.den := by
 have h : q * r = Rat.divInt (q.num * r.num) (q.den * r.den) := by
  rw [<- Rat.divInt_mul_divInt, Rat.num_divInt_den, Rat.num_divInt_den]
 have := divInt_den_le (n := q.num * r.num) (d := (q.den : Int) * r.den) (by
  have h1 := q.den_pos; have h2 := r.den_pos
  exact Int.mul_ne_zero (by omega) (by omega))
 rw [<- h, <- Int.natCast_mul, Int.natAbs_natCast] at this
 exact this
theorem sub_den_le (q r : Rat) : (q - r).den <= q.den * r.den := by
 rw [Rat.sub_eq_add_neg]; have := add_den_le q (-r); exact this
theorem Bd.add {q r : Rat} {K L : Int} {D E : Nat} (h : Bd q K D) (g : Bd r L E) : Bd (q + r) (K + L) (D * E) := by
 refine ⟨Rat.add_nonneg h.1 g.1, ?_, Nat.le_trans (add_den_le q r) (Nat.mul_le_mul h.2.2 g.2.2)⟩
 rw [Rat.intCast_add]
 have h1 := h.2.1; have g1 := g.2.1
 grind
theorem Bd.mul {q r : Rat} {K L : Int} {D E : Nat} (h : Bd q K D) (g : Bd r L E) : Bd (q * r) (K * L) (D * E) := by
 refine ⟨Rat.mul_nonneg h.1 g.1, ?_, Nat.le_trans (mul_den_le q r) (Nat.mul_le_mul h.2.2 g.2.2)⟩
 rw [Rat.intCast_mul]
 have e1 := Rat.mul_le_mul_of_nonneg_right h.2.1 g.1
 have e2 := Rat.mul_le_mul_of_nonneg_left g.2.1 (c := (K : Rat)) (Rat.le_trans h.1 h.2.1)
 exact Rat.le_trans e1 e2
theorem Bd.mono {q : Rat} {K L : Int} {D E : Nat} (h : Bd q K D) (k : K <= L) (d : D <= E) : Bd q L E :=
 ⟨h.1, Rat.le_trans h.2.1 (Rat.intCast_le_intCast.2 k), Nat.le_trans h.2.2 d⟩
theorem Bd.int {n K : Int} (h0 : 0 <= n) (h1 : n <= K) : Bd (n : Rat) K 1 := ⟨by have := Rat.intCast_le_intCast.2 h0; simpa using this, Rat.intCast_le_intCast.2 h1, by rw [Rat.den_intCast]; exact Nat.le_refl 1⟩
theorem Bd.sub1 {q r : Rat} {K : Int} {D E : Nat} (h : Bd q K D) (g : Bd r K E) (hle : r <= q) : Bd (q - r) K (D * E) := by
 have h1 := h.2.1; have g0 := g.1
 exact ⟨by grind, by grind, Nat.le_trans (sub_den_le q r) (Nat.mul_le_mul h.2.2 g.2.2)⟩
theorem Bd.num {q : Rat} {K : Int} {D : Nat} (h : Bd q K D) : 0 <= q.num /\ q.num <= K * q.den := by
 refine ⟨Rat.num_nonneg.2 h.1, ?_⟩
 have := (Rat.le_iff _ _).1 h.2.1
 rw [Rat.den_intCast, Rat.num_intCast] at this
 simpa using this
theorem Bd.fit {q : Rat} {K : Int} {D : Nat} (h : Bd q K D) (hk : 1 <= K) (hf : K.toNat * D < 65536 ^ 256) : fitQ q := by
 have hn := h.num
 have hd : q.den <= D := h.2.2
 have c : cap256 = ((65536 ^ 256 : Nat) : Int) := by rw [cap256_eq]; exact (Int.natCast_pow 65536 256).symm
 have hKD : K * q.den <= ((K.toNat * D : Nat) : Int) := by
  rw [Int.natCast_mul, Int.toNat_of_nonneg (by omega)]
  exact Int.mul_le_mul_of_nonneg_left (by omega) (by omega)
 have hD : (q.den : Int) <= ((K.toNat * D : Nat) : Int) := by
  have : D * 1 <= D * K.toNat := Nat.mul_le_mul_left D (by omega)
  rw [Nat.mul_comm K.toNat D]; omega
 have hf' : ((K.toNat * D : Nat) : Int) < cap256 := by rw [c]; exact Int.ofNat_lt.2 hf
 exact ⟨by omega, by omega⟩
section
variable {l : Sl} {m A : Int}
theorem validS.at (h : validS l) {i : Int} (h0 : 0 <= i) (h1 : i < l.len) : (0 <= l.int i 0 /\ l.int i 0 <= 1099511627776) /\ Bd (rq l i) 1 1000000 := by
 have b := h.2.1 i h0 h1
 exact ⟨b.1, b.2.2.1, by have := b.2.2.2.1; exact this, by have := b.2.2.2.2; unfold rq; omega⟩
theorem validS.rate0 (h : validS l) {i : Int} (h0 : 0 <= i) (h1 : i < l.len) : Bd (rp l i) 1 1000000 /\ rp l i <= rq l i := by
 unfold rp
 have b := (h.at h0 h1).2
 by_cases e : i = 0
 ·rw [if_pos e]
  have b0 := b.1
  exact ⟨⟨by grind, by grind, by decide⟩, b0⟩
 ·rw [if_neg e]
  exact ⟨(h.at (i := i - 1) (by omega) (by omega)).2, (h.2.2 i (by omega) h1).2⟩
theorem validS.rd (h : validS l) {i : Int} (h0 : 0 <= i) (h1 : i < l.len) : Bd (rq l i - rp l i) 1 1000000000000 :=
 ((h.at h0 h1).2.sub1 (h.rate0 h0 h1).1 (h.rate0 h0 h1).2)
theorem PI_bd (h : validS l) (hm : 1 <= m /\ m <= 12) (hA : amt A) {i : Int} (h0 : 0 <= i) (h1 : i < l.len) : 0 <= PI l m A i /\ PI l m A i <= 13194139533312 := by
 have b := (h.at h0 h1).1
 have p : 0 <= l.int i 0 * m := Int.mul_nonneg b.1 (by omega)
 unfold PI amt at *
 split <;> omega
def PJ (l : Sl) (m A i : Int) : Int := if i < l.len then PI l m A i else 0
def SS (l : Sl) (m A : Int) (i : Nat) : Rat := TN l m A i - (PJ l m A i : Rat) * rp l i
theorem rp_succ (l : Sl) (i : Nat) : rp l ((i + 1 : Nat) : Int) = rq l i := by
 unfold rp; rw [if_neg (by omega)]; congr 1; omega
theorem SS_zero : SS l m A 0 = 0 := by
 have : rp l ((0 : Nat) : Int) = 0 := rfl
 unfold SS; rw [this]; simp only [TN]; grind
theorem SS_succ {i : Nat} (h1 : (i : Int) < l.len) : SS l m A (i + 1) = SS l m A i + ((PI l m A i - PJ l m A ((i + 1 : Nat) : Int) : Int) : Rat) * rq l i := by
 unfold SS
 rw [rp_succ, Rat.intCast_sub]
 have : PJ l m A i = PI l m A i := by unfold PJ; rw [if_pos h1]
 rw [this]
 simp only [TN]
 grind
theorem SS_end : SS l m A l.len.toNat = TN l m A l.len.toNat := by
 unfold SS
 have : PJ l m A (l.len.toNat : Int) = 0 := by unfold PJ; rw [if_neg (by omega)]
 rw [this]
 grind
theorem part_eq (h : validS l) (hm : 1 <= m /\ m <= 12) {i : Nat} (h1 : (i : Int) < l.len) {to : Int}
  (ht : (((i : Int) + 1 < l.len) -> to = imin (A * 12) (l.int (i + 1) 0 * m)) /\ (¬ ((i : Int) + 1 < l.len) -> to = A * 12)) :
  (to > l.int i 0 * m -> to - l.int i 0 * m = PI l m A i - PJ l m A ((i + 1 : Nat) : Int)) /\ (¬ (to > l.int i 0 * m) -> PI l m A i - PJ l m A ((i + 1 : Nat) : Int) = 0) := by
 have e1 : ((i + 1 : Nat) : Int) = (i : Int) + 1 := by omega
 rw [e1]
 unfold PJ PI
 by_cases hl : (i : Int) + 1 < l.len
 ·have hp := (h.2.2 ((i : Int) + 1) (by omega) hl).1
  rw [show (i : Int) + 1 - 1 = i by omega] at hp
  have hle : l.int i 0 * m <= l.int ((i : Int) + 1) 0 * m := Int.mul_le_mul_of_nonneg_right (by omega) (by omega)
  have t := ht.1 hl
  rw [if_pos hl]
  generalize l.int i 0 * m = f at *
  generalize l.int ((i : Int) + 1) 0 * m = g at *
  unfold imin at t
  split at t <;> (subst t; constructor <;> intro hh <;> (repeat' split) <;> omega)
 ·have t := ht.2 hl
  rw [if_neg hl]
  generalize l.int i 0 * m = f at *
  subst t
  constructor <;> intro hh <;> (repeat' split) <;> omega
theorem part_bd (h : validS l) (hm : 1 <= m /\ m <= 12) (hA : amt A) {i : Nat} (h1 : (i : Int) < l.len) : 0 <= PI l m A i - PJ l m A ((i + 1 : Nat) : Int) /\ PI l m A i - PJ l m A ((i + 1 : Nat) : Int) <= 13194139533312 := by
 have e1 : ((i + 1 : Nat) : Int) = (i : Int) + 1 := by omega
 rw [e1]
 have b := PI_bd (m := m) (A := A) h hm hA (i := (i : Int)) (by omega) h1
 unfold PJ
 by_cases hl : (i : Int) + 1 < l.len
 ·have c := PI_bd (m := m) (A := A) h hm hA (i := (i : Int) + 1) (by omega) hl
  rw [if_pos hl]
  have hp := (h.2.2 ((i : Int) + 1) (by omega) hl).1
  rw [show (i : Int) + 1 - 1 = i by omega] at hp
  have hle : l.int i 0 * m <= l.int ((i : Int) + 1) 0 * m := Int.mul_le_mul_of_nonneg_right (by omega) (by omega)
  have : PI l m A ((i : Int) + 1) <= PI l m A i := by unfold PI; (repeat' split) <;> omega
  omega
 ·rw [if_neg hl]; omega
theorem SS_bd (h : validS l) (hm : 1 <= m /\ m <= 12) (hA : amt A) : ∀ i : Nat, (i : Int) <= l.len -> Bd (SS l m A i) (i * 13194139533312) (1000000 ^ i)
 | 0, _ => by rw [SS_zero]; exact ⟨Rat.le_refl, by simp, by decide⟩
 | i + 1, hi => by
  have ih := SS_bd h hm hA i (by omega)
  have p := part_bd (A := A) h hm hA (i := i) (by omega)
  have g := ih.add ((Bd.int p.1 p.2).mul (h.at (i := (i : Int)) (by omega) (by omega)).2)
  rw [SS_succ (by omega)]
  exact g.mono (by omega) (by rw [Nat.pow_succ]; omega)
theorem TN_bd (h : validS l) (hm : 1 <= m /\ m <= 12) (hA : amt A) : ∀ i : Nat, (i : Int) <= l.len -> Bd (TN l m A i) (i * 13194139533312) (1000000000000 ^ i)
 | 0, _ => ⟨Rat.le_refl, by simp [TN], by simp [TN]⟩
 | i + 1, hi => by
  have ih := TN_bd h hm hA i (by omega)
  have p := PI_bd (m := m) (A := A) h hm hA (i := i) (by omega) (by omega)
  have g := ih.add ((Bd.int p.1 p.2).mul (h.rd (i := (i : Int)) (by omega) (by omega)))
  exact g.mono (by omega) (by rw [Nat.pow_succ]; omega)
theorem pow_le20 {B n : Nat} (hB : 0 < B) (h : n <= 20) : B ^ n <= B ^ 20 := Nat.pow_le_pow_right hB h
theorem TN_bd' (h : validS l) (hm : 1 <= m /\ m <= 12) (hA : amt A) {i : Nat} (hi : (i : Int) <= l.len) : Bd (TN l m A i) 263882790666240 (1000000000000 ^ 20) :=
 (TN_bd h hm hA i hi).mono (by have := h.1; omega) (pow_le20 (by decide) (by have := h.1; omega))
theorem SS_bd' (h : validS l) (hm : 1 <= m /\ m <= 12) (hA : amt A) {i : Nat} (hi : (i : Int) <= l.len) : Bd (SS l m A i) 263882790666240 (1000000 ^ 20) :=
 (SS_bd h hm hA i hi).mono (by have := h.1; omega) (pow_le20 (by decide) (by have := h.1; omega))
theorem twelfth : Bd ((12 : Rat)⁻¹) 1 12 := ⟨by grind, by rw [show ((1 : Int) : Rat) = 1 from rfl]; grind, by
 rw [Rat.inv_def]; exact divInt_den_le (n := ((12 : Rat).den : Int)) (d := (12 : Rat).num) (by decide)⟩
theorem div12_bd {q : Rat} {K : Int} {D : Nat} (h : Bd q K D) : Bd (q / 12) K (D * 12) := by
 have := h.mul twelfth
 rw [<- Rat.div_def, Int.mul_one] at this
 exact this
theorem TT_bd (h : validS l) (hm : 1 <= m /\ m <= 12) (hA : amt A) : Bd (TT l m A) 263882790666240 (1000000000000 ^ 20 * 12) :=
 div12_bd (TN_bd' h hm hA (by have := len0 l; omega))
theorem TT_fit (h : validS l) (hm : 1 <= m /\ m <= 12) (hA : amt A) : fitQ (TT l m A) :=
 (TT_bd h hm hA).fit (by decide) (by decide)
end
end Go.Sx.N
namespace Go.Sx.N
theorem fromInt_ok {n : Int} {a c : Bool} {b d : Sl} (h : q_fFromInt n a b c d) : okF a b c d := ⟨h.1.lowF, by have := h.2.1; omega, by have := h.2.2; omega⟩
def JE (l : Sl) (m A : Int) : Int -> Bool -> Sl -> Bool -> Sl -> Bool -> Sl -> Bool -> Sl -> Int -> Prop := fun i a b c d _ _ _ _ _ => 0 <= i /\ i <= l.len /\ IsQ (SS l m A i.toNat) a b c d
def ME (l : Sl) : Int -> Bool -> Sl -> Bool -> Sl -> Bool -> Sl -> Bool -> Sl -> Int -> Nat := fun i _ _ _ _ _ _ _ _ _ => (l.len - i).toNat
theorem exact_core {l : Sl} {m A i : Int} (hp : p_exact l m A) (i0 : 0 <= i) (i1 : i < l.len) {a c : Bool} {b d : Sl} (rb : Dig 65536 b) (rd : Dig 65536 d) (hJ : IsQ (SS l m A i.toNat) a b c d)
  {a' c' : Bool} {b' d' : Sl} {x : Int} {n : Int} (hn : n = PI l m A i - PJ l m A (i + 1)) {p r : Bool} {q s : Sl} (hf : q_fFromInt n p q r s) : V_exact_0 l m A (JE l m A) (ME l) i a b c d a' b' c' d' x p q r s := by
 simp only [V_exact_0, Bool.decide_eq_true]
 have ei : ((i.toNat : Nat) : Int) = i := by omega
 have ei1 : ((i.toNat + 1 : Nat) : Int) = i + 1 := by omega
 have v := hp.1
 have len20 := v.1
 have pb := part_bd (A := A) v hp.2.1 hp.2.2 (i := i.toNat) (by omega)
 rw [ei1, ei, <- hn] at pb
 have st := SS_succ (l := l) (m := m) (A := A) (i := i.toNat) (by omega)
 rw [ei1, ei, <- hn] at st
 have okr := (v.2.1 i i0 i1).2.1
 have rt := (v.at i0 i1).2
 have bS := SS_bd' (A := A) v hp.2.1 hp.2.2 (i := i.toNat) (by omega)
 have bS1 := SS_bd' (A := A) v hp.2.1 hp.2.2 (i := i.toNat + 1) (by omega)
 have okS : okF a b c d := hJ.ok rb rd (bS.fit (by decide) (by decide))
 refine ⟨trivial, fun a1 b1 r1 c1 d1 r2 e1 _ h1 => ?_⟩
 have m1 := h1.1 ⟨fromInt_ok hf, okr⟩
 rw [hf.1.fq] at m1
 have bP := (Bd.int pb.1 pb.2).mul rt
 have m2 := m1.1 (bP.fit (by decide) (by decide))
 have okP := m2.1.ok (ranged16 r1) (ranged16 r2) (bP.fit (by decide) (by decide))
 refine ⟨fun e a b c d => e = 0 /\ IsQ (SS l m A (i.toNat + 1)) a b c d, ⟨fun _ => ⟨trivial, fun a3 b3 r3 c3 d3 r4 e3 _ h3 => ?_⟩, fun h => absurd m2.2 h⟩, fun e _ a4 b4 _ c4 d4 _ hj => ⟨fun h => absurd hj.1 h, fun _ => ⟨by rw [rng64]; omega, ⟨by omega, by omega, ?_⟩, ?_⟩⟩⟩
 ·have m3 := h3.1 ⟨okS, okP⟩
  rw [hJ.fq, m2.1.fq] at m3
  have e4 : SS l m A i.toNat + ((n : Int) : Rat) * fq (l.bool i 1) (l.sub i 2) (l.sub i 4) = SS l m A (i.toNat + 1) := st.symm
  rw [e4] at m3
  have := m3.1 (bS1.fit (by decide) (by decide))
  exact ⟨this.2, this.1⟩
 ·rw [show (i + 1).toNat = i.toNat + 1 by omega]; exact hj.2
 ·show (l.len - (i + 1)).toNat < (l.len - i).toNat; omega
theorem exact_ok : V_exact := by
 intro l rl m _ A _ hp
 simp only [Bool.decide_eq_true]
 have v := hp.1
 have len20 := v.1
 have l0 := len0 l
 refine ⟨trivial, fun a0 b0 r0 c0 d0 r1 h0 sm => ⟨JE l m A, ME l, ⟨by omega, l0, ?_⟩, fun i _ a b rb c d rd a' b' _ c' d' _ x _ hJ => ?_⟩⟩
 ·rw [show (0 : Int).toNat = 0 from rfl, SS_zero]; exact h0.1
 obtain ⟨i0, i1, hJ⟩ := hJ
 have hA := hp.2.2
 have hm := hp.2.1
 unfold amt at hA
 refine ⟨fun hi => ⟨i0, hi, fun _ _ _ => ?_⟩, fun hi => ?_⟩
 ·have b1 := (v.at i0 hi).1
  have f0 : 0 <= l.int i 0 * m := Int.mul_nonneg b1.1 (by omega)
  have f1 : l.int i 0 * m <= 1099511627776 * 12 := Int.mul_le_mul b1.2 hm.2 (by omega) (by decide)
  have ei : ((i.toNat : Nat) : Int) = i := by omega
  have ei1 : ((i.toNat + 1 : Nat) : Int) = i + 1 := by omega
  refine ⟨by rw [rng64]; omega, by rw [rng64]; omega, fun to => ((i + 1 < l.len) -> to = imin (A * 12) (l.int (i + 1) 0 * m)) /\ (¬ (i + 1 < l.len) -> to = A * 12), ⟨by rw [rng64]; omega, fun _ => ⟨fun h => ⟨by rw [rng64]; omega, by omega, h, fun _ => ⟨?_, ⟨fun _ => rfl, fun g => absurd h g⟩⟩⟩, fun h => ⟨fun g => absurd g h, fun _ => rfl⟩⟩⟩, fun to _ ht => ?_⟩
  ·have b2 := (v.at (i := i + 1) (by omega) h).1
   have g0 : 0 <= l.int (i + 1) 0 * m := Int.mul_nonneg b2.1 (by omega)
   have g1 : l.int (i + 1) 0 * m <= 1099511627776 * 12 := Int.mul_le_mul b2.2 hm.2 (by omega) (by decide)
   rw [rng64]; omega
  ·have pe := part_eq (A := A) v hm (i := i.toNat) (by omega) (to := to) (by rw [ei]; exact ht)
   have pb := part_bd (A := A) v hm hp.2.2 (i := i.toNat) (by omega)
   rw [ei1, ei] at pe pb
   refine ⟨fun hgt => ?_, fun hle => ⟨by rw [rng64]; omega, ⟨by omega, by omega, ?_⟩, by show (l.len - (i + 1)).toNat < (l.len - i).toNat; omega⟩⟩
   ·have en := pe.1 hgt
    have core : ∀ (p : Bool) (q : Sl) (r : Bool) (s : Sl), q_fFromInt (to - l.int i 0 * m) p q r s -> V_exact_0 l m A (JE l m A) (ME l) i a b c d a' b' c' d' x p q r s :=
     fun p q r s hf => exact_core hp i0 hi (ranged16 rb) (ranged16 rd) hJ en hf
    refine ⟨by rw [rng64]; omega, ⟨trivial, fun p q _ r s _ hf => ⟨core p q r s hf, core p q r s hf⟩⟩, trivial, fun p q _ r s _ hf => core p q r s hf⟩
   ·have st := SS_succ (l := l) (m := m) (A := A) (i := i.toNat) (by omega)
    rw [ei1, ei, pe.2 hle] at st
    rw [show (i + 1).toNat = i.toNat + 1 by omega, st]
    have : SS l m A i.toNat + ((0 : Int) : Rat) * rq l i = SS l m A i.toNat := by
     rw [show ((0 : Int) : Rat) = 0 from rfl]; grind
    rw [this]; exact hJ
 ·have e : i = l.len := by omega
  subst e
  rw [SS_end] at hJ
  have okS := hJ.ok (ranged16 rb) (ranged16 rd) ((TN_bd' (A := A) v hm hp.2.2 (by omega)).fit (by decide) (by decide))
  refine ⟨trivial, fun p q rq' r s rs h12 => ⟨trivial, fun a2 b2 r2 c2 d2 r3 e2 _ h2 => ⟨?_, trivial⟩⟩⟩
  have m1 := h2.1 ⟨okS, fromInt_ok h12⟩
  rw [h12.1.fq, hJ.fq] at m1
  have m2 := m1.1 (by decide)
  have et : TN l m A l.len.toNat / ((12 : Int) : Rat) = TT l m A := rfl
  rw [et] at m2
  have ft := TT_fit (A := A) v hm hp.2.2
  have m3 := m2.1 ft
  exact ⟨m3.1, m3.1.ok (ranged16 r2) (ranged16 r3) ft, m3.2⟩
theorem tTax_ok : V_tTax := by
 intro l _ A _ _
 simp only [Bool.decide_eq_true]
 have no : ¬ (validS l /\ amt A) -> q_tTax l A (decide False) Sl.nil (decide False) Sl.nil 2 /\ True := fun h => ⟨⟨fun k => absurd k h, fun _ => ⟨⟨rfl, rfl, rfl, rfl⟩, rfl⟩⟩, trivial⟩
 refine ⟨trivial, fun v hv => ⟨fun h => no fun k => h (hv.2 k.1), fun h => ⟨trivial, fun w hw => ⟨fun g => no fun k => g (hw.2 k.2), fun g => ?_⟩⟩⟩⟩
 have k1 := hv.1 (Classical.not_not.1 h)
 have k2 := hw.1 (Classical.not_not.1 g)
 exact ⟨⟨k1, ⟨by decide, by decide⟩, k2⟩, fun a b _ c d _ e _ hq => ⟨⟨fun _ => hq, fun k => absurd ⟨k1, k2⟩ k⟩, trivial⟩⟩
theorem TT_range {l : Sl} {m A : Int} (h : validS l) (hm : 1 <= m /\ m <= 12) (hA : amt A) : 0 <= (TT l m A).floor /\ (TT l m A).floor <= 263882790666240 := by
 have b := TT_bd (A := A) h hm hA
 have f1 := Rat.floor_monotone b.1
 have f2 := Rat.floor_monotone b.2.1
 rw [Rat.floor_intCast] at f2
 have : (0 : Rat).floor = 0 := Rat.floor_intCast 0
 omega
theorem due_core {l : Sl} {m A : Int} (k1 : validS l) (hm : 1 <= m /\ m <= 12) (k2 : amt A) {a c : Bool} {b d : Sl} (rb : Dig 65536 b) (rd : Dig 65536 d) {e : Int} (hq : resF (roundQ (TT l m A) 3 : Int) a b c d e) :
  e = 0 /\ okF a b c d /\ fq a b d = (((TT l m A).floor : Int) : Rat) := by
 have r3 : roundQ (TT l m A) 3 = (TT l m A).floor := by unfold roundQ; rw [if_pos rfl]
 rw [r3] at hq
 have rg := TT_range (A := A) k1 hm k2
 have ft : fitQ (((TT l m A).floor : Int) : Rat) := (Bd.int rg.1 rg.2).fit (by decide) (by decide)
 have h := hq.1 ft
 exact ⟨h.2, h.1.ok rb rd ft, h.1.fq⟩
theorem tDue_ok : V_tDue := by
 intro l _ m _ A _ _
 simp only [Bool.decide_eq_true]
 have no : ¬ (validS l /\ (1 <= m /\ m <= 12) /\ amt A) -> q_tDue l m A 0 2 /\ True := fun h => ⟨⟨fun k => absurd k h, fun _ => ⟨rfl, rfl⟩⟩, trivial⟩
 refine ⟨trivial, fun v hv => ⟨fun h => no fun k => h (hv.2 k.1), fun h => ⟨fun g => no fun k => by omega, fun g1 => ⟨fun g => no fun k => by omega, fun g2 => ⟨trivial, fun w hw => ⟨fun g => no fun k => g (hw.2 k.2.2), fun g => ?_⟩⟩⟩⟩⟩⟩
 have k1 := hv.1 (Classical.not_not.1 h)
 have k2 := hw.1 (Classical.not_not.1 g)
 have hm : 1 <= m /\ m <= 12 := ⟨by omega, by omega⟩
 refine ⟨⟨k1, hm, k2⟩, fun a b rb c d rd e _ hq => ⟨fun k => absurd hq.2.2 k, fun _ => ?_⟩⟩
 have core : ∀ (p : Bool) (q : Sl) (r : Bool) (s : Sl), q_fFromInt 1 p q r s -> p_fRound a b c d p q r s 3 /\
   ∀ (a1 : Bool) (b1 : Sl), Ranged b1 [some .u16] -> ∀ (c1 : Bool) (d1 : Sl), Ranged d1 [some .u16] -> ∀ x : Int, Rng .i64 x -> q_fRound a b c d p q r s 3 a1 b1 c1 d1 x ->
    ((x ≠ 0 -> q_tDue l m A 0 x /\ True) /\ (¬ (x ≠ 0) -> p_fInt a1 b1 c1 d1 /\ ∀ y : Int, Rng .i64 y -> ∀ z : Int, Rng .i64 z -> q_fInt a1 b1 c1 d1 y z -> q_tDue l m A y z /\ True)) := by
  intro p q r s h1
  refine ⟨⟨h1.1, by have := h1.2.1; omega, by have := h1.2.2; omega, Or.inl rfl⟩, fun a1 b1 r1 c1 d1 r2 x _ hx => ?_⟩
  have hx1 := hx.1 hq.2.1
  rw [hq.1.fq] at hx1
  obtain ⟨e0, ok, ef⟩ := due_core k1 hm k2 (ranged16 r1) (ranged16 r2) hx1
  refine ⟨fun k => absurd e0 k, fun _ => ⟨trivial, fun y _ z _ hy => ⟨⟨fun _ => ?_, fun k => absurd ⟨k1, hm, k2⟩ k⟩, trivial⟩⟩⟩
  have h2 := hy.2 ok
  rw [ef] at h2
  have rg := TT_range (A := A) k1 hm k2
  have h3 := (h2.2 (Rat.den_intCast _)).1 (by rw [Rat.num_intCast]; unfold inI64; omega)
  rw [Rat.num_intCast] at h3
  exact h3
 exact ⟨⟨trivial, fun p q _ r s _ h1 => ⟨core p q r s h1, core p q r s h1⟩⟩, trivial, fun p q _ r s _ h1 => core p q r s h1⟩
end Go.Sx.N
namespace Go.Sx.N
theorem Appl.uniq {y : Sl} {year i j : Int} (h : Appl y year i) (g : Appl y year j) : i = j := by
 obtain ⟨a, b, c, d⟩ := h
 obtain ⟨a', b', c', d'⟩ := g
 by_cases e : i < j
 ·have := d j e b'; omega
 ·by_cases e' : j < i
  ·have := d' i e' b; omega
  ·omega
theorem Appl.no {y : Sl} {year i : Int} (h : Appl y year i) (g : noAppl y year) : False := by
 have := g i h.1 h.2.1; have := h.2.2.1; omega
theorem Appl.validS {y : Sl} {year i : Int} (h : Appl y year i) (v : validY y) : validS (y.sub i 1) := v.1 i h.1 h.2.1
theorem held_bad {y : Sl} {mo g t month gross : Int} (h : ¬ okP6 y mo g t month gross) : held y mo g t month gross 0 0 0 0 2 :=
 ⟨fun _ => ⟨rfl, rfl, rfl, rfl, rfl⟩, fun k => absurd k h⟩
theorem held_none {y : Sl} {mo g t month gross : Int} (h : okP6 y mo g t month gross) (n : noAppl y (1900 + month / 12)) : held y mo g t month gross 0 0 0 0 6 :=
 ⟨fun k => absurd h k, fun _ => ⟨fun _ => ⟨rfl, rfl, rfl, rfl, rfl⟩, fun i hi => (hi.no n).elim⟩⟩
theorem held_long {y : Sl} {mo g t month gross i : Int} (h : okP6 y mo g t month gross) (n : Appl y (1900 + month / 12) i) (k : 1099511627776 < goes mo month g + gross) : held y mo g t month gross 0 0 0 0 3 :=
 ⟨fun k => absurd h k, fun _ => ⟨fun k => (n.no k).elim, fun i hi => ⟨fun _ => ⟨rfl, rfl, rfl, rfl, rfl⟩, fun k' => by omega⟩⟩⟩
theorem held_good {y : Sl} {mo g t month gross i g' d : Int} (h : okP6 y mo g t month gross) (n : Appl y (1900 + month / 12) i) (k : goes mo month g + gross <= 1099511627776) (eg : g' = goes mo month g + gross) (ed : d = (TT (y.sub i 1) (month % 12 + 1) g').floor) {r : Int} (er : r = d - goes mo month t) :
  held y mo g t month gross r month g' d 0 :=
 ⟨fun k => absurd h k, fun _ => ⟨fun k => (n.no k).elim, fun j hj => ⟨fun k' => by omega, fun _ => ⟨rfl, eg, by rw [ed, hj.uniq n], er, rfl⟩⟩⟩⟩
theorem tdiv12 {x : Int} (h : 0 <= x) : Int.tdiv x 12 = x / 12 := Int.tdiv_eq_ediv_of_nonneg h
theorem tmod12 {x : Int} (h : 0 <= x) : Int.tmod x 12 = x % 12 := Int.tmod_eq_emod_of_nonneg h
theorem tWithhold_ok : V_tWithhold := by
 intro y _ mo _ g _ t _ month _ gross _ _
 simp only [Bool.decide_eq_true]
 have no : ¬ okP6 y mo g t month gross -> q_tWithhold y mo g t month gross 0 0 0 0 2 /\ True := fun h => ⟨held_bad h, trivial⟩
 refine ⟨trivial, fun v hv => ⟨fun h => no fun k => h (hv.2 k.1), fun h => ⟨fun a => no fun k => ?_, fun a1 => ⟨fun a => no fun k => ?_, fun a2 => ⟨trivial, fun w hw => ⟨fun a => no fun k => a (hw.2 k.2.2.1), fun a3 => ⟨fun a => no fun k => ?_, fun a4 => ⟨fun a => no fun k => ?_, fun a5 => ⟨fun a => no fun k => ?_, fun a6 => ⟨fun a => no fun k => ?_, fun a7 => ⟨trivial, fun u hu => ⟨fun a => no fun k => a (hu.2 k.2.2.2.2.2), fun a8 => ?_⟩⟩⟩⟩⟩⟩⟩⟩⟩⟩⟩⟩
 all_goals try (obtain ⟨_, ⟨_, _⟩, _, ⟨_, _⟩, ⟨_, _⟩, _⟩ := k; omega)
 have k1 := hv.1 (Classical.not_not.1 h)
 have k2 := hw.1 (Classical.not_not.1 a3)
 have k3 := hu.1 (Classical.not_not.1 a8)
 have ok : okP6 y mo g t month gross := ⟨k1, ⟨by omega, by omega⟩, k2, ⟨by omega, by omega⟩, ⟨by omega, by omega⟩, k3⟩
 unfold amt at k2 k3
 rw [tdiv12 (by omega : 0 <= month), tdiv12 (by omega : 0 <= mo), tmod12 (by omega : 0 <= month)]
 refine ⟨by decide, by rw [rng64]; omega, by rw [rng64]; omega, trivial, fun s _ b hb => ⟨fun hn => ⟨held_none ok (hb.2 (by simpa using hn)).1, trivial⟩, fun hy => ?_⟩⟩
 obtain ⟨i, hi, es⟩ := hb.1 (Classical.not_not.1 hy)
 subst es
 have vs := hi.validS k1
 have tail : ∀ g' t1 : Int, g' = goes mo month g + gross -> t1 = goes mo month t -> -1099511627776 <= t1 -> t1 <= 1099511627776 -> 0 <= g' ->
   ((g' > 1099511627776 -> q_tWithhold y mo g t month gross 0 0 0 0 3 /\ True) /\ (¬ (g' > 1099511627776) -> ((12 : Int) ≠ 0) /\ Rng .i64 (month % 12) /\ Rng .i64 (month % 12 + 1) /\ p_tDue (y.sub i 1) (month % 12 + 1) g' /\
    ∀ x : Int, Rng .i64 x -> ∀ e : Int, Rng .i64 e -> q_tDue (y.sub i 1) (month % 12 + 1) g' x e -> ((e ≠ 0 -> q_tWithhold y mo g t month gross 0 0 0 0 e /\ True) /\ (¬ (e ≠ 0) -> Rng .i64 (x - t1) /\ q_tWithhold y mo g t month gross (x - t1) month g' x 0 /\ True)))) := by
  intro g' t1 eg et b1 b2 b3
  refine ⟨fun hg => ⟨held_long ok hi (by omega), trivial⟩, fun hg => ⟨by decide, by rw [rng64]; omega, by rw [rng64]; omega, trivial, fun x _ e _ hq => ?_⟩⟩
  have q := hq.1 ⟨vs, ⟨by omega, by omega⟩, ⟨by omega, by omega⟩⟩
  have rg := TT_range (l := y.sub i 1) (m := month % 12 + 1) (A := g') vs ⟨by omega, by omega⟩ ⟨by omega, by omega⟩
  refine ⟨fun k => absurd q.2 k, fun _ => ⟨by rw [rng64]; omega, ?_, trivial⟩⟩
  exact held_good ok hi (by omega) eg q.1 (by rw [et])
 refine ⟨by decide, by rw [rng64]; omega, by decide, by rw [rng64]; omega, fun hne => ⟨by rw [rng64]; omega, ?_⟩, fun he => ⟨by rw [rng64]; omega, ?_⟩⟩
 ·have e1 : goes mo month g = 0 := by unfold goes; rw [if_neg hne]
  have e2 : goes mo month t = 0 := by unfold goes; rw [if_neg hne]
  exact tail (0 + gross) 0 (by rw [e1]) e2.symm (by omega) (by omega) (by omega)
 ·have e1 : goes mo month g = g := by unfold goes; rw [if_pos (by omega)]
  have e2 : goes mo month t = t := by unfold goes; rw [if_pos (by omega)]
  exact tail (g + gross) t (by rw [e1]) e2.symm (by omega) (by omega) (by omega)
end Go.Sx.N
