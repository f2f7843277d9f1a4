/-
 Interest by rates with one denominator; tables with different first keys. Conditions: none.
-/
import Derived.Test.YtmhhcnaflklapaaGreatArrFi
set_option linter.unusedVariables false
set_option linter.unusedSimpArgs false
namespace Go.Sx.N
theorem floor_eqA {q : Rat} {k : Int} (h : (k : Rat) <= q) (g : q < ((k + 1 : Int) : Rat)) : q.floor = k := by
 have h1 := Rat.le_floor_iff.2 h
 have h2 := Rat.floor_lt_iff.2 g
 omega
theorem div_ltA {a b k : Int} (hb : 0 < b) : (a : Rat) / (b : Rat) < (k : Rat) ↔ a < k * b := by
 have hb' : (0 : Rat) < (b : Rat) := by have := Rat.intCast_lt_intCast.2 hb; simpa using this
 rw [Rat.div_lt_iff hb', <- Rat.intCast_mul, Rat.intCast_lt_intCast]
theorem lt_divA {a b k : Int} (hb : 0 < b) : (k : Rat) < (a : Rat) / (b : Rat) ↔ k * b < a := by
 have hb' : (0 : Rat) < (b : Rat) := by have := Rat.intCast_lt_intCast.2 hb; simpa using this
 rw [Rat.lt_div_iff hb', <- Rat.intCast_mul, Rat.intCast_lt_intCast]
theorem round_eval {a b : Int} (hb : 0 < b) (ha : 0 <= a) : roundQ ((a : Rat) / (b : Rat)) 5 = (2 * a + b) / (2 * b) := by
 have e := Int.mul_ediv_add_emod a b
 have r0 := Int.emod_nonneg a (show b ≠ 0 by omega)
 have r1 := Int.emod_lt_of_pos a hb
 have hfl : ((a : Rat) / (b : Rat)).floor = a / b := by
  refine floor_eqA (Rat.not_lt.1 fun h => ?_) ((div_ltA hb).2 ?_)
  ·have := (div_ltA hb).1 h
   rw [Int.mul_comm] at this; omega
  ·rw [Int.add_mul, Int.mul_comm (a / b) b]; omega
 have hq0 : (0 : Rat) <= (a : Rat) / (b : Rat) := Rat.not_lt.1 fun h => by
  have := (div_ltA (k := 0) hb).1 (by simpa using h)
  omega
 have hqq : (a : Rat) / (b : Rat) + (a : Rat) / (b : Rat) = ((2 * a : Int) : Rat) / (b : Rat) := by
  rw [Rat.intCast_mul]; grind
 unfold roundQ
 rw [if_neg (by decide), hfl, hqq]
 generalize a / b = f at *
 generalize a % b = r at *
 have e2 : (2 * a + b) / (2 * b) = if b <= 2 * r then f + 1 else f := by
  have h1 : 2 * a + b = 2 * b * f + (2 * r + b) := by rw [<- e]; grind
  rw [h1, Int.mul_add_ediv_left _ _ (by omega)]
  split
  ·have : (2 * r + b) / (2 * b) = 1 := by
    have : 2 * r + b = 2 * b * 1 + (2 * r - b) := by omega
    rw [this, Int.mul_add_ediv_left _ _ (by omega), Int.ediv_eq_zero_of_lt (by omega) (by omega)]; rfl
   omega
  ·rw [Int.ediv_eq_zero_of_lt (by omega) (by omega)]; omega
 have c0 : ((f : Rat) + (f : Rat) + 1) = ((f + f + 1 : Int) : Rat) := by rw [Rat.intCast_add, Rat.intCast_add]; rfl
 have c1 : (((f + f + 1 : Int) : Rat) < ((2 * a : Int) : Rat) / (b : Rat)) ↔ (f + f + 1) * b < 2 * a := lt_divA hb
 have c2 : (((f + f + 1 : Int) : Rat) = ((2 * a : Int) : Rat) / (b : Rat)) ↔ (f + f + 1) * b = 2 * a := by
  constructor
  ·intro h
   have h1 : ¬ ((f + f + 1) * b < 2 * a) := fun k => Rat.lt_irrefl (h ▸ c1.2 k)
   have h2 : ¬ (2 * a < (f + f + 1) * b) := fun k => Rat.lt_irrefl (h ▸ (div_ltA hb).2 k)
   omega
  ·intro h
   refine Rat.le_antisymm (Rat.not_lt.1 fun k => ?_) (Rat.not_lt.1 fun k => ?_)
   ·have := (div_ltA hb).1 k; omega
   ·have := c1.1 k; omega
 have e3 : (f + f + 1) * b = 2 * (b * f) + b := by grind
 rw [e2]
 by_cases h : b <= 2 * r
 ·rw [if_pos h, if_pos]
  rcases Int.lt_or_eq_of_le h with h | h
  ·exact .inl (by rw [c0]; exact c1.2 (by omega))
  ·exact .inr ⟨c2.2 (by omega), hq0⟩
 ·rw [if_neg h, if_neg]
  rintro (k | ⟨k, _⟩)
  ·rw [c0] at k; have := c1.1 k; omega
  ·have := c2.1 k; omega
def sumI (f : Nat -> Int) : Nat -> Int
 | 0 => 0
 | n + 1 => sumI f n + f n
theorem sumI_bd {f : Nat -> Int} {B : Int} (hf : ∀ j, 0 <= f j /\ f j <= B) : ∀ n : Nat, 0 <= sumI f n /\ sumI f n <= B * n
 | 0 => by simp [sumI]
 | n + 1 => by
  have ih := sumI_bd hf n
  have := hf n
  simp only [sumI]
  have : B * ((n + 1 : Nat) : Int) = B * n + B := by rw [Int.natCast_add, Int.mul_add]; simp
  omega
theorem fit_of {a b : Int} (hb : 0 < b) (h1 : a.natAbs < 65536 ^ 8) (h2 : b.natAbs < 65536 ^ 8) : fitQ ((a : Rat) / (b : Rat)) := by
 rw [<- Rat.divInt_eq_div]
 have c : 65536 ^ 8 < 65536 ^ 256 := by decide +kernel
 exact fit_divA (by omega) (by omega) (by omega)
theorem sum_eval {s : Sl} {known due D : Int} {f : Nat -> Int} (hD : 0 < D /\ D <= 1000000) (hf : ∀ j, 0 <= f j /\ f j <= 70000) : ∀ {n : Nat}, n <= 2400 -> (∀ j : Nat, j < n -> rateO s known (1900 + (due + j) / 12) = some (Rat.divInt (f j) D)) -> sumS s known due n = .ok ((sumI f n : Rat) / (D : Rat))
 | 0, _, _ => by
  show GR.ok 0 = _
  congr 1
  show (0 : Rat) = ((0 : Int) : Rat) / _
  have : ((0 : Int) : Rat) = 0 := rfl
  rw [this, Rat.div_def, Rat.zero_mul]
 | n + 1, hn, hr => by
  have ih := sum_eval hD hf (n := n) (by omega) (fun j hj => hr j (by omega))
  have b := sumI_bd hf (n + 1)
  have e : (sumI f n : Rat) / (D : Rat) + Rat.divInt (f n) D = (sumI f (n + 1) : Rat) / (D : Rat) := by
   rw [Rat.divInt_eq_div]
   simp only [sumI]
   rw [Rat.intCast_add]
   grind
  have := sum_step ih (hr n (by omega)) (by rw [e]; exact fit_of hD.1 (by have := b.2; omega) (by omega))
  rw [this, e]
theorem int_eval {n due paid known D : Int} {name : ByteArray} {two : Bool} {s : Sl} {f : Nat -> Int} {v e : Int} (h : q_Interest n due paid name two s known v e) (hI : okI n due paid name two s) (hD : 0 < D /\ D <= 1000000) (hf : ∀ j, 0 <= f j /\ f j <= 70000)
  (hr : ∀ j : Nat, (j : Int) < paid - due -> rateO s known (1900 + (due + j) / 12) = some (Rat.divInt (f j) D)) (hb : 2 * (n * sumI f (paid - due).toNat) + 12 * D < 24 * D * 1099511627776) : e = 0 /\ v = (2 * (n * sumI f (paid - due).toNat) + 12 * D) / (24 * D) := by
 obtain ⟨h1, h2⟩ := h.2 hI
 have n0 := hI.1
 have d0 := hI.2.1
 have z : (12 * D) / (24 * D) = 0 := Int.ediv_eq_zero_of_lt (by omega) (by omega)
 by_cases hz : n = 0 \/ due = paid
 ·obtain ⟨rfl, rfl⟩ := h1 hz
  refine ⟨rfl, ?_⟩
  have : n * sumI f (paid - due).toNat = 0 := by
   rcases hz with rfl | rfl
   ·simp
   ·rw [Int.sub_self]; simp [sumI]
  rw [this]
  simp only [Int.mul_zero, Int.zero_add]
  exact z.symm
 ·have h2 := h2 (fun k => hz (.inl k)) (fun k => hz (.inr k))
  rw [sum_eval hD hf (n := (paid - due).toNat) (by omega) (fun j hj => hr j (by omega))] at h2
  have b := sumI_bd hf (paid - due).toNat
  generalize hS : sumI f (paid - due).toNat = S at *
  have bS : 0 <= S /\ S <= 168000000 := by omega
  have nS : 0 <= n * S := Int.mul_nonneg n0.1 bS.1
  have nS2 : n * S <= 1099511627776 * 168000000 := Int.mul_le_mul n0.2 bS.2 bS.1 (by omega)
  have e1 : (S : Rat) / (D : Rat) * (n : Rat) = ((n * S : Int) : Rat) / (D : Rat) := by rw [Rat.intCast_mul]; grind
  have hD' : (D : Rat) ≠ 0 := by
   intro k
   have : ((D : Int) : Rat) = ((0 : Int) : Rat) := k
   have := Rat.intCast_inj.1 this
   omega
  have e2 : (S : Rat) / (D : Rat) * (n : Rat) / 12 = ((n * S : Int) : Rat) / ((12 * D : Int) : Rat) := by
   rw [e1, Rat.intCast_mul 12 D]
   have : ((12 : Int) : Rat) = 12 := rfl
   rw [this]
   grind
  have g := h2.2 (by rw [e1]; exact fit_of hD.1 (by omega) (by omega)) (by rw [e2]; exact fit_of (by omega) (by omega) (by omega))
  rw [e2] at g
  have r := round_eval (a := n * S) (b := 12 * D) (by omega) nS
  have r' : (2 * (n * S) + 12 * D) / (2 * (12 * D)) = (2 * (n * S) + 12 * D) / (24 * D) := by rw [show 2 * (12 * D) = 24 * D by omega]
  rw [r'] at r
  have p0 : 0 <= (2 * (n * S) + 12 * D) / (24 * D) := Int.ediv_nonneg (by omega) (by omega)
  have p1 : (2 * (n * S) + 12 * D) / (24 * D) < 1099511627776 := Int.ediv_lt_of_lt_mul (by omega) (by rw [Int.mul_comm 1099511627776 (24 * D)]; exact hb)
  obtain ⟨a1, a2⟩ := g.2.2 (by rw [r]; exact p0) (by rw [r]; omega)
  exact ⟨a2, by rw [a1, r]⟩
theorem force_uniq {s : Sl} {known i j : Int} (h : inForce s known i) (g : inForce s known j) (e0 : s.int i 0 = s.int j 0) (e1 : s.int i 1 = s.int j 1) : i = j := by
 rcases Int.lt_trichotomy i j with c | c | c
 ·have := h.2.2 j c g.1.2 e0.symm e1.symm
  have := g.2.1
  omega
 ·exact c
 ·have := g.2.2 i c h.1.2 e0 e1
  have := h.2.1
  omega
theorem rate_at {s : Sl} {known y k : Int} {q : Rat} (hB : ∀ i : Int, 0 <= i -> i < s.len -> s.int i 1 = 0) (hk : candX s y known k) (hq : fq (s.bool k 3) (s.sub k 4) (s.sub k 6) = q) : rateO s known y = some q := by
 have hx : ∃ k, candX s y known k := ⟨k, hk⟩
 unfold rateO
 rw [dif_pos hx]
 have hc := Classical.choose_spec hx
 have e0 : s.int (Classical.choose hx) 0 = s.int k 0 := by
  have a := hc.2 k hk.1.1 hk.1.2
  have b := hk.2 _ hc.1.1 hc.1.2
  omega
 have e := force_uniq hc.1.1 hk.1.1 e0 (by rw [hB _ hc.1.1.1.1 hc.1.1.1.2, hB _ hk.1.1.1.1 hk.1.1.1.2])
 rw [e, hq]
def plainT (s : Sl) (A : Int -> Int) (Q : Int -> Rat) : Prop := s.len <= 400 /\ (∀ i : Int, 0 <= i -> i < s.len -> rowI s i (A i) 0 (Q i) /\ 0 <= A i /\ A i <= 100000) /\ ∀ i j : Int, 0 <= i -> i < j -> j < s.len -> A i < A j
theorem plain_valid {s : Sl} {A : Int -> Int} {Q : Int -> Rat} {name : ByteArray} {two : Bool} (h : plainT s A Q) (hn : 1 <= ylen name /\ ylen name <= 24) (h2 : two = false) : validT name two s /\ two = false := by
 refine ⟨⟨hn, h.1, fun i i0 i1 hlt => ?_, fun i i0 i1 => ?_⟩, h2⟩
 ·have a := (h.2.1 i (by omega) i1).1.1
  have b := (h.2.1 (i - 1) (by omega) (by omega)).1.1
  have c := h.2.2 (i - 1) i (by omega) (by omega) i1
  unfold ltR ltK at hlt
  rw [a, b] at hlt
  omega
 ·obtain ⟨⟨r0, r1, r2, r3, _⟩, a0, a1⟩ := h.2.1 i i0 i1
  unfold rightAt rightS
  rw [r0, r1, r2]
  exact ⟨by omega, by omega, .inr rfl, by omega, r3⟩
theorem plain_force {s : Sl} {A : Int -> Int} {Q : Int -> Rat} {known k : Int} (h : plainT s A Q) (hk : 0 <= known) (k0 : 0 <= k) (k1 : k < s.len) : inForce s known k :=
 ⟨⟨k0, k1⟩, by rw [(h.2.1 k k0 k1).1.2.2.1]; exact hk, fun j j0 j1 e0 => by
  have a := (h.2.1 j (by omega) j1).1.1
  have b := (h.2.1 k k0 k1).1.1
  have c := h.2.2 k j k0 j0 j1
  omega⟩
theorem plain_rate {s : Sl} {A : Int -> Int} {Q : Int -> Rat} {known y k : Int} (h : plainT s A Q) (hkn : 0 <= known) (k0 : 0 <= k) (k1 : k < s.len) (h1 : A k <= y) (h2 : ∀ j : Int, k < j -> j < s.len -> y < A j) : rateO s known y = some (Q k) := by
 refine rate_at (k := k) (fun i i0 i1 => (h.2.1 i i0 i1).1.2.1) ⟨⟨plain_force h hkn k0 k1, by rw [(h.2.1 k k0 k1).1.1]; exact h1⟩, fun j hj hjy => ?_⟩ (h.2.1 k k0 k1).1.2.2.2.2
 rw [(h.2.1 k k0 k1).1.1]
 rw [(h.2.1 j hj.1.1 hj.1.2).1.1] at hjy ⊢
 rcases Int.lt_trichotomy j k with c | c | c
 ·have := h.2.2 j k hj.1.1 c k1; omega
 ·rw [c]; exact Int.le_refl _
 ·have := h2 j c hj.1.2; omega
end Go.Sx.N
