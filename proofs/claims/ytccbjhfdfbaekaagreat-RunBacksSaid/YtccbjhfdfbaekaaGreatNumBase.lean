/-
 Numbers written with digits, least significant first: values, bounds, order, uniqueness. Conditions: none; plain Lean.
 The arithmetic of long division (Knuth's estimate) and of Lehmer's steps (Collins' condition). Conditions: none; plain Lean.
 Slices as numbers: values of digits, updates, the machine's words. Conditions: none.
 What the functions of the number layer are to answer: words and limbs. Conditions: none.
 What the functions of the number layer are to answer: fractions, the references, the kit's copies. Conditions: none.
-/
import Derived.Test.YtccbjhfdfbaekaaGreatEngE
set_option linter.unusedVariables false
set_option linter.unusedSimpArgs false
namespace Go.Sx.N
def bY (B : Int) (f : Nat -> Int) : Nat -> Int
 | 0 => 0
 | n + 1 => bY B f n + f n * B ^ n
def Dg (B : Int) (f : Nat -> Int) (n : Nat) : Prop := ∀ k, k < n -> 0 <= f k /\ f k < B
theorem Dg.mono {B : Int} {f : Nat -> Int} {n m : Nat} (h : Dg B f n) (hm : m <= n) : Dg B f m := fun k hk => h k (by omega)
theorem Dg.shift {B : Int} {f : Nat -> Int} {m n : Nat} (h : Dg B f (m + n)) : Dg B (fun k => f (m + k)) n := fun k hk => h (m + k) (by omega)
theorem dM {B : Int} (hB : 0 < B) (n : Nat) : 0 < B ^ n := Int.pow_pos hB
theorem dK (B : Int) (f : Nat -> Int) (n : Nat) : bY B f (n + 1) = bY B f n + f n * B ^ n := rfl
theorem jf {B : Int} {f g : Nat -> Int} : ∀ {n : Nat}, (∀ k, k < n -> f k = g k) -> bY B f n = bY B g n
 | 0, _ => rfl
 | n + 1, h => by
  rw [dK, dK, jf (fun k hk => h k (by omega)), h n (by omega)]
theorem nZ (B : Int) (f : Nat -> Int) (m : Nat) : ∀ n, bY B f (m + n) = bY B f m + B ^ m * bY B (fun k => f (m + k)) n
 | 0 => by simp [bY]
 | n + 1 => by
  rw [<- Nat.add_assoc, dK, dK, nZ B f m n, Int.pow_add, Int.mul_add, Int.add_assoc]
  congr 1
  congr 1
  rw [Int.mul_comm (B ^ m) (f (m + n) * B ^ n), Int.mul_assoc, Int.mul_comm (B ^ m)]
theorem tH {B : Int} {f : Nat -> Int} : ∀ {n : Nat}, (∀ k, k < n -> f k = 0) -> bY B f n = 0
 | 0, _ => rfl
 | n + 1, h => by
  rw [dK, tH (fun k hk => h k (by omega)), h n (by omega)]
  simp
theorem adh (B : Int) (f : Nat -> Int) : bY B f 1 = f 0 := by
 simp [bY]
theorem adi (B : Int) (f : Nat -> Int) (n : Nat) : bY B f (n + 1) = f 0 + B * bY B (fun k => f (k + 1)) n := by
 rw [Nat.add_comm n 1, nZ, adh, Int.pow_one]
 congr 2
 exact jf fun k _ => by rw [Nat.add_comm]
theorem eX {B : Int} (hB : 0 < B) {f : Nat -> Int} : ∀ {n : Nat}, Dg B f n -> 0 <= bY B f n /\ bY B f n < B ^ n
 | 0, _ => by simp [bY]
 | n + 1, h => by
  have ih := eX hB (n := n) (h.mono (by omega))
  have hn := h n (by omega)
  have hp := dM hB n
  have h1 : 0 <= f n * B ^ n := Int.mul_nonneg hn.1 (Int.le_of_lt hp)
  have h2 : (f n + 1) * B ^ n <= B * B ^ n := Int.mul_le_mul_of_nonneg_right (by omega) (Int.le_of_lt hp)
  rw [Int.add_mul, Int.one_mul] at h2
  rw [dK, Int.pow_succ, Int.mul_comm (B ^ n) B]
  omega
theorem adk {B : Int} (hB : 0 < B) {f : Nat -> Int} {n : Nat} (h : Dg B f (n + 1)) (hn : f n ≠ 0) : B ^ n <= bY B f (n + 1) := by
 have hb := eX hB (h.mono (Nat.le_succ n))
 have h0 := h n (by omega)
 have hp := dM hB n
 have h2 : 1 * B ^ n <= f n * B ^ n := Int.mul_le_mul_of_nonneg_right (by omega) (Int.le_of_lt hp)
 rw [dK]
 omega
theorem gG {B : Int} (hB : 0 < B) {m n : Nat} (h : m <= n) : B ^ m <= B ^ n := by
 obtain ⟨k, rfl⟩ := Nat.le.dest h
 rw [Int.pow_add]
 have h1 := dM hB m
 have h2 := dM hB k
 have : B ^ m * 1 <= B ^ m * B ^ k := Int.mul_le_mul_of_nonneg_left (by omega) (by omega)
 omega
theorem X4 {B : Int} (hB : 1 < B) {m n : Nat} (h : B ^ m < B ^ n) : m < n := by
 refine Nat.lt_of_not_le fun hle => ?_
 have := gG (show 0 < B by omega) hle
 omega
theorem NY {P a b x y : Int} (hx : 0 <= x) (hxP : x < P) (hy : 0 <= y) (h : a < b) : x + a * P < y + b * P := by
 have h2 : (a + 1) * P <= b * P := Int.mul_le_mul_of_nonneg_right (by omega) (by omega)
 rw [Int.add_mul, Int.one_mul] at h2
 omega
theorem afY {P a b x y : Int} (hx : 0 <= x) (hxP : x < P) (hy : 0 <= y) (hyP : y < P) (h : x + a * P = y + b * P) : a = b /\ x = y := by
 have : a = b := by
  rcases Int.lt_trichotomy a b with g | g | g
  ·have := NY (P := P) hx hxP hy g; omega
  ·exact g
  ·have := NY (P := P) hy hyP hx g; omega
 subst this
 exact ⟨rfl, by omega⟩
theorem SG {B : Int} (hB : 0 < B) {f g : Nat -> Int} : ∀ {n : Nat}, Dg B f n -> Dg B g n -> bY B f n = bY B g n -> ∀ k, k < n -> f k = g k
 | 0, _, _, _ => fun k hk => absurd hk (by omega)
 | n + 1, hf, hg, h => by
  have bf := eX hB (hf.mono (Nat.le_succ n))
  have bg := eX hB (hg.mono (Nat.le_succ n))
  rw [dK, dK] at h
  obtain ⟨e, e'⟩ := afY bf.1 bf.2 bg.1 bg.2 h
  intro k hk
  by_cases hkn : k = n
  ·rw [hkn]; exact e
  ·exact SG hB (hf.mono (Nat.le_succ n)) (hg.mono (Nat.le_succ n)) e' k (by omega)
theorem afZ {B : Int} (hB : 0 < B) {f g : Nat -> Int} {i n : Nat} (hf : Dg B f n) (hg : Dg B g n) (hi : i < n) (he : ∀ k, i < k -> k < n -> f k = g k) (hl : f i < g i) : bY B f n < bY B g n := by
 obtain ⟨k, rfl⟩ := Nat.le.dest (show i + 1 <= n from hi)
 rw [nZ B f, nZ B g, jf (f := fun k => f (i + 1 + k)) (g := fun k => g (i + 1 + k)) (fun j hj => he _ (by omega) (by omega))]
 have bf := eX hB (hf.mono (show i <= i + 1 + k by omega))
 have bg := eX hB (hg.mono (show i <= i + 1 + k by omega))
 have := NY (P := B ^ i) bf.1 bf.2 bg.1 hl
 rw [dK, dK]
 omega
def Nm (f : Nat -> Int) (n : Nat) : Prop := 0 < n -> f (n - 1) ≠ 0
theorem Nm.pos {B : Int} (hB : 0 < B) {f : Nat -> Int} {n : Nat} (hf : Dg B f n) (hn : Nm f n) (h : 0 < n) : B ^ (n - 1) <= bY B f n := by
 have e : n = n - 1 + 1 := by omega
 have := adk hB (n := n - 1) (f := f) (by rw [<- e]; exact hf) (hn h)
 rw [<- e] at this
 exact this
theorem Nm.lt {B : Int} (hB : 0 < B) {f g : Nat -> Int} {n m : Nat} (hf : Dg B f n) (hg : Dg B g m) (hm : Nm g m) (h : n < m) : bY B f n < bY B g m := by
 have h1 := (eX hB hf).2
 have h2 := hm.pos hB hg (by omega)
 have h3 := gG hB (show n <= m - 1 by omega)
 omega
theorem Nm.eq {B : Int} (hB : 0 < B) {f g : Nat -> Int} {n m : Nat} (hf : Dg B f n) (hn : Nm f n) (hg : Dg B g m) (hm : Nm g m) (h : bY B f n = bY B g m) : n = m /\ ∀ k, k < n -> f k = g k := by
 have e : n = m := by
  rcases Nat.lt_trichotomy n m with g' | g' | g'
  ·have := Nm.lt hB hf hg hm g'; omega
  ·exact g'
  ·have := Nm.lt hB hg hf hn g'; omega
 subst e
 exact ⟨rfl, SG hB hf hg h⟩
theorem Nm.zero {B : Int} (hB : 0 < B) {f : Nat -> Int} {n : Nat} (hf : Dg B f n) (hn : Nm f n) : bY B f n = 0 ↔ n = 0 := by
 constructor
 ·intro h
  refine Nat.eq_zero_of_not_pos fun hp => ?_
  have := hn.pos hB hf hp
  have := dM hB (n - 1)
  omega
 ·intro h
  subst h
  rfl
theorem Nm.le {B : Int} (hB : 1 < B) {f : Nat -> Int} {n k : Nat} (hf : Dg B f n) (hn : Nm f n) : n <= k ↔ bY B f n < B ^ k := by
 have hB' : 0 < B := by omega
 constructor
 ·intro h
  have h1 := (eX hB' hf).2
  have h2 := gG hB' h
  omega
 ·intro h
  refine Nat.le_of_not_lt fun hlt => ?_
  have h1 := hn.pos hB' hf (by omega)
  have h2 := gG hB' (show k <= n - 1 by omega)
  omega
end Go.Sx.N
namespace Go.Sx.N
theorem adl {B P V w top v2 vl hd u2 ul digit rest : Int} (hB : 0 < B) (hP : 0 < P) (ht : 1 <= top) (hV : V = (top * B + v2) * P + vl) (hv2 : 0 <= v2) (hvl : 0 <= vl) (hvP : vl < P)
  (hw : w = (hd * B + u2) * P + ul) (BK : 0 <= ul) (hr : digit * top + rest = hd) (hd0 : 0 <= digit) (hd1 : digit < B) (ht2 : digit * v2 <= rest * B + u2) : (digit - 1) * V <= w := by
 have h1 : digit * (top * B + v2) <= hd * B + u2 := by
  have e : digit * (top * B + v2) = digit * top * B + digit * v2 := by rw [Int.mul_add, Int.mul_assoc]
  have e2 : hd * B = digit * top * B + rest * B := by rw [<- hr, Int.add_mul]
  omega
 have h2 : digit * (top * B + v2) * P <= (hd * B + u2) * P := Int.mul_le_mul_of_nonneg_right h1 (by omega)
 have h3 : digit * vl <= B * P := Int.mul_le_mul (by omega) (by omega) hvl (by omega)
 have h4 : 1 * (B * P) <= top * (B * P) := Int.mul_le_mul_of_nonneg_right ht (Int.mul_nonneg (by omega) (by omega))
 have h5 : 0 <= v2 * P := Int.mul_nonneg hv2 (by omega)
 have e3 : (digit - 1) * V = digit * (top * B + v2) * P + digit * vl - (top * (B * P) + v2 * P + vl) := by
  rw [hV]
  grind
 omega
theorem adn {B P V w top v2 vl hd u2 ul digit rest : Int} (hP : 0 < P) (hV : V = (top * B + v2) * P + vl) (hvl : 0 <= vl)
  (hw : w = (hd * B + u2) * P + ul) (BK : ul < P) (hr : digit * top + rest = hd) (hd0 : 0 <= digit) (ht2 : rest * B + u2 < digit * v2) : w < digit * V := by
 have h1 : hd * B + u2 + 1 <= digit * (top * B + v2) := by
  have e : digit * (top * B + v2) = digit * top * B + digit * v2 := by rw [Int.mul_add, Int.mul_assoc]
  have e2 : hd * B = digit * top * B + rest * B := by rw [<- hr, Int.add_mul]
  omega
 have h2 : (hd * B + u2 + 1) * P <= digit * (top * B + v2) * P := Int.mul_le_mul_of_nonneg_right h1 (by omega)
 rw [Int.add_mul, Int.one_mul] at h2
 have h3 : 0 <= digit * vl := Int.mul_nonneg hd0 hvl
 have e3 : digit * V = digit * (top * B + v2) * P + digit * vl := by rw [hV, Int.mul_add, Int.mul_assoc]
 omega
theorem ado {P α β a2 u2 v2 s : Int} (hα : 0 <= α) (hαP : α < P) (hβ : 0 <= β) (hβP : β < P) (hs : s = 1 \/ s = -1) (hu : 0 <= u2) (huv : u2 <= v2) (h : v2 <= a2) :
  0 <= a2 * P + s * (v2 * β - u2 * α) := by
 have h1 : v2 * P <= a2 * P := Int.mul_le_mul_of_nonneg_right h (by omega)
 have h2 : u2 * α <= v2 * P := Int.mul_le_mul huv (by omega) hα (by omega)
 have h3 : v2 * β <= v2 * P := Int.mul_le_mul_of_nonneg_left (by omega) (by omega)
 have h4 : 0 <= v2 * β := Int.mul_nonneg (by omega) hβ
 have h5 : 0 <= u2 * α := Int.mul_nonneg hu hα
 rcases hs with rfl | rfl <;> omega
theorem adp {P α β a1 a2 u1 u2 v1 v2 s : Int} (hα : 0 <= α) (hαP : α < P) (hβ : 0 <= β) (hβP : β < P) (hs : s = 1 \/ s = -1) (hu1 : 0 <= u1) (hu2 : 0 <= u2)
  (huv : u1 + u2 <= v1 + v2) (h : v1 + v2 <= a1 - a2) (hv : 0 < v1 + v2) : a2 * P + s * (v2 * β - u2 * α) < a1 * P + s * (u1 * α - v1 * β) := by
 have h1 : (v1 + v2) * P <= (a1 - a2) * P := Int.mul_le_mul_of_nonneg_right h (by omega)
 have h2 : (u1 + u2) * α <= (v1 + v2) * (P - 1) := Int.mul_le_mul huv (by omega) hα (by omega)
 have h3 : (v1 + v2) * β <= (v1 + v2) * (P - 1) := Int.mul_le_mul_of_nonneg_left (by omega) (by omega)
 have h4 : 0 <= (v1 + v2) * β := Int.mul_nonneg (by omega) hβ
 have h5 : 0 <= (u1 + u2) * α := Int.mul_nonneg (by omega) hα
 rw [Int.mul_sub, Int.mul_one] at h2 h3
 rw [Int.sub_mul] at h1
 have e1 : (u1 + u2) * α = u1 * α + u2 * α := Int.add_mul ..
 have e2 : (v1 + v2) * β = v1 * β + v2 * β := Int.add_mul ..
 rcases hs with rfl | rfl <;> omega
structure Lp (A B x y a1 a2 u0 u1 u2 v0 v1 v2 s : Int) : Prop where
 sign : s = 1 \/ s = -1
 nn : 0 <= u0 /\ 0 <= u1 /\ 0 <= u2 /\ 0 <= v0 /\ 0 <= v1 /\ 1 <= v2
 ord : v0 <= v1 /\ v1 <= v2 /\ u2 <= v2 /\ u1 + u2 <= v1 + v2
 e1 : a1 = s * (u1 * x - v1 * y)
 e2 : a2 = s * (v2 * y - u2 * x)
 det : u1 * v2 - v1 * u2 = s
 a12 : 0 <= a2 /\ a2 <= a1 /\ v1 <= a1
 one : v1 = 0 -> u1 = 1 /\ u2 = 0 /\ v2 = 1 /\ s = 1
 le1 : v1 ≠ 0 -> u1 <= v1 /\ s * (u1 * A - v1 * B) <= B
 zero : v0 ≠ 0 -> u0 <= v0 /\ u0 * v1 - v0 * u1 = - s /\ 0 <= s * (u1 * A - v1 * B) /\ s * (u1 * A - v1 * B) < s * (v0 * B - u0 * A) /\ s * (v0 * B - u0 * A) <= B
theorem Lp.start {A B x y : Int} (hy : 0 <= y) (hxy : y <= x) : Lp A B x y x y 0 1 0 0 0 1 1 where
 sign := .inl rfl
 nn := by omega
 ord := by omega
 e1 := by omega
 e2 := by omega
 det := by omega
 a12 := by omega
 one := fun _ => ⟨rfl, rfl, rfl, rfl⟩
 le1 := fun h => absurd rfl h
 zero := fun h => absurd rfl h
theorem Lp.total {A B x y a1 a2 u0 u1 u2 v0 v1 v2 s : Int} (h : Lp A B x y a1 a2 u0 u1 u2 v0 v1 v2 s) : a1 * v2 + a2 * v1 = x := by
 have h1 := h.e1
 have h2 := h.e2
 have h3 := h.det
 have h4 : s * s = 1 := by rcases h.sign with rfl | rfl <;> rfl
 have e : a1 * v2 + a2 * v1 = s * (u1 * v2 - v1 * u2) * x := by rw [h1, h2]; grind
 rw [e, h3, h4, Int.one_mul]
theorem Lp.step {A B x y a1 a2 u0 u1 u2 v0 v1 v2 s P α β q r : Int} (h : Lp A B x y a1 a2 u0 u1 u2 v0 v1 v2 s) (hA : A = x * P + α) (hB : B = y * P + β)
  (hα : 0 <= α) (hαP : α < P) (hβ : 0 <= β) (hβP : β < P) (hc2 : v2 <= a2) (hc1 : v1 + v2 <= a1 - a2) (hq : a1 = q * a2 + r) (hr : 0 <= r) (hra : r < a2) :
  Lp A B x y a2 r u1 u2 (u1 + q * u2) v1 v2 (v1 + q * v2) (-s) := by
 have T2 : s * (v2 * B - u2 * A) = a2 * P + s * (v2 * β - u2 * α) := by rw [hA, hB, h.e2]; grind
 have T1 : s * (u1 * A - v1 * B) = a1 * P + s * (u1 * α - v1 * β) := by rw [hA, hB, h.e1]; grind
 obtain ⟨n1, n2, n3, n4, n5, n6⟩ := h.nn
 obtain ⟨o1, o2, o3, o4⟩ := h.ord
 have p2 := ado hα hαP hβ hβP h.sign n3 o3 hc2
 have p1 := adp hα hαP hβ hβP h.sign n2 n3 o4 hc1 (by omega)
 rw [<- T2] at p2
 rw [<- T2, <- T1] at p1
 have hq1 : 1 <= q := by
  refine Int.not_lt.1 fun hlt => ?_
  have : q * a2 <= 0 * a2 := Int.mul_le_mul_of_nonneg_right (by omega) (by omega)
  have := h.a12
  omega
 have qv : 1 * v2 <= q * v2 := Int.mul_le_mul_of_nonneg_right hq1 (by omega)
 have qu0 : 0 <= q * u2 := Int.mul_nonneg (by omega) n3
 have quv : q * u2 <= q * v2 := Int.mul_le_mul_of_nonneg_left o3 (by omega)
 have hone := h.one
 have hle1 := h.le1
 have neg : ∀ z : Int, (-s) * z = - (s * z) := fun z => Int.neg_mul ..
 refine ⟨?_, by omega, ⟨o2, by omega, ?_, ?_⟩, ?_, ?_, ?_, ⟨hr, by omega, hc2⟩, fun h0 => by omega, fun _ => ⟨o3, ?_⟩, fun h0 => ⟨(hle1 h0).1, ?_, ?_, ?_, ?_⟩⟩
 ·rcases h.sign with rfl | rfl
  ·exact .inr rfl
  ·exact .inl rfl
 ·by_cases hv : v1 = 0
  ·obtain ⟨g1, g2, g3, g4⟩ := hone hv
   subst g1 g2 g3
   omega
  ·have := (hle1 hv).1
   omega
 ·by_cases hv : v1 = 0
  ·obtain ⟨g1, g2, g3, g4⟩ := hone hv
   subst g1 g2 g3
   omega
  ·have := (hle1 hv).1
   omega
 ·rw [h.e2]; grind
 ·have e1 := h.e1
  have e2 := h.e2
  grind
 ·have := h.det
  grind
 ·by_cases hv : v1 = 0
  ·obtain ⟨g1, g2, g3, g4⟩ := hone hv
   subst g1 g2 g3 g4
   omega
  ·have := (hle1 hv).2
   grind
 ·have := h.det
  grind
 ·grind
 ·grind
 ·have := (hle1 h0).2
  grind
end Go.Sx.N
namespace Go.Sx.N
theorem ak {x : Int} : Rng .i64 x ↔ -9223372036854775808 <= x /\ x <= 9223372036854775807 := Iff.rfl
theorem bU {x : Int} : Rng .u64 x ↔ 0 <= x /\ x <= 18446744073709551615 := Iff.rfl
theorem lS {x : Int} : Rng .u32 x ↔ 0 <= x /\ x <= 4294967295 := Iff.rfl
theorem Lr {x : Int} : Rng .u16 x ↔ 0 <= x /\ x <= 65535 := Iff.rfl
theorem bF (x : Int) (h : -9223372036854775808 <= x /\ x <= 9223372036854775807) : Rng .i64 x := h
theorem len0 (s : Sl) : 0 <= s.len := Int.natCast_nonneg _
theorem iO {s : Sl} (h : Small s) : s.len <= 140737488355328 := by
 unfold Small at h
 unfold Sl.len
 omega
theorem aaq (s : Sl) : s.len.toNat = s.n := by unfold Sl.len; omega
theorem wu64 (x : Int) : IntKind.wrap .u64 x = x % 18446744073709551616 := IntKind.wrap_u64 x
theorem oW (x : Int) : IntKind.wrap .u32 x = x % 4294967296 := IntKind.wrap_u32 x
theorem X5 (x : Int) : IntKind.wrap .u16 x = x % 65536 := IntKind.wrap_u16 x
theorem wu8 (x : Int) : IntKind.wrap .u8 x = x % 256 := IntKind.wrap_u8 x
theorem bC {x : Int} (h : 0 <= x) (h' : x < 18446744073709551616) : IntKind.wrap .u64 x = x := by rw [wu64]; omega
theorem jD {x : Int} (h : 0 <= x) (h' : x < 4294967296) : IntKind.wrap .u32 x = x := by rw [oW]; omega
theorem BL (k : IntKind) (x : Int) {n : Nat} (h : n <= k.bits) : shl k x n = x * 2 ^ n := by
 unfold shl
 rw [Int.toNat_natCast, Nat.min_eq_left h]
theorem lC (k : IntKind) {x : Int} {n : Nat} (h : n <= k.bits) : shr k x n = x / 2 ^ n := by
 unfold shr
 rw [Int.toNat_natCast, Nat.min_eq_left h, Int.fdiv_eq_ediv_of_nonneg _ (Int.le_of_lt (Int.pow_pos (by decide)))]
theorem ajq (x : Int) : shl .u64 x 32 = x * 4294967296 := BL .u64 x (n := 32) (by decide)
theorem yJ (x : Int) : shr .u64 x 32 = x / 4294967296 := lC .u64 (n := 32) (by decide)
theorem aex (x : Int) : shr .u64 x 63 = x / 9223372036854775808 := lC .u64 (n := 63) (by decide)
theorem X6 (x : Int) : shr .u32 x 16 = x / 65536 := lC .u32 (n := 16) (by decide)
theorem ah3 (x : Int) : shr .u32 x 8 = x / 256 := lC .u32 (n := 8) (by decide)
theorem ajr (x : Int) : shr .u32 x 31 = x / 2147483648 := lC .u32 (n := 31) (by decide)
theorem wI {n : Nat} {x : Int} (h : 0 <= x) (h' : x < 2 ^ n) : (BitVec.ofInt n x).toNat = x.toNat := by
 rw [BitVec.toNat_ofInt, Int.emod_eq_of_lt h (by exact_mod_cast h')]
theorem yS {k : IntKind} {a b : Int} {i : Nat} (ha : 0 <= a) (hb : 0 <= b) (hbi : b < 2 ^ i) (hk : a * 2 ^ i + b < 2 ^ k.bits) : bor k (a * 2 ^ i) b = a * 2 ^ i + b := by
 have hp : (0 : Int) < 2 ^ i := Int.pow_pos (by decide)
 have h0 : 0 <= a * 2 ^ i := Int.mul_nonneg ha (by omega)
 unfold bor
 rw [BitVec.toNat_or, wI h0 (by omega), wI hb (by omega)]
 have e1 : (a * 2 ^ i).toNat = 2 ^ i * a.toNat := by
  obtain ⟨n, rfl⟩ := Int.eq_ofNat_of_zero_le ha
  rw [Int.mul_comm]
  have : ((2 : Int) ^ i * (n : Int)) = ((2 ^ i * n : Nat) : Int) := by simp
  rw [this, Int.toNat_natCast, Int.toNat_natCast]
 have hlt : b.toNat < 2 ^ i := by
  have : ((b.toNat : Nat) : Int) < ((2 ^ i : Nat) : Int) := by rw [Int.toNat_of_nonneg hb]; simpa using hbi
  exact_mod_cast this
 rw [e1, <- Nat.two_pow_add_eq_or_of_lt hlt]
 have : (((2 ^ i * a.toNat + b.toNat : Nat)) : Int) = 2 ^ i * ((a.toNat : Nat) : Int) + ((b.toNat : Nat) : Int) := by simp
 rw [this, Int.toNat_of_nonneg ha, Int.toNat_of_nonneg hb, Int.mul_comm]
theorem SH (k : IntKind) (a b : Int) : bor k a b = bor k b a := by
 unfold bor
 rw [BitVec.or_comm]
theorem adq {k : IntKind} {b : Int} (hb : 0 <= b) (hk : b < 2 ^ k.bits) : bor k 0 b = b := by
 have := yS (k := k) (a := 0) (b := b) (i := k.bits) (Int.le_refl 0) hb hk (by omega)
 rwa [Int.zero_mul, Int.zero_add] at this
theorem yK (j : Nat) : (65536 : Int) ^ (2 * j) = 4294967296 ^ j := by
 rw [Int.pow_mul, show (65536 : Int) ^ 2 = 4294967296 from rfl]
theorem ajs {a b : Int} (ha : 0 <= a) (ha' : a < 4294967296) (hb : 0 <= b) (hb' : b < 4294967296) : bor .u64 (a * 4294967296) b = a * 4294967296 + b :=
 yS (k := .u64) (i := 32) ha hb hb' (by show a * 4294967296 + b < 18446744073709551616; omega)
theorem two32 {a b : Int} (ha : 0 <= a) (ha' : a < 4294967296) (hb : 0 <= b) (hb' : b < 4294967296) : IntKind.wrap .u64 (bor .u64 (IntKind.wrap .u64 (shl .u64 a 32)) b) = a * 4294967296 + b := by
 rw [ajq, bC (x := a * 4294967296) (by omega) (by omega), ajs ha ha' hb hb', bC (by omega) (by omega)]
def dg (s : Sl) : Nat -> Int := fun k => s.int k 0
def val (B : Int) (s : Sl) : Int := bY B (dg s) s.n
def bJ (B : Int) (s : Sl) (i : Int) : Int := bY B (dg s) i.toNat
def jq (B : Int) (s : Sl) (i : Int) : Int := bY B (fun k => dg s (i.toNat + k)) (s.n - i.toNat)
def vw (s : Sl) : Int := val 4294967296 s
def vl (s : Sl) : Int := val 65536 s
def dS (s : Sl) : Prop := 0 < s.len -> s.int (s.len - 1) 0 ≠ 0
def aY (B : Int) (s : Sl) : Prop := Dg B (dg s) s.n
theorem qc {s : Sl} {i : Int} (h : 0 <= i) : dg s i.toNat = s.int i 0 := by
 unfold dg
 rw [Int.toNat_of_nonneg h]
theorem ay {s : Sl} (h : Ranged s [some .u32]) : aY 4294967296 s := fun k hk => by
 have := lS.1 (h k 0 .u32 (Int.natCast_nonneg _) (by omega) rfl)
 show 0 <= s.int k 0 /\ s.int k 0 < 4294967296
 omega
theorem aj {s : Sl} (h : Ranged s [some .u16]) : aY 65536 s := fun k hk => by
 have := Lr.1 (h k 0 .u16 (Int.natCast_nonneg _) (by omega) rfl)
 show 0 <= s.int k 0 /\ s.int k 0 < 65536
 omega
theorem aY.at {B : Int} {s : Sl} (h : aY B s) {i : Int} (h0 : 0 <= i) (h1 : i < s.len) : 0 <= s.int i 0 /\ s.int i 0 < B := by
 rw [<- qc h0]
 exact h i.toNat (by unfold Sl.len at h1; omega)
theorem uK {s : Sl} : dS s ↔ Nm (dg s) s.n := by
 constructor
 ·intro h hp
  have h1 := h (by unfold Sl.len; omega)
  rw [<- qc (by unfold Sl.len; omega)] at h1
  have : (s.len - 1).toNat = s.n - 1 := by unfold Sl.len; omega
  rw [this] at h1
  exact h1
 ·intro h hp
  have h1 := h (by unfold Sl.len at hp; omega)
  have : (s.len - 1).toNat = s.n - 1 := by unfold Sl.len; omega
  rw [<- this, qc (by omega)] at h1
  exact h1
theorem fC (B : Int) (s : Sl) : val B s = bJ B s s.len := by
 unfold val bJ
 rw [aaq]
theorem jX (B : Int) (s : Sl) : bJ B s 0 = 0 := rfl
theorem bW (B : Int) (s : Sl) {i : Int} (h : 0 <= i) : bJ B s (i + 1) = bJ B s i + s.int i 0 * B ^ i.toNat := by
 unfold bJ
 have : (i + 1).toNat = i.toNat + 1 := by omega
 rw [this, dK, qc h]
theorem sH (B : Int) (s : Sl) : jq B s 0 = val B s := by
 unfold jq val
 simp
theorem Hg (B : Int) (s : Sl) {i : Int} (h : s.len <= i) : jq B s i = 0 := by
 unfold jq
 have : s.n - i.toNat = 0 := by unfold Sl.len at h; omega
 rw [this]
 rfl
theorem sJ (B : Int) (s : Sl) {i : Int} (h : 0 <= i) (h' : i < s.len) : jq B s i = s.int i 0 + B * jq B s (i + 1) := by
 unfold jq
 have e : s.n - i.toNat = (s.n - (i + 1).toNat) + 1 := by unfold Sl.len at h'; omega
 rw [e, adi]
 have e0 : dg s (i.toNat + 0) = s.int i 0 := by rw [Nat.add_zero, qc h]
 rw [e0]
 congr 2
 exact jf fun k _ => by congr 1; omega
theorem aY.bound {B : Int} (hB : 0 < B) {s : Sl} (h : aY B s) : 0 <= val B s /\ val B s < B ^ s.n := eX hB h
theorem aY.jY {B : Int} (hB : 0 < B) {s : Sl} (h : aY B s) {i : Int} (hi : i <= s.len) : 0 <= bJ B s i /\ bJ B s i < B ^ i.toNat := eX hB (h.mono (by unfold Sl.len at hi; omega))
theorem aY.vV {B : Int} (hB : 0 < B) {s : Sl} (h : aY B s) {i : Int} (hi : i <= s.len) : 0 <= jq B s i /\ jq B s i < B ^ (s.n - i.toNat) := by
 refine eX hB (Dg.shift ?_)
 have : i.toNat + (s.n - i.toNat) = s.n := by unfold Sl.len at hi; omega
 rw [this]
 exact h
theorem dX {s : Sl} {i k x : Int} (h0 : 0 <= i) (h1 : 0 <= k) : (Sl.upd s i 0 [.int x]).int k 0 = if k = i then x else s.int k 0 := by
 unfold Sl.int Sl.upd
 by_cases h : k = i
 ·subst h; simp [D.toI]
 ·have : ¬ k.toNat = i.toNat := by omega
  simp [h, this]
theorem dN (s : Sl) (i : Int) (j : Nat) (c : List D) : (Sl.upd s i j c).len = s.len := rfl
theorem Qs (s : Sl) (i : Int) (j : Nat) (c : List D) : (Sl.upd s i j c).n = s.n := rfl
theorem BM {s : Sl} {i x : Int} (h0 : 0 <= i) (k : Nat) : dg (Sl.upd s i 0 [.int x]) k = if k = i.toNat then x else dg s k := by
 unfold dg
 rw [dX h0 (Int.natCast_nonneg _)]
 by_cases h : k = i.toNat
 ·rw [if_pos h, if_pos (by omega)]
 ·rw [if_neg h, if_neg (by omega)]
theorem BN {B : Int} {s : Sl} {i x k : Int} (h0 : 0 <= i) (hk : k <= i) : bJ B (Sl.upd s i 0 [.int x]) k = bJ B s k :=
 jf fun j hj => by rw [BM h0, if_neg (by omega)]
theorem kV {B : Int} {s : Sl} {i x : Int} (h0 : 0 <= i) : bJ B (Sl.upd s i 0 [.int x]) (i + 1) = bJ B s i + x * B ^ i.toNat := by
 rw [bW B _ h0, BN h0 (Int.le_refl i), dX h0 h0, if_pos rfl]
theorem VF {B : Int} {s : Sl} {i x k : Int} (h0 : 0 <= i) (hk : i < k) : jq B (Sl.upd s i 0 [.int x]) k = jq B s k := by
 unfold jq
 rw [Qs]
 exact jf fun j hj => by rw [BM h0, if_neg (by omega)]
theorem SI {B : Int} {f g : Nat -> Int} {i : Nat} (h : ∀ k, k ≠ i -> g k = f k) : ∀ {n : Nat}, i < n -> bY B g n = bY B f n + (g i - f i) * B ^ i
 | 0, hi => absurd hi (by omega)
 | n + 1, hi => by
  rw [dK, dK]
  by_cases e : i = n
  ·subst e
   rw [jf (fun k hk => h k (by omega)), Int.sub_mul]
   omega
  ·rw [SI h (by omega), h n (fun e' => e e'.symm)]
   omega
theorem vW {B : Int} {s : Sl} {i x : Int} (h0 : 0 <= i) (h1 : i < s.len) : val B (Sl.upd s i 0 [.int x]) = val B s + (x - s.int i 0) * B ^ i.toNat := by
 unfold val
 rw [Qs, SI (f := dg s) (i := i.toNat) (fun k hk => by rw [BM h0, if_neg hk]) (by unfold Sl.len at h1; omega), BM h0, if_pos rfl, qc h0]
theorem mg {s : Sl} {l h : Int} (h0 : l <= h) : (Sl.part s l h).len = h - l := by
 unfold Sl.len Sl.part
 show (((h - l).toNat : Nat) : Int) = h - l
 omega
theorem Dk {s : Sl} {l h i : Int} {j : Nat} (h0 : 0 <= l) (h1 : 0 <= i) : (Sl.part s l h).int i j = s.int (l + i) j := by
 unfold Sl.int Sl.part
 show D.toI (s.f (l.toNat + i.toNat) j) = D.toI (s.f (l + i).toNat j)
 have : (l + i).toNat = l.toNat + i.toNat := by omega
 rw [this]
theorem AB {s : Sl} {h i : Int} {j : Nat} (h1 : 0 <= i) : (Sl.part s 0 h).int i j = s.int i j := by rw [Dk (by omega) h1, Int.zero_add]
theorem tJ {B : Int} {s : Sl} {h : Int} (h0 : 0 <= h) : val B (Sl.part s 0 h) = bJ B s h := by
 rw [fC, mg h0, Int.sub_zero]
 exact jf fun k hk => AB (Int.natCast_nonneg _)
theorem OT {B : Int} {s : Sl} (hs : aY B s) {h : Int} (h0 : 0 <= h) (h1 : h <= s.len) : aY B (Sl.part s 0 h) := fun k hk => by
 have e : dg (Sl.part s 0 h) k = dg s k := AB (Int.natCast_nonneg _)
 rw [e]
 refine hs k ?_
 have : (Sl.part s 0 h).n = (h - 0).toNat := rfl
 unfold Sl.len at h1
 omega
theorem qM {n : Int} (h : 0 <= n) (z : List D) : (Sl.rep n z).len = n := by
 unfold Sl.len Sl.rep
 show ((n.toNat : Nat) : Int) = n
 omega
theorem Hl (n i : Int) : (Sl.rep n [.int 0]).int i 0 = 0 := rfl
theorem VG (B : Int) (n : Int) : val B (Sl.rep n [.int 0]) = 0 := tH fun _ _ => rfl
theorem af0 (B : Int) (n i : Int) : bJ B (Sl.rep n [.int 0]) i = 0 := tH fun _ _ => rfl
theorem VH (B : Int) (n i : Int) : jq B (Sl.rep n [.int 0]) i = 0 := tH fun _ _ => rfl
theorem af2 (B : Int) : val B Sl.nil = 0 := rfl
theorem Ho : dS Sl.nil := fun h => absurd h (by decide)
theorem len_nil : Sl.nil.len = 0 := rfl
theorem dO (a b : Sl) : (Sl.app a b).len = a.len + b.len := by
 show (((a.n + b.n : Nat)) : Int) = _
 unfold Sl.len
 omega
theorem bD {a b : Sl} {i : Int} {j : Nat} (h : 0 <= i) (h' : i < a.len) : (Sl.app a b).int i j = a.int i j := by
 have : i.toNat < a.n := by unfold Sl.len at h'; omega
 show D.toI (if i.toNat < a.n then a.f i.toNat j else b.f (i.toNat - a.n) j) = _
 rw [if_pos this]; rfl
theorem aJ {a b : Sl} {i : Int} {j : Nat} (h : a.len <= i) : (Sl.app a b).int i j = b.int (i - a.len) j := by
 have h0 := len0 a
 have : ¬ i.toNat < a.n := by unfold Sl.len at *; omega
 have e : (i - a.len).toNat = i.toNat - a.n := by unfold Sl.len at *; omega
 show D.toI (if i.toNat < a.n then a.f i.toNat j else b.f (i.toNat - a.n) j) = D.toI (b.f (i - a.len).toNat j)
 rw [if_neg this, e]
def dP (a b : Sl) : Prop := a.len = b.len /\ ∀ i : Int, 0 <= i -> i < a.len -> a.int i 0 = b.int i 0
theorem dP.val {a b : Sl} (h : dP a b) (B : Int) : N.val B a = N.val B b := by
 obtain ⟨hl, hi⟩ := h
 have e : a.n = b.n := by unfold Sl.len at hl; omega
 unfold N.val
 rw [<- e]
 exact jf fun k hk => hi k (Int.natCast_nonneg _) (by unfold Sl.len; omega)
theorem dP.nrm {a b : Sl} (h : dP a b) (hb : dS b) : dS a := fun hp => by
 have hl := h.1
 rw [h.2 _ (by omega) (by omega), hl]
 exact hb (by omega)
theorem OU {a b : Sl} (h : a.len = 0) : dP (Sl.app a b) b := by
 refine ⟨by rw [dO, h]; omega, fun i h0 _ => ?_⟩
 rw [aJ (by omega), h, Int.sub_zero]
theorem OV {b : Sl} (h : b.len <= 0) : dP Sl.nil b := ⟨by have := len0 b; rw [len_nil]; omega, fun i h0 h1 => by rw [len_nil] at h1; omega⟩
theorem dP.refl (a : Sl) : dP a a := ⟨rfl, fun _ _ _ => rfl⟩
theorem dP.symm {a b : Sl} (h : dP a b) : dP b a := ⟨h.1.symm, fun i h0 h1 => (h.2 i h0 (by rw [h.1]; exact h1)).symm⟩
theorem dP.trans {a b c : Sl} (h : dP a b) (g : dP b c) : dP a c := ⟨h.1.trans g.1, fun i h0 h1 => (h.2 i h0 h1).trans (g.2 i h0 (by rw [<- h.1]; exact h1))⟩
theorem Vk {B : Int} (hB : 0 < B) {a b : Sl} (ha : aY B a) (na : dS a) (hb : aY B b) (nb : dS b) (h : val B a = val B b) : dP a b := by
 obtain ⟨e, hk⟩ := Nm.eq hB ha (uK.1 na) hb (uK.1 nb) h
 refine ⟨by unfold Sl.len; omega, fun i h0 h1 => ?_⟩
 have := hk i.toNat (by unfold Sl.len at h1; omega)
 rw [qc h0, qc h0] at this
 exact this
theorem iC {B : Int} (hB : 1 < B) {a : Sl} (ha : aY B a) (na : dS a) (k : Nat) : a.len <= k ↔ val B a < B ^ k := by
 have := Nm.le hB ha (uK.1 na) (k := k)
 unfold Sl.len
 unfold val
 rw [<- this]
 omega
theorem bZ {B : Int} (hB : 0 < B) {a : Sl} (ha : aY B a) (na : dS a) : val B a = 0 ↔ a.len = 0 := by
 have := Nm.zero hB ha (uK.1 na)
 unfold Sl.len
 unfold val
 rw [this]
 omega
theorem gX {B : Int} (hB : 0 < B) {a : Sl} (ha : aY B a) (na : dS a) : 0 < val B a ↔ 0 < a.len := by
 have h1 := bZ hB ha na
 have h2 := (ha.bound hB).1
 have := len0 a
 omega
theorem SK {B : Int} (hB : 0 < B) {a : Sl} (ha : aY B a) (na : dS a) (h : 0 < a.len) : B ^ (a.n - 1) <= val B a := (uK.1 na).pos hB ha (by unfold Sl.len at h; omega)
theorem Ls {B : Int} (hB : 0 < B) {a : Sl} (ha : aY B a) (h : 0 < a.len -> B ^ (a.n - 1) <= val B a) : dS a := fun hp h0 => by
 have h1 := h hp
 have e : a.n = (a.n - 1) + 1 := by unfold Sl.len at hp; omega
 have hb := eX hB (ha.mono (show a.n - 1 <= a.n by omega))
 unfold val at h1
 rw [e, dK] at h1
 have : dg a (a.n - 1) = 0 := by
  have : (a.len - 1).toNat = a.n - 1 := by unfold Sl.len; omega
  rw [<- this, qc (by omega)]
  exact h0
 rw [this, Int.zero_mul, Int.add_zero] at h1
 simp only [Nat.add_sub_cancel] at h1
 omega
end Go.Sx.N
namespace Go.Sx.N
def aP (s : Sl) : Prop := s.len <= 1073741824
def GU (_x _y b : Int) : Prop := b <= 1
def GV (x y b d o : Int) : Prop := d = x - y - b + o * 4294967296 /\ (o = 0 \/ o = 1)
def Ny (_x _y c : Int) : Prop := c <= 1
def Nz (x y c s o : Int) : Prop := s + o * 4294967296 = x + y + c /\ (o = 0 \/ o = 1)
def GX (_x : Int) : Prop := True
def oQ (x r : Int) : Prop := 0 <= r /\ r <= 32 /\ x < 2 ^ r.toNat /\ (0 < x -> 0 < r /\ 2 ^ (r.toNat - 1) <= x)
def KR (_x : Int) : Prop := True
def KT (x r : Int) : Prop := 0 <= r /\ r <= 32 /\ (0 < x -> r <= 31 /\ 2147483648 <= x * 2 ^ r.toNat /\ x * 2 ^ r.toNat < 4294967296)
def NC (hi _lo y : Int) : Prop := hi < y
def GY (hi lo y q r : Int) : Prop := hi * 4294967296 + lo = y * q + r /\ r < y
def wU (s : Sl) : Prop := aP s
def wV (s r : Sl) : Prop := dP r s
def lG (s : Sl) : Prop := aP s
def nJ (s r : Sl) : Prop := dP r s
def ku (_s : Sl) : Prop := True
def iW (s r : Sl) : Prop := dS r /\ r.len <= s.len /\ vw r = vw s
def mQ (s : Sl) : Prop := aP s
def oJ (s r : Sl) : Prop := vw r = vl s /\ (dS s -> dS r) /\ r.len <= s.len
def jB (_neg : Bool) (w : Sl) : Prop := aP w
def iF (neg : Bool) (w : Sl) (neg' : Bool) (l : Sl) : Prop := dS l /\ vl l = vw w /\ (neg' = true ↔ neg = true /\ l.len ≠ 0)
def KU (s : Sl) : Prop := s.len <= 2
def KW (s : Sl) (r : Int) : Prop := r = vw s
def ND (_x : Int) : Prop := True
def NG (x : Int) (r : Sl) : Prop := vw r = x /\ dS r
def tq (a b : Sl) : Prop := dS a /\ dS b
def iL (a b : Sl) (r : Int) : Prop := (r = -1 /\ vw a < vw b) \/ (r = 0 /\ vw a = vw b) \/ (r = 1 /\ vw b < vw a)
def xJ (s : Sl) (d : Int) : Prop := aP s /\ 0 < d
def xK (s : Sl) (d : Int) (q : Sl) (r : Int) : Prop := vw s = d * vw q + r /\ r < d /\ dS q
def Aw (s : Sl) (n : Int) : Prop := aP s /\ 0 <= n /\ n <= 31
def Az (s : Sl) (n : Int) (r : Sl) : Prop := r.len = s.len + 1 /\ vw r = vw s * 2 ^ n.toNat
def zH (a b : Sl) : Prop := aP a /\ aP b /\ dS a /\ dS b /\ 0 < b.len
def nU (a b q r : Sl) : Prop := vw a = vw b * vw q + vw r /\ vw r < vw b /\ dS q /\ dS r
def E5 (w : Sl) (n skip : Int) : Prop := 3 <= n /\ n <= 1073741824 /\ w.len <= n /\ 0 <= skip /\ skip <= 31 /\ vw w * 2 ^ skip.toNat < 4294967296 ^ n.toNat
def oK (w : Sl) (n skip r : Int) : Prop := r = vw w * 2 ^ skip.toNat / 4294967296 ^ (n.toNat - 2)
def CV (a b : Sl) : Prop := aP a /\ aP b /\ dS a /\ dS b /\ 3 <= b.len /\ vw b <= vw a
def uw (a b : Sl) (u0 u1 v0 v1 : Int) (even : Bool) : Prop := v0 ≠ 0 -> (u0 < 4294967296 /\ u1 < 4294967296 /\ v0 < 4294967296 /\ v1 < 4294967296) /\
 (even = true -> u0 * v1 - v0 * u1 = 1 /\ 0 <= v1 * vw b - u1 * vw a /\ v1 * vw b - u1 * vw a < u0 * vw a - v0 * vw b /\ u0 * vw a - v0 * vw b <= vw b) /\
 (even = false -> u0 * v1 - v0 * u1 = -1 /\ 0 <= u1 * vw a - v1 * vw b /\ u1 * vw a - v1 * vw b < v0 * vw b - u0 * vw a /\ v0 * vw b - u0 * vw a <= vw b)
def mV (u : Int) (a : Sl) (v : Int) (b : Sl) : Prop := aP a /\ aP b /\ u < 4294967296 /\ v < 4294967296 /\ v * vw b <= u * vw a
def mW (u : Int) (a : Sl) (v : Int) (b r : Sl) : Prop := vw r = u * vw a - v * vw b /\ dS r
def uy (a b : Sl) : Prop := aP a /\ aP b /\ dS a /\ dS b
def pF (a b r : Sl) : Prop := vw r = (Int.gcd (vw a) (vw b) : Nat) /\ dS r
def KX (a b : Sl) : Prop := aP a /\ aP b
def Bz (a b r : Sl) : Prop := vw r = vw a + vw b /\ dS r
def BA (a b : Sl) : Prop := aP a /\ aP b /\ vw b <= vw a /\ b.len <= a.len
def BD (a b r : Sl) : Prop := vw r = vw a - vw b /\ dS r
def NH (a b : Sl) : Prop := aP a /\ aP b
def NI (a b r : Sl) : Prop := vw r = vw a * vw b /\ dS r
def NW (neg : Bool) (l : Sl) : Prop := dS l /\ (l.len = 0 -> neg = false)
def okW (neg : Bool) (l : Sl) : Prop := NW neg l /\ l.len <= 1024
def zv (neg : Bool) (l : Sl) : Int := if neg = true then - vl l else vl l
def VI (neg : Bool) (l : Sl) : Prop := NW neg l /\ l.len <= 600
def sgn (x y r : Int) : Prop := (r = -1 /\ x < y) \/ (r = 0 /\ x = y) \/ (r = 1 /\ y < x)
def vI (_neg : Bool) (_l : Sl) : Prop := True
def kT (neg : Bool) (l : Sl) (r : Bool) : Prop := r = true ↔ okW neg l
def lY (_s : Sl) : Prop := True
def dD (s : Sl) (r : Bool) : Prop := r = true ↔ ∀ i : Int, 0 <= i -> i < s.len -> okW (s.bool i 0) (s.sub i 1)
def uz (_n : Int) : Prop := True
def uD (n : Int) (neg : Bool) (l : Sl) : Prop := NW neg l /\ zv neg l = n /\ l.len <= 4
def Sj (neg : Bool) (l : Sl) : Prop := okW neg l
def uF (neg : Bool) (l : Sl) (r e : Int) : Prop := (-9223372036854775808 <= zv neg l /\ zv neg l <= 9223372036854775807 /\ r = zv neg l /\ e = 0) \/ (¬ (-9223372036854775808 <= zv neg l /\ zv neg l <= 9223372036854775807) /\ r = 0 /\ e = 3)
@[irreducible] def cap : Int := 65536 ^ 1024
theorem qg : cap = 65536 ^ 1024 := by unfold cap; rfl
def vJ (_neg : Bool) (w : Sl) : Prop := aP w /\ vw w < cap
def sD (neg : Bool) (w : Sl) (neg' : Bool) (l : Sl) (e : Int) : Prop := NW neg' l /\ zv neg' l = (if neg = true then - vw w else vw w) /\ e = 0
def XZ (_n : Bool) (a : Sl) (_m : Bool) (b : Sl) : Prop := aP a /\ aP b /\ dS a /\ dS b /\ vw a + vw b < cap
def KY (n : Bool) (a : Sl) (m : Bool) (b : Sl) (neg : Bool) (l : Sl) (e : Int) : Prop := NW neg l /\ zv neg l = (if n = true then - vw a else vw a) + (if m = true then - vw b else vw b) /\ e = 0
def Sm (n : Bool) (a : Sl) (m : Bool) (b : Sl) : Prop := VI n a /\ VI m b
def KZ (n : Bool) (a : Sl) (m : Bool) (b : Sl) (neg : Bool) (l : Sl) (e : Int) : Prop := NW neg l /\ zv neg l = zv n a + zv m b /\ e = 0
def Sr (n : Bool) (a : Sl) (m : Bool) (b : Sl) : Prop := NW n a /\ NW m b /\ a.len + b.len <= 1024
def La (n : Bool) (a : Sl) (m : Bool) (b : Sl) (neg : Bool) (l : Sl) (e : Int) : Prop := NW neg l /\ zv neg l = zv n a * zv m b /\ e = 0
def E8 (n : Bool) (a : Sl) (m : Bool) (b : Sl) : Prop := okW n a /\ okW m b /\ 0 < b.len
def nK (n : Bool) (a : Sl) (m : Bool) (b : Sl) (qn : Bool) (q : Sl) (rn : Bool) (r : Sl) (e : Int) : Prop :=
 NW qn q /\ NW rn r /\ zv n a = zv m b * zv qn q + zv rn r /\ (0 < zv m b -> 0 <= zv rn r /\ zv rn r < zv m b) /\ (zv m b < 0 -> zv m b < zv rn r /\ zv rn r <= 0) /\ e = 0
def Sv (n : Bool) (a : Sl) (m : Bool) (b : Sl) : Prop := okW n a /\ okW m b
def Lc (_n : Bool) (a : Sl) (_m : Bool) (b : Sl) (neg : Bool) (l : Sl) (e : Int) : Prop := NW neg l /\ neg = false /\ vl l = (Int.gcd (vl a) (vl b) : Nat) /\ e = 0
def BF (n : Bool) (a : Sl) (m : Bool) (b : Sl) : Prop := okW n a /\ okW m b
def pO (n : Bool) (a : Sl) (m : Bool) (b : Sl) (r : Int) : Prop := sgn (zv n a) (zv m b) r
end Go.Sx.N
namespace Go.Sx.N
def aW (q : Rat) (nn : Bool) (nl : Sl) (dn : Bool) (dl : Sl) : Prop := NW nn nl /\ zv nn nl = q.num /\ dn = false /\ dS dl /\ vl dl = (q.den : Int)
def oZ (nn : Bool) (nl : Sl) (dn : Bool) (dl : Sl) : Prop := ∃ q, aW q nn nl dn dl
def okF (nn : Bool) (nl : Sl) (dn : Bool) (dl : Sl) : Prop := oZ nn nl dn dl /\ nl.len <= 256 /\ dl.len <= 256
def fq (nn : Bool) (nl dl : Sl) : Rat := Rat.divInt (zv nn nl) (vl dl)
@[irreducible] def qZ : Int := 65536 ^ 256
theorem tK : qZ = 65536 ^ 256 := by unfold qZ; rfl
def bH (q : Rat) : Prop := (q.num.natAbs : Int) < qZ /\ (q.den : Int) < qZ
def uM (nn : Bool) (nl : Sl) (dn : Bool) (dl : Sl) : Prop := nn = false /\ nl.len = 0 /\ dn = false /\ dl.len = 0
def Dl (q : Rat) (nn : Bool) (nl : Sl) (dn : Bool) (dl : Sl) (e : Int) : Prop := (bH q -> aW q nn nl dn dl /\ e = 0) /\ (¬ bH q -> uM nn nl dn dl /\ e = 3)
def Jm (x y : Rat) (r : Int) : Prop := (r = -1 /\ x < y) \/ (r = 0 /\ x = y) \/ (r = 1 /\ y < x)
def jG (_n : Bool) (l : Sl) : Prop := aP l
def iw (n : Bool) (l : Sl) (n' : Bool) (l' : Sl) : Prop := dP l' l /\ (n' = true ↔ n = false /\ 0 < l.len)
def iY (n : Bool) (a : Sl) (m : Bool) (b : Sl) : Prop := okW n a /\ okW m b
def iy (_n : Bool) (a : Sl) (_m : Bool) (b : Sl) (neg : Bool) (l : Sl) : Prop := NW neg l /\ neg = false /\ vl l = (Int.gcd (vl a) (vl b) : Nat)
def vK (n : Bool) (a : Sl) (m : Bool) (b : Sl) : Prop := VI n a /\ VI m b
def vM (n : Bool) (a : Sl) (m : Bool) (b : Sl) (neg : Bool) (l : Sl) : Prop := NW neg l /\ zv neg l = zv n a + zv m b
def iG (n : Bool) (a : Sl) (m : Bool) (b : Sl) : Prop := NW n a /\ NW m b /\ a.len + b.len <= 1024
def iZ (n : Bool) (a : Sl) (m : Bool) (b : Sl) (neg : Bool) (l : Sl) : Prop := NW neg l /\ zv neg l = zv n a * zv m b
def fF (n : Bool) (a : Sl) (m : Bool) (b : Sl) : Prop := okW n a /\ okW m b /\ 0 < b.len
def cO (n : Bool) (a : Sl) (m : Bool) (b : Sl) (qn : Bool) (q : Sl) (rn : Bool) (r : Sl) : Prop :=
 NW qn q /\ NW rn r /\ zv n a = zv m b * zv qn q + zv rn r /\ (0 < zv m b -> 0 <= zv rn r /\ zv rn r < zv m b) /\ (zv m b < 0 -> zv m b < zv rn r /\ zv rn r <= 0)
def vN (n : Bool) (a : Sl) (m : Bool) (b : Sl) : Prop := okW n a /\ okW m b /\ 0 < b.len
def lZ (n : Bool) (a : Sl) (m : Bool) (b : Sl) (nn : Bool) (nl : Sl) (dn : Bool) (dl : Sl) : Prop := aW (Rat.divInt (zv n a) (zv m b)) nn nl dn dl
def nV (_nn : Bool) (_nl : Sl) (_dn : Bool) (_dl : Sl) : Prop := True
def aS (nn : Bool) (nl : Sl) (dn : Bool) (dl : Sl) (r : Bool) : Prop := r = true ↔ okF nn nl dn dl
def l7 (_s : Sl) : Prop := True
def dG (s : Sl) (r : Bool) : Prop := r = true ↔ ∀ i : Int, 0 <= i -> i < s.len -> okF (s.bool i 0) (s.sub i 1) (s.bool i 2) (s.sub i 3)
def bK (_n : Int) : Prop := True
def aT (n : Int) (nn : Bool) (nl : Sl) (dn : Bool) (dl : Sl) : Prop := aW (n : Rat) nn nl dn dl /\ nl.len <= 4 /\ dl.len <= 4
def zI (_a : Bool) (_b : Sl) (_c : Bool) (_d : Sl) (_a' : Bool) (_b' : Sl) (_c' : Bool) (_d' : Sl) : Prop := True
def lH (a : Bool) (b : Sl) (c : Bool) (d : Sl) (a' : Bool) (b' : Sl) (c' : Bool) (d' : Sl) (nn : Bool) (nl : Sl) (dn : Bool) (dl : Sl) (e : Int) : Prop :=
 (okF a b c d /\ okF a' b' c' d' -> Dl (fq a b d + fq a' b' d') nn nl dn dl e) /\ (¬ (okF a b c d /\ okF a' b' c' d') -> uM nn nl dn dl /\ e = 2)
def Fa (_a : Bool) (_b : Sl) (_c : Bool) (_d : Sl) (_a' : Bool) (_b' : Sl) (_c' : Bool) (_d' : Sl) : Prop := True
def uG (a : Bool) (b : Sl) (c : Bool) (d : Sl) (a' : Bool) (b' : Sl) (c' : Bool) (d' : Sl) (nn : Bool) (nl : Sl) (dn : Bool) (dl : Sl) (e : Int) : Prop :=
 (okF a b c d /\ okF a' b' c' d' -> Dl (fq a b d * fq a' b' d') nn nl dn dl e) /\ (¬ (okF a b c d /\ okF a' b' c' d') -> uM nn nl dn dl /\ e = 2)
def Ld (_a : Bool) (_b : Sl) (_c : Bool) (_d : Sl) (_a' : Bool) (_b' : Sl) (_c' : Bool) (_d' : Sl) : Prop := True
def uH (a : Bool) (b : Sl) (c : Bool) (d : Sl) (a' : Bool) (b' : Sl) (c' : Bool) (d' : Sl) (nn : Bool) (nl : Sl) (dn : Bool) (dl : Sl) (e : Int) : Prop :=
 (okF a b c d /\ okF a' b' c' d' -> (fq a' b' d' ≠ 0 -> Dl (fq a b d / fq a' b' d') nn nl dn dl e) /\ (fq a' b' d' = 0 -> uM nn nl dn dl /\ e = 20)) /\ (¬ (okF a b c d /\ okF a' b' c' d') -> uM nn nl dn dl /\ e = 2)
def uI (_a : Bool) (_b : Sl) (_c : Bool) (_d : Sl) (_a' : Bool) (_b' : Sl) (_c' : Bool) (_d' : Sl) : Prop := True
def qW (a : Bool) (b : Sl) (c : Bool) (d : Sl) (a' : Bool) (b' : Sl) (c' : Bool) (d' : Sl) (r : Int) : Prop :=
 (okF a b c d /\ okF a' b' c' d' -> Jm (fq a b d) (fq a' b' d') r) /\ (¬ (okF a b c d /\ okF a' b' c' d') -> r = 0)
def Lu (x : Int) : Prop := -9223372036854775808 <= x /\ x <= 9223372036854775807
def wW (_a : Bool) (_b : Sl) (_c : Bool) (_d : Sl) : Prop := True
def mX (a : Bool) (b : Sl) (c : Bool) (d : Sl) (r e : Int) : Prop :=
 (¬ okF a b c d -> r = 0 /\ e = 2) /\ (okF a b c d -> ((fq a b d).den ≠ 1 -> r = 0 /\ e = 22) /\ ((fq a b d).den = 1 -> (Lu (fq a b d).num -> r = (fq a b d).num /\ e = 0) /\ (¬ Lu (fq a b d).num -> r = 0 /\ e = 3)))
def aQ (q : Rat) (mode : Int) : Int := if mode = 3 then q.floor else if q.floor + q.floor + 1 < q + q \/ (((q.floor + q.floor + 1 : Int) : Rat) = q + q /\ 0 <= q) then q.floor + 1 else q.floor
def pR (_a : Bool) (_b : Sl) (_c : Bool) (_d : Sl) (a' : Bool) (b' : Sl) (c' : Bool) (d' : Sl) (mode : Int) : Prop := aW 1 a' b' c' d' /\ b'.len <= 256 /\ d'.len <= 256 /\ (mode = 3 \/ mode = 5)
def gy (a : Bool) (b : Sl) (c : Bool) (d : Sl) (_a' : Bool) (_b' : Sl) (_c' : Bool) (_d' : Sl) (mode : Int) (nn : Bool) (nl : Sl) (dn : Bool) (dl : Sl) (e : Int) : Prop :=
 (okF a b c d -> Dl (aQ (fq a b d) mode : Int) nn nl dn dl e) /\ (¬ okF a b c d -> uM nn nl dn dl /\ e = 2)
def smF (nn : Bool) (nl : Sl) (dn : Bool) (dl : Sl) : Prop := oZ nn nl dn dl /\ nl.len <= 100000000 /\ dl.len <= 100000000
abbrev dB (b : Bool) : Bool := decide (b = true)
abbrev R32 (s : Sl) : Prop := Ranged s [some .u32]
abbrev fD (s : Sl) : Prop := Ranged s [some .i64]
abbrev R16 (s : Sl) : Prop := Ranged s [some .u16]
abbrev dT : Bool := decide True
abbrev dF : Bool := decide False
end Go.Sx.N
