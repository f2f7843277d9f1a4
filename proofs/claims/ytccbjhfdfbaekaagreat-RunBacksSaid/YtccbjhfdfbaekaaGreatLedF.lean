/-
 The conditions of the ledger's functions. Conditions: none.
-/
import Derived.Test.YtccbjhfdfbaekaaGreatNumVG
set_option linter.unusedVariables false
set_option linter.unusedSimpArgs false
namespace Go.Sx.N.L
theorem alu {x : Int} : Rng .u8 x ↔ 0 <= x /\ x <= 255 := Iff.rfl
theorem Rz : Yf := by
 intro st _ d p m _ ⟨h1, h2, h3⟩
 have := len0 d
 simp only [ak, CX, oh] at *
 grind
theorem ER : Jo := by
 intro st _ d p q day _ hp hsm
 have hsm := iO hsm
 obtain ⟨J, hJ⟩ : ∃ J : Int -> Int -> Prop, J = fun FB i => 0 <= i /\ i <= q.len /\ FB = prev q day i /\ ∀ k, 0 <= k -> k < i -> mD st d.len q day k := ⟨_, rfl⟩
 obtain ⟨m, hm⟩ : ∃ m : Int -> Int -> Nat, m = fun _ i => (q.len - i).toNat := ⟨_, rfl⟩
 refine ⟨J, m, by rw [hJ]; exact ⟨Int.le_refl _, len0 q, rfl, fun k h1 h2 => absurd h1 (by omega)⟩, ?_⟩
 intro FB _ i WJ hj
 have hj' := hj
 rw [hJ] at hj'
 obtain ⟨hi0, hi1, qR, hk⟩ := hj'
 refine ⟨fun hlt => ⟨hi0, hlt, fun r0 r1 r2 r3 => ?_⟩, fun hge => ?_⟩
 ·have hF : ¬ mD st d.len q day i -> aH st d p q day (decide False) := fun hn => by
   simp only [aH, decide_false, Bool.false_eq_true, false_iff]
   exact fun hf => hn (hf i hi0 hlt)
  have hT : mD st d.len q day i -> Rng .i64 (i + 1) /\ (J (q.int i 0) (i + 1) /\ m (q.int i 0) (i + 1) < m FB i) := fun hy => by
   rw [hJ, hm]
   refine ⟨?_, ⟨by omega, by omega, ?_, fun k h1 h2 => ?_⟩, ?_⟩
   ·rw [ak] at *; omega
   ·unfold prev; rw [if_neg (by omega)]; congr 1; omega
   ·by_cases e : k = i
    ·rw [e]; exact hy
    ·exact hk k h1 (by omega)
   ·show (q.len - (i + 1)).toNat < (q.len - i).toNat; omega
  have hs : xg st d := hp
  obtain ⟨hs1, hs2, hs3⟩ := hp
  unfold mD AO Hr at hF hT
  rw [<- qR] at hF hT
  simp only [Lh, CX, oh, decide_eq_true_eq, Bool.decide_eq_true] at hF hT ⊢
  generalize q.int i 0 = a0 at *
  generalize q.int i 1 = a1 at *
  generalize q.int i 2 = a2 at *
  generalize q.int i 3 = a3 at *
  generalize aH st d p q day (decide False) = F at *
  generalize J a0 (i + 1) = J1 at *
  generalize (m a0 (i + 1) < m FB i) = M1 at *
  generalize Rng .i64 (i + 1) = R1 at *
  clear hJ hm hk hj r0 r1 r3 WJ qR
  repeat' first | apply And.intro | (intro _)
  all_goals grind
 ·refine ⟨?_, trivial⟩
  simp only [aH, true_iff, decide_true]
  intro k h1 h2
  exact hk k h1 (by omega)
theorem I5 : N9 := by
 intro st hst d p _
 have hn : (¬ au st d p) -> aZ st d p (decide False) := fun h => by simp [aZ, h]
 have hd0 := len0 d
 have hp0 := len0 p
 have alv : (0 <= st /\ st <= 2400 /\ d.len <= 1200 /\ st + d.len <= 2400) -> Yb d -> p.len <= 4000 -> nX st d p p 0 /\ ∀ b5 : Bool, aH st d p p 0 (decide (b5 = true)) -> aZ st d p (decide (b5 = true)) /\ True := fun h1 h2 h3 => by
  refine ⟨⟨h1.1, h1.2.1, h1.2.2.1⟩, fun b hb => ⟨?_, trivial⟩⟩
  simp only [aH, aZ, au, decide_eq_true_eq] at *
  exact ⟨fun h => ⟨h1, h2, h3, hb.1 h⟩, fun h => hb.2 h.2.2.2⟩
 have n1 : st < 0 -> aZ st d p (decide False) := fun h => hn fun hv => by unfold au at hv; omega
 have n2 : st > 2400 -> aZ st d p (decide False) := fun h => hn fun hv => by unfold au at hv; omega
 have n3 : d.len > 1200 -> aZ st d p (decide False) := fun h => hn fun hv => by unfold au at hv; omega
 have n4 : st + d.len > 2400 -> aZ st d p (decide False) := fun h => hn fun hv => by unfold au at hv; omega
 have n5 : ¬ p.len <= 4000 -> aZ st d p (decide False) := fun h => hn fun hv => by unfold au at hv; omega
 have n6 : ∀ i, 0 <= i -> i < d.len -> ¬ (0 <= d.int i 0 /\ d.int i 0 <= 1099511627776) -> aZ st d p (decide False) := fun i h1 h2 h3 => hn fun hv => h3 (hv.2.1 i h1 h2)
 refine ⟨fun h => ⟨n1 h, trivial⟩, fun h1 => ⟨fun h => ⟨n2 h, trivial⟩, fun h2 _ => ⟨fun h => ⟨n3 h, trivial⟩, fun h3 _ => ⟨?_, fun h => ⟨n4 h, trivial⟩, fun h4 hsm => ?_⟩⟩⟩⟩
 ·rw [ak] at *; omega
 have hbig : 0 <= st /\ st <= 2400 /\ d.len <= 1200 /\ st + d.len <= 2400 := by omega
 obtain ⟨J, hJ⟩ : ∃ J : Int -> Prop, J = fun i => 0 <= i /\ i <= d.len /\ ∀ k : Int, 0 <= k -> k < i -> 0 <= d.int k 0 /\ d.int k 0 <= 1099511627776 := ⟨_, rfl⟩
 obtain ⟨m, hm⟩ : ∃ m : Int -> Nat, m = fun i => (d.len - i).toNat := ⟨_, rfl⟩
 refine ⟨J, m, by rw [hJ]; exact ⟨Int.le_refl _, hd0, fun k h1 h2 => absurd h1 (by omega)⟩, fun i WJ hj => ?_⟩
 have hj' := hj
 rw [hJ] at hj'
 obtain ⟨hi0, hi1, hk⟩ := hj'
 have step : i < d.len -> 0 <= d.int i 0 -> d.int i 0 <= 1099511627776 -> Rng .i64 (i + 1) /\ J (i + 1) /\ m (i + 1) < m i := fun g1 g2 g3 => by
  rw [hJ, hm, ak]
  refine ⟨by omega, ⟨by omega, by omega, fun k h1 h2 => ?_⟩, ?_⟩
  ·by_cases e : k = i
   ·rw [e]; exact ⟨g2, g3⟩
   ·exact hk k h1 (by omega)
  ·show (d.len - (i + 1)).toNat < (d.len - i).toNat; omega
 have hend : ¬ i < d.len -> Yb d := fun h k h1 h2 => hk k h1 (by omega)
 have n6 := n6 i hi0
 exact ⟨fun hlt => ⟨hi0, hlt, fun hr => ⟨fun hneg => ⟨fun _ => ⟨n6 hlt (by omega), trivial⟩, fun hc => absurd hi0 hc⟩, fun hnn => ⟨fun hbg => ⟨fun _ => ⟨n6 hlt (by omega), trivial⟩, fun hc => absurd hi0 hc⟩, fun hnb => step hlt (by omega) (by omega)⟩⟩⟩,
  fun hge => ⟨fun h => absurd h (by decide), fun _ _ => ⟨fun h => alv hbig (hend hge) h, fun h => ⟨n5 h, trivial⟩⟩⟩⟩
theorem qO (f : Int -> Int) {i : Int} (h : 0 <= i) : sumTo f (i + 1).toNat = sumTo f i.toNat + f i := by
 have : (i + 1).toNat = i.toNat + 1 := by omega
 rw [this]
 simp only [sumTo]
 rw [Int.toNat_of_nonneg h]
theorem rO {f : Int -> Int} : ∀ {n : Nat}, (∀ i : Int, 0 <= i -> i < n -> -1099511627776 <= f i /\ f i <= 1099511627776) -> -(1099511627776 * (n : Int)) <= sumTo f n /\ sumTo f n <= 1099511627776 * (n : Int)
 | 0, _ => by simp [sumTo]
 | n + 1, h => by
  have h1 := rO (f := f) (n := n) (fun i h0 h1 => h i h0 (by omega))
  have h2 := h n (by omega) (by omega)
  simp only [sumTo]
  omega
theorem Gw {st n : Int} {p : Sl} {d0 i : Int} (h : mD st n p d0 i) : -1099511627776 <= p.int i 3 /\ p.int i 3 <= 1099511627776 := by
 have h := h.1.2
 omega
theorem yP {st n : Int} {p : Sl} {d0 i : Int} (h : mD st n p d0 i) : -1099511627776 <= jl p i /\ jl p i <= 1099511627776 := by
 have h := Gw h
 unfold jl
 split <;> omega
theorem ad9 {f : Int -> Int} {n : Nat} (hn : (n : Int) <= 4000) (hf : ∀ i : Int, 0 <= i -> i < n -> -1099511627776 <= f i /\ f i <= 1099511627776) {x i : Int} (h0 : 0 <= i) (h1 : i < n) (hx : x = sumTo f i.toNat) :
  Rng .i64 (x + f i) /\ Rng .i64 (i + 1) /\ x + f i = sumTo f (i + 1).toNat := by
 have e := qO f h0
 have hb := rO (f := f) (n := (i + 1).toNat) (fun k g0 g1 => hf k g0 (by omega))
 rw [e, <- hx] at hb
 refine ⟨?_, ?_, by rw [e, hx]⟩
 ·rw [ak]; omega
 ·rw [ak]; omega
theorem ES : Jq := by
 intro st _ d p mo _ hv hsm
 obtain ⟨hb, hd, hp, hf⟩ : au st d p := hv
 obtain ⟨f, hff⟩ : ∃ f : Int -> Int, f = fun i => if p.int i 1 = mo then jl p i else 0 := ⟨_, rfl⟩
 have hbound : ∀ i : Int, 0 <= i -> i < (p.n : Int) -> -1099511627776 <= f i /\ f i <= 1099511627776 := fun i h0 h1 => by
  have := yP (hf i h0 h1)
  rw [hff]
  show -1099511627776 <= (if p.int i 1 = mo then jl p i else 0) /\ (if p.int i 1 = mo then jl p i else 0) <= 1099511627776
  split <;> omega
 obtain ⟨J, hJ⟩ : ∃ J : Int -> Int -> Prop, J = fun x i => 0 <= i /\ i <= p.len /\ x = sumTo f i.toNat := ⟨_, rfl⟩
 obtain ⟨m, hm⟩ : ∃ m : Int -> Int -> Nat, m = fun _ i => (p.len - i).toNat := ⟨_, rfl⟩
 refine ⟨J, m, by rw [hJ]; exact ⟨Int.le_refl _, len0 p, rfl⟩, fun x hx i hi hj => ?_⟩
 rw [hJ] at hj
 obtain ⟨h0, h1, hxs⟩ := hj
 refine ⟨fun hlt => ⟨h0, hlt, fun _ _ _ _ => ?_⟩, fun hge => ?_⟩
 ·obtain ⟨s1, s2, s3⟩ := ad9 hp hbound h0 hlt hxs
  have hfi : f i = if p.int i 1 = mo then (if p.int i 2 = 3 then 0 else p.int i 3) else 0 := by rw [hff]; rfl
  have fin : ∀ y, f i = y -> Rng .i64 (x + y) /\ Rng .i64 (i + 1) /\ J (x + y) (i + 1) /\ m (x + y) (i + 1) < m x i := fun y hy => by
   rw [<- hy]
   refine ⟨s1, s2, ?_, ?_⟩
   ·rw [hJ]; exact ⟨by omega, by omega, s3⟩
   ·rw [hm]; show (p.len - (i + 1)).toNat < (p.len - i).toNat; omega
  refine ⟨fun h => fin 0 (by rw [hfi, if_neg h]), fun h => ⟨fun g => fin 0 ?_, fun g => fin _ ?_⟩⟩
  ·rw [hfi, if_pos (Classical.not_not.1 h), if_pos g]
  ·rw [hfi, if_pos (Classical.not_not.1 h), if_neg g]
 ·refine ⟨?_, trivial⟩
  have : i.toNat = p.n := by unfold Sl.len at *; omega
  rw [this] at hxs
  rw [hff] at hxs
  exact hxs
theorem En {st : Int} {d p : Sl} (hv : au st d p) (mo : Int) : -(1099511627776 * 4000) <= aO p mo /\ aO p mo <= 1099511627776 * 4000 := by
 have hp : (p.n : Int) <= 4000 := hv.2.2.1
 have := rO (f := fun i => if p.int i 1 = mo then jl p i else 0) (n := p.n) (fun i h0 h1 => by
  have := yP (hv.2.2.2 i h0 h1)
  show -1099511627776 <= (if p.int i 1 = mo then jl p i else 0) /\ (if p.int i 1 = mo then jl p i else 0) <= 1099511627776
  split <;> omega)
 unfold aO
 omega
theorem Nk : Tv := by
 intro st _ d p mo _ _
 refine ⟨trivial, fun b hb => ⟨fun hn => ⟨?_, trivial⟩, fun hn => ?_⟩⟩
 ·have : ¬ au st d p := fun hv => hn (by simpa using hb.2 hv)
  exact ⟨fun _ => ⟨rfl, rfl⟩, fun hv => absurd hv this⟩
 ·have hv : au st d p := hb.1 (by simpa using hn)
  refine ⟨⟨hv.1.1, hv.1.2.1, hv.1.2.2.1⟩, fun c hc => ⟨fun hn => ⟨?_, trivial⟩, fun hn => ?_⟩⟩
  ·have hm : ¬ oh st d mo := fun h => hn (by simpa using hc.2 h)
   exact ⟨fun h => absurd hv h, fun _ => ⟨fun _ => ⟨rfl, rfl⟩, fun h => absurd h hm⟩⟩
  ·have hm : oh st d mo := hc.1 (by simpa using hn)
   obtain ⟨hm1, hm2⟩ := hm
   have hb := hv.1
   have hdu := hv.2.1 (mo - st) (by omega) (by omega)
   refine ⟨by rw [ak]; omega, by omega, by omega, fun _ => ⟨hv, fun x _ hx => ⟨?_, ?_, trivial⟩⟩⟩
   ·have hx : x = aO p mo := hx
    have := En hv mo
    rw [ak]; omega
   ·have hx : x = aO p mo := hx
    exact ⟨fun h => absurd hv h, fun _ => ⟨fun h => absurd ⟨hm1, hm2⟩ h, fun _ => ⟨by rw [hx], rfl⟩⟩⟩
theorem nD (l : List (List D)) : (Sl.lit l).len = l.length := rfl
theorem uX {r : Sl} {i : Int} {j : Nat} (h : 0 <= i) : (Sl.app (Sl.lit []) r).int i j = r.int i j := by
 rw [aJ (by rw [nD]; simpa using h), nD]
 simp
theorem MJ (r : Sl) : (Sl.app (Sl.lit []) r).len = r.len := by rw [dO, nD]; simp
theorem Uz (d : Sl) : uO (Sl.app (Sl.lit []) d) d := ⟨MJ d, fun i h _ => uX h⟩
theorem Ol (d : Sl) : dY (Sl.app (Sl.lit []) d) d := ⟨MJ d, fun i h _ => ⟨uX h, uX h, uX h, uX h⟩⟩
theorem aa6 {d : Sl} (h : d.len <= 0) : uO Sl.nil d := ⟨by have := len0 d; rw [len_nil]; omega, fun i h0 h1 => by rw [len_nil] at h1; omega⟩
theorem Vq {d : Sl} (h : d.len <= 0) : dY Sl.nil d := ⟨by have := len0 d; rw [len_nil]; omega, fun i h0 h1 => by rw [len_nil] at h1; omega⟩
theorem bF : ∀ x : Int, -9223372036854775808 <= x /\ x <= 9223372036854775807 -> Rng .i64 x := fun _ h => h
theorem AB {s : Sl} : (Sl.part s 0 0).len = 0 := rfl
theorem ET : Jr := by
 intro s _ ⟨h2, ha, hb⟩ _
 have rs := bF
 obtain ⟨a, hA⟩ : ∃ a, a = s.sub 0 0 := ⟨_, rfl⟩
 obtain ⟨b, hB⟩ : ∃ b, b = s.sub 1 0 := ⟨_, rfl⟩
 rw [<- hA] at ha
 rw [<- hB] at hb
 have ha0 := len0 a
 have hb0 := len0 b
 have two : ∀ i : Int, 0 <= i -> i < s.len -> (i = 0 /\ s.sub i 0 = a) \/ (i = 1 /\ s.sub i 0 = b) := fun i h0 h1 => by
  have : i = 0 \/ i = 1 := by omega
  rcases this with rfl | rfl
  ·exact .inl ⟨rfl, hA.symm⟩
  ·exact .inr ⟨rfl, hB.symm⟩
 have second : ∀ z : Sl, z.len = 0 -> ∃ (J : Sl -> Int -> Prop) (M : Sl -> Int -> Nat), J z 0 /\ ∀ t : Sl, Ranged t [some .i64, some .i64, some .u8, some .i64] -> ∀ i : Int, Rng .i64 i -> J t i ->
   (i < s.len -> (0 : Int) <= i /\ i < s.len /\ (Ranged (s.sub i 0) [some .i64, some .i64, some .u8, some .i64] -> (t.len + (s.sub i 0).len) * 32 <= 140737488355328 /\ Rng .i64 (i + 1) /\ (J (Sl.app t (s.sub i 0)) (i + 1) /\ M (Sl.app t (s.sub i 0)) (i + 1) < M t i))) /\ (¬ i < s.len -> iH s t /\ True) := by
  intro z hz
  refine ⟨fun t i => 0 <= i /\ i <= 2 /\ (i = 0 -> t.len = 0) /\ (i = 1 -> dY t a) /\ (i = 2 -> behind a b t), fun _ i => (2 - i).toNat, ⟨Int.le_refl _, by omega, fun _ => hz, fun h => absurd h (by omega), fun h => absurd h (by omega)⟩, fun t _ i _ ⟨h0, h1, g0, g1, g2⟩ => ⟨fun hlt => ?_, fun hge => ⟨?_, trivial⟩⟩⟩
  ·rcases two i h0 hlt with ⟨rfl, e⟩ | ⟨rfl, e⟩
   ·rw [e]
    have ht := g0 rfl
    refine ⟨h0, hlt, fun _ => ⟨by omega, rs _ (by omega), ⟨by omega, by omega, fun h => absurd h (by omega), fun _ => ⟨by rw [dO]; omega, fun k k0 k1 => ?_⟩, fun h => absurd h (by omega)⟩, (by show (2 - ((0 : Int) + 1)).toNat < (2 - (0 : Int)).toNat; omega)⟩⟩
    have e1 : k - t.len = k := by omega
    unfold uP
    rw [aJ (by omega), aJ (by omega), aJ (by omega), aJ (by omega), e1]
    exact ⟨rfl, rfl, rfl, rfl⟩
   ·rw [e]
    obtain ⟨hl, ht⟩ := g1 rfl
    refine ⟨h0, hlt, fun _ => ⟨by omega, rs _ (by omega), ⟨by omega, by omega, fun h => absurd h (by omega), fun h => absurd h (by omega), fun _ => ⟨by rw [dO]; omega, fun k k0 k1 => ?_, fun k k0 k1 => ?_⟩⟩, (by show (2 - ((1 : Int) + 1)).toNat < (2 - (1 : Int)).toNat; omega)⟩⟩
    ·have := ht k k0 (by omega)
     unfold uP at this ⊢
     rw [bD k0 (by omega), bD k0 (by omega), bD k0 (by omega), bD k0 (by omega)]
     exact this
    ·have e1 : a.len + k - t.len = k := by omega
     unfold uP
     rw [aJ (by omega), aJ (by omega), aJ (by omega), aJ (by omega), e1]
     exact ⟨rfl, rfl, rfl, rfl⟩
  ·have : i = 2 := by omega
   show behind (s.sub 0 0) (s.sub 1 0) t
   rw [<- hA, <- hB]
   exact g2 this
 refine ⟨fun x i => 0 <= i /\ i <= 2 /\ 0 <= x /\ x <= 1000000 * i, fun _ i => (2 - i).toNat, ⟨Int.le_refl _, by omega, Int.le_refl _, by omega⟩, fun x _ i _ ⟨h0, h1, hx0, hx1⟩ => ⟨fun hlt => ⟨h0, hlt, fun _ _ => ?_⟩, fun hge => ⟨fun h => absurd h (by omega), fun _ => ?_⟩⟩⟩
 ·have hl : 0 <= (s.sub i 0).len /\ (s.sub i 0).len <= 1000000 := by
   rcases two i h0 hlt with ⟨_, e⟩ | ⟨_, e⟩ <;> rw [e] <;> exact ⟨by assumption, by assumption⟩
  refine ⟨rs _ (by omega), fun h => absurd h (by omega), fun _ => ⟨rs _ (by omega), ⟨by omega, by omega, by omega, by omega⟩, ?_⟩⟩
  show (2 - (i + 1)).toNat < (2 - i).toNat; omega
 ·refine ⟨rs _ (by omega), rs _ (by omega), fun hpos => ⟨by omega, by omega, by omega, by omega, by omega, by omega, by omega, ?_, fun _ => second _ rfl⟩, fun _ _ => second _ rfl⟩
  show (0 : Int) <= ((_ : Nat) : Int)
  exact Int.natCast_nonneg _
theorem JY (p q : Sl) : (Sl.lit [[(Sl.d p)], [(Sl.d q)]]).sub 0 0 = p := rfl
theorem JZ (p q : Sl) : (Sl.lit [[(Sl.d p)], [(Sl.d q)]]).sub 1 0 = q := rfl
theorem Nl : Tz := by
 intro st _ d p q hq
 have rs := bF
 have hd0 := len0 d
 have hp0 := len0 p
 have hq0 := len0 q
 have hq : q.len <= 1000000 := hq
 have bad : ¬ ng st d p q -> aU st d p q 0 Sl.nil Sl.nil 2 /\ True := fun h => ⟨⟨fun _ => ⟨rfl, rfl, rfl, rfl⟩, fun g => absurd g h⟩, trivial⟩
 have hc : ∀ (P' : Prop), p.len <= 4000 -> (P' -> True) -> jc (Sl.lit [[(Sl.d p)], [(Sl.d q)]]) := fun _ h _ => ⟨rfl, by rw [JY]; omega, by rw [JZ]; exact hq⟩
 have tail : ng st d p q -> p.len + q.len <= 4000 -> ∀ (d' : Sl), uO d' d -> jc (Sl.lit [[(Sl.d p)], [(Sl.d q)]]) /\ ∀ s7 : Sl, iH (Sl.lit [[(Sl.d p)], [(Sl.d q)]]) s7 -> aU st d p q st d' s7 0 /\ True := fun h1 h2 d' hd' => by
  refine ⟨⟨rfl, by rw [JY]; omega, by rw [JZ]; exact hq⟩, fun s hs => ⟨⟨fun h => absurd h1 h, fun _ => ⟨fun h => absurd h2 (by omega), fun _ => ⟨rfl, rfl, hd', ?_⟩⟩⟩, trivial⟩⟩
  have hs : behind ((Sl.lit [[(Sl.d p)], [(Sl.d q)]]).sub 0 0) ((Sl.lit [[(Sl.d p)], [(Sl.d q)]]).sub 1 0) s := hs
  rw [JY, JZ] at hs
  exact hs
 have e0 : (Sl.lit []).len = 0 := rfl
 have whole : ng st d p q -> p.len + q.len <= 4000 -> ∀ b6 : Bool, ((b6 = true -> d.len <= 0 -> jc (Sl.lit [[(Sl.d p)], [(Sl.d q)]]) /\ ∀ s7 : Sl, iH (Sl.lit [[(Sl.d p)], [(Sl.d q)]]) s7 -> aU st d p q st Sl.nil s7 0 /\ True) /\
   (¬ b6 = true -> (Sl.len (Sl.lit []) + d.len) * 8 <= 140737488355328 /\ jc (Sl.lit [[(Sl.d p)], [(Sl.d q)]]) /\ ∀ s7 : Sl, iH (Sl.lit [[(Sl.d p)], [(Sl.d q)]]) s7 -> aU st d p q st (Sl.app (Sl.lit []) d) s7 0 /\ True)) := fun h1 h2 b6 =>
  ⟨fun _ hz => tail h1 h2 _ (aa6 hz), fun _ => ⟨by have := h1.1.1; omega, tail h1 h2 _ (Uz d)⟩⟩
 have main : ∀ day : Int, day = lastDay p -> au st d p -> nX st d p q day /\ ∀ b5 : Bool, aH st d p q day (decide (b5 = true)) -> (¬ b5 = true -> aU st d p q 0 Sl.nil Sl.nil 2 /\ True) /\ (¬ ¬ b5 = true -> Small p -> Small q -> Rng .i64 (p.len + q.len) /\ (p.len + q.len > 4000 -> aU st d p q 0 Sl.nil Sl.nil 5 /\ True) /\ (¬ p.len + q.len > 4000 -> (ng st d p q /\ p.len + q.len <= 4000))) := fun day qR hv => by
  refine ⟨⟨hv.1.1, hv.1.2.1, hv.1.2.2.1⟩, fun b5 hb => ?_⟩
  have hp4 := hv.2.2.1
  have hb : b5 = true ↔ oV st d.len q day := by simpa [aH] using hb
  refine ⟨fun hn => bad fun h => hn (hb.2 (by rw [qR]; exact h.2)), fun hn _ _ => ?_⟩
  have hok : ng st d p q := ⟨hv, by rw [<- qR]; exact hb.1 (by simpa using hn)⟩
  refine ⟨rs _ (by omega), fun hgt => ⟨⟨fun h => absurd hok h, fun _ => ⟨fun _ => ⟨rfl, rfl, rfl, rfl⟩, fun h => absurd h (by omega)⟩⟩, trivial⟩, fun hle => ⟨hok, by omega⟩⟩
 refine ⟨trivial, fun b4 hb4 => ?_⟩
 have hb4 : b4 = true ↔ au st d p := by simpa [aZ] using hb4
 refine ⟨fun hn => bad fun h => hn (hb4.2 h.1), fun hn => ?_⟩
 have hv : au st d p := hb4.1 (by simpa using hn)
 have hp4 := hv.2.2.1
 refine fun _ => ⟨fun hpos => ⟨rs _ (by omega), by omega, by omega, fun _ => ?_⟩, fun hpos => ?_⟩
 ·obtain ⟨m1, m2⟩ := main (p.int (p.len - 1) 0) (by unfold lastDay; rw [if_pos hpos]) hv
  refine ⟨m1, fun b5 hb5 => ?_⟩
  obtain ⟨m3, m4⟩ := m2 b5 hb5
  refine ⟨m3, fun hn5 s1 s2 => ?_⟩
  obtain ⟨m5, m6, m7⟩ := m4 hn5 s1 s2
  exact ⟨m5, m6, fun hle => ⟨whole (m7 hle).1 (m7 hle).2, whole (m7 hle).1 (m7 hle).2⟩⟩
 ·obtain ⟨m1, m2⟩ := main 0 (by unfold lastDay; rw [if_neg hpos]) hv
  refine ⟨m1, fun b5 hb5 => ?_⟩
  obtain ⟨m3, m4⟩ := m2 b5 hb5
  refine ⟨m3, fun hn5 s1 s2 => ?_⟩
  obtain ⟨m5, m6, m7⟩ := m4 hn5 s1 s2
  exact ⟨m5, m6, fun hle => ⟨whole (m7 hle).1 (m7 hle).2, whole (m7 hle).1 (m7 hle).2⟩⟩
end Go.Sx.N.L
namespace Go.Sx.N
theorem Rz : Yf := L.Rz
theorem ER : Jo := L.ER
theorem I5 : N9 := L.I5
theorem ES : Jq := L.ES
theorem Nk : Tv := L.Nk
theorem ET : Jr := L.ET
theorem Nl : Tz := L.Nl
end Go.Sx.N
