/-
 short, first and amount. Conditions: none.
-/
import Derived.Test.YtmhhcnaflklapaaGreatNumVI
import Derived.Test.YtmhhcnaflklapaaGreatArrFa
set_option linter.unusedVariables false
set_option linter.unusedSimpArgs false
namespace Go.Sx.N
theorem aShort_ok : V_aShort := by
 intro a b _ c d _ _ _
 refine ⟨fun h _ => ⟨?_, trivial⟩, fun h => ⟨?_, trivial⟩⟩
 ·show decide (d.len <= 120) = true ↔ _
  rw [decide_eq_true_iff]
  exact ⟨fun g => ⟨h, g⟩, fun g => g.2⟩
 ·show decide False = true ↔ _
  exact ⟨fun g => absurd g (by decide), fun g => absurd g.1 h⟩
theorem aFirst_ok : V_aFirst := by
 intro s _ _ sm
 have s0 := len0 s
 have sm : s.n <= 140737488355328 := sm
 refine ⟨fun i => 0 <= i /\ i <= s.len /\ ∀ j : Int, 0 <= j -> j < i -> s.int j 0 = 0, fun i => (s.len - i).toNat, ⟨Int.le_refl _, s0, fun j j0 j1 => by omega⟩, fun i ri ⟨i0, i1, hz⟩ => ⟨fun hi => ⟨i0, hi, fun _ => ⟨fun h => ⟨.inl ⟨i, i0, hi, rfl, h, hz⟩, trivial⟩, fun h => ⟨?_, ⟨by omega, by omega, fun j j0 j1 => ?_⟩, ?_⟩⟩⟩, fun hi => ⟨.inr ⟨rfl, fun j j0 j1 => hz j j0 (by omega)⟩, trivial⟩⟩⟩
 ·have : s.len = (s.n : Int) := rfl
  rw [rng64]; omega
 ·by_cases e : j = i
  ·subst e; exact Classical.not_not.1 h
  ·exact hz j j0 (by omega)
 ·show (s.len - (i + 1)).toNat < (s.len - i).toNat
  omega
theorem floor_ge {q : Rat} (h : q.floor < 0) : q.num <= q.floor := by
 have e := Int.mul_ediv_add_emod q.num q.den
 have dp : (0 : Int) < q.den := by have := q.den_pos; omega
 have r0 := Int.emod_nonneg q.num (show (q.den : Int) ≠ 0 by omega)
 have r1 := Int.emod_lt_of_pos q.num dp
 have f : q.floor = q.num / q.den := floor_of (by omega) r0 r1
 rw [f] at h ⊢
 generalize q.num / (q.den : Int) = k at *
 have m := Int.mul_le_mul_of_nonneg_left (show k <= -1 by omega) (show (0 : Int) <= (q.den : Int) - 1 by omega)
 rw [Int.sub_mul] at m
 omega
theorem round_fit {q : Rat} (hq : fitQ q) (h : roundQ q 5 < 0) : fitQ ((roundQ q 5 : Int) : Rat) := by
 have a : q.floor <= roundQ q 5 := by
  unfold roundQ
  rw [if_neg (by decide)]
  split <;> omega
 have b := floor_ge (q := q) (by omega)
 have c := hq.1
 refine ⟨?_, ?_⟩
 ·rw [Rat.num_intCast]; omega
 ·rw [Rat.den_intCast]
  have := hq.2
  have := q.den_pos
  omega
theorem int_fitA {n : Int} (h : n.natAbs < 65536 ^ 8) : fitQ (n : Rat) := by
 have c : cap256 = ((65536 ^ 256 : Nat) : Int) := by rw [cap256_eq]; exact (Int.natCast_pow 65536 256).symm
 refine ⟨?_, ?_⟩
 ·rw [Rat.num_intCast, c]
  exact Int.ofNat_lt.2 (Nat.lt_trans h (by decide +kernel))
 ·rw [Rat.den_intCast, c]
  exact Int.ofNat_lt.2 (by decide +kernel)
theorem amt_core {a c : Bool} {b d : Sl} {n1 n2 : Bool} {l1 l2 : Sl} (rb : Ranged b [some .u16]) (rd : Ranged d [some .u16]) (h1 : q_fFromInt 1 n1 l1 n2 l2) : V_aAmount_0 a b c d n1 l1 n2 l2 := by
 unfold V_aAmount_0
 simp only [Bool.decide_eq_true]
 have i1 : IsQ 1 n1 l1 n2 l2 := h1.1
 refine ⟨⟨i1, by have := h1.2.1; omega, by have := h1.2.2; omega, .inr rfl⟩, fun rn rl rrl rd' rk rrk e _ hr => ?_⟩
 by_cases ok : okF a b c d
 ·obtain ⟨q, hq⟩ : ∃ q, q = fq a b d := ⟨_, rfl⟩
  have fq' : fitQ q := by
   have := (ok.isQ.fit (ranged16 rb) (ranged16 rd)).1 ⟨ok.2.1, ok.2.2⟩
   rw [hq]; exact this
  have r := hr.1 ok
  rw [<- hq] at r
  have ans : ∀ {v e : Int}, amtS q v e -> q_aAmount a b c d v e /\ True := fun h => ⟨⟨fun _ => by rw [<- hq]; exact h, fun k => absurd ok k⟩, trivial⟩
  by_cases hf : fitQ ((roundQ q 5 : Int) : Rat)
  ·obtain ⟨iR, e0⟩ := r.1 hf
   have oR := iR.ok (ranged16 rrl) (ranged16 rrk) hf
   refine ⟨fun h => absurd e0 h, fun _ => ⟨trivial, fun zn zl rzl zd zk rzk hz => ⟨trivial, fun x _ hx => ?_⟩⟩⟩
   have iz : IsQ ((0 : Int) : Rat) zn zl zd zk := hz.1
   have oz := iz.ok (ranged16 rzl) (ranged16 rzk) (int_fitA (by decide))
   have sx := hx.1 ⟨oR, oz⟩
   rw [iR.fq, iz.fq] at sx
   unfold sgnQ at sx
   rw [Rat.intCast_lt_intCast, Rat.intCast_lt_intCast, Rat.intCast_inj] at sx
   refine ⟨fun h => ans ⟨fun _ => ⟨rfl, rfl⟩, fun k => by omega, fun k => by omega⟩, fun hx0 => ⟨trivial, fun mn ml rml md mk rmk hm => ⟨trivial, fun y _ hy => ?_⟩⟩⟩
   have im : IsQ ((1099511627776 : Int) : Rat) mn ml md mk := hm.1
   have om := im.ok (ranged16 rml) (ranged16 rmk) (int_fitA (by decide))
   have sy := hy.1 ⟨oR, om⟩
   rw [iR.fq, im.fq] at sy
   unfold sgnQ at sy
   rw [Rat.intCast_lt_intCast, Rat.intCast_lt_intCast, Rat.intCast_inj] at sy
   refine ⟨fun h => ans ⟨fun k => by omega, fun _ => ⟨rfl, rfl⟩, fun _ k => by omega⟩, fun hy0 => ⟨trivial, fun v _ e' _ hv => ?_⟩⟩
   have hv := (hv.2 oR).2
   rw [iR.fq, Rat.den_intCast, Rat.num_intCast] at hv
   have hv := (hv rfl).1 ⟨by omega, by omega⟩
   exact ans ⟨fun k => by omega, fun k => by omega, fun _ _ => hv⟩
  ·obtain ⟨z, e3⟩ := r.2 hf
   refine ⟨fun _ => ans ⟨fun k => absurd (round_fit fq' k) hf, fun _ => ⟨rfl, e3⟩, fun k1 k2 => absurd (int_fitA ?_) hf⟩, fun h => by omega⟩
   have : (roundQ q 5).natAbs <= 1099511627776 := by omega
   exact Nat.lt_of_le_of_lt this (by decide)
 ·obtain ⟨z, e2⟩ := hr.2 ok
  exact ⟨fun _ => ⟨⟨fun k => absurd k ok, fun _ => ⟨rfl, e2⟩⟩, trivial⟩, fun h => by omega⟩
theorem aAmount_ok : V_aAmount := by
 intro a b rb c d rd _
 simp only [Bool.decide_eq_true]
 exact ⟨⟨trivial, fun n1 l1 _ n2 l2 _ h1 => ⟨amt_core rb rd h1, amt_core rb rd h1⟩⟩, trivial, fun n1 l1 _ n2 l2 _ h1 => amt_core rb rd h1⟩
end Go.Sx.N
