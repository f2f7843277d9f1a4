/-
  Conditions of the tax's reference: the sum. Conditions: none.
  Conditions of the tax's reference, and of the scale of a year. Conditions: none.
-/
import Derived.Test.YtedajccdbdlaoaaGreatNumVR
import Derived.Test.YtedajccdbdlaoaaGreatTaxFa
set_option linter.unusedVariables false
set_option linter.unusedSimpArgs false
namespace Go.Sx.N

theorem small_sm {q : Rat} {a c : Bool} {b d : Sl} (h : IsQ q a b c d) (l1 : b.len ≤ 4) (l2 : d.len ≤ 4) : smF a b c d := ⟨h.lowF, by omega, by omega⟩

/-- What lies above a limit. -/
theorem above_eq {l : Sl} {m A i : Int} : ((A : Int) : Rat) - Rat.divInt (l.int i 0 * m) 12 = ((12 * A - l.int i 0 * m : Int) : Rat) / 12 := by
  rw [show ((12 : Int)) = 12 from rfl, Rat.divInt_eq_div, Rat.intCast_sub, Rat.intCast_mul 12 A]
  rw [show ((12 : Int) : Rat) = 12 from rfl]
  grind
theorem neg12 {x : Int} (h : x ≤ 0) : ((x : Int) : Rat) / 12 ≤ 0 := by
  have : ((x : Int) : Rat) ≤ 0 := Rat.intCast_le_intCast.2 h
  grind
theorem pos12 {x : Int} (h : ¬ ((x : Int) : Rat) / 12 ≤ 0) : 0 < x := by
  by_cases e : x ≤ 0
  · exact absurd (neg12 e) h
  · omega

def JT (l : Sl) (m A : Int) : Int → Bool → Sl → Bool → Sl → Prop := fun i a b c d => 0 ≤ i ∧ i ≤ l.len ∧ IsQ (TN l m A i.toNat / 12) a b c d
def MT (l : Sl) : Int → Bool → Sl → Bool → Sl → Nat := fun i _ _ _ _ => (l.len - i).toNat

theorem TN_fit {l : Sl} {m A : Int} (h : validS l) (hm : 1 ≤ m ∧ m ≤ 12) (hA : amt A) {i : Nat} (hi : (i : Int) ≤ l.len) : fitQ (TN l m A i / 12) :=
  (div12_bd (TN_bd' h hm hA hi)).fit (by decide) (by decide)

theorem taxed_core {l : Sl} {m A i : Int} (hp : p_taxed l m A) (i0 : 0 ≤ i) (i1 : i < l.len) {a c : Bool} {b d : Sl} (rb : Dig 65536 b) (rd : Dig 65536 d) (hJ : IsQ (TN l m A i.toNat / 12) a b c d)
    {p r : Bool} {q s : Sl} (rq' : Dig 65536 q) (rs : Dig 65536 s) (hq : q_rQuick (l.int i 0 * m) 12 p q r s) {p' r' : Bool} {q' s' : Sl} (hf : q_rFromInt2 A p' q' r' s') :
    V_taxed_3 l (JT l m A) (MT l) i a b c d p q r s p' q' r' s' := by
  simp only [V_taxed_3, Bool.decide_eq_true]
  have v := hp.1
  have len20 := v.1
  have hm := hp.2.1
  have hA := hp.2.2
  have ei : ((i.toNat : Nat) : Int) = i := by omega
  have nx : (i + 1).toNat = i.toNat + 1 := by omega
  have hms : (l.len - (i + 1)).toNat < (l.len - i).toNat := by omega
  have st : TN l m A (i.toNat + 1) = TN l m A i.toNat + (PI l m A i : Rat) * (N.rq l i - rp l i) := by simp only [TN, ei]
  have b1 := v.at i0 i1
  refine ⟨⟨small_sm hf.1 hf.2.1 hf.2.2, small_sm hq.1 hq.2.1 hq.2.2⟩, fun a1 x1 r1 a2 x2 r2 h1 => ⟨trivial, fun a3 x3 r3 a4 x4 r4 h0 => ?_⟩⟩
  have h1 : IsQ (fq p' q' s' - fq p q s) a1 x1 a2 x2 := h1
  rw [hf.1.fq, hq.1.fq, above_eq] at h1
  -- bounds of what lies above
  have f0 : 0 ≤ l.int i 0 * m := Int.mul_nonneg b1.1.1 (by omega)
  have f1 : l.int i 0 * m ≤ 1099511627776 * 12 := Int.mul_le_mul b1.1.2 hm.2 (by omega) (by decide)
  have hA' := hA
  unfold amt at hA'
  have lens : x1.len ≤ 4 ∧ x2.len ≤ 4 := by
    have e : ((12 * A - l.int i 0 * m : Int) : Rat) / 12 = Rat.divInt (12 * A - l.int i 0 * m) 12 := by rw [Rat.divInt_eq_div]; rfl
    have h2 := h1
    rw [e] at h2
    have p4 : (65536 : Int) ^ 4 = 18446744073709551616 := by decide
    exact h2.len_le (ranged16 r1) (ranged16 r2) (by decide) (k := 4) (by rw [p4]; omega) (by decide)
  have sm1 := small_sm h1 lens.1 lens.2
  refine ⟨⟨sm1, small_sm h0.1 h0.2.1 h0.2.2⟩, fun x _ hx => ?_⟩
  have hx : sgnQ (fq a1 x1 x2) (fq a3 x3 x4) x := hx
  rw [h1.fq, h0.1.fq] at hx
  refine ⟨fun hle => ?_, fun hgt => ⟨i0, i1, fun rr1 rr2 => ?_⟩⟩
  · have z := hx.le.1 hle
    have zn : 12 * A - l.int i 0 * m ≤ 0 := by
      by_cases e : 12 * A - l.int i 0 * m ≤ 0
      · exact e
      · have h3 : (0 : Int) < 12 * A - l.int i 0 * m := by omega
        have h4 : ((1 : Int) : Rat) ≤ ((12 * A - l.int i 0 * m : Int) : Rat) := Rat.intCast_le_intCast.2 h3
        rw [show ((1 : Int) : Rat) = 1 from rfl] at h4
        rw [show ((0 : Int) : Rat) = 0 from rfl] at z
        grind
    have pz : PI l m A i = 0 := by unfold PI; rw [if_pos zn]
    simp only [V_taxed_0, Bool.decide_eq_true]
    refine ⟨by rw [rng64]; omega, ⟨by omega, by omega, ?_⟩, hms⟩
    rw [nx, st, pz, show ((0 : Int) : Rat) = 0 from rfl]
    have : TN l m A i.toNat + 0 * (N.rq l i - rp l i) = TN l m A i.toNat := by grind
    rw [this]; exact hJ
  · have z : ¬ ((12 * A - l.int i 0 * m : Int) : Rat) / 12 ≤ 0 := fun k => hgt (hx.le.2 (by rw [show ((0 : Int) : Rat) = 0 from rfl]; exact k))
    have zp := pos12 z
    have pe : PI l m A i = 12 * A - l.int i 0 * m := by unfold PI; rw [if_neg (by omega)]
    have ok := (v.2.1 i i0 i1).2.1
    have rd1 := v.rd i0 i1
    have rfit : fitQ (N.rq l i - rp l i) := rd1.fit (by decide) (by decide)
    refine ⟨fun p q r s => IsQ (N.rq l i - rp l i) p q r s ∧ okF p q r s, ⟨fun hi => ?_, fun hi => ?_⟩, fun p q rq2 r s rs2 hj => ?_⟩
    · have body : V_taxed_1 l i (fun p q r s => IsQ (N.rq l i - rp l i) p q r s ∧ okF p q r s) := by
        simp only [V_taxed_1, Bool.decide_eq_true]
        intro _ _
        have ok' := (v.2.1 (i - 1) (by omega) (by omega)).2.1
        refine ⟨⟨ok.sm, ok'.sm⟩, fun p q r2 r s r3 h => ?_⟩
        have h : IsQ (N.rq l i - N.rq l (i - 1)) p q r s := h
        have e : rp l i = N.rq l (i - 1) := by unfold rp; rw [if_neg (by omega)]
        rw [← e] at h
        exact ⟨h, h.ok (ranged16 r2) (ranged16 r3) rfit⟩
      exact ⟨by rw [rng64]; omega, by omega, by omega, body, body⟩
    · have e0 : i = 0 := by omega
      have e : N.rq l i - rp l i = N.rq l i := by unfold rp; rw [if_pos e0]; grind
      rw [e]
      exact ⟨ok.isQ, ok⟩
    · have bS := TN_bd' (A := A) v hm hA (i := i.toNat) (by omega)
      have okS := hJ.ok rb rd (TN_fit v hm hA (by omega))
      have body : V_taxed_2 (JT l m A) (MT l) i a b c d a1 x1 a2 x2 p q r s := by
        simp only [V_taxed_2, Bool.decide_eq_true]
        refine ⟨⟨sm1, hj.2.sm⟩, fun a5 x5 r5 a6 x6 r6 h5 => ?_⟩
        have h5 : IsQ (fq a1 x1 x2 * fq p q s) a5 x5 a6 x6 := h5
        rw [h1.fq, hj.1.fq] at h5
        have pb := PI_bd (m := m) (A := A) v hm hA i0 i1
        have f5 : fitQ (((12 * A - l.int i 0 * m : Int) : Rat) / 12 * (N.rq l i - rp l i)) := by
          rw [← pe]
          exact ((div12_bd (Bd.int pb.1 pb.2)).mul rd1).fit (by decide) (by decide)
        have ok5 := h5.ok (ranged16 r5) (ranged16 r6) f5
        refine ⟨⟨okS.sm, ok5.sm⟩, fun a7 x7 r7 a8 x8 r8 h7 => ⟨by rw [rng64]; omega, ⟨by omega, by omega, ?_⟩, hms⟩⟩
        have h7 : IsQ (fq a b d + fq a5 x5 x6) a7 x7 a8 x8 := h7
        rw [hJ.fq, h5.fq, ← pe] at h7
        rw [nx, st]
        have e : TN l m A i.toNat / 12 + ((PI l m A i : Int) : Rat) / 12 * (N.rq l i - rp l i) = (TN l m A i.toNat + ((PI l m A i : Int) : Rat) * (N.rq l i - rp l i)) / 12 := by grind
        rw [← e]; exact h7
      exact ⟨body, body⟩

theorem taxed_ok : V_taxed := by
  intro l rl m _ A _ hp
  simp only [Bool.decide_eq_true]
  have v := hp.1
  have len20 := v.1
  have l0 := len0 l
  have hm := hp.2.1
  refine ⟨trivial, fun a0 b0 r0 c0 d0 r1 h0 => ⟨JT l m A, MT l, ⟨by omega, l0, ?_⟩, fun i _ a b rb c d rd hJ _ => ?_⟩⟩
  · have e : TN l m A (0 : Int).toNat / 12 = ((0 : Int) : Rat) := by
      show TN l m A 0 / 12 = ((0 : Int) : Rat)
      simp only [TN]; rw [show ((0 : Int) : Rat) = 0 from rfl]; grind
    rw [e]; exact h0.1
  obtain ⟨i0, i1, hJ⟩ := hJ
  refine ⟨fun hi => ⟨i0, hi, fun _ => ?_⟩, fun hi => ⟨?_, trivial⟩⟩
  · have b1 := (v.at i0 hi).1
    have f0 : 0 ≤ l.int i 0 * m := Int.mul_nonneg b1.1 (by omega)
    have f1 : l.int i 0 * m ≤ 1099511627776 * 12 := Int.mul_le_mul b1.2 hm.2 (by omega) (by decide)
    refine ⟨by rw [rng64]; omega, by show (12 : Int) ≠ 0; decide, fun p q rq' r s rs hq => ?_⟩
    have core : ∀ (p' : Bool) (q' : Sl) (r' : Bool) (s' : Sl), q_rFromInt2 A p' q' r' s' → V_taxed_3 l (JT l m A) (MT l) i a b c d p q r s p' q' r' s' :=
      fun p' q' r' s' hf => taxed_core hp i0 hi (ranged16 rb) (ranged16 rd) hJ (ranged16 rq') (ranged16 rs) hq hf
    exact ⟨⟨trivial, fun p' q' _ r' s' _ hf => ⟨core p' q' r' s' hf, core p' q' r' s' hf⟩⟩, trivial, fun p' q' _ r' s' _ hf => core p' q' r' s' hf⟩
  · have e : i = l.len := by omega
    subst e
    exact ⟨hJ, hJ.ok (ranged16 rb) (ranged16 rd) (TT_fit v hm hp.2.2)⟩

end Go.Sx.N

namespace Go.Sx.N

theorem rFromInt_ok {n : Int} {a c : Bool} {b d : Sl} (h : q_rFromInt2 n a b c d) : okF a b c d := ⟨h.1.lowF, by have := h.2.1; omega, by have := h.2.2; omega⟩
/-- A denominator over one. -/
theorem den_over {a c n2 : Bool} {b d s1 : Sl} {n1 : Bool} {s2 : Sl} (rd : Dig 65536 d) (r1 : Dig 65536 s1) (h : okF a b c d) (h1 : q_rFromInt2 1 n1 s1 n2 s2) :
    IsQ (((fq a b d).den : Int) : Rat) c d n1 s1 ∧ okF c d n1 s1 := by
  have z1 : zv n1 s1 = 1 := by rw [h1.1.2.1]; rfl
  have q := isQ_int (n := ((fq a b d).den : Int)) r1 h.isQ.nwd h.isQ.zd h1.1.1 z1
  exact ⟨q, q.lowF, h.2.2, by have := h1.2.1; omega⟩

theorem xValid_ok : V_xValid := by
  intro l rl _
  simp only [Bool.decide_eq_true]
  have l0 := len0 l
  have no : ¬ validS l → q_xValid l (decide False) ∧ True := fun h => ⟨by simp only [q_xValid, decide_false, Bool.false_eq_true, false_iff]; exact h, trivial⟩
  refine fun _ => ⟨fun h => no fun hk => by have := hk.1; omega, fun hlen => ⟨fun i => 0 ≤ i ∧ i ≤ l.len ∧ (∀ k : Int, 0 ≤ k → k < i → okB l k) ∧ (∀ k : Int, 1 ≤ k → k < i → okP l k), fun i => (l.len - i).toNat, ⟨by omega, by omega, fun k _ _ => by omega, fun k _ _ => by omega⟩, fun i _ hJ sm => ?_⟩⟩
  obtain ⟨i0, i1, hk, hp⟩ := hJ
  refine ⟨fun hi => ⟨i0, hi, fun _ rb' rd' => ⟨fun h => no fun hv => ?_, fun h1 => ⟨fun h => no fun hv => ?_, fun h2 => ⟨trivial, fun v hv => ⟨fun h => no fun hs => ?_, fun h => ⟨trivial, fun n1 s1 r1 n2 s2 r2 h0 => ⟨trivial, fun x _ hx => ⟨fun g => no fun hs => ?_, fun g1 => ⟨trivial, fun m1 t1 r3 m2 t2 r4 g0 => ⟨trivial, fun y _ hy => ⟨fun g => no fun hs => ?_, fun g2 => ⟨trivial, fun n3 s3 r5 n4 s4 r6 f1 => ⟨trivial, fun n5 s5 r7 n6 s6 r8 fm => ⟨trivial, fun z _ hz => ⟨fun g => no fun hs => ?_, fun g3 => ?_⟩⟩⟩⟩⟩⟩⟩⟩⟩⟩⟩⟩⟩⟩⟩, fun hi => ⟨?_, trivial⟩⟩
  · have := (hv.2.1 i i0 hi).1; omega
  · have := (hv.2.1 i i0 hi).1; omega
  · exact h (hv.2 (hs.2.1 i i0 hi).2.1)
  · have b := hs.2.1 i i0 hi
    have s := hx.1 ⟨b.2.1, rFromInt_ok h0⟩
    rw [h0.1.fq] at s
    have := s.ge.2 (by rw [show ((0 : Int) : Rat) = 0 from rfl]; exact b.2.2.1)
    omega
  · have b := hs.2.1 i i0 hi
    have s := hy.1 ⟨b.2.1, rFromInt_ok g0⟩
    rw [g0.1.fq] at s
    have := s.le.2 (by rw [show ((1 : Int) : Rat) = 1 from rfl]; exact b.2.2.2.1)
    omega
  · have b := hs.2.1 i i0 hi
    have o := den_over (ranged16 rd') (ranged16 r5) b.2.1 f1
    have s := hz.1 ⟨o.2, rFromInt_ok fm⟩
    rw [o.1.fq, fm.1.fq] at s
    have := s.le.2 (Rat.intCast_le_intCast.2 b.2.2.2.2)
    omega
  · have ok := hv.1 (Classical.not_not.1 h)
    have s1 := hx.1 ⟨ok, rFromInt_ok h0⟩
    rw [h0.1.fq] at s1
    have k1 := s1.ge.1 (by omega)
    have s2 := hy.1 ⟨ok, rFromInt_ok g0⟩
    rw [g0.1.fq] at s2
    have k2 := s2.le.1 (by omega)
    have o := den_over (ranged16 rd') (ranged16 r5) ok f1
    have s3 := hz.1 ⟨o.2, rFromInt_ok fm⟩
    rw [o.1.fq, fm.1.fq] at s3
    have k3 := Rat.intCast_le_intCast.1 (s3.le.1 (by omega))
    have b : okB l i := ⟨⟨by omega, by omega⟩, ok, k1, k2, k3⟩
    have hk' : ∀ k : Int, 0 ≤ k → k < i + 1 → okB l k := by
      intro k k0 k1
      by_cases e : k = i
      · subst e; exact b
      · exact hk k k0 (by omega)
    have hms : (l.len - (i + 1)).toNat < (l.len - i).toNat := by omega
    refine ⟨fun hpos => ⟨by rw [rng64]; omega, by omega, by omega, fun _ => ⟨fun hge => no fun hs => ?_, fun hlt => ⟨by rw [rng64]; omega, by omega, by omega, fun _ _ => ⟨trivial, fun w _ hw => ⟨fun g => no fun hs => ?_, fun g => ⟨by rw [rng64]; omega, ⟨by omega, by omega, hk', ?_⟩, hms⟩⟩⟩⟩⟩⟩, fun hz0 => ⟨by rw [rng64]; omega, ⟨by omega, by omega, hk', fun k _ _ => by omega⟩, hms⟩⟩
    · have := (hs.2.2 i (by omega) hi).1; omega
    · have s := hw.1 ⟨(hk (i - 1) (by omega) (by omega)).2.1, ok⟩
      have := s.le.2 (hs.2.2 i (by omega) hi).2
      omega
    · have s := hw.1 ⟨(hk (i - 1) (by omega) (by omega)).2.1, ok⟩
      intro k k0 k1
      by_cases e : k = i
      · subst e; exact ⟨by omega, s.le.1 (by omega)⟩
      · exact hp k k0 (by omega)
  · simp only [q_xValid, decide_true, true_iff]
    exact ⟨by omega, fun k k0 k1 => hk k k0 (by omega), fun k k0 k1 => hp k k0 (by omega)⟩

theorem xTax_ok : V_xTax := by
  intro l _ A _ _
  simp only [Bool.decide_eq_true]
  have no : ¬ (validS l ∧ amt A) → q_xTax l A (decide False) Sl.nil (decide False) Sl.nil 2 ∧ True := fun h => ⟨⟨fun k => absurd k h, fun _ => ⟨⟨rfl, rfl, rfl, rfl⟩, rfl⟩⟩, trivial⟩
  refine ⟨trivial, fun v hv => ⟨fun h => no fun k => h (hv.2 k.1), fun h => ⟨fun g => no fun k => by have := k.2.1; omega, fun g1 => ⟨fun g => no fun k => by have := k.2.2; omega, fun g2 => ?_⟩⟩⟩⟩
  have k1 := hv.1 (Classical.not_not.1 h)
  have k2 : amt A := ⟨by omega, by omega⟩
  exact ⟨⟨k1, ⟨by decide, by decide⟩, k2⟩, fun a b _ c d _ hq => ⟨⟨fun _ => ⟨hq.1, hq.2, rfl⟩, fun k => absurd ⟨k1, k2⟩ k⟩, trivial⟩⟩

theorem xDue_ok : V_xDue := by
  intro l _ m _ A _ _
  simp only [Bool.decide_eq_true]
  have no : ¬ (validS l ∧ (1 ≤ m ∧ m ≤ 12) ∧ amt A) → q_xDue l m A 0 2 ∧ True := fun h => ⟨⟨fun k => absurd k h, fun _ => ⟨rfl, rfl⟩⟩, trivial⟩
  refine ⟨trivial, fun v hv => ⟨fun h => no fun k => h (hv.2 k.1), fun h => ⟨fun g => no fun k => by omega, fun g1 => ⟨fun g => no fun k => by omega, fun g2 => ⟨fun g => no fun k => by have := k.2.2.1; omega, fun g3 => ⟨fun g => no fun k => by have := k.2.2.2; omega, fun g4 => ?_⟩⟩⟩⟩⟩⟩
  have k1 := hv.1 (Classical.not_not.1 h)
  have k2 : amt A := ⟨by omega, by omega⟩
  have hm : 1 ≤ m ∧ m ≤ 12 := ⟨by omega, by omega⟩
  refine ⟨⟨k1, hm, k2⟩, fun a b rb c d rd hq => ⟨trivial, fun n s rs x _ hx => ⟨trivial, fun n1 s1 r1 n2 s2 r2 h1 => ⟨trivial, fun y _ z _ hy => ⟨⟨fun _ => ?_, fun k => absurd ⟨k1, hm, k2⟩ k⟩, trivial⟩⟩⟩⟩⟩
  have f := hx.1 hq.2
  rw [hq.1.fq] at f
  have z1 : zv n1 s1 = 1 := by rw [h1.1.2.1]; rfl
  have q := isQ_int (n := (TT l m A).floor) (ranged16 r1) f.1 f.2.1 h1.1.1 z1
  have rg := TT_range (A := A) k1 hm k2
  have ok := q.ok (ranged16 rs) (ranged16 r1) ((Bd.int rg.1 rg.2).fit (by decide) (by decide))
  have h2 := hy.2 ok
  rw [q.fq] at h2
  have h3 := (h2.2 (Rat.den_intCast _)).1 (by rw [Rat.num_intCast]; unfold inI64; omega)
  rw [Rat.num_intCast] at h3
  exact ⟨h3.1, rfl⟩

theorem xScale_ok : V_xScale := by
  intro y ry year _ _
  simp only [Bool.decide_eq_true]
  have l0 := len0 y
  have no : ¬ validY y → q_xScale y year Sl.nil 2 ∧ True := fun h => ⟨⟨fun _ => ⟨rfl, rfl⟩, fun k => absurd k h, fun k => absurd k h⟩, trivial⟩
  let J : Int → Int → Prop := fun at_ i => 0 ≤ i ∧ i ≤ y.len ∧ -1 ≤ at_ ∧ at_ < i ∧ (∀ k : Int, 0 ≤ k → k < i → validS (y.sub k 1)) ∧ (∀ k : Int, 1 ≤ k → k < i → y.int (k - 1) 0 < y.int k 0) ∧
      (∀ k : Int, at_ < k → k < i → year < y.int k 0) ∧ (0 ≤ at_ → y.int at_ 0 ≤ year)
  refine ⟨J, fun _ i => (y.len - i).toNat, ⟨by omega, by omega, by omega, by omega, fun k _ _ => by omega, fun k _ _ => by omega, fun k _ _ => by omega, fun h => by omega⟩, fun at_ _ i _ hJ sm => ?_⟩
  have := small64 sm
  obtain ⟨i0, i1, a0, a1, hv, hp, hn, ha⟩ := hJ
  have next : i < y.len → validS (y.sub i 1) → (1 ≤ i → y.int (i - 1) 0 < y.int i 0) →
      ((y.int i 0 ≤ year → Rng .i64 (i + 1) ∧ J i (i + 1) ∧ (y.len - (i + 1)).toNat < (y.len - i).toNat) ∧ (¬ (y.int i 0 ≤ year) → Rng .i64 (i + 1) ∧ J at_ (i + 1) ∧ (y.len - (i + 1)).toNat < (y.len - i).toNat)) := by
    intro hi vs hr
    have v' : ∀ k : Int, 0 ≤ k → k < i + 1 → validS (y.sub k 1) := fun k k0 k1 => by
      by_cases e : k = i
      · subst e; exact vs
      · exact hv k k0 (by omega)
    have p' : ∀ k : Int, 1 ≤ k → k < i + 1 → y.int (k - 1) 0 < y.int k 0 := fun k k0 k1 => by
      by_cases e : k = i
      · subst e; exact hr k0
      · exact hp k k0 (by omega)
    refine ⟨fun h => ⟨by rw [rng64]; omega, ⟨by omega, by omega, by omega, by omega, v', p', fun k _ _ => by omega, fun _ => h⟩, by omega⟩, fun h => ⟨by rw [rng64]; omega, ⟨by omega, by omega, by omega, by omega, v', p', fun k k0 k1 => ?_, ha⟩, by omega⟩⟩
    by_cases e : k = i
    · subst e; omega
    · exact hn k k0 (by omega)
  refine ⟨fun hi => ⟨i0, hi, fun _ => ⟨trivial, fun v hvv => ⟨fun h => no fun hs => h (hvv.2 (hs.1 i i0 hi)), fun h => ⟨fun hpos => ⟨by rw [rng64]; omega, by omega, by omega, fun _ => ⟨i0, hi, fun _ => ⟨fun hge => no fun hs => ?_, fun hlt => ⟨i0, hi, fun _ => next hi (hvv.1 (Classical.not_not.1 h)) fun _ => by omega⟩⟩⟩⟩, fun hz => ⟨i0, hi, fun _ => next hi (hvv.1 (Classical.not_not.1 h)) fun _ => by omega⟩⟩⟩⟩⟩, fun hi => ?_⟩
  · have := hs.2 i (by omega) hi; omega
  · have e : i = y.len := by omega
    subst e
    have vy : validY y := ⟨hv, hp⟩
    refine ⟨fun h => ⟨⟨fun k => absurd vy k, fun _ _ => ⟨rfl, rfl⟩, fun _ j hj => ?_⟩, trivial⟩, fun h => ⟨by omega, a1, fun _ => ⟨⟨fun k => absurd vy k, fun _ hno => ?_, fun _ j hj => ⟨?_, rfl⟩⟩, trivial⟩⟩⟩
    · exact (hj.no fun k k0 k1 => hn k (by omega) k1).elim
    · have := hno at_ (by omega) a1; have := ha (by omega); omega
    · have : j = at_ := hj.uniq ⟨by omega, a1, ha (by omega), hn⟩
      rw [this]

end Go.Sx.N
