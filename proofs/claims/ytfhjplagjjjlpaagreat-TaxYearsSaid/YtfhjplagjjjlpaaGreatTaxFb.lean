/-
 Conditions of the tax's reference: the sum. Conditions: none.
 Conditions of the tax's reference, and of the scale of a year. Conditions: none.
-/
import Derived.Test.YtfhjplagjjjlpaaGreatNumVR
import Derived.Test.YtfhjplagjjjlpaaGreatTaxFa
set_option linter.unusedVariables false
set_option linter.unusedSimpArgs false
namespace Go.Sx.N
end Go.Sx.N
namespace Go.Sx.N
theorem rFromInt_ok {n : Int} {a c : Bool} {b d : Sl} (h : q_rFromInt2 n a b c d) : okF a b c d := ⟨h.1.lowF, by have := h.2.1; omega, by have := h.2.2; omega⟩
theorem den_over {a c n2 : Bool} {b d s1 : Sl} {n1 : Bool} {s2 : Sl} (rd : Dig 65536 d) (r1 : Dig 65536 s1) (h : okF a b c d) (h1 : q_rFromInt2 1 n1 s1 n2 s2) :
  IsQ (((fq a b d).den : Int) : Rat) c d n1 s1 /\ okF c d n1 s1 := by
 have z1 : zv n1 s1 = 1 := by rw [h1.1.2.1]; rfl
 have q := isQ_int (n := ((fq a b d).den : Int)) r1 h.isQ.nwd h.isQ.zd h1.1.1 z1
 exact ⟨q, q.lowF, h.2.2, by have := h1.2.1; omega⟩
theorem xValid_ok : V_xValid := by
 intro l rl _
 simp only [Bool.decide_eq_true]
 have l0 := len0 l
 have no : ¬ validS l -> q_xValid l (decide False) /\ True := fun h => ⟨by simp only [q_xValid, decide_false, Bool.false_eq_true, false_iff]; exact h, trivial⟩
 refine fun _ => ⟨fun h => no fun hk => by have := hk.1; omega, fun hlen => ⟨fun i => 0 <= i /\ i <= l.len /\ (∀ k : Int, 0 <= k -> k < i -> okB l k) /\ (∀ k : Int, 1 <= k -> k < i -> okP l k), fun i => (l.len - i).toNat, ⟨by omega, by omega, fun k _ _ => by omega, fun k _ _ => by omega⟩, fun i _ hJ sm => ?_⟩⟩
 obtain ⟨i0, i1, hk, hp⟩ := hJ
 refine ⟨fun hi => ⟨i0, hi, fun _ rb' rd' => ⟨fun h => no fun hv => ?_, fun h1 => ⟨fun h => no fun hv => ?_, fun h2 => ⟨trivial, fun v hv => ⟨fun h => no fun hs => ?_, fun h => ⟨trivial, fun n1 s1 r1 n2 s2 r2 h0 => ⟨trivial, fun x _ hx => ⟨fun g => no fun hs => ?_, fun g1 => ⟨trivial, fun m1 t1 r3 m2 t2 r4 g0 => ⟨trivial, fun y _ hy => ⟨fun g => no fun hs => ?_, fun g2 => ⟨trivial, fun n3 s3 r5 n4 s4 r6 f1 => ⟨trivial, fun n5 s5 r7 n6 s6 r8 fm => ⟨trivial, fun z _ hz => ⟨fun g => no fun hs => ?_, fun g3 => ?_⟩⟩⟩⟩⟩⟩⟩⟩⟩⟩⟩⟩⟩⟩⟩, fun hi => ⟨?_, trivial⟩⟩
 ·have := (hv.2.1 i i0 hi).1; omega
 ·have := (hv.2.1 i i0 hi).1; omega
 ·exact h (hv.2 (hs.2.1 i i0 hi).2.1)
 ·have b := hs.2.1 i i0 hi
  have s := hx.1 ⟨b.2.1, rFromInt_ok h0⟩
  rw [h0.1.fq] at s
  have := s.ge.2 (by rw [show ((0 : Int) : Rat) = 0 from rfl]; exact b.2.2.1)
  omega
 ·have b := hs.2.1 i i0 hi
  have s := hy.1 ⟨b.2.1, rFromInt_ok g0⟩
  rw [g0.1.fq] at s
  have := s.le.2 (by rw [show ((1 : Int) : Rat) = 1 from rfl]; exact b.2.2.2.1)
  omega
 ·have b := hs.2.1 i i0 hi
  have o := den_over (ranged16 rd') (ranged16 r5) b.2.1 f1
  have s := hz.1 ⟨o.2, rFromInt_ok fm⟩
  rw [o.1.fq, fm.1.fq] at s
  have := s.le.2 (Rat.intCast_le_intCast.2 b.2.2.2.2)
  omega
 ·have ok := hv.1 (Classical.not_not.1 h)
  have s1 := hx.1 ⟨ok, rFromInt_ok h0⟩
  rw [h0.1.fq] at s1
  have k1 := s1.ge.1 (by omega)
  have s2 := hy.1 ⟨ok, rFromInt_ok g0⟩
  rw [g0.1.fq] at s2
  have k2 := s2.le.1 (by omega)
  have o := den_over (ranged16 rd') (ranged16 r5) ok f1
  have s3 := hz.1 ⟨o.2, rFromInt_ok fm⟩
  rw [o.1.fq, fm.1.fq] at s3
  have k3 := Rat.intCast_le_intCast.1 (s3.le.1 (by omega))
  have b : okB l i := ⟨⟨by omega, by omega⟩, ok, k1, k2, k3⟩
  have hk' : ∀ k : Int, 0 <= k -> k < i + 1 -> okB l k := by
   intro k k0 k1
   by_cases e : k = i
   ·subst e; exact b
   ·exact hk k k0 (by omega)
  have hms : (l.len - (i + 1)).toNat < (l.len - i).toNat := by omega
  refine ⟨fun hpos => ⟨by rw [rng64]; omega, by omega, by omega, fun _ => ⟨fun hge => no fun hs => ?_, fun hlt => ⟨by rw [rng64]; omega, by omega, by omega, fun _ _ => ⟨trivial, fun w _ hw => ⟨fun g => no fun hs => ?_, fun g => ⟨by rw [rng64]; omega, ⟨by omega, by omega, hk', ?_⟩, hms⟩⟩⟩⟩⟩⟩, fun hz0 => ⟨by rw [rng64]; omega, ⟨by omega, by omega, hk', fun k _ _ => by omega⟩, hms⟩⟩
  ·have := (hs.2.2 i (by omega) hi).1; omega
  ·have s := hw.1 ⟨(hk (i - 1) (by omega) (by omega)).2.1, ok⟩
   have := s.le.2 (hs.2.2 i (by omega) hi).2
   omega
  ·have s := hw.1 ⟨(hk (i - 1) (by omega) (by omega)).2.1, ok⟩
   intro k k0 k1
   by_cases e : k = i
   ·subst e; exact ⟨by omega, s.le.1 (by omega)⟩
   ·exact hp k k0 (by omega)
 ·simp only [q_xValid, decide_true, true_iff]
  exact ⟨by omega, fun k k0 k1 => hk k k0 (by omega), fun k k0 k1 => hp k k0 (by omega)⟩
theorem xScale_ok : V_xScale := by
 intro y ry year _ _
 simp only [Bool.decide_eq_true]
 have l0 := len0 y
 have no : ¬ validY y -> q_xScale y year Sl.nil 2 /\ True := fun h => ⟨⟨fun _ => ⟨rfl, rfl⟩, fun k => absurd k h, fun k => absurd k h⟩, trivial⟩
 let J : Int -> Int -> Prop := fun at_ i => 0 <= i /\ i <= y.len /\ -1 <= at_ /\ at_ < i /\ (∀ k : Int, 0 <= k -> k < i -> validS (y.sub k 1)) /\ (∀ k : Int, 1 <= k -> k < i -> y.int (k - 1) 0 < y.int k 0) /\
   (∀ k : Int, at_ < k -> k < i -> year < y.int k 0) /\ (0 <= at_ -> y.int at_ 0 <= year)
 refine ⟨J, fun _ i => (y.len - i).toNat, ⟨by omega, by omega, by omega, by omega, fun k _ _ => by omega, fun k _ _ => by omega, fun k _ _ => by omega, fun h => by omega⟩, fun at_ _ i _ hJ sm => ?_⟩
 have := small64 sm
 obtain ⟨i0, i1, a0, a1, hv, hp, hn, ha⟩ := hJ
 have next : i < y.len -> validS (y.sub i 1) -> (1 <= i -> y.int (i - 1) 0 < y.int i 0) ->
   ((y.int i 0 <= year -> Rng .i64 (i + 1) /\ J i (i + 1) /\ (y.len - (i + 1)).toNat < (y.len - i).toNat) /\ (¬ (y.int i 0 <= year) -> Rng .i64 (i + 1) /\ J at_ (i + 1) /\ (y.len - (i + 1)).toNat < (y.len - i).toNat)) := by
  intro hi vs hr
  have v' : ∀ k : Int, 0 <= k -> k < i + 1 -> validS (y.sub k 1) := fun k k0 k1 => by
   by_cases e : k = i
   ·subst e; exact vs
   ·exact hv k k0 (by omega)
  have p' : ∀ k : Int, 1 <= k -> k < i + 1 -> y.int (k - 1) 0 < y.int k 0 := fun k k0 k1 => by
   by_cases e : k = i
   ·subst e; exact hr k0
   ·exact hp k k0 (by omega)
  refine ⟨fun h => ⟨by rw [rng64]; omega, ⟨by omega, by omega, by omega, by omega, v', p', fun k _ _ => by omega, fun _ => h⟩, by omega⟩, fun h => ⟨by rw [rng64]; omega, ⟨by omega, by omega, by omega, by omega, v', p', fun k k0 k1 => ?_, ha⟩, by omega⟩⟩
  by_cases e : k = i
  ·subst e; omega
  ·exact hn k k0 (by omega)
 refine ⟨fun hi => ⟨i0, hi, fun _ => ⟨trivial, fun v hvv => ⟨fun h => no fun hs => h (hvv.2 (hs.1 i i0 hi)), fun h => ⟨fun hpos => ⟨by rw [rng64]; omega, by omega, by omega, fun _ => ⟨i0, hi, fun _ => ⟨fun hge => no fun hs => ?_, fun hlt => ⟨i0, hi, fun _ => next hi (hvv.1 (Classical.not_not.1 h)) fun _ => by omega⟩⟩⟩⟩, fun hz => ⟨i0, hi, fun _ => next hi (hvv.1 (Classical.not_not.1 h)) fun _ => by omega⟩⟩⟩⟩⟩, fun hi => ?_⟩
 ·have := hs.2 i (by omega) hi; omega
 ·have e : i = y.len := by omega
  subst e
  have vy : validY y := ⟨hv, hp⟩
  refine ⟨fun h => ⟨⟨fun k => absurd vy k, fun _ _ => ⟨rfl, rfl⟩, fun _ j hj => ?_⟩, trivial⟩, fun h => ⟨by omega, a1, fun _ => ⟨⟨fun k => absurd vy k, fun _ hno => ?_, fun _ j hj => ⟨?_, rfl⟩⟩, trivial⟩⟩⟩
  ·exact (hj.no fun k k0 k1 => hn k (by omega) k1).elim
  ·have := hno at_ (by omega) a1; have := ha (by omega); omega
  ·have : j = at_ := hj.uniq ⟨by omega, a1, ha (by omega), hn⟩
   rw [this]
end Go.Sx.N
