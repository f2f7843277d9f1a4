/-
 The law RunOnce: its condition. Conditions: none.
-/
import Derived.Test.YtccbjhfdfbaekaaGreatNumVROnce
import Derived.Test.YtccbjhfdfbaekaaGreatRunR
set_option linter.unusedVariables false
set_option linter.unusedSimpArgs false
set_option maxRecDepth 20000
namespace Go.Sx.N
theorem ROnce_ok : V_ROnce := by
 intro st _ d _ p _ mo _ g _ t _ l _ es _ day _ month rm acct _ num rn sa sb _ sc sd _ name two rt _ ys _ known _ less rl hp
 simp only [Bool.decide_eq_true]
 have hn : okN name := hp
 have aw : V_ROnce_0 st d p mo g t l es day month acct num sa sb sc sd name two rt ys known less := by
  unfold V_ROnce_0
  simp only [Bool.decide_eq_true]
  exact ⟨trivial, fun b hb => ⟨hb, trivial⟩⟩
 refine ⟨trivial, fun b hb => ⟨fun _ => aw, fun h => ?_⟩⟩
 have hes := hb (Classical.not_not.1 h)
 have pre : okN name /\ es.len <= 1000000 := ⟨hn, by omega⟩
 refine ⟨pre, fun st1 _ d1 _ p1 _ mo1 _ g1 _ t1 _ l1 _ q1 _ q2 _ q3 _ q4 _ q5 _ q6 _ q7 _ q8 _ q9 _ q0 e1 _ h1 => ⟨fun _ => aw, fun he => ?_⟩⟩
 have he := Classical.not_not.1 he
 have good := pay_good h1 he
 obtain ⟨lm, ln⟩ := pay_last h1 he
 have vs := good.1.1.1.1
 have am := good.2.1.2.1
 have m0 : st <= month := am.1
 have m1 : month <= 2153 := am.2.1
 have s0 : 0 <= st := vs.1
 obtain ⟨ls0, ls1⟩ := (show 0 <= less /\ less <= 255 from rl)
 have w1 : IntKind.wrap .i64 (month - less) = month - less := L.wrap64 (by omega) (by omega)
 have w2 : IntKind.wrap .i64 (month + 1) = month + 1 := L.wrap64 (by omega) (by omega)
 rw [w1, w2]
 refine ⟨pre, fun st2 _ d2 _ p2 _ mo2 _ g2 _ t2 _ l2 _ r1 _ r2 _ r3 _ r4 _ r5 _ r6 _ r7 _ r8 _ r9 _ r0 e2 _ h2 => ⟨pre, fun st3 _ d3 _ p3 _ mo3 _ g3 _ t3 _ l3 _ s1 _ s2 _ s3 _ s4 _ s5 _ s6 _ s7 _ s8 _ s9 _ s0 e3 _ h3 => ⟨pre, fun st4 _ d4 _ p4 _ mo4 _ g4 _ t4 _ l4 _ u1 _ u2 _ u3 _ u4 _ u5 _ u6 _ u7 _ u8 _ u9 _ u0 e4 _ h4 => ?_⟩⟩⟩
 have f2 : e2 = 2 := pay_refused h2 fun k => by
  have := k.2.1.2.2
  have : (if 0 < l1.len then l1.int (l1.len - 1) 0 else -1) < month := this
  rw [lm] at this
  exact absurd this (Int.lt_irrefl _)
 have f3 : e3 = 2 := pay_refused h3 fun k => by
  have := k.2.1.2.2
  have : (if 0 < l1.len then l1.int (l1.len - 1) 0 else -1) < month - less := this
  rw [lm] at this
  have this : month < month - less := this
  omega
 have f4 : e4 = 2 := pay_refused h4 fun k => by
  have := k.1.2.2
  have : (if 0 < l1.len then l1.int (l1.len - 1) 4 else -1) < num := this
  rw [ln] at this
  exact absurd this (Int.lt_irrefl _)
 exact ⟨fun _ => ⟨fun _ => ⟨fun _ => aw, fun k => absurd f4 k⟩, fun k => absurd f3 k⟩, fun k => absurd f2 k⟩
end Go.Sx.N
