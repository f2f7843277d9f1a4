/-
 The conditions of the reference's functions on whole numbers. Conditions: none.
 The conditions of the reference's functions on whole numbers, second part. Conditions: none.
 The conditions of the reference's functions on fractions, and of the kit's copies and comparisons. Conditions: none.
-/
import Derived.Test.YtccbjhfdfbaekaaGreatNumFb
import Derived.Test.YtccbjhfdfbaekaaGreatNumVD
import Derived.Test.YtccbjhfdfbaekaaGreatNumVE
import Derived.Test.YtccbjhfdfbaekaaGreatNumVK
set_option linter.unusedVariables false
set_option linter.unusedSimpArgs false
namespace Go.Sx.N
end Go.Sx.N
namespace Go.Sx.N
end Go.Sx.N
namespace Go.Sx.N
theorem rX {n d : Int} (h : d ≠ 0) : (Rat.divInt n d).den <= d.natAbs := by
 rw [Rat.den_divInt, if_neg h]
 exact Nat.div_le_self ..
theorem smF.nw {a c : Bool} {b d : Sl} (h : smF a b c d) : NW a b /\ NW c d := ⟨h.1.kY.1, h.1.kY.Ug⟩
theorem smF.Ac {a c : Bool} {b d : Sl} (h : smF a b c d) : fq a b d = Rat.divInt (zv a b) (zv c d) := by
 unfold fq
 have : zv c d = vl d := by unfold zv; rw [h.1.kY.2.2.1]; simp
 rw [this]
theorem okF.sm {a c : Bool} {b d : Sl} (h : okF a b c d) : smF a b c d := ⟨h.1, by have := h.2; omega, by have := h.2; omega⟩
theorem aW.neg {q : Rat} {nn dn n' : Bool} {nl dl l' : Sl} (h : aW q nn nl dn dl) (hn : NW n' l') (hz : zv n' l' = - zv nn nl) : aW (-q) n' l' dn dl := by
 refine ⟨hn, ?_, h.2.2.1, h.2.2.2.1, ?_⟩
 ·rw [hz, h.2.1]; rfl
 ·rw [h.2.2.2.2]; rfl
end Go.Sx.N
