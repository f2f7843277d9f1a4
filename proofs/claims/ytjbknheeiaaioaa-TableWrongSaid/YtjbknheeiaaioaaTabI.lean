/-
  What putting a row in makes of a table. Conditions: none.
-/
import Derived.Test.YtjbknheeiaaioaaTabFe
set_option linter.unusedVariables false
set_option linter.unusedSimpArgs false
namespace Go.Sx.N

theorem rightAt_congr {two : Bool} {s t : Sl} {i k : Int} (h : rowEq s i t k) (g : rightAt two t k) : rightAt two s i := by
  unfold rightAt rightS at *
  rw [h.1, h.2.1, h.2.2.1]
  exact ⟨g.1, g.2.1, g.2.2.1, g.2.2.2.1, okF.of_same g.2.2.2.2 h.2.2.2⟩

/-- A table with a row that is not right is not valid. -/
theorem not_valid {name : ByteArray} {two : Bool} {s : Sl} {i : Int} (i0 : 0 ≤ i) (i1 : i < s.len) (h : ¬ rightAt two s i) : ¬ validT name two s := fun g => h (g.2.2.2 i i0 i1)
/-- A table whose last row is less than its first one is not valid. -/
theorem not_sorted {name : ByteArray} {two : Bool} {s : Sl} {i j : Int} (i0 : 0 ≤ i) (ij : i ≤ j) (j1 : j < s.len) (h : s.int j 0 < s.int i 0) : ¬ validT name two s := fun g => sorted_lt g.2.2.1 i0 ij j1 (by unfold ltR ltK; omega)

end Go.Sx.N
