/-
  The law TableKnown: its condition. Conditions: none.
-/
import Derived.Test.YtjbknheeiaaioaaNumVTKnown
import Derived.Test.YtjbknheeiaaioaaTabI
set_option linter.unusedVariables false
set_option linter.unusedSimpArgs false
namespace Go.Sx.N

theorem built_len {s t : Sl} {two two' : Bool} {n : ByteArray} (h : q_Built s two n two' t) : t.len ≤ 50 := by
  have e := h.2.2.1
  have : imin s.len 50 ≤ 50 := by unfold imin; split <;> omega
  omega

end Go.Sx.N
