/-
  The conditions are what the executor says. Conditions: none; printed by a program of our own.
-/
import Derived.Test.YtjbknheeiaaioaaNumT
import Derived.Test.YtjbknheeiaaioaaNumVTLook
import Derived.KernelRfl
namespace Go.Sx.N
open Go.Proofs
theorem j_TLook : (vc (A := sem Tb) (cfgAt b51) 6 3 ⟨[.cell (.sl 52) false, .cell (.int .i64) false, .cell (.int .i64) false, .cell (.int .i64) false], [.cell (.bool) false]⟩).den = V_TLook := by kernel_rfl
theorem l_TLook (h : SigOk Tb (cfgAt b51)) (hv : V_TLook) : ConOK Try.prog 3 ⟨[.cell (.sl 52) false, .cell (.int .i64) false, .cell (.int .i64) false, .cell (.int .i64) false], [.cell (.bool) false]⟩ (Tb 3) := SigOk.law (l := b51) h j_TLook hv
end Go.Sx.N
