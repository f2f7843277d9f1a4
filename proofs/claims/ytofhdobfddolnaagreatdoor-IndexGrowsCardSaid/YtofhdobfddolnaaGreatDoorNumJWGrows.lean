/-
 The conditions are what the executor says. Conditions: none; printed by a program of our own.
-/
import Derived.Test.YtofhdobfddolnaaGreatDoorNumT
import Derived.Test.YtofhdobfddolnaaGreatDoorNumVWGrows
import Derived.KernelRfl
namespace Go.Sx.N
open Go.Proofs
theorem j_WGrows : VCA b122 6 3 = V_WGrows := by kernel_rfl
theorem l_WGrows (h : OKA b122) (hv : V_WGrows) : ConOK Tryz.prog 3 ⟨[.agg [(.bool, false), (.sl 105, false), (.bool, false), (.sl 105, false)], .agg [(.str, false), (.bool, false), (.sl 35, false)], .cell (.int .i64) false, .cell (.int .i64) false, .cell (.int .i64) false], [.cell (.bool) false]⟩ (Tb 3) := lwA h j_WGrows hv
end Go.Sx.N
