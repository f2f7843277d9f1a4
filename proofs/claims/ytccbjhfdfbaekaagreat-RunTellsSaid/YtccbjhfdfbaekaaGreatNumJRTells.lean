/-
 The conditions are what the executor says. Conditions: none; printed by a program of our own.
-/
import Derived.Test.YtccbjhfdfbaekaaGreatNumT
import Derived.Test.YtccbjhfdfbaekaaGreatNumVQ
import Derived.KernelRfl
namespace Go.Sx.N
open Go.Proofs
theorem asZ:VCA arA 6 7=YB:=by kernel_rfl
theorem aot(h:OKA arA)(hv:YB):ConOK Tryz.prog 7 ⟨[.agg [(.int .i64,false),(.sl 3,false),(.sl 74,false),(.int .i64,false),(.int .i64,false),(.int .i64,false),(.sl 36,false)], .cell (.sl 87) false, .cell (.int .i64) false, .cell (.int .i64) false, .agg [(.int .i64,false),(.int .i64,false),(.bool,false),(.sl 22,false),(.bool,false),(.sl 22,false),(.str,false),(.bool,false),(.sl 112,false),(.sl 120,false),(.int .i64,false)]],[.cell (.bool) false]⟩ (Tb 7):=lwA h asZ hv
end Go.Sx.N
