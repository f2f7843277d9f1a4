/-
  The conditions are what the executor says. Conditions: none; printed by a program of our own.
-/
import Derived.Test.YtjbknheeiaaioaaNumT
import Derived.Test.YtjbknheeiaaioaaNumVE
import Derived.KernelRfl
namespace Go.Sx.N
open Go.Proofs
end Go.Sx.N
