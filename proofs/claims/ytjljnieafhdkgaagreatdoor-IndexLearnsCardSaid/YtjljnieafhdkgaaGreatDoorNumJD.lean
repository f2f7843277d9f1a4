/-
  The conditions are what the executor says. Conditions: none; printed by a program of our own.
-/
import Derived.Test.YtjljnieafhdkgaaGreatDoorNumT
import Derived.Test.YtjljnieafhdkgaaGreatDoorNumVD
import Derived.KernelRfl
namespace Go.Sx.N
open Go.Proofs
end Go.Sx.N
