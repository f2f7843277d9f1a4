/-
  The conditions of the functions. Conditions: none; printed by a program of our own.
-/
import Derived.Test.YtjljnieafhdkgaaGreatDoorNumBase
set_option maxRecDepth 20000
namespace Go.Sx.N
end Go.Sx.N
