/-
 The conditions of the functions, all of them. Conditions: none; printed by a program of our own.
-/
import Derived.Test.YtccbjhfdfbaekaaGreatNumJA
import Derived.Test.YtccbjhfdfbaekaaGreatNumJZ
