/-
 What the functions of growth by yearly rates are to answer. Conditions: none.
-/
import Derived.Test.YtccbjhfdfbaekaaGreatTabSpec
set_option linter.unusedVariables false
set_option linter.unusedSimpArgs false
namespace Go.Sx.N
open Classical in
noncomputable def iD (s : Sl) (known y : Int) : Option Rat :=
 if h : ∃ k, AL s y known k then some (fq (s.bool (Classical.choose h) 3) (s.sub (Classical.choose h) 4) (s.sub (Classical.choose h) 6)) else none
inductive GR where
 | ok (q : Rat)
 | err (e : Int)
open Classical in
def ah6 (s : Sl) (i y k : Int) (q : Rat) : Prop := s.int i 0 = y /\ s.int i 1 = 0 /\ s.int i 2 = k /\ okF (s.bool i 3) (s.sub i 4) (s.bool i 5) (s.sub i 6) /\ fq (s.bool i 3) (s.sub i 4) (s.sub i 6) = q
end Go.Sx.N
