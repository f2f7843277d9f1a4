/-
 Contracts may be left aside: what holds of a list of functions holds of a part of it. Conditions: the contracts hold.
-/
import Derived.Test.YtccbjhfdfbaekaaGreatEngE
set_option linter.unusedVariables false
set_option linter.unusedSimpArgs false
namespace Go.Sx
theorem dX.skip {T : FuncId -> Pred} {P : Program} {nZ : FuncId -> Option Sig} {hav : Nat -> Hav} {wr : FuncId -> Bool} {cut : Nat -> Bool} {rg : FuncId -> Bool} {pm : FuncId -> Option Prim} {l : List Nat} (h : dX T (kP P nZ hav wr cut rg l pm)) (p : Nat -> Bool) : dX T (kP P nZ hav wr cut rg (l.filter p) pm) := by
 have hl : ∀ g, (l.filter p).contains g = true -> l.contains g = true := fun g hg => by
  rw [List.contains_iff_mem] at hg ⊢
  exact (List.mem_filter.1 hg).1
 refine ⟨fun g sg hg => ?_, fun g q hg => ?_⟩
 ·simp only [kP] at hg
  split at hg
  ·rename_i hc
   refine h.1 g sg ?_
   simp only [kP]
   rw [if_pos (hl g hc)]
   exact hg
  ·cases hg
 ·obtain ⟨h1, h2⟩ := BQ hg
  exact h.2 g q (NJ h1 (h2.imp id (hl g)))
end Go.Sx
