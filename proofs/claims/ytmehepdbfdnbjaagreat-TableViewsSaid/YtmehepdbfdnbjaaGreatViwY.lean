/-
 What the statements' arguments come with: their bounds. Conditions: none.
-/
import Derived.Test.YtmehepdbfdnbjaaGreatLentA
import Derived.Test.YtmehepdbfdnbjaaGreatViwSpec
set_option linter.unusedVariables false
set_option linter.unusedSimpArgs false
namespace Go.Sx.N
open Go Go.Proofs Go.Sx Go.Sx.Lent
theorem reach_lt : reachBytes + 1056 <= 140737488355328 := by decide +kernel
theorem bytesR : Tryz.prog.bytesOf 35 = 88 := by kernel_rfl
theorem bytesU : Tryz.prog.bytesOf 112 = 2 := by kernel_rfl
theorem room_of {d : D} (h : okD Tryz.prog d (.sl 112)) : roomN d.toS.n := by
 have h9 := reach_lt
 unfold roomN
 cases d with
 | sl m g =>
  have h1 := h.1
  rw [bytesU] at h1
  show 2 * (m + 12) <= 140737488355328
  omega
 | int _ => show 2 * (0 + 12) <= 140737488355328; omega
 | bool _ => show 2 * (0 + 12) <= 140737488355328; omega
 | str _ => show 2 * (0 + 12) <= 140737488355328; omega
theorem tabB_of {d : D} (h : okD Tryz.prog d (.sl 35)) : tabB d.toS := by
 have h9 := reach_lt
 have no : ∀ s : Sl, s.n = 0 -> tabB s := fun s e => ⟨by rw [e]; omega, fun i hi => by omega⟩
 cases d with
 | sl n f =>
  have h1 := h.1
  rw [bytesR] at h1
  refine ⟨by show 88 * (n + 12) <= 140737488355328; omega, fun i hi => ⟨room_of (h.2 _ i 4 _ kindR hi rfl), room_of (h.2 _ i 6 _ kindR hi rfl)⟩⟩
 | int _ => exact no _ rfl
 | bool _ => exact no _ rfl
 | str _ => exact no _ rfl
theorem TViews_pre {x0 x1 x2 x3 : D} (h : OkL Tryz.prog [.str, .bool, .sl 35, .int .i64] [x0, x1, x2, x3]) : p_TViews x0.toY x1.toB x2.toS x3.toI :=
 ⟨okY h.1.str, tabB_of h.2.2.1⟩
end Go.Sx.N
