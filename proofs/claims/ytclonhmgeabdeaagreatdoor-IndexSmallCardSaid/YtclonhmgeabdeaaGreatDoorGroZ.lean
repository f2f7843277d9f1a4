/-
 Lending, comparing and overwriting a table: the contracts of the chain. Conditions: none.
-/
import Derived.Test.YtclonhmgeabdeaaGreatDoorLentA
import Derived.Test.YtclonhmgeabdeaaGreatDoorNumT
set_option linter.unusedVariables false
set_option linter.unusedSimpArgs false
namespace Go.Sx.Lent
open Go Go.Proofs Go.RowKit Go.Lib Go.Sx Go.Sx.N
theorem kLentTable_h : ConOK Tryz.prog 13 sgLT (Tb 13) :=
 lentTable_con (fun y two n f h => have h : tabB ⟨n, f⟩ := h; h) (fun y two n f => show q_kLentTable y two ⟨n, f⟩ y two ⟨n, f⟩ from ⟨rfl, rfl, rfl⟩)
theorem same_refl (s : Sl) : SameI s s := ⟨rfl, fun i _ _ => rfl⟩
theorem sameF_refl (a : Bool) (b : Sl) (c : Bool) (d : Sl) : SameF a b c d a b c d := ⟨⟨rfl, same_refl b⟩, rfl, same_refl d⟩
theorem rowsEq_refl (s : Sl) : rowsEq s s := ⟨rfl, fun i _ _ => ⟨rfl, rfl, rfl, sameF_refl _ _ _ _⟩⟩
theorem sames {l : List Nat} (h : OKA l) (hl : ([56, 25, 97, 51].all l.contains) = true) : Sames := by
 have hl := List.all_eq_true.1 hl
 refine sames_of (SigOk.con h (hl 56 (by simp)) (sg := sgSW) rfl) (SigOk.con h (hl 25 (by simp)) (sg := sgSF) rfl) (SigOk.con h (hl 97 (by simp)) (sg := sgSR) rfl) (SigOk.con h (hl 51 (by simp)) (sg := sgST) rfl) ?_ ?_ ?_ ?_
 ·exact fun s m g => ⟨trivial, fun r hr => (show q_kSameWhole s ⟨m, g⟩ s ⟨m, g⟩ r from hr).2 ⟨rfl, same_refl _⟩⟩
 ·exact fun s m g t n k => ⟨trivial, fun r hr => (show q_kSameFrac s ⟨m, g⟩ t ⟨n, k⟩ s ⟨m, g⟩ t ⟨n, k⟩ r from hr).2 (sameF_refl _ _ _ _)⟩
 ·exact fun a b k s m g t n p => ⟨trivial, fun r hr => (show q_kSameRow a b k s ⟨m, g⟩ t ⟨n, p⟩ a b k s ⟨m, g⟩ t ⟨n, p⟩ r from hr).2 ⟨rfl, rfl, rfl, sameF_refl _ _ _ _⟩⟩
 ·exact fun y t n f => ⟨trivial, fun r hr => (show q_kSameTable y t ⟨n, f⟩ y t ⟨n, f⟩ r from hr).2 ⟨rfl, rfl, rowsEq_refl _⟩⟩
theorem kKeptTable_h {l : List Nat} (h : OKA l) (hl : ([56, 25, 97, 51].all l.contains) = true) : KeptOK Tryz.prog 21 sgKT (Tb 21) :=
 keptTable_ok (sames h hl) (fun y two n f y' two' n' f' h => by
  obtain ⟨rfl, rfl, e, hb⟩ := (show p_kKeptTable y two ⟨n, f⟩ y' two' ⟨n', f'⟩ from h)
  cases e
  exact ⟨rfl, rfl, rfl, rfl, hb⟩) (fun y two n f => show q_kKeptTable y two ⟨n, f⟩ y two ⟨n, f⟩ true from rfl)
theorem kLentFrac_h : ConOK Tryz.prog 14 sgLF (Tb 14) :=
 lentFrac_con (fun s1 m1 g1 s2 m2 g2 h => have h : roomF ⟨m1, g1⟩ ⟨m2, g2⟩ := h; h) (fun s1 m1 g1 s2 m2 g2 => show q_kLentFrac s1 ⟨m1, g1⟩ s2 ⟨m2, g2⟩ s1 ⟨m1, g1⟩ s2 ⟨m2, g2⟩ from ⟨rfl, rfl, rfl, rfl⟩)
theorem kKeptFrac_h {l : List Nat} (h : OKA l) (hl : ([56, 25, 97, 51].all l.contains) = true) : KeptOK Tryz.prog 22 sgKF (Tb 22) :=
 keptFrac_ok (sames h hl) (fun s1 m1 g1 s2 m2 g2 s1' m1' g1' s2' m2' g2' h => by
  obtain ⟨⟨rfl, e1, rfl, e2⟩, hb⟩ := (show p_kKeptFrac s1 ⟨m1, g1⟩ s2 ⟨m2, g2⟩ s1' ⟨m1', g1'⟩ s2' ⟨m2', g2'⟩ from h)
  cases e1
  cases e2
  exact ⟨rfl, rfl, rfl, rfl, rfl, rfl, hb.1, hb.2⟩) (fun s1 m1 g1 s2 m2 g2 => show q_kKeptFrac s1 ⟨m1, g1⟩ s2 ⟨m2, g2⟩ s1 ⟨m1, g1⟩ s2 ⟨m2, g2⟩ true from rfl)
end Go.Sx.Lent
