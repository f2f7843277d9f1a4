/-
 Several texts in one. Conditions: none.
-/
import Derived.Test.YtbgbcaamipknmaaGreatLentA
import Derived.Test.YtbgbcaamipknmaaGreatNumT
set_option linter.unusedVariables false
set_option linter.unusedSimpArgs false
namespace Go.Sx.Lent
open Go Go.Proofs Go.RowKit Go.Lib Go.Sx Go.Sx.N
theorem kLentTable_h : ConOK Tryz.prog 10 sgLT (Tb 10) :=
 lentTable_con (fun y two n f h => have h : tabB ⟨n, f⟩ := h; h) (fun y two n f => show q_kLentTable y two ⟨n, f⟩ y two ⟨n, f⟩ from ⟨rfl, rfl, rfl⟩)
theorem same_refl (s : Sl) : SameI s s := ⟨rfl, fun i _ _ => rfl⟩
theorem sameF_refl (a : Bool) (b : Sl) (c : Bool) (d : Sl) : SameF a b c d a b c d := ⟨⟨rfl, same_refl b⟩, rfl, same_refl d⟩
theorem rowsEq_refl (s : Sl) : rowsEq s s := ⟨rfl, fun i _ _ => ⟨rfl, rfl, rfl, sameF_refl _ _ _ _⟩⟩
theorem sames {l : List Nat} (h : OKA l) (hl : ([52, 23, 59, 17].all l.contains) = true) : Sames := by
 have hl := List.all_eq_true.1 hl
 refine sames_of (SigOk.con h (hl 52 (by simp)) (sg := sgSW) rfl) (SigOk.con h (hl 23 (by simp)) (sg := sgSF) rfl) (SigOk.con h (hl 59 (by simp)) (sg := sgSR) rfl) (SigOk.con h (hl 17 (by simp)) (sg := sgST) rfl) ?_ ?_ ?_ ?_
 ·exact fun s m g => ⟨trivial, fun r hr => (show q_kSameWhole s ⟨m, g⟩ s ⟨m, g⟩ r from hr).2 ⟨rfl, same_refl _⟩⟩
 ·exact fun s m g t n k => ⟨trivial, fun r hr => (show q_kSameFrac s ⟨m, g⟩ t ⟨n, k⟩ s ⟨m, g⟩ t ⟨n, k⟩ r from hr).2 (sameF_refl _ _ _ _)⟩
 ·exact fun a b k s m g t n p => ⟨trivial, fun r hr => (show q_kSameRow a b k s ⟨m, g⟩ t ⟨n, p⟩ a b k s ⟨m, g⟩ t ⟨n, p⟩ r from hr).2 ⟨rfl, rfl, rfl, sameF_refl _ _ _ _⟩⟩
 ·exact fun y t n f => ⟨trivial, fun r hr => (show q_kSameTable y t ⟨n, f⟩ y t ⟨n, f⟩ r from hr).2 ⟨rfl, rfl, rowsEq_refl _⟩⟩
theorem kKeptTable_h {l : List Nat} (h : OKA l) (hl : ([52, 23, 59, 17].all l.contains) = true) : KeptOK Tryz.prog 15 sgKT (Tb 15) :=
 keptTable_ok (sames h hl) (fun y two n f y' two' n' f' h => by
  obtain ⟨rfl, rfl, e, hb⟩ := (show p_kKeptTable y two ⟨n, f⟩ y' two' ⟨n', f'⟩ from h)
  cases e
  exact ⟨rfl, rfl, rfl, rfl, hb⟩) (fun y two n f => show q_kKeptTable y two ⟨n, f⟩ y two ⟨n, f⟩ true from rfl)
end Go.Sx.Lent
set_option linter.unusedVariables false
set_option linter.unusedSimpArgs false
namespace Go.Sx.Lent
open Go Go.Proofs Go.RowKit Go.Lib Go.Sx Go.Sx.N
theorem kLentRow_h : ConOK Tryz.prog 24 sgLR (Tb 24) :=
 lentRow_con (fun a b k s1 m1 g1 s2 m2 g2 h => have h : roomL ⟨m1, g1⟩ ⟨m2, g2⟩ := h; h) (fun a b k s1 m1 g1 s2 m2 g2 => show q_kLentRow a b k s1 ⟨m1, g1⟩ s2 ⟨m2, g2⟩ a b k s1 ⟨m1, g1⟩ s2 ⟨m2, g2⟩ from ⟨⟨rfl, rfl, rfl⟩, rfl, rfl, rfl, rfl⟩)
theorem kKeptRow_h {l : List Nat} (h : OKA l) (hl : ([52, 23, 59, 17].all l.contains) = true) : KeptOK Tryz.prog 29 sgKR (Tb 29) :=
 keptRow_ok (sames h hl) (fun a b k s1 m1 g1 s2 m2 g2 a' b' k' s1' m1' g1' s2' m2' g2' h => by
  obtain ⟨⟨e, rfl, e1, rfl, e2⟩, hb⟩ := (show p_kKeptRow a b k s1 ⟨m1, g1⟩ s2 ⟨m2, g2⟩ a' b' k' s1' ⟨m1', g1'⟩ s2' ⟨m2', g2'⟩ from h)
  cases e1
  cases e2
  exact ⟨e, rfl, rfl, rfl, rfl, rfl, rfl, hb.1, hb.2⟩) (fun a b k s1 m1 g1 s2 m2 g2 => show q_kKeptRow a b k s1 ⟨m1, g1⟩ s2 ⟨m2, g2⟩ a b k s1 ⟨m1, g1⟩ s2 ⟨m2, g2⟩ true from rfl)
end Go.Sx.Lent
