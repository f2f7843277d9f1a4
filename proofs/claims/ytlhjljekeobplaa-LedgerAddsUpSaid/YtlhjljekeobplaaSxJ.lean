/-
  Contracts, one function after another. Conditions: the contracts hold of the functions that came before.
-/
import Derived.Test.YtlhjljekeobplaaSxI
namespace Go.Sx

def cfgOf (P : Program) (sgs : FuncId → Option Sig) (hav : Nat → Hav) (l : List Nat) : Cfg := ⟨P, fun g => if l.contains g then sgs g else none, hav⟩

theorem SigOk.none {T : FuncId → Pred} {P : Program} {sgs : FuncId → Option Sig} {hav : Nat → Hav} : SigOk T (cfgOf P sgs hav []) := fun g sg h => by
  simp [cfgOf] at h

theorem SigOk.more {T : FuncId → Pred} {P : Program} {sgs : FuncId → Option Sig} {hav : Nat → Hav} {l : List Nat} (h : SigOk T (cfgOf P sgs hav l)) {f : FuncId} {sg : Sig} (hs : sgs f = some sg)
    (hc : ConOK P f sg (T f) ∧ sg.args.all roSh = true) : SigOk T (cfgOf P sgs hav (f :: l)) := fun g sg' hg => by
  simp only [cfgOf, List.contains_cons] at hg
  by_cases e : g = f
  · subst e
    simp only [beq_self_eq_true, Bool.true_or, if_true] at hg
    rw [hs] at hg
    cases hg
    exact hc
  · refine h g sg' ?_
    simp only [cfgOf]
    have : (g == f) = false := by simpa using e
    rw [this, Bool.false_or] at hg
    exact hg

theorem SigOk.con {T : FuncId → Pred} {P : Program} {sgs : FuncId → Option Sig} {hav : Nat → Hav} {l : List Nat} (h : SigOk T (cfgOf P sgs hav l)) {f : FuncId} (hf : l.contains f = true) {sg : Sig} (hs : sgs f = some sg) : ConOK P f sg (T f) :=
  (h f sg (by simp only [cfgOf, hf, if_true, hs])).1

end Go.Sx
