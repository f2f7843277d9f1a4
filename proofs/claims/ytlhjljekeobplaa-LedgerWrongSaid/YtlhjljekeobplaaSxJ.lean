/-
  Contracts, one function after another. Conditions: the contracts hold of the functions that came before.
-/
import Derived.Test.YtlhjljekeobplaaSxI
namespace Go.Sx

def cfgOf (P : Program) (sgs : FuncId → Option Sig) (hav : Nat → Hav) (wr : FuncId → Bool) (cut : Nat → Bool) (rg : Bool) (l : List Nat) : Cfg :=
  { P := P, sig := fun g => if l.contains g then sgs g else none, hav := hav, wr := wr, cut := cut, rg := rg }

theorem SigOk.none {T : FuncId → Pred} {P : Program} {sgs : FuncId → Option Sig} {hav : Nat → Hav} {wr : FuncId → Bool} {cut : Nat → Bool} {rg : Bool} : SigOk T (cfgOf P sgs hav wr cut rg []) := fun g sg h => by
  simp [cfgOf] at h

theorem SigOk.more {T : FuncId → Pred} {P : Program} {sgs : FuncId → Option Sig} {hav : Nat → Hav} {wr : FuncId → Bool} {cut : Nat → Bool} {rg : Bool} {l : List Nat} (h : SigOk T (cfgOf P sgs hav wr cut rg l)) {f : FuncId} {sg : Sig} (hs : sgs f = some sg)
    (hc : ConOK P f sg (T f) ∧ sg.args.all roSh = true) : SigOk T (cfgOf P sgs hav wr cut rg (f :: l)) := fun g sg' hg => by
  simp only [cfgOf, List.contains_cons] at hg
  by_cases e : g = f
  · subst e
    simp only [beq_self_eq_true, Bool.true_or, if_true] at hg
    rw [hs] at hg
    cases hg
    exact hc
  · refine h g sg' ?_
    simp only [cfgOf]
    have : (g == f) = false := by simpa using e
    rw [this, Bool.false_or] at hg
    exact hg

/-- A function's condition holds: its contract holds too. -/
theorem SigOk.next {T : FuncId → Pred} {P : Program} {sgs : FuncId → Option Sig} {hav : Nat → Hav} {wr : FuncId → Bool} {cut : Nat → Bool} {rg : Bool} {l : List Nat} (h : SigOk T (cfgOf P sgs hav wr cut rg l)) {f : FuncId} {sg : Sig} {depth : Nat} {V : Prop} (hs : sgs f = some sg)
    (j : (vc (A := sem T) (cfgOf P sgs hav wr cut rg l) depth f sg).den = V) (hv : V) : SigOk T (cfgOf P sgs hav wr cut rg (f :: l)) := h.more hs (vc_sound h (by rw [j]; exact hv))

theorem SigOk.law {T : FuncId → Pred} {P : Program} {sgs : FuncId → Option Sig} {hav : Nat → Hav} {wr : FuncId → Bool} {cut : Nat → Bool} {rg : Bool} {l : List Nat} (h : SigOk T (cfgOf P sgs hav wr cut rg l)) {f : FuncId} {sg : Sig} {depth : Nat} {V : Prop}
    (j : (vc (A := sem T) (cfgOf P sgs hav wr cut rg l) depth f sg).den = V) (hv : V) : ConOK P f sg (T f) := (vc_sound h (by rw [j]; exact hv)).1

theorem SigOk.con {T : FuncId → Pred} {P : Program} {sgs : FuncId → Option Sig} {hav : Nat → Hav} {wr : FuncId → Bool} {cut : Nat → Bool} {rg : Bool} {l : List Nat} (h : SigOk T (cfgOf P sgs hav wr cut rg l)) {f : FuncId} (hf : l.contains f = true) {sg : Sig} (hs : sgs f = some sg) : ConOK P f sg (T f) :=
  (h f sg (by simp only [cfgOf, hf, if_true, hs])).1

end Go.Sx
