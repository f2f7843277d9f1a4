/-
 The law about scales of years. Conditions: none.
-/
import Derived.Test.YtfhjplagjjjlpaaGreatNumVTYears
import Derived.Test.YtfhjplagjjjlpaaGreatTaxFe
set_option linter.unusedVariables false
set_option linter.unusedSimpArgs false
namespace Go.Sx.N
theorem sameB_nil {l m : Sl} (h : l.len = 0) (g : m.len = 0) : sameB l m := ⟨by omega, fun i i0 i1 => by omega⟩
theorem scale_same {y z s s' : Sl} {year e e' : Int} (hs : sameY z y) (h : scaleOf y year s e) (h' : q_xScale z year s' e') : e = e' /\ sameB s s' := by
 obtain ⟨a1, a2, a3⟩ := h
 obtain ⟨b1, b2, b3⟩ := h'
 by_cases v : validY y
 ·have v' := hs.symm.valid v
  rcases appl_or y year with no | ⟨i, hi⟩
  ·have x := a2 v no
   have x' := b2 v' (hs.symm.no no)
   exact ⟨by omega, sameB_nil x.1 x'.1⟩
  ·have x := a3 v i hi
   have x' := b3 v' i (hs.symm.appl hi)
   refine ⟨by rw [x.2, x'.2], x.1.trans ?_⟩
   rw [x'.1]
   exact ((hs.symm).2 i hi.1 hi.2.1).2
 ·have v' : ¬ validY z := fun k => v (hs.valid k)
  have x := a1 v
  have x' := b1 v'
  exact ⟨by omega, sameB_nil x.1 x'.1⟩
theorem TYears_ok : V_TYears := by
 intro y _ year _ _
 simp only [Bool.decide_eq_true]
 refine ⟨trivial, fun z _ b hb => ⟨fun hn => ⟨trivial, fun b4 h4 => ⟨h4, trivial⟩⟩, fun hy => ?_⟩⟩
 have hs : sameY z y := hb.1 (Classical.not_not.1 hy)
 refine ⟨trivial, fun s e _ hq => ⟨trivial, fun s' _ e' _ hq' => ?_⟩⟩
 obtain ⟨he, hB⟩ := scale_same hs hq hq'
 have y0 := len0 y
 refine ⟨fun hne => absurd he hne, fun _ => ⟨trivial, fun b8 h8 => ⟨fun hn => absurd (h8.2 hB) hn, fun _ => ⟨rfl, fun x => 0 <= x /\ x <= y.len, fun x => (y.len - x).toNat, ⟨by omega, y0⟩, fun x _ hJ sm => ⟨fun hlt => ?_, fun hge => ⟨trivial, fun b11 h11 => ⟨h11, trivial⟩⟩⟩⟩⟩⟩⟩
 have hl := hs.1
 have zl : x < z.len := by omega
 have j0 := hJ.1
 have core : V_TYears_0 y year z (fun x => 0 <= x /\ x <= y.len) (fun x => (y.len - x).toNat) x := by
  simp only [V_TYears_0, Bool.decide_eq_true]
  refine ⟨trivial, fun b h => ⟨fun hn => absurd (h.2 ((hs.2 x hJ.1 zl).2.symm)) hn, fun _ => ⟨?_, ⟨by omega, by omega⟩, by omega⟩⟩⟩
  have := sm
  unfold Small at this
  have e : y.len = (y.n : Int) := rfl
  rw [rng64]; omega
 exact ⟨hJ.1, hlt, hJ.1, zl, fun _ _ => core, fun _ _ => core⟩
end Go.Sx.N
