/-
  slices.Insert where the elements have several cells: copying in a row. Conditions: none.
-/
import Derived.Test.YtjljnieafhdkgaaGreatDoorEngE
import Derived.Test.YtjljnieafhdkgaaGreatDoorProg
import Derived.Shelf.Spec.SlicesInsertGrow
set_option linter.unusedVariables false
set_option linter.unusedSimpArgs false
namespace Go.Sx.Ins
open Go Go.Proofs Go.RowKit Go.Lib Go.Sx

/-- A row with cells put over those from o on. -/
def seg (cur : Array Value) (o : Nat) (xs : List Value) : Array Value := (cur.toList.take o ++ xs ++ cur.toList.drop (o + xs.length)).toArray

theorem seg_size {cur : Array Value} {o : Nat} {xs : List Value} (h : o + xs.length ≤ cur.size) : (seg cur o xs).size = cur.size := by
  simp [seg]
  omega

theorem seg_get {cur : Array Value} {o : Nat} {xs : List Value} (h : o + xs.length ≤ cur.size) (k : Nat) : (seg cur o xs)[k]? = if k < o then cur[k]? else if k < o + xs.length then xs[k - o]? else cur[k]? := by
  unfold seg
  rw [List.getElem?_toArray, List.append_assoc]
  by_cases h1 : k < o
  · rw [List.getElem?_append_left (by simp; omega), List.getElem?_take, if_pos h1, if_pos h1, Array.getElem?_toList]
  · rw [if_neg h1, List.getElem?_append_right (by simp; omega)]
    have h0 : (cur.toList.take o).length = o := by simp; omega
    rw [h0]
    by_cases h2 : k < o + xs.length
    · rw [if_pos h2, List.getElem?_append_left (by omega)]
    · rw [if_neg h2, List.getElem?_append_right (by omega), List.getElem?_drop, Array.getElem?_toList]
      congr 1
      omega

theorem run_copy_rowL {P : Program} (w : World) (dT sT ty elem : TypeId) (L g o dLen dCap : Nat) (a : Addr) (sLen sCap : Nat) (cur : Array Value) (t : TypeId) (cs : List Value)
    (hu : P.underlying dT = some (.slice elem)) (hs : (P.info? elem).map (·.size) = some L)
    (hg : w.heap[g]? = some (.cells cur t (0, 0))) (hn : cs.length = Nat.min sLen dLen * L)
    (hsrc : ∀ j v, cs[j]? = some v → w.cell? (a.add j) = some v) (hfit : o + cs.length ≤ cur.size) (h1 : ∀ v ∈ cs, v.oneCell' = true) :
    (Builtin.copy_ #[dT, sT] ty #[.slice (some ⟨g, o, none⟩) dLen dCap, .slice (some a) sLen sCap]).run P w =
      .ok (goInt (Nat.min sLen dLen)) (w.setRow g (seg cur o cs)) := by
  have hl := run_loadCells_list (P := P) w a cs hsrc
  have hst := run_storeCells_at P g o t cs 0 cur w hg (by simpa using hfit) h1
  cases hq : P.info? elem with
  | none => simp [hq] at hs
  | some i =>
    have hi : i.size = L := by simpa [hq] using hs
    simp [Builtin.copy_, run_underlying hu, Builtin.lenOf, Builtin.firstCells, sizeOf, typeInfo, hq, hi, ← hn, hl, hst, seg]

/-- The first cells of a row, as a list. -/
theorem row_cell {w : World} {b : Nat} {cs : Array Value} {t : TypeId} {o : Nat} (hb : w.heap[b]? = some (.cells cs t (0, 0))) {l : List Value} (hl : ∀ j, j < l.length → l[j]? = cs[o + j]?) (j : Nat) (v : Value) (h : l[j]? = some v) : w.cell? ((⟨b, o, none⟩ : Addr).add j) = some v := by
  rw [Addr.add_lit]
  have hj : j < l.length := (List.getElem?_eq_some_iff.1 h).1
  rw [hl j hj] at h
  simp [World.cell?, hb, h]

end Go.Sx.Ins
