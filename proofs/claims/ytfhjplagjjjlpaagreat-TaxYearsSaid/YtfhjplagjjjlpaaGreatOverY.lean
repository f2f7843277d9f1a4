/-
 The years' law overwrites a scale that the package gave: a piece of its code, proved by hand. Conditions: none.
-/
import Derived.Test.YtfhjplagjjjlpaaGreatEngE
import Derived.Test.YtfhjplagjjjlpaaGreatProg
set_option linter.unusedVariables false
set_option linter.unusedSimpArgs false
namespace Go.Sx.Over
open Go Go.Proofs Go.RowKit Go.Lib Go.Sx
structure Ov (Z : Nat -> Prop) (w w' : World) : Prop where
 bx : BelowX Z w w'
 row : ∀ (x : Nat) (cs : Array Value) (t : TypeId) (fz : Nat × Nat), w.heap[x]? = some (.cells cs t fz) -> ∃ cs' : Array Value, w'.heap[x]? = some (.cells cs' t fz) /\ cs'.size = cs.size /\ (t ≠ 96 -> cs' = cs)
theorem Ov.refl (Z : Nat -> Prop) (w : World) : Ov Z w w := ⟨⟨rfl, rfl, rfl, Nat.le_refl _, fun _ _ _ => rfl⟩, fun x cs t fz h => ⟨cs, h, rfl, fun _ => rfl⟩⟩
theorem bx_trans {Z : Nat -> Prop} {a b c : World} (h : BelowX Z a b) (k : BelowX Z b c) : BelowX Z a c :=
 ⟨k.os.trans h.os, k.tape.trans h.tape, k.output.trans h.output, Nat.le_trans h.size k.size, fun x hx hz => (k.block x (Nat.lt_of_lt_of_le hx h.size) hz).trans (h.block x hx hz)⟩
theorem Ov.trans {Z : Nat -> Prop} {a b c : World} (h : Ov Z a b) (k : Ov Z b c) : Ov Z a c := by
 refine ⟨bx_trans h.bx k.bx, fun x cs t fz hx => ?_⟩
 obtain ⟨c1, h1, h2, h3⟩ := h.row x cs t fz hx
 obtain ⟨c2, k1, k2, k3⟩ := k.row x c1 t fz h1
 exact ⟨c2, k1, k2.trans h2, fun ht => (k3 ht).trans (h3 ht)⟩
theorem setRow_bx {Z : Nat -> Prop} {w : World} {b : Nat} {cs' : Array Value} (hz : Z b) : BelowX Z w (w.setRow b cs') :=
 ⟨rfl, rfl, rfl, by rw [setRow_size]; exact Nat.le_refl _, fun x hx hn => setRow_other w b x cs' (fun e => by subst e; exact hn hz)⟩
theorem Ov.setRow {Z : Nat -> Prop} {w : World} {b : Nat} {cs cs' : Array Value} (hb : w.heap[b]? = some (.cells cs 96 (0, 0))) (hs : cs'.size = cs.size) (hz : Z b) : Ov Z w (w.setRow b cs') := by
 refine ⟨setRow_bx hz, fun x c t fz hx => ?_⟩
 by_cases e : x = b
 ·subst e
  rw [hb] at hx
  cases hx
  exact ⟨cs', setRow_heap _ _ _ _ _ _ hb, hs, fun h => absurd rfl h⟩
 ·exact ⟨c, (setRow_other w b x cs' e).trans hx, rfl, fun _ => rfl⟩
theorem Ov.alloc (Z : Nat -> Prop) (w : World) (o : Obj) : Ov Z w (w.alloc o) :=
 ⟨⟨rfl, rfl, rfl, (Below.alloc (Below.refl w.heap.size w) (Nat.le_refl _) o).size, fun x hx _ => Below.heap_alloc w o x hx⟩, fun x cs t fz hx => ⟨cs, (Below.heap_alloc w o x (Array.getElem?_eq_some_iff.1 hx).1).trans hx, rfl, fun _ => rfl⟩⟩
theorem Ov.box {Z : Nat -> Prop} {w w' : World} {cs : Array Value} {t : TypeId} (ho : Ov Z (w.alloc (.cells cs t (0, 0))) w') (ht : t ≠ 96) (i : Nat) : w'.cell? ⟨w.heap.size, i, none⟩ = cs[i]? := by
 obtain ⟨cs', h1, _, h3⟩ := ho.row w.heap.size cs t (0, 0) (heap_alloc_new w _)
 have := h3 ht
 subst this
 simp [World.cell?, h1]
set_option maxHeartbeats 2000000 in
set_option maxRecDepth 100000 in
theorem overNone (w : World) (Z : Nat -> Prop) (ad : Option Addr) : Calls Tryz.prog 38 #[.slice ad 0 0] w fun e w' => e = .returned (.tuple #[]) /\ Ov Z w w' := by
 cases ad with
 | none =>
  go_enter Tryz.func38, Tryz.ntmps38
  go_wp2
  go_loopw [3] (fun i wr => i = .int .i64 0 /\ wr = w) (fun i _ => 0)
  case atStart => exact ⟨rfl, rfl⟩
  case round =>
   obtain ⟨rfl, rfl⟩ := hrel
   go_wp2
   go_end0
   exact ⟨rfl, Ov.refl _ _⟩
 | some ad =>
  go_enter Tryz.func38, Tryz.ntmps38
  go_wp2
  go_loopw [3] (fun i wr => i = .int .i64 0 /\ wr = w) (fun i _ => 0)
  case atStart => exact ⟨rfl, rfl⟩
  case round =>
   obtain ⟨rfl, rfl⟩ := hrel
   go_wp2
   go_end0
   exact ⟨rfl, Ov.refl _ _⟩
set_option maxHeartbeats 2000000 in
set_option maxRecDepth 100000 in
theorem overSome (w : World) (Z : Nat -> Prop) (b n cap : Nat) (cs : Array Value) (hn : n <= 140737488355328) (hc : cap <= 9223372036854775807) (hb : w.heap[b]? = some (.cells cs 96 (0, 0))) (hs : cs.size = cap) (hz : Z b) :
  Calls Tryz.prog 38 #[.slice (some ⟨b, 0, none⟩) n cap] w fun e w' => e = .returned (.tuple #[]) /\ Ov Z w w' := by
 go_enter Tryz.func38, Tryz.ntmps38
 go_wp2
 ·have e12 : ((n : Int) + 12).toNat = n + 12 := by omega
  rw [e12]
  go_loopw [3] (fun i wr => ∃ (k : Nat) (cs' : Array Value), k <= n + 12 /\ i = .int .i64 k /\ Ov Z w wr /\ wr.heap[b]? = some (.cells cs' 96 (0, 0)) /\ cs'.size = cap) (fun i _ => n + 12 - (intOf i).toNat)
  case atStart => exact ⟨0, cs, Nat.zero_le _, rfl, Ov.refl _ _, hb, hs⟩
  case round =>
   obtain ⟨k, cs', hk, rfl, ho, hb', hs'⟩ := hrel
   have hfz : wr.frozen? ⟨b, k, none⟩ = false := by simp [World.frozen?, hb']
   by_cases hlt : k < n + 12
   ·have hlc : k < cap := by omega
    have hcell : wr.cell? ⟨b, k, none⟩ = some (cs'.getD k undef) := by simp [World.cell?, hb', Array.getD, hlc, hs']
    have hlt' : (k : Int) < n + 12 := by omega
    go_wp2
    go_round
    case rel =>
     have hset := setCell_eq_setRow wr b k cs' 96 (0, 0) (Value.int IntKind.u16 (IntKind.u16.wrap (9000027 + (k : Int)))) hb'
     refine ⟨k + 1, cs'.setIfInBounds k (Value.int IntKind.u16 (IntKind.u16.wrap (9000027 + (k : Int)))), by omega, by go_num, ?_, ?_, by simp [hs']⟩
     ·rw [hset]
      exact ho.trans (Ov.setRow hb' (by simp) hz)
     ·rw [hset]
      exact setRow_heap _ _ _ _ _ _ hb'
    case measure => simp [intOf]; omega
   ·have hge : ¬ (k : Int) < n + 12 := by omega
    go_wp2
    go_end0
    exact ⟨rfl, ho⟩
 ·go_loopw [3] (fun i wr => ∃ (k : Nat) (cs' : Array Value), k <= cap /\ i = .int .i64 k /\ Ov Z w wr /\ wr.heap[b]? = some (.cells cs' 96 (0, 0)) /\ cs'.size = cap) (fun i _ => cap - (intOf i).toNat)
  case atStart => exact ⟨0, cs, Nat.zero_le _, rfl, Ov.refl _ _, hb, hs⟩
  case round =>
   obtain ⟨k, cs', hk, rfl, ho, hb', hs'⟩ := hrel
   have hfz : wr.frozen? ⟨b, k, none⟩ = false := by simp [World.frozen?, hb']
   by_cases hlt : k < cap
   ·have hlc : k < cap := by omega
    have hcell : wr.cell? ⟨b, k, none⟩ = some (cs'.getD k undef) := by simp [World.cell?, hb', Array.getD, hlc, hs']
    have hlt' : (k : Int) < cap := by omega
    go_wp2
    go_round
    case rel =>
     have hset := setCell_eq_setRow wr b k cs' 96 (0, 0) (Value.int IntKind.u16 (IntKind.u16.wrap (9000027 + (k : Int)))) hb'
     refine ⟨k + 1, cs'.setIfInBounds k (Value.int IntKind.u16 (IntKind.u16.wrap (9000027 + (k : Int)))), by omega, by go_num, ?_, ?_, by simp [hs']⟩
     ·rw [hset]
      exact ho.trans (Ov.setRow hb' (by simp) hz)
     ·rw [hset]
      exact setRow_heap _ _ _ _ _ _ hb'
    case measure => simp [intOf]; omega
   ·have hge : ¬ (k : Int) < cap := by omega
    go_wp2
    go_end0
    exact ⟨rfl, ho⟩
def LimbV (w : World) (Z : Nat -> Prop) (v : Value) : Prop :=
 ∃ (a : Option Addr) (n cap : Nat), v = .slice a n cap /\ n <= cap /\ n <= 140737488355328 /\ cap <= 9223372036854775807 /\ (cap = 0 \/ ∃ b cs, a = some ⟨b, 0, none⟩ /\ w.heap[b]? = some (.cells cs 96 (0, 0)) /\ cs.size = cap /\ Z b)
theorem LimbV.keep {Z : Nat -> Prop} {w w' : World} {v : Value} (h : LimbV w Z v) (o : ∀ (x : Nat) (cs : Array Value), Z x -> w.heap[x]? = some (.cells cs 96 (0, 0)) -> ∃ cs' : Array Value, w'.heap[x]? = some (.cells cs' 96 (0, 0)) /\ cs'.size = cs.size) : LimbV w' Z v := by
 obtain ⟨a, n, cap, h1, h2, h3, h4, h5⟩ := h
 refine ⟨a, n, cap, h1, h2, h3, h4, h5.imp id fun ⟨b, cs, g1, g2, g3, g4⟩ => ?_⟩
 obtain ⟨cs', k1, k2⟩ := o b cs g4 g2
 exact ⟨b, cs', g1, k1, by omega, g4⟩
theorem LimbV.ov {Z : Nat -> Prop} {w w' : World} {v : Value} (h : LimbV w Z v) (o : Ov Z w w') : LimbV w' Z v := h.keep fun x cs _ hx => by
 obtain ⟨cs', g1, g2, _⟩ := o.row x cs 96 (0, 0) hx
 exact ⟨cs', g1, g2⟩
theorem overLimbs {w : World} {Z : Nat -> Prop} {v : Value} (h : LimbV w Z v) : Calls Tryz.prog 38 #[v] w fun e w' => e = .returned (.tuple #[]) /\ Ov Z w w' := by
 obtain ⟨a, n, cap, rfl, h2, h3, h4, h5⟩ := h
 rcases h5 with rfl | ⟨b, cs, rfl, g1, g2, g3⟩
 ·have : n = 0 := by omega
  subst this
  exact overNone w Z a
 ·exact overSome w Z b n cap cs h3 h4 g1 g2 g3
theorem LimbV.one {w : World} {Z : Nat -> Prop} {v : Value} (h : LimbV w Z v) : v.oneCell' = true := by
 obtain ⟨a, n, cap, rfl, _⟩ := h
 rfl
set_option maxHeartbeats 2000000 in
set_option maxRecDepth 100000 in
theorem overWhole {w : World} {Z : Nat -> Prop} {v s : Value} (h : LimbV w Z v) (h1 : s.oneCell' = true) : Calls Tryz.prog 22 #[.agg #[s, v]] w fun e w' => e = .returned (.tuple #[]) /\ Ov Z w w' := by
 have h2 := h.one
 go_enter Tryz.func22, Tryz.ntmps22
 go_wp2_with fail
 refine (overLimbs (h.ov (Ov.alloc Z w _))).mono ?_
 rintro e w' ⟨rfl, ho⟩
 go_wp2
 go_end0
 exact ⟨rfl, (Ov.alloc Z w _).trans ho⟩
set_option maxHeartbeats 2000000 in
set_option maxRecDepth 100000 in
theorem overFrac {w : World} {Z : Nat -> Prop} {v1 s1 v2 s2 : Value} (h : LimbV w Z v1) (k : LimbV w Z v2) (h1 : s1.oneCell' = true) (k1 : s2.oneCell' = true) :
  Calls Tryz.prog 9 #[.agg #[s1, v1, s2, v2]] w fun e w' => e = .returned (.tuple #[]) /\ Ov Z w w' := by
 have h2 := h.one
 have k2 := k.one
 go_enter Tryz.func9, Tryz.ntmps9
 go_wp2_with fail
 refine (overWhole (h.ov (Ov.alloc Z w _)) h1).mono ?_
 rintro e w' ⟨rfl, ho⟩
 have c2 := ho.box (by decide) 2
 have c3 := ho.box (by decide) 3
 simp at c2 c3
 go_wp2_with fail
 refine (overWhole ((k.ov (Ov.alloc Z w _)).ov ho) k1).mono ?_
 rintro e w2 ⟨rfl, ho2⟩
 go_wp2
 go_end0
 exact ⟨rfl, ((Ov.alloc Z w _).trans ho).trans ho2⟩
structure Inv (Z : Nat -> Prop) (b : Nat) (cs : Array Value) (w wr : World) : Prop where
 bx : BelowX Z w wr
 row : ∃ cs' : Array Value, wr.heap[b]? = some (.cells cs' 41 (0, 0)) /\ cs'.size = cs.size /\ ∀ q, q % 5 ≠ 0 -> cs'[q]? = cs[q]?
 lim : ∀ (x : Nat) (cx : Array Value), w.heap[x]? = some (.cells cx 96 (0, 0)) -> ∃ cy : Array Value, wr.heap[x]? = some (.cells cy 96 (0, 0)) /\ cy.size = cx.size
section
variable {Z : Nat -> Prop} {b : Nat} {cs : Array Value} {w wr : World}
theorem Inv.start (h : w.heap[b]? = some (.cells cs 41 (0, 0))) : Inv Z b cs w w := ⟨(Ov.refl Z w).bx, ⟨cs, h, rfl, fun _ _ => rfl⟩, fun x cx hx => ⟨cx, hx, rfl⟩⟩
theorem Inv.ov {w' : World} (h : Inv Z b cs w wr) (o : Ov Z wr w') : Inv Z b cs w w' := by
 obtain ⟨cs', h1, h2, h3⟩ := h.row
 obtain ⟨c2, k1, _, k3⟩ := o.row b cs' 41 (0, 0) h1
 have := k3 (by decide)
 subst this
 refine ⟨bx_trans h.bx o.bx, ⟨c2, k1, h2, h3⟩, fun x cx hx => ?_⟩
 obtain ⟨cy, y1, y2⟩ := h.lim x cx hx
 obtain ⟨cz, z1, z2, _⟩ := o.row x cy 96 (0, 0) y1
 exact ⟨cz, z1, z2.trans y2⟩
theorem Inv.set (h : Inv Z b cs w wr) (hz : Z b) (k : Nat) (v : Value) : Inv Z b cs w (wr.setCell ⟨b, k * 5, none⟩ v) := by
 obtain ⟨cs', h1, h2, h3⟩ := h.row
 rw [setCell_eq_setRow wr b (k * 5) cs' 41 (0, 0) v h1]
 refine ⟨bx_trans h.bx (setRow_bx hz), ⟨cs'.setIfInBounds (k * 5) v, setRow_heap _ _ _ _ _ _ h1, by simp [h2], fun q hq => ?_⟩, fun x cx hx => ?_⟩
 ·rw [Array.getElem?_setIfInBounds_ne (by omega)]
  exact h3 q hq
 ·obtain ⟨cy, y1, y2⟩ := h.lim x cx hx
  exact ⟨cy, (setRow_other wr b x _ (fun e => by subst e; rw [h1] at y1; cases y1)).trans y1, y2⟩
theorem Inv.cell (h : Inv Z b cs w wr) {q : Nat} {u : Value} (hq : q % 5 ≠ 0) (hu : cs[q]? = some u) : wr.cell? ⟨b, q, none⟩ = some u := by
 obtain ⟨cs', h1, _, h3⟩ := h.row
 simp [World.cell?, h1, h3 q hq, hu]
theorem Inv.cell0 (h : Inv Z b cs w wr) {q : Nat} (hq : q < cs.size) : ∃ u, wr.cell? ⟨b, q, none⟩ = some u := by
 obtain ⟨cs', h1, h2, _⟩ := h.row
 have : q < cs'.size := by omega
 exact ⟨cs'[q], by simp [World.cell?, h1, this]⟩
theorem Inv.frz (h : Inv Z b cs w wr) (q : Nat) : wr.frozen? ⟨b, q, none⟩ = false := by
 obtain ⟨cs', h1, _⟩ := h.row
 simp [World.frozen?, h1]
theorem Inv.limb (h : Inv Z b cs w wr) {v : Value} (hv : LimbV w Z v) : LimbV wr Z v := hv.keep fun x cx _ hx => h.lim x cx hx
end
end Go.Sx.Over
