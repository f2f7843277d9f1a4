/-
  What was lent is as it was: fractions and rows. Conditions: as typed.
-/
import Derived.Test.YtehofgnfaiefkaaGreatLentH
import Derived.Test.YtehofgnfaiefkaaGreatLentL
set_option linter.unusedVariables false
set_option linter.unusedSimpArgs false
namespace Go.Sx.Lent
open Go Go.Proofs Go.RowKit Go.Lib Go.Sx

/-- What reads as data, and what is lent, anywhere. -/
abbrev RD (w : World) (d : D) (k : K) (v : Value) : Prop := Rd Tryz.prog w (fun b => b < w.heap.size) d k v
abbrev LT (w : World) (d : D) (k : K) (v : Value) : Prop := Lt Tryz.prog w (fun b => b < w.heap.size) d k v
theorem RDbelow {w w' : World} {d : D} {k : K} {v : Value} (h : RD w d k v) (hb : Below w.heap.size w w') : RD w' d k v :=
  Rd.mono (fun b hb' => Nat.lt_of_lt_of_le hb' hb.size) (fun b hb' => hb.block b hb') h
theorem LTbelow {w w' : World} {d : D} {k : K} {v : Value} (h : LT w d k v) (hb : Below w.heap.size w w') : LT w' d k v :=
  Lt.mono (fun b hb' _ => Nat.lt_of_lt_of_le hb' hb.size) (fun b hb' => hb.block b hb') h
theorem LTrd {w : World} {d : D} {k : K} {v : Value} (h : LT w d k v) : RD w d k v := Lt.rd (fun _ h _ => h) h

def I64 (a : Int) : Prop := IntKind.i64.min ≤ a ∧ a ≤ IntKind.i64.max

theorem i64_small {a : Int} (h : -1000000000000 ≤ a) (g : a ≤ 1000000000000) : I64 a := by
  have h1 : IntKind.i64.min = -9223372036854775808 := by rfl
  have h2 : IntKind.i64.max = 9223372036854775807 := by rfl
  unfold I64
  omega

/-- What is asked of the comparisons. -/
structure Sames : Prop where
  whole : ∀ {w : World} {s : Bool} {m : Nat} {g : Nat → Nat → D} {v u : Value}, GlobOk Tryz.prog w → RD w (.sl m g) (.sl 78) v → RD w (.sl m g) (.sl 78) u →
    Calls Tryz.prog 41 #[.agg #[.bool s, v], .agg #[.bool s, u]] w fun e w' => e = .returned (.bool true) ∧ Below w.heap.size w w'
  frac : ∀ {w : World} {s1 s2 : Bool} {m1 m2 : Nat} {g1 g2 : Nat → Nat → D} {v1 v2 u1 u2 : Value}, GlobOk Tryz.prog w → RD w (.sl m1 g1) (.sl 78) v1 → RD w (.sl m2 g2) (.sl 78) v2 → RD w (.sl m1 g1) (.sl 78) u1 → RD w (.sl m2 g2) (.sl 78) u2 →
    Calls Tryz.prog 17 #[.agg #[.bool s1, v1, .bool s2, v2], .agg #[.bool s1, u1, .bool s2, u2]] w fun e w' => e = .returned (.bool true) ∧ Below w.heap.size w w'
  row : ∀ {w : World} {a b k : Int} {s1 s2 : Bool} {m1 m2 : Nat} {g1 g2 : Nat → Nat → D} {v1 v2 u1 u2 : Value}, GlobOk Tryz.prog w → I64 a → I64 b → I64 k → RD w (.sl m1 g1) (.sl 78) v1 → RD w (.sl m2 g2) (.sl 78) v2 → RD w (.sl m1 g1) (.sl 78) u1 → RD w (.sl m2 g2) (.sl 78) u2 →
    Calls Tryz.prog 52 #[.agg #[.int .i64 a, .int .i64 b, .int .i64 k, .bool s1, v1, .bool s2, v2], .agg #[.int .i64 a, .int .i64 b, .int .i64 k, .bool s1, u1, .bool s2, u2]] w fun e w' => e = .returned (.bool true) ∧ Below w.heap.size w w'
  table : ∀ {w : World} {y : ByteArray} {two : Bool} {n : Nat} {f : Nat → Nat → D} {v u : Value}, GlobOk Tryz.prog w → RD w (.sl n f) (.sl 34) v → RD w (.sl n f) (.sl 34) u →
    Calls Tryz.prog 27 #[.agg #[.string y, .bool two, v], .agg #[.string y, .bool two, u]] w fun e w' => e = .returned (.bool true) ∧ Below w.heap.size w w'

/-- The worlds in which nothing that was there is written. -/
structure Bw (w : World) where
  v : World
  h : Below w.heap.size w v
instance (w : World) : Nonempty (Bw w) := ⟨⟨w, Below.refl _ _⟩⟩
theorem Bw.then {w : World} (x : Bw w) {w' : World} (h : Below x.v.heap.size x.v w') : Below w.heap.size w w' := x.h.trans (h.mono x.h.size)
theorem calls_bw {P : Program} {f : FuncId} {args : Array Value} {w : World} {x : Bw w} {v : Value} (h : Calls P f args x.v fun e w' => e = .returned v ∧ Below x.v.heap.size x.v w') :
    Calls P f args x.v fun e w' => e = .returned v ∧ ∃ y : Bw w, w' = y.v := h.mono fun _ w' ⟨he, hb⟩ => ⟨he, ⟨w', x.then hb⟩, rfl⟩
theorem wp_region_bw {P : Program} {id : Nat} {Q : Exit → Act → World → Prop} {a : Act} {w : World} {l : List Oper} (hm : P.follows .mixedOrders = true) (hB : Region.lexB .any l.toArray = true)
    (h : wpQuiet P l.toArray (fun w' => ∃ x : Bw w, w' = x.v) (fun a' => ∀ w', (∃ x : Bw w, w' = x.v) → Q .normal a' w') l a) : (Code.region id l.toArray true).wp P Q a w :=
  wp_region_quiet (C := fun w' => ∃ x : Bw w, w' = x.v) hm hB ⟨⟨_, drewN_below w 1⟩, rfl⟩ (by simpa using h)

set_option maxHeartbeats 4000000 in
set_option maxRecDepth 100000 in
theorem keptWhole (S : Sames) {w : World} {s : Bool} {m : Nat} {g : Nat → Nat → D} {v u : Value} (hg : GlobOk Tryz.prog w) (h : LT w (.sl m g) (.sl 78) v) (k : RD w (.sl m g) (.sl 78) u) (hm : 2 * (m + 12) ≤ 140737488355328) :
    Calls Tryz.prog 76 #[.agg #[.bool s, v], .agg #[.bool s, u]] w fun e w' => e = .returned (.bool true) ∧ Below w.heap.size w w' := by
  obtain ⟨hb0, hs0, ha0, hr0⟩ := two_new w #[.bool s, v] #[.bool s, u] 30 30
  have ov := Rd.one (LTrd h)
  have ou := Rd.one k
  go_enter Tryz.func76, Tryz.ntmps76
  go_wp2_with fail
  refine (S.whole (hg.below hb0) (RDbelow (LTrd h) hb0) (RDbelow k hb0)).mono ?_
  rintro e w1 ⟨rfl, hb1⟩
  have hB1 := hb0.trans (hb1.mono (by omega))
  have ha1 := (hb1.block _ (by omega)).trans ha0
  have hr1 := (hb1.block _ (by omega)).trans hr0
  have c1 := cell_of ha1 (i := 1)
  have d1 := cell_of hr1 (i := 1)
  simp at c1 d1
  go_wp2_with fail
  refine (keptLimbs (lentL_of (LTbelow h hB1)) (readL_of (RDbelow k hB1) hm).1).mono ?_
  rintro e w2 ⟨rfl, hb2⟩
  go_wp2
  go_ret
  exact ⟨rfl, hB1.trans (hb2.mono hB1.size)⟩

set_option maxHeartbeats 4000000 in
set_option maxRecDepth 100000 in
theorem keptFrac (S : Sames) {w : World} {s1 s2 : Bool} {m1 m2 : Nat} {g1 g2 : Nat → Nat → D} {v1 v2 u1 u2 : Value} (hg : GlobOk Tryz.prog w) (h1 : LT w (.sl m1 g1) (.sl 78) v1) (h2 : LT w (.sl m2 g2) (.sl 78) v2) (k1 : RD w (.sl m1 g1) (.sl 78) u1) (k2 : RD w (.sl m2 g2) (.sl 78) u2)
    (hm1 : 2 * (m1 + 12) ≤ 140737488355328) (hm2 : 2 * (m2 + 12) ≤ 140737488355328) :
    Calls Tryz.prog 53 #[.agg #[.bool s1, v1, .bool s2, v2], .agg #[.bool s1, u1, .bool s2, u2]] w fun e w' => e = .returned (.bool true) ∧ Below w.heap.size w w' := by
  obtain ⟨hb0, hs0, ha0, hr0⟩ := two_new w #[.bool s1, v1, .bool s2, v2] #[.bool s1, u1, .bool s2, u2] 32 32
  have ov1 := Rd.one (LTrd h1)
  have ov2 := Rd.one (LTrd h2)
  have ou1 := Rd.one k1
  have ou2 := Rd.one k2
  go_enter Tryz.func53, Tryz.ntmps53
  go_wp2_with fail
  refine (S.frac (hg.below hb0) (RDbelow (LTrd h1) hb0) (RDbelow (LTrd h2) hb0) (RDbelow k1 hb0) (RDbelow k2 hb0)).mono ?_
  rintro e w1 ⟨rfl, hb1⟩
  have hB1 := hb0.trans (hb1.mono (by omega))
  have ha1 := (hb1.block _ (by omega)).trans ha0
  have hr1 := (hb1.block _ (by omega)).trans hr0
  have c0 := cell_of ha1 (i := 0)
  have c1 := cell_of ha1 (i := 1)
  have d0 := cell_of hr1 (i := 0)
  have d1 := cell_of hr1 (i := 1)
  simp at c0 c1 d0 d1
  go_wp2_with fail
  refine (keptWhole S (hg.below hB1) (LTbelow h1 hB1) (RDbelow k1 hB1) hm1).mono ?_
  rintro e w2 ⟨rfl, hb2⟩
  have hB2 := hB1.trans (hb2.mono hB1.size)
  have hl1 := (Array.getElem?_eq_some_iff.1 ha1).1
  have hl2 := (Array.getElem?_eq_some_iff.1 hr1).1
  have ha2 := (hb2.block _ hl1).trans ha1
  have hr2 := (hb2.block _ hl2).trans hr1
  clear c0 c1 d0 d1
  have c2 := cell_of ha2 (i := 2)
  have c3 := cell_of ha2 (i := 3)
  have d2 := cell_of hr2 (i := 2)
  have d3 := cell_of hr2 (i := 3)
  simp at c2 c3 d2 d3
  go_wp2_with fail
  refine (keptWhole S (hg.below hB2) (LTbelow h2 hB2) (RDbelow k2 hB2) hm2).mono ?_
  rintro e w3 ⟨rfl, hb3⟩
  go_wp2
  go_ret
  exact ⟨rfl, hB2.trans (hb3.mono hB2.size)⟩

set_option maxHeartbeats 4000000 in
set_option maxRecDepth 100000 in
theorem keptRow (S : Sames) {w : World} {a b k : Int} {s1 s2 : Bool} {m1 m2 : Nat} {g1 g2 : Nat → Nat → D} {v1 v2 u1 u2 : Value} (hg : GlobOk Tryz.prog w) (ia : I64 a) (ib : I64 b) (ik : I64 k) (h1 : LT w (.sl m1 g1) (.sl 78) v1) (h2 : LT w (.sl m2 g2) (.sl 78) v2) (k1 : RD w (.sl m1 g1) (.sl 78) u1) (k2 : RD w (.sl m2 g2) (.sl 78) u2)
    (hm1 : 2 * (m1 + 12) ≤ 140737488355328) (hm2 : 2 * (m2 + 12) ≤ 140737488355328) :
    Calls Tryz.prog 25 #[.agg #[.int .i64 a, .int .i64 b, .int .i64 k, .bool s1, v1, .bool s2, v2], .agg #[.int .i64 a, .int .i64 b, .int .i64 k, .bool s1, u1, .bool s2, u2]] w fun e w' => e = .returned (.bool true) ∧ Below w.heap.size w w' := by
  obtain ⟨hb0, hs0, ha0, hr0⟩ := two_new w #[.int .i64 a, .int .i64 b, .int .i64 k, .bool s1, v1, .bool s2, v2] #[.int .i64 a, .int .i64 b, .int .i64 k, .bool s1, u1, .bool s2, u2] 34 34
  have ov1 := Rd.one (LTrd h1)
  have ov2 := Rd.one (LTrd h2)
  have ou1 := Rd.one k1
  have ou2 := Rd.one k2
  go_enter Tryz.func25, Tryz.ntmps25
  go_wp2_with fail
  refine (S.row (hg.below hb0) ia ib ik (RDbelow (LTrd h1) hb0) (RDbelow (LTrd h2) hb0) (RDbelow k1 hb0) (RDbelow k2 hb0)).mono ?_
  rintro e w1 ⟨rfl, hb1⟩
  have hB1 := hb0.trans (hb1.mono (by omega))
  have ha1 := (hb1.block _ (by omega)).trans ha0
  have hr1 := (hb1.block _ (by omega)).trans hr0
  have c3 := cell_of ha1 (i := 3)
  have c4 := cell_of ha1 (i := 4)
  have c5 := cell_of ha1 (i := 5)
  have c6 := cell_of ha1 (i := 6)
  have d3 := cell_of hr1 (i := 3)
  have d4 := cell_of hr1 (i := 4)
  have d5 := cell_of hr1 (i := 5)
  have d6 := cell_of hr1 (i := 6)
  simp at c3 c4 c5 c6 d3 d4 d5 d6
  go_wp2_with fail
  refine (keptFrac S (hg.below hB1) (LTbelow h1 hB1) (LTbelow h2 hB1) (RDbelow k1 hB1) (RDbelow k2 hB1) hm1 hm2).mono ?_
  rintro e w2 ⟨rfl, hb2⟩
  go_wp2
  go_ret
  exact ⟨rfl, hB1.trans (hb2.mono hB1.size)⟩

end Go.Sx.Lent
