/-
  Comparing what was lent with what it was, as contracts. Conditions: as typed.
-/
import Derived.Test.YtehofgnfaiefkaaGreatLentN
set_option linter.unusedVariables false
set_option linter.unusedSimpArgs false
namespace Go.Sx.Lent
open Go Go.Proofs Go.RowKit Go.Lib Go.Sx

set_option maxHeartbeats 4000000 in
set_option maxRecDepth 100000 in
theorem keptTable (S : Sames) {w : World} {y : ByteArray} {two : Bool} {n : Nat} {f : Nat → Nat → D} {v u : Value} (hg : GlobOk Tryz.prog w) (h : LT w (.sl n f) (.sl 34) v) (k : RD w (.sl n f) (.sl 34) u)
    (hok : ∀ i, i < n → RowOk (f i)) (hl : ∀ i, i < n → 2 * ((f i 4).toS.n + 12) ≤ 140737488355328 ∧ 2 * ((f i 6).toS.n + 12) ≤ 140737488355328) :
    Calls Tryz.prog 15 #[.agg #[.string y, .bool two, v], .agg #[.string y, .bool two, u]] w fun e w' => e = .returned (.bool true) ∧ Below w.heap.size w w' := by
  obtain ⟨hb0, hs0, ha0, hr0⟩ := two_new w #[.string y, .bool two, v] #[.string y, .bool two, u] 24 24
  have ov := Rd.one (LTrd h)
  have ou := Rd.one k
  go_enter Tryz.func15, Tryz.ntmps15
  go_wp2_with fail
  refine (S.table (hg.below hb0) (RDbelow (LTrd h) hb0) (RDbelow k hb0)).mono ?_
  rintro e w1 ⟨rfl, hb1⟩
  have hB1 := hb0.trans (hb1.mono (by omega))
  have ha1 := (hb1.block _ (by omega)).trans ha0
  have hr1 := (hb1.block _ (by omega)).trans hr0
  have c2 := cell_of ha1 (i := 2)
  have d2 := cell_of hr1 (i := 2)
  simp at c2 d2
  go_wp2_with fail
  refine (keptRows S (hg.below hB1) (LTbelow h hB1) (RDbelow k hB1) hok hl).mono ?_
  rintro e w2 ⟨rfl, hb2⟩
  go_wp2
  go_ret
  exact ⟨rfl, hB1.trans (hb2.mono hB1.size)⟩

theorem args_cons {w : World} {Z : Nat → Prop} {sh : VSh} {shs : List VSh} {vals : List Value} {ds : List D} (h : ArgVs Tryz.prog w Z (sh :: shs) vals ds) : ∃ v vs d1 d2, vals = v :: vs ∧ ds = d1 ++ d2 ∧ ArgV Tryz.prog w Z sh v d1 ∧ ArgVs Tryz.prog w Z shs vs d2 := by
  cases vals with
  | nil => exact h.elim
  | cons v vs => obtain ⟨d1, d2, h1, h2, h3⟩ := h; exact ⟨v, vs, d1, d2, rfl, h1, h2, h3⟩
theorem args_nil {w : World} {Z : Nat → Prop} {vals : List Value} {ds : List D} (h : ArgVs Tryz.prog w Z [] vals ds) : vals = [] ∧ ds = [] := by
  cases vals with
  | nil => exact ⟨rfl, h⟩
  | cons v vs => exact h.elim
theorem cells_cons {w : World} {Z : Nat → Prop} {p : K × Bool} {ps : List (K × Bool)} {vals : List Value} {ds : List D} (h : ArgCells Tryz.prog w Z (p :: ps) vals ds) : ∃ v vs d ds', vals = v :: vs ∧ ds = d :: ds' ∧ ArgCell Tryz.prog w Z p v d ∧ ArgCells Tryz.prog w Z ps vs ds' := by
  cases vals with
  | nil => exact h.elim
  | cons v vs => cases ds with
    | nil => exact h.elim
    | cons d ds => exact ⟨v, vs, d, ds, rfl, rfl, h.1, h.2⟩
theorem cells_nil {w : World} {Z : Nat → Prop} {vals : List Value} {ds : List D} (h : ArgCells Tryz.prog w Z [] vals ds) : vals = [] ∧ ds = [] := by
  cases vals with
  | nil => cases ds with
    | nil => exact ⟨rfl, rfl⟩
    | cons d ds => exact h.elim
  | cons v vs => exact h.elim

/-- A table as an argument. -/
theorem argT {w : World} {Z : Nat → Prop} {o : Bool} {v : Value} {ds : List D} (h : ArgV Tryz.prog w Z (.agg [(.str, false), (.bool, false), (.sl 34, o)]) v ds) :
    ∃ y two n f u, v = .agg #[.string y, .bool two, u] ∧ ds = [.str y, .bool two, .sl n f] ∧ ArgCell Tryz.prog w Z (.sl 34, o) u (.sl n f) := by
  obtain ⟨cs, rfl, hc⟩ := h
  obtain ⟨v0, r0, d0, s0, e0, rfl, a0, hc⟩ := cells_cons hc
  obtain ⟨v1, r1, d1, s1, rfl, rfl, a1, hc⟩ := cells_cons hc
  obtain ⟨v2, r2, d2, s2, rfl, rfl, a2, hc⟩ := cells_cons hc
  obtain ⟨rfl, rfl⟩ := cells_nil hc
  obtain ⟨y, rfl, rfl⟩ := rd_str (show Rd Tryz.prog w _ d0 .str v0 from a0)
  obtain ⟨two, rfl, rfl⟩ := rd_bool (show Rd Tryz.prog w _ d1 .bool v1 from a1)
  obtain ⟨n, f, rfl⟩ : ∃ n f, d2 = .sl n f := by
    cases o with
    | false => exact rd_sl (show Rd Tryz.prog w _ d2 (.sl 34) v2 from a2)
    | true =>
      have a2 : Lt Tryz.prog w Z d2 (.sl 34) v2 := a2
      cases d2 with
      | int n => obtain ⟨ik, hik, _⟩ := a2; cases hik
      | bool b => exact absurd a2.1 (by simp)
      | str b => exact absurd a2.1 (by simp)
      | sl n f => exact ⟨n, f, rfl⟩
  have : cs = #[.string y, .bool two, v2] := Array.ext' e0
  exact ⟨y, two, n, f, v2, by rw [this], rfl, a2⟩

/-- A table's bounds. -/
def TabB (n : Nat) (f : Nat → Nat → D) : Prop := 88 * (n + 12) ≤ 140737488355328 ∧ ∀ i, i < n → 2 * ((f i 4).toS.n + 12) ≤ 140737488355328 ∧ 2 * ((f i 6).toS.n + 12) ≤ 140737488355328

theorem boolOk {w w' : World} {R : Nat → Prop} {r : Bool} : ResOk Tryz.prog w R w' [.cell .bool false] (.bool r) [.bool r] :=
  ⟨[.bool r], R, fun _ => none, rfl, fun _ h => h, fun _ h => .inl h, fun _ _ => rfl, fun _ _ h => (by cases h), [.bool r], [], rfl, ⟨⟨rfl, rfl⟩, trivial⟩, rfl⟩

def sgKT : Sig := ⟨[.agg [(.str, false), (.bool, false), (.sl 34, true)], .agg [(.str, false), (.bool, false), (.sl 34, false)]], [.cell .bool false]⟩

theorem keptTable_ok {pr : Pred} (S : Sames) (h1 : ∀ y two n f y' two' n' f', pr.pre [.str y, .bool two, .sl n f, .str y', .bool two', .sl n' f'] → y = y' ∧ two = two' ∧ n = n' ∧ f = f' ∧ TabB n f)
    (h2 : ∀ y two n f, pr.post [.str y, .bool two, .sl n f, .str y, .bool two, .sl n f] [.bool true]) : KeptOK Tryz.prog 15 sgKT pr := by
  intro w vals ds hg h hpre
  obtain ⟨t, ts, d1, d2, rfl, rfl, a1, h⟩ := args_cons h
  obtain ⟨u, us, d3, d4, rfl, rfl, a2, h⟩ := args_cons h
  obtain ⟨rfl, rfl⟩ := args_nil h
  obtain ⟨y, two, n, f, v1, rfl, rfl, b1⟩ := argT a1
  obtain ⟨y', two', n', f', v2, rfl, rfl, b2⟩ := argT a2
  obtain ⟨rfl, rfl, rfl, rfl, hb1, hb2⟩ := h1 _ _ _ _ _ _ _ _ hpre
  have b1 : Lt Tryz.prog w (fun _ => True) (.sl n f) (.sl 34) v1 := b1
  have b2 : RD w (.sl n f) (.sl 34) v2 := b2
  have b1 : LT w (.sl n f) (.sl 34) v1 := Lt.mono (fun b _ hb => hb) (fun b _ => rfl) b1
  obtain ⟨_, _, hok⟩ := readR_of b2 hb1 hb2
  refine (keptTable S hg b1 b2 hok hb2).mono ?_
  rintro e w' ⟨rfl, hb⟩
  exact ⟨_, [.bool true], rfl, h2 _ _ _ _, hb, boolOk⟩

/-! ### The comparisons -/

theorem true_of {f : FuncId} {sg : Sig} {pr : Pred} (hc : ConOK Tryz.prog f sg pr) (hres : sg.res = [.cell .bool false]) {w : World} {vals : List Value} {ds : List D} (hg : GlobOk Tryz.prog w) (ha : ResVs Tryz.prog w (fun b => b < w.heap.size) (fun _ => none) 0 sg.args vals ds) (hp : pr.pre ds) (ht : ∀ r, pr.post ds [.bool r] → r = true) :
    Calls Tryz.prog f vals.toArray w fun e w' => e = .returned (.bool true) ∧ Below w.heap.size w w' := by
  refine (hc w _ vals ds hg (fun _ h => h) ha hp).mono ?_
  rintro e w' ⟨v, rs, rfl, hpost, hb, vals', R', ow', rfl, _, _, _, _, hr⟩
  rw [hres] at hr
  cases vals' with
  | nil => exact hr.elim
  | cons v vs =>
    obtain ⟨d1, d2, rfl, hv, hvs⟩ := hr
    cases vs with
    | cons _ _ => exact hvs.elim
    | nil =>
      have hvs : d2 = [] := hvs
      subst hvs
      match d1, hv with
      | [d], hv =>
        obtain ⟨r, rfl, rfl⟩ := rd_bool (show Rd Tryz.prog w' R' d .bool v from hv.1)
        rw [List.append_nil] at hpost
        rw [ht r hpost]
        exact ⟨rfl, hb⟩
      | [], hv => exact hv.elim
      | _ :: _ :: _, hv => exact hv.2.elim

def sgSW : Sig := ⟨[.agg [(.bool, false), (.sl 78, false)], .agg [(.bool, false), (.sl 78, false)]], [.cell .bool false]⟩
def shF : VSh := .agg [(.bool, false), (.sl 78, false), (.bool, false), (.sl 78, false)]
def shR : VSh := .agg [(.int .i64, false), (.int .i64, false), (.int .i64, false), (.bool, false), (.sl 78, false), (.bool, false), (.sl 78, false)]
def shT : VSh := .agg [(.str, false), (.bool, false), (.sl 34, false)]
def sgSF : Sig := ⟨[shF, shF], [.cell .bool false]⟩
def sgSR : Sig := ⟨[shR, shR], [.cell .bool false]⟩
def sgST : Sig := ⟨[shT, shT], [.cell .bool false]⟩

theorem sames_of {pW pF pR pT : Pred} (cW : ConOK Tryz.prog 41 sgSW pW) (cF : ConOK Tryz.prog 17 sgSF pF) (cR : ConOK Tryz.prog 52 sgSR pR) (cT : ConOK Tryz.prog 27 sgST pT)
    (iW : ∀ s m g, pW.pre [.bool s, .sl m g, .bool s, .sl m g] ∧ ∀ r, pW.post [.bool s, .sl m g, .bool s, .sl m g] [.bool r] → r = true)
    (iF : ∀ s m g t n h, pF.pre [.bool s, .sl m g, .bool t, .sl n h, .bool s, .sl m g, .bool t, .sl n h] ∧ ∀ r, pF.post [.bool s, .sl m g, .bool t, .sl n h, .bool s, .sl m g, .bool t, .sl n h] [.bool r] → r = true)
    (iR : ∀ a b k s m g t n h, pR.pre [.int a, .int b, .int k, .bool s, .sl m g, .bool t, .sl n h, .int a, .int b, .int k, .bool s, .sl m g, .bool t, .sl n h] ∧ ∀ r, pR.post [.int a, .int b, .int k, .bool s, .sl m g, .bool t, .sl n h, .int a, .int b, .int k, .bool s, .sl m g, .bool t, .sl n h] [.bool r] → r = true)
    (iT : ∀ y t n f, pT.pre [.str y, .bool t, .sl n f, .str y, .bool t, .sl n f] ∧ ∀ r, pT.post [.str y, .bool t, .sl n f, .str y, .bool t, .sl n f] [.bool r] → r = true) : Sames where
  whole {w s m g v u} hg h k := true_of (vals := [.agg #[.bool s, v], .agg #[.bool s, u]]) (ds := [.bool s, .sl m g, .bool s, .sl m g]) cW rfl hg
    ⟨[.bool s, .sl m g], [.bool s, .sl m g], rfl, ⟨_, rfl, ⟨rfl, rfl⟩, h, trivial⟩, [.bool s, .sl m g], [], rfl, ⟨_, rfl, ⟨rfl, rfl⟩, k, trivial⟩, rfl⟩ (iW s m g).1 (iW s m g).2
  frac {w s1 s2 m1 m2 g1 g2 v1 v2 u1 u2} hg h1 h2 k1 k2 := true_of (vals := [.agg #[.bool s1, v1, .bool s2, v2], .agg #[.bool s1, u1, .bool s2, u2]]) (ds := [.bool s1, .sl m1 g1, .bool s2, .sl m2 g2, .bool s1, .sl m1 g1, .bool s2, .sl m2 g2]) cF rfl hg
    ⟨[.bool s1, .sl m1 g1, .bool s2, .sl m2 g2], [.bool s1, .sl m1 g1, .bool s2, .sl m2 g2], rfl, ⟨_, rfl, ⟨rfl, rfl⟩, h1, ⟨rfl, rfl⟩, h2, trivial⟩, [.bool s1, .sl m1 g1, .bool s2, .sl m2 g2], [], rfl, ⟨_, rfl, ⟨rfl, rfl⟩, k1, ⟨rfl, rfl⟩, k2, trivial⟩, rfl⟩ (iF _ _ _ _ _ _).1 (iF _ _ _ _ _ _).2
  row {w a b k s1 s2 m1 m2 g1 g2 v1 v2 u1 u2} hg ia ib ik h1 h2 k1 k2 := true_of (vals := [.agg #[.int .i64 a, .int .i64 b, .int .i64 k, .bool s1, v1, .bool s2, v2], .agg #[.int .i64 a, .int .i64 b, .int .i64 k, .bool s1, u1, .bool s2, u2]])
    (ds := [.int a, .int b, .int k, .bool s1, .sl m1 g1, .bool s2, .sl m2 g2, .int a, .int b, .int k, .bool s1, .sl m1 g1, .bool s2, .sl m2 g2]) cR rfl hg
    ⟨[.int a, .int b, .int k, .bool s1, .sl m1 g1, .bool s2, .sl m2 g2], [.int a, .int b, .int k, .bool s1, .sl m1 g1, .bool s2, .sl m2 g2], rfl, ⟨_, rfl, ⟨.i64, rfl, rfl, ia.1, ia.2⟩, ⟨.i64, rfl, rfl, ib.1, ib.2⟩, ⟨.i64, rfl, rfl, ik.1, ik.2⟩, ⟨rfl, rfl⟩, h1, ⟨rfl, rfl⟩, h2, trivial⟩,
      [.int a, .int b, .int k, .bool s1, .sl m1 g1, .bool s2, .sl m2 g2], [], rfl, ⟨_, rfl, ⟨.i64, rfl, rfl, ia.1, ia.2⟩, ⟨.i64, rfl, rfl, ib.1, ib.2⟩, ⟨.i64, rfl, rfl, ik.1, ik.2⟩, ⟨rfl, rfl⟩, k1, ⟨rfl, rfl⟩, k2, trivial⟩, rfl⟩ (iR _ _ _ _ _ _ _ _ _).1 (iR _ _ _ _ _ _ _ _ _).2
  table {w y two n f v u} hg h k := true_of (vals := [.agg #[.string y, .bool two, v], .agg #[.string y, .bool two, u]]) (ds := [.str y, .bool two, .sl n f, .str y, .bool two, .sl n f]) cT rfl hg
    ⟨[.str y, .bool two, .sl n f], [.str y, .bool two, .sl n f], rfl, ⟨_, rfl, ⟨rfl, rfl⟩, ⟨rfl, rfl⟩, h, trivial⟩, [.str y, .bool two, .sl n f], [], rfl, ⟨_, rfl, ⟨rfl, rfl⟩, ⟨rfl, rfl⟩, k, trivial⟩, rfl⟩ (iT _ _ _ _).1 (iT _ _ _ _).2

end Go.Sx.Lent
