/-
  Lending and overwriting a table, as contracts. Conditions: as typed.
-/
import Derived.Test.YtehofgnfaiefkaaGreatLentK
set_option linter.unusedVariables false
set_option linter.unusedSimpArgs false
namespace Go.Sx.Lent
open Go Go.Proofs Go.RowKit Go.Lib Go.Sx

def ks7 : List K := [.int .i64, .int .i64, .int .i64, .bool, .sl 78, .bool, .sl 78]

theorem marksR_get {q : Nat} (hq : q < 84) : (marksR 12)[q]? = some (tailC ks7 q) := by
  have h : (List.range 84).map (fun q => (marksR 12)[q]?) = (List.range 84).map (fun q => some (tailC ks7 q)) := by kernel_rfl
  have := congrArg (fun l => l[q]?) h
  simpa [hq] using this
theorem marksR_len : (marksR 12).length = 84 := by kernel_rfl

theorem ltR_of {w : World} {Z : Nat → Prop} {n b : Nat} {f : Nat → Nat → D} {cs : Array Value} {L : List Value} (hz : Z b) (hc : w.heap[b]? = some (.cells cs 34 (0, 0))) (hcs : cs.toList = L ++ marksR 12) (hL : LRows w Z L (rowsOf n f)) (ho : ∀ i, i < n → RowOk (f i)) (hn : n + 12 ≤ 140737488355328) :
    Lt Tryz.prog w Z (.sl n f) (.sl 34) (.slice (some ⟨b, 0, none⟩) n (n + 12)) := by
  have hlen : L.length = n * 7 := by rw [hL.1, rows_len]
  have hsz : cs.size = (n + 12) * 7 := by rw [← Array.length_toList, hcs, List.length_append, hlen, marksR_len]; omega
  have get : ∀ j, cs[j]? = (L ++ marksR 12)[j]? := fun j => by rw [← hcs, Array.getElem?_toList]
  have getL : ∀ j x, L[j]? = some x → cs[j]? = some x := fun j x hx => by rw [get, List.getElem?_append_left (List.getElem?_eq_some_iff.1 hx).1]; exact hx
  refine ⟨34, b, cs, rfl, rfl, hn, hz, hc, fun ks hks => ?_⟩
  rw [kindR] at hks
  cases hks
  refine ⟨hsz, fun i j kk hi hj => ?_, fun q hq => ?_⟩
  · obtain ⟨u1, u2, c0, c1, c2, c3, c4, c5, c6, l1, l2⟩ := hL.2 i _ (rows_get hi)
    obtain ⟨a, b', k, s1, m1, g1, s2, m2, g2, d0, d1, d2, d3, d4, d5, d6, o1, o2, z1, z2, y0, y1, y2⟩ := ho i hi
    have e4 : (rowOf (f i)).xs = ints (limbsI m1 g1) := by show ints (limbsI (f i 4).toS.n (f i 4).toS.f) = _; rw [d4]; rfl
    have e6 : (rowOf (f i)).ys = ints (limbsI m2 g2) := by show ints (limbsI (f i 6).toS.n (f i 6).toS.f) = _; rw [d6]; rfl
    rw [e4] at l1
    rw [e6] at l2
    match j, hj with
    | 0, hj =>
      cases hj
      refine ⟨_, getL _ _ c0, ?_⟩
      rw [d0]
      exact ⟨.i64, rfl, by show Value.int .i64 (f i 0).toI = _; rw [d0]; rfl, y0.1, y0.2⟩
    | 1, hj =>
      cases hj
      refine ⟨_, getL _ _ c1, ?_⟩
      rw [d1]
      exact ⟨.i64, rfl, by show Value.int .i64 (f i 1).toI = _; rw [d1]; rfl, y1.1, y1.2⟩
    | 2, hj =>
      cases hj
      refine ⟨_, getL _ _ c2, ?_⟩
      rw [d2]
      exact ⟨.i64, rfl, by show Value.int .i64 (f i 2).toI = _; rw [d2]; rfl, y2.1, y2.2⟩
    | 3, hj =>
      cases hj
      refine ⟨_, getL _ _ c3, ?_⟩
      rw [d3]
      exact ⟨rfl, by show Value.bool (f i 3).toB = _; rw [d3]; rfl⟩
    | 4, hj =>
      cases hj
      refine ⟨_, getL _ _ c4, ?_⟩
      rw [d4]
      exact lt_of l1 o1 z1
    | 5, hj =>
      cases hj
      refine ⟨_, getL _ _ c5, ?_⟩
      rw [d5]
      exact ⟨rfl, by show Value.bool (f i 5).toB = _; rw [d5]; rfl⟩
    | 6, hj =>
      cases hj
      refine ⟨_, getL _ _ c6, ?_⟩
      rw [d6]
      exact lt_of l2 o2 z2
    | j + 7, hj => simp at hj
  · have hq : q < 84 := by simpa using hq
    show cs[n * 7 + q]? = some (tailC ks7 q)
    rw [get, List.getElem?_append_right (by omega), hlen, show n * 7 + q - n * 7 = q by omega]
    exact marksR_get hq

theorem rowsV_of {w : World} {Z : Nat → Prop} {n : Nat} {f : Nat → Nat → D} {v : Value} (h : Lt Tryz.prog w Z (.sl n f) (.sl 34) v) : RowsV w Z v ∧ v.oneCell' = true := by
  obtain ⟨e, b, cs, hk, hv, hm, hz, hb, hc⟩ := h
  cases hk
  obtain ⟨h1, h2, _⟩ := hc _ kindR
  have h1 : cs.size = (n + 12) * 7 := h1
  have lim : ∀ {d : D} {u : Value}, Lt Tryz.prog w Z d (.sl 78) u → LimbV w Z u ∧ u.oneCell' = true := fun {d u} hl => by
    cases d with
    | int n => obtain ⟨ik, hik, _⟩ := hl; cases hik
    | bool b => exact absurd hl.1 (by simp)
    | str b => exact absurd hl.1 (by simp)
    | sl m g => exact limbV_of hl
  have num : ∀ {d : D} {u : Value} {k : IntKind}, Lt Tryz.prog w Z d (.int k) u → u.oneCell' = true := fun {d u k} hl => by
    cases d with
    | int n => obtain ⟨ik, hik, hu, _⟩ := hl; rw [hu]; rfl
    | bool b => exact absurd hl.1 (by simp)
    | str b => exact absurd hl.1 (by simp)
    | sl m g => obtain ⟨_, _, _, hk, _⟩ := hl; cases hk
  have boo : ∀ {d : D} {u : Value}, Lt Tryz.prog w Z d .bool u → u.oneCell' = true := fun {d u} hl => by
    cases d with
    | int n => obtain ⟨ik, hik, _⟩ := hl; cases hik
    | bool b => rw [hl.2]; rfl
    | str b => exact absurd hl.1 (by simp)
    | sl m g => obtain ⟨_, _, _, hk, _⟩ := hl; cases hk
  refine ⟨⟨b, n, cs, hv, hm, hb, h1, hz, fun i hi => ?_⟩, by rw [hv]; rfl⟩
  obtain ⟨u0, c0, l0⟩ := h2 i 0 _ hi rfl
  obtain ⟨u1, c1, l1⟩ := h2 i 1 _ hi rfl
  obtain ⟨u2, c2, l2⟩ := h2 i 2 _ hi rfl
  obtain ⟨u3, c3, l3⟩ := h2 i 3 _ hi rfl
  obtain ⟨u4, c4, l4⟩ := h2 i 4 _ hi rfl
  obtain ⟨u5, c5, l5⟩ := h2 i 5 _ hi rfl
  obtain ⟨u6, c6, l6⟩ := h2 i 6 _ hi rfl
  exact ⟨u0, u1, u2, u3, u4, u5, u6, c0, c1, c2, c3, c4, c5, c6, num l0, num l1, num l2, boo l3, (lim l4).2, boo l5, (lim l6).2, (lim l4).1, (lim l6).1⟩

/-! ### As contracts -/

def sgLT : Sig := ⟨[.agg [(.str, false), (.bool, false), (.sl 34, false)]], [.agg [(.str, false), (.bool, false), (.sl (34 + 2000000000), true)]]⟩
def sgOT : Sig := ⟨[.agg [(.str, false), (.bool, false), (.sl 34, true)]], []⟩

theorem three {l : List Value} {P : Value → Value → Value → Prop} (h : ∃ a b c, l = [a, b, c] ∧ P a b c) {cs : Array Value} (hl : cs.toList = l) : ∃ a b c, cs = #[a, b, c] ∧ P a b c := by
  obtain ⟨a, b, c, rfl, hp⟩ := h
  refine ⟨a, b, c, ?_, hp⟩
  apply Array.ext'
  rw [hl]

theorem resT {w : World} {R : Nat → Prop} {ow : Nat → Option Owner} {vals : List Value} {ds : List D} (h : ResVs Tryz.prog w R ow 0 sgLT.args vals ds) :
    ∃ y two n f v, vals = [.agg #[.string y, .bool two, v]] ∧ ds = [.str y, .bool two, .sl n f] ∧ Rd Tryz.prog w R (.sl n f) (.sl 34) v := by
  match vals, h with
  | [], h => exact h.elim
  | v :: vs, h =>
    obtain ⟨d1, d2, rfl, ⟨cs, rfl, hc⟩, h2⟩ := h
    match vs, h2 with
    | _ :: _, h2 => exact h2.elim
    | [], h2 =>
      have h2 : d2 = [] := h2
      subst h2
      match hq : cs.toList, d1, hc with
      | [v0, v1, v2], [e0, e1, e2], hc =>
        obtain ⟨r0, r1, r2, _⟩ := hc
        obtain ⟨y, rfl, rfl⟩ := rd_str (show Rd Tryz.prog w R e0 .str v0 from r0)
        obtain ⟨two, rfl, rfl⟩ := rd_bool (show Rd Tryz.prog w R e1 .bool v1 from r1)
        have r2 : Rd Tryz.prog w R e2 (.sl 34) v2 := r2
        obtain ⟨n, f, rfl⟩ := rd_sl r2
        have : cs = #[.string y, .bool two, v2] := Array.ext' hq
        exact ⟨y, two, n, f, v2, by rw [this], rfl, r2⟩
      | [], [], hc => exact hc.elim
      | [], _ :: _, hc => exact hc.elim
      | [_], [], hc => exact hc.elim
      | [_], [_], hc => exact hc.2.elim
      | [_], _ :: _ :: _, hc => exact hc.2.elim
      | [_, _], [], hc => exact hc.elim
      | [_, _], [_], hc => exact hc.2.elim
      | [_, _], [_, _], hc => exact hc.2.2.elim
      | [_, _], _ :: _ :: _ :: _, hc => exact hc.2.2.elim
      | _ :: _ :: _ :: _, [], hc => exact hc.elim
      | _ :: _ :: _ :: _, [_], hc => exact hc.2.elim
      | _ :: _ :: _ :: _, [_, _], hc => exact hc.2.2.elim
      | _ :: _ :: _ :: _ :: _, _ :: _ :: _ :: _, hc => exact hc.2.2.2.elim
      | [_, _, _], _ :: _ :: _ :: _ :: _, hc => exact hc.2.2.2.elim

open Classical in
theorem lentTable_con {pr : Pred} (h1 : ∀ y two n f, pr.pre [.str y, .bool two, .sl n f] → 88 * (n + 12) ≤ 140737488355328 ∧ ∀ i, i < n → 2 * ((f i 4).toS.n + 12) ≤ 140737488355328 ∧ 2 * ((f i 6).toS.n + 12) ≤ 140737488355328)
    (h2 : ∀ y two n f, pr.post [.str y, .bool two, .sl n f] [.str y, .bool two, .sl n f]) : ConOK Tryz.prog 10 sgLT pr := by
  intro w R vals ds hglob hR hargs hpre
  obtain ⟨y, two, n, f, v, rfl, rfl, hr⟩ := resT hargs
  obtain ⟨b1, b2⟩ := h1 y two n f hpre
  obtain ⟨p1, p2, p3⟩ := readR_of hr b1 b2
  refine (lentTable p1 p2).mono ?_
  rintro e w' ⟨b, cs, L, rfl, hb, hn, hc, hcs, hL⟩
  rw [rows_len]
  refine ⟨_, [.str y, .bool two, .sl n f], rfl, h2 y two n f, hb, [.agg #[.string y, .bool two, .slice (some ⟨b, 0, none⟩) n (n + 12)]], R, fun x => if News w w' x then some (.ent 2) else none, rfl, fun _ h => h, fun _ h => .inl h, fun x hx => if_neg fun h => ?_, fun x o ho => ?_, ?_⟩
  · have := hR x hx
    exact absurd h.1 (by omega)
  · by_cases h : News w w' x
    · exact h
    · have ho : (if News w w' x then some (Owner.ent 2) else none) = some o := ho
      rw [if_neg h] at ho
      cases ho
  · refine ⟨[.str y, .bool two, .sl n f], [], rfl, ⟨_, rfl, ⟨rfl, rfl⟩, ⟨rfl, rfl⟩, ⟨⟨n, f⟩, rfl, fun hm => ?_, fun _ => .inr ⟨by kernel_rfl, ?_⟩⟩, trivial⟩, rfl⟩
    · exact absurd hm (by rw [show isM (34 + 2000000000) = true by kernel_rfl]; exact Bool.noConfusion)
    · show Lt Tryz.prog w' _ (.sl n f) (.sl 34) _
      exact (ltR_of (Z := News w w') hn hc hcs hL p3 (by omega)).mono (fun x hx _ => if_pos hx) (fun _ _ => rfl)

theorem overTable_ok : OverOK Tryz.prog 16 sgOT := by
  intro w Z vals ds hglob h
  match vals, h with
  | [], h => exact h.elim
  | v :: vs, h =>
    obtain ⟨d1, d2, rfl, ⟨cs, rfl, hc⟩, h2⟩ := h
    match vs, h2 with
    | _ :: _, h2 => exact h2.elim
    | [], h2 =>
      match hq : cs.toList, d1, hc with
      | [v0, v1, v2], [e0, e1, e2], hc =>
        obtain ⟨r0, r1, r2, _⟩ := hc
        obtain ⟨y, rfl, rfl⟩ := rd_str (show Rd Tryz.prog w _ e0 .str v0 from r0)
        obtain ⟨two, rfl, rfl⟩ := rd_bool (show Rd Tryz.prog w _ e1 .bool v1 from r1)
        have r2 : Lt Tryz.prog w Z e2 (.sl 34) v2 := r2
        have : cs = #[.string y, .bool two, v2] := Array.ext' hq
        subst this
        cases e2 with
        | int n => obtain ⟨ik, hik, _⟩ := r2; cases hik
        | bool b => exact absurd r2.1 (by simp)
        | str b => exact absurd r2.1 (by simp)
        | sl n f =>
          obtain ⟨q1, q2⟩ := rowsV_of r2
          exact overTable q1 rfl rfl q2
      | [], [], hc => exact hc.elim
      | [], _ :: _, hc => exact hc.elim
      | [_], [], hc => exact hc.elim
      | [_], [_], hc => exact hc.2.elim
      | [_], _ :: _ :: _, hc => exact hc.2.elim
      | [_, _], [], hc => exact hc.elim
      | [_, _], [_], hc => exact hc.2.elim
      | [_, _], [_, _], hc => exact hc.2.2.elim
      | [_, _], _ :: _ :: _ :: _, hc => exact hc.2.2.elim
      | _ :: _ :: _ :: _, [], hc => exact hc.elim
      | _ :: _ :: _ :: _, [_], hc => exact hc.2.elim
      | _ :: _ :: _ :: _, [_, _], hc => exact hc.2.2.elim
      | _ :: _ :: _ :: _ :: _, _ :: _ :: _ :: _, hc => exact hc.2.2.2.elim
      | [_, _, _], _ :: _ :: _ :: _ :: _, hc => exact hc.2.2.2.elim

end Go.Sx.Lent
