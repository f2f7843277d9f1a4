/-
  What was lent is as it was: rows and tables. Conditions: as typed.
-/
import Derived.Test.YtehofgnfaiefkaaGreatLentM
set_option linter.unusedVariables false
set_option linter.unusedSimpArgs false
namespace Go.Sx.Lent
open Go Go.Proofs Go.RowKit Go.Lib Go.Sx

/-- A row's data. -/
structure RowD (f : Nat → D) (a b k : Int) (s1 : Bool) (m1 : Nat) (g1 : Nat → Nat → D) (s2 : Bool) (m2 : Nat) (g2 : Nat → Nat → D) : Prop where
  d0 : f 0 = .int a
  d1 : f 1 = .int b
  d2 : f 2 = .int k
  d3 : f 3 = .bool s1
  d4 : f 4 = .sl m1 g1
  d5 : f 5 = .bool s2
  d6 : f 6 = .sl m2 g2
  ia : I64 a
  ib : I64 b
  ik : I64 k

theorem rowD_of {f : Nat → D} (h : RowOk f) : ∃ a b k s1 m1 g1 s2 m2 g2, RowD f a b k s1 m1 g1 s2 m2 g2 := by
  obtain ⟨a, b, k, s1, m1, g1, s2, m2, g2, d0, d1, d2, d3, d4, d5, d6, _, _, _, _, y0, y1, y2⟩ := h
  exact ⟨a, b, k, s1, m1, g1, s2, m2, g2, d0, d1, d2, d3, d4, d5, d6, y0, y1, y2⟩

theorem marksRow {p : Nat} (hp : p < 12) : tailC ks7 (p * 7) = .int .i64 (8000024 + (p : Int)) ∧ tailC ks7 (p * 7 + 1) = .int .i64 0 ∧ tailC ks7 (p * 7 + 2) = .int .i64 0 ∧ tailC ks7 (p * 7 + 3) = .bool false ∧
    tailC ks7 (p * 7 + 4) = .slice none 0 0 ∧ tailC ks7 (p * 7 + 5) = .bool false ∧ tailC ks7 (p * 7 + 6) = .slice none 0 0 := by
  have h : (List.range 12).map (fun p => ((List.range 7).map fun j => tailC ks7 (p * 7 + j))) = (List.range 12).map (fun p => [.int .i64 (8000024 + (p : Int)), .int .i64 0, .int .i64 0, .bool false, .slice none 0 0, .bool false, .slice none 0 0]) := by kernel_rfl
  have h2 := congrArg (fun l => l[p]?) h
  simp [hp] at h2
  have e : (List.range 7) = [0, 1, 2, 3, 4, 5, 6] := by rfl
  rw [e] at h2
  simpa using h2

theorem lrows_of {w : World} {Z : Nat → Prop} {n : Nat} {f : Nat → Nat → D} {v : Value} (h : Lt Tryz.prog w Z (.sl n f) (.sl 34) v) : ∃ (b : Nat) (cs : Array Value), v = .slice (some ⟨b, 0, none⟩) n (n + 12) ∧ n + 12 ≤ 140737488355328 ∧ Z b ∧ w.heap[b]? = some (.cells cs 34 (0, 0)) ∧
    (∀ i a b k s1 m1 g1 s2 m2 g2, i < n → RowD (f i) a b k s1 m1 g1 s2 m2 g2 → ∃ v1 v2, cs[i * 7]? = some (.int .i64 a) ∧ cs[i * 7 + 1]? = some (.int .i64 b) ∧ cs[i * 7 + 2]? = some (.int .i64 k) ∧ cs[i * 7 + 3]? = some (.bool s1) ∧ cs[i * 7 + 4]? = some v1 ∧ cs[i * 7 + 5]? = some (.bool s2) ∧ cs[i * 7 + 6]? = some v2 ∧
      Lt Tryz.prog w Z (.sl m1 g1) (.sl 78) v1 ∧ Lt Tryz.prog w Z (.sl m2 g2) (.sl 78) v2) ∧
    (∀ p, p < 12 → cs[(n + p) * 7]? = some (.int .i64 (8000024 + (p : Int))) ∧ cs[(n + p) * 7 + 1]? = some (.int .i64 0) ∧ cs[(n + p) * 7 + 2]? = some (.int .i64 0) ∧ cs[(n + p) * 7 + 3]? = some (.bool false) ∧ cs[(n + p) * 7 + 4]? = some (.slice none 0 0) ∧ cs[(n + p) * 7 + 5]? = some (.bool false) ∧ cs[(n + p) * 7 + 6]? = some (.slice none 0 0)) := by
  obtain ⟨e, b, cs, hk, hv, hm, hz, hb, hc⟩ := h
  cases hk
  obtain ⟨h1, h2, h3⟩ := hc _ kindR
  refine ⟨b, cs, hv, hm, hz, hb, fun i a b k s1 m1 g1 s2 m2 g2 hi hd => ?_, fun p hp => ?_⟩
  · have num : ∀ {d : D} {u : Value} {x : Int} {k : IntKind}, d = .int x → Lt Tryz.prog w Z d (.int k) u → u = .int k x := fun {d u x k} hd hl => by
      subst hd
      obtain ⟨ik, hik, hu, _⟩ := hl
      cases hik
      exact hu
    have boo : ∀ {d : D} {u : Value} {x : Bool}, d = .bool x → Lt Tryz.prog w Z d .bool u → u = .bool x := fun {d u x} hd hl => by
      subst hd
      exact hl.2
    obtain ⟨u0, c0, l0⟩ := h2 i 0 _ hi rfl
    obtain ⟨u1, c1, l1⟩ := h2 i 1 _ hi rfl
    obtain ⟨u2, c2, l2⟩ := h2 i 2 _ hi rfl
    obtain ⟨u3, c3, l3⟩ := h2 i 3 _ hi rfl
    obtain ⟨u4, c4, l4⟩ := h2 i 4 _ hi rfl
    obtain ⟨u5, c5, l5⟩ := h2 i 5 _ hi rfl
    obtain ⟨u6, c6, l6⟩ := h2 i 6 _ hi rfl
    rw [num hd.d0 l0] at c0
    rw [num hd.d1 l1] at c1
    rw [num hd.d2 l2] at c2
    rw [boo hd.d3 l3] at c3
    rw [boo hd.d5 l5] at c5
    rw [hd.d4] at l4
    rw [hd.d6] at l6
    exact ⟨u4, u6, c0, c1, c2, c3, c4, c5, c6, l4, l6⟩
  · have q : ∀ j, j < 7 → cs[(n + p) * 7 + j]? = some (tailC ks7 (p * 7 + j)) := fun j hj => by
      have := h3 (p * 7 + j) (by simp; omega)
      rw [show n * [K.int .i64, .int .i64, .int .i64, .bool, .sl 78, .bool, .sl 78].length + (p * 7 + j) = (n + p) * 7 + j by simp; omega] at this
      exact this
    obtain ⟨t0, t1, t2, t3, t4, t5, t6⟩ := marksRow hp
    exact ⟨(q 0 (by omega)).trans (by rw [Nat.add_zero, t0]), (q 1 (by omega)).trans (by rw [t1]), (q 2 (by omega)).trans (by rw [t2]), (q 3 (by omega)).trans (by rw [t3]), (q 4 (by omega)).trans (by rw [t4]), (q 5 (by omega)).trans (by rw [t5]), (q 6 (by omega)).trans (by rw [t6])⟩

theorem rrows_of {w : World} {R : Nat → Prop} {n : Nat} {f : Nat → Nat → D} {v : Value} (h : Rd Tryz.prog w R (.sl n f) (.sl 34) v) : ∃ (ao : Option Addr) (c : Nat), v = .slice ao n c ∧
    ∀ i a b k s1 m1 g1 s2 m2 g2, i < n → RowD (f i) a b k s1 m1 g1 s2 m2 g2 → ∃ bl off v1 v2, ao = some ⟨bl, off, none⟩ ∧ w.cell? ⟨bl, off + i * 7, none⟩ = some (.int .i64 a) ∧ w.cell? ⟨bl, off + i * 7 + 1, none⟩ = some (.int .i64 b) ∧ w.cell? ⟨bl, off + i * 7 + 2, none⟩ = some (.int .i64 k) ∧ w.cell? ⟨bl, off + i * 7 + 3, none⟩ = some (.bool s1) ∧
      w.cell? ⟨bl, off + i * 7 + 4, none⟩ = some v1 ∧ w.cell? ⟨bl, off + i * 7 + 5, none⟩ = some (.bool s2) ∧ w.cell? ⟨bl, off + i * 7 + 6, none⟩ = some v2 ∧ Rd Tryz.prog w R (.sl m1 g1) (.sl 78) v1 ∧ Rd Tryz.prog w R (.sl m2 g2) (.sl 78) v2 := by
  obtain ⟨e, a, cap, hk, hv, h1, h2, h4, h5⟩ := h
  cases hk
  refine ⟨a, cap, hv, fun i x b k s1 m1 g1 s2 m2 g2 hi hd => ?_⟩
  have cell : ∀ (j : Nat) kk, ([.int .i64, .int .i64, .int .i64, .bool, .sl 78, .bool, .sl 78] : List K)[j]? = some kk → ∃ bl off u, a = some ⟨bl, off, none⟩ ∧ w.cell? ⟨bl, off + (i * 7 + j), none⟩ = some u ∧ Rd Tryz.prog w R (f i j) kk u := fun j kk hj => by
    obtain ⟨ad, u, ha, hs, _, hc, hr⟩ := h5 _ i j kk kindR hi hj
    obtain ⟨bl, off, sp⟩ := ad
    cases hs
    exact ⟨bl, off, u, ha, hc, hr⟩
  have num : ∀ {d : D} {u : Value} {x : Int} {k : IntKind}, d = .int x → Rd Tryz.prog w R d (.int k) u → u = .int k x := fun {d u x k} hd hl => by
    subst hd
    obtain ⟨ik, hik, hu, _⟩ := hl
    cases hik
    exact hu
  have boo : ∀ {d : D} {u : Value} {x : Bool}, d = .bool x → Rd Tryz.prog w R d .bool u → u = .bool x := fun {d u x} hd hl => by
    subst hd
    exact hl.2
  obtain ⟨bl, off, u0, ha, c0, r0⟩ := cell 0 _ rfl
  obtain ⟨_, _, u1, ha1, c1, r1⟩ := cell 1 _ rfl
  obtain ⟨_, _, u2, ha2, c2, r2⟩ := cell 2 _ rfl
  obtain ⟨_, _, u3, ha3, c3, r3⟩ := cell 3 _ rfl
  obtain ⟨_, _, u4, ha4, c4, r4⟩ := cell 4 _ rfl
  obtain ⟨_, _, u5, ha5, c5, r5⟩ := cell 5 _ rfl
  obtain ⟨_, _, u6, ha6, c6, r6⟩ := cell 6 _ rfl
  rw [ha] at ha1 ha2 ha3 ha4 ha5 ha6
  cases ha1; cases ha2; cases ha3; cases ha4; cases ha5; cases ha6
  rw [num hd.d0 r0] at c0
  rw [num hd.d1 r1] at c1
  rw [num hd.d2 r2] at c2
  rw [boo hd.d3 r3] at c3
  rw [boo hd.d5 r5] at c5
  rw [hd.d4] at r4
  rw [hd.d6] at r6
  exact ⟨bl, off, u4, u6, ha, c0, c1, c2, c3, c4, c5, c6, r4, r6⟩

theorem rd_nil {w : World} {R : Nat → Prop} {g : Nat → Nat → D} : Rd Tryz.prog w R (.sl 0 g) (.sl 78) (.slice none 0 0) :=
  ⟨78, none, 0, rfl, rfl, by simp, by simp [maxLen], fun _ => rfl, fun _ i _ _ _ hi => by omega⟩

set_option maxHeartbeats 8000000 in
set_option maxRecDepth 100000 in
theorem keptRows (S : Sames) {w : World} {n : Nat} {f : Nat → Nat → D} {v u : Value} (hg : GlobOk Tryz.prog w) (h : LT w (.sl n f) (.sl 34) v) (k : RD w (.sl n f) (.sl 34) u)
    (hok : ∀ i, i < n → RowOk (f i)) (hl : ∀ i, i < n → 2 * ((f i 4).toS.n + 12) ≤ 140737488355328 ∧ 2 * ((f i 6).toS.n + 12) ≤ 140737488355328) :
    Calls Tryz.prog 39 #[v, u] w fun e w' => e = .returned (.bool true) ∧ Below w.heap.size w w' := by
  obtain ⟨b, cs, rfl, hn12, hzb, hb, hin, hout⟩ := lrows_of h
  obtain ⟨ao, c, rfl, hrd⟩ := rrows_of k
  go_enter Tryz.func39, Tryz.ntmps39
  go_wp2
  go_loopw [6] (fun i wr => ∃ k : Nat, k ≤ n + 12 ∧ i = .int .i64 k ∧ Below w.heap.size w wr) (fun i _ => n + 12 - (intOf i).toNat)
  case atStart => exact ⟨0, Nat.zero_le _, rfl, Below.refl _ _⟩
  case round =>
    obtain ⟨j, hj, rfl, hnx⟩ := hrel
    by_cases hlt : j < n + 12
    · have hlt' : (j : Int) < (n : Int) + 12 := by omega
      by_cases hi : j < n
      · have hi' : (j : Int) < (n : Int) := by omega
        obtain ⟨a, b', k', s1, m1, g1, s2, m2, g2, hd⟩ := rowD_of (hok j hi)
        obtain ⟨v1, v2, p0, p1, p2, p3, p4, p5, p6, lv1, lv2⟩ := hin j _ _ _ _ _ _ _ _ _ hi hd
        obtain ⟨bl, off, u1, u2, rfl, q0, q1, q2, q3, q4, q5, q6, lu1, lu2⟩ := hrd j _ _ _ _ _ _ _ _ _ hi hd
        have hB : ∀ x : Bw wr, Below w.heap.size w x.v := fun x => hnx.trans (x.h.mono hnx.size)
        have cc : ∀ {q : Nat} {y : Value}, cs[q]? = some y → ∀ x : Bw wr, x.v.cell? ⟨b, q, none⟩ = some y := fun {q y} hq x => by
          rw [cell_of (((hB x).block b (Array.getElem?_eq_some_iff.1 hb).1).trans hb)]
          exact hq
        have dd : ∀ {p : Addr} {y : Value}, w.cell? p = some y → ∀ x : Bw wr, x.v.cell? p = some y := fun {p y} hq x => ((hB x).cell (cell_lt hq)).trans hq
        have p0 := cc p0
        have p1 := cc p1
        have p2 := cc p2
        have p3 := cc p3
        have p4 := cc p4
        have p5 := cc p5
        have p6 := cc p6
        have q0 := dd q0
        have q1 := dd q1
        have q2 := dd q2
        have q3 := dd q3
        have q4 := dd q4
        have q5 := dd q5
        have q6 := dd q6
        have e4 := (hl j hi).1
        have e6 := (hl j hi).2
        rw [hd.d4] at e4
        rw [hd.d6] at e6
        have e4 : 2 * (m1 + 12) ≤ 140737488355328 := e4
        have e6 : 2 * (m2 + 12) ≤ 140737488355328 := e6
        have d1 : decide ((n : Int) ≤ (j : Int)) = false := by simp; omega
        have d2 : decide ((j : Int) ≥ (n : Int)) = false := by simp; omega
        have d3 : decide (n ≤ j) = false := by simp; omega
        have call : ∀ x : Bw wr, Calls Tryz.prog 25 #[.agg #[.int .i64 a, .int .i64 b', .int .i64 k', .bool s1, v1, .bool s2, v2], .agg #[.int .i64 a, .int .i64 b', .int .i64 k', .bool s1, u1, .bool s2, u2]] x.v fun e w' => e = .returned (.bool true) ∧ ∃ y : Bw wr, w' = y.v := fun x =>
          calls_bw (keptRow S (hg.below (hB x)) hd.ia hd.ib hd.ik (LTbelow lv1 (hB x)) (LTbelow lv2 (hB x)) (RDbelow lu1 (hB x)) (RDbelow lu2 (hB x)) e4 e6)
        clear cc dd hin hout hrd
        go_wp2_with fail
        refine wp_region_bw (by kernel_rfl) (by kernel_rfl) ?_
        repeat (go_big_quiet_step (exact call _))
        refine wpQuiet_nil ?_
        intro _ hw'
        obtain ⟨xb, hw''⟩ := hw'
        subst hw''
        go_wp2
        go_round
        case rel => exact ⟨j + 1, by omega, by go_num, hnx.trans (xb.h.mono hnx.size)⟩
        case measure => simp [intOf]; omega
      · have hm : j - n < 12 := by omega
        obtain ⟨m, rfl⟩ : ∃ m, j = n + m := ⟨j - n, by omega⟩
        have hm : m < 12 := by omega
        obtain ⟨p0, p1, p2, p3, p4, p5, p6⟩ := hout m hm
        have hB : ∀ x : Bw wr, Below w.heap.size w x.v := fun x => hnx.trans (x.h.mono hnx.size)
        have cc : ∀ {q : Nat} {y : Value}, cs[q]? = some y → ∀ x : Bw wr, x.v.cell? ⟨b, q, none⟩ = some y := fun {q y} hq x => by
          rw [cell_of (((hB x).block b (Array.getElem?_eq_some_iff.1 hb).1).trans hb)]
          exact hq
        have p0 := cc p0
        have p1 := cc p1
        have p2 := cc p2
        have p3 := cc p3
        have p4 := cc p4
        have p5 := cc p5
        have p6 := cc p6
        have d1 : decide ((n : Int) + (m : Int) < (n : Int)) = false := by simp; omega
        have d2 : decide (n + m < n) = false := by simp
        have d3 : decide (n ≤ n + m) = true := by simp
        have d4 : decide ((n : Int) ≤ (n : Int) + (m : Int)) = true := by simp; omega
        have d5 : decide ((m : Int) < 0) = false := by simp
        have e1 : (n : Int) + (m : Int) - (n : Int) = (m : Int) := by omega
        have call1 : ∀ x : Bw wr, Calls Tryz.prog 56 #[.int .i64 1, .int .i64 m] x.v fun e w' => e = .returned (.agg #[.int .i64 (8000024 + (m : Int)), .int .i64 0, .int .i64 0, .bool false, .slice none 0 0, .bool false, .slice none 0 0]) ∧ ∃ y : Bw wr, w' = y.v := fun x =>
          calls_bw ((markRow 1 m (by omega) (by omega) _).mono fun e w' hh => ⟨hh.1, hh.2⟩)
        have call2 : ∀ x : Bw wr, Calls Tryz.prog 52 #[.agg #[.int .i64 (8000024 + (m : Int)), .int .i64 0, .int .i64 0, .bool false, .slice none 0 0, .bool false, .slice none 0 0], .agg #[.int .i64 (8000024 + (m : Int)), .int .i64 0, .int .i64 0, .bool false, .slice none 0 0, .bool false, .slice none 0 0]] x.v fun e w' => e = .returned (.bool true) ∧ ∃ y : Bw wr, w' = y.v := fun x =>
          calls_bw (S.row (m1 := 0) (m2 := 0) (g1 := fun _ _ => .int 0) (g2 := fun _ _ => .int 0) (hg.below (hB x)) (i64_small (by omega) (by omega)) (i64_small (by omega) (by omega)) (i64_small (by omega) (by omega)) rd_nil rd_nil rd_nil rd_nil)
        clear cc hin hout hrd
        go_wp2_with fail
        refine wp_region_bw (by kernel_rfl) (by kernel_rfl) ?_
        repeat (go_big_quiet_step (first | exact call1 _ | exact call2 _))
        refine wpQuiet_nil ?_
        intro _ hw'
        obtain ⟨xb, hw''⟩ := hw'
        subst hw''
        go_wp2
        go_round
        case rel => exact ⟨n + m + 1, by omega, by go_num, hnx.trans (xb.h.mono hnx.size)⟩
        case measure => simp [intOf]; omega
    · have hge : ¬ (j : Int) < (n : Int) + 12 := by omega
      go_wp2
      go_ret
      exact ⟨rfl, hnx⟩

end Go.Sx.Lent
