/-
  From the engine's readings to the lent slices, and back. Conditions: as typed.
-/
import Derived.Test.YtehofgnfaiefkaaGreatLentG
set_option linter.unusedVariables false
set_option linter.unusedSimpArgs false
namespace Go.Sx.Lent
open Go Go.Proofs Go.RowKit Go.Lib Go.Sx

def ints (zs : List Int) : List Value := zs.map (Value.int .u16)
def limbsI (m : Nat) (g : Nat → Nat → D) : List Int := (List.range m).map fun j => (g j 0).toI
theorem limbs_len (m : Nat) (g : Nat → Nat → D) : (ints (limbsI m g)).length = m := by simp [ints, limbsI]
theorem limbs_get {m : Nat} {g : Nat → Nat → D} {j : Nat} (hj : j < m) : (ints (limbsI m g))[j]? = some (.int .u16 (g j 0).toI) := by simp [ints, limbsI, hj]

theorem kindU : kinds Tryz.prog 78 = some [.int .u16] := by kernel_rfl
theorem kindR : kinds Tryz.prog 34 = some [.int .i64, .int .i64, .int .i64, .bool, .sl 78, .bool, .sl 78] := by kernel_rfl

/-- Numbers of limbs. -/
def LimbsOk (m : Nat) (g : Nat → Nat → D) : Prop := ∀ j, j < m → ∃ n, g j 0 = .int n ∧ IntKind.u16.min ≤ n ∧ n ≤ IntKind.u16.max

theorem readL_of {w : World} {R : Nat → Prop} {m : Nat} {g : Nat → Nat → D} {v : Value} (h : Rd Tryz.prog w R (.sl m g) (.sl 78) v) (hm : 2 * (m + 12) ≤ 140737488355328) : ReadL w v (ints (limbsI m g)) ∧ v.oneCell' = true ∧ LimbsOk m g := by
  obtain ⟨e, a, cap, hk, hv, h1, h2, h4, h5⟩ := h
  cases hk
  have cell : ∀ j, j < m → ∃ ad n, a = some ad ∧ ad.spot = none ∧ g j 0 = .int n ∧ (IntKind.u16.min ≤ n ∧ n ≤ IntKind.u16.max) ∧ w.cell? ⟨ad.block, ad.off + j, none⟩ = some (.int .u16 n) := fun j hj => by
    obtain ⟨ad, u, ha, hs, _, hc, hr⟩ := h5 _ j 0 (.int .u16) kindU hj rfl
    cases hd : g j 0 with
    | int n =>
      rw [hd] at hr
      obtain ⟨ik, hik, hu, g1, g2⟩ := hr
      cases hik
      subst hu
      refine ⟨ad, n, ha, hs, rfl, ⟨g1, g2⟩, ?_⟩
      simpa using hc
    | bool b => rw [hd] at hr; exact absurd hr.1 (by simp)
    | str b => rw [hd] at hr; exact absurd hr.1 (by simp)
    | sl p q => rw [hd] at hr; obtain ⟨_, _, _, hk, _⟩ := hr; cases hk
  refine ⟨⟨a, m, cap, hv, limbs_len m g, fun hn => ?_, fun ad ha j u hu => ?_, fun u hu => ?_, hm⟩, by rw [hv]; rfl, fun j hj => ?_⟩
  · have hc := h4 hn
    have : m ≤ cap := Nat.le_trans h1 (Nat.min_le_left _ _)
    exact ⟨by omega, hc⟩
  · have hj : j < m := by
      have := (List.getElem?_eq_some_iff.1 hu).1
      rwa [limbs_len] at this
    obtain ⟨ad', n, ha', hs, hg, _, hc⟩ := cell j hj
    rw [ha] at ha'
    cases ha'
    rw [limbs_get hj, hg] at hu
    cases hu
    obtain ⟨bl, off, sp⟩ := ad
    cases hs
    rw [Addr.add_lit]
    exact hc
  · simp only [ints, List.mem_map] at hu
    obtain ⟨z, _, rfl⟩ := hu
    rfl
  · obtain ⟨_, n, _, _, hg, hn, _⟩ := cell j hj
    exact ⟨n, hg, hn⟩

theorem marks_get {q : Nat} (hq : q < 12) : (marksL 12)[q]? = some (tailC [.int .u16] q) := by
  have h1 : q % 1 = 0 := Nat.mod_one q
  simp [marksL, tailC, hq, h1]

/-- Limbs that are lent read as lent. -/
theorem lt_of {w : World} {Z : Nat → Prop} {m : Nat} {g : Nat → Nat → D} {v : Value} (h : LentL w Z v (ints (limbsI m g))) (hl : LimbsOk m g) (hm : m + 12 ≤ 140737488355328) : Lt Tryz.prog w Z (.sl m g) (.sl 78) v := by
  obtain ⟨b, cs, hv, hz, hb, hcs⟩ := h
  rw [limbs_len] at hv
  have hsz : cs.size = m + 12 := by rw [← Array.length_toList, hcs, List.length_append, limbs_len, marksL_len]
  have get : ∀ j, cs[j]? = (ints (limbsI m g) ++ marksL 12)[j]? := fun j => by rw [← hcs, Array.getElem?_toList]
  refine ⟨78, b, cs, rfl, hv, hm, hz, hb, fun ks hks => ?_⟩
  rw [kindU] at hks
  cases hks
  refine ⟨by simpa using hsz, fun i j kk hi hj => ?_, fun q hq => ?_⟩
  · have hj0 : j = 0 := by
      have := (List.getElem?_eq_some_iff.1 hj).1
      simp at this
      exact this
    subst hj0
    cases hj
    obtain ⟨n, hn, g1, g2⟩ := hl i hi
    refine ⟨.int .u16 n, ?_, ?_⟩
    · have := get i
      rw [List.getElem?_append_left (by rw [limbs_len]; exact hi), limbs_get hi, hn] at this
      have this : cs[i]? = some (.int .u16 n) := this
      simpa using this
    · rw [hn]
      exact ⟨.u16, rfl, rfl, g1, g2⟩
  · have hq : q < 12 := by simpa using hq
    have := get (m + q)
    rw [List.getElem?_append_right (by rw [limbs_len]; omega), limbs_len, show m + q - m = q by omega, marks_get hq] at this
    simpa using this

/-- Lent limbs are slices of limbs with room behind. -/
theorem limbV_of {w : World} {Z : Nat → Prop} {m : Nat} {g : Nat → Nat → D} {v : Value} (h : Lt Tryz.prog w Z (.sl m g) (.sl 78) v) : LimbV w Z v ∧ v.oneCell' = true := by
  obtain ⟨e, b, cs, hk, hv, hm, hz, hb, hc⟩ := h
  cases hk
  refine ⟨⟨b, m, cs, hv, hm, hb, ?_, hz⟩, by rw [hv]; rfl⟩
  have := (hc _ kindU).1
  simpa using this

/-- .. and are lent with marks. -/
theorem lentL_of {w : World} {Z : Nat → Prop} {m : Nat} {g : Nat → Nat → D} {v : Value} (h : Lt Tryz.prog w Z (.sl m g) (.sl 78) v) : LentL w Z v (ints (limbsI m g)) := by
  obtain ⟨e, b, cs, hk, hv, hm, hz, hb, hc⟩ := h
  cases hk
  obtain ⟨h1, h2, h3⟩ := hc _ kindU
  simp at h1 h3
  refine ⟨b, cs, by rw [limbs_len]; exact hv, hz, hb, ?_⟩
  apply List.ext_getElem?
  intro j
  rw [Array.getElem?_toList]
  by_cases hj : j < m
  · rw [List.getElem?_append_left (by rw [limbs_len]; exact hj), limbs_get hj]
    obtain ⟨u, hu, hl⟩ := h2 j 0 (.int .u16) hj rfl
    simp at hu
    rw [hu]
    cases hd : g j 0 with
    | int n =>
      rw [hd] at hl
      obtain ⟨ik, hik, hu, _⟩ := hl
      cases hik
      rw [hu]
      rfl
    | bool b => rw [hd] at hl; exact absurd hl.1 (by simp)
    | str b => rw [hd] at hl; exact absurd hl.1 (by simp)
    | sl p q => rw [hd] at hl; obtain ⟨_, _, _, hk, _⟩ := hl; cases hk
  · rw [List.getElem?_append_right (by rw [limbs_len]; omega), limbs_len]
    by_cases hq : j - m < 12
    · rw [marks_get hq]
      have := h3 (j - m) hq
      rwa [show m + (j - m) = j by omega] at this
    · rw [List.getElem?_eq_none (by rw [marksL_len]; omega), Array.getElem?_eq_none (by omega)]

/-! ### Rows -/

def rowOf (f : Nat → D) : R7 := ⟨(f 0).toI, (f 1).toI, (f 2).toI, (f 3).toB, ints (limbsI (f 4).toS.n (f 4).toS.f), (f 5).toB, ints (limbsI (f 6).toS.n (f 6).toS.f)⟩
def rowsOf (n : Nat) (f : Nat → Nat → D) : List R7 := (List.range n).map fun i => rowOf (f i)
theorem rows_get {n : Nat} {f : Nat → Nat → D} {i : Nat} (hi : i < n) : (rowsOf n f)[i]? = some (rowOf (f i)) := by simp [rowsOf, hi]
theorem rows_len (n : Nat) (f : Nat → Nat → D) : (rowsOf n f).length = n := by simp [rowsOf]

/-- A row's data have their kinds. -/
def RowOk (f : Nat → D) : Prop := ∃ a b k s1 m1 g1 s2 m2 g2, f 0 = .int a ∧ f 1 = .int b ∧ f 2 = .int k ∧ f 3 = .bool s1 ∧ f 4 = .sl m1 g1 ∧ f 5 = .bool s2 ∧ f 6 = .sl m2 g2 ∧ LimbsOk m1 g1 ∧ LimbsOk m2 g2 ∧ m1 + 12 ≤ 140737488355328 ∧ m2 + 12 ≤ 140737488355328 ∧
  (IntKind.i64.min ≤ a ∧ a ≤ IntKind.i64.max) ∧ (IntKind.i64.min ≤ b ∧ b ≤ IntKind.i64.max) ∧ (IntKind.i64.min ≤ k ∧ k ≤ IntKind.i64.max)

theorem rd_int {w : World} {R : Nat → Prop} {d : D} {k : IntKind} {u : Value} (h : Rd Tryz.prog w R d (.int k) u) : ∃ n, d = .int n ∧ u = .int k n ∧ k.min ≤ n ∧ n ≤ k.max := by
  cases d with
  | int n =>
    obtain ⟨ik, hik, hu, g1, g2⟩ := h
    cases hik
    exact ⟨n, rfl, hu, g1, g2⟩
  | bool b => exact absurd h.1 (by simp)
  | str b => exact absurd h.1 (by simp)
  | sl p q => obtain ⟨_, _, _, hk, _⟩ := h; cases hk
theorem rd_bool {w : World} {R : Nat → Prop} {d : D} {u : Value} (h : Rd Tryz.prog w R d .bool u) : ∃ b, d = .bool b ∧ u = .bool b := by
  cases d with
  | int n => obtain ⟨ik, hik, _⟩ := h; cases hik
  | bool b => exact ⟨b, rfl, h.2⟩
  | str b => exact absurd h.1 (by simp)
  | sl p q => obtain ⟨_, _, _, hk, _⟩ := h; cases hk
theorem rd_str {w : World} {R : Nat → Prop} {d : D} {u : Value} (h : Rd Tryz.prog w R d .str u) : ∃ b, d = .str b ∧ u = .string b := by
  cases d with
  | int n => obtain ⟨ik, hik, _⟩ := h; cases hik
  | bool b => exact absurd h.1 (by simp)
  | str b => exact ⟨b, rfl, h.2⟩
  | sl p q => obtain ⟨_, _, _, hk, _⟩ := h; cases hk
theorem rd_sl {w : World} {R : Nat → Prop} {d : D} {e : TypeId} {u : Value} (h : Rd Tryz.prog w R d (.sl e) u) : ∃ m g, d = .sl m g := by
  cases d with
  | int n => obtain ⟨ik, hik, _⟩ := h; cases hik
  | bool b => exact absurd h.1 (by simp)
  | str b => exact absurd h.1 (by simp)
  | sl m g => exact ⟨m, g, rfl⟩

theorem readR_of {w : World} {R : Nat → Prop} {n : Nat} {f : Nat → Nat → D} {v : Value} (h : Rd Tryz.prog w R (.sl n f) (.sl 34) v) (hn : 88 * (n + 12) ≤ 140737488355328) (hl : ∀ i, i < n → 2 * ((f i 4).toS.n + 12) ≤ 140737488355328 ∧ 2 * ((f i 6).toS.n + 12) ≤ 140737488355328) :
    ReadR w v (rowsOf n f) ∧ v.oneCell' = true ∧ ∀ i, i < n → RowOk (f i) := by
  obtain ⟨e, a, cap, hk, hv, h1, h2, h4, h5⟩ := h
  cases hk
  have cell : ∀ i, i < n → ∀ (j : Nat) kk, ([.int .i64, .int .i64, .int .i64, .bool, .sl 78, .bool, .sl 78] : List K)[j]? = some kk → ∃ bl off u, a = some ⟨bl, off, none⟩ ∧ w.cell? ⟨bl, off + (i * 7 + j), none⟩ = some u ∧ Rd Tryz.prog w R (f i j) kk u := fun i hi j kk hj => by
    obtain ⟨ad, u, ha, hs, _, hc, hr⟩ := h5 _ i j kk kindR hi hj
    obtain ⟨bl, off, sp⟩ := ad
    cases hs
    exact ⟨bl, off, u, ha, hc, hr⟩
  have row : ∀ i, i < n → RowOk (f i) ∧ ∃ (bl off : Nat) (v1 v2 : Value), a = some ⟨bl, off, none⟩ ∧
    w.cell? ⟨bl, off + i * 7, none⟩ = some (.int .i64 (rowOf (f i)).a) ∧ w.cell? ⟨bl, off + i * 7 + 1, none⟩ = some (.int .i64 (rowOf (f i)).b) ∧ w.cell? ⟨bl, off + i * 7 + 2, none⟩ = some (.int .i64 (rowOf (f i)).k) ∧ w.cell? ⟨bl, off + i * 7 + 3, none⟩ = some (.bool (rowOf (f i)).s1) ∧
    w.cell? ⟨bl, off + i * 7 + 4, none⟩ = some v1 ∧ w.cell? ⟨bl, off + i * 7 + 5, none⟩ = some (.bool (rowOf (f i)).s2) ∧ w.cell? ⟨bl, off + i * 7 + 6, none⟩ = some v2 ∧ ReadL w v1 (rowOf (f i)).xs ∧ ReadL w v2 (rowOf (f i)).ys ∧ v1.oneCell' = true ∧ v2.oneCell' = true := fun i hi => by
    obtain ⟨bl, off, u0, ha, c0, r0⟩ := cell i hi 0 _ rfl
    obtain ⟨_, _, u1, ha1, c1, r1⟩ := cell i hi 1 _ rfl
    obtain ⟨_, _, u2, ha2, c2, r2⟩ := cell i hi 2 _ rfl
    obtain ⟨_, _, u3, ha3, c3, r3⟩ := cell i hi 3 _ rfl
    obtain ⟨_, _, u4, ha4, c4, r4⟩ := cell i hi 4 _ rfl
    obtain ⟨_, _, u5, ha5, c5, r5⟩ := cell i hi 5 _ rfl
    obtain ⟨_, _, u6, ha6, c6, r6⟩ := cell i hi 6 _ rfl
    rw [ha] at ha1 ha2 ha3 ha4 ha5 ha6
    cases ha1; cases ha2; cases ha3; cases ha4; cases ha5; cases ha6
    obtain ⟨n0, d0, rfl, z0⟩ := rd_int r0
    obtain ⟨n1, d1, rfl, z1⟩ := rd_int r1
    obtain ⟨n2, d2, rfl, z2⟩ := rd_int r2
    obtain ⟨b3, d3, rfl⟩ := rd_bool r3
    obtain ⟨m4, g4, d4⟩ := rd_sl r4
    obtain ⟨b5, d5, rfl⟩ := rd_bool r5
    obtain ⟨m6, g6, d6⟩ := rd_sl r6
    have hl4 := (hl i hi).1
    have hl6 := (hl i hi).2
    rw [d4] at r4 hl4
    rw [d6] at r6 hl6
    have hl4 : 2 * (m4 + 12) ≤ 140737488355328 := hl4
    have hl6 : 2 * (m6 + 12) ≤ 140737488355328 := hl6
    obtain ⟨p4, o4, q4⟩ := readL_of r4 hl4
    obtain ⟨p6, o6, q6⟩ := readL_of r6 hl6
    refine ⟨⟨n0, n1, n2, b3, m4, g4, b5, m6, g6, d0, d1, d2, d3, d4, d5, d6, q4, q6, by omega, by omega, z0, z1, z2⟩, bl, off, u4, u6, ha, ?_, ?_, ?_, ?_, c4, ?_, c6, ?_, ?_, o4, o6⟩
    · show w.cell? _ = some (.int .i64 (f i 0).toI); rw [d0]; exact c0
    · show w.cell? _ = some (.int .i64 (f i 1).toI); rw [d1]; exact c1
    · show w.cell? _ = some (.int .i64 (f i 2).toI); rw [d2]; exact c2
    · show w.cell? _ = some (.bool (f i 3).toB); rw [d3]; exact c3
    · show w.cell? _ = some (.bool (f i 5).toB); rw [d5]; exact c5
    · show ReadL w u4 (ints (limbsI (f i 4).toS.n (f i 4).toS.f)); rw [d4]; exact p4
    · show ReadL w u6 (ints (limbsI (f i 6).toS.n (f i 6).toS.f)); rw [d6]; exact p6
  refine ⟨⟨a, n, cap, hv, rows_len n f, hn, fun i r hr => ?_⟩, by rw [hv]; rfl, fun i hi => (row i hi).1⟩
  have hi : i < n := by
    have := (List.getElem?_eq_some_iff.1 hr).1
    rwa [rows_len] at this
  rw [rows_get hi] at hr
  cases hr
  exact (row i hi).2

end Go.Sx.Lent
