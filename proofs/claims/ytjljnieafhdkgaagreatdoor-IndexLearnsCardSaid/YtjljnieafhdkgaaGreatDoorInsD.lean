/-
  slices.Insert at the rows of a table is what the engine takes it for. Conditions: none.
-/
import Derived.Test.YtjljnieafhdkgaaGreatDoorInsC
set_option linter.unusedVariables false
set_option linter.unusedSimpArgs false
namespace Go.Sx.Ins
open Go Go.Proofs Go.RowKit Go.Lib Go.Sx

set_option maxHeartbeats 4000000 in
set_option maxRecDepth 100000 in
/-- At the end: what append gives. -/
theorem atEnd (a : Option Addr) (n cap vb m vc : Nat) (w w1 : World) (v : Value) (hm : 0 < m) (hnc : n ≤ cap) (h63 : cap ≤ 9223372036854775807) (hnil : a = none → cap = 0)
    (hrun : (Builtin.append_ #[25, 25] 25 #[.slice a n cap, .slice (some ⟨vb, 0, none⟩) m vc]).run Tryz.prog w = .ok v w1) :
    Calls Tryz.prog 60 #[.slice a n cap, .int .i64 n, .slice (some ⟨vb, 0, none⟩) m vc] w fun e w' => e = .returned v ∧ w' = w1 := by
  have hz1 : ¬ ((m : Int) = 0) := by omega
  have mixed : Tryz.prog.follows .mixedOrders = true := by kernel_rfl
  go_enter Tryz.func60, Tryz.ntmps60
  cases a with
  | none =>
    have h0 := hnil rfl
    subst h0
    obtain rfl : n = 0 := by omega
    go_wp2_with (at_builtin; refine Lib.wpList_append_run _ rfl _ _ _ _ rfl _ _ rfl rfl _ _ hrun ?_)
    go_ret
    exact ⟨rfl, rfl⟩
  | some x =>
    obtain ⟨xb, xo, xs⟩ := x
    go_wp2_with (at_builtin; refine Lib.wpList_append_run _ rfl _ _ _ _ rfl _ _ rfl rfl _ _ hrun ?_)
    all_goals (go_ret; exact ⟨rfl, rfl⟩)

theorem one_of {P : Program} {w : World} {R : Nat → Prop} {cs : Array Value} {n : Nat} {ks : List K} {f : Nat → Nat → D} (hk : ks.length = 7) (h : ∀ j k kk, j < n → ks[k]? = some kk → ∃ u, cs[j * ks.length + k]? = some u ∧ Rd P w R (f j k) kk u) : ∀ v ∈ cs.toList.take (n * 7), v.oneCell' = true := by
  intro v hv
  obtain ⟨x, hx⟩ := List.mem_iff_getElem?.1 hv
  have hlt : x < n * 7 := by
    have := (List.getElem?_eq_some_iff.1 hx).1
    simp at this
    omega
  rw [List.getElem?_take, if_pos hlt, Array.getElem?_toList] at hx
  have hq : x % 7 < ks.length := by rw [hk]; exact Nat.mod_lt _ (by omega)
  obtain ⟨u, hu, hr⟩ := h (x / 7) (x % 7) (ks[x % 7]) (by omega) (List.getElem?_eq_getElem hq)
  rw [hk, show x / 7 * 7 + x % 7 = x by omega, hx] at hu
  cases hu
  exact hr.one

/-- What the row holds behind it. -/
theorem reads {P : Program} {w : World} {R : Nat → Prop} {cs vcs cs' : Array Value} {d r : Sl} {i : Nat} {ks : List K} (hi : i ≤ d.n) (hk : ks.length = 7)
    (hd : ∀ j k kk, j < d.n → ks[k]? = some kk → ∃ u, cs[j * ks.length + k]? = some u ∧ Rd P w R (d.f j k) kk u)
    (hr : ∀ j k kk, j < r.n → ks[k]? = some kk → ∃ u, vcs[j * ks.length + k]? = some u ∧ Rd P w R (r.f j k) kk u)
    (h1 : ∀ x, x < i * 7 → cs'[x]? = cs[x]?) (h2 : ∀ x, x < r.n * 7 → cs'[i * 7 + x]? = vcs[x]?) (h3 : ∀ x, i * 7 ≤ x → x < d.n * 7 → cs'[r.n * 7 + x]? = cs[x]?) :
    ∀ j k kk, j < d.n + r.n → ks[k]? = some kk → ∃ u, cs'[j * ks.length + k]? = some u ∧ Rd P w R ((Sl.app (Sl.app (Sl.part d 0 i) r) (Sl.part d i d.n)).f j k) kk u := by
  intro j k kk hj hq
  have hk' : k < 7 := by rw [← hk]; exact (List.getElem?_eq_some_iff.1 hq).1
  simp only [Sl.app, Sl.part]
  by_cases hji : j < i
  · obtain ⟨u, hu, hru⟩ := hd j k kk (by omega) hq
    refine ⟨u, ?_, ?_⟩
    · rw [hk] at hu ⊢
      rw [h1 _ (by omega)]
      exact hu
    · have e1 : j < ((i : Int) - 0).toNat + r.n := by omega
      have e2 : j < ((i : Int) - 0).toNat := by omega
      simp only [e1, e2, if_true]
      simpa using hru
  · by_cases hjm : j < i + r.n
    · obtain ⟨u, hu, hru⟩ := hr (j - i) k kk (by omega) hq
      refine ⟨u, ?_, ?_⟩
      · rw [hk] at hu ⊢
        rw [show j * 7 + k = i * 7 + ((j - i) * 7 + k) by omega, h2 _ (by omega)]
        exact hu
      · have e1 : j < ((i : Int) - 0).toNat + r.n := by omega
        have e2 : ¬ j < ((i : Int) - 0).toNat := by omega
        simp only [e1, e2, if_true, if_false]
        rw [show j - ((i : Int) - 0).toNat = j - i by omega]
        exact hru
    · obtain ⟨u, hu, hru⟩ := hd (j - r.n) k kk (by omega) hq
      refine ⟨u, ?_, ?_⟩
      · rw [hk] at hu ⊢
        rw [show j * 7 + k = r.n * 7 + ((j - r.n) * 7 + k) by omega, h3 _ (by omega) (by omega)]
        exact hu
      · have e1 : ¬ j < ((i : Int) - 0).toNat + r.n := by omega
        simp only [e1, if_false]
        have e3 : (i : Int).toNat + (j - (((i : Int) - 0).toNat + r.n)) = j - r.n := by omega
        first
          | (rw [e3]; exact hru)
          | (rw [show (j - (((i : Int) - 0).toNat + r.n)) + (i : Int).toNat = j - r.n by omega]; exact hru)

theorem insOK : InsOK Tryz.prog 60 56 := by
  intro w R d r a cap vb vcap i vcs ks inf z hks hL hinf hsz hzv hzs hby hd hi hrn hrv hvc hvb hvs hvr hne hbytes
  have hk7 : ks.length = 7 := by
    obtain ⟨i0, h, h1, _⟩ := info40
    rw [hinf] at h; cases h
    rw [← hsz]; exact h1
  have hd0 := hd
  obtain ⟨d1, d2, d3, d4⟩ := hd
  have hdc : d.n ≤ cap := Nat.le_trans d1 (Nat.min_le_left _ _)
  have hrc : r.n ≤ vcap := Nat.le_trans hrv (Nat.min_le_left _ _)
  have h63 : cap ≤ 9223372036854775807 := by unfold maxLen at d2; omega
  have hvz : r.n * 7 ≤ vcs.size := by rw [hvs, hk7]; exact Nat.mul_le_mul_right _ hrc
  have h1v := one_of (w := w) hk7 hvr
  by_cases hin : i = d.n
  · subst hin
    have hcont : Cont Tryz.prog w R 56 r (.slice (some ⟨vb, 0, none⟩) r.n vcap) := ⟨some ⟨vb, 0, none⟩, vcap, rfl, hrv, hvc, (fun h => by cases h), fun ks2 j q kk hks2 hj hq => by
      rw [hks] at hks2; cases hks2
      obtain ⟨u, hu, hru⟩ := hvr j q kk hj hq
      exact ⟨⟨vb, 0, none⟩, u, rfl, rfl, by simp [World.cell?, hvb, hu], hru⟩⟩
    have hcore := append_core (P := Tryz.prog) (w := w) (R := R) (t := 25) (ty := 25) Tryz.underlying25 hks hinf hsz hzv hzs hL hby hd0 hcont hbytes
    have hsame : ∀ j k, j < d.n + r.n → (Sl.app (Sl.app (Sl.part d 0 d.n) r) (Sl.part d d.n d.n)).f j k = (Sl.app d r).f j k := fun j k hj => by
      simp only [Sl.app, Sl.part]
      have e1 : j < ((d.n : Int) - 0).toNat + r.n := by omega
      simp only [e1, if_true]
      by_cases e2 : j < d.n
      · have e3 : j < ((d.n : Int) - 0).toNat := by omega
        simp [e2]
      · have e3 : ¬ j < ((d.n : Int) - 0).toNat := by omega
        simp [e2]
    rcases hcore with ⟨hr0, _⟩ | ⟨b, cs, cs', hab, hcpos, hroom, hcs, hrun, hsize, hcell⟩ | ⟨cap', cs', hc1, hc2, hrun, hsize, hcell⟩
    · omega
    · refine (atEnd a d.n cap vb r.n vcap w _ _ hrn hdc h63 d3 hrun).mono ?_
      rintro en w' ⟨rfl, rfl⟩
      refine ⟨_, rfl, .inl ⟨b, cs, cs', hab, hcpos, hroom, hcs, rfl, Below.refl _ _, hsize, fun j k kk hj hq => ?_⟩⟩
      rw [hsame j k hj]
      exact hcell j k kk hj hq
    · refine (atEnd a d.n cap vb r.n vcap w _ _ hrn hdc h63 d3 hrun).mono ?_
      rintro en w' ⟨rfl, rfl⟩
      refine ⟨_, rfl, .inr ⟨cap', cs', rfl, (Below.drew (Below.refl _ _)).alloc (by simp) _, heap_alloc_new w.drew _, hc1, hc2, hsize, fun j k kk hj hq => ?_⟩⟩
      rw [hsame j k hj]
      exact hcell j k kk hj hq
  · have hilt : i < d.n := by omega
    rcases d4 with d4 | ⟨b, cs, rfl, hcs, hcont⟩
    · omega
    obtain ⟨hcz, hcd⟩ := hcont ks hks
    rw [hk7] at hcz
    have hnb : vb ≠ b := fun e => hne b rfl (by omega) e.symm
    have h1c0 := one_of (w := w) hk7 hcd
    have h1c : ∀ v ∈ (cs.toList.take (d.n * 7)).drop (i * 7), v.oneCell' = true := fun v hv => h1c0 v (List.mem_of_mem_drop hv)
    have hlt1 : ((cs.toList.take (d.n * 7)).drop (i * 7)).length = (d.n - i) * 7 := by simp; omega
    have hlt2 : (vcs.toList.take (r.n * 7)).length = r.n * 7 := by simp; omega
    have hD : ∀ x, x < (d.n - i) * 7 → ((cs.toList.take (d.n * 7)).drop (i * 7))[x]? = cs[i * 7 + x]? := fun x hx => by
      rw [List.getElem?_drop, List.getElem?_take, if_pos (by omega), Array.getElem?_toList]
    have hV : ∀ x, x < r.n * 7 → (vcs.toList.take (r.n * 7))[x]? = vcs[x]? := fun x hx => by
      rw [List.getElem?_take, if_pos (by omega), Array.getElem?_toList]
    by_cases hroom : d.n + r.n ≤ cap
    · refine (shift b cap i d.n vb r.n vcap cs vcs w hilt hrn hroom h63 hnb hcs hcz hvb hvz h1c h1v).mono ?_
      rintro en w' ⟨rfl, rfl⟩
      obtain ⟨c1, hc1⟩ : ∃ c1, c1 = seg cs ((i + r.n) * 7) ((cs.toList.take (d.n * 7)).drop (i * 7)) := ⟨_, rfl⟩
      have hf1 : (i + r.n) * 7 + ((cs.toList.take (d.n * 7)).drop (i * 7)).length ≤ cs.size := by rw [hlt1]; omega
      have hc1s : c1.size = cap * 7 := by rw [hc1, seg_size hf1, hcz]
      have hf2 : i * 7 + (vcs.toList.take (r.n * 7)).length ≤ c1.size := by rw [hlt2]; omega
      rw [← hc1]
      refine ⟨_, rfl, .inl ⟨b, cs, seg c1 (i * 7) (vcs.toList.take (r.n * 7)), rfl, by omega, hroom, hcs, rfl, ?_, by rw [seg_size hf2, hc1s, hk7], ?_⟩⟩
      · rw [setRow_setRow]
        exact ⟨rfl, rfl, rfl, Nat.le_refl _, fun _ _ => rfl⟩
      · refine reads hi hk7 hcd hvr (fun x hx => ?_) (fun x hx => ?_) (fun x hx hx2 => ?_)
        · rw [seg_get hf2, if_pos hx, hc1, seg_get hf1, if_pos (by omega)]
        · rw [seg_get hf2, if_neg (by omega), if_pos (by rw [hlt2]; omega), show i * 7 + x - i * 7 = x by omega, hV x hx]
        · rw [seg_get hf2, if_neg (by omega), if_neg (by rw [hlt2]; omega), hc1, seg_get hf1, if_neg (by omega), if_pos (by rw [hlt1]; omega), hD _ (by omega), show i * 7 + (r.n * 7 + x - (i + r.n) * 7) = x by omega]
    · refine (grow b cap i d.n vb r.n vcap cs vcs z inf w hilt hrn hdc (by omega) hcs hcz hvb hvz hinf hzv (by rw [hzs, hk7]) hbytes hby h1c h1v).mono ?_
      rintro en w' ⟨G, r1, r2, hG1, hG2, rfl, hr1, hr2, hbel, hh⟩
      have hf0 : (row0 cs z.cells i d.n r.n G).size = G * 7 := row0_size (by rw [hzs, hk7]) (by omega) hi hG1
      have hf1 : i * 7 + (vcs.toList.take (r.n * 7)).length ≤ (row0 cs z.cells i d.n r.n G).size := by rw [hlt2]; omega
      have hr1s : r1.size = G * 7 := by rw [hr1, seg_size hf1, hf0]
      have hf2 : (i + r.n) * 7 + ((cs.toList.take (d.n * 7)).drop (i * 7)).length ≤ r1.size := by rw [hlt1]; omega
      refine ⟨_, rfl, .inr ⟨G, r2, rfl, hbel, hh, hG1, hG2, by rw [hr2, seg_size hf2, hr1s, hk7], ?_⟩⟩
      refine reads hi hk7 hcd hvr (fun x hx => ?_) (fun x hx => ?_) (fun x hx hx2 => ?_)
      · rw [hr2, seg_get hf2, if_pos (by omega), hr1, seg_get hf1, if_pos hx]
        unfold row0
        rw [Array.getElem?_append_left (by simp; omega), Array.getElem?_append_left (by simp; omega)]
        simp [hx]
      · rw [hr2, seg_get hf2, if_pos (by omega), hr1, seg_get hf1, if_neg (by omega), if_pos (by rw [hlt2]; omega), show i * 7 + x - i * 7 = x by omega, hV x hx]
      · rw [hr2, seg_get hf2, if_neg (by omega), if_pos (by rw [hlt1]; omega), hD _ (by omega), show i * 7 + (r.n * 7 + x - (i + r.n) * 7) = x by omega]

end Go.Sx.Ins
