/-
  LedgerLearns' condition. Conditions: none.
-/
import Derived.Test.YtlhjljekeobplaaLedP8
import Derived.Test.YtlhjljekeobplaaLedVLearns
namespace Go.Sx.L

theorem postedS_learnt {st : Int} {d p : Sl} {m due st' : Int} {d' p' : Sl} (hl : learnt st d p m due st' d' p') (k : Int) : postedS p' k = postedS p k := postedS_eq hl.2.1 k

theorem imax_l {a b : Int} (h : b ≤ a) : imax a b = a := by unfold imax; split <;> omega
theorem imax_r {a b : Int} (h : a ≤ b) : imax a b = b := by unfold imax; split <;> omega
theorem imax_le {a b c : Int} (h : a ≤ c) (h' : b ≤ c) : imax a b ≤ c := by unfold imax; split <;> omega
theorem imax_ge_l {a b : Int} : a ≤ imax a b := by unfold imax; split <;> omega
theorem imax_ge_r {a b : Int} : b ≤ imax a b := by unfold imax; split <;> omega

theorem eqPosts.symm {p q : Sl} (h : eqPosts p q) : eqPosts q p := ⟨h.1.symm, fun i h0 h1 => by
  have := h.2 i h0 (by rw [h.1]; exact h1)
  exact ⟨this.1.symm, this.2.1.symm, this.2.2.1.symm, this.2.2.2.symm⟩⟩
theorem eqPosts.trans {p q r : Sl} (h : eqPosts p q) (g : eqPosts q r) : eqPosts p r := ⟨h.1.trans g.1, fun i h0 h1 => by
  have a := h.2 i h0 h1
  have b := g.2 i h0 (by rw [← h.1]; exact h1)
  exact ⟨a.1.trans b.1, a.2.1.trans b.2.1, a.2.2.1.trans b.2.2.1, a.2.2.2.trans b.2.2.2⟩⟩

theorem learns_same {st : Int} {d p : Sl} {m due other s1 s2 s3 : Int} {d1 p1 d2 p2 d3 p3 : Sl} (_h0 : st ≤ m) (h1 : learnt st d p m due s1 d1 p1) (h2 : learnt s1 d1 p1 m other s2 d2 p2) (h3 : learnt st d p m other s3 d3 p3) :
    sameS s2 d2 p2 s3 d3 p3 := by
  obtain ⟨rfl, a2, a3, a4⟩ := h1
  obtain ⟨rfl, b2, b3, b4⟩ := h2
  obtain ⟨rfl, c2, c3, c4⟩ := h3
  have hl : d2.len = d3.len := by
    rw [b3, a3, c3]
    unfold imax
    repeat' split
    all_goals omega
  refine ⟨rfl, ⟨hl, fun i g0 g1 => ?_⟩, (b2.trans a2).trans c2.symm⟩
  rw [b4 i g0 g1, c4 i g0 (by omega)]
  split
  · rfl
  · rename_i hne
    have hlt : i < d1.len := by
      rw [b3] at g1
      rw [a3] at g1 ⊢
      unfold imax at *
      split <;> (try split at g1) <;> omega
    rw [a4 i g0 hlt, if_neg hne]

theorem Learns_ok : V_Learns := by
  intro st _ d p w hw due hdue other hother _
  have aw : p_awake ∧ ∀ b4 : Bool, q_awake (decide (b4 = true)) → q_Learns st d p w due other (decide (b4 = true)) ∧ True := ⟨trivial, fun b hb => ⟨hb, trivial⟩⟩
  refine ⟨trivial, fun u hu => ⟨fun _ => aw, fun hn hsd => ?_⟩⟩
  obtain ⟨hu1, hu2, hv⟩ := hu.1 (by simpa using hn)
  have hbs := hv.1
  have hd0 := len0 d
  rw [rng8] at hw
  rw [rng32] at hdue hother
  have rs : ∀ x : Int, -9223372036854775808 ≤ x ∧ x ≤ 9223372036854775807 → Rng .i64 x := fun x h => h
  have hk : 0 ≤ Int.tmod w (d.len + 1) ∧ Int.tmod w (d.len + 1) ≤ d.len := by
    rw [Int.tmod_eq_emod_of_nonneg hw.1]
    have h1 := Int.emod_nonneg w (b := d.len + 1) (by omega)
    have h2 := Int.emod_lt_of_pos w (b := d.len + 1) (by omega)
    omega
  generalize Int.tmod w (d.len + 1) = k at hk ⊢
  refine ⟨rs _ (by omega), by omega, rs _ (by omega), rs _ (by omega), trivial, fun st1 hst1 d1 p1 e1 _ hq1 => ?_⟩
  have ok1 : learnOk st d p (st + k) due := ⟨hv, by omega, by omega, by omega, by omega⟩
  have ok3 : learnOk st d p (st + k) other := ⟨hv, by omega, by omega, by omega, by omega⟩
  by_cases hm : learnMany st d (st + k)
  · obtain ⟨he, _⟩ := (hq1.2 ok1).1 hm
    have h2 := hm.2
    have h1 := hm.1
    exact ⟨fun _ => ⟨fun _ _ => ⟨fun _ => ⟨fun _ => aw, fun h => absurd (by omega) h⟩, fun h => absurd (by omega) h⟩, fun h => absurd he h⟩, fun h => absurd (by omega) h⟩
  obtain ⟨he1, hl1⟩ := (hq1.2 ok1).2 hm
  have hv1 := learnt_valid ok1 hm hl1
  have hst : st1 = st := hl1.1
  have hlen1 : d1.len = imax d.len (k + 1) := by rw [hl1.2.2.1]; congr 1; omega
  have hge : k + 1 ≤ d1.len := by rw [hlen1]; exact imax_ge_r
  have hge2 : d.len ≤ d1.len := by rw [hlen1]; exact imax_ge_l
  have hle : d1.len ≤ d.len + 1 := by rw [hlen1]; exact imax_le (by omega) (by omega)
  have hd10 := len0 d1
  have hb1 := hv1.1
  refine ⟨fun h => absurd he1 h, fun _ => ⟨trivial, fun st2 _ d2 p2 e2 _ hq2 => ⟨trivial, fun st3 _ d3 p3 e3 _ hq3 => ?_⟩⟩⟩
  have ok2 : learnOk st1 d1 p1 (st + k) other := ⟨hv1, by omega, by omega, by omega, by omega⟩
  have hm2 : ¬ learnMany st1 d1 (st + k) := fun h => by have := h.1; omega
  obtain ⟨he2, hl2⟩ := (hq2.2 ok2).2 hm2
  obtain ⟨he3, hl3⟩ := (hq3.2 ok3).2 hm
  have hsame := learns_same (by omega) hl1 hl2 hl3
  refine ⟨fun h => absurd he2 h, fun _ => ⟨fun h => absurd he3 h, fun _ => ⟨trivial, fun b hb => ⟨fun h => absurd (by simpa using hb.2 hsame) h, fun _ => ⟨trivial, fun b hb => ⟨fun h => absurd (by simpa using hb.2 hv1) h, fun _ _ _ => ⟨rs _ (by omega), fun h => absurd hlen1 h, fun _ _ => ?_⟩⟩⟩⟩⟩⟩⟩
  refine ⟨fun i => 0 ≤ i ∧ i ≤ d1.len, fun i => (d1.len - i).toNat, ⟨Int.le_refl _, hd10⟩, fun i _ ⟨h0, h1⟩ => ⟨fun hlt => ?_, fun _ => aw⟩⟩
  refine ⟨rs _ (by omega), trivial, fun a _ ea _ hqa => ⟨rs _ (by omega), trivial, fun b _ eb _ hqb => ?_⟩⟩
  obtain ⟨ha, hea⟩ := (hqa.2 hv1).2 ⟨by omega, by omega⟩
  rw [hst, show st + i - st = i by omega, hl1.2.2.2 i h0 hlt, show st + k - st = k by omega, postedS_learnt hl1] at ha
  have pb := postedS_bound hv (st + i)
  have hfin : Rng .i64 (i + 1) ∧ (0 ≤ i + 1 ∧ i + 1 ≤ d1.len) ∧ (d1.len - (i + 1)).toNat < (d1.len - i).toNat := ⟨rs _ (by omega), by omega, by omega⟩
  have hB : i < d.len → b = d.int i 0 - postedS p (st + i) ∧ eb = 0 := fun h => by
    have := (hqb.2 hv).2 ⟨by omega, by omega⟩
    rwa [show st + i - st = i by omega] at this
  have hN : ¬ i < d.len → b = 0 ∧ eb = 6 := fun h => (hqb.2 hv).1 (fun h' => by have := h'.2; omega)
  -- beyond the ledger: nothing was posted
  have hP : ¬ i < d.len → postedS p (st + i) = 0 := fun h => by
    unfold postedS
    exact sumTo_zero fun j g0 g1 => by
      have := (hv.2.2.2 j g0 g1).1.1
      rw [if_neg (by omega)]
  have hdb : i < d.len → 0 ≤ d.int i 0 ∧ d.int i 0 ≤ 1099511627776 := fun h => hv.2.1 i h0 h
  have hkb : k < d.len → 0 ≤ d.int k 0 ∧ d.int k 0 ≤ 1099511627776 := fun h => hv.2.1 k hk.1 h
  by_cases hik : i = k
  · subst hik
    rw [if_pos rfl] at ha
    generalize postedS p (st + i) = pp at *
    generalize d.int i 0 = di at *
    clear hq1 hq2 hq3 hqa hqb hl1 hl2 hl3 hsame ok1 ok2 ok3 hv hv1 hm hm2 hu hn
    refine ⟨fun h => absurd hea h, fun _ _ => ?_⟩
    repeat' first | exact hfin | exact rs _ (by omega) | apply And.intro | intro _
    all_goals first | exact trivial | omega | (exfalso; omega) | (apply rs; omega)
  · rw [if_neg hik] at ha
    have hi : i < d.len := by unfold imax at hlen1; split at hlen1 <;> omega
    have hB := hB hi
    generalize postedS p (st + i) = pp at *
    generalize d.int i 0 = di at *
    clear hq1 hq2 hq3 hqa hqb hl1 hl2 hl3 hsame ok1 ok2 ok3 hv hv1 hm hm2 hu hn
    refine ⟨fun h => absurd hea h, fun _ _ => ?_⟩
    repeat' first | exact hfin | exact rs _ (by omega) | apply And.intro | intro _
    all_goals first | exact trivial | omega | (exfalso; omega) | (apply rs; omega)

end Go.Sx.L
