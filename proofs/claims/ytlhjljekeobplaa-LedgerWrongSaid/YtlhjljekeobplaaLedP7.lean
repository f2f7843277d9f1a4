/-
  The chapter's examples hold. Conditions: none.
-/
import Derived.Test.YtlhjljekeobplaaLedP6
namespace Go.Sx.L

theorem awake_ok : V_awake := by
  intro _
  refine ⟨trivial, fun st _ d p hex _ => ?_⟩
  have hv := ex_valid hex
  have hpo := ex_posted hex
  have hba := ex_bal hex
  have hex' := hex
  obtain ⟨rfl, hd, d0, d1, d2, hp, ⟨a0, a1, a2, a3⟩, ⟨b0, b1, b2, b3⟩, ⟨c0, c1, c2, c3⟩, ⟨e0, e1, e2, e3⟩, ⟨f0, f1, f2, f3⟩⟩ := hex
  refine ⟨fun i => 0 ≤ i ∧ i ≤ 3, fun i => (3 - i).toNat, by decide, fun i hri hj => ?_⟩
  obtain ⟨hi0, hi1⟩ := hj
  have hl3 : (Sl.lit [[.int 0], [.int 10], [.int (-10)]]).len = 3 := rfl
  rw [hl3]
  refine ⟨fun hlt => ⟨hi0, hlt, fun _ => ⟨by rw [rng64]; omega, trivial, fun x _ e _ hq => ?_⟩⟩, fun hge => ?_⟩
  · have hi : i = 0 ∨ i = 1 ∨ i = 2 := by omega
    have hh : hasS 1500 d (1500 + i) := ⟨by omega, by omega⟩
    obtain ⟨hx, he⟩ := (hq.2 hv).2 hh
    have hx' : x = (Sl.lit [[.int 0], [.int 10], [.int (-10)]]).int i 0 := by
      rw [hx]
      rcases hi with rfl | rfl | rfl
      · show d.int 0 0 - postedS p 1500 = 0; omega
      · show d.int 1 0 - postedS p 1501 = 10; omega
      · show d.int 2 0 - postedS p 1502 = -10; omega
    refine ⟨fun h => absurd hx' h, fun _ => ⟨fun h => absurd he h, fun _ => ⟨by rw [rng64]; omega, ⟨by omega, by omega⟩, ?_⟩⟩⟩
    show (3 - (i + 1)).toNat < (3 - i).toNat; omega
  refine ⟨trivial, fun a _ ea _ hqa => ⟨trivial, fun b _ eb _ hqb => ⟨?_, fun s _ dm pm em _ hqm => ⟨trivial, fun c _ ec _ hqc => ⟨trivial, fun so _ dd po eo _ hqo => ⟨trivial, fun o _ e2 _ hqo2 => ?_⟩⟩⟩⟩⟩⟩
  · trivial
  obtain ⟨ha, hea⟩ := hqa.2 hv
  obtain ⟨hb, heb⟩ := hqb.2 hv
  have hok : learnOk 1500 d p 1500 80 := ⟨hv, by omega, by omega, by omega, by omega⟩
  have hnm : ¬ learnMany 1500 d 1500 := fun h => by have := h.1; omega
  obtain ⟨hem, hlm⟩ := (hqm.2 hok).2 hnm
  have hvm := learnt_valid hok hnm hlm
  obtain ⟨hs, hpm, hdl, hdm⟩ := hlm
  have hdl3 : dm.len = 3 := by rw [hdl, hd]; decide
  obtain ⟨hc, hec⟩ := (hqc.2 hvm).2 (by rw [hs]; exact ⟨by omega, by omega⟩)
  have hc' : c = -20 := by
    rw [hc, postedS_eq hpm, hs, hdm (1500 - 1500) (by omega) (by omega), if_pos rfl]
    omega
  obtain ⟨heo, hso, hdo, hup⟩ := hqo.2 hv
  have hvo := upTo_valid hv hdo hup
  rw [← hso] at hvo
  obtain ⟨ho, he2⟩ := (hqo2.2 hvo).2 (by rw [hso]; exact ⟨by omega, by have := hdo.1; omega⟩)
  have hpl : po.len = 3 := by
    obtain ⟨u1, u2, u3⟩ := hup
    have hl0 := len0 po
    rcases Int.lt_or_le po.len 3 with h | h
    · have h' : po.len = 0 ∨ po.len = 1 ∨ po.len = 2 := by omega
      have := u3 po.len (Int.le_refl _) (by omega)
      rcases h' with e | e | e <;> rw [e] at this <;> omega
    · rcases Int.lt_or_le 3 po.len with g | g
      · have := (u2 3 (by omega) g).2
        omega
      · omega
  have hpn : po.n = 3 := by unfold Sl.len at hpl; omega
  have ho' : o = 120 := by
    rw [ho, hso, hdo.2 (1502 - 1500) (by omega) (by have := hdo.1; omega)]
    have q0 := (hup.2.1 0 (by omega) (by omega)).1
    have q1 := (hup.2.1 1 (by omega) (by omega)).1
    have q2 := (hup.2.1 2 (by omega) (by omega)).1
    have : postedS po 1502 = 0 := by
      unfold postedS
      rw [hpn, sumTo3]
      simp [q0.2.1, q1.2.1, q2.2.1, a1, b1, c1]
    rw [this]
    show d.int 2 0 - 0 = 120
    omega
  have z : ∀ x : Int, x = 0 → Rng .i64 x := fun x h => by rw [h, rng64]; omega
  refine ⟨z _ (by omega), z _ (by omega), z _ (by omega), z _ (by omega), z _ (by omega), fun _ => ⟨fun _ => ⟨fun _ => ⟨fun _ => ⟨?_, trivial⟩, fun h => absurd hc' h⟩, fun h => absurd (hb.trans hba.2) h⟩, fun h => absurd (ha.trans hba.1) h⟩, fun h => absurd (by omega) h⟩
  show decide (o = 120) = true
  simp [ho']

end Go.Sx.L
