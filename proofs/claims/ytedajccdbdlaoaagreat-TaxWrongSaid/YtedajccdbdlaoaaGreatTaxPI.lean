/-
  The condition of TaxWrong. Conditions: none.
-/
import Derived.Test.YtedajccdbdlaoaaGreatNumVWrong
import Derived.Test.YtedajccdbdlaoaaGreatTaxPE
set_option linter.unusedVariables false
set_option linter.unusedSimpArgs false
namespace Go.Sx.N

section
variable {s : Sl} {k : Int}
theorem upd_valid_of {i : Int} {j : Nat} {c : List D} (h : validS (Sl.upd s i j c)) (h0 : 0 ≤ i) (h1 : i < s.len) : okB (Sl.upd s i j c) i := h.2.1 i h0 h1
theorem upd_rate {k : Int} {a c : Bool} {b d : Sl} : (Sl.upd s k 1 [.bool a, Sl.d b, .bool c, Sl.d d]).bool k 1 = a ∧ (Sl.upd s k 1 [.bool a, Sl.d b, .bool c, Sl.d d]).sub k 2 = b ∧ (Sl.upd s k 1 [.bool a, Sl.d b, .bool c, Sl.d d]).bool k 3 = c ∧ (Sl.upd s k 1 [.bool a, Sl.d b, .bool c, Sl.d d]).sub k 4 = d := by
  refine ⟨?_, ?_, ?_, ?_⟩ <;> simp [Sl.bool, Sl.sub, Sl.upd, Sl.d, D.toB, D.toS]
end

theorem Wrong_ok : V_Wrong := by
  intro l _ x1 r1 x2 _ _
  rw [rngu8] at r1
  simp only [Bool.decide_eq_true]
  refine ⟨trivial, fun b hb => ⟨fun h => absurd hb h, fun _ => ⟨trivial, fun c hc => ⟨fun _ => ⟨rfl, trivial⟩, fun hf => ⟨trivial, fun d hd => ⟨fun _ => ⟨rfl, trivial⟩, fun hv _ => ⟨fun _ => ⟨rfl, trivial⟩, fun h2 _ => ?_⟩⟩⟩⟩⟩⟩⟩
  have v := hd.1 (Classical.not_not.1 hv)
  have l20 := v.1
  refine ⟨by rw [rng64]; omega, trivial, fun p _ hp => ?_⟩
  have hp := pick_bd hp (by omega)
  refine ⟨by rw [rng64]; omega, hc.1 (Classical.not_not.1 hf), fun s _ hs => ⟨trivial, fun oa ob rob oc od rod ho => ?_⟩⟩
  have hs : sameB s l := hs
  have ls := hs.1
  have tm : Int.tmod x1 5 = x1 % 5 := Int.tmod_eq_emod_of_nonneg r1.1
  rw [tm]
  refine ⟨fun m => ¬ validS m, ⟨by decide, by rw [rngu8]; omega, fun _ => ⟨by rw [rng64]; omega, by omega, by omega, fun _ => ⟨by omega, by omega, fun hm => ?_⟩⟩, fun _ => ⟨fun _ => ⟨by omega, by omega, fun hm => ?_⟩, fun _ => ⟨fun _ => ⟨trivial, fun ka kb rkb kc kd rkd hk => ⟨trivial, fun na nb rnb nc nd rnd e _ hn => ⟨by omega, by omega, fun hm => ?_⟩⟩⟩, fun _ => ⟨fun _ => ⟨by omega, by omega, fun hm => ?_⟩, fun _ => ⟨by omega, by omega, fun hm => ?_⟩⟩⟩⟩⟩, fun m _ hm => ?_⟩
  · have := (hm.2.2 (1 + p) (by omega) (by show 1 + p < s.len; omega)).1
    rw [int_upd (by omega) (by omega), int_upd (by omega) (by omega), if_neg (by omega), if_pos rfl] at this
    omega
  · have := (upd_valid_of hm (by omega) (by omega)).1
    rw [int_upd (by omega) (by omega), if_pos rfl] at this
    omega
  · have o := (upd_valid_of hm (by omega) (by omega)).2
    obtain ⟨e1, e2, e3, e4⟩ := upd_rate (s := s) (k := 1 + p) (a := na) (b := nb) (c := nc) (d := nd)
    rw [e1, e2, e3, e4] at o
    have bd := (Bd.int (n := 1) (K := 1) (by decide) (by decide)).add (Bd.int (n := 1 + p) (K := 20) (by omega) (by omega))
    have fit := bd.fit (by decide) (by decide)
    have hn := hn.1 ⟨fromInt_ok ho, fromInt_ok hk⟩
    rw [ho.1.fq, hk.1.fq] at hn
    obtain ⟨q, rfl⟩ := hn.1 fit
    have := o.2.2.1
    rw [q.fq, ← Rat.intCast_add] at this
    have := Rat.intCast_le_intCast.1 (show ((1 + (1 + p) : Int) : Rat) ≤ ((1 : Int) : Rat) from this)
    omega
  · have o := (upd_valid_of hm (by omega) (by omega)).2
    obtain ⟨e1, e2, e3, e4⟩ := upd_rate (s := s) (k := 1 + p) (a := decide False) (b := Sl.nil) (c := decide False) (d := Sl.nil)
    rw [e1, e2, e3, e4] at o
    obtain ⟨q, hq⟩ := o.1.1
    have := hq.2.2.2.2
    have z : vl Sl.nil = 0 := rfl
    have := q.den_pos
    omega
  · have := (upd_valid_of hm (by omega) (by omega)).1
    rw [int_upd (by omega) (by omega), if_pos rfl] at this
    omega
  · have hm : ¬ validS m := hm
    have ny : ¬ validY (year1 1 m) := fun h => hm (h.1 0 (by decide) (by show (0 : Int) < 1; decide))
    refine ⟨trivial, fun a b rb c d rd e1 _ h1 => ⟨trivial, fun du _ e2 _ h2 => ⟨trivial, fun sc _ e3 _ h3 => ⟨trivial, fun r _ mo _ g _ t _ e4 _ h4 => ⟨trivial, fun w hw => ?_⟩⟩⟩⟩⟩
    obtain ⟨z1, y1⟩ := h1.2 (fun h => hm h.1)
    obtain ⟨z2, y2⟩ := h2.2 (fun h => hm h.1)
    have h3 : scaleOf (year1 1 m) 5 sc e3 := h3
    obtain ⟨z3, y3⟩ := h3.1 ny
    have h4 : held (year1 1 m) 0 0 0 1 1 r mo g t e4 := h4
    obtain ⟨z4, z5, z6, z7, y4⟩ := h4.1 (fun h => ny h.1)
    refine ⟨fun _ => ⟨fun _ => ⟨fun _ => ⟨fun _ => ⟨fun _ => ⟨trivial, fun f hf => ⟨fun _ => ⟨fun _ _ => ⟨fun _ => ⟨fun _ => ⟨?_, trivial⟩, fun h => absurd z4 h⟩, fun h => absurd z3 h⟩, fun h => absurd z2 h⟩, fun h => ?_⟩⟩, fun h => absurd (by omega) h⟩, fun h => absurd (by omega) h⟩, fun h => absurd (by omega) h⟩, fun h => absurd y1 h⟩, fun h => absurd (hw.1 (Classical.not_not.1 h)) hm⟩
    · show decide (mo = 0 ∧ g = 0 ∧ t = 0) = true
      rw [decide_eq_true_eq]; exact ⟨z5, z6, z7⟩
    · have zz : zeroF (decide False) Sl.nil (decide False) Sl.nil := ⟨rfl, rfl, rfl, rfl⟩
      have sf := zero_same z1 zz
      exact absurd (hf.2 sf) h

end Go.Sx.N
