/-
  The law TableWrong: its condition. Conditions: none.
-/
import Derived.Test.YtjbknheeiaaioaaNumVTWrong
import Derived.Test.YtjbknheeiaaioaaTabPC
import Derived.Test.YtjbknheeiaaioaaTabFg
set_option linter.unusedVariables false
set_option linter.unusedSimpArgs false
namespace Go.Sx.N

theorem not_right {two : Bool} {a b k : Int} {nn dn : Bool} {nl dl : Sl} (h : (a < -2147483648 ∨ 2147483647 < a) ∨ (b < -2147483648 ∨ 2147483647 < b) ∨ (k < 0 ∨ 65535 < k)) : ¬ rightS two a b k nn nl dn dl := fun ⟨h1, h2, _, h4, _⟩ => by omega
theorem zero_bad : ¬ okF false Sl.nil false Sl.nil := fun h => by
  obtain ⟨⟨q, hq⟩, _⟩ := h
  exact absurd hq.den_pos (by decide)
theorem neg_bad {a : Bool} {b d : Sl} : ¬ okF a b true d := fun h => by
  obtain ⟨⟨q, hq⟩, _⟩ := h
  exact absurd hq.2.2.1 (by decide)

/-- A row in a table's literal of four tables. -/
def tabL (y1 : ByteArray) (t1 : Bool) (s1 : Sl) (y2 : ByteArray) (t2 : Bool) (s2 : Sl) (two : Bool) (s : Sl) : Sl := Sl.lit [[.str y1, .bool t1, Sl.d s1], [.str y2, .bool t2, Sl.d s2], [.str (bytes []), .bool two, Sl.d s], [.str (bytes [97, 98, 99, 100, 101, 102, 103, 104, 105, 106, 107, 108, 109, 110, 111, 112, 113, 114, 115, 116, 117, 118, 119, 120, 121]), .bool two, Sl.d s]]

theorem last_row {a : Sl} {l : List D} : rowEq (Sl.app a (Sl.lit [l])) a.len (Sl.lit [l]) 0 := by
  refine rowEq_cells ?_
  rw [app_new rfl]
  rfl

theorem spoilt_bad {y : ByteArray} {two : Bool} {u : Sl} {a b k : Int} {nn dn : Bool} {nl dl : Sl} (h : ¬ rightS two a b k nn nl dn dl) : ¬ validT y two (Sl.app u (rowL a b k nn nl dn dl)) := by
  have l := len_app1 u [.int a, .int b, .int k, .bool nn, Sl.d nl, .bool dn, Sl.d dl]
  have n := len0 u
  refine not_valid (i := u.len) n (by show u.len < (Sl.app u (Sl.lit _)).len; omega) fun g => h ?_
  exact (rightAt_congr (rowEq.symm last_row) g : rightAt two (rowL a b k nn nl dn dl) 0)

theorem turned_bad {y : ByteArray} {two : Bool} {u : Sl} {a b k a' b' k' : Int} {nn dn nn' dn' : Bool} {nl dl nl' dl' : Sl} (h : a' < a) : ¬ validT y two (Sl.app (Sl.app (rowL a b k nn nl dn dl) u) (rowL a' b' k' nn' nl' dn' dl')) := by
  have l := len_app1 (Sl.app (rowL a b k nn nl dn dl) u) [.int a', .int b', .int k', .bool nn', Sl.d nl', .bool dn', Sl.d dl']
  have l2 : (Sl.app (rowL a b k nn nl dn dl) u).len = 1 + u.len := len_app _ _
  have n := len0 u
  refine not_sorted (i := 0) (j := (Sl.app (rowL a b k nn nl dn dl) u).len) (Int.le_refl _) (by omega) (by show _ < (Sl.app _ (Sl.lit _)).len; omega) ?_
  have q1 : rowEq (Sl.app (Sl.app (rowL a b k nn nl dn dl) u) (rowL a' b' k' nn' nl' dn' dl')) (Sl.app (rowL a b k nn nl dn dl) u).len (rowL a' b' k' nn' nl' dn' dl') 0 := last_row
  have q2 : rowEq (Sl.app (Sl.app (rowL a b k nn nl dn dl) u) (rowL a' b' k' nn' nl' dn' dl')) 0 (rowL a b k nn nl dn dl) 0 := by
    refine (rowEq_cells (t := Sl.app (rowL a b k nn nl dn dl) u) (k := 0) (f_app_lt (Int.le_refl _) (by omega))).trans (rowEq_cells (f_app_lt (Int.le_refl _) ?_))
    show (0 : Int) < 1
    decide
  rw [q1.1, q2.1]
  exact h

theorem empty_name {y : ByteArray} (h : ylen y = 0) : y = bytes [] := by
  have h : y.size = 0 := by
    unfold ylen at h
    omega
  exact ByteArray.ext (Array.eq_empty_of_size_eq_zero h)

theorem look_err {ok : Prop} {C : Int → Prop} {t : Sl} {a c : Bool} {b d : Sl} {e : Int} (h : lookR ok C t a b c d e) (hok : ok) : e ≠ 2 := by
  intro e2
  by_cases x : ∃ k, C k
  · obtain ⟨k, hk⟩ := x
    have := (look_at h hok hk).2
    omega
  · have := (look_no h hok fun k hk => x ⟨k, hk⟩).2
    omega

set_option maxHeartbeats 4000000 in
theorem TWrong_ok : V_TWrong := by
  intro s rs way rw_ two _
  simp only [Bool.decide_eq_true]
  refine ⟨trivial, fun w hw => ⟨fun h => absurd hw h, fun _ => ⟨trivial, fun y two' t rt hB => ⟨trivial, fun fa fb rfb fc fd rfd hF => ?_⟩⟩⟩⟩
  have v1 := built_valid hB
  have n1 := built_name hB
  have l1 := built_len hB
  have t0 := len0 t
  obtain rfl : two' = two := hB.2.1
  obtain rfl : y = builtN := hB.1
  have okT : okF fa fb fc fd := litF_ok hF
  have rw_ : 0 ≤ way ∧ way ≤ 255 := rw_
  have tm : Int.tmod way 8 = way % 8 := Int.tmod_eq_emod_of_nonneg rw_.1
  refine ⟨fun A B K nn nl dn dl => ¬ rightS two' A B K nn nl dn dl, ⟨by decide, ?_, ?_⟩, ?_⟩
  · rw [tm]
    show 0 ≤ way % 8 ∧ way % 8 ≤ 255
    omega
  · refine ⟨fun _ => not_right (by omega), fun h0 => ⟨fun _ => not_right (by omega), fun h1 => ⟨fun _ => not_right (by omega), fun h2 => ⟨fun _ => not_right (by omega), fun h3 => ⟨fun _ => not_right (by omega), fun h4 => ⟨fun _ => ?_, fun h5 => ⟨fun _ => ?_, fun h6 => ⟨fun _ => not_right (by omega), fun h7 => ?_⟩⟩⟩⟩⟩⟩⟩⟩
    · exact fun h => zero_bad (by simpa using h.2.2.2.2)
    · exact fun h => neg_bad (by simpa using h.2.2.2.2)
    · rw [tm] at *
      omega
  intro A rA B rB K rK nn nl rn dn dl rd hbad
  refine ⟨n1, fun y3 two3 u3 ru3 e3 re3 hL => ?_⟩
  obtain ⟨⟨z1, z2, z3⟩, rfl⟩ := hL.1 fun h => hbad h.2
  have sp : okN builtN ∧ ¬ validT builtN two' (Sl.app (Sl.app (Sl.lit []) t) (rowL A B K nn nl dn dl)) := ⟨n1, spoilt_bad hbad⟩
  refine ⟨fun y b s => okN y ∧ ¬ validT y b s, ?_, fun ys bs ss rss hsp => ⟨?_, fun y b s => okN y ∧ ¬ validT y b s, ?_, fun yt bt st rst htu => ?_⟩⟩
  · have one : V_TWrong_0 builtN two' t A B K nn nl dn dl (fun y b s => okN y ∧ ¬ validT y b s) := by
      unfold V_TWrong_0
      simp only [Bool.decide_eq_true]
      have e0 : (Sl.app (Sl.lit []) t).len = t.len := nilapp_len t
      refine ⟨?_, ?_, sp⟩
      · show ((0 : Int) + t.len) * 88 ≤ _
        omega
      · show ((Sl.app (Sl.lit []) t).len + 1) * 88 ≤ _
        omega
    exact ⟨⟨one, one⟩, one⟩
  · show ((1 : Int) + t.len) * 88 ≤ _
    omega
  · have one : ∀ (ga : Bool) (gb : Sl), Ranged gb [some .u16] → ∀ (gc : Bool) (gd : Sl), Ranged gd [some .u16] → q_kFrac 1 3 ga gb gc gd → V_TWrong_1 builtN two' t fa fb fc fd (fun y b s => okN y ∧ ¬ validT y b s) ga gb gc gd := fun ga gb rgb gc gd rgd hG => by
      unfold V_TWrong_1
      simp only [Bool.decide_eq_true]
      have l2 : (Sl.app (rowL 100 0 3 fa fb fc fd) t).len = 1 + t.len := len_app _ _
      refine ⟨?_, n1, ?_⟩
      · show ((Sl.app (rowL 100 0 3 fa fb fc fd) t).len + 1) * 88 ≤ _
        omega
      · exact (turned_bad (by decide) : ¬ validT builtN two' (Sl.app (Sl.app (rowL 100 0 3 fa fb fc fd) t) (rowL 99 0 0 ga gb gc gd)))
    exact ⟨⟨trivial, fun ga gb rgb gc gd rgd hG => one ga gb rgb gc gd rgd hG⟩, trivial, fun ga gb rgb gc gd rgd hG => ⟨one ga gb rgb gc gd rgd hG, one ga gb rgb gc gd rgd hG⟩⟩
  refine ⟨fun h => absurd rfl h, fun _ _ => ⟨fun h => absurd z3 h, fun _ => ⟨fun h => absurd (empty_name z1) h, fun _ => ⟨trivial, fun c hc => ⟨fun h => absurd (hc.1 h) hbad, fun _ => ⟨n1, fun c2 hc2 => ⟨fun h => absurd (hc2.2 v1) h, fun _ _ => ?_⟩⟩⟩⟩⟩⟩⟩
  refine ⟨fun x => 0 ≤ x ∧ x ≤ 4, fun x => (4 - x).toNat, ⟨by decide, by decide⟩, fun x rx hx => ⟨fun hx4 => ?_, fun _ => ?_⟩⟩
  · have hx4 : x < 4 := hx4
    have bad : ∀ i : Int, 0 ≤ i → i < 4 → ¬ validT ((tabL ys bs ss yt bt st two' t).str i 0) ((tabL ys bs ss yt bt st two' t).bool i 1) ((tabL ys bs ss yt bt st two' t).sub i 2) ∧ okN ((tabL ys bs ss yt bt st two' t).str i 0) :=
      four ⟨hsp.2, hsp.1⟩ ⟨htu.2, htu.1⟩ ⟨fun h => absurd (show 1 ≤ ylen (bytes []) from h.1.1) (by decide), by show (0 : Int) ≤ 9223372036854775807; decide⟩ ⟨fun h => absurd (show ylen (bytes [97, 98, 99, 100, 101, 102, 103, 104, 105, 106, 107, 108, 109, 110, 111, 112, 113, 114, 115, 116, 117, 118, 119, 120, 121]) ≤ 24 from h.1.2) (by decide), by show (25 : Int) ≤ 9223372036854775807; decide⟩
    obtain ⟨bv, bn⟩ := bad x hx.1 hx4
    refine ⟨hx.1, hx4, fun _ => ⟨bn, fun ya yb yc ryc ye rye hV => ⟨bn, fun pa pb rpb pc pd rpd pe rpe hP => ⟨bn, fun oa ob rob oc od rod oe roe hO => ⟨bn, fun ma mb mc rmc me rme hM => ?_⟩⟩⟩⟩⟩
    obtain ⟨⟨_, _, c1⟩, rfl⟩ := hV.1 bv
    obtain ⟨⟨_, c2, _, c3⟩, rfl⟩ := hP.1 fun h => bv h.1
    obtain ⟨⟨_, c4, _, c5⟩, rfl⟩ := hO.1 fun h => bv h.1
    obtain ⟨⟨_, _, c6⟩, rfl⟩ := hM.1 fun h => bv h.1
    refine ⟨fun r => r = false, ⟨fun h => absurd rfl h, fun _ => ⟨fun h => absurd rfl h, fun _ => ⟨fun h => absurd rfl h, fun _ => ⟨fun h => absurd rfl h, fun _ _ _ => ?_⟩⟩⟩⟩, ?_⟩
    · rw [c1, c6]
      refine ⟨by rw [rng64]; decide, trivial, fun k1 rk1 hk1 => ?_⟩
      have hk1 : k1 = pb.len + pd.len := hk1
      obtain rfl : k1 = 0 := by omega
      refine ⟨by rw [rng64]; decide, trivial, fun k2 rk2 hk2 => ?_⟩
      have hk2 : k2 = ob.len + od.len := hk2
      obtain rfl : k2 = 0 := by omega
      refine ⟨by rw [rng64]; decide, fun h => absurd rfl h, fun _ => ⟨bn, fun b hb => ?_⟩⟩
      cases b
      · rfl
      · exact absurd (hb.1 rfl) bv
    · intro b hb
      subst hb
      exact ⟨fun h => by simp at h, fun _ => ⟨by rw [rng64]; omega, ⟨by omega, by omega⟩, by show (4 - (x + 1)).toNat < (4 - x).toNat; omega⟩⟩
  · refine ⟨n1, fun pa pb rpb pc pd rpd pe rpe hP => ⟨n1, fun oa ob rob oc od rod oe roe hO => ⟨n1, fun ma mb mc rmc me rme hM => ?_⟩⟩⟩
    have a1 : pe = 2 ↔ two' = true := by
      cases two'
      · refine ⟨fun h => ?_, fun h => absurd h (by decide)⟩
        exact absurd h (look_err hP ⟨v1, rfl⟩)
      · exact ⟨fun _ => rfl, fun _ => (hP.1 fun h => absurd h.2 (by decide)).2⟩
    have a2 : oe = 2 ↔ ¬ two' = true := by
      cases two'
      · exact ⟨fun _ => by decide, fun _ => (hO.1 fun h => absurd h.2 (by decide)).2⟩
      · refine ⟨fun h => ?_, fun h => absurd rfl h⟩
        exact absurd h (look_err hO ⟨v1, rfl⟩)
    have a3 : me = 2 ↔ ¬ two' = true := by
      cases two'
      · refine ⟨fun _ => by decide, fun _ => (hM.1 fun h => ?_).2⟩
        have := h.2.2.2.1
        simp at this
      · refine ⟨fun h => ?_, fun h => absurd rfl h⟩
        have := ((hM.2 ⟨v1, by decide, by decide, .inl rfl, by decide, okT⟩).2 (by omega)).2.2.2
        omega
    refine ⟨fun _ => ⟨fun _ => ⟨?_, trivial⟩, fun h => absurd a2 h⟩, fun h => absurd a1 h⟩
    exact decide_eq_true a3

end Go.Sx.N
