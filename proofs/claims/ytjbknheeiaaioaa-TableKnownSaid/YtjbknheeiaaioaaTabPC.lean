/-
  The law TableKnown: its condition. Conditions: none.
-/
import Derived.Test.YtjbknheeiaaioaaNumVTKnown
import Derived.Test.YtjbknheeiaaioaaTabI
set_option linter.unusedVariables false
set_option linter.unusedSimpArgs false
namespace Go.Sx.N

theorem built_len {s t : Sl} {two two' : Bool} {n : ByteArray} (h : q_Built s two n two' t) : t.len ≤ 50 := by
  have e := h.2.2.1
  have : imin s.len 50 ≤ 50 := by unfold imin; split <;> omega
  omega

theorem of_right {a b x k A B K : Int} {two nn dn : Bool} {nl dl : Sl} (rk : Rng .u16 k) (h : q_tOf a b x k two A B K nn nl dn dl) : rightS two A B K nn nl dn dl := by
  obtain ⟨e0, e1, e2, e3⟩ := h
  have rk : 0 ≤ k ∧ k ≤ 65535 := rk
  refine ⟨by omega, by rw [e1]; split <;> omega, ?_, by omega, litF_ok e3⟩
  rw [e1]
  cases two
  · exact .inr rfl
  · exact .inl rfl

theorem TKnown_ok : V_TKnown := by
  intro s rs x1 r1 x2 r2 x3 r3 x4 r4 a ra known rk _
  simp only [Bool.decide_eq_true]
  refine ⟨trivial, fun w hw => ⟨fun h => absurd hw h, fun _ => ⟨trivial, fun y1 two1 t rt hB => ⟨trivial, fun A rA B rB K rK nn nl rn dn dl rd hO => ?_⟩⟩⟩⟩
  have v1 := built_valid hB
  have n1 := built_name hB
  have l1 := built_len hB
  obtain rfl : two1 = false := hB.2.1
  have hr : rightS false A B K nn nl dn dl := of_right r4 hO
  have eB : B = 0 := by
    have := hr.2.2.1
    simpa using this
  refine ⟨n1, fun y2 two2 u ru e re hL => ?_⟩
  obtain ⟨rfl, rfl, hI, rfl⟩ := (hL.2 ⟨v1, hr⟩).2 (by omega)
  have v2 : validT y2 false u := ins_valid v1 (show rightAt false (rowL A B K nn nl dn dl) 0 from hr) (by omega) hI
  have ok1 := And.intro v1 (rfl : false = false)
  have ok2 := And.intro v2 (rfl : false = false)
  refine ⟨fun h => absurd rfl h, fun _ => ⟨n1, fun w2 hw2 => ⟨fun h => absurd (hw2.2 v2) h, fun _ _ _ => ⟨by rw [rng64]; have := len0 t; omega, fun h => absurd (ins_len hI) h, fun _ => ⟨n1, fun xa xb rxb xc xd rxd xe rxe hq1 => ⟨n1, fun za zb rzb zc zd rzd ze rze hq2 => ?_⟩⟩⟩⟩⟩⟩
  have two : V_TKnown_2 s x1 x2 x3 x4 a known y2 false t A K nn nl dn dl y2 false u := by
    unfold V_TKnown_2
    simp only [Bool.decide_eq_true]
    refine ⟨n1, fun ya yb ryb yc yd ryd ye rye hq3 => ⟨fun _ => ⟨rfl, trivial⟩, fun hk => ⟨trivial, fun h rh hh => ?_⟩⟩⟩
    have new : (∀ j : Int, 0 ≤ j → j < t.len → hitT t A B known j → t.int j 2 ≤ K) → SameF ya yb yc yd nn nl dn dl ∧ ye = 0 := fun hn => by
      obtain ⟨i, hc, hrow⟩ := known_new (known := known) hI (show K ≤ known by omega) hn
      obtain ⟨f, e⟩ := look_at hq3 ok2 hc
      exact ⟨SameF.trans (SameF.symm f) hrow.2.2.2, e⟩
    rw [← eB] at hh
    have hit0 : 0 ≤ h → (0 ≤ h ∧ h < t.len) ∧ hitT t A B known h ∧ ∀ k : Int, h < k → k < t.len → ¬ hitT t A B known k := fun h0 => by
      rcases hh with ⟨g, _⟩ | g
      · omega
      · exact g
    have hno : h < 0 → ∀ j : Int, 0 ≤ j → j < t.len → hitT t A B known j → t.int j 2 ≤ K := fun h0 j j0 j1 hj => by
      rcases hh with ⟨_, g⟩ | g
      · exact absurd hj (g j j0 j1)
      · omega
    have hle : 0 ≤ h → ¬ t.int h 2 > K → ∀ j : Int, 0 ≤ j → j < t.len → hitT t A B known j → t.int j 2 ≤ K := fun h0 hg j j0 j1 hj => by
      obtain ⟨g1, g2, g3⟩ := hit0 h0
      have jh : j ≤ h := by
        rcases Int.lt_or_le h j with c | c
        · exact absurd hj (g3 j c j1)
        · exact c
      have so := sorted_lt v1.2.2.1 j0 jh g1.2
      unfold ltR ltK at so
      unfold hitT at g2 hj
      omega
    refine ⟨fun h0 => ⟨h0, (hit0 h0).1.2, fun _ => ⟨fun hg => ?_, fun hg => ?_⟩⟩, fun h0 => ?_⟩
    · obtain ⟨g1, g2, g3⟩ := hit0 h0
      obtain ⟨fo, e0, e1⟩ := holds_some (n := y2) (two := false) (.inr ⟨g1, g2, g3⟩) h0
      obtain ⟨i, hc, hrow⟩ := known_old hI fo e0 e1 hg
      obtain ⟨f, e⟩ := look_at hq3 ok2 hc
      exact ⟨fun _ => ⟨h0, g1.2, fun _ _ => ⟨trivial, fun b hb => ⟨hb.2 (SameF.trans (SameF.symm f) hrow.2.2.2), trivial⟩⟩⟩, fun hn => absurd e hn⟩
    · obtain ⟨f, e⟩ := new (hle h0 hg)
      exact ⟨fun _ => ⟨trivial, fun b hb => ⟨hb.2 f, trivial⟩⟩, fun hn => absurd e hn⟩
    · obtain ⟨f, e⟩ := new (hno (by omega))
      exact ⟨fun _ => ⟨trivial, fun b hb => ⟨hb.2 f, trivial⟩⟩, fun hn => absurd e hn⟩
  have one : known < K ∨ a < A → V_TKnown_1 s x1 x2 x3 x4 a known y2 false t A K nn nl dn dl y2 false u xa xb xc xd xe za zb zc zd ze := fun hk => by
    obtain ⟨m1, m2⟩ := ins_cand (known := known) (a := a) hI hk
    obtain ⟨e, f⟩ := look_same hq1 hq2 ⟨fun _ => ok2, fun _ => ok1⟩ m1 m2
    unfold V_TKnown_1
    refine ⟨fun h => absurd e h, fun _ => ⟨trivial, fun b hb => ⟨fun h => ?_, fun _ => two⟩⟩⟩
    simp only [Bool.decide_eq_true] at hb
    exact absurd (hb.2 f) h
  exact ⟨fun h => one (.inl h), fun _ => ⟨fun h => one (.inr h), fun _ => two⟩⟩

end Go.Sx.N
