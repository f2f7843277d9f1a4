/-
  The condition of RecoverTells. Conditions: none.
-/
import Derived.Test.YtljmbenpkbjmmaaGreatNumVTells
import Derived.Test.YtljmbenpkbjmmaaGreatRecM
set_option linter.unusedVariables false
set_option linter.unusedSimpArgs false
namespace Go.Sx.N

theorem app_nil_left (d : Sl) : Sl.app (Sl.lit []) d = d := by
  cases d
  unfold Sl.app Sl.lit
  congr 1
  simp
theorem eqAt_symm {p q : Sl} {i k : Int} (h : eqAt p i q k) : eqAt q k p i := ⟨h.1.symm, h.2.1.symm, h.2.2.1.symm, h.2.2.2.symm⟩
theorem eqAt_trans {p q r : Sl} {i k l : Int} (h : eqAt p i q k) (g : eqAt q k r l) : eqAt p i r l := ⟨h.1.trans g.1, h.2.1.trans g.2.1, h.2.2.1.trans g.2.2.1, h.2.2.2.trans g.2.2.2⟩
theorem eqPosts_symm {p q : Sl} (h : eqPosts p q) : eqPosts q p := ⟨h.1.symm, fun i h0 h1 => eqAt_symm (h.2 i h0 (by rw [h.1]; exact h1))⟩
theorem eqPosts_trans {p q r : Sl} (h : eqPosts p q) (g : eqPosts q r) : eqPosts p r := ⟨h.1.trans g.1, fun i h0 h1 => eqAt_trans (h.2 i h0 h1) (g.2 i h0 (by rw [← h.1]; exact h1))⟩
theorem eqPosts_none {p q : Sl} (h : p.len = 0) (g : q.len = 0) : eqPosts p q := ⟨by omega, fun i h0 h1 => by omega⟩
theorem eqDue_none {p q : Sl} (h : p.len = 0) (g : q.len = 0) : eqDue p q := ⟨by omega, fun i h0 h1 => by omega⟩
theorem same_zero {st st' : Int} {d p d' p' : Sl} (h : zeroS st d p) (g : zeroS st' d' p') : sameS st d p st' d' p' := ⟨h.1.trans g.1.symm, eqDue_none h.2.1 g.2.1, eqPosts_none h.2.2 g.2.2⟩

section
variable {st : Int} {d p : Sl}
theorem runsD_uniq {m : Int} {q : Rat} {n e n' e' : Int} (h : runsD st d p m q n e) (g : runsD st d p m q n' e') : n = n' ∧ e = e' := by
  rcases h with ⟨e0, k, hn, hu, hc⟩ | ⟨n0, en, k, hu, hc, he⟩ <;> rcases g with ⟨e0', k', hn', hu', hc'⟩ | ⟨n0', en', k', hu', hc', he'⟩
  · have : k = k' := by
      rcases Nat.lt_trichotomy k k' with l | l | l
      · have := (hu' k l).1; omega
      · exact l
      · have := (hu k' l).1; omega
    subst this
    exact ⟨by omega, by omega⟩
  · exfalso
    rcases Nat.lt_trichotomy k k' with l | l | l
    · have := (hu' k l).1; omega
    · subst l; omega
    · have := hu k' l
      rcases he' with he' | he'
      · exact he'.1 this.2.1
      · exact he'.2.1 this.2.2
  · exfalso
    rcases Nat.lt_trichotomy k' k with l | l | l
    · have := (hu k' l).1; omega
    · subst l; omega
    · have := hu' k l
      rcases he with he | he
      · exact he.1 this.2.1
      · exact he.2.1 this.2.2
  · have : k = k' := by
      rcases Nat.lt_trichotomy k k' with l | l | l
      · have := hu' k l
        rcases he with he | he
        · exact absurd this.2.1 he.1
        · exact absurd this.2.2 he.2.1
      · exact l
      · have := hu k' l
        rcases he' with he' | he'
        · exact absurd this.2.1 he'.1
        · exact absurd this.2.2 he'.2.1
    subst this
    refine ⟨by omega, ?_⟩
    rcases he with he | he <;> rcases he' with he' | he'
    · omega
    · exact absurd he'.1 he.1
    · exact absurd he.1 he'.1
    · omega
theorem runs_uniq {m : Int} {a c : Bool} {b f : Sl} {r e0 n e n' e' : Int} (hl : limS st d p m a b c f r e0) (h : runsS st d p m a b c f n e) (g : runsS st d p m a b c f n' e') : n = n' ∧ e = e' := by
  have h := h _ _ hl
  have g := g _ _ hl
  by_cases z : e0 = 0
  · exact runsD_uniq (h.2 z) (g.2 z)
  · have := h.1 z
    have := g.1 z
    exact ⟨by omega, by omega⟩
theorem take_uniq {day m : Int} {a c : Bool} {b f : Sl} {r e0 : Int} {s s' : Sl} {e e' : Int} (hl : limS st d p m a b c f r e0) (h : takeS st d p day m a b c f s e) (g : takeS st d p day m a b c f s' e') : eqPosts s s' ∧ e = e' := by
  have h := h _ _ hl
  have g := g _ _ hl
  by_cases z : e0 = 0
  · by_cases hd : 0 ≤ day ∧ day < 65536
    · have h := (h.2 z).2 hd
      have g := (g.2 z).2 hd
      exact ⟨eqPosts_trans h.1 (eqPosts_symm g.1), by omega⟩
    · have h := (h.2 z).1 hd
      have g := (g.2 z).1 hd
      exact ⟨eqPosts_none h.1 g.1, by omega⟩
  · have h := h.1 z
    have g := g.1 z
    exact ⟨eqPosts_none h.1 g.1, by omega⟩
theorem follow_eq {n : Int} {q q' : Sl} {d0 : Int} (he : eqPosts q q') (h : followS st n q d0) : followS st n q' d0 := fun i i0 i1 => by
  have hl := he.1
  have a := he.2 i i0 (by omega)
  have k := h i i0 (by omega)
  unfold okAt fitAt at *
  rw [← a.1, ← a.2.1, ← a.2.2.1, ← a.2.2.2]
  refine ⟨k.1, ?_⟩
  have k2 := k.2
  unfold prev at *
  split
  · rename_i z; rw [if_pos z] at k2; exact k2
  · rename_i z
    rw [if_neg z] at k2
    have := he.2 (i - 1) (by omega) (by omega)
    rw [← this.1]; exact k2
theorem behind_eq {q q' r r' : Sl} (he : eqPosts q q') (h : behind p q r) (g : behind p q' r') : eqPosts r r' := by
  have hl := he.1
  have h1 := h.1
  have g1 := g.1
  refine ⟨by omega, fun i i0 i1 => ?_⟩
  by_cases c : i < p.len
  · exact eqAt_trans (h.2.1 i i0 c) (eqAt_symm (g.2.1 i i0 c))
  · have e : p.len + (i - p.len) = i := by omega
    have a := h.2.2 (i - p.len) (by omega) (by omega)
    have b := g.2.2 (i - p.len) (by omega) (by omega)
    rw [e] at a b
    exact eqAt_trans a (eqAt_trans (he.2 _ (by omega) (by omega)) (eqAt_symm b))
theorem eqDue_symm {d e : Sl} (h : eqDue d e) : eqDue e d := ⟨h.1.symm, fun i h0 h1 => (h.2 i h0 (by rw [h.1]; exact h1)).symm⟩
theorem eqDue_trans {d e f : Sl} (h : eqDue d e) (g : eqDue e f) : eqDue d f := ⟨h.1.trans g.1, fun i h0 h1 => (h.2 i h0 h1).trans (g.2 i h0 (by rw [← h.1]; exact h1))⟩
theorem post_uniq {q q' : Sl} (he : eqPosts q q') {s1 s2 e1 e2 : Int} {d1 d2 p1 p2 : Sl} (h : q_Post st d p q s1 d1 p1 e1) (g : q_Post st d p q' s2 d2 p2 e2) : e1 = e2 ∧ sameS s1 d1 p1 s2 d2 p2 := by
  have hl := he.1
  by_cases po : postOk st d p q
  · have po' : postOk st d p q' := ⟨po.1, follow_eq he po.2⟩
    by_cases c : 4000 < p.len + q.len
    · have a := (h.2 po).1 c
      have b := (g.2 po').1 (by omega)
      exact ⟨by omega, same_zero a.2 b.2⟩
    · have a := (h.2 po).2 (by omega)
      have b := (g.2 po').2 (by omega)
      exact ⟨by omega, a.2.1.trans b.2.1.symm, eqDue_trans a.2.2.1 (eqDue_symm b.2.2.1), behind_eq he a.2.2.2 b.2.2.2⟩
  · have po' : ¬ postOk st d p q' := fun k => po ⟨k.1, follow_eq (eqPosts_symm he) k.2⟩
    have a := h.1 po
    have b := g.1 po'
    exact ⟨by omega, same_zero a.2 b.2⟩
end

theorem Tells_core {st : Int} {d p : Sl} {day m : Int} {a c : Bool} {b f : Sl} (hd : d.len ≤ 20) (hp : p.len ≤ 40) : V_Tells_1 st d p day m a b c f := by
  have aw : p_awake ∧ ∀ b' : Bool, q_awake b' → q_Tells st d p day m a b c f b' ∧ True := ⟨trivial, fun b hb => ⟨hb, trivial⟩⟩
  unfold V_Tells_1
  simp only [Bool.decide_eq_true, app_nil_left]
  have z0 : (Sl.lit []).len = 0 := rfl
  have d0 := len0 d
  have p0 := len0 p
  rw [z0]
  refine ⟨by omega, by omega, trivial, fun r _ e _ hl => ⟨trivial, fun r' _ e' _ hl' => ⟨trivial, fun o _ oe _ ho => ⟨trivial, fun s _ te _ ht => ⟨trivial, fun s' _ te' _ ht' => ⟨trivial, fun ast _ ad _ ap _ ae _ ha => ⟨trivial, fun n _ ne _ hn => ⟨trivial, fun n' _ ne' _ hn' => ?_⟩⟩⟩⟩⟩⟩⟩⟩
  have hl : limS st d p m a b c f r e := hl
  have hl' : limS st d p m a b c f r' e' := hl'
  have ht : takeS st d p day m a b c f s te := ht
  have ht' : takeS st d p day m a b c f s' te' := ht'
  have e1 := limS_uniq hl hl'
  have e2 := take_uniq hl ht ht'
  have e3 := runs_uniq hl hn hn'
  obtain ⟨t, te0, ha1, ha2, ha3⟩ := ha
  have e4 := take_uniq hl ha1 ht'
  have err : te' ≠ 0 → zeroS ast ad ap ∧ ae = te' := fun h => by
    have := ha2 (by omega)
    exact ⟨this.1, by omega⟩
  have zn : zeroS 0 Sl.nil Sl.nil := ⟨rfl, rfl, rfl⟩
  have t0 : zeroS ast ad ap → V_Tells_0 st d p day m a b c f ast ad ap := fun hz => by
    unfold V_Tells_0
    simp only [Bool.decide_eq_true]
    exact ⟨trivial, fun w hw => ⟨fun _ => aw, fun hn => absurd (hw.2 (same_zero hz zn)) hn⟩⟩
  have sr : sameS st d p st d p := ⟨rfl, ⟨rfl, fun _ _ _ => rfl⟩, eqPosts_refl p⟩
  refine ⟨fun h => absurd e1.1 h, fun _ => ⟨fun h => absurd e1.2 h, fun _ => ⟨fun h => absurd e2.2 h, fun _ => ⟨trivial, fun w hw => ⟨fun h => absurd (hw.2 e2.1) h, fun _ => ⟨fun h => absurd e3.1 h, fun _ => ⟨fun h => absurd e3.2 h, fun _ => ⟨trivial, fun w2 hw2 => ⟨fun h => absurd (hw2.2 sr) h, fun _ => ⟨trivial, fun w3 hw3 => ⟨fun hv => ?_, fun hv => ?_⟩⟩⟩⟩⟩⟩⟩⟩⟩⟩⟩
  · have nv : ¬ validS st d p := fun k => hv (hw3.2 k)
    have ho := ho.1 nv
    have t2 := ((ht' 0 2 (lim_invalid nv)).1 (by decide)).2
    have er := err (by omega)
    exact ⟨fun _ => ⟨fun _ => ⟨fun _ => t0 er.1, fun h => absurd (by omega) h⟩, fun h => absurd ho.1 h⟩, fun h => absurd ho.2 h⟩
  · have vv := hw3.1 (Classical.not_not.1 hv)
    have ho := ho.2 vv
    refine ⟨fun h => absurd ho.2 h, fun _ => ⟨vv, fun xo _ hxo => ?_⟩⟩
    have hxo : xo = outS st d p m := hxo
    refine ⟨fun h => absurd (by omega) h, fun _ => ⟨fun hne => ⟨fun _ => t0 (err hne).1, fun h => absurd (err hne).2 h⟩, fun he => ?_⟩⟩
    have he : te' = 0 := Classical.not_not.1 he
    have sl := take_len ht' hl
    refine ⟨⟨by omega, by omega⟩, fun x st' _ d' _ p' _ e' hx => ?_⟩
    exact ⟨fun _ => ⟨trivial, fun w hw => ⟨fun _ => aw, fun h => absurd (hw.2 (post_uniq e4.1 (ha3 (by omega)) hx).2) h⟩⟩, fun h => absurd (post_uniq e4.1 (ha3 (by omega)) hx).1 h⟩

theorem Tells_ok : V_Tells := by
  intro st _ d _ p _ day _ m _ a b _ c f _ _
  simp only [Bool.decide_eq_true]
  have aw : p_awake ∧ ∀ b' : Bool, q_awake b' → q_Tells st d p day m a b c f b' ∧ True := ⟨trivial, fun b hb => ⟨hb, trivial⟩⟩
  refine ⟨trivial, fun w hw => ⟨fun _ => aw, fun hv => ⟨trivial, fun w2 _ => ⟨fun _ => aw, fun _ => ?_⟩⟩⟩⟩
  have few := hw.1 (Classical.not_not.1 hv)
  have core := Tells_core (st := st) (d := d) (p := p) (day := day) (m := m) (a := a) (b := b) (c := c) (f := f) few.1 few.2
  exact ⟨⟨core, core⟩, core⟩

end Go.Sx.N
