/-
  The condition of the law Wrong. Conditions: none.
-/
import Derived.Test.YtlhjljekeobplaaLedPD
import Derived.Test.YtlhjljekeobplaaLedVWrong
namespace Go.Sx.L

/-- A posting that does not fit, or comes too early. -/
def badP (st n last day mo kind amt : Int) : Prop := ¬ (fitsS st n day mo kind amt ∧ last ≤ day)

theorem lit4 (a b c e : Int) : (Sl.lit [[(.int a), (.int b), (.int c), (.int e)]]).len = 1 := rfl

theorem bad_post {st : Int} {d p : Sl} {day mo kind amt : Int} (h : badP st d.len (lastDay p) day mo kind amt) : ¬ postOk st d p (Sl.lit [[(.int day), (.int mo), (.int kind), (.int amt)]]) := by
  intro hp
  have := hp.2 0 (Int.le_refl _) (by rw [lit4]; omega)
  unfold okAt fitAt prev at this
  rw [if_pos rfl] at this
  exact h this

theorem good_post {st : Int} {d p : Sl} {day mo kind amt : Int} (hv : validS st d p) (h : fitsS st d.len day mo kind amt ∧ lastDay p ≤ day) : postOk st d p (Sl.lit [[(.int day), (.int mo), (.int kind), (.int amt)]]) := by
  refine ⟨hv, fun i i0 i1 => ?_⟩
  rw [lit4] at i1
  have ei : i = 0 := by omega
  subst ei
  unfold okAt fitAt prev
  rw [if_pos rfl]
  exact h

theorem bad_valid {st : Int} {d p d' q : Sl} {day mo kind amt : Int} (hd : eqDue d' d) (hq : eqPosts q p) (h : badP st d.len (lastDay p) day mo kind amt) (h0 : 0 ≤ lastDay p ∨ True) (hday : p.len = 0 → lastDay p = 0) :
    ¬ validS st d' (Sl.app q (Sl.lit [[(.int day), (.int mo), (.int kind), (.int amt)]])) := by
  intro hv
  have hq0 := len0 q
  have hql := hq.1
  obtain ⟨g1, g2⟩ := hv.2.2.2 q.len hq0 (by rw [len_app, lit4]; omega)
  unfold fitAt at g1
  rw [int_app_ge (Int.le_refl _), int_app_ge (Int.le_refl _), int_app_ge (Int.le_refl _), int_app_ge (Int.le_refl _), Int.sub_self, hd.1] at g1
  have g1 : fitsS st d.len day mo kind amt := g1
  refine h ⟨g1, ?_⟩
  rw [int_app_ge (Int.le_refl _), Int.sub_self] at g2
  have g2 : prev (Sl.app q (Sl.lit [[(.int day), (.int mo), (.int kind), (.int amt)]])) 0 q.len ≤ day := g2
  unfold prev at g2
  by_cases e : q.len = 0
  · rw [hday (by omega)]
    exact g1.1.1
  · rw [if_neg e, int_app_lt (by omega) (by omega)] at g2
    unfold lastDay
    rw [if_pos (by omega)]
    have := (hq.2 (q.len - 1) (by omega) (by omega)).1
    rw [hql] at this
    rw [hql] at g2
    omega

theorem Wrong_ok : V_Wrong := by
  intro st hst d p way hway x hx _
  have rs := rsL
  have aw : p_awake ∧ ∀ b5 : Bool, q_awake (decide (b5 = true)) → q_Wrong st d p way x (decide (b5 = true)) ∧ True := ⟨trivial, fun b hb => ⟨hb, trivial⟩⟩
  refine ⟨trivial, fun u hu => ⟨fun _ => aw, fun hn hsd => ⟨fun _ => aw, fun hd1 => ?_⟩⟩⟩
  obtain ⟨hu1, hu2, hv⟩ := hu.1 (by simpa using hn)
  have hd0 := len0 d
  have hp0 := len0 p
  have hb := hv.1
  rw [rng64] at hx hst
  have hlast0 : p.len = 0 → lastDay p = 0 := fun h => by unfold lastDay; rw [if_neg (by omega)]
  have hlast : 0 ≤ lastDay p ∧ lastDay p < 65536 := by
    unfold lastDay
    split
    · have := (hv.2.2.2 (p.len - 1) (by omega) (by omega)).1.1
      omega
    · omega
  have w1 : IntKind.wrap .i64 (p.len - 1) = p.len - 1 := wrap64 (by omega) (by omega)
  have w2 : IntKind.wrap .i64 (st - 1) = st - 1 := wrap64 (by omega) (by omega)
  have w3 : IntKind.wrap .i64 (st + d.len) = st + d.len := wrap64 (by omega) (by omega)
  have w4 : IntKind.wrap .i64 (st + d.len + 1) = st + d.len + 1 := wrap64 (by omega) (by omega)
  simp only [w1, w2, w3, w4]
  refine ⟨fun y => y = lastDay p, ⟨fun _ => ⟨fun hpos _ => ⟨by omega, by omega, fun _ => ?_⟩, fun hneg => ?_⟩, fun day _ hday => ?_⟩⟩
  · unfold lastDay; rw [if_pos hpos]
  · rw [hlast0 (by omega)]
  subst hday
  have w5 : IntKind.wrap .i64 (lastDay p - 1) = lastDay p - 1 := wrap64 (by omega) (by omega)
  simp only [w5]
  have hmod : ∀ z : Int, Int.tmod way 9 = z → Rng .u8 (Int.tmod way 9) := fun z _ => by
    have h1 := Int.tmod_lt_of_pos way (b := 9) (by omega)
    have h2 := Int.tmod_nonneg (a := way) 9 hway.1
    exact ⟨h2, by show _ ≤ (255 : Int); omega⟩
  have hrm := hmod _ rfl
  have hrange := Int.tmod_lt_of_pos way (b := 9) (by omega)
  have hnn := Int.tmod_nonneg (a := way) 9 hway.1
  generalize Int.tmod way 9 = t at *
  refine ⟨fun a b c e => badP st d.len (lastDay p) a b c e ∧ (t = 1 → b = st ∧ c = 1 ∧ e = 1), ⟨⟨by omega, hrm, ?_⟩, ?_⟩⟩
  · have mx : ∀ a b : Int, b ≤ imax a b := fun a b => by unfold imax; split <;> omega
    have mn : ∀ a b : Int, imin a b ≤ b := fun a b => by unfold imin; split <;> omega
    have m1 := mx x 65536
    have m2 := mn x (lastDay p - 1)
    have m3 := mn x (st - 1)
    have m4 := mx x (st + d.len)
    have m5 := mx x 1099511627777
    refine ⟨fun h => ⟨fun hh => ?_, fun h => by omega⟩, fun n0 => ⟨fun h => ⟨fun hh => ?_, fun _ => ⟨rfl, rfl, rfl⟩⟩, fun n1 => ⟨fun h => ⟨fun hh => ?_, fun h => by omega⟩, fun n2 => ⟨fun h _ => ⟨fun hh => ?_, fun h => by omega⟩, fun n3 => ⟨fun h => ⟨fun hh => ?_, fun h => by omega⟩, fun n4 => ⟨fun h => ⟨fun hh => ?_, fun h => by omega⟩, fun n5 => ⟨fun h => ⟨fun hh => ?_, fun h => by omega⟩, fun n6 => ⟨fun h => ⟨fun hh => ?_, fun h => by omega⟩, fun n7 => ⟨fun h => ⟨fun hh => ?_, fun h => by omega⟩, fun n8 => by omega⟩⟩⟩⟩⟩⟩⟩⟩⟩
    all_goals
      unfold fitsS at hh
      omega
  · intro a ha b hb' c hc e he hbad
    obtain ⟨hbad, hone⟩ := hbad
    refine ⟨by show (1 : Int) ≤ 1000000; omega, fun x13 _ s14 s15 x16 _ hg => ?_⟩
    have hgood := good_post hv (day := lastDay p) (mo := st) (kind := 1) (amt := 1) (by unfold fitsS; omega)
    obtain ⟨hg0, _⟩ := (hg.2 hgood).2 (by rw [lit4]; omega)
    refine ⟨fun h => absurd hg0 h, fun _ => ⟨by show (1 : Int) ≤ 1000000; omega, fun x17 _ s18 s19 x20 _ hP => ⟨⟨by omega, by omega⟩, fun x21 _ s22 s23 hC => ?_⟩⟩⟩
    obtain ⟨e20, z1⟩ := hP.1 (bad_post hbad)
    obtain ⟨e21, hd22, hp23⟩ := hC
    have hl23 := hp23.1
    refine ⟨by rw [lit4]; omega, ?_⟩
    have hnv := bad_valid hd22 hp23 hbad (.inr trivial) hlast0
    refine ⟨fun x25 _ _ _ _ x30 s31 s32 x33 s34 s35 => x25 = 2 ∧ zeroS x30 s31 s32 ∧ ¬ validS x33 s34 s35, ⟨⟨by omega, hrm, fun h1 hsp => ⟨fun hz => ⟨by show (1 : Int) ≤ 1000000; omega, fun x25 _ s26 s27 x28 _ hQ => ⟨Int.le_refl _, by rw [len_app, lit4]; omega, ?_⟩⟩, fun hz => ⟨e20, z1, by rw [e21]; exact hnv⟩⟩, fun h1 => ⟨e20, z1, by rw [e21]; exact hnv⟩⟩, ?_⟩⟩
    · obtain ⟨hQ1, hQ2⟩ := hQ.1 (bad_post (day := -1) (mo := b) (kind := c) (amt := e) (fun hh => by have := hh.1.1.1; omega))
      refine ⟨hQ1, hQ2, fun hvv => ?_⟩
      have := (hvv.2.2.2 0 (Int.le_refl _) (by rw [len_upd, len_app, lit4]; omega)).1.1.1
      have e1 : ∀ s : Sl, (Sl.upd s 0 0 [(.int (-1)), (.int b), (.int c), (.int e)]).int 0 0 = -1 := fun s => by simp [Sl.upd, Sl.int, D.toI]
      rw [e1] at this
      omega
    · intro x25 _ _ _ _ _ _ _ _ _ x30 _ s31 s32 x33 _ s34 s35 ⟨h25, hz, hnv⟩
      refine ⟨trivial, fun x36 _ s37 s38 x39 _ h1 => ⟨trivial, fun x40 _ s41 s42 x43 _ h2 _ => ⟨trivial, fun x44 _ s45 s46 x47 _ h3 => ⟨trivial, fun x48 _ s49 s50 x51 _ h4 => ?_⟩⟩⟩⟩
      have mx : ∀ a b : Int, b ≤ imax a b := fun a b => by unfold imax; split <;> omega
      have mn : ∀ a b : Int, imin a b ≤ b := fun a b => by unfold imin; split <;> omega
      have m1 := mn x (-1)
      have m2 := mx x 1099511627777
      obtain ⟨f1, z2⟩ := h1.1 (fun hh => by have := hh.2.1; omega)
      obtain ⟨f2, z3⟩ := h2.1 (fun hh => by have := hh.2.2.1; omega)
      obtain ⟨f3, z4⟩ := h3.1 (fun hh => by have := hh.2.2.2.2; omega)
      obtain ⟨f4, z5⟩ := h4.1 (fun hh => hnv hh.1)
      have zs : ∀ {s : Int} {d p : Sl}, zeroS s d p → ∀ b : Bool, q_Same s d p 0 Sl.nil Sl.nil (decide (b = true)) → b = true := by
        intro s d p hz b hb
        have hb : b = true ↔ sameS s d p 0 Sl.nil Sl.nil := by simpa [q_Same] using hb
        obtain ⟨z1, z2, z3⟩ := hz
        exact hb.2 ⟨z1, ⟨z2, fun k k0 k1 => by omega⟩, ⟨z3, fun k k0 k1 => by omega⟩⟩
      refine ⟨fun _ => ⟨trivial, fun b61 hb61 => ⟨fun _ => ⟨trivial, fun b62 hb62 => ⟨fun _ => ⟨fun _ => ⟨fun _ => ⟨fun _ => ⟨fun _ => ⟨trivial, fun b63 hb63 => ⟨fun _ => ⟨trivial, fun b64 hb64 => ⟨fun _ => ⟨trivial, fun b65 hb65 => ⟨fun _ => aw, fun h => absurd (zs z4 _ hb65) h⟩⟩, fun h => absurd (zs z3 _ hb64) h⟩⟩, fun h => absurd (zs z2 _ hb63) h⟩⟩, fun h => absurd (f4.trans h25.symm) h⟩, fun h => absurd (f3.trans h25.symm) h⟩, fun h => absurd (f2.trans h25.symm) h⟩, fun h => absurd (f1.trans h25.symm) h⟩, fun h => ?_⟩⟩, fun h => absurd (zs hz _ hb61) h⟩⟩, fun h => absurd h25 h⟩
      have hb62 : b62 = true ↔ validS x33 s34 s35 := by simpa [q_Valid] using hb62
      exact absurd (hb62.1 (by simpa using h)) hnv

end Go.Sx.L
