/-
  The condition of the law Posts. Conditions: none.
-/
import Derived.Test.YtlhjljekeobplaaLedPD
import Derived.Test.YtlhjljekeobplaaLedVPosts
namespace Go.Sx.L

theorem sumTo_append (f : Int → Int) (a : Nat) : ∀ b : Nat, sumTo f (a + b) = sumTo f a + sumTo (fun i => f ((a : Int) + i)) b
  | 0 => by simp [sumTo]
  | b + 1 => by
    have e : ((a + b : Nat) : Int) = (a : Int) + (b : Int) := Int.natCast_add a b
    show sumTo f (a + b) + f ((a + b : Nat) : Int) = sumTo f a + (sumTo (fun i => f ((a : Int) + i)) b + f ((a : Int) + (b : Int)))
    rw [sumTo_append f a b, e]
    omega

theorem posted_behind {p q r : Sl} (h : behind p q r) (m : Int) : postedS r m = postedS p m + postedS q m := by
  obtain ⟨hl, ha, hb⟩ := h
  have hn : r.n = p.n + q.n := by unfold Sl.len at hl; omega
  unfold postedS
  rw [hn, sumTo_append]
  congr 1
  · refine sumTo_congr fun i h0 h1 => ?_
    obtain ⟨_, e1, e2, e3⟩ := ha i h0 h1
    unfold prin
    rw [e1, e2, e3]
  · refine sumTo_congr fun i h0 h1 => ?_
    obtain ⟨_, e1, e2, e3⟩ := hb i h0 h1
    have e : ((p.n : Nat) : Int) = p.len := rfl
    unfold prin
    rw [e, e1, e2, e3]

/-- The day behind which the next one comes. -/
theorem lastDay_behind {p q r : Sl} {i : Int} (h0 : 0 ≤ i) (hl : r.len = p.len + i) (ha : ∀ k : Int, 0 ≤ k → k < p.len → eqAt r k p k) (hb : ∀ k : Int, 0 ≤ k → k < i → eqAt r (p.len + k) q k) : lastDay r = prev q (lastDay p) i := by
  have hp0 := len0 p
  unfold prev
  by_cases e : i = 0
  · rw [if_pos e]
    subst e
    unfold lastDay
    rw [hl, Int.add_zero]
    split
    · exact (ha _ (by omega) (by omega)).1
    · rfl
  · rw [if_neg e]
    unfold lastDay
    rw [if_pos (by omega), hl, show p.len + i - 1 = p.len + (i - 1) by omega]
    exact (hb (i - 1) (by omega) (by omega)).1

theorem behind_valid {st : Int} {d d' p q r : Sl} (hv : validS st d p) (hd : eqDue d' d) (hq : followS st d.len q (lastDay p)) (h : behind p q r) (h4 : p.len + q.len ≤ 4000) : validS st d' r := by
  obtain ⟨hl, ha, hb⟩ := h
  have hp0 := len0 p
  have hq0 := len0 q
  refine ⟨by rw [hd.1]; exact hv.1, fun i i0 i1 => by rw [hd.2 i i0 i1]; exact hv.2.1 i i0 (by rw [← hd.1]; exact i1), by omega, fun i i0 i1 => ?_⟩
  rw [hd.1]
  by_cases hi : i < p.len
  · exact okAt_eq (Int.le_refl _) (ha i i0 hi) (fun e => (ha (i - 1) (by omega) (by omega)).1) (hv.2.2.2 i i0 hi)
  · obtain ⟨g1, g2⟩ := hq (i - p.len) (by omega) (by omega)
    have e := hb (i - p.len) (by omega) (by omega)
    rw [show p.len + (i - p.len) = i by omega] at e
    refine ⟨?_, ?_⟩
    · unfold eqAt fitAt at *
      rw [e.1, e.2.1, e.2.2.1, e.2.2.2]
      exact g1
    · rw [e.1]
      refine Int.le_trans (Int.le_of_eq ?_) g2
      by_cases e1 : i = p.len
      · subst e1
        rw [Int.sub_self]
        unfold prev lastDay
        rw [if_pos rfl]
        by_cases e2 : p.len = 0
        · rw [if_pos e2, if_neg (by omega)]
        · rw [if_neg e2, if_pos (by omega)]
          exact (ha _ (by omega) (by omega)).1
      · unfold prev
        rw [if_neg (by omega), if_neg (by omega)]
        have e3 := (hb (i - p.len - 1) (by omega) (by omega)).1
        rw [show p.len + (i - p.len - 1) = i - 1 by omega] at e3
        exact e3

/-- One posting. -/
theorem post_one {st : Int} {d d' p r q : Sl} {i : Int} (hv : validS st d' r) (hd : eqDue d' d) (h0 : 0 ≤ i) (hl : r.len = p.len + i) (ha : ∀ k : Int, 0 ≤ k → k < p.len → eqAt r k p k) (hb : ∀ k : Int, 0 ≤ k → k < i → eqAt r (p.len + k) q k) :
    postOk st d' r (Sl.lit [[(.int (q.int i 0)), (.int (q.int i 1)), (.int (q.int i 2)), (.int (q.int i 3))]]) ↔ okAt st d.len q (lastDay p) i := by
  have e := lastDay_behind h0 hl ha hb
  constructor
  · intro h
    have := h.2 0 (Int.le_refl _) (by show (0 : Int) < 1; omega)
    unfold okAt at *
    rw [hd.1] at this
    refine ⟨this.1, ?_⟩
    have h2 := this.2
    unfold prev at h2
    rw [if_pos rfl, e] at h2
    exact h2
  · intro h
    refine ⟨hv, fun k k0 k1 => ?_⟩
    have k1 : k < 1 := k1
    have ek : k = 0 := by omega
    subst ek
    rw [hd.1]
    refine ⟨h.1, ?_⟩
    unfold prev
    rw [if_pos rfl, e]
    exact h.2

theorem Posts_ok : V_Posts := by
  intro st _ d p q _
  have rs := rsL
  have aw : p_awake ∧ ∀ b5 : Bool, q_awake (decide (b5 = true)) → q_Posts st d p q (decide (b5 = true)) ∧ True := ⟨trivial, fun b hb => ⟨hb, trivial⟩⟩
  refine ⟨trivial, fun u hu => ⟨fun _ => aw, fun hn _ => ⟨fun _ => aw, fun hq20 => ?_⟩⟩⟩
  obtain ⟨hu1, hu2, hv⟩ := hu.1 (by simpa using hn)
  have hd0 := len0 d
  have hp0 := len0 p
  have hq0 := len0 q
  have hb := hv.1
  refine ⟨by show q.len ≤ 1000000; omega, fun x5 _ s6 s7 x8 _ hP _ => ?_⟩
  refine ⟨fun f i s' d' p' => 0 ≤ i ∧ i ≤ q.len ∧ ((f = 0 ∧ s' = st ∧ eqDue d' d ∧ validS st d' p' ∧ p'.len = p.len + i ∧ (∀ k : Int, 0 ≤ k → k < p.len → eqAt p' k p k) ∧ (∀ k : Int, 0 ≤ k → k < i → eqAt p' (p.len + k) q k) ∧ (∀ k : Int, 0 ≤ k → k < i → okAt st d.len q (lastDay p) k)) ∨ (f = 2 ∧ ¬ postOk st d p q)),
    fun _ i _ _ _ => (q.len - i).toNat, ⟨Int.le_refl _, hq0, .inl ⟨rfl, rfl, ⟨rfl, fun _ _ _ => rfl⟩, hv, by omega, fun _ _ _ => ⟨rfl, rfl, rfl, rfl⟩, fun k k0 k1 => absurd k1 (by omega), fun k k0 k1 => absurd k1 (by omega)⟩⟩, fun f _ i _ s' _ d' p' ⟨i0, i1, hj⟩ => ⟨fun hlt => ⟨i0, hlt, fun _ _ _ _ => ⟨fun hf => ?_, fun hf => ?_⟩⟩, fun hge => ?_⟩⟩
  · rcases hj with ⟨_, rfl, hd, hv', hl, ha, hbb, hok⟩ | ⟨h2, _⟩
    rotate_left
    · omega
    refine ⟨by show (1 : Int) ≤ 1000000; omega, fun x15 _ s16 s17 x18 _ hQ => ⟨rs _ (by omega), ⟨by omega, by omega, ?_⟩, ?_⟩⟩
    · have hone := post_one (st := s') hv' hd i0 hl ha hbb
      by_cases hk : okAt s' d.len q (lastDay p) i
      · left
        obtain ⟨g1, g2, g3, g4⟩ := (hQ.2 (hone.2 hk)).2 (by show p'.len + 1 ≤ 4000; omega)
        obtain ⟨b1, b2, b3⟩ := g4
        have b1 : s17.len = p'.len + 1 := b1
        refine ⟨g1, g2, g3.trans hd, behind_valid hv' g3 (hone.2 hk).2 ⟨b1, b2, b3⟩ (by show p'.len + 1 ≤ 4000; omega), by omega, fun k k0 k1 => ?_, fun k k0 k1 => ?_, fun k k0 k1 => ?_⟩
        · have h1 := b2 k k0 (by omega)
          have h2 := ha k k0 k1
          unfold eqAt at *
          omega
        · by_cases e : k < i
          · have h1 := b2 (p.len + k) (by omega) (by omega)
            have h2 := hbb k k0 e
            unfold eqAt at *
            omega
          · have e : k = i := by omega
            subst e
            have h1 := b3 0 (Int.le_refl _) (by show (0 : Int) < 1; omega)
            rw [Int.add_zero, hl] at h1
            exact h1
        · by_cases e : k < i
          · exact hok k k0 e
          · have e : k = i := by omega
            rw [e]; exact hk
      · right
        obtain ⟨g1, _⟩ := hQ.1 (fun h => hk (hone.1 h))
        exact ⟨g1, fun h => hk (h.2 i i0 hlt)⟩
    · show (q.len - (i + 1)).toNat < (q.len - i).toNat; omega
  · rcases hj with ⟨h0, _⟩ | ⟨h2, hno⟩
    · exact absurd h0 hf
    refine ⟨rs _ (by omega), ⟨by omega, by omega, .inr ⟨h2, hno⟩⟩, ?_⟩
    show (q.len - (i + 1)).toNat < (q.len - i).toNat; omega
  · have hi : i = q.len := by omega
    subst hi
    rcases hj with ⟨rfl, rfl, hd, hv', hl, ha, hbb, hok⟩ | ⟨rfl, hno⟩
    · have hpo : postOk s' d p q := ⟨hv, fun k k0 k1 => hok k k0 k1⟩
      obtain ⟨e8, e5, hd6, hbe⟩ := (hP.2 hpo).2 (by omega)
      obtain rfl := e8.symm
      obtain rfl := e5.symm
      have hvm := behind_valid hv hd6 hpo.2 hbe (by omega)
      refine ⟨fun h => absurd rfl h, fun _ => ⟨fun h => absurd rfl h, fun _ => ⟨trivial, fun b15 hb15 => ⟨fun h => absurd ?_ h, fun _ => ⟨trivial, fun b16 hb16 => ⟨fun h => absurd ?_ h, fun _ _ => ?_⟩⟩⟩⟩⟩⟩
      · have hb15 : b15 = true ↔ sameS s' s6 s7 s' d' p' := by simpa [q_Same] using hb15
        refine hb15.2 ⟨rfl, hd6.trans hd.symm, by rw [hl]; exact hbe.1, fun k k0 k1 => ?_⟩
        have h1 := hbe.1
        by_cases e : k < p.len
        · have g1 := hbe.2.1 k k0 e
          have g2 := ha k k0 e
          unfold eqAt at *
          omega
        · have g1 := hbe.2.2 (k - p.len) (by omega) (by omega)
          have g2 := hbb (k - p.len) (by omega) (by omega)
          rw [show p.len + (k - p.len) = k by omega] at g1 g2
          unfold eqAt at *
          omega
      · have hb16 : b16 = true ↔ validS s' s6 s7 := by simpa [q_Valid] using hb16
        exact hb16.2 hvm
      · refine ⟨fun i => 0 ≤ i ∧ i ≤ d.len, fun i => (d.len - i).toNat, ⟨Int.le_refl _, hd0⟩, fun i _ ⟨i0, i1⟩ => ⟨fun hlt => ⟨rs _ (by omega), fun _ => ?_⟩, fun _ => aw⟩⟩
        obtain ⟨g, hg⟩ : ∃ g : Int → Int, g = fun k => if q.int k 1 = s' + i then prin q k else 0 := ⟨_, rfl⟩
        have hbound : ∀ k : Int, 0 ≤ k → k < q.len → -1099511627776 ≤ g k ∧ g k ≤ 1099511627776 := fun k k0 k1 => by
          have := prin_bound (hok k k0 k1)
          rw [hg]
          show -1099511627776 ≤ (if q.int k 1 = s' + i then prin q k else 0) ∧ (if q.int k 1 = s' + i then prin q k else 0) ≤ 1099511627776
          split <;> omega
        refine ⟨fun x k => 0 ≤ k ∧ k ≤ q.len ∧ x = sumTo g k.toNat, fun _ k => (q.len - k).toNat, ⟨Int.le_refl _, hq0, rfl⟩, fun x _ k _ ⟨k0, k1, hx⟩ => ⟨fun hk => ⟨k0, hk, fun _ _ _ _ => ?_⟩, fun hk => ?_⟩⟩
        · have hgk : g k = if q.int k 1 = s' + i then (if q.int k 2 = 3 then 0 else q.int k 3) else 0 := by rw [hg]; rfl
          have zero : g k = 0 → Rng .i64 (k + 1) ∧ (0 ≤ k + 1 ∧ k + 1 ≤ q.len ∧ x = sumTo g (k + 1).toNat) ∧ (q.len - (k + 1)).toNat < (q.len - k).toNat := fun hy => by
            obtain ⟨g1, g2, g3, g4⟩ := rsum (by omega) hbound k0 hk hx hy
            rw [Int.add_zero] at g2
            exact ⟨g4, g2, g3⟩
          refine ⟨fun e => ⟨fun e2 => ?_, fun e2 => zero ?_⟩, fun e => zero (by rw [hgk, if_neg e])⟩
          · obtain ⟨g1, g2, g3, g4⟩ := rsum (by omega) hbound k0 hk hx (y := q.int k 3) (by rw [hgk, if_pos e, if_neg e2])
            exact ⟨g1, g4, g2, g3⟩
          · rw [hgk, if_pos e, if_pos (Classical.not_not.1 e2)]
        · have hkn : k.toNat = q.n := by unfold Sl.len at *; omega
          rw [hkn, hg] at hx
          have hx : x = postedS q (s' + i) := hx
          refine ⟨trivial, fun a _ ea _ hqa => ⟨trivial, fun b _ eb _ hqb => ?_⟩⟩
          obtain ⟨ha1, hea⟩ := (hqa.2 hv).2 ⟨by omega, by omega⟩
          obtain ⟨hb1, heb⟩ := (hqb.2 hvm).2 ⟨by omega, by have := hd6.1; omega⟩
          have ei : s' + i - s' = i := by omega
          rw [ei] at ha1 hb1
          have hpb := posted_behind hbe (s' + i)
          have hdi := hd6.2 i i0 (by have := hd6.1; omega)
          have b1 := postedS_bound hv (s' + i)
          have b2 := postedS_bound hvm (s' + i)
          have b3 := hv.2.1 i i0 hlt
          refine ⟨fun h => absurd hea h, fun _ => ⟨fun h => absurd heb h, fun _ => ⟨rs _ (by omega), fun h => absurd (by omega) h, fun _ => ⟨rs _ (by omega), ⟨by omega, by omega⟩, ?_⟩⟩⟩⟩
          show (d.len - (i + 1)).toNat < (d.len - i).toNat; omega
    · obtain ⟨e8, z1, z2, z3⟩ := hP.1 hno
      obtain rfl := e8.symm
      refine ⟨fun h => absurd rfl h, fun _ => ⟨fun _ => ⟨fun _ => ⟨trivial, fun b hb => ⟨fun _ => aw, fun h => absurd ?_ h⟩⟩, fun h => absurd rfl h⟩, fun h => absurd (by omega) h⟩⟩
      have hb : b = true ↔ sameS x5 s6 s7 0 Sl.nil Sl.nil := by simpa [q_Same] using hb
      exact hb.2 ⟨z1, ⟨z2, fun k k0 k1 => by omega⟩, ⟨z3, fun k k0 k1 => by omega⟩⟩

end Go.Sx.L
