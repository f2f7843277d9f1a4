/-
  The condition of the law Tells. Conditions: none.
-/
import Derived.Test.YtlhjljekeobplaaLedPD
import Derived.Test.YtlhjljekeobplaaLedVTells
namespace Go.Sx.L

theorem int_upd1 {s : Sl} {i k x : Int} {j : Nat} (h0 : 0 ≤ i) (h1 : 0 ≤ k) : (Sl.upd s i j [.int x]).int k j = if k = i then x else s.int k j := by
  unfold Sl.upd Sl.int
  by_cases e : k = i
  · subst e; simp [D.toI]
  · have : ¬ k.toNat = i.toNat := by omega
    simp [e, this]

theorem valid_eq {st : Int} {d p d' p' : Sl} (hv : validS st d p) (hd : eqDue d' d) (hp : eqPosts p' p) : validS st d' p' := by
  have hl := hd.1
  refine ⟨by rw [hl]; exact hv.1, fun i h0 h1 => by rw [hd.2 i h0 h1]; exact hv.2.1 i h0 (by omega), by rw [hp.1]; exact hv.2.2.1, follow_eq (by omega) (Int.le_of_eq hp.1) hp.2 hv.2.2.2⟩

theorem bal_eq {st : Int} {d p d' p' : Sl} (hd : eqDue d' d) (hp : eqPosts p' p) (b : Int) : balS st d' p' b = balS st d p b := by
  unfold balS
  rw [hd.1, eqPosts_n hp]
  congr 1
  · refine sumTo_congr fun i i0 i1 => hd.2 i i0 ?_
    have hd0 := len0 d
    have : lastS st d.len b - st ≤ d.len := by unfold lastS imin imax; split <;> (try split) <;> omega
    have := hd.1
    omega
  · refine sumTo_congr fun i i0 i1 => ?_
    have e : ((p.n : Nat) : Int) = p.len := rfl
    obtain ⟨_, e1, e2, e3⟩ := hp.2 i i0 (by rw [hp.1]; omega)
    unfold prin
    rw [e1, e2, e3]

theorem total_eq {p p' : Sl} (hp : eqPosts p' p) (k : Int) : totalS p' k = totalS p k := by
  unfold totalS
  rw [eqPosts_n hp]
  refine sumTo_congr fun i i0 i1 => ?_
  have e : ((p.n : Nat) : Int) = p.len := rfl
  obtain ⟨_, e1, e2, e3⟩ := hp.2 i i0 (by rw [hp.1]; omega)
  rw [e2, e3]

theorem upTo_same {p q a b : Sl} {day : Int} (h : eqPosts q p) (ha : upTo p day a) (hb : upTo q day b) : eqPosts a b := by
  have ha0 := len0 a
  have hb0 := len0 b
  have hl : a.len = b.len := by
    rcases Int.lt_trichotomy a.len b.len with g | g | g
    · have h1 := (hb.2.1 a.len ha0 g).2
      have h2 := ha.2.2 a.len (Int.le_refl _) (by have := hb.1; have := h.1; omega)
      have h3 := (h.2 a.len ha0 (by have := hb.1; omega)).1
      omega
    · exact g
    · have h1 := (ha.2.1 b.len hb0 g).2
      have h2 := hb.2.2 b.len (Int.le_refl _) (by have := ha.1; have := h.1; omega)
      have h3 := (h.2 b.len hb0 (by have := ha.1; have := h.1; omega)).1
      omega
  refine ⟨hl, fun i i0 i1 => ?_⟩
  have g1 := (ha.2.1 i i0 i1).1
  have g2 := (hb.2.1 i i0 (by omega)).1
  have g3 := h.2 i i0 (by have := hb.1; omega)
  unfold eqAt at *
  omega

theorem tells_tail {st : Int} {d p : Sl} {m b day k : Int} {s9 s10 : Sl} {x16 x17 x20 : Int} {s21 s22 : Sl} {x23 : Int} (hv : validS st d p) (hd9 : eqDue s9 d) (hp9 : eqPosts s10 p) (h16 : x16 = balS st d p b) (h17 : x17 = 0) (h23 : x23 = 0) (h20 : x20 = st)
    (hd21 : eqDue s21 d) (hp22 : upTo p day s22) : V_Tells_1 st d p m b day k st s9 s10 x16 x17 x20 s21 s22 x23 := by
  have rs := rsL
  have hv9 := valid_eq hv hd9 hp9
  have hv2 := upTo_valid hv hd21 hp22
  have h21 := len0 s21
  have h22 := len0 s22
  have hb1 := hv2.1
  have hb4 := hv2.2.2.1
  refine ⟨fun h => absurd h17 h, fun _ => ⟨fun h => absurd h23 h, fun _ => ⟨hv9, fun y _ hy => ⟨fun h => absurd ?_ h, fun _ => ⟨hv9, fun z _ s202 s203 hz => ⟨trivial, fun b4 hb4 => ⟨fun h => absurd ?_ h, fun _ _ => ?_⟩⟩⟩⟩⟩⟩⟩
  · have hy : y = balS st s9 s10 b := hy
    rw [hy, bal_eq hd9 hp9, h16]
  · obtain ⟨hz1, hz2, hz3⟩ := hz
    have hb4 : b4 = true ↔ sameS x20 s21 s22 z s202 s203 := by simpa [q_Same] using hb4
    exact hb4.2 ⟨h20.trans hz1.symm, hd21.trans (hz2.trans hd9).symm, upTo_same hp9 hp22 hz3⟩
  · refine ⟨fun i _ s t => 0 ≤ i ∧ s.len = s21.len ∧ t = s22 ∧ ∀ k : Int, i ≤ k → s.int k 0 = s21.int k 0, fun i _ _ _ => (s21.len - i).toNat, ⟨Int.le_refl _, rfl, rfl, fun _ _ => rfl⟩, fun i _ _ _ s t ⟨i0, hl, ht, hk⟩ => ⟨fun hlt => ⟨i0, by omega, fun _ => ?_⟩, fun hge _ => ?_⟩⟩
    · have h1 := hv2.2.1 i i0 hlt
      rw [hk i (Int.le_refl _)]
      refine ⟨rs _ (by omega), i0, by omega, rs _ (by omega), ⟨by omega, by rw [len_upd]; exact hl, ht, fun k hk1 => ?_⟩, ?_⟩
      · rw [int_upd1 i0 (by omega), if_neg (by omega)]
        exact hk k (by omega)
      · show (s21.len - (i + 1)).toNat < (s21.len - i).toNat; omega
    · subst ht
      refine ⟨fun i _ _ t' => 0 ≤ i ∧ t'.len = t.len ∧ ∀ k : Int, i ≤ k → t'.int k 3 = t.int k 3, fun i _ _ _ => (t.len - i).toNat, ⟨Int.le_refl _, rfl, fun _ _ => rfl⟩, fun i _ _ _ s t' ⟨i0, hl, hk⟩ => ⟨fun hlt => ⟨i0, by omega, fun _ => ?_⟩, fun hge => ?_⟩⟩
      · have h1 := amt_bound (hv2.2.2.2 i i0 hlt)
        rw [hk i (Int.le_refl _)]
        refine ⟨rs _ (by omega), i0, by omega, rs _ (by omega), ⟨by omega, by rw [len_upd]; exact hl, fun k hk1 => ?_⟩, ?_⟩
        · rw [int_upd1 i0 (by omega), if_neg (by omega)]
          exact hk k (by omega)
        · show (t.len - (i + 1)).toNat < (t.len - i).toNat; omega
      · refine ⟨trivial, fun b5 hb5 => ⟨fun _ => ⟨trivial, fun b6 hb6 => ⟨hb6, trivial⟩⟩, fun h => absurd ?_ h⟩⟩
        have hb5 : b5 = true ↔ sameS st d p st s9 s10 := by simpa [q_Same] using hb5
        exact hb5.2 ⟨rfl, hd9.symm, hp9.symm⟩

theorem Tells_ok : V_Tells := by
  intro st _ d p m _ b _ day _ k hk _
  have rs := rsL
  have aw : p_awake ∧ ∀ b5 : Bool, q_awake (decide (b5 = true)) → q_Tells st d p m b day k (decide (b5 = true)) ∧ True := ⟨trivial, fun b hb => ⟨hb, trivial⟩⟩
  refine ⟨trivial, fun u hu => ⟨fun _ => aw, fun hn => ?_⟩⟩
  have hf : (d.len ≤ 40 ∨ 1200 < d.len ∧ d.len ≤ 1202) ∧ (p.len ≤ 60 ∨ 4000 < p.len ∧ p.len ≤ 4002) := by
    have : u = true ↔ ((d.len ≤ 40 ∨ 1200 < d.len ∧ d.len ≤ 1202) ∧ (p.len ≤ 60 ∨ 4000 < p.len ∧ p.len ≤ 4002)) := by simpa [q_Few] using hu
    exact this.1 (by simpa using hn)
  refine ⟨⟨by omega, by omega⟩, fun x8 _ s9 s10 hc => ⟨trivial, fun b11 h11 => ⟨trivial, fun x12 _ x13 _ hP => ⟨trivial, fun x14 hr14 x15 _ hO => ⟨trivial, fun x16 _ x17 _ hB => ⟨trivial, fun x18 _ x19 _ hT => ⟨trivial, fun x20 _ s21 s22 x23 _ hA => ⟨trivial, fun b24 h24 => ?_⟩⟩⟩⟩⟩⟩⟩⟩
  obtain ⟨e8, hd9, hp9⟩ := hc
  obtain rfl := e8.symm
  have h11 : b11 = true ↔ validS st s9 s10 := by simpa [q_rValid] using h11
  have h24 : b24 = true ↔ validS st d p := by simpa [q_Valid] using h24
  have hvv : validS st d p ↔ validS st s9 s10 := ⟨fun h => valid_eq h hd9 hp9, fun h => valid_eq h hd9.symm hp9.symm⟩
  refine ⟨fun h => absurd (h24.trans (hvv.trans h11.symm)) h, fun _ => ⟨fun hno => ?_, fun hyes => ?_⟩⟩
  · have hnv : ¬ validS st d p := fun h => hno (h11.2 (hvv.1 h))
    obtain ⟨a1, a2⟩ := hP.1 hnv
    obtain ⟨b1, b2⟩ := hO.1 hnv
    obtain ⟨c1, c2⟩ := hB.1 hnv
    obtain ⟨d1, d2⟩ := hT.1 (fun h => hnv h.1)
    obtain ⟨e1, e2, e3, e4⟩ := hA.1 hnv
    have hs : p_Same x20 s21 s22 0 Sl.nil Sl.nil ∧ ∀ b25 : Bool, q_Same x20 s21 s22 0 Sl.nil Sl.nil (decide (b25 = true)) → (b25 = true → p_awake ∧ ∀ b26 : Bool, q_awake (decide (b26 = true)) → q_Tells st d p m b day k (decide (b26 = true)) ∧ True) ∧ (¬ b25 = true → q_Tells st d p m b day k (decide False) ∧ True) := by
      refine ⟨trivial, fun b25 h25 => ⟨fun _ => aw, fun h => absurd ?_ h⟩⟩
      have h25 : b25 = true ↔ sameS x20 s21 s22 0 Sl.nil Sl.nil := by simpa [q_Same] using h25
      exact h25.2 ⟨e2, ⟨e3, fun k k0 k1 => by omega⟩, ⟨e4, fun k k0 k1 => by omega⟩⟩
    exact ⟨fun _ => ⟨fun _ => ⟨fun _ => ⟨fun _ => ⟨fun _ => ⟨fun _ => ⟨fun _ => ⟨fun _ => ⟨fun _ => hs, fun h => absurd d1 h⟩, fun h => absurd c1 h⟩, fun h => absurd b1 h⟩, fun h => absurd a1 h⟩, fun h => absurd (e1.trans a2.symm) h⟩, fun h => absurd (d2.trans a2.symm) h⟩, fun h => absurd (c2.trans a2.symm) h⟩, fun h => absurd (b2.trans a2.symm) h⟩, fun h => absurd a2 h⟩
  · have hv9 : validS st s9 s10 := h11.1 (by simpa using hyes)
    have hv : validS st d p := hvv.2 hv9
    have hs := hv.1
    obtain ⟨c1, c2⟩ := hB.2 hv
    obtain ⟨e1, e2, e3, e4⟩ := hA.2 hv
    have tail := tells_tail (m := m) (b := b) (day := day) (k := k) hv hd9 hp9 c1 c2 e1 e2 e3 e4
    have tail0 : (x19 = 2 ∧ x18 = 0) → V_Tells_0 st d p m b day k st s9 s10 x16 x17 x18 x19 x20 s21 s22 x23 := fun ⟨h19, h18⟩ => ⟨fun h => absurd h19 h, fun _ => ⟨fun h => absurd h18 h, fun _ => tail⟩⟩
    have tail2 : V_Tells_2 st d p m b day k st s9 s10 x16 x17 x18 x19 x20 s21 s22 x23 := by
      refine ⟨fun h => tail0 ?_, fun h1 => ⟨fun h => tail0 ?_, fun h2 => ⟨fun h => absurd ?_ h, fun _ => ⟨hv9, fun y _ hy => ⟨fun h => absurd ?_ h, fun _ => tail⟩⟩⟩⟩⟩
      · obtain ⟨g1, g2⟩ := hT.1 (fun g => by omega); exact ⟨g2, g1⟩
      · obtain ⟨g1, g2⟩ := hT.1 (fun g => by omega); exact ⟨g2, g1⟩
      · exact (hT.2 hv (by omega) (by omega)).2
      · have hy : y = totalS s10 k := hy
        rw [(hT.2 hv (by omega) (by omega)).1, hy, total_eq hp9]
    refine ⟨⟨hv9.1.1, hv9.1.2.1, hv9.1.2.2.1⟩, fun b25 h25 => ?_⟩
    have h25 : b25 = true ↔ hasS st s9 m := by simpa [q_rHas] using h25
    have hl9 := hd9.1
    refine ⟨fun hn => ?_, fun hn => ?_⟩
    · have hnh : ¬ hasS st d m := fun h => hn (h25.2 (by unfold hasS at *; omega))
      obtain ⟨a1, a2⟩ := (hP.2 hv).1 hnh
      obtain ⟨b1, b2⟩ := (hO.2 hv).1 hnh
      exact ⟨fun h => absurd a1 h, fun _ => ⟨fun h => absurd b1 h, fun _ => ⟨fun h => absurd a2 h, fun _ => ⟨fun h => absurd (b2.trans a2.symm) h, fun _ => tail2⟩⟩⟩⟩
    · have hh : hasS st d m := by
        have := h25.1 (by simpa using hn)
        unfold hasS at *; omega
      obtain ⟨a1, a2⟩ := (hP.2 hv).2 hh
      obtain ⟨b1, b2⟩ := (hO.2 hv).2 hh
      have hi := hh
      unfold hasS at hi
      have hdi := hd9.2 (m - st) (by omega) (by omega)
      have hdb := hv.2.1 (m - st) (by omega) (by omega)
      have hpb := postedS_bound hv m
      refine ⟨fun h => absurd a2 h, fun _ => ⟨fun h => absurd b2 h, fun _ => ⟨hv9, fun y _ hy => ⟨fun h => absurd ?_ h, fun _ => ⟨rs _ (by omega), by omega, by omega, fun _ => ⟨rs _ (by omega), fun h => absurd (by omega) h, fun _ => tail2⟩⟩⟩⟩⟩⟩
      have hy : y = postedS s10 m := hy
      rw [a1, hy, postedS_eq hp9]

end Go.Sx.L
