/-
  The law LedgerChanges: its condition. Conditions: none.
-/
import Derived.Test.YtdhjdigfoohofaaLedVChanges
import Derived.Test.YtdhjdigfoohofaaLedFz
set_option linter.unusedVariables false
set_option linter.unusedSimpArgs false
namespace Go.Sx.N

theorem app_nil_left (d : Sl) : Sl.app (Sl.lit []) d = d := by
  cases d
  unfold Sl.app Sl.lit
  congr 1
  simp
theorem prev_eq {p q : Sl} (h : eqPosts p q) {d0 i : Int} (i0 : 0 ≤ i) (i1 : i < p.len) : prev p d0 i = prev q d0 i := by
  unfold prev
  split
  · rfl
  · exact (h.2 (i - 1) (by omega) (by omega)).1
theorem valid_eqS {st : Int} {d p d2 p2 : Sl} (hd : eqDue d2 d) (hp : eqPosts p2 p) (h : validS st d p) : validS st d2 p2 := by
  obtain ⟨h1, h2, h3, h4⟩ := h
  refine ⟨by rw [hd.1]; exact h1, fun i i0 i1 => by rw [hd.2 i i0 i1]; exact h2 i i0 (by rw [← hd.1]; exact i1), by rw [hp.1]; exact h3, fun i i0 i1 => ?_⟩
  have g := h4 i i0 (by rw [← hp.1]; exact i1)
  have e := hp.2 i i0 i1
  unfold okAt fitAt at *
  rw [prev_eq hp i0 i1, e.1, e.2.1, e.2.2.1, e.2.2.2, hd.1]
  exact g
theorem eqDue_sym {d e : Sl} (h : eqDue d e) : eqDue e d := ⟨h.1.symm, fun i i0 i1 => (h.2 i i0 (by rw [h.1]; exact i1)).symm⟩
theorem eqAt_sym {p q : Sl} {i k : Int} (h : eqAt p i q k) : eqAt q k p i := ⟨h.1.symm, h.2.1.symm, h.2.2.1.symm, h.2.2.2.symm⟩
theorem eqAt_trn {p q r : Sl} {i k j : Int} (h : eqAt p i q k) (g : eqAt q k r j) : eqAt p i r j := ⟨h.1.trans g.1, h.2.1.trans g.2.1, h.2.2.1.trans g.2.2.1, h.2.2.2.trans g.2.2.2⟩
theorem eqPosts_sym {d e : Sl} (h : eqPosts d e) : eqPosts e d := ⟨h.1.symm, fun i i0 i1 => eqAt_sym (h.2 i i0 (by rw [h.1]; exact i1))⟩
theorem valid_iff {st : Int} {d p d2 p2 : Sl} (hd : eqDue d2 d) (hp : eqPosts p2 p) : validS st d2 p2 ↔ validS st d p := ⟨valid_eqS (eqDue_sym hd) (eqPosts_sym hp), valid_eqS hd hp⟩
theorem zero_same {a b : Int} {d p e q : Sl} (h : zeroS a d p) (g : zeroS b e q) : sameS a d p b e q :=
  ⟨h.1.trans g.1.symm, ⟨h.2.1.trans g.2.1.symm, fun i i0 i1 => by rw [h.2.1] at i1; omega⟩, h.2.2.trans g.2.2.symm, fun i i0 i1 => by rw [h.2.2] at i1; omega⟩

theorem post_same {st : Int} {d p q d2 p2 : Sl} {x y : Int} {d1 p1 d3 p3 : Sl} {e1 e3 : Int} (hd : eqDue d2 d) (hp : eqPosts p2 p) (h : q_Post st d p q x d1 p1 e1) (g : q_Post st d2 p2 q y d3 p3 e3) : e1 = e3 ∧ sameS x d1 p1 y d3 p3 := by
  have p0 := len0 p
  have hl : lastDay p2 = lastDay p := by
    unfold lastDay
    rw [hp.1]
    split
    · exact (hp.2 _ (by omega) (by rw [hp.1]; omega)).1
    · rfl
  have hok : postOk st d2 p2 q ↔ postOk st d p q := by
    unfold postOk
    rw [valid_iff hd hp, hl, hd.1]
  by_cases c : postOk st d p q
  · have h := h.2 c
    have g := g.2 (hok.2 c)
    rw [hp.1] at g
    by_cases c2 : 4000 < p.len + q.len
    · obtain ⟨a, b⟩ := h.1 c2
      obtain ⟨a', b'⟩ := g.1 c2
      exact ⟨a.trans a'.symm, zero_same b b'⟩
    · obtain ⟨a, b, c, f⟩ := h.2 (by omega)
      obtain ⟨a', b', c', f'⟩ := g.2 (by omega)
      refine ⟨a.trans a'.symm, b.trans b'.symm, ⟨by rw [c.1, c'.1, hd.1], fun i i0 i1 => by rw [c.2 i i0 i1, c'.2 i i0 (by rw [c'.1, hd.1, ← c.1]; exact i1), hd.2 i i0 (by rw [hd.1, ← c.1]; exact i1)]⟩, by rw [f.1, f'.1, hp.1], fun i i0 i1 => ?_⟩
      by_cases k : i < p.len
      · exact eqAt_trn (f.2.1 i i0 k) (eqAt_trn (eqAt_sym (hp.2 i i0 (by rw [hp.1]; exact k))) (eqAt_sym (f'.2.1 i i0 (by rw [hp.1]; exact k))))
      · have i1 : i < p.len + q.len := by rw [← f.1]; exact i1
        have a1 := f.2.2 (i - p.len) (by omega) (by omega)
        have a2 := f'.2.2 (i - p.len) (by omega) (by omega)
        rw [hp.1] at a2
        rw [show p.len + (i - p.len) = i by omega] at a1 a2
        exact eqAt_trn a1 (eqAt_sym a2)
  · obtain ⟨a, b⟩ := h.1 c
    obtain ⟨a', b'⟩ := g.1 (fun k => c (hok.1 k))
    exact ⟨a.trans a'.symm, zero_same b b'⟩

theorem learn_same {st : Int} {d p d2 p2 : Sl} {m due x y : Int} {d1 p1 d3 p3 : Sl} {e1 e3 : Int} (hd : eqDue d2 d) (hp : eqPosts p2 p) (h : q_Learn st d p m due x d1 p1 e1) (g : q_Learn st d2 p2 m due y d3 p3 e3) : e1 = e3 ∧ sameS x d1 p1 y d3 p3 := by
  have hok : learnOk st d2 p2 m due ↔ learnOk st d p m due := by
    unfold learnOk
    rw [valid_iff hd hp, hd.1]
  have hm : learnMany st d2 m ↔ learnMany st d m := by unfold learnMany; rw [hd.1]
  by_cases c : learnOk st d p m due
  · have h := h.2 c
    have g := g.2 (hok.2 c)
    by_cases c2 : learnMany st d m
    · obtain ⟨a, b⟩ := h.1 c2
      obtain ⟨a', b'⟩ := g.1 (hm.2 c2)
      exact ⟨a.trans a'.symm, zero_same b b'⟩
    · obtain ⟨a, b, c3, f, k⟩ := h.2 c2
      obtain ⟨a', b', c3', f', k'⟩ := g.2 (fun z => c2 (hm.1 z))
      rw [hd.1] at f'
      refine ⟨a.trans a'.symm, b.trans b'.symm, ⟨f.trans f'.symm, fun i i0 i1 => ?_⟩, c3.1.trans (hp.1.symm.trans c3'.1.symm), fun i i0 i1 => ?_⟩
      · rw [k i i0 i1, k' i i0 (by rw [f', ← f]; exact i1)]
        split
        · rfl
        · rename_i ne
          have hb := c.1.1
          have d0 := len0 d
          have : i < d.len := by
            rw [f] at i1
            unfold imax at i1
            obtain ⟨_, _, _, k1, k2⟩ := c
            split at i1 <;> omega
          exact (hd.2 i i0 (by rw [hd.1]; exact this)).symm
      · have i2 : i < p.len := by rw [← c3.1]; exact i1
        exact eqAt_trn (c3.2 i i0 i1) (eqAt_trn (eqAt_sym (hp.2 i i0 (by rw [hp.1]; exact i2))) (eqAt_sym (c3'.2 i i0 (by rw [c3'.1, hp.1]; exact i2))))
  · obtain ⟨a, b⟩ := h.1 c
    obtain ⟨a', b'⟩ := g.1 (fun k => c (hok.1 k))
    exact ⟨a.trans a'.symm, zero_same b b'⟩

/-! Numbers that may grow by one -/
def bd (s : Sl) (j : Nat) (i : Int) : Prop := ∀ k : Int, i ≤ k → 0 ≤ k → k < s.len → -1099511627776 ≤ s.int k j ∧ s.int k j ≤ 1099511627776
theorem valid_bd {st : Int} {d p : Sl} (h : validS st d p) : bd d 0 0 ∧ bd p 3 0 :=
  ⟨fun k _ k0 k1 => by have := h.2.1 k k0 k1; omega, fun k _ k0 k1 => L.amt_bound (h.2.2.2 k k0 k1)⟩
theorem zero_bd {st : Int} {d p : Sl} (h : zeroS st d p) : bd d 0 0 ∧ bd p 3 0 :=
  ⟨fun k _ k0 k1 => by rw [h.2.1] at k1; omega, fun k _ k0 k1 => by rw [h.2.2] at k1; omega⟩
theorem post_bd {st : Int} {d p q : Sl} {x : Int} {d1 p1 : Sl} {e : Int} (h : q_Post st d p q x d1 p1 e) : bd d1 0 0 ∧ bd p1 3 0 := by
  by_cases c : postOk st d p q
  · have h := h.2 c
    by_cases c2 : 4000 < p.len + q.len
    · exact zero_bd (h.1 c2).2
    · obtain ⟨_, _, c3, f⟩ := h.2 (by omega)
      obtain ⟨b1, b2⟩ := valid_bd c.1
      refine ⟨fun k kk k0 k1 => by rw [c3.2 k k0 k1]; exact b1 k kk k0 (by rw [← c3.1]; exact k1), fun k kk k0 k1 => ?_⟩
      by_cases k2 : k < p.len
      · rw [(f.2.1 k k0 k2).2.2.2]; exact b2 k kk k0 k2
      · have k1 : k < p.len + q.len := by rw [← f.1]; exact k1
        have a1 := f.2.2 (k - p.len) (by omega) (by omega)
        rw [show p.len + (k - p.len) = k by omega] at a1
        rw [a1.2.2.2]; exact L.amt_bound (c.2 (k - p.len) (by omega) (by omega))
  · exact zero_bd (h.1 c).2
theorem learn_bd {st : Int} {d p : Sl} {m due x : Int} {d1 p1 : Sl} {e : Int} (h : q_Learn st d p m due x d1 p1 e) : bd d1 0 0 ∧ bd p1 3 0 := by
  by_cases c : learnOk st d p m due
  · have h := h.2 c
    by_cases c2 : learnMany st d m
    · exact zero_bd (h.1 c2).2
    · obtain ⟨_, _, c3, f, k⟩ := h.2 c2
      obtain ⟨b1, b2⟩ := valid_bd c.1
      refine ⟨fun i ii i0 i1 => ?_, fun i ii i0 i1 => by rw [(c3.2 i i0 i1).2.2.2]; exact b2 i ii i0 (by rw [← c3.1]; exact i1)⟩
      rw [k i i0 i1]
      have d0 := len0 d
      obtain ⟨_, k3, k4, k1, k2⟩ := c
      split
      · omega
      · exact b1 i ii i0 (by rw [f] at i1; unfold imax at i1; split at i1 <;> omega)
  · exact zero_bd (h.1 c).2
theorem bd_step {s : Sl} {j : Nat} {i : Int} {l : List D} (i0 : 0 ≤ i) (h : bd s j i) (hl : l.length = 1) : bd (Sl.upd s i j l) j (i + 1) := fun k kk k0 k1 => by
  have e : Sl.int (Sl.upd s i j l) k j = s.int k j := by
    unfold Sl.int Sl.upd
    simp only
    rw [if_neg]
    omega
  rw [e]
  exact h k (by omega) k0 k1

theorem inc0 {J : Sl → Int → Prop} {M : Sl → Int → Nat} {s : Sl} {i : Int} {n : Int} (hn : n ≤ 140737488355328) (hJ : J = fun s i => (0 ≤ i ∧ i ≤ n) ∧ s.len = n ∧ bd s 0 i) (hM : M = fun _ i => (n - i).toNat) (h : J s i) (hi : i < n) : V_Changes_0 J M s i := by
  subst hJ; subst hM
  obtain ⟨⟨i0, i1⟩, hl, hb⟩ := h
  unfold V_Changes_0
  have b := hb i (Int.le_refl _) i0 (by omega)
  exact ⟨i0, by omega, fun _ => ⟨by rw [rng64]; omega, i0, by omega, by rw [rng64]; omega, ⟨⟨by omega, by omega⟩, hl, bd_step i0 hb rfl⟩, by show (n - (i + 1)).toNat < (n - i).toNat; omega⟩⟩
theorem inc1 {J : Sl → Int → Prop} {M : Sl → Int → Nat} {s : Sl} {i : Int} {n : Int} (hn : n ≤ 140737488355328) (hJ : J = fun s i => (0 ≤ i ∧ i ≤ n) ∧ s.len = n ∧ bd s 3 i) (hM : M = fun _ i => (n - i).toNat) (h : J s i) (hi : i < n) : V_Changes_1 J M s i := by
  subst hJ; subst hM
  obtain ⟨⟨i0, i1⟩, hl, hb⟩ := h
  unfold V_Changes_1
  have b := hb i (Int.le_refl _) i0 (by omega)
  exact ⟨i0, by omega, fun _ => ⟨by rw [rng64]; omega, i0, by omega, by rw [rng64]; omega, ⟨⟨by omega, by omega⟩, hl, bd_step i0 hb rfl⟩, by show (n - (i + 1)).toNat < (n - i).toNat; omega⟩⟩

theorem Changes_core {st : Int} {d p q : Sl} {m due : Int} (hf : (d.len ≤ 40 ∨ 1200 < d.len ∧ d.len ≤ 1202) ∧ (p.len ≤ 60 ∨ 4000 < p.len ∧ p.len ≤ 4002)) : V_Changes_2 st d p q m due := by
  unfold V_Changes_2
  simp only [Bool.decide_eq_true]
  have aw : ∀ b : Bool, q_awake b → q_Changes st d p q m due b ∧ True := fun b hb => ⟨hb, trivial⟩
  have q0 := len0 q
  refine fun sq => ⟨fun _ => ⟨trivial, aw⟩, fun hq => ⟨⟨by omega, by omega⟩, fun st1 _ d1 p1 hc => ?_⟩⟩
  obtain ⟨rfl, cd, cp⟩ := hc
  rw [app_nil_left]
  refine ⟨by show ((0 : Int) + q.len) * 32 ≤ _; omega, by show q.len ≤ 1000000; omega, fun x1 _ a1 b1 e1 _ h1 => ⟨⟨by have := cp.1; omega, by omega⟩, fun x2 _ a2 b2 e2 _ h2 => ⟨trivial, fun x3 _ a3 b3 e3 _ h3 => ⟨trivial, fun x4 _ a4 b4 e4 _ h4 => ?_⟩⟩⟩⟩
  obtain ⟨E1, S1⟩ := post_same cd cp h1 h2
  obtain ⟨E2, S2⟩ := learn_same cd cp h3 h4
  obtain ⟨B1, B2⟩ := post_bd h1
  obtain ⟨B3, B4⟩ := learn_bd h3
  refine ⟨fun k => absurd E1 k, fun _ => ⟨fun k => absurd E2 k, fun _ => ⟨trivial, fun v hv => ⟨fun k => absurd (hv.2 S1) k, fun _ => ⟨trivial, fun w hw => ⟨fun k => absurd (hw.2 S2) k, fun _ => ?_⟩⟩⟩⟩⟩⟩
  refine ⟨fun a b c f i => (0 ≤ i ∧ i ≤ 2) ∧ (i ≤ 0 → bd a 0 0 ∧ bd b 3 0) ∧ (i ≤ 1 → bd c 0 0 ∧ bd f 3 0), fun _ _ _ _ i => (2 - i).toNat, ⟨⟨by omega, by omega⟩, fun _ => ⟨B1, B2⟩, fun _ => ⟨B3, B4⟩⟩, fun a b c f i _ ⟨⟨i0, i2⟩, ha, hc⟩ => ⟨fun hi => ⟨i0, hi, fun hz sa => ?_, fun hz sc => ?_⟩, fun hi _ => ?_⟩⟩
  · have sa := small64 sa
    have a0 := len0 a
    have b0 := len0 b
    refine ⟨fun s i => (0 ≤ i ∧ i ≤ a.len) ∧ s.len = a.len ∧ bd s 0 i, fun _ i => (a.len - i).toNat, ⟨⟨Int.le_refl _, a0⟩, rfl, (ha (by omega)).1⟩, fun s k _ hJ => ⟨fun hk => inc0 (n := a.len) sa rfl rfl hJ hk, fun hk sb => ?_⟩⟩
    have sb := small64 sb
    refine ⟨fun s i => (0 ≤ i ∧ i ≤ b.len) ∧ s.len = b.len ∧ bd s 3 i, fun _ i => (b.len - i).toNat, ⟨⟨Int.le_refl _, b0⟩, rfl, (ha (by omega)).2⟩, fun s' k' _ hJ' => ⟨fun hk => inc1 (n := b.len) sb rfl rfl hJ' hk, fun hk' => ⟨by rw [rng64]; omega, ⟨⟨by omega, by omega⟩, fun k => by omega, fun _ => hc (by omega)⟩, by show (2 - (i + 1)).toNat < (2 - i).toNat; omega⟩⟩⟩
  · have sc := small64 sc
    have c0 := len0 c
    have f0 := len0 f
    refine ⟨fun s i => (0 ≤ i ∧ i ≤ c.len) ∧ s.len = c.len ∧ bd s 0 i, fun _ i => (c.len - i).toNat, ⟨⟨Int.le_refl _, c0⟩, rfl, (hc (by omega)).1⟩, fun s k _ hJ => ⟨fun hk => inc0 (n := c.len) sc rfl rfl hJ hk, fun hk sf => ?_⟩⟩
    have sf := small64 sf
    refine ⟨fun s i => (0 ≤ i ∧ i ≤ f.len) ∧ s.len = f.len ∧ bd s 3 i, fun _ i => (f.len - i).toNat, ⟨⟨Int.le_refl _, f0⟩, rfl, (hc (by omega)).2⟩, fun s' k' _ hJ' => ⟨fun hk => inc1 (n := f.len) sf rfl rfl hJ' hk, fun hk' => ⟨by rw [rng64]; omega, ⟨⟨by omega, by omega⟩, fun k => by omega, fun k => by omega⟩, by show (2 - (i + 1)).toNat < (2 - i).toNat; omega⟩⟩⟩
  · refine ⟨fun i => 0 ≤ i ∧ i ≤ q.len, fun i => (q.len - i).toNat, ⟨Int.le_refl _, q0⟩, fun i _ ⟨i0, i1⟩ => ⟨fun hi => ⟨i0, hi, fun _ _ _ _ => ⟨i0, hi, fun _ _ _ _ => ⟨fun g => absurd ⟨rfl, rfl, rfl, rfl⟩ g, fun _ => ⟨by rw [rng64]; omega, ⟨by omega, by omega⟩, by show (q.len - (i + 1)).toNat < (q.len - i).toNat; omega⟩⟩⟩⟩, fun _ => ⟨trivial, fun v hv => ⟨fun _ => ⟨trivial, aw⟩, fun k => absurd (hv.2 ⟨rfl, eqDue_sym cd, eqPosts_sym cp⟩) k⟩⟩⟩⟩

theorem Changes_ok : V_Changes := by
  intro st _ d p q m _ due _ _
  simp only [Bool.decide_eq_true]
  have aw : ∀ b : Bool, q_awake b → q_Changes st d p q m due b ∧ True := fun b hb => ⟨hb, trivial⟩
  refine ⟨trivial, fun f hf => ⟨fun _ => ⟨trivial, aw⟩, fun hf1 sq => ?_⟩⟩
  have hf := hf.1 (Classical.not_not.1 hf1)
  exact ⟨fun _ _ => ⟨fun _ => ⟨trivial, aw⟩, fun _ => Changes_core hf⟩, fun _ => Changes_core hf⟩

end Go.Sx.N
