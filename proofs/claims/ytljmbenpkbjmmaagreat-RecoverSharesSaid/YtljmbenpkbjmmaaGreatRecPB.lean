/-
  The condition of RecoverShares. Conditions: none.
-/
import Derived.Test.YtljmbenpkbjmmaaGreatNumVShares
import Derived.Test.YtljmbenpkbjmmaaGreatRecM
set_option linter.unusedVariables false
set_option linter.unusedSimpArgs false
namespace Go.Sx.N

def bndS (s : Sl) : Prop := s.len ≤ 1200 ∧ ∀ i : Int, 0 ≤ i → i < s.len → -4398046511104000 ≤ s.int i 3 ∧ s.int i 3 ≤ 0
def negF (s : Sl) (i : Int) : Int := - s.int i 3
def NJ (s : Sl) (x i : Int) : Prop := (0 ≤ i ∧ i ≤ s.len) ∧ x = sumTo (negF s) i.toNat
theorem NJ.init {s : Sl} : NJ s 0 0 := ⟨⟨Int.le_refl _, len0 s⟩, rfl⟩
theorem neg_bd {s : Sl} (hb : bndS s) {n : Nat} (hn : (n : Int) ≤ s.len) : 0 ≤ sumTo (negF s) n ∧ sumTo (negF s) n ≤ 4398046511104000 * n :=
  sumTo_le fun i h0 h1 => by
    have := hb.2 i h0 (by omega)
    unfold negF; omega
theorem NJ.step {s : Sl} (hb : bndS s) {x i : Int} (h : NJ s x i) (hi : i < s.len) :
    Rng .i64 (x - s.int i 3) ∧ Rng .i64 (i + 1) ∧ NJ s (x - s.int i 3) (i + 1) ∧ (s.len - (i + 1)).toNat < (s.len - i).toNat := by
  obtain ⟨⟨i0, i1⟩, hx⟩ := h
  have e := L.sumTo_succ (negF s) i0
  have b := neg_bd hb (n := (i + 1).toNat) (by omega)
  have bl := hb.1
  have f0 : negF s i = - s.int i 3 := rfl
  have en : (((i + 1).toNat : Nat) : Int) = i + 1 := by omega
  rw [en] at b
  refine ⟨by rw [rng64]; omega, by rw [rng64]; omega, ⟨⟨by omega, by omega⟩, by omega⟩, by omega⟩
theorem NJ.fin {s : Sl} {x i : Int} (h : NJ s x i) (hi : ¬ i < s.len) : x = sumTo (negF s) s.n := by
  obtain ⟨⟨i0, i1⟩, hx⟩ := h
  have : i.toNat = s.n := by unfold Sl.len at *; omega
  rw [hx, this]

section
variable {st : Int} {d p : Sl}
theorem sumTo_neg {f g : Int → Int} : ∀ {n : Nat}, (∀ i : Int, 0 ≤ i → i < n → f i = - g i) → sumTo f n = - sumTo g n
  | 0, _ => rfl
  | n + 1, h => by
    simp only [sumTo]
    rw [sumTo_neg (n := n) fun i h0 h1 => h i h0 (by omega), h n (by omega) (by omega)]
    omega
theorem take_sum {m lim day : Int} (hv : validS st d p) (hl : 0 ≤ lim) {s : Sl} (h : eqPosts s (Sl.lit (rowsS st d p day m lim d.n))) : bndS s ∧ sumTo (negF s) s.n = imin lim (outS st d p m) := by
  have hb := hv.1
  constructor
  · constructor
    · have := h.1
      rw [len_lit] at this
      have r := rows_len (st := st) (d := d) (p := p) (day := day) (m := m) (lim := lim) d.n
      have : (d.n : Int) = d.len := rfl
      omega
    · intro i i0 i1
      obtain ⟨k, k0, k1, _, _, _, k5⟩ := post_at h i0 i1
      have ub := used_bd hv (m := m) hl k0
      have pb := posi_bd hv (k := k) (by omega) k0
      omega
  · have t := take_total hv hl h
    have te := taken_eq hv (m := m) hl
    rw [← te.1]
    have : sumTo (negF s) s.n = - totalS s 4 := by
      rw [total_def]
      refine sumTo_neg fun i i0 i1 => ?_
      obtain ⟨k, k0, k1, _, _, k4, k5⟩ := post_at h i0 (by unfold Sl.len; exact i1)
      unfold negF kindF
      rw [if_pos k4]
    omega
/-- What is taken, whatever the share. -/
theorem total_cases (st : Int) (d p : Sl) (day m : Int) :
    (∃ E : Int, E ≠ 0 ∧ ∀ (n k : Int) (a c : Bool) (b f s : Sl) (e : Int), q_kFrac n k a b c f → 1 ≤ k ∧ k ≤ 65536 → 0 ≤ n ∧ n ≤ k → takeS st d p day m a b c f s e → bndS s ∧ e = E ∧ sumTo (negF s) s.n = 0) ∨
    (validS st d p ∧ hasS st d m ∧ ∀ (n k : Int) (a c : Bool) (b f s : Sl) (e : Int), q_kFrac n k a b c f → 1 ≤ k ∧ k ≤ 65536 → 0 ≤ n ∧ n ≤ k → takeS st d p day m a b c f s e →
      bndS s ∧ e = 0 ∧ sumTo (negF s) s.n = imin (Rat.divInt n k * ((d.int (m - st) 0 : Int) : Rat)).floor (outS st d p m)) := by
  rcases take_cases st d p day m with ⟨E, hE, hall⟩ | ⟨hv, hm, hday, hall⟩
  · refine .inl ⟨E, hE, fun n k a c b f s e h hk hn ht => ?_⟩
    have g := hall n k a c b f s e h hk hn ht
    have z : s.n = 0 := by have := g.2; unfold Sl.len at this; omega
    refine ⟨⟨by omega, fun i i0 i1 => by omega⟩, g.1, ?_⟩
    rw [z]; rfl
  · refine .inr ⟨hv, hm, fun n k a c b f s e h hk hn ht => ?_⟩
    have g := hall n k a c b f s e h hk hn ht
    have lb := part_limit (st := st) (d := d) (p := p) (m := m) h hk hn hv hm
    have t := take_sum hv lb.2.1 g.2
    exact ⟨t.1, g.1, t.2⟩
theorem floor_mono {a b k x : Int} (hk : 1 ≤ k) (h : a ≤ b) (x0 : 0 ≤ x) : (Rat.divInt a k * (x : Rat)).floor ≤ (Rat.divInt b k * (x : Rat)).floor := by
  have hx : (0 : Rat) ≤ (x : Rat) := Rat.intCast_le_intCast.2 x0
  have k0 : (0 : Rat) < (k : Rat) := Rat.intCast_pos.2 (by omega)
  have : Rat.divInt a k ≤ Rat.divInt b k := by
    rw [Rat.divInt_eq_div, Rat.divInt_eq_div, ← Rat.not_lt, Rat.lt_div_iff k0, Rat.div_mul_cancel (by grind), Rat.not_lt]
    exact Rat.intCast_le_intCast.2 h
  exact Rat.floor_monotone (Rat.mul_le_mul_of_nonneg_right this hx)
end

theorem Shares_ok : V_Shares := by
  intro st _ d _ p _ day _ m _ n rn k rk o ro _
  rw [rngu8] at rn rk ro
  simp only [Bool.decide_eq_true]
  have aw : p_awake ∧ ∀ b : Bool, q_awake b → q_Shares st d p day m n k o b ∧ True := ⟨trivial, fun b hb => ⟨hb, trivial⟩⟩
  have ra : Int.tmod n (o + 1 + 1) = n % (o + 1 + 1) := Int.tmod_eq_emod_of_nonneg rn.1
  have rb : Int.tmod k (o + 1 + 1) = k % (o + 1 + 1) := Int.tmod_eq_emod_of_nonneg rk.1
  have na := Int.emod_nonneg n (show o + 1 + 1 ≠ 0 by omega)
  have nb := Int.emod_nonneg k (show o + 1 + 1 ≠ 0 by omega)
  have la := Int.emod_lt_of_pos n (show 0 < o + 1 + 1 by omega)
  have lb := Int.emod_lt_of_pos k (show 0 < o + 1 + 1 by omega)
  rw [ra, rb]
  generalize n % (o + 1 + 1) = a at *
  generalize k % (o + 1 + 1) = b at *
  have lo : 0 ≤ imin a b ∧ imin a b ≤ o + 1 := by unfold imin; split <;> omega
  have hi_ : 0 ≤ imax a b ∧ imax a b ≤ o + 1 := by unfold imax; split <;> omega
  have lh : imin a b ≤ imax a b := by unfold imin imax; split <;> split <;> omega
  generalize imin a b = u at *
  generalize imax a b = w at *
  have k1 : (1 : Int) ≤ 1 ∧ (1 : Int) ≤ 65536 := by decide
  have ko : 1 ≤ o + 1 ∧ o + 1 ≤ 65536 := by omega
  have z01 : (0 : Int) ≤ 0 ∧ (0 : Int) ≤ 1 := by decide
  have z11 : (0 : Int) ≤ 1 ∧ (1 : Int) ≤ 1 := by decide
  have tc := total_cases st d p day m
  have bnd : ∀ (n k : Int) (a c : Bool) (b f s : Sl) (e : Int), q_kFrac n k a b c f → 1 ≤ k ∧ k ≤ 65536 → 0 ≤ n ∧ n ≤ k → takeS st d p day m a b c f s e → bndS s := fun n k a c b f s e h hk hn ht => by
    rcases tc with ⟨E, _, hall⟩ | ⟨_, _, hall⟩
    · exact (hall n k a c b f s e h hk hn ht).1
    · exact (hall n k a c b f s e h hk hn ht).1
  refine ⟨trivial, fun b8 _ => ⟨fun _ => aw, fun _ => ⟨by rw [rng64]; omega, by rw [rng64]; omega, by omega, by rw [rng64]; omega, by rw [rng64]; omega, by omega, by rw [rng64]; omega, trivial, fun a1 n1 _ c1 m1 _ q1 => ⟨trivial, fun t1 _ e1 _ g1 _ => ?_⟩⟩⟩⟩
  refine ⟨NJ t1, fun _ i => (t1.len - i).toNat, NJ.init, fun x1 _ i1 _ j1 => ⟨fun hi => ⟨j1.1.1, hi, fun _ _ _ _ => NJ.step (bnd _ _ _ _ _ _ _ _ q1 k1 z01 g1) j1 hi⟩, fun f1 => ⟨trivial, fun a2 n2 _ c2 m2 _ q2 => ⟨trivial, fun t2 _ e2 _ g2 _ => ?_⟩⟩⟩⟩
  refine ⟨NJ t2, fun _ i => (t2.len - i).toNat, NJ.init, fun x2 _ i2 _ j2 => ⟨fun hi => ⟨j2.1.1, hi, fun _ _ _ _ => NJ.step (bnd _ _ _ _ _ _ _ _ q2 k1 z11 g2) j2 hi⟩, fun f2 => ⟨trivial, fun a3 n3 _ c3 m3 _ q3 => ⟨trivial, fun t3 _ e3 _ g3 _ => ?_⟩⟩⟩⟩
  refine ⟨NJ t3, fun _ i => (t3.len - i).toNat, NJ.init, fun x3 _ i3 _ j3 => ⟨fun hi => ⟨j3.1.1, hi, fun _ _ _ _ => NJ.step (bnd _ _ _ _ _ _ _ _ q3 ko lo g3) j3 hi⟩, fun f3 => ⟨trivial, fun a4 n4 _ c4 m4 _ q4 => ⟨trivial, fun t4 _ e4 _ g4 _ => ?_⟩⟩⟩⟩
  refine ⟨NJ t4, fun _ i => (t4.len - i).toNat, NJ.init, fun x4 _ i4 _ j4 => ⟨fun hi => ⟨j4.1.1, hi, fun _ _ _ _ => NJ.step (bnd _ _ _ _ _ _ _ _ q4 ko hi_ g4) j4 hi⟩, fun f4 => ?_⟩⟩
  have s1 := NJ.fin j1 f1
  have s2 := NJ.fin j2 f2
  have s3 := NJ.fin j3 f3
  have s4 := NJ.fin j4 f4
  rcases tc with ⟨E, hE, hall⟩ | ⟨hv, hm, hall⟩
  · obtain ⟨_, h1, y1⟩ := hall _ _ _ _ _ _ _ _ q1 k1 z01 g1
    obtain ⟨_, h2, y2⟩ := hall _ _ _ _ _ _ _ _ q2 k1 z11 g2
    obtain ⟨_, h3, y3⟩ := hall _ _ _ _ _ _ _ _ q3 ko lo g3
    obtain ⟨_, h4, y4⟩ := hall _ _ _ _ _ _ _ _ q4 ko hi_ g4
    refine ⟨fun _ => ⟨fun _ => ⟨fun _ => ⟨fun _ => ⟨by rw [rng64]; omega, by rw [rng64]; omega, by rw [rng64]; omega, fun _ => aw, fun h => absurd (by omega) h⟩, fun h => absurd (by omega) h⟩, fun h => absurd (by omega) h⟩, fun h => absurd (by omega) h⟩, fun h => absurd (by omega) h⟩
  · obtain ⟨_, h1, y1⟩ := hall _ _ _ _ _ _ _ _ q1 k1 z01 g1
    obtain ⟨_, h2, y2⟩ := hall _ _ _ _ _ _ _ _ q2 k1 z11 g2
    obtain ⟨_, h3, y3⟩ := hall _ _ _ _ _ _ _ _ q3 ko lo g3
    obtain ⟨_, h4, y4⟩ := hall _ _ _ _ _ _ _ _ q4 ko hi_ g4
    refine ⟨fun h => absurd h1 h, fun _ => ⟨trivial, fun o1 _ o2 _ ho => ⟨trivial, fun a5 n5 _ c5 m5 _ q5 => ⟨trivial, fun l1 _ l2 _ hl => ?_⟩⟩⟩⟩
    have ho := ho.2 hv
    have lm := part_limit (st := st) (d := d) (p := p) (m := m) q5 k1 z11 hv hm
    have hl := limS_uniq hl lm.1
    have hmm := hm
    unfold hasS at hmm
    have db := hv.2.1 (m - st) (by omega) (by omega)
    have hb := hv.1
    have oo : 0 ≤ outS st d p m ∧ outS st d p m ≤ 5277655813324800000 := out_bd hv m (n := d.n) (Int.le_refl _)
    have m1 := floor_mono (k := o + 1) (x := d.int (m - st) 0) ko.1 lh db.1
    have m2 := (part_limit (st := st) (d := d) (p := p) (m := m) q4 ko hi_ hv hm).2
    have e0 : (Rat.divInt 0 1 * ((d.int (m - st) 0 : Int) : Rat)).floor = 0 := by
      rw [show Rat.divInt 0 1 = 0 from rfl, Rat.zero_mul]; rfl
    have e1' : (Rat.divInt 1 1 * ((d.int (m - st) 0 : Int) : Rat)).floor = d.int (m - st) 0 := by
      rw [show Rat.divInt 1 1 = 1 from rfl, Rat.one_mul, Rat.floor_intCast]
    rw [e0] at y1
    rw [e1'] at y2 hl
    generalize (Rat.divInt u (o + 1) * ((d.int (m - st) 0 : Int) : Rat)).floor = fu at *
    generalize (Rat.divInt w (o + 1) * ((d.int (m - st) 0 : Int) : Rat)).floor = fw at *
    generalize d.int (m - st) 0 = due at *
    generalize outS st d p m = out at *
    have y1 : x1 = 0 := by rw [s1, y1]; unfold imin; split <;> omega
    have y2 : x2 = imin o1 l1 := by rw [s2, y2, ho.1, hl.1]; unfold imin; split <;> split <;> omega
    have y34 : x3 ≤ x4 := by rw [s3, s4, y3, y4]; unfold imin; split <;> split <;> omega
    have y42 : x4 ≤ x2 := by rw [s4, s2, y4, (show sumTo (negF t2) t2.n = imin due out from by omega)]; unfold imin; split <;> split <;> omega
    exact ⟨by rw [rng64]; omega, by rw [rng64]; omega, by rw [rng64]; omega, by rw [rng64]; omega, fun _ => ⟨fun _ => ⟨fun _ => ⟨by rw [rng64]; omega, by omega, by omega, fun _ => ⟨fun _ => ⟨fun _ => ⟨fun _ => aw, fun h => absurd y42 h⟩, fun h => absurd y34 h⟩, fun h => absurd hl.1 h⟩⟩, fun h => absurd y2 h⟩, fun h => absurd y1 h⟩, fun h => absurd (by omega) h⟩

end Go.Sx.N
