/-
  The law ArrearsKnown: its condition. Conditions: none.
-/
import Derived.Test.YtmhhcnaflklapaaGreatNumVKnown
import Derived.Test.YtmhhcnaflklapaaGreatArrFk
set_option linter.unusedVariables false
set_option linter.unusedSimpArgs false
namespace Go.Sx.N

theorem f_app_ge {a b : Sl} {i : Int} (h : a.len ≤ i) : (Sl.app a b).f i.toNat = b.f (i - a.len).toNat := by
  have : ¬ i.toNat < a.n := by unfold Sl.len at h; omega
  funext j
  show (if i.toNat < a.n then a.f i.toNat j else b.f (i.toNat - a.n) j) = _
  rw [if_neg this]
  congr 1
  unfold Sl.len; omega

/-- A table with a row for a year that is not asked for. -/
theorem more_rate {t s : Sl} {name : ByteArray} {two : Bool} (h : q_rates t name two s) {a c : Bool} {b d : Sl} (hp : q_part 9 1 a b c d) {known y : Int} (hk : 0 ≤ known) (hy : 0 ≤ y ∧ y < 2150) :
    plainT (Sl.app s (Sl.lit [[.int 2150, .int 0, .int 0, .bool a, Sl.d b, .bool c, Sl.d d]])) (fun i => if i < s.len then rA i else 2150) (fun i => if i < s.len then rQ t i else Rat.divInt 9 1) ∧
    rateO (Sl.app s (Sl.lit [[.int 2150, .int 0, .int 0, .bool a, Sl.d b, .bool c, Sl.d d]])) known y = rateO s known y := by
  have hpl := rates_plain h
  have hl := h.2.2.1
  have t0 := len0 t
  have m0 : 0 ≤ imin t.len 8 ∧ imin t.len 8 ≤ 8 := by unfold imin; split <;> omega
  have ll : (Sl.app s (Sl.lit [[.int 2150, .int 0, .int 0, .bool a, Sl.d b, .bool c, Sl.d d]])).len = s.len + 1 := by rw [len_app]; rfl
  have P : plainT (Sl.app s (Sl.lit [[.int 2150, .int 0, .int 0, .bool a, Sl.d b, .bool c, Sl.d d]])) (fun i => if i < s.len then rA i else 2150) (fun i => if i < s.len then rQ t i else Rat.divInt 9 1) := by
    refine ⟨by omega, fun i i0 i1 => ?_, fun i j i0 ij j1 => ?_⟩
    · by_cases e : i < s.len
      · simp only [if_pos e]
        obtain ⟨r, r0⟩ := hpl.2.1 i i0 e
        exact ⟨rowI_of r (f_app_lt i0 e), r0⟩
      · simp only [if_neg e]
        have e2 : i = s.len := by omega
        have := app_new (a := s) (l := [.int 2150, .int 0, .int 0, .bool a, Sl.d b, .bool c, Sl.d d]) e2
        refine ⟨?_, by omega, by omega⟩
        unfold rowI Sl.int Sl.bool Sl.sub
        rw [this]
        exact ⟨rfl, rfl, rfl, row_lit hp (by decide +kernel)⟩
    · show (if i < s.len then rA i else 2150) < (if j < s.len then rA j else 2150)
      rw [if_pos (by omega)]
      by_cases e : j < s.len
      · rw [if_pos e]; exact hpl.2.2 i j i0 ij e
      · rw [if_neg e]; unfold rA; split <;> omega
  refine ⟨P, ?_⟩
  -- the row that tells the rate
  obtain ⟨k, k0, k1, h1, h2⟩ : ∃ k, 0 ≤ k ∧ k < s.len ∧ rA k ≤ y ∧ ∀ j : Int, k < j → j < s.len → y < rA j := by
    by_cases c : y < 1990
    · exact ⟨0, by omega, by omega, by unfold rA; rw [if_pos rfl]; omega, fun j j0 j1 => by unfold rA; rw [if_neg (by omega)]; omega⟩
    · refine ⟨imin (y - 1989) (s.len - 1), by unfold imin; split <;> omega, by unfold imin; split <;> omega, ?_, fun j j0 j1 => ?_⟩
      · unfold rA imin; (repeat' split) <;> omega
      · unfold imin at j0; unfold rA; split at j0 <;> (split <;> omega)
  rw [plain_rate hpl hk k0 k1 h1 h2, plain_rate P hk k0 (by omega) (by simp only [if_pos k1]; exact h1) (fun j j0 j1 => by
    show y < (if j < s.len then rA j else 2150)
    split
    · rename_i e; exact h2 j j0 e
    · omega)]
  simp only [if_pos k1]

/-- A table with a row that is known later. -/
def cpR (s : Sl) (i : Int) : List D := [.int (s.int i 0), .int (s.int i 1), .int (s.int i 2), .bool (s.bool i 3), Sl.d (s.sub i 4), .bool (s.bool i 5), Sl.d (s.sub i 6)]
def lateT (s : Sl) (l : List D) : Sl := Sl.app (Sl.lit [cpR s 0, l]) (Sl.part s 1 s.len)
theorem cp_row {s : Sl} {i y kn : Int} {q : Rat} (h : rowI s i y kn q) {t : Sl} {k : Int} (e : t.f k.toNat = fun j => (cpR s i).getD j (.int 0)) : rowI t k y kn q := by
  unfold rowI Sl.int Sl.bool Sl.sub at *
  rw [e]
  exact h
theorem late_rate {t s : Sl} {name : ByteArray} {two : Bool} (h : q_rates t name two s) {a c : Bool} {b d : Sl} (hp : q_part 9 1 a b c d) {known y : Int} (hk : 0 ≤ known ∧ known + 1 < 65536) (hy : 0 ≤ y) :
    validT name two (lateT s [.int 0, .int 0, .int (known + 1), .bool a, Sl.d b, .bool c, Sl.d d]) ∧
    rateO (lateT s [.int 0, .int 0, .int (known + 1), .bool a, Sl.d b, .bool c, Sl.d d]) known y = rateO s known y := by
  have hpl := rates_plain h
  have hl := h.2.2.1
  have t0 := len0 t
  have m0 : 0 ≤ imin t.len 8 ∧ imin t.len 8 ≤ 8 := by unfold imin; split <;> omega
  generalize hu : lateT s [.int 0, .int 0, .int (known + 1), .bool a, Sl.d b, .bool c, Sl.d d] = u
  have pl : (Sl.part s 1 s.len).len = s.len - 1 := by
    show (((s.len - 1).toNat : Nat) : Int) = _; omega
  have ul : u.len = s.len + 1 := by
    rw [← hu]; unfold lateT; rw [len_app, pl, len_lit]; simp only [List.length_cons, List.length_nil]; omega
  have u0 : rowI u 0 0 0 0 := by
    rw [← hu]
    exact cp_row h.2.2.2.1 rfl
  have u1 : u.int 1 0 = 0 ∧ u.int 1 1 = 0 ∧ u.int 1 2 = known + 1 ∧ okF (u.bool 1 3) (u.sub 1 4) (u.bool 1 5) (u.sub 1 6) := by
    rw [← hu]
    exact ⟨rfl, rfl, rfl, (row_lit hp rfl).1⟩
  have us : ∀ i : Int, 2 ≤ i → i < u.len → rowI u i (rA (i - 1)) 0 (rQ t (i - 1)) ∧ 1990 ≤ rA (i - 1) := fun i i0 i1 => by
    refine ⟨rowI_of (hpl.2.1 (i - 1) (by omega) (by omega)).1 ?_, by unfold rA; rw [if_neg (by omega)]; omega⟩
    rw [← hu]
    unfold lateT
    rw [f_app_ge (by show (2 : Int) ≤ i; exact i0)]
    funext j
    show s.f ((1 : Int).toNat + (i - 2).toNat) j = _
    congr 1
    omega
  have hB : ∀ i : Int, 0 ≤ i → i < u.len → u.int i 1 = 0 := fun i i0 i1 => by
    have : i = 0 ∨ i = 1 ∨ 2 ≤ i := by omega
    rcases this with rfl | rfl | g
    · exact u0.2.1
    · exact u1.2.1
    · exact (us i g i1).1.2.1
  have hA : ∀ i : Int, 2 ≤ i → i < u.len → u.int i 0 = 1988 + i := fun i i0 i1 => by
    rw [(us i i0 i1).1.1]; unfold rA; rw [if_neg (by omega)]; omega
  refine ⟨⟨by rw [h.1]; decide, by omega, fun i i0 i1 hlt => ?_, fun i i0 i1 => ?_⟩, ?_⟩
  · unfold ltR ltK at hlt
    have : i = 1 ∨ i = 2 ∨ 3 ≤ i := by omega
    rcases this with rfl | rfl | g
    · rw [u1.1, u1.2.1, u1.2.2.1, show (1 : Int) - 1 = 0 from rfl, u0.1, u0.2.1, u0.2.2.1] at hlt; omega
    · rw [hA 2 (by omega) i1, show (2 : Int) - 1 = 1 from rfl, u1.1] at hlt; omega
    · rw [hA i (by omega) i1, hA (i - 1) (by omega) (by omega)] at hlt; omega
  · have : i = 0 ∨ i = 1 ∨ 2 ≤ i := by omega
    unfold rightAt rightS
    rcases this with rfl | rfl | g
    · rw [u0.1, u0.2.1, u0.2.2.1]; exact ⟨by omega, by omega, .inr rfl, by omega, u0.2.2.2.1⟩
    · rw [u1.1, u1.2.1, u1.2.2.1]; exact ⟨by omega, by omega, .inr rfl, by omega, u1.2.2.2⟩
    · obtain ⟨⟨r0, r1, r2, r3, _⟩, _⟩ := us i g i1
      rw [hA i g i1, r1, r2]; exact ⟨by omega, by omega, .inr rfl, by omega, r3⟩
  -- the row that tells the rate
  have fo : ∀ i : Int, 0 ≤ i → i < u.len → i ≠ 1 → inForce u known i := fun i i0 i1 hne => ⟨⟨i0, i1⟩, by
      have : i = 0 ∨ 2 ≤ i := by omega
      rcases this with rfl | g
      · rw [u0.2.2.1]; exact hk.1
      · rw [(us i g i1).1.2.2.1]; exact hk.1, fun j j0 j1 e0 e1 => by
      have : i = 0 ∨ 2 ≤ i := by omega
      rcases this with rfl | g
      · by_cases ej : j = 1
        · subst ej; rw [u1.2.2.1]; omega
        · rw [hA j (by omega) j1, u0.1] at e0; omega
      · rw [hA j (by omega) j1, hA i g i1] at e0; omega⟩
  have nf : ¬ inForce u known 1 := fun k => by have := k.2.1; rw [u1.2.2.1] at this; omega
  rw [rates_rate h hk.1 hy]
  have look : ∀ k : Int, 0 ≤ k → k < u.len → k ≠ 1 → u.int k 0 ≤ y → (∀ j : Int, k < j → 2 ≤ j → j < u.len → y < 1988 + j) → candX u y known k := fun k k0 k1 hne hle hj => ⟨⟨fo k k0 k1 hne, hle⟩, fun j hjf hjy => by
    have hj1 : j ≠ 1 := fun e => nf (by rw [← e]; exact hjf)
    have j0 := hjf.1.1
    have j1 := hjf.1.2
    have : j = 0 ∨ 2 ≤ j := by omega
    rcases this with rfl | g
    · rw [u0.1]
      have : k = 0 ∨ 2 ≤ k := by omega
      rcases this with rfl | g'
      · rw [u0.1]; exact Int.le_refl _
      · rw [hA k g' k1]; omega
    · rw [hA j g j1] at hjy ⊢
      have : k = 0 ∨ 2 ≤ k := by omega
      rcases this with rfl | g'
      · have := hj j (by omega) g j1; omega
      · rw [hA k g' k1]
        rcases Int.lt_or_le k j with c | c
        · have := hj j c g j1; omega
        · omega⟩
  unfold rt
  split
  · rename_i c
    refine rate_at hB (look 0 (by omega) (by omega) (by omega) (by rw [u0.1]; exact hy) fun j j0 j2 j1 => ?_) (by rw [u0.2.2.2.2]; exact zero_div 1000)
    rcases c with c | c
    · have : imin t.len 8 = 0 := by unfold imin; split <;> omega
      omega
    · omega
  · rename_i c
    have b : 0 ≤ imin (y - 1990) (imin t.len 8 - 1) ∧ imin (y - 1990) (imin t.len 8 - 1) < imin t.len 8 ∧ imin (y - 1990) (imin t.len 8 - 1) ≤ y - 1990 ∧ (imin (y - 1990) (imin t.len 8 - 1) = y - 1990 ∨ imin (y - 1990) (imin t.len 8 - 1) = imin t.len 8 - 1) := by
      unfold imin; (repeat' split) <;> omega
    generalize imin (y - 1990) (imin t.len 8 - 1) = k at *
    have r := (us (2 + k) (by omega) (by omega)).1
    refine rate_at hB (look (2 + k) (by omega) (by omega) (by omega) (by rw [hA (2 + k) (by omega) (by omega)]; omega) fun j j0 j2 j1 => by omega) (r.2.2.2.2.trans ?_)
    unfold rQ
    rw [if_neg (by omega), show 2 + k - 1 - 1 = k by omega]

theorem nil_rate (known y : Int) : rateO Sl.nil known y = none := by
  unfold rateO
  rw [dif_neg]
  rintro ⟨k, hk⟩
  have h0 := hk.1.1.1.1
  have h1 : k < 0 := hk.1.1.1.2
  omega
theorem nil_int {n due paid known v e : Int} (hn : 0 ≤ n ∧ n ≤ 1099511627776) (hd : 0 ≤ due ∧ due ≤ paid ∧ paid ≤ 2400) (h : q_Interest n due paid (bytes [114]) false Sl.nil known v e) : v = 0 ∧ ((0 < n ∧ due < paid → e = 6) ∧ (¬ (0 < n ∧ due < paid) → e = 0)) := by
  have hv : validT (bytes [114]) false Sl.nil := ⟨by decide, by decide, fun i i0 i1 => by have i1 : i < 0 := i1; omega, fun i i0 i1 => by have i1 : i < 0 := i1; omega⟩
  obtain ⟨h1, h2⟩ := h.2 ⟨hn, hd, hv, rfl⟩
  by_cases c : 0 < n ∧ due < paid
  · have h2 := h2 (by omega) (by omega)
    have e1 : sumS Sl.nil known due 1 = .err 6 := sum_none (n := 0) rfl (nil_rate _ _)
    rw [sum_err e1 (m := (paid - due).toNat) (by omega)] at h2
    exact ⟨h2.1, fun _ => h2.2, fun k => absurd c k⟩
  · have h1 := h1 (by omega)
    exact ⟨h1.1, fun k => absurd k c, fun _ => h1.2⟩

section
variable {a due x known : Int} {t s : Sl} {name : ByteArray} {two : Bool} {b12 b14 b8 b10 : Bool} {s13 s15 s9 s11 : Sl}
theorem sb_core (ra : 0 ≤ a ∧ a ≤ 4294967295) (rt' : Ranged t [some .u8]) (hd : 0 ≤ due % 100 ∧ due % 100 ≤ 99) (hx : 0 ≤ x % 20 ∧ x % 20 ≤ 19) :
    (∀ j : Nat, 0 ≤ rM t (1080 + due % 100) j ∧ rM t (1080 + due % 100) j ≤ 70000) ∧ 2 * (a * sumI (rM t (1080 + due % 100)) (1080 + due % 100 + x % 20 - (1080 + due % 100)).toNat) + 12 * 1000 < 24 * 1000 * 1099511627776 := by
  have sb := sM_bd rt' (due := 1080 + due % 100) (paid := 1080 + due % 100 + x % 20) (by omega) (by omega)
  refine ⟨fun j => by have := rt_bd rt' (1900 + (1080 + due % 100 + j) / 12); exact ⟨this.1, Int.le_trans this.2 (by omega)⟩, ?_⟩
  have : a * sM t (1080 + due % 100) (1080 + due % 100 + x % 20) ≤ 4294967295 * 10200 := Int.mul_le_mul ra.2 sb.2 sb.1 (by omega)
  have : a * sumI (rM t (1080 + due % 100)) (1080 + due % 100 + x % 20 - (1080 + due % 100)).toNat ≤ 4294967295 * 10200 := this
  omega
theorem known5 (ra : 0 ≤ a ∧ a ≤ 4294967295) (rd : 0 ≤ due ∧ due ≤ 255) (rx : 0 ≤ x ∧ x ≤ 255) (rk : 0 ≤ known ∧ known ≤ 65535) (rt' : Ranged t [some .u8]) (h : q_rates t name two s) (hp : q_part 9 1 b12 s13 b14 s15) {v1 : Int}
    (V1 : v1 = evI a (sM t (1080 + due % 100) (1080 + due % 100 + x % 20))) : V_Known_5 known a due x name two (lateT s [.int 0, .int 0, .int (known + 1), .bool b12, Sl.d s13, .bool b14, Sl.d s15]) t v1 := by
  unfold V_Known_5
  simp only [Bool.decide_eq_true]
  rw [Int.tmod_eq_emod_of_nonneg rd.1, Int.tmod_eq_emod_of_nonneg rx.1]
  have hd : 0 ≤ due % 100 ∧ due % 100 ≤ 99 := by omega
  have hx : 0 ≤ x % 20 ∧ x % 20 ≤ 19 := by omega
  obtain ⟨fb, bnd⟩ := sb_core ra rt' hd hx
  have yr : ∀ j : Nat, 0 ≤ 1900 + (1080 + due % 100 + (j : Int)) / 12 := fun j => by omega
  refine ⟨by rw [rng64]; omega, fun hk => ⟨rates_name h, fun v4 _ e4 _ h4 => ?_⟩, fun _ => ⟨trivial, fun b hb => ⟨hb, trivial⟩⟩⟩
  have lr := fun y hy => late_rate h hp (known := known) (y := y) ⟨rk.1, hk⟩ hy
  obtain ⟨E4, V4⟩ := int_eval (D := 1000) (f := rM t (1080 + due % 100)) h4 ⟨⟨ra.1, by omega⟩, ⟨by omega, by omega, by omega⟩, (lr 2000 (by omega)).1, h.2.1⟩ ⟨by omega, by omega⟩ fb (fun j hj => by
    exact (lr (1900 + (1080 + due % 100 + j) / 12) (yr j)).2.trans (rates_rate h rk.1 (yr j))) bnd
  have V4 : v4 = evI a (sM t (1080 + due % 100) (1080 + due % 100 + x % 20)) := V4
  exact ⟨fun k => absurd E4 k, fun _ => ⟨fun k => absurd (V4.trans V1.symm) k, fun _ => ⟨trivial, fun b hb => ⟨hb, trivial⟩⟩⟩⟩
end

theorem Known_ok : V_Known := by
  intro a ra due rd x rx t rt' known rk _
  simp only [Bool.decide_eq_true]
  have ra : 0 ≤ a ∧ a ≤ 4294967295 := ra
  have rd : 0 ≤ due ∧ due ≤ 255 := rd
  have rx : 0 ≤ x ∧ x ≤ 255 := rx
  have rk : 0 ≤ known ∧ known ≤ 65535 := rk
  have t0 := len0 t
  have m0 : 0 ≤ imin t.len 8 ∧ imin t.len 8 ≤ 8 := by unfold imin; split <;> omega
  have td := Int.tmod_eq_emod_of_nonneg (b := 100) rd.1
  have tx := Int.tmod_eq_emod_of_nonneg (b := 20) rx.1
  have hd : 0 ≤ due % 100 ∧ due % 100 ≤ 99 := by omega
  have hx : 0 ≤ x % 20 ∧ x % 20 ≤ 19 := by omega
  rw [td, tx]
  refine ⟨by decide, by show (0:Int) ≤ due % 100 ∧ due % 100 ≤ 255; omega, by rw [rng64]; omega, by decide, by show (0:Int) ≤ x % 20 ∧ x % 20 ≤ 255; omega, by rw [rng64]; omega, trivial, fun name two s rs h => ?_⟩
  have hl := h.2.2.1
  have nm := rates_name h
  refine ⟨by show ((0 : Int) + s.len) * 88 ≤ _; omega, trivial, fun b8 s9 _ b10 s11 _ hq => ⟨by rw [app_nil_left, len_lit]; simp only [List.length_cons, List.length_nil]; omega, ?_⟩⟩
  obtain ⟨J, hJ⟩ : ∃ J : ByteArray → Bool → Sl → Prop, J = fun y w u => y = name ∧ w = two ∧ ∃ b12 s13 b14 s15, q_part 9 1 b12 s13 b14 s15 ∧ u = lateT s [.int 0, .int 0, .int (known + 1), .bool b12, Sl.d s13, .bool b14, Sl.d s15] := ⟨_, rfl⟩
  have pl : (Sl.part s 1 s.len).len = s.len - 1 := by
    show (((s.len - 1).toNat : Nat) : Int) = _; omega
  have k0 : ∀ {b12 b14 : Bool} {s13 s15 : Sl}, q_part 9 1 b12 s13 b14 s15 → V_Known_0 s known b12 s13 b14 s15 J name two := fun hp => by
    unfold V_Known_0
    simp only [Bool.decide_eq_true]
    rw [pl, len_lit, hJ]
    exact ⟨by simp only [List.length_cons, List.length_nil]; omega, rfl, rfl, _, _, _, _, hp, rfl⟩
  have k1 : ∀ {b12 b14 : Bool} {s13 s15 : Sl}, q_part 9 1 b12 s13 b14 s15 → V_Known_1 s known b12 s13 b14 s15 J name two := fun hp => by
    unfold V_Known_1; exact ⟨by omega, by omega, Int.le_refl _, k0 hp⟩
  have k2 : ∀ {b12 b14 : Bool} {s13 s15 : Sl}, q_part 9 1 b12 s13 b14 s15 → V_Known_2 s known b12 s13 b14 s15 J name two := fun hp => by
    unfold V_Known_2; exact ⟨k1 hp, k1 hp⟩
  have k3 : V_Known_3 s known J name two := by
    unfold V_Known_3
    simp only [Bool.decide_eq_true]
    exact ⟨trivial, fun b12 s13 _ b14 s15 _ hp => k0 hp⟩
  have k4 : ∀ {b12 b14 : Bool} {s13 s15 : Sl}, q_part 9 1 b12 s13 b14 s15 → V_Known_4 s known b12 s13 b14 s15 J name two := fun hp => by
    unfold V_Known_4; exact fun _ _ _ _ _ => k0 hp
  have i1 : (1 : Int) ≤ s.len := by omega
  refine ⟨J, ⟨by omega, by omega, by rw [rng64]; omega, fun _ _ _ _ _ => ⟨⟨trivial, fun b12 s13 _ b14 s15 _ hp => k2 hp⟩, by omega, i1, Int.le_refl _, k3⟩, ⟨trivial, fun b12 s13 _ b14 s15 _ hp => ⟨fun _ _ _ _ _ => k2 hp, by omega, i1, Int.le_refl _, k4 hp⟩⟩, by omega, i1, Int.le_refl _, fun _ _ _ _ _ => k3, trivial, fun b12 s13 _ b14 s15 _ hp => k4 hp⟩, ?_⟩
  rw [hJ]
  rintro y w u ru ⟨rfl, rfl, b12, s13, b14, s15, hp, rfl⟩
  have yr : ∀ j : Nat, 0 ≤ 1900 + (1080 + due % 100 + (j : Int)) / 12 := fun j => by omega
  obtain ⟨fb, bnd⟩ := sb_core (a := a) ra rt' hd hx
  refine ⟨nm, fun v1 _ e1 _ h1 => ⟨nm, fun v2 _ e2 _ h2 => ⟨by show okN _; unfold okN; decide, fun v3 _ e3 _ h3 => ?_⟩⟩⟩
  rw [app_nil_left] at h2
  obtain ⟨E1, V1⟩ := rates_int rt' h rk.1 ⟨ra.1, by omega⟩ ⟨by omega, by omega, by omega⟩ (by omega) h1
  have mr := fun y hy => more_rate h hq (known := known) (y := y) rk.1 hy
  have uv := plain_valid (name := y) (two := w) (mr 2000 (by omega)).1 (by rw [h.1]; decide) h.2.1
  obtain ⟨E2, V2⟩ := int_eval (D := 1000) (f := rM t (1080 + due % 100)) h2 ⟨⟨ra.1, by omega⟩, ⟨by omega, by omega, by omega⟩, uv⟩ ⟨by omega, by omega⟩ fb (fun j hj => by
    rw [(mr (1900 + (1080 + due % 100 + j) / 12) (by omega)).2]; exact rates_rate h rk.1 (yr j)) bnd
  have V2 : v2 = evI a (sM t (1080 + due % 100) (1080 + due % 100 + x % 20)) := V2
  obtain ⟨V3, E3, E3'⟩ := nil_int ⟨ra.1, by omega⟩ ⟨by omega, by omega, by omega⟩ h3
  have two' : V_Known_6 e3 a due x t known y w (lateT s [.int 0, .int 0, .int (known + 1), .bool b12, Sl.d s13, .bool b14, Sl.d s15]) v1 := by
    unfold V_Known_6
    have last := known5 ra rd rx rk rt' h hp V1
    refine ⟨fun k6 => ⟨fun k0 => ?_, fun _ => last⟩, fun _ => last⟩
    by_cases c : 0 < a ∧ 1080 + due % 100 < 1080 + due % 100 + x % 20
    · exact absurd (E3 c) k6
    · exact absurd (E3' c) k0
  refine ⟨fun k => absurd E1 k, fun _ => ⟨fun k => absurd E2 k, fun _ => ⟨fun k => absurd (V1.trans V2.symm) k, fun _ => ⟨fun k => absurd V3 k, fun _ => ⟨fun ha => ⟨fun k => absurd ?_ k, fun _ => two'⟩, fun ha => ⟨fun k => absurd ?_ k, fun _ => two'⟩⟩⟩⟩⟩⟩
  · constructor
    · intro k6
      by_cases c : 0 < a ∧ 1080 + due % 100 < 1080 + due % 100 + x % 20
      · exact c.2
      · have := E3' c; omega
    · intro k; exact E3 ⟨ha, k⟩
  · constructor
    · intro k6
      have := E3' (fun c => ha c.1); omega
    · intro k; exact k.elim

end Go.Sx.N
