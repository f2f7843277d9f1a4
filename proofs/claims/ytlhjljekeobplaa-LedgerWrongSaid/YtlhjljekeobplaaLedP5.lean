/-
  The condition of Learn. Conditions: none.
-/
import Derived.Test.YtlhjljekeobplaaLedP4
namespace Go.Sx.L

theorem len_rep0 (l : List D) : (Sl.rep 0 l).len = 0 := rfl
theorem int_lit0 (x : Int) : (Sl.lit [[.int x]]).int 0 0 = x := rfl

theorem wrap64 {x : Int} (h : -9223372036854775808 ≤ x) (h' : x ≤ 9223372036854775807) : IntKind.wrap .i64 x = x := by rw [IntKind.wrap_i64]; omega

theorem Learn_ok : V_Learn := by
  intro st _ d p m hrm due _ _ hsd
  have hd0 := len0 d
  refine ⟨trivial, fun b hb => ⟨fun hn => ⟨?_, trivial⟩, fun hn => ?_⟩⟩
  · have : ¬ validS st d p := fun hv => hn (by simpa using hb.2 hv)
    exact ⟨fun _ => ⟨rfl, rfl, rfl, rfl⟩, fun hv => absurd hv.1 this⟩
  have hv : validS st d p := hb.1 (by simpa using hn)
  have hbs := hv.1
  have hp : p.len ≤ 4000 := hv.2.2.1
  have bad : ¬ (0 ≤ due ∧ due ≤ 1099511627776 ∧ st ≤ m ∧ m ≤ st + d.len) → q_Learn st d p m due 0 Sl.nil Sl.nil 2 ∧ True := fun h => ⟨⟨fun _ => ⟨rfl, rfl, rfl, rfl⟩, fun hv => absurd hv.2 h⟩, trivial⟩
  refine ⟨fun h => bad (by omega), fun h1 => ⟨fun h => bad (by omega), fun h2 => ⟨fun h => bad (by omega), fun h3 => ?_⟩⟩⟩
  rw [rng64] at hrm
  have w1 : IntKind.wrap .i64 (st + d.len) = st + d.len := wrap64 (by omega) (by omega)
  have w2 : IntKind.wrap .i64 (d.len + 1) = d.len + 1 := wrap64 (by omega) (by omega)
  have w3 : IntKind.wrap .i64 (m - st) = m - st := wrap64 (by omega) (by omega)
  simp only [w1, w2, w3]
  refine ⟨fun h => bad (by omega), fun h4 => ?_⟩
  have hok : learnOk st d p m due := ⟨hv, by omega, by omega, by omega, by omega⟩
  have many : learnMany st d m → q_Learn st d p m due 0 Sl.nil Sl.nil 5 ∧ True := fun h => ⟨⟨fun hn => absurd hok hn, fun _ => ⟨fun _ => ⟨rfl, rfl, rfl, rfl⟩, fun hn => absurd h hn⟩⟩, trivial⟩
  have good : ¬ learnMany st d m → ∀ d' p' : Sl, learnt st d p m due st d' p' → q_Learn st d p m due st d' p' 0 := fun h d' p' hl => ⟨fun hn => absurd hok hn, fun _ => ⟨fun hm => absurd hm h, fun _ => ⟨rfl, hl⟩⟩⟩
  have hlenA : (Sl.app (Sl.rep 0 [.int 0]) d).len = d.len := by rw [len_app, len_rep0]; omega
  have hintA : ∀ i : Int, 0 ≤ i → (Sl.app (Sl.rep 0 [.int 0]) d).int i 0 = d.int i 0 := fun i h => by
    rw [int_app_ge (by rw [len_rep0]; exact h), len_rep0, Int.sub_zero]
  have hlenB : (Sl.app (Sl.app (Sl.rep 0 [.int 0]) d) (Sl.lit [[.int due]])).len = d.len + 1 := by rw [len_app, hlenA, len_lit]; rfl
  have hintB : ∀ i : Int, 0 ≤ i → i < d.len → (Sl.app (Sl.app (Sl.rep 0 [.int 0]) d) (Sl.lit [[.int due]])).int i 0 = d.int i 0 := fun i h g => by
    rw [int_app_lt h (by rw [hlenA]; exact g), hintA i h]
  have tail : ∀ d' : Sl, d'.len = imax d.len (m - st + 1) → (∀ i : Int, 0 ≤ i → i < d'.len → d'.int i 0 = if i = m - st then due else d.int i 0) → ¬ learnMany st d m →
      ∀ b6 : Bool, ((b6 = true → p.len ≤ 0 → q_Learn st d p m due st d' Sl.nil 0 ∧ True) ∧ (¬ (b6 = true) → ((Sl.len (Sl.lit []) + p.len) * 32 ≤ 140737488355328) ∧ q_Learn st d p m due st d' (Sl.app (Sl.lit []) p) 0 ∧ True)) := fun d' g1 g2 g3 b6 =>
    ⟨fun _ hz => ⟨good g3 d' _ ⟨rfl, eqPosts_nil hz, g1, g2⟩, trivial⟩, fun _ => ⟨by rw [len_lit]; simp; omega, good g3 d' _ ⟨rfl, eqPosts_nilapp p, g1, g2⟩, trivial⟩⟩
  have tailB : m = st + d.len → ¬ learnMany st d m → _ := fun e => tail (Sl.upd (Sl.app (Sl.app (Sl.rep 0 [.int 0]) d) (Sl.lit [[.int due]])) (m - st) 0 [.int due])
    (by rw [len_upd, hlenB]; unfold imax; split <;> omega) (fun i g0 g1 => by
      rw [len_upd, hlenB] at g1
      rw [int_upd (by omega) g0]
      by_cases ei : i = m - st
      · rw [if_pos ei, if_pos ei]
      · rw [if_neg ei, if_neg ei, hintB i g0 (by omega)])
  have tailA : ¬ m = st + d.len → ¬ learnMany st d m → _ := fun e => tail (Sl.upd (Sl.app (Sl.rep 0 [.int 0]) d) (m - st) 0 [.int due])
    (by rw [len_upd, hlenA]; unfold imax; split <;> omega) (fun i g0 g1 => by
      rw [int_upd (by omega) g0, hintA i g0])
  refine ⟨fun e _ => ⟨fun g => many ⟨e, .inl g⟩, fun g1 => ⟨fun g => many ⟨e, .inr g⟩, fun g2 _ => ?_⟩⟩, fun e _ => ?_⟩
  · have hnm : ¬ learnMany st d m := fun hm => by rcases hm.2 with h | h <;> omega
    refine ⟨Int.le_refl _, by omega, by omega, by rw [len_rep0]; omega, fun e => ⟨by rw [hlenA, len_lit]; simp; omega, by omega, by rw [hlenB]; omega, tailB e hnm⟩, fun e' => absurd e e'⟩
  · have hnm : ¬ learnMany st d m := fun hm => e hm.1
    refine ⟨Int.le_refl _, by omega, by omega, by rw [len_rep0]; omega, fun e' => absurd e' e, fun e => ⟨by omega, by rw [hlenA]; omega, tailA e hnm⟩⟩

end Go.Sx.L
