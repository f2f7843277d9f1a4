/-
  LedgerBefore's condition. Conditions: none.
-/
import Derived.Test.YtlhjljekeobplaaLedP7
import Derived.Test.YtlhjljekeobplaaLedVBefore
namespace Go.Sx.L

theorem sumTo_add {f g h : Int → Int} : ∀ {n : Nat}, (∀ i : Int, 0 ≤ i → i < n → h i = f i + g i) → sumTo h n = sumTo f n + sumTo g n
  | 0, _ => rfl
  | n + 1, e => by
    simp only [sumTo]
    rw [sumTo_add (fun i h0 h1 => e i h0 (by omega)), e n (by omega) (by omega)]
    omega

theorem sumTo_zero {f : Int → Int} {n : Nat} (h : ∀ i : Int, 0 ≤ i → i < n → f i = 0) : sumTo f n = 0 := by
  induction n with
  | zero => rfl
  | succ n ih =>
    simp only [sumTo]
    rw [ih (fun i h0 h1 => h i h0 (by omega)), h n (by omega) (by omega)]
    rfl

theorem bal_low {st : Int} {d p : Sl} (hv : validS st d p) {b : Int} (hb : b ≤ st) : balS st d p b = 0 := by
  have hd0 := len0 d
  have : lastS st d.len b = st := by unfold lastS imin imax; split <;> (try split) <;> omega
  unfold balS
  rw [this, Int.sub_self]
  have h2 : sumTo (fun i => if p.int i 1 < b then prin p i else 0) p.n = 0 := sumTo_zero fun i h0 h1 => by
    have := (hv.2.2.2 i h0 h1).1.1
    rw [if_neg (by omega)]
  rw [h2]
  rfl

theorem bal_high {st : Int} {d p : Sl} (hv : validS st d p) {b : Int} (hb : st + d.len ≤ b) : balS st d p b = balS st d p (st + d.len) := by
  have hd0 := len0 d
  have h1 : lastS st d.len b = st + d.len := by unfold lastS imin imax; split <;> (try split) <;> omega
  have h2 : lastS st d.len (st + d.len) = st + d.len := by unfold lastS imin imax; split <;> (try split) <;> omega
  unfold balS
  rw [h1, h2]
  congr 1
  refine sumTo_congr fun i h0 h1 => ?_
  have := (hv.2.2.2 i h0 h1).1.1
  rw [if_pos (by omega), if_pos (by omega)]

theorem bal_step {st : Int} {d p : Sl} (_hv : validS st d p) {i : Int} (h0 : 0 ≤ i) (h1 : i < d.len) : balS st d p (st + i + 1) = balS st d p (st + i) + (d.int i 0 - postedS p (st + i)) := by
  have l1 : lastS st d.len (st + i) = st + i := by unfold lastS imin imax; split <;> (try split) <;> omega
  have l2 : lastS st d.len (st + i + 1) = st + i + 1 := by unfold lastS imin imax; split <;> (try split) <;> omega
  unfold balS
  rw [l1, l2]
  have e1 : (st + i + 1 - st).toNat = (i + 1).toNat := by congr 1; omega
  have e2 : (st + i - st).toNat = i.toNat := by congr 1; omega
  rw [e1, e2, sumTo_succ _ h0]
  have e3 : sumTo (fun k => if p.int k 1 < st + i + 1 then prin p k else 0) p.n = sumTo (fun k => if p.int k 1 < st + i then prin p k else 0) p.n + sumTo (fun k => if p.int k 1 = st + i then prin p k else 0) p.n := sumTo_add fun k _ _ => by
    show (if p.int k 1 < st + i + 1 then prin p k else 0) = (if p.int k 1 < st + i then prin p k else 0) + (if p.int k 1 = st + i then prin p k else 0)
    by_cases a : p.int k 1 < st + i
    · rw [if_pos (by omega), if_pos a, if_neg (by omega)]; omega
    · by_cases b : p.int k 1 = st + i
      · rw [if_pos (by omega), if_neg a, if_pos b]; omega
      · rw [if_neg (by omega), if_neg a, if_neg b]; rfl
  rw [e3]
  unfold postedS
  omega

theorem bal_bound {st : Int} {d p : Sl} (hv : validS st d p) (b : Int) : -(1099511627776 * 5200) ≤ balS st d p b ∧ balS st d p b ≤ 1099511627776 * 5200 := by
  have hd0 := len0 d
  have hbs := hv.1
  have hl : st ≤ lastS st d.len b ∧ lastS st d.len b ≤ st + d.len := by unfold lastS imin imax; split <;> (try split) <;> omega
  have hp : (p.n : Int) ≤ 4000 := hv.2.2.1
  have b1 := sumTo_bound (f := fun i => d.int i 0) (n := (lastS st d.len b - st).toNat) (fun i h0 h1 => by
    have := hv.2.1 i h0 (by omega)
    show -1099511627776 ≤ d.int i 0 ∧ d.int i 0 ≤ 1099511627776
    omega)
  have b2 := sumTo_bound (f := fun i => if p.int i 1 < b then prin p i else 0) (n := p.n) (fun i h0 h1 => by
    have := prin_bound (hv.2.2.2 i h0 h1)
    show -1099511627776 ≤ (if p.int i 1 < b then prin p i else 0) ∧ (if p.int i 1 < b then prin p i else 0) ≤ 1099511627776
    split <;> omega)
  unfold balS
  omega

theorem Before_ok : V_Before := by
  intro st _ d p x _ _
  have aw : p_awake ∧ ∀ b5 : Bool, q_awake (decide (b5 = true)) → q_Before st d p x (decide (b5 = true)) ∧ True := ⟨trivial, fun b hb => ⟨hb, trivial⟩⟩
  refine ⟨trivial, fun u hu => ⟨fun _ => aw, fun hn _ => ?_⟩⟩
  obtain ⟨hu1, hu2, hv⟩ := hu.1 (by simpa using hn)
  have hbs := hv.1
  have hd0 := len0 d
  refine ⟨fun last i => 0 ≤ i ∧ i ≤ d.len ∧ last = balS st d p (st + i), fun _ i => (d.len - i).toNat, ⟨Int.le_refl _, hd0, by rw [Int.add_zero, bal_low hv (Int.le_refl _)]⟩, fun last _ i _ hj => ?_⟩
  obtain ⟨h0, h1, hl⟩ := hj
  refine ⟨fun hlt => ⟨by rw [rng64]; omega, trivial, fun a _ ea _ hqa => ⟨by rw [rng64]; omega, trivial, fun o _ eo _ hqo => ⟨by rw [rng64]; omega, by rw [rng64]; omega, trivial, fun b _ eb _ hqb => ?_⟩⟩⟩, fun hge _ => ⟨by rw [rng64]; omega, trivial, fun a _ ea _ hqa => ⟨trivial, fun b _ eb _ hqb => ?_⟩⟩⟩
  · obtain ⟨ha, hea⟩ := hqa.2 hv
    obtain ⟨hb, heb⟩ := hqb.2 hv
    obtain ⟨ho, heo⟩ := (hqo.2 hv).2 ⟨by omega, by omega⟩
    have ei : st + i - st = i := by omega
    rw [ei] at ho
    have hst := bal_step hv h0 hlt
    have b1 := bal_bound hv (st + i)
    have b2 := bal_bound hv (st + i + 1)
    have z : ∀ y : Int, y = 0 → Rng .i64 y := fun y h => by rw [h, rng64]; omega
    refine ⟨z _ (by omega), z _ (by omega), fun h => absurd (by omega) h, fun _ => ⟨fun h => absurd (ha.trans hl.symm) h, fun _ => ⟨by rw [rng64]; omega, fun h => absurd (by omega) h, fun _ => ⟨by rw [rng64]; omega, ⟨by omega, by omega, ?_⟩, ?_⟩⟩⟩⟩
    · rw [hb]; congr 1; omega
    · show (d.len - (i + 1)).toNat < (d.len - i).toNat; omega
  · obtain ⟨ha, hea⟩ := hqa.2 hv
    obtain ⟨hb, heb⟩ := hqb.2 hv
    have ha' : a = last := by
      rw [ha, hl, bal_high hv (by unfold imax; split <;> omega)]
      congr 1; omega
    have hb' : b = 0 := by rw [hb]; exact bal_low hv (by unfold imin; split <;> omega)
    exact ⟨fun _ => ⟨fun _ => ⟨fun _ => ⟨fun _ => aw, fun h => absurd hb' h⟩, fun h => absurd ha' h⟩, fun h => absurd heb h⟩, fun h => absurd hea h⟩

end Go.Sx.L
