/-
  What is taken over from the texts of the tables. Conditions: none.
-/
import Derived.Test.YtjljnieafhdkgaaGreatDoorIdxTa
import Derived.Test.YtjljnieafhdkgaaGreatDoorIdxTk
set_option linter.unusedVariables false
set_option linter.unusedSimpArgs false
namespace Go.Sx.N

/-! ### Rows -/
/-- The row that is appended. -/
def cp (s : Sl) (i : Int) : List D := [.int (s.int i 0), .int (s.int i 1), .int (s.int i 2), .bool (decide (s.bool i 3 = true)), Sl.d (s.sub i 4), .bool (decide (s.bool i 5 = true)), Sl.d (s.sub i 6)]

theorem SameF.refl (a : Bool) (b : Sl) (c : Bool) (d : Sl) : SameF a b c d a b c d := ⟨⟨rfl, SameI.refl b⟩, rfl, SameI.refl d⟩
theorem SameF.symm {a c a' c' : Bool} {b d b' d' : Sl} (h : SameF a b c d a' b' c' d') : SameF a' b' c' d' a b c d := ⟨⟨h.1.1.symm, h.1.2.symm⟩, h.2.1.symm, h.2.2.symm⟩
theorem SameF.trans {a c a' c' a'' c'' : Bool} {b d b' d' b'' d'' : Sl} (h : SameF a b c d a' b' c' d') (g : SameF a' b' c' d' a'' b'' c'' d'') : SameF a b c d a'' b'' c'' d'' :=
  ⟨⟨h.1.1.trans g.1.1, h.1.2.trans g.1.2⟩, h.2.1.trans g.2.1, h.2.2.trans g.2.2⟩

theorem rowEq.refl (s : Sl) (i : Int) : rowEq s i s i := ⟨rfl, rfl, rfl, SameF.refl _ _ _ _⟩
theorem rowEq.symm {s t : Sl} {i k : Int} (h : rowEq s i t k) : rowEq t k s i := ⟨h.1.symm, h.2.1.symm, h.2.2.1.symm, h.2.2.2.symm⟩
theorem rowEq.trans {s t u : Sl} {i k j : Int} (h : rowEq s i t k) (g : rowEq t k u j) : rowEq s i u j := ⟨h.1.trans g.1, h.2.1.trans g.2.1, h.2.2.1.trans g.2.2.1, h.2.2.2.trans g.2.2.2⟩

/-- A row is what its cells are. -/
theorem rowEq_cells {s t : Sl} {i k : Int} (h : s.f i.toNat = t.f k.toNat) : rowEq s i t k := by
  unfold rowEq rowF Sl.int Sl.bool Sl.sub
  rw [h]
  exact ⟨rfl, rfl, rfl, SameF.refl _ _ _ _⟩
theorem f_app_lt {a b : Sl} {i : Int} (h : 0 ≤ i) (h' : i < a.len) : (Sl.app a b).f i.toNat = a.f i.toNat := by
  have : i.toNat < a.n := by unfold Sl.len at h'; omega
  funext j
  show (if i.toNat < a.n then a.f i.toNat j else b.f (i.toNat - a.n) j) = _
  rw [if_pos this]
theorem f_part0 {s : Sl} {m i : Int} : (Sl.part s 0 m).f i.toNat = s.f i.toNat := by
  funext j
  show s.f ((0 : Int).toNat + i.toNat) j = _
  congr 1
  simp
theorem app_new {a : Sl} {l : List D} {i : Int} (h : i = a.len) : (Sl.app a (Sl.lit [l])).f i.toNat = fun j => l.getD j (.int 0) := by
  subst h
  have : ¬ (a.len).toNat < a.n := by unfold Sl.len; omega
  funext j
  show (if (a.len).toNat < a.n then a.f (a.len).toNat j else (Sl.lit [l]).f ((a.len).toNat - a.n) j) = _
  rw [if_neg this]
  have e : (a.len).toNat - a.n = 0 := by unfold Sl.len; omega
  rw [e]
  rfl
theorem rowEq_new {a s : Sl} {k m : Int} (h : m = a.len) : rowEq (Sl.app a (Sl.lit [cp s k])) m s k := by
  have e := app_new (l := cp s k) h
  unfold rowEq rowF Sl.int Sl.bool Sl.sub
  rw [e]
  refine ⟨rfl, rfl, rfl, ⟨?_, SameI.refl _⟩, ?_, SameI.refl _⟩
  · show decide (s.bool k 3 = true) = s.bool k 3
    simp
  · show decide (s.bool k 5 = true) = s.bool k 5
    simp

/-! ### Sorted -/
theorem not_lt_trans {a b k a' b' k' a'' b'' k'' : Int} (h : ¬ ltK a b k a' b' k') (g : ¬ ltK a' b' k' a'' b'' k'') : ¬ ltK a b k a'' b'' k'' := by
  unfold ltK at *
  omega
theorem sorted_le {s : Sl} (h : sortedT s) {i : Int} (h0 : 0 ≤ i) : ∀ (n : Nat), i + n < s.len → ¬ ltR s (i + n) s i
  | 0, _ => by rw [show i + ((0 : Nat) : Int) = i by omega]; unfold ltR ltK; omega
  | n + 1, hn => by
    have ih := sorted_le h h0 n (by omega)
    have st := h (i + (n + 1 : Nat)) (by omega) hn
    rw [show i + ((n + 1 : Nat) : Int) - 1 = i + n by omega] at st
    exact not_lt_trans st ih
theorem sorted_lt {s : Sl} (h : sortedT s) {i j : Int} (h0 : 0 ≤ i) (hij : i ≤ j) (hj : j < s.len) : ¬ ltR s j s i := by
  have := sorted_le h h0 (j - i).toNat (by omega)
  rwa [show i + ((j - i).toNat : Int) = j by omega] at this

/-! ### The rows in force, among the first ones -/
def inTo (s : Sl) (known n k : Int) : Prop := (0 ≤ k ∧ k < n) ∧ s.int k 2 ≤ known ∧ ∀ j : Int, k < j → j < n → s.int j 0 = s.int k 0 → s.int j 1 = s.int k 1 → known < s.int j 2
def fTo (s : Sl) (known n : Int) (t : Sl) : Prop :=
  ∃ g : Int → Int, (∀ i : Int, 0 ≤ i → i < t.len → inTo s known n (g i) ∧ rowEq t i s (g i)) ∧ (∀ i j : Int, 0 ≤ i → i < j → j < t.len → g i < g j) ∧ (∀ k : Int, inTo s known n k → ∃ i : Int, 0 ≤ i ∧ i < t.len ∧ g i = k)

theorem fTo_nil {s : Sl} {known : Int} : fTo s known 0 Sl.nil :=
  ⟨fun _ => 0, fun i h0 h1 => by rw [len_nil] at h1; omega, fun i j h0 h1 h2 => by rw [len_nil] at h2; omega, fun k h => by have := h.1; omega⟩

theorem fTo_skip {s t : Sl} {known n : Int} (hk : known < s.int n 2) (h : fTo s known n t) : fTo s known (n + 1) t := by
  have e : ∀ k, inTo s known (n + 1) k ↔ inTo s known n k := fun k => by
    constructor
    · intro g
      refine ⟨⟨g.1.1, ?_⟩, g.2.1, fun j h1 h2 => g.2.2 j h1 (by omega)⟩
      rcases Int.lt_or_le k n with c | c
      · exact c
      · have e : k = n := by have := g.1; omega
        have := g.2.1
        rw [e] at this; omega
    · intro g
      refine ⟨⟨g.1.1, by have := g.1; omega⟩, g.2.1, fun j h1 h2 e0 e1 => ?_⟩
      rcases Int.lt_or_le j n with c | c
      · exact g.2.2 j h1 c e0 e1
      · have e : j = n := by omega
        rw [e]; exact hk
  obtain ⟨g, h1, h2, h3⟩ := h
  exact ⟨g, fun i i0 i1 => ⟨(e _).2 (h1 i i0 i1).1, (h1 i i0 i1).2⟩, h2, fun k hk => h3 k ((e k).1 hk)⟩

theorem fTo_core {s t u : Sl} {known n m : Int} {g : Int → Int} (hn : 0 ≤ n) (hk : s.int n 2 ≤ known)
    (h1 : ∀ i : Int, 0 ≤ i → i < t.len → inTo s known n (g i) ∧ rowEq t i s (g i)) (h2 : ∀ i j : Int, 0 ≤ i → i < j → j < t.len → g i < g j) (h3 : ∀ k : Int, inTo s known n k → ∃ i : Int, 0 ≤ i ∧ i < t.len ∧ g i = k)
    (hm0 : 0 ≤ m) (hm : m ≤ t.len) (hu : u.len = m) (hrow : ∀ i : Int, 0 ≤ i → i < m → u.f i.toNat = t.f i.toNat)
    (hne : ∀ i : Int, 0 ≤ i → i < m → ¬ (s.int (g i) 0 = s.int n 0 ∧ s.int (g i) 1 = s.int n 1))
    (hcov : ∀ i : Int, m ≤ i → i < t.len → s.int (g i) 0 = s.int n 0 ∧ s.int (g i) 1 = s.int n 1) : fTo s known (n + 1) (Sl.app u (Sl.lit [cp s n])) := by
  have hl : (Sl.app u (Sl.lit [cp s n])).len = m + 1 := by rw [len_app1, hu]
  refine ⟨fun x => if x < m then g x else n, fun i i0 i1 => ?_, fun i j i0 ij j1 => ?_, fun k k1 => ?_⟩
  · rw [hl] at i1
    by_cases c : i < m
    · simp only [if_pos c]
      obtain ⟨a, b⟩ := h1 i i0 (by omega)
      refine ⟨⟨⟨a.1.1, by have := a.1; omega⟩, a.2.1, fun j j1 j2 e0 e1 => ?_⟩, ?_⟩
      · rcases Int.lt_or_le j n with d | d
        · exact a.2.2 j j1 d e0 e1
        · have e : j = n := by omega
          rw [e] at e0 e1
          exact absurd ⟨e0.symm, e1.symm⟩ (hne i i0 c)
      · refine rowEq.trans (rowEq_cells (t := t) (k := i) ?_) b
        rw [f_app_lt i0 (by omega)]
        exact hrow i i0 c
    · have e : i = m := by omega
      simp only [if_neg c]
      exact ⟨⟨⟨hn, by omega⟩, hk, fun j j1 j2 => by omega⟩, rowEq_new (by omega)⟩
  · rw [hl] at j1
    by_cases c : j < m
    · simp only [if_pos c, if_pos (show i < m by omega)]
      exact h2 i j i0 ij (by omega)
    · simp only [if_neg c, if_pos (show i < m by omega)]
      exact (h1 i i0 (by omega)).1.1.2
  · rw [hl]
    by_cases c : k = n
    · exact ⟨m, hm0, by omega, by simp only [if_neg (show ¬ m < m by omega)]; exact c.symm⟩
    · have k0 : inTo s known n k := ⟨⟨k1.1.1, by have := k1.1; omega⟩, k1.2.1, fun j j1 j2 => k1.2.2 j j1 (by omega)⟩
      obtain ⟨i, i0, i1, e⟩ := h3 k k0
      by_cases d : i < m
      · exact ⟨i, i0, by omega, by simp only [if_pos d]; exact e⟩
      · have hh := hcov i (by omega) i1
        rw [e] at hh
        have := k1.2.2 n (by have := k1.1; omega) (by omega) hh.1.symm hh.2.symm
        omega

theorem fTo_app {s t : Sl} {known n : Int} (hs : sortedT s) (hn : 0 ≤ n) (hn1 : n < s.len) (hk : s.int n 2 ≤ known) (h : fTo s known n t)
    (hd : 0 < t.len → ¬ (t.int (t.len - 1) 0 = s.int n 0 ∧ t.int (t.len - 1) 1 = s.int n 1)) : fTo s known (n + 1) (Sl.app t (Sl.lit [cp s n])) := by
  obtain ⟨g, h1, h2, h3⟩ := h
  refine fTo_core hn hk h1 h2 h3 (len0 t) (Int.le_refl _) rfl (fun _ _ _ => rfl) (fun i i0 i1 e => ?_) (fun i i0 i1 => by omega)
  have a := h1 i i0 i1
  have b := h1 (t.len - 1) (by omega) (by omega)
  refine hd (by omega) ?_
  rw [b.2.1, b.2.2.1]
  have g1 : g i ≤ g (t.len - 1) := by
    by_cases c : i = t.len - 1
    · rw [c]; exact Int.le_refl _
    · have := h2 i (t.len - 1) i0 (by omega) (by omega); omega
  have l1 := sorted_lt hs a.1.1.1 g1 (by have := b.1.1; omega)
  have l2 := sorted_lt hs b.1.1.1 (show g (t.len - 1) ≤ n by have := b.1.1; omega) hn1
  unfold ltR ltK at l1 l2
  omega

theorem fTo_repl {s t : Sl} {known n : Int} (hs : sortedT s) (hn : 0 ≤ n) (hk : s.int n 2 ≤ known) (h : fTo s known n t)
    (hp : 0 < t.len) (hd : t.int (t.len - 1) 0 = s.int n 0 ∧ t.int (t.len - 1) 1 = s.int n 1) : fTo s known (n + 1) (Sl.app (Sl.part t 0 (t.len - 1)) (Sl.lit [cp s n])) := by
  obtain ⟨g, h1, h2, h3⟩ := h
  have b := h1 (t.len - 1) (by omega) (by omega)
  have ek : s.int (g (t.len - 1)) 0 = s.int n 0 ∧ s.int (g (t.len - 1)) 1 = s.int n 1 := by rw [← b.2.1, ← b.2.2.1]; exact hd
  refine fTo_core (m := t.len - 1) hn hk h1 h2 h3 (by omega) (by omega) (by rw [len_part (by omega)]; omega) (fun i _ _ => f_part0) (fun i i0 i1 e => ?_) (fun i i0 i1 => ?_)
  · have a := h1 i i0 (by omega)
    have l := h2 i (t.len - 1) i0 (by omega) (by omega)
    have := a.1.2.2 (g (t.len - 1)) l b.1.1.2 (by rw [ek.1, e.1]) (by rw [ek.2, e.2])
    have := b.1.2.1
    omega
  · have : i = t.len - 1 := by omega
    rw [this]; exact ek

theorem fTo_len {s t : Sl} {known n : Int} (hn : 0 ≤ n) (h : fTo s known n t) : t.len ≤ n := by
  obtain ⟨g, h1, h2, _⟩ := h
  have step : ∀ i : Nat, (i : Int) < t.len → (i : Int) ≤ g i := by
    intro i
    induction i with
    | zero => intro hi; have := (h1 0 (by omega) hi).1.1.1; simpa using this
    | succ i ih =>
      intro hi
      have a := ih (by omega)
      have := h2 i (i + 1 : Nat) (by omega) (by omega) hi
      omega
  by_cases c : t.len = 0
  · omega
  · have t0 := len0 t
    have a := step (t.len - 1).toNat (by omega)
    have b := (h1 (t.len - 1) (by omega) (by omega)).1.1.2
    rw [show (((t.len - 1).toNat : Nat) : Int) = t.len - 1 by omega] at a
    omega

theorem forced_ok : V_forced := by
  intro y two s rs known rk hp sm
  obtain ⟨hs, hl⟩ := hp
  have s0 := len0 s
  have e1 : ∀ l : List D, (Sl.lit [l]).len = 1 := fun l => rfl
  refine ⟨fun t i => (0 ≤ i ∧ i ≤ s.len) ∧ fTo s known i t, fun _ i => (s.len - i).toNat, ⟨⟨Int.le_refl _, s0⟩, fTo_nil⟩, fun t rt i ri hJ => ?_⟩
  obtain ⟨⟨i0, i1⟩, hf⟩ := hJ
  have t0 := len0 t
  have tl := fTo_len i0 hf
  have ms : i < s.len → (s.len - (i + 1)).toNat < (s.len - i).toNat := fun h => by omega
  refine ⟨fun hi => ⟨i0, hi, fun _ _ _ _ _ => ?_⟩, fun hi => ⟨?_, trivial⟩⟩
  · have nx : Rng .i64 (i + 1) := by rw [rng64]; omega
    refine ⟨fun hk => ⟨nx, ⟨⟨by omega, by omega⟩, fTo_skip hk hf⟩, ms hi⟩, fun hk st => ?_⟩
    have hk : s.int i 2 ≤ known := by omega
    have app : (0 < t.len → ¬ (t.int (t.len - 1) 0 = s.int i 0 ∧ t.int (t.len - 1) 1 = s.int i 1)) → (((t.len + (Sl.lit [cp s i]).len) * 88) ≤ 140737488355328) ∧ Rng .i64 (i + 1) ∧
        ((0 ≤ i + 1 ∧ i + 1 ≤ s.len) ∧ fTo s known (i + 1) (Sl.app t (Sl.lit [cp s i]))) ∧ (s.len - (i + 1)).toNat < (s.len - i).toNat := fun hd =>
      ⟨by rw [e1]; omega, nx, ⟨⟨by omega, by omega⟩, fTo_app hs i0 hi hk hf hd⟩, ms hi⟩
    refine ⟨fun hp => ⟨by rw [rng64]; omega, by omega, by omega, fun _ _ _ _ _ => ⟨fun hd => ⟨by rw [rng64]; omega, by omega, by omega, by omega, ?_, nx, ⟨⟨by omega, by omega⟩, fTo_repl hs i0 hk hf hp hd⟩, ms hi⟩, fun hd => app fun _ => hd⟩⟩, fun hp => app fun h => absurd h hp⟩
    rw [len_part (by omega)]
    show (t.len - 1 - 0 + 1) * 88 ≤ _
    omega
  · have e : i = s.len := by omega
    subst e
    exact hf

/-! ### What they say of a table -/
theorem fTo_rows {s t : Sl} {known : Int} {g : Int → Int} (hs : sortedT s) (h1 : ∀ i : Int, 0 ≤ i → i < t.len → inForce s known (g i) ∧ rowEq t i s (g i)) (h2 : ∀ i j : Int, 0 ≤ i → i < j → j < t.len → g i < g j)
    {i j : Int} (i0 : 0 ≤ i) (ij : i < j) (j1 : j < t.len) : t.int i 0 < t.int j 0 ∨ (t.int i 0 = t.int j 0 ∧ t.int i 1 < t.int j 1) := by
  have a := h1 i i0 (by omega)
  have b := h1 j (by omega) j1
  have l := h2 i j i0 ij j1
  have so := sorted_lt hs a.1.1.1 (by omega) b.1.1.2
  have no := a.1.2.2 (g j) l b.1.1.2
  have := b.1.2.1
  rw [a.2.1, b.2.1, a.2.2.1, b.2.2.1]
  unfold ltR ltK at so
  omega

theorem mid_eq {i j : Int} (h0 : 0 ≤ i) (hij : i < j) (hj : j ≤ 140737488355328) : IntKind.wrap .i64 (shr .u64 (IntKind.wrap .u64 (i + j)) 1) = (i + j) / 2 := by
  rw [wu64_in (by omega) (by omega)]
  have sh : shr .u64 (i + j) 1 = (i + j) / 2 := shr_def .u64 (x := i + j) (n := 1) (by decide)
  rw [sh, wi64]
  omega
theorem mid_rng {i j : Int} (h0 : 0 ≤ i) (hij : i < j) (hj : j ≤ 140737488355328) : Rng .u64 (shr .u64 (IntKind.wrap .u64 (i + j)) 1) := by
  rw [wu64_in (by omega) (by omega)]
  have sh : shr .u64 (i + j) 1 = (i + j) / 2 := shr_def .u64 (x := i + j) (n := 1) (by decide)
  rw [sh, rngu64]
  omega

/-- The search: all that lies ahead of the first bound does not lie beyond, all from the second on does. -/
def bs (n : Int) (P : Int → Prop) (i j : Int) : Prop := (0 ≤ i ∧ i ≤ j ∧ j ≤ n) ∧ (∀ k : Int, 0 ≤ k → k < i → ¬ P k) ∧ ∀ k : Int, j ≤ k → k < n → P k
theorem bs_start {n : Int} {P : Int → Prop} (h : 0 ≤ n) : bs n P 0 n := ⟨⟨Int.le_refl _, h, Int.le_refl _⟩, fun k h0 h1 => by omega, fun k h0 h1 => by omega⟩
theorem bs_up {n : Int} {P : Int → Prop} (hm : ∀ k l : Int, 0 ≤ k → k ≤ l → l < n → P k → P l) {i j m : Int} (h : bs n P i j) (h0 : i ≤ m) (h1 : m < j) (hp : ¬ P m) : bs n P (m + 1) j :=
  ⟨⟨by have := h.1; omega, by have := h.1; omega, h.1.2.2⟩, fun k k0 k1 hk => hp (hm k m k0 (by omega) (by have := h.1; omega) hk), h.2.2⟩
theorem bs_down {n : Int} {P : Int → Prop} (hm : ∀ k l : Int, 0 ≤ k → k ≤ l → l < n → P k → P l) {i j m : Int} (h : bs n P i j) (h0 : i ≤ m) (h1 : m < j) (hp : P m) : bs n P i m :=
  ⟨⟨h.1.1, h0, by have := h.1; omega⟩, h.2.1, fun k k0 k1 => hm m k (by have := h.1; omega) k0 k1 hp⟩

theorem okF.lim {a c : Bool} {b d : Sl} (h : okF a b c d) : Lim b ∧ Lim d := by
  have := h.2
  unfold Lim
  omega
theorem okF.of_same {a c a' c' : Bool} {b d b' d' : Sl} (h : okF a b c d) (g : SameF a' b' c' d' a b c d) : okF a' b' c' d' := by
  obtain ⟨⟨q, hq⟩, h1, h2⟩ := h
  exact ⟨⟨q, hq.of_same g.1.1 g.1.2 g.2.1 g.2.2⟩, by rw [g.1.2.1]; exact h1, by rw [g.2.2.1]; exact h2⟩

end Go.Sx.N
