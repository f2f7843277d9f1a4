/-
  What the functions of the recovery of overpayments are to answer. Conditions: none.
-/
import Derived.Test.YtljmbenpkbjmmaaGreatLedSpec
set_option linter.unusedVariables false
set_option linter.unusedSimpArgs false
namespace Go.Sx.N

/-! Numbers that the checks make -/
def p_kWhole (_n : Int) : Prop := True
def q_kWhole (n : Int) (a : Bool) (l : Sl) : Prop := NW a l ∧ zv a l = n ∧ l.len ≤ 4
/-- The fraction n / d; 0 where d is below 1. -/
def fracQ (n d : Int) : Rat := if d < 1 then 0 else Rat.divInt n d
def p_kFrac (_n _d : Int) : Prop := True
def q_kFrac (n d : Int) (a : Bool) (b : Sl) (c : Bool) (e : Sl) : Prop := IsQ (fracQ n d) a b c e ∧ b.len ≤ 4 ∧ e.len ≤ 4
def p_rMul2 (_a : Bool) (_b : Sl) (_c : Bool) (_d : Sl) (_a' : Bool) (_b' : Sl) (_c' : Bool) (_d' : Sl) : Prop := True
def q_rMul2 (a : Bool) (b : Sl) (c : Bool) (d : Sl) (a' : Bool) (b' : Sl) (c' : Bool) (d' : Sl) (nn : Bool) (nl : Sl) (dn : Bool) (dl : Sl) (e : Int) : Prop :=
  (okF a b c d ∧ okF a' b' c' d' → resF (fq a b d * fq a' b' d') nn nl dn dl e) ∧ (¬ (okF a b c d ∧ okF a' b' c' d') → zeroF nn nl dn dl ∧ e = 2)

/-! Shares and limits -/
def okShare (a : Bool) (b : Sl) (c : Bool) (d : Sl) : Prop := okF a b c d ∧ 0 ≤ fq a b d ∧ fq a b d ≤ 1
def limR (q : Rat) (due r e : Int) : Prop := (fitQ (q * (due : Rat)) → r = (q * (due : Rat)).floor ∧ e = 0) ∧ (¬ fitQ (q * (due : Rat)) → r = 0 ∧ e = 3)
def limM (st : Int) (d : Sl) (m : Int) (q : Rat) (r e : Int) : Prop := (¬ hasS st d m → r = 0 ∧ e = 6) ∧ (hasS st d m → limR q (d.int (m - st) 0) r e)
def limS (st : Int) (d p : Sl) (m : Int) (a : Bool) (b : Sl) (c : Bool) (f : Sl) (r e : Int) : Prop :=
  (¬ (validS st d p ∧ okShare a b c f) → r = 0 ∧ e = 2) ∧ (validS st d p ∧ okShare a b c f → limM st d m (fq a b f) r e)
def p_isShare (_a : Bool) (_b : Sl) (_c : Bool) (_d : Sl) : Prop := True
def q_isShare (a : Bool) (b : Sl) (c : Bool) (d : Sl) (r : Bool) : Prop := r = true ↔ okShare a b c d
def p_limit (st : Int) (d p : Sl) (_m : Int) (a : Bool) (b : Sl) (c : Bool) (f : Sl) : Prop := validS st d p ∧ okShare a b c f
def q_limit (st : Int) (d _p : Sl) (m : Int) (a : Bool) (b : Sl) (_c : Bool) (f : Sl) (r e : Int) : Prop := limM st d m (fq a b f) r e
def p_Limit (_st : Int) (_d _p : Sl) (_m : Int) (_a : Bool) (_b : Sl) (_c : Bool) (_f : Sl) : Prop := True
def q_Limit (st : Int) (d p : Sl) (m : Int) (a : Bool) (b : Sl) (c : Bool) (f : Sl) (r e : Int) : Prop := limS st d p m a b c f r e

/-! What is overpaid -/
def ov (st : Int) (d p : Sl) (k : Int) : Int := postedS p (st + k) - d.int k 0
def posi (x : Int) : Int := if x > 0 then x else 0
def outS (st : Int) (d p : Sl) (m : Int) : Int := sumTo (fun k => if st + k < m then posi (ov st d p k) else 0) d.n
def p_outstanding (st : Int) (d p : Sl) (_m : Int) : Prop := validS st d p
def q_outstanding (st : Int) (d p : Sl) (m r : Int) : Prop := r = outS st d p m
def p_Outstanding (_st : Int) (_d _p : Sl) (_m : Int) : Prop := True
def q_Outstanding (st : Int) (d p : Sl) (m r e : Int) : Prop := (¬ validS st d p → r = 0 ∧ e = 2) ∧ (validS st d p → r = outS st d p m ∧ e = 0)

/-! What is taken: the oldest first, as far as the limit goes -/
def useS (st : Int) (d p : Sl) (m left k : Int) : Int := if st + k < m then imin (posi (ov st d p k)) left else 0
def leftS (st : Int) (d p : Sl) (m lim : Int) : Nat → Int
  | 0 => lim
  | n + 1 => leftS st d p m lim n - useS st d p m (leftS st d p m lim n) n
def usedS (st : Int) (d p : Sl) (m lim : Int) (n : Nat) : Int := useS st d p m (leftS st d p m lim n) n
def rowsS (st : Int) (d p : Sl) (day m lim : Int) : Nat → List (List D)
  | 0 => []
  | n + 1 => if 0 < usedS st d p m lim n then rowsS st d p day m lim n ++ [[.int day, .int (st + n), .int 4, .int (-(usedS st d p m lim n))]] else rowsS st d p day m lim n
def takeD (st : Int) (d p : Sl) (day m r e0 : Int) (s : Sl) (e : Int) : Prop :=
  (e0 ≠ 0 → s.len = 0 ∧ e = e0) ∧ (e0 = 0 → (¬ (0 ≤ day ∧ day < 65536) → s.len = 0 ∧ e = 2) ∧ (0 ≤ day ∧ day < 65536 → eqPosts s (Sl.lit (rowsS st d p day m r d.n)) ∧ e = 0))
def takeS (st : Int) (d p : Sl) (day m : Int) (a : Bool) (b : Sl) (c : Bool) (f : Sl) (s : Sl) (e : Int) : Prop := ∀ r e0, limS st d p m a b c f r e0 → takeD st d p day m r e0 s e
def p_Take (_st : Int) (_d _p : Sl) (_day _m : Int) (_a : Bool) (_b : Sl) (_c : Bool) (_f : Sl) : Prop := True
def q_Take (st : Int) (d p : Sl) (day m : Int) (a : Bool) (b : Sl) (c : Bool) (f : Sl) (s : Sl) (e : Int) : Prop := takeS st d p day m a b c f s e
def p_Apply (_st : Int) (_d _p : Sl) (_day _m : Int) (_a : Bool) (_b : Sl) (_c : Bool) (_f : Sl) : Prop := True
def q_Apply (st : Int) (d p : Sl) (day m : Int) (a : Bool) (b : Sl) (c : Bool) (f : Sl) (st' : Int) (d' p' : Sl) (e : Int) : Prop :=
  ∃ s e0, takeS st d p day m a b c f s e0 ∧ (e0 ≠ 0 → zeroS st' d' p' ∧ e = e0) ∧ (e0 = 0 → q_Post st d p s st' d' p' e)

/-! Months after each other -/
/-- What could be taken in so many months. -/
def cumS (st : Int) (d : Sl) (m : Int) (q : Rat) : Nat → Int
  | 0 => 0
  | n + 1 => cumS st d m q n + (q * ((d.int (m + n - st) 0 : Int) : Rat)).floor
/-- The loop is still under way behind so many months. -/
def underS (st : Int) (d p : Sl) (m : Int) (q : Rat) (n : Nat) : Prop := ∀ k : Nat, k < n → cumS st d m q k < outS st d p m ∧ hasS st d (m + k) ∧ fitQ (q * ((d.int (m + k - st) 0 : Int) : Rat))
def runsD (st : Int) (d p : Sl) (m : Int) (q : Rat) (n e : Int) : Prop :=
  (e = 0 ∧ ∃ k : Nat, n = k ∧ underS st d p m q k ∧ outS st d p m ≤ cumS st d m q k) ∨
  (n = 0 ∧ e ≠ 0 ∧ ∃ k : Nat, underS st d p m q k ∧ cumS st d m q k < outS st d p m ∧ ((¬ hasS st d (m + k) ∧ e = 6) ∨ (hasS st d (m + k) ∧ ¬ fitQ (q * ((d.int (m + k - st) 0 : Int) : Rat)) ∧ e = 3)))
def runsS (st : Int) (d p : Sl) (m : Int) (a : Bool) (b : Sl) (c : Bool) (f : Sl) (n e : Int) : Prop :=
  ∀ r e0, limS st d p m a b c f r e0 → (e0 ≠ 0 → n = 0 ∧ e = e0) ∧ (e0 = 0 → runsD st d p m (fq a b f) n e)
def p_Runs (_st : Int) (_d _p : Sl) (_m : Int) (_a : Bool) (_b : Sl) (_c : Bool) (_f : Sl) : Prop := True
def q_Runs (st : Int) (d p : Sl) (m : Int) (a : Bool) (b : Sl) (c : Bool) (f : Sl) (n e : Int) : Prop := runsS st d p m a b c f n e

/-! The reference -/
def p_xOpen (st : Int) (d p : Sl) (m : Int) : Prop := validS st d p ∧ hasS st d m
def q_xOpen (st : Int) (d p : Sl) (m r : Int) : Prop := r = d.int (m - st) 0 - postedS p m
def p_xShare (_a : Bool) (_b : Sl) (_c : Bool) (_d : Sl) : Prop := True
def q_xShare (a : Bool) (b : Sl) (c : Bool) (d : Sl) (r : Bool) : Prop := r = true ↔ okShare a b c d
def p_xLimit (_st : Int) (_d _p : Sl) (_m : Int) (_a : Bool) (_b : Sl) (_c : Bool) (_f : Sl) : Prop := True
def q_xLimit (st : Int) (d p : Sl) (m : Int) (a : Bool) (b : Sl) (c : Bool) (f : Sl) (r e : Int) : Prop := limS st d p m a b c f r e
def p_xOutstanding (st : Int) (d p : Sl) (_m : Int) : Prop := validS st d p
def q_xOutstanding (st : Int) (d p : Sl) (m r : Int) : Prop := r = outS st d p m
def p_xTake (_st : Int) (_d _p : Sl) (_day _m : Int) (_a : Bool) (_b : Sl) (_c : Bool) (_f : Sl) : Prop := True
def q_xTake (st : Int) (d p : Sl) (day m : Int) (a : Bool) (b : Sl) (c : Bool) (f : Sl) (s : Sl) (e : Int) : Prop := takeS st d p day m a b c f s e
def p_xRuns (_st : Int) (_d _p : Sl) (_m : Int) (_a : Bool) (_b : Sl) (_c : Bool) (_f : Sl) : Prop := True
def q_xRuns (st : Int) (d p : Sl) (m : Int) (a : Bool) (b : Sl) (c : Bool) (f : Sl) (n e : Int) : Prop := runsS st d p m a b c f n e
def p_xPost (_st : Int) (_d p q : Sl) : Prop := p.len ≤ 1000000 ∧ q.len ≤ 1000000
def q_xPost (st : Int) (d p q : Sl) (st' : Int) (d' p' : Sl) (e : Int) : Prop := q_Post st d p q st' d' p' e

/-! The statements' helpers -/
def p_Part (_n _d : Int) : Prop := True
def q_Part (n d : Int) (a : Bool) (b : Sl) (c : Bool) (e : Sl) : Prop := q_kFrac n d a b c e
def p_few (_st : Int) (_d _p : Sl) : Prop := True
def q_few (_st : Int) (d p : Sl) (r : Bool) : Prop := r = true ↔ (d.len ≤ 20 ∧ p.len ≤ 40)
def p_light (_a : Bool) (_b : Sl) (_c : Bool) (_d : Sl) : Prop := True
def q_light (_a : Bool) (b : Sl) (_c : Bool) (d : Sl) (r : Bool) : Prop := r = true ↔ (b.len ≤ 4 ∧ d.len ≤ 4)
def p_paids (_p _q : Sl) : Prop := True
def q_paids (p q : Sl) (r : Bool) : Prop := r = true ↔ eqPosts p q
def p_example : Prop := True
def q_example (st : Int) (d p : Sl) : Prop := st = 1500 ∧ (d.len = 4 ∧ d.int 0 0 = 100 ∧ d.int 1 0 = 100 ∧ d.int 2 0 = 90 ∧ d.int 3 0 = 90) ∧ p.len = 2 ∧
  (p.int 0 0 = 0 ∧ p.int 0 1 = 1500 ∧ p.int 0 2 = 1 ∧ p.int 0 3 = 130) ∧ (p.int 1 0 = 0 ∧ p.int 1 1 = 1501 ∧ p.int 1 2 = 1 ∧ p.int 1 3 = 115)
def p_awake : Prop := True
def q_awake (r : Bool) : Prop := r = true

def p_Tells (_st : Int) (_d _p : Sl) (_day _m : Int) (_a : Bool) (_b : Sl) (_c : Bool) (_f : Sl) : Prop := True
def q_Tells (_st : Int) (_d _p : Sl) (_day _m : Int) (_a : Bool) (_b : Sl) (_c : Bool) (_f : Sl) (r : Bool) : Prop := r = true
def p_Shares (_st : Int) (_d _p : Sl) (_day _m _n _k _e : Int) : Prop := True
def q_Shares (_st : Int) (_d _p : Sl) (_day _m _n _k _e : Int) (r : Bool) : Prop := r = true
def p_Wrong (_st : Int) (_d _p : Sl) (_x : Int) : Prop := True
def q_Wrong (_st : Int) (_d _p : Sl) (_x : Int) (r : Bool) : Prop := r = true
def p_Later (_st : Int) (_d _p : Sl) (_day _m : Int) : Prop := True
def q_Later (_st : Int) (_d _p : Sl) (_day _m : Int) (r : Bool) : Prop := r = true
def p_Within (_st : Int) (_d _p : Sl) (_day _m _n _e : Int) : Prop := True
def q_Within (_st : Int) (_d _p : Sl) (_day _m _n _e : Int) (r : Bool) : Prop := r = true
def p_Oldest (_st : Int) (_d _p : Sl) (_day _m _n _e : Int) : Prop := True
def q_Oldest (_st : Int) (_d _p : Sl) (_day _m _n _e : Int) (r : Bool) : Prop := r = true
def p_WRuns (_st : Int) (_d _p : Sl) (_m _n _e : Int) : Prop := True
def q_WRuns (_st : Int) (_d _p : Sl) (_m _n _e : Int) (r : Bool) : Prop := r = true

end Go.Sx.N
