/-
  What the functions of LedgerChanges are to answer. Conditions: none.
-/
import Derived.Test.YtdhjdigfoohofaaLedSpec
set_option linter.unusedVariables false
set_option linter.unusedSimpArgs false
namespace Go.Sx.N

def p_Balance (_st : Int) (_d _p : Sl) (_m : Int) : Prop := True
def q_Balance (st : Int) (d p : Sl) (m : Int) (r e : Int) : Prop := (¬ validS st d p → r = 0 ∧ e = 2) ∧ (validS st d p → r = balS st d p m ∧ e = 0)
def p_Few (_st : Int) (_d _p : Sl) : Prop := True
def q_Few (_st : Int) (d p : Sl) (r : Bool) : Prop := r = true ↔ ((d.len ≤ 40 ∨ 1200 < d.len ∧ d.len ≤ 1202) ∧ (p.len ≤ 60 ∨ 4000 < p.len ∧ p.len ≤ 4002))
def learnOk (st : Int) (d p : Sl) (m due : Int) : Prop := validS st d p ∧ 0 ≤ due ∧ due ≤ 1099511627776 ∧ st ≤ m ∧ m ≤ st + d.len
def learnMany (st : Int) (d : Sl) (m : Int) : Prop := m = st + d.len ∧ (1200 ≤ d.len ∨ 2400 ≤ m)
def learnt (st : Int) (d p : Sl) (m due : Int) (st' : Int) (d' p' : Sl) : Prop :=
  st' = st ∧ eqPosts p' p ∧ d'.len = imax d.len (m - st + 1) ∧ ∀ i : Int, 0 ≤ i → i < d'.len → d'.int i 0 = if i = m - st then due else d.int i 0
def p_Learn (_st : Int) (_d _p : Sl) (_m _due : Int) : Prop := True
def q_Learn (st : Int) (d p : Sl) (m due : Int) (st' : Int) (d' p' : Sl) (e : Int) : Prop :=
  (¬ learnOk st d p m due → e = 2 ∧ zeroS st' d' p') ∧ (learnOk st d p m due → (learnMany st d m → e = 5 ∧ zeroS st' d' p') ∧ (¬ learnMany st d m → e = 0 ∧ learnt st d p m due st' d' p'))
def p_At (_st : Int) (_d _p : Sl) (_day : Int) : Prop := True
def q_At (st : Int) (d p : Sl) (day : Int) (st' : Int) (d' p' : Sl) (e : Int) : Prop :=
  (¬ validS st d p → e = 2 ∧ zeroS st' d' p') ∧ (validS st d p → e = 0 ∧ st' = st ∧ eqDue d' d ∧ upTo p day p')
def p_example : Prop := True
def q_example (st : Int) (d p : Sl) : Prop := st = 1500 ∧ d.len = 3 ∧ d.int 0 0 = 100 ∧ d.int 1 0 = 100 ∧ d.int 2 0 = 120 ∧ p.len = 5 ∧
  (p.int 0 0 = 45000 ∧ p.int 0 1 = 1500 ∧ p.int 0 2 = 1 ∧ p.int 0 3 = 100) ∧ (p.int 1 0 = 45000 ∧ p.int 1 1 = 1501 ∧ p.int 1 2 = 1 ∧ p.int 1 3 = 90) ∧
  (p.int 2 0 = 45000 ∧ p.int 2 1 = 1501 ∧ p.int 2 2 = 3 ∧ p.int 2 3 = 3) ∧ (p.int 3 0 = 45030 ∧ p.int 3 1 = 1502 ∧ p.int 3 2 = 1 ∧ p.int 3 3 = 150) ∧
  (p.int 4 0 = 45030 ∧ p.int 4 1 = 1502 ∧ p.int 4 2 = 4 ∧ p.int 4 3 = -20)
def p_awake : Prop := True
def q_awake (r : Bool) : Prop := r = true
def p_copied (_st : Int) (d p : Sl) : Prop := d.len ≤ 100000 ∧ p.len ≤ 100000
def q_copied (st : Int) (d p : Sl) (st' : Int) (d' p' : Sl) : Prop := st' = st ∧ eqDue d' d ∧ eqPosts p' p
def p_rPost (_st : Int) (_d p q : Sl) : Prop := p.len ≤ 1000000 ∧ q.len ≤ 1000000
def q_rPost (st : Int) (d p q : Sl) (st' : Int) (d' p' : Sl) (e : Int) : Prop := q_Post st d p q st' d' p' e
def p_rLearn (_st : Int) (_d _p : Sl) (_m _due : Int) : Prop := True
def q_rLearn (st : Int) (d p : Sl) (m due : Int) (st' : Int) (d' p' : Sl) (e : Int) : Prop := q_Learn st d p m due st' d' p' e
def p_Changes (_st : Int) (_d _p _q : Sl) (_m _due : Int) : Prop := True
def q_Changes (_st : Int) (_d _p _q : Sl) (_m _due : Int) (r : Bool) : Prop := r = true

end Go.Sx.N
