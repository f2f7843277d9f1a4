/-
  The ledger's words in plain Lean, and the contracts of its functions over them. Conditions: none.
-/
import Derived.Test.YtlhjljekeobplaaSxJ
namespace Go.Sx.L


def fitsS (st n day mo kind amt : Int) : Prop :=
  (0 ≤ day ∧ day < 65536 ∧ st ≤ mo ∧ mo < st + n) ∧ (((kind = 1 ∨ kind = 2 ∨ kind = 3 ∨ kind = 6) ∧ 0 ≤ amt ∧ amt ≤ 1099511627776) ∨ ((kind = 4 ∨ kind = 5) ∧ -1099511627776 ≤ amt ∧ amt ≤ 0))

def fitAt (st n : Int) (p : Sl) (i : Int) : Prop := fitsS st n (p.int i 0) (p.int i 1) (p.int i 2) (p.int i 3)
def prev (p : Sl) (d0 : Int) (i : Int) : Int := if i = 0 then d0 else p.int (i - 1) 0
def okAt (st n : Int) (p : Sl) (d0 : Int) (i : Int) : Prop := fitAt st n p i ∧ prev p d0 i ≤ p.int i 0
def followS (st n : Int) (p : Sl) (d0 : Int) : Prop := ∀ i : Int, 0 ≤ i → i < p.len → okAt st n p d0 i
def dueOk (d : Sl) : Prop := ∀ i : Int, 0 ≤ i → i < d.len → 0 ≤ d.int i 0 ∧ d.int i 0 ≤ 1099511627776
def validS (st : Int) (d p : Sl) : Prop := (0 ≤ st ∧ st ≤ 2400 ∧ d.len ≤ 1200 ∧ st + d.len ≤ 2400) ∧ dueOk d ∧ p.len ≤ 4000 ∧ followS st d.len p 0

def sumTo (f : Int → Int) : Nat → Int
  | 0 => 0
  | n + 1 => sumTo f n + f (n : Int)

/-- The principal of a posting. -/
def prin (p : Sl) (i : Int) : Int := if p.int i 2 = 3 then 0 else p.int i 3
def postedS (p : Sl) (m : Int) : Int := sumTo (fun i => if p.int i 1 = m then prin p i else 0) p.n
def lastS (st n before : Int) : Int := imin (imax before st) (st + n)
def balS (st : Int) (d p : Sl) (before : Int) : Int := sumTo (fun i => d.int i 0) (lastS st d.len before - st).toNat - sumTo (fun i => if p.int i 1 < before then prin p i else 0) p.n
def totalS (p : Sl) (k : Int) : Int := sumTo (fun i => if p.int i 2 = k then p.int i 3 else 0) p.n
def hasS (st : Int) (d : Sl) (m : Int) : Prop := st ≤ m ∧ m < st + d.len

def eqDue (d e : Sl) : Prop := d.len = e.len ∧ ∀ i : Int, 0 ≤ i → i < d.len → d.int i 0 = e.int i 0
def eqAt (p : Sl) (i : Int) (q : Sl) (k : Int) : Prop := p.int i 0 = q.int k 0 ∧ p.int i 1 = q.int k 1 ∧ p.int i 2 = q.int k 2 ∧ p.int i 3 = q.int k 3
def eqPosts (p q : Sl) : Prop := p.len = q.len ∧ ∀ i : Int, 0 ≤ i → i < p.len → eqAt p i q i
def sameS (s : Int) (d p : Sl) (t : Int) (e q : Sl) : Prop := s = t ∧ eqDue d e ∧ eqPosts p q
def zeroS (s : Int) (d p : Sl) : Prop := s = 0 ∧ d.len = 0 ∧ p.len = 0

def smallS (st : Int) (d : Sl) : Prop := 0 ≤ st ∧ st ≤ 2400 ∧ d.len ≤ 1200

def p_has (st : Int) (d _p : Sl) (_m : Int) : Prop := smallS st d
def q_has (st : Int) (d _p : Sl) (m : Int) (r : Bool) : Prop := r = true ↔ hasS st d m
def p_follow (st : Int) (d _p _q : Sl) (_day : Int) : Prop := smallS st d
def q_follow (st : Int) (d _p q : Sl) (day : Int) (r : Bool) : Prop := r = true ↔ followS st d.len q day
def p_Valid (_st : Int) (_d _p : Sl) : Prop := True
def q_Valid (st : Int) (d p : Sl) (r : Bool) : Prop := r = true ↔ validS st d p
def p_posted (st : Int) (d p : Sl) (_m : Int) : Prop := validS st d p
def q_posted (_st : Int) (_d p : Sl) (m : Int) (r : Int) : Prop := r = postedS p m
def p_Posted (_st : Int) (_d _p : Sl) (_m : Int) : Prop := True
def q_Posted (st : Int) (d p : Sl) (m : Int) (r e : Int) : Prop := (¬ validS st d p → r = 0 ∧ e = 2) ∧ (validS st d p → (¬ hasS st d m → r = 0 ∧ e = 6) ∧ (hasS st d m → r = postedS p m ∧ e = 0))
def p_Open (_st : Int) (_d _p : Sl) (_m : Int) : Prop := True
def q_Open (st : Int) (d p : Sl) (m : Int) (r e : Int) : Prop := (¬ validS st d p → r = 0 ∧ e = 2) ∧ (validS st d p → (¬ hasS st d m → r = 0 ∧ e = 6) ∧ (hasS st d m → r = d.int (m - st) 0 - postedS p m ∧ e = 0))
def p_Balance (_st : Int) (_d _p : Sl) (_m : Int) : Prop := True
def q_Balance (st : Int) (d p : Sl) (m : Int) (r e : Int) : Prop := (¬ validS st d p → r = 0 ∧ e = 2) ∧ (validS st d p → r = balS st d p m ∧ e = 0)
def p_Total (_st : Int) (_d _p : Sl) (_k : Int) : Prop := True
def q_Total (st : Int) (d p : Sl) (k : Int) (r e : Int) : Prop := (¬ (validS st d p ∧ 1 ≤ k ∧ k ≤ 6) → r = 0 ∧ e = 2) ∧ (validS st d p → 1 ≤ k → k ≤ 6 → r = totalS p k ∧ e = 0)
def p_Same (_s : Int) (_d _p : Sl) (_t : Int) (_e _q : Sl) : Prop := True
def q_Same (s : Int) (d p : Sl) (t : Int) (e q : Sl) (r : Bool) : Prop := r = true ↔ sameS s d p t e q
def p_Few (_st : Int) (_d _p : Sl) : Prop := True
def q_Few (_st : Int) (d p : Sl) (r : Bool) : Prop := r = true ↔ ((d.len ≤ 40 ∨ 1200 < d.len ∧ d.len ≤ 1202) ∧ (p.len ≤ 60 ∨ 4000 < p.len ∧ p.len ≤ 4002))
def p_usable (_st : Int) (_d _p : Sl) : Prop := True
def q_usable (st : Int) (d p : Sl) (r : Bool) : Prop := r = true ↔ (d.len ≤ 40 ∧ p.len ≤ 60 ∧ validS st d p)

def learnOk (st : Int) (d p : Sl) (m due : Int) : Prop := validS st d p ∧ 0 ≤ due ∧ due ≤ 1099511627776 ∧ st ≤ m ∧ m ≤ st + d.len
def learnMany (st : Int) (d : Sl) (m : Int) : Prop := m = st + d.len ∧ (1200 ≤ d.len ∨ 2400 ≤ m)
def learnt (st : Int) (d p : Sl) (m due : Int) (st' : Int) (d' p' : Sl) : Prop :=
  st' = st ∧ eqPosts p' p ∧ d'.len = imax d.len (m - st + 1) ∧ ∀ i : Int, 0 ≤ i → i < d'.len → d'.int i 0 = if i = m - st then due else d.int i 0
def p_Learn (_st : Int) (_d _p : Sl) (_m _due : Int) : Prop := True
def q_Learn (st : Int) (d p : Sl) (m due : Int) (st' : Int) (d' p' : Sl) (e : Int) : Prop :=
  (¬ learnOk st d p m due → e = 2 ∧ zeroS st' d' p') ∧ (learnOk st d p m due → (learnMany st d m → e = 5 ∧ zeroS st' d' p') ∧ (¬ learnMany st d m → e = 0 ∧ learnt st d p m due st' d' p'))

/-- The postings up to a day, of a ledger whose days do not decrease. -/
def upTo (p : Sl) (day : Int) (p' : Sl) : Prop :=
  p'.len ≤ p.len ∧ (∀ i : Int, 0 ≤ i → i < p'.len → eqAt p' i p i ∧ p.int i 0 ≤ day) ∧ (∀ i : Int, p'.len ≤ i → i < p.len → day < p.int i 0)
def p_At (_st : Int) (_d _p : Sl) (_day : Int) : Prop := True
def q_At (st : Int) (d p : Sl) (day : Int) (st' : Int) (d' p' : Sl) (e : Int) : Prop :=
  (¬ validS st d p → e = 2 ∧ zeroS st' d' p') ∧ (validS st d p → e = 0 ∧ st' = st ∧ eqDue d' d ∧ upTo p day p')

def p_example : Prop := True
def q_example (st : Int) (d p : Sl) : Prop := st = 1500 ∧ d.len = 3 ∧ d.int 0 0 = 100 ∧ d.int 1 0 = 100 ∧ d.int 2 0 = 120 ∧ p.len = 5 ∧
  (p.int 0 0 = 45000 ∧ p.int 0 1 = 1500 ∧ p.int 0 2 = 1 ∧ p.int 0 3 = 100) ∧ (p.int 1 0 = 45000 ∧ p.int 1 1 = 1501 ∧ p.int 1 2 = 1 ∧ p.int 1 3 = 90) ∧
  (p.int 2 0 = 45000 ∧ p.int 2 1 = 1501 ∧ p.int 2 2 = 3 ∧ p.int 2 3 = 3) ∧ (p.int 3 0 = 45030 ∧ p.int 3 1 = 1502 ∧ p.int 3 2 = 1 ∧ p.int 3 3 = 150) ∧
  (p.int 4 0 = 45030 ∧ p.int 4 1 = 1502 ∧ p.int 4 2 = 4 ∧ p.int 4 3 = -20)
def p_awake : Prop := True
def q_awake (r : Bool) : Prop := r = true
def p_Learns (_st : Int) (_d _p : Sl) (_w _due _other : Int) : Prop := True
def q_Learns (_st : Int) (_d _p : Sl) (_w _due _other : Int) (r : Bool) : Prop := r = true
def p_Before (_st : Int) (_d _p : Sl) (_x : Int) : Prop := True
def q_Before (_st : Int) (_d _p : Sl) (_x : Int) (r : Bool) : Prop := r = true
def p_AddsUp (_st : Int) (_d _p : Sl) : Prop := True
def q_AddsUp (_st : Int) (_d _p : Sl) (r : Bool) : Prop := r = true

/-! The rest: the reference, postings. -/

def p_copied (_st : Int) (d p : Sl) : Prop := d.len ≤ 100000 ∧ p.len ≤ 100000
def q_copied (st : Int) (d p : Sl) (st' : Int) (d' p' : Sl) : Prop := st' = st ∧ eqDue d' d ∧ eqPosts p' p
def p_rHas (st : Int) (d _p : Sl) (_m : Int) : Prop := smallS st d
def q_rHas (st : Int) (d _p : Sl) (m : Int) (r : Bool) : Prop := r = true ↔ hasS st d m
def p_rRight (st : Int) (d _p : Sl) (_day _mo _kind _amt : Int) : Prop := smallS st d
def q_rRight (st : Int) (d _p : Sl) (day mo kind amt : Int) (r : Bool) : Prop := r = true ↔ fitsS st d.len day mo kind amt
def p_rPosts (st : Int) (d _p _q : Sl) : Prop := smallS st d
def q_rPosts (st : Int) (d _p q : Sl) (r : Bool) : Prop := r = true ↔ followS st d.len q 0
def p_rValid (_st : Int) (_d _p : Sl) : Prop := True
def q_rValid (st : Int) (d p : Sl) (r : Bool) : Prop := r = true ↔ validS st d p
def p_rPosted (st : Int) (d p : Sl) (_m : Int) : Prop := validS st d p
def q_rPosted (_st : Int) (_d p : Sl) (m : Int) (r : Int) : Prop := r = postedS p m
def p_rBalance (st : Int) (d p : Sl) (_m : Int) : Prop := validS st d p
def q_rBalance (st : Int) (d p : Sl) (m : Int) (r : Int) : Prop := r = balS st d p m
def p_rTotal (st : Int) (d p : Sl) (_k : Int) : Prop := validS st d p
def q_rTotal (_st : Int) (_d p : Sl) (k : Int) (r : Int) : Prop := r = totalS p k
def p_rAt (st : Int) (d p : Sl) (_day : Int) : Prop := validS st d p
def q_rAt (st : Int) (d p : Sl) (day : Int) (st' : Int) (d' p' : Sl) : Prop := st' = st ∧ eqDue d' d ∧ upTo p day p'

/-- One list behind another. -/
def behind (a b c : Sl) : Prop := c.len = a.len + b.len ∧ (∀ i : Int, 0 ≤ i → i < a.len → eqAt c i a i) ∧ (∀ i : Int, 0 ≤ i → i < b.len → eqAt c (a.len + i) b i)
def p_Concat (s : Sl) : Prop := s.len = 2 ∧ (s.sub 0 0).len ≤ 1000000 ∧ (s.sub 1 0).len ≤ 1000000
def q_Concat (s r : Sl) : Prop := behind (s.sub 0 0) (s.sub 1 0) r
def lastDay (p : Sl) : Int := if 0 < p.len then p.int (p.len - 1) 0 else 0
def postOk (st : Int) (d p q : Sl) : Prop := validS st d p ∧ followS st d.len q (lastDay p)
def p_Post (_st : Int) (_d _p q : Sl) : Prop := q.len ≤ 1000000
def q_Post (st : Int) (d p q : Sl) (st' : Int) (d' p' : Sl) (e : Int) : Prop :=
  (¬ postOk st d p q → e = 2 ∧ zeroS st' d' p') ∧ (postOk st d p q → (4000 < p.len + q.len → e = 5 ∧ zeroS st' d' p') ∧ (p.len + q.len ≤ 4000 → e = 0 ∧ st' = st ∧ eqDue d' d ∧ behind p q p'))
def p_Tells (_st : Int) (_d _p : Sl) (_m _b _day _k : Int) : Prop := True
def q_Tells (_st : Int) (_d _p : Sl) (_m _b _day _k : Int) (r : Bool) : Prop := r = true
def p_Posts (_st : Int) (_d _p _q : Sl) : Prop := True
def q_Posts (_st : Int) (_d _p _q : Sl) (r : Bool) : Prop := r = true
def p_Days (_st : Int) (_d _p : Sl) (_a _b : Int) : Prop := True
def q_Days (_st : Int) (_d _p : Sl) (_a _b : Int) (r : Bool) : Prop := r = true
def p_Wrong (_st : Int) (_d _p : Sl) (_w _x : Int) : Prop := True
def q_Wrong (_st : Int) (_d _p : Sl) (_w _x : Int) (r : Bool) : Prop := r = true

end Go.Sx.L
