/-
 The ledger's words in plain Lean, and the contracts of its functions over them. Conditions: none.
-/
import Derived.Test.YtccbjhfdfbaekaaGreatNumBase
set_option linter.unusedVariables false
set_option linter.unusedSimpArgs false
namespace Go.Sx.N
def X9 (st n day mo kind amt : Int) : Prop :=
 (0 <= day /\ day < 65536 /\ st <= mo /\ mo < st + n) /\ (((kind = 1 \/ kind = 2 \/ kind = 3 \/ kind = 6) /\ 0 <= amt /\ amt <= 1099511627776) \/ ((kind = 4 \/ kind = 5) /\ -1099511627776 <= amt /\ amt <= 0))
def Oy (st n : Int) (p : Sl) (i : Int) : Prop := X9 st n (p.int i 0) (p.int i 1) (p.int i 2) (p.int i 3)
def prev (p : Sl) (d0 : Int) (i : Int) : Int := if i = 0 then d0 else p.int (i - 1) 0
def vJ (st n : Int) (p : Sl) (d0 : Int) (i : Int) : Prop := Oy st n p i /\ prev p d0 i <= p.int i 0
def wF (st n : Int) (p : Sl) (d0 : Int) : Prop := ∀ i : Int, 0 <= i -> i < p.len -> vJ st n p d0 i
def ad3 (d : Sl) : Prop := ∀ i : Int, 0 <= i -> i < d.len -> 0 <= d.int i 0 /\ d.int i 0 <= 1099511627776
def aJ (st : Int) (d p : Sl) : Prop := (0 <= st /\ st <= 2400 /\ d.len <= 1200 /\ st + d.len <= 2400) /\ ad3 d /\ p.len <= 4000 /\ wF st d.len p 0
def sumTo (f : Int -> Int) : Nat -> Int
 | 0 => 0
 | n + 1 => sumTo f n + f (n : Int)
def lH (p : Sl) (i : Int) : Int := if p.int i 2 = 3 then 0 else p.int i 3
def aU (p : Sl) (m : Int) : Int := sumTo (fun i => if p.int i 1 = m then lH p i else 0) p.n
def yh (st : Int) (d : Sl) (m : Int) : Prop := st <= m /\ m < st + d.len
def D8 (d e : Sl) : Prop := d.len = e.len /\ ∀ i : Int, 0 <= i -> i < d.len -> d.int i 0 = e.int i 0
def GL (p : Sl) (i : Int) (q : Sl) (k : Int) : Prop := p.int i 0 = q.int k 0 /\ p.int i 1 = q.int k 1 /\ p.int i 2 = q.int k 2 /\ p.int i 3 = q.int k 3
def jg (p q : Sl) : Prop := p.len = q.len /\ ∀ i : Int, 0 <= i -> i < p.len -> GL p i q i
def zeroS (s : Int) (d p : Sl) : Prop := s = 0 /\ d.len = 0 /\ p.len = 0
def ZQ (st : Int) (d : Sl) : Prop := 0 <= st /\ st <= 2400 /\ d.len <= 1200
def Tc (st : Int) (d _p : Sl) (_m : Int) : Prop := ZQ st d
def Jf (st : Int) (d _p : Sl) (m : Int) (r : Bool) : Prop := r = true ↔ yh st d m
def sK (st : Int) (d _p _q : Sl) (Jq : Int) : Prop := ZQ st d
def aX (st : Int) (d _p q : Sl) (day : Int) (r : Bool) : Prop := r = true ↔ wF st d.len q day
def wu (Ah : Int) (_d _p : Sl) : Prop := True
def dD (st : Int) (d p : Sl) (r : Bool) : Prop := r = true ↔ aJ st d p
def Qr (st : Int) (d p : Sl) (_m : Int) : Prop := aJ st d p
def Qs (Ah : Int) (_d p : Sl) (m : Int) (r : Int) : Prop := r = aU p m
def MH (Ah : Int) (_d _p : Sl) (_m : Int) : Prop := True
def wY (st : Int) (d p : Sl) (m : Int) (r e : Int) : Prop := (¬ aJ st d p -> r = 0 /\ e = 2) /\ (aJ st d p -> (¬ yh st d m -> r = 0 /\ e = 6) /\ (yh st d m -> r = d.int (m - st) 0 - aU p m /\ e = 0))
def behind (a b c : Sl) : Prop := c.len = a.len + b.len /\ (∀ i : Int, 0 <= i -> i < a.len -> GL c i a i) /\ (∀ i : Int, 0 <= i -> i < b.len -> GL c (a.len + i) b i)
def kU (s : Sl) : Prop := s.len = 2 /\ (s.sub 0 0).len <= 1000000 /\ (s.sub 1 0).len <= 1000000
def jY (s r : Sl) : Prop := behind (s.sub 0 0) (s.sub 1 0) r
def lastDay (p : Sl) : Int := if 0 < p.len then p.int (p.len - 1) 0 else 0
def xg (st : Int) (d p q : Sl) : Prop := aJ st d p /\ wF st d.len q (lastDay p)
def pV (Ah : Int) (_d _p q : Sl) : Prop := q.len <= 1000000
def bZ (st : Int) (d p q : Sl) (st' : Int) (d' p' : Sl) (e : Int) : Prop :=
 (¬ xg st d p q -> e = 2 /\ zeroS st' d' p') /\ (xg st d p q -> (4000 < p.len + q.len -> e = 5 /\ zeroS st' d' p') /\ (p.len + q.len <= 4000 -> e = 0 /\ st' = st /\ D8 d' d /\ behind p q p'))
end Go.Sx.N
