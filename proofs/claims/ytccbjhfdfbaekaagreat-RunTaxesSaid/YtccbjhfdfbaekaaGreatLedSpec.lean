/-
 The ledger's words in plain Lean, and the contracts of its functions over them. Conditions: none.
-/
import Derived.Test.YtccbjhfdfbaekaaGreatNumBase
set_option linter.unusedVariables false
set_option linter.unusedSimpArgs false
namespace Go.Sx.N
def PV (st n day mo kind amt : Int) : Prop :=
 (0 <= day /\ day < 65536 /\ st <= mo /\ mo < st + n) /\ (((kind = 1 \/ kind = 2 \/ kind = 3 \/ kind = 6) /\ 0 <= amt /\ amt <= 1099511627776) \/ ((kind = 4 \/ kind = 5) /\ -1099511627776 <= amt /\ amt <= 0))
def GH (st n : Int) (p : Sl) (i : Int) : Prop := PV st n (p.int i 0) (p.int i 1) (p.int i 2) (p.int i 3)
def prev (p : Sl) (d0 : Int) (i : Int) : Int := if i = 0 then d0 else p.int (i - 1) 0
def pW (st n : Int) (p : Sl) (d0 : Int) (i : Int) : Prop := GH st n p i /\ prev p d0 i <= p.int i 0
def qH (st n : Int) (p : Sl) (d0 : Int) : Prop := ∀ i : Int, 0 <= i -> i < p.len -> pW st n p d0 i
def Xm (d : Sl) : Prop := ∀ i : Int, 0 <= i -> i < d.len -> 0 <= d.int i 0 /\ d.int i 0 <= 1099511627776
def au (st : Int) (d p : Sl) : Prop := (0 <= st /\ st <= 2400 /\ d.len <= 1200 /\ st + d.len <= 2400) /\ Xm d /\ p.len <= 4000 /\ qH st d.len p 0
def sumTo (f : Int -> Int) : Nat -> Int
 | 0 => 0
 | n + 1 => sumTo f n + f (n : Int)
def jg (p : Sl) (i : Int) : Int := if p.int i 2 = 3 then 0 else p.int i 3
def aI (p : Sl) (m : Int) : Int := sumTo (fun i => if p.int i 1 = m then jg p i else 0) p.n
def sF (st : Int) (d : Sl) (m : Int) : Prop := st <= m /\ m < st + d.len
def yH (d e : Sl) : Prop := d.len = e.len /\ ∀ i : Int, 0 <= i -> i < d.len -> d.int i 0 = e.int i 0
def AQ (p : Sl) (i : Int) (q : Sl) (k : Int) : Prop := p.int i 0 = q.int k 0 /\ p.int i 1 = q.int k 1 /\ p.int i 2 = q.int k 2 /\ p.int i 3 = q.int k 3
def fH (p q : Sl) : Prop := p.len = q.len /\ ∀ i : Int, 0 <= i -> i < p.len -> AQ p i q i
def zeroS (s : Int) (d p : Sl) : Prop := s = 0 /\ d.len = 0 /\ p.len = 0
def Rw (st : Int) (d : Sl) : Prop := 0 <= st /\ st <= 2400 /\ d.len <= 1200
def KD (st : Int) (d _p : Sl) (_m : Int) : Prop := Rw st d
def CJ (st : Int) (d _p : Sl) (m : Int) (r : Bool) : Prop := r = true ↔ sF st d m
def nP (st : Int) (d _p _q : Sl) (CZ : Int) : Prop := Rw st d
def aK (st : Int) (d _p q : Sl) (day : Int) (r : Bool) : Prop := r = true ↔ qH st d.len q day
def qE (vF : Int) (_d _p : Sl) : Prop := True
def bC (st : Int) (d p : Sl) (r : Bool) : Prop := r = true ↔ au st d p
def IG (st : Int) (d p : Sl) (_m : Int) : Prop := au st d p
def II (vF : Int) (_d p : Sl) (m : Int) (r : Int) : Prop := r = aI p m
def EP (vF : Int) (_d _p : Sl) (_m : Int) : Prop := True
def qR (st : Int) (d p : Sl) (m : Int) (r e : Int) : Prop := (¬ au st d p -> r = 0 /\ e = 2) /\ (au st d p -> (¬ sF st d m -> r = 0 /\ e = 6) /\ (sF st d m -> r = d.int (m - st) 0 - aI p m /\ e = 0))
def behind (a b c : Sl) : Prop := c.len = a.len + b.len /\ (∀ i : Int, 0 <= i -> i < a.len -> AQ c i a i) /\ (∀ i : Int, 0 <= i -> i < b.len -> AQ c (a.len + i) b i)
def iP (s : Sl) : Prop := s.len = 2 /\ (s.sub 0 0).len <= 1000000 /\ (s.sub 1 0).len <= 1000000
def iw (s r : Sl) : Prop := behind (s.sub 0 0) (s.sub 1 0) r
def lastDay (p : Sl) : Int := if 0 < p.len then p.int (p.len - 1) 0 else 0
def qW (st : Int) (d p q : Sl) : Prop := au st d p /\ qH st d.len q (lastDay p)
def lg (vF : Int) (_d _p q : Sl) : Prop := q.len <= 1000000
def aY (st : Int) (d p q : Sl) (st' : Int) (d' p' : Sl) (e : Int) : Prop :=
 (¬ qW st d p q -> e = 2 /\ zeroS st' d' p') /\ (qW st d p q -> (4000 < p.len + q.len -> e = 5 /\ zeroS st' d' p') /\ (p.len + q.len <= 4000 -> e = 0 /\ st' = st /\ yH d' d /\ behind p q p'))
end Go.Sx.N
