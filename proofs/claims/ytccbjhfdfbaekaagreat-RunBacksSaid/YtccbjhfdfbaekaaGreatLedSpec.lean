/-
 The ledger's words in plain Lean, and the contracts of its functions over them. Conditions: none.
-/
import Derived.Test.YtccbjhfdfbaekaaGreatNumBase
set_option linter.unusedVariables false
set_option linter.unusedSimpArgs false
namespace Go.Sx.N
def Hr (st n day mo kind amt : Int) : Prop :=
 (0 <= day /\ day < 65536 /\ st <= mo /\ mo < st + n) /\ (((kind = 1 \/ kind = 2 \/ kind = 3 \/ kind = 6) /\ 0 <= amt /\ amt <= 1099511627776) \/ ((kind = 4 \/ kind = 5) /\ -1099511627776 <= amt /\ amt <= 0))
def AO (st n : Int) (p : Sl) (i : Int) : Prop := Hr st n (p.int i 0) (p.int i 1) (p.int i 2) (p.int i 3)
def prev (p : Sl) (d0 : Int) (i : Int) : Int := if i = 0 then d0 else p.int (i - 1) 0
def mD (st n : Int) (p : Sl) (d0 : Int) (i : Int) : Prop := AO st n p i /\ prev p d0 i <= p.int i 0
def oV (st n : Int) (p : Sl) (d0 : Int) : Prop := ∀ i : Int, 0 <= i -> i < p.len -> mD st n p d0 i
def Yb (d : Sl) : Prop := ∀ i : Int, 0 <= i -> i < d.len -> 0 <= d.int i 0 /\ d.int i 0 <= 1099511627776
def au (st : Int) (d p : Sl) : Prop := (0 <= st /\ st <= 2400 /\ d.len <= 1200 /\ st + d.len <= 2400) /\ Yb d /\ p.len <= 4000 /\ oV st d.len p 0
def sumTo (f : Int -> Int) : Nat -> Int
 | 0 => 0
 | n + 1 => sumTo f n + f (n : Int)
def jl (p : Sl) (i : Int) : Int := if p.int i 2 = 3 then 0 else p.int i 3
def aO (p : Sl) (m : Int) : Int := sumTo (fun i => if p.int i 1 = m then jl p i else 0) p.n
def oh (st : Int) (d : Sl) (m : Int) : Prop := st <= m /\ m < st + d.len
def uO (d e : Sl) : Prop := d.len = e.len /\ ∀ i : Int, 0 <= i -> i < d.len -> d.int i 0 = e.int i 0
def uP (p : Sl) (i : Int) (q : Sl) (k : Int) : Prop := p.int i 0 = q.int k 0 /\ p.int i 1 = q.int k 1 /\ p.int i 2 = q.int k 2 /\ p.int i 3 = q.int k 3
def dY (p q : Sl) : Prop := p.len = q.len /\ ∀ i : Int, 0 <= i -> i < p.len -> uP p i q i
def X7 (s : Int) (d p : Sl) (t : Int) (e q : Sl) : Prop := s = t /\ uO d e /\ dY p q
def zeroS (s : Int) (d p : Sl) : Prop := s = 0 /\ d.len = 0 /\ p.len = 0
def xg (st : Int) (d : Sl) : Prop := 0 <= st /\ st <= 2400 /\ d.len <= 1200
def Lh (st : Int) (d _p : Sl) (_m : Int) : Prop := xg st d
def CX (st : Int) (d _p : Sl) (m : Int) (r : Bool) : Prop := r = true ↔ oh st d m
def nX (st : Int) (d _p _q : Sl) (vX : Int) : Prop := xg st d
def aH (st : Int) (d _p q : Sl) (day : Int) (r : Bool) : Prop := r = true ↔ oV st d.len q day
def qL (nN : Int) (_d _p : Sl) : Prop := True
def aZ (st : Int) (d p : Sl) (r : Bool) : Prop := r = true ↔ au st d p
def Jg (st : Int) (d p : Sl) (_m : Int) : Prop := au st d p
def Jh (nN : Int) (_d p : Sl) (m : Int) (r : Int) : Prop := r = aO p m
def Fe (nN : Int) (_d _p : Sl) (_m : Int) : Prop := True
def qY (st : Int) (d p : Sl) (m : Int) (r e : Int) : Prop := (¬ au st d p -> r = 0 /\ e = 2) /\ (au st d p -> (¬ oh st d m -> r = 0 /\ e = 6) /\ (oh st d m -> r = d.int (m - st) 0 - aO p m /\ e = 0))
def SC (_s : Int) (_d _p : Sl) (_t : Int) (_e _q : Sl) : Prop := True
def pY (s : Int) (d p : Sl) (t : Int) (e q : Sl) (r : Bool) : Prop := r = true ↔ X7 s d p t e q
def Lm (st : Int) (d _p : Sl) (_m : Int) : Prop := xg st d
def zQ (st : Int) (d _p : Sl) (m : Int) (r : Bool) : Prop := r = true ↔ oh st d m
def Dh (st : Int) (d _p : Sl) (vX yt _kind amT : Int) : Prop := xg st d
def iI (st : Int) (d _p : Sl) (day mo kind amt : Int) (r : Bool) : Prop := r = true ↔ Hr st d.len day mo kind amt
def Di (st : Int) (d _p _q : Sl) : Prop := xg st d
def l9 (st : Int) (d _p q : Sl) (r : Bool) : Prop := r = true ↔ oV st d.len q 0
def Dj (nN : Int) (_d _p : Sl) : Prop := True
def je (st : Int) (d p : Sl) (r : Bool) : Prop := r = true ↔ au st d p
def behind (a b c : Sl) : Prop := c.len = a.len + b.len /\ (∀ i : Int, 0 <= i -> i < a.len -> uP c i a i) /\ (∀ i : Int, 0 <= i -> i < b.len -> uP c (a.len + i) b i)
def jc (s : Sl) : Prop := s.len = 2 /\ (s.sub 0 0).len <= 1000000 /\ (s.sub 1 0).len <= 1000000
def iH (s r : Sl) : Prop := behind (s.sub 0 0) (s.sub 1 0) r
def lastDay (p : Sl) : Int := if 0 < p.len then p.int (p.len - 1) 0 else 0
def ng (st : Int) (d p q : Sl) : Prop := au st d p /\ oV st d.len q (lastDay p)
def lI (nN : Int) (_d _p q : Sl) : Prop := q.len <= 1000000
def aU (st : Int) (d p q : Sl) (st' : Int) (d' p' : Sl) (e : Int) : Prop :=
 (¬ ng st d p q -> e = 2 /\ zeroS st' d' p') /\ (ng st d p q -> (4000 < p.len + q.len -> e = 5 /\ zeroS st' d' p') /\ (p.len + q.len <= 4000 -> e = 0 /\ st' = st /\ uO d' d /\ behind p q p'))
end Go.Sx.N
