/-
 What the functions of the recovery of overpayments are to answer. Conditions: none.
-/
import Derived.Test.YtccbjhfdfbaekaaGreatLedSpec
set_option linter.unusedVariables false
set_option linter.unusedSimpArgs false
namespace Go.Sx.N
def okShare (a : Bool) (b : Sl) (c : Bool) (d : Sl) : Prop := okF a b c d /\ 0 <= fq a b d /\ fq a b d <= 1
def limR (q : Rat) (due r e : Int) : Prop := (fitQ (q * (due : Rat)) -> r = (q * (due : Rat)).floor /\ e = 0) /\ (¬ fitQ (q * (due : Rat)) -> r = 0 /\ e = 3)
def limM (st : Int) (d : Sl) (m : Int) (q : Rat) (r e : Int) : Prop := (¬ hasS st d m -> r = 0 /\ e = 6) /\ (hasS st d m -> limR q (d.int (m - st) 0) r e)
def limS (st : Int) (d p : Sl) (m : Int) (a : Bool) (b : Sl) (c : Bool) (f : Sl) (r e : Int) : Prop :=
 (¬ (validS st d p /\ okShare a b c f) -> r = 0 /\ e = 2) /\ (validS st d p /\ okShare a b c f -> limM st d m (fq a b f) r e)
def p_isShare (_a : Bool) (_b : Sl) (_c : Bool) (_d : Sl) : Prop := True
def q_isShare (a : Bool) (b : Sl) (c : Bool) (d : Sl) (r : Bool) : Prop := r = true ↔ okShare a b c d
def p_limit (st : Int) (d p : Sl) (_m : Int) (a : Bool) (b : Sl) (c : Bool) (f : Sl) : Prop := validS st d p /\ okShare a b c f
def q_limit (st : Int) (d _p : Sl) (m : Int) (a : Bool) (b : Sl) (_c : Bool) (f : Sl) (r e : Int) : Prop := limM st d m (fq a b f) r e
def p_Limit (_st : Int) (_d _p : Sl) (_m : Int) (_a : Bool) (_b : Sl) (_c : Bool) (_f : Sl) : Prop := True
def q_Limit (st : Int) (d p : Sl) (m : Int) (a : Bool) (b : Sl) (c : Bool) (f : Sl) (r e : Int) : Prop := limS st d p m a b c f r e
def ov (st : Int) (d p : Sl) (k : Int) : Int := postedS p (st + k) - d.int k 0
def posi (x : Int) : Int := if x > 0 then x else 0
def outS (st : Int) (d p : Sl) (m : Int) : Int := sumTo (fun k => if st + k < m then posi (ov st d p k) else 0) d.n
def p_outstanding (st : Int) (d p : Sl) (_m : Int) : Prop := validS st d p
def q_outstanding (st : Int) (d p : Sl) (m r : Int) : Prop := r = outS st d p m
def p_Outstanding (_st : Int) (_d _p : Sl) (_m : Int) : Prop := True
def q_Outstanding (st : Int) (d p : Sl) (m r e : Int) : Prop := (¬ validS st d p -> r = 0 /\ e = 2) /\ (validS st d p -> r = outS st d p m /\ e = 0)
def useS (st : Int) (d p : Sl) (m left k : Int) : Int := if st + k < m then imin (posi (ov st d p k)) left else 0
def leftS (st : Int) (d p : Sl) (m lim : Int) : Nat -> Int
 | 0 => lim
 | n + 1 => leftS st d p m lim n - useS st d p m (leftS st d p m lim n) n
def usedS (st : Int) (d p : Sl) (m lim : Int) (n : Nat) : Int := useS st d p m (leftS st d p m lim n) n
def rowsS (st : Int) (d p : Sl) (day m lim : Int) : Nat -> List (List D)
 | 0 => []
 | n + 1 => if 0 < usedS st d p m lim n then rowsS st d p day m lim n ++ [[.int day, .int (st + n), .int 4, .int (-(usedS st d p m lim n))]] else rowsS st d p day m lim n
def takeD (st : Int) (d p : Sl) (day m r e0 : Int) (s : Sl) (e : Int) : Prop :=
 (e0 ≠ 0 -> s.len = 0 /\ e = e0) /\ (e0 = 0 -> (¬ (0 <= day /\ day < 65536) -> s.len = 0 /\ e = 2) /\ (0 <= day /\ day < 65536 -> eqPosts s (Sl.lit (rowsS st d p day m r d.n)) /\ e = 0))
def takeS (st : Int) (d p : Sl) (day m : Int) (a : Bool) (b : Sl) (c : Bool) (f : Sl) (s : Sl) (e : Int) : Prop := ∀ r e0, limS st d p m a b c f r e0 -> takeD st d p day m r e0 s e
def p_Take (_st : Int) (_d _p : Sl) (_day _m : Int) (_a : Bool) (_b : Sl) (_c : Bool) (_f : Sl) : Prop := True
def q_Take (st : Int) (d p : Sl) (day m : Int) (a : Bool) (b : Sl) (c : Bool) (f : Sl) (s : Sl) (e : Int) : Prop := takeS st d p day m a b c f s e
def p_Apply (_st : Int) (_d _p : Sl) (_day _m : Int) (_a : Bool) (_b : Sl) (_c : Bool) (_f : Sl) : Prop := True
def q_Apply (st : Int) (d p : Sl) (day m : Int) (a : Bool) (b : Sl) (c : Bool) (f : Sl) (st' : Int) (d' p' : Sl) (e : Int) : Prop :=
 ∃ s e0, takeS st d p day m a b c f s e0 /\ (e0 ≠ 0 -> zeroS st' d' p' /\ e = e0) /\ (e0 = 0 -> q_Post st d p s st' d' p' e)
end Go.Sx.N
