/-
 What lending, comparing and overwriting is to answer, and the tables' reference. Conditions: none.
-/
import Derived.Test.YtbgbcaamipknmaaGreatTabSpec
set_option linter.unusedVariables false
set_option linter.unusedSimpArgs false
namespace Go.Sx.N
def roomN (n : Nat) : Prop := 2 * (n + 12) <= 140737488355328
def tabB (s : Sl) : Prop := 88 * (s.n + 12) <= 140737488355328 /\ ∀ i, i < s.n -> roomN (s.f i 4).toS.n /\ roomN (s.f i 6).toS.n
def p_kLentTable (_n : ByteArray) (_two : Bool) (s : Sl) : Prop := tabB s
def q_kLentTable (n : ByteArray) (two : Bool) (s : Sl) (n' : ByteArray) (two' : Bool) (s' : Sl) : Prop := n' = n /\ two' = two /\ s' = s
def p_kKeptTable (n : ByteArray) (two : Bool) (s : Sl) (n' : ByteArray) (two' : Bool) (s' : Sl) : Prop := n = n' /\ two = two' /\ s = s' /\ tabB s
def q_kKeptTable (_n : ByteArray) (_two : Bool) (_s : Sl) (_n' : ByteArray) (_two' : Bool) (_s' : Sl) (r : Bool) : Prop := r = true
def p_kOverTable (_n : ByteArray) (_two : Bool) (_s : Sl) : Prop := True
def q_kOverTable (_n : ByteArray) (_two : Bool) (_s : Sl) : Prop := True
def p_tRight (_two : Bool) (_a _b _k : Int) (_nn : Bool) (_nl : Sl) (_dn : Bool) (_dl : Sl) : Prop := True
def q_tRight (two : Bool) (a b k : Int) (nn : Bool) (nl : Sl) (dn : Bool) (dl : Sl) (r : Bool) : Prop := r = true ↔ rightS two a b k nn nl dn dl
def p_tBefore (_a _b _k : Int) (_nn : Bool) (_nl : Sl) (_dn : Bool) (_dl : Sl) (_a' _b' _k' : Int) (_nn' : Bool) (_nl' : Sl) (_dn' : Bool) (_dl' : Sl) : Prop := True
def q_tBefore (a b k : Int) (_nn : Bool) (_nl : Sl) (_dn : Bool) (_dl : Sl) (a' b' k' : Int) (_nn' : Bool) (_nl' : Sl) (_dn' : Bool) (_dl' : Sl) (r : Bool) : Prop := r = true ↔ ltK a b k a' b' k'
def p_rTValid (name : ByteArray) (_two : Bool) (_s : Sl) : Prop := okN name
def q_rTValid (name : ByteArray) (two : Bool) (s : Sl) (r : Bool) : Prop := r = true ↔ validT name two s
def p_tForce (_name : ByteArray) (_two : Bool) (s : Sl) (i _known : Int) : Prop := (0 <= i /\ i < s.len) /\ s.len <= 400
def q_tForce (_name : ByteArray) (_two : Bool) (s : Sl) (i known : Int) (r : Bool) : Prop := r = true ↔ inForce s known i
def p_rLook (name : ByteArray) (_two : Bool) (_s : Sl) (_a _known : Int) : Prop := okN name
def q_rLook (name : ByteArray) (two : Bool) (s : Sl) (a known : Int) (a' : Bool) (b' : Sl) (c' : Bool) (d' : Sl) (e : Int) : Prop := lookR (validT name two s /\ two = false) (candX s a known) s a' b' c' d' e
def p_rLookTwo (name : ByteArray) (_two : Bool) (_s : Sl) (_a _b _known : Int) : Prop := okN name
def q_rLookTwo (name : ByteArray) (two : Bool) (s : Sl) (a b known : Int) (a' : Bool) (b' : Sl) (c' : Bool) (d' : Sl) (e : Int) : Prop := lookR (validT name two s /\ two = true) (candT s a b known) s a' b' c' d' e
def p_looks (name : ByteArray) (_two : Bool) (s : Sl) (_a _b _known : Int) : Prop := okN name /\ tabB s
def q_looks (_name : ByteArray) (_two : Bool) (_s : Sl) (_a _b _known : Int) (r : Bool) : Prop := r = true
end Go.Sx.N
