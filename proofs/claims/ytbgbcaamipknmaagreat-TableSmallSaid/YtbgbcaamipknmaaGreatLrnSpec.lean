/-
 What the functions about learning a row while others look are to answer. Conditions: none.
-/
import Derived.Test.YtbgbcaamipknmaaGreatMemSpec
set_option linter.unusedVariables false
set_option linter.unusedSimpArgs false
namespace Go.Sx.N
def roomL (b d : Sl) : Prop := roomN b.n /\ roomN d.n
def p_kLentRow (_a _b _k : Int) (_s : Bool) (l : Sl) (_t : Bool) (d : Sl) : Prop := roomL l d
def q_kLentRow (a b k : Int) (s : Bool) (l : Sl) (t : Bool) (d : Sl) (a' b' k' : Int) (s' : Bool) (l' : Sl) (t' : Bool) (d' : Sl) : Prop := (a' = a /\ b' = b /\ k' = k) /\ s' = s /\ l' = l /\ t' = t /\ d' = d
def p_kKeptRow (a b k : Int) (s : Bool) (l : Sl) (t : Bool) (d : Sl) (a' b' k' : Int) (s' : Bool) (l' : Sl) (t' : Bool) (d' : Sl) : Prop := ((a = a' /\ b = b' /\ k = k') /\ s = s' /\ l = l' /\ t = t' /\ d = d') /\ roomL l d
def q_kKeptRow (_a _b _k : Int) (_s : Bool) (_l : Sl) (_t : Bool) (_d : Sl) (_a' _b' _k' : Int) (_s' : Bool) (_l' : Sl) (_t' : Bool) (_d' : Sl) (r : Bool) : Prop := r = true
def p_kOverRow (_a _b _k : Int) (_s : Bool) (_l : Sl) (_t : Bool) (_d : Sl) : Prop := True
def q_kOverRow (_a _b _k : Int) (_s : Bool) (_l : Sl) (_t : Bool) (_d : Sl) : Prop := True
def p_rLearn (name : ByteArray) (_two : Bool) (_s : Sl) (_a _b _k : Int) (_nn : Bool) (_nl : Sl) (_dn : Bool) (_dl : Sl) : Prop := okN name
def q_rLearn (name : ByteArray) (two : Bool) (s : Sl) (a b k : Int) (nn : Bool) (nl : Sl) (dn : Bool) (dl : Sl) (name' : ByteArray) (two' : Bool) (s' : Sl) (e : Int) : Prop := q_Learn name two s a b k nn nl dn dl name' two' s' e
def p_learns (name : ByteArray) (_two : Bool) (s : Sl) (_a _b _k : Int) (_nn : Bool) (nl : Sl) (_dn : Bool) (dl : Sl) : Prop := (okN name /\ tabB s) /\ roomL nl dl
def q_learns (_name : ByteArray) (_two : Bool) (_s : Sl) (_a _b _k : Int) (_nn : Bool) (_nl : Sl) (_dn : Bool) (_dl : Sl) (r : Bool) : Prop := r = true
end Go.Sx.N
