/-
 What states as the reference has them, and its taking back, are to answer. Conditions: none.
-/
import Derived.Test.YtccbjhfdfbaekaaGreatRunSpec
set_option linter.unusedVariables false
set_option linter.unusedSimpArgs false
namespace Go.Sx.N
def oU (a b : Sl) : Prop := a.len = b.len /\ ∀ i : Int, 0 <= i -> i < a.len -> lT a i b i /\ (a.bool i 9 = true ↔ b.bool i 9 = true)
def Qu (st : Int) (d p : Sl) (mo g t : Int) (l : Sl) (st' : Int) (d' p' : Sl) (bQ g' t' : Int) (l' : Sl) : Prop := X7 st d p st' d' p' /\ (mo = bQ /\ g = g' /\ t = t') /\ oU l l'
def G8 (nN : Int) (_d _p : Sl) (yt _g _t : Int) (_l : Sl) (amQ : Int) (_d' _p' : Sl) (amR _g' _t' : Int) (_l' : Sl) : Prop := True
def mY (st : Int) (d p : Sl) (mo g t : Int) (l : Sl) (st' : Int) (d' p' : Sl) (bQ g' t' : Int) (l' : Sl) (r : Bool) : Prop := r = true ↔ Qu st d p mo g t l st' d' p' bQ g' t' l'
def LC (st : Int) (d p : Sl) (mo g t : Int) (l : Sl) (st' : Int) (d' p' : Sl) (bQ g' t' : Int) (l' : Sl) : Prop := (st' = st /\ d' = d /\ p' = p) /\ (bQ = mo /\ g' = g /\ t' = t) /\ oU l' l
def NV (nN : Int) (d p : Sl) (yt _g _t : Int) (l : Sl) : Prop := d.len <= 1000000 /\ p.len <= 1000000 /\ l.len <= 1000000
def BJ (st : Int) (d p : Sl) (mo g t : Int) (l : Sl) (st' : Int) (d' p' : Sl) (bQ g' t' : Int) (l' : Sl) : Prop := LC st d p mo g t l st' d' p' bQ g' t' l'
def G9 (nN : Int) (_d _p : Sl) (yt _g _t : Int) (l : Sl) : Prop := l.len <= 1000000
def He (st : Int) (d p : Sl) (mo g t : Int) (l : Sl) (st' : Int) (d' p' : Sl) (bQ g' t' : Int) (l' : Sl) : Prop := LC st d p mo g t l st' d' p' bQ g' t' l'
def Jl (nN : Int) (_d _p : Sl) (yt _g _t : Int) (_l : Sl) : Prop := True
def bG (st : Int) (d p : Sl) (mo g t : Int) (l : Sl) (r : Bool) : Prop := r = true ↔ dU st d p mo g t l
def Fq (nN : Int) (_d _p : Sl) (yt _g _t : Int) (_l : Sl) (Fv vX : Int) : Prop := True
def fH (st : Int) (d p : Sl) (mo g t : Int) (l : Sl) (num day : Int) (st' : Int) (d' p' : Sl) (bQ g' t' : Int) (l' : Sl) (e : Int) : Prop := gB st d p mo g t l num day st' d' p' bQ g' t' l' e
def SE (nN : Int) (_d _p : Sl) (yt _g _t : Int) (_l : Sl) (Fv vX : Int) : Prop := True
def vU (nN : Int) (_d _p : Sl) (yt _g _t : Int) (_l : Sl) (Fv vX : Int) (r : Bool) : Prop := r = true
end Go.Sx.N
