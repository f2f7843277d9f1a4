/-
 Growth and its reference; lending a value and a table. Conditions: none.
-/
import Derived.Test.YtclonhmgeabdeaaGreatDoorIdxSpec
import Derived.Test.YtclonhmgeabdeaaGreatDoorMemSpec
set_option linter.unusedVariables false
set_option linter.unusedSimpArgs false
namespace Go.Sx.N
def roomF (b d : Sl) : Prop := roomN b.n /\ roomN d.n
def p_kLentFrac (_a : Bool) (b : Sl) (_c : Bool) (d : Sl) : Prop := roomF b d
def q_kLentFrac (a : Bool) (b : Sl) (c : Bool) (d : Sl) (a' : Bool) (b' : Sl) (c' : Bool) (d' : Sl) : Prop := a' = a /\ b' = b /\ c' = c /\ d' = d
def p_kKeptFrac (a : Bool) (b : Sl) (c : Bool) (d : Sl) (a' : Bool) (b' : Sl) (c' : Bool) (d' : Sl) : Prop := (a = a' /\ b = b' /\ c = c' /\ d = d') /\ roomF b d
def q_kKeptFrac (_a : Bool) (_b : Sl) (_c : Bool) (_d : Sl) (_a' : Bool) (_b' : Sl) (_c' : Bool) (_d' : Sl) (r : Bool) : Prop := r = true
def p_kOverFrac (_a : Bool) (_b : Sl) (_c : Bool) (_d : Sl) : Prop := True
def q_kOverFrac (_a : Bool) (_b : Sl) (_c : Bool) (_d : Sl) : Prop := True
def p_rOver (a : Bool) (b : Sl) (c : Bool) (d : Sl) (a' : Bool) (b' : Sl) (c' : Bool) (d' : Sl) : Prop := (smF a b c d /\ smF a' b' c' d') /\ zv a' b' ≠ 0
def q_rOver (a : Bool) (b : Sl) (_c : Bool) (d : Sl) (a' : Bool) (b' : Sl) (_c' : Bool) (d' : Sl) (nn : Bool) (nl : Sl) (dn : Bool) (dl : Sl) : Prop := IsQ (fq a b d / fq a' b' d') nn nl dn dl
def p_rZero (_a : Bool) (_b : Sl) (_c : Bool) (_d : Sl) : Prop := True
def q_rZero (_a : Bool) (b : Sl) (_c : Bool) (_d : Sl) (r : Bool) : Prop := r = true ↔ b.len = 0
def p_rAdd2 (_a : Bool) (_b : Sl) (_c : Bool) (_d : Sl) (_a' : Bool) (_b' : Sl) (_c' : Bool) (_d' : Sl) : Prop := True
def q_rAdd2 (a : Bool) (b : Sl) (c : Bool) (d : Sl) (a' : Bool) (b' : Sl) (c' : Bool) (d' : Sl) (nn : Bool) (nl : Sl) (dn : Bool) (dl : Sl) (e : Int) : Prop := q_fAdd a b c d a' b' c' d' nn nl dn dl e
def p_rMul2 (_a : Bool) (_b : Sl) (_c : Bool) (_d : Sl) (_a' : Bool) (_b' : Sl) (_c' : Bool) (_d' : Sl) : Prop := True
def q_rMul2 (a : Bool) (b : Sl) (c : Bool) (d : Sl) (a' : Bool) (b' : Sl) (c' : Bool) (d' : Sl) (nn : Bool) (nl : Sl) (dn : Bool) (dl : Sl) (e : Int) : Prop := q_fMul a b c d a' b' c' d' nn nl dn dl e
def p_rDiv2 (_a : Bool) (_b : Sl) (_c : Bool) (_d : Sl) (_a' : Bool) (_b' : Sl) (_c' : Bool) (_d' : Sl) : Prop := True
def q_rDiv2 (a : Bool) (b : Sl) (c : Bool) (d : Sl) (a' : Bool) (b' : Sl) (c' : Bool) (d' : Sl) (nn : Bool) (nl : Sl) (dn : Bool) (dl : Sl) (e : Int) : Prop := q_fDiv a b c d a' b' c' d' nn nl dn dl e
def p_yGrow (name : ByteArray) (_two : Bool) (_s : Sl) (_a _b _known : Int) : Prop := okN name
def q_yGrow (name : ByteArray) (two : Bool) (s : Sl) (a b known : Int) (nn : Bool) (nl : Sl) (dn : Bool) (dl : Sl) (e : Int) : Prop := growR name two s a b known nn nl dn dl e
def p_yRaise (_vn : Bool) (_vl : Sl) (_vd : Bool) (_vk : Sl) (name : ByteArray) (_two : Bool) (_s : Sl) (_a _b _known : Int) : Prop := okN name
def q_yRaise (vn : Bool) (vl : Sl) (vd : Bool) (vk : Sl) (name : ByteArray) (two : Bool) (s : Sl) (a b known : Int) (nn : Bool) (nl : Sl) (dn : Bool) (dl : Sl) (e : Int) : Prop :=
 chgR (mulF (fq vn vl vk)) vn vl vd vk name two s a b known nn nl dn dl e
def p_yLower (_vn : Bool) (_vl : Sl) (_vd : Bool) (_vk : Sl) (name : ByteArray) (_two : Bool) (_s : Sl) (_a _b _known : Int) : Prop := okN name
def q_yLower (vn : Bool) (vl : Sl) (vd : Bool) (vk : Sl) (name : ByteArray) (two : Bool) (s : Sl) (a b known : Int) (nn : Bool) (nl : Sl) (dn : Bool) (dl : Sl) (e : Int) : Prop :=
 chgR (divF (fq vn vl vk)) vn vl vd vk name two s a b known nn nl dn dl e
def p_grows (_vn : Bool) (vl : Sl) (_vd : Bool) (vk : Sl) (name : ByteArray) (_two : Bool) (s : Sl) (_a _b _known : Int) : Prop := (okN name /\ tabB s) /\ roomF vl vk
def q_grows (_vn : Bool) (_vl : Sl) (_vd : Bool) (_vk : Sl) (_name : ByteArray) (_two : Bool) (_s : Sl) (_a _b _known : Int) (r : Bool) : Prop := r = true
def p_WSmall : Prop := True
def q_WSmall (r : Bool) : Prop := r = true
end Go.Sx.N
