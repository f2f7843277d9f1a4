/-
 What the functions of arrears are to answer. Conditions: none.
-/
import Derived.Test.YtmhhcnaflklapaaGreatIdxSpec
import Derived.Test.YtmhhcnaflklapaaGreatLedSpec
set_option linter.unusedVariables false
set_option linter.unusedSimpArgs false
namespace Go.Sx.N
def p_aShort (_a : Bool) (_b : Sl) (_c : Bool) (_d : Sl) : Prop := True
def q_aShort (_a : Bool) (b : Sl) (_c : Bool) (d : Sl) (r : Bool) : Prop := r = true ↔ (b.len <= 120 /\ d.len <= 120)
def p_aFirst (_s : Sl) : Prop := True
def q_aFirst (s : Sl) (r : Int) : Prop := (∃ i : Int, 0 <= i /\ i < s.len /\ r = s.int i 0 /\ r ≠ 0 /\ ∀ j : Int, 0 <= j -> j < i -> s.int j 0 = 0) \/ (r = 0 /\ ∀ j : Int, 0 <= j -> j < s.len -> s.int j 0 = 0)
def amtS (q : Rat) (v e : Int) : Prop := (roundQ q 5 < 0 -> v = 0 /\ e = 0) /\ (1099511627776 < roundQ q 5 -> v = 0 /\ e = 3) /\ (0 <= roundQ q 5 -> roundQ q 5 <= 1099511627776 -> v = roundQ q 5 /\ e = 0)
def p_aAmount (_a : Bool) (_b : Sl) (_c : Bool) (_d : Sl) : Prop := True
def q_aAmount (a : Bool) (b : Sl) (c : Bool) (d : Sl) (v e : Int) : Prop := (okF a b c d -> amtS (fq a b d) v e) /\ (¬ okF a b c d -> v = 0 /\ e = 2)
open Classical in
noncomputable def sumS (s : Sl) (known due : Int) : Nat -> GR
 | 0 => .ok 0
 | n + 1 => match sumS s known due n with
  | .err e => .err e
  | .ok q => match rateO s known (1900 + (due + n) / 12) with
   | none => .err 6
   | some r => if fitQ (q + r) then .ok (q + r) else .err 3
def okI (n due paid : Int) (name : ByteArray) (two : Bool) (s : Sl) : Prop := (0 <= n /\ n <= 1099511627776) /\ (0 <= due /\ due <= paid /\ paid <= 2400) /\ validT name two s /\ two = false
def partI (q : Rat) (n v e : Int) : Prop :=
 (¬ (fitQ (q * (n : Rat)) /\ fitQ (q * (n : Rat) / 12)) -> v = 0 /\ e = 3) /\ (fitQ (q * (n : Rat)) -> fitQ (q * (n : Rat) / 12) -> amtS (q * (n : Rat) / 12) v e)
def resI (g : GR) (n v e : Int) : Prop := match g with
 | .err x => v = 0 /\ e = x
 | .ok q => partI q n v e
def intR (n due paid : Int) (name : ByteArray) (two : Bool) (s : Sl) (known v e : Int) : Prop :=
 (¬ okI n due paid name two s -> v = 0 /\ e = 2) /\ (okI n due paid name two s -> ((n = 0 \/ due = paid) -> v = 0 /\ e = 0) /\ (n ≠ 0 -> due ≠ paid -> resI (sumS s known due (paid - due).toNat) n v e))
def p_Interest (_n _due _paid : Int) (name : ByteArray) (_two : Bool) (_s : Sl) (_known : Int) : Prop := okN name
def q_Interest (n due paid : Int) (name : ByteArray) (two : Bool) (s : Sl) (known v e : Int) : Prop := intR n due paid name two s known v e
def openS (st : Int) (d p : Sl) (m : Int) : Int := d.int (m - st) 0 - postedS p m
def lateP (st : Int) (d p : Sl) (m k : Int) : Prop := st + k < m /\ 0 < openS st d p (st + k)
instance (st : Int) (d p : Sl) (m k : Int) : Decidable (lateP st d p m k) := by unfold lateP; infer_instance
def lateS (st : Int) (d p : Sl) (m : Int) : Nat -> List (List D)
 | 0 => []
 | n + 1 => if lateP st d p m n then lateS st d p m n ++ [[.int (st + n)]] else lateS st d p m n
def owedS (st : Int) (d p : Sl) (m : Int) : Nat -> Int
 | 0 => 0
 | n + 1 => if lateP st d p m n then owedS st d p m n + openS st d p (st + n) else owedS st d p m n
def p_Late (_st : Int) (_d _p : Sl) (_m : Int) : Prop := True
def q_Late (st : Int) (d p : Sl) (m : Int) (s : Sl) (e : Int) : Prop := (¬ validS st d p -> s.len = 0 /\ e = 2) /\ (validS st d p -> SameI s (Sl.lit (lateS st d p m d.n)) /\ e = 0)
def p_Owed (_st : Int) (_d _p : Sl) (_m : Int) : Prop := True
def q_Owed (st : Int) (d p : Sl) (m r e : Int) : Prop := (¬ validS st d p -> r = 0 /\ e = 2) /\ (validS st d p -> r = owedS st d p m d.n /\ e = 0)
def amtV (q : Rat) : Int × Int := if roundQ q 5 < 0 then (0, 0) else if 1099511627776 < roundQ q 5 then (0, 3) else (roundQ q 5, 0)
open Classical in
noncomputable def intV (s : Sl) (known n due paid : Int) : Int × Int := match sumS s known due (paid - due).toNat with
 | .err e => (0, e)
 | .ok q => if fitQ (q * (n : Rat)) /\ fitQ (q * (n : Rat) / 12) then amtV (q * (n : Rat) / 12) else (0, 3)
inductive OR where
 | ok (l : List (List D))
 | err (e : Int)
def oweRow (day m n x : Int) : List (List D) := [.int day, .int m, .int 2, .int n] :: (if x = 0 then [] else [[.int day, .int m, .int 3, .int x]])
noncomputable def oweAdd (s : Sl) (known day paid m n : Int) (l : List (List D)) : OR :=
 if 1099511627776 < n then .err 3 else if (intV s known n m paid).2 ≠ 0 then .err (intV s known n m paid).2 else .ok (l ++ oweRow day m n (intV s known n m paid).1)
noncomputable def oweR (s : Sl) (known st : Int) (d p : Sl) (day m : Int) : Nat -> OR
 | 0 => .ok []
 | n + 1 => match oweR s known st d p day m n with
  | .err e => .err e
  | .ok l => if lateP st d p m n then oweAdd s known day m (st + n) (openS st d p (st + n)) l else .ok l
def resO (g : OR) (s : Sl) (e : Int) : Prop := match g with
 | .err x => s.len = 0 /\ e = x
 | .ok l => eqPosts s (Sl.lit l) /\ e = 0
def okO (st : Int) (d p : Sl) (day m : Int) (name : ByteArray) (two : Bool) (s : Sl) : Prop := (validS st d p /\ validT name two s /\ two = false) /\ (0 <= day /\ day < 65536) /\ 0 <= m /\ m <= 2400
def oweD (st : Int) (d p : Sl) (day m : Int) (name : ByteArray) (two : Bool) (s : Sl) (known : Int) (r : Sl) (e : Int) : Prop :=
 (¬ okO st d p day m name two s -> r.len = 0 /\ e = 2) /\ (okO st d p day m name two s -> resO (oweR s known st d p day m d.n) r e)
def p_Owe (_st : Int) (_d _p : Sl) (_day _m : Int) (name : ByteArray) (_two : Bool) (_s : Sl) (_known : Int) : Prop := okN name
def q_Owe (st : Int) (d p : Sl) (day m : Int) (name : ByteArray) (two : Bool) (s : Sl) (known : Int) (r : Sl) (e : Int) : Prop := oweD st d p day m name two s known r e
def p_Settle (_st : Int) (_d _p : Sl) (_day _m : Int) (name : ByteArray) (_two : Bool) (_s : Sl) (_known : Int) : Prop := okN name
def q_Settle (st : Int) (d p : Sl) (day m : Int) (name : ByteArray) (two : Bool) (s : Sl) (known st' : Int) (d' p' : Sl) (e : Int) : Prop :=
 ∃ r e0, oweD st d p day m name two s known r e0 /\ (e0 ≠ 0 -> zeroS st' d' p' /\ e = e0) /\ (e0 = 0 -> q_Post st d p r st' d' p' e)
def p_part (_n _d : Int) : Prop := True
def q_part (n d : Int) (a : Bool) (b : Sl) (c : Bool) (e : Sl) : Prop := q_kFrac n d a b c e
def ratesN : ByteArray := bytes [114, 97, 116, 101, 115]
def p_rates (_s : Sl) : Prop := True
def q_rates (t : Sl) (n : ByteArray) (two : Bool) (s : Sl) : Prop := n = ratesN /\ two = false /\ s.len = 1 + imin t.len 8 /\ rowI s 0 0 0 0 /\ ∀ i : Int, 0 <= i -> i < imin t.len 8 -> rowI s (1 + i) (1990 + i) 0 (Rat.divInt (t.int i 0) 1000)
def p_yearly : Prop := True
def q_yearly (n : ByteArray) (two : Bool) (s : Sl) : Prop := n = ratesN /\ two = false /\ s.len = 2 /\ rowI s 0 2020 0 (Rat.divInt 6 100) /\ rowI s 1 2021 0 (Rat.divInt 12 100)
def p_lPosted : Prop := True
def q_lPosted (st : Int) (d p : Sl) : Prop := st = 1451 /\ d = Sl.lit [[.int 100], [.int 200], [.int 300]] /\ p = Sl.lit [[.int 0, .int 1452, .int 1, .int 50]]
def p_paids (_p _q : Sl) : Prop := True
def q_paids (p q : Sl) (r : Bool) : Prop := r = true ↔ eqPosts p q
def p_ints (_p _q : Sl) : Prop := True
def q_ints (p q : Sl) (r : Bool) : Prop := r = true ↔ SameI p q
def p_light (_n : ByteArray) (_two : Bool) (_s : Sl) : Prop := True
def q_light (_n : ByteArray) (_two : Bool) (s : Sl) (r : Bool) : Prop := r = true ↔ (s.len <= 12 /\ ∀ i : Int, 0 <= i -> i < s.len -> (s.sub i 4).len <= 4 /\ (s.sub i 6).len <= 4)
def nearS (due paid : Int) : Prop := due < 0 \/ 2400 < paid \/ paid < due \/ paid - due <= 200
def p_near (_due _paid : Int) : Prop := True
def q_near (due paid : Int) (r : Bool) : Prop := r = true ↔ nearS due paid
def p_few (_st : Int) (_d _p : Sl) (_m : Int) : Prop := True
def q_few (st : Int) (d p : Sl) (m : Int) (r : Bool) : Prop := r = true ↔ ((d.len <= 20 /\ p.len <= 40) /\ (st < 0 \/ 2400 < st \/ nearS st m))
def p_aAwake : Prop := True
def q_aAwake (r : Bool) : Prop := r = true
def p_xOpen (st : Int) (d p : Sl) (m : Int) : Prop := validS st d p /\ hasS st d m
def q_xOpen (st : Int) (d p : Sl) (m r : Int) : Prop := r = openS st d p m
def p_xLate (st : Int) (d p : Sl) (_m : Int) : Prop := validS st d p
def q_xLate (st : Int) (d p : Sl) (m : Int) (s : Sl) : Prop := SameI s (Sl.lit (lateS st d p m d.n))
def p_tRight (_two : Bool) (_a _b _k : Int) (_nn : Bool) (_nl : Sl) (_dn : Bool) (_dl : Sl) : Prop := True
def q_tRight (two : Bool) (a b k : Int) (nn : Bool) (nl : Sl) (dn : Bool) (dl : Sl) (r : Bool) : Prop := r = true ↔ rightS two a b k nn nl dn dl
def p_tBefore (_a _b _k : Int) (_nn : Bool) (_nl : Sl) (_dn : Bool) (_dl : Sl) (_a' _b' _k' : Int) (_nn' : Bool) (_nl' : Sl) (_dn' : Bool) (_dl' : Sl) : Prop := True
def q_tBefore (a b k : Int) (_nn : Bool) (_nl : Sl) (_dn : Bool) (_dl : Sl) (a' b' k' : Int) (_nn' : Bool) (_nl' : Sl) (_dn' : Bool) (_dl' : Sl) (r : Bool) : Prop := r = true ↔ ltK a b k a' b' k'
def p_rTValid (name : ByteArray) (_two : Bool) (_s : Sl) : Prop := okN name
def q_rTValid (name : ByteArray) (two : Bool) (s : Sl) (r : Bool) : Prop := r = true ↔ validT name two s
def p_tForce (_name : ByteArray) (_two : Bool) (s : Sl) (i _known : Int) : Prop := (0 <= i /\ i < s.len) /\ s.len <= 400
def q_tForce (_name : ByteArray) (_two : Bool) (s : Sl) (i known : Int) (r : Bool) : Prop := r = true ↔ inForce s known i
def p_rLook (name : ByteArray) (_two : Bool) (_s : Sl) (_a _known : Int) : Prop := okN name
def q_rLook (name : ByteArray) (two : Bool) (s : Sl) (a known : Int) (a' : Bool) (b' : Sl) (c' : Bool) (d' : Sl) (e : Int) : Prop := lookR (validT name two s /\ two = false) (candX s a known) s a' b' c' d' e
def p_rOver (a : Bool) (b : Sl) (c : Bool) (d : Sl) (a' : Bool) (b' : Sl) (c' : Bool) (d' : Sl) : Prop := (smF a b c d /\ smF a' b' c' d') /\ zv a' b' ≠ 0
def q_rOver (a : Bool) (b : Sl) (_c : Bool) (d : Sl) (a' : Bool) (b' : Sl) (_c' : Bool) (d' : Sl) (nn : Bool) (nl : Sl) (dn : Bool) (dl : Sl) : Prop := IsQ (fq a b d / fq a' b' d') nn nl dn dl
def p_rZero (_a : Bool) (_b : Sl) (_c : Bool) (_d : Sl) : Prop := True
def q_rZero (_a : Bool) (b : Sl) (_c : Bool) (_d : Sl) (r : Bool) : Prop := r = true ↔ b.len = 0
def p_rAdd2 (_a : Bool) (_b : Sl) (_c : Bool) (_d : Sl) (_a' : Bool) (_b' : Sl) (_c' : Bool) (_d' : Sl) : Prop := True
def q_rAdd2 (a : Bool) (b : Sl) (c : Bool) (d : Sl) (a' : Bool) (b' : Sl) (c' : Bool) (d' : Sl) (nn : Bool) (nl : Sl) (dn : Bool) (dl : Sl) (e : Int) : Prop := q_fAdd a b c d a' b' c' d' nn nl dn dl e
def p_rMul2 (_a : Bool) (_b : Sl) (_c : Bool) (_d : Sl) (_a' : Bool) (_b' : Sl) (_c' : Bool) (_d' : Sl) : Prop := True
def q_rMul2 (a : Bool) (b : Sl) (c : Bool) (d : Sl) (a' : Bool) (b' : Sl) (c' : Bool) (d' : Sl) (nn : Bool) (nl : Sl) (dn : Bool) (dl : Sl) (e : Int) : Prop := q_fMul a b c d a' b' c' d' nn nl dn dl e
def p_rDiv2 (_a : Bool) (_b : Sl) (_c : Bool) (_d : Sl) (_a' : Bool) (_b' : Sl) (_c' : Bool) (_d' : Sl) : Prop := True
def q_rDiv2 (a : Bool) (b : Sl) (c : Bool) (d : Sl) (a' : Bool) (b' : Sl) (c' : Bool) (d' : Sl) (nn : Bool) (nl : Sl) (dn : Bool) (dl : Sl) (e : Int) : Prop := q_fDiv a b c d a' b' c' d' nn nl dn dl e
def p_rFactor (a : Bool) (b : Sl) (c : Bool) (d : Sl) (a' : Bool) (b' : Sl) (c' : Bool) (d' : Sl) (mode : Int) : Prop := (okF a b c d /\ okF a' b' c' d' /\ IsQ 1 a' b' c' d') /\ mode = 5
def q_rFactor (a : Bool) (b : Sl) (_c : Bool) (d : Sl) (_a' : Bool) (_b' : Sl) (_c' : Bool) (_d' : Sl) (_mode : Int) (n : Bool) (l : Sl) : Prop := (NW n l /\ zv n l = roundQ (fq a b d) 5) /\ l.len <= 1000
def p_rRound2 (_a : Bool) (_b : Sl) (_c : Bool) (_d : Sl) (a' : Bool) (b' : Sl) (c' : Bool) (d' : Sl) (mode : Int) : Prop := (IsQ 1 a' b' c' d' /\ b'.len <= 256 /\ d'.len <= 256) /\ mode = 5
def q_rRound2 (a : Bool) (b : Sl) (c : Bool) (d : Sl) (_a' : Bool) (_b' : Sl) (_c' : Bool) (_d' : Sl) (_mode : Int) (nn : Bool) (nl : Sl) (dn : Bool) (dl : Sl) (e : Int) : Prop :=
 (okF a b c d -> resF (roundQ (fq a b d) 5 : Int) nn nl dn dl e) /\ (¬ okF a b c d -> zeroF nn nl dn dl /\ e = 2)
def p_xInterest (_n _due _paid : Int) (name : ByteArray) (_two : Bool) (_s : Sl) (_known : Int) : Prop := okN name
def q_xInterest (n due paid : Int) (name : ByteArray) (two : Bool) (s : Sl) (known v e : Int) : Prop := intR n due paid name two s known v e
def p_xOwe (_st : Int) (_d _p : Sl) (_day _m : Int) (name : ByteArray) (_two : Bool) (_s : Sl) (_known : Int) : Prop := okN name
def q_xOwe (st : Int) (d p : Sl) (day m : Int) (name : ByteArray) (two : Bool) (s : Sl) (known : Int) (r : Sl) (e : Int) : Prop := oweD st d p day m name two s known r e
def p_xPost (_st : Int) (_d p q : Sl) : Prop := p.len <= 1000000 /\ q.len <= 1000000
def q_xPost (st : Int) (d p q : Sl) (st' : Int) (d' p' : Sl) (e : Int) : Prop := q_Post st d p q st' d' p' e
def p_Tells (_st : Int) (_d _p : Sl) (_n _due _day _m : Int) (_name : ByteArray) (_two : Bool) (_s : Sl) (_known : Int) : Prop := okN _name
def q_Tells (_st : Int) (_d _p : Sl) (_n _due _day _m : Int) (_name : ByteArray) (_two : Bool) (_s : Sl) (_known : Int) (r : Bool) : Prop := r = true
end Go.Sx.N
