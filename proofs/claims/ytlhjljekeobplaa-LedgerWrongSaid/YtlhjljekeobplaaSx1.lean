/-
  The definitions of a symbolic executor over the model's code: values, trees, states, the executor itself. Conditions: none; nothing is proved here.
-/
import Derived.Calls
import Derived.Orders
namespace Go.Sx

/-- The kinds of a cell that is plain data. -/
inductive K where
  | int (k : IntKind)
  | bool
  | str
  | sl (elem : TypeId)

def K.beq : K → K → Bool
  | .int a, .int b => a == b
  | .bool, .bool => true
  | .str, .str => true
  | .sl a, .sl b => a == b
  | _, _ => false

/-- Plain data: what a cell reads as; no address in it. -/
inductive D where
  | int (n : Int)
  | bool (b : Bool)
  | str (s : ByteArray)
  | sl (n : Nat) (f : Nat → Nat → D)

/-- The cell kinds of a type, flattened; none: it holds what is no plain data. -/
def kindsF (P : Program) : Nat → TypeId → Option (List K)
  | 0, _ => none
  | n + 1, t =>
    match P.underlying t with
    | some (.int k) => some [.int k]
    | some .bool => some [.bool]
    | some .string => some [.str]
    | some (.slice e) => some [.sl e]
    | some (.struct fs) => fs.toList.foldr (fun f acc => match kindsF P n f.type, acc with | some a, some b => some (a ++ b) | _, _ => none) (some [])
    | some (.array m e) => (kindsF P n e).map fun l => (List.replicate m l).flatten
    | _ => none

/-- The same, and the type table's own size agrees. -/
def kinds (P : Program) (t : TypeId) : Option (List K) :=
  match kindsF P 8 t, P.info? t with
  | some l, some i => if i.size == l.length then some l else none
  | _, _ => none

/-- What a leaf is: an integer, a truth value, a string, a slice's content. -/
inductive Cl (I B Y S : Type) where
  | int (x : I)
  | bool (x : B)
  | str (x : Y)
  | sl (x : S)

/-- The shape of raw data: for quantifiers and curried predicates. -/
inductive RK where
  | int | bool | str | sl

structure Alg where
  I : Type
  B : Type
  Y : Type
  S : Type
  P : Type
  V : Type
  lit : Int → I
  arith : BinOp → IntKind → I → I → I
  wrap : IntKind → I → I
  imin : I → I → I
  imax : I → I → I
  cmp : BinOp → I → I → B
  bnot : B → B
  band : B → B → B
  beq : B → B → B
  blit : Bool → B
  ylit : ByteArray → Y
  ylen : Y → I
  ychr : Y → I → I
  yeq : Y → Y → B
  len : S → I
  cellI : S → I → Nat → I
  cellB : S → I → Nat → B
  cellY : S → I → Nat → Y
  cellS : S → I → Nat → S
  nilS : S
  sub : S → I → I → S
  upd : S → I → Nat → List (Cl I B Y S) → S
  app : S → S → S
  listS : List (List (Cl I B Y S)) → S
  replS : I → List (Cl I B Y S) → S
  le : I → I → P
  lt : I → I → P
  ne : I → I → P
  rng : IntKind → I → P
  ranged : S → List (Option IntKind) → P
  small : S → P
  pre : FuncId → List (Cl I B Y S) → P
  post : FuncId → List (Cl I B Y S) → List (Cl I B Y S) → P

abbrev Alg.C (A : Alg) : Type := Cl A.I A.B A.Y A.S

/-- What the executor leaves: a tree of conditions. -/
inductive Tree (A : Alg) where
  | need (p : A.P) (t : Tree A)
  | given (p : A.P) (t : Tree A)
  | br (b : A.B) (t e : Tree A)
  | both (t e : Tree A)
  | allI (f : A.I → Tree A)
  | allB (f : A.B → Tree A)
  | allY (f : A.Y → Tree A)
  | allS (f : A.S → Tree A)
  | loop (sh : List RK) (entry : List A.C) (f : A.V → Tree A)
  | inv (v : A.V) (xs : List A.C) (t : Tree A)
  | again (v : A.V) (old new : List A.C)
  | join (sh : List RK) (f : A.V → Tree A)
  | put (v : A.V) (xs : List A.C)
  | done
  | fail (why : String) (n : Nat)

/-- Symbolic values. -/
inductive SV (A : Alg) where
  | int (k : IntKind) (x : A.I)
  | blit (b : Bool)
  | bool (b : A.B)
  | str (y : A.Y)
  | sl (id : Nat)
  | ptr (box off : Nat)
  | eptr (id sz : Nat) (i : A.I) (off : Nat)
  | fn (f : FuncId) (caps : List (SV A))
  | yld (i : Nat)
  | agg (l : List (SV A))
  | tup (l : List (SV A))
  | con (v : Value)
  | junk

/-- No part of it is unknown. -/
def SV.clean {A : Alg} : SV A → Bool
  | .junk => false
  | .agg l => cleans l
  | .tup l => cleans l
  | .fn _ l => cleans l
  | _ => true
where
  cleans : List (SV A) → Bool
    | [] => true
    | v :: l => SV.clean v && cleans l

structure Box (A : Alg) where
  ty : TypeId
  cells : List (SV A)
  ver : Nat
  live : Bool

structure Ent (A : Alg) where
  elem : TypeId
  s : A.S
  own : Bool
  live : Bool
  ver : Nat

structure St (A : Alg) where
  tmps : List (SV A)
  boxes : List (Box A)
  ents : List (Ent A)
  wr : Bool := false
  rg : Bool := false

section
variable {A : Alg}

def ofConCell : Value → SV A
  | .int k n => if k.min ≤ n ∧ n ≤ k.max then .int k (A.lit n) else .junk
  | .bool b => .blit b
  | .string s => .str (A.ylit s)
  | .agg _ => .junk
  | .tuple _ => .junk
  | v => .con v

def ofCon : Value → SV A
  | .agg cs => .agg (cs.toList.map ofConCell)
  | .tuple vs => if vs.size == 0 then .con (.tuple #[]) else .junk
  | v => ofConCell v

def St.ev (st : St A) : Operand → SV A
  | .tmp t => st.tmps.getD t .junk
  | .const v => ofCon v
  | .global _ => .junk
  | .func f => .fn f []

def setTmp (st : St A) (d : Option Nat) (v : SV A) : St A :=
  match d with
  | none => st
  | some d => { st with tmps := st.tmps.set d v }

/-- The cells of a value. -/
def cellsOf : SV A → List (SV A)
  | .agg l => l
  | v => [v]

def isCell : SV A → Bool
  | .agg _ => false
  | .tup _ => false
  | .junk => false
  | .con (.agg _) => false
  | .con (.tuple _) => false
  | _ => true

/-- A leaf of a cell, at a kind. -/
def toCl (ents : List (Ent A)) : K → SV A → Option A.C
  | .int k, .int k' x => if k == k' then some (.int x) else none
  | .bool, .blit b => some (.bool (A.blit b))
  | .bool, .bool b => some (.bool b)
  | .str, .str y => some (.str y)
  | .sl e, .sl id => match ents[id]? with
    | some en => if en.live && en.elem == e then some (.sl en.s) else none
    | none => none
  | .sl _, .con (.slice none 0 0) => some (.sl A.nilS)
  | _, _ => none

/-- A leaf of a cell that may lie in another's row: a slice must be a plain readable one. -/
def toClR (ents : List (Ent A)) (k : K) (v : SV A) : Option A.C :=
  match v with
  | .sl id => match ents[id]? with
    | some en => if en.own then none else toCl ents k (.sl id)
    | none => none
  | v => toCl ents k v

def toClsR (ents : List (Ent A)) : List K → List (SV A) → Option (List A.C)
  | [], [] => some []
  | k :: ks, v :: vs => match toClR ents k v, toClsR ents ks vs with
    | some c, some cs => some (c :: cs)
    | _, _ => none
  | _, _ => none

def toCls (ents : List (Ent A)) : List K → List (SV A) → Option (List A.C)
  | [], [] => some []
  | k :: ks, v :: vs => match toCl ents k v, toCls ents ks vs with
    | some c, some cs => some (c :: cs)
    | _, _ => none
  | _, _ => none

def isAggT (P : Program) (t : TypeId) : Bool :=
  match P.underlying t with
  | some (.struct _) => true
  | some (.array _ _) => true
  | _ => false

def sizeT (P : Program) (t : TypeId) : Option Nat := (P.info? t).map (·.size)

/-- A value that is loaded: cells as one, or as an aggregate. -/
def pack (P : Program) (t : TypeId) (l : List (SV A)) : Option (SV A) :=
  if isAggT P t then some (.agg l) else match l with
    | [v] => some v
    | _ => none

def needs (ps : List A.P) (t : Tree A) : Tree A := ps.foldr Tree.need t
def givens (ps : List A.P) (t : Tree A) : Tree A := ps.foldr Tree.given t

/-- The outcome of an operation that neither writes nor makes memory: what must hold, the value, what holds besides. -/
structure Pu (A : Alg) where
  ns : List A.P
  v : SV A
  gs : List A.P

def ok (v : SV A) : Option (Pu A) := some ⟨[], v, []⟩

def intOp (wr : Bool) (op : BinOp) (k : IntKind) (x y : A.I) : Option (Pu A) :=
  match op with
  | .add | .sub | .mul =>
    if k.signed && !wr then some ⟨[A.rng k (A.arith op k x y)], .int k (A.arith op k x y), []⟩ else ok (.int k (A.wrap k (A.arith op k x y)))
  | .quo => if k.signed then some ⟨[A.ne y (A.lit 0), A.rng k (A.arith .quo k x y)], .int k (A.arith .quo k x y), []⟩
    else some ⟨[A.ne y (A.lit 0)], .int k (A.wrap k (A.arith .quo k x y)), []⟩
  | .rem => if k.signed then some ⟨[A.ne y (A.lit 0), A.rng k (A.arith .rem k x y)], .int k (A.arith .rem k x y), []⟩
    else some ⟨[A.ne y (A.lit 0), A.rng k (A.arith .rem k x y)], .int k (A.arith .rem k x y), []⟩
  | .and | .or | .xor | .andNot => ok (.int k (A.wrap k (A.arith op k x y)))
  | .eql | .neq | .lss | .leq | .gtr | .geq => ok (.bool (A.cmp op x y))
  | .shl | .shr => none

def shiftOp (op : BinOp) (k : IntKind) (x : A.I) (y : A.I) : Option (Pu A) :=
  match op with
  | .shl => some ⟨[A.le (A.lit 0) y], .int k (A.wrap k (A.arith .shl k x y)), []⟩
  | .shr => some ⟨[A.le (A.lit 0) y, A.rng k (A.arith .shr k x y)], .int k (A.arith .shr k x y), []⟩
  | _ => none

def asB : SV A → Option A.B
  | .blit b => some (A.blit b)
  | .bool b => some b
  | _ => none

/-- Two cells of one kind, equal? (integers, truth values) -/
def eqCell : SV A → SV A → Option A.B
  | .int k x, .int k' y => if k == k' then some (A.cmp .eql x y) else none
  | _, _ => none

def eqCells : List (SV A) → List (SV A) → Option A.B
  | [], [] => some (A.blit true)
  | [x], [y] => eqCell x y
  | x :: xs, y :: ys => match eqCell x y, eqCells xs ys with
    | some b, some c => some (A.band b c)
    | _, _ => none
  | _, _ => none

/-- A struct type all of whose fields are integers of one cell, none called _. -/
def plainStruct (P : Program) (t : TypeId) (n : Nat) : Bool :=
  match P.underlying t with
  | some (.struct fs) => fs.toList.zipIdx.all (fun (f, i) => f.name != "_" && f.offset == i && (match P.underlying f.type with | some (.int _) => true | _ => false)) && !P.stoodInHeld t && !P.eqGuardType P.depth t && fs.toList.length == n
  | _ => false

def fieldOff (P : Program) (t : TypeId) (f : Nat) : Option (Nat × TypeId) :=
  match P.underlying t with
  | some (.struct fs) => match fs[f]? with
    | some fd => match sizeT P fd.type with
      | some n => if n == 0 then none else some (fd.offset, fd.type)
      | none => none
    | none => none
  | _ => none

def elemOf? (P : Program) (t : TypeId) : Option TypeId :=
  match P.underlying t with
  | some (.slice e) => some e
  | _ => none

/-- The cells of an element that is loaded: no slice among them. -/
def elemCells (s : A.S) (i : A.I) : List K → Nat → Option (List (SV A))
  | [], _ => some []
  | .int k :: ks, j => (elemCells s i ks (j + 1)).map (.int k (A.cellI s i j) :: ·)
  | .bool :: ks, j => (elemCells s i ks (j + 1)).map (.bool (A.cellB s i j) :: ·)
  | .str :: ks, j => (elemCells s i ks (j + 1)).map (.str (A.cellY s i j) :: ·)
  | .sl _ :: _, _ => none

/-- The kinds of the integers among an element's cells. -/
def rks (P : Program) (e : TypeId) : List (Option IntKind) := match kinds P e with
  | some ks => ks.map fun k => match k with
    | .int k => some k
    | _ => none
  | none => []

def elemGivens (P : Program) (rg : Bool) (s : A.S) (i : A.I) : List K → Nat → List A.P
  | [], _ => []
  | .int k :: ks, j => A.rng k (A.cellI s i j) :: elemGivens P rg s i ks (j + 1)
  | .sl e :: ks, j => if rg then A.ranged (A.cellS s i j) (rks P e) :: elemGivens P rg s i ks (j + 1) else elemGivens P rg s i ks (j + 1)
  | _ :: ks, j => elemGivens P rg s i ks (j + 1)

def boolOp (P : Program) (op : BinOp) (t : TypeId) (x y : A.B) : Option (Pu A) :=
  match P.underlying t, op with
  | some .bool, .eql => ok (.bool (A.beq x y))
  | some .bool, .neq => ok (.bool (A.bnot (A.beq x y)))
  | _, _ => none

def pureBin (P : Program) (wr : Bool) (op : BinOp) (t : TypeId) : SV A → SV A → Option (Pu A)
  | .int k x, .int k' y =>
    if op == .shl || op == .shr then shiftOp op k x y else if k == k' then intOp wr op k x y else none
  | .bool x, .bool y => boolOp P op t x y
  | .bool x, .blit y => boolOp P op t x (A.blit y)
  | .blit x, .bool y => boolOp P op t (A.blit x) y
  | .blit x, .blit y => boolOp P op t (A.blit x) (A.blit y)
  | .agg xs, .agg ys => if plainStruct P t xs.length then match op, eqCells xs ys with
      | .eql, some b => ok (.bool b)
      | .neq, some b => ok (.bool (A.bnot b))
      | _, _ => none
    else none
  | .str x, .str y => match op with
      | .eql => ok (.bool (A.yeq x y))
      | .neq => ok (.bool (A.bnot (A.yeq x y)))
      | _ => none
  | _, _ => none

def fillParts (l : List (SV A)) : List (Nat × List (SV A)) → Option (List (SV A))
  | [] => some l
  | (off, cs) :: rest => if off + cs.length ≤ l.length then fillParts (l.take off ++ cs ++ l.drop (off + cs.length)) rest else none

/-- The zero value's cells. -/
def zeroCellsOf (P : Program) (t : TypeId) : Option (List (SV A)) :=
  match P.info? t with
  | some i => match i.zero with
    | some z => some (cellsOf (ofCon z))
    | none => none
  | none => none

def buildParts (P : Program) (t : TypeId) (parts : List (Nat × SV A)) : Option (List (Nat × List (SV A))) :=
  match parts with
  | [] => some []
  | (i, v) :: rest => match P.underlying t, buildParts P t rest with
    | some (.struct fs), some r => match fs[i]? with
      | some f => if sizeT P f.type == some (cellsOf v).length && (cellsOf v).all isCell then some ((f.offset, cellsOf v) :: r) else none
      | none => none
    | some (.array _ e), some r => match sizeT P e with
      | some n => if n == (cellsOf v).length && (cellsOf v).all isCell then some ((i * n, cellsOf v) :: r) else none
      | none => none
    | _, _ => none

def fieldsOk (P : Program) (t : TypeId) : Bool :=
  match P.underlying t with
  | some (.struct fs) => fs.toList.all fun f => (sizeT P f.type).isSome
  | some (.array _ e) => (sizeT P e).isSome
  | _ => false

def pMove (st : St A) (x : Operand) : Option (Pu A) :=
  match st.ev x with
    | .junk => none
    | v => ok v

def pPick (st : St A) (c a b : Operand) : Option (Pu A) :=
  match st.ev c with
    | .blit true => match st.ev a with
      | .junk => none
      | v => ok v
    | .blit false => match st.ev b with
      | .junk => none
      | v => ok v
    | _ => none

def pFieldAddr (P : Program) (st : St A) (t : TypeId) (x : Operand) (f : Nat) : Option (Pu A) :=
  match fieldOff P t f, st.ev x with
    | some (off, _), .ptr b o' => ok (.ptr b (o' + off))
    | some (off, _), .eptr id sz i o' => ok (.eptr id sz i (o' + off))
    | _, _ => none

def pLoad (P : Program) (st : St A) (t : TypeId) (x : Operand) : Option (Pu A) :=
  if !(P.underlying t).isSome then none else match st.ev x, kinds P t, sizeT P t with
    | .ptr b off, _, some n => match st.boxes[b]? with
      | some bx => if bx.live && off + n ≤ bx.cells.length && ((bx.cells.drop off).take n).all SV.clean then (pack P t ((bx.cells.drop off).take n)).bind ok else none
      | none => none
    | .eptr id sz i off, some _, some n => match st.ents[id]? with
      | some en => if en.live then match kinds P en.elem with
          | some ks => if off + n ≤ ks.length && sz == ks.length then match elemCells en.s i ((ks.drop off).take n) off with
              | some l => match pack P t l with
                | some v => some ⟨[], v, elemGivens P st.rg en.s i ((ks.drop off).take n) off⟩
                | none => none
              | none => none
            else none
          | none => none
        else none
      | none => none
    | _, _, _ => none

def pIndexAddr (P : Program) (st : St A) (t : TypeId) (x ix : Operand) : Option (Pu A) :=
  match elemOf? P t, st.ev x, st.ev ix with
    | some e, .sl id, .int _ i => match st.ents[id]? with
      | some en => match kinds P e with
        | some ks => if en.live && en.elem == e && 0 < ks.length then some ⟨[A.le (A.lit 0) i, A.lt i (A.len en.s)], .eptr id ks.length i 0, []⟩ else none
        | none => none
      | none => none
    | _, _, _ => none

def pNil (st : St A) (x : Operand) : Option (Pu A) :=
  match st.ev x with
    | .ptr b off => ok (.ptr b off)
    | .fn f caps => ok (.fn f caps)
    | .yld i => ok (.yld i)
    | _ => none

def pUn (st : St A) (op : UnOp) (x : Operand) : Option (Pu A) :=
  match op, st.ev x with
    | .not, .blit b => ok (.blit !b)
    | .not, .bool b => ok (.bool (A.bnot b))
    | .neg, .int k n => intOp st.wr .sub k (A.lit 0) n
    | .xor, .int k n => ok (.int k (A.wrap k (A.arith .xor k (A.lit (if k.signed then -1 else k.max)) n)))
    | _, _ => none

def pConvert (P : Program) (st : St A) (src dst : TypeId) (x : Operand) : Option (Pu A) :=
  match P.underlying src, P.underlying dst, st.ev x with
    | some _, some (.int k), .int k' n => if k'.min ≥ k.min ∧ k'.max ≤ k.max then ok (.int k n) else ok (.int k (A.wrap k n))
    | _, _, _ => none

def pMakeFunc (st : St A) (f : FuncId) (first caps : Array Operand) : Option (Pu A) :=
  if first.size == 0 then ok (.fn f (caps.toList.map st.ev)) else none

def pBuild (P : Program) (st : St A) (t : TypeId) (parts : Array (Nat × Operand)) : Option (Pu A) :=
  match zeroCellsOf P t, buildParts P t (parts.toList.map fun (i, x) => (i, st.ev x)) with
    | some z, some ps => (fillParts z ps).bind fun l => if fieldsOk P t then ok (.agg l) else none
    | _, _ => none

def pField (P : Program) (st : St A) (t : TypeId) (x : Operand) (f : Nat) : Option (Pu A) :=
  match fieldOff P t f, st.ev x with
    | some (off, ft), .agg l => match sizeT P ft with
      | some n => if off + n ≤ l.length && (P.underlying ft).isSome then (pack P ft ((l.drop off).take n)).bind ok else none
      | none => none
    | _, _ => none

def pExtract (st : St A) (x : Operand) (ix : Nat) : Option (Pu A) :=
  match st.ev x with
    | .tup l => match l[ix]? with
      | some .junk => none
      | some v => ok v
      | none => none
    | _ => none

def pLen (P : Program) (st : St A) (args : Array Operand) (argTypes : Array TypeId) : Option (Pu A) :=
  match args.toList, argTypes.toList with
    | [x], [t] => match P.underlying t, st.ev x with
      | some (.slice _), .sl id => match st.ents[id]? with
        | some en => if en.live then some ⟨[], .int .i64 (A.len en.s), [A.small en.s]⟩ else none
        | none => none
      | some (.slice _), .con (.slice none 0 0) => ok (.int .i64 (A.lit 0))
      | some .string, .str y => some ⟨[A.rng .i64 (A.ylen y)], .int .i64 (A.ylen y), []⟩
      | some (.array n _), _ => if (n : Int) ≤ IntKind.i64.max then ok (.int .i64 (A.lit n)) else none
      | _, _ => none
    | _, _ => none

def pMin (st : St A) (args : Array Operand) : Option (Pu A) :=
  match args.toList with
    | [x, y] => match st.ev x, st.ev y with
      | .int k a, .int k' b => if k == k' then ok (.int k (A.imin a b)) else none
      | _, _ => none
    | _ => none

def pMax (st : St A) (args : Array Operand) : Option (Pu A) :=
  match args.toList with
    | [x, y] => match st.ev x, st.ev y with
      | .int k a, .int k' b => if k == k' then ok (.int k (A.imax a b)) else none
      | _, _ => none
    | _ => none

def pCap (P : Program) (st : St A) (args : Array Operand) (argTypes : Array TypeId) : Option (Pu A) :=
  match args.toList, argTypes.toList with
    | [x], [t] => match P.underlying t, st.ev x with
      | some (.slice _), .con (.slice none 0 0) => ok (.int .i64 (A.lit 0))
      | _, _ => none
    | _, _ => none

/-- A letter of a string. -/
def pIndex (P : Program) (st : St A) (t : TypeId) (x ix : Operand) : Option (Pu A) :=
  match P.underlying t, st.ev x, st.ev ix with
    | some .string, .str y, .int _ i => some ⟨[A.le (A.lit 0) i, A.lt i (A.ylen y)], .int .u8 (A.ychr y i), []⟩
    | _, _, _ => none

/-- An operation that neither writes nor makes memory. -/
def pureOp (P : Program) (st : St A) (o : Oper) : Option (Pu A) :=
  match o.op with
  | .move x | .assign x => pMove st x
  | .pick c a b => pPick st c a b
  | .fieldAddr t x f => pFieldAddr P st t x f
  | .load t x => pLoad P st t x
  | .indexAddr t x ix => pIndexAddr P st t x ix
  | .nilCheck x => pNil st x
  | .binOp op t x y _ => pureBin P st.wr op t (st.ev x) (st.ev y)
  | .unOp op _ x => pUn st op x
  | .convert src dst x => pConvert P st src dst x
  | .makeFunc (.func f) first caps => pMakeFunc st f first caps
  | .build t parts => pBuild P st t parts
  | .field t x f => pField P st t x f
  | .extract x ix => pExtract st x ix
  | .call { callee := .builtin .len, args, argTypes } => pLen P st args argTypes
  | .call { callee := .builtin .cap, args, argTypes } => pCap P st args argTypes
  | .index t x ix => pIndex P st t x ix
  | .call { callee := .builtin .min, args, .. } => pMin st args
  | .call { callee := .builtin .max, args, .. } => pMax st args
  | _ => none

end
end Go.Sx
