/-
 The definitions of a symbolic executor over the model's code: values, trees, states, the executor itself. Conditions: none; nothing is proved here.
 The second half of the symbolic executor's definitions: operations that make or write memory, calls, loops, the code. Conditions: none; nothing is proved here.
-/
import Derived.Calls
import Derived.Orders
set_option linter.unusedVariables false
set_option linter.unusedSimpArgs false
namespace Go.Sx
inductive K where
 | int (k : IntKind)
 | bool
 | str
 | sl (elem : TypeId)
def K.beq : K -> K -> Bool
 | .int a, .int b => a == b
 | .bool, .bool => true
 | .str, .str => true
 | .sl a, .sl b => a == b
 | _, _ => false
inductive D where
 | int (n : Int)
 | bool (b : Bool)
 | str (s : ByteArray)
 | sl (n : Nat) (f : Nat -> Nat -> D)
def nX (P : Program) : Nat -> TypeId -> Option (List K)
 | 0, _ => none
 | n + 1, t =>
  match P.underlying t with
  | some (.int k) => some [.int k]
  | some .bool => some [.bool]
  | some .string => some [.str]
  | some (.slice e) => some [.sl e]
  | some (.struct fs) => fs.toList.foldr (fun f acc => match nX P n f.type, acc with | some a, some b => some (a ++ b) | _, _ => none) (some [])
  | some (.array m e) => (nX P n e).map fun l => (List.replicate m l).flatten
  | _ => none
def kinds (P : Program) (t : TypeId) : Option (List K) :=
 match nX P 8 t, P.info? t with
 | some l, some i => if i.size == l.length then some l else none
 | _, _ => none
inductive Cl (I B Y S : Type) where
 | int (x : I)
 | bool (x : B)
 | str (x : Y)
 | sl (x : S)
inductive RK where
 | int | bool | str | sl
structure y7 where
 I : Type
 B : Type
 Y : Type
 S : Type
 P : Type
 V : Type
 lit : Int -> I
 arith : BinOp -> IntKind -> I -> I -> I
 wrap : IntKind -> I -> I
 bH : I -> I -> I
 imax : I -> I -> I
 cmp : BinOp -> I -> I -> B
 IZ : B -> B
 band : B -> B -> B
 beq : B -> B -> B
 bG : Bool -> B
 amH : ByteArray -> Y
 jf : Y -> I
 lF : Y -> I -> I
 yeq : Y -> Y -> B
 len : S -> I
 Oc : S -> I -> Nat -> I
 adb : S -> I -> Nat -> B
 ade : S -> I -> Nat -> Y
 cellS : S -> I -> Nat -> S
 I4 : S
 sub : S -> I -> I -> S
 upd : S -> I -> Nat -> List (Cl I B Y S) -> S
 app : S -> S -> S
 RY : List (List (Cl I B Y S)) -> S
 adf : I -> List (Cl I B Y S) -> S
 bF : S -> I -> List (Cl I B Y S) -> S
 qQ : S -> I -> B
 iD : S -> I -> List (Cl I B Y S) -> S
 le : I -> I -> P
 lt : I -> I -> P
 ne : I -> I -> P
 rng : IntKind -> I -> P
 ranged : S -> List (Option IntKind) -> P
 small : S -> P
 pre : FuncId -> List (Cl I B Y S) -> P
 post : FuncId -> List (Cl I B Y S) -> List (Cl I B Y S) -> P
abbrev y7.C (A : y7) : Type := Cl A.I A.B A.Y A.S
inductive Tree (A : y7) where
 | need (p : A.P) (t : Tree A)
 | given (p : A.P) (t : Tree A)
 | br (b : A.B) (t e : Tree A)
 | both (t e : Tree A)
 | allI (f : A.I -> Tree A)
 | allB (f : A.B -> Tree A)
 | amI (f : A.Y -> Tree A)
 | amJ (f : A.S -> Tree A)
 | loop (sh : List RK) (entry : List A.C) (f : A.V -> Tree A)
 | inv (v : A.V) (xs : List A.C) (t : Tree A)
 | again (v : A.V) (old new : List A.C)
 | join (sh : List RK) (f : A.V -> Tree A)
 | put (v : A.V) (xs : List A.C)
 | done
 | fail (why : String) (n : Nat)
inductive SV (A : y7) where
 | int (k : IntKind) (x : A.I)
 | bG (b : Bool)
 | bool (b : A.B)
 | str (y : A.Y)
 | sl (id : Nat)
 | ptr (box off : Nat)
 | uq (id sz : Nat) (i : A.I) (off : Nat)
 | view (id sz : Nat) (lo n : A.I)
 | BN (box n : Nat)
 | fn (f : FuncId) (caps : List (SV A))
 | JX (f : FuncId) (first : List (SV A))
 | oP (i : Nat)
 | agg (l : List (SV A))
 | G6 (l : List (SV A))
 | con (v : Value)
 | junk
 | glob (g : Nat)
 | VW (g n : Nat) (i : A.I)
def SV.clean {A : y7} : SV A -> Bool
 | .junk => false
 | .agg l => cleans l
 | .G6 l => cleans l
 | .fn _ l => cleans l
 | .JX _ l => cleans l
 | _ => true
where
 cleans : List (SV A) -> Bool
  | [] => true
  | v :: l => SV.clean v && cleans l
structure Box (A : y7) where
 ty : TypeId
 cells : List (SV A)
 ver : Nat
 live : Bool
structure dI (A : y7) where
 elem : TypeId
 s : A.S
 own : Bool
 live : Bool
 ver : Nat
def ql (t : TypeId) : TypeId := t + 1000000000
def gG (e : TypeId) : Bool := Nat.ble 1000000000 e
def VU (e : TypeId) : Bool := Nat.ble 2000000000 e
def unL (e : TypeId) : TypeId := e - 2000000000
def unM (e : TypeId) : TypeId := e - 1000000000
structure St (A : y7) where
 tmps : List (SV A)
 boxes : List (Box A)
 ents : List (dI A)
 wr : Bool := false
 rg : Bool := false
section
variable {A : y7}
def yL : Value -> SV A
 | .int k n => if k.min <= n /\ n <= k.max then .int k (A.lit n) else .junk
 | .bool b => .bG b
 | .string s => .str (A.amH s)
 | .agg _ => .junk
 | .tuple _ => .junk
 | v => .con v
def Oe : Value -> SV A
 | .agg cs => .agg (cs.toList.map yL)
 | .tuple vs => if vs.size == 0 then .con (.tuple #[]) else .junk
 | v => yL v
def St.ev (st : St A) : Operand -> SV A
 | .tmp t => st.tmps.getD t .junk
 | .const v => Oe v
 | .global g => .glob g
 | .func f => .fn f []
def dK (st : St A) (d : Option Nat) (v : SV A) : St A :=
 match d with
 | none => st
 | some d => { st with tmps := st.tmps.set d v }
def cellsOf : SV A -> List (SV A)
 | .agg l => l
 | v => [v]
def jo : SV A -> Bool
 | .agg _ => false
 | .G6 _ => false
 | .junk => false
 | .con (.agg _) => false
 | .con (.tuple _) => false
 | _ => true
def qw (ents : List (dI A)) : K -> SV A -> Option A.C
 | .int k, .int k' x => if k == k' then some (.int x) else none
 | .bool, .bG b => some (.bool (A.bG b))
 | .bool, .bool b => some (.bool b)
 | .str, .str y => some (.str y)
 | .sl e, .sl id => match ents[id]? with
  | some en => if en.live && (en.elem == e && !gG e) then some (.sl en.s) else none
  | none => none
 | .sl _, .con (.slice none 0 0) => some (.sl A.I4)
 | _, _ => none
def xH (ents : List (dI A)) (k : K) (v : SV A) : Option A.C :=
 match v with
 | .sl id => match ents[id]? with
  | some en => if en.own then none else qw ents k (.sl id)
  | none => none
 | v => qw ents k v
def nY (ents : List (dI A)) : List K -> List (SV A) -> Option (List A.C)
 | [], [] => some []
 | k :: ks, v :: vs => match xH ents k v, nY ents ks vs with
  | some c, some cs => some (c :: cs)
  | _, _ => none
 | _, _ => none
def mZ (ents : List (dI A)) : List K -> List (SV A) -> Option (List A.C)
 | [], [] => some []
 | k :: ks, v :: vs => match qw ents k v, mZ ents ks vs with
  | some c, some cs => some (c :: cs)
  | _, _ => none
 | _, _ => none
def tC (P : Program) (t : TypeId) : Bool :=
 match P.underlying t with
 | some (.struct _) => true
 | some (.array _ _) => true
 | _ => false
def sizeT (P : Program) (t : TypeId) : Option Nat := (P.info? t).map (·.size)
def pack (P : Program) (t : TypeId) (l : List (SV A)) : Option (SV A) :=
 if tC P t then some (.agg l) else match l with
  | [v] => some v
  | _ => none
def needs (ps : List A.P) (t : Tree A) : Tree A := ps.foldr Tree.need t
def zy (ps : List A.P) (t : Tree A) : Tree A := ps.foldr Tree.given t
structure Pu (A : y7) where
 ns : List A.P
 v : SV A
 gs : List A.P
def ok (v : SV A) : Option (Pu A) := some ⟨[], v, []⟩
def X3 (wr : Bool) (op : BinOp) (k : IntKind) (x y : A.I) : Option (Pu A) :=
 match op with
 | .add | .sub | .mul =>
  if k.signed && !wr then some ⟨[A.rng k (A.arith op k x y)], .int k (A.arith op k x y), []⟩ else ok (.int k (A.wrap k (A.arith op k x y)))
 | .quo => if k.signed then some ⟨[A.ne y (A.lit 0), A.rng k (A.arith .quo k x y)], .int k (A.arith .quo k x y), []⟩
  else some ⟨[A.ne y (A.lit 0)], .int k (A.wrap k (A.arith .quo k x y)), []⟩
 | .rem => if k.signed then some ⟨[A.ne y (A.lit 0), A.rng k (A.arith .rem k x y)], .int k (A.arith .rem k x y), []⟩
  else some ⟨[A.ne y (A.lit 0), A.rng k (A.arith .rem k x y)], .int k (A.arith .rem k x y), []⟩
 | .and | .or | .xor | .andNot => ok (.int k (A.wrap k (A.arith op k x y)))
 | .eql | .neq | .lss | .leq | .gtr | .geq => ok (.bool (A.cmp op x y))
 | .shl | .shr => none
def shiftOp (op : BinOp) (k : IntKind) (x : A.I) (y : A.I) : Option (Pu A) :=
 match op with
 | .shl => some ⟨[A.le (A.lit 0) y], .int k (A.wrap k (A.arith .shl k x y)), []⟩
 | .shr => some ⟨[A.le (A.lit 0) y, A.rng k (A.arith .shr k x y)], .int k (A.arith .shr k x y), []⟩
 | _ => none
def Si : SV A -> SV A -> Option A.B
 | .int k x, .int k' y => if k == k' then some (A.cmp .eql x y) else none
 | _, _ => none
def uh : List (SV A) -> List (SV A) -> Option A.B
 | [], [] => some (A.bG true)
 | [x], [y] => Si x y
 | x :: xs, y :: ys => match Si x y, uh xs ys with
  | some b, some c => some (A.band b c)
  | _, _ => none
 | _, _ => none
def O9 (P : Program) (t : TypeId) (n : Nat) : Bool :=
 match P.underlying t with
 | some (.struct fs) => fs.toList.zipIdx.all (fun (f, i) => f.name != "_" && f.offset == i && (match P.underlying f.type with | some (.int _) => true | _ => false)) && !P.stoodInHeld t && !P.eqGuardType P.depth t && fs.toList.length == n
 | _ => false
def EU (P : Program) (t : TypeId) (f : Nat) : Option (Nat × TypeId) :=
 match P.underlying t with
 | some (.struct fs) => match fs[f]? with
  | some fd => match sizeT P fd.type with
   | some n => if n == 0 then none else some (fd.offset, fd.type)
   | none => none
  | none => none
 | _ => none
def ni (P : Program) (t : TypeId) : Option TypeId :=
 match P.underlying t with
 | some (.slice e) => some e
 | _ => none
def mO (s : A.S) (i : A.I) : List K -> Nat -> Option (List (SV A))
 | [], _ => some []
 | .int k :: ks, j => (mO s i ks (j + 1)).map (.int k (A.Oc s i j) :: ·)
 | .bool :: ks, j => (mO s i ks (j + 1)).map (.bool (A.adb s i j) :: ·)
 | .str :: ks, j => (mO s i ks (j + 1)).map (.str (A.ade s i j) :: ·)
 | .sl _ :: _, _ => none
def rks (P : Program) (e : TypeId) : List (Option IntKind) := match kinds P e with
 | some ks => ks.map fun k => match k with
  | .int k => some k
  | _ => none
 | none => []
def dW (P : Program) (rg : Bool) (s : A.S) (i : A.I) : List K -> Nat -> List A.P
 | [], _ => []
 | .int k :: ks, j => A.rng k (A.Oc s i j) :: dW P rg s i ks (j + 1)
 | .sl e :: ks, j => if rg then A.ranged (A.cellS s i j) (rks P e) :: dW P rg s i ks (j + 1) else dW P rg s i ks (j + 1)
 | _ :: ks, j => dW P rg s i ks (j + 1)
def Hu (P : Program) (op : BinOp) (t : TypeId) (x y : A.B) : Option (Pu A) :=
 match P.underlying t, op with
 | some .bool, .eql => ok (.bool (A.beq x y))
 | some .bool, .neq => ok (.bool (A.IZ (A.beq x y)))
 | _, _ => none
def UR (P : Program) (wr : Bool) (op : BinOp) (t : TypeId) : SV A -> SV A -> Option (Pu A)
 | .int k x, .int k' y =>
  if op == .shl || op == .shr then shiftOp op k x y else if k == k' then X3 wr op k x y else none
 | .bool x, .bool y => Hu P op t x y
 | .bool x, .bG y => Hu P op t x (A.bG y)
 | .bG x, .bool y => Hu P op t (A.bG x) y
 | .bG x, .bG y => Hu P op t (A.bG x) (A.bG y)
 | .agg xs, .agg ys => if O9 P t xs.length then match op, uh xs ys with
   | .eql, some b => ok (.bool b)
   | .neq, some b => ok (.bool (A.IZ b))
   | _, _ => none
  else none
 | .str x, .str y => match op with
   | .eql => ok (.bool (A.yeq x y))
   | .neq => ok (.bool (A.IZ (A.yeq x y)))
   | _ => none
 | _, _ => none
def BX (l : List (SV A)) : List (Nat × List (SV A)) -> Option (List (SV A))
 | [] => some l
 | (off, cs) :: rest => if off + cs.length <= l.length then BX (l.take off ++ cs ++ l.drop (off + cs.length)) rest else none
def qm (P : Program) (t : TypeId) : Option (List (SV A)) :=
 match P.info? t with
 | some i => match i.zero with
  | some z => some (cellsOf (Oe z))
  | none => none
 | none => none
def wo (P : Program) (t : TypeId) (parts : List (Nat × SV A)) : Option (List (Nat × List (SV A))) :=
 match parts with
 | [] => some []
 | (i, v) :: rest => match P.underlying t, wo P t rest with
  | some (.struct fs), some r => match fs[i]? with
   | some f => if sizeT P f.type == some (cellsOf v).length && (cellsOf v).all jo then some ((f.offset, cellsOf v) :: r) else none
   | none => none
  | some (.array _ e), some r => match sizeT P e with
   | some n => if n == (cellsOf v).length && (cellsOf v).all jo then some ((i * n, cellsOf v) :: r) else none
   | none => none
  | _, _ => none
def Zc (P : Program) (t : TypeId) : Bool :=
 match P.underlying t with
 | some (.struct fs) => fs.toList.all fun f => (sizeT P f.type).isSome
 | some (.array _ e) => (sizeT P e).isSome
 | _ => false
def adg (st : St A) (x : Operand) : Option (Pu A) :=
 match st.ev x with
  | .junk => none
  | v => ok v
def adh (st : St A) (c a b : Operand) : Option (Pu A) :=
 match st.ev c with
  | .bG true => match st.ev a with
   | .junk => none
   | v => ok v
  | .bG false => match st.ev b with
   | .junk => none
   | v => ok v
  | _ => none
def I7 (P : Program) (st : St A) (t : TypeId) (x : Operand) (f : Nat) : Option (Pu A) :=
 match EU P t f, st.ev x with
  | some (off, _), .ptr b o' => ok (.ptr b (o' + off))
  | some (off, _), .uq id sz i o' => ok (.uq id sz i (o' + off))
  | _, _ => none
def gTab : List (String × IntKind × List Int) := [("annuitant/calendar.lengths", .i64, [31, 28, 31, 30, 31, 30, 31, 31, 30, 31, 30, 31])]
def RF (P : Program) (g : Nat) : Option (IntKind × List Int) := gTab.findSome? fun r => match P.globalNamed r.1 with
 | some g' => if g' == g then some r.2 else none
 | none => none
def I8 (P : Program) (st : St A) (t : TypeId) (x ix : Operand) : Option (Pu A) :=
 match P.underlying t, st.ev x, st.ev ix with
 | some (.array n e), .glob g, .int _ i => match sizeT P e, RF P g with
  | some 1, some r => if r.2.length == n then some ⟨[A.le (A.lit 0) i, A.lt i (A.lit (n : Int))], .VW g n i, []⟩ else none
  | _, _ => none
 | _, _, _ => none
def LV (P : Program) (st : St A) (t : TypeId) (x : Operand) : Option (Pu A) :=
 match P.underlying t, st.ev x, sizeT P t with
 | some (.int k), .VW g n i, some 1 => match RF P g with
  | some r => if k == r.1 && (r.2.length == n && r.2.all fun x => decide (k.min <= x) && decide (x <= k.max)) then some ⟨[], .int k (A.Oc (A.RY (r.2.map fun x => [.int (A.lit x)])) i 0), [A.rng k (A.Oc (A.RY (r.2.map fun x => [.int (A.lit x)])) i 0)]⟩ else none
  | none => none
 | _, _, _ => none
def adi (P : Program) (st : St A) (t : TypeId) (x : Operand) : Option (Pu A) :=
 if !(P.underlying t).isSome then none else match st.ev x, kinds P t, sizeT P t with
  | .ptr b off, _, some n => match st.boxes[b]? with
   | some bx => if bx.live && off + n <= bx.cells.length && ((bx.cells.drop off).take n).all SV.clean then (pack P t ((bx.cells.drop off).take n)).bind ok else none
   | none => none
  | .uq id sz i off, some _, some n => match st.ents[id]? with
   | some en => if en.live && !gG en.elem then match kinds P en.elem with
     | some ks => if off + n <= ks.length && sz == ks.length then match mO en.s i ((ks.drop off).take n) off with
       | some l => match pack P t l with
        | some v => some ⟨[], v, dW P st.rg en.s i ((ks.drop off).take n) off⟩
        | none => none
       | none => none
      else none
     | none => none
    else none
   | none => none
  | _, _, _ => LV P st t x
def constInt : Operand -> Option Int
 | .const (.int _ n) => some n
 | _ => none
def LW (P : Program) (st : St A) (t : TypeId) (x ix : Operand) : Option (Pu A) :=
 match P.underlying t, st.ev x, constInt ix with
  | some (.array n e), .ptr b off, some j => match sizeT P e with
   | some sz => if 0 < sz && (decide (0 <= j) && decide (j < (n : Int))) then ok (.ptr b (off + j.toNat * sz)) else none
   | none => none
  | _, _, _ => I8 P st t x ix
def I9 (P : Program) (st : St A) (t : TypeId) (x ix : Operand) : Option (Pu A) :=
 match ni P t, st.ev x, st.ev ix with
  | some e, .sl id, .int _ i => match st.ents[id]? with
   | some en => match kinds P e with
    | some ks => if en.live && (en.elem == e && !gG e) && 0 < ks.length then some ⟨[A.le (A.lit 0) i, A.lt i (A.len en.s)], .uq id ks.length i 0, []⟩ else none
    | none => none
   | none => none
  | some e, .view id sz lo n, .int _ i => match kinds P e with
   | some ks => if sz == ks.length && 0 < ks.length then some ⟨[A.le (A.lit 0) i, A.lt i n], .uq id sz (A.arith .add .i64 lo i) 0, []⟩ else none
   | none => none
  | _, _, _ => LW P st t x ix
def ahu (st : St A) (x : Operand) : Option (Pu A) :=
 match st.ev x with
  | .ptr b off => ok (.ptr b off)
  | .fn f caps => ok (.fn f caps)
  | .oP i => ok (.oP i)
  | .uq id sz i off => ok (.uq id sz i off)
  | _ => none
def pUn (st : St A) (op : UnOp) (x : Operand) : Option (Pu A) :=
 match op, st.ev x with
  | .not, .bG b => ok (.bG !b)
  | .not, .bool b => ok (.bool (A.IZ b))
  | .neg, .int k n => X3 st.wr .sub k (A.lit 0) n
  | .xor, .int k n => ok (.int k (A.wrap k (A.arith .xor k (A.lit (if k.signed then -1 else k.max)) n)))
  | _, _ => none
def Qi (P : Program) (st : St A) (src dst : TypeId) (x : Operand) : Option (Pu A) :=
 match P.underlying src, P.underlying dst, st.ev x with
  | some _, some (.int k), .int k' n => if k'.min >= k.min /\ k'.max <= k.max then ok (.int k n) else ok (.int k (A.wrap k n))
  | _, _, _ => none
def LX (st : St A) (f : FuncId) (first caps : Array Operand) : Option (Pu A) :=
 if first.size == 0 then ok (.fn f (caps.toList.map st.ev)) else if caps.size == 0 then ok (.JX f (first.toList.map st.ev)) else none
def Zb (P : Program) (st : St A) (t : TypeId) (parts : Array (Nat × Operand)) : Option (Pu A) :=
 match qm P t, wo P t (parts.toList.map fun (i, x) => (i, st.ev x)) with
  | some z, some ps => (BX z ps).bind fun l => if Zc P t then ok (.agg l) else none
  | _, _ => none
def Za (P : Program) (st : St A) (t : TypeId) (x : Operand) (f : Nat) : Option (Pu A) :=
 match EU P t f, st.ev x with
  | some (off, ft), .agg l => match sizeT P ft with
   | some n => if off + n <= l.length && (P.underlying ft).isSome then (pack P ft ((l.drop off).take n)).bind ok else none
   | none => none
  | _, _ => none
def Qj (st : St A) (x : Operand) (ix : Nat) : Option (Pu A) :=
 match st.ev x with
  | .G6 l => match l[ix]? with
   | some .junk => none
   | some v => ok v
   | none => none
  | _ => none
def ahx (P : Program) (st : St A) (args : Array Operand) (argTypes : Array TypeId) : Option (Pu A) :=
 match args.toList, argTypes.toList with
  | [x], [t] => match P.underlying t, st.ev x with
   | some (.slice _), .sl id => match st.ents[id]? with
    | some en => if en.live && !gG en.elem then some ⟨[], .int .i64 (A.len en.s), [A.small en.s]⟩ else none
    | none => none
   | some (.slice _), .con (.slice none 0 0) => ok (.int .i64 (A.lit 0))
   | some (.slice _), .view _ _ _ n => ok (.int .i64 n)
   | some (.slice _), .BN _ n => if (n : Int) <= IntKind.i64.max then ok (.int .i64 (A.lit n)) else none
   | some .string, .str y => some ⟨[A.rng .i64 (A.jf y)], .int .i64 (A.jf y), []⟩
   | some (.array n _), _ => if (n : Int) <= IntKind.i64.max then ok (.int .i64 (A.lit n)) else none
   | _, _ => none
  | _, _ => none
def ahz (st : St A) (args : Array Operand) : Option (Pu A) :=
 match args.toList with
  | [x, y] => match st.ev x, st.ev y with
   | .int k a, .int k' b => if k == k' then ok (.int k (A.bH a b)) else none
   | _, _ => none
  | _ => none
def ahB (st : St A) (args : Array Operand) : Option (Pu A) :=
 match args.toList with
  | [x, y] => match st.ev x, st.ev y with
   | .int k a, .int k' b => if k == k' then ok (.int k (A.imax a b)) else none
   | _, _ => none
  | _ => none
def ahD (P : Program) (st : St A) (args : Array Operand) (argTypes : Array TypeId) : Option (Pu A) :=
 match args.toList, argTypes.toList with
  | [x], [t] => match P.underlying t, st.ev x with
   | some (.slice _), .con (.slice none 0 0) => ok (.int .i64 (A.lit 0))
   | _, _ => none
  | _, _ => none
def Zd (P : Program) (st : St A) (t : TypeId) (x ix : Operand) : Option (Pu A) :=
 match P.underlying t, st.ev x, st.ev ix with
  | some .string, .str y, .int _ i => some ⟨[A.le (A.lit 0) i, A.lt i (A.jf y)], .int .u8 (A.lF y i), []⟩
  | _, _, _ => none
def qO (P : Program) (e : TypeId) : Option (List A.C) :=
 match kinds P e, qm (A := A) P e with
 | some ks, some z => mZ [] ks z
 | _, _ => none
def qo (P : Program) (t : TypeId) : Option (IntKind × TypeId × List K) := if Nat.ble 1000000000 t then none else match P.underlying t with
 | some (.map kt e) => match P.underlying kt, kinds P e with
  | some (.int k), some ks => some (k, e, ks)
  | _, _ => none
 | _ => none
def amL : SV A -> Bool
 | .agg _ => true
 | _ => false
def LY (st : St A) (t : TypeId) : SV A -> Option (Nat × dI A)
 | .sl id => match st.ents[id]? with
  | some en => if en.live && (en.own && en.elem == ql t) then some (id, en) else none
  | none => none
 | _ => none
def Hw (P : Program) (e : TypeId) : Bool := match (P.info? e).bind (·.zero) with
 | some (.agg _) => true
 | _ => false
def ado (ok : Bool) (v : SV A) (b : A.B) : SV A := if ok then .G6 [v, .bool b] else v
def UU (P : Program) (st : St A) (t : TypeId) (x ix : Operand) (ok : Bool) : Option (Pu A) :=
 match qo P t, LY st t (st.ev x), st.ev ix with
 | some (k, e, ks), some (_, en), .int k' i => if k == k' && tC P e == Hw P e then match qO (A := A) P e with
   | some z => match mO (A.bF en.s i z) (A.lit 0) ks 0 with
    | some l => match pack P e l with
     | some v => some ⟨[], ado ok v (A.qQ en.s i), dW P st.rg (A.bF en.s i z) (A.lit 0) ks 0⟩
     | none => none
    | none => none
   | none => none
  else none
 | _, _, _ => none
def BM (P : Program) (st : St A) (o : Oper) : Option (Pu A) :=
 match o.op with
 | .move x | .assign x => adg st x
 | .pick c a b => adh st c a b
 | .fieldAddr t x f => I7 P st t x f
 | .load t x => adi P st t x
 | .indexAddr t x ix => I9 P st t x ix
 | .nilCheck x => ahu st x
 | .binOp op t x y _ => UR P st.wr op t (st.ev x) (st.ev y)
 | .unOp op _ x => pUn st op x
 | .convert src dst x => Qi P st src dst x
 | .makeFunc (.func f) first caps => LX st f first caps
 | .build t parts => Zb P st t parts
 | .field t x f => Za P st t x f
 | .extract x ix => Qj st x ix
 | .call { callee := .builtin .len, args, argTypes } => ahx P st args argTypes
 | .call { callee := .builtin .cap, args, argTypes } => ahD P st args argTypes
 | .index t x ix => Zd P st t x ix
 | .lookup t x ix ok => UU P st t x ix ok
 | .call { callee := .builtin .min, args, .. } => ahz st args
 | .call { callee := .builtin .max, args, .. } => ahB st args
 | _ => none
end
end Go.Sx
namespace Go.Sx
inductive fM where
 | cell (k : K) (own : Bool)
 | agg (l : List (K × Bool))
structure nV where
 args : List fM
 res : List fM
inductive HK where
 | junk
 | int (k : IntKind)
 | bool
 | str
 | sl (elem : TypeId) (own : Bool)
structure ku where
 slots : List (Nat × HK)
 boxes : List (Nat × List HK)
 ents : List (Nat × TypeId) := []
inductive Prim where
 | ins (e : TypeId)
 | kept (sg : nV)
 | over (sg : nV)
def KU (pm : FuncId -> Option Prim) (l : List Nat) : FuncId -> Option Prim := fun g => match pm g with
 | some (.ins e) => some (.ins e)
 | q => if l.contains g then q else none
structure kK where
 P : Program
 sig : FuncId -> Option nV
 hav : Nat -> ku
 wr : FuncId -> Bool := fun _ => false
 cut : Nat -> Bool := fun _ => false
 rg : FuncId -> Bool := fun _ => false
 Yu : FuncId -> Option Prim := fun _ => none
section
variable {A : y7}
def F5 (P : Program) (own : Bool) (k : K) (st : St A) (f : SV A -> A.C -> St A -> Tree A) : Tree A :=
 match k with
 | .int k => .allI fun x => .given (A.rng k x) (f (.int k x) (.int x) st)
 | .bool => .allB fun b => f (.bool b) (.bool b) st
 | .str => .amI fun y => f (.str y) (.str y) st
 | .sl e => .amJ fun s => if st.rg && !gG e then .given (A.ranged s (rks P e)) (f (.sl st.ents.length) (.sl s) { st with ents := st.ents ++ [⟨e, s, own, true, 0⟩] }) else f (.sl st.ents.length) (.sl s) { st with ents := st.ents ++ [⟨e, s, own, true, 0⟩] }
def DN (P : Program) : List (K × Bool) -> St A -> (List (SV A) -> List A.C -> St A -> Tree A) -> Tree A
 | [], st, f => f [] [] st
 | (k, own) :: ks, st, f => F5 P own k st fun v c st => DN P ks st fun vs cs st => f (v :: vs) (c :: cs) st
def ae4 (P : Program) (sh : fM) (st : St A) (f : SV A -> List A.C -> St A -> Tree A) : Tree A :=
 match sh with
 | .cell k own => F5 P own k st fun v c st => f v [c] st
 | .agg l => DN P l st fun vs cs st => f (.agg vs) cs st
def Ed (P : Program) : List fM -> St A -> (List (SV A) -> List A.C -> St A -> Tree A) -> Tree A
 | [], st, f => f [] [] st
 | sh :: r, st, f => ae4 P sh st fun v cs st => Ed P r st fun vs ds st => f (v :: vs) (cs ++ ds) st
def one (l : List (SV A)) : SV A := match l with
 | [v] => v
 | l => .G6 l
def XQ (ents : List (dI A)) : fM -> SV A -> Option (List A.C)
 | .cell k _, v => (qw ents k v).map ([·])
 | .agg l, .agg vs => mZ ents (l.map (·.1)) vs
 | _, _ => none
def ED (ents : List (dI A)) : List fM -> List (SV A) -> Option (List A.C)
 | [], [] => some []
 | sh :: jZ, v :: vs => match XQ ents sh v, ED ents jZ vs with
  | some c, some cs => some (c ++ cs)
  | _, _ => none
 | _, _ => none
def XR (P : Program) (t : TypeId) : Bool := match P.underlying t with
 | some (.map _ _) => false
 | _ => true
def La (P : Program) (ents : List (dI A)) (k : K) (v : SV A) : Option A.C := match k, v with
 | .sl e, .sl id => match ents[id]? with
  | some en => if en.live && (en.own && (VU en.elem && (unL en.elem == e && XR P (unM en.elem)))) then some (.sl en.s) else none
  | none => none
 | _, _ => none
def Oa (P : Program) (ents : List (dI A)) (p : K × Bool) (v : SV A) : Option A.C := if p.2 then La P ents p.1 v else match qw ents p.1 v with
 | some c => some c
 | none => La P ents p.1 v
def EF (P : Program) (ents : List (dI A)) : List (K × Bool) -> List (SV A) -> Option (List A.C)
 | [], [] => some []
 | p :: ps, v :: vs => match Oa P ents p v, EF P ents ps vs with
  | some c, some cs => some (c :: cs)
  | _, _ => none
 | _, _ => none
def ae7 (P : Program) (ents : List (dI A)) : fM -> SV A -> Option (List A.C)
 | .cell k o, v => (Oa P ents (k, o) v).map ([·])
 | .agg l, .agg vs => EF P ents l vs
 | _, _ => none
def yH (P : Program) (ents : List (dI A)) : List fM -> List (SV A) -> Option (List A.C)
 | [], [] => some []
 | sh :: jZ, v :: vs => match ae7 P ents sh v, yH P ents jZ vs with
  | some c, some cs => some (c ++ cs)
  | _, _ => none
 | _, _ => none
def flatK (P : Program) : K -> Bool
 | .sl e => match kinds P e with
  | some ks => ks.all fun k => match k with
   | .sl _ => false
   | _ => true
  | none => false
 | _ => true
def BL (P : Program) (p : K × Bool) : Bool := match p with
 | (.sl e, own) => own && (!gG e && flatK P (.sl e))
 | _ => true
def Yy (P : Program) : fM -> Bool
 | .cell k own => BL P (k, own)
 | .agg l => l.all (BL P)
def nV.flat (P : Program) (s : nV) : Bool := s.res.all (Yy P)
def jy (st : St A) (id : Nat) : St A := match st.ents[id]? with
 | some e => if e.live && (e.own && !gG e.elem) then { st with ents := st.ents.set id { e with own := false, ver := e.ver + 1 } } else st
 | none => st
def mM (st : St A) : List Nat -> St A
 | [] => st
 | id :: l => mM (jy st id) l
def eY (st : St A) : List (SV A) -> St A
 | [] => st
 | .sl id :: l => eY (jy st id) l
 | _ :: l => eY st l
def uQ : SV A -> List Nat
 | .sl id => [id]
 | .agg l => l.filterMap fun v => match v with
  | .sl id => some id
  | _ => none
 | _ => []
def G7 (P : Program) (sg : nV) (args : List (SV A)) (st : St A) : St A := if sg.flat P then st else mM st (args.flatMap uQ)
def XT (cfg : kK) (f : FuncId) (sg : nV) (args : List (SV A)) (st : St A) (k : SV A -> St A -> Tree A) : Tree A :=
 if sg.flat cfg.P then match yH cfg.P st.ents sg.args args with
  | some cs => .need (A.pre f cs) (Ed cfg.P sg.res st fun vs rs st => .given (A.post f cs rs) (k (one vs) st))
  | none => .fail "call: an argument does not fit the contract" f
 else .fail "call: results that may share memory" f
def acV (cfg : kK) (f : FuncId) (sg : nV) (args : List (SV A)) (st0 : St A) (k : SV A -> St A -> Tree A) : Tree A :=
 if sg.flat cfg.P then XT cfg f sg args st0 k else
 let st := G7 cfg.P sg args st0
 match ED st.ents sg.args args with
 | some cs => .need (A.pre f cs) (Ed cfg.P sg.res st fun vs rs st => .given (A.post f cs rs) (k (one vs) st))
 | none => .fail "call: an argument does not fit the contract" f
def yY (st : St A) (t : TypeId) (cells : List (SV A)) : St A := { st with boxes := st.boxes ++ [⟨t, cells, 0, true⟩] }
def dL (st : St A) (e : TypeId) (s : A.S) (own : Bool) : St A := { st with ents := st.ents ++ [⟨e, s, own, true, 0⟩] }
def dU (st : St A) (id : Nat) : St A := match st.ents[id]? with
 | some e => { st with ents := st.ents.set id { e with live := false, ver := e.ver + 1 } }
 | none => st
def Ar (st : St A) : List Nat -> St A
 | [] => st
 | id :: l => Ar (dU st id) l
def P6 (P : Program) (f : FuncId) (sg : nV) (args : List (SV A)) (st : St A) (k : SV A -> St A -> Tree A) : Tree A :=
 if sg.res.isEmpty then match yH P st.ents sg.args args with
  | some _ => k (.G6 []) (Ar st (args.flatMap uQ))
  | none => .fail "over: an argument" f
 else .fail "over: results" f
def Hl (P : Program) (t : TypeId) : Option Nat := (P.info? t).map (·.bytes)
def ac7 (st : St A) (e : TypeId) : SV A -> Option A.S
 | .sl id => match st.ents[id]? with
  | some en => if en.live && (en.elem == e && !gG e) then some en.s else none
  | none => none
 | .con (.slice none 0 0) => some A.I4
 | _ => none
def XZ (st : St A) (e : TypeId) : SV A -> Option (A.S × Option Nat)
 | .sl id => match st.ents[id]? with
  | some en => if en.live && en.own && (en.elem == e && !gG e) then some (en.s, some id) else none
  | none => none
 | .con (.slice none 0 0) => some (A.I4, none)
 | _ => none
def kD (s : A.S) (i : A.I) : List K -> Nat -> St A -> List (SV A) × St A
 | [], _, st => ([], st)
 | .int k :: ks, j, st => let (l, st) := kD s i ks (j + 1) st; (.int k (A.Oc s i j) :: l, st)
 | .bool :: ks, j, st => let (l, st) := kD s i ks (j + 1) st; (.bool (A.adb s i j) :: l, st)
 | .str :: ks, j, st => let (l, st) := kD s i ks (j + 1) st; (.str (A.ade s i j) :: l, st)
 | .sl e :: ks, j, st =>
  let id := st.ents.length
  let (l, st) := kD s i ks (j + 1) (dL st e (A.cellS s i j) false)
  (.sl id :: l, st)
def EO (ents : List (dI A)) (ks : List K) : List (SV A) -> Option (List (List A.C))
 | [] => some []
 | v :: vs => match nY ents ks (cellsOf v), EO ents ks vs with
  | some c, some cs => some (c :: cs)
  | _, _ => none
def YN (P : Program) (st : St A) (t : TypeId) (k : SV A -> St A -> Tree A) : Tree A :=
 match qm P t, sizeT P t with
  | some z, some n => if n == z.length && z.all jo then k (.ptr st.boxes.length 0) (yY st t z) else .fail "alloc" t
  | _, _ => .fail "alloc" t
def aho (P : Program) (st : St A) (t : TypeId) (x : Operand) (k : SV A -> St A -> Tree A) : Tree A :=
 match sizeT P t with
  | some n => if n == (cellsOf (st.ev x)).length && (cellsOf (st.ev x)).all jo then k (.ptr st.boxes.length 0) (yY st t (cellsOf (st.ev x))) else .fail "box" t
  | none => .fail "box" t
def Lr (st : St A) (t : TypeId) (v : Operand) (n b off : Nat) (k : SV A -> St A -> Tree A) : Tree A :=
 match st.boxes[b]? with
   | some bx => if bx.live && n == (cellsOf (st.ev v)).length && off + n <= bx.cells.length && (cellsOf (st.ev v)).all jo then
     k (.con (.tuple #[])) { st with boxes := st.boxes.set b { bx with cells := bx.cells.take off ++ cellsOf (st.ev v) ++ bx.cells.drop (off + n), ver := bx.ver + 1 } }
    else .fail "store" t
   | none => .fail "store" t
def Ls (P : Program) (st : St A) (t : TypeId) (v : Operand) (n id sz : Nat) (i : A.I) (off : Nat) (k : SV A -> St A -> Tree A) : Tree A :=
 match st.ents[id]? with
   | some en => match kinds P en.elem with
    | some ks => if en.live && (en.own && !gG en.elem) && n == (cellsOf (st.ev v)).length && off + n <= ks.length && sz == ks.length then
      match nY (eY st (cellsOf (st.ev v))).ents ((ks.drop off).take n) (cellsOf (st.ev v)), (eY st (cellsOf (st.ev v))).ents[id]? with
      | some cs, some en' => if en'.ver == en.ver then k (.con (.tuple #[])) { eY st (cellsOf (st.ev v)) with ents := (eY st (cellsOf (st.ev v))).ents.set id { en' with s := A.upd en.s i off cs, ver := en.ver + 1 } } else .fail "store into an element: its own slice" t
      | _, _ => .fail "store into an element: the value does not fit" t
     else .fail "store into an element" t
    | none => .fail "store into an element" t
   | none => .fail "store into an element" t
def afi (P : Program) (st : St A) (t : TypeId) (x v : Operand) (k : SV A -> St A -> Tree A) : Tree A :=
 match sizeT P t, st.ev x with
  | some n, .ptr b off => Lr st t v n b off k
  | some n, .uq id sz i off => Ls P st t v n id sz i off k
  | _, _ => .fail "store: no address" t
def ac5 (P : Program) (st : St A) (t : TypeId) (x : Operand) (k : SV A -> St A -> Tree A) : Tree A :=
 if !(P.underlying t).isSome then .fail "load" t else match st.ev x, kinds P t, sizeT P t with
  | .uq id sz i off, some _, some n => match st.ents[id]? with
   | some en => match kinds P en.elem with
    | some ks => if (en.live && !gG en.elem) && off + n <= ks.length && sz == ks.length then
      let r := kD en.s i ((ks.drop off).take n) off st
      match pack P t r.1 with
      | some v => zy (dW P st.rg en.s i ((ks.drop off).take n) off) (k v r.2)
      | none => .fail "load of an element" t
     else .fail "load of an element" t
    | none => .fail "load of an element" t
   | none => .fail "load of an element" t
  | _, _, _ => .fail "load: no address" t
def Gy (P : Program) (st : St A) (t : TypeId) (len : Nat) (parts : Array (Nat × Operand)) (k : SV A -> St A -> Tree A) : Tree A :=
 match ni P t with
  | some e => match kinds P e with
   | some ks => if parts.toList.map (·.1) == List.range len && len * ks.length <= 1000 && (0 < ks.length && !gG e) then
     match EO (eY st (parts.toList.flatMap fun p => cellsOf (st.ev p.2))).ents ks (parts.toList.map fun p => st.ev p.2), qO (A := A) P e with
     | some l, some _ => k (.sl st.ents.length) (dL (eY st (parts.toList.flatMap fun p => cellsOf (st.ev p.2))) e (A.RY l) true)
     | _, _ => .fail "a slice's literal: a part does not fit" t
    else .fail "a slice's literal" t
   | none => .fail "a slice's literal" t
  | none => .fail "a slice's literal" t
def apW : List K -> Bool
 | [.int _, .sl _, .sl _] => true
 | _ => false
def apX (P : Program) (t : TypeId) : Bool := match ni P t with
 | some e => match kinds P e with
  | some ks => apW ks
  | none => true
 | none => true
def LJ (P : Program) (st : St A) (t : TypeId) (len : Nat) (parts : Array (Nat × Operand)) (k : SV A -> St A -> Tree A) : Tree A :=
 match ni P t with
  | some e => match sizeT P e, (P.info? e).bind (·.zero) with
   | some sz, some _ => if parts.toList.map (·.1) == List.range len && (decide (0 < len * sz) && decide (len * sz <= 1000)) && (parts.toList.all fun p => (cellsOf (st.ev p.2)).length == sz && (cellsOf (st.ev p.2)).all jo) then k (.BN st.boxes.length len) (yY st e (parts.toList.flatMap fun p => cellsOf (st.ev p.2))) else .fail "a slice of functions" t
   | _, _ => .fail "a slice's literal" t
  | none => .fail "a slice's literal" t
def IK (P : Program) (st : St A) (t : TypeId) (len cap : Operand) (k : SV A -> St A -> Tree A) : Tree A :=
 match ni P t, st.ev len, st.ev cap with
  | some e, .int .i64 n, .int .i64 c => if gG e then .fail "make" t else match qO P e, Hl P e with
   | some z, some (Dz + 1) => needs [A.le (A.lit 0) n, A.le n c, A.le (A.arith .mul .i64 c (A.lit (Dz + 1 : Nat))) (A.lit (2 ^ 47))] (k (.sl st.ents.length) (dL st e (A.adf n z) true))
   | _, _ => .fail "make" t
  | _, _, _ => .fail "make" t
def DU (P : Program) (t : TypeId) : Bool := match ni P t with
 | some e => (kinds P e).isSome
 | none => false
def EP : Option Operand -> Bool
 | none => true
 | some l => match constInt l with
  | some 0 => true
  | _ => false
def RQ (st : St A) (id : Nat) (own keep : Bool) : St A := if own then (if keep then dU st id else jy st id) else st
def IL (P : Program) (e : TypeId) : Nat := match kinds P e with
 | some ks => ks.length
 | none => 0
def YO (P : Program) (st : St A) (t : TypeId) (x : Operand) (lo hi mx : Option Operand) (k : SV A -> St A -> Tree A) : Tree A :=
  if !(DU P t) then .fail "a part of a slice: its elements" t else
  match ni P t, st.ev x with
    | some _, .con (.slice none 0 0) => match mx with
      | some _ => .fail "a part of a nil slice" t
      | none =>
        match (match lo with | none => some (A.lit 0) | some l => match st.ev l with | .int _ x => some x | _ => none),
              (match hi with | none => some (A.lit 0) | some h => match st.ev h with | .int _ x => some x | _ => none) with
        | some l, some h => needs [A.le (A.lit 0) l, A.le l h, A.le h (A.lit 0)] (k (.con (.slice none 0 0)) st)
        | _, _ => .fail "a part of a nil slice" t
    | some e, .sl id => match st.ents[id]? with
      | some en => if !(en.live && (en.elem == e && !gG e)) then .fail "a part of a slice" t else
        match mx with
        | some m => match constInt m, hi.map constInt, lo.map constInt with
          | some 0, some (some 0), none => k (.sl st.ents.length) (dL st e A.I4 true)
          | _, _, _ => .fail "a part of a slice with a third index" t
        | none =>
          match (match lo with | none => some (A.lit 0) | some l => match st.ev l with | .int _ x => some x | _ => none),
                (match hi with | none => some (A.len en.s) | some h => match st.ev h with | .int _ x => some x | _ => none) with
          | some l, some h =>
            needs [A.le (A.lit 0) l, A.le l h, A.le h (A.len en.s)] (if en.own && !(EP lo) && st.rg then k (.view id (IL P e) l (A.arith .sub .i64 h l)) st else k (.sl (RQ st id en.own (EP lo && st.rg)).ents.length) (dL (RQ st id en.own (EP lo && st.rg)) e (A.sub en.s l h) (en.own && (EP lo && st.rg))))
          | _, _ => .fail "a part of a slice: an index" t
      | none => .fail "a part of a slice" t
    | _, _ => .fail "a part of a slice" t
def Ut (P : Program) (e : TypeId) : Bool := match kinds P e with
 | some ks => 0 < ks.length && !gG e
 | none => false
def X4 (st : St A) : Option Nat -> St A
 | some i => dU st i
 | none => st
def afg (P : Program) (t : TypeId) : Bool := match P.underlying t with
 | some (.int _) => true
 | _ => false
def Us (P : Program) (e : TypeId) (args : List (SV A)) (st : St A) (k : SV A -> St A -> Tree A) : Tree A :=
 match args with
 | [s, .int .i64 n, .sl jd] => match XZ st e s, st.ents[jd]?, Hl P e, qO (A := A) P e with
  | some (d, id?), some en, some Dz, some _ =>
   if !(id? == some jd) && (en.live && (en.own && en.elem == e)) && (0 < Dz && Ut P e) then
    needs [A.le (A.lit 0) n, A.le n (A.len d), A.lt (A.lit 0) (A.len en.s), A.le (A.arith .mul .i64 (A.arith .add .i64 (A.len d) (A.len en.s)) (A.lit Dz)) (A.lit (2 ^ 47))]
     (k (.sl (X4 st id?).ents.length) (dL (X4 st id?) e (A.app (A.app (A.sub d (A.lit 0) n) en.s) (A.sub d n (A.len d))) true))
   else .fail "insert" e
  | _, _, _, _ => .fail "insert: an operand" e
 | _ => .fail "insert" e
def Qd (P : Program) (st : St A) (s x : Operand) (ts tx e : TypeId) (k : SV A -> St A -> Tree A) : Tree A :=
 match st.ev s, st.ev x, qO P e, Hl P e with
 | .con (.slice none 0 0), .int .i64 n, some z, some Dz => if 0 < Dz && (afg P tx && Ut P e) then
   needs [A.le (A.lit 0) n, A.le (A.arith .mul .i64 n (A.lit Dz)) (A.lit (2 ^ 47))] (k (.sl st.ents.length) (dL st e (A.adf n z) true))
  else .fail "append of zeros" ts
 | _, _, _, _ => .fail "append of zeros" ts
def UJ (P : Program) (st : St A) (args : Array Operand) (argTypes : Array TypeId) (k : SV A -> St A -> Tree A) : Tree A :=
 match args.toList, argTypes.toList with
  | [s, x], [ts, tx] => match ni P ts with
   | some e => if !(ts == tx) then Qd P st s x ts tx e k else
    match XZ st e (st.ev s), ac7 st e (st.ev x), Hl P e, qO (A := A) P e with
    | some (d, id?), some r, some Dz, some _ =>
     if 0 < Dz && Ut P e then
      needs [A.le (A.arith .mul .i64 (A.arith .add .i64 (A.len d) (A.len r)) (A.lit Dz)) (A.lit (2 ^ 47))] (k (.sl (X4 st id?).ents.length) (dL (X4 st id?) e (A.app d r) true))
     else .fail "append" ts
    | _, _, _, _ => .fail "append: an operand" ts
   | none => .fail "append" ts
  | _, _ => .fail "append" 0
def ac9 (P : Program) (st : St A) (neq : Bool) (t : TypeId) (x y : Operand) (k : SV A -> St A -> Tree A) : Tree A :=
 match ni P t, st.ev x, st.ev y with
 | some _, .sl id, .con (.slice none 0 0) => match st.ents[id]? with
  | some en => if en.live && !gG en.elem then .allB fun b => .br b (.given (A.le (A.len en.s) (A.lit 0)) (k (.bG (!neq)) st)) (k (.bG neq) st) else .fail "a slice against nil" t
  | none => .fail "a slice against nil" t
 | some _, .con (.slice none 0 0), .con (.slice none 0 0) => k (.bG (!neq)) st
 | _, _, _ => .fail "a comparison that is not served" t
def Az (i : A.I) (f : Nat -> Tree A) : Nat -> Nat -> Tree A
 | j, 0 => .fail "an index of an empty array" j
 | j, 1 => f j
 | j, m + 1 => .br (A.cmp .eql i (A.lit (j : Int))) (f j) (Az i f (j + 1) m)
def LD (P : Program) (st : St A) (t : TypeId) (x ix : Operand) (k : SV A -> St A -> Tree A) : Tree A :=
 match P.underlying t, st.ev x, st.ev ix with
 | some (.array n e), .agg l, .int _ i => match sizeT P e with
  | some sz => if l.length == n * sz && 0 < sz && (P.underlying e).isSome then
    needs [A.le (A.lit 0) i, A.lt i (A.lit (n : Int))] (Az i (fun j => match pack P e ((l.drop (j * sz)).take sz) with
     | some v => k v st
     | none => .fail "an element of an array" t) 0 n)
   else .fail "an element of an array" t
  | none => .fail "an element of an array" t
 | _, _, _ => .fail "an element of an array" t
def LG (P : Program) (st : St A) (t : TypeId) (x ix : Operand) (k : SV A -> St A -> Tree A) : Tree A :=
 match P.underlying t, st.ev x, st.ev ix with
 | some (.array n e), .ptr b off, .int _ i => match sizeT P e with
  | some sz => if 0 < sz then needs [A.le (A.lit 0) i, A.lt i (A.lit (n : Int))] (Az i (fun j => k (.ptr b (off + j * sz)) st) 0 n) else .fail "an element's address" t
  | none => .fail "an element's address" t
 | _, _, _ => .fail "an element's address" t
def LH (P : Program) (st : St A) (t : TypeId) (x ix : Operand) (k : SV A -> St A -> Tree A) : Tree A :=
 match ni P t, st.ev x, st.ev ix with
 | some e, .BN b n, .int _ i => match sizeT P e with
  | some sz => needs [A.le (A.lit 0) i, A.lt i (A.lit (n : Int))] (Az i (fun j => k (.ptr b (j * sz)) st) 0 n)
  | _ => .fail "an element's address" t
 | _, _, _ => .fail "an element's address" t
def LM (ents : List (dI A)) (ks : List K) : Nat -> List (SV A) -> Option (List (List A.C))
 | 0, _ => some []
 | n + 1, l => match nY ents ks (l.take ks.length), LM ents ks n (l.drop ks.length) with
  | some c, some cs => some (c :: cs)
  | _, _ => none
def LP (P : Program) (st : St A) (t : TypeId) (x : Operand) (lo hi mx : Option Operand) (k : SV A -> St A -> Tree A) : Tree A :=
 match P.underlying t, st.ev x, mx with
 | some (.array n e), .ptr b 0, none => match st.boxes[b]?, kinds P e with
  | some bx, some ks => if bx.live && bx.cells.length == n * ks.length && 0 < ks.length && bx.ty == t && n <= 1000 then
    match LM st.ents ks n bx.cells,
     (match lo with | none => some (A.lit 0) | some l => match st.ev l with | .int _ x => some x | _ => none),
     (match hi with | none => some (A.lit (n : Int)) | some h => match st.ev h with | .int _ x => some x | _ => none) with
    | some rows, some l, some h => needs [A.le (A.lit 0) l, A.le l h, A.le h (A.lit (n : Int))]
      (k (.sl st.ents.length) { st with boxes := st.boxes.set b { bx with live := false, ver := bx.ver + 1 }, ents := st.ents ++ [⟨e, A.sub (A.RY rows) l h, false, true, 0⟩] })
    | _, _, _ => .fail "a part of an array" t
   else .fail "a part of an array" t
  | _, _ => .fail "a part of an array" t
 | _, _, _ => .fail "a part of an array" t
def Qg (P : Program) (st : St A) (t : TypeId) (r : Option Operand) (k : SV A -> St A -> Tree A) : Tree A := match r, qo P t with
 | none, some _ => k (.sl st.ents.length) (dL st (ql t) A.I4 true)
 | _, _ => .fail "a new map with a size" t
def UK (P : Program) (st : St A) (t : TypeId) (x ix : Operand) (ok : Bool) (k : SV A -> St A -> Tree A) : Tree A :=
 match qo P t, LY st t (st.ev x), st.ev ix with
 | some (ik, e, ks), some (_, en), .int k' i => if ik == k' && tC P e == Hw P e then match qO (A := A) P e with
   | some z =>
    let r := kD (A.bF en.s i z) (A.lit 0) ks 0 st
    match pack P e r.1 with
    | some v => zy (dW P st.rg (A.bF en.s i z) (A.lit 0) ks 0) (k (ado ok v (A.qQ en.s i)) r.2)
    | none => .fail "a map's element" t
   | none => .fail "a map's element" t
  else .fail "a map's key" t
 | _, _, _ => .fail "a map" t
def DW (P : Program) (st : St A) (t : TypeId) (m x v : Operand) (k : SV A -> St A -> Tree A) : Tree A :=
 match qo P t, LY st t (st.ev m), st.ev x with
 | some (ik, e, ks), some (id, en), .int k' i => if ik == k' && (tC P e == amL (st.ev v)) then
   match nY (eY st (cellsOf (st.ev v))).ents ks (cellsOf (st.ev v)), (eY st (cellsOf (st.ev v))).ents[id]? with
   | some cs, some en' => if en'.ver == en.ver then k (.con (.tuple #[])) { eY st (cellsOf (st.ev v)) with ents := (eY st (cellsOf (st.ev v))).ents.set id { en' with s := A.iD en.s i cs, ver := en.ver + 1 } } else .fail "a map's update: its own slice" t
   | _, _ => .fail "a map's update: the value does not fit" t
  else .fail "a map's update" t
 | _, _, _ => .fail "a map's update" t
def Ze (P : Program) (t : TypeId) : Bool := match P.underlying t with
 | some (.array _ _) => true
 | _ => false
def XV (P : Program) (st : St A) (o : Oper) (k : SV A -> St A -> Tree A) : Tree A :=
 match o.op with
 | .alloc t => YN P st t k
 | .box t x => aho P st t x k
 | .store t x v => afi P st t x v k
 | .load t x => ac5 P st t x k
 | .buildSlice t len parts => if DU P t && !apX P t then Gy P st t len parts k else LJ P st t len parts k
 | .makeSlice t len cap => IK P st t len cap k
 | .slice t x lo hi mx => if Ze P t then LP P st t x lo hi mx k else YO P st t x lo hi mx k
 | .index t x ix => LD P st t x ix k
 | .indexAddr t x ix => if Ze P t then LG P st t x ix k else LH P st t x ix k
 | .call { callee := .builtin .append, args, argTypes } => UJ P st args argTypes k
 | .makeMap t r => Qg P st t r k
 | .lookup t x ix ok => UK P st t x ix ok k
 | .mapUpdate t m x v => DW P st t m x v k
 | .insert t m x v => DW P st t m x v k
 | .binOp .eql t x y _ => ac9 P st false t x y k
 | .binOp .neq t x y _ => ac9 P st true t x y k
 | _ => .fail "an operation that is not served" 0
def YA (ops : Array Oper) (o : Oper) (st : St A) (yes no : St A -> Tree A) : Tree A :=
 match o.guard with
 | none => yes st
 | some (j, want) => match (ops[j]?).bind (·.dst) with
  | none => no st
  | some d => match st.tmps[d]? with
   | some (.bG b) => if b == want then yes st else no st
   | some (.bool b) => .br b (if want then yes { st with tmps := st.tmps.set d (.bG true) } else no { st with tmps := st.tmps.set d (.bG true) })
     (if want then no { st with tmps := st.tmps.set d (.bG false) } else yes { st with tmps := st.tmps.set d (.bG false) })
   | some (.con (.tuple _)) => no st
   | _ => .fail "a guard" d
def decided (x : Operand) (st : St A) (k : St A -> Tree A) : Tree A :=
 match x with
 | .tmp t => match st.tmps[t]? with
  | some (.bool b) => .br b (k { st with tmps := st.tmps.set t (.bG true) }) (k { st with tmps := st.tmps.set t (.bG false) })
  | _ => k st
 | _ => k st
def amM : Op -> Option Operand
 | .pick c _ _ => some c
 | _ => none
inductive Fi where
 | fn (f : FuncId)
 | oP (i : Nat)
def callee (st : St A) (o : Oper) : Option (Fi × List (SV A)) :=
 match o.op with
 | .call { callee := .value f, args, .. } => match st.ev f with
  | .fn g caps => some (.fn g, args.toList.map st.ev ++ caps)
  | .JX g first => some (.fn g, first ++ args.toList.map st.ev)
  | .oP i => some (.oP i, args.toList.map st.ev)
  | _ => none
 | _ => none
def GV (P : Program) (f : FuncId) : Bool := match P.funcs[f]? with
 | some fn => fn.name != "runtime.NumGoroutine" && fn.body.isSome
 | none => false
abbrev uN (A : y7) := Nat -> Fi -> List (SV A) -> St A -> (SV A -> St A -> Tree A) -> Tree A
structure Yd (A : y7) where
 i : Nat
 run : List (SV A) -> St A -> (SV A -> St A -> Tree A) -> Tree A
 code : Code
 tmps : List (SV A)
abbrev Ys (A : y7) := List (Yd A)
def zu (cfg : kK) (inl : uN A) (path : Nat) (st : St A) (o : Oper) (k : SV A -> St A -> Tree A) : Tree A :=
 match BM cfg.P st o with
 | some p => needs p.ns (zy p.gs (k p.v st))
 | none => match callee st o with
  | some (.fn f, args) => if GV cfg.P f then match cfg.sig f with
   | some sg => acV cfg f sg args st k
   | none => inl path (.fn f) args st k
   else .fail "a call of no Go function" f
  | some (.oP i, args) => inl path (.oP i) args st k
  | none => XV cfg.P st o k
def Bz (cfg : kK) (inl : uN A) (path : Nat) (ops : Array Oper) (st : St A) (o : Oper) (k : St A -> Tree A) : Tree A :=
 YA ops o st (fun st => zu cfg inl path st o fun v st => k (dK st o.dst v)) (fun st => k (dK st o.dst (.con (.tuple #[]))))
def EG (cfg : kK) (inl : uN A) (path : Nat) (ops : Array Oper) : List Oper -> St A -> (St A -> Tree A) -> Tree A
 | [], st, k => k st
 | o :: rest, st, k =>
  match amM o.op with
  | some c => decided c st fun st => Bz cfg inl path ops st o fun st => EG cfg inl path ops rest st k
  | none => Bz cfg inl path ops st o fun st => EG cfg inl path ops rest st k
def bT (st : St A) (written : List Nat) : St A :=
  { tmps := [], wr := st.wr, rg := st.rg, boxes := st.boxes.zipIdx.map fun (b, i) => if written.contains i then { b with live := false } else b,
    ents := st.ents.map fun e => if e.own && written.contains 1000000 then { e with live := false } else e }
inductive Take (A : y7) where
 | skip (i : Nat) (dst : Option Nat)
 | val (i : Nat) (dst : Option Nat) (p : Pu A)
 | ask (t : Nat) (b : A.B)
 | none
def Ob (P : Program) (base st : St A) (i : Nat) (o : Oper) : Take A :=
 match BM P { base with tmps := st.tmps } o with
 | some p => if p.v.clean then .val i o.dst p else .none
 | none => .none
def RJ (P : Program) (base st : St A) (i : Nat) (o : Oper) : Take A :=
 match o.op with
 | .pick (.tmp t) _ _ => match st.tmps[t]? with
  | some (.bool b) => .ask t b
  | _ => Ob P base st i o
 | _ => Ob P base st i o
def G8 (P : Program) (ops : Array Oper) (base st : St A) (i : Nat) (o : Oper) : Take A :=
 match o.guard with
 | none => RJ P base st i o
 | some (j, want) => match (ops[j]?).bind (·.dst) with
  | none => .skip i o.dst
  | some d => match st.tmps[d]? with
   | some (.bG b) => if b == want then RJ P base st i o else .skip i o.dst
   | some (.bool b) => .ask d b
   | some (.con (.tuple _)) => .skip i o.dst
   | _ => .none
def nN (P : Program) (ops : Array Oper) (listed : Array Bool) (base st : St A) : List Nat -> Take A
 | [] => .none
 | i :: rest => match ops[i]? with
  | some o => if Region.free .any ops listed i then match G8 P ops base st i o with
    | .none => nN P ops listed base st rest
    | t => t
   else nN P ops listed base st rest
  | none => nN P ops listed base st rest
def iC (base st : St A) : Bool :=
 (base.boxes.zipIdx.all fun (b, i) => !b.live || (match st.boxes[i]? with
  | some b' => b'.ver == b.ver
  | none => false)) &&
 (base.ents.zipIdx.all fun (e, i) => !e.live || (match st.ents[i]? with
  | some e' => e'.ver == e.ver
  | none => false))
def G9 (f : Nat -> Tree A) : List Nat -> Tree A
 | [] => .done
 | [i] => f i
 | i :: l => .both (f i) (G9 f l)
def oK (cfg : kK) (inl : uN A) (path : Nat) (ops : Array Oper) (base : St A) : Nat -> Array Bool -> St A -> (St A -> Tree A) -> Tree A
 | 0, _, _, _ => .fail "a region that draws its order" path
 | n + 1, listed, st, k =>
  match Region.ready .any ops listed with
  | [] => k st
  | rs => match nN cfg.P ops listed base st rs with
   | .ask t b => .br b (oK cfg inl path ops base n listed { st with tmps := st.tmps.set t (.bG true) } k)
     (oK cfg inl path ops base n listed { st with tmps := st.tmps.set t (.bG false) } k)
   | .skip i d => oK cfg inl path ops base n (listed.setIfInBounds i true) (dK st d (.con (.tuple #[]))) k
   | .val i d p => needs p.ns (zy p.gs (oK cfg inl path ops base n (listed.setIfInBounds i true) (dK st d p.v) k))
   | .none => G9 (fun i => match ops[i]? with
     | some o => Bz cfg inl path ops st o fun st' =>
       if iC base st' then oK cfg inl path ops base n (listed.setIfInBounds i true) st' k else .fail "a region that draws its order: a box is written" path
     | none => .fail "a region that draws its order" path) rs
def UD (o : Oper) : Nat := o.after.toList.foldl (fun m e => if Region.binds .any e then Nat.lor m (Nat.shiftLeft 1 e.on) else m) 0
def abE (ops : Array Oper) (i : Nat) (oi : Oper) : Nat :=
 (List.range ops.size).foldl (fun m j => if j == i || (match ops[j]? with
  | some oj => oj.after.any (fun e => Region.binds .any e && e.on == i) || oi.apart ops oj
  | none => true) then m else Nat.lor m (Nat.shiftLeft 1 j)) 0
def masks (ops : Array Oper) : List (Nat × Nat) := (List.range ops.size).map fun i => match ops[i]? with
 | some o => (UD o, abE ops i o)
 | none => (0, 0)
def YF (m i : Nat) : Bool := Nat.beq (Nat.land (Nat.shiftRight m i) 1) 1
def UC (a m : Nat) : Bool := Nat.beq (Nat.land a m) a
def P8 (n m i : Nat) : Nat := if Nat.ble n i then m else Nat.lor m (Nat.shiftLeft 1 i)
def Lm : List (Nat × Nat) -> Nat -> Nat -> List Nat
 | [], _, _ => []
 | p :: r, i, m => if !YF m i && UC p.1 m then i :: Lm r (i + 1) m else Lm r (i + 1) m
def acZ (ms : List (Nat × Nat)) (m i : Nat) : Bool := match ms[i]? with
 | some p => UC p.2 m
 | none => false
def yI (P : Program) (ops : Array Oper) (ms : List (Nat × Nat)) (m : Nat) (base st : St A) : List Nat -> Take A
 | [] => .none
 | i :: rest => match ops[i]? with
  | some o => if acZ ms m i then match G8 P ops base st i o with
    | .none => yI P ops ms m base st rest
    | t => t
   else yI P ops ms m base st rest
  | none => yI P ops ms m base st rest
def qA (cfg : kK) (inl : uN A) (path : Nat) (ops : Array Oper) (ms : List (Nat × Nat)) (base : St A) : Nat -> Nat -> St A -> (St A -> Tree A) -> Tree A
 | 0, _, _, _ => .fail "a region that draws its order" path
 | n + 1, m, st, k =>
  match Lm ms 0 m with
  | [] => k st
  | rs => match yI cfg.P ops ms m base st rs with
   | .ask t b => .br b (qA cfg inl path ops ms base n m { st with tmps := st.tmps.set t (.bG true) } k)
     (qA cfg inl path ops ms base n m { st with tmps := st.tmps.set t (.bG false) } k)
   | .skip i d => qA cfg inl path ops ms base n (P8 ops.size m i) (dK st d (.con (.tuple #[]))) k
   | .val i d p => needs p.ns (zy p.gs (qA cfg inl path ops ms base n (P8 ops.size m i) (dK st d p.v) k))
   | .none => G9 (fun i => match ops[i]? with
     | some o => Bz cfg inl path ops st o fun st' =>
       if iC base st' then qA cfg inl path ops ms base n (P8 ops.size m i) st' k else .fail "a region that draws its order: a box is written" path
     | none => .fail "a region that draws its order" path) rs
def nodupB : List Nat -> Bool
 | [] => true
 | x :: l => !l.contains x && nodupB l
def nT (P : Program) (ops : Array Oper) (i : Nat) : Option (TypeId × Nat × List (SV A)) :=
 match ops[i]? with
 | some o => match o.op, o.dst, o.guard with
  | .alloc t, some d, none => match qm P t, sizeT P t with
   | some z, some n => if n == z.length && z.all jo && !gG t && o.after.all (fun e => !Region.binds .any e) then some (t, d, z) else none
   | _, _ => none
  | .makeMap t none, some d, none => if (qo P t).isSome && o.after.all (fun e => !Region.binds .any e) then some (ql t, d, []) else none
  | _, _, _ => none
 | none => none
def Yn (P : Program) (ops : Array Oper) : List Nat := (List.range ops.size).filter fun i => (nT (A := A) P ops i).isSome
def waitsFor (ops : Array Oper) (l : List Nat) (j : Nat) : Bool := match ops[j]? with
 | some o => o.after.any fun e => Region.binds .any e && l.contains e.on
 | none => false
def KN (ops : Array Oper) (bI : List Nat) : Bool :=
 (List.range ops.size).all fun j => bI.contains j ||
  bI.all fun i => match ops[i]?, ops[j]? with
   | some oi, some oj => oi.dst != oj.dst
   | _, _ => false
def oJ (P : Program) (ops : Array Oper) : List Nat -> St A -> St A
 | [], st => st
 | i :: l, st => match nT P ops i with
  | some (t, d, z) => oJ P ops l (if gG t then dK (dL st t A.I4 true) (some d) (.sl st.ents.length) else dK (yY st t z) (some d) (.ptr st.boxes.length 0))
  | none => oJ P ops l st
def iP (P : Program) (ops : Array Oper) : List Nat -> St A -> St A
 | [], st => st
 | i :: l, st => match nT (A := A) P ops i with
  | some (_, d, _) => iP P ops l (dK st (some d) .junk)
  | none => iP P ops l st
def aS (l : List Nat) (listed : Array Bool) : Array Bool := l.foldl (fun a i => a.setIfInBounds i true) listed
def PU (P : Program) (ops : Array Oper) (base st : St A) (bI : List Nat) : Bool :=
 KN ops bI && !bI.isEmpty && nodupB bI &&
 bI.all (fun i => decide (i < ops.size) && (match nT (A := A) P ops i with
  | some (_, d, _) => decide (d < st.tmps.length) && bI.all fun j => i == j || (match nT (A := A) P ops j with
   | some (_, e, _) => d != e
   | none => false)
  | none => false)) && iC base st
def Bo (ops : Array Oper) (bI : List Nat) (listed : Array Bool) : List Nat := bI.filter fun i => (Region.ready .any ops (aS bI listed)).all fun j => waitsFor ops [i] j
def Rl (bI now : List Nat) : List Nat := bI.filter fun i => !now.contains i
def qL (cfg : kK) (inl : uN A) (path : Nat) (ops : Array Oper) (base : St A) (bI : List Nat) : Nat -> Array Bool -> St A -> (St A -> Tree A) -> Tree A
 | 0, _, _, _ => .fail "a region that draws its order" path
 | n + 1, listed, st0, k =>
  let st := iP cfg.P ops bI st0
  match (Region.ready .any ops listed).filter fun i => !bI.contains i with
  | [] => if (Rl bI (Bo ops bI listed)).isEmpty then oK cfg inl path ops base (2 * ops.size + 2) (aS (Bo ops bI listed) listed) (oJ cfg.P ops (Bo ops bI listed) st) k
   else if !(Bo ops bI listed).isEmpty && iC base (oJ cfg.P ops (Bo ops bI listed) st) then
    qL cfg inl path ops base (Rl bI (Bo ops bI listed)) n (aS (Bo ops bI listed) listed) (oJ cfg.P ops (Bo ops bI listed) st) k
   else .fail "a region that draws its order: what waits for allocs" path
  | rs => match nN cfg.P ops listed base st rs with
   | .ask t b => .br b (qL cfg inl path ops base bI n listed { st with tmps := st.tmps.set t (.bG true) } k)
     (qL cfg inl path ops base bI n listed { st with tmps := st.tmps.set t (.bG false) } k)
   | .skip i d => qL cfg inl path ops base bI n (listed.setIfInBounds i true) (dK st d (.con (.tuple #[]))) k
   | .val i d p => needs p.ns (zy p.gs (qL cfg inl path ops base bI n (listed.setIfInBounds i true) (dK st d p.v) k))
   | .none => if (Region.ready .any ops (aS bI listed)).all fun j => rs.contains j then G9 (fun i => match ops[i]? with
     | some o => Bz cfg inl path ops st o fun st' =>
       if iC base st' then qL cfg inl path ops base bI n (listed.setIfInBounds i true) st' k else .fail "a region that draws its order: a box is written" path
     | none => .fail "a region that draws its order" path) rs
    else .fail "a region that draws its order: what waits for allocs" path
def HK.cell : HK -> Option (K × Bool)
 | .junk => none
 | .int k => some (.int k, false)
 | .bool => some (.bool, false)
 | .str => some (.str, false)
 | .sl e own => some (.sl e, own)
def EI (P : Program) : List HK -> St A -> (List (SV A) -> List A.C -> St A -> Tree A) -> Tree A
 | [], st, f => f [] [] st
 | hk :: hks, st, f => match hk.cell with
  | none => EI P hks st fun vs cs st => f (.junk :: vs) cs st
  | some (k, own) => F5 P own k st fun v c st => EI P hks st fun vs cs st => f (v :: vs) (c :: cs) st
def abG (ents : List (dI A)) (p : K × Bool) (v : SV A) : Option A.C :=
 match p, v with
 | (.sl e, true), .sl id => match ents[id]? with
  | some en => if en.live && en.own && en.elem == e then some (.sl en.s) else none
  | none => none
 | (.sl e, true), .con (.slice none 0 0) => if gG e then none else some (.sl A.I4)
 | (.sl _, true), _ => none
 | (k, _), v => xH ents k v
def xR (ents : List (dI A)) : List HK -> List (SV A) -> Option (List A.C)
 | [], [] => some []
 | hk :: hks, v :: vs => match hk.cell, xR ents hks vs with
  | none, some cs => some cs
  | some p, some cs => match abG ents p v with
   | some c => some (c :: cs)
   | none => none
  | _, none => none
 | _, _ => none
def pF (h : ku) : List HK := h.ents.map (fun p => HK.sl p.2 true) ++ (h.slots.map (·.2) ++ h.boxes.flatMap (·.2))
def He (st : St A) (b : Nat) : List (SV A) := match st.boxes[b]? with
 | some bx => bx.cells
 | none => []
def uO (st : St A) (h : ku) : List (SV A) := h.ents.map (fun p => SV.sl p.1) ++ (h.slots.map (fun p => st.tmps.getD p.1 .junk) ++ h.boxes.flatMap fun p => He st p.1)
def ahk : HK -> SV A -> Option Nat
 | .sl _ true, .sl id => some id
 | _, _ => none
def idList : List HK -> List (SV A) -> List (Option Nat)
 | hk :: hks, v :: vs => ahk hk v :: idList hks vs
 | _, _ => []
def jm (st : St A) (h : ku) : List Nat := (idList (pF h) (uO st h)).filterMap id
def Qa (st : St A) (l : List (Nat × List HK)) : Bool := l.all fun p => match st.boxes[p.1]? with
 | some bx => bx.live && bx.cells.length == p.2.length
 | none => false
def lW (st : St A) (h : ku) : Bool := Qa st h.boxes && h.ents.all fun p => decide (p.1 < st.ents.length)
def BA (st : St A) (h : ku) : Option (List A.C) := if lW st h then xR st.ents (pF h) (uO st h) else none
def Ee (st : St A) : List Nat -> St A
 | [] => st
 | id :: l => Ee (dU st id) l
def BP (tmps : List (SV A)) : List (Nat × HK) -> List (SV A)
 | [] => tmps
 | (t, _) :: r => BP (tmps.set t .junk) r
def yJ (boxes : List (Box A)) : List (Nat × List HK) -> List (Box A)
 | [] => boxes
 | (b, _) :: r => yJ (match boxes[b]? with
  | some bx => boxes.set b { bx with cells := List.replicate bx.cells.length .junk, ver := bx.ver + 1 }
  | none => boxes) r
def eX (st : St A) (h : ku) : St A :=
 { wr := st.wr, rg := st.rg, tmps := BP st.tmps h.slots, boxes := yJ st.boxes h.boxes, ents := (Ee st (jm st h)).ents }
def II (tmps : List (SV A)) : List (Nat × HK) -> List (SV A) -> List (SV A)
 | (t, _) :: r, v :: vs => II (tmps.set t v) r vs
 | _, _ => tmps
def Au (boxes : List (Box A)) : List (Nat × List HK) -> List (SV A) -> List (Box A)
 | [], _ => boxes
 | (b, hks) :: r, vs => Au (match boxes[b]? with
  | some bx => boxes.set b { bx with cells := vs.take hks.length }
  | none => boxes) r (vs.drop hks.length)
def tu (n : Nat) (ents : List (dI A)) (id id' : Nat) : List (dI A) := match ents[id]?, ents[id']? with
 | some e, some e' => if !e.live && e'.live && e'.own && decide (n <= id') then (ents.set id { e' with ver := e.ver + 1 }).set id' { e' with live := false, ver := e'.ver + 1 } else ents
 | _, _ => ents
def bM (n : Nat) : List (Nat × TypeId) -> List (SV A) -> List (dI A) -> List (dI A)
 | (id, _) :: r, .sl id' :: vs, ents => bM n r vs (tu n ents id id')
 | _ :: r, _ :: vs, ents => bM n r vs ents
 | _, _, ents => ents
def wU (n : Nat) (h : ku) (vs : List (SV A)) (st : St A) : St A :=
 { wr := st.wr, rg := st.rg, tmps := II st.tmps h.slots (vs.drop h.ents.length), boxes := Au st.boxes h.boxes ((vs.drop h.ents.length).drop h.slots.length), ents := bM n h.ents vs st.ents }
def abL : HK -> List RK
 | .junk => []
 | .int _ => [.int]
 | .bool => [.bool]
 | .str => [.str]
 | .sl _ _ => [.sl]
def Es (h : ku) : List RK := h.ents.map (fun _ => RK.sl) ++ h.slots.flatMap (fun p => abL p.2) ++ h.boxes.flatMap fun p => p.2.flatMap abL
def iT : Code -> List Nat
 | .region _ ops _ => ops.toList.filterMap (·.dst)
 | .seq a b => iT a ++ iT b
 | .cond _ a b => iT a ++ iT b
 | .block _ b => iT b
 | .loop b => iT b
 | _ => []
def cZ : Code -> Nat
 | .region id _ _ => id
 | .seq a b => match cZ a with
  | 0 => cZ b
  | n => n
 | .cond _ a b => match cZ a with
  | 0 => cZ b
  | n => n
 | .block _ b => cZ b
 | .loop b => cZ b
 | _ => 0
def Ef (h : ku) (n : Nat) (hd st : St A) : Bool :=
 (hd.boxes.zipIdx.all fun (b, i) => (match st.boxes[i]? with
  | some b' => b'.ver == b.ver || (b.live && (h.boxes.map (·.1)).contains i && b'.live)
  | none => false)) &&
 ((hd.ents.take n).zipIdx.all fun (e, i) => !e.live || (h.ents.map (·.1)).contains i || (match st.ents[i]? with
  | some e' => e'.ver == e.ver
  | none => false))
def Ro (h : ku) (body : Code) (st : St A) : Bool :=
 (iT body).all (fun d => (h.slots.map (·.1)).contains d) && nodupB (jm st h) && lW st h
def aku (ops : Array Oper) (o : Oper) : List Nat :=
 (o.op.operands.toList.filterMap fun | .tmp t => some t | _ => none) ++ (match o.guard with
  | some (j, _) => (match ops[j]? with
   | some o' => o'.dst.toList
   | none => [])
  | none => [])
def V8 (ops : Array Oper) : List Oper -> List Nat -> List Nat × List Nat
 | [], d => ([], d)
 | o :: r, d =>
  let p := V8 ops r (match o.dst with
   | some t => t :: d
   | none => d)
  ((aku ops o).filter (fun t => !d.contains t) ++ p.1, p.2)
def expose : Code -> List Nat -> List Nat × List Nat
 | .region _ ops _, d => V8 ops ops.toList d
 | .seq a b, d =>
  let p := expose a d
  let q := expose b p.2
  (p.1 ++ q.1, q.2)
 | .cond c a b, d =>
  ((match c with
   | .tmp t => if d.contains t then [] else [t]
   | _ => []) ++ (expose a d).1 ++ (expose b d).1, d)
 | .block _ b, d => ((expose b d).1, d)
 | .loop b, d => ((expose b d).1, d)
 | _, d => ([], d)
def kindOf (st : St A) : SV A -> HK
 | .int k _ => .int k
 | .bG _ => .bool
 | .bool _ => .bool
 | .str _ => .str
 | .con (.int k _) => .int k
 | .con (.bool _) => .bool
 | .sl id => match st.ents[id]? with
  | some e => .sl e.elem e.own
  | none => .junk
 | _ => .junk
def oL : Code -> List Oper
 | .region _ ops _ => ops.toList
 | .seq a b => oL a ++ oL b
 | .cond _ a b => oL a ++ oL b
 | .block _ b => oL b
 | .loop b => oL b
 | .rangeFunc _ _ a b => oL a ++ oL b
 | _ => []
def Sj (P : Program) (st : St A) (ops : List Oper) (t : Nat) : HK :=
 match st.tmps.getD t .junk with
 | .con (.slice none 0 0) => match ops.find? (fun o => o.dst == some t) with
  | some o => match ni P o.type with
   | some e => .sl e true
   | none => .junk
  | none => .junk
 | v => kindOf st v
def ao7 (st : St A) (id : Nat) : Bool := match st.boxes.filter fun bx => bx.live && bx.cells.any fun v => match v with
  | .sl i => i == id
  | _ => false with
 | _ :: _ :: _ => true
 | _ => false
def akv (ops : List Oper) : Operand -> Nat
 | .tmp t => match ops.find? (fun o => o.dst == some t) with
  | some o => match o.op with
   | .fieldAddr _ _ f => f
   | _ => 0
  | none => 0
 | _ => 0
def jH (st : St A) (tmps : List (SV A)) (ops : List Oper) : Nat -> Operand -> Option (SV A ⊕ Nat)
 | 0, _ => none
 | _ + 1, .func f => some (.inl (.fn f []))
 | n + 1, .tmp t => match ops.find? (fun o => o.dst == some t) with
  | some o => match o.op with
   | .fieldAddr _ u _ => jH st tmps ops n u
   | .indexAddr _ u _ => jH st tmps ops n u
   | .field _ u f => match jH st tmps ops n u with
    | some (.inl (.agg l)) => match l.getD f .junk with
     | .sl id => some (.inl (.view id 0 (A.lit 0) (A.lit 0)))
     | .ptr b off => some (.inl (.ptr b off))
     | .fn g caps => some (.inl (.fn g caps))
     | _ => none
    | some (.inl (.BN b n)) => some (.inl (.BN b n))
    | _ => none
   | .load _ u => match jH st tmps ops n u with
    | some (.inl (.ptr b off)) => match st.boxes[b]? with
     | some bx => match bx.cells.getD off .junk with
      | .fn g caps => some (.inl (.fn g caps))
      | .oP i => some (.inl (.oP i))
      | .ptr b' off' => some (.inl (.ptr b' off'))
      | _ => match bx.cells.getD (off + akv ops u) .junk with
       | .sl id => if ao7 st id then some (.inl (.view id 0 (A.lit 0) (A.lit 0))) else some (.inl (.ptr b off))
       | _ => some (.inl (.ptr b off))
     | none => none
    | x => x
   | .move u => jH st tmps ops n u
   | .nilCheck u => jH st tmps ops n u
   | .assign u => jH st tmps ops n u
   | .slice _ u _ _ _ => jH st tmps ops n u
   | .makeFunc (.func g) _ caps => some (.inl (.fn g (caps.toList.map fun c => match jH st tmps ops n c with
    | some (.inl v) => v
    | _ => .junk)))
   | .alloc _ => match ops.find? (fun o => match o.op with
     | .store _ (.tmp x) _ => x == t
     | _ => false) with
    | some o => match o.op with
     | .store _ _ v => match jH st tmps ops n v with
      | some (.inl (.BN b m)) => some (.inl (.BN b m))
      | _ => none
     | _ => none
    | none => none
   | _ => none
  | none => match tmps.getD t .junk with
   | .ptr b off => some (.inl (.ptr b off))
   | .sl _ => some (.inr t)
   | .fn g caps => some (.inl (.fn g caps))
   | .oP i => some (.inl (.oP i))
   | .view id sz lo n => some (.inl (.view id sz lo n))
   | .BN b n => some (.inl (.BN b n))
   | .agg l => some (.inl (.agg l))
   | _ => none
 | _ + 1, _ => none
def UW (st : St A) (tmps : List (SV A)) (ops : List Oper) (x : Operand) : SV A := match jH st tmps ops 30 x with
 | some (.inl v) => v
 | some (.inr t) => match tmps.getD t .junk with
  | .sl id => .view id 0 (A.lit 0) (A.lit 0)
  | _ => .junk
 | none => .junk
def Eh (st : St A) (ops : List Oper) : Nat -> Operand -> Bool
 | n + 1, .tmp t => match ops.find? (fun o => o.dst == some t) with
  | some o => match o.op with
   | .fieldAddr _ u _ => Eh st ops n u
   | .indexAddr _ u _ => Eh st ops n u
   | .move u => Eh st ops n u
   | .assign u => Eh st ops n u
   | .load _ u => match jH st st.tmps ops 30 u with
    | some (.inl (.ptr b off)) => match st.boxes[b]? with
     | some bx => match bx.cells.getD off .junk with
      | .fn _ _ => false
      | .JX _ _ => false
      | .oP _ => false
      | .ptr _ _ => false
      | _ => true
     | none => false
    | _ => false
   | _ => false
  | none => false
 | _, _ => false
def touches (ops : Array Oper) (st : St A) (o : Oper) : Bool := match o.op with
 | .store _ x _ => match jH st st.tmps ops.toList 30 x with
  | some (.inl (.ptr _ _)) => Eh st ops.toList 30 x
  | _ => true
 | .slice .. => true
 | .buildSlice .. => true
 | .mapUpdate .. => true
 | .insert .. => true
 | .call { callee := .value _, .. } => true
 | .call { callee := .builtin .append, .. } => true
 | _ => false
def afn (ops : Array Oper) (st : St A) : List Nat :=
 (if ops.toList.any (touches ops st) then [1000000] else []) ++ ops.toList.filterMap fun o => match o.op with
  | .store _ x _ => match jH st st.tmps ops.toList 30 x with
   | some (.inl (.ptr b _)) => if Eh st ops.toList 30 x then none else some b
   | _ => none
  | _ => none
def ao8 (st : St A) (b : Nat) : List (Nat ⊕ Nat) := match st.boxes[b]? with
 | some bx => bx.cells.filterMap fun v => match v with
  | .sl id => some (.inl (1000000 + id))
  | _ => none
 | none => []
def LZ (P : Program) (sk : FuncId -> Bool) (st : St A) : Nat -> Ys A -> List (SV A) -> List Oper -> List (Nat ⊕ Nat)
 | 0, _, _, _ => []
 | n + 1, ys, tmps, ops => ops.flatMap fun o => match o.op with
  | .store _ x _ => match jH st tmps ops 30 x with
   | some (.inl (.ptr b _)) => [.inl b]
   | some (.inl (.view id _ _ _)) => [.inl (1000000 + id)]
   | some (.inl (.BN b _)) => ao8 st b
   | some (.inr t) => [.inr t]
   | _ => []
  | .mapUpdate _ x _ _ => match jH st tmps ops 30 x with
   | some (.inl (.ptr b _)) => [.inl b]
   | some (.inl (.view id _ _ _)) => [.inl (1000000 + id)]
   | some (.inr t) => [.inr t]
   | _ => []
  | .call { callee := .value f, args, .. } => match jH st tmps ops 30 f with
   | some (.inl (.fn g caps)) => if sk g then [] else match P.funcs[g]? with
    | some fn => match fn.body with
     | some body => (LZ P sk st n ys (args.toList.map (UW st tmps ops) ++ caps) (oL body)).filter fun h => match h with
      | .inl _ => true
      | .inr _ => false
     | none => []
    | none => []
   | some (.inl (.oP i)) => match ys.find? (fun y => y.i == i) with
    | some y => (LZ P sk st n ys y.tmps (oL y.code)).filter fun h => match h with
      | .inl _ => true
      | .inr _ => false
    | none => []
   | _ => []
  | _ => []
def amN : SV A -> Bool
 | .ptr _ _ => true
 | _ => false
def aa5 (P : Program) (st : St A) (ops : List Oper) : List Nat := ops.flatMap fun o => match o.op with
 | .call { callee := .value f, args, .. } => match jH st st.tmps ops 30 f with
  | some (.inl (.fn g caps)) => if caps.isEmpty && !(args.toList.any fun x => amN (UW st st.tmps ops x)) then [] else match (P.funcs[g]?).bind (·.body) with
   | some body => (LZ P (fun _ => false) st (if caps.isEmpty then 2 else 7) [] (args.toList.map (UW st st.tmps ops) ++ caps) (oL body)).filterMap fun h => match h with
     | .inl i => if i < 1000000 then some i else none
     | .inr _ => none
   | none => []
  | _ => []
 | _ => []
def FT (P : Program) (ops : Array Oper) (st : St A) : List Nat := afn ops st ++ aa5 P st ops.toList
def amO (st : St A) : K -> SV A -> HK
 | .sl e, .sl id => match st.ents[id]? with
  | some en => .sl e en.own
  | none => .sl e true
 | .sl e, _ => .sl e true
 | .int k, _ => .int k
 | .bool, _ => .bool
 | .str, _ => .str
def abM (st : St A) : List K -> List (SV A) -> List HK
 | k :: ks, v :: vs => amO st k v :: abM st ks vs
 | _, _ => []
def UY (P : Program) : Nat -> TypeId -> Option (List K)
 | 0, _ => none
 | n + 1, t =>
  match P.underlying t with
  | some (.int k) => some [.int k]
  | some .bool => some [.bool]
  | some .string => some [.str]
  | some (.slice e) => some [.sl e]
  | some (.map _ _) => some [.sl (ql t)]
  | some (.struct fs) => fs.toList.foldr (fun f acc => match UY P n f.type, acc with | some a, some b => some (a ++ b) | _, _ => none) (some [])
  | some (.array m e) => (UY P n e).map fun l => (List.replicate m l).flatten
  | _ => none
def amP (P : Program) (t : TypeId) : Option (List K) := match kinds P t with
 | some ks => some ks
 | none => UY P 8 t
def amQ (h : ku) : HK -> HK
 | .sl e o => .sl e (o && (gG e || !h.slots.any fun p => p.1 == 999999))
 | k => k
def V9 (P : Program) (h : ku) (given : List Nat) (hit : List (Nat ⊕ Nat)) (st : St A) : List (Nat × List HK) :=
 let hb := (hit.filterMap fun h => match h with
  | .inl i => some i
  | .inr _ => none).eraseDups
 (hb.filter fun i => !given.contains i).filterMap fun i => match st.boxes[i]? with
  | some bx => if bx.live then (match amP P bx.ty with
   | some ks => some (i, (abM st ks bx.cells).map (amQ h))
   | none => none) else none
  | none => none
def Zf (hit : List (Nat ⊕ Nat)) (slots : List (Nat × HK)) (st : St A) : List (Nat × TypeId) :=
 let taken := slots.filterMap fun p => match p.2, st.tmps.getD p.1 .junk with
  | .sl _ true, .sl id => some id
  | _, _ => none
 let ids := (hit.filterMap fun h => match h with
  | .inl i => if 1000000 <= i then some (i - 1000000) else none
  | .inr _ => none).eraseDups
 (ids.filter fun i => !taken.contains i).filterMap fun i => match st.ents[i]? with
  | some e => if e.live && e.own then some (i, e.elem) else none
  | none => none
def abB (P : Program) (sk : FuncId -> Bool) (h : ku) (ys : Ys A) (b : Code) (st : St A) : ku :=
 let ex := (expose b []).1
 let ops := oL b
 let hit := LZ P sk st 8 ys st.tmps ops
 let more := (hit.filterMap fun x => match x with
  | .inl _ => none
  | .inr t => match st.tmps.getD t .junk with
   | .sl id => match st.ents[id]? with
    | some e => if e.own && !(iT b).contains t && !(h.slots.map (·.1)).contains t then some (t, HK.sl e.elem true) else none
    | none => none
   | _ => none)
 let more := more.foldl (fun acc p => if acc.any (fun q => q.1 == p.1) then acc else acc ++ [p]) []
 let slots := ((iT b).eraseDups.map fun t => (t, match h.slots.find? (fun p => p.1 == t) with
   | some p => p.2
   | none => if ex.contains t then Sj P st ops t else .junk)) ++ more ++ h.slots.filter (fun p => !(iT b).contains p.1)
 { slots := slots, boxes := h.boxes ++ V9 P h (h.boxes.map (·.1)) hit st, ents := h.ents ++ Zf hit slots st }
def ahH (P : Program) (ops : List Oper) (t : Nat) : HK := match ops.find? (fun o => o.dst == some t) with
 | some o => match kinds P o.type with
  | some [.int k] => .int k
  | some [.bool] => .bool
  | some [.str] => .str
  | some [.sl e] => .sl e true
  | none => match P.underlying o.type with
   | some (.map _ _) => .sl (ql o.type) true
   | _ => .junk
  | _ => .junk
 | none => .junk
def ahI : Op -> Bool
 | .assign _ => true
 | _ => false
def aby (P : Program) (sk : FuncId -> Bool) (h : ku) (ys : Ys A) (a b : Code) (st : St A) : ku :=
 let ex := (expose b []).1
 let ops := oL a
 let hit := LZ P sk st 8 ys st.tmps ops
 let more := (hit.filterMap fun x => match x with
  | .inl _ => none
  | .inr t => match st.tmps.getD t .junk with
   | .sl id => match st.ents[id]? with
    | some e => if e.own && !(iT a).contains t && !(h.slots.map (·.1)).contains t then some (t, HK.sl e.elem true) else none
    | none => none
   | _ => none)
 let more := more.foldl (fun acc p => if acc.any (fun q => q.1 == p.1) then acc else acc ++ [p]) []
 let slots := ((iT a).eraseDups.map fun t => (t, match h.slots.find? (fun p => p.1 == t) with
   | some p => p.2
   | none => match Sj P st ops t with
    | .junk => if ex.contains t then ahH P ops t else .junk
    | k => if ex.contains t || ops.any (fun o => o.dst == some t && ahI o.op) then k else .junk)) ++ more ++ h.slots.filter (fun p => !(iT a).contains p.1)
 { slots := slots, boxes := h.boxes ++ V9 P h (h.boxes.map (·.1)) hit st, ents := h.ents ++ Zf hit slots st }
def Iu : List HK -> List (SV A) -> List Nat
 | .sl _ false :: hks, .sl id :: vs => id :: Iu hks vs
 | _ :: hks, _ :: vs => Iu hks vs
 | _, _ => []
def rH (h : ku) (st : St A) : St A := mM st (Iu (pF h) (uO st h))
inductive Jp where
 | none
 | ret
 | exit (id : Nat)
 | bad
def acJ : List (SV A) -> Jp
 | [] => .none
 | [.ptr 0 _] => .ret
 | [.ptr (id + 1) _] => .exit id
 | _ => .bad
def Ec : Option Nat -> List (SV A)
 | Option.none => [.ptr 0 0]
 | some id => [.ptr (id + 1) 0]
def FQ (st : St A) (i : Nat) (tmps : List (SV A)) (j : Option Nat) : St A := match st.boxes[i]? with
 | some bx => { st with tmps := tmps, boxes := st.boxes.set i { bx with cells := Ec j, ver := bx.ver + 1 } }
 | none => { st with tmps := tmps }
def PV (st : St A) (i : Nat) : Jp := match st.boxes[i]? with
 | some bx => if bx.live then .bad else acJ bx.cells
 | none => .bad
def Yk (j : Jp) (t e : Tree A) : Tree A := match j with
 | .none => t
 | _ => e
def setMany (tmps : List (SV A)) : List Nat -> List (SV A) -> List (SV A)
 | t :: ts, v :: vs => setMany (tmps.set t v) ts vs
 | _, _ => tmps
def UA (ops : Array Oper) : Bool := ops.toList.all fun o => match o.op with
 | .defer _ => false
 | _ => true
def rolls (one : Nat -> St A -> (St A -> Tree A) -> Tree A) : Nat -> St A -> Tree A
 | 0, _ => .fail "a loop of more rounds" 0
 | n + 1, st => one n st (rolls one n)
def abA (cfg : kK) (p : Nat) (ops : Array Oper) (st : St A) : Bool :=
 cfg.cut (p * 1000 + 949) && ops.toList.any fun o => match o.dst with
  | some d => (match st.tmps.getD d .junk with
   | .fn g _ => !cfg.cut ((p * 1000 + 950) * 1000 + g)
   | .JX g _ => !cfg.cut ((p * 1000 + 950) * 1000 + g)
   | _ => false)
  | none => false
def aj8 : Operand -> Nat
 | .tmp t => t
 | _ => 0
def exec (cfg : kK) (mk : Ys A -> uN A) (ys : Ys A) (qM : Bool) (path : Nat) : Code -> St A -> (St A -> Tree A) -> (Nat -> St A -> Tree A) -> (St A -> Tree A) -> Tree A
  | .skip, st, kN, _, _ => kN st
  | .region id ops draw, st, kN, _, _ =>
    if draw then
      if Region.noSelect ops && cfg.P.follows .mixedOrders && UA ops then
        if cfg.cut (path * 1000 + id + 500) && PU cfg.P ops (bT st (FT cfg.P ops st)) st (Yn (A := A) cfg.P ops) then
          qL cfg (mk []) (path * 1000 + id + 1) ops (bT st (FT cfg.P ops st)) (Yn (A := A) cfg.P ops) (2 * ops.size + 2) (Array.replicate ops.size false) st kN
        else qA cfg (mk []) (path * 1000 + id + 1) ops (masks ops) (bT st (FT cfg.P ops st)) (2 * ops.size + 2) 0 st kN
      else .fail "a region that draws its order" id
    else EG cfg (mk ys) (path * 1000 + id + 1) ops ops.toList st fun st' => if abA cfg (path * 1000 + id + 1) ops st' then .fail "another function" id else kN st'
  | .seq a b, st0, kN, kE, kR =>
    if cfg.cut (path * 1000 + cZ b) then
      let h := aby cfg.P (fun g => (cfg.sig g).isSome) (cfg.hav (path * 1000 + cZ b)) ys a b st0
      let st := rH h st0
      if Ro h a st then .join (Es h) fun v => .both
          (exec cfg mk ys qM path a st (fun ahJ => let st' := rH h ahJ; if Ef h st.ents.length (eX st h) st' then
              match BA st' h with
              | some news => if nodupB (jm st' h) && (jm st' h).all (fun id => decide (st.ents.length <= id) || (jm st h).contains id) then .put v news else .fail "branches come together: one slice in two places" (path * 1000 + cZ b)
              | none => .fail "branches come together: a kind does not fit" (path * 1000 + cZ b)
            else .fail "branches come together: something else was written" (path * 1000 + cZ b)) kE kR)
          (EI cfg.P (pF h) (eX st h) fun aI cs st1 => .inv v cs (exec cfg mk ys qM path b (wU st.ents.length h aI st1) kN kE kR))
      else .fail "branches come together: what is forgotten is not well given" (path * 1000 + cZ b)
    else exec cfg mk ys qM path a st0 (fun st => exec cfg mk ys qM path b st kN kE kR) kE kR
  | .cond c a b, st, kN, kE, kR => decided c st fun st => match st.ev c with
    | .bG true => if cfg.cut ((path * 1000 + 990) * 1000 + aj8 c) then .fail "a test's other way" 0 else exec cfg mk ys qM path a st kN kE kR
    | .bG false => if cfg.cut ((path * 1000 + 991) * 1000 + aj8 c) then .fail "a test's other way" 0 else exec cfg mk ys qM path b st kN kE kR
    | _ => .fail "a test" 0
  | .block id b, st, kN, kE, kR => exec cfg mk ys qM path b st kN (fun id' st => if id' == id then kN st else kE id' st) kR
  | .loop b, st0, _, kE, kR =>
    if cfg.cut (path * 1000 + cZ b + 800) then rolls (fun m st k => exec cfg mk ys qM (path * 1000 + 810 + m) b st k kE kR) 8 st0 else
    let h := abB cfg.P (fun g => (cfg.sig g).isSome) (cfg.hav (path * 1000 + cZ b)) ys b st0
    let st := rH h st0
    if Ro h b st then
      match BA st h with
      | some Ur => .loop (Es h) Ur fun v =>
          EI cfg.P (pF h) (eX st h) fun aI cs st1 =>
          .inv v cs (exec cfg mk ys qM path b (wU st.ents.length h aI st1) (fun ahJ => let st' := rH h ahJ; if Ef h st.ents.length (wU st.ents.length h aI st1) st' then
              match BA st' h with
              | some news => if nodupB (jm st' h) && (jm st' h).all (fun id => decide (st.ents.length <= id) || (h.ents.map (·.1)).contains id) then .again v cs news else .fail "a round's end: one slice in two places" (path * 1000 + cZ b)
              | none => .fail "a round's end does not fit the head" (path * 1000 + cZ b)
            else .fail "a round's end: something that the head keeps was written" (path * 1000 + cZ b)) kE kR)
      | none => .fail "a loop's head" (path * 1000 + cZ b)
    else .fail "a loop: what it forgets is not well given" (path * 1000 + cZ b)
  | .rangeFunc f ps assign body, st, kN, kE, kR => match st.ev f with
    | .fn g caps => if GV cfg.P g && !qM then
        let i := st.boxes.length
        let yd : Yd A := { i := i, code := .seq assign body, tmps := st.tmps, run := fun args st1 k => match PV st1 i with
          | .none => if args.length == ps.size then
              exec cfg mk ys true (path * 1000 + 998) assign { st1 with tmps := setMany st.tmps ps.toList args, wr := st.wr } (fun st2 => Yk (PV st2 i) (exec cfg mk ys true (path * 1000 + 999) body st2
                (fun fK => k (.bG true) { fK with tmps := st1.tmps, wr := st1.wr }) (fun id fK => k (.bG false) (FQ { fK with wr := st1.wr } i st1.tmps (some id))) (fun fK => k (.bG false) (FQ { fK with wr := st1.wr } i st1.tmps none))) (.fail "a loop's assignment" i))
                (fun _ _ => .fail "an exit out of a loop's assignment" i) (fun _ => .fail "a return out of a loop's assignment" i)
            else .fail "a round's arguments" i
          | _ => .fail "a round behind the last one" i }
        mk (yd :: ys) (path * 1000 + 997) (.fn g) (.oP i :: caps) { st with boxes := st.boxes ++ [⟨0, [], 0, false⟩] } (fun _ st2 => match PV st2 i with
          | .none => kN { st2 with tmps := st.tmps }
          | .ret => kR { st2 with tmps := st.tmps }
          | .exit id => kE id { st2 with tmps := st.tmps }
          | .bad => .fail "a loop over a function" i)
      else .fail "a loop over no Go function" g
    | _ => .fail "a loop over a function that is not known" 0
  | .exit id, st, _, kE, _ => kE id st
  | .ret, st, _, _, kR => kR st
  | _, _, _, _, _ => .fail "code that is not served" 0
def pG (P : Program) (st : St A) : List ResultVar -> Option (List (SV A))
 | [] => some []
 | .tmp t :: r => (pG P st r).map (st.tmps.getD t .junk :: ·)
 | .cell t ty :: r => match st.tmps.getD t .junk, sizeT P ty, pG P st r with
  | .ptr b off, some n, some l => match st.boxes[b]? with
   | some bx => if bx.live && off + n <= bx.cells.length && (P.underlying ty).isSome then match pack P ty ((bx.cells.drop off).take n) with
     | some v => some (v :: l)
     | none => none
    else none
   | none => none
  | _, _, _ => none
def yD (fn : Func) (args : List (SV A)) : List (SV A) := args ++ List.replicate (fn.ntmps - args.length) (.con (.tuple #[]))
def acN (P : Program) (f : FuncId) (fn : Func) (tmps : List (SV A)) (k : SV A -> St A -> Tree A) (st' : St A) : Tree A :=
 match pG P st' fn.results.toList with
 | some l => k (one l) { st' with tmps := tmps }
 | none => .fail "results" f
def Uu (cfg : kK) : Nat -> Ys A -> uN A
 | 0, _, _, _, _, _, _ => .fail "calls too deep" 0
 | _ + 1, ys, _, .oP i, args, st, k => match ys.find? (fun y => y.i == i) with
  | some y => y.run args st k
  | none => .fail "a round of no loop" i
 | n + 1, ys, path, .fn f, args, st, k => match cfg.Yu f with
  | some (.ins e) => Us cfg.P e args st k
  | some (.kept sg) => XT cfg f sg args st k
  | some (.over sg) => P6 cfg.P f sg args st k
  | none => match cfg.P.funcs[f]? with
   | some fn => match fn.body with
    | some body =>
     exec cfg (Uu cfg n) ys false path body { st with tmps := yD fn args, wr := cfg.wr f } (fun st' => acN cfg.P f fn st.tmps k { st' with wr := st.wr }) (fun _ _ => .fail "an exit out of a function" f) (fun st' => acN cfg.P f fn st.tmps k { st' with wr := st.wr })
    | none => .fail "a function without a body" f
   | none => .fail "no such function" f
def Ux (st : St A) (p : K × Bool) (v : SV A) : Option A.C :=
 match p, v with
 | (.sl e, true), .sl id => match st.ents[id]? with
  | some en => if en.live && en.own && en.elem == e then some (.sl en.s) else none
  | none => none
 | (.sl e, false), .sl id => match st.ents[id]? with
  | some en => if en.live && !en.own && en.elem == e then some (.sl en.s) else none
  | none => none
 | (.sl e, _), .con (.slice none 0 0) => if gG e then none else some (.sl A.I4)
 | (.sl _, _), _ => none
 | (k, _), v => xH st.ents k v
def lV (st : St A) : List (K × Bool) -> List (SV A) -> Option (List A.C)
 | [], [] => some []
 | p :: ps, v :: vs => match Ux st p v, lV st ps vs with
  | some c, some cs => some (c :: cs)
  | _, _ => none
 | _, _ => none
def resV (st : St A) : fM -> SV A -> Option (List A.C)
 | .cell k own, v => (Ux st (k, own) v).map ([·])
 | .agg l, .agg vs => lV st l vs
 | _, _ => none
def FW (st : St A) : List fM -> List (SV A) -> Option (List A.C)
 | [], [] => some []
 | sh :: jZ, v :: vs => match resV st sh v, FW st jZ vs with
  | some c, some cs => some (c ++ cs)
  | _, _ => none
 | _, _ => none
def aj3 : K × Bool -> SV A -> Option Nat
 | (.sl _, true), .sl id => some id
 | _, _ => none
def qp : List (K × Bool) -> List (SV A) -> List (Option Nat)
 | p :: r, v :: vs => aj3 p v :: qp r vs
 | _, _ => []
def DL : List fM -> List (SV A) -> List (Option Nat)
 | .cell k own :: r, v :: vs => qp [(k, own)] [v] ++ DL r vs
 | .agg l :: r, .agg ws :: vs => qp l ws ++ DL r vs
 | _, _ => []
def XO (jZ : List fM) (vs : List (SV A)) : List Nat := (DL jZ vs).filterMap id
def VO (sg : nV) (st : St A) (l : List (SV A)) : St A :=
 mM st ((List.range st.ents.length).filter fun i => !(XO sg.res l).contains i)
def Ey : fM -> Bool
 | .cell _ own => !own
 | .agg l => l.all fun p => !p.2
def acQ (P : Program) (f : FuncId) (fn : Func) (sg : nV) (cs : List A.C) (st' : St A) : Tree A :=
 match pG P st' fn.results.toList with
 | some l => match FW (VO sg st' l) sg.res l with
  | some rs => if nodupB (XO sg.res l) then .need (A.post f cs rs) .done else .fail "results: one slice in two places" f
  | none => .fail "results do not fit the contract" f
 | none => .fail "results" f
def vc (cfg : kK) (depth : Nat) (f : FuncId) (sg : nV) : Tree A :=
 match cfg.P.funcs[f]? with
 | some fn => match fn.body with
  | some body => if !(sg.args.all Ey) then .fail "a contract's arguments" f else Ed cfg.P sg.args { tmps := [], boxes := [], ents := [], wr := cfg.wr f, rg := cfg.rg f } fun vs cs st =>
   .given (A.pre f cs) (exec cfg (Uu cfg depth) [] false f body { st with tmps := yD fn vs } (acQ cfg.P f fn sg cs) (fun _ _ => .fail "an exit out of a function" f) (acQ cfg.P f fn sg cs))
  | none => .fail "a function without a body" f
 | none => .fail "no such function" f
end
end Go.Sx
