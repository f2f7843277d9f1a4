/-
 The definitions of a symbolic executor over the model's code: values, trees, states, the executor itself. Conditions: none; nothing is proved here.
 The second half of the symbolic executor's definitions: operations that make or write memory, calls, loops, the code. Conditions: none; nothing is proved here.
-/
import Derived.Calls
import Derived.Orders
set_option linter.unusedVariables false
set_option linter.unusedSimpArgs false
namespace Go.Sx
inductive K where
 |int (k:IntKind)
 |bool
 |str
 |sl (elem:TypeId)
def K.beq:K->K->Bool
 | .int a, .int b=>a==b
 | .bool, .bool=>true
 | .str, .str=>true
 | .sl a, .sl b=>a==b
 |_,_=>false
inductive D where
 |int (n:Int)
 |bool (b:Bool)
 |str (s:ByteArray)
 |sl (n:Nat) (f:Nat->Nat->D)
def kindsF(P:Program):Nat->TypeId->Option (List K)
 |0,_=>none
 |n+1,t=>
  match P.underlying t with
  |some (.int k)=>some [.int k]
  |some .bool=>some [.bool]
  |some .string=>some [.str]
  |some (.slice e)=>some [.sl e]
  |some (.struct fs)=>fs.toList.foldr (fun f acc=>match kindsF P n f.type,acc with|some a,some b=>some (a++b)|_,_=>none) (some [])
  |some (.array m e)=>(kindsF P n e).map fun l=>(List.replicate m l).flatten
  |_=>none
def kinds(P:Program)(t:TypeId):Option (List K):=
 match kindsF P 8 t,P.info? t with
 |some l,some i=>if i.size==l.length then some l else none
 |_,_=>none
inductive Cl(I B Y S:Type) where
 |int (x:I)
 |bool (x:B)
 |str (x:Y)
 |sl (x:S)
inductive RK where
 |int|bool|str|sl
structure Alg where
 I:Type
 B:Type
 Y:Type
 S:Type
 P:Type
 V:Type
 lit:Int->I
 arith:BinOp->IntKind->I->I->I
 wrap:IntKind->I->I
 imin:I->I->I
 imax:I->I->I
 cmp:BinOp->I->I->B
 bnot:B->B
 band:B->B->B
 beq:B->B->B
 blit:Bool->B
 ylit:ByteArray->Y
 ylen:Y->I
 ychr:Y->I->I
 ysub:Y->I->Y
 yeq:Y->Y->B
 len:S->I
 cellI:S->I->Nat->I
 cellB:S->I->Nat->B
 cellY:S->I->Nat->Y
 cellS:S->I->Nat->S
 nilS:S
 sub:S->I->I->S
 upd:S->I->Nat->List (Cl I B Y S)->S
 app:S->S->S
 listS:List (List (Cl I B Y S))->S
 replS:I->List (Cl I B Y S)->S
 mget:S->I->List (Cl I B Y S)->S
 mhas:S->I->B
 mset:S->I->List (Cl I B Y S)->S
 le:I->I->P
 lt:I->I->P
 ne:I->I->P
 rng:IntKind->I->P
 ranged:S->List (Option IntKind)->P
 small:S->P
 clrS:S->S
 mk0:S->S
 mk1:S->S
 untg:S->I->Nat->P
 allT:S->List Nat->P
 pre:FuncId->List (Cl I B Y S)->P
 post:FuncId->List (Cl I B Y S)->List (Cl I B Y S)->P
abbrev Alg.C(A:Alg):Type:=Cl A.I A.B A.Y A.S
inductive Tree(A:Alg) where
 |need (p:A.P) (t:Tree A)
 |given (p:A.P) (t:Tree A)
 |br (b:A.B) (t e:Tree A)
 |both (t e:Tree A)
 |allI (f:A.I->Tree A)
 |allB (f:A.B->Tree A)
 |allY (f:A.Y->Tree A)
 |allS (f:A.S->Tree A)
 |loop (sh:List RK) (entry:List A.C) (f:A.V->Tree A)
 |inv (v:A.V) (xs:List A.C) (t:Tree A)
 |again (v:A.V) (old new:List A.C)
 |join (sh:List RK) (f:A.V->Tree A)
 |put (v:A.V) (xs:List A.C)
 |done
 |fail (why:String) (n:Nat)
inductive SV(A:Alg) where
 |int (k:IntKind) (x:A.I)
 |blit (b:Bool)
 |bool (b:A.B)
 |str (y:A.Y)
 |sl (id:Nat)
 |ptr (box off:Nat)
 |eptr (id sz:Nat) (i:A.I) (off:Nat)
 |view (id sz:Nat) (lo n:A.I)
 |bsl (box n:Nat)
 |fn (f:FuncId) (caps:List (SV A))
 |fnb (f:FuncId) (first:List (SV A))
 |yld (i:Nat)
 |agg (l:List (SV A))
 |tup (l:List (SV A))
 |con (v:Value)
 |junk
 |glob (g:Nat)
 |gel (g n:Nat) (i:A.I)
def SV.clean{A:Alg}:SV A->Bool
 | .junk=>false
 | .agg l=>cleans l
 | .tup l=>cleans l
 | .fn _ l=>cleans l
 | .fnb _ l=>cleans l
 |_=>true
where
 cleans:List (SV A)->Bool
  |[]=>true
  |v::l=>SV.clean v&&cleans l
structure Box(A:Alg) where
 ty:TypeId
 cells:List (SV A)
 ver:Nat
 live:Bool
structure Ent(A:Alg) where
 elem:TypeId
 s:A.S
 own:Bool
 live:Bool
 ver:Nat
def mapT(t:TypeId):TypeId:=t+1000000000
def isM(e:TypeId):Bool:=Nat.ble 1000000000 e
def isL(e:TypeId):Bool:=Nat.ble 2000000000 e
def unL(e:TypeId):TypeId:=e-2000000000
def unM(e:TypeId):TypeId:=e-1000000000
def deepT(t:TypeId):TypeId:=t+3000000000
def mixT(t:TypeId):TypeId:=t+4000000000
def isX(e:TypeId):Bool:=Nat.ble 4000000000 e
def unX(e:TypeId):TypeId:=e % 1000000000
def isD(e:TypeId):Bool:=Nat.ble 3000000000 e&& !isX e
def unD(e:TypeId):TypeId:=e % 1000000000
structure St(A:Alg) where
 tmps:List (SV A)
 boxes:List (Box A)
 ents:List (Ent A)
 wr:Bool:=false
 rg:Bool:=false
section
variable{A:Alg}
def ofConCell:Value->SV A
 | .int k n=>if k.min<=n/\n<=k.max then .int k (A.lit n)else .junk
 | .bool b=> .blit b
 | .string s=> .str (A.ylit s)
 | .agg _=> .junk
 | .tuple _=> .junk
 |v=> .con v
def ofCon:Value->SV A
 | .agg cs=> .agg (cs.toList.map ofConCell)
 | .tuple vs=>if vs.size==0 then .con (.tuple #[])else .junk
 |v=>ofConCell v
def St.ev(st:St A):Operand->SV A
 | .tmp t=>st.tmps.getD t .junk
 | .const v=>ofCon v
 | .global g=> .glob g
 | .func f=> .fn f []
def setTmp(st:St A)(d:Option Nat)(v:SV A):St A:=
 match d with
 |none=>st
 |some d=>{st with tmps:=st.tmps.set d v}
def cellsOf:SV A->List (SV A)
 | .agg l=>l
 |v=>[v]
def isCell:SV A->Bool
 | .agg _=>false
 | .tup _=>false
 | .junk=>false
 | .con (.agg _)=>false
 | .con (.tuple _)=>false
 |_=>true
def toCl(ents:List (Ent A)):K->SV A->Option A.C
 | .int k, .int k' x=>if k==k' then some (.int x)else none
 | .bool, .blit b=>some (.bool (A.blit b))
 | .bool, .bool b=>some (.bool b)
 | .str, .str y=>some (.str y)
 | .sl e, .sl id=>match ents[id]? with
  |some en=>if en.live&&(en.elem==e&& !isM e)then some (.sl en.s)else none
  |none=>none
 | .sl _, .con (.slice none 0 0)=>some (.sl A.nilS)
 |_,_=>none
def toClR(ents:List (Ent A))(k:K)(v:SV A):Option A.C:=
 match v with
 | .sl id=>match ents[id]? with
  |some en=>if en.own then none else toCl ents k (.sl id)
  |none=>none
 |v=>toCl ents k v
def toClsR(ents:List (Ent A)):List K->List (SV A)->Option (List A.C)
 |[],[]=>some []
 |k::ks,v::vs=>match toClR ents k v,toClsR ents ks vs with
  |some c,some cs=>some (c::cs)
  |_,_=>none
 |_,_=>none
def toCls(ents:List (Ent A)):List K->List (SV A)->Option (List A.C)
 |[],[]=>some []
 |k::ks,v::vs=>match toCl ents k v,toCls ents ks vs with
  |some c,some cs=>some (c::cs)
  |_,_=>none
 |_,_=>none
def isAggT(P:Program)(t:TypeId):Bool:=
 match P.underlying t with
 |some (.struct _)=>true
 |some (.array _ _)=>true
 |_=>false
def sizeT(P:Program)(t:TypeId):Option Nat:=(P.info? t).map (·.size)
def pack(P:Program)(t:TypeId)(l:List (SV A)):Option (SV A):=
 if isAggT P t then some (.agg l)else match l with
  |[v]=>some v
  |_=>none
def needs(ps:List A.P)(t:Tree A):Tree A:=ps.foldr Tree.need t
def givens(ps:List A.P)(t:Tree A):Tree A:=ps.foldr Tree.given t
structure Pu(A:Alg) where
 ns:List A.P
 v:SV A
 gs:List A.P
def ok(v:SV A):Option (Pu A):=some ⟨[],v,[]⟩
def intOp(wr:Bool)(op:BinOp)(k:IntKind)(x y:A.I):Option (Pu A):=
 match op with
 | .add| .sub| .mul=>
  if k.signed&& !wr then some ⟨[A.rng k (A.arith op k x y)], .int k (A.arith op k x y),[]⟩else ok (.int k (A.wrap k (A.arith op k x y)))
 | .quo=>if k.signed then some ⟨[A.ne y (A.lit 0),A.rng k (A.arith .quo k x y)], .int k (A.arith .quo k x y),[]⟩
  else some ⟨[A.ne y (A.lit 0)], .int k (A.wrap k (A.arith .quo k x y)),[]⟩
 | .rem=>if k.signed then some ⟨[A.ne y (A.lit 0),A.rng k (A.arith .rem k x y)], .int k (A.arith .rem k x y),[]⟩
  else some ⟨[A.ne y (A.lit 0),A.rng k (A.arith .rem k x y)], .int k (A.arith .rem k x y),[]⟩
 | .and| .or| .xor| .andNot=>ok (.int k (A.wrap k (A.arith op k x y)))
 | .eql| .neq| .lss| .leq| .gtr| .geq=>ok (.bool (A.cmp op x y))
 | .shl| .shr=>none
def shiftOp(op:BinOp)(k:IntKind)(x:A.I)(y:A.I):Option (Pu A):=
 match op with
 | .shl=>some ⟨[A.le (A.lit 0) y], .int k (A.wrap k (A.arith .shl k x y)),[]⟩
 | .shr=>some ⟨[A.le (A.lit 0) y,A.rng k (A.arith .shr k x y)], .int k (A.arith .shr k x y),[]⟩
 |_=>none
def asB:SV A->Option A.B
 | .blit b=>some (A.blit b)
 | .bool b=>some b
 |_=>none
def eqCell:SV A->SV A->Option A.B
 | .int k x, .int k' y=>if k==k' then some (A.cmp .eql x y)else none
 |x,y=>match asB x,asB y with
  |some b,some c=>some (A.beq b c)
  |_,_=>none
def eqCells:List (SV A)->List (SV A)->Option A.B
 |[],[]=>some (A.blit true)
 |[x],[y]=>eqCell x y
 |x::xs,y::ys=>match eqCell x y,eqCells xs ys with
  |some b,some c=>some (A.band b c)
  |_,_=>none
 |_,_=>none
def eqFs(f:TypeId->Option (List Bool)):List Field->Nat->Option (List Bool)
 |[],_=>some []
 |fd::fs,j=>if fd.name != "_" &&fd.offset==j then match f fd.type with
  |some ks=>(eqFs f fs (j+ks.length)).map (ks++ ·)
  |none=>none else none
def eqT(P:Program):Nat->TypeId->Option (List Bool)
 |0,_=>none
 | d+1,t=>match P.underlying t with
  |some (.int _)=>some [true]
  |some .bool=>some [false]
  |some (.struct fs)=>if P.stoodInHeld t then none else match eqFs (eqT P d) fs.toList 0 with
   |some ks=>if sizeT P t==some ks.length then some ks else none
   |none=>none
  |_=>none
def isI:SV A->Bool
 | .int _ _=>true
 |_=>false
def plainStruct(P:Program)(t:TypeId)(xs:List (SV A)):Bool:=(match P.underlying t with
 |some (.struct _)=>true
 |_=>false)&&eqT P 8 t==some (xs.map isI)&& !P.eqGuardType P.depth t
def fieldOff(P:Program)(t:TypeId)(f:Nat):Option (Nat×TypeId):=
 match P.underlying t with
 | some (.struct fs)=>match fs[f]? with
  |some fd=>match sizeT P fd.type with
   |some n=>if n==0 then none else some (fd.offset,fd.type)
   |none=>none
  |none=>none
 |_=>none
def elemOf?(P:Program)(t:TypeId):Option TypeId:=
 match P.underlying t with
 |some (.slice e)=>some e
 |_=>none
def elemCells(s:A.S)(i:A.I):List K->Nat->Option (List (SV A))
 |[],_=>some []
 | .int k::ks,j=>(elemCells s i ks (j+1)).map (.int k (A.cellI s i j):: ·)
 | .bool::ks,j=>(elemCells s i ks (j+1)).map (.bool (A.cellB s i j):: ·)
 | .str::ks,j=>(elemCells s i ks (j+1)).map (.str (A.cellY s i j):: ·)
 | .sl _::_,_=>none
def rks(P:Program)(e:TypeId):List (Option IntKind):=match kinds P e with
 |some ks=>ks.map fun k=>match k with
  | .int k=>some k
  |_=>none
 |none=>[]
def elemGivens(P:Program)(rg:Bool)(s:A.S)(i:A.I):List K->Nat->List A.P
 |[],_=>[]
 | .int k::ks,j=>A.rng k (A.cellI s i j)::elemGivens P rg s i ks (j+1)
 | .sl e::ks,j=>if rg then A.ranged (A.cellS s i j) (rks P e)::elemGivens P rg s i ks (j+1)else elemGivens P rg s i ks (j+1)
 |_::ks,j=>elemGivens P rg s i ks (j+1)
def boolOp(P:Program)(op:BinOp)(t:TypeId)(x y:A.B):Option (Pu A):=
 match P.underlying t,op with
 |some .bool, .eql=>ok (.bool (A.beq x y))
 |some .bool, .neq=>ok (.bool (A.bnot (A.beq x y)))
 |_,_=>none
def pureBin(P:Program)(wr:Bool)(op:BinOp)(t:TypeId):SV A->SV A->Option (Pu A)
 | .int k x, .int k' y=>
  if op== .shl||op== .shr then shiftOp op k x y else if k==k' then intOp wr op k x y else none
 | .bool x, .bool y=>boolOp P op t x y
 | .bool x, .blit y=>boolOp P op t x (A.blit y)
 | .blit x, .bool y=>boolOp P op t (A.blit x) y
 | .blit x, .blit y=>boolOp P op t (A.blit x) (A.blit y)
 | .agg xs, .agg ys=>if plainStruct P t xs then match op,eqCells xs ys with
   | .eql,some b=>ok (.bool b)
   | .neq,some b=>ok (.bool (A.bnot b))
   |_,_=>none
  else none
 | .str x, .str y=>match op with
   | .eql=>ok (.bool (A.yeq x y))
   | .neq=>ok (.bool (A.bnot (A.yeq x y)))
   |_=>none
 |_,_=>none
def fillParts(l:List (SV A)):List (Nat×List (SV A))->Option (List (SV A))
 |[]=>some l
 |(off,cs)::rest=>if off+cs.length<=l.length then fillParts (l.take off++cs++l.drop (off+cs.length)) rest else none
def zeroCellsOf(P:Program)(t:TypeId):Option (List (SV A)):=
 match P.info? t with
 |some i=>match i.zero with
  |some z=>some (cellsOf (ofCon z))
  |none=>none
 |none=>none
def buildParts(P:Program)(t:TypeId)(parts:List (Nat×SV A)):Option (List (Nat×List (SV A))):=
 match parts with
 |[]=>some []
 | (i,v)::rest=>match P.underlying t,buildParts P t rest with
  |some (.struct fs),some r=>match fs[i]? with
   |some f=>if sizeT P f.type==some (cellsOf v).length&&(cellsOf v).all isCell then some ((f.offset,cellsOf v)::r)else none
   |none=>none
  |some (.array _ e),some r=>match sizeT P e with
   |some n=>if n==(cellsOf v).length&&(cellsOf v).all isCell then some ((i*n,cellsOf v)::r)else none
   |none=>none
  |_,_=>none
def fieldsOk(P:Program)(t:TypeId):Bool:=
 match P.underlying t with
 |some (.struct fs)=>fs.toList.all fun f=>(sizeT P f.type).isSome
 |some (.array _ e)=>(sizeT P e).isSome
 |_=>false
def pMove(st:St A)(x:Operand):Option (Pu A):=
 match st.ev x with
  | .junk=>none
  |v=>ok v
def pPick(st:St A)(c a b:Operand):Option (Pu A):=
 match st.ev c with
  | .blit true=>match st.ev a with
   | .junk=>none
   |v=>ok v
  | .blit false=>match st.ev b with
   | .junk=>none
   |v=>ok v
  |_=>none
def pFieldAddr(P:Program)(st:St A)(t:TypeId)(x:Operand)(f:Nat):Option (Pu A):=
 match fieldOff P t f,st.ev x with
  |some (off,_), .ptr b o'=>ok (.ptr b (o'+off))
  |some (off,_), .eptr id sz i o'=>ok (.eptr id sz i (o'+off))
  |_,_=>none
def gTab:List (String×IntKind×List Int):=[("annuitant/calendar.lengths", .i64,[31,28,31,30,31,30,31,31,30,31,30,31])]
def globOf(P:Program)(g:Nat):Option (IntKind×List Int):=gTab.findSome? fun r=>match P.globalNamed r.1 with
 |some g'=>if g'==g then some r.2 else none
 |none=>none
def pIndexGlob(P:Program)(st:St A)(t:TypeId)(x ix:Operand):Option (Pu A):=
 match P.underlying t,st.ev x,st.ev ix with
 |some (.array n e), .glob g, .int _ i=>match sizeT P e,globOf P g with
  |some 1,some r=>if r.2.length==n then some ⟨[A.le (A.lit 0) i,A.lt i (A.lit (n:Int))], .gel g n i,[]⟩else none
  |_,_=>none
 |_,_,_=>none
def pLoadGlob(P:Program)(st:St A)(t:TypeId)(x:Operand):Option (Pu A):=
 match P.underlying t,st.ev x,sizeT P t with
 |some (.int k), .gel g n i,some 1=>match globOf P g with
  |some r=>if k==r.1&&(r.2.length==n&&r.2.all fun x=>decide (k.min<=x)&&decide (x<=k.max))then some ⟨[], .int k (A.cellI (A.listS (r.2.map fun x=>[.int (A.lit x)])) i 0),[A.rng k (A.cellI (A.listS (r.2.map fun x=>[.int (A.lit x)])) i 0)]⟩else none
  |none=>none
 |_,_,_=>none
def pLoad(P:Program)(st:St A)(t:TypeId)(x:Operand):Option (Pu A):=
 if !(P.underlying t).isSome then none else match st.ev x,kinds P t,sizeT P t with
  | .ptr b off,_,some n=>match st.boxes[b]? with
   |some bx=>if bx.live&&off+n<=bx.cells.length&&((bx.cells.drop off).take n).all SV.clean then(pack P t ((bx.cells.drop off).take n)).bind ok else none
   |none=>none
  | .eptr id sz i off,some _,some n=>match st.ents[id]? with
   | some en=>if en.live&& !isM en.elem then match kinds P en.elem with
     | some ks=>if off+n<=ks.length&&sz==ks.length then match elemCells en.s i ((ks.drop off).take n) off with
       |some l=>match pack P t l with
        |some v=>some ⟨[],v,elemGivens P st.rg en.s i ((ks.drop off).take n) off⟩
        |none=>none
       |none=>none
      else none
     |none=>none
    else none
   |none=>none
  |_,_,_=>pLoadGlob P st t x
def constInt:Operand->Option Int
 | .const (.int _ n)=>some n
 |_=>none
def pIndexArr(P:Program)(st:St A)(t:TypeId)(x ix:Operand):Option (Pu A):=
 match P.underlying t,st.ev x,constInt ix with
  |some (.array n e), .ptr b off,some j=>match sizeT P e with
   |some sz=>if 0<sz&&(decide (0<=j)&&decide (j<(n:Int)))then ok (.ptr b (off+j.toNat*sz))else none
   |none=>none
  |_,_,_=>pIndexGlob P st t x ix
def noMap(P:Program)(t:TypeId):Bool:=match P.underlying t with
 |some (.map _ _)=>false
 |_=>true
def mixOk(P:Program)(en:Ent A):Bool:=isX en.elem&&(en.live&&(en.own&&noMap P (unM en.elem)))
def pIndexAddr(P:Program)(st:St A)(t:TypeId)(x ix:Operand):Option (Pu A):=
 match elemOf? P t,st.ev x,st.ev ix with
  | some e, .sl id, .int _ i=>match st.ents[id]? with
   |some en=>match kinds P e with
    |some ks=>if en.live&&(en.elem==e&& !isM e||mixOk P en&&unX en.elem==e)&&0<ks.length then some ⟨[A.le (A.lit 0) i,A.lt i (A.len en.s)], .eptr id ks.length i 0,[]⟩else none
    |none=>none
   |none=>none
  |some e, .view id sz lo n, .int _ i=>match kinds P e with
   |some ks=>if sz==ks.length&&0<ks.length then some ⟨[A.le (A.lit 0) i,A.lt i n], .eptr id sz (A.arith .add .i64 lo i) 0,[]⟩else none
   |none=>none
  |_,_,_=>pIndexArr P st t x ix
def pNil(st:St A)(x:Operand):Option (Pu A):=
 match st.ev x with
  | .ptr b off=>ok (.ptr b off)
  | .fn f caps=>ok (.fn f caps)
  | .yld i=>ok (.yld i)
  | .eptr id sz i off=>ok (.eptr id sz i off)
  |_=>none
def pUn(st:St A)(op:UnOp)(x:Operand):Option (Pu A):=
 match op,st.ev x with
  | .not, .blit b=>ok (.blit !b)
  | .not, .bool b=>ok (.bool (A.bnot b))
  | .neg, .int k n=>intOp st.wr .sub k (A.lit 0) n
  | .xor, .int k n=>ok (.int k (A.wrap k (A.arith .xor k (A.lit (if k.signed then-1 else k.max)) n)))
  |_,_=>none
def pConvert(P:Program)(st:St A)(src dst:TypeId)(x:Operand):Option (Pu A):=
 match P.underlying src,P.underlying dst,st.ev x with
  |some _,some (.int k), .int k' n=>if k'.min>=k.min/\k'.max<=k.max then ok (.int k n)else ok (.int k (A.wrap k n))
  |_,_,_=>none
def pMakeFunc(st:St A)(f:FuncId)(first caps:Array Operand):Option (Pu A):=
 if first.size==0 then ok (.fn f (caps.toList.map st.ev))else if caps.size==0 then ok (.fnb f (first.toList.map st.ev))else none
def pBuild(P:Program)(st:St A)(t:TypeId)(parts:Array (Nat×Operand)):Option (Pu A):=
 match zeroCellsOf P t,buildParts P t (parts.toList.map fun(i,x)=>(i,st.ev x))with
  |some z,some ps=>(fillParts z ps).bind fun l=>if fieldsOk P t then ok (.agg l)else none
  |_,_=>none
def pField(P:Program)(st:St A)(t:TypeId)(x:Operand)(f:Nat):Option (Pu A):=
 match fieldOff P t f,st.ev x with
  |some (off,ft), .agg l=>match sizeT P ft with
   |some n=>if off+n<=l.length&&(P.underlying ft).isSome then(pack P ft ((l.drop off).take n)).bind ok else none
   |none=>none
  |_,_=>none
def pExtract(st:St A)(x:Operand)(ix:Nat):Option (Pu A):=
 match st.ev x with
  | .tup l=>match l[ix]? with
   |some .junk=>none
   |some v=>ok v
   |none=>none
  |_=>none
def pLen(P:Program)(st:St A)(args:Array Operand)(argTypes:Array TypeId):Option (Pu A):=
 match args.toList,argTypes.toList with
  | [x],[t]=>match P.underlying t,st.ev x with
   |some (.slice _), .sl id=>match st.ents[id]? with
    |some en=>if en.live&& !isM en.elem then some ⟨[], .int .i64 (A.len en.s),[A.small en.s]⟩else none
    |none=>none
   |some (.slice _), .con (.slice none 0 0)=>ok (.int .i64 (A.lit 0))
   |some (.slice _), .view _ _ _ n=>ok (.int .i64 n)
   |some (.slice _), .bsl _ n=>if(n:Int)<=IntKind.i64.max then ok (.int .i64 (A.lit n))else none
   |some .string, .str y=>some ⟨[A.rng .i64 (A.ylen y)], .int .i64 (A.ylen y),[]⟩
   |some (.array n _),_=>if(n:Int)<=IntKind.i64.max then ok (.int .i64 (A.lit n))else none
   |_,_=>none
  |_,_=>none
def pMin(st:St A)(args:Array Operand):Option (Pu A):=
 match args.toList with
  |[x,y]=>match st.ev x,st.ev y with
   | .int k a, .int k' b=>if k==k' then ok (.int k (A.imin a b))else none
   |_,_=>none
  |_=>none
def pMax(st:St A)(args:Array Operand):Option (Pu A):=
 match args.toList with
  |[x,y]=>match st.ev x,st.ev y with
   | .int k a, .int k' b=>if k==k' then ok (.int k (A.imax a b))else none
   |_,_=>none
  |_=>none
def pCap(P:Program)(st:St A)(args:Array Operand)(argTypes:Array TypeId):Option (Pu A):=
 match args.toList,argTypes.toList with
  |[x],[t]=>match P.underlying t,st.ev x with
   |some (.slice _), .con (.slice none 0 0)=>ok (.int .i64 (A.lit 0))
   |_,_=>none
  |_,_=>none
def pIndex(P:Program)(st:St A)(t:TypeId)(x ix:Operand):Option (Pu A):=
 match P.underlying t,st.ev x,st.ev ix with
  |some .string, .str y, .int _ i=>some ⟨[A.le (A.lit 0) i,A.lt i (A.ylen y)], .int .u8 (A.ychr y i),[]⟩
  |_,_,_=>none
def pSliceY(P:Program)(st:St A)(t:TypeId)(x hi:Operand):Option (Pu A):=
 match P.underlying t,st.ev x,st.ev hi with
  |some .string, .str y, .int _ i=>some ⟨[A.le (A.lit 0) i,A.le i (A.ylen y)], .str (A.ysub y i),[]⟩
  |_,_,_=>none
def zeroCls(P:Program)(e:TypeId):Option (List A.C):=
 match kinds P e,zeroCellsOf (A:=A) P e with
 |some ks,some z=>toCls [] ks z
 |_,_=>none
def mapShape(P:Program)(t:TypeId):Option (IntKind×TypeId×List K):=if Nat.ble 1000000000 t then none else match P.underlying t with
 |some (.map kt e)=>match P.underlying kt,kinds P e with
  |some (.int k),some ks=>some (k,e,ks)
  |_,_=>none
 |_=>none
def isAggV:SV A->Bool
 | .agg _=>true
 |_=>false
def mapEnt(st:St A)(t:TypeId):SV A->Option (Nat×Ent A)
 | .sl id=>match st.ents[id]? with
  |some en=>if en.live&&(en.own&&en.elem==mapT t)then some (id,en)else none
  |none=>none
 |_=>none
def zeroAgg(P:Program)(e:TypeId):Bool:=match(P.info? e).bind (·.zero)with
 |some (.agg _)=>true
 |_=>false
def lookV(ok:Bool)(v:SV A)(b:A.B):SV A:=if ok then .tup [v, .bool b]else v
def pLookup(P:Program)(st:St A)(t:TypeId)(x ix:Operand)(ok:Bool):Option (Pu A):=
 match mapShape P t,mapEnt st t (st.ev x),st.ev ix with
 | some (k,e,ks),some (_,en), .int k' i=>if k==k'&&isAggT P e==zeroAgg P e then match zeroCls (A:=A) P e with
   | some z=>match elemCells (A.mget en.s i z) (A.lit 0) ks 0 with
    |some l=>match pack P e l with
     |some v=>some ⟨[],lookV ok v (A.mhas en.s i),elemGivens P st.rg (A.mget en.s i z) (A.lit 0) ks 0⟩
     |none=>none
    |none=>none
   |none=>none
  else none
 |_,_,_=>none
def pureOp(P:Program)(st:St A)(o:Oper):Option (Pu A):=
 match o.op with
 | .move x| .assign x=>pMove st x
 | .pick c a b=>pPick st c a b
 | .fieldAddr t x f=>pFieldAddr P st t x f
 | .load t x=>pLoad P st t x
 | .indexAddr t x ix=>pIndexAddr P st t x ix
 | .nilCheck x=>pNil st x
 | .binOp op t x y _=>pureBin P st.wr op t (st.ev x) (st.ev y)
 | .unOp op _ x=>pUn st op x
 | .convert src dst x=>pConvert P st src dst x
 | .makeFunc (.func f) first caps=>pMakeFunc st f first caps
 | .build t parts=>pBuild P st t parts
 | .field t x f=>pField P st t x f
 | .extract x ix=>pExtract st x ix
 | .call {callee:= .builtin .len,args,argTypes}=>pLen P st args argTypes
 | .call {callee:= .builtin .cap,args,argTypes}=>pCap P st args argTypes
 | .index t x ix=>pIndex P st t x ix
 | .lookup t x ix ok=>pLookup P st t x ix ok
 | .call {callee:= .builtin .min,args, .. }=>pMin st args
 | .call {callee:= .builtin .max,args, .. }=>pMax st args
 | .slice t x none (some hi) none=>pSliceY P st t x hi
 |_=>none
end
end Go.Sx
namespace Go.Sx
inductive VSh where
 |cell (k:K) (own:Bool)
 |agg (l:List (K×Bool))
structure Sig where
 args:List VSh
 res:List VSh
inductive HK where
 |junk
 |int (k:IntKind)
 |bool
 |str
 |sl (elem:TypeId) (own:Bool)
structure Hav where
 slots:List (Nat×HK)
 boxes:List (Nat×List HK)
 ents:List (Nat×TypeId):=[]
structure LP where
 pid:FuncId
 arg:Nat
 ae:TypeId
 reads:List (Nat×K)
 out:Option TypeId
 nt:Nat
inductive Prim where
 |ins (e:TypeId)
 |kept (sg:Sig)
 |over (sg:Sig)
def primAt(pm:FuncId->Option Prim)(l:List Nat):FuncId->Option Prim:=fun g=>match pm g with
 |some (.ins e)=>some (.ins e)
 |q=>if l.contains g then q else none
structure Cfg where
 P:Program
 sig:FuncId->Option Sig
 hav:Nat->Hav
 wr:FuncId->Bool:=fun _=>false
 cut:Nat->Bool:=fun _=>false
 rg:FuncId->Bool:=fun _=>false
 prim:FuncId->Option Prim:=fun _=>none
 lp:FuncId->Nat->Option LP:=fun _ _=>none
section
variable{A:Alg}
def nodupB:List Nat->Bool
 |[]=>true
 |x::l=> !l.contains x&&nodupB l
def freshCell(P:Program)(own:Bool)(k:K)(st:St A)(f:SV A->A.C->St A->Tree A):Tree A:=
 match k with
 | .int k=> .allI fun x=> .given (A.rng k x) (f (.int k x) (.int x) st)
 | .bool=> .allB fun b=>f (.bool b) (.bool b) st
 | .str=> .allY fun y=>f (.str y) (.str y) st
 | .sl e=> .allS fun s=>if st.rg&& !isM e then .given (A.ranged s (rks P e)) (f (.sl st.ents.length) (.sl s) {st with ents:=st.ents++[⟨e,s,own,true,0⟩]})else f (.sl st.ents.length) (.sl s) {st with ents:=st.ents++[⟨e,s,own,true,0⟩]}
def freshCells(P:Program):List (K×Bool)->St A->(List (SV A)->List A.C->St A->Tree A)->Tree A
 |[],st,f=>f [] [] st
 |(k,own)::ks,st,f=>freshCell P own k st fun v c st=>freshCells P ks st fun vs cs st=>f (v::vs) (c::cs) st
def freshV(P:Program)(sh:VSh)(st:St A)(f:SV A->List A.C->St A->Tree A):Tree A:=
 match sh with
 | .cell k own=>freshCell P own k st fun v c st=>f v [c] st
 | .agg l=>freshCells P l st fun vs cs st=>f (.agg vs) cs st
def freshVs(P:Program):List VSh->St A->(List (SV A)->List A.C->St A->Tree A)->Tree A
 |[],st,f=>f [] [] st
 |sh::r,st,f=>freshV P sh st fun v cs st=>freshVs P r st fun vs ds st=>f (v::vs) (cs++ds) st
def one(l:List (SV A)):SV A:=match l with
 |[v]=>v
 |l=> .tup l
def argCl(ents:List (Ent A)):VSh->SV A->Option (List A.C)
 | .cell k _,v=>(toCl ents k v).map ([·])
 | .agg l, .agg vs=>toCls ents (l.map (·.1)) vs
 |_,_=>none
def argsCl(ents:List (Ent A)):List VSh->List (SV A)->Option (List A.C)
 |[],[]=>some []
 |sh::shs,v::vs=>match argCl ents sh v,argsCl ents shs vs with
  |some c,some cs=>some (c++cs)
  |_,_=>none
 |_,_=>none
def lentCl(P:Program)(ents:List (Ent A))(k:K)(v:SV A):Option A.C:=match k,v with
 | .sl e, .sl id=>match ents[id]? with
  |some en=>if en.live&&(en.own&&(isL en.elem&&((!isD en.elem&& !isX en.elem)&&(unL en.elem==e&&noMap P (unM en.elem)))))then some (.sl en.s)else none
  |none=>none
 |_,_=>none
def deepCl(P:Program)(ents:List (Ent A))(k:K)(v:SV A):Option A.C:=match k,v with
 | .sl e, .sl id=>match ents[id]? with
  |some en=>if en.live&&(en.own&&(isD en.elem&&(unD en.elem==e&&noMap P (unM en.elem))))then some (.sl en.s)else none
  |none=>none
 |_,_=>none
def bxRows(ents:List (Ent A))(ks:List K):Nat->List (SV A)->Option (List (List A.C))
 |0,_=>some []
 |n+1,l=>match toCls ents ks (l.take ks.length),bxRows ents ks n (l.drop ks.length)with
  |some a,some b=>some (a::b)
  |_,_=>none
def bslCl(P:Program)(bx:List (Box A))(ents:List (Ent A))(k:K)(v:SV A):Option A.C:=match k,v with
 | .sl e, .bsl b n=>match bx[b]?,kinds P e with
  |some x,some ks=>if x.live&&(0<ks.length&&Nat.ble n 1000)then(bxRows ents ks n x.cells).map fun l=> .sl (A.listS l)else none
  |_,_=>none
 |_,_=>none
def readCl(P:Program)(bx:List (Box A))(ents:List (Ent A))(k:K)(v:SV A):Option A.C:=match toCl ents k v with
 |some c=>some c
 | none=>match lentCl P ents k v with
  |some c=>some c
  |none=>match deepCl P ents k v with
   |some c=>some c
   |none=>bslCl P bx ents k v
def toClK(P:Program)(bx:List (Box A))(ents:List (Ent A))(p:K×Bool)(v:SV A):Option A.C:=if p.2 then lentCl P ents p.1 v else readCl P bx ents p.1 v
def toClsK(P:Program)(bx:List (Box A))(ents:List (Ent A)):List (K×Bool)->List (SV A)->Option (List A.C)
 |[],[]=>some []
 |p::ps,v::vs=>match toClK P bx ents p v,toClsK P bx ents ps vs with
  |some c,some cs=>some (c::cs)
  |_,_=>none
 |_,_=>none
def argClK(P:Program)(bx:List (Box A))(ents:List (Ent A)):VSh->SV A->Option (List A.C)
 | .cell k o,v=>(toClK P bx ents (k,o) v).map ([·])
 | .agg l, .agg vs=>toClsK P bx ents l vs
 |_,_=>none
def argsClK(P:Program)(bx:List (Box A))(ents:List (Ent A)):List VSh->List (SV A)->Option (List A.C)
 |[],[]=>some []
 |sh::shs,v::vs=>match argClK P bx ents sh v,argsClK P bx ents shs vs with
  |some c,some cs=>some (c++cs)
  |_,_=>none
 |_,_=>none
def flatK(P:Program):K->Bool
 | .sl e=>match kinds P e with
  |some ks=>ks.all fun k=>match k with
   | .sl _=>false
   |_=>true
  |none=>false
 |_=>true
def okResCell(P:Program)(p:K×Bool):Bool:=match p with
 |(.sl e,own)=>own&&((isD e&&noMap P (unM e))||(!isM e&&flatK P (.sl e)))
 |_=>true
def flatSh(P:Program):VSh->Bool
 | .cell k own=>okResCell P (k,own)
 | .agg l=>l.all (okResCell P)
def Sig.flat(P:Program)(s:Sig):Bool:=s.res.all (flatSh P)
def freezeId(st:St A)(id:Nat):St A:=match st.ents[id]? with
 |some e=>if e.live&&(e.own&& !isM e.elem)then{st with ents:=st.ents.set id {e with own:=false,ver:=e.ver+1}}else st
 |none=>st
def freezeIds(st:St A):List Nat->St A
 |[]=>st
 |id::l=>freezeIds (freezeId st id) l
def freezeVals(st:St A):List (SV A)->St A
 |[]=>st
 | .sl id::l=>freezeVals (freezeId st id) l
 |_::l=>freezeVals st l
def idsV:SV A->List Nat
 | .sl id=>[id]
 | .agg l=>l.filterMap fun v=>match v with
  | .sl id=>some id
  |_=>none
 |_=>[]
def callSt(P:Program)(sg:Sig)(args:List (SV A))(st:St A):St A:=if sg.flat P then st else freezeIds st (args.flatMap idsV)
def callK(cfg:Cfg)(f:FuncId)(sg:Sig)(args:List (SV A))(st:St A)(k:SV A->St A->Tree A):Tree A:=
 if sg.flat cfg.P then match argsClK cfg.P st.boxes st.ents sg.args args with
  |some cs=> .need (A.pre f cs) (freshVs cfg.P sg.res st fun vs rs st=> .given (A.post f cs rs) (k (one vs) st))
  |none=> .fail "call: an argument does not fit the contract" f
 else .fail "call: results that may share memory" f
def callC(cfg:Cfg)(f:FuncId)(sg:Sig)(args:List (SV A))(st0:St A)(k:SV A->St A->Tree A):Tree A:=
 if sg.flat cfg.P then callK cfg f sg args st0 k else
 let st:=callSt cfg.P sg args st0
 match argsCl st.ents sg.args args with
 |some cs=> .need (A.pre f cs) (freshVs cfg.P sg.res st fun vs rs st=> .given (A.post f cs rs) (k (one vs) st))
 |none=> .fail "call: an argument does not fit the contract" f
def addBox(st:St A)(t:TypeId)(cells:List (SV A)):St A:={st with boxes:=st.boxes++[⟨t,cells,0,true⟩]}
def addEnt(st:St A)(e:TypeId)(s:A.S)(own:Bool):St A:={st with ents:=st.ents++[⟨e,s,own,true,0⟩]}
def killEnt(st:St A)(id:Nat):St A:=match st.ents[id]? with
 |some e=>{st with ents:=st.ents.set id {e with live:=false,ver:=e.ver+1}}
 |none=>st
def killEnts(st:St A):List Nat->St A
 |[]=>st
 |id::l=>killEnts (killEnt st id) l
def callOver(P:Program)(f:FuncId)(sg:Sig)(args:List (SV A))(st:St A)(k:SV A->St A->Tree A):Tree A:=
 if sg.res.isEmpty then match argsClK P st.boxes st.ents sg.args args with
  |some _=>k (.tup []) (killEnts st (args.flatMap idsV))
  |none=> .fail "over: an argument" f
 else .fail "over: results" f
def bytesT(P:Program)(t:TypeId):Option Nat:=(P.info? t).map (·.bytes)
def srcOf(st:St A)(e:TypeId):SV A->Option A.S
 | .sl id=>match st.ents[id]? with
  |some en=>if en.live&&(en.elem==e&& !isM e)then some en.s else none
  |none=>none
 | .con (.slice none 0 0)=>some A.nilS
 |_=>none
def dstOf(st:St A)(e:TypeId):SV A->Option (A.S×Option Nat)
 | .sl id=>match st.ents[id]? with
  |some en=>if en.live&&en.own&&(en.elem==e&& !isM e)then some (en.s,some id)else none
  |none=>none
 | .con (.slice none 0 0)=>some (A.nilS,none)
 |_=>none
def nestCells(s:A.S)(i:A.I):List K->Nat->St A->List (SV A)×St A
 |[],_,st=>([],st)
 | .int k::ks,j,st=>let(l,st):=nestCells s i ks (j+1) st;(.int k (A.cellI s i j)::l,st)
 | .bool::ks,j,st=>let(l,st):=nestCells s i ks (j+1) st;(.bool (A.cellB s i j)::l,st)
 | .str::ks,j,st=>let(l,st):=nestCells s i ks (j+1) st;(.str (A.cellY s i j)::l,st)
 | .sl e::ks,j,st=>
  let id:=st.ents.length
  let(l,st):=nestCells s i ks (j+1) (addEnt st e (A.cellS s i j) false)
  (.sl id::l,st)
def partsCls(ents:List (Ent A))(ks:List K):List (SV A)->Option (List (List A.C))
 |[]=>some []
 |v::vs=>match toClsR ents ks (cellsOf v),partsCls ents ks vs with
  |some c,some cs=>some (c::cs)
  |_,_=>none
def eAlloc(P:Program)(st:St A)(t:TypeId)(k:SV A->St A->Tree A):Tree A:=
 match zeroCellsOf P t,sizeT P t with
  |some z,some n=>if n==z.length&&z.all isCell then k (.ptr st.boxes.length 0) (addBox st t z)else .fail "alloc" t
  |_,_=> .fail "alloc" t
def eBox(P:Program)(st:St A)(t:TypeId)(x:Operand)(k:SV A->St A->Tree A):Tree A:=
 match sizeT P t with
  |some n=>if n==(cellsOf (st.ev x)).length&&(cellsOf (st.ev x)).all isCell then k (.ptr st.boxes.length 0) (addBox st t (cellsOf (st.ev x)))else .fail "box" t
  |none=> .fail "box" t
def eStoreBox(st:St A)(t:TypeId)(v:Operand)(n b off:Nat)(k:SV A->St A->Tree A):Tree A:=
 match st.boxes[b]? with
   | some bx=>if bx.live&&n==(cellsOf (st.ev v)).length&&off+n<=bx.cells.length&&(cellsOf (st.ev v)).all isCell then
     k (.con (.tuple #[])) {st with boxes:=st.boxes.set b {bx with cells:=bx.cells.take off++cellsOf (st.ev v)++bx.cells.drop (off+n),ver:=bx.ver+1}}
    else .fail "store" t
   |none=> .fail "store" t
def eStoreEnt(P:Program)(st:St A)(t:TypeId)(v:Operand)(n id sz:Nat)(i:A.I)(off:Nat)(k:SV A->St A->Tree A):Tree A:=
 match st.ents[id]? with
   |some en=>match kinds P en.elem with
    | some ks=>if en.live&&(en.own&& !isM en.elem)&&n==(cellsOf (st.ev v)).length&&off+n<=ks.length&&sz==ks.length then
      match toClsR (freezeVals st (cellsOf (st.ev v))).ents ((ks.drop off).take n) (cellsOf (st.ev v)),(freezeVals st (cellsOf (st.ev v))).ents[id]? with
      |some cs,some en'=>if en'.ver==en.ver then k (.con (.tuple #[])) {freezeVals st (cellsOf (st.ev v))with ents:=(freezeVals st (cellsOf (st.ev v))).ents.set id {en' with s:=A.upd en.s i off cs,ver:=en.ver+1}}else .fail "store into an element: its own slice" t
      |_,_=> .fail "store into an element: the value does not fit" t
     else .fail "store into an element" t
    |none=> .fail "store into an element" t
   |none=> .fail "store into an element" t
def xCell(P:Program)(st:St A)(k:K)(v:SV A):Option (A.C×Option Nat):=match k,v with
 | .sl e, .sl id=>match st.ents[id]? with
  |some en=>if en.live&&(en.elem==e&& !isM e)then(if en.own then(if flatK P (.sl e)then some (.sl (A.mk1 en.s),some id)else none)else some (.sl (A.mk0 en.s),none))else none
  |none=>none
 | .sl _, .con (.slice none 0 0)=>some (.sl (A.mk1 A.nilS),none)
 | .sl _,_=>none
 |k,v=>(toCl st.ents k v).map fun c=>(c,none)
def xCells(P:Program)(st:St A):List K->List (SV A)->Option (List (A.C×Option Nat))
 |[],[]=>some []
 |k::ks,v::vs=>match xCell P st k v,xCells P st ks vs with
  |some c,some cs=>some (c::cs)
  |_,_=>none
 |_,_=>none
def eStoreX(P:Program)(st:St A)(t:TypeId)(v:Operand)(n id sz:Nat)(i:A.I)(off:Nat)(en:Ent A)(k:SV A->St A->Tree A):Tree A:=
 match kinds P (unX en.elem)with
 | some ks=>if mixOk P en&&n==(cellsOf (st.ev v)).length&&off+n<=ks.length&&sz==ks.length then
   match xCells P st ((ks.drop off).take n) (cellsOf (st.ev v))with
   | some cs=>if nodupB (cs.filterMap (·.2))&& !(cs.filterMap (·.2)).contains id then
     k (.con (.tuple #[])) {killEnts st (cs.filterMap (·.2))with ents:=(killEnts st (cs.filterMap (·.2))).ents.set id {en with s:=A.upd en.s i off (cs.map (·.1)),ver:=en.ver+1}}
    else .fail "store into an element: one slice in two places" t
   |none=> .fail "store into an element: the value does not fit" t
  else .fail "store into an element" t
 |none=> .fail "store into an element" t
def eStore(P:Program)(st:St A)(t:TypeId)(x v:Operand)(k:SV A->St A->Tree A):Tree A:=
 match sizeT P t,st.ev x with
  |some n, .ptr b off=>eStoreBox st t v n b off k
  |some n, .eptr id sz i off=>match st.ents[id]? with
   |some en=>if isX en.elem then eStoreX P st t v n id sz i off en k else eStoreEnt P st t v n id sz i off k
   |none=> .fail "store: no address" t
  |_,_=> .fail "store: no address" t
def untgs(s:A.S)(i:A.I):List K->Nat->List A.P
 |[],_=>[]
 | .sl _::ks,j=>A.untg s i j::untgs s i ks (j+1)
 |_::ks,j=>untgs s i ks (j+1)
def eLoadX(P:Program)(st:St A)(t:TypeId)(n:Nat)(en:Ent A)(sz:Nat)(i:A.I)(off:Nat)(k:SV A->St A->Tree A):Tree A:=
 match kinds P (unX en.elem)with
 | some ks=>if mixOk P en&&off+n<=ks.length&&sz==ks.length then
   let r:=nestCells en.s i ((ks.drop off).take n) off st
   match pack P t r.1 with
   |some v=>needs (untgs en.s i ((ks.drop off).take n) off) (givens (elemGivens P st.rg en.s i ((ks.drop off).take n) off) (k v r.2))
   |none=> .fail "load of an element" t
  else .fail "load of an element" t
 |none=> .fail "load of an element" t
def eLoad(P:Program)(st:St A)(t:TypeId)(x:Operand)(k:SV A->St A->Tree A):Tree A:=
 if !(P.underlying t).isSome then .fail "load" t else match st.ev x,kinds P t,sizeT P t with
  | .eptr id sz i off,some _,some n=>match st.ents[id]? with
   |some en=>if isX en.elem then eLoadX P st t n en sz i off k else match kinds P en.elem with
    | some ks=>if(en.live&& !isM en.elem)&&off+n<=ks.length&&sz==ks.length then
      let r:=nestCells en.s i ((ks.drop off).take n) off st
      match pack P t r.1 with
      |some v=>givens (elemGivens P st.rg en.s i ((ks.drop off).take n) off) (k v r.2)
      |none=> .fail "load of an element" t
     else .fail "load of an element" t
    |none=> .fail "load of an element" t
   |none=> .fail "load of an element" t
  |_,_,_=> .fail "load: no address" t
def eBuildSlice(P:Program)(st:St A)(t:TypeId)(len:Nat)(parts:Array (Nat×Operand))(k:SV A->St A->Tree A):Tree A:=
 match elemOf? P t with
  |some e=>match kinds P e with
   | some ks=>if parts.toList.map (·.1)==List.range len&&len*ks.length<=1000&&(0<ks.length&& !isM e)then
     match partsCls (freezeVals st (parts.toList.flatMap fun p=>cellsOf (st.ev p.2))).ents ks (parts.toList.map fun p=>st.ev p.2),zeroCls (A:=A) P e with
     |some l,some _=>k (.sl st.ents.length) (addEnt (freezeVals st (parts.toList.flatMap fun p=>cellsOf (st.ev p.2))) e (A.listS l) true)
     |_,_=> .fail "a slice's literal: a part does not fit" t
    else .fail "a slice's literal" t
   |none=> .fail "a slice's literal" t
  |none=> .fail "a slice's literal" t
def boxK(len:Nat):List K->Bool
 |[.int _, .sl _, .sl _]=>true
 |[.int _, .int _, .int _, .bool, .sl _, .bool, .sl _]=>len==1
 |_=>false
def boxN(rg:Bool)(len:Nat):Nat:=if rg then 0 else len
def boxT(P:Program)(t:TypeId)(len:Nat):Bool:=match elemOf? P t with
 |some e=>match kinds P e with
  |some ks=>boxK len ks
  |none=>true
 |none=>true
def eBuildFns(P:Program)(st:St A)(t:TypeId)(len:Nat)(parts:Array (Nat×Operand))(k:SV A->St A->Tree A):Tree A:=
 match elemOf? P t with
  |some e=>match sizeT P e,(P.info? e).bind (·.zero)with
   |some sz,some _=>if parts.toList.map (·.1)==List.range len&&(decide (0<len*sz)&&decide (len*sz<=1000))&&(parts.toList.all fun p=>(cellsOf (st.ev p.2)).length==sz&&(cellsOf (st.ev p.2)).all isCell)then k (.bsl st.boxes.length len) (addBox st e (parts.toList.flatMap fun p=>cellsOf (st.ev p.2)))else .fail "a slice of functions" t
   |_,_=> .fail "a slice's literal" t
  |none=> .fail "a slice's literal" t
def eMakeSlice(P:Program)(st:St A)(t:TypeId)(len cap:Operand)(k:SV A->St A->Tree A):Tree A:=
 match elemOf? P t,st.ev len,st.ev cap with
  |some e, .int .i64 n, .int .i64 c=>if isM e then .fail "make" t else match zeroCls P e,bytesT P e with
   |some z,some (by_+1)=>needs [A.le (A.lit 0) n,A.le n c,A.le (A.arith .mul .i64 c (A.lit (by_+1:Nat))) (A.lit (2^47))] (k (.sl st.ents.length) (addEnt st e (A.replS n z) true))
   |_,_=> .fail "make" t
  |_,_,_=> .fail "make" t
def elemsKnown(P:Program)(t:TypeId):Bool:=match elemOf? P t with
 |some e=>(kinds P e).isSome
 |none=>false
def loZero:Option Operand->Bool
 |none=>true
 |some l=>match constInt l with
  |some 0=>true
  |_=>false
def partSt(st:St A)(id:Nat)(own keep:Bool):St A:=if own then(if keep then killEnt st id else freezeId st id)else st
def cellsOfT(P:Program)(e:TypeId):Nat:=match kinds P e with
 |some ks=>ks.length
 |none=>0
def eSlice(P:Program)(st:St A)(t:TypeId)(x:Operand)(lo hi mx:Option Operand)(k:SV A->St A->Tree A):Tree A:=
  if !(elemsKnown P t)then .fail "a part of a slice: its elements" t else
  match elemOf? P t,st.ev x with
    | some _, .con (.slice none 0 0)=>match mx with
      |some _=> .fail "a part of a nil slice" t
      | none=>
        match (match lo with|none=>some (A.lit 0)|some l=>match st.ev l with| .int _ x=>some x|_=>none),
              (match hi with|none=>some (A.lit 0)|some h=>match st.ev h with| .int _ x=>some x|_=>none)with
        |some l,some h=>needs [A.le (A.lit 0) l,A.le l h,A.le h (A.lit 0)] (k (.con (.slice none 0 0)) st)
        |_,_=> .fail "a part of a nil slice" t
    | some e, .sl id=>match st.ents[id]? with
      |some en=>if !(en.live&&(en.elem==e&& !isM e))then .fail "a part of a slice" t else
        match mx with
        | some m=>match constInt m,hi.map constInt,lo.map constInt with
          |some 0,some (some 0),none=>k (.sl st.ents.length) (addEnt st e A.nilS true)
          |_,_,_=> .fail "a part of a slice with a third index" t
        | none=>
          match (match lo with|none=>some (A.lit 0)|some l=>match st.ev l with| .int _ x=>some x|_=>none),
                (match hi with|none=>some (A.len en.s)|some h=>match st.ev h with| .int _ x=>some x|_=>none)with
          | some l,some h=>
            needs [A.le (A.lit 0) l,A.le l h,A.le h (A.len en.s)] (if en.own&& !(loZero lo)&&st.rg then k (.view id (cellsOfT P e) l (A.arith .sub .i64 h l)) st else k (.sl (partSt st id en.own (loZero lo&&st.rg)).ents.length) (addEnt (partSt st id en.own (loZero lo&&st.rg)) e (A.sub en.s l h) (en.own&&(loZero lo&&st.rg))))
          |_,_=> .fail "a part of a slice: an index" t
      |none=> .fail "a part of a slice" t
    |_,_=> .fail "a part of a slice" t
def posK(P:Program)(e:TypeId):Bool:=match kinds P e with
 |some ks=>0<ks.length&& !isM e
 |none=>false
def appSt(st:St A):Option Nat->St A
 |some i=>killEnt st i
 |none=>st
def isIntT(P:Program)(t:TypeId):Bool:=match P.underlying t with
 |some (.int _)=>true
 |_=>false
def callIns(P:Program)(e:TypeId)(args:List (SV A))(st:St A)(k:SV A->St A->Tree A):Tree A:=
 match args with
 | [s, .int .i64 n, .sl jd]=>match dstOf st e s,st.ents[jd]?,bytesT P e,zeroCls (A:=A) P e with
  | some (d,id?),some en,some by_,some _=>
   if !(id? ==some jd)&&(en.live&&(en.own&&en.elem==e))&&(0<by_&&posK P e)then
    needs [A.le (A.lit 0) n,A.le n (A.len d),A.lt (A.lit 0) (A.len en.s),A.le (A.arith .mul .i64 (A.arith .add .i64 (A.len d) (A.len en.s)) (A.lit by_)) (A.lit (2^47))]
     (k (.sl (appSt st id?).ents.length) (addEnt (appSt st id?) e (A.app (A.app (A.sub d (A.lit 0) n) en.s) (A.sub d n (A.len d))) true))
   else .fail "insert" e
  |_,_,_,_=> .fail "insert: an operand" e
 |_=> .fail "insert" e
def eAppendZ(P:Program)(st:St A)(s x:Operand)(ts tx e:TypeId)(k:SV A->St A->Tree A):Tree A:=
 match st.ev s,st.ev x,zeroCls P e,bytesT P e with
 | .con (.slice none 0 0), .int .i64 n,some z,some by_=>if 0<by_&&(isIntT P tx&&posK P e)then
   needs [A.le (A.lit 0) n,A.le (A.arith .mul .i64 n (A.lit by_)) (A.lit (2^47))] (k (.sl st.ents.length) (addEnt st e (A.replS n z) true))
  else .fail "append of zeros" ts
 |_,_,_,_=> .fail "append of zeros" ts
def eAppend(P:Program)(st:St A)(args:Array Operand)(argTypes:Array TypeId)(k:SV A->St A->Tree A):Tree A:=
 match args.toList,argTypes.toList with
  | [s,x],[ts,tx]=>match elemOf? P ts with
   | some e=>if !(ts==tx)then eAppendZ P st s x ts tx e k else
    match dstOf st e (st.ev s),srcOf st e (st.ev x),bytesT P e,zeroCls (A:=A) P e with
    | some (d,id?),some r,some by_,some _=>
     if 0<by_&&posK P e then
      needs [A.le (A.arith .mul .i64 (A.arith .add .i64 (A.len d) (A.len r)) (A.lit by_)) (A.lit (2^47))] (k (.sl (appSt st id?).ents.length) (addEnt (appSt st id?) e (A.app d r) true))
     else .fail "append" ts
    |_,_,_,_=> .fail "append: an operand" ts
   |none=> .fail "append" ts
  |_,_=> .fail "append" 0
def eNil(P:Program)(st:St A)(neq:Bool)(t:TypeId)(x y:Operand)(k:SV A->St A->Tree A):Tree A:=
 match elemOf? P t,st.ev x,st.ev y with
 |some _, .sl id, .con (.slice none 0 0)=>match st.ents[id]? with
  |some en=>if en.live&& !isM en.elem then .allB fun b=> .br b (.given (A.le (A.len en.s) (A.lit 0)) (k (.blit (!neq)) st)) (k (.blit neq) st)else .fail "a slice against nil" t
  |none=> .fail "a slice against nil" t
 |some _, .con (.slice none 0 0), .con (.slice none 0 0)=>k (.blit (!neq)) st
 |_,_,_=> .fail "a comparison that is not served" t
def pickTree(i:A.I)(f:Nat->Tree A):Nat->Nat->Tree A
 |j,0=> .fail "an index of an empty array" j
 |j,1=>f j
 |j,m+1=> .br (A.cmp .eql i (A.lit (j:Int))) (f j) (pickTree i f (j+1) m)
def eIndexAgg(P:Program)(st:St A)(t:TypeId)(x ix:Operand)(k:SV A->St A->Tree A):Tree A:=
 match P.underlying t,st.ev x,st.ev ix with
 |some (.array n e), .agg l, .int _ i=>match sizeT P e with
  | some sz=>if l.length==n*sz&&0<sz&&(P.underlying e).isSome then
    needs [A.le (A.lit 0) i,A.lt i (A.lit (n:Int))] (pickTree i (fun j=>match pack P e ((l.drop (j*sz)).take sz)with
     |some v=>k v st
     |none=> .fail "an element of an array" t) 0 n)
   else .fail "an element of an array" t
  |none=> .fail "an element of an array" t
 |_,_,_=> .fail "an element of an array" t
def eIndexBox(P:Program)(st:St A)(t:TypeId)(x ix:Operand)(k:SV A->St A->Tree A):Tree A:=
 match P.underlying t,st.ev x,st.ev ix with
 |some (.array n e), .ptr b off, .int _ i=>match sizeT P e with
  |some sz=>if 0<sz then needs [A.le (A.lit 0) i,A.lt i (A.lit (n:Int))] (pickTree i (fun j=>k (.ptr b (off+j*sz)) st) 0 n)else .fail "an element's address" t
  |none=> .fail "an element's address" t
 |_,_,_=> .fail "an element's address" t
def eIndexFns(P:Program)(st:St A)(t:TypeId)(x ix:Operand)(k:SV A->St A->Tree A):Tree A:=
 match elemOf? P t,st.ev x,st.ev ix with
 |some e, .bsl b n, .int _ i=>match sizeT P e with
  |some sz=>needs [A.le (A.lit 0) i,A.lt i (A.lit (n:Int))] (pickTree i (fun j=>k (.ptr b (j*sz)) st) 0 n)
  |_=> .fail "an element's address" t
 |_,_,_=> .fail "an element's address" t
def rowsCl(ents:List (Ent A))(ks:List K):Nat->List (SV A)->Option (List (List A.C))
 |0,_=>some []
 |n+1,l=>match toClsR ents ks (l.take ks.length),rowsCl ents ks n (l.drop ks.length)with
  |some c,some cs=>some (c::cs)
  |_,_=>none
def eSliceBox(P:Program)(st:St A)(t:TypeId)(x:Operand)(lo hi mx:Option Operand)(k:SV A->St A->Tree A):Tree A:=
 match P.underlying t,st.ev x,mx with
 |some (.array n e), .ptr b 0,none=>match st.boxes[b]?,kinds P e with
  | some bx,some ks=>if bx.live&&bx.cells.length==n*ks.length&&0<ks.length&&bx.ty==t&&n<=1000 then
    match rowsCl st.ents ks n bx.cells,
     (match lo with|none=>some (A.lit 0)|some l=>match st.ev l with| .int _ x=>some x|_=>none),
     (match hi with|none=>some (A.lit (n:Int))|some h=>match st.ev h with| .int _ x=>some x|_=>none)with
    | some rows,some l,some h=>needs [A.le (A.lit 0) l,A.le l h,A.le h (A.lit (n:Int))]
      (k (.sl st.ents.length) {st with boxes:=st.boxes.set b {bx with live:=false,ver:=bx.ver+1},ents:=st.ents++[⟨e,A.sub (A.listS rows) l h,false,true,0⟩]})
    |_,_,_=> .fail "a part of an array" t
   else .fail "a part of an array" t
  |_,_=> .fail "a part of an array" t
 |_,_,_=> .fail "a part of an array" t
def eMakeMap(P:Program)(st:St A)(t:TypeId)(r:Option Operand)(k:SV A->St A->Tree A):Tree A:=match r,mapShape P t with
 |none,some _=>k (.sl st.ents.length) (addEnt st (mapT t) A.nilS true)
 |_,_=> .fail "a new map with a size" t
def eLookup(P:Program)(st:St A)(t:TypeId)(x ix:Operand)(ok:Bool)(k:SV A->St A->Tree A):Tree A:=
 match mapShape P t,mapEnt st t (st.ev x),st.ev ix with
 | some (ik,e,ks),some (_,en), .int k' i=>if ik==k'&&isAggT P e==zeroAgg P e then match zeroCls (A:=A) P e with
   |some z=>
    let r:=nestCells (A.mget en.s i z) (A.lit 0) ks 0 st
    match pack P e r.1 with
    |some v=>givens (elemGivens P st.rg (A.mget en.s i z) (A.lit 0) ks 0) (k (lookV ok v (A.mhas en.s i)) r.2)
    |none=> .fail "a map's element" t
   |none=> .fail "a map's element" t
  else .fail "a map's key" t
 |_,_,_=> .fail "a map" t
def eMapUpdate(P:Program)(st:St A)(t:TypeId)(m x v:Operand)(k:SV A->St A->Tree A):Tree A:=
 match mapShape P t,mapEnt st t (st.ev m),st.ev x with
 | some (ik,e,ks),some (id,en), .int k' i=>if ik==k'&&(isAggT P e==isAggV (st.ev v))then
   match toClsR (freezeVals st (cellsOf (st.ev v))).ents ks (cellsOf (st.ev v)),(freezeVals st (cellsOf (st.ev v))).ents[id]? with
   |some cs,some en'=>if en'.ver==en.ver then k (.con (.tuple #[])) {freezeVals st (cellsOf (st.ev v))with ents:=(freezeVals st (cellsOf (st.ev v))).ents.set id {en' with s:=A.mset en.s i cs,ver:=en.ver+1}}else .fail "a map's update: its own slice" t
   |_,_=> .fail "a map's update: the value does not fit" t
  else .fail "a map's update" t
 |_,_,_=> .fail "a map's update" t
def isArrayT(P:Program)(t:TypeId):Bool:=match P.underlying t with
 |some (.array _ _)=>true
 |_=>false
def effOp(P:Program)(st:St A)(o:Oper)(k:SV A->St A->Tree A):Tree A:=
 match o.op with
 | .alloc t=>eAlloc P st t k
 | .box t x=>eBox P st t x k
 | .store t x v=>eStore P st t x v k
 | .load t x=>eLoad P st t x k
 | .buildSlice t len parts=>if elemsKnown P t&& !boxT P t (boxN st.rg len)then eBuildSlice P st t len parts k else eBuildFns P st t len parts k
 | .makeSlice t len cap=>eMakeSlice P st t len cap k
 | .slice t x lo hi mx=>if isArrayT P t then eSliceBox P st t x lo hi mx k else eSlice P st t x lo hi mx k
 | .index t x ix=>eIndexAgg P st t x ix k
 | .indexAddr t x ix=>if isArrayT P t then eIndexBox P st t x ix k else eIndexFns P st t x ix k
 | .call {callee:= .builtin .append,args,argTypes}=>eAppend P st args argTypes k
 | .makeMap t r=>eMakeMap P st t r k
 | .lookup t x ix ok=>eLookup P st t x ix ok k
 | .mapUpdate t m x v=>eMapUpdate P st t m x v k
 | .insert t m x v=>eMapUpdate P st t m x v k
 | .binOp .eql t x y _=>eNil P st false t x y k
 | .binOp .neq t x y _=>eNil P st true t x y k
 |_=> .fail "an operation that is not served" 0
def guardK(ops:Array Oper)(o:Oper)(st:St A)(yes no:St A->Tree A):Tree A:=
 match o.guard with
 |none=>yes st
 | some (j,want)=>match(ops[j]?).bind (·.dst)with
  |none=>no st
  |some d=>match st.tmps[d]? with
   |some (.blit b)=>if b==want then yes st else no st
   | some (.bool b)=> .br b (if want then yes {st with tmps:=st.tmps.set d (.blit true)}else no {st with tmps:=st.tmps.set d (.blit true)})
     (if want then no {st with tmps:=st.tmps.set d (.blit false)}else yes {st with tmps:=st.tmps.set d (.blit false)})
   |some (.con (.tuple _))=>no st
   |_=> .fail "a guard" d
def decided(x:Operand)(st:St A)(k:St A->Tree A):Tree A:=
 match x with
 | .tmp t=>match st.tmps[t]? with
  |some (.bool b)=> .br b (k {st with tmps:=st.tmps.set t (.blit true)}) (k {st with tmps:=st.tmps.set t (.blit false)})
  |_=>k st
 |_=>k st
def pickOf:Op->Option Operand
 | .pick c _ _=>some c
 |_=>none
inductive Fi where
 |fn (f:FuncId)
 |yld (i:Nat)
def callee(st:St A)(o:Oper):Option (Fi×List (SV A)):=
 match o.op with
 | .call {callee:= .value f,args, .. }=>match st.ev f with
  | .fn g caps=>some (.fn g,args.toList.map st.ev++caps)
  | .fnb g first=>some (.fn g,first++args.toList.map st.ev)
  | .yld i=>some (.yld i,args.toList.map st.ev)
  |_=>none
 |_=>none
def goBody(P:Program)(f:FuncId):Bool:=match P.funcs[f]? with
 |some fn=>fn.name != "runtime.NumGoroutine" &&fn.body.isSome
 |none=>false
abbrev Inl(A:Alg):=Nat->Fi->List (SV A)->St A->(SV A->St A->Tree A)->Tree A
structure Yd(A:Alg) where
 i:Nat
 run:List (SV A)->St A->(SV A->St A->Tree A)->Tree A
 code:Code
 tmps:List (SV A)
abbrev Ys(A:Alg):=List (Yd A)
def stepOp(cfg:Cfg)(inl:Inl A)(path:Nat)(st:St A)(o:Oper)(k:SV A->St A->Tree A):Tree A:=
 match pureOp cfg.P st o with
 |some p=>needs p.ns (givens p.gs (k p.v st))
 | none=>match callee st o with
  |some (.fn f,args)=>if goBody cfg.P f then match cfg.sig f with
   |some sg=>callC cfg f sg args st k
   |none=>inl path (.fn f) args st k
   else .fail "a call of no Go function" f
  |some (.yld i,args)=>inl path (.yld i) args st k
  |none=>effOp cfg.P st o k
def oneOp(cfg:Cfg)(inl:Inl A)(path:Nat)(ops:Array Oper)(st:St A)(o:Oper)(k:St A->Tree A):Tree A:=
 guardK ops o st (fun st=>stepOp cfg inl path st o fun v st=>k (setTmp st o.dst v)) (fun st=>k (setTmp st o.dst (.con (.tuple #[]))))
def runOps(cfg:Cfg)(inl:Inl A)(path:Nat)(ops:Array Oper):List Oper->St A->(St A->Tree A)->Tree A
 |[],st,k=>k st
 |o::rest,st,k=>
  match pickOf o.op with
  |some c=>decided c st fun st=>oneOp cfg inl path ops st o fun st=>runOps cfg inl path ops rest st k
  |none=>oneOp cfg inl path ops st o fun st=>runOps cfg inl path ops rest st k
def baseOf(st:St A)(written:List Nat):St A:=
  { tmps:=[],wr:=st.wr,rg:=st.rg,boxes:=st.boxes.zipIdx.map fun(b,i)=>if written.contains i then{b with live:=false}else b,
    ents:=st.ents.map fun e=>if e.own&&written.contains 1000000 then{e with live:=false}else e}
inductive Take(A:Alg) where
 |skip (i:Nat) (dst:Option Nat)
 |val (i:Nat) (dst:Option Nat) (p:Pu A)
 |ask (t:Nat) (b:A.B)
 |none
def takeVal(P:Program)(base st:St A)(i:Nat)(o:Oper):Take A:=
 match pureOp P {base with tmps:=st.tmps} o with
 |some p=>if p.v.clean then .val i o.dst p else .none
 |none=> .none
def takeGo(P:Program)(base st:St A)(i:Nat)(o:Oper):Take A:=
 match o.op with
 | .pick (.tmp t) _ _=>match st.tmps[t]? with
  |some (.bool b)=> .ask t b
  |_=>takeVal P base st i o
 |_=>takeVal P base st i o
def takeOf(P:Program)(ops:Array Oper)(base st:St A)(i:Nat)(o:Oper):Take A:=
 match o.guard with
 |none=>takeGo P base st i o
 | some (j,want)=>match(ops[j]?).bind (·.dst)with
  |none=> .skip i o.dst
  |some d=>match st.tmps[d]? with
   |some (.blit b)=>if b==want then takeGo P base st i o else .skip i o.dst
   |some (.bool b)=> .ask d b
   |some (.con (.tuple _))=> .skip i o.dst
   |_=> .none
def findTake(P:Program)(ops:Array Oper)(listed:Array Bool)(base st:St A):List Nat->Take A
 |[]=> .none
 | i::rest=>match ops[i]? with
  | some o=>if Region.free .any ops listed i then match takeOf P ops base st i o with
    | .none=>findTake P ops listed base st rest
    |t=>t
   else findTake P ops listed base st rest
  |none=>findTake P ops listed base st rest
def sameBoxes(base st:St A):Bool:=
 (base.boxes.zipIdx.all fun(b,i)=> !b.live||(match st.boxes[i]? with
  |some b'=>b'.ver==b.ver
  |none=>false))&&
 (base.ents.zipIdx.all fun(e,i)=> !e.live||(match st.ents[i]? with
  |some e'=>e'.ver==e.ver
  |none=>false))
def bothAll(f:Nat->Tree A):List Nat->Tree A
 |[]=> .done
 |[i]=>f i
 |i::l=> .both (f i) (bothAll f l)
def runDraw(cfg:Cfg)(inl:Inl A)(path:Nat)(ops:Array Oper)(base:St A):Nat->Array Bool->St A->(St A->Tree A)->Tree A
 |0,_,_,_=> .fail "a region that draws its order" path
 | n + 1,listed,st,k=>
  match Region.ready .any ops listed with
  |[]=>k st
  | rs =>match findTake cfg.P ops listed base st rs with
   | .ask t b=> .br b (runDraw cfg inl path ops base n listed {st with tmps:=st.tmps.set t (.blit true)} k)
     (runDraw cfg inl path ops base n listed {st with tmps:=st.tmps.set t (.blit false)} k)
   | .skip i d=>runDraw cfg inl path ops base n (listed.setIfInBounds i true) (setTmp st d (.con (.tuple #[]))) k
   | .val i d p=>needs p.ns (givens p.gs (runDraw cfg inl path ops base n (listed.setIfInBounds i true) (setTmp st d p.v) k))
   | .none=>bothAll (fun i=>match ops[i]? with
     | some o=>oneOp cfg inl path ops st o fun st'=>
       if sameBoxes base st' then runDraw cfg inl path ops base n (listed.setIfInBounds i true) st' k else .fail "a region that draws its order: a box is written" path
     |none=> .fail "a region that draws its order" path) rs
def aftMask(o:Oper):Nat:=o.after.toList.foldl (fun m e=>if Region.binds .any e then Nat.lor m (Nat.shiftLeft 1 e.on)else m) 0
def farMask(ops:Array Oper)(i:Nat)(oi:Oper):Nat:=
 (List.range ops.size).foldl (fun m j=>if j==i||(match ops[j]? with
  |some oj=>oj.after.any (fun e=>Region.binds .any e&&e.on==i)||oi.apart ops oj
  |none=>true)then m else Nat.lor m (Nat.shiftLeft 1 j)) 0
def masks(ops:Array Oper):List (Nat×Nat):=(List.range ops.size).map fun i=>match ops[i]? with
 |some o=>(aftMask o,farMask ops i o)
 |none=>(0,0)
def bitM(m i:Nat):Bool:=Nat.beq (Nat.land (Nat.shiftRight m i) 1) 1
def subM(a m:Nat):Bool:=Nat.beq (Nat.land a m) a
def setM(n m i:Nat):Nat:=if Nat.ble n i then m else Nat.lor m (Nat.shiftLeft 1 i)
def readyM:List (Nat×Nat)->Nat->Nat->List Nat
 |[],_,_=>[]
 |p::r,i,m=>if !bitM m i&&subM p.1 m then i::readyM r (i+1) m else readyM r (i+1) m
def freeM(ms:List (Nat×Nat))(m i:Nat):Bool:=match ms[i]? with
 |some p=>subM p.2 m
 |none=>false
def findTakeM(P:Program)(ops:Array Oper)(ms:List (Nat×Nat))(m:Nat)(base st:St A):List Nat->Take A
 |[]=> .none
 | i::rest=>match ops[i]? with
  | some o=>if freeM ms m i then match takeOf P ops base st i o with
    | .none=>findTakeM P ops ms m base st rest
    |t=>t
   else findTakeM P ops ms m base st rest
  |none=>findTakeM P ops ms m base st rest
def runDrawM(cfg:Cfg)(inl:Inl A)(path:Nat)(ops:Array Oper)(ms:List (Nat×Nat))(base:St A):Nat->Nat->St A->(St A->Tree A)->Tree A
 |0,_,_,_=> .fail "a region that draws its order" path
 | n + 1,m,st,k=>
  match readyM ms 0 m with
  |[]=>k st
  | rs =>match findTakeM cfg.P ops ms m base st rs with
   | .ask t b=> .br b (runDrawM cfg inl path ops ms base n m {st with tmps:=st.tmps.set t (.blit true)} k)
     (runDrawM cfg inl path ops ms base n m {st with tmps:=st.tmps.set t (.blit false)} k)
   | .skip i d=>runDrawM cfg inl path ops ms base n (setM ops.size m i) (setTmp st d (.con (.tuple #[]))) k
   | .val i d p=>needs p.ns (givens p.gs (runDrawM cfg inl path ops ms base n (setM ops.size m i) (setTmp st d p.v) k))
   | .none=>bothAll (fun i=>match ops[i]? with
     | some o=>oneOp cfg inl path ops st o fun st'=>
       if sameBoxes base st' then runDrawM cfg inl path ops ms base n (setM ops.size m i) st' k else .fail "a region that draws its order: a box is written" path
     |none=> .fail "a region that draws its order" path) rs
def lateAt(P:Program)(ops:Array Oper)(i:Nat):Option (TypeId×Nat×List (SV A)):=
 match ops[i]? with
 | some o=>match o.op,o.dst,o.guard with
  | .alloc t,some d,none=>match zeroCellsOf P t,sizeT P t with
   |some z,some n=>if n==z.length&&z.all isCell&& !isM t&&o.after.all (fun e=> !Region.binds .any e)then some (t,d,z)else none
   |_,_=>none
  | .makeMap t none,some d,none=>if(mapShape P t).isSome&&o.after.all (fun e=> !Region.binds .any e)then some (mapT t,d,[])else none
  |_,_,_=>none
 |none=>none
def lateOf(P:Program)(ops:Array Oper):List Nat:=(List.range ops.size).filter fun i=>(lateAt (A:=A) P ops i).isSome
def waitsFor(ops:Array Oper)(l:List Nat)(j:Nat):Bool:=match ops[j]? with
 |some o=>o.after.any fun e=>Region.binds .any e&&l.contains e.on
 |none=>false
def lateOk(ops:Array Oper)(als:List Nat):Bool:=
 (List.range ops.size).all fun j=>als.contains j||
  als.all fun i=>match ops[i]?,ops[j]? with
   |some oi,some oj=>oi.dst !=oj.dst
   |_,_=>false
def addLate(P:Program)(ops:Array Oper):List Nat->St A->St A
 |[],st=>st
 |i::l,st=>match lateAt P ops i with
  |some (t,d,z)=>addLate P ops l (if isM t then setTmp (addEnt st t A.nilS true) (some d) (.sl st.ents.length)else setTmp (addBox st t z) (some d) (.ptr st.boxes.length 0))
  |none=>addLate P ops l st
def hideLate(P:Program)(ops:Array Oper):List Nat->St A->St A
 |[],st=>st
 |i::l,st=>match lateAt (A:=A) P ops i with
  |some (_,d,_)=>hideLate P ops l (setTmp st (some d) .junk)
  |none=>hideLate P ops l st
def listAll(l:List Nat)(listed:Array Bool):Array Bool:=l.foldl (fun a i=>a.setIfInBounds i true) listed
def lateGood(P:Program)(ops:Array Oper)(base st:St A)(als:List Nat):Bool:=
 lateOk ops als&& !als.isEmpty&&nodupB als&&
 als.all (fun i=>decide (i<ops.size)&&(match lateAt (A:=A) P ops i with
  |some (_,d,_)=>decide (d<st.tmps.length)&&als.all fun j=>i==j||(match lateAt (A:=A) P ops j with
   |some (_,e,_)=>d !=e
   |none=>false)
  |none=>false))&&sameBoxes base st
def nowOf(ops:Array Oper)(als:List Nat)(listed:Array Bool):List Nat:=als.filter fun i=>(Region.ready .any ops (listAll als listed)).all fun j=>waitsFor ops [i] j
def restOf(als now:List Nat):List Nat:=als.filter fun i=> !now.contains i
def runLate(cfg:Cfg)(inl:Inl A)(path:Nat)(ops:Array Oper)(base:St A)(als:List Nat):Nat->Array Bool->St A->(St A->Tree A)->Tree A
 |0,_,_,_=> .fail "a region that draws its order" path
 | n+1,listed,st0,k=>
  let st:=hideLate cfg.P ops als st0
  match(Region.ready .any ops listed).filter fun i=> !als.contains i with
  | []=>if(restOf als (nowOf ops als listed)).isEmpty then runDraw cfg inl path ops base (2*ops.size+2) (listAll (nowOf ops als listed) listed) (addLate cfg.P ops (nowOf ops als listed) st) k
   else if !(nowOf ops als listed).isEmpty&&sameBoxes base (addLate cfg.P ops (nowOf ops als listed) st)then
    runLate cfg inl path ops base (restOf als (nowOf ops als listed)) n (listAll (nowOf ops als listed) listed) (addLate cfg.P ops (nowOf ops als listed) st) k
   else .fail "a region that draws its order: what waits for allocs" path
  | rs =>match findTake cfg.P ops listed base st rs with
   | .ask t b=> .br b (runLate cfg inl path ops base als n listed {st with tmps:=st.tmps.set t (.blit true)} k)
     (runLate cfg inl path ops base als n listed {st with tmps:=st.tmps.set t (.blit false)} k)
   | .skip i d=>runLate cfg inl path ops base als n (listed.setIfInBounds i true) (setTmp st d (.con (.tuple #[]))) k
   | .val i d p=>needs p.ns (givens p.gs (runLate cfg inl path ops base als n (listed.setIfInBounds i true) (setTmp st d p.v) k))
   | .none=>if(Region.ready .any ops (listAll als listed)).all fun j=>rs.contains j then bothAll (fun i=>match ops[i]? with
     | some o=>oneOp cfg inl path ops st o fun st'=>
       if sameBoxes base st' then runLate cfg inl path ops base als n (listed.setIfInBounds i true) st' k else .fail "a region that draws its order: a box is written" path
     |none=> .fail "a region that draws its order" path) rs
    else .fail "a region that draws its order: what waits for allocs" path
def HK.cell:HK->Option (K×Bool)
 | .junk=>none
 | .int k=>some (.int k,false)
 | .bool=>some (.bool,false)
 | .str=>some (.str,false)
 | .sl e own=>some (.sl e,own)
def havAll(P:Program):List HK->St A->(List (SV A)->List A.C->St A->Tree A)->Tree A
 |[],st,f=>f [] [] st
 |hk::hks,st,f=>match hk.cell with
  |none=>havAll P hks st fun vs cs st=>f (.junk::vs) cs st
  |some (k,own)=>freshCell P own k st fun v c st=>havAll P hks st fun vs cs st=>f (v::vs) (c::cs) st
def rawCell(ents:List (Ent A))(p:K×Bool)(v:SV A):Option A.C:=
 match p,v with
 |(.sl e,true), .sl id=>match ents[id]? with
  |some en=>if en.live&&en.own&&en.elem==e then some (.sl en.s)else none
  |none=>none
 |(.sl e,true), .con (.slice none 0 0)=>if isM e then none else some (.sl A.nilS)
 |(.sl _,true),_=>none
 |(k,_),v=>toClR ents k v
def rawCells(ents:List (Ent A)):List HK->List (SV A)->Option (List A.C)
 |[],[]=>some []
 | hk::hks,v::vs=>match hk.cell,rawCells ents hks vs with
  |none,some cs=>some cs
  |some p,some cs=>match rawCell ents p v with
   |some c=>some (c::cs)
   |none=>none
  |_,none=>none
 |_,_=>none
def hksAll(h:Hav):List HK:=h.ents.map (fun p=>HK.sl p.2 true)++(h.slots.map (·.2)++h.boxes.flatMap (·.2))
def cellsAt(st:St A)(b:Nat):List (SV A):=match st.boxes[b]? with
 |some bx=>bx.cells
 |none=>[]
def svsAll(st:St A)(h:Hav):List (SV A):=h.ents.map (fun p=>SV.sl p.1)++(h.slots.map (fun p=>st.tmps.getD p.1 .junk)++h.boxes.flatMap fun p=>cellsAt st p.1)
def idOf:HK->SV A->Option Nat
 | .sl _ true, .sl id=>some id
 |_,_=>none
def idList:List HK->List (SV A)->List (Option Nat)
 |hk::hks,v::vs=>idOf hk v::idList hks vs
 |_,_=>[]
def ownsOf(st:St A)(h:Hav):List Nat:=(idList (hksAll h) (svsAll st h)).filterMap id
def boxesOkL(st:St A)(l:List (Nat×List HK)):Bool:=l.all fun p=>match st.boxes[p.1]? with
 |some bx=>bx.live&&bx.cells.length==p.2.length
 |none=>false
def boxesOk(st:St A)(h:Hav):Bool:=boxesOkL st h.boxes&&h.ents.all fun p=>decide (p.1<st.ents.length)
def rawSt(st:St A)(h:Hav):Option (List A.C):=if boxesOk st h then rawCells st.ents (hksAll h) (svsAll st h)else none
def killIds(st:St A):List Nat->St A
 |[]=>st
 |id::l=>killIds (killEnt st id) l
def junkSlots(tmps:List (SV A)):List (Nat×HK)->List (SV A)
 |[]=>tmps
 |(t,_)::r=>junkSlots (tmps.set t .junk) r
def junkBoxes(boxes:List (Box A)):List (Nat×List HK)->List (Box A)
 |[]=>boxes
 |(b,_)::r=>junkBoxes (match boxes[b]? with
  |some bx=>boxes.set b {bx with cells:=List.replicate bx.cells.length .junk,ver:=bx.ver+1}
  |none=>boxes) r
def headSt(st:St A)(h:Hav):St A:=
 {wr:=st.wr,rg:=st.rg,tmps:=junkSlots st.tmps h.slots,boxes:=junkBoxes st.boxes h.boxes,ents:=(killIds st (ownsOf st h)).ents}
def putSlots(tmps:List (SV A)):List (Nat×HK)->List (SV A)->List (SV A)
 |(t,_)::r,v::vs=>putSlots (tmps.set t v) r vs
 |_,_=>tmps
def putBoxes(boxes:List (Box A)):List (Nat×List HK)->List (SV A)->List (Box A)
 |[],_=>boxes
 |(b,hks)::r,vs=>putBoxes (match boxes[b]? with
  |some bx=>boxes.set b {bx with cells:=vs.take hks.length}
  |none=>boxes) r (vs.drop hks.length)
def revive(n:Nat)(ents:List (Ent A))(id id':Nat):List (Ent A):=match ents[id]?,ents[id']? with
 |some e,some e'=>if !e.live&&e'.live&&e'.own&&decide (n<=id')then(ents.set id {e' with ver:=e.ver+1}).set id' {e' with live:=false,ver:=e'.ver+1}else ents
 |_,_=>ents
def reviveAll(n:Nat):List (Nat×TypeId)->List (SV A)->List (Ent A)->List (Ent A)
 |(id,_)::r, .sl id'::vs,ents=>reviveAll n r vs (revive n ents id id')
 |_::r,_::vs,ents=>reviveAll n r vs ents
 |_,_,ents=>ents
def putAll(n:Nat)(h:Hav)(vs:List (SV A))(st:St A):St A:=
 {wr:=st.wr,rg:=st.rg,tmps:=putSlots st.tmps h.slots (vs.drop h.ents.length),boxes:=putBoxes st.boxes h.boxes ((vs.drop h.ents.length).drop h.slots.length),ents:=reviveAll n h.ents vs st.ents}
def shapeHK:HK->List RK
 | .junk=>[]
 | .int _=>[.int]
 | .bool=>[.bool]
 | .str=>[.str]
 | .sl _ _=>[.sl]
def shapeHav(h:Hav):List RK:=h.ents.map (fun _=>RK.sl)++h.slots.flatMap (fun p=>shapeHK p.2)++h.boxes.flatMap fun p=>p.2.flatMap shapeHK
def dsts:Code->List Nat
 | .region _ ops _=>ops.toList.filterMap (·.dst)
 | .seq a b=>dsts a++dsts b
 | .cond _ a b=>dsts a++dsts b
 | .block _ b=>dsts b
 | .loop b=>dsts b
 |_=>[]
def firstRegion:Code->Nat
 | .region id _ _=>id
 | .seq a b=>match firstRegion a with
  |0=>firstRegion b
  |n=>n
 | .cond _ a b=>match firstRegion a with
  |0=>firstRegion b
  |n=>n
 | .block _ b=>firstRegion b
 | .loop b=>firstRegion b
 |_=>0
def roundOk(h:Hav)(n:Nat)(hd st:St A):Bool:=
 (hd.boxes.zipIdx.all fun(b,i)=>(match st.boxes[i]? with
  |some b'=>b'.ver==b.ver||(b.live&&(h.boxes.map (·.1)).contains i&&b'.live)
  |none=>false))&&
 ((hd.ents.take n).zipIdx.all fun(e,i)=> !e.live||(h.ents.map (·.1)).contains i||(match st.ents[i]? with
  |some e'=>e'.ver==e.ver
  |none=>false))
def loopOk(h:Hav)(body:Code)(st:St A):Bool:=
 (dsts body).all (fun d=>(h.slots.map (·.1)).contains d)&&nodupB (ownsOf st h)&&boxesOk st h
def opReads(ops:Array Oper)(o:Oper):List Nat:=
 (o.op.operands.toList.filterMap fun| .tmp t=>some t|_=>none)++(match o.guard with
  |some (j,_)=>(match ops[j]? with
   |some o'=>o'.dst.toList
   |none=>[])
  |none=>[])
def exposeOps(ops:Array Oper):List Oper->List Nat->List Nat×List Nat
 |[],d=>([],d)
 | o::r,d=>
  let p:=exposeOps ops r (match o.dst with
   |some t=>t::d
   |none=>d)
  ((opReads ops o).filter (fun t=> !d.contains t)++p.1,p.2)
def expose:Code->List Nat->List Nat×List Nat
 | .region _ ops _,d=>exposeOps ops ops.toList d
 | .seq a b,d=>
  let p:=expose a d
  let q:=expose b p.2
  (p.1++q.1,q.2)
 | .cond c a b,d=>
  ((match c with
   | .tmp t=>if d.contains t then []else [t]
   |_=>[])++(expose a d).1++(expose b d).1,d)
 | .block _ b,d=>((expose b d).1,d)
 | .loop b,d=>((expose b d).1,d)
 |_,d=>([],d)
def kindOf(st:St A):SV A->HK
 | .int k _=> .int k
 | .blit _=> .bool
 | .bool _=> .bool
 | .str _=> .str
 | .con (.int k _)=> .int k
 | .con (.bool _)=> .bool
 | .sl id=>match st.ents[id]? with
  |some e=> .sl e.elem e.own
  |none=> .junk
 |_=> .junk
def opersOf:Code->List Oper
 | .region _ ops _=>ops.toList
 | .seq a b=>opersOf a++opersOf b
 | .cond _ a b=>opersOf a++opersOf b
 | .block _ b=>opersOf b
 | .loop b=>opersOf b
 | .rangeFunc _ _ a b=>opersOf a++opersOf b
 |_=>[]
def kindAtSlot(P:Program)(st:St A)(ops:List Oper)(t:Nat):HK:=
 match st.tmps.getD t .junk with
 | .con (.slice none 0 0)=>match ops.find? (fun o=>o.dst==some t)with
  |some o=>match elemOf? P o.type with
   |some e=> .sl e true
   |none=> .junk
  |none=> .junk
 |v=>kindOf st v
def inTwo(st:St A)(id:Nat):Bool:=match st.boxes.filter fun bx=>bx.live&&bx.cells.any fun v=>match v with
  | .sl i=>i==id
  |_=>false with
 |_::_::_=>true
 |_=>false
def fieldNo(ops:List Oper):Operand->Nat
 | .tmp t=>match ops.find? (fun o=>o.dst==some t)with
  |some o=>match o.op with
   | .fieldAddr _ _ f=>f
   |_=>0
  |none=>0
 |_=>0
def holdsAt(st:St A)(tmps:List (SV A))(ops:List Oper):Nat->Operand->Option (SV A⊕Nat)
 |0,_=>none
 |_+1, .func f=>some (.inl (.fn f []))
 | n + 1, .tmp t=>match ops.find? (fun o=>o.dst==some t)with
  | some o=>match o.op with
   | .fieldAddr _ u _=>holdsAt st tmps ops n u
   | .indexAddr _ u _=>holdsAt st tmps ops n u
   | .field _ u f=>match holdsAt st tmps ops n u with
    |some (.inl (.agg l))=>match l.getD f .junk with
     | .sl id=>some (.inl (.view id 0 (A.lit 0) (A.lit 0)))
     | .ptr b off=>some (.inl (.ptr b off))
     | .fn g caps=>some (.inl (.fn g caps))
     |_=>none
    |some (.inl (.bsl b n))=>some (.inl (.bsl b n))
    |_=>none
   | .load _ u=>match holdsAt st tmps ops n u with
    | some (.inl (.ptr b off))=>match st.boxes[b]? with
     | some bx=>match bx.cells.getD off .junk with
      | .fn g caps=>some (.inl (.fn g caps))
      | .yld i=>some (.inl (.yld i))
      | .ptr b' off'=>some (.inl (.ptr b' off'))
      |_=>match bx.cells.getD (off+fieldNo ops u) .junk with
       | .sl id=>if inTwo st id then some (.inl (.view id 0 (A.lit 0) (A.lit 0)))else some (.inl (.ptr b off))
       |_=>some (.inl (.ptr b off))
     |none=>none
    |x=>x
   | .move u=>holdsAt st tmps ops n u
   | .nilCheck u=>holdsAt st tmps ops n u
   | .assign u=>holdsAt st tmps ops n u
   | .slice _ u _ _ _=>holdsAt st tmps ops n u
   | .makeFunc (.func g) _ caps=>some (.inl (.fn g (caps.toList.map fun c=>match holdsAt st tmps ops n c with
    |some (.inl v)=>v
    |_=> .junk)))
   | .alloc _=>match ops.find? (fun o=>match o.op with
     | .store _ (.tmp x) _=>x==t
     |_=>false)with
    | some o=>match o.op with
     | .store _ _ v=>match holdsAt st tmps ops n v with
      |some (.inl (.bsl b m))=>some (.inl (.bsl b m))
      |_=>none
     |_=>none
    |none=>none
   |_=>none
  |none=>match tmps.getD t .junk with
   | .ptr b off=>some (.inl (.ptr b off))
   | .sl _=>some (.inr t)
   | .fn g caps=>some (.inl (.fn g caps))
   | .yld i=>some (.inl (.yld i))
   | .view id sz lo n=>some (.inl (.view id sz lo n))
   | .bsl b n=>some (.inl (.bsl b n))
   | .agg l=>some (.inl (.agg l))
   |_=>none
 |_+1,_=>none
def handsAt(st:St A)(tmps:List (SV A))(ops:List Oper)(x:Operand):SV A:=match holdsAt st tmps ops 30 x with
 |some (.inl v)=>v
 |some (.inr t)=>match tmps.getD t .junk with
  | .sl id=> .view id 0 (A.lit 0) (A.lit 0)
  |_=> .junk
 |none=> .junk
def viaLoad(st:St A)(ops:List Oper):Nat->Operand->Bool
 | n +1, .tmp t=>match ops.find? (fun o=>o.dst==some t)with
  | some o=>match o.op with
   | .fieldAddr _ u _=>viaLoad st ops n u
   | .indexAddr _ u _=>viaLoad st ops n u
   | .move u=>viaLoad st ops n u
   | .assign u=>viaLoad st ops n u
   | .load _ u=>match holdsAt st st.tmps ops 30 u with
    | some (.inl (.ptr b off))=>match st.boxes[b]? with
     |some bx=>match bx.cells.getD off .junk with
      | .fn _ _=>false
      | .fnb _ _=>false
      | .yld _=>false
      | .ptr _ _=>false
      |_=>true
     |none=>false
    |_=>false
   |_=>false
  |none=>false
 |_,_=>false
def touches(ops:Array Oper)(st:St A)(o:Oper):Bool:=match o.op with
 | .store _ x _=>match holdsAt st st.tmps ops.toList 30 x with
  |some (.inl (.ptr _ _))=>viaLoad st ops.toList 30 x
  |_=>true
 | .slice .. =>true
 | .buildSlice .. =>true
 | .mapUpdate .. =>true
 | .insert .. =>true
 | .call {callee:= .value _, .. }=>true
 | .call {callee:= .builtin .append, .. }=>true
 |_=>false
def writtenIn(ops:Array Oper)(st:St A):List Nat:=
 (if ops.toList.any (touches ops st)then [1000000]else [])++ops.toList.filterMap fun o=>match o.op with
  | .store _ x _=>match holdsAt st st.tmps ops.toList 30 x with
   |some (.inl (.ptr b _))=>if viaLoad st ops.toList 30 x then none else some b
   |_=>none
  |_=>none
def inBox(st:St A)(b:Nat):List (Nat⊕Nat):=match st.boxes[b]? with
 |some bx=>bx.cells.filterMap fun v=>match v with
  | .sl id=>some (.inl (1000000+id))
  |_=>none
 |none=>[]
def hitsOf(P:Program)(sk:FuncId->Bool)(st:St A):Nat->Ys A->List (SV A)->List Oper->List (Nat⊕Nat)
 |0,_,_,_=>[]
 | n +1,ys,tmps,ops=>ops.flatMap fun o=>match o.op with
  | .store _ x _=>match holdsAt st tmps ops 30 x with
   |some (.inl (.ptr b _))=>[.inl b]
   |some (.inl (.view id _ _ _))=>[.inl (1000000+id)]
   |some (.inl (.bsl b _))=>inBox st b
   |some (.inr t)=>[.inr t]
   |_=>[]
  | .mapUpdate _ x _ _=>match holdsAt st tmps ops 30 x with
   |some (.inl (.ptr b _))=>[.inl b]
   |some (.inl (.view id _ _ _))=>[.inl (1000000+id)]
   |some (.inr t)=>[.inr t]
   |_=>[]
  | .call {callee:= .value f,args, .. }=>match holdsAt st tmps ops 30 f with
   | some (.inl (.fn g caps))=>if sk g then []else match P.funcs[g]? with
    | some fn=>match fn.body with
     |some body=>(hitsOf P sk st n ys (args.toList.map (handsAt st tmps ops)++caps) (opersOf body)).filter fun h=>match h with
      | .inl _=>true
      | .inr _=>false
     |none=>[]
    |none=>[]
   |some (.inl (.yld i))=>match ys.find? (fun y=>y.i==i)with
    | some y=>(hitsOf P sk st n ys y.tmps (opersOf y.code)).filter fun h=>match h with
      | .inl _=>true
      | .inr _=>false
    |none=>[]
   |_=>[]
  |_=>[]
def isPtrV:SV A->Bool
 | .ptr _ _=>true
 |_=>false
def closureHits(P:Program)(st:St A)(ops:List Oper):List Nat:=ops.flatMap fun o=>match o.op with
 | .call {callee:= .value f,args, .. }=>match holdsAt st st.tmps ops 30 f with
  |some (.inl (.fn g caps))=>if caps.isEmpty&& !(args.toList.any fun x=>isPtrV (handsAt st st.tmps ops x))then []else match(P.funcs[g]?).bind (·.body)with
   | some body=>(hitsOf P (fun _=>false) st (if caps.isEmpty then 2 else 7) [] (args.toList.map (handsAt st st.tmps ops)++caps) (opersOf body)).filterMap fun h=>match h with
     | .inl i=>if i<1000000 then some i else none
     | .inr _=>none
   |none=>[]
  |_=>[]
 |_=>[]
def writtenBy(P:Program)(ops:Array Oper)(st:St A):List Nat:=writtenIn ops st++closureHits P st ops.toList
def kindIn(st:St A):K->SV A->HK
 | .sl e, .sl id=>match st.ents[id]? with
  |some en=> .sl e en.own
  |none=> .sl e true
 | .sl e,_=> .sl e true
 | .int k,_=> .int k
 | .bool,_=> .bool
 | .str,_=> .str
def kindsIn(st:St A):List K->List (SV A)->List HK
 |k::ks,v::vs=>kindIn st k v::kindsIn st ks vs
 |_,_=>[]
def kindsMF(P:Program):Nat->TypeId->Option (List K)
 |0,_=>none
 |n+1,t=>
  match P.underlying t with
  |some (.int k)=>some [.int k]
  |some .bool=>some [.bool]
  |some .string=>some [.str]
  |some (.slice e)=>some [.sl e]
  |some (.map _ _)=>some [.sl (mapT t)]
  |some (.struct fs)=>fs.toList.foldr (fun f acc=>match kindsMF P n f.type,acc with|some a,some b=>some (a++b)|_,_=>none) (some [])
  |some (.array m e)=>(kindsMF P n e).map fun l=>(List.replicate m l).flatten
  |_=>none
def kindsM(P:Program)(t:TypeId):Option (List K):=match kinds P t with
 |some ks=>some ks
 |none=>kindsMF P 8 t
def readHK(h:Hav):HK->HK
 | .sl e o=> .sl e (o&&(isM e|| !h.slots.any fun p=>p.1==999999))
 |k=>k
def autoBoxes(P:Program)(h:Hav)(given:List Nat)(hit:List (Nat⊕Nat))(st:St A):List (Nat×List HK):=
 let hb:=(hit.filterMap fun h=>match h with
  | .inl i=>some i
  | .inr _=>none).eraseDups
 (hb.filter fun i=> !given.contains i).filterMap fun i=>match st.boxes[i]? with
  |some bx=>if bx.live then(match kindsM P bx.ty with
   |some ks=>some (i,(kindsIn st ks bx.cells).map (readHK h))
   |none=>none)else none
  |none=>none
def autoEnts(hit:List (Nat⊕Nat))(slots:List (Nat×HK))(st:St A):List (Nat×TypeId):=
 let taken:=slots.filterMap fun p=>match p.2,st.tmps.getD p.1 .junk with
  | .sl _ true, .sl id=>some id
  |_,_=>none
 let ids:=(hit.filterMap fun h=>match h with
  | .inl i=>if 1000000<=i then some (i-1000000)else none
  | .inr _=>none).eraseDups
 (ids.filter fun i=> !taken.contains i).filterMap fun i=>match st.ents[i]? with
  |some e=>if e.live&&e.own then some (i,e.elem)else none
  |none=>none
def autoHav(P:Program)(sk:FuncId->Bool)(h:Hav)(ys:Ys A)(b:Code)(st:St A):Hav:=
 let ex:=(expose b []).1
 let ops:=opersOf b
 let hit:=hitsOf P sk st 8 ys st.tmps ops
 let more:=(hit.filterMap fun x=>match x with
  | .inl _=>none
  | .inr t=>match st.tmps.getD t .junk with
   | .sl id=>match st.ents[id]? with
    |some e=>if e.own&& !(dsts b).contains t&& !(h.slots.map (·.1)).contains t then some (t,HK.sl e.elem true)else none
    |none=>none
   |_=>none)
 let more:=more.foldl (fun acc p=>if acc.any (fun q=>q.1==p.1)then acc else acc++[p]) []
 let slots:=((dsts b).eraseDups.map fun t=>(t,match h.slots.find? (fun p=>p.1==t)with
   |some p=>p.2
   |none=>if ex.contains t then kindAtSlot P st ops t else .junk))++more++h.slots.filter (fun p=> !(dsts b).contains p.1)
 {slots:=slots,boxes:=h.boxes++autoBoxes P h (h.boxes.map (·.1)) hit st,ents:=h.ents++autoEnts hit slots st}
def kindByOp(P:Program)(ops:List Oper)(t:Nat):HK:=match ops.find? (fun o=>o.dst==some t)with
 | some o=>match kinds P o.type with
  |some [.int k]=> .int k
  |some [.bool]=> .bool
  |some [.str]=> .str
  |some [.sl e]=> .sl e true
  |none=>match P.underlying o.type with
   |some (.map _ _)=> .sl (mapT o.type) true
   |_=> .junk
  |_=> .junk
 |none=> .junk
def isAssign:Op->Bool
 | .assign _=>true
 |_=>false
def joinHav(P:Program)(sk:FuncId->Bool)(h:Hav)(ys:Ys A)(a b:Code)(st:St A):Hav:=
 let ex:=(expose b []).1
 let ops:=opersOf a
 let hit:=hitsOf P sk st 8 ys st.tmps ops
 let more:=(hit.filterMap fun x=>match x with
  | .inl _=>none
  | .inr t=>match st.tmps.getD t .junk with
   | .sl id=>match st.ents[id]? with
    |some e=>if e.own&& !(dsts a).contains t&& !(h.slots.map (·.1)).contains t then some (t,HK.sl e.elem true)else none
    |none=>none
   |_=>none)
 let more:=more.foldl (fun acc p=>if acc.any (fun q=>q.1==p.1)then acc else acc++[p]) []
 let slots:=((dsts a).eraseDups.map fun t=>(t,match h.slots.find? (fun p=>p.1==t)with
   |some p=>p.2
   |none=>match kindAtSlot P st ops t with
    | .junk=>if ex.contains t then kindByOp P ops t else .junk
    |k=>if ex.contains t||ops.any (fun o=>o.dst==some t&&isAssign o.op)then k else .junk))++more++h.slots.filter (fun p=> !(dsts a).contains p.1)
 {slots:=slots,boxes:=h.boxes++autoBoxes P h (h.boxes.map (·.1)) hit st,ents:=h.ents++autoEnts hit slots st}
def roIds:List HK->List (SV A)->List Nat
 | .sl _ false::hks, .sl id::vs=>id::roIds hks vs
 |_::hks,_::vs=>roIds hks vs
 |_,_=>[]
def freezeHav(h:Hav)(st:St A):St A:=freezeIds st (roIds (hksAll h) (svsAll st h))
def toMix(st:St A)(t id:Nat)(en:Ent A):St A:=
 {addEnt (killEnt st id) (mixT en.elem) (A.clrS en.s) true with tmps:=st.tmps.set t (.sl (killEnt st id).ents.length)}
def mixHav(st:St A):List (Nat×HK)->St A
 |[]=>st
 | (t, .sl e true)::r=>mixHav (if isX e then match st.tmps[t]? with
   |some (.sl id)=>match st.ents[id]? with
    |some en=>if en.live&&(en.own&&(!isM en.elem&&unX e==en.elem))then toMix st t id en else st
    |none=>st
   |_=>st else st) r
 |_::r=>mixHav st r
def slCols:List K->Nat->List Nat
 |[],_=>[]
 | .sl _::ks,j=>j::slCols ks (j+1)
 |_::ks,j=>slCols ks (j+1)
def deepAll(P:Program):List Nat->St A->(St A->Tree A)->Tree A
 |[],st,k=>k st
 | id::r,st,k=>match st.ents[id]? with
  | some en=>if mixOk P en&& !isM (unX en.elem)then match kinds P (unX en.elem)with
    |some ks=> .need (A.allT en.s (slCols ks 0)) (deepAll P r {st with ents:=st.ents.set id {en with elem:=deepT (unX en.elem),ver:=en.ver+1}} k)
    |none=>deepAll P r st k
   else deepAll P r st k
  |none=>deepAll P r st k
inductive Jp where
 |none
 |ret
 |exit (id:Nat)
 |bad
def jpOf:List (SV A)->Jp
 |[]=> .none
 |[.ptr 0 _]=> .ret
 |[.ptr (id+1) _]=> .exit id
 |_=> .bad
def jpCells:Option Nat->List (SV A)
 |Option.none=>[.ptr 0 0]
 |some id=>[.ptr (id+1) 0]
def setJp(st:St A)(i:Nat)(tmps:List (SV A))(j:Option Nat):St A:=match st.boxes[i]? with
 |some bx=>{st with tmps:=tmps,boxes:=st.boxes.set i {bx with cells:=jpCells j,ver:=bx.ver+1}}
 |none=>{st with tmps:=tmps}
def jpAt(st:St A)(i:Nat):Jp:=match st.boxes[i]? with
 |some bx=>if bx.live then .bad else jpOf bx.cells
 |none=> .bad
def onNone(j:Jp)(t e:Tree A):Tree A:=match j with
 | .none=>t
 |_=>e
def setMany(tmps:List (SV A)):List Nat->List (SV A)->List (SV A)
 |t::ts,v::vs=>setMany (tmps.set t v) ts vs
 |_,_=>tmps
def noDefer(ops:Array Oper):Bool:=ops.toList.all fun o=>match o.op with
 | .defer _=>false
 |_=>true
def rolls(one:Nat->St A->(St A->Tree A)->Tree A):Nat->St A->Tree A
 |0,_=> .fail "a loop of more rounds" 0
 |n+1,st=>one n st (rolls one n)
def pickBad(cfg:Cfg)(p:Nat)(ops:Array Oper)(st:St A):Bool:=
 cfg.cut (p*1000+949)&&ops.toList.any fun o=>match o.dst with
  |some d=>(match st.tmps.getD d .junk with
   | .fn g _=> !cfg.cut ((p*1000+950)*1000+g)
   | .fnb g _=> !cfg.cut ((p*1000+950)*1000+g)
   |_=>false)
  |none=>false
def slotC:Operand->Nat
 | .tmp t=>t
 |_=>0
def exec (cfg:Cfg)(mk:Ys A->Inl A)(ys:Ys A)(inR:Bool)(path:Nat):Code->St A->(St A->Tree A)->(Nat->St A->Tree A)->(St A->Tree A)->Tree A
  | .skip,st,kN,_,_=>kN st
  | .region id ops draw,st,kN,_,_=>
    if draw then
      if Region.noSelect ops&&cfg.P.follows .mixedOrders&&noDefer ops then
        if cfg.cut (path*1000+id+500)&&lateGood cfg.P ops (baseOf st (writtenBy cfg.P ops st)) st (lateOf (A:=A) cfg.P ops)then
          runLate cfg (mk []) (path*1000+id+1) ops (baseOf st (writtenBy cfg.P ops st)) (lateOf (A:=A) cfg.P ops) (2*ops.size+2) (Array.replicate ops.size false) st kN
        else runDrawM cfg (mk []) (path*1000+id+1) ops (masks ops) (baseOf st (writtenBy cfg.P ops st)) (2*ops.size+2) 0 st kN
      else .fail "a region that draws its order" id
    else runOps cfg (mk ys) (path*1000+id+1) ops ops.toList st fun st'=>if pickBad cfg (path*1000+id+1) ops st' then .fail "another function" id else kN st'
  | .seq a b, st0,kN,kE,kR=>
    if cfg.cut (path*1000+firstRegion b)then
      let h:=joinHav cfg.P (fun g=>(cfg.sig g).isSome) (cfg.hav (path*1000+firstRegion b)) ys a b st0
      let st:=freezeHav h st0
      if loopOk h a st then .join (shapeHav h) fun v=> .both
          (exec cfg mk ys inR path a st (fun st''=>let st':=freezeHav h st'';if roundOk h st.ents.length (headSt st h) st' then
              match rawSt st' h with
              |some news=>if nodupB (ownsOf st' h)&&(ownsOf st' h).all (fun id=>decide (st.ents.length<=id)||(ownsOf st h).contains id)then .put v news else .fail "branches come together: one slice in two places" (path * 1000 +firstRegion b)
              |none=> .fail "branches come together: a kind does not fit" (path*1000+firstRegion b)
            else .fail "branches come together: something else was written" (path*1000+firstRegion b)) kE kR)
          (havAll cfg.P (hksAll h) (headSt st h) fun svs cs st1=> .inv v cs (exec cfg mk ys inR path b (putAll st.ents.length h svs st1) kN kE kR))
      else .fail "branches come together: what is forgotten is not well given" (path*1000+firstRegion b)
    else exec cfg mk ys inR path a st0 (fun st=>exec cfg mk ys inR path b st kN kE kR) kE kR
  | .cond c a b,st,kN,kE,kR=>decided c st fun st=>match st.ev c with
    | .blit true=>if cfg.cut ((path*1000+990)*1000+slotC c)then .fail "a test's other way" 0 else exec cfg mk ys inR path a st kN kE kR
    | .blit false=>if cfg.cut ((path*1000+991)*1000+slotC c)then .fail "a test's other way" 0 else exec cfg mk ys inR path b st kN kE kR
    |_=> .fail "a test" 0
  | .block id b,st,kN,kE,kR=>exec cfg mk ys inR path b st kN (fun id' st=>if id'==id then kN st else kE id' st) kR
  | .loop b,st00,_,kE,kR=>
    let st0:=mixHav st00 (cfg.hav (path*1000+firstRegion b)).slots
    if cfg.cut (path*1000+firstRegion b+800)then rolls (fun m st k=>exec cfg mk ys inR (path*1000+810+m) b st k kE kR) 8 st0 else
    let h:=autoHav cfg.P (fun g=>(cfg.sig g).isSome) (cfg.hav (path*1000+firstRegion b)) ys b st0
    let st:=freezeHav h st0
    if loopOk h b st then
      match rawSt st h with
      |some raws=> .loop (shapeHav h) raws fun v=>
          havAll cfg.P (hksAll h) (headSt st h) fun svs cs st1=>
          .inv v cs (exec cfg mk ys inR path b (putAll st.ents.length h svs st1) (fun st''=>let st':=freezeHav h st'';if roundOk h st.ents.length (putAll st.ents.length h svs st1) st' then
              match rawSt st' h with
              |some news=>if nodupB (ownsOf st' h)&&(ownsOf st' h).all (fun id=>decide (st.ents.length<=id)||(h.ents.map (·.1)).contains id)then .again v cs news else .fail "a round's end: one slice in two places" (path * 1000 +firstRegion b)
              |none=> .fail "a round's end does not fit the head" (path*1000+firstRegion b)
            else .fail "a round's end: something that the head keeps was written" (path*1000+firstRegion b)) kE kR)
      |none=> .fail "a loop's head" (path*1000+firstRegion b)
    else .fail "a loop: what it forgets is not well given" (path * 1000 + firstRegion b)
  | .rangeFunc f ps assign body,st,kN,kE,kR=>match st.ev f with
    | .fn g caps=>if goBody cfg.P g&& !inR then
        let i:=st.boxes.length
        let yd:Yd A:={i:=i,code:= .seq assign body,tmps:=st.tmps,run:=fun args st1 k=>match jpAt st1 i with
          | .none=>if args.length==ps.size then
              exec cfg mk ys true (path*1000+998) assign {st1 with tmps:=setMany st.tmps ps.toList args,wr:=st.wr} (fun st2=>onNone (jpAt st2 i) (exec cfg mk ys true (path*1000+999) body st2
                (fun st3=>k (.blit true) {st3 with tmps:=st1.tmps,wr:=st1.wr}) (fun id st3=>k (.blit false) (setJp {st3 with wr:=st1.wr} i st1.tmps (some id))) (fun st3=>k (.blit false) (setJp {st3 with wr:=st1.wr} i st1.tmps none))) (.fail "a loop's assignment" i))
                (fun _ _=> .fail "an exit out of a loop's assignment" i) (fun _=> .fail "a return out of a loop's assignment" i)
            else .fail "a round's arguments" i
          |_=> .fail "a round behind the last one" i}
        mk (yd::ys) (path*1000+997) (.fn g) (.yld i::caps) {st with boxes:=st.boxes++[⟨0,[],0,false⟩]} (fun _ st2=>match jpAt st2 i with
          | .none=>kN {st2 with tmps:=st.tmps}
          | .ret=>kR {st2 with tmps:=st.tmps}
          | .exit id=>kE id {st2 with tmps:=st.tmps}
          | .bad=> .fail "a loop over a function" i)
      else .fail "a loop over no Go function" g
    |_=> .fail "a loop over a function that is not known" 0
  | .exit id,st,_,kE,_=>kE id st
  | .ret,st,_,_,kR=>kR st
  |_,_,_,_,_=> .fail "code that is not served" 0
def resultsOf(P:Program)(st:St A):List ResultVar->Option (List (SV A))
 |[]=>some []
 | .tmp t::r=>(resultsOf P st r).map (st.tmps.getD t .junk:: ·)
 | .cell t ty::r=>match st.tmps.getD t .junk,sizeT P ty,resultsOf P st r with
  | .ptr b off,some n,some l=>match st.boxes[b]? with
   | some bx=>if bx.live&&off+n<=bx.cells.length&&(P.underlying ty).isSome then match pack P ty ((bx.cells.drop off).take n)with
     |some v=>some (v::l)
     |none=>none
    else none
   |none=>none
  |_,_,_=>none
def frameOf(fn:Func)(args:List (SV A)):List (SV A):=args++List.replicate (fn.ntmps-args.length) (.con (.tuple #[]))
def retK(P:Program)(f:FuncId)(fn:Func)(tmps:List (SV A))(k:SV A->St A->Tree A)(st':St A):Tree A:=
 match resultsOf P st' fn.results.toList with
 |some l=>k (one l) {st' with tmps:=tmps}
 |none=> .fail "results" f
def inlF(cfg:Cfg):Nat->Ys A->Inl A
 |0,_,_,_,_,_,_=> .fail "calls too deep" 0
 |_+1,ys,_, .yld i,args,st,k=>match ys.find? (fun y=>y.i==i)with
  |some y=>y.run args st k
  |none=> .fail "a round of no loop" i
 | n +1,ys,path, .fn f,args,st,k=>match cfg.prim f with
  |some (.ins e)=>callIns cfg.P e args st k
  |some (.kept sg)=>callK cfg f sg args st k
  |some (.over sg)=>callOver cfg.P f sg args st k
  | none=>match cfg.P.funcs[f]? with
   | some fn=>match fn.body with
    |some body=>
     exec cfg (inlF cfg n) ys false path body {st with tmps:=frameOf fn args,wr:=cfg.wr f} (fun st'=>retK cfg.P f fn st.tmps k {st' with wr:=st.wr}) (fun _ _=> .fail "an exit out of a function" f) (fun st'=>retK cfg.P f fn st.tmps k {st' with wr:=st.wr})
    |none=> .fail "a function without a body" f
   |none=> .fail "no such function" f
def resCell(st:St A)(p:K×Bool)(v:SV A):Option A.C:=
 match p,v with
 |(.sl e,true), .sl id=>match st.ents[id]? with
  |some en=>if en.live&&en.own&&en.elem==e then some (.sl en.s)else none
  |none=>none
 |(.sl e,false), .sl id=>match st.ents[id]? with
  |some en=>if en.live&& !en.own&&en.elem==e then some (.sl en.s)else none
  |none=>none
 |(.sl e,_), .con (.slice none 0 0)=>if isM e&& !isD e then none else some (.sl A.nilS)
 |(.sl _,_),_=>none
 |(k,_),v=>toClR st.ents k v
def resCells(st:St A):List (K×Bool)->List (SV A)->Option (List A.C)
 |[],[]=>some []
 |p::ps,v::vs=>match resCell st p v,resCells st ps vs with
  |some c,some cs=>some (c::cs)
  |_,_=>none
 |_,_=>none
def resV(st:St A):VSh->SV A->Option (List A.C)
 | .cell k own,v=>(resCell st (k,own) v).map ([·])
 | .agg l, .agg vs=>resCells st l vs
 |_,_=>none
def resVs(st:St A):List VSh->List (SV A)->Option (List A.C)
 |[],[]=>some []
 |sh::shs,v::vs=>match resV st sh v,resVs st shs vs with
  |some c,some cs=>some (c++cs)
  |_,_=>none
 |_,_=>none
def idOfC:K×Bool->SV A->Option Nat
 |(.sl _,true), .sl id=>some id
 |_,_=>none
def posCells:List (K×Bool)->List (SV A)->List (Option Nat)
 |p::r,v::vs=>idOfC p v::posCells r vs
 |_,_=>[]
def posVs:List VSh->List (SV A)->List (Option Nat)
 | .cell k own::r,v::vs=>posCells [(k,own)] [v]++posVs r vs
 | .agg l::r, .agg ws::vs=>posCells l ws++posVs r vs
 |_,_=>[]
def ownVs(shs:List VSh)(vs:List (SV A)):List Nat:=(posVs shs vs).filterMap id
def freezeRes(sg:Sig)(st:St A)(l:List (SV A)):St A:=
 freezeIds st ((List.range st.ents.length).filter fun i=> !(ownVs sg.res l).contains i)
def roSh:VSh->Bool
 | .cell _ own=> !own
 | .agg l=>l.all fun p=> !p.2
def endK(P:Program)(f:FuncId)(fn:Func)(sg:Sig)(cs:List A.C)(st':St A):Tree A:=
 match resultsOf P st' fn.results.toList with
 |some l=>deepAll P (l.flatMap idsV) st' fun st'=>match resVs (freezeRes sg st' l) sg.res l with
  |some rs=>if nodupB (ownVs sg.res l)then .need (A.post f cs rs) .done else .fail "results: one slice in two places" f
  |none=> .fail "results do not fit the contract" f
 |none=> .fail "results" f
def leaves:Code->Nat
 | .seq a b=>leaves a+leaves b
 |_=>1
def leafAt:Code->Nat->Option Code
 | .seq a b,i=>if i<leaves a then leafAt a i else leafAt b (i-leaves a)
 |c,i=>if i==0 then some c else none
def readsCl(P:Program)(st:St A):List (Nat×K)->Option (List A.C)
 |[]=>some []
 | (t,e)::r=>match st.tmps[t]? with
  |some v=>match toClR st.ents e v,readsCl P st r with
   |some c,some cs=>some (c::cs)
   |_,_=>none
  |none=>none
def lpSt(st:St A)(c:Code)(q:LP)(id:Nat)(e:TypeId)(s:A.S):St A:=
 {addEnt (killEnt st id) (deepT e) s true with tmps:=(junkSlots st.tmps ((dsts c).map fun t=>(t,HK.junk))).set q.arg (.sl (killEnt st id).ents.length)}
def lpKill(st:St A)(c:Code)(q:LP)(id:Nat):St A:={killEnt st id with tmps:=(junkSlots st.tmps ((dsts c).map fun t=>(t,HK.junk))).set q.arg .junk}
def lpStep(cfg:Cfg)(q:LP)(c:Code)(st:St A)(k:St A->Tree A):Tree A:=
 match st.tmps[q.arg]? with
 | some (.sl id)=>match st.ents[id]?,readsCl cfg.P st q.reads with
  | some en,some cs=>if en.live&&(en.own&&(en.elem==q.ae&&(noMap cfg.P (unM en.elem)&&(st.tmps.length==q.nt&&q.out.all fun e=> !isM e))))then
    .need (A.pre q.pid (.sl en.s::cs)) (match q.out with
     |some e=> .allS fun s=> .given (A.post q.pid (.sl en.s::cs) [.sl s]) (k (lpSt st c q id e s))
     |none=>k (lpKill st c q id))
   else .fail "a piece that is proved by hand: its slice" q.arg
  |_,_=> .fail "a piece that is proved by hand: what it reads" q.arg
 |_=> .fail "a piece that is proved by hand: no slice" q.arg
def hasLp(cfg:Cfg)(f:FuncId)(i n:Nat):Bool:=(List.range n).any fun j=>(cfg.lp f (i+j)).isSome
def execL(cfg:Cfg)(mk:Ys A->Inl A)(f:FuncId):Code->Nat->St A->(St A->Tree A)->(Nat->St A->Tree A)->(St A->Tree A)->Tree A
 | .seq a b,i,st,kN,kE,kR=>if hasLp cfg f i (leaves a+leaves b)then execL cfg mk f a i st (fun st=>execL cfg mk f b (i+leaves a) st kN kE kR) kE kR
  else exec cfg mk [] false f (.seq a b) st kN kE kR
 |c,i,st,kN,kE,kR=>match cfg.lp f i with
  |some q=>lpStep cfg q c st kN
  |none=>exec cfg mk [] false f c st kN kE kR
def vc(cfg:Cfg)(depth:Nat)(f:FuncId)(sg:Sig):Tree A:=
 match cfg.P.funcs[f]? with
 |some fn=>match fn.body with
  |some body=>if !(sg.args.all roSh)then .fail "a contract's arguments" f else freshVs cfg.P sg.args {tmps:=[],boxes:=[],ents:=[],wr:=cfg.wr f,rg:=cfg.rg f} fun vs cs st=>
   .given (A.pre f cs) (execL cfg (inlF cfg depth) f body 0 {st with tmps:=frameOf fn vs} (endK cfg.P f fn sg cs) (fun _ _=> .fail "an exit out of a function" f) (endK cfg.P f fn sg cs))
  |none=> .fail "a function without a body" f
 |none=> .fail "no such function" f
end
end Go.Sx
