/-
 What the symbolic executor's words mean: the leaves' algebra, the trees' denotation, how symbolic values and states relate to the model's. Conditions: none; small lemmas are proved.
 The operations of the symbolic executor that neither write nor make memory are sound: what it says of them the model's run bears out. Conditions: the symbolic state relates to the model's.
 The remaining operations that neither write nor make memory, and all of them together. Conditions: the symbolic state relates to the model's.
 The heap's relation to a symbolic state, and the moves that keep it: a new block, a new entry, one that is given up. Conditions: none beyond each lemma's own.
-/
import Derived.Test.YtbgbcaamipknmaaGreatEngA
import Derived.WalkKit
set_option linter.unusedVariables false
set_option linter.unusedSimpArgs false
namespace Go.Sx
open Go.RowKit (Below)
structure PB where
 p:Prop
 d:Decidable p
def PB.b(x:PB):Bool:= @decide x.p x.d
structure Sl where
 n:Nat
 f:Nat->Nat->D
def D.toI:D->Int
 | .int n=>n
 |_=>0
def D.toB:D->Bool
 | .bool b=>b
 |_=>false
def D.toY:D->ByteArray
 | .str s=>s
 |_=>ByteArray.empty
def D.toS:D->Sl
 | .sl n f=>⟨n,f⟩
 |_=>⟨0,fun _ _=> .int 0⟩
def Sl.d(s:Sl):D:= .sl s.n s.f
def Sl.len(s:Sl):Int:=((s.n:Nat):Int)
def Sl.int(s:Sl)(i:Int)(j:Nat):Int:=(s.f i.toNat j).toI
def Sl.bool(s:Sl)(i:Int)(j:Nat):Bool:=(s.f i.toNat j).toB
def Sl.str(s:Sl)(i:Int)(j:Nat):ByteArray:=(s.f i.toNat j).toY
def Sl.sub(s:Sl)(i:Int)(j:Nat):Sl:=(s.f i.toNat j).toS
def Sl.nil:Sl:=⟨0,fun _ _=> .int 0⟩
def Sl.part(s:Sl)(l h:Int):Sl:=⟨(h-l).toNat,fun i j=>s.f (l.toNat+i) j⟩
def Sl.upd(s:Sl)(i:Int)(j:Nat)(cs:List D):Sl:=
 ⟨s.n,fun a b=>if a=i.toNat/\j<=b/\b<j+cs.length then cs.getD (b-j) (.int 0)else s.f a b⟩
def Sl.app(s r:Sl):Sl:=⟨s.n+r.n,fun i j=>if i<s.n then s.f i j else r.f (i-s.n) j⟩
def Sl.lit(l:List (List D)):Sl:=⟨l.length,fun i j=>(l.getD i []).getD j (.int 0)⟩
def Sl.mk0(s:Sl):Sl:=⟨s.n,fun i j=>if i<s.n then s.f i j else .int 0⟩
def Sl.mk1(s:Sl):Sl:=⟨s.n,fun i j=>if i<s.n then s.f i j else .int 777⟩
def D.clr:D->D
 | .sl n f=> .sl n fun i j=>if i<n then f i j else .int 0
 |d=>d
def Sl.clr(s:Sl):Sl:=⟨s.n,fun i j=>(s.f i j).clr⟩
def tgD:D->Bool
 | .sl n f=>match f n 0 with
  | .int x=>x==777
  |_=>false
 |_=>false
def Untg(s:Sl)(i:Int)(j:Nat):Prop:=tgD (s.f i.toNat j)=false
def AllT(s:Sl)(l:List Nat):Prop:=∀i:Nat,i<s.n->∀j∈l,tgD (s.f i j)=true
def Sl.mfind(s:Sl)(k:Int):Nat->Option Nat
 |0=>none
 |n+1=>if(s.f n 0).toI=k then some n else s.mfind k n
def Sl.mhas(s:Sl)(k:Int):Bool:=(s.mfind k s.n).isSome
def Sl.mrow(s:Sl)(k:Int)(z:List D)(j:Nat):D:=match s.mfind k s.n with
 |some i=>s.f i (j+1)
 |none=>z.getD j (.int 0)
def Sl.mget(s:Sl)(k:Int)(z:List D):Sl:=⟨1,fun _ j=>s.mrow k z j⟩
def Sl.mset(s:Sl)(k:Int)(cs:List D):Sl:=⟨s.n+1,fun i j=>if i<s.n then s.f i j else(D.int k::cs).getD j (.int 0)⟩
def Sl.rep(n:Int)(z:List D):Sl:=⟨n.toNat,fun _ j=>z.getD j (.int 0)⟩
def bytes(l:List UInt8):ByteArray:=⟨l.toArray⟩
def imin(x y:Int):Int:=if y<x then y else x
def imax(x y:Int):Int:=if y>x then y else x
def ylen(s:ByteArray):Int:=((s.size:Nat):Int)
def ysub(s:ByteArray)(i:Int):ByteArray:=s.extract 0 i.toNat
def ychr(s:ByteArray)(i:Int):Int:=(((s.data.toList.getD i.toNat 0).toNat:Nat):Int)
def Rng(k:IntKind)(x:Int):Prop:=k.min<=x/\x<=k.max
def Small(s:Sl):Prop:=s.n<=140737488355328
def Ranged(s:Sl)(l:List (Option IntKind)):Prop:=∀(i:Int)(j:Nat)(k:IntKind),0<=i->i<s.n->l[j]? =some (some k)->Rng k (Sl.int s i j)
def band(k:IntKind)(x y:Int):Int:=(((BitVec.ofInt k.bits x)&&&(BitVec.ofInt k.bits y)).toNat:Int)
def bor(k:IntKind)(x y:Int):Int:=(((BitVec.ofInt k.bits x)|||(BitVec.ofInt k.bits y)).toNat:Int)
def bxor(k:IntKind)(x y:Int):Int:=(((BitVec.ofInt k.bits x)^^^(BitVec.ofInt k.bits y)).toNat:Int)
def bclr(k:IntKind)(x y:Int):Int:=(((BitVec.ofInt k.bits x)&&&~~~(BitVec.ofInt k.bits y)).toNat:Int)
def shl(k:IntKind)(x y:Int):Int:=x*2^(min y.toNat k.bits)
def shr(k:IntKind)(x y:Int):Int:=x.fdiv (2^(min y.toNat k.bits))
def arithS(op:BinOp)(k:IntKind)(x y:Int):Int:=
 match op with
 | .add=>x+y
 | .sub=>x-y
 | .mul=>x*y
 | .quo=>Int.tdiv x y
 | .rem=>Int.tmod x y
 | .and=>band k x y
 | .or=>bor k x y
 | .xor=>bxor k x y
 | .andNot=>bclr k x y
 | .shl=>shl k x y
 | .shr=>shr k x y
 |_=>0
def cmpS(op:BinOp)(x y:Int):PB:=
 match op with
 | .eql=>⟨x=y,inferInstance⟩
 | .neq=>⟨x≠y,inferInstance⟩
 | .lss=>⟨x<y,inferInstance⟩
 | .leq=>⟨x<=y,inferInstance⟩
 | .gtr=>⟨x>y,inferInstance⟩
 |_=>⟨x>=y,inferInstance⟩
abbrev CS:=Cl Int PB ByteArray Sl
def Cl.toD:CS->D
 | .int x=> .int x
 | .bool b=> .bool (@decide b.p b.d)
 | .str y=> .str y
 | .sl s=> .sl s.n s.f
structure Pred where
 pre:List D->Prop
 post:List D->List D->Prop
@[reducible] def sem(T:FuncId->Pred):Alg where
 I:=Int
 B:=PB
 Y:=ByteArray
 S:=Sl
 P:=Prop
 V:=(List D->Prop)×(List D->Nat)
 lit:=fun n=>n
 arith:=arithS
 wrap:=fun k x=>IntKind.wrap k x
 imin:=imin
 imax:=imax
 cmp:=cmpS
 bnot:=fun b=>⟨¬b.p, @instDecidableNot _ b.d⟩
 band:=fun b c=>⟨b.p/\c.p, @instDecidableAnd _ _ b.d c.d⟩
 beq:=fun b c=>⟨b.p↔c.p, @instDecidableIff _ _ b.d c.d⟩
 blit:=fun b=>match b with
  |true=>⟨True,inferInstance⟩
  |false=>⟨False,inferInstance⟩
 ylit:=fun s=>s
 ylen:=ylen
 ychr:=ychr
 ysub:=ysub
 yeq:=fun x y=>⟨x=y,inferInstance⟩
 len:=Sl.len
 cellI:=Sl.int
 cellB:=fun s i j=>⟨Sl.bool s i j=true,inferInstance⟩
 cellY:=Sl.str
 cellS:=Sl.sub
 nilS:=Sl.nil
 sub:=Sl.part
 upd:=fun s i j cs=>Sl.upd s i j (cs.map Cl.toD)
 app:=Sl.app
 listS:=fun l=>Sl.lit (l.map fun cs=>cs.map Cl.toD)
 replS:=fun n z=>Sl.rep n (z.map Cl.toD)
 mget:=fun s i z=>Sl.mget s i (z.map Cl.toD)
 mhas:=fun s i=>⟨Sl.mhas s i=true,inferInstance⟩
 mset:=fun s i z=>Sl.mset s i (z.map Cl.toD)
 le:=fun x y=>x<=y
 lt:=fun x y=>x<y
 ne:=fun x y=>x≠y
 rng:=Rng
 ranged:=Ranged
 small:=Small
 clrS:=Sl.clr
 mk0:=Sl.mk0
 mk1:=Sl.mk1
 untg:=Untg
 allT:=AllT
 pre:=fun f l=>(T f).pre (l.map Cl.toD)
 post:=fun f l r=>(T f).post (l.map Cl.toD) (r.map Cl.toD)
def CurP:List RK->Type
 |[]=>Prop
 | .int::r=>Int->CurP r
 | .bool::r=>Bool->CurP r
 | .str::r=>ByteArray->CurP r
 | .sl::r=>Sl->CurP r
def CurN:List RK->Type
 |[]=>Nat
 | .int::r=>Int->CurN r
 | .bool::r=>Bool->CurN r
 | .str::r=>ByteArray->CurN r
 | .sl::r=>Sl->CurN r
def apP:(sh:List RK)->CurP sh->List D->Prop
 |[],p,_=>p
 | .int::r,f,d::ds=>apP r (f d.toI) ds
 | .bool::r,f,d::ds=>apP r (f d.toB) ds
 | .str::r,f,d::ds=>apP r (f d.toY) ds
 | .sl::r,f,d::ds=>apP r (f d.toS) ds
 |_,_,[]=>False
def apN:(sh:List RK)->CurN sh->List D->Nat
 |[],p,_=>p
 | .int::r,f,d::ds=>apN r (f d.toI) ds
 | .bool::r,f,d::ds=>apN r (f d.toB) ds
 | .str::r,f,d::ds=>apN r (f d.toY) ds
 | .sl::r,f,d::ds=>apN r (f d.toS) ds
 |_,_,[]=>0
variable{T:FuncId->Pred}
def Tree.den:Tree (sem T)->Prop
 | .need p t=>p/\t.den
 | .given p t=>p->t.den
 | .br b t e=>(b.p->t.den)/\(¬b.p->e.den)
 | .both t e=>t.den/\e.den
 | .allI f=>∀x:Int,(f x).den
 | .allB f=>∀b:Bool,(f ⟨b=true,inferInstance⟩).den
 | .allY f=>∀y:ByteArray,(f y).den
 | .allS f=>∀s:Sl,(f s).den
 | .loop sh e f=>∃(J:CurP sh)(M:CurN sh),apP sh J (e.map Cl.toD)/\(f (apP sh J,apN sh M)).den
 | .inv v xs t=>v.1 (xs.map Cl.toD)->t.den
 | .again v old new=>v.1 (new.map Cl.toD)/\v.2 (new.map Cl.toD)<v.2 (old.map Cl.toD)
 | .join sh f=>∃J:CurP sh,(f (apP sh J,fun _=>0)).den
 | .put v xs=>v.1 (xs.map Cl.toD)
 | .done=>True
 | .fail _ _=>False
def Rd(P:Program)(w:World)(R:Nat->Prop):D->K->Value->Prop
 | .int n,k,v=>∃ik,k= .int ik/\v= .int ik n/\ik.min<=n/\n<=ik.max
 | .bool b,k,v=>k= .bool/\v= .bool b
 | .str s,k,v=>k= .str/\v= .string s
 | .sl n f,k,v=>∃e a cap,k= .sl e/\v= .slice a n cap/\n<=min cap 140737488355328/\cap<=maxLen/\(a=none->cap=0)/\
   ∀ks i j kk,kinds P e=some ks->i<n->ks[j]? =some kk->∃ad u,a=some ad/\ad.spot=none/\R ad.block/\w.cell? ⟨ad.block,ad.off+(i*ks.length+j),none⟩=some u/\Rd P w R (f i j) kk u
theorem Rd.mono{P:Program}{w w':World}{R R':Nat->Prop}(hR:∀b,R b->R' b)(hw:∀b,R b->w'.heap[b]? =w.heap[b]?):
  ∀{d:D}{k:K}{v:Value},Rd P w R d k v->Rd P w' R' d k v:=by
 intro d
 induction d with
 |int n=>intro k v h;exact h
 |bool b=>intro k v h;exact h
 |str s=>intro k v h;exact h
 |sl n f ih=>
  intro k v h
  obtain⟨e,a,cap,hk,hv,h1,h2,h4,h5⟩:=h
  refine⟨e,a,cap,hk,hv,h1,h2,h4,fun ks i j kk h3 hi hj=> ?_⟩
  obtain⟨ad,u,ha,hs,hr,hc,hd⟩:=h5 ks i j kk h3 hi hj
  refine⟨ad,u,ha,hs,hR _ hr, ?_,ih i j hd⟩
  rw[World.cell?_of_block (w:=w) (a:=⟨ad.block,ad.off+(i*ks.length+j),none⟩) (hw ad.block hr)]
  exact hc
def Cont(P:Program)(w:World)(R:Nat->Prop)(e:TypeId)(s:Sl)(v:Value):Prop:=
 ∃a cap,v= .slice a s.n cap/\s.n<=min cap 140737488355328/\cap<=maxLen/\(a=none->cap=0)/\
  ∀ks i j kk,kinds P e=some ks->i<s.n->ks[j]? =some kk->∃ad u,a=some ad/\ad.spot=none/\w.cell? ⟨ad.block,ad.off+(i*ks.length+j),none⟩=some u/\Rd P w R (s.f i j) kk u
theorem Rd.cont{P:Program}{w:World}{R:Nat->Prop}{e:TypeId}{s:Sl}{v:Value}(h:Rd P w R (.sl s.n s.f) (.sl e) v):Cont P w R e s v:=by
 obtain⟨e',a,cap,hk,hv,h1,h2,h4,h5⟩:=h
 cases hk
 refine⟨a,cap,hv,h1,h2,h4,fun ks i j kk h3 hi hj=> ?_⟩
 obtain⟨ad,u,ha,hs,_,hc,hd⟩:=h5 ks i j kk h3 hi hj
 exact⟨ad,u,ha,hs,hc,hd⟩
def tailC(ks:List K)(q:Nat):Value:=match ks[q % ks.length]? with
 |some (.int k)=> .int k (if q % ks.length=0 then k.wrap (8000024+(q/ks.length:Nat))else 0)
 |some .bool=> .bool false
 |some .str=> .string ⟨#[]⟩
 |some (.sl _)=> .slice none 0 0
 |none=> .tuple #[]
def Lt(P:Program)(w:World)(Z:Nat->Prop):D->K->Value->Prop
 | .int n,k,v=>∃ik,k= .int ik/\v= .int ik n/\ik.min<=n/\n<=ik.max
 | .bool b,k,v=>k= .bool/\v= .bool b
 | .str s,k,v=>k= .str/\v= .string s
 | .sl n f,k,v=>∃e b cs,k= .sl e/\v= .slice (some ⟨b,0,none⟩) n (n+12)/\n+12<=140737488355328/\Z b/\w.heap[b]? =some (.cells cs e (0,0))/\∀ks,kinds P e=some ks->cs.size=(n+12)*ks.length/\
   (∀i j kk,i<n->ks[j]? =some kk->∃u,cs[i*ks.length+j]? =some u/\Lt P w Z (f i j) kk u)/\∀q,q<12*ks.length->cs[n*ks.length+q]? =some (tailC ks q)
theorem Lt.mono{P:Program}{w w':World}{Z Z':Nat->Prop}(hZ:∀b,Z b->b<w.heap.size->Z' b)(hw:∀b,Z b->w'.heap[b]? =w.heap[b]?):
  ∀{d:D}{k:K}{v:Value},Lt P w Z d k v->Lt P w' Z' d k v:=by
 intro d
 induction d with
 |int n=>intro k v h;exact h
 |bool b=>intro k v h;exact h
 |str s=>intro k v h;exact h
 |sl n f ih=>
  intro k v h
  obtain⟨e,b,cs,hk,hv,h1,h2,h3,h4⟩:=h
  refine⟨e,b,cs,hk,hv,h1,hZ b h2 (Array.getElem?_eq_some_iff.1 h3).1,(hw b h2).trans h3,fun ks hks=>⟨(h4 ks hks).1,fun i j kk hi hj=> ?_,(h4 ks hks).2.2⟩⟩
  obtain⟨u,hu,hl⟩:=(h4 ks hks).2.1 i j kk hi hj
  exact⟨u,hu,ih i j hl⟩
theorem Lt.rd{P:Program}{w:World}{Z R:Nat->Prop}(hR:∀b,Z b->b<w.heap.size->R b):∀{d:D}{k:K}{v:Value},Lt P w Z d k v->Rd P w R d k v:=by
 intro d
 induction d with
 |int n=>intro k v h;exact h
 |bool b=>intro k v h;exact h
 |str s=>intro k v h;exact h
 |sl n f ih=>
  intro k v h
  obtain⟨e,b,cs,hk,hv,h1,h2,h3,h4⟩:=h
  refine⟨e,some ⟨b,0,none⟩,n+12,hk,hv,by omega,by unfold maxLen;omega,(fun h=>by cases h),fun ks i j kk hks hi hj=> ?_⟩
  obtain⟨u,hu,hl⟩:=(h4 ks hks).2.1 i j kk hi hj
  exact⟨_,u,rfl,rfl,hR b h2 (Array.getElem?_eq_some_iff.1 h3).1,by simp[World.cell?,h3,hu],ih i j hl⟩
theorem Lt.slv{P:Program}{w:World}{Z:Nat->Prop}{n:Nat}{f:Nat->Nat->D}{e:TypeId}{v:Value}(h:Lt P w Z (.sl n f) (.sl e) v):∃a m c,v= .slice a m c:=by
 obtain⟨_,b,cs,_,hv,_⟩:=h
 exact⟨_,_,_,hv⟩
def blkOf:Value->Option Nat
 | .slice (some ad) _ (_+1)=>some ad.block
 |_=>none
def Dp(P:Program)(w:World)(Z:Nat->Prop):D->K->Value->Prop
 | .int n,k,v=>∃ik,k= .int ik/\v= .int ik n/\ik.min<=n/\n<=ik.max
 | .bool b,k,v=>k= .bool/\v= .bool b
 | .str s,k,v=>k= .str/\v= .string s
 | .sl n f,k,v=>∃e a cap,k= .sl e/\v= .slice a n cap/\n<=min cap 140737488355328/\cap<=maxLen/\(a=none->cap=0)/\
   (cap=0\/∃b cs,a=some ⟨b,0,none⟩/\Z b/\w.heap[b]? =some (.cells cs e (0,0))/\∀ks,kinds P e=some ks->cs.size=cap*ks.length/\
    (∀j k kk,j<n->ks[k]? =some kk->∃u,cs[j*ks.length+k]? =some u/\Dp P w Z (f j k) kk u)/\
    ∀q q' u u' c,q<n*ks.length->q'<n*ks.length->cs[q]? =some u->cs[q']? =some u'->blkOf u=some c->blkOf u'=some c->q=q')
theorem Dp.mono{P:Program}{w w':World}{Z Z':Nat->Prop}(hZ:∀b,Z b->b<w.heap.size->Z' b)(hw:∀b,Z b->w'.heap[b]? =w.heap[b]?):
  ∀{d:D}{k:K}{v:Value},Dp P w Z d k v->Dp P w' Z' d k v:=by
 intro d
 induction d with
 |int n=>intro k v h;exact h
 |bool b=>intro k v h;exact h
 |str s=>intro k v h;exact h
 |sl n f ih=>
  intro k v h
  obtain⟨e,a,cap,hk,hv,h1,h2,h3,h4⟩:=h
  refine⟨e,a,cap,hk,hv,h1,h2,h3,h4.imp id fun⟨b,cs,ha,hz,hb,hc⟩=>⟨b,cs,ha,hZ b hz (Array.getElem?_eq_some_iff.1 hb).1,(hw b hz).trans hb,fun ks hks=>⟨(hc ks hks).1,fun i j kk hi hj=> ?_,(hc ks hks).2.2⟩⟩⟩
  obtain⟨u,hu,hl⟩:=(hc ks hks).2.1 i j kk hi hj
  exact⟨u,hu,ih i j hl⟩
theorem Dp.rd{P:Program}{w:World}{Z R:Nat->Prop}(hR:∀b,Z b->b<w.heap.size->R b):∀{d:D}{k:K}{v:Value},Dp P w Z d k v->Rd P w R d k v:=by
 intro d
 induction d with
 |int n=>intro k v h;exact h
 |bool b=>intro k v h;exact h
 |str s=>intro k v h;exact h
 | sl n f ih=>
  intro k v h
  obtain⟨e,a,cap,hk,hv,h1,h2,h3,h4⟩:=h
  refine⟨e,a,cap,hk,hv,h1,h2,h3,fun ks i j kk hks hi hj=> ?_⟩
  rcases h4 with h4|⟨b,cs,ha,hz,hb,hc⟩
  ·omega
  ·obtain⟨u,hu,hl⟩:=(hc ks hks).2.1 i j kk hi hj
   exact⟨_,u,ha,rfl,hR b hz (Array.getElem?_eq_some_iff.1 hb).1,by simp[World.cell?,hb,hu],ih i j hl⟩
theorem Dp.slv{P:Program}{w:World}{Z:Nat->Prop}{n:Nat}{f:Nat->Nat->D}{e:TypeId}{v:Value}(h:Dp P w Z (.sl n f) (.sl e) v):∃a m c,v= .slice a m c:=by
 obtain⟨_,a,cap,_,hv,_⟩:=h
 exact⟨_,_,_,hv⟩
def Mx(P:Program)(w:World)(R Z:Nat->Prop)(e:TypeId)(s:Sl)(v:Value):Prop:=
 ∃ a cap,v= .slice a s.n cap/\s.n<=min cap 140737488355328/\cap<=maxLen/\(a=none->cap=0)/\
  (cap=0\/∃b cs,a=some ⟨b,0,none⟩/\Z b/\w.heap[b]? =some (.cells cs e (0,0))/\∀ks,kinds P e=some ks->cs.size=cap*ks.length/\
   (∀j k kk,j<s.n->ks[k]? =some kk->∃u,cs[j*ks.length+k]? =some u/\(tgD (s.f j k)=true->Dp P w (fun x=>Z x/\x≠b) (s.f j k) kk u)/\(tgD (s.f j k)=false->Rd P w R (s.f j k) kk u))/\
   ∀j k j' k' u u' c,j<s.n->k<ks.length->j'<s.n->k'<ks.length->tgD (s.f j k)=true->tgD (s.f j' k')=true->cs[j*ks.length+k]? =some u->cs[j'*ks.length+k']? =some u'->blkOf u=some c->blkOf u'=some c->j=j'/\k=k')
theorem tg_flat{P:Program}{w:World}{Z R:Nat->Prop}{d:D}{kk:K}{u:Value}(hk:∀e,kk≠ .sl e)(h1:tgD d=true->Dp P w Z d kk u)(h2:tgD d=false->Rd P w R d kk u):Rd P w R d kk u:=by
 cases hd:tgD d with
 |false=>exact h2 hd
 |true=>
  have h:=h1 hd
  cases d with
  |sl n f=>obtain⟨e,_,_,hke,_⟩:=h;exact absurd hke (hk e)
  |int n=>cases hd
  |bool b=>cases hd
  |str s=>cases hd
theorem Dp.blk{P:Program}{w:World}{Z:Nat->Prop}{d:D}{kk:K}{u:Value}{c:Nat}(h:Dp P w Z d kk u)(hc:blkOf u=some c):Z c:=by
 cases d with
 |int n=>obtain⟨_,_,rfl,_⟩:=h;cases hc
 |bool b=>obtain⟨_,rfl⟩:=h;cases hc
 |str s=>obtain⟨_,rfl⟩:=h;cases hc
 | sl n f=>
  obtain⟨e,a,cap,_,rfl,_,_,_,h4⟩:=h
  rcases h4 with rfl|⟨b,cs,rfl,hz,_⟩
  ·cases a<;>cases hc
  ·cases cap with
   |zero=>cases hc
   |succ cap=>cases hc;exact hz
theorem Mx.mono{P:Program}{w w':World}{R R' Z Z':Nat->Prop}{e:TypeId}{s:Sl}{v:Value}(h:Mx P w R Z e s v)(hR:∀b,R b->R' b)(hwR:∀b,R b->w'.heap[b]? =w.heap[b]?)(hZ:∀b,Z b->b<w.heap.size->Z' b)(hw:∀b,Z b->w'.heap[b]? =w.heap[b]?):Mx P w' R' Z' e s v:=by
 obtain⟨a,cap,hv,h1,h2,h3,h4⟩:=h
 refine⟨a,cap,hv,h1,h2,h3,h4.imp id fun⟨b,cs,ha,hz,hb,hc⟩=>⟨b,cs,ha,hZ b hz (Array.getElem?_eq_some_iff.1 hb).1,(hw b hz).trans hb,fun ks hks=>⟨(hc ks hks).1,fun j k kk hj hk=> ?_,(hc ks hks).2.2⟩⟩⟩
 obtain⟨u,hu,g1,g2⟩:=(hc ks hks).2.1 j k kk hj hk
 exact⟨u,hu,fun ht=>Dp.mono (fun x hx hl=>⟨hZ x hx.1 hl,hx.2⟩) (fun x hx=>hw x hx.1) (g1 ht),fun ht=>Rd.mono hR hwR (g2 ht)⟩
def Elem(P:Program)(w:World)(R:Nat->Prop)(e:TypeId)(f:Nat->D)(v:Value):Prop:=
 ∀ks,kinds P e=some ks->v.cells.size=ks.length/\(isAggT P e=true->∃cs,v= .agg cs)/\(isAggT P e=false->v.cells= #[v])/\
  ∀j kk,ks[j]? =some kk->∃u,v.cells[j]? =some u/\Rd P w R (f j) kk u
def keyI:Value->Int
 | .int _ n=>n
 |_=>0
def mfirst(n:Int):List MapEntry->Nat->Option (Nat×Value)
 |[],_=>none
 |x::l,i=>if n=keyI x.key then some (i,x.val)else mfirst n l (i+1)
def mapAgree(P:Program)(w:World)(R:Nat->Prop)(e:TypeId)(s:Sl):Option (Nat×Value)->Option Nat->Prop
 |none,none=>True
 |some (_,v),some i=>Elem P w R e (fun j=>s.f i (j+1)) v
 |_,_=>False
def MapRel(P:Program)(w:World)(R:Nat->Prop)(ik:IntKind)(e:TypeId)(s:Sl)(es:Array MapEntry):Prop:=
 (∀x∈es.toList,∃n,x.key= .int ik n)/\∀n:Int,mapAgree P w R e s (mfirst n es.toList 0) (s.mfind n s.n)
def MapC(P:Program)(w:World)(R:Nat->Prop)(t:TypeId)(s:Sl)(b:Nat):Prop:=
 ∃es clock ik kt e,w.heap[b]? =some (.map es clock)/\P.underlying t=some (.map kt e)/\P.underlying kt=some (.int ik)/\MapRel P w R ik e s es
theorem Elem.mono{P:Program}{w w':World}{R R':Nat->Prop}{e:TypeId}{f:Nat->D}{v:Value}(h:Elem P w R e f v)(hR:∀b,R b->R' b)(hw:∀b,R b->w'.heap[b]? =w.heap[b]?):Elem P w' R' e f v:=fun ks hks=>by
 obtain⟨h1,h2,h3,h4⟩:=h ks hks
 exact⟨h1,h2,h3,fun j kk hj=>by
  obtain⟨u,hu,hr⟩:=h4 j kk hj
  exact⟨u,hu,hr.mono hR hw⟩⟩
theorem MapRel.mono{P:Program}{w w':World}{R R':Nat->Prop}{ik:IntKind}{e:TypeId}{s:Sl}{es:Array MapEntry}(h:MapRel P w R ik e s es)(hR:∀b,R b->R' b)(hw:∀b,R b->w'.heap[b]? =w.heap[b]?):MapRel P w' R' ik e s es:=by
 refine⟨h.1,fun n=> ?_⟩
 have:=h.2 n
 generalize mfirst n es.toList 0=a at this
 generalize s.mfind n s.n=b at this
 cases a with
 |none=>cases b<;>exact this
 |some x=>cases b with
  |none=>exact this
  |some i=>exact Elem.mono this hR hw
theorem MapC.mono{P:Program}{w w':World}{R R':Nat->Prop}{t:TypeId}{s:Sl}{b:Nat}(h:MapC P w R t s b)(hR:∀b,R b->R' b)(hw:∀b,R b->w'.heap[b]? =w.heap[b]?)(hb:w'.heap[b]? =w.heap[b]?):MapC P w' R' t s b:=by
 obtain⟨es,clock,ik,kt,e,h1,h2,h3,h4⟩:=h
 exact⟨es,clock,ik,kt,e,hb.trans h1,h2,h3,h4.mono hR hw⟩
theorem findNow_ints{ik:IntKind}{n:Int}:∀(l:List MapEntry)(i:Nat),(∀x∈l,∃m,x.key= .int ik m)->Instr.findNow (.int ik) (.int ik n) l i=some (mfirst n l i)
 |[],i,_=>rfl
 |x::l,i,h=>by
  obtain⟨m,hm⟩:=h x (by simp)
  have ih:=findNow_ints (n:=n) l (i+1) (fun y hy=>h y (by simp[hy]))
  unfold Instr.findNow mfirst
  have hs:Instr.sameNow (.int ik) (.int ik n) x.key=some (n==m):=by rw[hm];simp[Instr.sameNow]
  have hk:keyI x.key=m:=by rw[hm];rfl
  rw[hs,hk]
  by_cases e:n=m
  ·subst e;simp
  ·rw[beq_eq_false_iff_ne.2 e,if_neg e];exact ih
theorem mfirst_app{n:Int}{x:MapEntry}:∀(l:List MapEntry)(i:Nat),mfirst n (l++[x]) i=match mfirst n l i with
  |some r=>some r
  |none=>if n=keyI x.key then some (i+l.length,x.val)else none
 |[],i=>by simp[mfirst]
 | y::l,i=>by
  simp only[List.cons_append,mfirst]
  by_cases e:n=keyI y.key
  ·simp[e]
  ·simp only[if_neg e]
   rw[mfirst_app l (i+1)]
   rw[show i+1+l.length=i+(y::l).length by simp;omega]
theorem mfirst_some{n:Int}:∀(l:List MapEntry)(i j:Nat)(v:Value),mfirst n l i=some (j,v)->∃m x,j=i+m/\l[m]? =some x/\keyI x.key=n
 |[],i,j,v,h=>by simp[mfirst]at h
 | y::l,i,j,v,h=>by
  simp only[mfirst]at h
  by_cases e:n=keyI y.key
  ·simp only[if_pos e,Option.some.injEq,Prod.mk.injEq]at h
   exact⟨0,y,by omega,rfl,e.symm⟩
  ·simp only[if_neg e]at h
   obtain⟨m,x,h1,h2,h3⟩:=mfirst_some l (i+1) j v h
   exact⟨m+1,x,by omega,by simpa using h2,h3⟩
theorem mfirst_set{n n':Int}{y:MapEntry}(hy:keyI y.key=n):∀(l:List MapEntry)(i m:Nat)(v:Value),mfirst n l i=some (i+m,v)->
  mfirst n' (l.set m y) i=if n'=n then some (i+m,y.val)else mfirst n' l i
 |[],i,m,v,h=>by simp[mfirst]at h
 | z ::l,i,m,v,h=>by
  simp only[mfirst]at h
  by_cases e:n=keyI z.key
  ·simp only[if_pos e,Option.some.injEq,Prod.mk.injEq]at h
   have:m=0:=by omega
   subst this
   simp only[List.set_cons_zero,mfirst,hy]
   by_cases e2:n'=n
   ·simp[e2]
   ·simp only[if_neg e2]
    rw[<-e,if_neg e2]
  ·simp only[if_neg e]at h
   cases m with
   |zero=>
    obtain⟨m,x,h1,_⟩:=mfirst_some l (i+1) _ v h
    omega
   | succ m=>
    have ih:=mfirst_set (n':=n') hy l (i+1) m v (by rw[h];congr 2;omega)
    simp only[List.set_cons_succ,mfirst]
    rw[ih]
    by_cases e2:n'=n
    ·subst e2
     rw[if_neg e,if_pos rfl,if_pos rfl]
     congr 2;omega
    ·rw[if_neg e2,if_neg e2]
theorem mfind_congr{s s':Sl}{k:Int}:∀n,(∀i,i<n->s'.f i 0=s.f i 0)->s'.mfind k n=s.mfind k n
 |0,_=>rfl
 |n+1,h=>by
  unfold Sl.mfind
  rw[h n (Nat.lt_succ_self n),mfind_congr n fun i hi=>h i (Nat.lt_succ_of_lt hi)]
theorem mset_old{s:Sl}{k:Int}{cs:List D}{i j:Nat}(h:i<s.n):(s.mset k cs).f i j=s.f i j:=if_pos h
theorem mset_new{s:Sl}{k:Int}{cs:List D}{j:Nat}:(s.mset k cs).f s.n j=(D.int k::cs).getD j (.int 0):=if_neg (Nat.lt_irrefl _)
theorem mfind_lt{s:Sl}{k:Int}:∀{n i:Nat},s.mfind k n=some i->i<n
 |0,i,h=>by simp[Sl.mfind]at h
 |n+1,i,h=>by
  unfold Sl.mfind at h
  split at h
  ·cases h;exact Nat.lt_succ_self _
  ·exact Nat.lt_succ_of_lt (mfind_lt h)
theorem mfind_mset{s:Sl}{k k':Int}{cs:List D}:(s.mset k cs).mfind k' (s.mset k cs).n=if k'=k then some s.n else s.mfind k' s.n:=by
 show(if((s.mset k cs).f s.n 0).toI=k' then some s.n else(s.mset k cs).mfind k' s.n)=_
 have h0:(s.mset k cs).f s.n 0= .int k:=mset_new
 rw[h0]
 by_cases e:k'=k
 ·subst e;simp[D.toI]
 ·have e':¬(D.int k).toI=k':=fun h=>e h.symm
  rw[if_neg e',if_neg e]
  exact mfind_congr s.n fun i hi=>mset_old hi
def SlV(v:Value):Prop:=(∃a n c,v= .slice a n c)\/∃b,v= .map (some b)
def inB(i:Int)(n:Nat):Prop:=0<=i/\i<(n:Int)
def inV(lo n:Int)(len cap:Nat):Prop:=0<=lo/\0<=n/\lo+n<=(len:Int)/\len<=cap/\cap<=maxLen
def viewV(a:Option Addr)(lo n:Int)(cap sz:Nat):Value:= .slice (if cap=lo.toNat then a else a.map (·.add (lo.toNat*sz))) n.toNat (cap-lo.toNat)
mutual
def SVR(bl:List Nat)(vs:List Value):SV (sem T)->Value->Prop
 | .int k x,v=>v= .int k x/\k.min<=x/\x<=k.max
 | .blit b,v=>v= .bool b
 | .bool b,v=>v= .bool b.b
 | .str y,v=>v= .string y
 | .sl id,v=>vs[id]? =some v
 | .ptr i off,v=>∃b,bl[i]? =some b/\v= .pointer (some ⟨b,off,none⟩)
 | .eptr id sz i off,v=>∃a len cap,vs[id]? =some (.slice (some a) len cap)/\a.spot=none/\inB i len/\v= .pointer (some ⟨a.block,a.off+(Int.toNat i*sz+off),none⟩)
 | .view id sz lo n,v=>∃a len cap,vs[id]? =some (.slice a len cap)/\(∀ad,a=some ad->cap≠0->ad.spot=none)/\(a=none->cap=0)/\inV lo n len cap/\v=viewV a lo n cap sz
 | .bsl i n,v=>∃b,bl[i]? =some b/\v= .slice (some ⟨b,0,none⟩) n n
 | .fn f caps,v=>∃cs,v= .func (.func f) #[] cs/\SVRs bl vs caps cs.toList
 | .fnb f first,v=>∃cs,v= .func (.func f) cs #[]/\SVRs bl vs first cs.toList
 | .yld i,v=>∃b,bl[i]? =some b/\v= .func (.yield b) #[] #[]
 | .agg l,v=>∃cs,v= .agg cs/\SVRs bl vs l cs.toList
 | .tup l,v=>∃cs,v= .tuple cs/\SVRs bl vs l cs.toList
 | .con c,v=>v=c
 | .junk,_=>True
 | .glob g,v=>v= .pointer (some ⟨g,0,none⟩)
 | .gel g n i,v=>inB i n/\v= .pointer (some ⟨g,Int.toNat i,none⟩)
def SVRs(bl:List Nat)(vs:List Value):List (SV (sem T))->List Value->Prop
 |[],[]=>True
 |s::ss,v::l=>SVR bl vs s v/\SVRs bl vs ss l
 |_,_=>False
end
mutual
theorem SVR.mono{bl bl':List Nat}{vs vs':List Value}(hb:∀(i:Nat)(b:Nat),bl[i]? =some b->bl'[i]? =some b)(hv:∀(i:Nat)(b:Value),vs[i]? =some b->vs'[i]? =some b):
  ∀{s:SV (sem T)}{v:Value},SVR bl vs s v->SVR bl' vs' s v
 | .int _ _,_,h=>h
 | .blit _,_,h=>h
 | .bool _,_,h=>h
 | .str _,_,h=>h
 | .sl _,_,h=>hv _ _ h
 | .ptr _ _,_,⟨b,h,hh⟩=>⟨b,hb _ _ h,hh⟩
 | .eptr _ _ _ _,_,⟨a,l,c,h,hh⟩=>⟨a,l,c,hv _ _ h,hh⟩
 | .view _ _ _ _,_,⟨a,l,c,h,hh⟩=>⟨a,l,c,hv _ _ h,hh⟩
 | .bsl _ _,_,⟨b,h,hh⟩=>⟨b,hb _ _ h,hh⟩
 | .fn _ _,_,⟨cs,h,hh⟩=>⟨cs,h,SVRs.mono hb hv hh⟩
 | .fnb _ _,_,⟨cs,h,hh⟩=>⟨cs,h,SVRs.mono hb hv hh⟩
 | .yld _,_,⟨b,h,hh⟩=>⟨b,hb _ _ h,hh⟩
 | .agg _,_,⟨cs,h,hh⟩=>⟨cs,h,SVRs.mono hb hv hh⟩
 | .tup _,_,⟨cs,h,hh⟩=>⟨cs,h,SVRs.mono hb hv hh⟩
 | .con _,_,h=>h
 | .junk,_,_=>trivial
 | .glob _,_,h=>h
 | .gel _ _ _,_,h=>h
theorem SVRs.mono{bl bl':List Nat}{vs vs':List Value}(hb:∀(i:Nat)(b:Nat),bl[i]? =some b->bl'[i]? =some b)(hv:∀(i:Nat)(b:Value),vs[i]? =some b->vs'[i]? =some b):
  ∀{s:List (SV (sem T))}{v:List Value},SVRs bl vs s v->SVRs bl' vs' s v
 |[],[],_=>trivial
 |_::_,_::_,⟨h,hh⟩=>⟨SVR.mono hb hv h,SVRs.mono hb hv hh⟩
 |[],_::_,h=>h.elim
 |_::_,[],h=>h.elim
end
section
variable{bl:List Nat}{vs:List Value}
theorem SVRs.length:∀{s:List (SV (sem T))}{v:List Value},SVRs bl vs s v->s.length=v.length
 |[],[],_=>rfl
 |_::_,_::_,⟨_,h⟩=>congrArg (· +1) h.length
 |[],_::_,h=>h.elim
 |_::_,[],h=>h.elim
theorem SVRs.get:∀{s:List (SV (sem T))}{v:List Value},SVRs bl vs s v->∀{i:Nat}{x:SV (sem T)},s[i]? =some x->∃y,v[i]? =some y/\SVR bl vs x y
 |[],[],_,_,_,h=>by simp at h
 |_::_,_::_,⟨h1,h2⟩,0,_,h=>by simp at h;subst h;exact⟨_,rfl,h1⟩
 |_::_,_::_,⟨_,h2⟩,i+1,_,h=>by simpa using h2.get (i:=i) (by simpa using h)
 |[],_::_,h,_,_,_=>h.elim
 |_::_,[],h,_,_,_=>h.elim
theorem SVRs.append:∀{s s':List (SV (sem T))}{v v':List Value},SVRs bl vs s v->SVRs bl vs s' v'->SVRs bl vs (s++s') (v++v')
 |[],_,[],_,_,h=>h
 |_::_,_,_::_,_,⟨h1,h2⟩,h=>⟨h1,h2.append h⟩
 |[],_,_::_,_,h,_=>h.elim
 |_::_,_,[],_,h,_=>h.elim
theorem SVRs.drop:∀(n:Nat){s:List (SV (sem T))}{v:List Value},SVRs bl vs s v->SVRs bl vs (s.drop n) (v.drop n)
 |0,_,_,h=>by simpa using h
 |n+1,[],[],_=>by simp[SVRs]
 |n+1,_::_,_::_,⟨_,h⟩=>by simpa using h.drop n
 |_+1,[],_::_,h=>h.elim
 |_+1,_::_,[],h=>h.elim
theorem SVRs.take:∀(n:Nat){s:List (SV (sem T))}{v:List Value},SVRs bl vs s v->SVRs bl vs (s.take n) (v.take n)
 |0,_,_,h=>by simp[SVRs]
 |n+1,[],[],_=>by simp[SVRs]
 |n+1,_::_,_::_,⟨h1,h⟩=>by simpa[SVRs]using⟨h1,h.take n⟩
 |_+1,[],_::_,h=>h.elim
 |_+1,_::_,[],h=>h.elim
theorem SVRs.of_get:∀{s:List (SV (sem T))}{v:List Value},s.length=v.length->(∀(i:Nat)(x:SV (sem T))(y:Value),s[i]? =some x->v[i]? =some y->SVR bl vs x y)->SVRs bl vs s v
 |[],[],_,_=>trivial
 |_::_,_::_,hl,h=>⟨h 0 _ _ rfl rfl,SVRs.of_get (by simpa using hl) fun i x y hx hy=>h (i+1) x y (by simpa using hx) (by simpa using hy)⟩
 |[],_::_,hl,_=>by simp at hl
 |_::_,[],hl,_=>by simp at hl
mutual
theorem SVR.unique:∀{s:SV (sem T)}{u v:Value},s.clean=true->SVR bl vs s u->SVR bl vs s v->u=v
 | .int _ _,_,_,_,h,h'=>h.1.trans h'.1.symm
 | .blit _,_,_,_,h,h'=>h.trans h'.symm
 | .bool _,_,_,_,h,h'=>h.trans h'.symm
 | .str _,_,_,_,h,h'=>h.trans h'.symm
 | .sl _,_,_,_,h,h'=>Option.some.inj (h.symm.trans h')
 | .ptr _ _,_,_,_,⟨b,h,hh⟩,⟨b',h',hh'⟩=>by cases Option.some.inj (h.symm.trans h');exact hh.trans hh'.symm
 | .eptr _ _ _ _,_,_,_,⟨a,l,c,h,_,_,hh⟩,⟨a',l',c',h',_,_,hh'⟩=>by
  have:=Option.some.inj (h.symm.trans h');cases this;exact hh.trans hh'.symm
 | .view _ _ _ _,_,_,_,⟨a,l,c,h,_,_,_,hh⟩,⟨a',l',c',h',_,_,_,hh'⟩=>by
  have:=Option.some.inj (h.symm.trans h');cases this;exact hh.trans hh'.symm
 | .bsl _ _,_,_,_,⟨b,h,hh⟩,⟨b',h',hh'⟩=>by cases Option.some.inj (h.symm.trans h');exact hh.trans hh'.symm
 | .fn _ _,_,_,hc,⟨cs,h,hh⟩,⟨cs',h',hh'⟩=>by
  rw[h,h',Array.toList_inj.1 (SVRs.unique hc hh hh')]
 | .fnb _ _,_,_,hc,⟨cs,h,hh⟩,⟨cs',h',hh'⟩=>by
  rw[h,h',Array.toList_inj.1 (SVRs.unique hc hh hh')]
 | .yld _,_,_,_,⟨b,h,hh⟩,⟨b',h',hh'⟩=>by cases Option.some.inj (h.symm.trans h');exact hh.trans hh'.symm
 | .agg _,_,_,hc,⟨cs,h,hh⟩,⟨cs',h',hh'⟩=>by
  rw[h,h',Array.toList_inj.1 (SVRs.unique hc hh hh')]
 | .tup _,_,_,hc,⟨cs,h,hh⟩,⟨cs',h',hh'⟩=>by
  rw[h,h',Array.toList_inj.1 (SVRs.unique hc hh hh')]
 | .con _,_,_,_,h,h'=>h.trans h'.symm
 | .junk,_,_,hc,_,_=>by simp[SV.clean]at hc
 | .glob _,_,_,_,h,h'=>h.trans h'.symm
 | .gel _ _ _,_,_,_,h,h'=>h.2.trans h'.2.symm
theorem SVRs.unique:∀{s:List (SV (sem T))}{u v:List Value},SV.clean.cleans s=true->SVRs bl vs s u->SVRs bl vs s v->u=v
 |[],[],[],_,_,_=>rfl
 |_::_,_::_,_::_,hc,⟨h1,h2⟩,⟨h1',h2'⟩=>by
  simp only[SV.clean.cleans,Bool.and_eq_true]at hc
  rw[SVR.unique hc.1 h1 h1',SVRs.unique hc.2 h2 h2']
 |[],_::_,_,_,h,_=>h.elim
 |[],[],_::_,_,_,h=>h.elim
 |_::_,[],_,_,h,_=>h.elim
 |_::_,_::_,[],_,_,h=>h.elim
end
end
def EntOk(P:Program)(w:World)(R:Nat->Prop)(e:Ent (sem T))(v:Value):Prop:=
 (isM e.elem=false->Cont P w R e.elem e.s v)/\(isM e.elem=true->isL e.elem=false->e.own=true->∃b,v= .map (some b)/\MapC P w R (unM e.elem) e.s b)/\
 (mixOk P e=true->∃a cap,v= .slice a e.s.n cap/\e.s.n<=cap/\(a=none->cap=0)/\∀ad,a=some ad->0<cap->ad.spot=none)
def GlobOk(P:Program)(w:World):Prop:=∀g r,globOf P g=some r->∀(i:Nat)(x:Int),r.2[i]? =some x->w.cell? ⟨g,i,none⟩=some (.int r.1 x)
theorem GlobOk.below{P:Program}{w w':World}(h:GlobOk P w)(hb:Go.RowKit.Below w.heap.size w w'):GlobOk P w':=fun g r hg i x hx=>by
 have h1:=h g r hg i x hx
 have hlt:g<w.heap.size:=by
  unfold World.cell? at h1
  cases hh:w.heap[g]? with
  |none=>simp[hh]at h1
  |some o=>exact(Array.getElem?_eq_some_iff.1 hh).1
 rw[World.cell?_of_block (w:=w) (a:=⟨g,i,none⟩) (hb.block g hlt)]
 exact h1
structure Look(P:Program)(R:Nat->Prop)(bl:List Nat)(vs:List Value)(boxes:List (Box (sem T)))(ents:List (Ent (sem T)))(w:World):Prop where
 box:∀(i:Nat)(bx:Box (sem T)),boxes[i]? =some bx->bx.live=true->∃(b:Nat)(cs:Array Value),bl[i]? =some b/\w.heap[b]? =some (.cells cs bx.ty (0,0))/\SVRs bl vs bx.cells cs.toList
 ent:∀(i:Nat)(e:Ent (sem T)),ents[i]? =some e->e.live=true->∃v:Value,vs[i]? =some v/\EntOk P w R e v
 vsl:∀(i:Nat)(v:Value),vs[i]? =some v->SlV v
 glb:GlobOk P w
def TR(bl:List Nat)(vs:List Value)(tmps:List (SV (sem T)))(a:Act):Prop:=
 True/\SVRs bl vs tmps a.tmps.toList
end Go.Sx
namespace Go.Sx
open Go.RowKit (Below)
variable{T:FuncId->Pred}{P:Program}{R:Nat->Prop}{bl:List Nat}{vs:List Value}{w:World}
theorem wrap_in(k:IntKind)(x:Int):k.min<=k.wrap x/\k.wrap x<=k.max:=by
 cases k<;>simp[IntKind.wrap,IntKind.min,IntKind.max,IntKind.bits,IntKind.signed]<;>(try split)<;>omega
theorem wrap_id(k:IntKind)(x:Int)(h:k.min<=x/\x<=k.max):k.wrap x=x:=by
 cases k<;>simp[IntKind.wrap,IntKind.min,IntKind.max,IntKind.bits,IntKind.signed]at*<;>(try split)<;>omega
theorem ofConCell_sound(v:Value):SVR (T:=T) bl vs (ofConCell v) v:=by
 unfold ofConCell
 split
 ·split
  ·rename_i h;exact⟨rfl,h.1,h.2⟩
  ·trivial
 ·rfl
 ·rfl
 ·trivial
 ·trivial
 ·rfl
theorem ofConCells_sound:∀l:List Value,SVRs (T:=T) bl vs (l.map ofConCell) l
 |[]=>trivial
 |v::l=>⟨ofConCell_sound v,ofConCells_sound l⟩
theorem ofCon_sound(v:Value):SVR (T:=T) bl vs (ofCon v) v:=by
 unfold ofCon
 split
 ·exact⟨_,rfl,ofConCells_sound _⟩
 ·rename_i us
  split
  ·rename_i h
   have:us= #[]:=by simpa using h
   subst this;rfl
  ·trivial
 ·exact ofConCell_sound v
theorem ev_sound{st:St (sem T)}{a:Act}(ht:TR bl vs st.tmps a)(x:Operand):SVR bl vs (st.ev x) (a.eval x):=by
 cases x with
 | tmp t=>
  simp only[St.ev,Act.eval]
  rw[List.getD_eq_getElem?_getD,Array.getD_eq_getD_getElem?]
  cases h:st.tmps[t]? with
  |none=>exact trivial
  |some s=>
   obtain⟨y,hy,hh⟩:=ht.2.get h
   simp only[Array.getElem?_toList]at hy
   simp only[hy,Option.getD_some];exact hh
 |const v=>exact ofCon_sound v
 |global g=>rfl
 |func f=>exact⟨#[],rfl,trivial⟩
def PureOk(T:FuncId->Pred)(P:Program)(bl:List Nat)(vs:List Value)(w:World)(a:Act)(o:Oper)(p:Pu (sem T)):Prop:=
 ∃v,(execOp a.eval o).run P w= .ok (.value v) w/\SVR bl vs p.v v/\∀q∈p.gs,q
theorem ok_eq{v:SV (sem T)}{p:Pu (sem T)}(h:ok v=some p):p=⟨[],v,[]⟩:=by
 simp only[ok,Option.some.injEq]at h;exact h.symm
theorem intOp_sound{wr:Bool}{op:BinOp}{k:IntKind}{x y:Int}{t:TypeId}{p:Pu (sem T)}(h:intOp (A:=sem T) wr op k x y=some p)(hn:∀q∈p.ns,q)
  (_hx:k.min<=x/\x<=k.max):
  ∃v,(binOp op t (.int k x) (.int k y)).run P w= .ok v w/\SVR bl vs p.v v/\p.gs=[]:=by
 unfold intOp at h
 cases op<;>simp only at h
 case add=>
  split at h
  ·cases h
   simp only[List.mem_singleton,forall_eq,sem,arithS]at hn
   refine⟨.int k (x+y), ?_,⟨rfl,hn.1,hn.2⟩,rfl⟩
   simp[binOp,Op.intArith,wrap_id k _ hn]
  ·cases ok_eq h
   exact⟨.int k (k.wrap (x+y)),by simp[binOp,Op.intArith],⟨rfl,(wrap_in k _).1,(wrap_in k _).2⟩,rfl⟩
 case sub=>
  split at h
  ·cases h
   simp only[List.mem_singleton,forall_eq,sem,arithS]at hn
   refine⟨.int k (x-y), ?_,⟨rfl,hn.1,hn.2⟩,rfl⟩
   simp[binOp,Op.intArith,wrap_id k _ hn]
  ·cases ok_eq h
   exact⟨.int k (k.wrap (x-y)),by simp[binOp,Op.intArith],⟨rfl,(wrap_in k _).1,(wrap_in k _).2⟩,rfl⟩
 case mul=>
  split at h
  ·cases h
   simp only[List.mem_singleton,forall_eq,sem,arithS]at hn
   refine⟨.int k (x*y), ?_,⟨rfl,hn.1,hn.2⟩,rfl⟩
   simp[binOp,Op.intArith,wrap_id k _ hn]
  ·cases ok_eq h
   exact⟨.int k (k.wrap (x*y)),by simp[binOp,Op.intArith],⟨rfl,(wrap_in k _).1,(wrap_in k _).2⟩,rfl⟩
 case quo=>
  split at h
  ·cases h
   simp only[List.mem_cons,List.not_mem_nil,or_false,forall_eq_or_imp,forall_eq,sem,arithS]at hn
   obtain⟨h0,hn⟩:=hn
   refine⟨.int k (x.tdiv y), ?_,⟨rfl,hn.1,hn.2⟩,rfl⟩
   simp[binOp,Op.intDiv,h0,wrap_id k _ hn]
  ·cases h
   simp only[List.mem_singleton,forall_eq,sem]at hn
   exact⟨.int k (k.wrap (x.tdiv y)),by simp[binOp,Op.intDiv,hn],⟨rfl,(wrap_in k _).1,(wrap_in k _).2⟩,rfl⟩
 case rem=>
  split at h<;>
  ·cases h
   simp only[List.mem_cons,List.not_mem_nil,or_false,forall_eq_or_imp,forall_eq,sem,arithS]at hn
   obtain⟨h0,hn⟩:=hn
   refine⟨.int k (x.tmod y), ?_,⟨rfl,hn.1,hn.2⟩,rfl⟩
   simp[binOp,Op.intDiv,h0]
 case and=>cases ok_eq h;exact⟨.int k (k.wrap (arithS .and k x y)),by simp only[binOp,Op.intBits,ne_eq,not_true_eq_false,if_false];rfl,⟨rfl,(wrap_in k _).1,(wrap_in k _).2⟩,rfl⟩
 case or=>cases ok_eq h;exact⟨.int k (k.wrap (arithS .or k x y)),by simp only[binOp,Op.intBits,ne_eq,not_true_eq_false,if_false];rfl,⟨rfl,(wrap_in k _).1,(wrap_in k _).2⟩,rfl⟩
 case xor=>cases ok_eq h;exact⟨.int k (k.wrap (arithS .xor k x y)),by simp only[binOp,Op.intBits,ne_eq,not_true_eq_false,if_false];rfl,⟨rfl,(wrap_in k _).1,(wrap_in k _).2⟩,rfl⟩
 case andNot=>cases ok_eq h;exact⟨.int k (k.wrap (arithS .andNot k x y)),by simp only[binOp,Op.intBits,ne_eq,not_true_eq_false,if_false];rfl,⟨rfl,(wrap_in k _).1,(wrap_in k _).2⟩,rfl⟩
 case eql=>cases ok_eq h;exact⟨.bool (cmpS .eql x y).b,by simp[binOp,Op.intCmp,cmpS,PB.b]<;>first|rfl|(by_cases hxy:x=y<;>simp[hxy]),rfl,rfl⟩
 case neq=>cases ok_eq h;exact⟨.bool (cmpS .neq x y).b,by simp[binOp,Op.intCmp,cmpS,PB.b]<;>first|rfl|(by_cases hxy:x=y<;>simp[hxy]),rfl,rfl⟩
 case lss=>cases ok_eq h;exact⟨.bool (cmpS .lss x y).b,by simp[binOp,Op.intCmp,cmpS,PB.b]<;>first|rfl|(by_cases hxy:x=y<;>simp[hxy]),rfl,rfl⟩
 case leq=>cases ok_eq h;exact⟨.bool (cmpS .leq x y).b,by simp[binOp,Op.intCmp,cmpS,PB.b]<;>first|rfl|(by_cases hxy:x=y<;>simp[hxy]),rfl,rfl⟩
 case gtr=>cases ok_eq h;exact⟨.bool (cmpS .gtr x y).b,by simp[binOp,Op.intCmp,cmpS,PB.b]<;>first|rfl|(by_cases hxy:x=y<;>simp[hxy]),rfl,rfl⟩
 case geq=>cases ok_eq h;exact⟨.bool (cmpS .geq x y).b,by simp[binOp,Op.intCmp,cmpS,PB.b]<;>first|rfl|(by_cases hxy:x=y<;>simp[hxy]),rfl,rfl⟩
 all_goals cases h
theorem shiftOp_sound{op:BinOp}{k yk:IntKind}{x y:Int}{t:TypeId}{p:Pu (sem T)}(h:shiftOp (A:=sem T) op k x y=some p)(hn:∀q∈p.ns,q):
  ∃v,(binOp op t (.int k x) (.int yk y)).run P w= .ok v w/\SVR bl vs p.v v/\p.gs=[]:=by
 unfold shiftOp at h
 cases op<;>simp only at h
 case shl=>
  cases h
  simp only[List.mem_singleton,forall_eq,sem]at hn
  refine⟨_, ?_,⟨rfl,(wrap_in k _).1,(wrap_in k _).2⟩,rfl⟩
  simp only[binOp,Op.shift,show¬y<0 by omega,if_false,Sem.run_pure];rfl
 case shr=>
  cases h
  simp only[List.mem_cons,List.not_mem_nil,or_false,forall_eq_or_imp,forall_eq,sem,arithS]at hn
  obtain⟨h0,hn⟩:=hn
  refine⟨_, ?_,⟨rfl,hn.1,hn.2⟩,rfl⟩
  simp only[binOp,Op.shift,show¬y<0 by omega,if_false,Sem.run_pure];rfl
 all_goals cases h
def Alike:Bool->Value->Value->Prop
 |true,u,v=>∃k m n,u= .int k m/\v= .int k n
 |false,u,v=>∃x y,u= .bool x/\v= .bool y
def Alikes:List Bool->List Value->List Value->Prop
 |[],[],[]=>True
 |k::ks,u::us,v::vs=>Alike k u v/\Alikes ks us vs
 |_,_,_=>False
theorem asB_sound{x:SV (sem T)}{b:PB}(h:asB x=some b){u:Value}(hu:SVR bl vs x u):u= .bool b.b/\isI x=false:=by
 unfold asB at h
 split at h
 ·cases h
  refine⟨?_,rfl⟩
  rename_i c
  have:u= .bool c:=hu
  rw[this];cases c<;>simp[PB.b,sem]
 ·cases h;exact⟨hu,rfl⟩
 ·cases h
theorem eqCell_inv{x y:SV (sem T)}{b:PB}(h:eqCell x y=some b){u v:Value}(hu:SVR bl vs x u)(hv:SVR bl vs y v):Alike (isI x) u v/\(b.p↔u=v):=by
 unfold eqCell at h
 split at h
 ·split at h
  ·rename_i k x k' y hk
   have:k=k':=by simpa using hk
   subst this
   cases h
   rw[hu.1,hv.1]
   exact⟨⟨k,x,y,rfl,rfl⟩,by show x=y↔_;simp⟩
  ·cases h
 ·split at h
  ·rename_i X Y hX hY
   cases h
   obtain⟨rfl,i⟩:=asB_sound hX hu
   obtain⟨rfl,_⟩:=asB_sound hY hv
   rw[i]
   refine⟨⟨_,_,rfl,rfl⟩, ?_⟩
   show(X.p↔Y.p)↔Value.bool X.b= .bool Y.b
   obtain⟨xp,xd⟩:=X
   obtain⟨yp,yd⟩:=Y
   simp only[PB.b,Value.bool.injEq]
   by_cases h1:xp<;>by_cases h2:yp<;>simp[h1,h2]
  ·cases h
theorem eqCells_sound:∀{xs ys:List (SV (sem T))}{b:PB},eqCells xs ys=some b->∀{us us':List Value},SVRs bl vs xs us->SVRs bl vs ys us'->
  Alikes (xs.map isI) us us'/\(b.p↔us=us')
 | [],[],b,h,us,us',h1,h2=>by
  cases us with
  |nil=>cases us' with
   |nil=>simp only[eqCells,sem,Option.some.injEq]at h;subst h;exact⟨trivial,by simp⟩
   |cons=>exact h2.elim
  |cons=>exact h1.elim
 | [x],[y],b,h,us,us',h1,h2=>by
  match us,us',h1,h2 with
  |[u],[v],h1,h2=>
   obtain⟨h,g⟩:=eqCell_inv (by simpa[eqCells]using h) h1.1 h2.1
   exact⟨⟨h,trivial⟩,by rw[g];simp⟩
  |[],_,h1,_=>exact h1.elim
  |_,[],_,h2=>exact h2.elim
  |_::_::_,_,h1,_=>exact h1.2.elim
  |_,_::_::_,_,h2=>exact h2.2.elim
 | x::x'::xs,y::ys,b,h,us,us',h1,h2=>by
  match us,us',h1,h2 with
  | u::us,v::us',h1,h2=>
   simp only[eqCells]at h
   split at h
   ·rename_i b1 c1 hb hc
    cases h
    obtain⟨ha,g⟩:=eqCell_inv hb h1.1 h2.1
    obtain⟨hl,hp⟩:=eqCells_sound hc h1.2 h2.2
    refine⟨⟨ha,hl⟩, ?_⟩
    show b1.p/\c1.p↔_
    rw[g,hp,List.cons.injEq]
   ·cases h
  |[],_,h1,_=>exact h1.elim
  |_,[],_,h2=>exact h2.elim
 |[],_::_,b,h,_,_,_,_=>by simp[eqCells]at h
 |_::_,[],b,h,_,_,_,_=>by simp[eqCells]at h
 |[x],y::y'::ys,b,h,us,us',h1,h2=>by
  simp only[eqCells]at h
  split at h
  ·rename_i hb hc;simp at hc
  ·cases h
section
variable{st:St (sem T)}{a:Act}{o:Oper}{p:Pu (sem T)}
theorem pok{v:Value}{sv:SV (sem T)}(hr:(execOp a.eval o).run P w= .ok (.value v) w)(hs:SVR bl vs sv v)(h:ok sv=some p):PureOk T P bl vs w a o p:=by
 cases ok_eq h
 exact⟨v,hr,hs,by simp⟩
theorem pure_move(ht:TR bl vs st.tmps a){x:Operand}(ho:o.op= .move x\/o.op= .assign x)
  (h:pMove st x=some p):PureOk T P bl vs w a o p:=by
 unfold pMove at h
 have he:=ev_sound ht x
 have hr:(execOp a.eval o).run P w= .ok (.value (a.eval x)) w:=by
  rcases ho with ho|ho<;>simp[execOp,ho]
 split at h
 ·cases h
 ·exact pok hr he h
theorem pure_pick(ht:TR bl vs st.tmps a){c x y:Operand}(ho:o.op= .pick c x y)
  (h:pPick st c x y=some p):PureOk T P bl vs w a o p:=by
 unfold pPick at h
 have hc:=ev_sound ht c
 have hx:=ev_sound ht x
 have hy:=ev_sound ht y
 split at h
 ·rename_i hcc
  rw[hcc]at hc
  have hc':a.eval c= .bool true:=hc
  split at h
  ·cases h
  ·exact pok (by simp[execOp,ho,hc',asBool]) hx h
 ·rename_i hcc
  rw[hcc]at hc
  have hc':a.eval c= .bool false:=hc
  split at h
  ·cases h
  ·exact pok (by simp[execOp,ho,hc',asBool]) hy h
 ·cases h
theorem fieldOff_inv{t:TypeId}{f off:Nat}{ft:TypeId}(h:fieldOff P t f=some (off,ft)):
  ∃fs fd i,P.underlying t=some (.struct fs)/\fs[f]? =some fd/\fd.offset=off/\fd.type=ft/\P.info? ft=some i/\i.size≠0:=by
 unfold fieldOff at h
 split at h
 ·rename_i fs hu
  split at h
  ·rename_i fd hf
   split at h
   ·rename_i n hs
    split at h
    ·cases h
    ·rename_i hn
     cases h
     unfold sizeT at hs
     obtain⟨i,hi,rfl⟩:=Option.map_eq_some_iff.1 hs
     exact⟨fs,fd,i,hu,hf,rfl,rfl,hi,by simpa using hn⟩
   ·cases h
  ·cases h
 ·cases h
theorem run_sizeOf'{t:TypeId}{i:TypeInfo}(hi:P.info? t=some i):(sizeOf t).run P w= .ok i.size w:=by simp[sizeOf,typeInfo,hi]
theorem run_fieldAt'{t:TypeId}{f off:Nat}{ft:TypeId}(h:fieldOff P t f=some (off,ft))(b o':Nat):
  (Instr.fieldAt t (.pointer (some ⟨b,o',none⟩)) f).run P w= .ok (.pointer (some ⟨b,o'+off,none⟩)) w:=by
 obtain⟨fs,fd,i,hu,hf,rfl,rfl,hi,hn⟩:=fieldOff_inv h
 simp only[Instr.fieldAt,Sem.run_bind,run_underlying hu,Result.andThen_ok,hf,Instr.sureAddr,Sem.run_pure,fieldPlace,run_sizeOf' hi,Sem.run_ite,if_neg hn,Addr.add_lit]
theorem pure_fieldAddr(ht:TR bl vs st.tmps a){t:TypeId}{x:Operand}{f:Nat}(ho:o.op= .fieldAddr t x f)
  (h:pFieldAddr P st t x f=some p):PureOk T P bl vs w a o p:=by
 unfold pFieldAddr at h
 have hx:=ev_sound ht x
 split at h
 ·rename_i off ft b o' hf hxx
  rw[hxx]at hx
  obtain⟨b',hb,hv⟩:=hx
  refine pok (v:= .pointer (some ⟨b',o'+off,none⟩)) (sv:= .ptr b (o'+off)) ?_ ⟨b',hb,rfl⟩ h
  simp only[execOp,ho,hv,Sem.run_bind,run_fieldAt' hf,Result.andThen_ok,Sem.run_pure]
 ·rename_i off ft id sz i o' hf hxx
  rw[hxx]at hx
  obtain⟨ad,len,cap,h1,h2,h3,hv⟩:=hx
  refine pok (v:= .pointer (some ⟨ad.block,ad.off+(Int.toNat i*sz+(o'+off)),none⟩)) (sv:= .eptr id sz i (o'+off)) ?_ ⟨ad,len,cap,h1,h2,h3,rfl⟩ h
  simp only[execOp,ho,hv,Sem.run_bind,run_fieldAt' hf,Result.andThen_ok,Sem.run_pure]
  simp only[Nat.add_assoc]
 ·cases h
theorem isAgg_run(t:TypeId){d:TypeDesc}(hu:P.underlying t=some d):(isAgg t).run P w= .ok (isAggT P t) w:=by
 unfold isAgg isAggT
 simp only[Sem.run_bind,run_underlying hu,Result.andThen_ok,hu]
 cases d<;>rfl
theorem pack_inv{t:TypeId}{l:List (SV (sem T))}{v:SV (sem T)}(h:pack P t l=some v):
  (isAggT P t=true/\v= .agg l)\/(isAggT P t=false/\l=[v]):=by
 unfold pack at h
 split at h
 ·rename_i hp;cases h;exact .inl ⟨hp,rfl⟩
 ·rename_i hp
  split at h
  ·cases h;exact .inr ⟨by simpa using hp,rfl⟩
  ·cases h
theorem run_loadVar'{t:TypeId}{n:Nat}(hs:sizeT P t=some n){b off:Nat}{vals:List Value}(hlen:vals.length=n)
  (hc:∀j u,vals[j]? =some u->w.cell? ⟨b,off+j,none⟩=some u) {l:List (SV (sem T))} {v:SV (sem T)} (hp:pack P t l=some v) (hl:SVRs bl vs l vals)
  (hu:(P.underlying t).isSome=true):∃u,(loadVar t ⟨b,off,none⟩).run P w= .ok u w/\SVR bl vs v u:=by
 obtain⟨d,hd⟩:=Option.isSome_iff_exists.1 hu
 unfold sizeT at hs
 obtain⟨i,hi,rfl⟩:=Option.map_eq_some_iff.1 hs
 rcases pack_inv hp with⟨ha,rfl⟩|⟨ha,rfl⟩
 ·refine⟨.agg vals.toArray, ?_,⟨_,rfl,by simpa using hl⟩⟩
  have hr:=run_loadCells_list (P:=P) (w:=w) ⟨b,off,none⟩ vals (fun j u hj=>by rw[Addr.add_lit];exact hc j u hj)
  rw[hlen]at hr
  simp only[loadVar,Sem.run_bind,isAgg_run t hd,Result.andThen_ok,ha,if_true,run_sizeOf' hi,hr,Sem.run_pure]
 ·match vals,hl with
  |[u],hl=>
   refine⟨u, ?_,hl.1⟩
   have:=hc 0 u rfl
   simp only[Nat.add_zero]at this
   simp only[loadVar,Sem.run_bind,isAgg_run t hd,Result.andThen_ok,ha,Bool.false_eq_true,if_false,run_load,this]
  |[],hl=>exact hl.elim
  |_::_::_,hl=>exact hl.2.elim
theorem rg_den{b:Bool}{p:Prop}{t:Tree (sem T)}(h:(if b then Tree.given (A:=sem T) p t else t).den)(hp:p):t.den:=by
 cases b with
 |false=>exact h
 |true=>exact h hp
theorem rg_den'{b:Bool}{p:Prop}{t:Tree (sem T)}(h:(if b then Tree.given (A:=sem T) p t else t).den)(hp:b=true->p):t.den:=by
 cases b with
 |false=>exact h
 |true=>exact h (hp rfl)
theorem int_of_rd{s:Sl}{i:Int}{j:Nat}{k:IntKind}{u:Value}(h:Rd P w R (s.f i.toNat j) (.int k) u):Rng k (Sl.int s i j):=by
 unfold Sl.int
 cases hd:s.f i.toNat j with
 |int n=>rw[hd]at h;obtain⟨ik,hk,hv,h3,h4⟩:=h;cases hk;exact⟨h3,h4⟩
 |bool b=>rw[hd]at h;exact absurd h.1 (by simp)
 |str b=>rw[hd]at h;exact absurd h.1 (by simp)
 |sl n g=>rw[hd]at h;obtain⟨e,_,_,hk,_⟩:=h;cases hk
theorem ranged_of{e:TypeId}{s:Sl}(h:∀(ks:List K)(i j:Nat)(kk:K),kinds P e=some ks->i<s.n->ks[j]? =some kk->∃u,Rd P w R (s.f i j) kk u):Ranged s (rks P e):=by
 intro i j k h0 h1 hj
 unfold rks at hj
 split at hj
 ·rename_i ks hks
  rw[List.getElem?_map]at hj
  cases hkk:ks[j]? with
  |none=>rw[hkk]at hj;cases hj
  | some kk=>
   rw[hkk]at hj
   cases kk with
   |int k'=>
    simp only[Option.map_some,Option.some.injEq]at hj
    subst hj
    obtain⟨u,hu⟩:=h ks i.toNat j _ hks (by omega) hkk
    exact int_of_rd hu
   |_=>simp at hj
 ·simp at hj
theorem ranged_rd{e:TypeId}{s:Sl}{v:Value}(h:Rd P w R (.sl s.n s.f) (.sl e) v):Ranged s (rks P e):=by
 obtain⟨e',a,cap,hk,_,_,_,_,hc⟩:=h
 cases hk
 exact ranged_of fun ks i j kk hks hi hj=>by
  obtain⟨_,u,_,_,_,_,hu⟩:=hc ks i j kk hks hi hj
  exact⟨u,hu⟩
theorem elemCells_sound{rg:Bool}{s:Sl}{i:Int}{f:Nat->Value}:∀{ks:List K}{j:Nat}{l:List (SV (sem T))},elemCells (A:=sem T) s i ks j=some l->
  (∀n kk,ks[n]? =some kk->Rd P w R (s.f i.toNat (j+n)) kk (f (j+n)))->
  SVRs bl vs l ((List.range' j ks.length).map f)/\∀q∈elemGivens (A:=sem T) P rg s i ks j,q
 |[],j,l,h,_=>by simp only[elemCells,Option.some.injEq]at h;subst h;exact⟨trivial,by simp[elemGivens]⟩
 | .int k::ks,j,l,h,hf=>by
  simp only[elemCells,Option.map_eq_some_iff]at h
  obtain⟨l',hl',rfl⟩:=h
  obtain⟨h1,h2⟩:=elemCells_sound hl' (fun n kk hn=>by have:=hf (n+1) kk (by simpa using hn);rw[show j+1+n=j+(n+1) by omega];exact this)
  have h0:=hf 0 _ rfl
  simp only[Nat.add_zero]at h0
  have hd:s.f i.toNat j= .int (Sl.int s i j)/\f j= .int k (Sl.int s i j)/\k.min<=Sl.int s i j/\Sl.int s i j<=k.max:=by
   unfold Sl.int
   cases hd:s.f i.toNat j with
   |int n=>rw[hd]at h0;obtain⟨ik,hk,hv,h3,h4⟩:=h0;cases hk;exact⟨rfl,hv,h3,h4⟩
   |bool b=>rw[hd]at h0;exact absurd h0.1 (by simp)
   |str b=>rw[hd]at h0;exact absurd h0.1 (by simp)
   |sl n g=>rw[hd]at h0;obtain⟨e,_,_,hk,_⟩:=h0;cases hk
  refine⟨?_, ?_⟩
  ·simp only[List.length_cons,List.range'_succ,List.map_cons]
   exact⟨⟨hd.2.1,hd.2.2⟩,h1⟩
  ·intro q hq
   simp only[elemGivens,List.mem_cons]at hq
   rcases hq with hq|hq
   ·rw[hq];exact hd.2.2
   ·exact h2 q hq
 | .bool::ks,j,l,h,hf=>by
  simp only[elemCells,Option.map_eq_some_iff]at h
  obtain⟨l',hl',rfl⟩:=h
  obtain⟨h1,h2⟩:=elemCells_sound hl' (fun n kk hn=>by have:=hf (n+1) kk (by simpa using hn);rw[show j+1+n=j+(n+1) by omega];exact this)
  have h0:=hf 0 _ rfl
  simp only[Nat.add_zero]at h0
  have hd:f j= .bool (Sl.bool s i j):=by
   unfold Sl.bool
   cases hd:s.f i.toNat j with
   |int n=>rw[hd]at h0;obtain⟨ik,hk,_⟩:=h0;cases hk
   |bool b=>rw[hd]at h0;exact h0.2
   |str b=>rw[hd]at h0;exact absurd h0.1 (by simp)
   |sl n g=>rw[hd]at h0;obtain⟨e,_,_,hk,_⟩:=h0;cases hk
  refine⟨?_, ?_⟩
  ·simp only[List.length_cons,List.range'_succ,List.map_cons]
   refine⟨?_,h1⟩
   rw[hd];simp[SVR,PB.b]
  ·intro q hq
   simp only[elemGivens]at hq
   exact h2 q hq
 | .str::ks,j,l,h,hf=>by
  simp only[elemCells,Option.map_eq_some_iff]at h
  obtain⟨l',hl',rfl⟩:=h
  obtain⟨h1,h2⟩:=elemCells_sound hl' (fun n kk hn=>by have:=hf (n+1) kk (by simpa using hn);rw[show j+1+n=j+(n+1) by omega];exact this)
  have h0:=hf 0 _ rfl
  simp only[Nat.add_zero]at h0
  have hd:f j= .string (Sl.str s i j):=by
   unfold Sl.str
   cases hd:s.f i.toNat j with
   |int n=>rw[hd]at h0;obtain⟨ik,hk,_⟩:=h0;cases hk
   |bool b=>rw[hd]at h0;exact absurd h0.1 (by simp)
   |str b=>rw[hd]at h0;exact h0.2
   |sl n g=>rw[hd]at h0;obtain⟨e,_,_,hk,_⟩:=h0;cases hk
  refine⟨?_, ?_⟩
  ·simp only[List.length_cons,List.range'_succ,List.map_cons]
   exact⟨hd,h1⟩
  ·intro q hq
   simp only[elemGivens]at hq
   exact h2 q hq
 | .sl _::_,_,_,h,_=>by simp[elemCells]at h
theorem range'_get{s n j m:Nat}(h:(List.range' s n)[j]? =some m):j<n/\m=s+j:=by
 rcases Nat.lt_or_ge j n with hlt|hge
 ·rw[List.getElem?_range' (by omega)]at h
  simp at h
  exact⟨hlt,h.symm⟩
 ·rw[List.getElem?_eq_none (by simp;omega)]at h
  cases h
theorem kindsF_under{n:Nat}{t:TypeId}{l:List K}(h:kindsF P n t=some l):(P.underlying t).isSome=true:=by
 cases n with
 |zero=>simp[kindsF]at h
 |succ n=>
  unfold kindsF at h
  cases hu:P.underlying t with
  |none=>simp[hu]at h
  |some d=>rfl
theorem kinds_inv{t:TypeId}{l:List K}(h:kinds P t=some l):∃i,P.info? t=some i/\i.size=l.length/\(P.underlying t).isSome=true:=by
 unfold kinds at h
 split at h
 ·rename_i l' i hk hi
  split at h
  ·rename_i hs
   cases h
   exact⟨i,hi,by simpa using hs,kindsF_under hk⟩
  ·cases h
 ·cases h
theorem pure_loadGlob(hl:Look P R bl vs st.boxes st.ents w)(ht:TR bl vs st.tmps a){t:TypeId}{x:Operand}(ho:o.op= .load t x)
  (h:pLoadGlob P st t x=some p):PureOk T P bl vs w a o p:=by
 unfold pLoadGlob at h
 have hx:=ev_sound ht x
 split at h
 ·rename_i k g n i hu hxx hs
  rw[hxx]at hx
  obtain⟨i',rfl⟩:∃i':Int,i'=i:=⟨i,rfl⟩
  obtain⟨⟨h0,h1⟩,hv⟩:=hx
  split at h
  ·rename_i r hr
   split at h
   ·rename_i hc
    simp only[Bool.and_eq_true,beq_iff_eq]at hc
    obtain⟨rfl,hlen,hall⟩:=hc
    have hlt:i'.toNat<r.2.length:=by omega
    have hget:r.2[i'.toNat]? =some (r.2[i'.toNat]'hlt):=List.getElem?_eq_getElem hlt
    have hcell:=hl.glb g r hr _ _ hget
    have hrange:=List.all_eq_true.1 hall _ (List.getElem_mem hlt)
    simp only[Bool.and_eq_true,decide_eq_true_eq]at hrange
    have hval:Sl.int (Sl.lit ((r.2.map fun x=>[Cl.int (I:=Int) (B:=PB) (Y:=ByteArray) (S:=Sl) x]).map fun cs=>cs.map Cl.toD)) i' 0=r.2[i'.toNat]'hlt:=by
     unfold Sl.int Sl.lit
     simp only[List.map_map,List.getD_eq_getElem?_getD,List.getElem?_map,hget,Option.map_some,Option.getD_some,Function.comp]
     rfl
    have hu':(P.underlying t).isSome=true:=by rw[hu];rfl
    obtain⟨u,hrun,hsv⟩:=run_loadVar' (T:=T) (P:=P) (w:=w) (bl:=bl) (vs:=vs) hs (b:=g) (off:=i'.toNat) (vals:=[.int r.1 (r.2[i'.toNat]'hlt)]) rfl (fun j u hj=>by
     cases j with
     |zero=>simp at hj;subst hj;exact hcell
     |succ j=>simp at hj) (l:=[.int r.1 (r.2[i'.toNat]'hlt)]) (v:= .int r.1 (r.2[i'.toNat]'hlt)) (by simp[pack,isAggT,hu]) ⟨⟨rfl,hrange⟩,trivial⟩ hu'
    have h1:r.1.min<=Sl.int (Sl.lit ((r.2.map fun x=>[Cl.int (I:=Int) (B:=PB) (Y:=ByteArray) (S:=Sl) x]).map fun cs=>cs.map Cl.toD)) i' 0/\Sl.int (Sl.lit ((r.2.map fun x=>[Cl.int (I:=Int) (B:=PB) (Y:=ByteArray) (S:=Sl) x]).map fun cs=>cs.map Cl.toD)) i' 0<=r.1.max:=by rw[hval];exact hrange
    have e1:u= .int r.1 (Sl.int (Sl.lit ((r.2.map fun x=>[Cl.int (I:=Int) (B:=PB) (Y:=ByteArray) (S:=Sl) x]).map fun cs=>cs.map Cl.toD)) i' 0):=by
     have hsv:u= .int r.1 (r.2[i'.toNat]'hlt)/\(r.1.min<=(r.2[i'.toNat]'hlt)/\(r.2[i'.toNat]'hlt)<=r.1.max):=hsv
     rw[hsv.1,hval]
    rw[<-Option.some.inj h]
    refine⟨u, ?_,And.intro e1 h1, ?_⟩
    ·simp only[execOp,ho,hv,Instr.loadAt,Instr.sureAddr,Sem.run_bind,Sem.run_pure,Result.andThen_ok,hrun]
    ·intro q hq
     rcases List.mem_cons.1 hq with hq|hq
     ·rw[hq];exact h1
     ·cases hq
   ·cases h
  ·cases h
 ·cases h
theorem pure_load(hl:Look P R bl vs st.boxes st.ents w)(ht:TR bl vs st.tmps a){t:TypeId}{x:Operand}(ho:o.op= .load t x)
  (h:pLoad P st t x=some p):PureOk T P bl vs w a o p:=by
 unfold pLoad at h
 split at h
 ·cases h
 rename_i hu
 have hu:(P.underlying t).isSome=true:=by
  cases hh:P.underlying t with
  |none=>simp[hh]at hu
  |some d=>rfl
 have hx:=ev_sound ht x
 split at h
 ·rename_i b off n hxx hs
  rw[hxx]at hx
  obtain⟨b',hb,hv⟩:=hx
  split at h
  ·rename_i bx hbx
   split at h
   ·rename_i hc
    simp only[Bool.and_eq_true,decide_eq_true_eq]at hc
    obtain⟨⟨hlive,hoff⟩,_⟩:=hc
    obtain⟨sv,hp,hok⟩:=Option.bind_eq_some_iff.1 h
    obtain⟨b2,cs,hb2,hcs,hr⟩:=hl.box b bx hbx hlive
    rw[hb]at hb2;cases hb2
    have hlen:=hr.length
    obtain⟨u,hrun,hsv⟩:=run_loadVar' (P:=P) (w:=w) (bl:=bl) (vs:=vs) hs (b:=b') (off:=off) (vals:=(cs.toList.drop off).take n) (by simp;simp at hlen;omega) (fun j u hj=>by
     simp only[World.cell?,hcs]
     have:cs[off+j]? =some u:=by
      rw[List.getElem?_take]at hj
      split at hj
      ·rw[List.getElem?_drop]at hj;simpa using hj
      ·cases hj
     simpa using this) hp ((hr.drop off).take n) hu
    refine pok (v:=u) ?_ hsv hok
    simp only[execOp,ho,hv,Instr.loadAt,Instr.sureAddr,Sem.run_bind,Sem.run_pure,Result.andThen_ok,hrun]
   ·cases h
  ·cases h
 ·rename_i id sz i off ksT n hxx hkT hs
  rw[hxx]at hx
  obtain⟨i',rfl⟩:∃i':Int,i'=i:=⟨i,rfl⟩
  obtain⟨ad,len,cap,h1,h2,⟨h3,h4⟩,hv⟩:=hx
  split at h
  ·rename_i en hen
   split at h
   ·rename_i hlive
    simp only[Bool.and_eq_true,Bool.not_eq_true']at hlive
    obtain⟨hlive,hm⟩:=hlive
    split at h
    ·rename_i ks hks
     split at h
     ·rename_i hc
      simp only[Bool.and_eq_true,decide_eq_true_eq,beq_iff_eq]at hc
      obtain⟨hoff,rfl⟩:=hc
      split at h
      ·rename_i l hel
       split at h
       ·rename_i sv hp
        cases h
        obtain⟨v0,hv0,hcc⟩:=hl.ent id en hen hlive
        obtain⟨a0,cap0,he0,hn1,hn2,ha0,hcells⟩:=hcc.1 hm
        rw[h1]at hv0;cases hv0
        cases he0
        have hi:i'.toNat<en.s.n:=by omega
        have hcell:∀j kk,ks[j]? =some kk->∃u,w.cell? ⟨ad.block,ad.off+(i'.toNat*ks.length+j),none⟩=some u/\Rd P w R (en.s.f i'.toNat j) kk u:=fun j kk hj=>by
         obtain⟨ad',u,hA,hB,hC,hD⟩:=hcells ks i'.toNat j kk hks hi hj
         cases hA
         exact⟨u,hC,hD⟩
        have hsound:=elemCells_sound (rg:=st.rg) (T:=T) (P:=P) (w:=w) (R:=R) (bl:=bl) (vs:=vs) (s:=en.s) (i:=i') (f:=fun j=>(w.cell? ⟨ad.block,ad.off+(i'.toNat*ks.length+j),none⟩).getD undef) hel (fun m kk hm=>by
         rw[List.getElem?_take]at hm
         split at hm
         ·rw[List.getElem?_drop]at hm
          obtain⟨u,hu1,hu2⟩:=hcell (off+m) kk hm
          simp only[hu1,Option.getD_some];exact hu2
         ·cases hm)
        obtain⟨u,hrun,hsv⟩:=run_loadVar' (P:=P) (w:=w) (bl:=bl) (vs:=vs) hs (b:=ad.block) (off:=ad.off+(i'.toNat*ks.length+off)) (vals:=(List.range' off ((ks.drop off).take n).length).map fun j=>(w.cell? ⟨ad.block,ad.off+(i'.toNat*ks.length+j),none⟩).getD undef) (by simp;omega) (fun j u hj=>by
         simp only[List.getElem?_map,Option.map_eq_some_iff]at hj
         obtain⟨m,hm,rfl⟩:=hj
         obtain⟨hlt,rfl⟩:=range'_get hm
         simp only[List.length_take,List.length_drop]at hlt
         obtain⟨kk,hkk⟩:∃kk,ks[off+j]? =some kk:=⟨ks[off+j]'(by omega),by simp⟩
         obtain⟨u,hu1,_⟩:=hcell (off+j) kk hkk
         rw[show ad.off+(i'.toNat*ks.length+off)+j=ad.off+(i'.toNat*ks.length+(off+j)) by omega]
         simp only[hu1,Option.getD_some]) hp hsound.1 hu
        refine⟨u, ?_,hsv,hsound.2⟩
        simp only[execOp,ho,hv,Instr.loadAt,Instr.sureAddr,Sem.run_bind,Sem.run_pure,Result.andThen_ok,hrun]
       ·cases h
      ·cases h
     ·cases h
    ·cases h
   ·cases h
  ·cases h
 ·exact pure_loadGlob hl ht ho h
theorem elem_inv{t e:TypeId}(h:elemOf? P t=some e):P.underlying t=some (.slice e):=by
 unfold elemOf? at h
 split at h
 ·rename_i e' hu;cases h;exact hu
 ·cases h
theorem addr_plus{b off:Nat}(n:Nat):(⟨b,off,none⟩:Addr).add n=⟨b,off+n,none⟩:=by
 simp[Addr.add_lit]
theorem pure_indexGlob(ht:TR bl vs st.tmps a){t:TypeId}{x ix:Operand}(ho:o.op= .indexAddr t x ix)(h:pIndexGlob P st t x ix=some p)(hn:∀q∈p.ns,q):PureOk T P bl vs w a o p:=by
 unfold pIndexGlob at h
 have hx:=ev_sound ht x
 have hi:=ev_sound ht ix
 split at h
 ·rename_i n e g kk i hu hxx hii
  rw[hxx]at hx
  rw[hii]at hi
  obtain⟨q,rfl⟩:∃q:Int,q=i:=⟨i,rfl⟩
  have hv:a.eval x= .pointer (some ⟨g,0,none⟩):=hx
  split at h
  ·rename_i r hsz hr
   split at h
   ·cases h
    simp only[List.mem_cons,List.not_mem_nil,or_false,forall_eq_or_imp,forall_eq,sem]at hn
    obtain⟨h0,h1⟩:=hn
    obtain⟨inf,hinf,hs1⟩:∃i,P.info? e=some i/\i.size=1:=by
     unfold sizeT at hsz
     obtain⟨i,hi,hh⟩:=Option.map_eq_some_iff.1 hsz
     exact⟨i,hi,hh⟩
    refine⟨.pointer (some ⟨g,q.toNat,none⟩), ?_,⟨⟨h0,h1⟩,rfl⟩,by simp⟩
    simp only[execOp,ho,hv,hi.1,Sem.run_bind,Instr.indexAt,Instr.sureAddr,asIntOf,Sem.run_pure,Result.andThen_ok,run_underlying hu,Sem.run_ite,h0,h1,and_self,if_true,run_sizeOf' hinf,hs1,Nat.mul_one,addr_plus,Nat.zero_add]
   ·cases h
  ·cases h
 ·cases h
theorem pure_indexArr(ht:TR bl vs st.tmps a){t:TypeId}{x ix:Operand}(ho:o.op= .indexAddr t x ix)(h:pIndexArr P st t x ix=some p)(hn:∀q∈p.ns,q):PureOk T P bl vs w a o p:=by
 unfold pIndexArr at h
 have hx:=ev_sound ht x
 split at h
 ·rename_i n e b off j hu hxx hc
  rw[hxx]at hx
  obtain⟨b',hb',hv⟩:=hx
  have hix:∃k,a.eval ix= .int k j:=by
   unfold constInt at hc
   split at hc
   ·cases hc;exact⟨_,rfl⟩
   ·cases hc
  obtain⟨k,hix⟩:=hix
  split at h
  ·rename_i sz hsz
   split at h
   ·rename_i hcc
    simp only[Bool.and_eq_true,decide_eq_true_eq]at hcc
    obtain⟨_,h0,h1⟩:=hcc
    rw[ok_eq h]
    have hin:∃inf,P.info? e=some inf/\inf.size=sz:=by
     unfold sizeT at hsz
     cases hi:P.info? e with
     |none=>rw[hi]at hsz;cases hsz
     |some i=>rw[hi]at hsz;exact⟨i,rfl,by simpa using hsz⟩
    obtain⟨inf,hinf,rfl⟩:=hin
    refine⟨.pointer (some ⟨b',off+j.toNat*inf.size,none⟩), ?_,⟨b',hb',rfl⟩,by simp⟩
    simp only[execOp,ho,hv,hix,Sem.run_bind,Instr.indexAt,Instr.sureAddr,asIntOf,Sem.run_pure,Result.andThen_ok,run_underlying hu,Sem.run_ite,h0,h1,and_self,if_true,run_sizeOf' hinf,addr_plus]
   ·cases h
  ·cases h
 ·exact pure_indexGlob ht ho h hn
theorem pure_indexAddr(hl:Look P R bl vs st.boxes st.ents w)(ht:TR bl vs st.tmps a){t:TypeId}{x ix:Operand}(ho:o.op= .indexAddr t x ix)
  (h:pIndexAddr P st t x ix=some p) (hn:∀q∈p.ns,q):PureOk T P bl vs w a o p:=by
 unfold pIndexAddr at h
 have hx:=ev_sound ht x
 have hix:=ev_sound ht ix
 split at h
 ·rename_i e id k i he hxx hii
  rw[hxx]at hx
  rw[hii]at hix
  split at h
  ·rename_i en hen
   split at h
   ·rename_i ks hks
    split at h
    ·rename_i hc
     simp only[Bool.and_eq_true,Bool.or_eq_true,beq_iff_eq,decide_eq_true_eq]at hc
     obtain⟨⟨hlive,hel⟩,hpos⟩:=hc
     obtain⟨i',rfl⟩:∃i':Int,i'=i:=⟨i,rfl⟩
     cases h
     simp only[List.mem_cons,List.not_mem_nil,or_false,forall_eq_or_imp,forall_eq,sem]at hn
     obtain⟨h0,h1⟩:=hn
     unfold Sl.len at h1
     obtain⟨v0,hv0,hcc⟩:=hl.ent id en hen hlive
     obtain⟨ii,hinfo,hsz,hu⟩:=kinds_inv hks
     obtain⟨ad,cap0,he0,hspot⟩:∃ad cap0,v0= .slice (some ad) en.s.n cap0/\ad.spot=none:=by
      rcases hel with⟨rfl,hm⟩|⟨hX,_⟩
      ·have hm:isM en.elem=false:=by simpa using hm
       obtain⟨a0,cap0,he0,hn1,hn2,ha0,hcells⟩:=hcc.1 hm
       have hks0:a0=none\/∃ad,a0=some ad:=by cases a0<;>simp
       rcases hks0 with rfl|⟨ad,rfl⟩
       ·have:=ha0 rfl;omega
       ·obtain⟨kk,hkk⟩:∃kk,ks[0]? =some kk:=⟨ks[0],by simp⟩
        obtain⟨ad',u,hA,hspot,_⟩:=hcells ks 0 0 kk hks (by omega) hkk
        cases hA
        exact⟨ad,cap0,he0,hspot⟩
      ·obtain⟨a0,cap0,he0,hcap,ha0,hsp⟩:=hcc.2.2 hX
       have hks0:a0=none\/∃ad,a0=some ad:=by cases a0<;>simp
       rcases hks0 with rfl|⟨ad,rfl⟩
       ·have:=ha0 rfl;omega
       ·exact⟨ad,cap0,he0,hsp ad rfl (by omega)⟩
     have hx':vs[id]? =some (a.eval x):=hx
     rw[hv0]at hx'
     have hxv:a.eval x= .slice (some ad) en.s.n cap0:=by rw[<-Option.some.inj hx',he0]
     have hadd:ad.add (i'.toNat*ii.size)=⟨ad.block,ad.off+(i'.toNat*ks.length+0),none⟩:=by
      obtain⟨bb,oo,ss⟩:=ad
      cases hspot
      rw[Addr.add_lit,hsz];rfl
     refine⟨.pointer (some ⟨ad.block,ad.off+(i'.toNat*ks.length+0),none⟩), ?_, ?_,by simp⟩
     ·simp only[execOp,ho,hxv,hix.1,Sem.run_bind,Instr.indexAt,asIntOf,Sem.run_pure,Result.andThen_ok,run_underlying (elem_inv he),Sem.run_ite,h0,h1,and_self,if_true,run_sizeOf' hinfo,hadd]
     ·exact⟨ad,en.s.n,cap0,by rw[hv0,he0],hspot,⟨h0,h1⟩,rfl⟩
    ·cases h
   ·cases h
  ·cases h
 ·rename_i e id sz lo n kk i he hxx hii
  rw[hxx]at hx
  rw[hii]at hix
  split at h
  ·rename_i ks hks
   split at h
   ·rename_i hc
    simp only[Bool.and_eq_true,beq_iff_eq,decide_eq_true_eq]at hc
    obtain⟨rfl,hpos⟩:=hc
    obtain⟨i',rfl⟩:∃i':Int,i'=i:=⟨i,rfl⟩
    obtain⟨lo',rfl⟩:∃i':Int,i'=lo:=⟨lo,rfl⟩
    obtain⟨n',rfl⟩:∃i':Int,i'=n:=⟨n,rfl⟩
    cases h
    simp only[List.mem_cons,List.not_mem_nil,or_false,forall_eq_or_imp,forall_eq,sem]at hn
    obtain⟨h0,h1⟩:=hn
    obtain⟨a0,len,cap,hvs,hspot,hnil,⟨v1,v2,v3,v4,v5⟩,hv⟩:=hx
    obtain⟨ii,hinfo,hsz,hu⟩:=kinds_inv hks
    have hks0:a0=none\/∃ad,a0=some ad:=by cases a0<;>simp
    rcases hks0 with rfl|⟨ad,rfl⟩
    ·have:=hnil rfl;omega
    ·have hsp:=hspot ad rfl (by omega)
     have hne:¬cap=lo'.toNat:=by omega
     have hxv:a.eval x= .slice (some (ad.add (lo'.toNat*ks.length))) n'.toNat (cap-lo'.toNat):=by rw[hv];simp[viewV,hne]
     have hadd:(ad.add (lo'.toNat*ks.length)).add (i'.toNat*ii.size)=⟨ad.block,ad.off+((lo'+i').toNat*ks.length+0),none⟩:=by
      obtain⟨bb,oo,ss⟩:=ad
      cases hsp
      rw[Addr.add_lit,Addr.add_lit,hsz]
      have:(lo'+i').toNat=lo'.toNat+i'.toNat:=by omega
      rw[this,Nat.add_mul]
      simp[Nat.add_assoc]
     have h1':i'<((n'.toNat:Nat):Int):=by omega
     refine⟨.pointer (some ⟨ad.block,ad.off+((lo'+i').toNat*ks.length+0),none⟩), ?_, ?_,by simp⟩
     ·simp only[execOp,ho,hxv,hix.1,Sem.run_bind,Instr.indexAt,asIntOf,Sem.run_pure,Result.andThen_ok,run_underlying (elem_inv he),Sem.run_ite,h0,h1',and_self,if_true,run_sizeOf' hinfo,hadd]
     ·exact⟨ad,len,cap,hvs,hsp,⟨by show(0:Int)<=lo'+i';omega,by show lo'+i'<(len:Int);omega⟩,rfl⟩
   ·cases h
  ·cases h
 ·exact pure_indexArr ht ho h hn
end
end Go.Sx
namespace Go.Sx
open Go.RowKit (Below)
variable{T:FuncId->Pred}{P:Program}{R:Nat->Prop}{bl:List Nat}{vs:List Value}{w:World}
variable{st:St (sem T)}{a:Act}{o:Oper}{p:Pu (sem T)}
theorem pure_nilCheck(ht:TR bl vs st.tmps a){x:Operand}(ho:o.op= .nilCheck x)
  (h:pNil st x=some p):PureOk T P bl vs w a o p:=by
 unfold pNil at h
 have hx:=ev_sound ht x
 split at h
 ·rename_i b off hxx
  rw[hxx]at hx
  obtain⟨b',hb,hv⟩:=hx
  exact pok (v:=a.eval x) (sv:= .ptr b off) (by simp[execOp,ho,hv]) ⟨b',hb,hv⟩ h
 ·rename_i f caps hxx
  rw[hxx]at hx
  obtain⟨cs,hv,hc⟩:=hx
  exact pok (v:=a.eval x) (sv:= .fn f caps) (by simp[execOp,ho,hv]) ⟨cs,hv,hc⟩ h
 ·rename_i i hxx
  rw[hxx]at hx
  obtain⟨b,hb,hv⟩:=hx
  exact pok (v:=a.eval x) (sv:= .yld i) (by simp[execOp,ho,hv]) ⟨b,hb,hv⟩ h
 ·rename_i id sz i off hxx
  rw[hxx]at hx
  obtain⟨b,l,c,h1,h2,h3,hv⟩:=hx
  exact pok (v:=a.eval x) (sv:= .eptr id sz i off) (by simp[execOp,ho,hv]) ⟨b,l,c,h1,h2,h3,hv⟩ h
 ·cases h
theorem part_int{cs:Array Value}{t:TypeId}{ik:IntKind}(hu:P.underlying t=some (.int ik)){j:Nat}{u:Value}(hc:cs[j]? =some u):
  (part t cs j).run P w= .ok u w:=by
 simp only[part,isAgg,Sem.run_bind,run_underlying hu,Result.andThen_ok,Sem.run_pure,Bool.false_eq_true,if_false,hc]
theorem part_bool{cs:Array Value}{t:TypeId}(hu:P.underlying t=some .bool){j:Nat}{u:Value}(hc:cs[j]? =some u):
  (part t cs j).run P w= .ok u w:=by
 simp only[part,isAgg,Sem.run_bind,run_underlying hu,Result.andThen_ok,Sem.run_pure,Bool.false_eq_true,if_false,hc]
def AlikeAt(xs ys:Array Value)(j:Nat)(ks:List Bool):Prop:=∀(i:Nat)(k:Bool),ks[i]? =some k->∃u v,xs[j+i]? =some u/\ys[j+i]? =some v/\Alike k u v
def EqAtJ(xs ys:Array Value)(j n:Nat)(b:Bool):Prop:=b=true↔∀i,i<n->xs[j+i]? =ys[j+i]?
def PartOk(P:Program)(w:World)(D:Nat)(t:TypeId)(ks:List Bool):Prop:=∀(xs ys:Array Value)(j:Nat),AlikeAt xs ys j ks->
  ∃b vx vy,(part t xs j).run P w= .ok vx w/\(part t ys j).run P w= .ok vy w/\(Op.equalIn D t vx vy).run P w= .ok b w/\EqAtJ xs ys j ks.length b
theorem eqFs_at{f:TypeId->Option (List Bool)}{D:Nat}(ih:∀t ks,f t=some ks->PartOk P w D t ks):∀(fs:List Field)(j:Nat)(ks:List Bool),eqFs f fs j=some ks->∀(xs ys:Array Value),AlikeAt xs ys j ks->
  ∃b,(Op.eqFields D xs ys fs).run P w= .ok b w/\EqAtJ xs ys j ks.length b
 |[],j,ks,h,xs,ys,_=>by
  cases h
  exact⟨true,by simp[Op.eqFields],by simp[EqAtJ]⟩
 | fd ::fs,j,ks,h,xs,ys,hc=>by
  unfold eqFs at h
  split at h
  ·rename_i hn
   simp only[Bool.and_eq_true,bne_iff_ne,ne_eq,beq_iff_eq]at hn
   obtain⟨hname,hoff⟩:=hn
   split at h
   ·rename_i k1 h1
    obtain⟨k2,h2,rfl⟩:=Option.map_eq_some_iff.1 h
    obtain⟨b,vx,vy,e1,e2,e3,e4⟩:=ih _ _ h1 xs ys j fun i k hk=>hc i k (by rw[List.getElem?_append_left];exact hk;exact(List.getElem?_eq_some_iff.1 hk).1)
    obtain⟨c,g1,g2⟩:=eqFs_at ih fs _ k2 h2 xs ys fun i k hk=>by
     have:=hc (k1.length+i) k (by rw[List.getElem?_append_right (by omega),Nat.add_sub_cancel_left];exact hk)
     rwa[<-Nat.add_assoc]at this
    unfold Op.eqFields
    simp only[hname,hoff,ne_eq,not_false_eq_true,if_true,Sem.run_bind,e1,e2,Result.andThen_ok,e3]
    cases b with
    |false=>
     refine⟨false,by simp, ?_⟩
     unfold EqAtJ at e4⊢
     refine⟨fun k=>Bool.noConfusion k,fun k=>absurd (e4.2 fun i hi=>k i (by rw[List.length_append];omega)) (by simp)⟩
    | true=>
     refine⟨c,by simpa using g1, ?_⟩
     unfold EqAtJ at e4 g2⊢
     rw[g2,List.length_append]
     refine⟨fun k i hi=> ?_,fun k i hi=>by have:=k (k1.length+i) (by omega);rwa[<-Nat.add_assoc]at this⟩
     by_cases c:i<k1.length
     ·exact e4.1 rfl i c
     ·have:=k (i-k1.length) (by omega)
      rwa[Nat.add_assoc,Nat.add_sub_cancel' (by omega)]at this
   ·cases h
  ·cases h
theorem ext_at{xs:Array Value}{j n i:Nat}{u:Value}(h:xs[j+i]? =some u)(hi:i<n):(xs.extract j (j+n))[i]? =some u:=by
 obtain⟨h1,_⟩:=Array.getElem?_eq_some_iff.1 h
 rw[Array.getElem?_extract,if_pos (by omega)]
 exact h
theorem eqStruct_at{d D:Nat}(ih:∀t ks,eqT P d t=some ks->PartOk P w D t ks){t:TypeId}{fs:Array Field}(hu:P.underlying t=some (.struct fs))(hp:P.stoodInHeld t=false){ks:List Bool}(h:eqFs (eqT P d) fs.toList 0=some ks)(xs ys:Array Value)(hc:AlikeAt xs ys 0 ks):
  ∃b,(Op.equalIn (D+1) t (.agg xs) (.agg ys)).run P w= .ok b w/\EqAtJ xs ys 0 ks.length b:=by
 have hfo:P.fieldsOf t=fs:=by simp[Program.fieldsOf,hu]
 rw[run_equalIn_struct w D t xs ys (by rw[hfo];exact hu) hp,hfo]
 exact eqFs_at ih _ _ _ h xs ys hc
theorem eqT_at:∀(d:Nat)(t:TypeId)(ks:List Bool),eqT P d t=some ks->∀(D:Nat),d<=D->PartOk P w D t ks
 |0,t,ks,h,D,hD=>by simp[eqT]at h
 |d+1,t,ks,h,0,hD=>by omega
 | d + 1,t,ks,h,D+1,hD=>by
  intro xs ys j hc
  unfold eqT at h
  split at h
  ·rename_i ik hu
   cases h
   obtain⟨u,v,hx,hy,k,m,n,rfl,rfl⟩:=hc 0 true rfl
   refine⟨_,_,_,part_int hu hx,part_int hu hy,run_equalIn_int w D t k ik m n hu, ?_⟩
   unfold EqAtJ
   rw[beq_iff_eq]
   refine⟨fun k i hi=> ?_,fun k=> ?_⟩
   ·have:i=0:=by simpa using hi
    subst this;rw[hx,hy,k]
   ·have:=k 0 (by simp);rw[Nat.add_zero]at this hx hy;rw[hx,hy]at this;simpa using this
  ·rename_i hu
   cases h
   obtain⟨u,v,hx,hy,m,n,rfl,rfl⟩:=hc 0 false rfl
   refine⟨_,_,_,part_bool hu hx,part_bool hu hy,run_equalIn_bool' w D t m n hu, ?_⟩
   unfold EqAtJ
   rw[beq_iff_eq]
   refine⟨fun k i hi=> ?_,fun k=> ?_⟩
   ·have:i=0:=by simpa using hi
    subst this;rw[hx,hy,k]
   ·have:=k 0 (by simp);rw[Nat.add_zero]at this hx hy;rw[hx,hy]at this;simpa using this
  ·rename_i fs hu
   split at h
   ·cases h
   ·rename_i hp
    split at h
    ·rename_i ks' hk
     split at h
     ·rename_i hs
      cases h
      have hs:sizeT P t=some ks.length:=by simpa using hs
      unfold sizeT at hs
      obtain⟨inf,hi,hsz⟩:=Option.map_eq_some_iff.1 hs
      have hpart:∀zs:Array Value,(part t zs j).run P w= .ok (.agg (zs.extract j (j+ks.length))) w:=fun zs=>by
       simp only[part,isAgg,Sem.run_bind,run_underlying hu,Result.andThen_ok,Sem.run_pure,if_true,run_sizeOf' hi,hsz]
      obtain⟨b,h1,h2⟩:=eqStruct_at (D:=D) (fun t ks h=>eqT_at d t ks h D (by omega)) hu (by simpa using hp) hk (xs.extract j (j+ks.length)) (ys.extract j (j+ks.length)) fun i k hk=>by
       obtain⟨u,v,a1,a2,a3⟩:=hc i k hk
       have hi:=(List.getElem?_eq_some_iff.1 hk).1
       rw[Nat.zero_add]
       exact⟨u,v,ext_at a1 hi,ext_at a2 hi,a3⟩
      refine⟨b,_,_,hpart xs,hpart ys,h1, ?_⟩
      unfold EqAtJ at h2⊢
      rw[h2]
      have key:∀i,i<ks.length->((xs.extract j (j+ks.length))[0+i]? =(ys.extract j (j+ks.length))[0+i]? ↔xs[j+i]? =ys[j+i]?):=fun i hi=>by
       obtain⟨u,v,a1,a2,_⟩:=hc i ks[i] (List.getElem?_eq_getElem hi)
       rw[Nat.zero_add,ext_at a1 hi,ext_at a2 hi,a1,a2]
      exact⟨fun k i hi=>(key i hi).1 (k i hi),fun k i hi=>(key i hi).2 (k i hi)⟩
     ·cases h
    ·cases h
  ·cases h
theorem Alikes.get:∀{ks:List Bool}{us vs':List Value},Alikes ks us vs'->us.length=ks.length/\vs'.length=ks.length/\∀(i:Nat)(k:Bool),ks[i]? =some k->∃u v,us[i]? =some u/\vs'[i]? =some v/\Alike k u v
 |[],[],[],_=>⟨rfl,rfl,fun i k h=>by simp at h⟩
 | k::ks,u::us,v::vs',h=>by
  obtain⟨h1,h2,h3⟩:=Alikes.get h.2
  refine⟨by simp[h1],by simp[h2],fun i k' hk=> ?_⟩
  cases i with
  |zero=>
   have:k=k':=by simpa using hk
   subst this
   exact⟨u,v,rfl,rfl,h.1⟩
  |succ i=>simpa using h3 i k' (by simpa using hk)
 |[],_::_,_,h=>h.elim
 |[],[],_::_,h=>h.elim
 |_::_,[],_,h=>h.elim
 |_::_,_::_,[],h=>h.elim
theorem boolOp_sound{op:BinOp}{t t':TypeId}{x y:Operand}(ho:o.op= .binOp op t x y t'){X Y:PB}(hx:a.eval x= .bool X.b)(hy:a.eval y= .bool Y.b)
  (h:boolOp (A:=sem T) P op t X Y=some p):PureOk T P bl vs w a o p:=by
 have key:(X.b==Y.b)= @decide (X.p↔Y.p) (@instDecidableIff _ _ X.d Y.d):=by
  obtain⟨xp,xd⟩:=X
  obtain⟨yp,yd⟩:=Y
  rw[Bool.eq_iff_iff]
  simp only[beq_iff_eq,decide_eq_true_eq,PB.b]
  by_cases h1:xp<;>by_cases h2:yp<;>simp[h1,h2]
 unfold boolOp at h
 split at h
 ·rename_i hu
  refine pok (v:= .bool (X.b==Y.b)) (sv:= .bool ((sem T).beq X Y)) (by simp only[execOp,ho,hx,hy,eqGuard_at_bool,Sem.run_bind,Sem.run_pure,Result.andThen_ok,run_eql_bool w t _ _ hu]) ?_ h
  show Value.bool (X.b==Y.b)= .bool (@decide (X.p↔Y.p) (@instDecidableIff _ _ X.d Y.d))
  rw[key]
 ·rename_i hu
  refine pok (v:= .bool !(X.b==Y.b)) (sv:= .bool ((sem T).bnot ((sem T).beq X Y))) (by simp only[execOp,ho,hx,hy,eqGuard_at_bool,Sem.run_bind,Sem.run_pure,Result.andThen_ok,run_neq_bool w t _ _ hu]) ?_ h
  rw[key]
  simp[SVR,PB.b]
 ·cases h
theorem pure_bin(ht:TR bl vs st.tmps a){op:BinOp}{t t':TypeId}{x y:Operand}(ho:o.op= .binOp op t x y t')
  {wr:Bool} (h:pureBin P wr op t (st.ev x) (st.ev y)=some p) (hn:∀q∈p.ns,q):PureOk T P bl vs w a o p:=by
 have hx:=ev_sound ht x
 have hy:=ev_sound ht y
 unfold pureBin at h
 split at h
 ·rename_i k x' k' y' hxx hyy
  rw[hxx]at hx
  rw[hyy]at hy
  obtain⟨i,rfl⟩:∃i:Int,i=x':=⟨x',rfl⟩
  obtain⟨j,rfl⟩:∃i:Int,i=y':=⟨y',rfl⟩
  have key:(∃v,(binOp op t (.int k i) (.int k' j)).run P w= .ok v w/\SVR bl vs p.v v/\p.gs=[]):=by
   split at h
   ·exact shiftOp_sound h hn
   ·split at h
    ·rename_i hk
     have:k=k':=by simpa using hk
     subst this
     exact intOp_sound h hn hx.2
    ·cases h
  obtain⟨v,hr,hs,hg⟩:=key
  refine⟨v, ?_,hs,by simp[hg]⟩
  simp only[execOp,ho,hx.1,hy.1,eqGuard_at_int,Sem.run_bind,Sem.run_pure,Result.andThen_ok,hr]
 ·rename_i X Y hxx hyy
  rw[hxx]at hx
  rw[hyy]at hy
  exact boolOp_sound ho hx hy h
 ·rename_i X Y hxx hyy
  rw[hxx]at hx
  rw[hyy]at hy
  have hy':a.eval y= .bool ((sem T).blit Y:PB).b:=by
   have:a.eval y= .bool Y:=hy
   rw[this];cases Y<;>simp[PB.b]
  exact boolOp_sound ho hx hy' h
 ·rename_i X Y hxx hyy
  rw[hxx]at hx
  rw[hyy]at hy
  have hx':a.eval x= .bool ((sem T).blit X:PB).b:=by
   have:a.eval x= .bool X:=hx
   rw[this];cases X<;>simp[PB.b]
  exact boolOp_sound ho hx' hy h
 ·rename_i X Y hxx hyy
  rw[hxx]at hx
  rw[hyy]at hy
  have hx':a.eval x= .bool ((sem T).blit X:PB).b:=by
   have:a.eval x= .bool X:=hx
   rw[this];cases X<;>simp[PB.b]
  have hy':a.eval y= .bool ((sem T).blit Y:PB).b:=by
   have:a.eval y= .bool Y:=hy
   rw[this];cases Y<;>simp[PB.b]
  exact boolOp_sound ho hx' hy' h
 ·rename_i xs ys hxx hyy
  rw[hxx]at hx
  rw[hyy]at hy
  obtain⟨cs,hv,hc⟩:=hx
  obtain⟨cs',hv',hc'⟩:=hy
  split at h
  ·rename_i hp
   unfold plainStruct at hp
   simp only[Bool.and_eq_true,Bool.not_eq_true',beq_iff_eq]at hp
   obtain⟨⟨hst,heq⟩,hguard⟩:=hp
   split at hst
   ·rename_i fs hu
    have key:∀(B:PB),eqCells xs ys=some B->∃b,(Op.equalIn 10000 t (.agg cs) (.agg cs')).run P w= .ok b w/\b=B.b:=by
     intro B hB
     obtain⟨hal,hp⟩:=eqCells_sound hB hc hc'
     obtain⟨l1,l2,hat⟩:=hal.get
     unfold eqT at heq
     rw[hu]at heq
     simp only at heq
     split at heq
     ·cases heq
     ·rename_i hstood
      split at heq
      ·rename_i ks' hk
       split at heq
       ·cases heq
        obtain⟨b,hb,hbb⟩:=eqStruct_at (w:=w) (D:=9999) (fun t ks h=>eqT_at 7 t ks h 9999 (by omega)) hu (by simpa using hstood) hk cs cs' fun i k hk=>by
         obtain⟨u,v,a1,a2,a3⟩:=hat i k hk
         rw[Nat.zero_add]
         exact⟨u,v,by simpa using a1,by simpa using a2,a3⟩
        refine⟨b,hb, ?_⟩
        unfold EqAtJ at hbb
        rw[Bool.eq_iff_iff,hbb]
        have:(∀i,i<(xs.map isI).length->cs[0+i]? =cs'[0+i]?)↔B.p:=by
         rw[hp]
         refine⟨fun k=>List.ext_getElem? fun i=> ?_,fun k i hi=> ?_⟩
         ·by_cases hi:i<(xs.map isI).length
          ·have:=k i hi
           rw[Nat.zero_add]at this
           simpa using this
          ·rw[List.getElem?_eq_none (by omega),List.getElem?_eq_none (by omega)]
         ·have:=congrArg (·[0+i]?) k
          simpa using this
        rw[this]
        simp[PB.b]
       ·cases heq
      ·cases heq
    split at h
    ·rename_i B hB
     obtain⟨b,hb,rfl⟩:=key B hB
     exact pok (v:= .bool B.b) (sv:= .bool B) (by simp only[execOp,ho,hv,hv',Sem.run_bind,run_eqGuard_agg w _ t _ _ _ _ hguard,Result.andThen_ok,run_eql_struct,hb,Sem.run_pure]) rfl h
    ·rename_i B hB
     obtain⟨b,hb,rfl⟩:=key B hB
     refine pok (v:= .bool !B.b) (sv:= .bool ((sem T).bnot B)) (by simp only[execOp,ho,hv,hv',Sem.run_bind,run_eqGuard_agg w _ t _ _ _ _ hguard,Result.andThen_ok,run_neq_struct,hb,Sem.run_pure]) ?_ h
     simp[SVR,PB.b]
    ·cases h
   ·cases hst
  ·cases h
 ·rename_i x' y' hxx hyy
  rw[hxx]at hx
  rw[hyy]at hy
  have hv:a.eval x= .string x':=hx
  have hv':a.eval y= .string y':=hy
  have key:(x'.toList==y'.toList)= @decide (x'=y') inferInstance:=by
   rw[Bool.eq_iff_iff]
   simp[ByteArray.toList_eq,ByteArray.ext_iff,Array.toList_inj]
  split at h
  ·refine pok (v:= .bool (x'.toList==y'.toList)) (sv:= .bool ((sem T).yeq x' y')) (by simp[execOp,ho,hv,hv',eqGuard_at_string,binOp,Op.stringOp]) ?_ h
   simp only[SVR,PB.b];rw[key]
  ·refine pok (v:= .bool !(x'.toList==y'.toList)) (sv:= .bool ((sem T).bnot ((sem T).yeq x' y'))) (by simp[execOp,ho,hv,hv',eqGuard_at_string,binOp,Op.stringOp,bne,beq_toListBytes]) ?_ h
   simp only[SVR,PB.b];rw[key];simp
  ·cases h
 ·cases h
theorem pure_un(ht:TR bl vs st.tmps a){op:UnOp}{t:TypeId}{x:Operand}(ho:o.op= .unOp op t x)
  (h:pUn st op x=some p) (hn:∀q∈p.ns,q):PureOk T P bl vs w a o p:=by
 unfold pUn at h
 have hx:=ev_sound ht x
 split at h
 ·rename_i b hxx
  rw[hxx]at hx
  have hv:a.eval x= .bool b:=hx
  exact pok (v:= .bool !b) (sv:= .blit !b) (by simp[execOp,ho,hv,Op.unary]) rfl h
 ·rename_i b hxx
  rw[hxx]at hx
  have hv:a.eval x= .bool b.b:=hx
  refine pok (v:= .bool !b.b) (sv:= .bool ((sem T).bnot b)) (by simp[execOp,ho,hv,Op.unary]) ?_ h
  simp[SVR,PB.b]
 ·rename_i k n hxx
  rw[hxx]at hx
  obtain⟨i,rfl⟩:∃i:Int,i=n:=⟨n,rfl⟩
  have hk0:k.min<=0/\0<=k.max:=by cases k<;>decide
  obtain⟨v,hr,hs,hg⟩:=intOp_sound (T:=T) (P:=P) (w:=w) (bl:=bl) (vs:=vs) (t:=t) h hn hk0
  refine⟨v, ?_,hs,by simp[hg]⟩
  simp only[execOp,ho,hx.1,Op.unary,Sem.run_bind]
  simp only[binOp_sub]at hr
  simp only[hr,Result.andThen_ok,Sem.run_pure]
 ·rename_i k n hxx
  rw[hxx]at hx
  obtain⟨i,rfl⟩:∃i:Int,i=n:=⟨n,rfl⟩
  refine pok (v:= .int k (k.wrap (arithS .xor k (if k.signed then-1 else k.max) i))) (sv:= .int k ((sem T).wrap k ((sem T).arith .xor k ((sem T).lit (if k.signed then-1 else k.max)) i))) ?_ ⟨rfl,(wrap_in k _).1,(wrap_in k _).2⟩ h
  simp only[execOp,ho,hx.1,Op.unary,Op.intBits,Sem.run_bind,Sem.run_pure,Result.andThen_ok]
  rfl
 ·cases h
theorem pure_convert(ht:TR bl vs st.tmps a){src dst:TypeId}{x:Operand}(ho:o.op= .convert src dst x)
  (h:pConvert P st src dst x=some p):PureOk T P bl vs w a o p:=by
 unfold pConvert at h
 have hx:=ev_sound ht x
 split at h
 ·rename_i d k k' n hs hd hxx
  rw[hxx]at hx
  obtain⟨i,rfl⟩:∃i:Int,i=n:=⟨n,rfl⟩
  have hr:(execOp a.eval o).run P w= .ok (.value (.int k (k.wrap i))) w:=by
   simp[execOp,ho,hx.1,convert,run_underlying hs,run_underlying hd,Conv.intToInt]
  split at h
  ·rename_i hc
   have hin:k.min<=i/\i<=k.max:=⟨Int.le_trans hc.1 hx.2.1,Int.le_trans hx.2.2 hc.2⟩
   rw[wrap_id k i hin]at hr
   exact pok (sv:= .int k i) hr ⟨rfl,hin.1,hin.2⟩ h
  ·exact pok (sv:= .int k ((sem T).wrap k i)) hr ⟨rfl,(wrap_in k _).1,(wrap_in k _).2⟩ h
 ·cases h
theorem evs_sound(ht:TR bl vs st.tmps a):∀l:List Operand,SVRs bl vs (l.map st.ev) (l.map a.eval)
 |[]=>trivial
 |x::l=>⟨ev_sound ht x,evs_sound ht l⟩
theorem pure_makeFunc(ht:TR bl vs st.tmps a){f:FuncId}{first caps:Array Operand}(ho:o.op= .makeFunc (.func f) first caps)
  (h:pMakeFunc st f first caps=some p):PureOk T P bl vs w a o p:=by
 unfold pMakeFunc at h
 split at h
 ·rename_i hf
  have:first= #[]:=by simpa using hf
  subst this
  refine pok (v:= .func (.func f) #[] (caps.map a.eval)) (sv:= .fn f (caps.toList.map st.ev)) (by simp[execOp,ho,Instr.makeFunc]) ⟨_,rfl, ?_⟩ h
  simpa using evs_sound ht caps.toList
 ·split at h
  ·rename_i hc
   have:caps= #[]:=by simpa using hc
   subst this
   refine pok (v:= .func (.func f) (first.map a.eval) #[]) (sv:= .fnb f (first.toList.map st.ev)) (by simp[execOp,ho,Instr.makeFunc]) ⟨_,rfl, ?_⟩ h
   simpa using evs_sound ht first.toList
  ·cases h
theorem pure_extract(ht:TR bl vs st.tmps a){x:Operand}{ix:Nat}(ho:o.op= .extract x ix)
  (h:pExtract st x ix=some p):PureOk T P bl vs w a o p:=by
 unfold pExtract at h
 have hx:=ev_sound ht x
 split at h
 ·rename_i l hxx
  rw[hxx]at hx
  obtain⟨cs,hv,hc⟩:=hx
  split at h
  ·cases h
  ·rename_i v hv' hl
   obtain⟨y,hy,hs⟩:=hc.get hl
   simp only[Array.getElem?_toList]at hy
   exact pok (v:=y) (by simp[execOp,ho,hv,Instr.extract,hy]) hs h
  ·cases h
 ·cases h
theorem pure_field(ht:TR bl vs st.tmps a){t:TypeId}{x:Operand}{f:Nat}(ho:o.op= .field t x f)
  (h:pField P st t x f=some p):PureOk T P bl vs w a o p:=by
 unfold pField at h
 have hx:=ev_sound ht x
 split at h
 ·rename_i off ft l hf hxx
  rw[hxx]at hx
  obtain⟨cs,hv,hc⟩:=hx
  split at h
  ·rename_i n hs
   split at h
   ·rename_i hle
    simp only[Bool.and_eq_true,decide_eq_true_eq]at hle
    obtain⟨hle,hfu⟩:=hle
    obtain⟨sv,hp,hok⟩:=Option.bind_eq_some_iff.1 h
    obtain⟨fs,fd,i,hu,hfd,rfl,rfl,hi,hn⟩:=fieldOff_inv hf
    unfold sizeT at hs
    rw[hi]at hs
    cases hs
    have hlen:=hc.length
    simp only[Array.length_toList]at hlen
    obtain⟨d,hd⟩:=Option.isSome_iff_exists.1 hfu
    rcases pack_inv hp with⟨ha,rfl⟩|⟨ha,hl1⟩
    ·refine pok (v:= .agg (cs.extract fd.offset (fd.offset+i.size))) (sv:= .agg ((l.drop fd.offset).take i.size)) ?_ ⟨_,rfl, ?_⟩ hok
     ·simp only[execOp,ho,hv,Instr.field,Sem.run_bind,run_underlying hu,Result.andThen_ok,hfd,asAgg,Sem.run_pure,part,isAgg_run fd.type hd,ha,if_true,run_sizeOf' hi]
     ·have:=(hc.drop fd.offset).take i.size
      simpa[List.extract_eq_take_drop]using this
    ·have hsv:=(hc.drop fd.offset).take i.size
     rw[hl1]at hsv
     have hlen1:=congrArg List.length hl1
     simp at hlen1
     have h0:∃u,cs[fd.offset]? =some u/\SVR bl vs sv u:=by
      have hg:l[fd.offset]? =some sv:=by
       have:=congrArg (·[0]?) hl1
       simp[List.getElem?_take]at this
       exact this.2
      obtain⟨y,hy,hs⟩:=hc.get hg
      simp only[Array.getElem?_toList]at hy
      exact⟨y,hy,hs⟩
     obtain⟨u,hcu,hsu⟩:=h0
     refine pok (v:=u) ?_ hsu hok
     simp only[execOp,ho,hv,Instr.field,Sem.run_bind,run_underlying hu,Result.andThen_ok,hfd,asAgg,Sem.run_pure,part,isAgg_run fd.type hd,ha,Bool.false_eq_true,if_false,hcu]
   ·cases h
  ·cases h
 ·cases h
theorem pure_len(hl:Look P R bl vs st.boxes st.ents w)(ht:TR bl vs st.tmps a){args:Array Operand}{argTypes:Array TypeId}(ho:o.op= .call {callee:= .builtin .len,args,argTypes})
  (h:pLen P st args argTypes=some p) (hn:∀q∈p.ns,q):PureOk T P bl vs w a o p:=by
 unfold pLen at h
 split at h
 ·rename_i x t hargs htys
  have hargs':args= #[x]:=by rw[<-Array.toList_inj];exact hargs
  have htys':argTypes= #[t]:=by rw[<-Array.toList_inj];exact htys
  subst hargs' htys'
  have hx:=ev_sound ht x
  have hrun:∀v,(Builtin.len_ #[t] o.type #[a.eval x]).run P w= .ok v w->(execOp a.eval o).run P w= .ok (.value v) w:=by
   intro v hv
   simp[execOp,ho,resolve,invoke,builtin,hv]
  split at h
  ·rename_i e id hu hxx
   rw[hxx]at hx
   split at h
   ·rename_i en hen
    split at h
    ·rename_i hlive
     simp only[Bool.and_eq_true,Bool.not_eq_true']at hlive
     obtain⟨hlive,hm⟩:=hlive
     obtain⟨v0,hv0,hcc⟩:=hl.ent id en hen hlive
     obtain⟨a0,cap0,he0,hn1,hn2,ha0,hcells⟩:=hcc.1 hm
     have hx':vs[id]? =some (a.eval x):=hx
     rw[hv0]at hx'
     have hxv:a.eval x= .slice a0 en.s.n cap0:=by rw[<-Option.some.inj hx',he0]
     cases h
     refine⟨.int .i64 en.s.n,hrun _ ?_, ?_,fun q hq=> ?_⟩
     rotate_left
     rotate_left
     ·simp only[List.mem_singleton]at hq
      rw[hq]
      exact Nat.le_trans hn1 (Nat.min_le_right _ _)
     ·simp[Builtin.len_,hxv,run_underlying hu,goInt]
     ·refine⟨rfl, ?_, ?_⟩
      ·simp[IntKind.min,IntKind.signed,IntKind.bits,Sl.len]<;>omega
      ·simp[IntKind.max,IntKind.signed,IntKind.bits,Sl.len];unfold maxLen at hn2;omega
    ·cases h
   ·cases h
  ·rename_i e hu hxx
   rw[hxx]at hx
   have hv:a.eval x= .slice none 0 0:=hx
   exact pok (v:= .int .i64 0) (sv:= .int .i64 ((sem T).lit 0)) (hrun _ (by simp[Builtin.len_,hv,run_underlying hu,goInt])) ⟨rfl,(by decide:IntKind.i64.min<=0),(by decide:0<=IntKind.i64.max)⟩ h
  ·rename_i e id sz lo n hu hxx
   rw[hxx]at hx
   obtain⟨n',rfl⟩:∃i':Int,i'=n:=⟨n,rfl⟩
   obtain⟨a0,len,cap,hvs,hspot,hnil,⟨v1,v2,v3,v4,v5⟩,hv⟩:=hx
   have hn':((n'.toNat:Nat):Int)=n':=Int.toNat_of_nonneg v2
   unfold maxLen at v5
   refine pok (v:= .int .i64 n') (sv:= .int .i64 n') (hrun _ (by simp[Builtin.len_,hv,viewV,run_underlying hu,goInt,hn'])) ⟨rfl, ?_, ?_⟩ h
   ·simp[IntKind.min,IntKind.signed,IntKind.bits];omega
   ·simp[IntKind.max,IntKind.signed,IntKind.bits];omega
  ·rename_i e b n hu hxx
   rw[hxx]at hx
   obtain⟨b',hb',hv⟩:=hx
   split at h
   ·rename_i hc
    refine pok (v:= .int .i64 n) (sv:= .int .i64 ((sem T).lit n)) (hrun _ (by simp[Builtin.len_,hv,run_underlying hu,goInt])) ⟨rfl, ?_,hc⟩ h
    simp[IntKind.min,IntKind.signed,IntKind.bits]<;>omega
   ·cases h
  ·rename_i y hu hxx
   rw[hxx]at hx
   have hv:a.eval x= .string y:=hx
   cases h
   simp only[List.mem_singleton,forall_eq,sem]at hn
   exact⟨.int .i64 (ylen y),hrun _ (by simp[Builtin.len_,hv,run_underlying hu,goInt,ylen]),⟨rfl,hn.1,hn.2⟩,by simp⟩
  ·rename_i n e hu
   split at h
   ·rename_i hc
    refine pok (v:= .int .i64 n) (sv:= .int .i64 ((sem T).lit n)) (hrun _ ?_) ⟨rfl, ?_,hc⟩ h
    ·simp[Builtin.len_,run_underlying hu,goInt]
    ·simp[IntKind.min,IntKind.signed,IntKind.bits]<;>omega
   ·cases h
  ·cases h
 ·cases h
theorem imin_in{k:IntKind}{x y:Int}(hx:k.min<=x/\x<=k.max)(hy:k.min<=y/\y<=k.max):k.min<=imin x y/\imin x y<=k.max:=by
 unfold imin;split<;>assumption
theorem imax_in{k:IntKind}{x y:Int}(hx:k.min<=x/\x<=k.max)(hy:k.min<=y/\y<=k.max):k.min<=imax x y/\imax x y<=k.max:=by
 unfold imax;split<;>assumption
theorem pure_min(ht:TR bl vs st.tmps a){args:Array Operand}{argTypes:Array TypeId}(ho:o.op= .call {callee:= .builtin .min,args,argTypes})
  (h:pMin st args=some p):PureOk T P bl vs w a o p:=by
 unfold pMin at h
 split at h
 ·rename_i x y hargs
  have hargs':args= #[x,y]:=by rw[<-Array.toList_inj];exact hargs
  subst hargs'
  have hx:=ev_sound ht x
  have hy:=ev_sound ht y
  split at h
  ·rename_i k i k' j hxx hyy
   rw[hxx]at hx
   rw[hyy]at hy
   split at h
   ·rename_i hk
    have:k=k':=by simpa using hk
    subst this
    refine pok (v:= .int k (imin i j)) (sv:= .int k ((sem T).imin i j)) ?_ ⟨rfl,(imin_in hx.2 hy.2).1,(imin_in hx.2 hy.2).2⟩ h
    simp[execOp,ho,resolve,invoke,builtin,Builtin.min_,Builtin.min2,hx.1,hy.1,imin]
   ·cases h
  ·cases h
 ·cases h
theorem pure_max(ht:TR bl vs st.tmps a){args:Array Operand}{argTypes:Array TypeId}(ho:o.op= .call {callee:= .builtin .max,args,argTypes})
  (h:pMax st args=some p):PureOk T P bl vs w a o p:=by
 unfold pMax at h
 split at h
 ·rename_i x y hargs
  have hargs':args= #[x,y]:=by rw[<-Array.toList_inj];exact hargs
  subst hargs'
  have hx:=ev_sound ht x
  have hy:=ev_sound ht y
  split at h
  ·rename_i k i k' j hxx hyy
   rw[hxx]at hx
   rw[hyy]at hy
   split at h
   ·rename_i hk
    have:k=k':=by simpa using hk
    subst this
    refine pok (v:= .int k (imax i j)) (sv:= .int k ((sem T).imax i j)) ?_ ⟨rfl,(imax_in hx.2 hy.2).1,(imax_in hx.2 hy.2).2⟩ h
    simp[execOp,ho,resolve,invoke,builtin,Builtin.max_,Builtin.max2,hx.1,hy.1,imax]
   ·cases h
  ·cases h
 ·cases h
theorem cells_sound(hv:∀(i:Nat)(v:Value),vs[i]? =some v->SlV v){s:SV (sem T)}{v:Value}(h:SVR bl vs s v)(hc:(cellsOf s).all isCell=true):
  SVRs bl vs (cellsOf s) v.cells.toList:=by
 cases s with
 |agg l=>obtain⟨cs,rfl,hl⟩:=h;exact hl
 |tup l=>simp[cellsOf,isCell]at hc
 |junk=>simp[cellsOf,isCell]at hc
 |int k x=>obtain⟨rfl,h⟩:=h;exact⟨⟨rfl,h⟩,trivial⟩
 |blit b=>have h:v= .bool b:=h;subst h;exact⟨rfl,trivial⟩
 |bool b=>have h:v= .bool b.b:=h;subst h;exact⟨rfl,trivial⟩
 |str y=>have h:v= .string y:=h;subst h;exact⟨rfl,trivial⟩
 |sl id=>rcases hv _ _ h with⟨a,n,c,rfl⟩|⟨b,rfl⟩<;>exact⟨h,trivial⟩
 |ptr i off=>obtain⟨b,hb,rfl⟩:=h;exact⟨⟨b,hb,rfl⟩,trivial⟩
 |eptr id sz i off=>obtain⟨a,l,c,h1,h2,h3,rfl⟩:=h;exact⟨⟨a,l,c,h1,h2,h3,rfl⟩,trivial⟩
 |view id sz lo n=>obtain⟨a,l,c,h1,h2,h3,h4,rfl⟩:=h;exact⟨⟨a,l,c,h1,h2,h3,h4,rfl⟩,trivial⟩
 |bsl i n=>obtain⟨b,hb,rfl⟩:=h;exact⟨⟨b,hb,rfl⟩,trivial⟩
 |fn f caps=>obtain⟨cs,rfl,hl⟩:=h;exact⟨⟨cs,rfl,hl⟩,trivial⟩
 |fnb f caps=>obtain⟨cs,rfl,hl⟩:=h;exact⟨⟨cs,rfl,hl⟩,trivial⟩
 |yld i=>obtain⟨b,hb,rfl⟩:=h;exact⟨⟨b,hb,rfl⟩,trivial⟩
 |con c=>
  have h:v=c:=h
  subst h
  cases v<;>first|(simp[cellsOf,isCell]at hc;done)|exact⟨rfl,trivial⟩
 |glob g=>have h:v= .pointer (some ⟨g,0,none⟩):=h;subst h;exact⟨rfl,trivial⟩
 |gel g n i=>obtain⟨h1,rfl⟩:=h;exact⟨⟨h1,rfl⟩,trivial⟩
theorem isCell_one{s:SV (sem T)}{v:Value}(hv:∀(i:Nat)(v:Value),vs[i]? =some v->SlV v)(h:SVR bl vs s v)(hc:isCell s=true):v.oneCell'=true:=by
 cases s with
 |agg l=>simp[isCell]at hc
 |tup l=>simp[isCell]at hc
 |junk=>simp[isCell]at hc
 |int k x=>obtain⟨rfl,h⟩:=h;exact rfl
 |blit b=>have h:v= .bool b:=h;subst h;exact rfl
 |bool b=>have h:v= .bool b.b:=h;subst h;exact rfl
 |str y=>have h:v= .string y:=h;subst h;exact rfl
 |sl id=>rcases hv _ _ h with⟨a,n,c,rfl⟩|⟨b,rfl⟩<;>exact rfl
 |ptr i off=>obtain⟨b,hb,rfl⟩:=h;exact rfl
 |eptr id sz i off=>obtain⟨a,l,c,h1,h2,h3,rfl⟩:=h;exact rfl
 |view id sz lo n=>obtain⟨a,l,c,h1,h2,h3,h4,rfl⟩:=h;exact rfl
 |bsl i n=>obtain⟨b,hb,rfl⟩:=h;exact rfl
 |fn f caps=>obtain⟨cs,rfl,hl⟩:=h;exact rfl
 |fnb f caps=>obtain⟨cs,rfl,hl⟩:=h;exact rfl
 |yld i=>obtain⟨b,hb,rfl⟩:=h;exact rfl
 |con c=>
  have h:v=c:=h
  subst h
  cases v<;>first|(simp[isCell]at hc;done)|exact rfl
 |glob g=>have h:v= .pointer (some ⟨g,0,none⟩):=h;subst h;exact rfl
 |gel g n i=>obtain⟨h1,rfl⟩:=h;exact rfl
theorem zeroCells_sound{t:TypeId}{z:List (SV (sem T))}(h:zeroCellsOf P t=some z):
  ∃i v,P.info? t=some i/\i.zero=some v/\SVRs bl vs z v.cells.toList:=by
 unfold zeroCellsOf at h
 split at h
 ·rename_i i hi
  split at h
  ·rename_i v hz
   cases h
   refine⟨i,v,hi,hz, ?_⟩
   have:=ofCon_sound (T:=T) (bl:=bl) (vs:=vs) v
   cases v with
   |agg cs=>exact ofConCells_sound cs.toList
   |tuple us=>
    unfold ofCon at this⊢
    simp only at this⊢
    split<;>rename_i hu
    ·simp only[hu,if_true]at this;exact⟨this,trivial⟩
    ·exact⟨trivial,trivial⟩
   |int k n=>
    unfold ofCon ofConCell at this⊢
    simp only at this⊢
    split<;>rename_i hu
    ·simp only[hu,and_self,if_true]at this;exact⟨this,trivial⟩
    ·exact⟨trivial,trivial⟩
   |_=>exact⟨this,trivial⟩
  ·cases h
 ·cases h
theorem fold_set:∀(us:List Value)(k off:Nat)(cells:Array Value),off+k+us.length<=cells.size->
  ((us.zipIdx k).foldl (fun cs(p:Value×Nat)=>cs.setIfInBounds (off+p.2) p.1) cells).toList=cells.toList.take (off+k)++us++cells.toList.drop (off+k+us.length)
 |[],k,off,cells,_=>by simp
 |u::us,k,off,cells,h=>by
  simp only[List.zipIdx_cons,List.foldl_cons,List.length_cons]
  simp only[List.length_cons]at h
  have hlen:off+k<cells.toList.length:=by simp;omega
  have:=fold_set us (k+1) off (cells.setIfInBounds (off+k) u) (by simp;omega)
  rw[this]
  simp only[Array.toList_setIfInBounds]
  rw[show off+(k+1)=off+k+1 by omega,List.take_set,List.drop_set_of_lt (by omega)]
  rw[List.take_succ_eq_append_getElem hlen,List.set_append_right _ _ (by simp;omega)]
  have hm:min (off+k) cells.size=off+k:=Nat.min_eq_left (by simp at hlen;omega)
  simp[hm]
  rw[show off+k+1+us.length=off+k+(us.length+1) by omega]
theorem fill_sound(hvsl:∀(i:Nat)(v:Value),vs[i]? =some v->SlV v)(ht:TR bl vs st.tmps a){t:TypeId}{place:Nat->Option (Nat×Nat)}
  (hplace:(∃fs,P.underlying t=some (.struct fs)/\∀i f n,fs[i]? =some f->sizeT P f.type=some n->place i=some (f.offset,n))\/
   (∃m e,P.underlying t=some (.array m e)/\∀i n,sizeT P e=some n->place i=some (i*n,n))):
  ∀(parts:List (Nat×Operand))(cells:Array Value)(z l:List (SV (sem T)))(ps:List (Nat×List (SV (sem T)))),SVRs bl vs z cells.toList->
  buildParts P t (parts.map fun p=>(p.1,st.ev p.2))=some ps->fillParts z ps=some l->
  ∃cs,Instr.fill place cells (parts.map fun p=>(p.1,a.eval p.2))=some cs/\SVRs bl vs l cs.toList
 |[],cells,z,l,ps,hz,hb,hf=>by
  simp only[List.map_nil,buildParts,Option.some.injEq]at hb
  subst hb
  simp only[fillParts,Option.some.injEq]at hf
  subst hf
  exact⟨cells,rfl,hz⟩
 | (i, x)::parts,cells,z,l,ps,hz,hb,hf=>by
  have hx:=ev_sound ht x
  simp only[List.map_cons]at hb⊢
  have key:∃off r,ps=(off,cellsOf (st.ev x))::r/\buildParts P t (parts.map fun p=>(p.1,st.ev p.2))=some r/\place i=some (off,(cellsOf (st.ev x)).length)/\(cellsOf (st.ev x)).all isCell=true:=by
   unfold buildParts at hb
   rcases hplace with⟨fs,hu,hpl⟩|⟨m,e,hu,hpl⟩
   ·split at hb
    ·rename_i fs' r hu' hr
     rw[hu]at hu';cases hu'
     split at hb
     ·rename_i f hf'
      split at hb
      ·rename_i hc
       simp only[Bool.and_eq_true,beq_iff_eq]at hc
       cases hb
       exact⟨f.offset,r,rfl,hr,hpl i f _ hf' hc.1,hc.2⟩
      ·cases hb
     ·cases hb
    ·rename_i hu' _;rw[hu]at hu';cases hu'
    ·cases hb
   ·split at hb
    ·rename_i hu' _;rw[hu]at hu';cases hu'
    ·rename_i m' e' r hu' hr
     rw[hu]at hu';cases hu'
     split at hb
     ·rename_i n hn
      split at hb
      ·rename_i hc
       simp only[Bool.and_eq_true,beq_iff_eq]at hc
       cases hb
       obtain⟨rfl,hc2⟩:=hc
       exact⟨_,r,rfl,hr,hpl i _ hn,hc2⟩
      ·cases hb
     ·cases hb
    ·cases hb
  obtain⟨off,r,rfl,hr,hpl,hcell⟩:=key
  simp only[fillParts]at hf
  split at hf
  ·rename_i hle
   have hcs:=cells_sound hvsl hx hcell
   have hl1:=hcs.length
   have hl2:=hz.length
   simp only[Array.length_toList]at hl1 hl2
   have hset:SVRs bl vs (z.take off++cellsOf (st.ev x)++z.drop (off+(cellsOf (st.ev x)).length))
     (((a.eval x).cells.zipIdx.foldl (fun cs(p:Value×Nat)=>cs.setIfInBounds (off+p.2) p.1) cells)).toList:=by
    have:=fold_set (a.eval x).cells.toList 0 off cells (by simp;omega)
    rw[<-Array.foldl_toList,Array.toList_zipIdx,this]
    simp only[Nat.add_zero,Array.length_toList,<-hl1]
    exact((hz.take off).append hcs).append (hz.drop _)
   obtain⟨cs,h1,h2⟩:=fill_sound hvsl ht hplace parts _ _ l r hset hr hf
   refine⟨cs, ?_,h2⟩
   simp only[Instr.fill,hpl,hl1]
   rw[if_neg (by simp;omega)]
   exact h1
  ·cases hf
theorem run_mapM_fields:∀l:List Field,(∀f∈l,(sizeT P f.type).isSome=true)->
  (l.mapM fun f=>(do pure (f.offset,<-sizeOf f.type):Sem (Nat×Nat))).run P w= .ok (l.map fun f=>(f.offset,(sizeT P f.type).getD 0)) w
 |[],_=>by simp
 |f::l,h=>by
  obtain⟨n,hn⟩:=Option.isSome_iff_exists.1 (h f (by simp))
  have hn':=hn
  unfold sizeT at hn'
  obtain⟨i,hi,rfl⟩:=Option.map_eq_some_iff.1 hn'
  simp only[List.mapM_cons,Sem.run_bind,run_sizeOf' hi,Result.andThen_ok,Sem.run_pure,run_mapM_fields l (fun g hg=>h g (by simp[hg])),List.map_cons,hn,Option.getD_some]
theorem run_zero{t:TypeId}{i:TypeInfo}{v:Value}(hi:P.info? t=some i)(hz:i.zero=some v):(zeroValue t).run P w= .ok v w:=by
 simp[zeroValue,typeInfo,hi,hz]
theorem pure_build(hl:Look P R bl vs st.boxes st.ents w)(ht:TR bl vs st.tmps a){t:TypeId}{parts:Array (Nat×Operand)}(ho:o.op= .build t parts)
  (h:pBuild P st t parts=some p):PureOk T P bl vs w a o p:=by
 unfold pBuild at h
 split at h
 ·rename_i z ps hz hps
  obtain⟨l,hfl,h⟩:=Option.bind_eq_some_iff.1 h
  split at h
  ·rename_i hfo
   obtain⟨i,v,hi,hzv,hs⟩:=zeroCells_sound (bl:=bl) (vs:=vs) hz
   unfold fieldsOk at hfo
   have hparts:(Array.map (fun x=>(x.1,a.eval x.2)) parts).toList=parts.toList.map fun p=>(p.1,a.eval p.2):=by simp
   split at hfo
   ·rename_i fs hu
    have hall:∀f∈fs.toList,(sizeT P f.type).isSome=true:=List.all_eq_true.1 hfo
    obtain⟨cs,h1,h2⟩:=fill_sound (P:=P) (t:=t) (place:=fun i=>(fs.map fun f=>(f.offset,(sizeT P f.type).getD 0))[i]?) hl.vsl ht (.inl ⟨fs,hu,fun i f n hf hn=>by simp[hf,hn]⟩) parts.toList v.cells z l ps hs hps hfl
    refine pok (v:= .agg cs) (sv:= .agg l) ?_ ⟨cs,rfl,h2⟩ h
    have hm:(fs.mapM fun f=>(do pure (f.offset,<-sizeOf f.type):Sem (Nat×Nat))).run P w= .ok (fs.map fun f=>(f.offset,(sizeT P f.type).getD 0)) w:=by
     rw[Array.mapM_eq_mapM_toList,Sem.run_map,run_mapM_fields fs.toList hall]
     simp only[Result.andThen_ok]
     congr 1
     rw[<-Array.toList_inj]
     simp
    simp only[execOp,ho,Instr.build,Sem.run_bind,run_zero hi hzv,Result.andThen_ok,run_underlying hu,hm,hparts,h1,Sem.run_pure]
   ·rename_i m e hu
    obtain⟨n,hn⟩:=Option.isSome_iff_exists.1 hfo
    have hn':=hn
    unfold sizeT at hn'
    obtain⟨ie,hie,rfl⟩:=Option.map_eq_some_iff.1 hn'
    obtain⟨cs,h1,h2⟩:=fill_sound (P:=P) (t:=t) (place:=fun i=>some (i*ie.size,ie.size)) hl.vsl ht (.inr ⟨m,e,hu,fun i n hn2=>by rw[hn]at hn2;cases hn2;rfl⟩) parts.toList v.cells z l ps hs hps hfl
    refine pok (v:= .agg cs) (sv:= .agg l) ?_ ⟨cs,rfl,h2⟩ h
    simp only[execOp,ho,Instr.build,Sem.run_bind,run_zero hi hzv,Result.andThen_ok,run_underlying hu,run_sizeOf' hie,hparts,h1,Sem.run_pure]
   ·cases hfo
  ·cases h
 ·cases h
theorem pure_cap(ht:TR bl vs st.tmps a){args:Array Operand}{argTypes:Array TypeId}(ho:o.op= .call {callee:= .builtin .cap,args,argTypes})
  (h:pCap P st args argTypes=some p):PureOk T P bl vs w a o p:=by
 unfold pCap at h
 split at h
 ·rename_i x t hargs htys
  have hargs':args= #[x]:=by rw[<-Array.toList_inj];exact hargs
  have htys':argTypes= #[t]:=by rw[<-Array.toList_inj];exact htys
  subst hargs' htys'
  have hx:=ev_sound ht x
  split at h
  ·rename_i e hu hxx
   rw[hxx]at hx
   have hv:a.eval x= .slice none 0 0:=hx
   refine pok (v:= .int .i64 0) (sv:= .int .i64 ((sem T).lit 0)) ?_ ⟨rfl,(by decide:IntKind.i64.min<=0),(by decide:0<=IntKind.i64.max)⟩ h
   simp[execOp,ho,resolve,invoke,builtin,Builtin.cap_,hv,run_underlying hu,goInt]
  ·cases h
 ·cases h
theorem pure_index(ht:TR bl vs st.tmps a){t:TypeId}{x ix:Operand}(ho:o.op= .index t x ix)(h:pIndex P st t x ix=some p)(hn:∀q∈p.ns,q):PureOk T P bl vs w a o p:=by
 unfold pIndex at h
 have hx:=ev_sound ht x
 have hi:=ev_sound ht ix
 split at h
 ·rename_i y k i hu hxx hii
  rw[hxx]at hx
  rw[hii]at hi
  obtain⟨j,rfl⟩:∃j:Int,j=i:=⟨i,rfl⟩
  have hv:a.eval x= .string y:=hx
  cases h
  simp only[List.mem_cons,List.not_mem_nil,or_false,forall_eq_or_imp,forall_eq,sem]at hn
  obtain⟨h0,h1⟩:=hn
  have hlt:j.toNat<y.size:=by unfold ylen at h1;omega
  have hget:y[j.toNat]? =some (y[j.toNat]'hlt):=getElem?_pos y j.toNat hlt
  have hval:ychr y j=(((y[j.toNat]'hlt).toNat:Nat):Int):=by
   unfold ychr
   congr 2
   rw[List.getD_eq_getElem?_getD,List.getElem?_eq_getElem (by simpa using hlt)]
   rfl
  refine⟨.int .u8 (ychr y j), ?_,⟨rfl, ?_, ?_⟩,by simp⟩
  ·simp only[execOp,ho,Instr.index,hv,hi.1,asIntOf,Sem.run_bind,Sem.run_pure,Result.andThen_ok,run_underlying hu,if_pos h0,hget,hval]
  ·show IntKind.u8.min<=ychr y j
   rw[hval];simp[IntKind.min,IntKind.signed]
  ·show ychr y j<=IntKind.u8.max
   rw[hval]
   have:=UInt8.toNat_lt (y[j.toNat]'hlt)
   simp[IntKind.max,IntKind.signed,IntKind.bits]
   omega
 ·cases h
theorem pure_sliceY(ht:TR bl vs st.tmps a){t:TypeId}{x hi:Operand}(ho:o.op= .slice t x none (some hi) none)(h:pSliceY P st t x hi=some p)(hn:∀q∈p.ns,q):PureOk T P bl vs w a o p:=by
 unfold pSliceY at h
 have hx:=ev_sound ht x
 have hi':=ev_sound ht hi
 split at h
 ·rename_i y k i hu hxx hii
  rw[hxx]at hx
  rw[hii]at hi'
  obtain⟨j,rfl⟩:∃j:Int,j=i:=⟨i,rfl⟩
  have hv:a.eval x= .string y:=hx
  cases h
  simp only[List.mem_cons,List.not_mem_nil,or_false,forall_eq_or_imp,forall_eq,sem]at hn
  obtain⟨h0,h1⟩:=hn
  have h1:j<=(y.size:Int):=h1
  refine⟨.string (ysub y j), ?_,rfl,by simp⟩
  simp[execOp,ho,Instr.sliceAt,Instr.slice,Instr.sliceBounds,Instr.sliceBound,hv,hi'.1,asIntOf,run_underlying hu,h0,h1,ysub,Sem.run_bind,Sem.run_pure]
 ·cases h
theorem toCl0_rd{kk:K}{x:SV (sem T)}{c:CS}(h:toCl ([]:List (Ent (sem T))) kk x=some c){v:Value}(hs:SVR bl vs x v):Rd P w R c.toD kk v:=by
 unfold toCl at h
 split at h
 ·split at h
  ·rename_i k k' x hk
   have:k=k':=by simpa using hk
   subst this
   cases h
   exact⟨k,rfl,hs.1,hs.2⟩
  ·cases h
 ·rename_i b
  cases h
  have hs:v= .bool b:=hs
  subst hs
  cases b<;>exact⟨rfl,rfl⟩
 ·rename_i b
  cases h
  exact⟨rfl,hs⟩
 ·rename_i y
  cases h
  exact⟨rfl,hs⟩
 ·simp at h
 ·rename_i e'
  cases h
  have hs:v= .slice none 0 0:=hs
  subst hs
  exact⟨e',none,0,rfl,rfl,Nat.le_refl _,Nat.zero_le _,fun _=>rfl,fun ks i j kk _ hi=>absurd hi (Nat.not_lt_zero _)⟩
 ·cases h
theorem toCls0_rd:∀{ks:List K}{s:List (SV (sem T))}{cs:List CS},toCls ([]:List (Ent (sem T))) ks s=some cs->∀{v:List Value},SVRs bl vs s v->
  cs.length=ks.length/\v.length=ks.length/\∀(j:Nat)(kk:K),ks[j]? =some kk->∃c u,cs[j]? =some c/\v[j]? =some u/\Rd P w R c.toD kk u
 |[],[],cs,hh,v,hv=>by
  simp only[toCls,Option.some.injEq]at hh
  subst hh
  cases v with
  |nil=>exact⟨rfl,rfl,by simp⟩
  |cons=>exact hv.elim
 |[],_::_,cs,hh,v,hv=>by simp[toCls]at hh
 |_::_,[],cs,hh,v,hv=>by simp[toCls]at hh
 | kk::ks,x::s,cs,hh,v,hv=>by
  cases v with
  |nil=>exact hv.elim
  | cons u v=>
   simp only[toCls]at hh
   split at hh
   ·rename_i c cs' hc hcs
    cases hh
    obtain⟨h1,h2,h3⟩:=toCls0_rd hcs hv.2
    refine⟨by simp[h1],by simp[h2],fun j kk' hj=> ?_⟩
    cases j with
    |zero=>
     simp at hj;subst hj
     exact⟨c,u,rfl,rfl,toCl0_rd hc hv.1⟩
    |succ j=>simpa using h3 j kk' (by simpa using hj)
   ·cases hh
theorem zeroElem{e:TypeId}{z:List CS}{ks:List K}(hz:zeroCls (A:=sem T) P e=some z)(hks:kinds P e=some ks)(ha:isAggT P e=zeroAgg P e):
  ∃v,(zeroValue e).run P w= .ok v w/\Elem P w R e (fun j=>(z.map Cl.toD).getD j (.int 0)) v:=by
 unfold zeroCls at hz
 split at hz
 ·rename_i ks' zc hks' hzc
  rw[hks]at hks';cases hks'
  obtain⟨i,v,hi,hzv,hs⟩:=zeroCells_sound (bl:=[]) (vs:=[]) hzc
  obtain⟨h1,h2,h3⟩:=toCls0_rd (P:=P) (w:=w) (R:=R) hz hs
  refine⟨v,run_zero hi hzv,fun ks2 hk2=> ?_⟩
  rw[hks]at hk2;cases hk2
  have hag:zeroAgg P e=(match v with| .agg _=>true|_=>false):=by
   unfold zeroAgg
   rw[hi]
   simp only[Option.bind_some,hzv]
   cases v<;>rfl
  refine⟨by simpa using h2,fun hh=> ?_,fun hh=> ?_,fun j kk hj=> ?_⟩
  ·rw[ha,hag]at hh
   cases v<;>first|exact⟨_,rfl⟩|cases hh
  ·rw[ha,hag]at hh
   cases v<;>first|rfl|cases hh
  ·obtain⟨c,u,hc,hu,hr⟩:=h3 j kk hj
   refine⟨u,by simpa using hu, ?_⟩
   have e1:(z.map Cl.toD).getD j (.int 0)=c.toD:=by rw[List.getD_eq_getElem?_getD,List.getElem?_map,hc];rfl
   show Rd P w R ((z.map Cl.toD).getD j (.int 0)) kk u
   rw[e1];exact hr
 ·cases hz
theorem mapShape_inv{t e:TypeId}{k:IntKind}{ks:List K}(h:mapShape P t=some (k,e,ks)):∃kt,P.underlying t=some (.map kt e)/\P.underlying kt=some (.int k)/\kinds P e=some ks:=by
 unfold mapShape at h
 split at h
 ·cases h
 split at h
 ·rename_i kt e' hu
  split at h
  ·rename_i k' ks' hk hks
   cases h
   exact⟨kt,hu,hk,hks⟩
  ·cases h
 ·cases h
theorem mapShape_L{t:TypeId}{x:IntKind×TypeId×List K}(h:mapShape P t=some x):isL (mapT t)=false:=by
 unfold mapShape at h
 split at h
 ·cases h
 ·rename_i hl
  cases hh:isL (mapT t)with
  |false=>rfl
  |true=>
   have h1:=Nat.le_of_ble_eq_true hh
   have h2:t<1000000000:=Nat.lt_of_not_le fun h=>hl (Nat.ble_eq_true_of_le h)
   have h3:(1000000000:Nat)<=t:=Nat.le_of_add_le_add_right (b:=1000000000) h1
   exact absurd h3 (Nat.not_le_of_lt h2)
theorem mapEnt_inv{st:St (sem T)}{t:TypeId}{x:SV (sem T)}{id:Nat}{en:Ent (sem T)}(h:mapEnt st t x=some (id,en)):x= .sl id/\st.ents[id]? =some en/\en.live=true/\en.own=true/\en.elem=mapT t:=by
 unfold mapEnt at h
 split at h
 ·rename_i id'
  split at h
  ·rename_i en' hen
   split at h
   ·rename_i hc
    simp only[Bool.and_eq_true,beq_iff_eq]at hc
    cases h
    exact⟨rfl,hen,hc.1,hc.2.1,hc.2.2⟩
   ·cases h
  ·cases h
 ·cases h
theorem isM_mapT(t:TypeId):isM (mapT t)=true:=by
 unfold isM mapT
 exact Nat.ble_eq_true_of_le (Nat.le_add_left _ _)
theorem mapT_sub(t:TypeId):unM (mapT t)=t:=Nat.add_sub_cancel t 1000000000
theorem run_lookup_map{t kt e:TypeId}{ik:IntKind}(hu:P.underlying t=some (.map kt e))(hk:P.underlying kt=some (.int ik)){b:Nat}{s:Sl}{z:List D}(hc:MapC P w R t s b){i:Int}
  {zv:Value} (hz:(zeroValue e).run P w= .ok zv w) (hze:Elem P w R e (fun j=>z.getD j (.int 0)) zv):
  ∃v,Elem P w R e (fun j=>Sl.mrow s i z j) v/\∀ok,(Instr.lookup t (.map (some b)) (.int ik i) ok).run P w= .ok (if ok then .tuple #[v, .bool (Sl.mhas s i)]else v) w:=by
 obtain⟨es,clock,ik',kt',e',hb,hu',hk',hrel⟩:=hc
 rw[hu]at hu';cases hu'
 rw[hk]at hk';cases hk'
 have hob:(getObj b).run P w= .ok (.map es clock) w:=by simp[getObj,Sem.run,hb]
 have hck:(Instr.checkKey es.isEmpty 10000 kt (.int ik i)).run P w= .ok () w:=by
  unfold Instr.checkKey
  simp only[Sem.run_bind,run_underlying hk,Result.andThen_ok,Sem.run_pure]
 have hfk:(Instr.findKey kt (.int ik i) es.toList).run P w= .ok (mfirst i es.toList 0) w:=by
  unfold Instr.findKey
  simp only[Sem.run_bind,run_underlying hk,Result.andThen_ok,findNow_ints es.toList 0 hrel.1,Sem.run_pure]
 have hag:=hrel.2 i
 have hrow:(fun j=>Sl.mrow s i z j)=match s.mfind i s.n with
   |some q=>fun j=>s.f q (j+1)
   |none=>fun j=>z.getD j (.int 0):=by
  funext j
  unfold Sl.mrow
  cases s.mfind i s.n<;>rfl
 have hhas:Sl.mhas s i=(s.mfind i s.n).isSome:=rfl
 generalize hfa:mfirst i es.toList 0=fa at hag hfk
 generalize hfb:s.mfind i s.n=fb at hag hrow hhas
 cases fa with
 | none=>
  cases fb with
  |none=>
   refine⟨zv,by rw[hrow];exact hze,fun ok=> ?_⟩
   rw[hhas]
   simp only[Instr.lookup,Sem.run_bind,run_underlying hu,hob,hck,hfk,hz,Result.andThen_ok,Sem.run_pure]
   cases ok<;>rfl
  |some q=>exact hag.elim
 | some x=>
  cases fb with
  |none=>exact hag.elim
  |some q=>
   refine⟨x.2,by rw[hrow];exact hag,fun ok=> ?_⟩
   rw[hhas]
   simp only[Instr.lookup,Sem.run_bind,run_underlying hu,hob,hck,hfk,Result.andThen_ok,Sem.run_pure]
   cases ok<;>rfl
theorem elem_pack{e:TypeId}{ks:List K}{f:Nat->D}{v:Value}{l:List (SV (sem T))}{sv:SV (sem T)}(he:Elem P w R e f v)(hks:kinds P e=some ks)(hp:pack P e l=some sv)(hl:SVRs bl vs l v.cells.toList):SVR bl vs sv v:=by
 obtain⟨h1,h2,h3,_⟩:=he ks hks
 rcases pack_inv hp with⟨ha,rfl⟩|⟨ha,rfl⟩
 ·obtain⟨cs,rfl⟩:=h2 ha
  exact⟨cs,rfl,hl⟩
 ·rw[h3 ha]at hl
  exact hl.1
theorem cells_range{v:Value}{n:Nat}(h:v.cells.size=n):(List.range' 0 n).map (fun j=>v.cells.getD j undef)=v.cells.toList:=by
 apply List.ext_getElem?
 intro j
 rw[List.getElem?_map]
 by_cases hj:j<n
 ·rw[List.getElem?_range' hj]
  simp[show j<v.cells.size by omega]
 ·rw[List.getElem?_eq_none (by simp;omega),List.getElem?_eq_none (by simp;omega)]
  rfl
theorem lookV_sound{sv:SV (sem T)}{v:Value}(h:SVR bl vs sv v)(b:Bool)(ok:Bool):SVR bl vs (lookV ok sv ⟨b=true,inferInstance⟩) (if ok then .tuple #[v, .bool b]else v):=by
 cases ok with
 |false=>exact h
 |true=>
  refine⟨_,rfl,h, ?_,trivial⟩
  cases b<;>simp[SVR,PB.b]
theorem pure_lookup(hl:Look P R bl vs st.boxes st.ents w)(ht:TR bl vs st.tmps a){t:TypeId}{x ix:Operand}{ok:Bool}(ho:o.op= .lookup t x ix ok)(h:pLookup P st t x ix ok=some p):PureOk T P bl vs w a o p:=by
 unfold pLookup at h
 have hx:=ev_sound ht x
 have hi:=ev_sound ht ix
 split at h
 ·rename_i k e ks id en k' i hsh hme hii
  obtain⟨kt,hu,hk,hks⟩:=mapShape_inv hsh
  obtain⟨hxx,hen,hlive,hown,hel⟩:=mapEnt_inv hme
  rw[hxx]at hx
  rw[hii]at hi
  split at h
  ·rename_i hkk
   simp only[Bool.and_eq_true,beq_iff_eq]at hkk
   obtain⟨rfl,hag⟩:=hkk
   split at h
   ·rename_i z hz
    split at h
    ·rename_i l hel2
     split at h
     ·rename_i sv hp
      cases h
      obtain⟨v0,hv0,hcc⟩:=hl.ent id en hen hlive
      have hx:vs[id]? =some (a.eval x):=hx
      rw[hx]at hv0;cases hv0
      obtain⟨b,hb,hmc⟩:=hcc.2.1 (by rw[hel];exact isM_mapT t) (by rw[hel];exact mapShape_L hsh) hown
      rw[hel,mapT_sub]at hmc
      obtain⟨zv,hzr,hze⟩:=zeroElem (w:=w) (R:=R) hz hks hag
      obtain⟨v,hv,hrun⟩:=run_lookup_map hu hk (s:=en.s) (i:=i) hmc hzr hze
      have hsz:=(hv ks hks).1
      have hsound:=elemCells_sound (rg:=st.rg) (T:=T) (P:=P) (w:=w) (R:=R) (bl:=bl) (vs:=vs) (s:=Sl.mget en.s i (z.map Cl.toD)) (i:=0) (f:=fun j=>v.cells.getD j undef) hel2 (fun m kk hm=>by
       obtain⟨u,hu1,hu2⟩:=(hv ks hks).2.2.2 m kk hm
       simp only[Nat.zero_add,Array.getD_eq_getD_getElem?,hu1,Option.getD_some]
       exact hu2)
      rw[cells_range hsz]at hsound
      refine⟨_, ?_,lookV_sound (elem_pack hv hks hp hsound.1) _ ok,hsound.2⟩
      simp only[execOp,ho,hb,hi.1,hrun ok,Sem.run_bind,Sem.run_pure,Result.andThen_ok]
     ·cases h
    ·cases h
   ·cases h
  ·cases h
 ·cases h
theorem pure_sound(hl:Look P R bl vs st.boxes st.ents w)(ht:TR bl vs st.tmps a)(h:pureOp P st o=some p)(hn:∀q∈p.ns,q):PureOk T P bl vs w a o p:=by
 unfold pureOp at h
 split at h
 ·rename_i x ho;exact pure_move ht (.inl ho) h
 ·rename_i x ho;exact pure_move ht (.inr ho) h
 ·rename_i c x y ho;exact pure_pick ht ho h
 ·rename_i t x f ho;exact pure_fieldAddr ht ho h
 ·rename_i t x ho;exact pure_load hl ht ho h
 ·rename_i t x ix ho;exact pure_indexAddr hl ht ho h hn
 ·rename_i x ho;exact pure_nilCheck ht ho h
 ·rename_i op t x y t' ho;exact pure_bin ht ho h hn
 ·rename_i op t x ho;exact pure_un ht ho h hn
 ·rename_i src dst x ho;exact pure_convert ht ho h
 ·rename_i f first caps ho;exact pure_makeFunc ht ho h
 ·rename_i t parts ho;exact pure_build hl ht ho h
 ·rename_i t x f ho;exact pure_field ht ho h
 ·rename_i x ix ho;exact pure_extract ht ho h
 ·rename_i args argTypes ho;exact pure_len hl ht ho h hn
 ·rename_i args argTypes ho;exact pure_cap ht ho h
 ·rename_i t x ix ho;exact pure_index ht ho h hn
 ·rename_i t x ix ok ho;exact pure_lookup hl ht ho h
 ·rename_i args argTypes ho;exact pure_min ht ho h
 ·rename_i args argTypes ho;exact pure_max ht ho h
 ·rename_i t x hi ho;exact pure_sliceY ht ho h hn
 ·cases h
end Go.Sx
namespace Go.Sx
open Go.RowKit (Below)
abbrev mkO:Obj:= .deferred (some [])
inductive Owner where
 |box (i:Nat)
 |ent (i:Nat)
 |mark (l:Nat) (mo:Obj)
variable{T:FuncId->Pred}{P:Program}
def OwnS(P:Program)(w:World)(R:Nat->Prop)(ow:Nat->Option Owner)(i:Nat)(elem:TypeId)(s:Sl)(v:Value):Prop:=
 ∃ a cap,v= .slice a s.n cap/\s.n<=min cap 140737488355328/\cap<=maxLen/\(a=none->cap=0)/\
  (cap=0\/∃(b:Nat)(cs:Array Value),a=some ⟨b,0,none⟩/\ow b=some (.ent i)/\w.heap[b]? =some (.cells cs elem (0,0))/\∀ks,kinds P elem=some ks->cs.size=cap*ks.length/\
   ∀j k kk,j<s.n->ks[k]? =some kk->∃u,cs[j*ks.length+k]? =some u/\Rd P w R (s.f j k) kk u)
def OwnM(P:Program)(w:World)(R:Nat->Prop)(ow:Nat->Option Owner)(i:Nat)(t:TypeId)(s:Sl)(v:Value):Prop:=
 ∃b,v= .map (some b)/\ow b=some (.ent i)/\MapC P w R t s b
def OwnL(P:Program)(w:World)(R:Nat->Prop)(ow:Nat->Option Owner)(i:Nat)(elem:TypeId)(s:Sl)(v:Value):Prop:=
 (isX elem=true->Mx P w R (fun b=>ow b=some (.ent i)) (unX elem) s v)/\
 (isX elem=false->(isD elem=true->Dp P w (fun b=>ow b=some (.ent i)) (.sl s.n s.f) (.sl (unD elem)) v)/\(isD elem=false->Lt P w (fun b=>ow b=some (.ent i)) (.sl s.n s.f) (.sl (unL elem)) v))
theorem OwnL.mono{P:Program}{w w':World}{R R':Nat->Prop}{ow ow':Nat->Option Owner}{i i':Nat}{e:TypeId}{s:Sl}{v:Value}(h:OwnL P w R ow i e s v)(hR:∀b,R b->R' b)(hwR:∀b,R b->w'.heap[b]? =w.heap[b]?)(ho:∀b,ow b=some (.ent i)->b<w.heap.size->ow' b=some (.ent i'))(hw:∀b,ow b=some (.ent i)->w'.heap[b]? =w.heap[b]?):OwnL P w' R' ow' i' e s v:=
 ⟨fun hx=>(h.1 hx).mono hR hwR ho hw,fun hx=>⟨fun hd=>Dp.mono ho hw ((h.2 hx).1 hd),fun hd=>Lt.mono ho hw ((h.2 hx).2 hd)⟩⟩
theorem OwnL.slv{P:Program}{w:World}{R:Nat->Prop}{ow:Nat->Option Owner}{i:Nat}{e:TypeId}{s:Sl}{v:Value}(h:OwnL P w R ow i e s v):∃a m c,v= .slice a m c:=by
 cases hx:isX e with
 |true=>obtain⟨a,cap,hv,_⟩:=h.1 hx;exact⟨_,_,_,hv⟩
 |false=>
  cases hd:isD e with
  |true=>exact Dp.slv ((h.2 hx).1 hd)
  |false=>exact Lt.slv ((h.2 hx).2 hd)
def Own(P:Program)(w:World)(R:Nat->Prop)(ow:Nat->Option Owner)(i:Nat)(elem:TypeId)(s:Sl)(v:Value):Prop:=
 (isM elem=false->OwnS P w R ow i elem s v)/\(isM elem=true->OwnM P w R ow i (unM elem) s v\/(isL elem=true/\OwnL P w R ow i elem s v))
structure LStat(T:FuncId->Pred) where
 params:Array Tmp
 assign:Code
 body:Code
 tmps:List (SV (sem T))
 busy:Bool
structure Bs(T:FuncId->Pred) where
 R:Nat->Prop
 lps:Nat->Option (LStat T)
def jpCode:Jp->Option (Option Code)
 | .none=>some none
 | .ret=>some (some .ret)
 | .exit id=>some (some (.exit id))
 | .bad=>none
def LpOk(bl:List Nat)(vs:List Value)(L:LStat T)(cells:List (SV (sem T)))(o:Option Obj):Prop:=
 ∃r:Loop,o=some (.loop r)/\r.params=L.params/\r.assign=L.assign/\r.body=L.body/\SVRs bl vs L.tmps r.tmps.toList/\
  ∃j,jpCode (jpOf cells)=some j/\r.pending=j/\r.state=(if L.busy then .busy else match j with|none=> .ready|some _=> .done)/\(L.busy=true->j=none)
theorem LpOk.mono{bl bl':List Nat}{vs vs':List Value}{L:LStat T}{cells:List (SV (sem T))}{o o':Option Obj}(h:LpOk bl vs L cells o)(ho:o'=o)(hb:∀(i:Nat)(b:Nat),bl[i]? =some b->bl'[i]? =some b)
  (hv:∀(i:Nat)(v:Value),vs[i]? =some v->vs'[i]? =some v):LpOk bl' vs' L cells o':=by
 obtain⟨r,h1,h2,h3,h4,h5,h6⟩:=h
 exact⟨r,ho.trans h1,h2,h3,h4,h5.mono hb hv,h6⟩
structure HR(P:Program)(w0:World)(R0:Bs T)(bl:List Nat)(vs:List Value)(R:Nat->Prop)(ow:Nat->Option Owner)
  (boxes:List (Box (sem T))) (ents:List (Ent (sem T))) (w:World):Prop where
 below:Below w0.heap.size w0 w
 rlt:∀b,R b->b<w.heap.size
 r0:∀b,R0.R b->R b
 rsub:∀b,R b->R0.R b\/w0.heap.size<=b
 ro:∀b,R b->ow b=none
 olt:∀b o,ow b=some o->w0.heap.size<=b/\b<w.heap.size
 nb:bl.length=boxes.length
 nv:vs.length=ents.length
 vsl:∀(i:Nat)(v:Value),vs[i]? =some v->SlV v
 box:∀(i:Nat)(bx:Box (sem T)),boxes[i]? =some bx->bx.live=true->∃(b:Nat)(cs:Array Value),bl[i]? =some b/\ow b=some (.box i)/\w.heap[b]? =some (.cells cs bx.ty (0,0))/\SVRs bl vs bx.cells cs.toList
 ent:∀(i:Nat)(e:Ent (sem T)),ents[i]? =some e->e.live=true->∃v:Value,vs[i]? =some v/\
  (e.own=false->Rd P w R (.sl e.s.n e.s.f) (.sl e.elem) v)/\(e.own=true->Own P w R ow i e.elem e.s v)
 mrk:∀{l:Nat}{mo:Obj} b,ow b=some (.mark l mo)->w.heap[b]? =some mo
 lp:∀i L,R0.lps i=some L->∃bx b,boxes[i]? =some bx/\bx.live=false/\bl[i]? =some b/\ow b=some (.box i)/\LpOk bl vs L bx.cells w.heap[b]?
 glb:GlobOk P w0
section
variable{w0 w w':World}{R0:Bs T}{R:Nat->Prop}{bl:List Nat}{vs:List Value}{ow:Nat->Option Owner}{boxes:List (Box (sem T))}{ents:List (Ent (sem T))}
theorem OwnS.cont{i:Nat}{e:TypeId}{s:Sl}{v:Value}(h:OwnS P w R ow i e s v):Cont P w R e s v:=by
 obtain⟨a,cap,hv,h1,h2,ha,hc⟩:=h
 refine⟨a,cap,hv,h1,h2,ha,fun ks i j kk hk hi hj=> ?_⟩
 rcases hc with hc|⟨b,cs,hab,_,hcs,hcont⟩
 ·omega
 ·obtain⟨u,hu,hr⟩:=(hcont ks hk).2 i j kk hi hj
  refine⟨_,u,hab,rfl, ?_,hr⟩
  simp[World.cell?,hcs,hu]
theorem OwnM.cont{i:Nat}{t:TypeId}{s:Sl}{v:Value}(h:OwnM P w R ow i t s v):∃b,v= .map (some b)/\MapC P w R t s b:=by
 obtain⟨b,h1,_,h2⟩:=h
 exact⟨b,h1,h2⟩
theorem isM_of_isX{e:TypeId}(h:isX e=true):isM e=true:=Nat.ble_eq_true_of_le (Nat.le_trans (Nat.le_of_ble_eq_true (n:=1000000000) (m:=4000000000) rfl) (Nat.le_of_ble_eq_true h))
theorem noMap_M{t:TypeId}(hn:noMap P t=true){kt e:TypeId}(hu:P.underlying t=some (.map kt e)):False:=by
 unfold noMap at hn
 rw[hu]at hn
 exact absurd hn Bool.false_ne_true
theorem mixOk_inv{en:Ent (sem T)}(h:mixOk P en=true):isX en.elem=true/\en.live=true/\en.own=true/\noMap P (unM en.elem)=true:=by
 unfold mixOk at h
 simpa only[Bool.and_eq_true]using h
theorem Own.mix{i:Nat}{en:Ent (sem T)}{s:Sl}{v:Value}(h:Own P w R ow i en.elem s v)(hX:mixOk P en=true):Mx P w R (fun b=>ow b=some (.ent i)) (unX en.elem) s v:=by
 obtain⟨h1,_,_,h4⟩:=mixOk_inv hX
 rcases h.2 (isM_of_isX h1)with⟨b,_,_,es,clock,ik,kt,e2,_,hun,_⟩|hM
 ·exact(noMap_M h4 hun).elim
 ·exact hM.2.1 h1
theorem HR.look(h:HR P w0 R0 bl vs R ow boxes ents w):Look P R bl vs boxes ents w where
 box:=fun i bx hi hl=>let⟨b,cs,h1,_,h2,h3⟩:=h.box i bx hi hl;⟨b,cs,h1,h2,h3⟩
 ent:=fun i e hi hl=>by
  obtain⟨v,hv,h1,h2⟩:=h.ent i e hi hl
  refine⟨v,hv, ?_⟩
  cases ho:e.own
  ·exact⟨fun _=>(h1 ho).cont,fun _ _ hh=>(by rw[ho]at hh;cases hh),fun hh=>(by have:=(mixOk_inv hh).2.2.1;rw[ho]at this;cases this)⟩
  ·refine⟨fun hm=>((h2 ho).1 hm).cont,fun hm hL _=> ?_,fun hX=> ?_⟩
   ·rcases(h2 ho).2 hm with h|⟨h,_⟩
    ·exact h.cont
    ·rw[hL]at h;cases h
   ·obtain⟨a,cap,hv,g1,g2,g3,g4⟩:=(h2 ho).mix hX
    refine⟨a,cap,hv,by omega,g3,fun ad had hpos=> ?_⟩
    rcases g4 with g4|⟨b,cs,hab,_⟩
    ·omega
    ·rw[had]at hab;cases hab;rfl
 vsl:=h.vsl
 glb:=h.glb.below h.below
theorem OwnS.mono{i:Nat}{e:TypeId}{s:Sl}{v:Value}{R':Nat->Prop}{ow':Nat->Option Owner}(h:OwnS P w R ow i e s v)
  (hR:∀b,R b->R' b) (hw:∀b,R b->w'.heap[b]? =w.heap[b]?) (ho:∀b,ow b=some (.ent i)->ow' b=some (.ent i)/\w'.heap[b]? =w.heap[b]?):OwnS P w' R' ow' i e s v:=by
 obtain⟨a,cap,hv,h1,h2,ha,hc⟩:=h
 refine⟨a,cap,hv,h1,h2,ha, ?_⟩
 rcases hc with hc|⟨b,cs,hab,hob,hcs,hcont⟩
 ·exact .inl hc
 ·refine .inr ⟨b,cs,hab,(ho b hob).1,(ho b hob).2.trans hcs,fun ks hks=>⟨(hcont ks hks).1,fun j k kk hj hk=> ?_⟩⟩
  obtain⟨u,hu,hr⟩:=(hcont ks hks).2 j k kk hj hk
  exact⟨u,hu,hr.mono hR hw⟩
theorem Own.mono{i:Nat}{e:TypeId}{s:Sl}{v:Value}{R':Nat->Prop}{ow':Nat->Option Owner}(h:Own P w R ow i e s v)
  (hR:∀b,R b->R' b) (hw:∀b,R b->w'.heap[b]? =w.heap[b]?) (ho:∀b,ow b=some (.ent i)->ow' b=some (.ent i)/\w'.heap[b]? =w.heap[b]?):Own P w' R' ow' i e s v:=by
 refine⟨fun hm=>(h.1 hm).mono hR hw ho,fun hm=> ?_⟩
 rcases h.2 hm with⟨b,h1,h2,h3⟩|⟨hl,h3⟩
 ·exact .inl ⟨b,h1,(ho b h2).1,h3.mono hR hw (ho b h2).2⟩
 ·exact .inr ⟨hl,h3.mono hR hw (fun b hb _=>(ho b hb).1) (fun b hb=>(ho b hb).2)⟩
theorem Own.slv{i:Nat}{e:TypeId}{s:Sl}{v:Value}(h:Own P w R ow i e s v):SlV v:=by
 cases hm:isM e with
 |false=>obtain⟨a,cap,hv,_⟩:=h.1 hm;exact .inl ⟨_,_,_,hv⟩
 | true=>
  rcases h.2 hm with⟨b,hv,_⟩|⟨_,hl⟩
  ·exact .inr ⟨b,hv⟩
  ·obtain⟨a,m,c,hv⟩:=hl.slv
   exact .inl ⟨_,_,_,hv⟩
theorem Own.relabel{i n:Nat}{e:TypeId}{s:Sl}{v:Value}{ow':Nat->Option Owner}(h:Own P w R ow i e s v)(ho:∀b,ow b=some (.ent i)->b<w.heap.size->ow' b=some (.ent n)):Own P w R ow' n e s v:=by
 refine⟨fun hm=> ?_,fun hm=> ?_⟩
 ·obtain⟨a,cap,hv,h1,h2,ha,hc⟩:=h.1 hm
  refine⟨a,cap,hv,h1,h2,ha, ?_⟩
  rcases hc with hc|⟨b,cs,hab,hob,hcs,hcont⟩
  ·exact .inl hc
  ·exact .inr ⟨b,cs,hab,ho b hob (Array.getElem?_eq_some_iff.1 hcs).1,hcs,hcont⟩
 ·rcases h.2 hm with⟨b,hv,hob,hc⟩|⟨hl,hc⟩
  ·have hlt:b<w.heap.size:=by obtain⟨es,clock,_,_,_,hcs,_⟩:=hc;exact(Array.getElem?_eq_some_iff.1 hcs).1
   exact .inl ⟨b,hv,ho b hob hlt,hc⟩
  ·exact .inr ⟨hl,hc.mono (fun _ x=>x) (fun _ _=>rfl) (fun b hb hlt=>ho b hb hlt) (fun _ _=>rfl)⟩
theorem HR.grow(h:HR P w0 R0 bl vs R ow boxes ents w)(hb:Below w.heap.size w w'):HR P w0 R0 bl vs R ow boxes ents w' where
 below:=h.below.trans (hb.mono h.below.size)
 rlt:=fun b hr=>Nat.lt_of_lt_of_le (h.rlt b hr) hb.size
 r0:=h.r0
 rsub:=h.rsub
 ro:=h.ro
 olt:=fun b o ho=>⟨(h.olt b o ho).1,Nat.lt_of_lt_of_le (h.olt b o ho).2 hb.size⟩
 nb:=h.nb
 nv:=h.nv
 vsl:=h.vsl
 glb:=h.glb
 box:=fun i bx hi hl=>by
  obtain⟨b,cs,h1,h2,h3,h4⟩:=h.box i bx hi hl
  exact⟨b,cs,h1,h2,(hb.block b (h.olt b _ h2).2).trans h3,h4⟩
 ent:=fun i e hi hl=>by
  obtain⟨v,hv,h1,h2⟩:=h.ent i e hi hl
  exact⟨v,hv,fun ho=>(h1 ho).mono (fun _ x=>x) (fun b hr=>hb.block b (h.rlt b hr)),
   fun ho=>(h2 ho).mono (fun _ x=>x) (fun b hr=>hb.block b (h.rlt b hr)) (fun b hb'=>⟨hb',hb.block b (h.olt b _ hb').2⟩)⟩
 mrk:=fun b hb'=>(hb.block b (h.olt b _ hb').2).trans (h.mrk b hb')
 lp:=fun i L hi=>by
  obtain⟨bx,b,h1,h2,h3,h4,h5⟩:=h.lp i L hi
  exact⟨bx,b,h1,h2,h3,h4,h5.mono (hb.block b (h.olt b _ h4).2) (fun _ _ x=>x) (fun _ _ x=>x)⟩
theorem get_append_lt{α:Type}{l l':List α}{i:Nat}{x:α}(h:l[i]? =some x):(l++l')[i]? =some x:=by
 have:i<l.length:=by
  rcases Nat.lt_or_ge i l.length with h'|h'
  ·exact h'
  ·rw[List.getElem?_eq_none h']at h;cases h
 rw[List.getElem?_append_left this];exact h
theorem get_append_inv{α:Type}{l:List α}{y:α}{i:Nat}{x:α}(h:(l++[y])[i]? =some x):l[i]? =some x\/(i=l.length/\x=y):=by
 rcases Nat.lt_or_ge i l.length with h'|h'
 ·rw[List.getElem?_append_left h']at h;exact .inl h
 ·rw[List.getElem?_append_right h']at h
  have:i-l.length=0:=by
   cases hh:i-l.length with
   |zero=>rfl
   |succ n=>rw[hh]at h;simp at h
  rw[this]at h
  simp at h
  exact .inr ⟨by omega,h.symm⟩
def setOw(ow:Nat->Option Owner)(b:Nat)(o:Option Owner):Nat->Option Owner:=fun x=>if x=b then o else ow x
theorem setOw_ne{ow:Nat->Option Owner}{b x:Nat}{o:Option Owner}(h:x≠b):setOw ow b o x=ow x:=by simp[setOw,h]
theorem setOw_eq{ow:Nat->Option Owner}{b:Nat}{o:Option Owner}:setOw ow b o b=o:=by simp[setOw]
theorem HR.pushBox(h:HR P w0 R0 bl vs R ow boxes ents w){b:Nat}{ty:TypeId}{cs:Array Value}{cells:List (SV (sem T))}(hw:w.heap[b]? =some (.cells cs ty (0,0)))
  (hb:w0.heap.size<=b) (ho:ow b=none) (hR:¬R b) (hs:SVRs bl vs cells cs.toList):
  HR P w0 R0 (bl++[b]) vs R (setOw ow b (some (.box boxes.length))) (boxes++[⟨ty,cells,0,true⟩]) ents w where
 below:=h.below
 rlt:=h.rlt
 r0:=h.r0
 rsub:=h.rsub
 ro:=fun x hx=>by
  rw[setOw_ne (fun e:x=b=>hR (by rw[<-e];exact hx))];exact h.ro x hx
 olt:=fun x o hx=>by
  by_cases e:x=b
  ·subst e;exact⟨hb,(Array.getElem?_eq_some_iff.1 hw).1⟩
  ·rw[setOw_ne e]at hx;exact h.olt x o hx
 nb:=by simp[h.nb]
 nv:=h.nv
 vsl:=h.vsl
 glb:=h.glb
 box:=fun i bx hi hl=>by
  rcases get_append_inv hi with hi|⟨rfl,rfl⟩
  ·obtain⟨b',cs',h1,h2,h3,h4⟩:=h.box i bx hi hl
   have hne:b'≠b:=fun e=>by rw[e,ho]at h2;cases h2
   exact⟨b',cs',get_append_lt h1,by rw[setOw_ne hne];exact h2,h3,h4.mono (fun _ _=>get_append_lt) (fun _ _ x=>x)⟩
  ·refine⟨b,cs, ?_,setOw_eq,hw,hs.mono (fun _ _=>get_append_lt) (fun _ _ x=>x)⟩
   rw[<-h.nb,List.getElem?_append_right (Nat.le_refl _)];simp
 ent:=fun i e hi hl=>by
  obtain⟨v,hv,h1,h2⟩:=h.ent i e hi hl
  refine⟨v,hv,h1,fun hown=>(h2 hown).mono (fun _ x=>x) (fun _ _=>rfl) (fun x hx=>⟨?_,rfl⟩)⟩
  have hne:x≠b:=fun e=>by rw[e,ho]at hx;cases hx
  rw[setOw_ne hne];exact hx
 mrk:=fun x hx=>by
  by_cases e:x=b
  ·subst e;rw[setOw_eq]at hx;cases hx
  ·rw[setOw_ne e]at hx;exact h.mrk x hx
 lp:=fun i L hi=>by
  obtain⟨bx,x,h1,h2,h3,h4,h5⟩:=h.lp i L hi
  have hne:x≠b:=fun e=>by rw[e,ho]at h4;cases h4
  exact⟨bx,x,get_append_lt h1,h2,get_append_lt h3,by rw[setOw_ne hne];exact h4,h5.mono rfl (fun _ _=>get_append_lt) (fun _ _ x=>x)⟩
theorem HR.pushRo(h:HR P w0 R0 bl vs R ow boxes ents w){e:TypeId}{s:Sl}{v:Value}(hr:Rd P w R (.sl s.n s.f) (.sl e) v):
  HR P w0 R0 bl (vs++[v]) R ow boxes (ents++[⟨e,s,false,true,0⟩]) w where
 below:=h.below
 rlt:=h.rlt
 r0:=h.r0
 rsub:=h.rsub
 ro:=h.ro
 olt:=h.olt
 nb:=h.nb
 nv:=by simp[h.nv]
 glb:=h.glb
 vsl:=fun i u hi=>by
  rcases get_append_inv hi with hi|⟨_,rfl⟩
  ·exact h.vsl i u hi
  ·obtain⟨e',a,cap,_,hv,_⟩:=hr;exact .inl ⟨_,_,_,hv⟩
 box:=fun i bx hi hl=>by
  obtain⟨b,cs,h1,h2,h3,h4⟩:=h.box i bx hi hl
  exact⟨b,cs,h1,h2,h3,h4.mono (fun _ _ x=>x) (fun _ _=>get_append_lt)⟩
 ent:=fun i e' hi hl=>by
  rcases get_append_inv hi with hi|⟨rfl,rfl⟩
  ·obtain⟨u,hu,h1,h2⟩:=h.ent i e' hi hl
   exact⟨u,get_append_lt hu,h1,h2⟩
  ·refine⟨v, ?_,fun _=>hr,fun ho=>by cases ho⟩
   rw[<-h.nv,List.getElem?_append_right (Nat.le_refl _)];simp
 mrk:=h.mrk
 lp:=fun i L hi=>by
  obtain⟨bx,x,h1,h2,h3,h4,h5⟩:=h.lp i L hi
  exact⟨bx,x,h1,h2,h3,h4,h5.mono rfl (fun _ _ x=>x) (fun _ _=>get_append_lt)⟩
theorem HR.pushOwnB(h:HR P w0 R0 bl vs R ow boxes ents w){e:TypeId}{s:Sl}{v:Value}{b:Nat}(hb:w0.heap.size<=b)(hlt:b<w.heap.size)(hRb:¬R b)(hnb:∀i,ow b≠some (.box i))(hnm:∀l mo,ow b≠some (.mark l mo))
  (hne:∀i en,ow b=some (.ent i)->ents[i]? =some en->en.live=false\/en.own=false) (hO:Own P w R (setOw ow b (some (.ent ents.length))) ents.length e s v):
  HR P w0 R0 bl (vs++[v]) R (setOw ow b (some (.ent ents.length))) boxes (ents++[⟨e,s,true,true,0⟩]) w/\∀{l:Nat}{mo:Obj} x,ow x=some (.mark l mo)->setOw ow b (some (.ent ents.length)) x=some (.mark l mo):=by
 have hmk:∀{l:Nat}{mo:Obj} x,ow x=some (.mark l mo)->setOw ow b (some (.ent ents.length)) x=some (.mark l mo):=fun x hx=>by
  rw[setOw_ne (fun e=>hnm _ _ (by rw[<-e];exact hx))];exact hx
 refine⟨⟨h.below,h.rlt,h.r0,h.rsub, ?_, ?_,h.nb,by simp[h.nv], ?_, ?_, ?_, ?_, ?_,h.glb⟩,hmk⟩
 ·intro x hx
  rw[setOw_ne (fun e:x=b=>hRb (by rw[<-e];exact hx))];exact h.ro x hx
 ·intro x o hx
  by_cases e:x=b
  ·subst e;exact⟨hb,hlt⟩
  ·rw[setOw_ne e]at hx;exact h.olt x o hx
 ·intro i u hi
  rcases get_append_inv hi with hi|⟨_,rfl⟩
  ·exact h.vsl i u hi
  ·exact hO.slv
 ·intro i bx hi hl
  obtain⟨b',cs',h1,h2,h3,h4⟩:=h.box i bx hi hl
  have hbne:b'≠b:=fun e=>by rw[e]at h2;exact hnb i h2
  exact⟨b',cs',h1,by rw[setOw_ne hbne];exact h2,h3,h4.mono (fun _ _ x=>x) (fun _ _=>get_append_lt)⟩
 ·intro i e' hi hl
  rcases get_append_inv hi with hi|⟨rfl,rfl⟩
  ·obtain⟨u,hu,h1,h2⟩:=h.ent i e' hi hl
   refine⟨u,get_append_lt hu,h1,fun hown=>(h2 hown).mono (fun _ x=>x) (fun _ _=>rfl) (fun x hx=>⟨?_,rfl⟩)⟩
   have hxne:x≠b:=fun e=>by
    rw[e]at hx
    rcases hne i e' hx hi with hh|hh
    ·rw[hl]at hh;cases hh
    ·rw[hown]at hh;cases hh
   rw[setOw_ne hxne];exact hx
  ·refine⟨v, ?_,(fun ho=>by cases ho),fun _=>hO⟩
   rw[<-h.nv,List.getElem?_append_right (Nat.le_refl _)];simp
 ·intro _ _ x hx
  by_cases e:x=b
  ·subst e;rw[setOw_eq]at hx;cases hx
  ·rw[setOw_ne e]at hx;exact h.mrk x hx
 ·intro i L hi
  obtain⟨bx,x,h1,h2,h3,h4,h5⟩:=h.lp i L hi
  have hxne:x≠b:=fun e=>by rw[e]at h4;exact hnb i h4
  exact⟨bx,x,h1,h2,h3,by rw[setOw_ne hxne];exact h4,h5.mono rfl (fun _ _ x=>x) (fun _ _=>get_append_lt)⟩
open Classical in
theorem HR.pushOwnZ(h:HR P w0 R0 bl vs R ow boxes ents w){e:TypeId}{s:Sl}{v:Value}{Z:Nat->Prop}(hz:∀b,Z b->w0.heap.size<=b/\b<w.heap.size/\¬R b/\ow b=none)
  (hO:Own P w R (fun b=>if Z b then some (.ent ents.length)else ow b) ents.length e s v):
  HR P w0 R0 bl (vs++[v]) R (fun b=>if Z b then some (.ent ents.length)else ow b) boxes (ents++[⟨e,s,true,true,0⟩]) w/\∀{l:Nat}{mo:Obj} x,ow x=some (.mark l mo)->(if Z x then some (.ent ents.length)else ow x)=some (.mark l mo):=by
 have eo:∀{x:Nat}{o:Owner},ow x=some o->(if Z x then some (.ent ents.length)else ow x)=some o:=fun{x o} hx=>by
  rw[if_neg (fun hz'=>by rw[(hz x hz').2.2.2]at hx;cases hx)];exact hx
 refine⟨⟨h.below,h.rlt,h.r0,h.rsub, ?_, ?_,h.nb,by simp[h.nv], ?_, ?_, ?_, ?_, ?_,h.glb⟩,fun x hx=>eo hx⟩
 ·intro x hx
  show(if Z x then some (Owner.ent ents.length)else ow x)=none
  rw[if_neg (fun hz'=>(hz x hz').2.2.1 hx)];exact h.ro x hx
 ·intro x o hx
  by_cases e:Z x
  ·exact⟨(hz x e).1,(hz x e).2.1⟩
  ·have hx:(if Z x then some (Owner.ent ents.length)else ow x)=some o:=hx
   rw[if_neg e]at hx;exact h.olt x o hx
 ·intro i u hi
  rcases get_append_inv hi with hi|⟨_,rfl⟩
  ·exact h.vsl i u hi
  ·exact hO.slv
 ·intro i bx hi hl
  obtain⟨b',cs',h1,h2,h3,h4⟩:=h.box i bx hi hl
  exact⟨b',cs',h1,eo h2,h3,h4.mono (fun _ _ x=>x) (fun _ _=>get_append_lt)⟩
 ·intro i e' hi hl
  rcases get_append_inv hi with hi|⟨rfl,rfl⟩
  ·obtain⟨u,hu,h1,h2⟩:=h.ent i e' hi hl
   exact⟨u,get_append_lt hu,h1,fun hown=>(h2 hown).mono (fun _ x=>x) (fun _ _=>rfl) (fun x hx=>⟨eo hx,rfl⟩)⟩
  ·refine⟨v, ?_,(fun ho=>by cases ho),fun _=>hO⟩
   rw[<-h.nv,List.getElem?_append_right (Nat.le_refl _)];simp
 ·intro l mo x hx
  by_cases e:Z x
  ·have hx:(if Z x then some (Owner.ent ents.length)else ow x)=some (.mark l mo):=hx
   rw[if_pos e]at hx;cases hx
  ·have hx:(if Z x then some (Owner.ent ents.length)else ow x)=some (.mark l mo):=hx
   rw[if_neg e]at hx;exact h.mrk x hx
 ·intro i L hi
  obtain⟨bx,x,h1,h2,h3,h4,h5⟩:=h.lp i L hi
  exact⟨bx,x,h1,h2,h3,eo h4,h5.mono rfl (fun _ _ x=>x) (fun _ _=>get_append_lt)⟩
theorem HR.pushOwn0(h:HR P w0 R0 bl vs R ow boxes ents w){e:TypeId}{s:Sl}{v:Value}(hO:Own P w R ow ents.length e s v):HR P w0 R0 bl (vs++[v]) R ow boxes (ents++[⟨e,s,true,true,0⟩]) w:=by
 refine⟨h.below,h.rlt,h.r0,h.rsub,h.ro,h.olt,h.nb,by simp[h.nv], ?_, ?_, ?_,h.mrk, ?_,h.glb⟩
 ·intro i u hi
  rcases get_append_inv hi with hi|⟨_,rfl⟩
  ·exact h.vsl i u hi
  ·exact hO.slv
 ·intro i bx hi hl
  obtain⟨b,cs,h1,h2,h3,h4⟩:=h.box i bx hi hl
  exact⟨b,cs,h1,h2,h3,h4.mono (fun _ _ x=>x) (fun _ _=>get_append_lt)⟩
 ·intro i e' hi hl
  rcases get_append_inv hi with hi|⟨rfl,rfl⟩
  ·obtain⟨u,hu,h1,h2⟩:=h.ent i e' hi hl
   exact⟨u,get_append_lt hu,h1,h2⟩
  ·refine⟨v, ?_,(fun ho=>by cases ho),fun _=>hO⟩
   rw[<-h.nv,List.getElem?_append_right (Nat.le_refl _)];simp
 ·intro i L hi
  obtain⟨bx,x,h1,h2,h3,h4,h5⟩:=h.lp i L hi
  exact⟨bx,x,h1,h2,h3,h4,h5.mono rfl (fun _ _ x=>x) (fun _ _=>get_append_lt)⟩
theorem HR.pushOwn(h:HR P w0 R0 bl vs R ow boxes ents w){e:TypeId}(hm:isM e=false){s:Sl}{v:Value}{a:Option Addr}{cap:Nat}(hv:v= .slice a s.n cap)(h1:s.n<=min cap 140737488355328)(h2:cap<=maxLen)
  (ha:a=none->cap=0)
  (hc:cap=0\/∃(b:Nat)(cs:Array Value),a=some ⟨b,0,none⟩/\w0.heap.size<=b/\¬R b/\(∀i,ow b≠some (.box i))/\(∀l mo,ow b≠some (.mark l mo))/\(∀i en,ow b=some (.ent i)->ents[i]? =some en->en.live=false\/en.own=false)/\
   w.heap[b]? =some (.cells cs e (0,0))/\∀ks,kinds P e=some ks->cs.size=cap*ks.length/\
   ∀j k kk,j<s.n->ks[k]? =some kk->∃u,cs[j*ks.length+k]? =some u/\Rd P w R (s.f j k) kk u):
  ∃ow',HR P w0 R0 bl (vs++[v]) R ow' boxes (ents++[⟨e,s,true,true,0⟩]) w/\∀{l:Nat}{mo:Obj} x,ow x=some (.mark l mo)->ow' x=some (.mark l mo):=by
 have hof:∀{ow':Nat->Option Owner}{n:Nat},OwnS P w R ow' n e s v->Own P w R ow' n e s v:=fun k=>⟨fun _=>k,fun hh=>by rw[hm]at hh;cases hh⟩
 rcases hc with hc|⟨b,cs,hab,hb,hRb,hnb,hnm,hne,hw,hcont⟩
 ·exact⟨ow,h.pushOwn0 (hof ⟨a,cap,hv,h1,h2,ha, .inl hc⟩),fun _ x=>x⟩
 ·obtain⟨g1,g2⟩:=h.pushOwnB hb (Array.getElem?_eq_some_iff.1 hw).1 hRb hnb hnm hne (hof ⟨a,cap,hv,h1,h2,ha, .inr ⟨b,cs,hab,setOw_eq,hw,hcont⟩⟩)
  exact⟨_,g1,fun x hx=>g2 x hx⟩
theorem get_set_inv{α:Type}{l:List α}{i j:Nat}{x y:α}(h:(l.set i y)[j]? =some x):(j=i/\x=y)\/(j≠i/\l[j]? =some x):=by
 by_cases e:i=j
 ·subst e
  rw[List.getElem?_set]at h
  simp at h
  exact .inl ⟨rfl,h.2.symm⟩
 ·rw[List.getElem?_set_ne e]at h
  exact .inr ⟨fun h'=>e h'.symm,h⟩
theorem HR.dead(h:HR P w0 R0 bl vs R ow boxes ents w)(i:Nat)(e:Ent (sem T))(he:e.live=false):HR P w0 R0 bl vs R ow boxes (ents.set i e) w where
 below:=h.below
 rlt:=h.rlt
 r0:=h.r0
 rsub:=h.rsub
 ro:=h.ro
 olt:=h.olt
 nb:=h.nb
 nv:=by simp[h.nv]
 vsl:=h.vsl
 glb:=h.glb
 box:=h.box
 ent:=fun j e' hj hl=>by
  rcases get_set_inv hj with⟨rfl,rfl⟩|⟨_,hj⟩
  ·rw[he]at hl;cases hl
  ·exact h.ent j e' hj hl
 mrk:=h.mrk
 lp:=h.lp
end
structure Ext(st st':St (sem T)):Prop where
 box:∀(i:Nat)(bx:Box (sem T)),st.boxes[i]? =some bx->∃bx',st'.boxes[i]? =some bx'/\bx.ver<=bx'.ver/\(bx'.ver=bx.ver->bx'=bx)/\bx'.ty=bx.ty
 ent:∀(i:Nat)(e:Ent (sem T)),st.ents[i]? =some e->∃e',st'.ents[i]? =some e'/\e.ver<=e'.ver/\(e'.ver=e.ver->e'=e)
theorem Ext.refl(st:St (sem T)):Ext st st:=⟨fun _ bx h=>⟨bx,h,Nat.le_refl _,fun _=>rfl,rfl⟩,fun _ e h=>⟨e,h,Nat.le_refl _,fun _=>rfl⟩⟩
theorem Ext.trans{a b c:St (sem T)}(h:Ext a b)(k:Ext b c):Ext a c where
 box:=fun i bx hi=>by
  obtain⟨b1,h1,h2,h3,h4⟩:=h.box i bx hi
  obtain⟨b2,k1,k2,k3,k4⟩:=k.box i b1 h1
  refine⟨b2,k1,Nat.le_trans h2 k2,fun he=> ?_,k4.trans h4⟩
  have e1:b1.ver=bx.ver:=by omega
  have e2:b2.ver=b1.ver:=by omega
  rw[k3 e2,h3 e1]
 ent:=fun i bx hi=>by
  obtain⟨b1,h1,h2,h3⟩:=h.ent i bx hi
  obtain⟨b2,k1,k2,k3⟩:=k.ent i b1 h1
  refine⟨b2,k1,Nat.le_trans h2 k2,fun he=> ?_⟩
  have e1:b1.ver=bx.ver:=by omega
  have e2:b2.ver=b1.ver:=by omega
  rw[k3 e2,h3 e1]
theorem Ext.of_append{st st':St (sem T)}{nb:List (Box (sem T))}{ne:List (Ent (sem T))}(hb:st'.boxes=st.boxes++nb)(he:st'.ents=st.ents++ne):Ext st st' where
 box:=fun i bx h=>⟨bx,by rw[hb];exact get_append_lt h,Nat.le_refl _,fun _=>rfl,rfl⟩
 ent:=fun i e h=>⟨e,by rw[he];exact get_append_lt h,Nat.le_refl _,fun _=>rfl⟩
theorem Ext.of_set_box{st st':St (sem T)}{i:Nat}{bx:Box (sem T)}(hb:st'.boxes=st.boxes.set i bx)(he:st'.ents=st.ents)(h:∀b0,st.boxes[i]? =some b0->b0.ver<bx.ver/\bx.ty=b0.ty):Ext st st' where
 box :=fun j b hj=>by
  rw[hb]
  by_cases e:i=j
  ·subst e
   refine⟨bx, ?_,Nat.le_of_lt (h b hj).1,fun he=> ?_,(h b hj).2⟩
   ·rw[List.getElem?_set]
    have:i<st.boxes.length:=by
     rcases Nat.lt_or_ge i st.boxes.length with h'|h'
     ·exact h'
     ·rw[List.getElem?_eq_none h']at hj;cases hj
    simp[this]
   ·have:=(h b hj).1;omega
  ·exact⟨b,by rw[List.getElem?_set_ne e];exact hj,Nat.le_refl _,fun _=>rfl,rfl⟩
 ent:=fun i e h=>⟨e,by rw[he];exact h,Nat.le_refl _,fun _=>rfl⟩
theorem Ext.of_set_ent{st st':St (sem T)}{i:Nat}{bx:Ent (sem T)}(hb:st'.boxes=st.boxes)(he:st'.ents=st.ents.set i bx)(h:∀b0,st.ents[i]? =some b0->b0.ver<bx.ver):Ext st st' where
 box:=fun i e h=>⟨e,by rw[hb];exact h,Nat.le_refl _,fun _=>rfl,rfl⟩
 ent :=fun j b hj=>by
  rw[he]
  by_cases e:i=j
  ·subst e
   refine⟨bx, ?_,Nat.le_of_lt (h b hj),fun he=> ?_⟩
   ·rw[List.getElem?_set]
    have:i<st.ents.length:=by
     rcases Nat.lt_or_ge i st.ents.length with h'|h'
     ·exact h'
     ·rw[List.getElem?_eq_none h']at hj;cases hj
    simp[this]
   ·have:=h b hj;omega
  ·exact⟨b,by rw[List.getElem?_set_ne e];exact hj,Nat.le_refl _,fun _=>rfl⟩
structure Stp(P:Program)(w0:World)(R0:Bs T)(bl:List Nat)(vs:List Value)(ow:Nat->Option Owner)(st:St (sem T))(bl':List Nat)(vs':List Value)(R':Nat->Prop)(ow':Nat->Option Owner)(st':St (sem T))(w':World):Prop where
 hr:HR P w0 R0 bl' vs' R' ow' st'.boxes st'.ents w'
 bl:∀(i:Nat)(b:Nat),bl[i]? =some b->bl'[i]? =some b
 vs:∀(i:Nat)(v:Value),vs[i]? =some v->vs'[i]? =some v
 ext:Ext st st'
 mrk:∀{l:Nat}{mo:Obj} b,ow b=some (.mark l mo)->ow' b=some (.mark l mo)
theorem Stp.trans{w0:World}{R0:Bs T}{bl bl1 bl2:List Nat}{vs vs1 vs2:List Value}{R1 R2:Nat->Prop}{ow ow1 ow2:Nat->Option Owner}{st st1 st2:St (sem T)}{w1 w2:World}
  (h:Stp P w0 R0 bl vs ow st bl1 vs1 R1 ow1 st1 w1) (k:Stp P w0 R0 bl1 vs1 ow1 st1 bl2 vs2 R2 ow2 st2 w2):Stp P w0 R0 bl vs ow st bl2 vs2 R2 ow2 st2 w2:=
 ⟨k.hr,fun i b hb=>k.bl i b (h.bl i b hb),fun i v hv=>k.vs i v (h.vs i v hv),h.ext.trans k.ext,fun b hb=>k.mrk b (h.mrk b hb)⟩
theorem Stp.refl{w0 w:World}{R0:Bs T}{bl:List Nat}{vs:List Value}{R:Nat->Prop}{ow:Nat->Option Owner}{st:St (sem T)}(h:HR P w0 R0 bl vs R ow st.boxes st.ents w):Stp P w0 R0 bl vs ow st bl vs R ow st w:=
 ⟨h,fun _ _ x=>x,fun _ _ x=>x,Ext.refl _,fun _ x=>x⟩
end Go.Sx
