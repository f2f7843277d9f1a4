/-
 The conditions of the reference's functions on whole numbers. Conditions: none.
-/
import Derived.Test.YtccbjhfdfbaekaaGreatNumFb
import Derived.Test.YtccbjhfdfbaekaaGreatNumVA
open Go.Sx.Sl renaming lit->zA,len->zC,app->zF
open Bool renaming decide_eq_true->zB,false_eq_true->zR
open Rat renaming divInt->zD
open Classical renaming not_not->zE
open Int renaming le_refl->zG,tmod_eq_emod_of_nonneg->zH,tdiv_eq_ediv_of_nonneg->zI,pow_succ->zL,mul_le_mul_of_nonneg_right->zP,tdiv->z0,tmod->z1,not_lt->z2,neg_mul->z3,mul_neg->z4,add_zero->z5,mul_nonneg->z6,le_of_lt->z7,mul_assoc->z8,mul_le_mul_of_nonneg_left->z9
set_option linter.unusedVariables false
set_option linter.unusedSimpArgs false
namespace Go.Sx.N
theorem apa:ahO:=by
 intro s rs _ hsm;have hm:=iW hsm;have h0:=len0 s;have part:∀i:Int,0<=i->i<=s.len->(∀k:Int,i<=k->k<s.len->s.int k 0=0)->(Sl.part s 0 i).len<=s.len/\vl (Sl.part s 0 i)=vl s:=fun i i0 i1 hz=>by
  refine⟨by rw[nK i0];omega, ?_⟩
  unfold vl;rw[yR i0,Ea 65536 s i0 i1,acS i0 hz];omega
 refine⟨fun i=>0<=i/\i<=s.len/\∀k:Int,i<=k->k<s.len->s.int k 0=0,fun i=>i.toNat,⟨h0,zG _,fun k h1 h2=>absurd h2 (by omega)⟩,fun i _ hj=> ?_⟩
 obtain⟨i0,i1,hz⟩:=hj;refine⟨fun hp=>⟨aJ _ (by omega),by omega,by omega,fun _=>⟨fun hd=>⟨aJ _ (by omega),⟨by omega,by omega,fun k h1 h2=> ?_⟩,by show(i-1).toNat<i.toNat;omega⟩,fun hd=>⟨by decide,i0,i1,⟨fun _=> ?_,part i i0 i1 hz⟩,trivial⟩⟩⟩,fun hn=>⟨by decide,i0,i1,⟨fun h=> ?_,part i i0 i1 hz⟩,trivial⟩⟩
 ·by_cases e:k=i-1
  ·rw[e];exact hd
  ·exact hz k (by omega) h2
 ·rw[nK i0,Hz (by omega),Int.sub_zero]
  exact hd
 ·rw[nK i0]at h
  omega
theorem apb:ahP:=by
 intro a ra b rb hp hsa hsb;obtain⟨na,nb⟩:=hp;have da:=aj ra;have db:=aj rb;have ha0:=len0 a;have hm:=iW hsa;simp only[Dz,decide_eq_true_eq,decide_false,zR,false_iff];refine⟨fun hne _ _=>⟨⟨fun hlt=> ?_,fun hv=> ?_⟩,trivial⟩,fun heq _=>⟨aJ _ (by omega), ?_⟩⟩
 ·exact Nm.lt (by decide) da db (yQ.1 nb) (by unfold zC at hlt;omega)
 ·refine Int.not_le.1 fun hle=> ?_
  have:=Nm.lt (by decide) db da (yQ.1 na) (by unfold zC at*;omega);have:vl b<vl a:=this;omega
 have heq:a.len=b.len:=zE.1 heq;have lt:∀(x y:Sl)(i:Int),bC 65536 x->bC 65536 y->0<=i->i<x.len->x.len=y.len->(∀k:Int,i<k->k<x.len->x.int k 0=y.int k 0)->x.int i 0<y.int i 0->vl x<vl y:=fun x y i dx dy hi hx hxy hk hl=>by
  have e:x.n=y.n:=by unfold zC at hxy;omega
  unfold vl val;rw[<-e];refine aip (by decide) (i:=i.toNat) dx (by rw[e];exact dy) (by unfold zC at hx;omega) (fun k hk1 hk2=>hk k (by omega) (by unfold zC;omega)) ?_
  rw[uH hi,uH hi];exact hl
 refine⟨fun i=>-1<=i/\i<a.len/\∀k:Int,i<k->k<a.len->a.int k 0=b.int k 0,fun i=>(i+1).toNat,⟨by omega,by omega,fun k h1 h2=>absurd h1 (by omega)⟩,fun i _ hj=> ?_⟩
 obtain⟨h1,h2,h3⟩:=hj;refine⟨fun hge=>⟨hge,h2,fun _=>⟨hge,by omega,fun _=>⟨fun hne=>⟨hge,h2,fun _=>⟨hge,by omega,fun _=>⟨⟨fun hlt=> ?_,fun hv=> ?_⟩,trivial⟩⟩⟩,fun heq'=>⟨aJ _ (by omega),⟨by omega,by omega,fun k k1 k2=> ?_⟩, ?_⟩⟩⟩⟩,fun hlt=>⟨fun hv=> ?_,trivial⟩⟩
 ·exact lt a b i da db hge h2 heq h3 hlt
 ·refine Int.not_le.1 fun hle=> ?_
  have:=lt b a i db da hge (by omega) heq.symm (fun k k1 k2=>(h3 k k1 (by omega)).symm) (by omega)
  omega
 ·by_cases e:k=i
  ·rw[e];exact zE.1 heq'
  ·exact h3 k (by omega) k2
 ·show(i-1+1).toNat<(i+1).toNat
  omega
 ·have:vl a=vl b:=dL.val ⟨heq,fun k k0 k1=>h3 k (by omega) k1⟩ _
  omega
theorem apc:ahQ:=by
 intro a ra b rb hp;obtain⟨la,lb⟩:=hp;unfold aB at la lb;have da:=aj ra;have db:=aj rb;have ha0:=len0 a;have hb0:=len0 b;obtain⟨M,hM1,hM2,hM3⟩:∃M:Int,a.len<=M/\b.len<=M/\(M=a.len\/M=b.len):=by
  rcases Int.le_total a.len b.len with h|h
  ·exact⟨b.len,h,zG _, .inr rfl⟩
  ·exact⟨a.len,zG _,h, .inl rfl⟩
 have hva:=(da.bound (B:=65536) (by decide)).1;have hvb:=(db.bound (B:=65536) (by decide)).1;have hva:0<=vl a:=hva;have hvb:0<=vl b:=hvb;refine⟨fun n w i=>0<=i/\w.len=i/\(n=0\/n=1)/\vl w+n*65536^i.toNat=Az 65536 a i+Az 65536 b i/\(i<=M\/(i=M+1/\n=0/\65536^M.toNat<=vl w)),fun _ _ i=>(M+2-i).toNat,
  ⟨by omega,rfl, .inl rfl,rfl,by omega⟩,fun n _ w uU i _ hj=> ?_⟩
 obtain⟨i0,hwl,hn,hv,hi⟩:=hj;have hwn:w.n=i.toNat:=by unfold zC at hwl;omega
 refine⟨i<=M/\(i<M\/n>0),⟨fun _=>⟨fun h=>by omega,fun h1 _=>⟨fun h=>by omega,fun h2=>⟨fun h=>by omega,fun h3=> ?_⟩⟩⟩,fun aAu=> ?_⟩⟩
 ·have n0:n=0:=by omega
  rw[n0,uV _ _ (by omega),uV _ _ (by omega)]at hv;have hvv:vl w=vl a+vl b:=by
   show _=val 65536 a+val 65536 b;omega
  refine⟨⟨hvv,fun ha hb=>Qj (B:=65536) (by decide) (aj uU) fun hp=> ?_⟩,trivial⟩
  show _<=vl w;rcases hi with hi|hi
  ·have eM:i=M:=by omega
   have h1:65536^(M.toNat-1)<=vl a+vl b:=by
    rcases hM3 with e|e
    ·have:=O8 (B:=65536) (by decide) da ha (by omega)
     have this:65536^(a.n-1)<=vl a:=this;have e2:a.n-1=M.toNat-1:=by unfold zC at e;omega
     rw[e2]at this;omega
    ·have:=O8 (B:=65536) (by decide) db hb (by omega)
     have this:65536^(b.n-1)<=vl b:=this;have e2:b.n-1=M.toNat-1:=by unfold zC at e;omega
     rw[e2]at this;omega
   rw[hwn,eM,hvv];exact h1
  ·rw[hwn,hi.1,show(M+1).toNat-1=M.toNat from by omega]
   exact hi.2.2
 ·obtain⟨hiM,aCp⟩:=aAu
  have ca:=tu (B:=65536) (by decide) da i0;have cb:=tu (B:=65536) (by decide) db i0;refine⟨fun x=>x=n+wd a i,⟨fun _=>⟨fun h=>⟨i0,h,fun _=> ?_⟩,fun h=> ?_⟩,fun x _ hx=>⟨fun x'=>x'=n+wd a i+wd b i,⟨fun _=>⟨fun h=>⟨i0,h,fun _=> ?_⟩,fun h=> ?_⟩,fun x' _ hx'=> ?_⟩⟩⟩⟩
  ·have e:wd a i=a.int i 0:=if_pos h
   rw[<-e];exact⟨aJ _ (by omega),rfl⟩
  ·have e:wd a i=0:=if_neg h
   rw[e,z5]
  ·have e:wd b i=b.int i 0:=if_pos h
   have hx:x=n+wd a i:=hx;rw[<-e,hx];exact⟨aJ _ (by omega),rfl⟩
  ·have e:wd b i=0:=if_neg h
   have hx:x=n+wd a i:=hx;rw[e,z5,hx]
  ·have hx':x'=n+wd a i+wd b i:=hx'
   have e1:(zA [[.int (x' % 65536)]]).len=1:=rfl;rw[zH (by omega),zI (by omega),zX (x:=x' % 65536) (by omega) (by omega)];have hval:vl (zF w (zA [[.int (x' % 65536)]]))=vl w+x' % 65536*65536^i.toNat:=by
    unfold vl;rw[Gq,hwn]
   have hv':vl (zF w (zA [[.int (x' % 65536)]]))+x'/65536*65536^(i+1).toNat=Az 65536 a (i+1)+Az 65536 b (i+1):=by
    rw[hval,tC _ _ i0,tC _ _ i0,show(i+1).toNat=i.toNat+1 from by omega,zL]
    generalize(65536:Int)^i.toNat=Q at*;have e2:x' % 65536=x'-65536*(x'/65536):=by omega
    rw[e2];generalize x'/65536=q at*;rw[hx']
    grind
   refine⟨by decide,aJ _ (by omega),by rw[e1];omega,by decide,aJ _ (by omega),aJ _ (by omega),⟨by omega,by rw[zJ];omega,by omega,hv', ?_⟩,by show(M+2-(i+1)).toNat<(M+2-i).toNat;omega⟩
   by_cases hlt:i<M
   ·left;omega
   ·right
    have ei:i=M:=by omega
    have wa:wd a i=0:=if_neg (by omega);have wb:wd b i=0:=if_neg (by omega);rw[wa,wb]at hx';have hm0:0<=vl w:=((aj uU).bound (B:=65536) (by decide)).1;have hx1:x'=1:=by omega
    rw[hval,hx1,ei];refine⟨by omega,by decide, ?_⟩
    have e3:(1:Int) % 65536=1:=by decide
    rw[e3];omega
theorem al5:aeV:=by
 intro a ra b rb hp;obtain⟨la,hle,hbl⟩:=hp;unfold aB at la;have da:=aj ra;have db:=aj rb;have ha0:=len0 a;have hb0:=len0 b;refine⟨fun w bo i=>0<=i/\i<=a.len/\w.len=i/\(bo=0\/bo=1)/\vl w=bJ 65536 a i-Az 65536 b i+bo*65536^i.toNat,fun _ _ i=>(a.len-i).toNat,⟨by omega,ha0,rfl, .inl rfl,rfl⟩,fun w uU bo _ i _ hj _=> ?_⟩
 obtain⟨i0,i1,hwl,LV,hv⟩:=hj;have hwn:w.n=i.toNat:=by unfold zC at hwl;omega
 have ew:∀d:Int,vl (zF w (zA [[.int d]]))=vl w+d*65536^i.toNat:=fun d=>by unfold vl;rw[Gq,hwn]
 have e1:∀d:Int,(zA [[.int d]]).len=1:=fun d=>rfl
 refine⟨fun hlt=>⟨i0,hlt,fun _=> ?_⟩,fun hge=>⟨trivial,fun t _ ht=>⟨⟨?_,ht.1⟩,trivial⟩⟩⟩
 ·have ca:=da.at i0 hlt
  have cb:=tu (B:=65536) (by decide) db i0;have fin:∀z:Int,z=65536+a.int i 0-bo-wd b i->((65536:Int)≠0/\iA (z1 z 65536)/\(w.len+(zA [[.int (IntKind.wrap .u16 (z1 z 65536))]]).len)*2<=140737488355328/\(65536:Int)≠0/\iA (z0 z 65536)/\iA (1-z0 z 65536)/\iA (i+1)/\
    ((0<=i+1/\i+1<=a.len/\(zF w (zA [[.int (IntKind.wrap .u16 (z1 z 65536))]])).len=i+1/\(1-z0 z 65536=0\/1-z0 z 65536=1)/\vl (zF w (zA [[.int (IntKind.wrap .u16 (z1 z 65536))]]))=bJ 65536 a (i+1)-Az 65536 b (i+1)+(1-z0 z 65536)*65536^(i+1).toNat)/\(a.len-(i+1)).toNat<(a.len-i).toNat)):=fun z hz=>by
   rw[zH (by omega),zI (by omega),zX (x:=z % 65536) (by omega) (by omega),e1];refine⟨by decide,aJ _ (by omega),by omega,by decide,aJ _ (by omega),aJ _ (by omega),aJ _ (by omega),⟨by omega,by omega,by rw[zJ];omega,by omega, ?_⟩,by omega⟩
   rw[ew,hv,dK _ _ i0,tC _ _ i0,show(i+1).toNat=i.toNat+1 from by omega,zL]
   generalize(65536:Int)^i.toNat=Q at*;have e2:z % 65536=z-65536*(z/65536):=by omega
   rw[e2];generalize z/65536=q at*;rw[hz]
   grind
  refine⟨aJ _ (by omega),aJ _ (by omega),fun _=>⟨fun h=>⟨i0,h,fun _=>⟨?_, ?_⟩⟩,fun h=> ?_⟩⟩
  ·have e:wd b i=b.int i 0:=if_pos h
   rw[<-e];exact aJ _ (by omega)
  ·have e:wd b i=b.int i 0:=if_pos h
   exact fin _ (by rw[e])
  ·have e:wd b i=0:=if_neg h
   exact fin _ (by rw[e];omega)
 ·have ei:i=a.len:=by omega
  subst ei;have hw:=(aj uU).bound (B:=65536) (by decide);have hab:=da.bound (B:=65536) (by decide);have hb:=(db.bound (B:=65536) (by decide)).1;have hw1:vl w<65536^w.n:=hw.2;have hw0:0<=vl w:=hw.1;have ha1:vl a<65536^a.n:=hab.2;have hb:0<=vl b:=hb;have e3:a.len.toNat=a.n:=acM a;rw[<-fD,uV _ _ hbl,e3]at hv;have hv:vl w=vl a-vl b+bo*65536^a.n:=hv;have aAv:w.n=a.n:=by omega
  rw[aAv]at hw1;rw[ht.2.2];generalize(65536:Int)^a.n=Q at*;rcases LV with h|h
  ·rw[h]at hv;omega
  ·rw[h]at hv;omega
theorem al6:aeW:=by
 intro a ra b rb hp hsa hsb;obtain⟨la,lb⟩:=hp;unfold aB at la lb;have da:=aj ra;have db:=aj rb;have ha0:=len0 a;have hb0:=len0 b;refine⟨aJ _ (by omega),by omega,by omega,by omega, ?_⟩
 refine⟨fun i w=>0<=i/\i<=a.len/\w.len=a.len+b.len/\vl w=bJ 65536 a i*vl b/\(∀k:Int,i+b.len<=k->k<w.len->w.int k 0=0),fun i _=>(a.len-i).toNat,
  ⟨by omega,ha0,rD (by omega) _,by unfold vl;rw[abE,kZ];omega,fun _ _ _=>O7 _ _⟩,fun i _ w uU hj _=> ?_⟩
 obtain⟨i0,i1,hwl,hv,hz⟩:=hj;refine⟨fun hlt=> ?_,fun hge=>⟨trivial,fun t _ ht=>⟨⟨?_,ht.1⟩,trivial⟩⟩⟩
 ·have hx:=da.at i0 hlt
  have hai:bJ 65536 a (i+1)=bJ 65536 a i+a.int i 0*65536^i.toNat:=dK _ _ i0;generalize a.int i 0=x at*;have hpw:∀k:Int,0<=k->(65536:Int)^(i+k).toNat=65536^i.toNat*65536^k.toNat:=fun k hk=>by rw[show(i+k).toNat=i.toNat+k.toNat from by omega,Int.pow_add]
  refine⟨fun c k u=>0<=k/\k<=b.len/\u.len=a.len+b.len/\(0<=c/\c<65536)/\vl u+c*65536^(i+k).toNat=bJ 65536 a i*vl b+x*bJ 65536 b k*65536^i.toNat/\(∀m:Int,i+b.len<=m->m<u.len->u.int m 0=0),fun _ k _=>(b.len-k).toNat,
   ⟨by omega,hb0,hwl,⟨by decide,by decide⟩,by rw[hv,kZ];simp,hz⟩,fun c _ k _ u ru hj _=> ?_⟩
  obtain⟨k0,k1,Ar,hc,hu,hzu⟩:=hj;have du:=aj ru;refine⟨fun hlt'=>⟨i0,hlt,fun _=>⟨k0,hlt',fun _=> ?_⟩⟩,fun hge' _=>⟨aJ _ (by omega),by omega,by omega,aJ _ (by omega),⟨by omega,by omega,by rw[dO];exact Ar, ?_,fun m h1 h2=> ?_⟩, ?_⟩⟩
  ·have hy:=db.at k0 hlt'
   have hd:=du.at (i:=i+k) (by omega) (by omega);have hbk:bJ 65536 b (k+1)=bJ 65536 b k+b.int k 0*65536^k.toNat:=dK _ _ k0;generalize b.int k 0=y at*;have hxy:x*y<=65535*65535:=Int.mul_le_mul (by omega) (by omega) hy.1 (by omega);have ayq:0<=x*y:=z6 hx.1 hy.1;have eu:∀z:Int,vl (Sl.upd u (i+k) 0 [.int z])=vl u+(z-u.int (i+k) 0)*65536^(i+k).toNat:=fun z=>zY (by omega) (by omega)
   generalize u.int (i+k) 0=d at*;rw[zH (a:=c+x*y+d) (by omega),zI (a:=c+x*y+d) (by omega),zX (x:=(c+x*y+d) % 65536) (by omega) (by omega)];refine⟨aJ _ (by omega),aJ _ (by omega),aJ _ (by omega),by omega,by omega,fun _=>⟨aJ _ (by omega),aJ _ (by omega),by decide,aJ _ (by omega),by omega,by omega,by decide,aJ _ (by omega),aJ _ (by omega),⟨by omega,by omega,by rw[dO];exact Ar,by omega, ?_,fun m h1 h2=> ?_⟩, ?_⟩⟩
   ·rw[eu,hbk,show i+(k+1)=i+k+1 from by omega,show(i+k+1).toNat=(i+k).toNat+1 from by omega,zL]
    rw[hpw k k0]at*;have e2:(c+x*y+d) % 65536=c+x*y+d-65536*((c+x*y+d)/65536):=by omega
    rw[e2];generalize(c+x*y+d)/65536=q at*;generalize(65536:Int)^i.toNat=Q at*;generalize(65536:Int)^k.toNat=R at*
    grind
   ·rw[dY (by omega) (by omega),if_neg (by omega)]
    exact hzu m h1 h2
   ·show(b.len-(k+1)).toNat<(b.len-k).toNat
    omega
  ·have ek:k=b.len:=by omega
   subst ek;have eb:bJ 65536 b b.len=vl b:=(fD _ _).symm;have eu:vl (Sl.upd u (i+b.len) 0 [.int (IntKind.wrap .u16 c)])=vl u+(IntKind.wrap .u16 c-u.int (i+b.len) 0)*65536^(i+b.len).toNat:=zY (by omega) (by omega);rw[eu,hzu _ (by omega) (by omega),zX hc.1 hc.2,hai];rw[eb]at hu;generalize(65536:Int)^(i+b.len).toNat=R at*;generalize(65536:Int)^i.toNat=Q at*
   grind
  ·rw[dY (by omega) (by omega),if_neg (by omega)]
   exact hzu m (by omega) h2
  ·show(a.len-(i+1)).toNat<(a.len-i).toNat
   omega
 ·have ei:i=a.len:=by omega
  subst ei;rw[ht.2.2,hv];unfold vl;rw[<-fD]
theorem aph:ahR:=by
 intro a ra hp hsm;unfold VF aB at hp;have da:=aj ra;have h0:=len0 a;refine⟨h0,by omega,by omega,fun _=>⟨aJ _ (by omega), ?_⟩⟩
 refine⟨fun n i w=>-1<=i/\i<a.len/\w.len=a.len/\0<=n/\n<131072/\jC 65536 a (i+1)=2*jC 65536 w (i+1)+n % 2,fun _ i _=>(i+1).toNat,⟨by omega,by omega,rD h0 _,by decide,by decide, ?_⟩,fun n _ i _ w _ hj=> ?_⟩
 ·rw[VR,Gl _ _ (by omega)];rfl
 obtain⟨i1,i2,hwl,n0,n1,hv⟩:=hj;rw[zH n0];refine⟨fun hge=>⟨by decide,aJ _ (by omega),aJ _ (by omega),hge,i2,fun hr=> ?_⟩,fun hlt=>⟨trivial,fun t _ ht=>⟨⟨?_,ht.1⟩,trivial⟩⟩⟩
 ·have hx:=da.at hge i2
  rw[zI (by omega),zX (x:=(n % 2*65536+a.int i 0)/2) (by omega) (by omega)];refine⟨aJ _ (by omega),by decide,aJ _ (by omega),hge,by omega,aJ _ (by omega),⟨by omega,by omega,by rw[dO];exact hwl,by omega,by omega, ?_⟩,by show(i-1+1).toNat<(i+1).toNat;omega⟩
  rw[show i-1+1=i from by omega,o7 _ _ hge i2,o7 _ _ hge (by rw[dO];omega),VQ hge (by omega),dY hge hge,if_pos rfl,hv]
  omega
 ·have e:i=-1:=by omega
  subst e;have e1:jC 65536 a (-1+1)=vl a:=oZ _ _;have e2:jC 65536 w (-1+1)=vl w:=oZ _ _;rw[e1,e2]at hv;rw[ht.2.2];omega
theorem al7:aeX:=by
 intro s rs d rd hp hsm;obtain⟨hl,hd0,hd1⟩:=hp;unfold aB at hl;have h0:=len0 s;have hs:=aj rs;refine⟨h0,by omega,by omega,fun _=>⟨aJ _ (by omega), ?_⟩⟩
 refine⟨fun r i q=>-1<=i/\i<s.len/\q.len=s.len/\r<d/\0<=r/\jC 65536 s (i+1)=d*jC 65536 q (i+1)+r,fun _ i _=>(i+1).toNat,⟨by omega,by omega,rD h0 _,by omega,by omega, ?_⟩,fun r _ i _ q _ hj=> ?_⟩
 ·rw[VR,Gl _ _ (by omega)]
  omega
 obtain⟨h1,h2,hql,hrd,hr0,hv⟩:=hj;refine⟨fun hge=> ?_,fun hlt=>⟨trivial,fun q' _ hq=>⟨trivial,fun r' _ hr=>⟨⟨?_, ?_,hq.1,hr.1⟩,trivial⟩⟩⟩⟩
 ·have hx:=hs.at hge h2
  generalize hxe:s.int i 0=x at*;have dm:=Int.mul_ediv_add_emod (r*65536+x) d;have m0:=Int.emod_nonneg (r*65536+x) (show d≠0 by omega);have m1:=Int.emod_lt_of_pos (r*65536+x) (show 0<d by omega);have q0:0<=(r*65536+x)/d:=Int.ediv_nonneg (by omega) (by omega);have q1:(r*65536+x)/d<65536:=by
   refine Int.ediv_lt_of_lt_mul (by omega) ?_
   have:(r+1)*65536<=d*65536:=zP (by omega) (by decide);rw[Int.mul_comm 65536 d];omega
  rw[zI (by omega),zH (by omega),zX q0 q1];refine⟨aJ _ (by omega),hge,h2,fun _=>⟨aJ _ (by omega),by omega,aJ _ (by omega),hge,by omega,by omega,aJ _ (by omega),aJ _ (by omega),⟨by omega,by omega,by rw[dO];exact hql,m1,m0, ?_⟩,by show(i-1+1).toNat<(i+1).toNat;omega⟩⟩
  rw[show i-1+1=i from by omega,o7 _ _ hge h2,o7 _ _ hge (by rw[dO];omega),VQ hge (by omega),dY hge hge,if_pos rfl,hv,hxe]
  generalize(r*65536+x)/d=qq at*;generalize(r*65536+x) % d=rr at*
  grind
 ·have e:i=-1:=by omega
  subst e;have e1:jC 65536 s (-1+1)=vl s:=oZ _ _;have e2:jC 65536 q (-1+1)=vl q:=oZ _ _;rw[e1,e2]at hv;rw[hq.2.2,hr.2.2,hv];unfold vl;rw[Dp,zX hr0 (by omega)]
 ·rw[hr.2.2]
  unfold vl;rw[Dp,zX hr0 (by omega)];exact hrd
theorem avA(k:Nat):(65536:Int)^k=2^(16*k):=by
 rw[Int.pow_mul,show(2:Int)^16=65536 from rfl]
theorem ahd:ZC:=by
 intro a ra b rb hp hsb;obtain⟨la,lb,na,nb,hb0⟩:=hp;unfold Sm at la lb;have da:=aj ra;have db:=aj rb;have ha0:=len0 a;have hva:0<=vl a:=(da.bound (B:=65536) (by decide)).1;have hvb:0<vl b:=(fQ (B:=65536) (by decide) db nb).2 hb0;simp only[zB];refine⟨fun h1=>⟨by decide,by omega,fun _=> ?_⟩,fun hne=> ?_⟩
 ·have e:vl b=b.int 0 0:=by
   unfold vl;rw[fD,h1];have:=dK 65536 b (i:=0) (by omega);rw[kZ]at this;have e2:(0:Int)+1=1:=rfl;rw[e2]at this;rw[this];show 0+b.int 0 0*65536^0=b.int 0 0;rw[Int.pow_zero];omega
  have hx:=db.at (i:=0) (by omega) (by omega);exact⟨⟨by unfold aB;omega,by omega,hx.2⟩,fun q rq r rr hq=>⟨⟨by rw[e];exact hq.1,by rw[e];exact hq.2.1,hq.2.2.1,hq.2.2.2⟩,trivial⟩⟩
 have Ve:∀d:Sl,Ranged d [some .u16]->bT d->vl d<=vl a->d.len<=a.len:=fun d rd nd h=>nO (B:=65536) (by decide) (aj rd) nd da h
 have vA:vl a<65536^a.n:=(da.bound (B:=65536) (by decide)).2;have hn16:∀n:Int,0<=n->(n=0\/vl b*2^(n-1).toNat<=vl a)->n<=6400000001:=fun n n0 h=>by
  rcases h with h|h
  ·omega
  ·have h1:1*2^(n-1).toNat<=vl b*2^(n-1).toNat:=zP (by omega) (z7 (Int.pow_pos (by decide)))
   have h2:(2:Int)^(n-1).toNat<2^(16*a.n):=by rw[<-avA];omega
   have h3:=Qi (B:=2) (by decide) h2;unfold zC at la;omega
 have two:∀n:Int,0<=n->(2:Int)^(n+1).toNat=2^n.toNat*2:=fun n hn=>by rw[show(n+1).toNat=n.toNat+1 from by omega,zL]
 refine⟨fun d n=>0<=n/\bT d/\vl d=vl b*2^n.toNat/\(n=0\/vl b*2^(n-1).toNat<=vl a),fun d _=>(vl a+1-vl d).toNat,⟨by omega,nb,by simp, .inl rfl⟩,fun d rd n rn hj=> ?_⟩
 obtain⟨n0,nd,hd,hn⟩:=hj;have hd0:0<vl d:=by rw[hd];exact Int.mul_pos hvb (Int.pow_pos (by decide))
 refine⟨⟨na,nd⟩,fun l hl=>⟨fun hnl=> ?_,fun hyl=> ?_⟩⟩
 ·have hle:vl d<=vl a:=z2.1 fun h=>hnl (hl.2 h)
  have hdl:=Ve d rd nd hle;have hn':vl b*2^(n+1-1).toNat<=vl a:=by rw[show n+1-1=n from by omega,<-hd];exact hle
  have hb:=hn16 (n+1) (by omega) (.inr hn');refine⟨⟨by unfold aB;omega,by unfold aB;omega⟩,fun d' rd' h'=>⟨aJ _ (by omega),⟨by omega,h'.2 nd nd,by rw[h'.1,hd,two n n0];grind, .inr hn'⟩, ?_⟩⟩
  show(vl a+1-vl d').toNat<(vl a+1-vl d).toNat;rw[h'.1];omega
 ·have had:vl a<vl d:=hl.1 (zE.1 hyl)
  have hnb:=hn16 n n0 hn;have azr:∀i:Int,0<=i->i<n->vl b*2^i.toNat<=vl a:=fun i i0 i1=>by
   rcases hn with h|h
   ·omega
   ·have:(2:Int)^i.toNat<=2^(n-1).toNat:=fA (by decide) (by omega)
    have:=z9 this (z7 hvb);omega
  refine⟨fun d2 i=>0<=i/\i<=n/\bT d2/\vl d2=vl b*2^i.toNat,fun _ i=>(n-i).toNat,⟨by omega,n0,nb,by simp⟩,fun d2 rd2 i _ hj2=> ?_⟩
  obtain⟨i0,i1,nd2,hd2⟩:=hj2;refine⟨fun hlt=> ?_,fun hge=> ?_⟩
  ·have hdl:=Ve d2 rd2 nd2 (by rw[hd2];exact azr i i0 hlt)
   exact⟨⟨by unfold aB;omega,by unfold aB;omega⟩,fun d' rd' h'=>⟨aJ _ (by omega),⟨by omega,by omega,h'.2 nd2 nd2,by rw[h'.1,hd2,two i i0];grind⟩,by show(n-(i+1)).toNat<(n-i).toNat;omega⟩⟩
  ·have ei:i=n:=by omega
   subst ei;have e0:(zA []).len=0:=rfl;have sa:dL (zF (zA []) a) a:=Us e0;have hA:vl (zF (zA []) a)=vl a:=sa.val _;refine⟨by rw[e0];omega, ?_⟩
   refine⟨fun d3 q r k=>0<=k/\k<=i/\bT d3/\bT q/\bT r/\vl d3=vl b*2^(i-k).toNat/\vl a=vl d3*vl q+vl r/\vl r<vl d3/\0<=vl q/\0<=vl r,fun _ _ _ k=>(i-k).toNat,
    ⟨by omega,i0,nd2,JX,sa.nrm na,by rw[hd2];simp, ?_,by rw[hA,hd2,<-hd];exact had,zG _,by rw[hA];exact hva⟩,fun d3 rd3 q rq r rr k _ hj3=> ?_⟩
   ·have:vl Sl.nil=0:=rfl
    rw[this,hA];omega
   obtain⟨k0,k1,nd3,nq,nr,hd3,hdiv,hr1,hq0,hr0⟩:=hj3;have aCq:0<vl d3:=by omega
   have hqa:vl q<=vl a:=by
    have:1*vl q<=vl d3*vl q:=zP (by omega) hq0;omega
   have hra:vl r<=vl a:=by
    have:0<=vl d3*vl q:=z6 (by omega) hq0;omega
   refine⟨fun hlt=> ?_,fun ayG=>⟨⟨?_, ?_,nq,nr⟩,trivial⟩⟩
   ·have ld3:d3.len<=a.len+b.len+1:=by
     have h1:vl d3<=vl a+vl a+vl b:=by
      have hle:vl d3<=vl b*2^i.toNat:=by
       rw[hd3];exact z9 (fA (by decide) (by omega)) (by omega)
      rcases hn with h|h
      ·omega
      ·have e:(2:Int)^i.toNat=2^(i-1).toNat*2:=by rw[<-two (i-1) (by omega)];congr 1;omega
       have:vl b*2^i.toNat=vl b*2^(i-1).toNat*2:=by rw[e,z8]
       omega
     have h2:=(db.bound (B:=65536) (by decide)).2;have h2:vl b<65536^b.n:=h2;have h3:=fA (B:=65536) (by decide) (show a.n<=a.n+b.n by omega);have h4:=fA (B:=65536) (by decide) (show b.n<=a.n+b.n by omega);have h5:(65536:Int)^(a.n+b.n+1)=65536^(a.n+b.n)*65536:=zL ..;have:=(jB (B:=65536) (by decide) (aj rd3) nd3 (a.n+b.n+1)).2 (by show vl d3<_;omega);unfold zC at*;omega
    refine⟨by show aB d3;unfold aB;omega,fun d4 rd4 h4=> ?_⟩
    have hq1:=Ve q rq nq hqa;have he:(2:Int)^(i-k).toNat=2^(i-(k+1)).toNat*2:=by rw[<-two (i-(k+1)) (by omega)];congr 1;omega
    have hd4:vl d4=vl b*2^(i-(k+1)).toNat:=by
     rw[h4.1,hd3,he,<-z8];omega
    have asq:vl d3=vl d4*2:=by rw[hd4,hd3,he,z8]
    refine⟨⟨by unfold aB;omega,by unfold aB;omega⟩,fun q2 rq2 h5=>⟨⟨nr,h4.2⟩,fun l2 hl2=>⟨fun hnl=> ?_,fun hyl=> ?_⟩⟩⟩
    ·have hge4:vl d4<=vl r:=z2.1 fun h=>hnl (hl2.2 h)
     have hq2:vl q2<=vl a:=by
      rw[h5.1];have:1*(vl q+vl q)<=vl d4*(vl q+vl q):=zP (by omega) (by omega);have e:vl d4*(vl q+vl q)=vl d3*vl q:=by rw[asq];grind
      omega
     have e1:vl (zA [[.int 1]])=1:=Dp _ _;have l1:(zA [[.int 1]]).len=1:=rfl;have n1:bT (zA [[.int 1]]):=fun _=>by
      have:(zA [[.int 1]]).int ((zA [[.int 1]]).len-1) 0=1:=rfl;rw[this];decide
     have hrl:=Ve r rr nr hra;refine⟨⟨by unfold aB;omega,hge4,nO (B:=65536) (by decide) (aj rd4) h4.2 (aj rr) hge4⟩,fun r2 rr2 h6=>⟨⟨by have:=Ve q2 rq2 (h5.2 nq nq) hq2;unfold aB;omega,by unfold aB;omega⟩,fun q3 rq3 h7=>⟨aJ _ (by omega),⟨by omega,by omega,h4.2,h7.2 (h5.2 nq nq) n1,h6.2,hd4, ?_, ?_, ?_, ?_⟩,by show(i-(k+1)).toNat<(i-k).toNat;omega⟩⟩⟩
     ·rw[h7.1,e1,h5.1,h6.1,hdiv,asq];grind
     ·rw[h6.1];omega
     ·rw[h7.1,e1,h5.1];omega
     ·rw[h6.1];omega
    ·have hlt4:vl r<vl d4:=hl2.1 (zE.1 hyl)
     refine⟨aJ _ (by omega),⟨by omega,by omega,h4.2,h5.2 nq nq,nr,hd4, ?_,hlt4,by rw[h5.1];omega,hr0⟩,by show(i-(k+1)).toNat<(i-k).toNat;omega⟩
     rw[h5.1,hdiv,asq];grind
   ·have ek:k=i:=by omega
    subst ek;rw[hdiv,hd3];simp
   ·have ek:k=i:=by omega
    subst ek;rw[hd3]at hr1;simpa using hr1
theorem qg{n n':Bool}{l l':Sl}(h:iI n l n' l')(hn:bT l):NW n' l'/\zv n' l'=sg n (vl l):=by
 obtain⟨rfl,hb⟩:=h;refine⟨⟨hn,fun hz=> ?_⟩, ?_⟩
 ·cases n'
  ·rfl
  ·have:=(hb.1 rfl).2;omega
 ·unfold zv sg
  by_cases hl:l'.len=0
  ·have e:vl l'=0:=by
    unfold vl;rw[fD,hl];rfl
   rw[e];simp
  ·have h0:=len0 l'
   have:n'=n:=by
    cases n'<;>cases n<;>first|rfl|(exfalso;first|exact absurd (hb.1 rfl).1 (by decide)|exact absurd (hb.2 ⟨rfl,by omega⟩) (by decide))
   rw[this]
theorem apl:ahS:=by
 intro n l rl _;simp only[zB,decide_false];refine⟨fun h _=>⟨⟨rfl, ?_⟩,trivial⟩,fun h=>⟨⟨rfl, ?_⟩,trivial⟩⟩
 ·rw[h];simp
 ·have:n=false:=by simpa using h
  rw[this];simp
theorem ajE:acr:=by
 intro neg l rl _ hsm;have hm:=iW hsm;have h0:=len0 l;simp only[rM,okW,NW,zB,decide_eq_true_eq,decide_false,zR,false_iff];refine⟨fun hz=>⟨?_,trivial⟩,fun hnz _=>⟨fun hle _=>⟨aJ _ (by omega),by omega,by omega,fun _=>⟨?_,trivial⟩⟩,fun hgt=>⟨fun h=>hgt h.2,trivial⟩⟩⟩
 ·constructor
  ·intro h
   exact⟨⟨fun h'=>absurd h' (by omega),fun _=>by simpa using h⟩,by omega⟩
  ·intro h
   simp[h.1.2 hz]
 ·constructor
  ·intro h
   exact⟨⟨fun _=>h,fun h'=>absurd h' (by omega)⟩,hle⟩
  ·intro h
   exact h.1.1 (by omega)
theorem aep:Wv:=by
 intro n rn _;rw[au]at rn;refine⟨fun s=>s=(if n<0 then-n else n),⟨fun h=> ?_,fun h=> ?_⟩,fun s rs hs=> ?_⟩
 ·rw[if_pos h,wu64,wu64];omega
 ·rw[if_neg h,wu64];omega
 have hs:s=(if n<0 then-n else n):=hs
 have hs0:0<=s/\s<=9223372036854775808:=by rw[hs];split<;>omega
 refine⟨fun l u=>0<=u/\u<=s/\vl l+u*65536^l.n=s/\0<=vl l/\(u=0->bT l)/\l.len<=4,fun _ u=>u.toNat,⟨hs0.1,zG _, ?_,zG _,fun _=>JX,by decide⟩,fun l rl u ru hj=> ?_⟩
 ·show 0+s*65536^0=s
  rw[Int.pow_zero];omega
 obtain⟨u0,us,hv,hl0,hn,hl4⟩:=hj;have e1:∀d:Int,(zA [[.int d]]).len=1:=fun d=>rfl
 refine⟨fun hp=> ?_,fun hz=>⟨trivial,fun neg l' rl' hq=> ?_⟩⟩
 ·have hlen:l.n<4:=by
   have h1:1*65536^l.n<=u*65536^l.n:=zP (by omega) (z7 (fC (by decide) _));have h2:(65536:Int)^l.n<65536^4:=by
    have:(65536:Int)^4=18446744073709551616:=rfl;omega
   exact Qi (B:=65536) (by decide) h2
  rw[zH u0,zI u0,zX (x:=u % 65536) (by omega) (by omega),bI (x:=u/65536) (by omega) (by omega)];have hval:vl (zF l (zA [[.int (u % 65536)]]))=vl l+u % 65536*65536^l.n:=by unfold vl;rw[Gq]
  have hpn:=fC (B:=65536) (by decide) l.n;refine⟨by decide,dX.2 (by omega),by rw[e1];omega,by decide,⟨by omega,by omega, ?_, ?_,fun hz=> ?_, ?_⟩,by show(u/65536).toNat<u.toNat;omega⟩
  ·rw[hval]
   show _+u/65536*65536^(l.n+1)=s;rw[zL,<-hv];generalize(65536:Int)^l.n=Q at*;have e2:u % 65536=u-65536*(u/65536):=by omega
   rw[e2];generalize u/65536=q at*
   grind
  ·rw[hval]
   have:0<=u % 65536*65536^l.n:=z6 (by omega) (by omega);omega
  ·intro _
   rw[zJ,show l.len+1-1=l.len from by omega,aG (zG _),Int.sub_self]
   show u % 65536≠0;omega
  ·rw[zJ]
   unfold zC;omega
 ·have hu:u=0:=by omega
  simp only[zB];obtain⟨h1,h2⟩:=qg hq (hn hu);rw[hu,Int.zero_mul,z5]at hv;simp only[zB]at h1 h2;refine⟨⟨h1, ?_,by rw[hq.1];exact hl4⟩,trivial⟩
  rw[h2,hv,hs];unfold sg;simp only[decide_eq_true_eq];split<;>omega
theorem apm:ahT:=by
 intro neg l rl hp;simp only[zB]at hp⊢;have dl:=aj rl;have h0:=len0 l;simp only[rM];refine⟨trivial,fun v hv=>⟨fun hn=>absurd (hv.2 hp) hn,fun _ hsm=>⟨fun hgt=>⟨.inr ⟨?_,rfl,rfl⟩,trivial⟩,fun hle _=>⟨aJ _ (by omega), ?_⟩⟩⟩⟩
 ·have h1:=O8 (B:=65536) (by decide) dl hp.1.1 (by omega)
  have h2:=fA (B:=65536) (by decide) (show 4<=l.n-1 by unfold zC at hgt;omega);have h3:(65536:Int)^4=18446744073709551616:=rfl;have h4:18446744073709551616<=vl l:=by
   unfold vl;omega
  unfold tN zv;split<;>omega
 refine⟨fun acc i=>-1<=i/\i<l.len/\acc=jC 65536 l (i+1),fun _ i=>(i+1).toNat,⟨by omega,by omega,by rw[Gl _ _ (by omega)]⟩,fun acc asf i _ hj=> ?_⟩
 obtain⟨i0,i1,hacc⟩:=hj;rw[dX]at asf;refine⟨fun hge=>⟨hge,i1,fun _=>⟨aJ _ (by omega),⟨by omega,by omega, ?_⟩, ?_⟩⟩,fun hlt=> ?_⟩
 ·have hb:=dl.Dh (B:=65536) (by decide) (i:=i+1) (by omega)
  have hx:=dl.at hge i1;have h2:(65536:Int)^(l.n-(i+1).toNat)<=65536^3:=fA (by decide) (by unfold zC at*;omega);have h3:(65536:Int)^3=281474976710656:=rfl;rw[<-hacc]at hb;rw[bI (x:=acc*65536) (by omega) (by omega),bI (by omega) (by omega),show i-1+1=i from by omega,o7 _ _ hge i1,<-hacc]
  omega
 ·show(i-1+1).toNat<(i+1).toNat
  omega
 ·have e:i=-1:=by omega
  subst e;have e1:acc=vl l:=by rw[hacc];exact oZ _ _
  unfold lH tN zv;refine⟨fun hneg=>⟨fun hle=>⟨?_,trivial⟩,fun hgt=>⟨fun hc=>absurd hneg hc,fun _=>⟨?_,trivial⟩⟩⟩,fun hpos=>⟨fun _=>⟨fun hlt'=>⟨?_,trivial⟩,fun hge=>⟨?_,trivial⟩⟩,fun hc=>absurd hpos hc⟩⟩
  ·rw[if_pos hneg,wu64,afY];omega
  ·rw[if_pos hneg];omega
  ·rw[if_neg hpos,afY];omega
  ·rw[if_neg hpos];omega
theorem apn:ahU:=by
 intro n l rl _;refine⟨trivial,fun n' l' _ hq=>⟨⟨hq.1, ?_⟩,trivial⟩⟩
 have h:=hq.2;simp only[zB,decide_eq_true_eq]at h⊢;rw[h];cases n<;>simp
theorem aiw{n n':Bool}{l l':Sl}(h:F7 n l n' l')(hn:NW n l):NW n' l'/\zv n' l'=-zv n l/\l'.len=l.len:=
 Oh (n:=n) ⟨by rw[h.1];exact dL.refl _,h.2⟩ hn
theorem apo:ahV:=by
 intro n a ra m b rb hp;simp only[zB]at hp⊢;obtain⟨ha,hb,la,lb⟩:=hp;unfold mJ;simp only[yA n a,yA m b];refine⟨fun he=>⟨⟨la,lb⟩,fun r rr hr=>⟨trivial,fun e l rl hq=> ?_⟩⟩,fun hne=>⟨⟨ha.1,hb.1⟩,fun c hc=>⟨fun hy=>⟨⟨lb, ?_, ?_⟩,fun r rr hr=>⟨trivial,fun e l rl hq=> ?_⟩⟩,fun hn=>⟨⟨la, ?_, ?_⟩,fun r rr hr=>⟨trivial,fun e l rl hq=> ?_⟩⟩⟩⟩⟩
 ·obtain⟨h1,h2⟩:=qg hq (hr.2 ha.1 hb.1)
  refine⟨⟨h1, ?_⟩,trivial⟩
  rw[h2,hr.1];have:n=m:=by cases n<;>cases m<;>simp_all
  rw[this];unfold sg;split<;>omega
 ·have:=hc.1 hy;omega
 ·have:=hc.1 hy
  exact nO (B:=65536) (by decide) (aj ra) ha.1 (aj rb) (by show vl a<=vl b;omega)
 ·obtain⟨h1,h2⟩:=qg hq hr.2
  refine⟨⟨h1, ?_⟩,trivial⟩
  rw[h2,hr.1];unfold sg;cases n<;>cases m<;>simp at hne⊢<;>omega
 ·exact z2.1 fun h=>hn (hc.2 h)
 ·have:vl b<=vl a:=z2.1 fun h=>hn (hc.2 h)
  exact nO (B:=65536) (by decide) (aj rb) hb.1 (aj ra) this
 ·obtain⟨h1,h2⟩:=qg hq hr.2
  refine⟨⟨h1, ?_⟩,trivial⟩
  rw[h2,hr.1];unfold sg;cases n<;>cases m<;>simp at hne⊢<;>omega
theorem aer:Wx:=by
 intro n a ra m b rb hp;simp only[zB]at hp⊢;refine⟨hp,fun r rr hr=>⟨trivial,fun e l rl hq=> ?_⟩⟩
 obtain⟨h1,h2⟩:=qg hq hr.2;refine⟨⟨h1, ?_⟩,trivial⟩
 rw[h2,hr.1,yA,yA];unfold sg;cases n<;>cases m<;>simp[z3,z4]
theorem ajF:acs:=by
 intro n a ra m b rb hp;simp only[zB]at hp⊢;obtain⟨ha,hb,la,lb,hb0⟩:=hp;have hva:0<=vl a:=((aj ra).bound (by decide)).1;have hvb:0<vl b:=(fQ (B:=65536) (by decide) (aj rb) hb.1).2 hb0;unfold yG;simp only[yA n a,yA m b];refine⟨⟨la,lb,ha.1,hb.1,hb0⟩,fun q rq r rr hd=> ?_⟩
 obtain⟨d1,d2,d3,d4⟩:=hd;have hq0:0<=vl q:=((aj rq).bound (by decide)).1;have hr0:0<=vl r:=((aj rr).bound (by decide)).1;have hrz:=bK (B:=65536) (by decide) (aj rr) d4;have hrz:vl r=0↔r.len=0:=hrz;have aAc:=len0 r;have plain:(¬(¬((n=true)↔(m=true)))\/¬r.len>0)->jk (decide (¬((n=true)↔(m=true)))) q/\∀(e:Bool)(l:Sl),Ranged l [some .u16]->iI (decide (¬((n=true)↔(m=true)))) q e l->jk m r/\∀(e':Bool)(l':Sl),Ranged l' [some .u16]->iI m r e' l'->
   (NW e l/\NW e' l'/\sg n (vl a)=sg m (vl b)*zv e l+zv e' l'/\(0<sg m (vl b)->0<=zv e' l'/\zv e' l'<sg m (vl b))/\(sg m (vl b)<0->sg m (vl b)<zv e' l'/\zv e' l'<=0))/\True:=fun hc=>by
  refine⟨trivial,fun e l rl hu=>⟨trivial,fun e' l' rl' hu'=>⟨?_,trivial⟩⟩⟩
  obtain⟨u1,u2⟩:=qg hu d3;obtain⟨u3,u4⟩:=qg hu' d4;refine⟨u1,u3, ?_, ?_, ?_⟩
  ·rw[u2,u4,d1]
   unfold sg;rcases hc with hc|hc
   ·have:n=m:=by cases n<;>cases m<;>simp_all
    rw[this];cases m<;>simp[z3,z4]<;>omega
   ·have:vl r=0:=hrz.2 (by omega)
    rw[this];cases n<;>cases m<;>simp[z3,z4]
  ·rw[u4]
   unfold sg;cases m<;>simp<;>omega
  ·rw[u4]
   unfold sg;cases m<;>simp<;>omega
 refine⟨fun hne _=>⟨fun hpos=> ?_,fun hnp=>plain (.inr hnp)⟩,fun heq=>plain (.inl heq)⟩
 have e1:vl (zA [[.int 1]])=1:=Dp _ _;have l1:(zA [[.int 1]]).len=1:=rfl;have n1:bT (zA [[.int 1]]):=fun _=>by
  have:(zA [[.int 1]]).int ((zA [[.int 1]]).len-1) 0=1:=rfl;rw[this];decide
 have azn:0<vl r:=by have:=hrz.1;omega
 have hqa:vl q<=vl a:=by
  have:1*vl q<=vl b*vl q:=zP (by omega) hq0;omega
 have hql:=nO (B:=65536) (by decide) (aj rq) d3 (aj ra) hqa;unfold Sm at la lb;refine⟨⟨by unfold aB;omega,by unfold aB;omega⟩,fun q' rq' hq'=>⟨⟨by unfold aB;omega,by omega,nO (B:=65536) (by decide) (aj rr) d4 (aj rb) (by show vl r<=vl b;omega)⟩,fun r' rr' hr'=>⟨trivial,fun e l rl hu=>⟨trivial,fun e' l' rl' hu'=>⟨?_,trivial⟩⟩⟩⟩⟩
 obtain⟨u1,u2⟩:=qg hu (hq'.2 d3 n1);obtain⟨u3,u4⟩:=qg hu' hr'.2;rw[hq'.1,e1]at u2;rw[hr'.1]at u4;refine⟨u1,u3, ?_, ?_, ?_⟩
 ·rw[u2,u4,d1]
  unfold sg;cases n<;>cases m<;>simp[z3,z4,Int.mul_add]at hne⊢<;>omega
 ·rw[u4]
  unfold sg;cases m<;>simp<;>omega
 ·rw[u4]
  unfold sg;cases m<;>simp<;>omega
theorem ajG:acu:=by
 intro a ra b rb hp;obtain⟨la,lb,na,nb⟩:=hp;refine⟨fun x y=>Sm x/\Sm y/\bT x/\bT y/\Int.gcd (vl x) (vl y)=Int.gcd (vl a) (vl b),fun _ y=>(vl y).toNat,⟨la,lb,na,nb,rfl⟩,fun x rx y ry hj _=> ?_⟩
 obtain⟨lx,ly,nx,ny,hg⟩:=hj;have hx0:0<=vl x:=((aj rx).bound (by decide)).1;have hyl:=len0 y;refine⟨fun hp=>⟨⟨lx,ly,nx,ny,hp⟩,fun q rq r rr hd=> ?_⟩,fun hz=> ?_⟩
 ·obtain⟨d1,d2,d3,d4⟩:=hd
  have hr0:0<=vl r:=((aj rr).bound (by decide)).1;refine⟨⟨ly, ?_,ny,d4,by rw[gcd_div d1];exact hg⟩,by show(vl r).toNat<(vl y).toNat;omega⟩
  have:=nO (B:=65536) (by decide) (aj rr) d4 (aj ry) (by show vl r<=vl y;omega);unfold Sm at*;omega
 ·have e0:vl y=0:=(bK (B:=65536) (by decide) (aj ry) ny).2 (by omega)
  rw[e0,Int.gcd_zero_right]at hg;refine⟨⟨?_,nx⟩,trivial⟩
  rw[<-hg];omega
theorem ajH:acv:=by
 intro n a ra m b rb hp;simp only[zB]at hp⊢;obtain⟨ha,hb,la,lb⟩:=hp;have S:∀(m':Bool)(b':Sl),Ranged b' [some .u16]->F7 m b m' b'->qc n a m' b'/\∀(e:Bool)(l:Sl),Ranged l [some .u16]->mJ n a m' b' e l->
   ((e=true->iY n a m b (-1)/\True)/\(¬e=true->Small l->((l.len>0->iY n a m b 1/\True)/\(¬l.len>0->iY n a m b 0/\True)))):=fun m' b' kD hq=>by
  obtain⟨w1,w2,w3⟩:=aiw hq hb;refine⟨⟨ha,w1,la,by unfold aB at*;omega⟩,fun e l rl hs=> ?_⟩
  have hv:0<=vl l:=((aj rl).bound (by decide)).1;have hz:=bK (B:=65536) (by decide) (aj rl) hs.1.1;have hz:vl l=0↔l.len=0:=hz;have h0:=len0 l;have hd:zv e l=zv n a-zv m b:=by rw[hs.2,w2];omega
  unfold iY ZY;refine⟨fun he=>⟨.inl ⟨rfl, ?_⟩,trivial⟩,fun he _=>⟨fun hp=>⟨.inr (.inr ⟨rfl, ?_⟩),trivial⟩,fun hp=>⟨.inr (.inl ⟨rfl, ?_⟩),trivial⟩⟩⟩
  ·unfold zv at hd
   rw[if_pos he]at hd;have:l.len≠0:=fun h=>by have:=hs.1.2 h;rw[this]at he;exact absurd he (by decide)
   have:vl l≠0:=fun h=>this (hz.1 h)
   unfold zv;omega
  ·unfold zv at hd
   rw[if_neg he]at hd;have:vl l≠0:=fun h=>by have:=hz.1 h;omega
   unfold zv;omega
  ·have:l.len=0:=by omega
   rw[Gt this]at hd;omega
 have P:JK m b:=trivial;exact⟨⟨P,fun m' b' kD hq=>⟨S m' b' kD hq,S m' b' kD hq⟩⟩,⟨P,fun m' b' kD hq=>S m' b' kD hq⟩⟩
theorem aul:anF:=by
 intro l rl _ hsm;simp only[Hr,decide_eq_true_eq,decide_false,zR,false_iff];exact⟨fun hl=>⟨by decide,by omega,fun _=>⟨⟨fun h=>⟨hl,h⟩,fun h=>h.2⟩,trivial⟩⟩,fun hl=>⟨fun h=>hl h.1,trivial⟩⟩
theorem apq:ahW:=by
 intro a b rb c d rd _ _;simp only[xG,decide_eq_true_eq,decide_false,zR,false_iff];exact⟨fun h _=>⟨⟨fun h'=>⟨h,h'⟩,fun h'=>h'.2⟩,trivial⟩,fun h=>⟨fun h'=>h h'.1,trivial⟩⟩
theorem anY(n m:Bool)(x y:Int):zD (sg n x) (sg m y)=zD (sg (decide (¬((n=true)↔(m=true)))) x) y:=by
 unfold sg;cases n<;>cases m<;>simp[Rat.neg_divInt_neg,Rat.divInt_neg']
theorem ayH{s:Bool}{x g:Int}(h:g∣x):sg s x/g=sg s (x/g):=by
 unfold sg;split
 ·exact Int.neg_ediv_of_dvd h
 ·rfl
theorem ajI:acw:=by
 intro n a ra m b rb hp;simp only[zB,decide_false]at hp⊢;obtain⟨ha,hb,la,lb,hb0⟩:=hp;have hbv:0<vl b:=(fQ (B:=65536) (by decide) (aj rb) hb.1).2 hb0;refine⟨⟨la,lb,ha.1,hb.1⟩,fun g rg hg=>⟨trivial,fun o ho=> ?_⟩⟩
 have one:=JZ (aj rg) hg.2;have goal:∀(nn:Bool)(nl:Sl)(dn:Bool)(dl:Sl),Ranged dl [some .u16]->NW nn nl->NW dn dl->zv nn nl=sg (decide (¬((n=true)↔(m=true)))) (vl a)/vl g->zv dn dl=vl b/vl g->lI n a m b nn nl dn dl:=fun nn nl dn dl kL h1 h2 h3 h4=>by
  have e:zD (zv n a) (zv m b)=zD (sg (decide (¬((n=true)↔(m=true)))) (vl a)) (vl b):=anY n m _ _;show aK (zD (zv n a) (zv m b)) nn nl dn dl;rw[e];refine Ry (aj kL) h1 h2 hbv ?_ h3 h4
  rw[hg.1];unfold sg;split
  ·rw[Int.neg_gcd]
  ·rfl
 have hga:vl g∣vl a:=by rw[hg.1];exact Int.gcd_dvd_left ..
 have hgb:vl g∣vl b:=by rw[hg.1];exact Int.gcd_dvd_right ..
 have SK:0<vl g:=by
  rw[hg.1];have:=Int.gcd_pos_of_ne_zero_right (vl a) (show vl b≠0 by omega);omega
 refine⟨fun hy=>⟨trivial,fun nn nl rn h1=>⟨trivial,fun dn dl kL h2=>⟨?_,trivial⟩⟩⟩,fun hn=> ?_⟩
 ·have g1:=one.1 (ho.1 hy)
  obtain⟨w1,e1⟩:=qg h1 ha.1;obtain⟨w2,e2⟩:=qg h2 hb.1;refine goal nn nl dn dl kL w1 w2 ?_ ?_
  ·rw[e1,g1,Int.ediv_one]
  ·rw[e2,g1,Int.ediv_one];rfl
 ·have hgl:0<g.len:=(fQ (B:=65536) (by decide) (aj rg) hg.2).1 SK
  have lg:Sm g:=by
   have:=nO (B:=65536) (by decide) (aj rg) hg.2 (aj rb) (Int.le_of_dvd hbv hgb);unfold Sm at*;omega
  refine⟨⟨la,lg,ha.1,hg.2,hgl⟩,fun q rq r rr hd=>⟨⟨lb,lg,hb.1,hg.2,hgl⟩,fun q' rq' r' rr' hd'=>⟨trivial,fun nn nl rn h1=>⟨trivial,fun dn dl kL h2=>⟨?_,trivial⟩⟩⟩⟩⟩
  have hr0:0<=vl r:=((aj rr).bound (by decide)).1;have aAw:0<=vl r':=((aj rr').bound (by decide)).1;have x1:=ND SK hga hd.1 hr0 hd.2.1;have x2:=ND SK hgb hd'.1 aAw hd'.2.1;obtain⟨w1,e1⟩:=qg h1 hd.2.2.1;obtain⟨w2,e2⟩:=qg h2 hd'.2.2.1;refine goal nn nl dn dl kL w1 w2 ?_ ?_
  ·rw[e1,ayH hga,x1]
  ·rw[e2,x2];rfl
theorem ajJ:acy:=by
 intro nn nl rn dn dl rd _;simp only[zB,decide_false];have key:=anS (nn:=nn) (dn:=dn) (aj rn) (aj rd);have h0:=len0 dl;have no:¬okF nn nl dn dl->bG nn nl dn dl false/\True:=fun h=>⟨by simp only[bG,zR,false_iff];exact h,trivial⟩
 refine⟨trivial,fun v hv=>⟨fun h=>no fun hk=>h (hv.2 ⟨(key.1 hk).2.2.1,by have:=(key.1 hk).1;omega⟩),fun h3=>⟨trivial,fun w hw=>⟨fun h=>no fun hk=>h (hw.2 ⟨(key.1 hk).2.2.2.1,by have:=(key.1 hk).2.1;omega⟩),fun h4=>⟨trivial,fun f hf=>⟨fun h=>no fun hk=>h (hf.2 ⟨(key.1 hk).1,(key.1 hk).2.1⟩),fun h5=>⟨fun h=>no fun hk=>by have:=(key.1 hk).2.2.2.2.1;rw[this]at h;exact absurd h (by decide),fun h6 _=>⟨fun h=>no fun hk=>(key.1 hk).2.2.2.2.2.1 h,fun h7=> ?_⟩⟩⟩⟩⟩⟩⟩⟩
 have w1:=hv.1 (zE.1 h3);have w2:=hw.1 (zE.1 h4);have w3:=hf.1 (zE.1 h5);have hdn:dn=false:=by simpa using h6
 refine⟨⟨by unfold Sm;omega,by unfold Sm;omega,w1.1.1,w2.1.1⟩,fun g rg hg=>⟨trivial,fun o ho=>⟨?_,trivial⟩⟩⟩
 have one:=JZ (aj rg) hg.2;have ho:o=true↔g.len=1/\g.int 0 0=1:=ho;show o=true↔okF nn nl dn dl;rw[ho,one,key,hg.1];constructor
 ·intro h;exact⟨w3.1,w3.2,w1.1,w2.1,hdn,h7,by omega⟩
 ·intro h;have:=h.2.2.2.2.2.2;omega
theorem aes:Wy:=by
 intro n rn _;refine⟨trivial,fun nn nl NG h1=>⟨trivial,fun dn dl kL h2=> ?_⟩⟩
 simp only[zB]at h1 h2⊢;exact⟨⟨Pm (aj kL) h1.1 h1.2.1 h2.1 h2.2.1,h1.2.2,h2.2.2⟩,trivial⟩
theorem adE(n d:Int):(zD n d).num.natAbs<=n.natAbs:=by
 rw[Rat.num_divInt];refine Nat.le_trans (Int.natAbs_ediv_le_natAbs _ _) ?_
 rw[Int.natAbs_mul];have:d.sign.natAbs<=1:=by
  rcases Int.lt_trichotomy d 0 with h|h|h
  ·rw[Int.sign_eq_neg_one_of_neg h];decide
  ·rw[h];decide
  ·rw[Int.sign_eq_one_of_pos h];decide
 exact Nat.le_trans (Nat.mul_le_mul_right _ this) (by omega)
theorem xk{n d:Int}(h:d≠0):(zD n d).den<=d.natAbs:=by
 rw[Rat.den_divInt,if_neg h];exact Nat.div_le_self ..
theorem aK.anZ{n d:Int}{nn dn:Bool}{nl dl:Sl}(hq:aK (zD n d) nn nl dn dl)(rn:bC 65536 nl)(rd:bC 65536 dl)(hd:d≠0){k:Nat}(h1:(n.natAbs:Int)<65536^k)(h2:(d.natAbs:Int)<65536^k):nl.len<=k/\dl.len<=k:=by
 have a1:=adE n d;have a2:=xk (n:=n) hd;refine⟨BM (n:=nn) rn hq.1 ?_,BM (n:=dn) rd hq.WO ?_⟩
 ·rw[hq.2.1]
  generalize(65536:Int)^k=P at*;omega
 ·rw[hq.zd]
  generalize(65536:Int)^k=P at*;omega
theorem amk:aeY:=by
 intro n rn d rd hp;have hp:d≠0:=hp;rw[au]at rn rd;refine⟨trivial,fun b2 s3 r3 h1=>⟨trivial,fun b4 s5 r5 h2=> ?_⟩⟩
 simp only[zB]at h1 h2⊢;refine⟨⟨h1.1,h2.1,by have:=h1.2.2;unfold Sm;omega,by have:=h2.2.2;unfold Sm;omega,Ac (aj r5) h2.1 (by rw[h2.2.1];exact hp)⟩,fun nn nl NG dn dl kL hq=>⟨?_,trivial⟩⟩
 have hq:aK (zD (zv b2 s3) (zv b4 s5)) nn nl dn dl:=hq;rw[h1.2.1,h2.2.1]at hq;have e4:(65536:Int)^4=18446744073709551616:=rfl;exact⟨hq,hq.anZ (aj NG) (aj kL) hp (k:=4) (by rw[e4];omega) (by rw[e4];omega)⟩
theorem Jk.nw{a c:Bool}{b d:Sl}(h:Jk a b c d):NW a b/\NW c d:=⟨h.1.iO.1,h.1.iO.WO⟩
theorem Jk.uX{a c:Bool}{b d:Sl}(h:Jk a b c d):fq a b d=zD (zv a b) (zv c d):=by
 unfold fq;have:zv c d=vl d:=by unfold zv;rw[h.1.iO.2.2.1];simp
 rw[this]
theorem okF.sm{a c:Bool}{b d:Sl}(h:okF a b c d):Jk a b c d:=⟨h.1,by have:=h.2;omega,by have:=h.2;omega⟩
theorem aml:aeZ:=by
 intro a b rb c d rd a' b' kD c' d' rd' hp;simp only[zB]at hp⊢;obtain⟨h,h'⟩:=hp;have l1:=h.2;have l2:=h'.2;have P1:aX a b c' d':=⟨by unfold aB;omega,by unfold aB;omega⟩;have P2:aX a' b' c d:=⟨by unfold aB;omega,by unfold aB;omega⟩;have P3:aX c d c' d':=⟨by unfold aB;omega,by unfold aB;omega⟩;have tail:∀(t1:Bool)(x1:Sl),Ranged x1 [some .u16]->aZ a b c' d' t1 x1->∀(t2:Bool)(x2:Sl),Ranged x2 [some .u16]->aZ a' b' c d t2 x2->qc t1 x1 t2 x2/\∀(t3:Bool)(x3:Sl),Ranged x3 [some .u16]->mJ t1 x1 t2 x2 t3 x3->aX c d c' d'/\∀(t4:Bool)(x4:Sl),Ranged x4 [some .u16]->aZ c d c' d' t4 x4->
   nY t3 x3 t4 x4/\∀(nn:Bool)(nl:Sl),Ranged nl [some .u16]->∀(dn:Bool)(dl:Sl),Ranged dl [some .u16]->lI t3 x3 t4 x4 nn nl dn dl->vV a b c d a' b' c' d' nn nl dn dl/\True:=fun t1 x1 r1 q1 t2 x2 r2 q2=>by
  have y1:=dD (k:=200000000) (aj rb) (aj rd') (aj r1) q1.1 q1.2 (by omega);have y2:=dD (k:=200000000) (aj kD) (aj rd) (aj r2) q2.1 q2.2 (by omega);refine⟨⟨q1.1,q2.1,by unfold aB;omega,by unfold aB;omega⟩,fun t3 x3 r3 q3=>⟨P3,fun t4 x4 r4 q4=> ?_⟩⟩
  have y3:=Gs (aj r1) (aj r2) (aj r3) q3.1 (.inl q3.2) y1 y2;have y4:=dD (k:=200000000) (aj rd) (aj rd') (aj r4) q4.1 q4.2 (by omega);have hne:zv t4 x4≠0:=by rw[q4.2];exact Int.mul_ne_zero (sG h.1) (sG h'.1)
  refine⟨⟨q3.1,q4.1,by unfold Sm;omega,by unfold Sm;omega,Ac (aj r4) q4.1 hne⟩,fun nn nl rn dn dl kL hq=>⟨?_,trivial⟩⟩
  have hq:aK (zD (zv t3 x3) (zv t4 x4)) nn nl dn dl:=hq;have e:zD (zv t3 x3) (zv t4 x4)=fq a b d+fq a' b' d':=by
   rw[q3.2,q1.2,q2.2,q4.2,h.uX,h'.uX,Rat.divInt_add_divInt _ _ (sG h.1) (sG h'.1)]
  rw[e]at hq;exact hq
 have L1:aX a b c' d'/\∀(t1:Bool)(x1:Sl),Ranged x1 [some .u16]->aZ a b c' d' t1 x1->aX a' b' c d/\∀(t2:Bool)(x2:Sl),Ranged x2 [some .u16]->aZ a' b' c d t2 x2->_:=⟨P1,fun t1 x1 r1 q1=>⟨P2,fun t2 x2 r2 q2=>tail t1 x1 r1 q1 t2 x2 r2 q2⟩⟩
 refine⟨⟨P1,fun t1 x1 r1 q1=>⟨⟨P2,fun t2 x2 r2 q2=>⟨tail t1 x1 r1 q1 t2 x2 r2 q2,tail t1 x1 r1 q1 t2 x2 r2 q2⟩⟩,⟨P2,fun t2 x2 r2 q2=>tail t1 x1 r1 q1 t2 x2 r2 q2⟩⟩⟩,L1⟩
theorem aK.neg{q:Rat}{nn dn n':Bool}{nl dl l':Sl}(h:aK q nn nl dn dl)(hn:NW n' l')(hz:zv n' l'=-zv nn nl):aK (-q) n' l' dn dl:=by
 refine⟨hn, ?_,h.2.2.1,h.2.2.2.1, ?_⟩
 ·rw[hz,h.2.1];rfl
 ·rw[h.2.2.2.2];rfl
theorem ajX:acz:=by
 intro a b rb c d rd a' b' kD c' d' rd' hp;simp only[zB]at hp⊢;obtain⟨h,h'⟩:=hp;refine⟨trivial,fun n' l' rl' hq=> ?_⟩
 obtain⟨w1,w2,w3⟩:=aiw hq h'.nw.1;have hm:aK (-fq a' b' d') n' l' c' d':=h'.1.iO.neg w1 w2;refine⟨⟨h,hm.pO,by rw[w3];exact h'.2.1,h'.2.2⟩,fun nn nl rn dn dl kL hr=>⟨?_,trivial⟩⟩
 have hr:aK (fq a b d+fq n' l' d') nn nl dn dl:=hr;rw[hm.fq,<-Rat.sub_eq_add_neg]at hr;exact hr
theorem ajY:acA:=by
 intro a b rb c d rd a' b' kD c' d' rd' hp;simp only[zB]at hp⊢;obtain⟨h,h'⟩:=hp;have l1:=h.2;have l2:=h'.2;refine⟨⟨by unfold aB;omega,by unfold aB;omega⟩,fun t3 x3 r3 q3=>⟨⟨by unfold aB;omega,by unfold aB;omega⟩,fun t4 x4 r4 q4=> ?_⟩⟩
 have y3:=dD (k:=200000000) (aj rb) (aj kD) (aj r3) q3.1 q3.2 (by omega);have y4:=dD (k:=200000000) (aj rd) (aj rd') (aj r4) q4.1 q4.2 (by omega);have hne:zv t4 x4≠0:=by rw[q4.2];exact Int.mul_ne_zero (sG h.1) (sG h'.1)
 refine⟨⟨q3.1,q4.1,by unfold Sm;omega,by unfold Sm;omega,Ac (aj r4) q4.1 hne⟩,fun nn nl rn dn dl kL hq=>⟨?_,trivial⟩⟩
 have hq:aK (zD (zv t3 x3) (zv t4 x4)) nn nl dn dl:=hq;have e:zD (zv t3 x3) (zv t4 x4)=fq a b d*fq a' b' d':=by
  rw[q3.2,q4.2,h.uX,h'.uX,Rat.divInt_mul_divInt]
 rw[e]at hq;exact hq
theorem ajZ:acB:=by
 intro a b rb c d rd a' b' kD c' d' rd' hp;simp only[zB]at hp⊢;obtain⟨h,h'⟩:=hp;have l1:=h.2;have l2:=h'.2;refine⟨⟨by unfold aB;omega,by unfold aB;omega⟩,fun t3 x3 r3 q3=>⟨⟨by unfold aB;omega,by unfold aB;omega⟩,fun t4 x4 r4 q4=> ?_⟩⟩
 have y3:=dD (k:=200000000) (aj rb) (aj rd') (aj r3) q3.1 q3.2 (by omega);have y4:=dD (k:=200000000) (aj kD) (aj rd) (aj r4) q4.1 q4.2 (by omega);refine⟨⟨q3.1,q4.1,by unfold aB;omega,by unfold aB;omega⟩,fun r _ hr=>⟨aiu ?_,trivial⟩⟩
 have hr:ZY (zv t3 x3) (zv t4 x4) r:=hr;rw[q3.2,q4.2,h.1.iO.2.1,h'.1.iO.2.1,h.1.iO.zd,h'.1.iO.zd]at hr;exact hr
theorem apv:ahX:=by
 intro a b rb c d rd a' b' kD c' d' rd' _;simp only[zB,bG];refine⟨trivial,fun v hv=>⟨fun hn=>⟨⟨fun h=>absurd (hv.2 h.1) hn,fun _=>rfl⟩,trivial⟩,fun hy=>⟨trivial,fun w hw=>⟨fun hn=>⟨⟨fun h=>absurd (hw.2 h.2) hn,fun _=>rfl⟩,trivial⟩,fun hy'=> ?_⟩⟩⟩⟩
 have h:=hv.1 (zE.1 hy);have h':=hw.1 (zE.1 hy');exact⟨⟨h.sm,h'.sm⟩,fun r _ hr=>⟨⟨fun _=>hr,fun hn=>absurd ⟨h,h'⟩ hn⟩,trivial⟩⟩
theorem aj0:acC:=by
 intro a b rb c d rd _;simp only[zB,decide_false,bG];refine⟨trivial,fun v hv=>⟨fun hn=>⟨⟨fun h=>absurd (hv.2 h) hn,fun _=>⟨rfl,rfl,rfl⟩⟩,trivial⟩,fun hok=> ?_⟩⟩
 have h:=hv.1 (zE.1 hok);have l1:=h.2;have hd:=h.iO.VU (aj rd);refine⟨⟨h.nw.1,h.nw.2,by unfold Sm;omega,by unfold Sm;omega,hd⟩,fun qn q rq rn r rr hq=>⟨⟨fun _=>⟨hq.1, ?_,rfl⟩,fun hn=>absurd h hn⟩,trivial⟩⟩
 obtain⟨_,_,q3,q4,_⟩:=hq;have hp:0<zv c d:=by rw[h.iO.zd];have:=(fq a b d).den_pos;omega
 rw[h.iO.2.1,h.iO.zd]at q3;have:=q4 hp;rw[h.iO.zd]at this;exact(YC q3 this.1 this.2).symm
theorem apw:ahY:=by
 intro a b rb c d rd _;simp only[zB,bG,Hr];refine⟨trivial,fun v hv=>⟨fun hn=>⟨⟨fun _=>⟨rfl,rfl⟩,fun h=>absurd (hv.2 h) hn⟩,trivial⟩,fun hok=> ?_⟩⟩
 have h:=hv.1 (zE.1 hok);have l1:=h.2;have one:=JZ (aj rd) h.iO.2.2.2.1;rw[h.iO.2.2.2.2]at one;refine⟨trivial,fun o ho=>⟨fun hn=>⟨⟨fun hf=>absurd h hf,fun _=>⟨fun _=>⟨rfl,rfl⟩,fun he=>absurd (ho.2 (one.2 (by omega))) hn⟩⟩,trivial⟩,fun hy=>⟨⟨h.nw.1,by omega⟩,fun x _ e _ hq=>⟨⟨fun hf=>absurd h hf,fun _=>⟨fun he=> ?_,fun he=> ?_⟩⟩,trivial⟩⟩⟩⟩
 ·have:=one.1 (ho.1 (zE.1 hy))
  omega
 ·unfold lH at hq
  rw[h.iO.2.1]at hq;rcases hq with hq|hq
  ·exact⟨fun _=>hq.2,fun hh=>absurd hq.1 hh⟩
  ·exact⟨fun hh=>absurd hh hq.1,fun _=>hq.2⟩
end Go.Sx.N
