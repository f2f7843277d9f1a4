/-
 The conditions of sums, differences and products of words, and of whole numbers. Conditions: none.
-/
import Derived.Test.YtccbjhfdfbaekaaGreatNumFa
import Derived.Test.YtccbjhfdfbaekaaGreatNumVA
import Derived.Test.YtccbjhfdfbaekaaGreatNumBase
open Go.Sx.Sl renaming lit->zA,d->zB,len->zG,app->zH,nil->zI
open Bool renaming decide_eq_true->zC,false_eq_true->z5
open Classical renaming not_not->zD
open Int renaming gcd->zE,pow_succ->zL,lt_or_le->zP,mul_le_mul_of_nonneg_right->zR,neg_mul->z0,mul_neg->z1,mul_one->z2,mul_ne_zero->z3,pow_add->z4,lt_of_lt_of_le->z6,mul_add->z7,gcd_dvd_right->z9,mul_lt_mul_of_pos_left->qD,sign_eq_one_of_pos->qE,mul_le_mul_of_nonneg_left->qG,gcd_pos_of_ne_zero_right->qH
open Rat renaming divInt->zF,num_divInt_den->z8,divInt_add_divInt->qI,divInt_mul_divInt->qJ,divInt_eq_divInt_iff->qK
set_option linter.unusedVariables false
set_option linter.unusedSimpArgs false
namespace Go.Sx.N
theorem Gq(B:Int)(w:Sl)(d:Int):val B (zH w (zA [[.int d]]))=val B w+d*B^w.n:=by
 show fF B (dg (zH w (zA [[.int d]]))) (w.n+1)=_;rw[iF];have e:dg (zH w (zA [[.int d]])) w.n=d:=by
  show Sl.int _ ((w.n:Nat):Int) 0=d;rw[aG (by unfold zG;omega)];have:((w.n:Nat):Int)-w.len=0:=by unfold zG;omega
  rw[this];rfl
 rw[e]
 congr 1
 exact l7 fun k hk=>aS (Int.natCast_nonneg _) (by unfold zG;omega)
theorem zJ(w:Sl)(c:List D):(zH w (zA [c])).len=w.len+1:=by
 rw[dG];rfl
theorem atF:ant:=by
 intro a ra b rb hp;obtain⟨la,lb⟩:=hp;unfold aB at la lb;refine⟨fun x y=>vw x+vw y=vw a+vw b/\y.len<=x.len/\x.len<=1073741824,⟨fun _ _=>⟨fun h=>⟨by omega,by omega,lb⟩,fun h=>⟨rfl,by omega,la⟩⟩,fun x rx y ry hj _=> ?_⟩⟩
 obtain⟨hs,hyx,hxl⟩:=hj;have dx:=aH rx;have dy:=aH ry;have hx0:=len0 x;refine⟨aJ _ (by omega),by decide,by omega,by omega,fun _=> ?_⟩
 refine⟨fun i w c=>0<=i/\i<=x.len/\w.len=i/\(c=0\/c=1)/\vw w+c*4294967296^i.toNat=bJ 4294967296 x i+Az 4294967296 y i,fun i _ _=>(x.len-i).toNat,
  ⟨by omega,hx0,rfl, .inl rfl,rfl⟩,fun i _ w uU c _ hj=> ?_⟩
 obtain⟨i0,i1,hwl,hc,hv⟩:=hj;have hwn:w.n=i.toNat:=by unfold zG at hwl;omega
 have wz:∀z:Int,0<=z->z<=8589934590->IntKind.wrap .u64 (z+c)=z+c:=fun z h1 h2=>bI (by omega) (by omega)
 refine⟨fun hlt=>⟨i0,hlt,fun _=>⟨fun z=>z=x.int i 0+wd y i,⟨fun _=>⟨fun h=>⟨i0,h,fun _=> ?_⟩,fun h=> ?_⟩,fun z _ hz=> ?_⟩⟩⟩,fun hge=> ?_⟩
 ·have e:wd y i=y.int i 0:=if_pos h
  have h1:=dx.at i0 hlt;have h2:=dy.at i0 h;rw[e];exact bI (by omega) (by omega)
 ·have e:wd y i=0:=if_neg h
  rw[e];omega
 ·have h1:=dx.at i0 hlt
  have h2:=tu (B:=4294967296) (by decide) dy i0;have hz:z=x.int i 0+wd y i:=hz;rw[wz z (by omega) (by omega),Jy,xR];have fin:(w.len+(zA [[.int ((z+c) % 4294967296)]]).len)*4<=140737488355328/\(0:Int)<=32/\Rng .u64 ((z+c)/4294967296)/\iA (i+1)/\
    ((0<=i+1/\i+1<=x.len/\(zH w (zA [[.int ((z+c) % 4294967296)]])).len=i+1/\((z+c)/4294967296=0\/(z+c)/4294967296=1)/\
     vw (zH w (zA [[.int ((z+c) % 4294967296)]]))+(z+c)/4294967296*4294967296^(i+1).toNat=bJ 4294967296 x (i+1)+Az 4294967296 y (i+1))/\(x.len-(i+1)).toNat<(x.len-i).toNat):=by
   have e1:(zA [[.int ((z+c) % 4294967296)]]).len=1:=rfl;refine⟨by rw[e1];omega,by decide,dX.2 (by omega),aJ _ (by omega),⟨by omega,by omega,by rw[zJ];omega,by omega, ?_⟩,by omega⟩
   unfold vw at hv⊢;rw[Gq,hwn,dK _ _ i0,tC _ _ i0,show(i+1).toNat=i.toNat+1 from by omega,zL]
   generalize(4294967296:Int)^i.toNat=Q at*;have e2:z+c=4294967296*((z+c)/4294967296)+(z+c) % 4294967296:=by omega
   generalize(z+c)/4294967296=q at*;generalize(z+c) % 4294967296=r at*;have e3:r=x.int i 0+wd y i+c-4294967296*q:=by omega
   rw[e3]
   grind
  exact⟨fin,fin⟩
 ·have ei:i=x.len:=by omega
  have e0:(0:Int)+c=c:=by omega
  rw[e0,bI (x:=c) (by omega) (by omega),nI (x:=c) (by omega) (by omega),Jy];have e1:(zA [[.int c]]).len=1:=rfl;have fin:(w.len+(zA [[.int c]]).len)*4<=140737488355328/\(0:Int)<=32/\Rng .u64 (c/4294967296)/\pq (zH w (zA [[.int c]]))/\
    ∀s:Sl,Ranged s [some .u32]->lV (zH w (zA [[.int c]])) s->OL a b s/\True:=by
   refine⟨by rw[e1];omega,by decide,dX.2 (by omega),trivial,fun s _ hq=>⟨⟨?_,hq.1⟩,trivial⟩⟩
   rw[hq.2.2];unfold vw at hv hs⊢;rw[Gq,hwn,hv,ei,<-fD,uV _ _ (by omega)];exact hs
  exact⟨fin,fin⟩
theorem aoV:ahL:=by
 intro a ra b rb hp;obtain⟨la,lb,hle,hbl⟩:=hp;unfold aB at la lb;have db:=aH rb;refine⟨la,fun s rs hs _=> ?_⟩
 have ds:=aH rs;have hsl:s.len=a.len:=hs.1;have hsv:vw s=vw a:=hs.val _;have hs0:=len0 s;have hb0:=len0 b;refine⟨fun bo i w=>0<=i/\i<=s.len/\w.len=s.len/\(bo=0\/bo=1)/\bJ 4294967296 w i=bJ 4294967296 s i-Az 4294967296 b i+bo*4294967296^i.toNat/\(∀k:Int,i<=k->k<s.len->w.int k 0=s.int k 0),fun _ i _=>(s.len-i).toNat,
  ⟨by omega,hs0,rfl, .inl rfl,rfl,fun _ _ _=>rfl⟩,fun bo _ i _ w uU hj=> ?_⟩
 obtain⟨i0,i1,hwl,LV,hv,hk⟩:=hj;refine⟨fun hlt=>⟨fun z=>z=wd b i,⟨fun _=>⟨fun h=>⟨i0,h,fun _=>(if_pos h).symm⟩,fun h=>(if_neg h).symm⟩,fun z _ hz=> ?_⟩⟩,fun hge=>⟨trivial,fun t _ ht=>⟨⟨?_,ht.1⟩,trivial⟩⟩⟩
 ·have hz:z=wd b i:=hz
  have e:=hk i (by omega) hlt;refine⟨i0,by omega,fun _=>⟨by show bo<=1;omega,fun d _ o _ hq=>⟨i0,by omega,aJ _ (by omega),⟨by omega,by omega,by rw[dO];exact hwl,hq.2, ?_,fun k h1 h2=> ?_⟩, ?_⟩⟩⟩
  ·rw[qC i0,hv,dK _ _ i0,tC _ _ i0,hq.1,hz,e,show(i+1).toNat=i.toNat+1 from by omega,zL]
   grind
  ·rw[dY i0 (by omega),if_neg (by omega)]
   exact hk k (by omega) h2
  ·show(s.len-(i+1)).toNat<(s.len-i).toNat
   omega
 ·have ei:i=s.len:=by omega
  subst ei;have hw:=(aH uU).o8 (B:=4294967296) (by decide) (i:=s.len) (by omega);have hsb:=ds.o8 (B:=4294967296) (by decide) (i:=s.len) (by omega);have hb:=(db.bound (B:=4294967296) (by decide)).1;rw[hv,uV _ _ (by omega)]at hw;rw[ht.2.2];unfold vw at*;rw[fD,hwl,hv,uV _ _ (by omega)];rw[<-fD]at*;generalize(4294967296:Int)^s.len.toNat=Q at*;rcases LV with h|h
  ·rw[h];omega
  ·rw[h]at hw;omega
theorem aoW:ahM:=by
 intro a ra b rb hp hsa hsb;obtain⟨la,lb⟩:=hp;unfold aB at la lb;have da:=aH ra;have db:=aH rb;have ha0:=len0 a;have hb0:=len0 b;refine⟨aJ _ (by omega),by omega,by omega,by omega,fun _=> ?_⟩
 refine⟨fun i w=>0<=i/\i<=a.len/\w.len=a.len+b.len/\vw w=bJ 4294967296 a i*vw b/\(∀k:Int,i+b.len<=k->k<w.len->w.int k 0=0),fun i _=>(a.len-i).toNat,
  ⟨by omega,ha0,rD (by omega) _,by unfold vw;rw[abE,kZ];omega,fun _ _ _=>O7 _ _⟩,fun i _ w uU hj=> ?_⟩
 obtain⟨i0,i1,hwl,hv,hz⟩:=hj;refine⟨fun hlt=>⟨i0,hlt,fun _ _=> ?_⟩,fun hge=>⟨trivial,fun t _ ht=>⟨⟨?_,ht.1⟩,trivial⟩⟩⟩
 ·have hx:=da.at i0 hlt
  have hai:bJ 4294967296 a (i+1)=bJ 4294967296 a i+a.int i 0*4294967296^i.toNat:=dK _ _ i0;generalize a.int i 0=x at*;have hpw:∀k:Int,0<=k->(4294967296:Int)^(i+k).toNat=4294967296^i.toNat*4294967296^k.toNat:=fun k hk=>by rw[show(i+k).toNat=i.toNat+k.toNat from by omega,z4]
  refine⟨fun c k u=>0<=k/\k<=b.len/\u.len=a.len+b.len/\(0<=c/\c<4294967296)/\vw u+c*4294967296^(i+k).toNat=bJ 4294967296 a i*vw b+x*bJ 4294967296 b k*4294967296^i.toNat/\(∀m:Int,i+b.len<=m->m<u.len->u.int m 0=0),fun _ k _=>(b.len-k).toNat,
   ⟨by omega,hb0,hwl,⟨by decide,by decide⟩,by rw[hv,kZ];simp,hz⟩,fun c _ k _ u ru hj=> ?_⟩
  obtain⟨k0,k1,Ar,hc,hu,hzu⟩:=hj;have du:=aH ru;refine⟨fun hlt'=>⟨k0,hlt',fun _=>⟨aJ _ (by omega),by omega,by omega,fun _=> ?_⟩⟩,fun hge' _=>⟨aJ _ (by omega),by omega,by omega,aJ _ (by omega),⟨by omega,by omega,by rw[dO];exact Ar, ?_,fun m h1 h2=> ?_⟩, ?_⟩⟩
  ·have hy:=db.at k0 hlt'
   have hd:=du.at (i:=i+k) (by omega) (by omega);have hbk:bJ 4294967296 b (k+1)=bJ 4294967296 b k+b.int k 0*4294967296^k.toNat:=dK _ _ k0;generalize b.int k 0=y at*;have hxy:x*y<=4294967295*4294967295:=Int.mul_le_mul (by omega) (by omega) hy.1 (by omega);have ayq:0<=x*y:=Int.mul_nonneg hx.1 hy.1;have eu:∀z:Int,vw (Sl.upd u (i+k) 0 [.int z])=vw u+(z-u.int (i+k) 0)*4294967296^(i+k).toNat:=fun z=>zY (by omega) (by omega)
   generalize u.int (i+k) 0=d at*;rw[bI (x:=x*y) ayq (by omega),bI (x:=x*y+d) (by omega) (by omega),bI (x:=x*y+d+c) (by omega) (by omega),Jy,xR];refine⟨aJ _ (by omega),by omega,by omega,by decide,dX.2 (by omega),aJ _ (by omega),⟨by omega,by omega,by rw[dO];exact Ar,by omega, ?_,fun m h1 h2=> ?_⟩, ?_⟩
   ·rw[eu,hbk,show i+(k+1)=i+k+1 from by omega,show(i+k+1).toNat=(i+k).toNat+1 from by omega,zL]
    rw[hpw k k0]at*;have e2:(x*y+d+c) % 4294967296=x*y+d+c-4294967296*((x*y+d+c)/4294967296):=by omega
    rw[e2];generalize(x*y+d+c)/4294967296=q at*;generalize(4294967296:Int)^i.toNat=Q at*;generalize(4294967296:Int)^k.toNat=R at*
    grind
   ·rw[dY (by omega) (by omega),if_neg (by omega)]
    exact hzu m h1 h2
   ·show(b.len-(k+1)).toNat<(b.len-k).toNat
    omega
  ·have ek:k=b.len:=by omega
   subst ek;have eb:bJ 4294967296 b b.len=vw b:=(fD _ _).symm;have eu:vw (Sl.upd u (i+b.len) 0 [.int (IntKind.wrap .u32 c)])=vw u+(IntKind.wrap .u32 c-u.int (i+b.len) 0)*4294967296^(i+b.len).toNat:=zY (by omega) (by omega);rw[eu,hzu _ (by omega) (by omega),nI hc.1 hc.2,hai];rw[eb]at hu;generalize(4294967296:Int)^(i+b.len).toNat=R at*;generalize(4294967296:Int)^i.toNat=Q at*
   grind
  ·rw[dY (by omega) (by omega),if_neg (by omega)]
   exact hzu m (by omega) h2
  ·show(a.len-(i+1)).toNat<(a.len-i).toNat
   omega
 ·have ei:i=a.len:=by omega
  subst ei;rw[ht.2.2,hv];unfold vw;rw[<-fD]
theorem ajr:acn:=by
 intro s r hp b;have h0:=len0 s;have hl:(zA []).len=0:=rfl;unfold rJ aB at hp;exact⟨fun _ h=>⟨acO h,trivial⟩,fun _=>⟨by omega,Us hl,trivial⟩⟩
theorem alV:aeP:=by
 intro neg l rl _ hsm;have hm:=iW hsm;have h0:=len0 l;simp only[qp,okW,NW,zC,decide_eq_true_eq,decide_false,z5,false_iff];refine⟨fun hz=>⟨?_,trivial⟩,fun hnz=>⟨fun hle=>⟨aJ _ (by omega),by omega,by omega,fun _=>⟨?_,trivial⟩⟩,fun hgt=>⟨fun h=>hgt h.2,trivial⟩⟩⟩
 ·constructor
  ·intro h
   exact⟨⟨fun h'=>absurd h' (by omega),fun _=>by simpa using h⟩,by omega⟩
  ·intro h
   simp[h.1.2 hz]
 ·constructor
  ·intro h
   exact⟨⟨fun _=>h,fun h'=>absurd h' (by omega)⟩,hle⟩
  ·intro h
   exact h.1.1 (by omega)
theorem aen:Ws:=by
 intro s rs _ hsm;have hm:=iW hsm;have h0:=len0 s;simp only[gZ,qp,zC,decide_eq_true_eq,decide_false,decide_true,z5,false_iff,true_iff];refine⟨fun i=>0<=i/\i<=s.len/\∀k:Int,0<=k->k<i->okW (s.bool k 0) (s.sub k 1),fun i=>(s.len-i).toNat,⟨by omega,h0,fun k h1 h2=>absurd h1 (by omega)⟩,fun i _ hj=> ?_⟩
 obtain⟨i0,i1,hk⟩:=hj;refine⟨fun hlt=>⟨i0,hlt,fun _=>⟨trivial,fun b hb=>⟨fun hn=>⟨fun h=>hn (hb.2 (h i i0 hlt)),trivial⟩,fun hn=>⟨aJ _ (by omega),⟨by omega,by omega,fun k k0 k1=> ?_⟩, ?_⟩⟩⟩⟩,fun hge=>⟨fun k k0 k1=>hk k k0 (by omega),trivial⟩⟩
 ·by_cases e:k=i
  ·rw[e];exact hb.1 (zD.1 hn)
  ·exact hk k k0 (by omega)
 ·show(s.len-(i+1)).toNat<(s.len-i).toNat
  omega
theorem Fh{n m:Bool}{a b:Sl}:(∀i:Int,0<=i->i<(zA [[.bool n,zB a],[.bool m,zB b]]).len->okW ((zA [[.bool n,zB a],[.bool m,zB b]]).bool i 0) ((zA [[.bool n,zB a],[.bool m,zB b]]).sub i 1))↔okW n a/\okW m b:=by
 have e:(zA [[.bool n,zB a],[.bool m,zB b]]).len=2:=rfl;rw[e];constructor
 ·intro h
  exact⟨h 0 (by decide) (by decide),h 1 (by decide) (by decide)⟩
 ·intro h i i0 i1
  rcases(show i=0\/i=1 by omega)with rfl|rfl
  ·exact h.1
  ·exact h.2
def sg(neg:Bool)(x:Int):Int:=if neg=true then-x else x
theorem yA(neg:Bool)(l:Sl):zv neg l=sg neg (vl l):=rfl
theorem Il{neg neg':Bool}{w l:Sl}(h:kV neg w neg' l)(rl:Ranged l [some .u16]):NW neg' l/\zv neg' l=sg neg (vw w):=by
 obtain⟨h1,h2,h3⟩:=h;have hz:=bK (B:=65536) (by decide) (aj rl) h1;refine⟨⟨h1,fun h0=> ?_⟩, ?_⟩
 ·cases neg'
  ·rfl
  ·exact absurd h0 (h3.1 rfl).2
 ·unfold zv sg
  rw[h2];by_cases hl:l.len=0
  ·have e:vw w=0:=by rw[<-h2];exact hz.2 hl
   rw[e];simp
  ·have:neg'=neg:=by
    cases neg'<;>cases neg<;>first|rfl|(exfalso;simp[hl]at h3)
   rw[this]
theorem alW:aeQ:=by
 intro neg w uU hp;obtain⟨hl,hc⟩:=hp;simp only[zC];refine⟨hl,fun neg' l rl hq _=>⟨fun hgt=> ?_,fun hle=>⟨?_,trivial⟩⟩⟩
 ·exfalso
  have h1:=hq.2.1;have h2:=(jB (B:=65536) (by decide) (aj rl) hq.1 1024).2 (by rw[yS]at hc;rw[<-h1]at hc;exact hc);omega
 ·obtain⟨h1,h2⟩:=Il hq rl
  exact⟨h1,h2,rfl⟩
theorem awQ:as4:=by
 intro n a ra m b rb hp;obtain⟨la,lb,na,nb,hc⟩:=hp;simp only[zC];have da:=aH ra;have db:=aH rb;have ha:=(da.bound (B:=4294967296) (by decide)).1;have hb:=(db.bound (B:=4294967296) (by decide)).1;have ha:0<=vw a:=ha;have hb:0<=vw b:=hb;have lim:∀r:Sl,Ranged r [some .u32]->bT r->vw r<cap->aB r:=fun r rr nr h=>by
  have:r.len<=(512:Nat):=(jB (B:=4294967296) (by decide) (aH rr) nr 512).2 (by rw[yS,show(1024:Nat)=2*512 from rfl,Jz]at h;exact h)
  unfold aB;omega
 refine⟨fun he=>⟨⟨la,lb⟩,fun r rr hr=>⟨⟨lim r rr hr.2 (by rw[hr.1];exact hc),by rw[hr.1];exact hc⟩,fun neg l _ e _ hq=>⟨⟨hq.1, ?_,hq.2.2⟩,trivial⟩⟩⟩,fun hne=>⟨⟨na,nb⟩,fun c _ hcmp=>⟨fun hge=>⟨⟨la,lb, ?_, ?_⟩,fun r rr hr=>⟨⟨lim r rr hr.2 (by rw[hr.1];omega),by rw[hr.1];omega⟩,fun neg l _ e _ hq=>⟨⟨hq.1, ?_,hq.2.2⟩,trivial⟩⟩⟩,fun hlt=>⟨⟨lb,la, ?_, ?_⟩,fun r rr hr=>⟨⟨lim r rr hr.2 (by rw[hr.1];omega),by rw[hr.1];omega⟩,fun neg l _ e _ hq=>⟨⟨hq.1, ?_,hq.2.2⟩,trivial⟩⟩⟩⟩⟩⟩
 ·rw[hq.2.1,hr.1]
  have:n=m:=by cases n<;>cases m<;>simp_all
  rw[this];split<;>omega
 ·rcases hcmp with h|h|h<;>omega
 ·exact nO (B:=4294967296) (by decide) db nb da (by show vw b<=vw a;rcases hcmp with h|h|h<;>omega)
 ·rw[hq.2.1,hr.1]
  cases n<;>cases m<;>simp_all<;>omega
 ·rcases hcmp with h|h|h<;>omega
 ·exact nO (B:=4294967296) (by decide) da na db (by show vw a<=vw b;rcases hcmp with h|h|h<;>omega)
 ·rw[hq.2.1,hr.1]
  cases n<;>cases m<;>simp_all<;>omega
theorem wI{k:Nat}{l:Sl}(dl:bC 65536 l)(h:l.len<=k):vl l<65536^k:=by
 have h1:=(dl.bound (B:=65536) (by decide)).2;have h2:=fA (B:=65536) (by decide) (show l.n<=k by unfold zG at h;omega);exact z6 h1 h2
theorem shW.ok{n:Bool}{a:Sl}(h:shW n a):okW n a:=⟨h.1,by have:=h.2;omega⟩
theorem atL:anv:=by
 intro n a ra m b rb hp;simp only[zC]at hp⊢;obtain⟨ha,hb⟩:=hp;simp only[gZ,Fh];have la:aB a:=by have:=ha.2;unfold aB;omega
 have lb:aB b:=by have:=hb.2;unfold aB;omega
 have aCf:(65536:Int)^600+65536^600<=cap:=by
  rw[yS];have h1:=fA (B:=65536) (by decide) (show 601<=1024 by decide);have h2:(65536:Int)^601=65536^600*65536:=zL ..;have h3:=fC (B:=65536) (by decide) 600;generalize(65536:Int)^600=P at*;generalize(65536:Int)^601=Q at*;generalize(65536:Int)^1024=R at*;omega
 refine⟨trivial,fun v hv=>⟨fun hn=>absurd (hv.2 ⟨ha.ok,hb.ok⟩) hn,fun _=>⟨la,fun x _ hx=>⟨lb,fun y _ hy=>⟨⟨?_, ?_,hx.2.1 ha.1.1,hy.2.1 hb.1.1, ?_⟩,fun neg l _ e _ hq=>⟨⟨hq.1, ?_,hq.2.2⟩,trivial⟩⟩⟩⟩⟩⟩
 ·have:=hx.2.2;unfold aB at*;omega
 ·have:=hy.2.2;unfold aB at*;omega
 ·rw[hx.1,hy.1]
  have h1:=wI (k:=600) (aj ra) ha.2;have h2:=wI (k:=600) (aj rb) hb.2;generalize(65536:Int)^600=P at*;omega
 ·rw[hq.2.1,hx.1,hy.1];rfl
theorem atM:anw:=by
 intro n a ra m b rb hp;simp only[zC]at hp⊢;obtain⟨ha,hb,hl⟩:=hp;simp only[gZ,Fh];have ha0:=len0 a;have hb0:=len0 b;have la:aB a:=by unfold aB;omega
 have lb:aB b:=by unfold aB;omega
 refine⟨trivial,fun v hv=>⟨fun hn=>absurd (hv.2 ⟨⟨ha,by omega⟩,⟨hb,by omega⟩⟩) hn,fun _=>⟨la,fun x _ hx=>⟨lb,fun y _ hy=>⟨⟨?_, ?_⟩,fun r rr hr=>⟨⟨?_, ?_⟩,fun neg l _ e _ hq=>⟨⟨hq.1, ?_,hq.2.2⟩,trivial⟩⟩⟩⟩⟩⟩⟩
 ·have:=hx.2.2;unfold aB at*;omega
 ·have:=hy.2.2;unfold aB at*;omega
 all_goals
  have hcap:vw r<cap:=by
   rw[hr.1,hx.1,hy.1,yS];have h1:=(aj ra).bound (B:=65536) (by decide);have h2:=(aj rb).bound (B:=65536) (by decide);have h3:=fA (B:=65536) (by decide) (show a.n+b.n<=1024 by unfold zG at hl;omega);have h4:=fC (B:=65536) (by decide) a.n;have h5:vl a*vl b<65536^a.n*65536^b.n:=by
    have g1:vl a*vl b<=65536^a.n*vl b:=zR (Int.le_of_lt h1.2) h2.1;have g2:(65536:Int)^a.n*vl b<65536^a.n*65536^b.n:=qD h2.2 h4;omega
   rw[<-z4]at h5;exact z6 h5 h3
 ·have:r.len<=(512:Nat):=(jB (B:=4294967296) (by decide) (aH rr) hr.2 512).2 (by rw[yS,show(1024:Nat)=2*512 from rfl,Jz]at hcap;exact hcap)
  unfold aB;omega
 ·exact hcap
 ·rw[hq.2.1,hr.1,hx.1,hy.1]
  unfold zv;cases n<;>cases m<;>simp[z0,z1]
theorem atN:anx:=by
 intro n a ra m b rb hp;simp only[zC]at hp⊢;obtain⟨ha,hb⟩:=hp;simp only[gZ,Fh];have la:aB a:=by have:=ha.2;unfold aB;omega
 have lb:aB b:=by have:=hb.2;unfold aB;omega
 have hva:0<=vl a:=((aj ra).bound (by decide)).1;have hvb:0<=vl b:=((aj rb).bound (by decide)).1;have hca:vl a<cap:=by rw[yS];exact wI (aj ra) ha.2
 have hcb:vl b<cap:=by rw[yS];exact wI (aj rb) hb.2
 refine⟨trivial,fun v hv=>⟨fun hn=>absurd (hv.2 ⟨ha,hb⟩) hn,fun _=>⟨la,fun x _ hx=>⟨lb,fun y _ hy=>⟨⟨?_, ?_,hx.2.1 ha.1.1,hy.2.1 hb.1.1⟩,fun r rr hr=>⟨?_,fun neg l rl hq=>⟨?_,trivial⟩⟩⟩⟩⟩⟩⟩
 ·have:=hx.2.2;unfold aB at*;omega
 ·have:=hy.2.2;unfold aB at*;omega
 ·show aB r
  have h1:=hr.1;rw[hx.1,hy.1]at h1;have hcap:vw r<cap:=by
   rw[h1];by_cases hz:vl a=0
   ·rw[hz,Int.gcd_zero_left];omega
   ·have:=Nat.le_of_dvd (show 0<(vl a).natAbs by omega) (Int.natCast_dvd_natCast.1 (by rw[Int.dvd_natAbs];exact Int.gcd_dvd_left (vl a) (vl b)))
    omega
  have:r.len<=(512:Nat):=(jB (B:=4294967296) (by decide) (aH rr) hr.2 512).2 (by rw[yS,show(1024:Nat)=2*512 from rfl,Jz]at hcap;exact hcap)
  unfold aB;omega
 ·have hnf:neg=false:=by
   have:=hq.2.2;cases neg
   ·rfl
   ·exact absurd (this.1 rfl).1 (by decide)
  exact⟨⟨hq.1,fun _=>hnf⟩,hnf,by rw[hq.2.1,hr.1,hx.1,hy.1],rfl⟩
theorem atO:anz:=by
 intro n a ra m b rb hp;simp only[zC]at hp⊢;obtain⟨ha,hb⟩:=hp;simp only[gZ,Fh];have la:aB a:=by have:=ha.2;unfold aB;omega
 have lb:aB b:=by have:=hb.2;unfold aB;omega
 have hva:0<=vl a:=((aj ra).bound (by decide)).1;have hvb:0<=vl b:=((aj rb).bound (by decide)).1;have pa:n=true->0<vl a:=fun h=>by
  have:=(fQ (B:=65536) (by decide) (aj ra) ha.1.1).2 (by have:=ha.1.2;have:=len0 a;rcases zP 0 a.len with g|g;exact g;rw[h]at*;simp_all;omega);exact this
 have pb:m=true->0<vl b:=fun h=>by
  have:=(fQ (B:=65536) (by decide) (aj rb) hb.1.1).2 (by have:=hb.1.2;have:=len0 b;rcases zP 0 b.len with g|g;exact g;rw[h]at*;simp_all;omega);exact this
 unfold yD ZY zv;refine⟨trivial,fun v hv=>⟨fun hn=>absurd (hv.2 ⟨ha,hb⟩) hn,fun _=>⟨fun hne=>⟨fun h=>⟨?_,trivial⟩,fun h=>⟨?_,trivial⟩⟩,fun heq=>⟨la,fun x _ hx=>⟨lb,fun y _ hy=>⟨⟨hx.2.1 ha.1.1,hy.2.1 hb.1.1⟩,fun c _ hc=>⟨fun h=>⟨?_, ?_,trivial⟩,fun h=>⟨?_,trivial⟩⟩⟩⟩⟩⟩⟩⟩
 ·have hm:m=false:=by cases m;rfl;exact absurd (by rw[h]) hne
  have:=pa h;rw[h,hm];simp;omega
 ·have hn:n=false:=by simpa using h
  have hm:m=true:=by cases m;exact absurd (by rw[hn]) hne;rfl
  have:=pb hm;rw[hn,hm];simp;omega
 ·unfold lG at hc;exact aJ _ (by omega)
 ·have hm:m=true:=by
   have:=zD.1 heq;exact this.1 h
  unfold lG at hc;rw[hx.1,hy.1]at hc;rw[h,hm];simp;omega
 ·have hn:n=false:=by simpa using h
  have hm:m=false:=by
   have:=zD.1 heq;cases m
   ·rfl
   ·exact absurd (this.2 rfl) h
  unfold lG at hc;rw[hx.1,hy.1]at hc;rw[hn,hm];simp;omega
theorem aju:aco:=by
 intro n a ra m b rb hp;simp only[zC]at hp⊢;obtain⟨ha,hb,hb0⟩:=hp;simp only[gZ,Fh];have la:aB a:=by have:=ha.2;unfold aB;omega
 have lb:aB b:=by have:=hb.2;unfold aB;omega
 have hva:0<=vl a:=((aj ra).bound (by decide)).1;have hvb:0<vl b:=(fQ (B:=65536) (by decide) (aj rb) hb.1.1).2 hb0;have hca:vl a<cap:=by rw[yS];exact wI (aj ra) ha.2
 have hcb:vl b<cap:=by rw[yS];exact wI (aj rb) hb.2
 have lim:∀(r:Sl)(k:Int),Ranged r [some .u32]->bT r->vw r<=k->k<=cap+1->aB r:=fun r k rr nr h hk=>by
  have hc:cap+1<4294967296^513:=by
   rw[yS,show(1024:Nat)=2*512 from rfl,Jz,show(513:Nat)=512+1 from rfl,zL]
   have:=fC (B:=4294967296) (by decide) 512;generalize(4294967296:Int)^512=P at*;omega
  have:r.len<=(513:Nat):=(jB (B:=4294967296) (by decide) (aH rr) nr 513).2 (by
   generalize(4294967296:Int)^513=P at*;show vw r<P;omega)
  unfold aB;omega
 refine⟨trivial,fun v hv=>⟨fun hn=>absurd (hv.2 ⟨ha,hb⟩) hn,fun _ _=>⟨fun hz=>absurd hz (by omega),fun _=>⟨lb,fun y ry hy=>⟨la,fun x rx hx=>⟨⟨?_, ?_,hx.2.1 ha.1.1,hy.2.1 hb.1.1, ?_⟩,fun q rq r rr hd=> ?_⟩⟩⟩⟩⟩⟩
 ·have:=hx.2.2;unfold aB at*;omega
 ·have:=hy.2.2;unfold aB at*;omega
 ·refine(fQ (B:=4294967296) (by decide) (aH ry) (hy.2.1 hb.1.1)).1 ?_
  show 0<vw y;rw[hy.1];exact hvb
 obtain⟨d1,d2,d3,d4⟩:=hd;rw[hx.1,hy.1]at d1;rw[hy.1]at d2;have hq0:0<=vw q:=((aH rq).bound (by decide)).1;have hr0:0<=vw r:=((aH rr).bound (by decide)).1;have hqa:vw q<=vl a:=by
  have:1*vw q<=vl b*vw q:=zR (by omega) hq0;omega
 have hrz:=bK (B:=4294967296) (by decide) (aH rr) d4;have hrz:vw r=0↔r.len=0:=hrz;have aAc:=len0 r;have plain:(¬(¬((n=true)↔(m=true)))\/¬r.len>0)->nD (decide (¬((n=true)↔(m=true)))) q/\∀(e:Bool)(l:Sl),Ranged l [some .u16]->kV (decide (¬((n=true)↔(m=true)))) q e l->nD m r/\∀(e':Bool)(l':Sl),Ranged l' [some .u16]->kV m r e' l'->vK n a m b e l e' l' 0/\True:=fun hc=>by
  refine⟨lim q cap rq d3 (by omega) (by omega),fun e l rl hu=>⟨lim r cap rr d4 (by omega) (by omega),fun e' l' rl' hu'=>⟨?_,trivial⟩⟩⟩
  obtain⟨u1,u2⟩:=Il hu rl;obtain⟨u3,u4⟩:=Il hu' rl';refine⟨u1,u3, ?_, ?_, ?_,rfl⟩
  ·rw[u2,u4,yA,yA,d1]
   unfold sg;rcases hc with hc|hc
   ·have:n=m:=by cases n<;>cases m<;>simp_all
    rw[this];cases m<;>simp[z0,z1]<;>omega
   ·have:vw r=0:=hrz.2 (by omega)
    rw[this];cases n<;>cases m<;>simp[z0,z1]
  ·rw[u4,yA]
   unfold sg;cases m<;>simp<;>omega
  ·rw[u4,yA]
   unfold sg;cases m<;>simp<;>omega
 refine⟨fun hne _=>⟨fun hpos=> ?_,fun hnp=>plain (.inr hnp)⟩,fun heq=>plain (.inl heq)⟩
 have e1:vw (zA [[.int 1]])=1:=Dp _ _;have l1:(zA [[.int 1]]).len=1:=rfl;have azn:0<vw r:=by have:=hrz.1;omega
 refine⟨⟨lim q cap rq d3 (by omega) (by omega),by unfold aB;rw[l1];omega⟩,fun q' rq' hq'=>⟨⟨?_,lim r cap rr d4 (by omega) (by omega),by rw[hy.1];omega, ?_⟩,fun r' rr' hr'=>⟨lim q' (cap+1) rq' hq'.2 (by rw[hq'.1,e1];omega) (by omega),fun e l rl hu=>⟨lim r' cap rr' hr'.2 (by rw[hr'.1,hy.1];omega) (by omega),fun e' l' rl' hu'=>⟨?_,trivial⟩⟩⟩⟩⟩
 ·have:=hy.2.2;unfold aB at*;omega
 ·exact nO (B:=4294967296) (by decide) (aH rr) d4 (aH ry) (by show vw r<=vw y;rw[hy.1];omega)
 ·obtain⟨u1,u2⟩:=Il hu rl
  obtain⟨u3,u4⟩:=Il hu' rl';rw[hq'.1,e1]at u2;rw[hr'.1,hy.1]at u4;refine⟨u1,u3, ?_, ?_, ?_,rfl⟩
  ·rw[u2,u4,yA,yA,d1]
   unfold sg;have e3:vl b*(vw q+1)=vl b*vw q+vl b:=by rw[z7,z2]
   cases n<;>cases m<;>simp[z0,z1,z7]at hne⊢<;>omega
  ·rw[u4,yA]
   unfold sg;cases m<;>simp<;>omega
  ·rw[u4,yA]
   unfold sg;cases m<;>simp<;>omega
theorem afY(x:Int):IntKind.wrap .i64 x=(x+9223372036854775808) % 18446744073709551616-9223372036854775808:=by rw[IntKind.wrap_i64]
theorem azo(x:Int):shl .u64 x 16=x*65536:=O4 .u64 x (n:=16) (by decide)
theorem atK:anu:=by
 intro neg l rl hp;simp only[zC]at hp⊢;have dl:=aj rl;have h0:=len0 l;simp only[qp];refine⟨trivial,fun v hv=>⟨fun hn=>absurd (hv.2 hp) hn,fun _ hsm=>⟨fun hgt=>⟨.inr ⟨?_,rfl,rfl⟩,trivial⟩,fun hle _=>⟨aJ _ (by omega), ?_⟩⟩⟩⟩
 ·have h1:=O8 (B:=65536) (by decide) dl hp.1.1 (by omega)
  have h2:=fA (B:=65536) (by decide) (show 4<=l.n-1 by unfold zG at hgt;omega);have h3:(65536:Int)^4=18446744073709551616:=rfl;have h4:18446744073709551616<=vl l:=by
   unfold vl;omega
  unfold zv;split<;>omega
 refine⟨fun i acc=>-1<=i/\i<l.len/\acc=jC 65536 l (i+1),fun i _=>(i+1).toNat,⟨by omega,by omega,by rw[Gl _ _ (by omega)]⟩,fun i _ acc asf hj=> ?_⟩
 obtain⟨i0,i1,hacc⟩:=hj;rw[dX]at asf;refine⟨fun hge=>⟨hge,i1,fun _=>⟨by decide,aJ _ (by omega),⟨by omega,by omega, ?_⟩, ?_⟩⟩,fun hlt=> ?_⟩
 ·have hb:=dl.Dh (B:=65536) (by decide) (i:=i+1) (by omega)
  have hx:=dl.at hge i1;have h2:(65536:Int)^(l.n-(i+1).toNat)<=65536^3:=fA (by decide) (by unfold zG at*;omega);have h3:(65536:Int)^3=281474976710656:=rfl;rw[<-hacc]at hb;have LV:=JW (k:= .u64) (a:=acc) (b:=l.int i 0) (i:=16) hb.1 hx.1 hx.2 (by show acc*65536+l.int i 0<18446744073709551616;omega);have LV:bor .u64 (acc*65536) (l.int i 0)=acc*65536+l.int i 0:=LV;rw[azo,bI (x:=acc*65536) (by omega) (by omega),LV,bI (by omega) (by omega),show i-1+1=i from by omega,o7 _ _ hge i1,<-hacc]
  omega
 ·show(i-1+1).toNat<(i+1).toNat
  omega
 ·have e:i=-1:=by omega
  subst e;have e1:acc=vl l:=by rw[hacc];exact oZ _ _
  refine⟨fun hneg=>⟨fun hgt=>⟨.inr ⟨?_,rfl,rfl⟩,trivial⟩,fun hle=>⟨.inl ⟨?_, ?_, ?_,rfl⟩,trivial⟩⟩,fun hpos=>⟨fun hge=>⟨.inr ⟨?_,rfl,rfl⟩,trivial⟩,fun hlt'=>⟨.inl ⟨?_, ?_, ?_,rfl⟩,trivial⟩⟩⟩<;>unfold zv
  ·rw[if_pos hneg];omega
  ·rw[if_pos hneg];omega
  ·rw[if_pos hneg];omega
  ·rw[if_pos hneg,wu64,afY];omega
  ·rw[if_neg hpos];omega
  ·rw[if_neg hpos];omega
  ·rw[if_neg hpos];omega
  ·rw[if_neg hpos,afY];omega
def U8(s i a b c d:Int):Prop:=(0<=i/\i<=4)/\a=(if 0<i then s % 65536 else 0)/\b=(if 1<i then s/65536 % 65536 else 0)/\c=(if 2<i then s/4294967296 % 65536 else 0)/\d=(if 3<i then s/281474976710656 % 65536 else 0)
def afZ(k i a b c d:Int):Prop:=0<=k/\k<=i/\(k<=0->a=0)/\(k<=1->b=0)/\(k<=2->c=0)/\(k<=3->d=0)/\(k=1->a≠0)/\(k=2->b≠0)/\(k=3->c≠0)/\(k=4->d≠0)
theorem ag7:Zy:=by
 intro n rn _;rw[au]at rn;refine⟨fun s=>s=(if n<0 then-n else n),⟨fun h=> ?_,fun h=> ?_⟩,fun s rs hs=> ?_⟩
 ·rw[if_pos h,wu64,wu64];omega
 ·rw[if_neg h,wu64];omega
 have hs:s=(if n<0 then-n else n):=hs
 have hs0:0<=s/\s<=9223372036854775808:=by rw[hs];split<;>omega
 have sh:∀i:Int,0<=i->i<4->shr .u64 s (16*i)=(if i=0 then s else if i=1 then s/65536 else if i=2 then s/4294967296 else s/281474976710656):=fun i h0 h1=>by
  rcases(show i=0\/i=1\/i=2\/i=3 by omega)with rfl|rfl|rfl|rfl
  ·have:=rC .u64 (x:=s) (n:=0) (by decide)
   simpa using this
  ·exact rC .u64 (x:=s) (n:=16) (by decide)
  ·exact rC .u64 (x:=s) (n:=32) (by decide)
  ·exact rC .u64 (x:=s) (n:=48) (by decide)
 refine⟨fun k i a b c d=>U8 s i a b c d/\afZ k i a b c d,fun _ i _ _ _ _=>(4-i).toNat,⟨⟨⟨by decide,by decide⟩,rfl,rfl,rfl,rfl⟩,by decide,by decide,fun _=>rfl,fun _=>rfl,fun _=>rfl,fun _=>rfl,fun h=>absurd h (by decide),fun h=>absurd h (by decide),fun h=>absurd h (by decide),fun h=>absurd h (by decide)⟩, ?_⟩
 intro k rk i ri a ra b rb c rc d rd hj;obtain⟨hl,hc⟩:=hj;obtain⟨⟨i0,i4⟩,la,lb,lc,ld⟩:=hl;refine⟨fun hlt=>⟨fun k' a' b' c' d'=>U8 s (i+1) a' b' c' d'/\afZ k' (i+1) a' b' c' d',⟨fun a' b' c' d'=>U8 s (i+1) a' b' c' d', ?_, ?_⟩,fun k' _ a' _ b' _ c' _ d' _ hj'=>⟨aJ _ (by omega),hj',by show(4-(i+1)).toNat<(4-i).toNat;omega⟩⟩,fun hge=> ?_⟩
 ·have hsh:=sh i i0 hlt
  unfold U8;rw[hsh,afw];refine⟨aJ _ (by omega),by omega, ?_,i0,hlt,fun h=> ?_,fun h1=>⟨fun h=> ?_,fun h2=>⟨fun h=> ?_,fun h3=> ?_⟩⟩⟩
  ·refine dX.2 ?_
   split
   ·omega
   ·split
    ·omega
    ·split<;>omega
  ·subst h
   simp at la lb lc ld⊢;omega
  ·subst h
   simp at la lb lc ld⊢;omega
  ·subst h
   simp at la lb lc ld⊢;omega
  ·have:i=3:=by omega
   subst this;simp at la lb lc ld⊢;omega
 ·intro a' _ b' _ c' _ d' _ hl'
  have hl':U8 s (i+1) a' b' c' d':=hl';have hl2:=hl';obtain⟨_,la',lb',lc',ld'⟩:=hl2;unfold afZ at hc⊢;refine⟨i0,hlt,fun h=>⟨fun hn=>⟨aJ _ (by omega),hl', ?_⟩,fun hz=>⟨hl', ?_⟩⟩,fun h1=>⟨fun h=>⟨fun hn=>⟨aJ _ (by omega),hl', ?_⟩,fun hz=>⟨hl', ?_⟩⟩,fun h2=>⟨fun h=>⟨fun hn=>⟨aJ _ (by omega),hl', ?_⟩,fun hz=>⟨hl', ?_⟩⟩,fun h3=>⟨fun hn=>⟨aJ _ (by omega),hl', ?_⟩,fun hz=>⟨hl', ?_⟩⟩⟩⟩⟩
  ·subst h;simp at la lb lc ld la' lb' lc' ld';omega
  ·subst h;simp at la lb lc ld la' lb' lc' ld';omega
  ·subst h;simp at la lb lc ld la' lb' lc' ld';omega
  ·subst h;simp at la lb lc ld la' lb' lc' ld';omega
  ·subst h;simp at la lb lc ld la' lb' lc' ld';omega
  ·subst h;simp at la lb lc ld la' lb' lc' ld';omega
  ·have:i=3:=by omega
   subst this;simp at la lb lc ld la' lb' lc' ld';omega
  ·have:i=3:=by omega
   subst this;simp at la lb lc ld la' lb' lc' ld';omega
 ·have ei:i=4:=by omega
  subst ei;obtain⟨k0,k4,ca,cb,cc,cd,na,nb,nc,nd⟩:=hc;simp at la lb lc ld;have hlen:(Sl.part (zA [[.int a],[.int b],[.int c],[.int d]]) 0 k).len=k:=by rw[nK k0];omega
  refine⟨by decide,k0,k4,by unfold rJ aB;rw[hlen];omega,fun l rl hq=>⟨⟨⟨?_,fun hz=> ?_⟩, ?_,by have:=hq.1;rw[hlen]at this;omega⟩,trivial⟩⟩
  ·intro hp
   have hll:=hq.1;rw[hlen]at hll;rw[hq.2 _ (by omega) (by omega),hll,Hz (by omega)];rcases(show k=1\/k=2\/k=3\/k=4 by omega)with rfl|rfl|rfl|rfl
   ·exact na rfl
   ·exact nb rfl
   ·exact nc rfl
   ·exact nd rfl
  ·have hll:=hq.1
   rw[hlen]at hll;have:s=0:=by omega
   simp only[decide_eq_false_iff_not];intro hn;rw[if_pos hn]at hs;omega
  ·have hv:vl l=s:=by
    have h1:vl l=val 65536 (Sl.part (zA [[.int a],[.int b],[.int c],[.int d]]) 0 k):=hq.val _;rw[h1,yR k0];have e:∀j:Nat,bJ 65536 (zA [[.int a],[.int b],[.int c],[.int d]]) (j:Int)=fF 65536 (dg (zA [[.int a],[.int b],[.int c],[.int d]])) j:=fun j=>rfl
    have e0:dg (zA [[.int a],[.int b],[.int c],[.int d]]) 0=a:=rfl;have e1:dg (zA [[.int a],[.int b],[.int c],[.int d]]) 1=b:=rfl;have e2:dg (zA [[.int a],[.int b],[.int c],[.int d]]) 2=c:=rfl;have e3:dg (zA [[.int a],[.int b],[.int c],[.int d]]) 3=d:=rfl;rcases(show k=0\/k=1\/k=2\/k=3\/k=4 by omega)with rfl|rfl|rfl|rfl|rfl
    ·rw[kZ];omega
    ·have:=e 1
     simp only[fF,e0]at this;have h:bJ 65536 (zA [[.int a],[.int b],[.int c],[.int d]]) 1=_:=this;rw[h];omega
    ·have:=e 2
     simp only[fF,e0,e1]at this;have h:bJ 65536 (zA [[.int a],[.int b],[.int c],[.int d]]) 2=_:=this;rw[h];omega
    ·have:=e 3
     simp only[fF,e0,e1,e2]at this;have h:bJ 65536 (zA [[.int a],[.int b],[.int c],[.int d]]) 3=_:=this;rw[h];omega
    ·have:=e 4
     simp only[fF,e0,e1,e2,e3]at this;have h:bJ 65536 (zA [[.int a],[.int b],[.int c],[.int d]]) 4=_:=this;rw[h];omega
   unfold zv;rw[hv,hs];simp only[decide_eq_true_eq];split<;>omega
theorem NW.same{n m:Bool}{a b:Sl}(ra:bC 65536 a)(rb:bC 65536 b)(ha:NW n a)(hb:NW m b)(h:zv n a=zv m b):n=m/\dL a b:=by
 have a0:=(ra.bound (B:=65536) (by decide)).1;have b0:=(rb.bound (B:=65536) (by decide)).1;have za:=bK (B:=65536) (by decide) ra ha.1;have zb:=bK (B:=65536) (by decide) rb hb.1;have a0:0<=vl a:=a0;have b0:0<=vl b:=b0;have za:vl a=0↔a.len=0:=za;have zb:vl b=0↔b.len=0:=zb;unfold zv at h;have hv:vl a=vl b:=by
  cases n<;>cases m<;>simp at h<;>omega
 have hs:n=m:=by
  cases n<;>cases m<;>simp at h
  ·rfl
  ·have:a.len=0:=za.1 (by omega)
   have:b.len=0:=zb.1 (by omega);exact absurd (hb.2 this) (by decide)
  ·have:a.len=0:=za.1 (by omega)
   exact absurd (ha.2 this) (by decide)
  ·rfl
 exact⟨hs,ahw (B:=65536) (by decide) ra ha.1 rb hb.1 hv⟩
theorem oD{n:Bool}{a:Sl}(ra:bC 65536 a):((zv n a).natAbs:Int)=vl a:=by
 have:0<=vl a:=(ra.bound (B:=65536) (by decide)).1;unfold zv;split<;>omega
theorem aK.fq{q:Rat}{nn dn:Bool}{nl dl:Sl}(h:aK q nn nl dn dl):fq nn nl dl=q:=by
 unfold N.fq;rw[h.2.1,h.2.2.2.2];exact z8 q
theorem pO.iO{nn dn:Bool}{nl dl:Sl}(h:pO nn nl dn dl):aK (fq nn nl dl) nn nl dn dl:=by
 obtain⟨q,hq⟩:=h;rw[hq.fq];exact hq
theorem okF.iO{nn dn:Bool}{nl dl:Sl}(h:okF nn nl dn dl):aK (fq nn nl dl) nn nl dn dl:=h.1.iO
theorem aK.pO{q:Rat}{nn dn:Bool}{nl dl:Sl}(h:aK q nn nl dn dl):pO nn nl dn dl:=⟨q,h⟩
theorem aK.den_pos{q:Rat}{nn dn:Bool}{nl dl:Sl}(h:aK q nn nl dn dl):0<vl dl:=by
 rw[h.2.2.2.2];have:=q.den_pos;omega
theorem aK.VU{q:Rat}{nn dn:Bool}{nl dl:Sl}(h:aK q nn nl dn dl)(rd:bC 65536 dl):0<dl.len:=(fQ (B:=65536) (by decide) rd h.2.2.2.1).1 h.den_pos
theorem aK.WO{q:Rat}{nn dn:Bool}{nl dl:Sl}(h:aK q nn nl dn dl):NW dn dl:=⟨h.2.2.2.1,fun _=>h.2.2.1⟩
theorem aK.zd{q:Rat}{nn dn:Bool}{nl dl:Sl}(h:aK q nn nl dn dl):zv dn dl=(q.den:Int):=by
 rw[<-h.2.2.2.2];unfold zv;rw[h.2.2.1];simp
theorem aK.gcd{q:Rat}{nn dn:Bool}{nl dl:Sl}(h:aK q nn nl dn dl)(rn:bC 65536 nl):zE (vl nl) (vl dl)=1:=by
 have hr:=q.reduced;rw[h.2.2.2.2,<-oD (n:=nn) rn,h.2.1];simpa[zE]using hr
theorem akK{nn dn:Bool}{nl dl:Sl}(rn:bC 65536 nl)(hn:NW nn nl)(hdn:dn=false)(hd:bT dl)(hp:0<vl dl)(hg:zE (vl nl) (vl dl)=1):aK (fq nn nl dl) nn nl dn dl:=by
 have hg':zE (vl dl) (zv nn nl)=1:=by
  rw[Int.gcd_comm];have:zE (zv nn nl) (vl dl)=zE (vl nl) (vl dl):=by
   unfold zv;split
   ·exact Int.neg_gcd
   ·rfl
  rw[this,hg]
 refine⟨hn, ?_,hdn,hd, ?_⟩
 ·unfold fq
  rw[Rat.num_divInt,hg',qE hp];simp
 ·unfold fq
  rw[Rat.den_divInt,hg',if_neg (by omega)];simp;omega
theorem aK.avw{q:Rat}{nn dn:Bool}{nl dl:Sl}(h:aK q nn nl dn dl)(rn:bC 65536 nl):nl.len<=256↔(q.num.natAbs:Int)<BF:=by
 rw[<-h.2.1,oD rn,DU];exact jB (B:=65536) (by decide) rn h.1.1 256
theorem aK.avx{q:Rat}{nn dn:Bool}{nl dl:Sl}(h:aK q nn nl dn dl)(rd:bC 65536 dl):dl.len<=256↔(q.den:Int)<BF:=by
 rw[<-h.2.2.2.2,DU];exact jB (B:=65536) (by decide) rd h.2.2.2.1 256
theorem aK.fit{q:Rat}{nn dn:Bool}{nl dl:Sl}(h:aK q nn nl dn dl)(rn:bC 65536 nl)(rd:bC 65536 dl):(nl.len<=256/\dl.len<=256)↔bM q:=by
 unfold bM;rw[h.avw rn,h.avx rd]
theorem aK.ok{q:Rat}{nn dn:Bool}{nl dl:Sl}(h:aK q nn nl dn dl)(rn:bC 65536 nl)(rd:bC 65536 dl)(hf:bM q):okF nn nl dn dl:=⟨h.pO,(h.fit rn rd).2 hf⟩
theorem okF.fit{nn dn:Bool}{nl dl:Sl}(h:okF nn nl dn dl)(rn:bC 65536 nl)(rd:bC 65536 dl):bM (fq nn nl dl):=(h.iO.fit rn rd).1 h.2
theorem aK.same{q:Rat}{a c a' c':Bool}{b d b' d':Sl}(h:aK q a b c d)(h':aK q a' b' c' d')(rb:bC 65536 b)(rd:bC 65536 d)(kD:bC 65536 b')(rd':bC 65536 d'):(a=a'/\dL b b')/\c=c'/\dL d d':=
 ⟨NW.same rb kD h.1 h'.1 (by rw[h.2.1,h'.2.1]),by rw[h.2.2.1,h'.2.2.1],(NW.same rd rd' h.WO h'.WO (by rw[h.zd,h'.zd])).2⟩
theorem aK.of_same{q:Rat}{a c a' c':Bool}{b d b' d':Sl}(h:aK q a b c d)(e1:a'=a)(s1:dL b' b)(e2:c'=c)(s2:dL d' d):aK q a' b' c' d':=by
 subst e1 e2;have v1:vl b'=vl b:=s1.val _;have v2:vl d'=vl d:=s2.val _;refine⟨⟨s1.nrm h.1.1,fun hz=>h.1.2 (by rw[<-s1.1];exact hz)⟩, ?_,h.2.2.1,s2.nrm h.2.2.2.1,by rw[v2];exact h.2.2.2.2⟩
 unfold zv;rw[v1];exact h.2.1
theorem anS{nn dn:Bool}{nl dl:Sl}(rn:bC 65536 nl)(rd:bC 65536 dl):okF nn nl dn dl↔nl.len<=256/\dl.len<=256/\NW nn nl/\NW dn dl/\dn=false/\dl.len≠0/\zE (vl nl) (vl dl)=1:=by
 constructor
 ·intro h
  have hq:=h.iO;have:=hq.VU rd;exact⟨h.2.1,h.2.2,hq.1,hq.WO,hq.2.2.1,by omega,hq.gcd rn⟩
 ·rintro⟨h1,h2,h3,h4,h5,h6,h7⟩
  have h0:=len0 dl;exact⟨(akK rn h3 h5 h4.1 ((fQ (B:=65536) (by decide) rd h4.1).2 (by omega)) h7).pO,h1,h2⟩
theorem JZ{l:Sl}(rl:bC 65536 l)(hn:bT l):(l.len=1/\l.int 0 0=1)↔vl l=1:=by
 have one:∀h:l.len=1,vl l=l.int 0 0:=fun h=>by
  unfold vl;rw[fD,h];have:=dK 65536 l (i:=0) (by omega);rw[kZ]at this;have e2:(0:Int)+1=1:=rfl;rw[e2]at this;rw[this];show 0+l.int 0 0*65536^0=l.int 0 0;rw[Int.pow_zero];omega
 constructor
 ·intro h
  rw[one h.1,h.2]
 ·intro h
  have h1:=(jB (B:=65536) (by decide) rl hn 1).2 (by
   have h:val 65536 l=1:=h;rw[h];decide)
  have h2:=(fQ (B:=65536) (by decide) rl hn).1 (by
   have h:val 65536 l=1:=h;rw[h];decide)
  have h3:l.len=1:=by omega
  exact⟨h3,by rw[<-one h3];exact h⟩
theorem ND{g n q r:Int}(hg:0<g)(hd:g∣n)(h:n=g*q+r)(h0:0<=r)(h1:r<g):n/g=q:=by
 obtain⟨k,rfl⟩:=hd;have hr:r=g*(k-q):=by rw[Int.mul_sub];omega
 have:k=q:=by
  rcases Int.lt_trichotomy (k-q) 0 with h'|h'|h'
  ·have:g*(k-q)<=g*(-1):=qG (by omega) (by omega)
   omega
  ·omega
  ·have:g*1<=g*(k-q):=qG (by omega) (by omega)
   omega
 rw[Int.mul_ediv_cancel_left _ (by omega),this]
theorem Ry{nn dn:Bool}{nl dl:Sl}{N D g:Int}(rd:bC 65536 dl)(hn:NW nn nl)(hd:NW dn dl)(hD:0<D)(hg:g=(zE N D:Nat))(h1:zv nn nl=N/g)(h2:zv dn dl=D/g):aK (zF N D) nn nl dn dl:=by
 have hg0:0<g:=by
  have:0<zE N D:=qH _ (by omega);omega
 have hgD:g∣D:=by rw[hg];exact z9 ..
 have hDg:0<D/g:=Int.ediv_pos_of_pos_of_dvd hD (by omega) hgD;have hdv:0<=vl dl:=(rd.bound (B:=65536) (by decide)).1;have hdn:dn=false:=by
  cases dn
  ·rfl
  ·unfold zv at h2
   simp at h2;omega
 have hgc:((D.gcd N:Nat):Int)=g:=by rw[hg,Int.gcd_comm]
 refine⟨hn, ?_,hdn,hd.1, ?_⟩
 ·rw[Rat.num_divInt,qE hD,hgc,Int.one_mul,h1]
 ·rw[Rat.den_divInt,if_neg (by omega)]
  have e:vl dl=D/g:=by
   rw[<-h2];unfold zv;rw[hdn];simp
  rw[e];have:D.natAbs/D.gcd N=(D/g).natAbs:=by
   have e1:g=((D.gcd N:Nat):Int):=hgc.symm;have e2:D=((D.natAbs:Nat):Int):=by omega
   have e3:D/g=((D.natAbs/D.gcd N:Nat):Int):=by rw[Int.natCast_ediv,<-e2,<-e1]
   rw[e3];exact(Int.natAbs_natCast _).symm
  rw[this];omega
theorem ag8:Zz:=by
 intro n l rl hp;simp only[zC,decide_false]at hp⊢;have h0:=len0 l;refine⟨fun h _=>⟨hp,fun r _ hr=>⟨⟨hr, ?_⟩,trivial⟩⟩,fun h=>⟨hp,fun r _ hr=>⟨⟨hr, ?_⟩,trivial⟩⟩⟩
 ·have:n=false:=by simpa using h
  rw[this];simp
 ·have:n=true:=by simpa using h
  rw[this];simp
theorem Oh{n n':Bool}{l l':Sl}(h:kM n l n' l')(hn:NW n l):NW n' l'/\zv n' l'=-zv n l/\l'.len=l.len:=by
 obtain⟨hs,hb⟩:=h;have hv:vl l'=vl l:=hs.val _;have h0:=len0 l;refine⟨⟨hs.nrm hn.1,fun hz=> ?_⟩, ?_,hs.1⟩
 ·cases n'
  ·rfl
  ·have:=(hb.1 rfl).2
   rw[hs.1]at hz;omega
 ·unfold zv
  rw[hv];by_cases hl:l.len=0
  ·have hnf:=hn.2 hl
   have:n'=false:=by
    cases n'
    ·rfl
    ·have:=(hb.1 rfl).2;omega
   have e:vl l=0:=by
    unfold vl;rw[fD,hl];rfl
   rw[this,hnf,e];simp
  ·cases n
   ·have:n'=true:=hb.2 ⟨rfl,by omega⟩
    rw[this];simp
   ·have:n'=false:=by
     cases n'
     ·rfl
     ·exact absurd (hb.1 rfl).1 (by decide)
    rw[this];simp
theorem ag9:ZA:=by
 intro n a ra m b rb hp;simp only[zC]at hp⊢;exact⟨hp,fun neg l rl e re hq=>⟨⟨hq.1,hq.2.1,hq.2.2.1⟩,trivial⟩⟩
theorem ao1:ahN:=by
 intro n a ra m b rb hp;simp only[zC]at hp⊢;exact⟨hp,fun neg l rl e re hq=>⟨⟨hq.1,hq.2.1⟩,trivial⟩⟩
theorem alZ:aeR:=by
 intro n a ra m b rb hp;simp only[zC]at hp⊢;exact⟨hp,fun neg l rl e re hq=>⟨⟨hq.1,hq.2.1⟩,trivial⟩⟩
theorem ajz:acp:=by
 intro n a ra m b rb hp;simp only[zC]at hp⊢;refine⟨hp,fun qn q rq rn r rr e re hq=> ?_⟩
 have T:gG n a m b qn q rn r/\True:=⟨⟨hq.1,hq.2.1,hq.2.2.1,hq.2.2.2.1,hq.2.2.2.2.1⟩,trivial⟩;exact⟨⟨T,T⟩,T⟩
theorem BM{n:Bool}{l:Sl}(rl:bC 65536 l)(hn:NW n l){k:Nat}(h:((zv n l).natAbs:Int)<65536^k):l.len<=k:=by
 rw[oD rl]at h;exact(jB (B:=65536) (by decide) rl hn.1 k).2 h
theorem zK{n:Bool}{l:Sl}(rl:bC 65536 l){k:Nat}(h:l.len<=k):((zv n l).natAbs:Int)<65536^k:=by
 rw[oD rl];exact wI rl h
theorem dD{n m neg:Bool}{a b l:Sl}(ra:bC 65536 a)(rb:bC 65536 b)(rl:bC 65536 l)(hn:NW neg l)(h:zv neg l=zv n a*zv m b){k:Nat}(hk:a.len+b.len<=k):l.len<=k:=by
 refine BM rl hn ?_
 rw[h,Int.natAbs_mul];have h1:=zK (n:=n) ra (k:=a.n) (by unfold zG;omega);have h2:=zK (n:=m) rb (k:=b.n) (by unfold zG;omega);have h3:=fA (B:=65536) (by decide) (show a.n+b.n<=k by unfold zG at hk;omega);rw[z4]at h3;rw[Int.natCast_mul];have h4:=fC (B:=65536) (by decide) a.n;have g1:((zv n a).natAbs:Int)*((zv m b).natAbs:Int)<=65536^a.n*((zv m b).natAbs:Int):=zR (Int.le_of_lt h1) (Int.natCast_nonneg _);have g2:(65536:Int)^a.n*((zv m b).natAbs:Int)<65536^a.n*65536^b.n:=qD h2 h4;exact z6 (Int.lt_of_le_of_lt g1 g2) h3
theorem Gs{n m neg:Bool}{a b l:Sl}(ra:bC 65536 a)(rb:bC 65536 b)(rl:bC 65536 l)(hn:NW neg l){k:Nat}(h:zv neg l=zv n a+zv m b\/zv neg l=zv n a-zv m b)(ha:a.len<=k)(hb:b.len<=k):l.len<=(k+1:Nat):=by
 refine BM rl hn ?_
 have h1:=zK (n:=n) ra ha;have h2:=zK (n:=m) rb hb;have h3:(65536:Int)^(k+1)=65536^k*65536:=zL ..;have h4:=fC (B:=65536) (by decide) k;generalize(65536:Int)^k=P at*;generalize(65536:Int)^(k+1)=Q at*;rcases h with h|h<;>rw[h]<;>omega
theorem WQ{n m:Bool}{a b:Sl}(ra:Ranged a [some .u16])(rb:Ranged b [some .u16])(ha:okW n a)(hb:okW m b)(hb0:0<b.len)(hm:0<zv m b){N D:Int}(eN:zv n a=N)(eD:zv m b=D)
  {gn:Bool} {g:Sl} (rg:Ranged g [some .u16]) (hg:kP n a m b gn g):
  jo n a gn g/\∀(qn:Bool)(q:Sl),Ranged q [some .u16]->∀(rn:Bool)(r:Sl),Ranged r [some .u16]->gG n a gn g qn q rn r->jo m b gn g/\∀(pn:Bool)(p:Sl),Ranged p [some .u16]->∀(sn:Bool)(s:Sl),Ranged s [some .u16]->gG m b gn g pn p sn s->aK (zF N D) qn q pn p:=by
 obtain⟨g1,g2,g3⟩:=hg;have dg:=aj rg;have hgz:zv gn g=(zE N D:Nat):=by
  have e1:zE N D=zE (vl a) (vl b):=by
   rw[<-eN,<-eD];have h1:=oD (n:=n) (aj ra);have h2:=oD (n:=m) (aj rb);unfold zE
   congr 1<;>omega
  rw[e1,<-g3];unfold zv;rw[g2];simp
 have hD:0<D:=by omega
 have SK:0<zv gn g:=by
  rw[hgz];have:=qH N (show D≠0 by omega);omega
 have hgl:0<g.len:=by
  refine(fQ (B:=65536) (by decide) dg g1.1).1 ?_
  have:zv gn g=vl g:=by unfold zv;rw[g2];simp
  rw[this]at SK;exact SK
 have ayr:okW gn g:=by
  refine⟨g1,BM dg g1 (k:=1024) ?_⟩
  have h1:=zK (n:=m) (aj rb) hb.2;have h1:((zv m b).natAbs:Int)<65536^1024:=h1;have h2:zv gn g<=D:=by
   rw[hgz];exact Int.le_of_dvd hD (z9 ..)
  generalize(65536:Int)^1024=P at*;omega
 refine⟨⟨ha,ayr,hgl⟩,fun qn q rq rn r rr hq=>⟨⟨hb,ayr,hgl⟩,fun pn p rp sn s rs hp=> ?_⟩⟩
 obtain⟨q1,q2,q3,q4,_⟩:=hq;obtain⟨p1,p2,p3,p4,_⟩:=hp;rw[eN]at q3;rw[eD]at p3;have hdN:zv gn g∣N:=by rw[hgz];exact Int.gcd_dvd_left ..
 have hdD:zv gn g∣D:=by rw[hgz];exact z9 ..
 exact Ry (aj rp) q1 p1 hD hgz (ND SK hdN q3 (q4 SK).1 (q4 SK).2).symm (ND SK hdD p3 (p4 SK).1 (p4 SK).2).symm
theorem al2:aeS:=by
  intro n a ra m b rb hp;simp only[zC]at hp⊢;obtain⟨ha,hb,hb0⟩:=hp;have la:aB a:=by have:=ha.2;unfold aB;omega
  have lb:aB b:=by have:=hb.2;unfold aB;omega
  have hbv:0<vl b:=(fQ (B:=65536) (by decide) (aj rb) hb.1.1).2 hb0;refine⟨fun hm=> ?_,fun hm=>⟨⟨ha,hb⟩,fun gn g rg hg=> ?_⟩⟩
  · have T:nV n a/\∀(n':Bool)(a':Sl),Ranged a' [some .u16]->kM n a n' a'->nV m b/\∀(m':Bool)(b':Sl),Ranged b' [some .u16]->kM m b m' b'->lW n' a' m' b'/\∀(gn:Bool)(g:Sl),Ranged g [some .u16]->kP n' a' m' b' gn g->
        jo n' a' gn g/\∀(qn:Bool)(q:Sl),Ranged q [some .u16]->∀(rn:Bool)(r:Sl),Ranged r [some .u16]->gG n' a' gn g qn q rn r->jo m' b' gn g/\∀(pn:Bool)(p:Sl),Ranged p [some .u16]->∀(sn:Bool)(s:Sl),Ranged s [some .u16]->gG m' b' gn g pn p sn s->sK n a m b qn q pn p/\True:=by
      refine⟨la,fun n' a' ra' h1=>⟨lb,fun m' b' kD h2=> ?_⟩⟩
      obtain⟨w1,e1,l1⟩:=Oh h1 ha.1;obtain⟨w2,e2,l2⟩:=Oh h2 hb.1;have ha':okW n' a':=⟨w1,by rw[l1];exact ha.2⟩;have hb':okW m' b':=⟨w2,by rw[l2];exact hb.2⟩;have hz:zv m b=-vl b:=by unfold zv;rw[hm];simp
      refine⟨⟨ha',hb'⟩,fun gn g rg hg=> ?_⟩
      obtain⟨c1,c2⟩:=WQ ra' kD ha' hb' (by rw[l2];exact hb0) (by rw[e2,hz];omega) e1 e2 rg hg;refine⟨c1,fun qn q rq rn r rr hq=> ?_⟩
      obtain⟨c3,c4⟩:=c2 qn q rq rn r rr hq;refine⟨c3,fun pn p rp sn s rs hp=>⟨?_,trivial⟩⟩
      have:=c4 pn p rp sn s rs hp;rw[Rat.neg_divInt_neg]at this;exact this
    exact⟨⟨T,T⟩,T⟩
  · have hz:zv m b=vl b:=by unfold zv;rw[if_neg hm]
    obtain⟨c1,c2⟩:=WQ ra rb ha hb hb0 (by rw[hz];exact hbv) rfl rfl rg hg;refine⟨c1,fun qn q rq rn r rr hq=> ?_⟩
    obtain⟨c3,c4⟩:=c2 qn q rq rn r rr hq;exact⟨c3,fun pn p rp sn s rs hp=>⟨c4 pn p rp sn s rs hp,trivial⟩⟩
theorem al3:aeT:=by
 intro nn nl rn dn dl rd _;simp only[zC];have hn:=aj rn;have hd:=aj rd;have h0:=len0 dl;have key:=anS (nn:=nn) (dn:=dn) hn hd;have no:¬okF nn nl dn dl->bD nn nl dn dl (decide False)/\True:=fun h=>⟨by simp only[bD,decide_false,z5,false_iff];exact h,trivial⟩
 refine fun _=>⟨fun h=>no fun hk=>by have:=key.1 hk;omega,fun h1 _=>⟨fun h=>no fun hk=>by have:=key.1 hk;omega,fun h2=>⟨trivial,fun v hv=>⟨fun h=>no fun hk=>h (hv.2 ⟨(key.1 hk).2.2.1,by omega⟩),fun h3=>⟨trivial,fun w hw=>⟨fun h=>no fun hk=>h (hw.2 ⟨(key.1 hk).2.2.2.1,by omega⟩),fun h4=>⟨fun h=>no fun hk=>by have:=(key.1 hk).2.2.2.2.1;rw[this]at h;exact absurd h (by decide),fun h5 _=>⟨fun h=>no fun hk=>by have:=key.1 hk;omega,fun h6=> ?_⟩⟩⟩⟩⟩⟩⟩⟩
 have w1:=hv.1 (zD.1 h3);have w2:=hw.1 (zD.1 h4);have hdn:dn=false:=by simpa using h5
 have abQ:lW nn nl dn dl/\∀(gn:Bool)(g:Sl),Ranged g [some .u16]->kP nn nl dn dl gn g->
   ((¬gn=true->Small g->((g.len=1->(0:Int)<=0/\(0:Int)<g.len/\(Rng .u16 (g.int 0 0)->bD nn nl dn dl (decide (g.int 0 0=1))/\True))/\(¬g.len=1->bD nn nl dn dl (decide False)/\True)))/\(¬¬gn=true->bD nn nl dn dl (decide False)/\True)):=by
  refine⟨⟨w1,w2⟩,fun gn g rg hg=> ?_⟩
  obtain⟨g1,g2,g3⟩:=hg;have one:=JZ (aj rg) g1.1;have hk:okF nn nl dn dl↔vl g=1:=by
   rw[key,g3];constructor
   ·intro h;have:=h.2.2.2.2.2.2;omega
   ·intro h;exact⟨by omega,by omega,w1.1,w2.1,hdn,by omega,by omega⟩
  refine⟨fun _ _=>⟨fun hl=>⟨by decide,by omega,fun _=>⟨?_,trivial⟩⟩,fun hl=>no fun h=>hl (one.2 (hk.1 h)).1⟩,fun h=>absurd (by rw[g2];decide) h⟩
  simp only[bD,decide_eq_true_eq];rw[hk,<-one];exact⟨fun h=>⟨hl,h⟩,fun h=>h.2⟩
 refine⟨fun _ _=>⟨fun hl=>⟨by decide,by omega,fun _=>⟨fun h1'=>⟨?_,trivial⟩,fun _=>abQ⟩⟩,fun _=>abQ⟩,fun _=>abQ⟩
 have hv1:=(JZ hd w2.1.1).1 ⟨hl,h1'⟩;simp only[bD,decide_true,true_iff];rw[key,hv1,Int.gcd_one_right];exact⟨by omega,by omega,w1.1,w2.1,hdn,by omega,rfl⟩
theorem aeo:Wu:=by
 intro s rs _ hsm;have hm:=iW hsm;have h0:=len0 s;simp only[iw,bD,zC,decide_eq_true_eq];refine⟨fun i=>0<=i/\i<=s.len/\∀k:Int,0<=k->k<i->okF (s.bool k 0) (s.sub k 1) (s.bool k 2) (s.sub k 3),fun i=>(s.len-i).toNat,⟨by omega,h0,fun k h1 h2=>absurd h1 (by omega)⟩,fun i _ hj=> ?_⟩
 obtain⟨i0,i1,hk⟩:=hj;refine⟨fun hlt=>⟨i0,hlt,fun _ _=>⟨trivial,fun b hb=>⟨fun hn=>⟨⟨fun h=>absurd i0 h,fun h=>absurd (hb.2 (h i i0 hlt)) hn⟩,trivial⟩,fun hn=>⟨aJ _ (by omega),⟨by omega,by omega,fun k k0 k1=> ?_⟩, ?_⟩⟩⟩⟩,fun hge=>⟨⟨fun _ k k0 k1=>hk k k0 (by omega),fun _=>by decide⟩,trivial⟩⟩
 ·by_cases e:k=i
  ·rw[e];exact hb.1 (zD.1 hn)
  ·exact hk k k0 (by omega)
 ·show(s.len-(i+1)).toNat<(s.len-i).toNat
  omega
theorem Pm{n:Int}{nn dn:Bool}{nl dl:Sl}(rd:bC 65536 dl)(h1:NW nn nl)(h2:zv nn nl=n)(h3:NW dn dl)(h4:zv dn dl=1):aK (n:Rat) nn nl dn dl:=by
 have h0:0<=vl dl:=(rd.bound (B:=65536) (by decide)).1;have hd:dn=false:=by
  cases dn
  ·rfl
  ·unfold zv at h4;simp at h4;omega
 refine⟨h1,by rw[h2];rfl,hd,h3.1, ?_⟩
 have:zv dn dl=vl dl:=by unfold zv;rw[hd];simp
 rw[<-this,h4];rfl
theorem ahc:ZB:=by
 intro n rn _;refine⟨trivial,fun nn nl NG h1=>⟨trivial,fun dn dl kL h2=> ?_⟩⟩
 simp only[zC]at h1 h2⊢;exact⟨⟨Pm (aj kL) h1.1 h1.2.1 h2.1 h2.2.1,h1.2.2,h2.2.2⟩,trivial⟩
theorem Fj{a c a' c':Bool}{b d b' d':Sl}:(∀i:Int,0<=i->i<(zA [[.bool a,zB b, .bool c,zB d],[.bool a',zB b', .bool c',zB d']]).len->
  okF ((zA [[.bool a,zB b, .bool c,zB d],[.bool a',zB b', .bool c',zB d']]).bool i 0) ((zA [[.bool a,zB b, .bool c,zB d],[.bool a',zB b', .bool c',zB d']]).sub i 1) ((zA [[.bool a,zB b, .bool c,zB d],[.bool a',zB b', .bool c',zB d']]).bool i 2) ((zA [[.bool a,zB b, .bool c,zB d],[.bool a',zB b', .bool c',zB d']]).sub i 3))↔okF a b c d/\okF a' b' c' d':=by
 have e:(zA [[.bool a,zB b, .bool c,zB d],[.bool a',zB b', .bool c',zB d']]).len=2:=rfl;rw[e];constructor
 ·intro h
  exact⟨h 0 (by decide) (by decide),h 1 (by decide) (by decide)⟩
 ·intro h i i0 i1
  rcases(show i=0\/i=1 by omega)with rfl|rfl
  ·exact h.1
  ·exact h.2
theorem gJ:BU false zI false zI:=⟨rfl,rfl,rfl,rfl⟩
theorem U9{q:Rat}{nn dn:Bool}{nl dl:Sl}(h:aK q nn nl dn dl)(rn:bC 65536 nl)(rd:bC 65536 dl)(hl:¬(nl.len<=256/\dl.len<=256)):Di q false zI false zI 3:=
 ⟨fun hf=>absurd ((h.fit rn rd).2 hf) hl,fun _=>⟨gJ,rfl⟩⟩
theorem ais{q:Rat}{nn dn:Bool}{nl dl:Sl}(h:aK q nn nl dn dl)(rn:bC 65536 nl)(rd:bC 65536 dl)(h1:nl.len<=256)(h2:dl.len<=256):Di q nn nl dn dl 0:=
 ⟨fun _=>⟨h,rfl⟩,fun hf=>absurd ((h.fit rn rd).1 ⟨h1,h2⟩) hf⟩
theorem JD{q:Rat}{nn dn:Bool}{nl dl:Sl}{F:Bool->Sl->Bool->Sl->Int->Prop}(hF:∀nn nl dn dl e,Di q nn nl dn dl e->F nn nl dn dl e)(h:aK q nn nl dn dl)(rn:bC 65536 nl)(rd:bC 65536 dl):
  Small nl->((nl.len>256->F false zI false zI 3/\True)/\(¬nl.len>256->Small dl->((dl.len>256->F false zI false zI 3/\True)/\(¬dl.len>256->F nn nl dn dl 0/\True)))):=
 fun _=>⟨fun hl=>⟨hF _ _ _ _ _ (U9 h rn rd (by omega)),trivial⟩,fun hl _=>⟨fun hl'=>⟨hF _ _ _ _ _ (U9 h rn rd (by omega)),trivial⟩,fun hl'=>⟨hF _ _ _ _ _ (ais h rn rd (by omega) (by omega)),trivial⟩⟩⟩
theorem uX{a c:Bool}{b d:Sl}(h:okF a b c d):fq a b d=zF (zv a b) (zv c d):=by
 unfold fq;have:zv c d=vl d:=by unfold zv;rw[h.iO.2.2.1];simp
 rw[this]
theorem sG{a c:Bool}{b d:Sl}(h:pO a b c d):zv c d≠0:=by
 have h1:=h.iO.den_pos;have:zv c d=vl d:=by unfold zv;rw[h.iO.2.2.1];simp
 omega
theorem okF.nw{a c:Bool}{b d:Sl}(h:okF a b c d):NW a b/\NW c d:=⟨h.iO.1,h.iO.WO⟩
theorem atS:anA:=by
 intro a b rb c d rd a' b' kD c' d' rd' _;simp only[zC,decide_false,iw,Fj];refine⟨trivial,fun v hv=>⟨fun hn=>⟨⟨fun h=>absurd (hv.2 h) hn,fun _=>⟨gJ,rfl⟩⟩,trivial⟩,fun hok=> ?_⟩⟩
 have hh:=hv.1 (zD.1 hok);obtain⟨h,h'⟩:=hh;have l1:=h.2;have l2:=h'.2;refine⟨⟨h.nw.1,h'.nw.2,by omega⟩,fun t1 x1 r1 q1=>⟨⟨h'.nw.1,h.nw.2,by omega⟩,fun t2 x2 r2 q2=> ?_⟩⟩
 have y1:=dD (k:=512) (aj rb) (aj rd') (aj r1) q1.1 q1.2 (by omega);have y2:=dD (k:=512) (aj kD) (aj rd) (aj r2) q2.1 q2.2 (by omega);refine⟨⟨⟨q1.1,by omega⟩,⟨q2.1,by omega⟩⟩,fun t3 x3 r3 q3=>⟨⟨h.nw.2,h'.nw.2,by omega⟩,fun t4 x4 r4 q4=> ?_⟩⟩
 have y3:=Gs (aj r1) (aj r2) (aj r3) q3.1 (.inl q3.2) y1 y2;have y4:=dD (k:=512) (aj rd) (aj rd') (aj r4) q4.1 q4.2 (by omega);have hne:zv t4 x4≠0:=by rw[q4.2];exact z3 (sG h.1) (sG h'.1)
 have hx4:0<x4.len:=by
  have:=len0 x4;rcases zP 0 x4.len with g|g
  ·exact g
  ·exfalso
   have e:vl x4=0:=(bK (B:=65536) (by decide) (aj r4) q4.1.1).2 (by omega);unfold zv at hne;rw[e]at hne;simp at hne
 refine⟨⟨⟨q3.1,by omega⟩,⟨q4.1,by omega⟩,hx4⟩,fun nn nl rn dn dl kL hq=> ?_⟩
 have hq:aK (zF (zv t3 x3) (zv t4 x4)) nn nl dn dl:=hq;have e:zF (zv t3 x3) (zv t4 x4)=fq a b d+fq a' b' d':=by
  rw[q3.2,q1.2,q2.2,q4.2,uX h,uX h',qI _ _ (sG h.1) (sG h'.1)]
 rw[e]at hq;exact JD (F:=fun nn nl dn dl e=>pF a b c d a' b' c' d' nn nl dn dl e) (fun nn nl dn dl e hr=>⟨fun _=>hr,fun hn=>absurd ⟨h,h'⟩ hn⟩) hq (aj rn) (aj kL)
theorem Ac{n:Bool}{l:Sl}(rl:bC 65536 l)(hn:NW n l)(h:zv n l≠0):0<l.len:=by
 have:=len0 l;rcases zP 0 l.len with g|g
 ·exact g
 ·exfalso
  have e:vl l=0:=(bK (B:=65536) (by decide) rl hn.1).2 (by omega);unfold zv at h;rw[e]at h;simp at h
theorem Gt{n:Bool}{l:Sl}(h:l.len=0):zv n l=0:=by
 have e:vl l=0:=by
  unfold vl;rw[fD,h];rfl
 unfold zv;rw[e];simp
theorem atT:anB:=by
 intro a b rb c d rd a' b' kD c' d' rd' _;simp only[zC,decide_false,iw,Fj];refine⟨trivial,fun v hv=>⟨fun hn=>⟨⟨fun h=>absurd (hv.2 h) hn,fun _=>⟨gJ,rfl⟩⟩,trivial⟩,fun hok=> ?_⟩⟩
 have hh:=hv.1 (zD.1 hok);obtain⟨h,h'⟩:=hh;have l1:=h.2;have l2:=h'.2;refine⟨⟨h.nw.1,h'.nw.1,by omega⟩,fun t3 x3 r3 q3=>⟨⟨h.nw.2,h'.nw.2,by omega⟩,fun t4 x4 r4 q4=> ?_⟩⟩
 have y3:=dD (k:=512) (aj rb) (aj kD) (aj r3) q3.1 q3.2 (by omega);have y4:=dD (k:=512) (aj rd) (aj rd') (aj r4) q4.1 q4.2 (by omega);have hne:zv t4 x4≠0:=by rw[q4.2];exact z3 (sG h.1) (sG h'.1)
 refine⟨⟨⟨q3.1,by omega⟩,⟨q4.1,by omega⟩,Ac (aj r4) q4.1 hne⟩,fun nn nl rn dn dl kL hq=> ?_⟩
 have hq:aK (zF (zv t3 x3) (zv t4 x4)) nn nl dn dl:=hq;have e:zF (zv t3 x3) (zv t4 x4)=fq a b d*fq a' b' d':=by
  rw[q3.2,q4.2,uX h,uX h',qJ]
 rw[e]at hq;exact JD (F:=fun nn nl dn dl e=>Bg a b c d a' b' c' d' nn nl dn dl e) (fun nn nl dn dl e hr=>⟨fun _=>hr,fun hn=>absurd ⟨h,h'⟩ hn⟩) hq (aj rn) (aj kL)
theorem ait{a c:Bool}{b d:Sl}(rb:bC 65536 b)(h:pO a b c d):fq a b d=0↔b.len=0:=by
 have hq:=h.iO;rw[<-Rat.num_eq_zero,<-hq.2.1];constructor
 ·intro hz
  have:=oD (n:=a) rb;exact(bK (B:=65536) (by decide) rb hq.1.1).1 (by
   show vl b=0;omega)
 ·exact Gt
theorem atU:anC:=by
 intro a b rb c d rd a' b' kD c' d' rd' _;simp only[zC,decide_false,iw,Fj];refine⟨trivial,fun v hv=>⟨fun hn=>⟨⟨fun h=>absurd (hv.2 h) hn,fun _=>⟨gJ,rfl⟩⟩,trivial⟩,fun hok=> ?_⟩⟩
 have hh:=hv.1 (zD.1 hok);obtain⟨h,h'⟩:=hh;have l1:=h.2;have l2:=h'.2;have hz:=ait (aj kD) h'.1;refine fun _=>⟨fun hl=>⟨⟨fun _=>⟨fun hn=>absurd (hz.2 hl) hn,fun _=>⟨gJ,rfl⟩⟩,fun hn=>absurd ⟨h,h'⟩ hn⟩,trivial⟩,fun hl=> ?_⟩
 have hnz:fq a' b' d'≠0:=fun h0=>hl (hz.1 h0)
 have hzn:zv a' b'≠0:=by
  intro h0;have:=oD (n:=a') (aj kD);exact hl ((bK (B:=65536) (by decide) (aj kD) h'.nw.1.1).1 (by show vl b'=0;omega))
 refine⟨⟨h.nw.1,h'.nw.2,by omega⟩,fun t3 x3 r3 q3=>⟨⟨h.nw.2,h'.nw.1,by omega⟩,fun t4 x4 r4 q4=> ?_⟩⟩
 have y3:=dD (k:=512) (aj rb) (aj rd') (aj r3) q3.1 q3.2 (by omega);have y4:=dD (k:=512) (aj rd) (aj kD) (aj r4) q4.1 q4.2 (by omega);have hne:zv t4 x4≠0:=by rw[q4.2];exact z3 (sG h.1) hzn
 refine⟨⟨⟨q3.1,by omega⟩,⟨q4.1,by omega⟩,Ac (aj r4) q4.1 hne⟩,fun nn nl rn dn dl kL hq=> ?_⟩
 have hq:aK (zF (zv t3 x3) (zv t4 x4)) nn nl dn dl:=hq;have e:zF (zv t3 x3) (zv t4 x4)=fq a b d/fq a' b' d':=by
  rw[q3.2,q4.2,uX h,uX h',Rat.div_def,Rat.inv_divInt,qJ]
 rw[e]at hq;exact JD (F:=fun nn nl dn dl e=>Bz a b c d a' b' c' d' nn nl dn dl e) (fun nn nl dn dl e hr=>⟨fun _=>⟨fun _=>hr,fun h0=>absurd h0 hnz⟩,fun hn=>absurd ⟨h,h'⟩ hn⟩) hq (aj rn) (aj kL)
theorem aiu{x y:Rat}{r:Int}(h:ZY (x.num*y.den) (y.num*x.den) r):Gm x y r:=by
 rcases h with h|h|h
 ·exact .inl ⟨h.1,(Rat.lt_iff _ _).2 h.2⟩
 ·exact .inr (.inl ⟨h.1,Rat.eq_iff_mul_eq_mul.2 h.2⟩)
 ·exact .inr (.inr ⟨h.1,(Rat.lt_iff _ _).2 h.2⟩)
theorem atV:anD:=by
 intro a b rb c d rd a' b' kD c' d' rd' _;simp only[zC,iw,Fj];refine⟨trivial,fun v hv=>⟨fun hn=>⟨⟨fun h=>absurd (hv.2 h) hn,fun _=>rfl⟩,trivial⟩,fun hok=> ?_⟩⟩
 have hh:=hv.1 (zD.1 hok);obtain⟨h,h'⟩:=hh;have l1:=h.2;have l2:=h'.2;refine⟨⟨h.nw.1,h'.nw.2,by omega⟩,fun t3 x3 r3 q3=>⟨⟨h'.nw.1,h.nw.2,by omega⟩,fun t4 x4 r4 q4=> ?_⟩⟩
 have y3:=dD (k:=512) (aj rb) (aj rd') (aj r3) q3.1 q3.2 (by omega);have y4:=dD (k:=512) (aj kD) (aj rd) (aj r4) q4.1 q4.2 (by omega);refine⟨⟨⟨q3.1,by omega⟩,⟨q4.1,by omega⟩⟩,fun r _ hr=>⟨⟨fun _=>aiu ?_,fun hn=>absurd ⟨h,h'⟩ hn⟩,trivial⟩⟩
 have hr:ZY (zv t3 x3) (zv t4 x4) r:=hr;rw[q3.2,q4.2,h.iO.2.1,h'.iO.2.1,h.iO.zd,h'.iO.zd]at hr;exact hr
theorem YC{q:Rat}{k r:Int}(h:q.num=(q.den:Int)*k+r)(h0:0<=r)(h1:r<(q.den:Int)):q.floor=k:=by
 have hd:=q.den_pos;rw[Rat.floor_def,h,Int.add_comm,Int.add_mul_ediv_left _ _ (by omega),Int.ediv_eq_zero_of_lt h0 h1];omega
theorem atW:anE:=by
 intro a b rb c d rd _;simp only[zC,bD];refine⟨trivial,fun v hv=>⟨fun hn=>⟨⟨fun _=>⟨rfl,rfl⟩,fun h=>absurd (hv.2 h) hn⟩,trivial⟩,fun hok=> ?_⟩⟩
 have h:=hv.1 (zD.1 hok);have l1:=h.2;have hc:=h.iO.2.2.1;have one:=JZ (aj rd) h.iO.2.2.2.1;rw[h.iO.2.2.2.2]at one;have no:¬(d.len=1/\d.int 0 0=1)->uD a b c d 0 22/\True:=fun hn=>⟨⟨fun hf=>absurd h hf,fun _=>⟨fun _=>⟨rfl,rfl⟩,fun he=>absurd (one.2 (by omega)) hn⟩⟩,trivial⟩
 refine⟨fun _ _=>⟨fun hl=>⟨by decide,by omega,fun _=>⟨fun h1=>no fun hh=>h1 hh.2,fun h1=>⟨⟨h.nw.1,by omega⟩,fun x _ e _ hq=>⟨⟨fun hf=>absurd h hf,fun _=>⟨fun he=> ?_,fun he=> ?_⟩⟩,trivial⟩⟩⟩⟩,fun hl=>no fun hh=>hl hh.1⟩,fun hcc=>absurd (by rw[hc];decide) hcc⟩
 ·have:=one.1 ⟨hl,zD.1 h1⟩
  omega
 ·have hq:_:=hq
  unfold ER at hq;rw[h.iO.2.1]at hq;unfold tN;rcases hq with hq|hq
  ·exact⟨fun _=>⟨hq.2.2.1,hq.2.2.2⟩,fun hh=>absurd ⟨hq.1,hq.2.1⟩ hh⟩
  ·exact⟨fun hh=>absurd hh hq.1,fun _=>⟨hq.2.1,hq.2.2⟩⟩
theorem anT{mode c:Int}{b0:Bool}{Y:Prop}{J:Bool->Prop}(hm:mode=3\/mode=5)(h3:mode=3->J false)(hp:mode=5->c>0->J true)(hz:mode=5->c=0->J (!b0))(hn:mode=5->c<0->J false):
  (0:Int)<=IntKind.wrap .u8 (mode-1)/\IntKind.wrap .u8 (mode-1)<6/\
   ((IntKind.wrap .u8 (mode-1)=0->J b0)/\(¬IntKind.wrap .u8 (mode-1)=0->
   ((IntKind.wrap .u8 (mode-1)=1->J (decide (¬b0=true)))/\(¬IntKind.wrap .u8 (mode-1)=1->
   ((IntKind.wrap .u8 (mode-1)=2->J (decide False))/\(¬IntKind.wrap .u8 (mode-1)=2->
   ((IntKind.wrap .u8 (mode-1)=3->J (decide True))/\(¬IntKind.wrap .u8 (mode-1)=3->
   ((IntKind.wrap .u8 (mode-1)=4->((c>0->J (decide True))/\(¬c>0->((c=0->J (decide (¬b0=true)))/\(¬c=0->J (decide False))))))/\(¬IntKind.wrap .u8 (mode-1)=4->Y)))))))))):=by
 have e:IntKind.wrap .u8 (mode-1)=mode-1:=by rw[wu8];omega
 have d:decide (¬b0=true)= !b0:=by cases b0<;>rfl
 rw[e,d];refine⟨by omega,by omega,fun h=>absurd h (by omega),fun _=>⟨fun h=>absurd h (by omega),fun _=>⟨fun h=> ?_,fun _=>⟨fun h=>absurd h (by omega),fun _=>⟨fun h=>⟨fun h'=> ?_,fun h'=>⟨fun h''=> ?_,fun h''=> ?_⟩⟩,fun h=>absurd h (by omega)⟩⟩⟩⟩⟩
 ·rw[decide_false];exact h3 (by omega)
 ·rw[decide_true];exact hp (by omega) h'
 ·exact hz (by omega) h''
 ·rw[decide_false];exact hn (by omega) (by omega)
theorem Gu(n:Int):zF n 1=(n:Rat):=z8 (n:Rat)
theorem akL{q:Rat}{k r:Int}(h:q.num=(q.den:Int)*k+r):(q+q:Rat)=zF (2*((q.den:Int)*k+r)) q.den:=by
 have hd:(q.den:Int)≠0:=by have:=q.den_pos;omega
 rw[<-h]
 conv=>lhs;rw[<-z8 q]
 rw[qI _ _ hd hd,qK (z3 hd hd) hd]
 grind
theorem af0{q:Rat}{k r:Int}(h:q.num=(q.den:Int)*k+r)(h0:0<=r)(h1:r<(q.den:Int)):
  aO q 3=k/\(r+r<(q.den:Int)->aO q 5=k)/\((q.den:Int)<r+r->aO q 5=k+1)/\(r+r=(q.den:Int)->aO q 5=if 0<=q then k+1 else k):=by
 have hf:=YC h h0 h1;have hd:(0:Int)<q.den:=by have:=q.den_pos;omega
 have e:=akL h;have lt:((k+k+1:Int):Rat)<q+q↔(q.den:Int)<r+r:=by
  rw[e,Rat.divInt_eq_div,Rat.lt_div_iff (Rat.intCast_pos.2 hd),<-Rat.intCast_mul,Rat.intCast_lt_intCast];have e1:(k+k+1)*(q.den:Int)=2*((q.den:Int)*k)+(q.den:Int):=by grind
  rw[e1];omega
 have eq:((k+k+1:Int):Rat)=q+q↔(q.den:Int)=r+r:=by
  rw[e,<-Gu,qK (by omega) (by omega)];constructor
  ·intro h;grind
  ·intro h;grind
 have c:((q.floor+q.floor+1:Int):Rat)=((q.floor:Rat)+(q.floor:Rat)+1):=by simp
 refine⟨by unfold aO;rw[if_pos rfl];exact hf,fun hh=> ?_,fun hh=> ?_,fun hh=> ?_⟩
 ·unfold aO
  rw[if_neg (by decide),if_neg ?_]
  ·exact hf
  ·rw[hf]
   rintro(h'|h')
   ·have:=lt.1 (by simpa using h');omega
   ·have:=eq.1 h'.1;omega
 ·unfold aO
  rw[if_neg (by decide),if_pos ?_,hf];left
  rw[hf];simpa using lt.2 hh
 ·unfold aO
  rw[if_neg (by decide),hf];by_cases hq:0<=q
  ·rw[if_pos hq,if_pos (.inr ⟨eq.2 hh.symm,hq⟩)]
  ·rw[if_neg hq,if_neg ?_]
   rintro(h'|h')
   ·have:=lt.1 (by simpa using h');omega
   ·exact hq h'.2
theorem al4:aeU:=by
 intro a b rb c d rd a' b' kD c' d' rd' mode rm hp;have hp':=hp;simp only[zC]at hp';obtain⟨hu,Ar,hdl,hm⟩:=hp';have u1:zv a' b'=1:=hu.2.1;have u2:zv c' d'=1:=hu.zd;have db':=aj kD;have ub:0<b'.len:=Ac db' hu.1 (by omega);simp only[zC,decide_false,iw,Fj];have akM:okF a' b' c' d':=⟨hu.pO,Ar,hdl⟩;refine⟨trivial,fun v hv=>⟨fun hn=>⟨⟨fun h=>absurd (hv.2 ⟨h,akM⟩) hn,fun _=>⟨gJ,rfl⟩⟩,trivial⟩,fun hok=>⟨fun h=>absurd h (by omega),fun _=>⟨fun h=>absurd h (by omega),fun _ _=>⟨fun h=>absurd h (by omega),fun _=>⟨fun h=> ?_,fun _=> ?_⟩⟩⟩⟩⟩⟩
 ·exfalso
  unfold zv at u1;rw[if_pos h]at u1;have:0<=vl b':=(db'.bound (B:=65536) (by decide)).1;omega
 have h:=(hv.1 (zD.1 hok)).1;have l1:=h.2;refine⟨⟨h.nw.2,hu.1,by omega⟩,fun bn bt rbt hbt=> ?_⟩
 have hbz:zv bn bt=((fq a b d).den:Int):=by rw[hbt.2,u1,h.iO.zd,z2]
 have hbl:=dD (k:=512) (aj rd) db' (aj rbt) hbt.1 hbt.2 (by omega);have hb0:=Ac (aj rbt) hbt.1 (by rw[hbz];have:=(fq a b d).den_pos;omega);have tm:kW a b c' d':=⟨h.nw.1,hu.WO,by omega⟩;refine⟨tm,fun tn t rt ht=> ?_⟩
 have htl:=dD (k:=512) (aj rb) (aj rd') (aj rt) ht.1 ht.2 (by omega);refine⟨⟨⟨ht.1,by omega⟩,⟨hbt.1,by omega⟩,hb0⟩,fun kn k rk rn r rr hq=> ?_⟩
 obtain⟨nk,nr,n3,n4,_⟩:=hq;rw[ht.2,u2,z2,h.iO.2.1,hbz]at n3;rw[hbz]at n4;have n4:=n4 (by have:=(fq a b d).den_pos;omega);have e0:=n3;have r0:=n4.1;have r1:=n4.2;have hbn:=hbt.1;obtain⟨t3,t5a,t5b,t5c⟩:=af0 e0 r0 r1;have hR:zv rn r=0↔r.len=0:=by
  constructor
  ·intro hz
   have:=oD (n:=rn) (aj rr);exact(bK (B:=65536) (by decide) (aj rr) nr.1).1 (by show vl r=0;omega)
  ·exact Gt
 have hrl:r.len<=512:=by
  refine BM (aj rr) nr (k:=512) ?_
  have:=zK (n:=bn) (aj rbt) (k:=512) hbl;rw[hbz]at this;generalize(65536:Int)^512=P at*;omega
 have hkl:k.len<=513:=by
  refine BM (aj rk) nk (k:=513) ?_
  have h1:=zK (n:=a) (aj rb) (k:=512) (by have:=h.2.1;omega);rw[h.iO.2.1]at h1;have h2:(65536:Int)^513=65536^512*65536:=zL ..;have h3:=fC (B:=65536) (by decide) 512;generalize(65536:Int)^513=Q at*;generalize(65536:Int)^512=P at*;have hd1:(1:Int)<=(fq a b d).den:=by have:=(fq a b d).den_pos;omega
  rcases zP (zv kn k) 0 with hneg|hpos
  ·have:((fq a b d).den:Int)*(zv kn k+1)<=1*(zv kn k+1):=by
    have g:=Int.mul_le_mul_of_nonpos_right hd1 (show zv kn k+1<=0 by omega);exact g
   rw[z7]at this;omega
  ·have:1*zv kn k<=((fq a b d).den:Int)*zv kn k:=zR hd1 hpos
   omega
 have hneg:a=true↔¬0<=fq a b d:=by
  rw[<-Rat.num_nonneg,<-h.iO.2.1];have hv0:0<=vl b:=((aj rb).bound (B:=65536) (by decide)).1;have hz:=bK (B:=65536) (by decide) (aj rb) h.nw.1.1;have hz:vl b=0↔b.len=0:=hz;unfold zv;constructor
  ·intro ha
   rw[if_pos ha];have:b.len≠0:=fun h0=>by have:=h.nw.1.2 h0;rw[this]at ha;exact absurd ha (by decide)
   have:vl b≠0:=fun h0=>this (hz.1 h0)
   omega
  ·intro hn
   cases a
   ·exfalso;simp at hn;omega
   ·rfl
 have hjz:r.len=0->aO (fq a b d) mode=zv kn k:=fun hz=>by
  have:=hR.2 hz;rcases hm with rfl|rfl
  ·exact t3
  ·exact t5a (by have:=(fq a b d).den_pos;omega)
 have inc:aO (fq a b d) mode=zv kn k+1->Qn kn k (fun n l=>NW n l/\l.len<=600/\zv n l=aO (fq a b d) mode):=fun he=>by
  refine⟨trivial,fun on o ro ho=> ?_⟩
  simp only[zC]at ho⊢;refine⟨⟨⟨nk,by omega⟩,⟨ho.1,by have:=ho.2.2;omega⟩⟩,fun sn s rs hs=>⟨hs.1, ?_,by rw[hs.2,ho.2.1,he]⟩⟩
  have:=Gs (aj rk) (aj ro) (aj rs) hs.1 (k:=513) (.inl hs.2) hkl (by have:=ho.2.2;omega);omega
 have keep:aO (fq a b d) mode=zv kn k->(NW kn k/\k.len<=600/\zv kn k=aO (fq a b d) mode):=fun he=>⟨nk,by omega,he.symm⟩
 have ays:∀(tn:Bool)(t:Sl),Ranged t [some .u16]->FV rn r rn r tn t->OQ tn t bn bt/\∀x:Int,yD tn t bn bt x->
   (mode=3->aO (fq a b d) mode=zv kn k)/\(mode=5->x>0->aO (fq a b d) mode=zv kn k+1)/\(mode=5->x=0->aO (fq a b d) mode=if a=true then zv kn k else zv kn k+1)/\(mode=5->x<0->aO (fq a b d) mode=zv kn k):=fun tn t rt ht=>by
  have htl:=Gs (aj rr) (aj rr) (aj rt) ht.1 (k:=512) (.inl ht.2) hrl hrl;refine⟨⟨⟨ht.1,by omega⟩,⟨hbn,by omega⟩⟩,fun x hx=> ?_⟩
  have hx:ZY (zv tn t) (zv bn bt) x:=hx;rw[ht.2,hbz]at hx;refine⟨fun e=>by rw[e];exact t3,fun e hp=> ?_,fun e hz=> ?_,fun e hn=> ?_⟩
  ·rw[e]
   rcases hx with hx|hx|hx
   ·omega
   ·omega
   ·exact t5b hx.2
  ·rw[e]
   rcases hx with hx|hx|hx
   ·omega
   ·rw[t5c hx.2]
    by_cases hq:0<=fq a b d
    ·rw[if_pos hq,if_neg (fun h=>hneg.1 h hq)]
    ·rw[if_neg hq,if_pos (hneg.2 hq)]
   ·omega
  ·rw[e]
   rcases hx with hx|hx|hx
   ·exact t5a hx.2
   ·omega
   ·omega
 have ayt:∀{Y:Prop}(x:Int),((mode=3->aO (fq a b d) mode=zv kn k)/\(mode=5->x>0->aO (fq a b d) mode=zv kn k+1)/\(mode=5->x=0->aO (fq a b d) mode=if a=true then zv kn k else zv kn k+1)/\(mode=5->x<0->aO (fq a b d) mode=zv kn k))->_:=
  fun{Y} x hx=>anT (c:=x) (b0:=a) (Y:=Y) (J:=fun up=>(up=true->aO (fq a b d) mode=zv kn k+1)/\(¬up=true->aO (fq a b d) mode=zv kn k)) hm (fun e=>⟨fun h=>absurd h (by decide),fun _=>hx.1 e⟩) (fun e hp=>⟨fun _=>hx.2.1 e hp,fun h=>absurd rfl h⟩)
   (fun e hz=>by have:=hx.2.2.1 e hz;cases a<;>simp at this⊢<;>exact this) (fun e hn=>⟨fun h=>absurd h (by decide),fun _=>hx.2.2.2 e hn⟩)
 have fin:JB kn k (fun n l=>NW n l/\l.len<=600/\zv n l=aO (fq a b d) mode) (fun up=>(up=true->aO (fq a b d) mode=zv kn k+1)/\(¬up=true->aO (fq a b d) mode=zv kn k)):=by
  unfold JB;simp only[zC];exact fun up hup=>⟨fun h=>⟨inc (hup.1 h),inc (hup.1 h)⟩,fun h=>keep (hup.2 h)⟩
 have pp:FU rn r rn r:=⟨⟨nr,by omega⟩,⟨nr,by omega⟩⟩;have k0:=len0 k;have r00:=len0 r;refine⟨fun n l=>NW n l/\l.len<=600/\zv n l=aO (fq a b d) mode,fun _=>⟨fun hrp _=>⟨fun hk=>⟨by decide,by omega,fun hr0=>⟨by decide, ?_,pp,fun tn t rt ht=> ?_⟩⟩,fun hk=>⟨pp,fun tn t rt ht=> ?_⟩⟩,fun hrz=>keep (hjz (by omega))⟩,fun sn s rs hs=> ?_⟩
 ·rw[O1]at hr0
  rw[Int.tmod_eq_emod_of_nonneg hr0.1];exact O1.2 (by omega)
 ·obtain⟨c1,c2⟩:=ays tn t rt ht
  exact⟨c1,fun x _ hx=>⟨_,ayt x (c2 x hx),fin⟩⟩
 ·obtain⟨c1,c2⟩:=ays tn t rt ht
  exact⟨c1,fun x _ hx=>⟨_,ayt x (c2 x hx),fin⟩⟩
 ·obtain⟨h1,h2,h3⟩:=hs
  refine⟨⟨h1,hu.1,by omega⟩,fun tn t rt ht=> ?_⟩
  have htl:=dD (k:=860) (aj rs) db' (aj rt) ht.1 ht.2 (by omega);refine⟨⟨⟨ht.1,by omega⟩,⟨hu.WO,by omega⟩,hu.VU (aj rd')⟩,fun nn nl rn' dn dl kL hq=> ?_⟩
  have hq:aK (zF (zv tn t) (zv c' d')) nn nl dn dl:=hq;rw[ht.2,u1,u2,z2,h3,Gu]at hq;exact JD (F:=fun nn nl dn dl e=>jV a b c d a' b' c' d' mode nn nl dn dl e) (fun nn nl dn dl e hr=>⟨fun _=>hr,fun hn=>absurd h hn⟩) hq (aj rn') (aj kL)
end Go.Sx.N
