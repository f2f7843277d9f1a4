/-
 The conditions of Go's functions on bits. Conditions: none.
-/
import Derived.Test.YtccbjhfdfbaekaaGreatNumVA
import Derived.Test.YtccbjhfdfbaekaaGreatNumBase
open Int renaming mul_le_mul_of_nonneg_right->zA,mul_comm->zB,pow_succ->zC,mul_nonneg->zD,add_mul->zF,gcd->zG,mul_ediv_add_emod->zH,emod_lt_of_pos->zI,emod_nonneg->zP,mul_le_mul_of_nonneg_left->zR,add_zero->z7,pow_add->z8,mul_le_mul->z9,ediv_nonneg->qD,le_refl->qE,not_le->qG,not_lt->qH,pow_pos->qI,tdiv_eq_ediv_of_nonneg->qJ,tmod_eq_emod_of_nonneg->qK,pow_zero->qL,one_mul->qM,zero_mul->qN,tdiv->qS,sub_mul->qT,mul_zero->qV,dvd_mul_of_dvd_right->qX,le_of_lt->qY,mul_lt_mul_of_pos_right->q4,ediv_lt_of_lt_mul->q6,add_mul_ediv_left->q7,ediv_eq_zero_of_lt->q9
open Go.Sx.Sl renaming len->zE,upd->z6
open Classical renaming not_not->q5
set_option linter.unusedVariables false
set_option linter.unusedSimpArgs false
namespace Go.Sx.N
theorem azp(v:BitVec 32):((v.toNat:Nat):Int)/2147483648=if v.msb=true then 1 else 0:=by
 have:=v.isLt;rw[BitVec.msb_eq_decide];by_cases h:2^(32-1)<=v.toNat
 ·rw[if_pos (by simpa using h)];omega
 ·rw[if_neg (by simpa using h)];omega
theorem w32(v:BitVec 32):IntKind.wrap .u32 ((v.toNat:Nat):Int)=((v.toNat:Nat):Int):=nI (by omega) (by have:=v.isLt;omega)
theorem aAd(v:BitVec 32):BitVec.ofInt 32 ((v.toNat:Nat):Int)=v:=by
 apply BitVec.eq_of_toNat_eq;have:=v.isLt;rw[GU (by omega) (by omega)];omega
theorem ayu(x y:Int):band .u32 x y=((BitVec.ofInt 32 x&&&BitVec.ofInt 32 y).toNat:Int):=rfl
theorem ayv(x y:Int):bor .u32 x y=((BitVec.ofInt 32 x|||BitVec.ofInt 32 y).toNat:Int):=rfl
theorem ayw(x y:Int):bxor .u32 x y=((BitVec.ofInt 32 x^^^BitVec.ofInt 32 y).toNat:Int):=rfl
theorem Rz{x:Int}(h:0<=x)(h':x<4294967296):(BitVec.ofInt 32 x).msb=decide (2147483648<=x):=by
 rw[BitVec.msb_eq_decide,GU h (by omega)];by_cases g:2147483648<=x
 ·simp[g];omega
 ·simp[g];omega
theorem aoM:ahG:=by
 intro x0 r0 x1 r1 x2 r2 hp;rw[rZ]at r0 r1 r2;have hp:x2<=1:=hp;obtain⟨D,hD⟩:∃D,D=IntKind.wrap .u32 (IntKind.wrap .u32 (x0-x1)-x2):=⟨_,rfl⟩;rw[<-hD];have hD':D=(x0-x1-x2) % 4294967296:=by rw[hD,xR,xR];omega
 have e:shr .u32 (IntKind.wrap .u32 (bor .u32 (IntKind.wrap .u32 (band .u32 (IntKind.wrap .u32 (bxor .u32 4294967295 x0)) x1)) (IntKind.wrap .u32 (band .u32 (IntKind.wrap .u32 (bxor .u32 4294967295 (IntKind.wrap .u32 (bxor .u32 x0 x1)))) D)))) 31=if x0<x1+x2 then 1 else 0:=by
  rw[azj];simp only[ayu,ayv,ayw,w32,aAd,azp,BitVec.msb_or,BitVec.msb_and,BitVec.msb_xor];rw[Rz (x:=4294967295) (by decide) (by decide),Rz r0.1 (by omega),Rz r1.1 (by omega),Rz (x:=D) (by omega) (by omega)];by_cases g0:2147483648<=x0<;>by_cases g1:2147483648<=x1<;>by_cases g2:2147483648<=D<;>simp[g0,g1,g2]<;>omega
 rw[e];refine⟨by decide,by split<;>exact⟨by decide,by decide⟩,⟨?_, ?_⟩,trivial⟩
 ·split<;>omega
 ·split
  ·exact .inr rfl
  ·exact .inl rfl
theorem aoN:ahH:=by
 intro x0 r0 x1 r1 x2 r2 hp;rw[rZ]at r0 r1 r2;have hp:x2<=1:=hp;have e:IntKind.wrap .u64 (IntKind.wrap .u64 (x0+x1)+x2)=x0+x1+x2:=by rw[wu64,wu64];omega
 rw[e,Jy];refine⟨by decide, ?_,⟨?_, ?_⟩,trivial⟩
 ·rw[dX];omega
 ·rw[xR,xR];omega
 ·rw[xR];omega
def Io:ByteArray:=bytes [0,1,2,2,3,3,3,3,4,4,4,4,4,4,4,4,5,5,5,5,5,5,5,5,5,5,5,5,5,5,5,5,6,6,6,6,6,6,6,6,6,6,6,6,6,6,6,6,6,6,6,6,6,6,6,6,6,6,6,6,6,6,6,6,7,7,7,7,7,7,7,7,7,7,7,7,7,7,7,7,7,7,7,7,7,7,7,7,7,7,7,7,7,7,7,7,7,7,7,7,7,7,7,7,7,7,7,7,7,7,7,7,7,7,7,7,7,7,7,7,7,7,7,7,7,7,7,7,8,8,8,8,8,8,8,8,8,8,8,8,8,8,8,8,8,8,8,8,8,8,8,8,8,8,8,8,8,8,8,8,8,8,8,8,8,8,8,8,8,8,8,8,8,8,8,8,8,8,8,8,8,8,8,8,8,8,8,8,8,8,8,8,8,8,8,8,8,8,8,8,8,8,8,8,8,8,8,8,8,8,8,8,8,8,8,8,8,8,8,8,8,8,8,8,8,8,8,8,8,8,8,8,8,8,8,8,8,8,8,8,8,8,8,8,8,8,8,8,8,8,8,8,8,8,8,8]
def q8(n r:Int):Prop:=0<=r/\r<=8/\n<2^r.toNat/\(0<n->0<r/\2^(r.toNat-1)<=n)
theorem avy:(List.range 256).all (fun n=>(Io.data.toList.getD n 0).toNat<=8&&decide (n<2^(Io.data.toList.getD n 0).toNat)&&(n==0||(decide (0<(Io.data.toList.getD n 0).toNat)&&decide (2^((Io.data.toList.getD n 0).toNat-1)<=n))))=true:=by decide+kernel
theorem avz:ylen Io=256:=by decide+kernel
theorem ayx{x:Int}(h:0<=x)(h':x<256):q8 x (ychr Io x):=by
 have:=List.all_eq_true.1 avy x.toNat (by rw[List.mem_range];omega);unfold ychr;generalize(Io.data.toList.getD x.toNat 0).toNat=r at this;simp only[Bool.and_eq_true,Bool.or_eq_true,decide_eq_true_eq,beq_iff_eq]at this;obtain⟨⟨h1,h2⟩,h3⟩:=this;have e:((r:Nat):Int).toNat=r:=by omega
 have c:∀k:Nat,((2:Int)^k)=((2^k:Nat):Int):=fun k=>by simp
 refine⟨by omega,by omega, ?_,fun hx=> ?_⟩
 ·rw[e,c];omega
 ·rw[e,c]
  rcases h3 with h3|h3
  ·omega
  ·omega
theorem akN{x r:Int}{m:Int}{k:Nat}(hm:m=2^k)(h:q8 (x/m) r)(hx:m<=x):0<=(k:Int)+r/\(k:Int)+r<=(k:Int)+8/\x<2^((k:Int)+r).toNat/\(0<x->0<(k:Int)+r/\2^(((k:Int)+r).toNat-1)<=x):=by
 have hm0:0<m:=by rw[hm];exact qI (by decide)
 obtain⟨h1,h2,h3,h4⟩:=h;have hd:0<x/m:=by
  have:=Int.ediv_le_ediv hm0 hx;rw[Int.ediv_self (by omega)]at this;omega
 obtain⟨h5,h6⟩:=h4 hd;have e:((k:Int)+r).toNat=k+r.toNat:=by omega
 have e':((k:Int)+r).toNat-1=k+(r.toNat-1):=by omega
 have hdiv:=zH x m;have hmod:=zI x hm0;have aBD:=zP x (show m≠0 by omega);refine⟨by omega,by omega, ?_,fun _=>⟨by omega, ?_⟩⟩
 ·rw[e,z8,<-hm]
  have:m*(x/m+1)<=m*2^r.toNat:=zR (by omega) (by omega);rw[Int.mul_add,Int.mul_one]at this;omega
 ·rw[e',z8,<-hm]
  have:m*2^(r.toNat-1)<=m*(x/m):=zR h6 (by omega);omega
theorem akO(T:ByteArray)(hl:ylen T=256)(ht:∀x:Int,0<=x->x<256->q8 x (ychr T x)):
(∀x0:Int,
((Rng .u32 x0)->
((VD x0)->
(((x0>=65536)->
((0:Int)<=16)/\
(Rng .u32 (shr .u32 x0 16))/\
((((shr .u32 x0 16)>=256)->
((0:Int)<=8)/\
(Rng .u32 (shr .u32 (shr .u32 x0 16) 8))/\
(iA (16+8))/\
((0:Int)<=(IntKind.wrap .u8 (shr .u32 (shr .u32 x0 16) 8)))/\
((IntKind.wrap .u8 (shr .u32 (shr .u32 x0 16) 8))<(ylen T))/\
(iA ((16+8)+(ychr T (IntKind.wrap .u8 (shr .u32 (shr .u32 x0 16) 8)))))/\
(xE x0 ((16+8)+(ychr T (IntKind.wrap .u8 (shr .u32 (shr .u32 x0 16) 8)))))/\ True)/\
(¬((shr .u32 x0 16)>=256)->
((0:Int)<=(IntKind.wrap .u8 (shr .u32 x0 16)))/\
((IntKind.wrap .u8 (shr .u32 x0 16))<(ylen T))/\
(iA (16+(ychr T (IntKind.wrap .u8 (shr .u32 x0 16)))))/\
(xE x0 (16+(ychr T (IntKind.wrap .u8 (shr .u32 x0 16)))))/\ True)))/\
(¬(x0>=65536)->
(((x0>=256)->
((0:Int)<=8)/\
(Rng .u32 (shr .u32 x0 8))/\
(iA (0+8))/\
((0:Int)<=(IntKind.wrap .u8 (shr .u32 x0 8)))/\
((IntKind.wrap .u8 (shr .u32 x0 8))<(ylen T))/\
(iA ((0+8)+(ychr T (IntKind.wrap .u8 (shr .u32 x0 8)))))/\
(xE x0 ((0+8)+(ychr T (IntKind.wrap .u8 (shr .u32 x0 8)))))/\ True)/\
(¬(x0>=256)->
((0:Int)<=(IntKind.wrap .u8 x0))/\
((IntKind.wrap .u8 x0)<(ylen T))/\
(iA (0+(ychr T (IntKind.wrap .u8 x0))))/\
(xE x0 (0+(ychr T (IntKind.wrap .u8 x0))))/\ True))))))):=by
 intro x0 r0 _;rw[rZ]at r0;have w8:∀x:Int,0<=x->x<256->IntKind.wrap .u8 x=x:=fun x h h'=>by rw[wu8];omega
 rw[akp,axU,axU];refine⟨fun h=>⟨by decide,rZ.2 (by omega),fun g=> ?_,fun g=> ?_⟩,fun h=>⟨fun g=> ?_,fun g=> ?_⟩⟩
 ·have e:x0/65536/256=x0/16777216:=by omega
  rw[e,w8 _ (by omega) (by omega)];have q:=ht (x0/16777216) (by omega) (by omega);obtain⟨a,b,c,d⟩:=akN (k:=24) (by decide) q (by omega);refine⟨by decide,rZ.2 (by omega),by rw[au];omega,by omega,by omega,by rw[au];omega,⟨by omega,by omega, ?_, ?_⟩,trivial⟩
  ·exact c
  ·exact d
 ·rw[w8 _ (by omega) (by omega)]
  have q:=ht (x0/65536) (by omega) (by omega);obtain⟨a,b,c,d⟩:=akN (k:=16) (by decide) q (by omega);exact⟨by omega,by omega,by rw[au];omega,⟨by omega,by omega,c,d⟩,trivial⟩
 ·rw[w8 _ (by omega) (by omega)]
  have q:=ht (x0/256) (by omega) (by omega);obtain⟨a,b,c,d⟩:=akN (k:=8) (by decide) q (by omega);exact⟨by decide,rZ.2 (by omega),by rw[au];omega,by omega,by omega,by rw[au];omega,⟨by omega,by omega,c,d⟩,trivial⟩
 ·rw[w8 _ (by omega) (by omega)]
  have q:=ht x0 (by omega) (by omega);obtain⟨a,b,c,d⟩:=q;refine⟨by omega,by omega,by rw[au];omega,⟨by omega,by omega, ?_, ?_⟩,trivial⟩
  ·rw[Int.zero_add];exact c
  ·rw[Int.zero_add];exact d
theorem aoO:ahI:=akO Io avz (fun _ h h'=>ayx h h')
theorem atw:anm:=by
 intro x0 r0 _;rw[rZ]at r0;refine⟨trivial,fun r hr⟨h0,h1,h2,h3⟩=>⟨by rw[au];omega,⟨by omega,by omega,fun hx=> ?_⟩,trivial⟩⟩
 obtain⟨h4,h5⟩:=h3 hx;obtain⟨k,rfl⟩:=Int.eq_ofNat_of_zero_le h0;have e:(32-(k:Int)).toNat=32-k:=by omega
 have hk:k=(k-1)+1:=by omega
 rw[Int.toNat_natCast]at h2 h5;have hp:(0:Int)<2^(32-k):=qI (by decide);have e1:(2:Int)^k*2^(32-k)=4294967296:=by rw[<-z8,show k+(32-k)=32 from by omega];rfl
 have e2:(2:Int)^(k-1)*2^(32-k)=2147483648:=by rw[<-z8,show k-1+(32-k)=31 from by omega];rfl
 refine⟨by omega, ?_, ?_⟩
 ·rw[e]
  have:=zA h5 (qY hp);omega
 ·rw[e]
  have:=q4 h2 hp;omega
theorem aoP:ahJ:=by
 intro x0 r0 x1 r1 x2 r2 hp;rw[rZ]at r0 r1 r2;have hp:x0<x2:=hp;refine⟨fun _=>⟨fun h=>absurd h (by omega),fun _=> ?_⟩,fun h=>absurd (show x2≠0 by omega) h⟩
 rw[two32 r0.1 (by omega) r1.1 (by omega)];obtain⟨n,hn⟩:∃n,n=x0*4294967296+x1:=⟨_,rfl⟩;rw[<-hn];have hn0:0<=n:=by omega
 rw[qJ hn0,qK hn0];have h1:=zH n x2;have h2:=zI n (show 0<x2 by omega);have h3:=zP n (show x2≠0 by omega);have hq:n/x2<4294967296:=by
  refine q6 (by omega) ?_
  have:(x0+1)*4294967296<=x2*4294967296:=zA (by omega) (by decide);rw[zB 4294967296 x2];omega
 have hq0:0<=n/x2:=qD hn0 (by omega);refine⟨by decide,by omega,by omega,dX.2 (by omega),⟨?_, ?_⟩,trivial⟩
 ·rw[bI hq0 (by omega),nI hq0 hq,nI h3 (by omega),<-hn,h1]
 ·rw[nI h3 (by omega)]
  exact h2
theorem ajm:ach:=by
 intro s r hp b;have h0:=len0 s;have hl:(Sl.lit []).len=0:=rfl;unfold Hg aB at hp;exact⟨fun _ h=>⟨acO h,trivial⟩,fun _=>⟨by omega,Us hl,trivial⟩⟩
theorem LW{B:Int}{s:Sl}(h:0<s.len):val B s=bJ B s (s.len-1)+s.int (s.len-1) 0*B^(s.len-1).toNat:=by
 have:=dK B s (i:=s.len-1) (by omega);rw[fD,<-this]
 congr 1
 omega
theorem atz:ano:=by
 intro s0 r0 _;refine⟨fun s=>s.len<=s0.len/\vw s=vw s0,fun s=>s.n,⟨qE _,rfl⟩,fun s rs hj hsm=> ?_⟩
 obtain⟨hl,hv⟩:=hj;have h0:=len0 s;have hm:=iW hsm;refine⟨fun hlt _=>⟨aJ _ (by omega),by omega,by omega,fun _=>⟨fun hz _=>⟨aJ _ (by omega),by decide,by omega,by omega,⟨?_, ?_⟩, ?_⟩,fun hnz=>⟨⟨fun _=>hnz,hl,hv⟩,trivial⟩⟩⟩,fun hge=>⟨⟨fun h=>absurd h (by omega),hl,hv⟩,trivial⟩⟩
 ·rw[nK (by omega)];omega
 ·unfold vw at hv⊢
  rw[yR (by omega),<-hv,LW (by omega),hz,qN,z7]
 ·show(s.len-1-0).toNat<s.n
  unfold zE at*;omega
theorem atA:anp:=by
 intro s r0 hp hsm;have h0:=len0 s;unfold uw aB at hp;have e2:qS (s.len+1) 2=(s.len+1)/2:=qJ (by omega);rw[e2];have hd:=aj r0;refine⟨aJ _ (by omega),by decide,aJ _ (by omega),by omega,by omega,by omega,fun _=> ?_⟩
 refine⟨fun i w=>0<=i/\i<=s.len/\w.len=(s.len+1)/2/\vw w=bJ 65536 s i/\(∀j:Int,0<=j->i<=2*j->w.int j 0=0)/\(∀j:Int,2*j+1=i->w.int j 0=s.int (i-1) 0),fun i _=>(s.len-i).toNat,
  ⟨qE _,h0,rD (by omega) _,by unfold vw;rw[abE,kZ],fun _ _ _=>O7 _ _,fun j hj=>absurd hj (by omega)⟩,fun i _ w uU hj=> ?_⟩
 obtain⟨hi0,hi1,hwl,hv,hz,ho⟩:=hj;refine⟨fun hlt=>⟨hi0,hlt,fun hr=> ?_⟩,fun hge=> ?_⟩
 ·rw [O1]at hr
  have ed:qS i 2=i/2:=qJ hi0;have em:Int.tmod i 2=i % 2:=qK hi0;rw[ed,em];obtain⟨y,hy⟩:∃y,y=IntKind.wrap .u32 (bor .u32 (w.int (i/2) 0) (IntKind.wrap .u32 (shl .u32 (s.int i 0) (16*(i % 2))))):=⟨_,rfl⟩;rw[<-hy];have key:(y-w.int (i/2) 0)*4294967296^(i/2).toNat=s.int i 0*65536^i.toNat/\(i % 2=0->y=s.int i 0):=by
   have hx:=hd.at hi0 hlt;rcases(show i % 2=0\/i % 2=1 by omega)with h|h
   ·have e0:shl .u32 (s.int i 0) (16*(i % 2))=s.int i 0:=by
     rw[h];have:=O4 .u32 (s.int i 0) (n:=0) (by decide);simpa using this
    have ez:w.int (i/2) 0=0:=hz _ (by omega) (by omega);rw[e0,ez,nI hx.1 (by omega),arP hx.1 (by show _<(4294967296:Int);omega),nI hx.1 (by omega)]at hy;have ei:i.toNat=2*(i/2).toNat:=by omega
    rw[ez,hy,Int.sub_zero,ei,Jz];exact⟨rfl,fun _=>rfl⟩
   ·have e0:shl .u32 (s.int i 0) (16*(i % 2))=s.int i 0*65536:=by
     rw[h];exact O4 .u32 (s.int i 0) (n:=16) (by decide)
    have ez:w.int (i/2) 0=s.int (i-1) 0:=ho _ (by omega);have hx':=hd.at (i:=i-1) (by omega) (by omega);have hb:=JW (k:= .u32) (a:=s.int i 0) (b:=s.int (i-1) 0) (i:=16) hx.1 hx'.1 (by show _<(65536:Int);omega) (by show s.int i 0*65536+s.int (i-1) 0<(4294967296:Int);omega);have hb:bor .u32 (s.int i 0*65536) (s.int (i-1) 0)=s.int i 0*65536+s.int (i-1) 0:=hb;rw[e0,ez,nI (x:=s.int i 0*65536) (by omega) (by omega),afx,hb,nI (by omega) (by omega)]at hy;have ei:i.toNat=2*(i/2).toNat+1:=by omega
    rw[ez,hy,ei,zC,Jz];refine⟨?_,fun h'=>absurd h' (by omega)⟩
    have:s.int i 0*65536+s.int (i-1) 0-s.int (i-1) 0=s.int i 0*65536:=by omega
    rw[this,zB (4294967296^_) 65536,Int.mul_assoc]
  refine⟨by decide,aJ _ (by omega),by decide,aJ _ (by omega),aJ _ (by omega),by omega,by omega,by omega,fun _=>⟨by omega,by omega,aJ _ (by omega),⟨by omega,by omega,hwl, ?_,fun j hj0 hj=> ?_,fun j hj=> ?_⟩, ?_⟩⟩
  ·unfold vw at hv⊢
   rw[zY (by omega) (by omega),hv,key.1,dK _ _ hi0]
  ·rw[dY (by omega) hj0,if_neg (by omega)]
   exact hz j hj0 (by omega)
  ·rw[dY (by omega) (by omega),if_pos (by omega),key.2 (by omega)]
   congr 1
   omega
  ·show(s.len-(i+1)).toNat<(s.len-i).toNat
   omega
 ·have e:i=s.len:=by omega
  subst e;refine⟨⟨by unfold vl;rw[hv,fD],fun hn=> ?_,by omega⟩,trivial⟩
  refine Qj (B:=4294967296) (by decide) (aH uU) fun hp=> ?_
  have h1:=O8 (B:=65536) (by decide) hd hn (by omega);unfold vw at hv;rw[hv,<-fD,<-Jz];refine Int.le_trans (fA (by decide) ?_) h1
  unfold zE at*;omega
theorem alL:aeG:=by
 intro b0 s1 r1 hp;refine⟨trivial,fun w uU hq hsm=> ?_⟩
 obtain⟨hn,hl,hv⟩:=hq;unfold nD aB at hp;have h0:=len0 w;have hd:=aH uU;refine⟨fun hz=>⟨⟨JX, ?_,by simp[len_nil]⟩,trivial⟩,fun hnz _=>⟨aJ _ (by omega),by omega,by omega,by omega,fun _=> ?_⟩⟩
 ·have:=(bK (B:=4294967296) (by decide) hd hn).2 hz
  unfold vl vw at*;rw[avu,<-hv,this]
 refine⟨fun i l=>0<=i/\i<=w.len/\l.len=2*w.len/\bJ 65536 l (2*i)=bJ 4294967296 w i,fun i _=>(w.len-i).toNat,⟨qE _,h0,rD (by omega) _,rfl⟩,fun i _ l rl hj=> ?_⟩
 obtain⟨hi0,hi1,hll,hvv⟩:=hj;refine⟨fun hlt=>⟨hi0,hlt,fun hr=>⟨aJ _ (by omega),by omega,by omega,aJ _ (by omega),aJ _ (by omega),by decide, ?_,by omega,by rw[dO];omega,aJ _ (by omega),⟨by omega,by omega,by rw[dO,dO];exact hll, ?_⟩, ?_⟩⟩,fun hge hsl=> ?_⟩
 ·rw[rZ]at hr
  rw[akp];exact rZ.2 (by omega)
 ·rw[rZ]at hr
  have e:2*(i+1)=(2*i+1)+1:=by omega
  rw[e,qC (by omega),qC (by omega),hvv,dK _ _ hi0,akp,afw,afw];have e1:(2*i).toNat=2*i.toNat:=by omega
  have e2:(2*i+1).toNat=2*i.toNat+1:=by omega
  rw[e1,e2,zC,Jz];have e3:w.int i 0/65536 % 65536=w.int i 0/65536:=by omega
  rw[e3];generalize(4294967296:Int)^i.toNat=Q;have e4:w.int i 0=w.int i 0 % 65536+w.int i 0/65536*65536:=by omega
  generalize w.int i 0 % 65536=m at*;generalize w.int i 0/65536=d at*;rw[e4]
  grind
 ·show(w.len-(i+1)).toNat<(w.len-i).toNat
  omega
 ·have e:i=w.len:=by omega
  subst e;have hlv:vl l=vw w:=by
   unfold vl vw;rw[fD,hll,hvv,<-fD]
  have hdl:=aj rl;have hge:=O8 (B:=4294967296) (by decide) hd hn (by omega);have hm:=iW hsl;refine⟨aJ _ (by omega),by omega,by omega,fun _=>⟨fun hz _=>⟨aJ _ (by omega),by decide,by omega,by omega,⟨?_, ?_, ?_⟩,trivial⟩,fun aAe=>⟨⟨fun _=>aAe,hlv.trans hv, ?_⟩,trivial⟩⟩⟩
  ·refine Qj (B:=65536) (by decide) (acN hdl (by omega) (by omega)) fun _=> ?_
   have e:=LW (B:=65536) (s:=l) (by omega);rw[hz,qN,z7]at e;rw[yR (by omega),<-e];have aAf:val 65536 l=val 4294967296 w:=hlv;rw[aAf];refine Int.le_trans ?_ hge
   rw[<-Jz];refine fA (by decide) ?_
   show(l.len-1-0).toNat-1<=2*(w.n-1);unfold zE at*;omega
  ·have e:=LW (B:=65536) (s:=l) (by omega)
   rw[hz,qN,z7]at e;unfold vl at hlv⊢;rw[yR (by omega),<-e,hlv,hv]
  ·rw[nK (by omega)]
   simp only[decide_eq_true_eq];exact⟨fun h=>⟨h,by omega⟩,fun h=>h.1⟩
  ·simp only[decide_eq_true_eq]
   exact⟨fun h=>⟨h,by omega⟩,fun h=>h.1⟩
theorem atB:anq:=by
 intro s r0 hp hsm;have hp:s.len<=2:=hp;have h0:=len0 s;have hd:=aH r0;refine⟨aJ _ (by omega),fun i acc=>-1<=i/\i<s.len/\acc=jC 4294967296 s (i+1),fun i _=>(i+1).toNat,⟨by omega,by omega, ?_⟩,fun i _ acc _ hj=> ?_⟩
 ·rw[Gl _ _ (by omega)]
 ·obtain⟨h1,h2,h3⟩:=hj
  refine⟨fun hge=>⟨hge,h2,fun _=>⟨by decide,aJ _ (by omega),⟨by omega,by omega, ?_⟩, ?_⟩⟩,fun hlt=>⟨?_,trivial⟩⟩
  ·have hb:=hd.Dh (B:=4294967296) (by decide) (i:=i+1) (by omega)
   have hx:=hd.at hge h2;have:(4294967296:Int)^(s.n-(i+1).toNat)<=4294967296^1:=fA (by decide) (by unfold zE at*;omega);rw[two32 (by omega) (by omega) hx.1 hx.2,h3,show i-1+1=i from by omega,o7 _ _ hge h2]
   omega
  ·show(i-1+1).toNat<(i+1).toNat
   omega
  ·have e:i=-1:=by omega
   subst e;show acc=vw s;rw[h3];exact oZ _ _
theorem asg(B a b:Int):val B (Sl.lit [[.int a],[.int b]])=a+b*B:=by
 show 0+a*B^0+b*B^1=a+b*B;rw[qL,Int.pow_one];omega
theorem Dp(B a:Int):val B (Sl.lit [[.int a]])=a:=by
 show 0+a*B^0=a;rw[qL];omega
theorem aoS:ahK:=by
 intro x r0 _;rw[dX]at r0;rw[Jy,xR,nI (x:=x/4294967296) (by omega) (by omega)];refine⟨by decide,dX.2 (by omega),trivial,fun s _ hq=>⟨⟨?_,hq.1⟩,trivial⟩⟩
 rw[hq.2.2];unfold vw;rw[asg];omega
theorem ajn:aci:=by
 intro a ra b rb hp hsa hsb;obtain⟨na,nb⟩:=hp;have da:=aH ra;have db:=aH rb;have ha0:=len0 a;have hm:=iW hsa;refine⟨fun hne _ _=>⟨fun hlt=>⟨.inl ⟨rfl, ?_⟩,trivial⟩,fun hge=>⟨.inr (.inr ⟨rfl, ?_⟩),trivial⟩⟩,fun heq _=>⟨aJ _ (by omega), ?_⟩⟩
 ·exact Nm.lt (by decide) da db (yQ.1 nb) (by unfold zE at hlt;omega)
 ·exact Nm.lt (by decide) db da (yQ.1 na) (by unfold zE at*;omega)
 have heq:a.len=b.len:=q5.1 heq;refine⟨fun i=>-1<=i/\i<a.len/\∀k:Int,i<k->k<a.len->a.int k 0=b.int k 0,fun i=>(i+1).toNat,⟨by omega,by omega,fun k h1 h2=>absurd h1 (by omega)⟩,fun i _ hj=> ?_⟩
 obtain⟨h1,h2,h3⟩:=hj;have lt:∀x y:Sl,bC 4294967296 x->bC 4294967296 y->0<=i->i<x.len->x.len=y.len->(∀k:Int,i<k->k<x.len->x.int k 0=y.int k 0)->x.int i 0<y.int i 0->vw x<vw y:=fun x y dx dy hi hx hxy hk hl=>by
  have e:x.n=y.n:=by unfold zE at hxy;omega
  unfold vw val;rw[<-e];refine aip (by decide) (i:=i.toNat) dx (by rw[e];exact dy) (by unfold zE at hx;omega) (fun k hk1 hk2=>hk k (by omega) (by unfold zE;omega)) ?_
  rw[uH hi,uH hi];exact hl
 refine⟨fun hge=>⟨hge,h2,fun _=>⟨hge,by omega,fun _=>⟨fun hne=>⟨hge,h2,fun _=>⟨hge,by omega,fun _=>⟨fun hlt=>⟨.inl ⟨rfl, ?_⟩,trivial⟩,fun hgt=>⟨.inr (.inr ⟨rfl, ?_⟩),trivial⟩⟩⟩⟩,fun heq'=>⟨aJ _ (by omega),⟨by omega,by omega,fun k k1 k2=> ?_⟩, ?_⟩⟩⟩⟩,fun hlt=>⟨.inr (.inl ⟨rfl, ?_⟩),trivial⟩⟩
 ·exact lt a b da db hge h2 heq h3 hlt
 ·exact lt b a db da hge (by omega) heq.symm (fun k k1 k2=>(h3 k k1 (by omega)).symm) (by omega)
 ·by_cases e:k=i
  ·rw[e];exact q5.1 heq'
  ·exact h3 k (by omega) k2
 ·show(i-1+1).toNat<(i+1).toNat
  omega
 ·exact dL.val ⟨heq,fun k k0 k1=>h3 k (by omega) k1⟩ _
theorem aaC:Sv:=by
 intro s r0 d rd hp hsm;obtain⟨hl,hd0⟩:=hp;unfold aB at hl;have h0:=len0 s;have hs:=aH r0;refine⟨h0,by omega,by omega,fun _=>⟨aJ _ (by omega), ?_⟩⟩
 refine⟨fun r i q=>-1<=i/\i<s.len/\q.len=s.len/\r<d/\0<=r/\jC 4294967296 s (i+1)=d*jC 4294967296 q (i+1)+r,fun _ i _=>(i+1).toNat,⟨by omega,by omega,rD h0 _,hd0,by omega, ?_⟩,fun r rr i _ q rq hj=> ?_⟩
 ·rw[VR,Gl _ _ (by omega)]
  omega
 obtain⟨h1,h2,hql,hrd,hr0,hv⟩:=hj;refine⟨fun hge=>⟨hge,h2,fun _=>⟨hrd,fun x6 r6 x7 r7 hq=>⟨hge,by omega,aJ _ (by omega),⟨by omega,by omega,by rw[dO];exact hql,hq.2,(rZ.1 r7).1, ?_⟩, ?_⟩⟩⟩,fun hlt=>⟨trivial,fun t _ hq=>⟨⟨?_,hrd,hq.1⟩,trivial⟩⟩⟩
 ·rw[show i-1+1=i from by omega,o7 _ _ hge h2,o7 _ _ hge (by rw[dO];omega),VQ hge (by omega),dY hge hge,if_pos rfl,hv]
  have:=hq.1
  grind
 ·show(i-1+1).toNat<(i+1).toNat
  omega
 ·have e:i=-1:=by omega
  subst e;have e1:jC 4294967296 s (-1+1)=vw s:=oZ _ _;have e2:jC 4294967296 q (-1+1)=vw q:=oZ _ _;rw[e1,e2]at hv;rw[hq.2.2,hv]
theorem aiv(k:IntKind)(x:Int){n:Int}(h:n.toNat<=k.bits):shl k x n=x*2^n.toNat:=by
 unfold shl;rw[Nat.min_eq_left h]
theorem shr_var(k:IntKind)(x:Int){n:Int}(h:n.toNat<=k.bits):shr k x n=x/2^n.toNat:=by
 unfold shr;rw[Nat.min_eq_left h,Int.fdiv_eq_ediv_of_nonneg _ (qY (qI (by decide)))]
theorem VW{n:Int}(h0:0<=n)(h1:n<=31):∃p q:Int,(2:Int)^n.toNat=p/\1<=p/\p<=2147483648/\q=2^(32-n.toNat)/\1<=q/\q*p=4294967296:=by
 have e:(2:Int)^(32-n.toNat)*2^n.toNat=4294967296:=by
  rw[<-z8,show 32-n.toNat+n.toNat=32 from by omega];rfl
 have hp:(0:Int)<2^n.toNat:=qI (by decide);have hq:(0:Int)<2^(32-n.toNat):=qI (by decide);refine⟨_,_,rfl,by omega, ?_,rfl,by omega,e⟩
 have:=fA (B:=2) (by decide) (show n.toNat<=31 by omega);exact this
theorem ajo:acj:=by
 intro s r0 n rn hp hsm;obtain⟨hl,hn0,hn1⟩:=hp;unfold aB at hl;have h0:=len0 s;have hs:=aH r0;obtain⟨p,q,hpe,hp1,hp2,hqe,hq1,zL⟩:=VW hn0 hn1;refine⟨aJ _ (by omega),by omega,by omega,by omega,fun _=> ?_⟩
 refine⟨fun i w=>0<=i/\i<=s.len/\w.len=s.len+1/\bJ 4294967296 w (i+1)=bJ 4294967296 s i*p/\0<=w.int i 0/\w.int i 0<p,fun i _=>(s.len-i).toNat,⟨by omega,h0,rD (by omega) _, ?_,by rw[O7];omega,by rw[O7];omega⟩,fun i _ w uU hj=> ?_⟩
 ·rw[avt,kZ];omega
 obtain⟨hi0,hi1,hwl,hv,hw0,hw1⟩:=hj;refine⟨fun hlt=> ?_,fun hge=>⟨⟨hwl, ?_⟩,trivial⟩⟩
 ·have hx:=hs.at hi0 hlt
  have e1:shl .u64 (s.int i 0) n=s.int i 0*p:=by rw[aiv _ _ (by show n.toNat<=64;omega),hpe]
  obtain⟨x,hxe⟩:∃x,x=s.int i 0:=⟨_,rfl⟩;rw[<-hxe]at hx e1;have hxp:x*p<=4294967295*p:=zA (by omega) (by omega);have aAg:0<=x*p:=zD (by omega) (by omega);rw[<-hxe,e1,bI aAg (by omega),Jy,nI (x:=x*p/4294967296) (by omega) (by omega),xR (x*p)];obtain⟨lo,hlo⟩:∃lo,lo=x*p % 4294967296:=⟨_,rfl⟩;obtain⟨hi,hhi⟩:∃hi,hi=x*p/4294967296:=⟨_,rfl⟩;rw[<-hlo,<-hhi];have hsum:x*p=lo+hi*4294967296:=by omega
  have hlo0:0<=lo/\lo<4294967296:=by omega
  have aCg:hi<p:=by
   refine qG.1 fun hle=> ?_
   have:p*4294967296<=hi*4294967296:=zA hle (by omega);omega
  have hb:IntKind.wrap .u32 (bor .u32 (w.int i 0) lo)=w.int i 0+lo:=by
   obtain⟨m,hm⟩:∃m,m=x % q:=⟨_,rfl⟩;have hm0:0<=m:=by rw[hm];exact zP _ (by omega)
   have hmq:m<q:=by rw[hm];exact zI _ (by omega)
   have hmp:lo=m*p:=by
    have e:=zH x q;rw[<-hm]at e;have e3:x*p=4294967296*(x/q)+m*p:=by
     rw[<-e,zF,<-zL];have:q*(q*(x/q)+m)/q=q*(x/q)+m:=Int.mul_ediv_cancel_left _ (by omega)
     grind
    have ash:(m+1)*p<=q*p:=zA (by omega) (by omega);have aCh:0<=m*p:=zD hm0 (by omega);rw[zF,qM,zL]at ash;rw[hlo,e3];omega
   have ash:(m+1)*p<=q*p:=zA (by omega) (by omega);rw[zF,qM,zL]at ash;have:=JW (k:= .u32) (a:=m) (b:=w.int i 0) (i:=n.toNat) hm0 hw0 (by rw[hpe];exact hw1) (by rw[hpe];show _<(4294967296:Int);omega);rw[hpe,<-hmp]at this;rw[afx,this,nI (by omega) (by omega)];omega
  rw[hb];refine⟨hi0,hlt,fun _=>⟨hn0,hi0,by omega,fun _=>⟨hi0,by omega,aJ _ (by omega),by decide,dX.2 (by omega),by omega,by rw[dO];omega,aJ _ (by omega),⟨by omega,by omega,by rw[dO,dO];exact hwl, ?_, ?_, ?_⟩, ?_⟩⟩⟩
  ·rw[qC (by omega),qC hi0,dK _ _ hi0,<-hxe]
   have e:=dK 4294967296 w hi0;rw[hv]at e;rw[show(i+1).toNat=i.toNat+1 from by omega,zC]
   generalize(4294967296:Int)^i.toNat=Q at*;have e4:(bJ 4294967296 s i+x*Q)*p=bJ 4294967296 s i*p+x*p*Q:=by grind
   rw[e4,e,hsum]
   grind
  ·rw[dY (by omega) (by omega),if_pos rfl];omega
  ·rw[dY (by omega) (by omega),if_pos rfl];omega
  ·show(s.len-(i+1)).toNat<(s.len-i).toNat
   omega
 ·have e:i=s.len:=by omega
  subst e;unfold vw;rw[hpe,fD,hwl,hv,<-fD]
theorem anU(B:Int)(s:Sl){j i:Int}(hj:0<=j)(hi:0<=i):bJ B s (j+i)=bJ B s j+B^j.toNat*fF B (fun k=>dg s (j.toNat+k)) i.toNat:=by
 unfold bJ;rw[show(j+i).toNat=j.toNat+i.toNat from by omega,vX]
theorem Ea(B:Int)(s:Sl){i:Int}(hi:0<=i)(hl:i<=s.len):val B s=bJ B s i+B^i.toNat*jC B s i:=by
 unfold val bJ jC;have e:s.n=i.toNat+(s.n-i.toNat):=by unfold zE at hl;omega
 have:=vX B (dg s) i.toNat (s.n-i.toNat);rw[<-e]at this;exact this
theorem ayy{B:Int}(hB:0<B){s:Sl}(hs:bC B s){i:Int}(hi:0<=i)(hl:i<=s.len):bJ B s i<=val B s:=by
 rw[Ea B s hi hl];have h1:=fC hB i.toNat;have h2:=(hs.Dh hB hl).1;have:=zD (qY h1) h2;omega
theorem asi{B:Int}(hB:0<B){s:Sl}(hs:bC B s){k:Int}(h0:0<=k)(h1:k<s.len):s.int k 0*B^k.toNat<=val B s:=by
 have:=ayy hB hs (i:=k+1) (by omega) (by omega);rw[dK B s h0]at this;have:=(hs.o8 hB (i:=k) (by omega)).1;omega
theorem aad{B:Int}(hB:0<B){s:Sl}(hs:bC B s){i k:Int}(hv:val B s<B^i.toNat)(hi:0<=i)(hk:i<=k)(hl:k<s.len):s.int k 0=0:=by
 have h1:=asi hB hs (by omega) hl;have h2:=fA hB (show i.toNat<=k.toNat by omega);have h3:=(hs.at (by omega) hl).1;refine Int.le_antisymm (qH.1 fun hlt=> ?_) h3
 have:1*B^k.toNat<=s.int k 0*B^k.toNat:=zA (by omega) (by have:=fC hB k.toNat;omega);omega
theorem Va{B:Int}(hB:0<B){s:Sl}(hs:bC B s){i:Int}(hv:val B s<B^i.toNat)(hi:0<=i)(hl:i<=s.len):val B s=bJ B s i:=by
 rw[Ea B s hi hl]at hv⊢;have h1:=(hs.o8 hB hl).1;have h2:=(hs.Dh hB hl).1;have h3:=fC hB i.toNat;have:jC B s i=0:=by
  refine Int.le_antisymm (qH.1 fun hlt=> ?_) h2
  have:B^i.toNat*1<=B^i.toNat*jC B s i:=zR (by omega) (by omega);omega
 rw[this];omega
theorem anV{digit vi carry ui borrow:Int}(hd:0<=digit/\digit<4294967296)(hv:0<=vi/\vi<4294967296)(hc:0<=carry/\carry<4294967296)(hu:0<=ui/\ui<4294967296)(hb:borrow=0\/borrow=1):
  ∃carry' y bo:Int,shr .u64 (IntKind.wrap .u64 (IntKind.wrap .u64 (digit*vi)+carry)) 32=carry'/\
   IntKind.wrap .u32 (IntKind.wrap .u64 (IntKind.wrap .u64 (ui-IntKind.wrap .u32 (IntKind.wrap .u64 (IntKind.wrap .u64 (digit*vi)+carry)))-borrow))=y/\
   shr .u64 (IntKind.wrap .u64 (IntKind.wrap .u64 (ui-IntKind.wrap .u32 (IntKind.wrap .u64 (IntKind.wrap .u64 (digit*vi)+carry)))-borrow)) 63=bo/\
   (0<=carry'/\carry'<4294967296)/\(bo=0\/bo=1)/\y-ui=carry'*4294967296+bo*4294967296-digit*vi-carry-borrow:=by
 have h1:digit*vi<=4294967295*4294967295:=z9 (by omega) (by omega) hv.1 (by omega);have h0:0<=digit*vi:=zD hd.1 hv.1;generalize digit*vi=m at*;rw[Jy,as6,bI (x:=m) h0 (by omega),bI (x:=m+carry) (by omega) (by omega),xR,xR,wu64,wu64];refine⟨_,_,_,rfl,rfl,rfl,by omega, ?_, ?_⟩
 ·rcases hb with rfl|rfl<;>omega
 ·rcases hb with rfl|rfl<;>omega
theorem akP{carry ui borrow:Int}(hc:0<=carry/\carry<4294967296)(hu:0<=ui/\ui<4294967296)(hb:borrow=0\/borrow=1):
  ∃y neg:Int,IntKind.wrap .u32 (IntKind.wrap .u64 (IntKind.wrap .u64 (ui-carry)-borrow))=y/\shr .u64 (IntKind.wrap .u64 (IntKind.wrap .u64 (ui-carry)-borrow)) 63=neg/\
   (neg=0\/neg=1)/\y-ui=neg*4294967296-carry-borrow:=by
 rw[as6,xR,wu64,wu64];refine⟨_,_,rfl,rfl, ?_, ?_⟩
 ·rcases hb with rfl|rfl<;>omega
 ·rcases hb with rfl|rfl<;>omega
theorem acS{B:Int}{s:Sl}{i:Int}(h0:0<=i)(h:∀k:Int,i<=k->k<s.len->s.int k 0=0):jC B s i=0:=
 DT fun k hk=>h ((i.toNat+k:Nat):Int) (by omega) (by unfold zE;omega)
theorem NH{P x y:Int}(hP:0<P)(h:P*x<=P*y):x<=y:=Int.le_of_mul_le_mul_left h hP
theorem vO{P x y:Int}(hP:0<P)(h:P*x<P*y):x<y:=Int.lt_of_mul_lt_mul_left h (by omega)
theorem acT{P x y:Int}(hP:0<P)(h:P*x=P*y):x=y:=Int.eq_of_mul_eq_mul_left (by omega) h
theorem adD{p q u0 u1:Int}(hp:1<=p)(hq:1<=q)(zL:q*p=4294967296)(h0:0<=u0/\u0<4294967296)(h1:0<=u1/\u1<4294967296):
  0<=(u1*4294967296+u0)/p/\(u1*4294967296+u0)/p<18446744073709551616/\p*(((u1*4294967296+u0)/p) % 4294967296)=u1 % p*4294967296+u0-u0 % p:=by
 have e0:=zH u0 p;have e1:=zH u1 p;have c0:=zP u0 (show p≠0 by omega);have c0':=zI u0 (show 0<p by omega);have c1:=zP u1 (show p≠0 by omega);have c1':=zI u1 (show 0<p by omega);have g0:0<=u0/p:=qD h0.1 (by omega);have g1:0<=u1/p:=qD h1.1 (by omega);generalize u0/p=a0 at*;generalize u1/p=a1 at*;generalize u0 % p=m0 at*;generalize u1 % p=m1 at*;have hdiv:(u1*4294967296+u0)/p=u1*q+a0:=by
  have:u1*4294967296+u0=m0+p*(u1*q+a0):=by rw[<-zL,<-e0];grind
  rw[this,q7 _ _ (by omega),q9 c0 c0'];omega
 have ha0:a0<q:=by
  refine qG.1 fun hle=> ?_
  have:p*q<=p*a0:=zR hle (by omega);rw[zB p q,zL]at this;omega
 have hm1:(m1+1)*q<=p*q:=zA (by omega) (by omega);rw[zF,qM,zB p q,zL]at hm1;have aCi:0<=m1*q:=zD c1 (by omega);have hu1:u1*q<=4294967295*4294967296:=z9 (by omega) (by
  have:q*1<=q*p:=zR hp (by omega);omega) (by omega) (by omega)
 have aCj:0<=u1*q:=zD h1.1 (by omega);have hq':q<=4294967296:=by
  have:q*1<=q*p:=zR hp (by omega);omega
 have e2:u1*q=m1*q+a1*4294967296:=by rw[<-e1,<-zL];grind
 rw[hdiv];refine⟨by omega,by omega, ?_⟩
 have e3:(u1*q+a0) % 4294967296=m1*q+a0:=by omega
 rw[e3];have e4:p*(m1*q+a0)=m1*(q*p)+p*a0:=by grind
 rw[e4,zL];omega
set_option maxHeartbeats 2000000 in
theorem alS:aeH:=by
 intro a ra b rb hp;obtain⟨hla,hlb,na,nb,hbp⟩:=hp;unfold aB at hla hlb;have ha0:=len0 a;have da:=aH ra;have db:=aH rb;have hbv:0<vw b:=(fQ (B:=4294967296) (by decide) db nb).2 hbp;refine⟨⟨na,nb⟩,fun c _ hc=>⟨fun hlt=>⟨hla,fun s _ hs=>⟨⟨?_, ?_,JX,hs.nrm na⟩,trivial⟩⟩,fun hge _=>⟨fun h1=>⟨by decide,by omega,fun hr=>⟨⟨hla, ?_⟩,fun q _ x _ hq=>⟨trivial,fun t _ ht=>⟨⟨?_, ?_,hq.2.2,ht.1⟩,trivial⟩⟩⟩⟩,fun hne1 _=> ?_⟩⟩⟩
 ·have:vw s=vw a:=hs.val _
  have e:vw Sl.nil=0:=rfl;rw[this,e];omega
 ·have:vw s=vw a:=hs.val _
  rw[this];rcases hc with hc|hc|hc<;>omega
 ·have:=nb hbp
  rw[h1]at this;rw[rZ]at hr;have e:b.int (1-1) 0=b.int 0 0:=rfl;rw[e]at this;omega
 ·have e:vw b=b.int 0 0:=by
   unfold vw;rw[fD,h1];have:=dK 4294967296 b (i:=0) (by omega);rw[kZ]at this;have e2:(0:Int)+1=1:=rfl;rw[e2]at this;rw[this];show 0+b.int 0 0*4294967296^0=b.int 0 0;rw[qL];omega
  rw[ht.2.2,e];unfold vw;rw[Dp];exact hq.1
 ·have e:vw b=b.int 0 0:=by
   unfold vw;rw[fD,h1];have:=dK 4294967296 b (i:=0) (by omega);rw[kZ]at this;have e2:(0:Int)+1=1:=rfl;rw[e2]at this;rw[this];show 0+b.int 0 0*4294967296^0=b.int 0 0;rw[qL];omega
  rw[ht.2.2,e];unfold vw;rw[Dp];exact hq.2.1
 have hn2:2<=b.len:=by omega
 have htb:=db.at (i:=b.len-1) (by omega) (by omega);have azq:0<b.int (b.len-1) 0:=by have:=nb hbp;omega
 have hab:b.len<=a.len:=by
  refine qH.1 fun hlt=> ?_
  have h:=Nm.lt (B:=4294967296) (by decide) da db (yQ.1 nb) (by unfold zE at hlt;omega);have h:vw a<vw b:=h;rcases hc with hc|hc|hc<;>omega
 refine⟨aJ _ (by omega),by omega,by omega,fun _=>⟨trivial,fun sh _ hsh=> ?_⟩⟩
 obtain⟨hs0,_,hs1⟩:=hsh;obtain⟨YD,hlo,hhi⟩:=hs1 azq;obtain⟨p,q2,hpe,hp1,hp2,hqe,hq1,zL⟩:=VW hs0 YD;refine⟨⟨hlb,hs0,YD⟩,fun s4 r4 h4=> ?_⟩
 obtain⟨h4l,h4v⟩:=h4;refine⟨by decide,by omega,by rw[h4l];omega,⟨hla,hs0,YD⟩,fun s5 r5 h5=> ?_⟩
 obtain⟨h5l,h5v⟩:=h5;rw[hpe]at hlo hhi h4v h5v;have d4:=aH r4;have hbl:=LW (B:=4294967296) hbp;have hbl:vw b=bJ 4294967296 b (b.len-1)+b.int (b.len-1) 0*4294967296^(b.len-1).toNat:=hbl;generalize hn:b.len=n at*;obtain⟨PP,hPP⟩:∃PP:Int,PP=4294967296^(n-2).toNat:=⟨_,rfl⟩;have ayz:0<PP:=by rw[hPP];exact fC (by decide) _
 have hPn:(4294967296:Int)^(n-1).toNat=PP*4294967296:=by rw[hPP,show(n-1).toNat=(n-2).toNat+1 from by omega,zC]
 have Vb:(4294967296:Int)^n.toNat=PP*4294967296*4294967296:=by rw[hPP,show n.toNat=(n-2).toNat+1+1 from by omega,zC,zC]
 have aBE:vw b=bJ 4294967296 b (n-1)+b.int (n-1) 0*(PP*4294967296):=by
  rw[<-hPn];exact hbl
 have aAh:=db.o8 (B:=4294967296) (by decide) (i:=n-1) (by omega);rw[hPn]at aAh;generalize ht:b.int (n-1) 0=t at*;have htq:(t+1)*p<=4294967296:=by
  have:t<q2:=vO (P:=p) (by omega) (by rw[zB p t,zB p q2,zL];exact hhi);rw[<-zL];exact zA (by omega) (by omega)
 obtain⟨V,hV⟩:∃V,V=vw b*p:=⟨_,rfl⟩;have aAi:V<4294967296^n.toNat:=by
  have h1:vw b<(t+1)*(PP*4294967296):=by rw[zF];omega
  have h2:vw b*p<(t+1)*(PP*4294967296)*p:=q4 h1 (by omega);have h3:(t+1)*p*(PP*4294967296)<=4294967296*(PP*4294967296):=zA htq (by omega);have e:(t+1)*(PP*4294967296)*p=(t+1)*p*(PP*4294967296):=by grind
  rw[hV,Vb];rw[e]at h2;have e2:4294967296*(PP*4294967296)=PP*4294967296*4294967296:=by grind
  omega
 have aAj:2147483648*(PP*4294967296)<=V:=by
  have h1:t*(PP*4294967296)*p<=vw b*p:=zA (by omega) (by omega);have h2:2147483648*(PP*4294967296)<=t*p*(PP*4294967296):=zA hlo (by omega);have e:t*(PP*4294967296)*p=t*p*(PP*4294967296):=by grind
  rw[hV];omega
 have hV0:0<V:=by omega
 rw[<-hV]at h4v;obtain⟨v,hv⟩:∃v,v=Sl.part s4 0 n:=⟨_,rfl⟩;have hvl:v.len=n:=by rw[hv,nK (by omega)];omega
 have dv:bC 4294967296 v:=by rw[hv];exact acN d4 (by omega) (by rw[h4l];omega)
 have hvv:bJ 4294967296 v n=V:=by
  rw[<-hvl,<-fD,hv,yR (by omega),<-h4v];exact(Va (by decide) d4 (by show vw s4<_;rw[h4v];exact aAi) (by omega) (by rw[h4l];omega)).symm
 obtain⟨top,htop⟩:∃top,top=v.int (n-1) 0:=⟨_,rfl⟩;obtain⟨v2,hv2⟩:∃v2,v2=v.int (n-2) 0:=⟨_,rfl⟩;obtain⟨vl',ayA⟩:∃vl',vl'=bJ 4294967296 v (n-2):=⟨_,rfl⟩;have htr:0<=top/\top<4294967296:=by rw[htop];exact dv.at (by omega) (by omega)
 have akQ:0<=v2/\v2<4294967296:=by rw[hv2];exact dv.at (by omega) (by omega)
 have asj:0<=vl'/\vl'<PP:=by rw[ayA,hPP];exact dv.o8 (by decide) (by omega)
 have hVe:V=(top*4294967296+v2)*PP+vl':=by
  have e1:=dK 4294967296 v (i:=n-2) (by omega);have e2:=dK 4294967296 v (i:=n-1) (by omega);rw[show n-2+1=n-1 from by omega,<-ayA,<-hv2,<-hPP]at e1
  rw[show n-1+1=n from by omega,hvv,e1,<-htop,hPn]at e2
  rw[e2];grind
 have aBF:2147483648<=top:=by
  refine qH.1 fun hlt=> ?_
  have h1:(top+1)*(PP*4294967296)<=2147483648*(PP*4294967296):=zA (by omega) (by omega);have h2:(v2+1)*PP<=4294967296*PP:=zA (by omega) (by omega);have e:V=top*(PP*4294967296)+v2*PP+vl':=by rw[hVe];grind
  rw[zF]at h1 h2;omega
 intro hsa;rw[rD (by omega)];refine⟨aJ _ (by omega),aJ _ (by omega),by omega,by omega,by omega,fun _=>⟨aJ _ (by omega), ?_⟩⟩
 rw[<-hv];simp only[hvl];refine⟨fun u j q=>-1<=j/\j<=a.len-n/\u.len=a.len+1/\q.len=a.len-n+1/\vw a*p=V*jC 4294967296 q (j+1)*4294967296^(j+1).toNat+vw u/\vw u<V*4294967296^(j+1).toNat,
  fun _ j _=>(j+1).toNat,⟨by omega,by omega,h5l,rD (by omega) _, ?_, ?_⟩,fun u ru j _ q rq hj=> ?_⟩
 ·rw[VR,h5v];omega
 ·have h1:=(da.bound (B:=4294967296) (by decide)).2
  have h1:vw a<4294967296^a.n:=h1;have e:(4294967296:Int)^a.n=4294967296^(a.len-n+1-1+1).toNat*(PP*4294967296):=by
   rw[<-hPn,<-z8]
   congr 1
   unfold zE at*;omega
  rw[e]at h1;rw[h5v];generalize(4294967296:Int)^(a.len-n+1-1+1).toNat=Q at*;have hva:=(da.bound (B:=4294967296) (by decide)).1;have hva:0<=vw a:=hva;have hQ:0<Q:=by
   refine qG.1 fun hle=> ?_
   have:Q*(PP*4294967296)<=0*(PP*4294967296):=zA hle (by omega);omega
  have h2:vw a*p<=vw a*2147483648:=zR hp2 hva;have h3:Q*(2147483648*(PP*4294967296))<=Q*V:=zR aAj (by omega);have e3:Q*(2147483648*(PP*4294967296))=Q*(PP*4294967296)*2147483648:=by grind
  rw[zB V Q];omega
 obtain⟨hj1,hj2,Ar,hql,hE1,hE2⟩:=hj;have du:=aH ru;refine⟨fun hge=> ?_,fun hlt=> ?_⟩
 ·
  obtain⟨Bj,hBj⟩:∃Bj:Int,Bj=4294967296^j.toNat:=⟨_,rfl⟩;have asl:0<Bj:=by rw[hBj];exact fC (by decide) _
  have aAk:(4294967296:Int)^(j+1).toNat=Bj*4294967296:=by rw[hBj,show(j+1).toNat=j.toNat+1 from by omega,zC]
  have Vd:∀k:Int,0<=k->(4294967296:Int)^(j+k).toNat=Bj*4294967296^k.toNat:=fun k hk=>by rw[hBj,show(j+k).toNat=j.toNat+k.toNat from by omega,z8]
  rw[aAk]at hE1 hE2;obtain⟨un,hun⟩:∃un,un=u.int (j+n) 0:=⟨_,rfl⟩;obtain⟨u1,hu1⟩:∃u1,u1=u.int (j+(n-1)) 0:=⟨_,rfl⟩;obtain⟨u2,hu2⟩:∃u2,u2=u.int (j+(n-2)) 0:=⟨_,rfl⟩;have run:0<=un/\un<4294967296:=by rw[hun];exact du.at (by omega) (by omega)
  have ru1:0<=u1/\u1<4294967296:=by rw[hu1];exact du.at (by omega) (by omega)
  have ru2:0<=u2/\u2<4294967296:=by rw[hu2];exact du.at (by omega) (by omega)
  have aAl:=du.o8 (B:=4294967296) (by decide) (i:=j) (by omega);rw[<-hBj]at aAl;have hlim:vw u<Bj*(PP*4294967296*4294967296*4294967296):=by
   have h1:V*(Bj*4294967296)<=4294967296^n.toNat*(Bj*4294967296):=zA (by omega) (by omega);rw[Vb]at h1;have e:PP*4294967296*4294967296*(Bj*4294967296)=Bj*(PP*4294967296*4294967296*4294967296):=by grind
   omega
  have hpw:(4294967296:Int)^(j+n+1).toNat=Bj*(PP*4294967296*4294967296*4294967296):=by
   rw[show j+n+1=j+(n+1)from by omega,Vd _ (by omega),show(n+1).toNat=n.toNat+1 from by omega,zC,Vb]
  have hzero:∀k:Int,j+n+1<=k->k<u.len->u.int k 0=0:=fun k h1 h2=>aad (B:=4294967296) (by decide) du (by rw[hpw];exact hlim) (by omega) h1 h2
  obtain⟨ul,ayB⟩:∃ul,ul=fF 4294967296 (fun k=>dg u (j.toNat+k)) (n-2).toNat:=⟨_,rfl⟩
  have ayC:0<=ul/\ul<PP:=by
   rw[ayB,hPP];refine jg (by decide) (Dg.shift ?_)
   exact Dg.mono du (by have hu':(u.n:Int)=a.len+1:=Ar;omega)
  obtain⟨hd,hhd⟩:∃hd,hd=un*4294967296+u1:=⟨_,rfl⟩;obtain⟨W,hW⟩:∃W,W=(hd*4294967296+u2)*PP+ul:=⟨_,rfl⟩;have huW:vw u=bJ 4294967296 u j+Bj*W:=by
   have e0:vw u=bJ 4294967296 u (j+n+1):=Va (by decide) du (by rw[hpw];exact hlim) (by omega) (by omega);have e1:=dK 4294967296 u (i:=j+n) (by omega);have e2:=dK 4294967296 u (i:=j+(n-1)) (by omega);have e3:=dK 4294967296 u (i:=j+(n-2)) (by omega);have e4:=anU 4294967296 u (j:=j) (i:=n-2) (by omega) (by omega);rw[show j+(n-1)+1=j+n from by omega,<-hu1,Vd _ (by omega),hPn]at e2
   rw[show j+(n-2)+1=j+(n-1)from by omega,<-hu2,Vd _ (by omega),<-hPP]at e3
   rw[<-hun,Vd _ (by omega),Vb]at e1;rw[<-hBj,<-ayB]at e4;rw[e0,e1,e2,e3,e4,hW,hhd]
   grind
  have hWV:W<V*4294967296:=by
   have:Bj*W<Bj*(V*4294967296):=by
    have e:V*(Bj*4294967296)=Bj*(V*4294967296):=by grind
    omega
   exact vO asl this
  have akR:0<=hd:=by omega
  have hW0:0<=W:=by
   have:0<=(hd*4294967296+u2)*PP:=zD (by omega) (by omega);omega
  have aCk:hd<=top*4294967296+4294967295:=by
   have aCl:un<top+1:=by
    refine qG.1 fun hle=> ?_
    have h1:(top+1)*(PP*4294967296*4294967296)<=un*(PP*4294967296*4294967296):=zA hle (by omega);have h2:(v2+1)*PP<=4294967296*PP:=zA (by omega) (by omega);have h3:0<=u1*(PP*4294967296):=zD (by omega) (by omega);have h4:0<=u2*PP:=zD (by omega) (by omega);have e1:W=un*(PP*4294967296*4294967296)+u1*(PP*4294967296)+u2*PP+ul:=by rw[hW,hhd];grind
    have e2:V=top*(PP*4294967296)+v2*PP+vl':=by rw[hVe];grind
    have e3:top*(PP*4294967296*4294967296)=top*(PP*4294967296)*4294967296:=by grind
    rw[zF]at h1 h2;omega
   omega
  have htd:qS hd top=hd/top:=qJ akR;have G5:Int.tmod hd top=hd % top:=qK akR;have hdm:=zH hd top;have hm0:=zP hd (show top≠0 by omega);have hm1:=zI hd (show 0<top by omega);have hdq:0<=hd/top:=qD akR (by omega);have aCm:hd/top<=hd:=Int.ediv_le_self _ akR;rw[<-hun,<-hu1,<-hu2,<-htop,<-hv2];rw[two32 run.1 run.2 ru1.1 ru1.2,<-hhd,htd,G5];rw[bI (x:=hd/top) hdq (by omega)];have base:W<(hd/top+1)*V:=by
   have h1:(hd+1)*(PP*4294967296)<=(hd/top+1)*top*(PP*4294967296):=zA (by rw[zF,qM,zB (hd/top)];omega) (by omega);have h2:(u2+1)*PP<=4294967296*PP:=zA (by omega) (by omega);have h3:(hd/top+1)*(top*(PP*4294967296))<=(hd/top+1)*V:=by
    refine zR ?_ (by omega)
    have:0<=v2*PP:=zD (by omega) (by omega);have e2:V=top*(PP*4294967296)+v2*PP+vl':=by rw[hVe];grind
    omega
   have e1:W=hd*(PP*4294967296)+u2*PP+ul:=by rw[hW];grind
   have e3:(hd/top+1)*top*(PP*4294967296)=(hd/top+1)*(top*(PP*4294967296)):=by grind
   rw[zF]at h1 h2;omega
  have hi:∀d r:Int,0<=d->d<4294967296->d*top+r=hd->d*v2<=r*4294967296+u2->(d-1)*V<=W:=fun d r h1 h2 h3 h4=>
   arL (by decide) ayz (by omega) hVe akQ.1 asj.1 asj.2 hW ayC.1 h3 h1 h2 h4
  have lo:∀d r:Int,0<=d->d*top+r=hd->r*4294967296+u2<d*v2->W<d*V:=fun d r h1 h3 h4=>
   arM ayz hVe asj.1 hW ayC.2 h3 h1 h4
  have pos:∀d:Int,W<d*V->1<=d:=fun d h=>by
   refine qH.1 fun hlt=> ?_
   have:d*V<=0*V:=zA (by omega) (by omega);omega
  have dec:∀d r:Int,d*top+r=hd->0<=r->r<4294967296->W<d*V->1<=d/\(d-1)*top+(r+top)=hd/\W<(d-1+1)*V/\(r+top>=4294967296->d-1<4294967296/\(d-1-1)*V<=W):=fun d r h1 h2 h3 h4=>by
   have hp1:=pos d h4;have e1:(d-1)*top+(r+top)=hd:=by rw[qT];omega
   refine⟨hp1,e1,by rw[show d-1+1=d from by omega];exact h4,fun hge'=> ?_⟩
   have hd1:d-1<4294967296:=by
    refine qG.1 fun hle=> ?_
    have:4294967296*top<=(d-1)*top:=zA hle (by omega);omega
   refine⟨hd1,hi (d-1) (r+top) (by omega) hd1 e1 ?_⟩
   have:(d-1)*v2<=4294967295*4294967295:=z9 (by omega) (by omega) akQ.1 (by omega);omega
  have wd:∀x:Int,Rng .u64 x->1<=x->IntKind.wrap .u64 (x-1)=x-1:=fun x h1 h2=>by rw[dX]at h1;exact bI (by omega) (by omega)
  have wr:∀r:Int,0<=r->r<4294967296->IntKind.wrap .u64 (r+top)=r+top:=fun r h1 h2=>bI (by omega) (by omega)
  refine⟨aJ _ (by omega),aJ _ (by omega),hge,by omega,by omega,fun _=>⟨by omega,by omega,fun _=>⟨by decide,aJ _ (by omega),by omega,by omega,fun _=>⟨aJ _ (by omega),by omega,by omega,fun _=>⟨by omega,by omega,dX.2 (by omega), ?_⟩⟩⟩⟩⟩
  refine⟨fun d _=>0<=d/\d<4294967296/\W<(d+1)*V/\(d-1)*V<=W,⟨fun d r=>0<=d/\d*top+r=hd/\0<=r/\r<4294967296/\W<(d+1)*V,fun d _=>d.toNat,
   ⟨hdq,by rw[zB];omega,hm0,by omega,base⟩,fun d rd r _ hj=> ?_⟩,fun d _ r _ hj _=> ?_⟩
  ·obtain⟨k1,k2,k3,k4,k5⟩:=hj
   have step:W<d*V->(IntKind.wrap .u64 (r+top)>=4294967296->0<=IntKind.wrap .u64 (d-1)/\IntKind.wrap .u64 (d-1)<4294967296/\W<(IntKind.wrap .u64 (d-1)+1)*V/\(IntKind.wrap .u64 (d-1)-1)*V<=W)/\
     (¬IntKind.wrap .u64 (r+top)>=4294967296->(0<=IntKind.wrap .u64 (d-1)/\IntKind.wrap .u64 (d-1)*top+IntKind.wrap .u64 (r+top)=hd/\0<=IntKind.wrap .u64 (r+top)/\IntKind.wrap .u64 (r+top)<4294967296/\W<(IntKind.wrap .u64 (d-1)+1)*V)/\(IntKind.wrap .u64 (d-1)).toNat<d.toNat):=fun h=>by
    obtain⟨g1,g2,g3,g4⟩:=dec d r k2 k3 k4 h;rw[wd d rd g1,wr r k3 k4];exact⟨fun hge'=>⟨by omega,(g4 hge').1,g3,(g4 hge').2⟩,fun hlt'=>⟨⟨by omega,g2,by omega,by omega,g3⟩,by omega⟩⟩
   refine⟨fun hbig=>step ?_,fun hsmall=>⟨aJ _ (by omega),by omega,by omega,fun _=>⟨by decide,aJ _ (by omega),by omega,by omega,fun _=> ?_⟩⟩⟩
   ·have:4294967296*V<=d*V:=zA hbig (by omega)
    omega
   ·have hdv:d*v2<=4294967295*4294967295:=z9 (by omega) (by omega) akQ.1 (by omega)
    have aAm:0<=d*v2:=zD k1 akQ.1;rw[bI (x:=d*v2) aAm (by omega),two32 k3 k4 ru2.1 ru2.2];exact⟨fun hgt=>step (lo d r k1 k2 (by omega)),fun hle=>⟨k1,by omega,k5,hi d r k1 (by omega) k2 (by omega)⟩⟩
  ·
   obtain⟨k1,k2,k3,k4⟩:=hj;have hlast:∀(w:Sl)(e:Int),w.len=a.len+1->bC 4294967296 w->(∀k:Int,j+n+1<=k->k<w.len->w.int k 0=0)->bJ 4294967296 w j=bJ 4294967296 u j->vw w=vw u+Bj*e->
     0<=W+e/\W+e<PP*4294967296*4294967296*4294967296:=fun w e hwl dw hwz hwt hwv=>by
    have e1:vw w=bJ 4294967296 w j+Bj*jC 4294967296 w j:=by rw[hBj];exact Ea _ _ (by omega) (by omega)
    have e2:=(dw.Dh (B:=4294967296) (by decide) (i:=j) (by omega)).1;have e3:vw w=bJ 4294967296 w (j+n+1):=by
     have:=Ea 4294967296 w (i:=j+n+1) (by omega) (by omega);rw[acS (by omega) hwz,qV,z7]at this;exact this
    have e4:=(dw.o8 (B:=4294967296) (by decide) (i:=j+n+1) (by omega)).2;rw[hpw,<-e3]at e4;have e5:jC 4294967296 w j=W+e:=acT asl (by rw[Int.mul_add];omega);rw[<-e5];have e6:=(dw.o8 (B:=4294967296) (by decide) (i:=j) (by omega)).1;exact⟨e2,vO asl (by omega)⟩
   have hnext:∀(w:Sl)(d':Int),w.len=a.len+1->0<=d'->d'<4294967296->vw w=vw u+Bj*(-(d'*V))->W-d'*V<V->
     (-1<=j-1/\j-1<=a.len-n/\w.len=a.len+1/\(z6 q j 0 [.int d']).len=a.len-n+1/\vw a*p=V*jC 4294967296 (z6 q j 0 [.int d']) (j-1+1)*4294967296^(j-1+1).toNat+vw w/\vw w<V*4294967296^(j-1+1).toNat)/\(j-1+1).toNat<(j+1).toNat:=fun w d' hwl h1 h2 hwv hr=>by
    refine⟨⟨by omega,by omega,hwl,by rw[dO];exact hql, ?_, ?_⟩,by omega⟩
    ·rw[show j-1+1=j from by omega,o7 _ _ hge (by rw[dO];omega),VQ hge (by omega),dY hge hge,if_pos rfl,hwv,<-hBj,hE1]
     grind
    ·rw[show j-1+1=j from by omega,<-hBj,hwv,huW]
     have:Bj*(W-d'*V+1)<=Bj*V:=zR (by omega) (by omega);have e:Bj*(W-d'*V+1)=Bj*W+Bj*(-(d'*V))+Bj:=by grind
     rw[zB V Bj];omega
   refine⟨fun w carry bo i=>0<=i/\i<=n/\w.len=a.len+1/\(0<=carry/\carry<4294967296)/\(bo=0\/bo=1)/\vw w+Bj*(d*bJ 4294967296 v i)=vw u+Bj*((carry+bo)*4294967296^i.toNat)/\
    (∀k:Int,j+i<=k->k<u.len->w.int k 0=u.int k 0)/\bJ 4294967296 w j=bJ 4294967296 u j,fun _ _ _ i=>(n-i).toNat,
    ⟨qE _,by omega,Ar,⟨by decide,by decide⟩, .inl rfl,by rw[kZ];simp,fun _ _ _=>rfl,rfl⟩,fun w uU carry _ bo _ i _ hj=> ?_⟩
   obtain⟨i0,i1,hwl,hca,LV,hwv,hwk,hwt⟩:=hj;have dw:=aH uU;refine⟨fun hlt=>⟨i0,hlt,fun _=> ?_⟩,fun hge'=> ?_⟩
   ·have hvi:=dv.at (i:=i) i0 (by omega)
    have hwi:=dw.at (i:=j+i) (by omega) (by omega);obtain⟨c',y,bo',e1,e2,e3,hc',aAn,hy⟩:=anV (digit:=d) (vi:=v.int i 0) (carry:=carry) (ui:=w.int (j+i) 0) (borrow:=bo) ⟨k1,k2⟩ hvi hca hwi LV;rw[e1,e2,e3];refine⟨by decide,dX.2 (by omega),by omega,by omega,fun _=>⟨by omega,by omega,by decide,dX.2 (by omega),aJ _ (by omega),⟨by omega,by omega,by rw[dO];exact hwl,hc',aAn, ?_,fun k h1 h2=> ?_, ?_⟩, ?_⟩⟩
    ·have eu:vw (z6 w (j+i) 0 [.int y])=vw w+(y-w.int (j+i) 0)*4294967296^(j+i).toNat:=zY (by omega) (by omega)
     rw[eu,Vd i i0,dK _ _ i0,hy,show(i+1).toNat=i.toNat+1 from by omega,zC]
     generalize(4294967296:Int)^i.toNat=Q at*
     grind
    ·rw[dY (by omega) (by omega),if_neg (by omega)]
     exact hwk k (by omega) h2
    ·rw[O6 (by omega) (by omega)]
     exact hwt
    ·show(n-(i+1)).toNat<(n-i).toNat
     omega
   ·have ei:i=n:=by omega
    subst ei;have hwi:=dw.at (i:=j+i) (by omega) (by omega);obtain⟨y,neg,e1,e2,hneg,hy⟩:=akP (carry:=carry) (ui:=w.int (j+i) 0) (borrow:=bo) hca hwi LV;rw[e1,e2];rw[hvv]at hwv;have hy0:0<=y/\y<4294967296:=by
     rw[<-e1,xR];omega
    obtain⟨w2,hw2⟩:∃w2,w2=z6 w (j+i) 0 [.int y]:=⟨_,rfl⟩;have asn:w2.len=a.len+1:=by rw[hw2,dO];exact hwl
    have dw2:bC 4294967296 w2:=fun k hk=>by
     rw[hw2,O5 (by omega)];split
     ·exact hy0
     ·exact dw k (by rw[hw2,adI]at hk;exact hk)
    have akS:vw w2=vw u+Bj*(neg*(PP*4294967296*4294967296*4294967296)-d*V):=by
     have eu:vw w2=vw w+(y-w.int (j+i) 0)*4294967296^(j+i).toNat:=by rw[hw2];exact zY (by omega) (by omega)
     rw[eu,Vd i i0,hy,Vb];rw[Vb]at hwv
     grind
    have ayD:∀k:Int,j+i+1<=k->k<w2.len->w2.int k 0=0:=fun k h1 h2=>by
     rw[hw2,dY (by omega) (by omega),if_neg (by omega),hwk k (by omega) (by omega)];exact hzero k h1 (by omega)
    have ayE:bJ 4294967296 w2 j=bJ 4294967296 u j:=by rw[hw2,O6 (by omega) (by omega)];exact hwt
    have hR:=hlast w2 _ asn dw2 ayD ayE akS;rw[<-hw2];refine⟨by omega,by omega,fun _=>⟨by omega,by omega,by decide,dX.2 (by omega),fun hz=> ?_,fun hnz _=> ?_⟩⟩
    ·rw[hz]at akS hR
     rw[nI k1 k2];have h3:W<d*V+V:=by rw[zF]at k3;omega
     exact⟨by omega,by omega,aJ _ (by omega),hnext w2 d asn k1 k2 (by rw[akS];simp) (by omega)⟩
    ·have hn1:neg=1:=by omega
     rw[hn1]at akS hR;have hWd:W<d*V:=by omega
     have hd1:=pos d hWd;have k4':d*V-V<=W:=by rw[qT]at k4;omega
     refine⟨fun w3 up i'=>0<=i'/\i'<=i/\w3.len=a.len+1/\(up=0\/up=1)/\vw w3+Bj*(up*4294967296^i'.toNat)=vw w2+Bj*bJ 4294967296 v i'/\(∀k:Int,j+i'<=k->k<w2.len->w3.int k 0=w2.int k 0)/\bJ 4294967296 w3 j=bJ 4294967296 u j,
      fun _ _ i'=>(i-i').toNat,⟨qE _,i0,asn, .inl rfl,by rw[kZ];simp,fun _ _ _=>rfl,ayE⟩,fun w3 r3 up rup i' _ hj=> ?_⟩
     obtain⟨m0,m1,m2,m3,m4,m5,m6⟩:=hj;have dw3:=aH r3;refine⟨fun hlt=>⟨m0,hlt,fun _=>⟨by omega,by omega,fun _=>⟨by show up<=1;omega,fun bQ _ x23 _ hq=> ?_⟩⟩⟩,fun aBG=> ?_⟩
     ·obtain⟨q1,q3⟩:=hq
      refine⟨by omega,by omega,aJ _ (by omega),⟨by omega,by omega,by rw[dO];exact m2,q3, ?_,fun k h1 h2=> ?_, ?_⟩, ?_⟩
      ·have eu:vw (z6 w3 (j+i') 0 [.int bQ])=vw w3+(bQ-w3.int (j+i') 0)*4294967296^(j+i').toNat:=zY (by omega) (by omega)
       have eq1:bQ-w3.int (j+i') 0=v.int i' 0+up-x23*4294967296:=by omega
       rw[eu,Vd i' m0,dK _ _ m0,eq1,show(i'+1).toNat=i'.toNat+1 from by omega,zC]
       generalize(4294967296:Int)^i'.toNat=Q at*
       grind
      ·rw[dY (by omega) (by omega),if_neg (by omega)]
       exact m5 k (by omega) h2
      ·rw[O6 (by omega) (by omega)]
       exact m6
      ·show(i-(i'+1)).toNat<(i-i').toNat
       omega
     ·have ei:i'=i:=by omega
      subst ei;rw[hvv]at m4;have aCn:=dw3.at (i:=j+i') (by omega) (by omega);obtain⟨y3,cc,hy3,hcc,aAo,aAp⟩:∃y3 cc:Int,IntKind.wrap .u32 (w3.int (j+i') 0+up)=y3/\(cc=0\/cc=1)/\(0<=y3/\y3<4294967296)/\y3-w3.int (j+i') 0=up-cc*4294967296:=by
       rw[xR];exact⟨_,(w3.int (j+i') 0+up)/4294967296,rfl,by omega,by omega,by omega⟩
      rw[hy3];obtain⟨w4,hw4⟩:∃w4,w4=z6 w3 (j+i') 0 [.int y3]:=⟨_,rfl⟩;have ayF:w4.len=a.len+1:=by rw[hw4,dO];exact m2
      have dw4:bC 4294967296 w4:=fun k hk=>by
       rw[hw4,O5 (by omega)];split
       ·exact aAo
       ·exact dw3 k (by rw[hw4,adI]at hk;exact hk)
      have aso:vw w4=vw u+Bj*((1-cc)*(PP*4294967296*4294967296*4294967296)-(d-1)*V):=by
       have eu:vw w4=vw w3+(y3-w3.int (j+i') 0)*4294967296^(j+i').toNat:=by rw[hw4];exact zY (by omega) (by omega)
       rw[eu,Vd i' i0,aAp,Vb];rw[Vb]at m4
       grind
      have aAq:∀k:Int,j+i'+1<=k->k<w4.len->w4.int k 0=0:=fun k h1 h2=>by
       rw[hw4,dY (by omega) (by omega),if_neg (by omega),m5 k (by omega) (by omega)];exact ayD k h1 (by omega)
      have aAr:bJ 4294967296 w4 j=bJ 4294967296 u j:=by rw[hw4,O6 (by omega) (by omega)];exact m6
      have hR4:=hlast w4 _ ayF dw4 aAq aAr aso;have hc1:cc=1:=by
       rcases hcc with rfl|rfl
       ·have e:(d-1)*V=d*V-V:=by rw[qT];omega
        omega
       ·rfl
      rw[hc1]at aso;have ed:IntKind.wrap .u32 (IntKind.wrap .u64 (d-1))=d-1:=by rw[bI (x:=d-1) (by omega) (by omega),nI (by omega) (by omega)]
      rw[<-hw4,ed];refine⟨by omega,by omega,fun _=>⟨by omega,by omega,by omega,by omega,aJ _ (by omega),hnext w4 (d-1) ayF (by omega) (by omega) (by rw[aso];simp) ?_⟩⟩
      rw[qT];omega
 ·
  have ej:j=-1:=by omega
  subst ej;have z1:(-1+1:Int).toNat=0:=rfl;rw[z1,qL,Int.mul_one]at hE1 hE2;have z2:jC 4294967296 q (-1+1)=vw q:=oZ _ _;rw[z2]at hE1;obtain⟨rr,hrr⟩:∃rr,rr=vw a-vw b*vw q:=⟨_,rfl⟩;have hup:vw u=p*rr:=by
   have e1:p*(vw b*vw q)=V*vw q:=by rw[hV];grind
   rw[hrr,Int.mul_sub,e1,zB p];omega
  have hu0:u.int 0 0 % p=0:=by
   have e1:vw u=u.int 0 0+4294967296*jC 4294967296 u (0+1):=by
    rw[<-o7 4294967296 u (i:=0) (by omega) (by omega)];exact(oZ _ _).symm
   have e2:u.int 0 0=p*(rr-q2*jC 4294967296 u (0+1)):=by
    generalize jC 4294967296 u (0+1)=X at*;have e3:4294967296*X=p*(q2*X):=by rw[<-zL];grind
    rw[Int.mul_sub,<-hup];omega
   rw[e2];exact Int.mul_emod_right _ _
  have hun:u.int n 0=0:=aad (B:=4294967296) (by decide) du (i:=n) (by show vw u<_;omega) (by omega) (by omega) (by omega);have aAs:bJ 4294967296 u n=vw u:=(Va (B:=4294967296) (by decide) du (by show vw u<_;omega) (by omega) (by omega)).symm;refine⟨fun i w=>0<=i/\i<=n/\w.len=a.len+1/\(∀k:Int,i<=k->k<w.len->w.int k 0=u.int k 0)/\p*bJ 4294967296 w i=bJ 4294967296 u i+u.int i 0 % p*4294967296^i.toNat,fun i _=>(n-i).toNat,
   ⟨qE _,by omega,Ar,fun _ _ _=>rfl,by rw[kZ,hu0];simp⟩,fun i _ w uU hj=> ?_⟩
  obtain⟨i0,i1,hwl,hwk,hwv⟩:=hj;have dw:=aH uU;refine⟨fun hlt=>⟨aJ _ (by omega), ?_⟩,fun hge'=> ?_⟩
  ·have e0:=hwk i (by omega) (by omega)
   have e1:=hwk (i+1) (by omega) (by omega);have r0:=du.at (i:=i) i0 (by omega);have r1:=du.at (i:=i+1) (by omega) (by omega);have hsv:shr .u64 (u.int (i+1) 0*4294967296+u.int i 0) sh=(u.int (i+1) 0*4294967296+u.int i 0)/p:=by
    rw[shr_var _ _ (by show sh.toNat<=64;omega),hpe]
   obtain⟨f1,f2,f3⟩:=adD hp1 hq1 zL r0 r1;rw[e0,e1,two32 r1.1 r1.2 r0.1 r0.2,hsv,xR];generalize(u.int (i+1) 0*4294967296+u.int i 0)/p=z at*;have fin:(-1:Int)<=-1/\Rng .u64 z/\0<=i/\i<w.len/\iA (i+1)/\
     ((0<=i+1/\i+1<=n/\(z6 w i 0 [.int (z % 4294967296)]).len=a.len+1/\(∀k:Int,i+1<=k->k<(z6 w i 0 [.int (z % 4294967296)]).len->(z6 w i 0 [.int (z % 4294967296)]).int k 0=u.int k 0)/\p*bJ 4294967296 (z6 w i 0 [.int (z % 4294967296)]) (i+1)=bJ 4294967296 u (i+1)+u.int (i+1) 0 % p*4294967296^(i+1).toNat)/\(n-(i+1)).toNat<(n-i).toNat):=by
    refine⟨by omega,dX.2 (by omega),i0,by omega,aJ _ (by omega),⟨by omega,by omega,by rw[dO];exact hwl,fun k h1 h2=> ?_, ?_⟩,by omega⟩
    ·rw[dY i0 (by omega),if_neg (by omega)]
     exact hwk k (by omega) h2
    ·rw[qC i0,dK _ _ i0,show(i+1).toNat=i.toNat+1 from by omega,zC]
     generalize(4294967296:Int)^i.toNat=Q at*;generalize z % 4294967296=zz at*
     grind
   have fin:=fin.2
   repeat' first|exact fin|exact hs0|(refine⟨?_, ?_⟩)|(intro _)
   all_goals omega
  ·have ei:i=n:=by omega
   subst ei;rw[hun,Int.zero_emod,qN,z7,aAs,hup]at hwv;have hwr:=acT (show 0<p by omega) hwv;have last:∀t t':Sl,lV q t->lV (Sl.part w 0 i) t'->vS a b t t'/\True:=fun t t' h1 h2=>by
    have e1:vw (Sl.part w 0 i)=rr:=by unfold vw;rw[yR (by omega)];exact hwr
    refine⟨⟨?_, ?_,h1.1,h2.1⟩,trivial⟩
    ·rw[h1.2.2,h2.2.2,e1,hrr];omega
    ·rw[h2.2.2,e1]
     refine vO (show 0<p by omega) ?_
     rw[<-hup,zB p,<-hV];exact hE2
   exact⟨⟨trivial,fun t _ ht=>⟨by decide,by omega,by omega,trivial,fun t' _ ht'=>last t t' ht ht'⟩⟩,⟨by decide,by omega,by omega,trivial,fun t _ ht=>⟨trivial,fun t' _ ht'=>last t t' ht ht'⟩⟩⟩
def wd(s:Sl)(i:Int):Int:=if i<s.len then s.int i 0 else 0
def Az(B:Int)(s:Sl)(i:Int):Int:=fF B (fun k=>wd s k) i.toNat
theorem tC(B:Int)(s:Sl){i:Int}(h:0<=i):Az B s (i+1)=Az B s i+wd s i*B^i.toNat:=by
 unfold Az;have:(i+1).toNat=i.toNat+1:=by omega
 rw[this,iF,Int.toNat_of_nonneg h]
theorem uV(B:Int)(s:Sl){i:Int}(h:s.len<=i):Az B s i=val B s:=by
 unfold Az val;obtain⟨k,hk⟩:=Nat.le.dest (show s.n<=i.toNat by unfold zE at h;omega);rw[<-hk,vX,DT (f:=fun j=>wd s ((s.n+j:Nat):Int)) (fun j _=>by unfold wd zE;rw[if_neg (by omega)]),qV,z7]
 exact l7 fun j hj=>by
  show wd s (j:Int)=dg s j;unfold wd dg;rw[if_pos (by unfold zE;omega)]
theorem tu{B:Int}(hB:0<B){s:Sl}(hs:bC B s){i:Int}(h:0<=i):0<=wd s i/\wd s i<B:=by
 unfold wd;split
 ·exact hs.at h (by assumption)
 ·omega
theorem anW{B:Int}(hB:0<B){s:Sl}(hs:bC B s)(i:Int):0<=Az B s i/\Az B s i<B^i.toNat:=
 jg hB fun k _=>tu hB hs (Int.natCast_nonneg _)
theorem anX{w:Sl}{n sk x1 x2 x3:Int}(hp:Uc w n sk)(uU:Ranged w [some .u32])(e1:x1=wd w (n-1))(e2:x2=wd w (n-2))(e3:x3=wd w (n-3)):
  Rng .u64 (shr .u64 x3 (32-sk))/\wY w n sk (IntKind.wrap .u64 (bor .u64 (IntKind.wrap .u64 (shl .u64 (IntKind.wrap .u64 (bor .u64 (IntKind.wrap .u64 (shl .u64 x1 32)) x2)) sk)) (shr .u64 x3 (32-sk)))):=by
 obtain⟨h3,h30,hl,hs0,hs1,hv⟩:=hp;have dw:=aH uU;obtain⟨p,q,hpe,hp1,hp2,hqe,hq1,zL⟩:=VW hs0 hs1;have b1:=tu (by decide) dw (i:=n-1) (by omega);have b2:=tu (by decide) dw (i:=n-2) (by omega);have b3:=tu (by decide) dw (i:=n-3) (by omega);rw[<-e1]at b1;rw[<-e2]at b2;rw[<-e3]at b3;obtain⟨P,hP⟩:∃P:Int,P=4294967296^(n-3).toNat:=⟨_,rfl⟩;have hP0:0<P:=by rw[hP];exact fC (by decide) _
 have hlow:=anW (B:=4294967296) (by decide) dw (n-3);rw[<-hP]at hlow;have hval:vw w=(x1*4294967296+x2)*(P*4294967296)+x3*P+Az 4294967296 w (n-3):=by
  have f1:=tC 4294967296 w (i:=n-1) (by omega);have f2:=tC 4294967296 w (i:=n-2) (by omega);have f3:=tC 4294967296 w (i:=n-3) (by omega);rw[show n-1+1=n from by omega,<-e1,show(n-1).toNat=(n-3).toNat+1+1 from by omega,zC,zC,<-hP]at f1
  rw[show n-2+1=n-1 from by omega,<-e2,show(n-2).toNat=(n-3).toNat+1 from by omega,zC,<-hP]at f2
  rw[show n-3+1=n-2 from by omega,<-e3,<-hP]at f3
  have f0:Az 4294967296 w n=vw w:=uV _ _ hl;rw[<-f0,f1,f2,f3]
  grind
 rw[hpe,show n.toNat=(n-3).toNat+1+1+1 from by omega,zC,zC,zC,<-hP]at hv
 generalize Az 4294967296 w (n-3)=low at*;rw[two32 b1.1 b1.2 b2.1 b2.2];obtain⟨y,hy⟩:∃y,y=x1*4294967296+x2:=⟨_,rfl⟩;rw[<-hy]at hval⊢;have hy0:0<=y:=by omega
 have hyp:(y+1)*p<=18446744073709551616:=by
  have h1:y<q*4294967296:=by
   refine vO (P:=p*(P*4294967296)) (Int.mul_pos (by omega) (by omega)) ?_
   have g1:0<=x3*P:=zD b3.1 (by omega);have g2:(y*(P*4294967296))*p<=vw w*p:=zA (by omega) (by omega);have g3:p*(P*4294967296)*y=(y*(P*4294967296))*p:=by grind
   have g4:p*(P*4294967296)*(q*4294967296)=P*4294967296*4294967296*(q*p):=by grind
   rw[g3,g4,zL];omega
  have h2:(y+1)*p<=q*4294967296*p:=zA (by omega) (by omega);have h3:q*4294967296*p=4294967296*(q*p):=by grind
  rw[zL]at h3;omega
 rw[zF,qM]at hyp;have aAt:0<=y*p:=zD hy0 (by omega);have esl:shl .u64 y sk=y*p:=by rw[aiv _ _ (by show sk.toNat<=64;omega),hpe]
 have esr:shr .u64 x3 (32-sk)=x3/q:=by rw[shr_var _ _ (by show(32-sk).toNat<=64;omega),hqe,show(32-sk).toNat=32-sk.toNat from by omega]
 have d1:=zH x3 q;have d2:=zP x3 (show q≠0 by omega);have d3:=zI x3 (show 0<q by omega);have d4:0<=x3/q:=qD b3.1 (by omega);have d5:x3/q<p:=by
  refine q6 (by omega) ?_
  rw[zB,zL];exact b3.2
 rw[esl,esr,bI aAt (by omega)];generalize x3/q=h at*;have hb:bor .u64 (y*p) h=y*p+h:=by
  have:=JW (k:= .u64) (a:=y) (b:=h) (i:=sk.toNat) hy0 d4 (by rw[hpe];exact d5) (by rw[hpe];show _<(18446744073709551616:Int);omega);rw[hpe]at this;exact this
 rw[hb,bI (by omega) (by omega)];refine⟨dX.2 (by omega), ?_⟩
 show y*p+h=vw w*2^sk.toNat/4294967296^(n.toNat-2);have ePP:(4294967296:Int)^(n.toNat-2)=P*4294967296:=by rw[hP,<-zC];congr 1;omega
 rw[hpe,ePP,hval];have hPB:0<P*4294967296:=by omega
 have l0:0<=(x3*P+low)*p-h*(P*4294967296):=by
  have g1:h*q*P*p<=x3*P*p:=by
   refine zA (zA ?_ (by omega)) (by omega)
   rw[zB h q];omega
  have g2:h*q*P*p=h*(P*(q*p)):=by grind
  rw[zL]at g2;have g3:0<=low*p:=zD hlow.1 (by omega);rw[zF];omega
 have l1:(x3*P+low)*p-h*(P*4294967296)<P*4294967296:=by
  have g1:(x3+1)*P*p<=(h*q+q)*P*p:=by
   refine zA (zA ?_ (by omega)) (by omega)
   rw[zB h q];omega
  have g2:(h*q+q)*P*p=(h+1)*(P*(q*p)):=by grind
  rw[zL]at g2;have g3:(low+1)*p<=P*p:=zA (by omega) (by omega);have g4:(x3+1)*P*p=x3*P*p+P*p:=by grind
  have g5:(h+1)*(P*4294967296)=h*(P*4294967296)+P*4294967296:=by grind
  have g6:(low+1)*p=low*p+p:=by grind
  rw[zF];omega
 have e:(y*(P*4294967296)+x3*P+low)*p=((x3*P+low)*p-h*(P*4294967296))+P*4294967296*(y*p+h):=by grind
 rw[e,q7 _ _ (by omega),q9 l0 l1];omega
theorem atE:anr:=by
 intro w uU n rn sk rs hp;have h0:=len0 w;have hp':=hp;obtain⟨h3,h30,hl,hs0,hs1,hv⟩:=hp';have core:∀x1 x2 x3:Int,x1=wd w (n-1)->x2=wd w (n-2)->x3=wd w (n-3)->_:=fun x1 x2 x3 e1 e2 e3=>anX hp uU e1 e2 e3
 refine⟨aJ _ (by omega),aJ _ (by omega),aJ _ (by omega),aJ _ (by omega), ?_⟩
 repeat' first|exact trivial|(with_reducible apply And.intro)|(intro _)
 all_goals first
  |omega
  |exact aJ _ (by omega)
  |exact(core _ _ _ rfl rfl (by unfold wd;split<;>first|rfl|omega)).1
  |exact(core _ _ _ (by unfold wd;split<;>first|rfl|omega) (by unfold wd;split<;>first|rfl|omega) (by unfold wd;split<;>first|rfl|omega)).2
theorem nO{B:Int}(hB:0<B){r b:Sl}(dr:bC B r)(nr:bT r)(db:bC B b)(h:val B r<=val B b):r.len<=b.len:=by
 refine qH.1 fun hlt=> ?_
 have:=Nm.lt hB db dr (yQ.1 nr) (by unfold zE at hlt;omega);unfold val at h;omega
theorem ag4:Zx:=by
 intro a ra b rb hp hsa;obtain⟨la,lb,na,nb,hb3,hba⟩:=hp;unfold aB at la lb;have da:=aH ra;have db:=aH rb;have hlen:b.len<=a.len:=nO (B:=4294967296) (by decide) db nb da hba;have hta:=da.at (i:=a.len-1) (by omega) (by omega);have htop:0<a.int (a.len-1) 0:=by have:=na (by omega);omega
 refine⟨aJ _ (by omega),by omega,by omega,fun _=>⟨trivial,fun sh _ hsh=> ?_⟩⟩
 obtain⟨hs0,_,hs1⟩:=hsh;obtain⟨YD,hlo,hhi⟩:=hs1 htop;obtain⟨p,q,hpe,hp1,hp2,hqe,hq1,zL⟩:=VW hs0 YD;have hva:vw a*p<4294967296^a.len.toNat:=by
  have e:=LW (B:=4294967296) (s:=a) (by omega);have e:vw a=bJ 4294967296 a (a.len-1)+a.int (a.len-1) 0*4294967296^(a.len-1).toNat:=e;have hb:=(da.o8 (B:=4294967296) (by decide) (i:=a.len-1) (by omega)).2;have e2:(4294967296:Int)^a.len.toNat=4294967296^(a.len-1).toNat*4294967296:=by rw[<-zC];congr 1;omega
  rw[e2];have hP:=fC (B:=4294967296) (by decide) (a.len-1).toNat;generalize(4294967296:Int)^(a.len-1).toNat=P at*;rw[hpe]at hhi;generalize a.int (a.len-1) 0=t at*;have ht:t<q:=vO (P:=p) (by omega) (by rw[zB p t,zB p q,zL];exact hhi);have h1:vw a<q*P:=by
   have:(t+1)*P<=q*P:=zA (by omega) (by omega);rw[zF]at this;omega
  have h2:vw a*p<q*P*p:=q4 h1 (by omega);have h3:q*P*p=P*(q*p):=by grind
  rw[h3,zL]at h2;exact h2
 have aCo:0<=vw b:=(db.bound (B:=4294967296) (by decide)).1;have hbp:vw b*p<=vw a*p:=zA hba (by omega);refine⟨⟨by omega,by omega,by omega,hs0,YD,by rw[hpe];exact hva⟩,fun x rx hx=>⟨⟨by omega,by omega,by omega,hs0,YD,by rw[hpe];omega⟩,fun y ry hy=> ?_⟩⟩
 have hx:x=vw a*2^sh.toNat/4294967296^(a.len.toNat-2):=hx;have hy:y=vw b*2^sh.toNat/4294967296^(a.len.toNat-2):=hy;rw[hpe]at hx hy;have hP:=fC (B:=4294967296) (by decide) (a.len.toNat-2);generalize(4294967296:Int)^(a.len.toNat-2)=P at*;obtain⟨A,hA⟩:∃A,A=vw a*p:=⟨_,rfl⟩;obtain⟨C,hC⟩:∃C,C=vw b*p:=⟨_,rfl⟩;rw[<-hA]at hx hbp;rw[<-hC]at hy hbp;have dA:=zH A P;have dC:=zH C P;have mA:=zP A (show P≠0 by omega);have mA':=zI A hP;have mC:=zP C (show P≠0 by omega);have mC':=zI C hP;rw[<-hx]at dA;rw[<-hy]at dC;rw[dX]at rx ry;have hxy:y<=x:=by rw[hx,hy];exact Int.ediv_le_ediv hP hbp
 refine⟨fun a1 a2 u2 v2 u0 u1 v0 v1 e=>ZX A C x y a1 a2 u0 u1 u2 v0 v1 v2 (if e=true then-1 else 1),fun _ a2 _ _ _ _ _ _ _=>a2.toNat,ZX.start ry.1 hxy, ?_⟩
 intro a1 r1 a2 r2 u2 _ v2 _ u0 _ u1 _ v0 _ v1 _ e hj;rw[dX]at r1 r2;have htot:=hj.total;obtain⟨n1,n2,n3,n4,n5,n6⟩:=hj.nn;obtain⟨o1,o2,o3,o4⟩:=hj.ord;obtain⟨k1,k2,k3⟩:=hj.a12;have fin:En a b u0 u1 v0 v1 (decide (e=true)):=fun h0=>by
  obtain⟨z1,z2,z3,z4,z5⟩:=hj.zero h0;have w1:=(hj.le1 (by omega)).1;have hv1:v1<4294967296:=by
   refine qG.1 fun hle=> ?_
   have g1:4294967296*4294967296<=v1*v1:=z9 hle hle (by decide) (by omega);have g2:v1*v1<=a1*v2:=z9 k3 o2 (by omega) (by omega);have g3:0<=a2*v1:=zD k1 (by omega);omega
  refine⟨⟨by omega,by omega,by omega,hv1⟩, ?_, ?_⟩
  ·intro he
   have he:e=true:=by simpa using he
   rw[he]at z2 z3 z4 z5;simp only[O,decide_true,if_true]at z2 z3 z4 z5;rw[hA,hC]at z3 z4 z5;refine⟨by omega,NH (P:=p) (by omega) ?_,vO (P:=p) (by omega) ?_,NH (P:=p) (by omega) ?_⟩
   ·have e1:p*(v1*vw b-u1*vw a)=-1*(u1*(vw a*p)-v1*(vw b*p)):=by grind
    omega
   ·have e1:p*(v1*vw b-u1*vw a)=-1*(u1*(vw a*p)-v1*(vw b*p)):=by grind
    have e2:p*(u0*vw a-v0*vw b)=-1*(v0*(vw b*p)-u0*(vw a*p)):=by grind
    omega
   ·have e2:p*(u0*vw a-v0*vw b)=-1*(v0*(vw b*p)-u0*(vw a*p)):=by grind
    rw[zB p (vw b)];omega
  ·intro he
   have he:e=false:=by simpa using he
   rw[he]at z2 z3 z4 z5;simp only[O,Bool.false_eq_true,decide_false,if_false]at z2 z3 z4 z5;rw[hA,hC]at z3 z4 z5;refine⟨by omega,NH (P:=p) (by omega) ?_,vO (P:=p) (by omega) ?_,NH (P:=p) (by omega) ?_⟩
   ·have e1:p*(u1*vw a-v1*vw b)=1*(u1*(vw a*p)-v1*(vw b*p)):=by grind
    omega
   ·have e1:p*(u1*vw a-v1*vw b)=1*(u1*(vw a*p)-v1*(vw b*p)):=by grind
    have e2:p*(v0*vw b-u0*vw a)=1*(v0*(vw b*p)-u0*(vw a*p)):=by grind
    omega
   ·have e2:p*(v0*vw b-u0*vw a)=1*(v0*(vw b*p)-u0*(vw a*p)):=by grind
    rw[zB p (vw b)];omega
 refine⟨fun hge=>⟨fun hc=> ?_,fun _=>⟨fin,trivial⟩⟩,fun _=>⟨fin,trivial⟩⟩
 have s1:1*v2<=a1*v2:=zA (by omega) (by omega);have s2:1*v1<=a2*v1:=zA (by omega) (by omega);rw[bI (x:=a1-a2) (by omega) (by omega),bI (x:=v1+v2) (by omega) (by omega)]at hc;have etd:qS a1 a2=a1/a2:=qJ r1.1;have etm:Int.tmod a1 a2=a1 % a2:=qK r1.1;have dq:=zH a1 a2;have mq:=zP a1 (show a2≠0 by omega);have mq':=zI a1 (show 0<a2 by omega);have q0:0<=a1/a2:=qD r1.1 r2.1;have q1:a1/a2<=a1:=Int.ediv_le_self _ r1.1;rw[etd,etm,bI (x:=a1/a2) q0 (by omega)];generalize a1/a2=qq at*;generalize a1 % a2=rr at*;have hnext:=hj.step (P:=P) (α:=A % P) (β:=C % P) (q:=qq) (r:=rr) (by rw[zB x P];omega) (by rw[zB y P];omega) mA mA' mC mC' (by omega) (by omega) (by rw[zB qq];omega) mq mq';have aBH:=hnext.total;have nn':=hnext.nn
 have oo':=hnext.ord;have t1:1*(v1+qq*v2)<=a2*(v1+qq*v2):=zA (by omega) (by omega);have t2:0<=rr*v2:=zD mq (by omega);have t3:0<=qq*u2:=zD q0 n3;have t4:0<=qq*v2:=zD q0 (by omega);rw[bI (x:=qq*u2) t3 (by omega),bI (x:=u1+qq*u2) (by omega) (by omega),bI (x:=qq*v2) t4 (by omega),bI (x:=v1+qq*v2) (by omega) (by omega)];have es:(-(if decide (e=true)=true then-1 else 1):Int)=(if decide (¬e=true)=true then-1 else 1):=by cases e<;>rfl
 rw[es]at hnext;exact⟨by omega,by omega,dX.2 (by omega),hnext,by show rr.toNat<a2.toNat;omega⟩
theorem adw:TV:=by
 intro u ru a ra v rv b rb hp hsa hsb;obtain⟨la,lb,hu,hv,hle⟩:=hp;unfold aB at la lb;rw[dX]at ru rv;have da:=aH ra;have db:=aH rb;have ha0:=len0 a;have hb0:=len0 b;obtain⟨m,hm⟩:∃m,m=imax a.len b.len+1:=⟨_,rfl⟩;have hma:a.len+1<=m:=by rw[hm];unfold imax;split<;>omega
 have hmb:b.len+1<=m:=by rw[hm];unfold imax;split<;>omega
 have hmu:m<=1073741825:=by rw[hm];unfold imax;split<;>omega
 rw[<-hm,rD (by omega)];refine⟨aJ _ (by omega),by omega,by omega,by omega,fun _=> ?_⟩
 refine⟨fun x y bo i w=>0<=i/\i<=m/\w.len=m/\(0<=x/\x<4294967296)/\(0<=y/\y<4294967296)/\(bo=0\/bo=1)/\
   bJ 4294967296 w i=u*Az 4294967296 a i-v*Az 4294967296 b i+(y+bo-x)*4294967296^i.toNat,fun _ _ _ i _=>(m-i).toNat,
  ⟨by omega,by omega,rD (by omega) _,⟨by decide,by decide⟩,⟨by decide,by decide⟩, .inl rfl,by simp[kZ,Az,fF]⟩,fun x _ y _ bo rbo i _ w uU hj=> ?_⟩
 obtain⟨i0,i1,hwl,hx,hy,LV,hwv⟩:=hj;have add:∀(f z c:Int),0<=f->f<4294967296->0<=z->z<4294967296->0<=c->c<4294967296->IntKind.wrap .u64 (z+IntKind.wrap .u64 (f*c))=z+f*c/\0<=z+f*c/\z+f*c<18446744073709551616/\(z+f*c)/4294967296<4294967296:=fun f z c f0 f1 z0 z1 c0 c1=>by
  have h1:f*c<=4294967295*4294967295:=z9 (by omega) (by omega) c0 (by omega);have h0:0<=f*c:=zD f0 c0;generalize f*c=m at*;rw[bI (x:=m) h0 (by omega),bI (x:=z+m) (by omega) (by omega)];omega
 refine⟨fun hlt=>⟨fun x'=>x'=x+u*wd a i,⟨fun _=>⟨fun h=>⟨i0,h,fun _=> ?_⟩,fun h=> ?_⟩,fun x' _ hx'=>⟨fun y'=>y'=y+v*wd b i,⟨fun _=>⟨fun h=>⟨i0,h,fun _=> ?_⟩,fun h=> ?_⟩,fun y' _ hy'=> ?_⟩⟩⟩⟩,fun hge=>⟨trivial,fun t _ ht=>⟨⟨?_,ht.1⟩,trivial⟩⟩⟩
 ·have e:wd a i=a.int i 0:=if_pos h
  have hc:=da.at i0 h;rw[e];exact(add u x _ ru.1 hu hx.1 hx.2 hc.1 hc.2).1
 ·have e:wd a i=0:=if_neg h
  rw[e,qV,z7]
 ·have e:wd b i=b.int i 0:=if_pos h
  have hc:=db.at i0 h;rw[e];exact(add v y _ rv.1 hv hy.1 hy.2 hc.1 hc.2).1
 ·have e:wd b i=0:=if_neg h
  rw[e,qV,z7]
 ·have ca:=tu (B:=4294967296) (by decide) da i0
  have cb:=tu (B:=4294967296) (by decide) db i0;obtain⟨_,x0,x1,x2⟩:=add u x _ ru.1 hu hx.1 hx.2 ca.1 ca.2;obtain⟨_,y0,y1,y2⟩:=add v y _ rv.1 hv hy.1 hy.2 cb.1 cb.2;have hx':x'=x+u*wd a i:=hx';have hy':y'=y+v*wd b i:=hy';rw[Jy,Jy,xR,xR];refine⟨by show bo<=1;omega,fun d rd o ro hq=>⟨i0,by omega,by decide,dX.2 (by omega),by decide,dX.2 (by omega),aJ _ (by omega),⟨by omega,by omega,by rw[dO];exact hwl,by omega,by omega,hq.2, ?_⟩, ?_⟩⟩
  ·have hq1:=hq.1
   have ex:x'=4294967296*(x'/4294967296)+x' % 4294967296:=by omega
   have ey:y'=4294967296*(y'/4294967296)+y' % 4294967296:=by omega
   rw[qC i0,tC _ _ i0,tC _ _ i0,hwv,show(i+1).toNat=i.toNat+1 from by omega,zC,hq1]
   generalize x'/4294967296=xq at*;generalize x' % 4294967296=xr at*;generalize y'/4294967296=yq at*;generalize y' % 4294967296=yr at*;generalize(4294967296:Int)^i.toNat=Q at*;have e1:xr=x+u*wd a i-4294967296*xq:=by omega
   have e2:yr=y+v*wd b i-4294967296*yq:=by omega
   rw[e1,e2]
   grind
  ·show(m-(i+1)).toNat<(m-i).toNat
   omega
 ·have ei:i=m:=by omega
  subst ei;rw[ht.2.2];unfold vw;rw[fD,hwl,hwv,uV _ _ (by omega),uV _ _ (by omega)];have hw:=(aH uU).o8 (B:=4294967296) (by decide) (i:=i) (by omega);rw[hwv,uV _ _ (by omega),uV _ _ (by omega)]at hw;have hua:u*val 4294967296 a<4294967296^i.toNat:=by
   have h1:=(da.bound (B:=4294967296) (by decide));have h2:=fA (B:=4294967296) (by decide) (show a.n<=i.toNat-1 by unfold zE at hma;omega);have e:(4294967296:Int)^i.toNat=4294967296*4294967296^(i.toNat-1):=by
    rw[zB,<-zC];congr 1;omega
   rw[e];have h3:u*val 4294967296 a<=4294967295*val 4294967296 a:=zA (by omega) h1.1;omega
  have hvb:0<=v*val 4294967296 b:=zD rv.1 (db.bound (by decide)).1;unfold vw at hle;generalize u*val 4294967296 a=X at*;generalize v*val 4294967296 b=Y at*;generalize(4294967296:Int)^i.toNat=Q at*;have hz:y+bo-x=0:=by
   rcases Int.lt_trichotomy (y+bo-x) 0 with h|h|h
   ·have:(y+bo-x)*Q<=-1*Q:=zA (by omega) (by omega)
    omega
   ·exact h
   ·have:1*Q<=(y+bo-x)*Q:=zA (by omega) (by omega)
    omega
  rw[hz];omega
theorem abR{x y x' y' a b c d a' b' c' d':Int}(h1:x'=a*x+b*y)(h2:y'=c*x+d*y)(h3:x=a'*x'+b'*y')(h4:y=c'*x'+d'*y'):zG x' y'=zG x y:=by
 have one:∀{x y x' y' a b c d:Int},x'=a*x+b*y->y'=c*x+d*y->zG x y∣zG x' y':=fun{x y x' y' a b c d} e1 e2=>by
  have g1:=Int.gcd_dvd_left x y;have g2:=Int.gcd_dvd_right x y;refine Int.dvd_gcd ?_ ?_
  ·rw[e1];exact Int.dvd_add (qX g1) (qX g2)
  ·rw[e2];exact Int.dvd_add (qX g1) (qX g2)
 exact Nat.dvd_antisymm (one h3 h4) (one h1 h2)
theorem gcd_div{x y q r:Int}(h:x=y*q+r):zG y r=zG x y:=
 abR (a:=0) (b:=1) (c:=1) (d:=-q) (a':=q) (b':=1) (c':=1) (d':=0) (by omega) (by rw[h];grind) (by rw[h];grind) (by omega)
theorem XG:MC:=by
 intro a ra b rb hp;obtain⟨la,lb,na,nb⟩:=hp;obtain⟨G,hG⟩:∃G,G=zG (vw a) (vw b):=⟨_,rfl⟩;have hva:0<=vw a:=((aH ra).bound (by decide)).1;have hvb:0<=vw b:=((aH rb).bound (by decide)).1;refine⟨fun x y=>aB x/\aB y/\bT x/\bT y/\vw y<=vw x/\zG (vw x) (vw y)=G,⟨⟨na,nb⟩,fun c _ hc=>⟨fun hlt=>⟨lb,la,nb,na, ?_, ?_⟩,fun hge=>⟨la,lb,na,nb, ?_,hG.symm⟩⟩⟩,fun x0 rx0 y0 ry0 hj0=> ?_⟩
 ·rcases hc with hc|hc|hc<;>omega
 ·rw[Int.gcd_comm,hG]
 ·rcases hc with hc|hc|hc<;>omega
 refine⟨fun x y=>aB x/\aB y/\bT x/\bT y/\vw y<=vw x/\zG (vw x) (vw y)=G,fun _ y=>(vw y).toNat,hj0,fun x rx y ry hj hsy=> ?_⟩
 obtain⟨lx,ly,nx,ny,hle,hg⟩:=hj;have dx:=aH rx;have dy:=aH ry;have hx0:0<=vw x:=(dx.bound (by decide)).1;have hy0:0<=vw y:=(dy.bound (by decide)).1;have hyl:=len0 y;have shorter:∀r:Sl,Ranged r [some .u32]->bT r->vw r<=vw y->r.len<=y.len:=fun r rr nr h=>nO (B:=4294967296) (by decide) (aH rr) nr dy h
 refine⟨fun hlt=>⟨⟨lx,ly,nx,ny,by omega,hle⟩,fun u0 ru0 u1 ru1 v0 rv0 v1 rv1 e hq=>⟨fun hz=>⟨⟨lx,ly,nx,ny,by omega⟩,fun q rq r rr hd=> ?_⟩,fun hnz=> ?_⟩⟩,fun hge _=>⟨fun hz=> ?_,fun hnz=> ?_⟩⟩
 ·obtain⟨h1,h2,h3,h4⟩:=hd
  refine⟨⟨ly, ?_,ny,h4,by omega, ?_⟩, ?_⟩
  ·have:=shorter r rr h4 (by omega)
   unfold aB at*;omega
  ·rw[gcd_div h1]
   exact hg
  ·have:=((aH rr).bound (B:=4294967296) (by decide)).1
   have:0<=vw r:=this;show(vw r).toNat<(vw y).toNat;omega
 ·obtain⟨⟨b1,b2,b3,b4⟩,hev,hod⟩:=hq hnz
  have next:∀s t:Sl,Ranged s [some .u32]->Ranged t [some .u32]->bT s->bT t->vw t<vw s->vw s<=vw y->zG (vw s) (vw t)=G->(aB s/\aB t/\bT s/\bT t/\vw t<=vw s/\zG (vw s) (vw t)=G)/\(vw t).toNat<(vw y).toNat:=fun s t rs rt ns nt h1 h2 h3=>by
   have k1:=shorter s rs ns h2;have k2:=shorter t rt nt (by omega);have:0<=vw t:=((aH rt).bound (by decide)).1;unfold aB at*;exact⟨⟨by omega,by omega,ns,nt,by omega,h3⟩,by omega⟩
  refine⟨fun he=> ?_,fun he=> ?_⟩
  ·obtain⟨d1,d2,d3,d4⟩:=hev (by simpa using he)
   refine⟨⟨lx,ly,b1,b3,by omega⟩,fun s rs hs=>⟨⟨ly,lx,b4,b2,by omega⟩,fun t rt ht=>next s t rs rt hs.2 ht.2 (by rw[hs.1,ht.1];exact d3) (by rw[hs.1];exact d4) ?_⟩⟩
   rw[<-hg];refine abR (a:=u0) (b:=-v0) (c:=-u1) (d:=v1) (a':=v1) (b':=v0) (c':=u1) (d':=u0) ?_ ?_ ?_ ?_
   ·rw[hs.1];grind
   ·rw[ht.1];grind
   ·rw[hs.1,ht.1]
    have:v1*(u0*vw x-v0*vw y)+v0*(v1*vw y-u1*vw x)=(u0*v1-v0*u1)*vw x:=by grind
    rw[this,d1];omega
   ·rw[hs.1,ht.1]
    have:u1*(u0*vw x-v0*vw y)+u0*(v1*vw y-u1*vw x)=(u0*v1-v0*u1)*vw y:=by grind
    rw[this,d1];omega
  ·obtain⟨d1,d2,d3,d4⟩:=hod (by simpa using he)
   refine⟨⟨ly,lx,b3,b1,by omega⟩,fun s rs hs=>⟨⟨lx,ly,b2,b4,by omega⟩,fun t rt ht=>next s t rs rt hs.2 ht.2 (by rw[hs.1,ht.1];exact d3) (by rw[hs.1];exact d4) ?_⟩⟩
   rw[<-hg];refine abR (a:=-u0) (b:=v0) (c:=u1) (d:=-v1) (a':=v1) (b':=v0) (c':=u1) (d':=u0) ?_ ?_ ?_ ?_
   ·rw[hs.1];grind
   ·rw[ht.1];grind
   ·rw[hs.1,ht.1]
    have:v1*(v0*vw y-u0*vw x)+v0*(u1*vw x-v1*vw y)=-(u0*v1-v0*u1)*vw x:=by grind
    rw[this,d1];omega
   ·rw[hs.1,ht.1]
    have:u1*(v0*vw y-u0*vw x)+u0*(u1*vw x-v1*vw y)=-(u0*v1-v0*u1)*vw y:=by grind
    rw[this,d1];omega
 ·have e0:vw y=0:=(bK (B:=4294967296) (by decide) dy ny).2 hz
  rw[e0,Int.gcd_zero_right]at hg;refine⟨⟨?_,nx⟩,trivial⟩
  rw[<-hG,<-hg];omega
 ·have hyp:0<y.len:=by omega
  refine⟨fun s t=>s.len<=2/\t.len<=2/\zG (vw s) (vw t)=G,⟨fun _=>⟨fun hl=>⟨⟨lx,ly,nx,ny,hyp⟩,fun q _ r rr hd=>⟨by omega, ?_, ?_⟩⟩,fun hl=>⟨by omega,by omega,hg⟩⟩,fun s rs t rt hst=>⟨hst.1,fun z1 rz1 h1=>⟨hst.2.1,fun z2 rz2 h2=> ?_⟩⟩⟩⟩
  ·have:=shorter r rr hd.2.2.2 (by have:=hd.2.1;omega)
   omega
  ·rw[gcd_div hd.1]
   exact hg
  ·refine⟨fun z w=>0<=z/\0<=w/\zG z w=G,fun _ w=>w.toNat,⟨(dX.1 rz1).1,(dX.1 rz2).1,by rw[show z1=vw s from h1,show z2=vw t from h2];exact hst.2.2⟩,fun z rz w uU hj=> ?_⟩
   obtain⟨z0,w0,hgz⟩:=hj;rw[dX]at rz uU;refine⟨fun hne=> ?_,fun heq=>⟨trivial,fun r _ hr=>⟨⟨?_,hr.2⟩,trivial⟩⟩⟩
   ·have e:=qK (b:=w) z0
    rw[e];have m0:=zP z (show w≠0 by omega);have m1:=zI z (show 0<w by omega);refine⟨hne,dX.2 (by omega),⟨w0,m0, ?_⟩,by show(z % w).toNat<w.toNat;omega⟩
    rw[gcd_div (q:=z/w) (r:=z % w) (x:=z) (zH z w).symm];exact hgz
   ·have:w=0:=q5.1 heq
    rw[this,Int.gcd_zero_right]at hgz;rw[hr.1,<-hG,<-hgz];omega
end Go.Sx.N
