/-
 Numbers written with digits, least significant first: values, bounds, order, uniqueness. Conditions: none; plain Lean.
-/
import Derived.Test.YtccbjhfdfbaekaaGreatEngE
open Go.Sx.Sl renaming len->zA,upd->zD,part->zE,rep->zH
open Int renaming mul_nonneg->zB,mul_le_mul_of_nonneg_right->zC,add_mul->zF,natCast_nonneg->zG,mul_comm->zI,mul_add->zP,mul_assoc->zR,le_of_lt->z0,one_mul->z1,mul_le_mul_of_nonneg_left->z2,toNat_natCast->z3,toNat_of_nonneg->z4,pow_pos->z6,mul_le_mul->z7
open Nat renaming le_succ->zL
open Rat renaming divInt->z5
set_option linter.unusedVariables false
set_option linter.unusedSimpArgs false
namespace Go.Sx.N
abbrev iA(x:Int):Prop:=Rng .i64 x
def fF(B:Int)(f:Nat->Int):Nat->Int
 |0=>0
 |n+1=>fF B f n+f n*B^n
def Dg(B:Int)(f:Nat->Int)(n:Nat):Prop:=∀k,k<n->0<=f k/\f k<B
theorem Dg.mono{B:Int}{f:Nat->Int}{n m:Nat}(h:Dg B f n)(hm:m<=n):Dg B f m:=fun k hk=>h k (by omega)
theorem Dg.shift{B:Int}{f:Nat->Int}{m n:Nat}(h:Dg B f (m+n)):Dg B (fun k=>f (m+k)) n:=fun k hk=>h (m+k) (by omega)
theorem fC{B:Int}(hB:0<B)(n:Nat):0<B^n:=z6 hB
theorem iF(B:Int)(f:Nat->Int)(n:Nat):fF B f (n+1)=fF B f n+f n*B^n:=rfl
theorem l7{B:Int}{f g:Nat->Int}:∀{n:Nat},(∀k,k<n->f k=g k)->fF B f n=fF B g n
 |0,_=>rfl
 |n+1,h=>by
  rw[iF,iF,l7 (fun k hk=>h k (by omega)),h n (by omega)]
theorem vX(B:Int)(f:Nat->Int)(m:Nat):∀n,fF B f (m+n)=fF B f m+B^m*fF B (fun k=>f (m+k)) n
 |0=>by simp[fF]
 |n+1=>by
  rw[<-Nat.add_assoc,iF,iF,vX B f m n,Int.pow_add,zP,Int.add_assoc]
  congr 1
  congr 1
  rw[zI (B^m) (f (m+n)*B^n),zR,zI (B^m)]
theorem DT{B:Int}{f:Nat->Int}:∀{n:Nat},(∀k,k<n->f k=0)->fF B f n=0
 |0,_=>rfl
 |n+1,h=>by
  rw[iF,DT (fun k hk=>h k (by omega)),h n (by omega)]
  simp
theorem arI(B:Int)(f:Nat->Int):fF B f 1=f 0:=by
 simp[fF]
theorem arJ(B:Int)(f:Nat->Int)(n:Nat):fF B f (n+1)=f 0+B*fF B (fun k=>f (k+1)) n:=by
 rw[Nat.add_comm n 1,vX,arI,Int.pow_one]
 congr 2
 exact l7 fun k _=>by rw[Nat.add_comm]
theorem jg{B:Int}(hB:0<B){f:Nat->Int}:∀{n:Nat},Dg B f n->0<=fF B f n/\fF B f n<B^n
 |0,_=>by simp[fF]
 |n+1,h=>by
  have ih:=jg hB (n:=n) (h.mono (by omega));have hn:=h n (by omega);have hp:=fC hB n;have h1:0<=f n*B^n:=zB hn.1 (z0 hp);have h2:(f n+1)*B^n<=B*B^n:=zC (by omega) (z0 hp);rw[zF,z1]at h2;rw[iF,Int.pow_succ,zI (B^n) B];omega
theorem arK{B:Int}(hB:0<B){f:Nat->Int}{n:Nat}(h:Dg B f (n+1))(hn:f n≠0):B^n<=fF B f (n+1):=by
 have hb:=jg hB (h.mono (zL n));have h0:=h n (by omega);have hp:=fC hB n;have h2:1*B^n<=f n*B^n:=zC (by omega) (z0 hp);rw[iF];omega
theorem fA{B:Int}(hB:0<B){m n:Nat}(h:m<=n):B^m<=B^n:=by
 obtain⟨k,rfl⟩:=Nat.le.dest h;rw[Int.pow_add];have h1:=fC hB m;have h2:=fC hB k;have:B^m*1<=B^m*B^k:=z2 (by omega) (by omega);omega
theorem Qi{B:Int}(hB:1<B){m n:Nat}(h:B^m<B^n):m<n:=by
 refine Nat.lt_of_not_le fun hle=> ?_
 have:=fA (show 0<B by omega) hle;omega
theorem abD{P a b x y:Int}(hx:0<=x)(hxP:x<P)(hy:0<=y)(h:a<b):x+a*P<y+b*P:=by
 have h2:(a+1)*P<=b*P:=zC (by omega) (by omega);rw[zF,z1]at h2;omega
theorem avs{P a b x y:Int}(hx:0<=x)(hxP:x<P)(hy:0<=y)(hyP:y<P)(h:x+a*P=y+b*P):a=b/\x=y:=by
 have:a=b:=by
  rcases Int.lt_trichotomy a b with g|g|g
  ·have:=abD (P:=P) hx hxP hy g;omega
  ·exact g
  ·have:=abD (P:=P) hy hyP hx g;omega
 subst this;exact⟨rfl,by omega⟩
theorem afv{B:Int}(hB:0<B){f g:Nat->Int}:∀{n:Nat},Dg B f n->Dg B g n->fF B f n=fF B g n->∀k,k<n->f k=g k
 |0,_,_,_=>fun k hk=>absurd hk (by omega)
 |n+1,hf,hg,h=>by
  have bf:=jg hB (hf.mono (zL n));have bg:=jg hB (hg.mono (zL n));rw[iF,iF]at h;obtain⟨e,e'⟩:=avs bf.1 bf.2 bg.1 bg.2 h;intro k hk;by_cases hkn:k=n
  ·rw[hkn];exact e
  ·exact afv hB (hf.mono (zL n)) (hg.mono (zL n)) e' k (by omega)
theorem aip{B:Int}(hB:0<B){f g:Nat->Int}{i n:Nat}(hf:Dg B f n)(hg:Dg B g n)(hi:i<n)(he:∀k,i<k->k<n->f k=g k)(hl:f i<g i):fF B f n<fF B g n:=by
 obtain⟨k,rfl⟩:=Nat.le.dest (show i+1<=n from hi)
 rw[vX B f,vX B g,l7 (f:=fun k=>f (i+1+k)) (g:=fun k=>g (i+1+k)) (fun j hj=>he _ (by omega) (by omega))]
 have bf:=jg hB (hf.mono (show i<=i+1+k by omega));have bg:=jg hB (hg.mono (show i<=i+1+k by omega));have:=abD (P:=B^i) bf.1 bf.2 bg.1 hl;rw[iF,iF];omega
def Nm(f:Nat->Int)(n:Nat):Prop:=0<n->f (n-1)≠0
theorem Nm.pos{B:Int}(hB:0<B){f:Nat->Int}{n:Nat}(hf:Dg B f n)(hn:Nm f n)(h:0<n):B^(n-1)<=fF B f n:=by
 have e:n=n-1+1:=by omega
 have:=arK hB (n:=n-1) (f:=f) (by rw[<-e];exact hf) (hn h);rw[<-e]at this;exact this
theorem Nm.lt{B:Int}(hB:0<B){f g:Nat->Int}{n m:Nat}(hf:Dg B f n)(hg:Dg B g m)(hm:Nm g m)(h:n<m):fF B f n<fF B g m:=by
 have h1:=(jg hB hf).2;have h2:=hm.pos hB hg (by omega);have h3:=fA hB (show n<=m-1 by omega);omega
theorem Nm.eq{B:Int}(hB:0<B){f g:Nat->Int}{n m:Nat}(hf:Dg B f n)(hn:Nm f n)(hg:Dg B g m)(hm:Nm g m)(h:fF B f n=fF B g m):n=m/\∀k,k<n->f k=g k:=by
 have e:n=m:=by
  rcases Nat.lt_trichotomy n m with g'|g'|g'
  ·have:=Nm.lt hB hf hg hm g';omega
  ·exact g'
  ·have:=Nm.lt hB hg hf hn g';omega
 subst e;exact⟨rfl,afv hB hf hg h⟩
theorem Nm.zero{B:Int}(hB:0<B){f:Nat->Int}{n:Nat}(hf:Dg B f n)(hn:Nm f n):fF B f n=0↔n=0:=by
 constructor
 ·intro h
  refine Nat.eq_zero_of_not_pos fun hp=> ?_
  have:=hn.pos hB hf hp;have:=fC hB (n-1);omega
 ·intro h
  subst h;rfl
theorem Nm.le{B:Int}(hB:1<B){f:Nat->Int}{n k:Nat}(hf:Dg B f n)(hn:Nm f n):n<=k↔fF B f n<B^k:=by
 have hB':0<B:=by omega
 constructor
 ·intro h
  have h1:=(jg hB' hf).2;have h2:=fA hB' h;omega
 ·intro h
  refine Nat.le_of_not_lt fun hlt=> ?_
  have h1:=hn.pos hB' hf (by omega);have h2:=fA hB' (show k<=n-1 by omega);omega
theorem arL{B P V w top v2 vl hd u2 ul digit rest:Int}(hB:0<B)(hP:0<P)(ht:1<=top)(hV:V=(top*B+v2)*P+vl)(hv2:0<=v2)(hvl:0<=vl)(hvP:vl<P)
  (hw:w=(hd*B+u2)*P+ul) (Ar:0<=ul) (hr:digit*top+rest=hd) (hd0:0<=digit) (hd1:digit<B) (ht2:digit*v2<=rest*B+u2):(digit-1)*V<=w:=by
 have h1:digit*(top*B+v2)<=hd*B+u2:=by
  have e:digit*(top*B+v2)=digit*top*B+digit*v2:=by rw[zP,zR]
  have e2:hd*B=digit*top*B+rest*B:=by rw[<-hr,zF]
  omega
 have h2:digit*(top*B+v2)*P<=(hd*B+u2)*P:=zC h1 (by omega);have h3:digit*vl<=B*P:=z7 (by omega) (by omega) hvl (by omega);have h4:1*(B*P)<=top*(B*P):=zC ht (zB (by omega) (by omega));have h5:0<=v2*P:=zB hv2 (by omega);have e3:(digit-1)*V=digit*(top*B+v2)*P+digit*vl-(top*(B*P)+v2*P+vl):=by
  rw[hV]
  grind
 omega
theorem arM{B P V w top v2 vl hd u2 ul digit rest:Int}(hP:0<P)(hV:V=(top*B+v2)*P+vl)(hvl:0<=vl)
  (hw:w=(hd*B+u2)*P+ul) (Ar:ul<P) (hr:digit*top+rest=hd) (hd0:0<=digit) (ht2:rest*B+u2<digit*v2):w<digit*V:=by
 have h1:hd*B+u2+1<=digit*(top*B+v2):=by
  have e:digit*(top*B+v2)=digit*top*B+digit*v2:=by rw[zP,zR]
  have e2:hd*B=digit*top*B+rest*B:=by rw[<-hr,zF]
  omega
 have h2:(hd*B+u2+1)*P<=digit*(top*B+v2)*P:=zC h1 (by omega);rw[zF,z1]at h2;have h3:0<=digit*vl:=zB hd0 hvl;have e3:digit*V=digit*(top*B+v2)*P+digit*vl:=by rw[hV,zP,zR]
 omega
theorem arN{P α β a2 u2 v2 s:Int}(hα:0<=α)(hαP:α<P)(hβ:0<=β)(hβP:β<P)(hs:s=1\/s=-1)(hu:0<=u2)(huv:u2<=v2)(h:v2<=a2):
  0<=a2*P+s*(v2*β-u2*α):=by
 have h1:v2*P<=a2*P:=zC h (by omega);have h2:u2*α<=v2*P:=z7 huv (by omega) hα (by omega);have h3:v2*β<=v2*P:=z2 (by omega) (by omega);have h4:0<=v2*β:=zB (by omega) hβ;have h5:0<=u2*α:=zB hu hα;rcases hs with rfl|rfl<;>omega
theorem arO{P α β a1 a2 u1 u2 v1 v2 s:Int}(hα:0<=α)(hαP:α<P)(hβ:0<=β)(hβP:β<P)(hs:s=1\/s=-1)(hu1:0<=u1)(hu2:0<=u2)
  (huv:u1+u2<=v1+v2) (h:v1+v2<=a1-a2) (hv:0<v1+v2):a2*P+s*(v2*β-u2*α)<a1*P+s*(u1*α-v1*β):=by
 have h1:(v1+v2)*P<=(a1-a2)*P:=zC h (by omega);have h2:(u1+u2)*α<=(v1+v2)*(P-1):=z7 huv (by omega) hα (by omega);have h3:(v1+v2)*β<=(v1+v2)*(P-1):=z2 (by omega) (by omega);have h4:0<=(v1+v2)*β:=zB (by omega) hβ;have h5:0<=(u1+u2)*α:=zB (by omega) hα;rw[Int.mul_sub,Int.mul_one]at h2 h3;rw[Int.sub_mul]at h1;have e1:(u1+u2)*α=u1*α+u2*α:=zF ..;have e2:(v1+v2)*β=v1*β+v2*β:=zF ..;rcases hs with rfl|rfl<;>omega
structure ZX(A B x y a1 a2 u0 u1 u2 v0 v1 v2 s:Int):Prop where
 sign:s=1\/s=-1
 nn:0<=u0/\0<=u1/\0<=u2/\0<=v0/\0<=v1/\1<=v2
 ord:v0<=v1/\v1<=v2/\u2<=v2/\u1+u2<=v1+v2
 e1:a1=s*(u1*x-v1*y)
 e2:a2=s*(v2*y-u2*x)
 det:u1*v2-v1*u2=s
 a12:0<=a2/\a2<=a1/\v1<=a1
 one:v1=0->u1=1/\u2=0/\v2=1/\s=1
 le1:v1≠0->u1<=v1/\s*(u1*A-v1*B)<=B
 zero:v0≠0->u0<=v0/\u0*v1-v0*u1=-s/\0<=s*(u1*A-v1*B)/\s*(u1*A-v1*B)<s*(v0*B-u0*A)/\s*(v0*B-u0*A)<=B
theorem ZX.start{A B x y:Int}(hy:0<=y)(hxy:y<=x):ZX A B x y x y 0 1 0 0 0 1 1 where
 sign:= .inl rfl
 nn:=by omega
 ord:=by omega
 e1:=by omega
 e2:=by omega
 det:=by omega
 a12:=by omega
 one:=fun _=>⟨rfl,rfl,rfl,rfl⟩
 le1:=fun h=>absurd rfl h
 zero:=fun h=>absurd rfl h
theorem ZX.total{A B x y a1 a2 u0 u1 u2 v0 v1 v2 s:Int}(h:ZX A B x y a1 a2 u0 u1 u2 v0 v1 v2 s):a1*v2+a2*v1=x:=by
 have h1:=h.e1;have h2:=h.e2;have h3:=h.det;have h4:s*s=1:=by rcases h.sign with rfl|rfl<;>rfl
 have e:a1*v2+a2*v1=s*(u1*v2-v1*u2)*x:=by rw[h1,h2];grind
 rw[e,h3,h4,z1]
theorem ZX.step{A B x y a1 a2 u0 u1 u2 v0 v1 v2 s P α β q r:Int}(h:ZX A B x y a1 a2 u0 u1 u2 v0 v1 v2 s)(hA:A=x*P+α)(hB:B=y*P+β)
  (hα:0<=α) (hαP:α<P) (hβ:0<=β) (hβP:β<P) (hc2:v2<=a2) (hc1:v1+v2<=a1-a2) (hq:a1=q*a2+r) (hr:0<=r) (hra:r<a2):
  ZX A B x y a2 r u1 u2 (u1+q*u2) v1 v2 (v1+q*v2) (-s):=by
 have T2:s*(v2*B-u2*A)=a2*P+s*(v2*β-u2*α):=by rw[hA,hB,h.e2];grind
 have T1:s*(u1*A-v1*B)=a1*P+s*(u1*α-v1*β):=by rw[hA,hB,h.e1];grind
 obtain⟨n1,n2,n3,n4,n5,n6⟩:=h.nn;obtain⟨o1,o2,o3,o4⟩:=h.ord;have p2:=arN hα hαP hβ hβP h.sign n3 o3 hc2;have p1:=arO hα hαP hβ hβP h.sign n2 n3 o4 hc1 (by omega);rw[<-T2]at p2;rw[<-T2,<-T1]at p1;have hq1:1<=q:=by
  refine Int.not_lt.1 fun hlt=> ?_
  have:q*a2<=0*a2:=zC (by omega) (by omega);have:=h.a12;omega
 have qv:1*v2<=q*v2:=zC hq1 (by omega);have qu0:0<=q*u2:=zB (by omega) n3;have quv:q*u2<=q*v2:=z2 o3 (by omega);have hone:=h.one;have hle1:=h.le1;have neg:∀z:Int,(-s)*z=-(s*z):=fun z=>Int.neg_mul ..
 refine⟨?_,by omega,⟨o2,by omega, ?_, ?_⟩, ?_, ?_, ?_,⟨hr,by omega,hc2⟩,fun h0=>by omega,fun _=>⟨o3, ?_⟩,fun h0=>⟨(hle1 h0).1, ?_, ?_, ?_, ?_⟩⟩
 ·rcases h.sign with rfl|rfl
  ·exact .inr rfl
  ·exact .inl rfl
 ·by_cases hv:v1=0
  ·obtain⟨g1,g2,g3,g4⟩:=hone hv
   subst g1 g2 g3;omega
  ·have:=(hle1 hv).1
   omega
 ·by_cases hv:v1=0
  ·obtain⟨g1,g2,g3,g4⟩:=hone hv
   subst g1 g2 g3;omega
  ·have:=(hle1 hv).1
   omega
 ·rw[h.e2];grind
 ·have e1:=h.e1
  have e2:=h.e2
  grind
 ·have:=h.det
  grind
 ·by_cases hv:v1=0
  ·obtain⟨g1,g2,g3,g4⟩:=hone hv
   subst g1 g2 g3 g4;omega
  ·have:=(hle1 hv).2
   grind
 ·have:=h.det
  grind
 ·grind
 ·grind
 ·have:=(hle1 h0).2
  grind
theorem au{x:Int}:iA x↔-9223372036854775808<=x/\x<=9223372036854775807:=Iff.rfl
theorem dX{x:Int}:Rng .u64 x↔0<=x/\x<=18446744073709551615:=Iff.rfl
theorem rZ{x:Int}:Rng .u32 x↔0<=x/\x<=4294967295:=Iff.rfl
theorem O1{x:Int}:Rng .u16 x↔0<=x/\x<=65535:=Iff.rfl
theorem aJ(x:Int)(h:-9223372036854775808<=x/\x<=9223372036854775807):iA x:=h
theorem len0(s:Sl):0<=s.len:=zG _
theorem iW{s:Sl}(h:Small s):s.len<=140737488355328:=by
 unfold Small at h;unfold zA;omega
theorem acM(s:Sl):s.len.toNat=s.n:=by unfold zA;omega
theorem wu64(x:Int):IntKind.wrap .u64 x=x % 18446744073709551616:=IntKind.wrap_u64 x
theorem xR(x:Int):IntKind.wrap .u32 x=x % 4294967296:=IntKind.wrap_u32 x
theorem afw(x:Int):IntKind.wrap .u16 x=x % 65536:=IntKind.wrap_u16 x
theorem wu8(x:Int):IntKind.wrap .u8 x=x % 256:=IntKind.wrap_u8 x
theorem bI{x:Int}(h:0<=x)(h':x<18446744073709551616):IntKind.wrap .u64 x=x:=by rw[wu64];omega
theorem nI{x:Int}(h:0<=x)(h':x<4294967296):IntKind.wrap .u32 x=x:=by rw[xR];omega
theorem zX{x:Int}(h:0<=x)(h':x<65536):IntKind.wrap .u16 x=x:=by rw[afw];omega
theorem O4(k:IntKind)(x:Int){n:Nat}(h:n<=k.bits):shl k x n=x*2^n:=by
 unfold shl;rw[z3,Nat.min_eq_left h]
theorem rC(k:IntKind){x:Int}{n:Nat}(h:n<=k.bits):shr k x n=x/2^n:=by
 unfold shr;rw[z3,Nat.min_eq_left h,Int.fdiv_eq_ediv_of_nonneg _ (z0 (z6 (by decide)))]
theorem azi(x:Int):shl .u64 x 32=x*4294967296:=O4 .u64 x (n:=32) (by decide)
theorem Jy(x:Int):shr .u64 x 32=x/4294967296:=rC .u64 (n:=32) (by decide)
theorem as6(x:Int):shr .u64 x 63=x/9223372036854775808:=rC .u64 (n:=63) (by decide)
theorem akp(x:Int):shr .u32 x 16=x/65536:=rC .u32 (n:=16) (by decide)
theorem axU(x:Int):shr .u32 x 8=x/256:=rC .u32 (n:=8) (by decide)
theorem azj(x:Int):shr .u32 x 31=x/2147483648:=rC .u32 (n:=31) (by decide)
theorem GU{n:Nat}{x:Int}(h:0<=x)(h':x<2^n):(BitVec.ofInt n x).toNat=x.toNat:=by
 rw[BitVec.toNat_ofInt,Int.emod_eq_of_lt h (by exact_mod_cast h')]
theorem JW{k:IntKind}{a b:Int}{i:Nat}(ha:0<=a)(hb:0<=b)(hbi:b<2^i)(hk:a*2^i+b<2^k.bits):bor k (a*2^i) b=a*2^i+b:=by
 have hp:(0:Int)<2^i:=z6 (by decide);have h0:0<=a*2^i:=zB ha (by omega);unfold bor;rw[BitVec.toNat_or,GU h0 (by omega),GU hb (by omega)];have e1:(a*2^i).toNat=2^i*a.toNat:=by
  obtain⟨n,rfl⟩:=Int.eq_ofNat_of_zero_le ha;rw[zI];have:((2:Int)^i*(n:Int))=((2^i*n:Nat):Int):=by simp
  rw[this,z3,z3]
 have hlt:b.toNat<2^i:=by
  have:((b.toNat:Nat):Int)<((2^i:Nat):Int):=by rw[z4 hb];simpa using hbi
  exact_mod_cast this
 rw[e1,<-Nat.two_pow_add_eq_or_of_lt hlt];have:(((2^i*a.toNat+b.toNat:Nat)):Int)=2^i*((a.toNat:Nat):Int)+((b.toNat:Nat):Int):=by simp
 rw[this,z4 ha,z4 hb,zI]
theorem afx(k:IntKind)(a b:Int):bor k a b=bor k b a:=by
 unfold bor;rw[BitVec.or_comm]
theorem arP{k:IntKind}{b:Int}(hb:0<=b)(hk:b<2^k.bits):bor k 0 b=b:=by
 have:=JW (k:=k) (a:=0) (b:=b) (i:=k.bits) (Int.le_refl 0) hb hk (by omega)
 rwa[Int.zero_mul,Int.zero_add]at this
theorem Jz(j:Nat):(65536:Int)^(2*j)=4294967296^j:=by
 rw[Int.pow_mul,show(65536:Int)^2=4294967296 from rfl]
theorem azk{a b:Int}(ha:0<=a)(ha':a<4294967296)(hb:0<=b)(hb':b<4294967296):bor .u64 (a*4294967296) b=a*4294967296+b:=
 JW (k:= .u64) (i:=32) ha hb hb' (by show a*4294967296+b<18446744073709551616;omega)
theorem two32{a b:Int}(ha:0<=a)(ha':a<4294967296)(hb:0<=b)(hb':b<4294967296):IntKind.wrap .u64 (bor .u64 (IntKind.wrap .u64 (shl .u64 a 32)) b)=a*4294967296+b:=by
 rw[azi,bI (x:=a*4294967296) (by omega) (by omega),azk ha ha' hb hb',bI (by omega) (by omega)]
def dg(s:Sl):Nat->Int:=fun k=>s.int k 0
def val(B:Int)(s:Sl):Int:=fF B (dg s) s.n
def bJ(B:Int)(s:Sl)(i:Int):Int:=fF B (dg s) i.toNat
def jC(B:Int)(s:Sl)(i:Int):Int:=fF B (fun k=>dg s (i.toNat+k)) (s.n-i.toNat)
def vw(s:Sl):Int:=val 4294967296 s
def vl(s:Sl):Int:=val 65536 s
def bT(s:Sl):Prop:=0<s.len->s.int (s.len-1) 0≠0
def bC(B:Int)(s:Sl):Prop:=Dg B (dg s) s.n
theorem uH{s:Sl}{i:Int}(h:0<=i):dg s i.toNat=s.int i 0:=by
 unfold dg;rw[z4 h]
theorem aH{s:Sl}(h:Ranged s [some .u32]):bC 4294967296 s:=fun k hk=>by
 have:=rZ.1 (h k 0 .u32 (zG _) (by omega) rfl);show 0<=s.int k 0/\s.int k 0<4294967296;omega
theorem aj{s:Sl}(h:Ranged s [some .u16]):bC 65536 s:=fun k hk=>by
 have:=O1.1 (h k 0 .u16 (zG _) (by omega) rfl);show 0<=s.int k 0/\s.int k 0<65536;omega
theorem bC.at{B:Int}{s:Sl}(h:bC B s){i:Int}(h0:0<=i)(h1:i<s.len):0<=s.int i 0/\s.int i 0<B:=by
 rw[<-uH h0];exact h i.toNat (by unfold zA at h1;omega)
theorem yQ{s:Sl}:bT s↔Nm (dg s) s.n:=by
 constructor
 ·intro h hp
  have h1:=h (by unfold zA;omega);rw[<-uH (by unfold zA;omega)]at h1;have:(s.len-1).toNat=s.n-1:=by unfold zA;omega
  rw[this]at h1;exact h1
 ·intro h hp
  have h1:=h (by unfold zA at hp;omega);have:(s.len-1).toNat=s.n-1:=by unfold zA;omega
  rw[<-this,uH (by omega)]at h1;exact h1
theorem fD(B:Int)(s:Sl):val B s=bJ B s s.len:=by
 unfold val bJ;rw[acM]
theorem kZ(B:Int)(s:Sl):bJ B s 0=0:=rfl
theorem dK(B:Int)(s:Sl){i:Int}(h:0<=i):bJ B s (i+1)=bJ B s i+s.int i 0*B^i.toNat:=by
 unfold bJ;have:(i+1).toNat=i.toNat+1:=by omega
 rw[this,iF,uH h]
theorem oZ(B:Int)(s:Sl):jC B s 0=val B s:=by
 unfold jC val;simp
theorem Gl(B:Int)(s:Sl){i:Int}(h:s.len<=i):jC B s i=0:=by
 unfold jC;have:s.n-i.toNat=0:=by unfold zA at h;omega
 rw[this];rfl
theorem o7(B:Int)(s:Sl){i:Int}(h:0<=i)(h':i<s.len):jC B s i=s.int i 0+B*jC B s (i+1):=by
 unfold jC;have e:s.n-i.toNat=(s.n-(i+1).toNat)+1:=by unfold zA at h';omega
 rw[e,arJ];have e0:dg s (i.toNat+0)=s.int i 0:=by rw[Nat.add_zero,uH h]
 rw[e0]
 congr 2
 exact l7 fun k _=>by congr 1;omega
theorem bC.bound{B:Int}(hB:0<B){s:Sl}(h:bC B s):0<=val B s/\val B s<B^s.n:=jg hB h
theorem bC.o8{B:Int}(hB:0<B){s:Sl}(h:bC B s){i:Int}(hi:i<=s.len):0<=bJ B s i/\bJ B s i<B^i.toNat:=jg hB (h.mono (by unfold zA at hi;omega))
theorem bC.Dh{B:Int}(hB:0<B){s:Sl}(h:bC B s){i:Int}(hi:i<=s.len):0<=jC B s i/\jC B s i<B^(s.n-i.toNat):=by
 refine jg hB (Dg.shift ?_)
 have:i.toNat+(s.n-i.toNat)=s.n:=by unfold zA at hi;omega
 rw[this];exact h
theorem dY{s:Sl}{i k x:Int}(h0:0<=i)(h1:0<=k):(zD s i 0 [.int x]).int k 0=if k=i then x else s.int k 0:=by
 unfold Sl.int zD;by_cases h:k=i
 ·subst h;simp[D.toI]
 ·have:¬k.toNat=i.toNat:=by omega
  simp[h,this]
theorem dO(s:Sl)(i:Int)(j:Nat)(c:List D):(zD s i j c).len=s.len:=rfl
theorem adI(s:Sl)(i:Int)(j:Nat)(c:List D):(zD s i j c).n=s.n:=rfl
theorem O5{s:Sl}{i x:Int}(h0:0<=i)(k:Nat):dg (zD s i 0 [.int x]) k=if k=i.toNat then x else dg s k:=by
 unfold dg;rw[dY h0 (zG _)];by_cases h:k=i.toNat
 ·rw[if_pos h,if_pos (by omega)]
 ·rw[if_neg h,if_neg (by omega)]
theorem O6{B:Int}{s:Sl}{i x k:Int}(h0:0<=i)(hk:k<=i):bJ B (zD s i 0 [.int x]) k=bJ B s k:=
 l7 fun j hj=>by rw[O5 h0,if_neg (by omega)]
theorem qC{B:Int}{s:Sl}{i x:Int}(h0:0<=i):bJ B (zD s i 0 [.int x]) (i+1)=bJ B s i+x*B^i.toNat:=by
 rw[dK B _ h0,O6 h0 (Int.le_refl i),dY h0 h0,if_pos rfl]
theorem VQ{B:Int}{s:Sl}{i x k:Int}(h0:0<=i)(hk:i<k):jC B (zD s i 0 [.int x]) k=jC B s k:=by
 unfold jC;rw[adI];exact l7 fun j hj=>by rw[O5 h0,if_neg (by omega)]
theorem afy{B:Int}{f g:Nat->Int}{i:Nat}(h:∀k,k≠i->g k=f k):∀{n:Nat},i<n->fF B g n=fF B f n+(g i-f i)*B^i
 |0,hi=>absurd hi (by omega)
 | n+1,hi=>by
  rw[iF,iF];by_cases e:i=n
  ·subst e
   rw[l7 (fun k hk=>h k (by omega)),Int.sub_mul]
   omega
  ·rw[afy h (by omega),h n (fun e'=>e e'.symm)]
   omega
theorem zY{B:Int}{s:Sl}{i x:Int}(h0:0<=i)(h1:i<s.len):val B (zD s i 0 [.int x])=val B s+(x-s.int i 0)*B^i.toNat:=by
 unfold val;rw[adI,afy (f:=dg s) (i:=i.toNat) (fun k hk=>by rw[O5 h0,if_neg hk]) (by unfold zA at h1;omega),O5 h0,if_pos rfl,uH h0]
theorem nK{s:Sl}{l h:Int}(h0:l<=h):(zE s l h).len=h-l:=by
 unfold zA zE;show(((h-l).toNat:Nat):Int)=h-l;omega
theorem Yp{s:Sl}{l h i:Int}{j:Nat}(h0:0<=l)(h1:0<=i):(zE s l h).int i j=s.int (l+i) j:=by
 unfold Sl.int zE;show D.toI (s.f (l.toNat+i.toNat) j)=D.toI (s.f (l+i).toNat j);have:(l+i).toNat=l.toNat+i.toNat:=by omega
 rw[this]
theorem Hz{s:Sl}{h i:Int}{j:Nat}(h1:0<=i):(zE s 0 h).int i j=s.int i j:=by rw[Yp (by omega) h1,Int.zero_add]
theorem yR{B:Int}{s:Sl}{h:Int}(h0:0<=h):val B (zE s 0 h)=bJ B s h:=by
 rw[fD,nK h0,Int.sub_zero];exact l7 fun k hk=>Hz (zG _)
theorem acN{B:Int}{s:Sl}(hs:bC B s){h:Int}(h0:0<=h)(h1:h<=s.len):bC B (zE s 0 h):=fun k hk=>by
 have e:dg (zE s 0 h) k=dg s k:=Hz (zG _);rw[e];refine hs k ?_
 have:(zE s 0 h).n=(h-0).toNat:=rfl;unfold zA at h1;omega
theorem rD{n:Int}(h:0<=n)(z:List D):(zH n z).len=n:=by
 unfold zA zH;show((n.toNat:Nat):Int)=n;omega
theorem O7(n i:Int):(zH n [.int 0]).int i 0=0:=rfl
theorem abE(B:Int)(n:Int):val B (zH n [.int 0])=0:=DT fun _ _=>rfl
theorem avt(B:Int)(n i:Int):bJ B (zH n [.int 0]) i=0:=DT fun _ _=>rfl
theorem VR(B:Int)(n i:Int):jC B (zH n [.int 0]) i=0:=DT fun _ _=>rfl
theorem avu(B:Int):val B Sl.nil=0:=rfl
theorem JX:bT Sl.nil:=fun h=>absurd h (by decide)
theorem len_nil:Sl.nil.len=0:=rfl
theorem dG(a b:Sl):(Sl.app a b).len=a.len+b.len:=by
 show(((a.n+b.n:Nat)):Int)=_;unfold zA;omega
theorem aS{a b:Sl}{i:Int}{j:Nat}(h:0<=i)(h':i<a.len):(Sl.app a b).int i j=a.int i j:=by
 have:i.toNat<a.n:=by unfold zA at h';omega
 show D.toI (if i.toNat<a.n then a.f i.toNat j else b.f (i.toNat-a.n) j)=_
 rw[if_pos this];rfl
theorem aG{a b:Sl}{i:Int}{j:Nat}(h:a.len<=i):(Sl.app a b).int i j=b.int (i-a.len) j:=by
 have h0:=len0 a;have:¬i.toNat<a.n:=by unfold zA at*;omega
 have e:(i-a.len).toNat=i.toNat-a.n:=by unfold zA at*;omega
 show D.toI (if i.toNat<a.n then a.f i.toNat j else b.f (i.toNat-a.n) j)=D.toI (b.f (i-a.len).toNat j)
 rw[if_neg this,e]
def dL(a b:Sl):Prop:=a.len=b.len/\∀i:Int,0<=i->i<a.len->a.int i 0=b.int i 0
theorem dL.val{a b:Sl}(h:dL a b)(B:Int):N.val B a=N.val B b:=by
 obtain⟨hl,hi⟩:=h;have e:a.n=b.n:=by unfold zA at hl;omega
 unfold N.val;rw[<-e];exact l7 fun k hk=>hi k (zG _) (by unfold zA;omega)
theorem dL.nrm{a b:Sl}(h:dL a b)(hb:bT b):bT a:=fun hp=>by
 have hl:=h.1;rw[h.2 _ (by omega) (by omega),hl];exact hb (by omega)
theorem Us{a b:Sl}(h:a.len=0):dL (Sl.app a b) b:=by
 refine⟨by rw[dG,h];omega,fun i h0 _=> ?_⟩
 rw[aG (by omega),h,Int.sub_zero]
theorem acO{b:Sl}(h:b.len<=0):dL Sl.nil b:=⟨by have:=len0 b;rw[len_nil];omega,fun i h0 h1=>by rw[len_nil]at h1;omega⟩
theorem dL.refl(a:Sl):dL a a:=⟨rfl,fun _ _ _=>rfl⟩
theorem dL.symm{a b:Sl}(h:dL a b):dL b a:=⟨h.1.symm,fun i h0 h1=>(h.2 i h0 (by rw[h.1];exact h1)).symm⟩
theorem dL.trans{a b c:Sl}(h:dL a b)(g:dL b c):dL a c:=⟨h.1.trans g.1,fun i h0 h1=>(h.2 i h0 h1).trans (g.2 i h0 (by rw[<-h.1];exact h1))⟩
theorem ahw{B:Int}(hB:0<B){a b:Sl}(ha:bC B a)(na:bT a)(hb:bC B b)(nb:bT b)(h:val B a=val B b):dL a b:=by
 obtain⟨e,hk⟩:=Nm.eq hB ha (yQ.1 na) hb (yQ.1 nb) h;refine⟨by unfold zA;omega,fun i h0 h1=> ?_⟩
 have:=hk i.toNat (by unfold zA at h1;omega);rw[uH h0,uH h0]at this;exact this
theorem jB{B:Int}(hB:1<B){a:Sl}(ha:bC B a)(na:bT a)(k:Nat):a.len<=k↔val B a<B^k:=by
 have:=Nm.le hB ha (yQ.1 na) (k:=k);unfold zA;unfold val;rw[<-this];omega
theorem bK{B:Int}(hB:0<B){a:Sl}(ha:bC B a)(na:bT a):val B a=0↔a.len=0:=by
 have:=Nm.zero hB ha (yQ.1 na);unfold zA;unfold val;rw[this];omega
theorem fQ{B:Int}(hB:0<B){a:Sl}(ha:bC B a)(na:bT a):0<val B a↔0<a.len:=by
 have h1:=bK hB ha na;have h2:=(ha.bound hB).1;have:=len0 a;omega
theorem O8{B:Int}(hB:0<B){a:Sl}(ha:bC B a)(na:bT a)(h:0<a.len):B^(a.n-1)<=val B a:=(yQ.1 na).pos hB ha (by unfold zA at h;omega)
theorem Qj{B:Int}(hB:0<B){a:Sl}(ha:bC B a)(h:0<a.len->B^(a.n-1)<=val B a):bT a:=fun hp h0=>by
 have h1:=h hp;have e:a.n=(a.n-1)+1:=by unfold zA at hp;omega
 have hb:=jg hB (ha.mono (show a.n-1<=a.n by omega));unfold val at h1;rw[e,iF]at h1;have:dg a (a.n-1)=0:=by
  have:(a.len-1).toNat=a.n-1:=by unfold zA;omega
  rw[<-this,uH (by omega)];exact h0
 rw[this,Int.zero_mul,Int.add_zero]at h1;simp only[Nat.add_sub_cancel]at h1;omega
def aB(s:Sl):Prop:=s.len<=1073741824
def VA(_x _y b:Int):Prop:=b<=1
def VB(x y b d o:Int):Prop:=d=x-y-b+o*4294967296/\(o=0\/o=1)
def aaP(_x _y c:Int):Prop:=c<=1
def aaQ(x y c s o:Int):Prop:=s+o*4294967296=x+y+c/\(o=0\/o=1)
def VD(_x:Int):Prop:=True
def xE(x r:Int):Prop:=0<=r/\r<=32/\x<2^r.toNat/\(0<x->0<r/\2^(r.toNat-1)<=x)
def ZH(_x:Int):Prop:=True
def ZI(x r:Int):Prop:=0<=r/\r<=32/\(0<x->r<=31/\2147483648<=x*2^r.toNat/\x*2^r.toNat<4294967296)
def aaR(hi _lo y:Int):Prop:=hi<y
def VE(hi lo y q r:Int):Prop:=hi*4294967296+lo=y*q+r/\r<y
def Hg(s:Sl):Prop:=aB s
def Hl(s r:Sl):Prop:=dL r s
def rJ(s:Sl):Prop:=aB s
def vJ(s r:Sl):Prop:=dL r s
def pq(_s:Sl):Prop:=True
def lV(s r:Sl):Prop:=bT r/\r.len<=s.len/\vw r=vw s
def uw(s:Sl):Prop:=aB s
def wX(s r:Sl):Prop:=vw r=vl s/\(bT s->bT r)/\r.len<=s.len
def nD(_neg:Bool)(w:Sl):Prop:=aB w
def kV(neg:Bool)(w:Sl)(neg':Bool)(l:Sl):Prop:=bT l/\vl l=vw w/\(neg'=true↔neg=true/\l.len≠0)
def ZJ(s:Sl):Prop:=s.len<=2
def ZK(s:Sl)(r:Int):Prop:=r=vw s
def aaS(_x:Int):Prop:=True
def aaT(x:Int)(r:Sl):Prop:=vw r=x/\bT r
def Dx(a b:Sl):Prop:=bT a/\bT b
def lG(a b:Sl)(r:Int):Prop:=(r=-1/\vw a<vw b)\/(r=0/\vw a=vw b)\/(r=1/\vw b<vw a)
def IB(s:Sl)(d:Int):Prop:=aB s/\0<d
def IC(s:Sl)(d:Int)(q:Sl)(r:Int):Prop:=vw s=d*vw q+r/\r<d/\bT q
def MF(s:Sl)(n:Int):Prop:=aB s/\0<=n/\n<=31
def MG(s:Sl)(n:Int)(r:Sl):Prop:=r.len=s.len+1/\vw r=vw s*2^n.toNat
def Ld(a b:Sl):Prop:=aB a/\aB b/\bT a/\bT b/\0<b.len
def vS(a b q r:Sl):Prop:=vw a=vw b*vw q+vw r/\vw r<vw b/\bT q/\bT r
def Uc(w:Sl)(n skip:Int):Prop:=3<=n/\n<=1073741824/\w.len<=n/\0<=skip/\skip<=31/\vw w*2^skip.toNat<4294967296^n.toNat
def wY(w:Sl)(n skip r:Int):Prop:=r=vw w*2^skip.toNat/4294967296^(n.toNat-2)
def PO(a b:Sl):Prop:=aB a/\aB b/\bT a/\bT b/\3<=b.len/\vw b<=vw a
def En(a b:Sl)(u0 u1 v0 v1:Int)(even:Bool):Prop:=v0≠0->(u0<4294967296/\u1<4294967296/\v0<4294967296/\v1<4294967296)/\
 (even=true->u0*v1-v0*u1=1/\0<=v1*vw b-u1*vw a/\v1*vw b-u1*vw a<u0*vw a-v0*vw b/\u0*vw a-v0*vw b<=vw b)/\
 (even=false->u0*v1-v0*u1=-1/\0<=u1*vw a-v1*vw b/\u1*vw a-v1*vw b<v0*vw b-u0*vw a/\v0*vw b-u0*vw a<=vw b)
def uy(u:Int)(a:Sl)(v:Int)(b:Sl):Prop:=aB a/\aB b/\u<4294967296/\v<4294967296/\v*vw b<=u*vw a
def uz(u:Int)(a:Sl)(v:Int)(b r:Sl):Prop:=vw r=u*vw a-v*vw b/\bT r
def Eo(a b:Sl):Prop:=aB a/\aB b/\bT a/\bT b
def yt(a b r:Sl):Prop:=vw r=(Int.gcd (vw a) (vw b):Nat)/\bT r
def ZL(a b:Sl):Prop:=aB a/\aB b
def OL(a b r:Sl):Prop:=vw r=vw a+vw b/\bT r
def OM(a b:Sl):Prop:=aB a/\aB b/\vw b<=vw a/\b.len<=a.len
def OO(a b r:Sl):Prop:=vw r=vw a-vw b/\bT r
def aaU(a b:Sl):Prop:=aB a/\aB b
def aaV(a b r:Sl):Prop:=vw r=vw a*vw b/\bT r
def NW(neg:Bool)(l:Sl):Prop:=bT l/\(l.len=0->neg=false)
def okW(neg:Bool)(l:Sl):Prop:=NW neg l/\l.len<=1024
def zv(neg:Bool)(l:Sl):Int:=if neg=true then-vl l else vl l
def shW(neg:Bool)(l:Sl):Prop:=NW neg l/\l.len<=600
def ZY(x y r:Int):Prop:=(r=-1/\x<y)\/(r=0/\x=y)\/(r=1/\y<x)
def FQ(_neg:Bool)(_l:Sl):Prop:=True
def qp(neg:Bool)(l:Sl)(r:Bool):Prop:=r=true↔okW neg l
def sJ(_s:Sl):Prop:=True
def gZ(s:Sl)(r:Bool):Prop:=r=true↔∀i:Int,0<=i->i<s.len->okW (s.bool i 0) (s.sub i 1)
def EO(_n:Int):Prop:=True
def EP(n:Int)(neg:Bool)(l:Sl):Prop:=NW neg l/\zv neg l=n/\l.len<=4
def afk(neg:Bool)(l:Sl):Prop:=okW neg l
def ER(neg:Bool)(l:Sl)(r e:Int):Prop:=(-9223372036854775808<=zv neg l/\zv neg l<=9223372036854775807/\r=zv neg l/\e=0)\/(¬(-9223372036854775808<=zv neg l/\zv neg l<=9223372036854775807)/\r=0/\e=3)
@[irreducible] def cap:Int:=65536^1024
theorem yS:cap=65536^1024:=by unfold cap;rfl
def FT(_neg:Bool)(w:Sl):Prop:=aB w/\vw w<cap
def CX(neg:Bool)(w:Sl)(neg':Bool)(l:Sl)(e:Int):Prop:=NW neg' l/\zv neg' l=(if neg=true then-vw w else vw w)/\e=0
def akn(_n:Bool)(a:Sl)(_m:Bool)(b:Sl):Prop:=aB a/\aB b/\bT a/\bT b/\vw a+vw b<cap
def ZM(n:Bool)(a:Sl)(m:Bool)(b:Sl)(neg:Bool)(l:Sl)(e:Int):Prop:=NW neg l/\zv neg l=(if n=true then-vw a else vw a)+(if m=true then-vw b else vw b)/\e=0
def afl(n:Bool)(a:Sl)(m:Bool)(b:Sl):Prop:=shW n a/\shW m b
def ZN(n:Bool)(a:Sl)(m:Bool)(b:Sl)(neg:Bool)(l:Sl)(e:Int):Prop:=NW neg l/\zv neg l=zv n a+zv m b/\e=0
def afm(n:Bool)(a:Sl)(m:Bool)(b:Sl):Prop:=NW n a/\NW m b/\a.len+b.len<=1024
def ZO(n:Bool)(a:Sl)(m:Bool)(b:Sl)(neg:Bool)(l:Sl)(e:Int):Prop:=NW neg l/\zv neg l=zv n a*zv m b/\e=0
def Ud(n:Bool)(a:Sl)(m:Bool)(b:Sl):Prop:=okW n a/\okW m b/\0<b.len
def vK(n:Bool)(a:Sl)(m:Bool)(b:Sl)(qn:Bool)(q:Sl)(rn:Bool)(r:Sl)(e:Int):Prop:=
 NW qn q/\NW rn r/\zv n a=zv m b*zv qn q+zv rn r/\(0<zv m b->0<=zv rn r/\zv rn r<zv m b)/\(zv m b<0->zv m b<zv rn r/\zv rn r<=0)/\e=0
def afn(n:Bool)(a:Sl)(m:Bool)(b:Sl):Prop:=okW n a/\okW m b
def ZP(_n:Bool)(a:Sl)(_m:Bool)(b:Sl)(neg:Bool)(l:Sl)(e:Int):Prop:=NW neg l/\neg=false/\vl l=(Int.gcd (vl a) (vl b):Nat)/\e=0
def OQ(n:Bool)(a:Sl)(m:Bool)(b:Sl):Prop:=okW n a/\okW m b
def yD(n:Bool)(a:Sl)(m:Bool)(b:Sl)(r:Int):Prop:=ZY (zv n a) (zv m b) r
def aK(q:Rat)(nn:Bool)(nl:Sl)(dn:Bool)(dl:Sl):Prop:=NW nn nl/\zv nn nl=q.num/\dn=false/\bT dl/\vl dl=(q.den:Int)
def pO(nn:Bool)(nl:Sl)(dn:Bool)(dl:Sl):Prop:=∃q,aK q nn nl dn dl
def okF(nn:Bool)(nl:Sl)(dn:Bool)(dl:Sl):Prop:=pO nn nl dn dl/\nl.len<=256/\dl.len<=256
def fq(nn:Bool)(nl dl:Sl):Rat:=z5 (zv nn nl) (vl dl)
@[irreducible] def BF:Int:=65536^256
theorem DU:BF=65536^256:=by unfold BF;rfl
def bM(q:Rat):Prop:=(q.num.natAbs:Int)<BF/\(q.den:Int)<BF
def BU(nn:Bool)(nl:Sl)(dn:Bool)(dl:Sl):Prop:=nn=false/\nl.len=0/\dn=false/\dl.len=0
def Di(q:Rat)(nn:Bool)(nl:Sl)(dn:Bool)(dl:Sl)(e:Int):Prop:=(bM q->aK q nn nl dn dl/\e=0)/\(¬bM q->BU nn nl dn dl/\e=3)
def Gm(x y:Rat)(r:Int):Prop:=(r=-1/\x<y)\/(r=0/\x=y)\/(r=1/\y<x)
def nV(_n:Bool)(l:Sl):Prop:=aB l
def kM(n:Bool)(l:Sl)(n':Bool)(l':Sl):Prop:=dL l' l/\(n'=true↔n=false/\0<l.len)
def lW(n:Bool)(a:Sl)(m:Bool)(b:Sl):Prop:=okW n a/\okW m b
def kP(_n:Bool)(a:Sl)(_m:Bool)(b:Sl)(neg:Bool)(l:Sl):Prop:=NW neg l/\neg=false/\vl l=(Int.gcd (vl a) (vl b):Nat)
def FU(n:Bool)(a:Sl)(m:Bool)(b:Sl):Prop:=shW n a/\shW m b
def FV(n:Bool)(a:Sl)(m:Bool)(b:Sl)(neg:Bool)(l:Sl):Prop:=NW neg l/\zv neg l=zv n a+zv m b
def kW(n:Bool)(a:Sl)(m:Bool)(b:Sl):Prop:=NW n a/\NW m b/\a.len+b.len<=1024
def lX(n:Bool)(a:Sl)(m:Bool)(b:Sl)(neg:Bool)(l:Sl):Prop:=NW neg l/\zv neg l=zv n a*zv m b
def jo(n:Bool)(a:Sl)(m:Bool)(b:Sl):Prop:=okW n a/\okW m b/\0<b.len
def gG(n:Bool)(a:Sl)(m:Bool)(b:Sl)(qn:Bool)(q:Sl)(rn:Bool)(r:Sl):Prop:=
 NW qn q/\NW rn r/\zv n a=zv m b*zv qn q+zv rn r/\(0<zv m b->0<=zv rn r/\zv rn r<zv m b)/\(zv m b<0->zv m b<zv rn r/\zv rn r<=0)
def FW(n:Bool)(a:Sl)(m:Bool)(b:Sl):Prop:=okW n a/\okW m b/\0<b.len
def sK(n:Bool)(a:Sl)(m:Bool)(b:Sl)(nn:Bool)(nl:Sl)(dn:Bool)(dl:Sl):Prop:=aK (z5 (zv n a) (zv m b)) nn nl dn dl
def vT(_nn:Bool)(_nl:Sl)(_dn:Bool)(_dl:Sl):Prop:=True
def bD(nn:Bool)(nl:Sl)(dn:Bool)(dl:Sl)(r:Bool):Prop:=r=true↔okF nn nl dn dl
def sN(_s:Sl):Prop:=True
def iw(s:Sl)(r:Bool):Prop:=r=true↔∀i:Int,0<=i->i<s.len->okF (s.bool i 0) (s.sub i 1) (s.bool i 2) (s.sub i 3)
def dN(_n:Int):Prop:=True
def bF(n:Int)(nn:Bool)(nl:Sl)(dn:Bool)(dl:Sl):Prop:=aK (n:Rat) nn nl dn dl/\nl.len<=4/\dl.len<=4
def Le(_a:Bool)(_b:Sl)(_c:Bool)(_d:Sl)(_a':Bool)(SC:Sl)(LC:Bool)(Ut:Sl):Prop:=True
def pF(a:Bool)(b:Sl)(c:Bool)(d:Sl)(a':Bool)(b':Sl)(c':Bool)(d':Sl)(nn:Bool)(nl:Sl)(dn:Bool)(dl:Sl)(e:Int):Prop:=
 (okF a b c d/\okF a' b' c' d'->Di (fq a b d+fq a' b' d') nn nl dn dl e)/\(¬(okF a b c d/\okF a' b' c' d')->BU nn nl dn dl/\e=2)
def Ue(_a:Bool)(_b:Sl)(_c:Bool)(_d:Sl)(_a':Bool)(SC:Sl)(LC:Bool)(Ut:Sl):Prop:=True
def Bg(a:Bool)(b:Sl)(c:Bool)(d:Sl)(a':Bool)(b':Sl)(c':Bool)(d':Sl)(nn:Bool)(nl:Sl)(dn:Bool)(dl:Sl)(e:Int):Prop:=
 (okF a b c d/\okF a' b' c' d'->Di (fq a b d*fq a' b' d') nn nl dn dl e)/\(¬(okF a b c d/\okF a' b' c' d')->BU nn nl dn dl/\e=2)
def ZQ(_a:Bool)(_b:Sl)(_c:Bool)(_d:Sl)(_a':Bool)(SC:Sl)(LC:Bool)(Ut:Sl):Prop:=True
def Bz(a:Bool)(b:Sl)(c:Bool)(d:Sl)(a':Bool)(b':Sl)(c':Bool)(d':Sl)(nn:Bool)(nl:Sl)(dn:Bool)(dl:Sl)(e:Int):Prop:=
 (okF a b c d/\okF a' b' c' d'->(fq a' b' d'≠0->Di (fq a b d/fq a' b' d') nn nl dn dl e)/\(fq a' b' d'=0->BU nn nl dn dl/\e=20))/\(¬(okF a b c d/\okF a' b' c' d')->BU nn nl dn dl/\e=2)
def ES(_a:Bool)(_b:Sl)(_c:Bool)(_d:Sl)(_a':Bool)(SC:Sl)(LC:Bool)(Ut:Sl):Prop:=True
def BA(a:Bool)(b:Sl)(c:Bool)(d:Sl)(a':Bool)(b':Sl)(c':Bool)(d':Sl)(r:Int):Prop:=
 (okF a b c d/\okF a' b' c' d'->Gm (fq a b d) (fq a' b' d') r)/\(¬(okF a b c d/\okF a' b' c' d')->r=0)
def tN(x:Int):Prop:=-9223372036854775808<=x/\x<=9223372036854775807
def Ho(_a:Bool)(_b:Sl)(_c:Bool)(_d:Sl):Prop:=True
def uD(a:Bool)(b:Sl)(c:Bool)(d:Sl)(r e:Int):Prop:=
 (¬okF a b c d->r=0/\e=2)/\(okF a b c d->((fq a b d).den≠1->r=0/\e=22)/\((fq a b d).den=1->(tN (fq a b d).num->r=(fq a b d).num/\e=0)/\(¬tN (fq a b d).num->r=0/\e=3)))
def aO(q:Rat)(mode:Int):Int:=if mode=3 then q.floor else if q.floor+q.floor+1<q+q\/(((q.floor+q.floor+1:Int):Rat)=q+q/\0<=q)then q.floor+1 else q.floor
def yE(_a:Bool)(_b:Sl)(_c:Bool)(_d:Sl)(a':Bool)(b':Sl)(c':Bool)(d':Sl)(mode:Int):Prop:=aK 1 a' b' c' d'/\b'.len<=256/\d'.len<=256/\(mode=3\/mode=5)
def jV(a:Bool)(b:Sl)(c:Bool)(d:Sl)(_a':Bool)(SC:Sl)(LC:Bool)(Ut:Sl)(mode:Int)(nn:Bool)(nl:Sl)(dn:Bool)(dl:Sl)(e:Int):Prop:=
 (okF a b c d->Di (aO (fq a b d) mode:Int) nn nl dn dl e)/\(¬okF a b c d->BU nn nl dn dl/\e=2)
def Sm(s:Sl):Prop:=s.len<=400000000
def FX(_s:Sl):Prop:=True
def Dy(s r:Sl):Prop:=bT r/\r.len<=s.len/\vl r=vl s
def OT(a b:Sl):Prop:=bT a/\bT b
def Dz(a b:Sl)(r:Bool):Prop:=r=true↔vl a<vl b
def DC(a b:Sl):Prop:=aB a/\aB b
def DF(a b r:Sl):Prop:=vl r=vl a+vl b/\(bT a->bT b->bT r)
def FY(a b:Sl):Prop:=aB a/\vl b<=vl a/\b.len<=a.len
def F5(a b r:Sl):Prop:=vl r=vl a-vl b/\bT r
def XZ(a b:Sl):Prop:=aB a/\aB b
def X3(a b r:Sl):Prop:=vl r=vl a*vl b/\bT r
def VF(a:Sl):Prop:=aB a
def aaW(a r:Sl):Prop:=vl r=vl a/2/\bT r
def X4(a:Sl)(d:Int):Prop:=aB a/\1<=d/\d<65536
def X5(a:Sl)(d:Int)(q r:Sl):Prop:=vl a=d*vl q+vl r/\vl r<d/\bT q/\bT r
def zV(a b:Sl):Prop:=Sm a/\Sm b/\bT a/\bT b/\0<b.len
def vU(a b q r:Sl):Prop:=vl a=vl b*vl q+vl r/\vl r<vl b/\bT q/\bT r
def jk(_n:Bool)(_l:Sl):Prop:=True
def iI(n:Bool)(l:Sl)(n':Bool)(l':Sl):Prop:=l'=l/\(n'=true↔n=true/\0<l.len)
def Hq(_n:Bool)(_l:Sl):Prop:=True
def rM(n:Bool)(l:Sl)(r:Bool):Prop:=r=true↔okW n l
def sO(_n:Int):Prop:=True
def sQ(n:Int)(neg:Bool)(l:Sl):Prop:=NW neg l/\zv neg l=n/\l.len<=4
def F6(n:Bool)(l:Sl):Prop:=okW n l
def lH(n:Bool)(l:Sl)(r e:Int):Prop:=(tN (zv n l)/\r=zv n l/\e=0)\/(¬tN (zv n l)/\r=0/\e=3)
def JK(_n:Bool)(_l:Sl):Prop:=True
def F7(n:Bool)(l:Sl)(n':Bool)(l':Sl):Prop:=l'=l/\(n'=true↔n=false/\0<l.len)
def qc(n:Bool)(a:Sl)(m:Bool)(b:Sl):Prop:=NW n a/\NW m b/\aB a/\aB b
def mJ(n:Bool)(a:Sl)(m:Bool)(b:Sl)(neg:Bool)(l:Sl):Prop:=NW neg l/\zv neg l=zv n a+zv m b
def aX(_n:Bool)(a:Sl)(_m:Bool)(b:Sl):Prop:=aB a/\aB b
def aZ(n:Bool)(a:Sl)(m:Bool)(b:Sl)(neg:Bool)(l:Sl):Prop:=NW neg l/\zv neg l=zv n a*zv m b
def MH(n:Bool)(a:Sl)(m:Bool)(b:Sl):Prop:=NW n a/\NW m b/\Sm a/\Sm b/\0<b.len
def yG(n:Bool)(a:Sl)(m:Bool)(b:Sl)(qn:Bool)(q:Sl)(rn:Bool)(r:Sl):Prop:=
 NW qn q/\NW rn r/\zv n a=zv m b*zv qn q+zv rn r/\(0<zv m b->0<=zv rn r/\zv rn r<zv m b)/\(zv m b<0->zv m b<zv rn r/\zv rn r<=0)
def MI(a b:Sl):Prop:=Sm a/\Sm b/\bT a/\bT b
def MJ(a b r:Sl):Prop:=vl r=(Int.gcd (vl a) (vl b):Nat)/\bT r
def MK(n:Bool)(a:Sl)(m:Bool)(b:Sl):Prop:=NW n a/\NW m b/\aB a/\aB b
def iY(n:Bool)(a:Sl)(m:Bool)(b:Sl)(r:Int):Prop:=ZY (zv n a) (zv m b) r
def Jk(nn:Bool)(nl:Sl)(dn:Bool)(dl:Sl):Prop:=pO nn nl dn dl/\nl.len<=100000000/\dl.len<=100000000
def Uf(_l:Sl):Prop:=True
def Hr(l:Sl)(r:Bool):Prop:=r=true↔l.len=1/\l.int 0 0=1
def DI(_a:Bool)(_b:Sl)(_c:Bool)(_d:Sl):Prop:=True
def xG(_a:Bool)(b:Sl)(_c:Bool)(d:Sl)(r:Bool):Prop:=r=true↔b.len<=256/\d.len<=256
def nY(n:Bool)(a:Sl)(m:Bool)(b:Sl):Prop:=NW n a/\NW m b/\Sm a/\Sm b/\0<b.len
def lI(n:Bool)(a:Sl)(m:Bool)(b:Sl)(nn:Bool)(nl:Sl)(dn:Bool)(dl:Sl):Prop:=aK (z5 (zv n a) (zv m b)) nn nl dn dl
def fE(_nn:Bool)(_nl:Sl)(_dn:Bool)(_dl:Sl):Prop:=True
def bG(nn:Bool)(nl:Sl)(dn:Bool)(dl:Sl)(r:Bool):Prop:=r=true↔okF nn nl dn dl
def bU(_n:Int):Prop:=True
def aU(n:Int)(nn:Bool)(nl:Sl)(dn:Bool)(dl:Sl):Prop:=aK (n:Rat) nn nl dn dl/\nl.len<=4/\dl.len<=4
def X6(_n d:Int):Prop:=d≠0
def PS(n d:Int)(nn:Bool)(nl:Sl)(dn:Bool)(dl:Sl):Prop:=aK (z5 n d) nn nl dn dl/\nl.len<=4/\dl.len<=4
def Lh(a:Bool)(b:Sl)(c:Bool)(d:Sl)(a':Bool)(b':Sl)(c':Bool)(d':Sl):Prop:=Jk a b c d/\Jk a' b' c' d'
def vV(a:Bool)(b:Sl)(_c:Bool)(d:Sl)(a':Bool)(b':Sl)(LC:Bool)(d':Sl)(nn:Bool)(nl:Sl)(dn:Bool)(dl:Sl):Prop:=aK (fq a b d+fq a' b' d') nn nl dn dl
def ML(a:Bool)(b:Sl)(c:Bool)(d:Sl)(a':Bool)(b':Sl)(c':Bool)(d':Sl):Prop:=Jk a b c d/\Jk a' b' c' d'
def MN(a:Bool)(b:Sl)(_c:Bool)(d:Sl)(a':Bool)(b':Sl)(LC:Bool)(d':Sl)(nn:Bool)(nl:Sl)(dn:Bool)(dl:Sl):Prop:=aK (fq a b d-fq a' b' d') nn nl dn dl
def Nj(a:Bool)(b:Sl)(c:Bool)(d:Sl)(a':Bool)(b':Sl)(c':Bool)(d':Sl):Prop:=Jk a b c d/\Jk a' b' c' d'
def Nk(a:Bool)(b:Sl)(_c:Bool)(d:Sl)(a':Bool)(b':Sl)(LC:Bool)(d':Sl)(nn:Bool)(nl:Sl)(dn:Bool)(dl:Sl):Prop:=aK (fq a b d*fq a' b' d') nn nl dn dl
def Nl(a:Bool)(b:Sl)(c:Bool)(d:Sl)(a':Bool)(b':Sl)(c':Bool)(d':Sl):Prop:=Jk a b c d/\Jk a' b' c' d'
def Np(a:Bool)(b:Sl)(_c:Bool)(d:Sl)(a':Bool)(b':Sl)(LC:Bool)(d':Sl)(r:Int):Prop:=Gm (fq a b d) (fq a' b' d') r
def DJ(_a:Bool)(_b:Sl)(_c:Bool)(_d:Sl)(_a':Bool)(SC:Sl)(LC:Bool)(Ut:Sl):Prop:=True
def xJ(a:Bool)(b:Sl)(c:Bool)(d:Sl)(a':Bool)(b':Sl)(c':Bool)(d':Sl)(r:Int):Prop:=
 (okF a b c d/\okF a' b' c' d'->Gm (fq a b d) (fq a' b' d') r)/\(¬(okF a b c d/\okF a' b' c' d')->r=0)
def yH(_a:Bool)(_b:Sl)(_c:Bool)(_d:Sl):Prop:=True
def vM(a:Bool)(b:Sl)(c:Bool)(d:Sl)(n:Bool)(l:Sl)(e:Int):Prop:=(okF a b c d->NW n l/\zv n l=(fq a b d).floor/\e=0)/\(¬okF a b c d->n=false/\l.len=0/\e=2)
def VG(_a:Bool)(_b:Sl)(_c:Bool)(_d:Sl):Prop:=True
def JL(a:Bool)(b:Sl)(c:Bool)(d:Sl)(r e:Int):Prop:=
 (¬okF a b c d->r=0/\e=2)/\(okF a b c d->((fq a b d).den≠1->r=0/\e=22)/\((fq a b d).den=1->(tN (fq a b d).num->r=(fq a b d).num/\e=0)/\(¬tN (fq a b d).num->r=0/\e=3)))
abbrev O(b:Bool):Bool:=decide (b=true)
abbrev R32(s:Sl):Prop:=Ranged s [some .u32]
abbrev iG(s:Sl):Prop:=Ranged s [some .i64]
abbrev R16(s:Sl):Prop:=Ranged s [some .u16]
abbrev dT:Bool:=decide True
abbrev dF:Bool:=decide False
abbrev RA(s:Sl):Prop:=Ranged s [none,none]
abbrev RAa(s:Sl):Prop:=Ranged s [none,none,none,none]
abbrev RAb(s:Sl):Prop:=Ranged s [some .i64,some .i64,some .u8,some .i64]
abbrev RAd(s:Sl):Prop:=Ranged s [some .i64,some .i64,some .i64,none,none,none,none]
abbrev RA5(s:Sl):Prop:=Ranged s [some .i64,none,none,none,none]
abbrev RA6(s:Sl):Prop:=Ranged s [some .i64,none]
abbrev RBc(s:Sl):Prop:=Ranged s [some .i64,some .i64,some .i64,some .i64,some .i64,some .i64,some .i64,some .i64,some .i64,none]
abbrev RBd(s:Sl):Prop:=Ranged s [some .i64,some .i64,some .i64,none,none,none]
abbrev REi(s:Sl):Prop:=Ranged s [some .i64,some .i64,some .i64]
end Go.Sx.N
