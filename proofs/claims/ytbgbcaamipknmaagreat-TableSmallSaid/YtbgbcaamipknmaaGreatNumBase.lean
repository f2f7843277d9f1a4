/-
 Numbers written with digits, least significant first: values, bounds, order, uniqueness. Conditions: none; plain Lean.
 The arithmetic of long division (Knuth's estimate) and of Lehmer's steps (Collins' condition). Conditions: none; plain Lean.
 Slices as numbers: values of digits, updates, the machine's words. Conditions: none.
 What the functions of the number layer are to answer: words and limbs. Conditions: none.
 What the functions of the number layer are to answer: fractions, the references, the kit's copies. Conditions: none.
-/
import Derived.Test.YtbgbcaamipknmaaGreatEngE
set_option linter.unusedVariables false
set_option linter.unusedSimpArgs false
namespace Go.Sx.N
def valN(B:Int)(f:Nat->Int):Nat->Int
 |0=>0
 |n+1=>valN B f n+f n*B^n
def Dg(B:Int)(f:Nat->Int)(n:Nat):Prop:=∀k,k<n->0<=f k/\f k<B
theorem Dg.mono{B:Int}{f:Nat->Int}{n m:Nat}(h:Dg B f n)(hm:m<=n):Dg B f m:=fun k hk=>h k (by omega)
theorem Dg.shift{B:Int}{f:Nat->Int}{m n:Nat}(h:Dg B f (m+n)):Dg B (fun k=>f (m+k)) n:=fun k hk=>h (m+k) (by omega)
theorem pos_pow{B:Int}(hB:0<B)(n:Nat):0<B^n:=Int.pow_pos hB
theorem valN_succ(B:Int)(f:Nat->Int)(n:Nat):valN B f (n+1)=valN B f n+f n*B^n:=rfl
theorem valN_congr{B:Int}{f g:Nat->Int}:∀{n:Nat},(∀k,k<n->f k=g k)->valN B f n=valN B g n
 |0,_=>rfl
 |n+1,h=>by
  rw[valN_succ,valN_succ,valN_congr (fun k hk=>h k (by omega)),h n (by omega)]
theorem valN_split(B:Int)(f:Nat->Int)(m:Nat):∀n,valN B f (m+n)=valN B f m+B^m*valN B (fun k=>f (m+k)) n
 |0=>by simp[valN]
 |n+1=>by
  rw[<-Nat.add_assoc,valN_succ,valN_succ,valN_split B f m n,Int.pow_add,Int.mul_add,Int.add_assoc]
  congr 1
  congr 1
  rw[Int.mul_comm (B^m) (f (m+n)*B^n),Int.mul_assoc,Int.mul_comm (B^m)]
theorem valN_zero{B:Int}{f:Nat->Int}:∀{n:Nat},(∀k,k<n->f k=0)->valN B f n=0
 |0,_=>rfl
 |n+1,h=>by
  rw[valN_succ,valN_zero (fun k hk=>h k (by omega)),h n (by omega)]
  simp
theorem valN_one(B:Int)(f:Nat->Int):valN B f 1=f 0:=by
 simp[valN]
theorem valN_low(B:Int)(f:Nat->Int)(n:Nat):valN B f (n+1)=f 0+B*valN B (fun k=>f (k+1)) n:=by
 rw[Nat.add_comm n 1,valN_split,valN_one,Int.pow_one]
 congr 2
 exact valN_congr fun k _=>by rw[Nat.add_comm]
theorem valN_bound{B:Int}(hB:0<B){f:Nat->Int}:∀{n:Nat},Dg B f n->0<=valN B f n/\valN B f n<B^n
 |0,_=>by simp[valN]
 |n+1,h=>by
  have ih:=valN_bound hB (n:=n) (h.mono (by omega))
  have hn:=h n (by omega)
  have hp:=pos_pow hB n
  have h1:0<=f n*B^n:=Int.mul_nonneg hn.1 (Int.le_of_lt hp)
  have h2:(f n+1)*B^n<=B*B^n:=Int.mul_le_mul_of_nonneg_right (by omega) (Int.le_of_lt hp)
  rw[Int.add_mul,Int.one_mul]at h2
  rw[valN_succ,Int.pow_succ,Int.mul_comm (B^n) B]
  omega
theorem valN_top{B:Int}(hB:0<B){f:Nat->Int}{n:Nat}(h:Dg B f (n+1))(hn:f n≠0):B^n<=valN B f (n+1):=by
 have hb:=valN_bound hB (h.mono (Nat.le_succ n))
 have h0:=h n (by omega)
 have hp:=pos_pow hB n
 have h2:1*B^n<=f n*B^n:=Int.mul_le_mul_of_nonneg_right (by omega) (Int.le_of_lt hp)
 rw[valN_succ]
 omega
theorem pow_mono{B:Int}(hB:0<B){m n:Nat}(h:m<=n):B^m<=B^n:=by
 obtain⟨k,rfl⟩:=Nat.le.dest h
 rw[Int.pow_add]
 have h1:=pos_pow hB m
 have h2:=pos_pow hB k
 have:B^m*1<=B^m*B^k:=Int.mul_le_mul_of_nonneg_left (by omega) (by omega)
 omega
theorem pow_strict{B:Int}(hB:1<B){m n:Nat}(h:B^m<B^n):m<n:=by
 refine Nat.lt_of_not_le fun hle=> ?_
 have:=pow_mono (show 0<B by omega) hle
 omega
theorem lead_lt{P a b x y:Int}(hx:0<=x)(hxP:x<P)(hy:0<=y)(h:a<b):x+a*P<y+b*P:=by
 have h2:(a+1)*P<=b*P:=Int.mul_le_mul_of_nonneg_right (by omega) (by omega)
 rw[Int.add_mul,Int.one_mul]at h2
 omega
theorem lead_eq{P a b x y:Int}(hx:0<=x)(hxP:x<P)(hy:0<=y)(hyP:y<P)(h:x+a*P=y+b*P):a=b/\x=y:=by
 have:a=b:=by
  rcases Int.lt_trichotomy a b with g|g|g
  ·have:=lead_lt (P:=P) hx hxP hy g;omega
  ·exact g
  ·have:=lead_lt (P:=P) hy hyP hx g;omega
 subst this
 exact⟨rfl,by omega⟩
theorem valN_inj{B:Int}(hB:0<B){f g:Nat->Int}:∀{n:Nat},Dg B f n->Dg B g n->valN B f n=valN B g n->∀k,k<n->f k=g k
 |0,_,_,_=>fun k hk=>absurd hk (by omega)
 |n+1,hf,hg,h=>by
  have bf:=valN_bound hB (hf.mono (Nat.le_succ n))
  have bg:=valN_bound hB (hg.mono (Nat.le_succ n))
  rw[valN_succ,valN_succ]at h
  obtain⟨e,e'⟩:=lead_eq bf.1 bf.2 bg.1 bg.2 h
  intro k hk
  by_cases hkn:k=n
  ·rw[hkn];exact e
  ·exact valN_inj hB (hf.mono (Nat.le_succ n)) (hg.mono (Nat.le_succ n)) e' k (by omega)
theorem valN_lt{B:Int}(hB:0<B){f g:Nat->Int}{i n:Nat}(hf:Dg B f n)(hg:Dg B g n)(hi:i<n)(he:∀k,i<k->k<n->f k=g k)(hl:f i<g i):valN B f n<valN B g n:=by
 obtain⟨k,rfl⟩:=Nat.le.dest (show i+1<=n from hi)
 rw[valN_split B f,valN_split B g,valN_congr (f:=fun k=>f (i+1+k)) (g:=fun k=>g (i+1+k)) (fun j hj=>he _ (by omega) (by omega))]
 have bf:=valN_bound hB (hf.mono (show i<=i+1+k by omega))
 have bg:=valN_bound hB (hg.mono (show i<=i+1+k by omega))
 have:=lead_lt (P:=B^i) bf.1 bf.2 bg.1 hl
 rw[valN_succ,valN_succ]
 omega
def Nm(f:Nat->Int)(n:Nat):Prop:=0<n->f (n-1)≠0
theorem Nm.pos{B:Int}(hB:0<B){f:Nat->Int}{n:Nat}(hf:Dg B f n)(hn:Nm f n)(h:0<n):B^(n-1)<=valN B f n:=by
 have e:n=n-1+1:=by omega
 have:=valN_top hB (n:=n-1) (f:=f) (by rw[<-e];exact hf) (hn h)
 rw[<-e]at this
 exact this
theorem Nm.lt{B:Int}(hB:0<B){f g:Nat->Int}{n m:Nat}(hf:Dg B f n)(hg:Dg B g m)(hm:Nm g m)(h:n<m):valN B f n<valN B g m:=by
 have h1:=(valN_bound hB hf).2
 have h2:=hm.pos hB hg (by omega)
 have h3:=pow_mono hB (show n<=m-1 by omega)
 omega
theorem Nm.eq{B:Int}(hB:0<B){f g:Nat->Int}{n m:Nat}(hf:Dg B f n)(hn:Nm f n)(hg:Dg B g m)(hm:Nm g m)(h:valN B f n=valN B g m):n=m/\∀k,k<n->f k=g k:=by
 have e:n=m:=by
  rcases Nat.lt_trichotomy n m with g'|g'|g'
  ·have:=Nm.lt hB hf hg hm g';omega
  ·exact g'
  ·have:=Nm.lt hB hg hf hn g';omega
 subst e
 exact⟨rfl,valN_inj hB hf hg h⟩
theorem Nm.zero{B:Int}(hB:0<B){f:Nat->Int}{n:Nat}(hf:Dg B f n)(hn:Nm f n):valN B f n=0↔n=0:=by
 constructor
 ·intro h
  refine Nat.eq_zero_of_not_pos fun hp=> ?_
  have:=hn.pos hB hf hp
  have:=pos_pow hB (n-1)
  omega
 ·intro h
  subst h
  rfl
theorem Nm.le{B:Int}(hB:1<B){f:Nat->Int}{n k:Nat}(hf:Dg B f n)(hn:Nm f n):n<=k↔valN B f n<B^k:=by
 have hB':0<B:=by omega
 constructor
 ·intro h
  have h1:=(valN_bound hB' hf).2
  have h2:=pow_mono hB' h
  omega
 ·intro h
  refine Nat.le_of_not_lt fun hlt=> ?_
  have h1:=hn.pos hB' hf (by omega)
  have h2:=pow_mono hB' (show k<=n-1 by omega)
  omega
end Go.Sx.N
namespace Go.Sx.N
theorem knuth_hi{B P V w top v2 vl hd u2 ul digit rest:Int}(hB:0<B)(hP:0<P)(ht:1<=top)(hV:V=(top*B+v2)*P+vl)(hv2:0<=v2)(hvl:0<=vl)(hvP:vl<P)
  (hw:w=(hd*B+u2)*P+ul) (hul:0<=ul) (hr:digit*top+rest=hd) (hd0:0<=digit) (hd1:digit<B) (ht2:digit*v2<=rest*B+u2):(digit-1)*V<=w:=by
 have h1:digit*(top*B+v2)<=hd*B+u2:=by
  have e:digit*(top*B+v2)=digit*top*B+digit*v2:=by rw[Int.mul_add,Int.mul_assoc]
  have e2:hd*B=digit*top*B+rest*B:=by rw[<-hr,Int.add_mul]
  omega
 have h2:digit*(top*B+v2)*P<=(hd*B+u2)*P:=Int.mul_le_mul_of_nonneg_right h1 (by omega)
 have h3:digit*vl<=B*P:=Int.mul_le_mul (by omega) (by omega) hvl (by omega)
 have h4:1*(B*P)<=top*(B*P):=Int.mul_le_mul_of_nonneg_right ht (Int.mul_nonneg (by omega) (by omega))
 have h5:0<=v2*P:=Int.mul_nonneg hv2 (by omega)
 have e3:(digit-1)*V=digit*(top*B+v2)*P+digit*vl-(top*(B*P)+v2*P+vl):=by
  rw[hV]
  grind
 omega
theorem knuth_lo{B P V w top v2 vl hd u2 ul digit rest:Int}(hP:0<P)(hV:V=(top*B+v2)*P+vl)(hvl:0<=vl)
  (hw:w=(hd*B+u2)*P+ul) (hul:ul<P) (hr:digit*top+rest=hd) (hd0:0<=digit) (ht2:rest*B+u2<digit*v2):w<digit*V:=by
 have h1:hd*B+u2+1<=digit*(top*B+v2):=by
  have e:digit*(top*B+v2)=digit*top*B+digit*v2:=by rw[Int.mul_add,Int.mul_assoc]
  have e2:hd*B=digit*top*B+rest*B:=by rw[<-hr,Int.add_mul]
  omega
 have h2:(hd*B+u2+1)*P<=digit*(top*B+v2)*P:=Int.mul_le_mul_of_nonneg_right h1 (by omega)
 rw[Int.add_mul,Int.one_mul]at h2
 have h3:0<=digit*vl:=Int.mul_nonneg hd0 hvl
 have e3:digit*V=digit*(top*B+v2)*P+digit*vl:=by rw[hV,Int.mul_add,Int.mul_assoc]
 omega
theorem collins2{P α β a2 u2 v2 s:Int}(hα:0<=α)(hαP:α<P)(hβ:0<=β)(hβP:β<P)(hs:s=1\/s=-1)(hu:0<=u2)(huv:u2<=v2)(h:v2<=a2):
  0<=a2*P+s*(v2*β-u2*α):=by
 have h1:v2*P<=a2*P:=Int.mul_le_mul_of_nonneg_right h (by omega)
 have h2:u2*α<=v2*P:=Int.mul_le_mul huv (by omega) hα (by omega)
 have h3:v2*β<=v2*P:=Int.mul_le_mul_of_nonneg_left (by omega) (by omega)
 have h4:0<=v2*β:=Int.mul_nonneg (by omega) hβ
 have h5:0<=u2*α:=Int.mul_nonneg hu hα
 rcases hs with rfl|rfl<;>omega
theorem collins1{P α β a1 a2 u1 u2 v1 v2 s:Int}(hα:0<=α)(hαP:α<P)(hβ:0<=β)(hβP:β<P)(hs:s=1\/s=-1)(hu1:0<=u1)(hu2:0<=u2)
  (huv:u1+u2<=v1+v2) (h:v1+v2<=a1-a2) (hv:0<v1+v2):a2*P+s*(v2*β-u2*α)<a1*P+s*(u1*α-v1*β):=by
 have h1:(v1+v2)*P<=(a1-a2)*P:=Int.mul_le_mul_of_nonneg_right h (by omega)
 have h2:(u1+u2)*α<=(v1+v2)*(P-1):=Int.mul_le_mul huv (by omega) hα (by omega)
 have h3:(v1+v2)*β<=(v1+v2)*(P-1):=Int.mul_le_mul_of_nonneg_left (by omega) (by omega)
 have h4:0<=(v1+v2)*β:=Int.mul_nonneg (by omega) hβ
 have h5:0<=(u1+u2)*α:=Int.mul_nonneg (by omega) hα
 rw[Int.mul_sub,Int.mul_one]at h2 h3
 rw[Int.sub_mul]at h1
 have e1:(u1+u2)*α=u1*α+u2*α:=Int.add_mul ..
 have e2:(v1+v2)*β=v1*β+v2*β:=Int.add_mul ..
 rcases hs with rfl|rfl<;>omega
structure Leh(A B x y a1 a2 u0 u1 u2 v0 v1 v2 s:Int):Prop where
 sign:s=1\/s=-1
 nn:0<=u0/\0<=u1/\0<=u2/\0<=v0/\0<=v1/\1<=v2
 ord:v0<=v1/\v1<=v2/\u2<=v2/\u1+u2<=v1+v2
 e1:a1=s*(u1*x-v1*y)
 e2:a2=s*(v2*y-u2*x)
 det:u1*v2-v1*u2=s
 a12:0<=a2/\a2<=a1/\v1<=a1
 one:v1=0->u1=1/\u2=0/\v2=1/\s=1
 le1:v1≠0->u1<=v1/\s*(u1*A-v1*B)<=B
 zero:v0≠0->u0<=v0/\u0*v1-v0*u1=-s/\0<=s*(u1*A-v1*B)/\s*(u1*A-v1*B)<s*(v0*B-u0*A)/\s*(v0*B-u0*A)<=B
theorem Leh.start{A B x y:Int}(hy:0<=y)(hxy:y<=x):Leh A B x y x y 0 1 0 0 0 1 1 where
 sign:= .inl rfl
 nn:=by omega
 ord:=by omega
 e1:=by omega
 e2:=by omega
 det:=by omega
 a12:=by omega
 one:=fun _=>⟨rfl,rfl,rfl,rfl⟩
 le1:=fun h=>absurd rfl h
 zero:=fun h=>absurd rfl h
theorem Leh.total{A B x y a1 a2 u0 u1 u2 v0 v1 v2 s:Int}(h:Leh A B x y a1 a2 u0 u1 u2 v0 v1 v2 s):a1*v2+a2*v1=x:=by
 have h1:=h.e1
 have h2:=h.e2
 have h3:=h.det
 have h4:s*s=1:=by rcases h.sign with rfl|rfl<;>rfl
 have e:a1*v2+a2*v1=s*(u1*v2-v1*u2)*x:=by rw[h1,h2];grind
 rw[e,h3,h4,Int.one_mul]
theorem Leh.step{A B x y a1 a2 u0 u1 u2 v0 v1 v2 s P α β q r:Int}(h:Leh A B x y a1 a2 u0 u1 u2 v0 v1 v2 s)(hA:A=x*P+α)(hB:B=y*P+β)
  (hα:0<=α) (hαP:α<P) (hβ:0<=β) (hβP:β<P) (hc2:v2<=a2) (hc1:v1+v2<=a1-a2) (hq:a1=q*a2+r) (hr:0<=r) (hra:r<a2):
  Leh A B x y a2 r u1 u2 (u1+q*u2) v1 v2 (v1+q*v2) (-s):=by
 have T2:s*(v2*B-u2*A)=a2*P+s*(v2*β-u2*α):=by rw[hA,hB,h.e2];grind
 have T1:s*(u1*A-v1*B)=a1*P+s*(u1*α-v1*β):=by rw[hA,hB,h.e1];grind
 obtain⟨n1,n2,n3,n4,n5,n6⟩:=h.nn
 obtain⟨o1,o2,o3,o4⟩:=h.ord
 have p2:=collins2 hα hαP hβ hβP h.sign n3 o3 hc2
 have p1:=collins1 hα hαP hβ hβP h.sign n2 n3 o4 hc1 (by omega)
 rw[<-T2]at p2
 rw[<-T2,<-T1]at p1
 have hq1:1<=q:=by
  refine Int.not_lt.1 fun hlt=> ?_
  have:q*a2<=0*a2:=Int.mul_le_mul_of_nonneg_right (by omega) (by omega)
  have:=h.a12
  omega
 have qv:1*v2<=q*v2:=Int.mul_le_mul_of_nonneg_right hq1 (by omega)
 have qu0:0<=q*u2:=Int.mul_nonneg (by omega) n3
 have quv:q*u2<=q*v2:=Int.mul_le_mul_of_nonneg_left o3 (by omega)
 have hone:=h.one
 have hle1:=h.le1
 have neg:∀z:Int,(-s)*z=-(s*z):=fun z=>Int.neg_mul ..
 refine⟨?_,by omega,⟨o2,by omega, ?_, ?_⟩, ?_, ?_, ?_,⟨hr,by omega,hc2⟩,fun h0=>by omega,fun _=>⟨o3, ?_⟩,fun h0=>⟨(hle1 h0).1, ?_, ?_, ?_, ?_⟩⟩
 ·rcases h.sign with rfl|rfl
  ·exact .inr rfl
  ·exact .inl rfl
 ·by_cases hv:v1=0
  ·obtain⟨g1,g2,g3,g4⟩:=hone hv
   subst g1 g2 g3
   omega
  ·have:=(hle1 hv).1
   omega
 ·by_cases hv:v1=0
  ·obtain⟨g1,g2,g3,g4⟩:=hone hv
   subst g1 g2 g3
   omega
  ·have:=(hle1 hv).1
   omega
 ·rw[h.e2];grind
 ·have e1:=h.e1
  have e2:=h.e2
  grind
 ·have:=h.det
  grind
 ·by_cases hv:v1=0
  ·obtain⟨g1,g2,g3,g4⟩:=hone hv
   subst g1 g2 g3 g4
   omega
  ·have:=(hle1 hv).2
   grind
 ·have:=h.det
  grind
 ·grind
 ·grind
 ·have:=(hle1 h0).2
  grind
end Go.Sx.N
namespace Go.Sx.N
theorem rng64{x:Int}:Rng .i64 x↔-9223372036854775808<=x/\x<=9223372036854775807:=Iff.rfl
theorem rngu64{x:Int}:Rng .u64 x↔0<=x/\x<=18446744073709551615:=Iff.rfl
theorem rngu32{x:Int}:Rng .u32 x↔0<=x/\x<=4294967295:=Iff.rfl
theorem rngu16{x:Int}:Rng .u16 x↔0<=x/\x<=65535:=Iff.rfl
theorem rsL(x:Int)(h:-9223372036854775808<=x/\x<=9223372036854775807):Rng .i64 x:=h
theorem len0(s:Sl):0<=s.len:=Int.natCast_nonneg _
theorem small64{s:Sl}(h:Small s):s.len<=140737488355328:=by
 unfold Small at h
 unfold Sl.len
 omega
theorem toNat_len(s:Sl):s.len.toNat=s.n:=by unfold Sl.len;omega
theorem wu64(x:Int):IntKind.wrap .u64 x=x % 18446744073709551616:=IntKind.wrap_u64 x
theorem wu32(x:Int):IntKind.wrap .u32 x=x % 4294967296:=IntKind.wrap_u32 x
theorem wu16(x:Int):IntKind.wrap .u16 x=x % 65536:=IntKind.wrap_u16 x
theorem wu8(x:Int):IntKind.wrap .u8 x=x % 256:=IntKind.wrap_u8 x
theorem wu64_in{x:Int}(h:0<=x)(h':x<18446744073709551616):IntKind.wrap .u64 x=x:=by rw[wu64];omega
theorem wu32_in{x:Int}(h:0<=x)(h':x<4294967296):IntKind.wrap .u32 x=x:=by rw[wu32];omega
theorem wu16_in{x:Int}(h:0<=x)(h':x<65536):IntKind.wrap .u16 x=x:=by rw[wu16];omega
theorem shl_def(k:IntKind)(x:Int){n:Nat}(h:n<=k.bits):shl k x n=x*2^n:=by
 unfold shl
 rw[Int.toNat_natCast,Nat.min_eq_left h]
theorem shr_def(k:IntKind){x:Int}{n:Nat}(h:n<=k.bits):shr k x n=x/2^n:=by
 unfold shr
 rw[Int.toNat_natCast,Nat.min_eq_left h,Int.fdiv_eq_ediv_of_nonneg _ (Int.le_of_lt (Int.pow_pos (by decide)))]
theorem shl32(x:Int):shl .u64 x 32=x*4294967296:=shl_def .u64 x (n:=32) (by decide)
theorem shr32(x:Int):shr .u64 x 32=x/4294967296:=shr_def .u64 (n:=32) (by decide)
theorem shr63(x:Int):shr .u64 x 63=x/9223372036854775808:=shr_def .u64 (n:=63) (by decide)
theorem shr16(x:Int):shr .u32 x 16=x/65536:=shr_def .u32 (n:=16) (by decide)
theorem shr8(x:Int):shr .u32 x 8=x/256:=shr_def .u32 (n:=8) (by decide)
theorem shr31(x:Int):shr .u32 x 31=x/2147483648:=shr_def .u32 (n:=31) (by decide)
theorem ofInt_toNat{n:Nat}{x:Int}(h:0<=x)(h':x<2^n):(BitVec.ofInt n x).toNat=x.toNat:=by
 rw[BitVec.toNat_ofInt,Int.emod_eq_of_lt h (by exact_mod_cast h')]
theorem bor_add{k:IntKind}{a b:Int}{i:Nat}(ha:0<=a)(hb:0<=b)(hbi:b<2^i)(hk:a*2^i+b<2^k.bits):bor k (a*2^i) b=a*2^i+b:=by
 have hp:(0:Int)<2^i:=Int.pow_pos (by decide)
 have h0:0<=a*2^i:=Int.mul_nonneg ha (by omega)
 unfold bor
 rw[BitVec.toNat_or,ofInt_toNat h0 (by omega),ofInt_toNat hb (by omega)]
 have e1:(a*2^i).toNat=2^i*a.toNat:=by
  obtain⟨n,rfl⟩:=Int.eq_ofNat_of_zero_le ha
  rw[Int.mul_comm]
  have:((2:Int)^i*(n:Int))=((2^i*n:Nat):Int):=by simp
  rw[this,Int.toNat_natCast,Int.toNat_natCast]
 have hlt:b.toNat<2^i:=by
  have:((b.toNat:Nat):Int)<((2^i:Nat):Int):=by rw[Int.toNat_of_nonneg hb];simpa using hbi
  exact_mod_cast this
 rw[e1,<-Nat.two_pow_add_eq_or_of_lt hlt]
 have:(((2^i*a.toNat+b.toNat:Nat)):Int)=2^i*((a.toNat:Nat):Int)+((b.toNat:Nat):Int):=by simp
 rw[this,Int.toNat_of_nonneg ha,Int.toNat_of_nonneg hb,Int.mul_comm]
theorem bor_comm(k:IntKind)(a b:Int):bor k a b=bor k b a:=by
 unfold bor
 rw[BitVec.or_comm]
theorem bor_zero{k:IntKind}{b:Int}(hb:0<=b)(hk:b<2^k.bits):bor k 0 b=b:=by
 have:=bor_add (k:=k) (a:=0) (b:=b) (i:=k.bits) (Int.le_refl 0) hb hk (by omega)
 rwa[Int.zero_mul,Int.zero_add]at this
theorem pow16(j:Nat):(65536:Int)^(2*j)=4294967296^j:=by
 rw[Int.pow_mul,show(65536:Int)^2=4294967296 from rfl]
theorem bor32{a b:Int}(ha:0<=a)(ha':a<4294967296)(hb:0<=b)(hb':b<4294967296):bor .u64 (a*4294967296) b=a*4294967296+b:=
 bor_add (k:= .u64) (i:=32) ha hb hb' (by show a*4294967296+b<18446744073709551616;omega)
theorem two32{a b:Int}(ha:0<=a)(ha':a<4294967296)(hb:0<=b)(hb':b<4294967296):IntKind.wrap .u64 (bor .u64 (IntKind.wrap .u64 (shl .u64 a 32)) b)=a*4294967296+b:=by
 rw[shl32,wu64_in (x:=a*4294967296) (by omega) (by omega),bor32 ha ha' hb hb',wu64_in (by omega) (by omega)]
def dg(s:Sl):Nat->Int:=fun k=>s.int k 0
def val(B:Int)(s:Sl):Int:=valN B (dg s) s.n
def vto(B:Int)(s:Sl)(i:Int):Int:=valN B (dg s) i.toNat
def vhi(B:Int)(s:Sl)(i:Int):Int:=valN B (fun k=>dg s (i.toNat+k)) (s.n-i.toNat)
def vw(s:Sl):Int:=val 4294967296 s
def vl(s:Sl):Int:=val 65536 s
def Nrm(s:Sl):Prop:=0<s.len->s.int (s.len-1) 0≠0
def Dig(B:Int)(s:Sl):Prop:=Dg B (dg s) s.n
theorem dg_int{s:Sl}{i:Int}(h:0<=i):dg s i.toNat=s.int i 0:=by
 unfold dg
 rw[Int.toNat_of_nonneg h]
theorem ranged32{s:Sl}(h:Ranged s [some .u32]):Dig 4294967296 s:=fun k hk=>by
 have:=rngu32.1 (h k 0 .u32 (Int.natCast_nonneg _) (by omega) rfl)
 show 0<=s.int k 0/\s.int k 0<4294967296
 omega
theorem ranged16{s:Sl}(h:Ranged s [some .u16]):Dig 65536 s:=fun k hk=>by
 have:=rngu16.1 (h k 0 .u16 (Int.natCast_nonneg _) (by omega) rfl)
 show 0<=s.int k 0/\s.int k 0<65536
 omega
theorem Dig.at{B:Int}{s:Sl}(h:Dig B s){i:Int}(h0:0<=i)(h1:i<s.len):0<=s.int i 0/\s.int i 0<B:=by
 rw[<-dg_int h0]
 exact h i.toNat (by unfold Sl.len at h1;omega)
theorem nrm_nm{s:Sl}:Nrm s↔Nm (dg s) s.n:=by
 constructor
 ·intro h hp
  have h1:=h (by unfold Sl.len;omega)
  rw[<-dg_int (by unfold Sl.len;omega)]at h1
  have:(s.len-1).toNat=s.n-1:=by unfold Sl.len;omega
  rw[this]at h1
  exact h1
 ·intro h hp
  have h1:=h (by unfold Sl.len at hp;omega)
  have:(s.len-1).toNat=s.n-1:=by unfold Sl.len;omega
  rw[<-this,dg_int (by omega)]at h1
  exact h1
theorem val_vto(B:Int)(s:Sl):val B s=vto B s s.len:=by
 unfold val vto
 rw[toNat_len]
theorem vto_zero(B:Int)(s:Sl):vto B s 0=0:=rfl
theorem vto_succ(B:Int)(s:Sl){i:Int}(h:0<=i):vto B s (i+1)=vto B s i+s.int i 0*B^i.toNat:=by
 unfold vto
 have:(i+1).toNat=i.toNat+1:=by omega
 rw[this,valN_succ,dg_int h]
theorem vhi_zero(B:Int)(s:Sl):vhi B s 0=val B s:=by
 unfold vhi val
 simp
theorem vhi_end(B:Int)(s:Sl){i:Int}(h:s.len<=i):vhi B s i=0:=by
 unfold vhi
 have:s.n-i.toNat=0:=by unfold Sl.len at h;omega
 rw[this]
 rfl
theorem vhi_step(B:Int)(s:Sl){i:Int}(h:0<=i)(h':i<s.len):vhi B s i=s.int i 0+B*vhi B s (i+1):=by
 unfold vhi
 have e:s.n-i.toNat=(s.n-(i+1).toNat)+1:=by unfold Sl.len at h';omega
 rw[e,valN_low]
 have e0:dg s (i.toNat+0)=s.int i 0:=by rw[Nat.add_zero,dg_int h]
 rw[e0]
 congr 2
 exact valN_congr fun k _=>by congr 1;omega
theorem Dig.bound{B:Int}(hB:0<B){s:Sl}(h:Dig B s):0<=val B s/\val B s<B^s.n:=valN_bound hB h
theorem Dig.bound_to{B:Int}(hB:0<B){s:Sl}(h:Dig B s){i:Int}(hi:i<=s.len):0<=vto B s i/\vto B s i<B^i.toNat:=valN_bound hB (h.mono (by unfold Sl.len at hi;omega))
theorem Dig.bound_hi{B:Int}(hB:0<B){s:Sl}(h:Dig B s){i:Int}(hi:i<=s.len):0<=vhi B s i/\vhi B s i<B^(s.n-i.toNat):=by
 refine valN_bound hB (Dg.shift ?_)
 have:i.toNat+(s.n-i.toNat)=s.n:=by unfold Sl.len at hi;omega
 rw[this]
 exact h
theorem int_upd{s:Sl}{i k x:Int}(h0:0<=i)(h1:0<=k):(Sl.upd s i 0 [.int x]).int k 0=if k=i then x else s.int k 0:=by
 unfold Sl.int Sl.upd
 by_cases h:k=i
 ·subst h;simp[D.toI]
 ·have:¬k.toNat=i.toNat:=by omega
  simp[h,this]
theorem len_upd(s:Sl)(i:Int)(j:Nat)(c:List D):(Sl.upd s i j c).len=s.len:=rfl
theorem n_upd(s:Sl)(i:Int)(j:Nat)(c:List D):(Sl.upd s i j c).n=s.n:=rfl
theorem dg_upd{s:Sl}{i x:Int}(h0:0<=i)(k:Nat):dg (Sl.upd s i 0 [.int x]) k=if k=i.toNat then x else dg s k:=by
 unfold dg
 rw[int_upd h0 (Int.natCast_nonneg _)]
 by_cases h:k=i.toNat
 ·rw[if_pos h,if_pos (by omega)]
 ·rw[if_neg h,if_neg (by omega)]
theorem vto_upd{B:Int}{s:Sl}{i x k:Int}(h0:0<=i)(hk:k<=i):vto B (Sl.upd s i 0 [.int x]) k=vto B s k:=
 valN_congr fun j hj=>by rw[dg_upd h0,if_neg (by omega)]
theorem vto_upd_succ{B:Int}{s:Sl}{i x:Int}(h0:0<=i):vto B (Sl.upd s i 0 [.int x]) (i+1)=vto B s i+x*B^i.toNat:=by
 rw[vto_succ B _ h0,vto_upd h0 (Int.le_refl i),int_upd h0 h0,if_pos rfl]
theorem vhi_upd{B:Int}{s:Sl}{i x k:Int}(h0:0<=i)(hk:i<k):vhi B (Sl.upd s i 0 [.int x]) k=vhi B s k:=by
 unfold vhi
 rw[n_upd]
 exact valN_congr fun j hj=>by rw[dg_upd h0,if_neg (by omega)]
theorem valN_upd{B:Int}{f g:Nat->Int}{i:Nat}(h:∀k,k≠i->g k=f k):∀{n:Nat},i<n->valN B g n=valN B f n+(g i-f i)*B^i
 |0,hi=>absurd hi (by omega)
 | n+1,hi=>by
  rw[valN_succ,valN_succ]
  by_cases e:i=n
  ·subst e
   rw[valN_congr (fun k hk=>h k (by omega)),Int.sub_mul]
   omega
  ·rw[valN_upd h (by omega),h n (fun e'=>e e'.symm)]
   omega
theorem val_upd{B:Int}{s:Sl}{i x:Int}(h0:0<=i)(h1:i<s.len):val B (Sl.upd s i 0 [.int x])=val B s+(x-s.int i 0)*B^i.toNat:=by
 unfold val
 rw[n_upd,valN_upd (f:=dg s) (i:=i.toNat) (fun k hk=>by rw[dg_upd h0,if_neg hk]) (by unfold Sl.len at h1;omega),dg_upd h0,if_pos rfl,dg_int h0]
theorem len_part{s:Sl}{l h:Int}(h0:l<=h):(Sl.part s l h).len=h-l:=by
 unfold Sl.len Sl.part
 show(((h-l).toNat:Nat):Int)=h-l
 omega
theorem int_part{s:Sl}{l h i:Int}{j:Nat}(h0:0<=l)(h1:0<=i):(Sl.part s l h).int i j=s.int (l+i) j:=by
 unfold Sl.int Sl.part
 show D.toI (s.f (l.toNat+i.toNat) j)=D.toI (s.f (l+i).toNat j)
 have:(l+i).toNat=l.toNat+i.toNat:=by omega
 rw[this]
theorem int_part0{s:Sl}{h i:Int}{j:Nat}(h1:0<=i):(Sl.part s 0 h).int i j=s.int i j:=by rw[int_part (by omega) h1,Int.zero_add]
theorem val_part0{B:Int}{s:Sl}{h:Int}(h0:0<=h):val B (Sl.part s 0 h)=vto B s h:=by
 rw[val_vto,len_part h0,Int.sub_zero]
 exact valN_congr fun k hk=>int_part0 (Int.natCast_nonneg _)
theorem dig_part0{B:Int}{s:Sl}(hs:Dig B s){h:Int}(h0:0<=h)(h1:h<=s.len):Dig B (Sl.part s 0 h):=fun k hk=>by
 have e:dg (Sl.part s 0 h) k=dg s k:=int_part0 (Int.natCast_nonneg _)
 rw[e]
 refine hs k ?_
 have:(Sl.part s 0 h).n=(h-0).toNat:=rfl
 unfold Sl.len at h1
 omega
theorem len_rep{n:Int}(h:0<=n)(z:List D):(Sl.rep n z).len=n:=by
 unfold Sl.len Sl.rep
 show((n.toNat:Nat):Int)=n
 omega
theorem int_rep(n i:Int):(Sl.rep n [.int 0]).int i 0=0:=rfl
theorem val_rep(B:Int)(n:Int):val B (Sl.rep n [.int 0])=0:=valN_zero fun _ _=>rfl
theorem vto_rep(B:Int)(n i:Int):vto B (Sl.rep n [.int 0]) i=0:=valN_zero fun _ _=>rfl
theorem vhi_rep(B:Int)(n i:Int):vhi B (Sl.rep n [.int 0]) i=0:=valN_zero fun _ _=>rfl
theorem val_nil(B:Int):val B Sl.nil=0:=rfl
theorem nrm_nil:Nrm Sl.nil:=fun h=>absurd h (by decide)
theorem len_nil:Sl.nil.len=0:=rfl
theorem len_app(a b:Sl):(Sl.app a b).len=a.len+b.len:=by
 show(((a.n+b.n:Nat)):Int)=_
 unfold Sl.len
 omega
theorem int_app_lt{a b:Sl}{i:Int}{j:Nat}(h:0<=i)(h':i<a.len):(Sl.app a b).int i j=a.int i j:=by
 have:i.toNat<a.n:=by unfold Sl.len at h';omega
 show D.toI (if i.toNat<a.n then a.f i.toNat j else b.f (i.toNat-a.n) j)=_
 rw[if_pos this];rfl
theorem int_app_ge{a b:Sl}{i:Int}{j:Nat}(h:a.len<=i):(Sl.app a b).int i j=b.int (i-a.len) j:=by
 have h0:=len0 a
 have:¬i.toNat<a.n:=by unfold Sl.len at*;omega
 have e:(i-a.len).toNat=i.toNat-a.n:=by unfold Sl.len at*;omega
 show D.toI (if i.toNat<a.n then a.f i.toNat j else b.f (i.toNat-a.n) j)=D.toI (b.f (i-a.len).toNat j)
 rw[if_neg this,e]
def SameI(a b:Sl):Prop:=a.len=b.len/\∀i:Int,0<=i->i<a.len->a.int i 0=b.int i 0
theorem SameI.val{a b:Sl}(h:SameI a b)(B:Int):N.val B a=N.val B b:=by
 obtain⟨hl,hi⟩:=h
 have e:a.n=b.n:=by unfold Sl.len at hl;omega
 unfold N.val
 rw[<-e]
 exact valN_congr fun k hk=>hi k (Int.natCast_nonneg _) (by unfold Sl.len;omega)
theorem SameI.nrm{a b:Sl}(h:SameI a b)(hb:Nrm b):Nrm a:=fun hp=>by
 have hl:=h.1
 rw[h.2 _ (by omega) (by omega),hl]
 exact hb (by omega)
theorem sameI_app{a b:Sl}(h:a.len=0):SameI (Sl.app a b) b:=by
 refine⟨by rw[len_app,h];omega,fun i h0 _=> ?_⟩
 rw[int_app_ge (by omega),h,Int.sub_zero]
theorem sameI_nil{b:Sl}(h:b.len<=0):SameI Sl.nil b:=⟨by have:=len0 b;rw[len_nil];omega,fun i h0 h1=>by rw[len_nil]at h1;omega⟩
theorem SameI.refl(a:Sl):SameI a a:=⟨rfl,fun _ _ _=>rfl⟩
theorem SameI.symm{a b:Sl}(h:SameI a b):SameI b a:=⟨h.1.symm,fun i h0 h1=>(h.2 i h0 (by rw[h.1];exact h1)).symm⟩
theorem SameI.trans{a b c:Sl}(h:SameI a b)(g:SameI b c):SameI a c:=⟨h.1.trans g.1,fun i h0 h1=>(h.2 i h0 h1).trans (g.2 i h0 (by rw[<-h.1];exact h1))⟩
theorem same_of_val{B:Int}(hB:0<B){a b:Sl}(ha:Dig B a)(na:Nrm a)(hb:Dig B b)(nb:Nrm b)(h:val B a=val B b):SameI a b:=by
 obtain⟨e,hk⟩:=Nm.eq hB ha (nrm_nm.1 na) hb (nrm_nm.1 nb) h
 refine⟨by unfold Sl.len;omega,fun i h0 h1=> ?_⟩
 have:=hk i.toNat (by unfold Sl.len at h1;omega)
 rw[dg_int h0,dg_int h0]at this
 exact this
theorem len_le_of_val{B:Int}(hB:1<B){a:Sl}(ha:Dig B a)(na:Nrm a)(k:Nat):a.len<=k↔val B a<B^k:=by
 have:=Nm.le hB ha (nrm_nm.1 na) (k:=k)
 unfold Sl.len
 unfold val
 rw[<-this]
 omega
theorem val_zero_iff{B:Int}(hB:0<B){a:Sl}(ha:Dig B a)(na:Nrm a):val B a=0↔a.len=0:=by
 have:=Nm.zero hB ha (nrm_nm.1 na)
 unfold Sl.len
 unfold val
 rw[this]
 omega
theorem val_pos_iff{B:Int}(hB:0<B){a:Sl}(ha:Dig B a)(na:Nrm a):0<val B a↔0<a.len:=by
 have h1:=val_zero_iff hB ha na
 have h2:=(ha.bound hB).1
 have:=len0 a
 omega
theorem val_ge{B:Int}(hB:0<B){a:Sl}(ha:Dig B a)(na:Nrm a)(h:0<a.len):B^(a.n-1)<=val B a:=(nrm_nm.1 na).pos hB ha (by unfold Sl.len at h;omega)
theorem nrm_of_val{B:Int}(hB:0<B){a:Sl}(ha:Dig B a)(h:0<a.len->B^(a.n-1)<=val B a):Nrm a:=fun hp h0=>by
 have h1:=h hp
 have e:a.n=(a.n-1)+1:=by unfold Sl.len at hp;omega
 have hb:=valN_bound hB (ha.mono (show a.n-1<=a.n by omega))
 unfold val at h1
 rw[e,valN_succ]at h1
 have:dg a (a.n-1)=0:=by
  have:(a.len-1).toNat=a.n-1:=by unfold Sl.len;omega
  rw[<-this,dg_int (by omega)]
  exact h0
 rw[this,Int.zero_mul,Int.add_zero]at h1
 simp only[Nat.add_sub_cancel]at h1
 omega
end Go.Sx.N
namespace Go.Sx.N
def Lim(s:Sl):Prop:=s.len<=1073741824
def p_Sub32(_x _y b:Int):Prop:=b<=1
def q_Sub32(x y b d o:Int):Prop:=d=x-y-b+o*4294967296/\(o=0\/o=1)
def p_Add32(_x _y c:Int):Prop:=c<=1
def q_Add32(x y c s o:Int):Prop:=s+o*4294967296=x+y+c/\(o=0\/o=1)
def p_Len32(_x:Int):Prop:=True
def q_Len32(x r:Int):Prop:=0<=r/\r<=32/\x<2^r.toNat/\(0<x->0<r/\2^(r.toNat-1)<=x)
def p_Lz32(_x:Int):Prop:=True
def q_Lz32(x r:Int):Prop:=0<=r/\r<=32/\(0<x->r<=31/\2147483648<=x*2^r.toNat/\x*2^r.toNat<4294967296)
def p_Div32(hi _lo y:Int):Prop:=hi<y
def q_Div32(hi lo y q r:Int):Prop:=hi*4294967296+lo=y*q+r/\r<y
def p_Clone32(s:Sl):Prop:=Lim s
def q_Clone32(s r:Sl):Prop:=SameI r s
def p_Clone16(s:Sl):Prop:=Lim s
def q_Clone16(s r:Sl):Prop:=SameI r s
def p_trim(_s:Sl):Prop:=True
def q_trim(s r:Sl):Prop:=Nrm r/\r.len<=s.len/\vw r=vw s
def p_pack(s:Sl):Prop:=Lim s
def q_pack(s r:Sl):Prop:=vw r=vl s/\(Nrm s->Nrm r)/\r.len<=s.len
def p_unpack(_neg:Bool)(w:Sl):Prop:=Lim w
def q_unpack(neg:Bool)(w:Sl)(neg':Bool)(l:Sl):Prop:=Nrm l/\vl l=vw w/\(neg'=true↔neg=true/\l.len≠0)
def p_long(s:Sl):Prop:=s.len<=2
def q_long(s:Sl)(r:Int):Prop:=r=vw s
def p_short(_x:Int):Prop:=True
def q_short(x:Int)(r:Sl):Prop:=vw r=x/\Nrm r
def p_compare(a b:Sl):Prop:=Nrm a/\Nrm b
def q_compare(a b:Sl)(r:Int):Prop:=(r=-1/\vw a<vw b)\/(r=0/\vw a=vw b)\/(r=1/\vw b<vw a)
def p_divideShort(s:Sl)(d:Int):Prop:=Lim s/\0<d
def q_divideShort(s:Sl)(d:Int)(q:Sl)(r:Int):Prop:=vw s=d*vw q+r/\r<d/\Nrm q
def p_shifted(s:Sl)(n:Int):Prop:=Lim s/\0<=n/\n<=31
def q_shifted(s:Sl)(n:Int)(r:Sl):Prop:=r.len=s.len+1/\vw r=vw s*2^n.toNat
def p_divide(a b:Sl):Prop:=Lim a/\Lim b/\Nrm a/\Nrm b/\0<b.len
def q_divide(a b q r:Sl):Prop:=vw a=vw b*vw q+vw r/\vw r<vw b/\Nrm q/\Nrm r
def p_head(w:Sl)(n skip:Int):Prop:=3<=n/\n<=1073741824/\w.len<=n/\0<=skip/\skip<=31/\vw w*2^skip.toNat<4294967296^n.toNat
def q_head(w:Sl)(n skip r:Int):Prop:=r=vw w*2^skip.toNat/4294967296^(n.toNat-2)
def p_simulate(a b:Sl):Prop:=Lim a/\Lim b/\Nrm a/\Nrm b/\3<=b.len/\vw b<=vw a
def q_simulate(a b:Sl)(u0 u1 v0 v1:Int)(even:Bool):Prop:=v0≠0->(u0<4294967296/\u1<4294967296/\v0<4294967296/\v1<4294967296)/\
 (even=true->u0*v1-v0*u1=1/\0<=v1*vw b-u1*vw a/\v1*vw b-u1*vw a<u0*vw a-v0*vw b/\u0*vw a-v0*vw b<=vw b)/\
 (even=false->u0*v1-v0*u1=-1/\0<=u1*vw a-v1*vw b/\u1*vw a-v1*vw b<v0*vw b-u0*vw a/\v0*vw b-u0*vw a<=vw b)
def p_difference(u:Int)(a:Sl)(v:Int)(b:Sl):Prop:=Lim a/\Lim b/\u<4294967296/\v<4294967296/\v*vw b<=u*vw a
def q_difference(u:Int)(a:Sl)(v:Int)(b r:Sl):Prop:=vw r=u*vw a-v*vw b/\Nrm r
def p_commonDivisor(a b:Sl):Prop:=Lim a/\Lim b/\Nrm a/\Nrm b
def q_commonDivisor(a b r:Sl):Prop:=vw r=(Int.gcd (vw a) (vw b):Nat)/\Nrm r
def NW(neg:Bool)(l:Sl):Prop:=Nrm l/\(l.len=0->neg=false)
def okW(neg:Bool)(l:Sl):Prop:=NW neg l/\l.len<=1024
def zv(neg:Bool)(l:Sl):Int:=if neg=true then-vl l else vl l
def shW(neg:Bool)(l:Sl):Prop:=NW neg l/\l.len<=600
def p_wValid(_neg:Bool)(_l:Sl):Prop:=True
def q_wValid(neg:Bool)(l:Sl)(r:Bool):Prop:=r=true↔okW neg l
def p_wAllValid(_s:Sl):Prop:=True
def q_wAllValid(s:Sl)(r:Bool):Prop:=r=true↔∀i:Int,0<=i->i<s.len->okW (s.bool i 0) (s.sub i 1)
@[irreducible] def cap:Int:=65536^1024
theorem cap_eq:cap=65536^1024:=by unfold cap;rfl
def p_wGcd(n:Bool)(a:Sl)(m:Bool)(b:Sl):Prop:=okW n a/\okW m b
def q_wGcd(_n:Bool)(a:Sl)(_m:Bool)(b:Sl)(neg:Bool)(l:Sl)(e:Int):Prop:=NW neg l/\neg=false/\vl l=(Int.gcd (vl a) (vl b):Nat)/\e=0
end Go.Sx.N
namespace Go.Sx.N
def IsQ(q:Rat)(nn:Bool)(nl:Sl)(dn:Bool)(dl:Sl):Prop:=NW nn nl/\zv nn nl=q.num/\dn=false/\Nrm dl/\vl dl=(q.den:Int)
def lowF(nn:Bool)(nl:Sl)(dn:Bool)(dl:Sl):Prop:=∃q,IsQ q nn nl dn dl
def okF(nn:Bool)(nl:Sl)(dn:Bool)(dl:Sl):Prop:=lowF nn nl dn dl/\nl.len<=256/\dl.len<=256
def fq(nn:Bool)(nl dl:Sl):Rat:=Rat.divInt (zv nn nl) (vl dl)
@[irreducible] def cap256:Int:=65536^256
theorem cap256_eq:cap256=65536^256:=by unfold cap256;rfl
def fitQ(q:Rat):Prop:=(q.num.natAbs:Int)<cap256/\(q.den:Int)<cap256
def zeroF(nn:Bool)(nl:Sl)(dn:Bool)(dl:Sl):Prop:=nn=false/\nl.len=0/\dn=false/\dl.len=0
def p_fDivisor(n:Bool)(a:Sl)(m:Bool)(b:Sl):Prop:=okW n a/\okW m b
def q_fDivisor(_n:Bool)(a:Sl)(_m:Bool)(b:Sl)(neg:Bool)(l:Sl):Prop:=NW neg l/\neg=false/\vl l=(Int.gcd (vl a) (vl b):Nat)
def p_fValid(_nn:Bool)(_nl:Sl)(_dn:Bool)(_dl:Sl):Prop:=True
def q_fValid(nn:Bool)(nl:Sl)(dn:Bool)(dl:Sl)(r:Bool):Prop:=r=true↔okF nn nl dn dl
def Sm(s:Sl):Prop:=s.len<=400000000
def p_rTrim(_s:Sl):Prop:=True
def q_rTrim(s r:Sl):Prop:=Nrm r/\r.len<=s.len/\vl r=vl s
def p_rLess(a b:Sl):Prop:=Nrm a/\Nrm b
def q_rLess(a b:Sl)(r:Bool):Prop:=r=true↔vl a<vl b
def p_rPlus(a b:Sl):Prop:=Lim a/\Lim b
def q_rPlus(a b r:Sl):Prop:=vl r=vl a+vl b/\(Nrm a->Nrm b->Nrm r)
def p_rMinus(a b:Sl):Prop:=Lim a/\vl b<=vl a/\b.len<=a.len
def q_rMinus(a b r:Sl):Prop:=vl r=vl a-vl b/\Nrm r
def p_rHalf(a:Sl):Prop:=Lim a
def q_rHalf(a r:Sl):Prop:=vl r=vl a/2/\Nrm r
def p_rShort(a:Sl)(d:Int):Prop:=Lim a/\1<=d/\d<65536
def q_rShort(a:Sl)(d:Int)(q r:Sl):Prop:=vl a=d*vl q+vl r/\vl r<d/\Nrm q/\Nrm r
def p_rDivided(a b:Sl):Prop:=Sm a/\Sm b/\Nrm a/\Nrm b/\0<b.len
def q_rDivided(a b q r:Sl):Prop:=vl a=vl b*vl q+vl r/\vl r<vl b/\Nrm q/\Nrm r
def p_rValid1(_n:Bool)(_l:Sl):Prop:=True
def q_rValid1(n:Bool)(l:Sl)(r:Bool):Prop:=r=true↔okW n l
def p_rCommon(a b:Sl):Prop:=Sm a/\Sm b/\Nrm a/\Nrm b
def q_rCommon(a b r:Sl):Prop:=vl r=(Int.gcd (vl a) (vl b):Nat)/\Nrm r
def smF(nn:Bool)(nl:Sl)(dn:Bool)(dl:Sl):Prop:=lowF nn nl dn dl/\nl.len<=100000000/\dl.len<=100000000
def p_rOne(_l:Sl):Prop:=True
def q_rOne(l:Sl)(r:Bool):Prop:=r=true↔l.len=1/\l.int 0 0=1
def p_rFits(_a:Bool)(_b:Sl)(_c:Bool)(_d:Sl):Prop:=True
def q_rFits(_a:Bool)(b:Sl)(_c:Bool)(d:Sl)(r:Bool):Prop:=r=true↔b.len<=256/\d.len<=256
def p_rValid2(_nn:Bool)(_nl:Sl)(_dn:Bool)(_dl:Sl):Prop:=True
def q_rValid2(nn:Bool)(nl:Sl)(dn:Bool)(dl:Sl)(r:Bool):Prop:=r=true↔okF nn nl dn dl
def p_kSameLimbs(_a _b:Sl):Prop:=True
def q_kSameLimbs(a b:Sl)(r:Bool):Prop:=r=true↔SameI a b
def p_kSameWhole(_n:Bool)(_a:Sl)(_m:Bool)(_b:Sl):Prop:=True
def q_kSameWhole(n:Bool)(a:Sl)(m:Bool)(b:Sl)(r:Bool):Prop:=r=true↔n=m/\SameI a b
def p_kSameFrac(_a:Bool)(_b:Sl)(_c:Bool)(_d:Sl)(_a':Bool)(_b':Sl)(_c':Bool)(_d':Sl):Prop:=True
def q_kSameFrac(a:Bool)(b:Sl)(c:Bool)(d:Sl)(a':Bool)(b':Sl)(c':Bool)(d':Sl)(r:Bool):Prop:=r=true↔(a=a'/\SameI b b')/\c=c'/\SameI d d'
abbrev dB(b:Bool):Bool:=decide (b=true)
abbrev dT:Bool:=decide True
abbrev R32(s:Sl):Prop:=Ranged s [some .u32]
abbrev R64(s:Sl):Prop:=Ranged s [some .i64]
abbrev R16(s:Sl):Prop:=Ranged s [some .u16]
abbrev dF:Bool:=decide False
end Go.Sx.N
