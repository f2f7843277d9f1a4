/-
 The conditions of Go's functions on bits. Conditions: none.
 The conditions of the functions on words: copies, leading zeros, limbs to words and back, the order. Conditions: none.
 The conditions of division by one word, of shifts, and of long division. Conditions: none.
 The condition of long division. Conditions: none.
 The conditions of the greatest common divisor's functions: leading bits, Lehmer's steps, differences. Conditions: none.
-/
import Derived.Test.YtbgbcaamipknmaaGreatNumVA
import Derived.Test.YtbgbcaamipknmaaGreatNumBase
set_option linter.unusedVariables false
set_option linter.unusedSimpArgs false
namespace Go.Sx.N
theorem msb32(v:BitVec 32):((v.toNat:Nat):Int)/2147483648=if v.msb=true then 1 else 0:=by
 have:=v.isLt
 rw[BitVec.msb_eq_decide]
 by_cases h:2^(32-1)<=v.toNat
 ·rw[if_pos (by simpa using h)];omega
 ·rw[if_neg (by simpa using h)];omega
theorem w32(v:BitVec 32):IntKind.wrap .u32 ((v.toNat:Nat):Int)=((v.toNat:Nat):Int):=wu32_in (by omega) (by have:=v.isLt;omega)
theorem of32(v:BitVec 32):BitVec.ofInt 32 ((v.toNat:Nat):Int)=v:=by
 apply BitVec.eq_of_toNat_eq
 have:=v.isLt
 rw[ofInt_toNat (by omega) (by omega)]
 omega
theorem band32(x y:Int):band .u32 x y=((BitVec.ofInt 32 x&&&BitVec.ofInt 32 y).toNat:Int):=rfl
theorem bor32'(x y:Int):bor .u32 x y=((BitVec.ofInt 32 x|||BitVec.ofInt 32 y).toNat:Int):=rfl
theorem bxor32(x y:Int):bxor .u32 x y=((BitVec.ofInt 32 x^^^BitVec.ofInt 32 y).toNat:Int):=rfl
theorem msb_of32{x:Int}(h:0<=x)(h':x<4294967296):(BitVec.ofInt 32 x).msb=decide (2147483648<=x):=by
 rw[BitVec.msb_eq_decide,ofInt_toNat h (by omega)]
 by_cases g:2147483648<=x
 ·simp[g];omega
 ·simp[g];omega
theorem Sub32_ok:V_Sub32:=by
 intro x0 r0 x1 r1 x2 r2 hp
 rw[rngu32]at r0 r1 r2
 have hp:x2<=1:=hp
 obtain⟨D,hD⟩:∃D,D=IntKind.wrap .u32 (IntKind.wrap .u32 (x0-x1)-x2):=⟨_,rfl⟩
 rw[<-hD]
 have hD':D=(x0-x1-x2) % 4294967296:=by rw[hD,wu32,wu32];omega
 have e:shr .u32 (IntKind.wrap .u32 (bor .u32 (IntKind.wrap .u32 (band .u32 (IntKind.wrap .u32 (bxor .u32 4294967295 x0)) x1)) (IntKind.wrap .u32 (band .u32 (IntKind.wrap .u32 (bxor .u32 4294967295 (IntKind.wrap .u32 (bxor .u32 x0 x1)))) D)))) 31=if x0<x1+x2 then 1 else 0:=by
  rw[shr31]
  simp only[band32,bor32',bxor32,w32,of32,msb32,BitVec.msb_or,BitVec.msb_and,BitVec.msb_xor]
  rw[msb_of32 (x:=4294967295) (by decide) (by decide),msb_of32 r0.1 (by omega),msb_of32 r1.1 (by omega),msb_of32 (x:=D) (by omega) (by omega)]
  by_cases g0:2147483648<=x0<;>by_cases g1:2147483648<=x1<;>by_cases g2:2147483648<=D<;>simp[g0,g1,g2]<;>omega
 rw[e]
 refine⟨by decide,by split<;>exact⟨by decide,by decide⟩,⟨?_, ?_⟩,trivial⟩
 ·split<;>omega
 ·split
  ·exact .inr rfl
  ·exact .inl rfl
theorem Add32_ok:V_Add32:=by
 intro x0 r0 x1 r1 x2 r2 hp
 rw[rngu32]at r0 r1 r2
 have hp:x2<=1:=hp
 have e:IntKind.wrap .u64 (IntKind.wrap .u64 (x0+x1)+x2)=x0+x1+x2:=by rw[wu64,wu64];omega
 rw[e,shr32]
 refine⟨by decide, ?_,⟨?_, ?_⟩,trivial⟩
 ·rw[rngu64];omega
 ·rw[wu32,wu32];omega
 ·rw[wu32];omega
def lenTab:ByteArray:=bytes [0,1,2,2,3,3,3,3,4,4,4,4,4,4,4,4,5,5,5,5,5,5,5,5,5,5,5,5,5,5,5,5,6,6,6,6,6,6,6,6,6,6,6,6,6,6,6,6,6,6,6,6,6,6,6,6,6,6,6,6,6,6,6,6,7,7,7,7,7,7,7,7,7,7,7,7,7,7,7,7,7,7,7,7,7,7,7,7,7,7,7,7,7,7,7,7,7,7,7,7,7,7,7,7,7,7,7,7,7,7,7,7,7,7,7,7,7,7,7,7,7,7,7,7,7,7,7,7,8,8,8,8,8,8,8,8,8,8,8,8,8,8,8,8,8,8,8,8,8,8,8,8,8,8,8,8,8,8,8,8,8,8,8,8,8,8,8,8,8,8,8,8,8,8,8,8,8,8,8,8,8,8,8,8,8,8,8,8,8,8,8,8,8,8,8,8,8,8,8,8,8,8,8,8,8,8,8,8,8,8,8,8,8,8,8,8,8,8,8,8,8,8,8,8,8,8,8,8,8,8,8,8,8,8,8,8,8,8,8,8,8,8,8,8,8,8,8,8,8,8,8,8,8,8,8,8]
def q8(n r:Int):Prop:=0<=r/\r<=8/\n<2^r.toNat/\(0<n->0<r/\2^(r.toNat-1)<=n)
theorem tab_all:(List.range 256).all (fun n=>(lenTab.data.toList.getD n 0).toNat<=8&&decide (n<2^(lenTab.data.toList.getD n 0).toNat)&&(n==0||(decide (0<(lenTab.data.toList.getD n 0).toNat)&&decide (2^((lenTab.data.toList.getD n 0).toNat-1)<=n))))=true:=by decide+kernel
theorem tab_len:ylen lenTab=256:=by decide+kernel
theorem tab_at{x:Int}(h:0<=x)(h':x<256):q8 x (ychr lenTab x):=by
 have:=List.all_eq_true.1 tab_all x.toNat (by rw[List.mem_range];omega)
 unfold ychr
 generalize(lenTab.data.toList.getD x.toNat 0).toNat=r at this
 simp only[Bool.and_eq_true,Bool.or_eq_true,decide_eq_true_eq,beq_iff_eq]at this
 obtain⟨⟨h1,h2⟩,h3⟩:=this
 have e:((r:Nat):Int).toNat=r:=by omega
 have c:∀k:Nat,((2:Int)^k)=((2^k:Nat):Int):=fun k=>by simp
 refine⟨by omega,by omega, ?_,fun hx=> ?_⟩
 ·rw[e,c];omega
 ·rw[e,c]
  rcases h3 with h3|h3
  ·omega
  ·omega
theorem lift8{x r:Int}{m:Int}{k:Nat}(hm:m=2^k)(h:q8 (x/m) r)(hx:m<=x):0<=(k:Int)+r/\(k:Int)+r<=(k:Int)+8/\x<2^((k:Int)+r).toNat/\(0<x->0<(k:Int)+r/\2^(((k:Int)+r).toNat-1)<=x):=by
 have hm0:0<m:=by rw[hm];exact Int.pow_pos (by decide)
 obtain⟨h1,h2,h3,h4⟩:=h
 have hd:0<x/m:=by
  have:=Int.ediv_le_ediv hm0 hx
  rw[Int.ediv_self (by omega)]at this
  omega
 obtain⟨h5,h6⟩:=h4 hd
 have e:((k:Int)+r).toNat=k+r.toNat:=by omega
 have e':((k:Int)+r).toNat-1=k+(r.toNat-1):=by omega
 have hdiv:=Int.mul_ediv_add_emod x m
 have hmod:=Int.emod_lt_of_pos x hm0
 have hmod0:=Int.emod_nonneg x (show m≠0 by omega)
 refine⟨by omega,by omega, ?_,fun _=>⟨by omega, ?_⟩⟩
 ·rw[e,Int.pow_add,<-hm]
  have:m*(x/m+1)<=m*2^r.toNat:=Int.mul_le_mul_of_nonneg_left (by omega) (by omega)
  rw[Int.mul_add,Int.mul_one]at this
  omega
 ·rw[e',Int.pow_add,<-hm]
  have:m*2^(r.toNat-1)<=m*(x/m):=Int.mul_le_mul_of_nonneg_left h6 (by omega)
  omega
theorem Len32_core(T:ByteArray)(hl:ylen T=256)(ht:∀x:Int,0<=x->x<256->q8 x (ychr T x)):
(∀x0:Int,
((Rng .u32 x0)->
((p_Len32 x0)->
(((x0>=65536)->
((0:Int)<=16)/\
(Rng .u32 (shr .u32 x0 16))/\
((((shr .u32 x0 16)>=256)->
((0:Int)<=8)/\
(Rng .u32 (shr .u32 (shr .u32 x0 16) 8))/\
(Rng .i64 (16+8))/\
((0:Int)<=(IntKind.wrap .u8 (shr .u32 (shr .u32 x0 16) 8)))/\
((IntKind.wrap .u8 (shr .u32 (shr .u32 x0 16) 8))<(ylen T))/\
(Rng .i64 ((16+8)+(ychr T (IntKind.wrap .u8 (shr .u32 (shr .u32 x0 16) 8)))))/\
(q_Len32 x0 ((16+8)+(ychr T (IntKind.wrap .u8 (shr .u32 (shr .u32 x0 16) 8)))))/\True)/\
(¬((shr .u32 x0 16)>=256)->
((0:Int)<=(IntKind.wrap .u8 (shr .u32 x0 16)))/\
((IntKind.wrap .u8 (shr .u32 x0 16))<(ylen T))/\
(Rng .i64 (16+(ychr T (IntKind.wrap .u8 (shr .u32 x0 16)))))/\
(q_Len32 x0 (16+(ychr T (IntKind.wrap .u8 (shr .u32 x0 16)))))/\True)))/\
(¬(x0>=65536)->
(((x0>=256)->
((0:Int)<=8)/\
(Rng .u32 (shr .u32 x0 8))/\
(Rng .i64 (0+8))/\
((0:Int)<=(IntKind.wrap .u8 (shr .u32 x0 8)))/\
((IntKind.wrap .u8 (shr .u32 x0 8))<(ylen T))/\
(Rng .i64 ((0+8)+(ychr T (IntKind.wrap .u8 (shr .u32 x0 8)))))/\
(q_Len32 x0 ((0+8)+(ychr T (IntKind.wrap .u8 (shr .u32 x0 8)))))/\True)/\
(¬(x0>=256)->
((0:Int)<=(IntKind.wrap .u8 x0))/\
((IntKind.wrap .u8 x0)<(ylen T))/\
(Rng .i64 (0+(ychr T (IntKind.wrap .u8 x0))))/\
(q_Len32 x0 (0+(ychr T (IntKind.wrap .u8 x0))))/\True))))))):=by
 intro x0 r0 _
 rw[rngu32]at r0
 have w8:∀x:Int,0<=x->x<256->IntKind.wrap .u8 x=x:=fun x h h'=>by rw[wu8];omega
 rw[shr16,shr8,shr8]
 refine⟨fun h=>⟨by decide,rngu32.2 (by omega),fun g=> ?_,fun g=> ?_⟩,fun h=>⟨fun g=> ?_,fun g=> ?_⟩⟩
 ·have e:x0/65536/256=x0/16777216:=by omega
  rw[e,w8 _ (by omega) (by omega)]
  have q:=ht (x0/16777216) (by omega) (by omega)
  obtain⟨a,b,c,d⟩:=lift8 (k:=24) (by decide) q (by omega)
  refine⟨by decide,rngu32.2 (by omega),by rw[rng64];omega,by omega,by omega,by rw[rng64];omega,⟨by omega,by omega, ?_, ?_⟩,trivial⟩
  ·exact c
  ·exact d
 ·rw[w8 _ (by omega) (by omega)]
  have q:=ht (x0/65536) (by omega) (by omega)
  obtain⟨a,b,c,d⟩:=lift8 (k:=16) (by decide) q (by omega)
  exact⟨by omega,by omega,by rw[rng64];omega,⟨by omega,by omega,c,d⟩,trivial⟩
 ·rw[w8 _ (by omega) (by omega)]
  have q:=ht (x0/256) (by omega) (by omega)
  obtain⟨a,b,c,d⟩:=lift8 (k:=8) (by decide) q (by omega)
  exact⟨by decide,rngu32.2 (by omega),by rw[rng64];omega,by omega,by omega,by rw[rng64];omega,⟨by omega,by omega,c,d⟩,trivial⟩
 ·rw[w8 _ (by omega) (by omega)]
  have q:=ht x0 (by omega) (by omega)
  obtain⟨a,b,c,d⟩:=q
  refine⟨by omega,by omega,by rw[rng64];omega,⟨by omega,by omega, ?_, ?_⟩,trivial⟩
  ·rw[Int.zero_add];exact c
  ·rw[Int.zero_add];exact d
theorem Len32_ok:V_Len32:=Len32_core lenTab tab_len (fun _ h h'=>tab_at h h')
theorem Lz32_ok:V_Lz32:=by
 intro x0 r0 _
 rw[rngu32]at r0
 refine⟨trivial,fun r hr⟨h0,h1,h2,h3⟩=>⟨by rw[rng64];omega,⟨by omega,by omega,fun hx=> ?_⟩,trivial⟩⟩
 obtain⟨h4,h5⟩:=h3 hx
 obtain⟨k,rfl⟩:=Int.eq_ofNat_of_zero_le h0
 have e:(32-(k:Int)).toNat=32-k:=by omega
 have hk:k=(k-1)+1:=by omega
 rw[Int.toNat_natCast]at h2 h5
 have hp:(0:Int)<2^(32-k):=Int.pow_pos (by decide)
 have e1:(2:Int)^k*2^(32-k)=4294967296:=by rw[<-Int.pow_add,show k+(32-k)=32 from by omega];rfl
 have e2:(2:Int)^(k-1)*2^(32-k)=2147483648:=by rw[<-Int.pow_add,show k-1+(32-k)=31 from by omega];rfl
 refine⟨by omega, ?_, ?_⟩
 ·rw[e]
  have:=Int.mul_le_mul_of_nonneg_right h5 (Int.le_of_lt hp)
  omega
 ·rw[e]
  have:=Int.mul_lt_mul_of_pos_right h2 hp
  omega
theorem Div32_ok:V_Div32:=by
 intro x0 r0 x1 r1 x2 r2 hp
 rw[rngu32]at r0 r1 r2
 have hp:x0<x2:=hp
 refine⟨fun _=>⟨fun h=>absurd h (by omega),fun _=> ?_⟩,fun h=>absurd (show x2≠0 by omega) h⟩
 rw[two32 r0.1 (by omega) r1.1 (by omega)]
 obtain⟨n,hn⟩:∃n,n=x0*4294967296+x1:=⟨_,rfl⟩
 rw[<-hn]
 have hn0:0<=n:=by omega
 rw[Int.tdiv_eq_ediv_of_nonneg hn0,Int.tmod_eq_emod_of_nonneg hn0]
 have h1:=Int.mul_ediv_add_emod n x2
 have h2:=Int.emod_lt_of_pos n (show 0<x2 by omega)
 have h3:=Int.emod_nonneg n (show x2≠0 by omega)
 have hq:n/x2<4294967296:=by
  refine Int.ediv_lt_of_lt_mul (by omega) ?_
  have:(x0+1)*4294967296<=x2*4294967296:=Int.mul_le_mul_of_nonneg_right (by omega) (by decide)
  rw[Int.mul_comm 4294967296 x2]
  omega
 have hq0:0<=n/x2:=Int.ediv_nonneg hn0 (by omega)
 refine⟨by decide,by omega,by omega,rngu64.2 (by omega),⟨?_, ?_⟩,trivial⟩
 ·rw[wu64_in hq0 (by omega),wu32_in hq0 hq,wu32_in h3 (by omega),<-hn,h1]
 ·rw[wu32_in h3 (by omega)]
  exact h2
end Go.Sx.N
namespace Go.Sx.N
theorem Clone32_ok:V_Clone32:=by
 intro s r hp b
 have h0:=len0 s
 have hl:(Sl.lit []).len=0:=rfl
 unfold p_Clone32 Lim at hp
 exact⟨fun _ h=>⟨sameI_nil h,trivial⟩,fun _=>⟨by omega,sameI_app hl,trivial⟩⟩
theorem vto_last{B:Int}{s:Sl}(h:0<s.len):val B s=vto B s (s.len-1)+s.int (s.len-1) 0*B^(s.len-1).toNat:=by
 have:=vto_succ B s (i:=s.len-1) (by omega)
 rw[val_vto,<-this]
 congr 1
 omega
theorem trim_ok:V_trim:=by
 intro s0 r0 _
 refine⟨fun s=>s.len<=s0.len/\vw s=vw s0,fun s=>s.n,⟨Int.le_refl _,rfl⟩,fun s rs hj hsm=> ?_⟩
 obtain⟨hl,hv⟩:=hj
 have h0:=len0 s
 have hm:=small64 hsm
 refine⟨fun hlt _=>⟨rsL _ (by omega),by omega,by omega,fun _=>⟨fun hz _=>⟨rsL _ (by omega),by decide,by omega,by omega,⟨?_, ?_⟩, ?_⟩,fun hnz=>⟨⟨fun _=>hnz,hl,hv⟩,trivial⟩⟩⟩,fun hge=>⟨⟨fun h=>absurd h (by omega),hl,hv⟩,trivial⟩⟩
 ·rw[len_part (by omega)];omega
 ·unfold vw at hv⊢
  rw[val_part0 (by omega),<-hv,vto_last (by omega),hz,Int.zero_mul,Int.add_zero]
 ·show(s.len-1-0).toNat<s.n
  unfold Sl.len at*
  omega
theorem pack_ok:V_pack:=by
 intro s r0 hp hsm
 have h0:=len0 s
 unfold p_pack Lim at hp
 have e2:Int.tdiv (s.len+1) 2=(s.len+1)/2:=Int.tdiv_eq_ediv_of_nonneg (by omega)
 rw[e2]
 have hd:=ranged16 r0
 refine⟨rsL _ (by omega),by decide,rsL _ (by omega),by omega,by omega,by omega,fun _=> ?_⟩
 refine⟨fun i w=>0<=i/\i<=s.len/\w.len=(s.len+1)/2/\vw w=vto 65536 s i/\(∀j:Int,0<=j->i<=2*j->w.int j 0=0)/\(∀j:Int,2*j+1=i->w.int j 0=s.int (i-1) 0),fun i _=>(s.len-i).toNat,
  ⟨Int.le_refl _,h0,len_rep (by omega) _,by unfold vw;rw[val_rep,vto_zero],fun _ _ _=>int_rep _ _,fun j hj=>absurd hj (by omega)⟩,fun i _ w rw_ hj=> ?_⟩
 obtain⟨hi0,hi1,hwl,hv,hz,ho⟩:=hj
 refine⟨fun hlt=>⟨hi0,hlt,fun hr=> ?_⟩,fun hge=> ?_⟩
 ·rw [rngu16]at hr
  have ed:Int.tdiv i 2=i/2:=Int.tdiv_eq_ediv_of_nonneg hi0
  have em:Int.tmod i 2=i % 2:=Int.tmod_eq_emod_of_nonneg hi0
  rw[ed,em]
  obtain⟨y,hy⟩:∃y,y=IntKind.wrap .u32 (bor .u32 (w.int (i/2) 0) (IntKind.wrap .u32 (shl .u32 (s.int i 0) (16*(i % 2))))):=⟨_,rfl⟩
  rw[<-hy]
  have key:(y-w.int (i/2) 0)*4294967296^(i/2).toNat=s.int i 0*65536^i.toNat/\(i % 2=0->y=s.int i 0):=by
   have hx:=hd.at hi0 hlt
   rcases(show i % 2=0\/i % 2=1 by omega)with h|h
   ·have e0:shl .u32 (s.int i 0) (16*(i % 2))=s.int i 0:=by
     rw[h]
     have:=shl_def .u32 (s.int i 0) (n:=0) (by decide)
     simpa using this
    have ez:w.int (i/2) 0=0:=hz _ (by omega) (by omega)
    rw[e0,ez,wu32_in hx.1 (by omega),bor_zero hx.1 (by show _<(4294967296:Int);omega),wu32_in hx.1 (by omega)]at hy
    have ei:i.toNat=2*(i/2).toNat:=by omega
    rw[ez,hy,Int.sub_zero,ei,pow16]
    exact⟨rfl,fun _=>rfl⟩
   ·have e0:shl .u32 (s.int i 0) (16*(i % 2))=s.int i 0*65536:=by
     rw[h]
     exact shl_def .u32 (s.int i 0) (n:=16) (by decide)
    have ez:w.int (i/2) 0=s.int (i-1) 0:=ho _ (by omega)
    have hx':=hd.at (i:=i-1) (by omega) (by omega)
    have hb:=bor_add (k:= .u32) (a:=s.int i 0) (b:=s.int (i-1) 0) (i:=16) hx.1 hx'.1 (by show _<(65536:Int);omega) (by show s.int i 0*65536+s.int (i-1) 0<(4294967296:Int);omega)
    have hb:bor .u32 (s.int i 0*65536) (s.int (i-1) 0)=s.int i 0*65536+s.int (i-1) 0:=hb
    rw[e0,ez,wu32_in (x:=s.int i 0*65536) (by omega) (by omega),bor_comm,hb,wu32_in (by omega) (by omega)]at hy
    have ei:i.toNat=2*(i/2).toNat+1:=by omega
    rw[ez,hy,ei,Int.pow_succ,pow16]
    refine⟨?_,fun h'=>absurd h' (by omega)⟩
    have:s.int i 0*65536+s.int (i-1) 0-s.int (i-1) 0=s.int i 0*65536:=by omega
    rw[this,Int.mul_comm (4294967296^_) 65536,Int.mul_assoc]
  refine⟨by decide,rsL _ (by omega),by decide,rsL _ (by omega),rsL _ (by omega),by omega,by omega,by omega,fun _=>⟨by omega,by omega,rsL _ (by omega),⟨by omega,by omega,hwl, ?_,fun j hj0 hj=> ?_,fun j hj=> ?_⟩, ?_⟩⟩
  ·unfold vw at hv⊢
   rw[val_upd (by omega) (by omega),hv,key.1,vto_succ _ _ hi0]
  ·rw[int_upd (by omega) hj0,if_neg (by omega)]
   exact hz j hj0 (by omega)
  ·rw[int_upd (by omega) (by omega),if_pos (by omega),key.2 (by omega)]
   congr 1
   omega
  ·show(s.len-(i+1)).toNat<(s.len-i).toNat
   omega
 ·have e:i=s.len:=by omega
  subst e
  refine⟨⟨by unfold vl;rw[hv,val_vto],fun hn=> ?_,by omega⟩,trivial⟩
  refine nrm_of_val (B:=4294967296) (by decide) (ranged32 rw_) fun hp=> ?_
  have h1:=val_ge (B:=65536) (by decide) hd hn (by omega)
  unfold vw at hv
  rw[hv,<-val_vto,<-pow16]
  refine Int.le_trans (pow_mono (by decide) ?_) h1
  unfold Sl.len at*
  omega
theorem unpack_ok:V_unpack:=by
 intro b0 s1 r1 hp
 refine⟨trivial,fun w rw_ hq hsm=> ?_⟩
 obtain⟨hn,hl,hv⟩:=hq
 unfold p_unpack Lim at hp
 have h0:=len0 w
 have hd:=ranged32 rw_
 refine⟨fun hz=>⟨⟨nrm_nil, ?_,by simp[len_nil]⟩,trivial⟩,fun hnz _=>⟨rsL _ (by omega),by omega,by omega,by omega,fun _=> ?_⟩⟩
 ·have:=(val_zero_iff (B:=4294967296) (by decide) hd hn).2 hz
  unfold vl vw at*
  rw[val_nil,<-hv,this]
 refine⟨fun i l=>0<=i/\i<=w.len/\l.len=2*w.len/\vto 65536 l (2*i)=vto 4294967296 w i,fun i _=>(w.len-i).toNat,⟨Int.le_refl _,h0,len_rep (by omega) _,rfl⟩,fun i _ l rl hj=> ?_⟩
 obtain⟨hi0,hi1,hll,hvv⟩:=hj
 refine⟨fun hlt=>⟨hi0,hlt,fun hr=>⟨rsL _ (by omega),by omega,by omega,rsL _ (by omega),rsL _ (by omega),by decide, ?_,by omega,by rw[len_upd];omega,rsL _ (by omega),⟨by omega,by omega,by rw[len_upd,len_upd];exact hll, ?_⟩, ?_⟩⟩,fun hge hsl=> ?_⟩
 ·rw[rngu32]at hr
  rw[shr16]
  exact rngu32.2 (by omega)
 ·rw[rngu32]at hr
  have e:2*(i+1)=(2*i+1)+1:=by omega
  rw[e,vto_upd_succ (by omega),vto_upd_succ (by omega),hvv,vto_succ _ _ hi0,shr16,wu16,wu16]
  have e1:(2*i).toNat=2*i.toNat:=by omega
  have e2:(2*i+1).toNat=2*i.toNat+1:=by omega
  rw[e1,e2,Int.pow_succ,pow16]
  have e3:w.int i 0/65536 % 65536=w.int i 0/65536:=by omega
  rw[e3]
  generalize(4294967296:Int)^i.toNat=Q
  have e4:w.int i 0=w.int i 0 % 65536+w.int i 0/65536*65536:=by omega
  generalize w.int i 0 % 65536=m at*
  generalize w.int i 0/65536=d at*
  rw[e4]
  grind
 ·show(w.len-(i+1)).toNat<(w.len-i).toNat
  omega
 ·have e:i=w.len:=by omega
  subst e
  have hlv:vl l=vw w:=by
   unfold vl vw
   rw[val_vto,hll,hvv,<-val_vto]
  have hdl:=ranged16 rl
  have hge:=val_ge (B:=4294967296) (by decide) hd hn (by omega)
  have hm:=small64 hsl
  refine⟨rsL _ (by omega),by omega,by omega,fun _=>⟨fun hz _=>⟨rsL _ (by omega),by decide,by omega,by omega,⟨?_, ?_, ?_⟩,trivial⟩,fun hnz'=>⟨⟨fun _=>hnz',hlv.trans hv, ?_⟩,trivial⟩⟩⟩
  ·refine nrm_of_val (B:=65536) (by decide) (dig_part0 hdl (by omega) (by omega)) fun _=> ?_
   have e:=vto_last (B:=65536) (s:=l) (by omega)
   rw[hz,Int.zero_mul,Int.add_zero]at e
   rw[val_part0 (by omega),<-e]
   have hlv':val 65536 l=val 4294967296 w:=hlv
   rw[hlv']
   refine Int.le_trans ?_ hge
   rw[<-pow16]
   refine pow_mono (by decide) ?_
   show(l.len-1-0).toNat-1<=2*(w.n-1)
   unfold Sl.len at*
   omega
  ·have e:=vto_last (B:=65536) (s:=l) (by omega)
   rw[hz,Int.zero_mul,Int.add_zero]at e
   unfold vl at hlv⊢
   rw[val_part0 (by omega),<-e,hlv,hv]
  ·rw[len_part (by omega)]
   simp only[decide_eq_true_eq]
   exact⟨fun h=>⟨h,by omega⟩,fun h=>h.1⟩
  ·simp only[decide_eq_true_eq]
   exact⟨fun h=>⟨h,by omega⟩,fun h=>h.1⟩
theorem long_ok:V_long:=by
 intro s r0 hp hsm
 have hp:s.len<=2:=hp
 have h0:=len0 s
 have hd:=ranged32 r0
 refine⟨rsL _ (by omega),fun i acc=>-1<=i/\i<s.len/\acc=vhi 4294967296 s (i+1),fun i _=>(i+1).toNat,⟨by omega,by omega, ?_⟩,fun i _ acc _ hj=> ?_⟩
 ·rw[vhi_end _ _ (by omega)]
 ·obtain⟨h1,h2,h3⟩:=hj
  refine⟨fun hge=>⟨hge,h2,fun _=>⟨by decide,rsL _ (by omega),⟨by omega,by omega, ?_⟩, ?_⟩⟩,fun hlt=>⟨?_,trivial⟩⟩
  ·have hb:=hd.bound_hi (B:=4294967296) (by decide) (i:=i+1) (by omega)
   have hx:=hd.at hge h2
   have:(4294967296:Int)^(s.n-(i+1).toNat)<=4294967296^1:=pow_mono (by decide) (by unfold Sl.len at*;omega)
   rw[two32 (by omega) (by omega) hx.1 hx.2,h3,show i-1+1=i from by omega,vhi_step _ _ hge h2]
   omega
  ·show(i-1+1).toNat<(i+1).toNat
   omega
  ·have e:i=-1:=by omega
   subst e
   show acc=vw s
   rw[h3]
   exact vhi_zero _ _
theorem val_lit2(B a b:Int):val B (Sl.lit [[.int a],[.int b]])=a+b*B:=by
 show 0+a*B^0+b*B^1=a+b*B
 rw[Int.pow_zero,Int.pow_one]
 omega
theorem val_lit1(B a:Int):val B (Sl.lit [[.int a]])=a:=by
 show 0+a*B^0=a
 rw[Int.pow_zero]
 omega
theorem short_ok:V_short:=by
 intro x r0 _
 rw[rngu64]at r0
 rw[shr32,wu32,wu32_in (x:=x/4294967296) (by omega) (by omega)]
 refine⟨by decide,rngu64.2 (by omega),trivial,fun s _ hq=>⟨⟨?_,hq.1⟩,trivial⟩⟩
 rw[hq.2.2]
 unfold vw
 rw[val_lit2]
 omega
theorem compare_ok:V_compare:=by
 intro a ra b rb hp hsa hsb
 obtain⟨na,nb⟩:=hp
 have da:=ranged32 ra
 have db:=ranged32 rb
 have ha0:=len0 a
 have hm:=small64 hsa
 refine⟨fun hne _ _=>⟨fun hlt=>⟨.inl ⟨rfl, ?_⟩,trivial⟩,fun hge=>⟨.inr (.inr ⟨rfl, ?_⟩),trivial⟩⟩,fun heq _=>⟨rsL _ (by omega), ?_⟩⟩
 ·exact Nm.lt (by decide) da db (nrm_nm.1 nb) (by unfold Sl.len at hlt;omega)
 ·exact Nm.lt (by decide) db da (nrm_nm.1 na) (by unfold Sl.len at*;omega)
 have heq:a.len=b.len:=Classical.not_not.1 heq
 refine⟨fun i=>-1<=i/\i<a.len/\∀k:Int,i<k->k<a.len->a.int k 0=b.int k 0,fun i=>(i+1).toNat,⟨by omega,by omega,fun k h1 h2=>absurd h1 (by omega)⟩,fun i _ hj=> ?_⟩
 obtain⟨h1,h2,h3⟩:=hj
 have lt:∀x y:Sl,Dig 4294967296 x->Dig 4294967296 y->0<=i->i<x.len->x.len=y.len->(∀k:Int,i<k->k<x.len->x.int k 0=y.int k 0)->x.int i 0<y.int i 0->vw x<vw y:=fun x y dx dy hi hx hxy hk hl=>by
  have e:x.n=y.n:=by unfold Sl.len at hxy;omega
  unfold vw val
  rw[<-e]
  refine valN_lt (by decide) (i:=i.toNat) dx (by rw[e];exact dy) (by unfold Sl.len at hx;omega) (fun k hk1 hk2=>hk k (by omega) (by unfold Sl.len;omega)) ?_
  rw[dg_int hi,dg_int hi]
  exact hl
 refine⟨fun hge=>⟨hge,h2,fun _=>⟨hge,by omega,fun _=>⟨fun hne=>⟨hge,h2,fun _=>⟨hge,by omega,fun _=>⟨fun hlt=>⟨.inl ⟨rfl, ?_⟩,trivial⟩,fun hgt=>⟨.inr (.inr ⟨rfl, ?_⟩),trivial⟩⟩⟩⟩,fun heq'=>⟨rsL _ (by omega),⟨by omega,by omega,fun k k1 k2=> ?_⟩, ?_⟩⟩⟩⟩,fun hlt=>⟨.inr (.inl ⟨rfl, ?_⟩),trivial⟩⟩
 ·exact lt a b da db hge h2 heq h3 hlt
 ·exact lt b a db da hge (by omega) heq.symm (fun k k1 k2=>(h3 k k1 (by omega)).symm) (by omega)
 ·by_cases e:k=i
  ·rw[e];exact Classical.not_not.1 heq'
  ·exact h3 k (by omega) k2
 ·show(i-1+1).toNat<(i+1).toNat
  omega
 ·exact SameI.val ⟨heq,fun k k0 k1=>h3 k (by omega) k1⟩ _
end Go.Sx.N
namespace Go.Sx.N
theorem divideShort_ok:V_divideShort:=by
 intro s r0 d rd hp hsm
 obtain⟨hl,hd0⟩:=hp
 unfold Lim at hl
 have h0:=len0 s
 have hs:=ranged32 r0
 refine⟨h0,by omega,by omega,fun _=>⟨rsL _ (by omega), ?_⟩⟩
 refine⟨fun r i q=>-1<=i/\i<s.len/\q.len=s.len/\r<d/\0<=r/\vhi 4294967296 s (i+1)=d*vhi 4294967296 q (i+1)+r,fun _ i _=>(i+1).toNat,⟨by omega,by omega,len_rep h0 _,hd0,by omega, ?_⟩,fun r rr i _ q rq hj=> ?_⟩
 ·rw[vhi_rep,vhi_end _ _ (by omega)]
  omega
 obtain⟨h1,h2,hql,hrd,hr0,hv⟩:=hj
 refine⟨fun hge=>⟨hge,h2,fun _=>⟨hrd,fun x6 r6 x7 r7 hq=>⟨hge,by omega,rsL _ (by omega),⟨by omega,by omega,by rw[len_upd];exact hql,hq.2,(rngu32.1 r7).1, ?_⟩, ?_⟩⟩⟩,fun hlt=>⟨trivial,fun t _ hq=>⟨⟨?_,hrd,hq.1⟩,trivial⟩⟩⟩
 ·rw[show i-1+1=i from by omega,vhi_step _ _ hge h2,vhi_step _ _ hge (by rw[len_upd];omega),vhi_upd hge (by omega),int_upd hge hge,if_pos rfl,hv]
  have:=hq.1
  grind
 ·show(i-1+1).toNat<(i+1).toNat
  omega
 ·have e:i=-1:=by omega
  subst e
  have e1:vhi 4294967296 s (-1+1)=vw s:=vhi_zero _ _
  have e2:vhi 4294967296 q (-1+1)=vw q:=vhi_zero _ _
  rw[e1,e2]at hv
  rw[hq.2.2,hv]
theorem shl_var(k:IntKind)(x:Int){n:Int}(h:n.toNat<=k.bits):shl k x n=x*2^n.toNat:=by
 unfold shl
 rw[Nat.min_eq_left h]
theorem shr_var(k:IntKind)(x:Int){n:Int}(h:n.toNat<=k.bits):shr k x n=x/2^n.toNat:=by
 unfold shr
 rw[Nat.min_eq_left h,Int.fdiv_eq_ediv_of_nonneg _ (Int.le_of_lt (Int.pow_pos (by decide)))]
theorem two_pow{n:Int}(h0:0<=n)(h1:n<=31):∃p q:Int,(2:Int)^n.toNat=p/\1<=p/\p<=2147483648/\q=2^(32-n.toNat)/\1<=q/\q*p=4294967296:=by
 have e:(2:Int)^(32-n.toNat)*2^n.toNat=4294967296:=by
  rw[<-Int.pow_add,show 32-n.toNat+n.toNat=32 from by omega];rfl
 have hp:(0:Int)<2^n.toNat:=Int.pow_pos (by decide)
 have hq:(0:Int)<2^(32-n.toNat):=Int.pow_pos (by decide)
 refine⟨_,_,rfl,by omega, ?_,rfl,by omega,e⟩
 have:=pow_mono (B:=2) (by decide) (show n.toNat<=31 by omega)
 exact this
theorem shifted_ok:V_shifted:=by
 intro s r0 n rn hp hsm
 obtain⟨hl,hn0,hn1⟩:=hp
 unfold Lim at hl
 have h0:=len0 s
 have hs:=ranged32 r0
 obtain⟨p,q,hpe,hp1,hp2,hqe,hq1,hqp⟩:=two_pow hn0 hn1
 refine⟨rsL _ (by omega),by omega,by omega,by omega,fun _=> ?_⟩
 refine⟨fun i w=>0<=i/\i<=s.len/\w.len=s.len+1/\vto 4294967296 w (i+1)=vto 4294967296 s i*p/\0<=w.int i 0/\w.int i 0<p,fun i _=>(s.len-i).toNat,⟨by omega,h0,len_rep (by omega) _, ?_,by rw[int_rep];omega,by rw[int_rep];omega⟩,fun i _ w rw_ hj=> ?_⟩
 ·rw[vto_rep,vto_zero];omega
 obtain⟨hi0,hi1,hwl,hv,hw0,hw1⟩:=hj
 refine⟨fun hlt=> ?_,fun hge=>⟨⟨hwl, ?_⟩,trivial⟩⟩
 ·have hx:=hs.at hi0 hlt
  have e1:shl .u64 (s.int i 0) n=s.int i 0*p:=by rw[shl_var _ _ (by show n.toNat<=64;omega),hpe]
  obtain⟨x,hxe⟩:∃x,x=s.int i 0:=⟨_,rfl⟩
  rw[<-hxe]at hx e1
  have hxp:x*p<=4294967295*p:=Int.mul_le_mul_of_nonneg_right (by omega) (by omega)
  have hxp0:0<=x*p:=Int.mul_nonneg (by omega) (by omega)
  rw[<-hxe,e1,wu64_in hxp0 (by omega),shr32,wu32_in (x:=x*p/4294967296) (by omega) (by omega),wu32 (x*p)]
  obtain⟨lo,hlo⟩:∃lo,lo=x*p % 4294967296:=⟨_,rfl⟩
  obtain⟨hi,hhi⟩:∃hi,hi=x*p/4294967296:=⟨_,rfl⟩
  rw[<-hlo,<-hhi]
  have hsum:x*p=lo+hi*4294967296:=by omega
  have hlo0:0<=lo/\lo<4294967296:=by omega
  have hhip:hi<p:=by
   refine Int.not_le.1 fun hle=> ?_
   have:p*4294967296<=hi*4294967296:=Int.mul_le_mul_of_nonneg_right hle (by omega)
   omega
  have hb:IntKind.wrap .u32 (bor .u32 (w.int i 0) lo)=w.int i 0+lo:=by
   obtain⟨m,hm⟩:∃m,m=x % q:=⟨_,rfl⟩
   have hm0:0<=m:=by rw[hm];exact Int.emod_nonneg _ (by omega)
   have hmq:m<q:=by rw[hm];exact Int.emod_lt_of_pos _ (by omega)
   have hmp:lo=m*p:=by
    have e:=Int.mul_ediv_add_emod x q
    rw[<-hm]at e
    have e3:x*p=4294967296*(x/q)+m*p:=by
     rw[<-e,Int.add_mul,<-hqp]
     have:q*(q*(x/q)+m)/q=q*(x/q)+m:=Int.mul_ediv_cancel_left _ (by omega)
     grind
    have hmpq:(m+1)*p<=q*p:=Int.mul_le_mul_of_nonneg_right (by omega) (by omega)
    have hmp0:0<=m*p:=Int.mul_nonneg hm0 (by omega)
    rw[Int.add_mul,Int.one_mul,hqp]at hmpq
    rw[hlo,e3]
    omega
   have hmpq:(m+1)*p<=q*p:=Int.mul_le_mul_of_nonneg_right (by omega) (by omega)
   rw[Int.add_mul,Int.one_mul,hqp]at hmpq
   have:=bor_add (k:= .u32) (a:=m) (b:=w.int i 0) (i:=n.toNat) hm0 hw0 (by rw[hpe];exact hw1) (by rw[hpe];show _<(4294967296:Int);omega)
   rw[hpe,<-hmp]at this
   rw[bor_comm,this,wu32_in (by omega) (by omega)]
   omega
  rw[hb]
  refine⟨hi0,hlt,fun _=>⟨hn0,hi0,by omega,fun _=>⟨hi0,by omega,rsL _ (by omega),by decide,rngu64.2 (by omega),by omega,by rw[len_upd];omega,rsL _ (by omega),⟨by omega,by omega,by rw[len_upd,len_upd];exact hwl, ?_, ?_, ?_⟩, ?_⟩⟩⟩
  ·rw[vto_upd_succ (by omega),vto_upd_succ hi0,vto_succ _ _ hi0,<-hxe]
   have e:=vto_succ 4294967296 w hi0
   rw[hv]at e
   rw[show(i+1).toNat=i.toNat+1 from by omega,Int.pow_succ]
   generalize(4294967296:Int)^i.toNat=Q at*
   have e4:(vto 4294967296 s i+x*Q)*p=vto 4294967296 s i*p+x*p*Q:=by grind
   rw[e4,e,hsum]
   grind
  ·rw[int_upd (by omega) (by omega),if_pos rfl];omega
  ·rw[int_upd (by omega) (by omega),if_pos rfl];omega
  ·show(s.len-(i+1)).toNat<(s.len-i).toNat
   omega
 ·have e:i=s.len:=by omega
  subst e
  unfold vw
  rw[hpe,val_vto,hwl,hv,<-val_vto]
theorem vto_split(B:Int)(s:Sl){j i:Int}(hj:0<=j)(hi:0<=i):vto B s (j+i)=vto B s j+B^j.toNat*valN B (fun k=>dg s (j.toNat+k)) i.toNat:=by
 unfold vto
 rw[show(j+i).toNat=j.toNat+i.toNat from by omega,valN_split]
theorem val_split(B:Int)(s:Sl){i:Int}(hi:0<=i)(hl:i<=s.len):val B s=vto B s i+B^i.toNat*vhi B s i:=by
 unfold val vto vhi
 have e:s.n=i.toNat+(s.n-i.toNat):=by unfold Sl.len at hl;omega
 have:=valN_split B (dg s) i.toNat (s.n-i.toNat)
 rw[<-e]at this
 exact this
theorem vto_le{B:Int}(hB:0<B){s:Sl}(hs:Dig B s){i:Int}(hi:0<=i)(hl:i<=s.len):vto B s i<=val B s:=by
 rw[val_split B s hi hl]
 have h1:=pos_pow hB i.toNat
 have h2:=(hs.bound_hi hB hl).1
 have:=Int.mul_nonneg (Int.le_of_lt h1) h2
 omega
theorem digit_le{B:Int}(hB:0<B){s:Sl}(hs:Dig B s){k:Int}(h0:0<=k)(h1:k<s.len):s.int k 0*B^k.toNat<=val B s:=by
 have:=vto_le hB hs (i:=k+1) (by omega) (by omega)
 rw[vto_succ B s h0]at this
 have:=(hs.bound_to hB (i:=k) (by omega)).1
 omega
theorem digit_zero{B:Int}(hB:0<B){s:Sl}(hs:Dig B s){i k:Int}(hv:val B s<B^i.toNat)(hi:0<=i)(hk:i<=k)(hl:k<s.len):s.int k 0=0:=by
 have h1:=digit_le hB hs (by omega) hl
 have h2:=pow_mono hB (show i.toNat<=k.toNat by omega)
 have h3:=(hs.at (by omega) hl).1
 refine Int.le_antisymm (Int.not_lt.1 fun hlt=> ?_) h3
 have:1*B^k.toNat<=s.int k 0*B^k.toNat:=Int.mul_le_mul_of_nonneg_right (by omega) (by have:=pos_pow hB k.toNat;omega)
 omega
theorem val_of_lt{B:Int}(hB:0<B){s:Sl}(hs:Dig B s){i:Int}(hv:val B s<B^i.toNat)(hi:0<=i)(hl:i<=s.len):val B s=vto B s i:=by
 rw[val_split B s hi hl]at hv⊢
 have h1:=(hs.bound_to hB hl).1
 have h2:=(hs.bound_hi hB hl).1
 have h3:=pos_pow hB i.toNat
 have:vhi B s i=0:=by
  refine Int.le_antisymm (Int.not_lt.1 fun hlt=> ?_) h2
  have:B^i.toNat*1<=B^i.toNat*vhi B s i:=Int.mul_le_mul_of_nonneg_left (by omega) (by omega)
  omega
 rw[this]
 omega
theorem sub_digit{digit vi carry ui borrow:Int}(hd:0<=digit/\digit<4294967296)(hv:0<=vi/\vi<4294967296)(hc:0<=carry/\carry<4294967296)(hu:0<=ui/\ui<4294967296)(hb:borrow=0\/borrow=1):
  ∃carry' y bo:Int,shr .u64 (IntKind.wrap .u64 (IntKind.wrap .u64 (digit*vi)+carry)) 32=carry'/\
   IntKind.wrap .u32 (IntKind.wrap .u64 (IntKind.wrap .u64 (ui-IntKind.wrap .u32 (IntKind.wrap .u64 (IntKind.wrap .u64 (digit*vi)+carry)))-borrow))=y/\
   shr .u64 (IntKind.wrap .u64 (IntKind.wrap .u64 (ui-IntKind.wrap .u32 (IntKind.wrap .u64 (IntKind.wrap .u64 (digit*vi)+carry)))-borrow)) 63=bo/\
   (0<=carry'/\carry'<4294967296)/\(bo=0\/bo=1)/\y-ui=carry'*4294967296+bo*4294967296-digit*vi-carry-borrow:=by
 have h1:digit*vi<=4294967295*4294967295:=Int.mul_le_mul (by omega) (by omega) hv.1 (by omega)
 have h0:0<=digit*vi:=Int.mul_nonneg hd.1 hv.1
 generalize digit*vi=m at*
 rw[shr32,shr63,wu64_in (x:=m) h0 (by omega),wu64_in (x:=m+carry) (by omega) (by omega),wu32,wu32,wu64,wu64]
 refine⟨_,_,_,rfl,rfl,rfl,by omega, ?_, ?_⟩
 ·rcases hb with rfl|rfl<;>omega
 ·rcases hb with rfl|rfl<;>omega
theorem last_digit{carry ui borrow:Int}(hc:0<=carry/\carry<4294967296)(hu:0<=ui/\ui<4294967296)(hb:borrow=0\/borrow=1):
  ∃y neg:Int,IntKind.wrap .u32 (IntKind.wrap .u64 (IntKind.wrap .u64 (ui-carry)-borrow))=y/\shr .u64 (IntKind.wrap .u64 (IntKind.wrap .u64 (ui-carry)-borrow)) 63=neg/\
   (neg=0\/neg=1)/\y-ui=neg*4294967296-carry-borrow:=by
 rw[shr63,wu32,wu64,wu64]
 refine⟨_,_,rfl,rfl, ?_, ?_⟩
 ·rcases hb with rfl|rfl<;>omega
 ·rcases hb with rfl|rfl<;>omega
end Go.Sx.N
namespace Go.Sx.N
theorem vhi_zeros{B:Int}{s:Sl}{i:Int}(h0:0<=i)(h:∀k:Int,i<=k->k<s.len->s.int k 0=0):vhi B s i=0:=
 valN_zero fun k hk=>h ((i.toNat+k:Nat):Int) (by omega) (by unfold Sl.len;omega)
theorem cancel_le{P x y:Int}(hP:0<P)(h:P*x<=P*y):x<=y:=Int.le_of_mul_le_mul_left h hP
theorem cancel_lt{P x y:Int}(hP:0<P)(h:P*x<P*y):x<y:=Int.lt_of_mul_lt_mul_left h (by omega)
theorem cancel_eq{P x y:Int}(hP:0<P)(h:P*x=P*y):x=y:=Int.eq_of_mul_eq_mul_left (by omega) h
theorem unshift_digit{p q u0 u1:Int}(hp:1<=p)(hq:1<=q)(hqp:q*p=4294967296)(h0:0<=u0/\u0<4294967296)(h1:0<=u1/\u1<4294967296):
  0<=(u1*4294967296+u0)/p/\(u1*4294967296+u0)/p<18446744073709551616/\p*(((u1*4294967296+u0)/p) % 4294967296)=u1 % p*4294967296+u0-u0 % p:=by
 have e0:=Int.mul_ediv_add_emod u0 p
 have e1:=Int.mul_ediv_add_emod u1 p
 have c0:=Int.emod_nonneg u0 (show p≠0 by omega)
 have c0':=Int.emod_lt_of_pos u0 (show 0<p by omega)
 have c1:=Int.emod_nonneg u1 (show p≠0 by omega)
 have c1':=Int.emod_lt_of_pos u1 (show 0<p by omega)
 have g0:0<=u0/p:=Int.ediv_nonneg h0.1 (by omega)
 have g1:0<=u1/p:=Int.ediv_nonneg h1.1 (by omega)
 generalize u0/p=a0 at*
 generalize u1/p=a1 at*
 generalize u0 % p=m0 at*
 generalize u1 % p=m1 at*
 have hdiv:(u1*4294967296+u0)/p=u1*q+a0:=by
  have:u1*4294967296+u0=m0+p*(u1*q+a0):=by rw[<-hqp,<-e0];grind
  rw[this,Int.add_mul_ediv_left _ _ (by omega),Int.ediv_eq_zero_of_lt c0 c0']
  omega
 have ha0:a0<q:=by
  refine Int.not_le.1 fun hle=> ?_
  have:p*q<=p*a0:=Int.mul_le_mul_of_nonneg_left hle (by omega)
  rw[Int.mul_comm p q,hqp]at this
  omega
 have hm1:(m1+1)*q<=p*q:=Int.mul_le_mul_of_nonneg_right (by omega) (by omega)
 rw[Int.add_mul,Int.one_mul,Int.mul_comm p q,hqp]at hm1
 have hm1':0<=m1*q:=Int.mul_nonneg c1 (by omega)
 have hu1:u1*q<=4294967295*4294967296:=Int.mul_le_mul (by omega) (by
  have:q*1<=q*p:=Int.mul_le_mul_of_nonneg_left hp (by omega)
  omega) (by omega) (by omega)
 have hu1':0<=u1*q:=Int.mul_nonneg h1.1 (by omega)
 have hq':q<=4294967296:=by
  have:q*1<=q*p:=Int.mul_le_mul_of_nonneg_left hp (by omega)
  omega
 have e2:u1*q=m1*q+a1*4294967296:=by rw[<-e1,<-hqp];grind
 rw[hdiv]
 refine⟨by omega,by omega, ?_⟩
 have e3:(u1*q+a0) % 4294967296=m1*q+a0:=by omega
 rw[e3]
 have e4:p*(m1*q+a0)=m1*(q*p)+p*a0:=by grind
 rw[e4,hqp]
 omega
set_option maxHeartbeats 2000000 in
theorem divide_ok:V_divide:=by
 intro a ra b rb hp
 obtain⟨hla,hlb,na,nb,hbp⟩:=hp
 unfold Lim at hla hlb
 have ha0:=len0 a
 have da:=ranged32 ra
 have db:=ranged32 rb
 have hbv:0<vw b:=(val_pos_iff (B:=4294967296) (by decide) db nb).2 hbp
 refine⟨⟨na,nb⟩,fun c _ hc=>⟨fun hlt=>⟨hla,fun s _ hs=>⟨⟨?_, ?_,nrm_nil,hs.nrm na⟩,trivial⟩⟩,fun hge _=>⟨fun h1=>⟨by decide,by omega,fun hr=>⟨⟨hla, ?_⟩,fun q _ x _ hq=>⟨trivial,fun t _ ht=>⟨⟨?_, ?_,hq.2.2,ht.1⟩,trivial⟩⟩⟩⟩,fun hne1 _=> ?_⟩⟩⟩
 ·have:vw s=vw a:=hs.val _
  have e:vw Sl.nil=0:=rfl
  rw[this,e];omega
 ·have:vw s=vw a:=hs.val _
  rw[this]
  rcases hc with hc|hc|hc<;>omega
 ·have:=nb hbp
  rw[h1]at this
  rw[rngu32]at hr
  have e:b.int (1-1) 0=b.int 0 0:=rfl
  rw[e]at this
  omega
 ·have e:vw b=b.int 0 0:=by
   unfold vw
   rw[val_vto,h1]
   have:=vto_succ 4294967296 b (i:=0) (by omega)
   rw[vto_zero]at this
   have e2:(0:Int)+1=1:=rfl
   rw[e2]at this
   rw[this]
   show 0+b.int 0 0*4294967296^0=b.int 0 0
   rw[Int.pow_zero]
   omega
  rw[ht.2.2,e]
  unfold vw
  rw[val_lit1]
  exact hq.1
 ·have e:vw b=b.int 0 0:=by
   unfold vw
   rw[val_vto,h1]
   have:=vto_succ 4294967296 b (i:=0) (by omega)
   rw[vto_zero]at this
   have e2:(0:Int)+1=1:=rfl
   rw[e2]at this
   rw[this]
   show 0+b.int 0 0*4294967296^0=b.int 0 0
   rw[Int.pow_zero]
   omega
  rw[ht.2.2,e]
  unfold vw
  rw[val_lit1]
  exact hq.2.1
 have hn2:2<=b.len:=by omega
 have htb:=db.at (i:=b.len-1) (by omega) (by omega)
 have htop0:0<b.int (b.len-1) 0:=by have:=nb hbp;omega
 have hab:b.len<=a.len:=by
  refine Int.not_lt.1 fun hlt=> ?_
  have h:=Nm.lt (B:=4294967296) (by decide) da db (nrm_nm.1 nb) (by unfold Sl.len at hlt;omega)
  have h:vw a<vw b:=h
  rcases hc with hc|hc|hc<;>omega
 refine⟨rsL _ (by omega),by omega,by omega,fun _=>⟨trivial,fun sh _ hsh=> ?_⟩⟩
 obtain⟨hs0,_,hs1⟩:=hsh
 obtain⟨hs31,hlo,hhi⟩:=hs1 htop0
 obtain⟨p,q2,hpe,hp1,hp2,hqe,hq1,hqp⟩:=two_pow hs0 hs31
 refine⟨⟨hlb,hs0,hs31⟩,fun s4 r4 h4=> ?_⟩
 obtain⟨h4l,h4v⟩:=h4
 refine⟨by decide,by omega,by rw[h4l];omega,⟨hla,hs0,hs31⟩,fun s5 r5 h5=> ?_⟩
 obtain⟨h5l,h5v⟩:=h5
 rw[hpe]at hlo hhi h4v h5v
 have d4:=ranged32 r4
 have hbl:=vto_last (B:=4294967296) hbp
 have hbl:vw b=vto 4294967296 b (b.len-1)+b.int (b.len-1) 0*4294967296^(b.len-1).toNat:=hbl
 generalize hn:b.len=n at*
 obtain⟨PP,hPP⟩:∃PP:Int,PP=4294967296^(n-2).toNat:=⟨_,rfl⟩
 have hPP0:0<PP:=by rw[hPP];exact pos_pow (by decide) _
 have hPn:(4294967296:Int)^(n-1).toNat=PP*4294967296:=by rw[hPP,show(n-1).toNat=(n-2).toNat+1 from by omega,Int.pow_succ]
 have hPn1:(4294967296:Int)^n.toNat=PP*4294967296*4294967296:=by rw[hPP,show n.toNat=(n-2).toNat+1+1 from by omega,Int.pow_succ,Int.pow_succ]
 have hbval:vw b=vto 4294967296 b (n-1)+b.int (n-1) 0*(PP*4294967296):=by
  rw[<-hPn]
  exact hbl
 have hbto:=db.bound_to (B:=4294967296) (by decide) (i:=n-1) (by omega)
 rw[hPn]at hbto
 generalize ht:b.int (n-1) 0=t at*
 have htq:(t+1)*p<=4294967296:=by
  have:t<q2:=cancel_lt (P:=p) (by omega) (by rw[Int.mul_comm p t,Int.mul_comm p q2,hqp];exact hhi)
  rw[<-hqp]
  exact Int.mul_le_mul_of_nonneg_right (by omega) (by omega)
 obtain⟨V,hV⟩:∃V,V=vw b*p:=⟨_,rfl⟩
 have hVlt:V<4294967296^n.toNat:=by
  have h1:vw b<(t+1)*(PP*4294967296):=by rw[Int.add_mul];omega
  have h2:vw b*p<(t+1)*(PP*4294967296)*p:=Int.mul_lt_mul_of_pos_right h1 (by omega)
  have h3:(t+1)*p*(PP*4294967296)<=4294967296*(PP*4294967296):=Int.mul_le_mul_of_nonneg_right htq (by omega)
  have e:(t+1)*(PP*4294967296)*p=(t+1)*p*(PP*4294967296):=by grind
  rw[hV,hPn1]
  rw[e]at h2
  have e2:4294967296*(PP*4294967296)=PP*4294967296*4294967296:=by grind
  omega
 have hVge:2147483648*(PP*4294967296)<=V:=by
  have h1:t*(PP*4294967296)*p<=vw b*p:=Int.mul_le_mul_of_nonneg_right (by omega) (by omega)
  have h2:2147483648*(PP*4294967296)<=t*p*(PP*4294967296):=Int.mul_le_mul_of_nonneg_right hlo (by omega)
  have e:t*(PP*4294967296)*p=t*p*(PP*4294967296):=by grind
  rw[hV]
  omega
 have hV0:0<V:=by omega
 rw[<-hV]at h4v
 obtain⟨v,hv⟩:∃v,v=Sl.part s4 0 n:=⟨_,rfl⟩
 have hvl:v.len=n:=by rw[hv,len_part (by omega)];omega
 have dv:Dig 4294967296 v:=by rw[hv];exact dig_part0 d4 (by omega) (by rw[h4l];omega)
 have hvv:vto 4294967296 v n=V:=by
  rw[<-hvl,<-val_vto,hv,val_part0 (by omega),<-h4v]
  exact(val_of_lt (by decide) d4 (by show vw s4<_;rw[h4v];exact hVlt) (by omega) (by rw[h4l];omega)).symm
 obtain⟨top,htop⟩:∃top,top=v.int (n-1) 0:=⟨_,rfl⟩
 obtain⟨v2,hv2⟩:∃v2,v2=v.int (n-2) 0:=⟨_,rfl⟩
 obtain⟨vl',hvl'⟩:∃vl',vl'=vto 4294967296 v (n-2):=⟨_,rfl⟩
 have htr:0<=top/\top<4294967296:=by rw[htop];exact dv.at (by omega) (by omega)
 have hv2r:0<=v2/\v2<4294967296:=by rw[hv2];exact dv.at (by omega) (by omega)
 have hvlr:0<=vl'/\vl'<PP:=by rw[hvl',hPP];exact dv.bound_to (by decide) (by omega)
 have hVe:V=(top*4294967296+v2)*PP+vl':=by
  have e1:=vto_succ 4294967296 v (i:=n-2) (by omega)
  have e2:=vto_succ 4294967296 v (i:=n-1) (by omega)
  rw[show n-2+1=n-1 from by omega,<-hvl',<-hv2,<-hPP]at e1
  rw[show n-1+1=n from by omega,hvv,e1,<-htop,hPn]at e2
  rw[e2];grind
 have htop1:2147483648<=top:=by
  refine Int.not_lt.1 fun hlt=> ?_
  have h1:(top+1)*(PP*4294967296)<=2147483648*(PP*4294967296):=Int.mul_le_mul_of_nonneg_right (by omega) (by omega)
  have h2:(v2+1)*PP<=4294967296*PP:=Int.mul_le_mul_of_nonneg_right (by omega) (by omega)
  have e:V=top*(PP*4294967296)+v2*PP+vl':=by rw[hVe];grind
  rw[Int.add_mul]at h1 h2
  omega
 intro hsa
 rw[len_rep (by omega)]
 refine⟨rsL _ (by omega),rsL _ (by omega),by omega,by omega,by omega,fun _=>⟨rsL _ (by omega), ?_⟩⟩
 rw[<-hv]
 simp only[hvl]
 refine⟨fun u j q=>-1<=j/\j<=a.len-n/\u.len=a.len+1/\q.len=a.len-n+1/\vw a*p=V*vhi 4294967296 q (j+1)*4294967296^(j+1).toNat+vw u/\vw u<V*4294967296^(j+1).toNat,
  fun _ j _=>(j+1).toNat,⟨by omega,by omega,h5l,len_rep (by omega) _, ?_, ?_⟩,fun u ru j _ q rq hj=> ?_⟩
 ·rw[vhi_rep,h5v];omega
 ·have h1:=(da.bound (B:=4294967296) (by decide)).2
  have h1:vw a<4294967296^a.n:=h1
  have e:(4294967296:Int)^a.n=4294967296^(a.len-n+1-1+1).toNat*(PP*4294967296):=by
   rw[<-hPn,<-Int.pow_add]
   congr 1
   unfold Sl.len at*
   omega
  rw[e]at h1
  rw[h5v]
  generalize(4294967296:Int)^(a.len-n+1-1+1).toNat=Q at*
  have hva:=(da.bound (B:=4294967296) (by decide)).1
  have hva:0<=vw a:=hva
  have hQ:0<Q:=by
   refine Int.not_le.1 fun hle=> ?_
   have:Q*(PP*4294967296)<=0*(PP*4294967296):=Int.mul_le_mul_of_nonneg_right hle (by omega)
   omega
  have h2:vw a*p<=vw a*2147483648:=Int.mul_le_mul_of_nonneg_left hp2 hva
  have h3:Q*(2147483648*(PP*4294967296))<=Q*V:=Int.mul_le_mul_of_nonneg_left hVge (by omega)
  have e3:Q*(2147483648*(PP*4294967296))=Q*(PP*4294967296)*2147483648:=by grind
  rw[Int.mul_comm V Q]
  omega
 obtain⟨hj1,hj2,hul,hql,hE1,hE2⟩:=hj
 have du:=ranged32 ru
 refine⟨fun hge=> ?_,fun hlt=> ?_⟩
 ·
  obtain⟨Bj,hBj⟩:∃Bj:Int,Bj=4294967296^j.toNat:=⟨_,rfl⟩
  have hBj0:0<Bj:=by rw[hBj];exact pos_pow (by decide) _
  have hBj1:(4294967296:Int)^(j+1).toNat=Bj*4294967296:=by rw[hBj,show(j+1).toNat=j.toNat+1 from by omega,Int.pow_succ]
  have hBjk:∀k:Int,0<=k->(4294967296:Int)^(j+k).toNat=Bj*4294967296^k.toNat:=fun k hk=>by rw[hBj,show(j+k).toNat=j.toNat+k.toNat from by omega,Int.pow_add]
  rw[hBj1]at hE1 hE2
  obtain⟨un,hun⟩:∃un,un=u.int (j+n) 0:=⟨_,rfl⟩
  obtain⟨u1,hu1⟩:∃u1,u1=u.int (j+(n-1)) 0:=⟨_,rfl⟩
  obtain⟨u2,hu2⟩:∃u2,u2=u.int (j+(n-2)) 0:=⟨_,rfl⟩
  have run:0<=un/\un<4294967296:=by rw[hun];exact du.at (by omega) (by omega)
  have ru1:0<=u1/\u1<4294967296:=by rw[hu1];exact du.at (by omega) (by omega)
  have ru2:0<=u2/\u2<4294967296:=by rw[hu2];exact du.at (by omega) (by omega)
  have huto:=du.bound_to (B:=4294967296) (by decide) (i:=j) (by omega)
  rw[<-hBj]at huto
  have hlim:vw u<Bj*(PP*4294967296*4294967296*4294967296):=by
   have h1:V*(Bj*4294967296)<=4294967296^n.toNat*(Bj*4294967296):=Int.mul_le_mul_of_nonneg_right (by omega) (by omega)
   rw[hPn1]at h1
   have e:PP*4294967296*4294967296*(Bj*4294967296)=Bj*(PP*4294967296*4294967296*4294967296):=by grind
   omega
  have hpw:(4294967296:Int)^(j+n+1).toNat=Bj*(PP*4294967296*4294967296*4294967296):=by
   rw[show j+n+1=j+(n+1)from by omega,hBjk _ (by omega),show(n+1).toNat=n.toNat+1 from by omega,Int.pow_succ,hPn1]
  have hzero:∀k:Int,j+n+1<=k->k<u.len->u.int k 0=0:=fun k h1 h2=>digit_zero (B:=4294967296) (by decide) du (by rw[hpw];exact hlim) (by omega) h1 h2
  obtain⟨ul,hule⟩:∃ul,ul=valN 4294967296 (fun k=>dg u (j.toNat+k)) (n-2).toNat:=⟨_,rfl⟩
  have hulr:0<=ul/\ul<PP:=by
   rw[hule,hPP]
   refine valN_bound (by decide) (Dg.shift ?_)
   exact Dg.mono du (by have hu':(u.n:Int)=a.len+1:=hul;omega)
  obtain⟨hd,hhd⟩:∃hd,hd=un*4294967296+u1:=⟨_,rfl⟩
  obtain⟨W,hW⟩:∃W,W=(hd*4294967296+u2)*PP+ul:=⟨_,rfl⟩
  have huW:vw u=vto 4294967296 u j+Bj*W:=by
   have e0:vw u=vto 4294967296 u (j+n+1):=val_of_lt (by decide) du (by rw[hpw];exact hlim) (by omega) (by omega)
   have e1:=vto_succ 4294967296 u (i:=j+n) (by omega)
   have e2:=vto_succ 4294967296 u (i:=j+(n-1)) (by omega)
   have e3:=vto_succ 4294967296 u (i:=j+(n-2)) (by omega)
   have e4:=vto_split 4294967296 u (j:=j) (i:=n-2) (by omega) (by omega)
   rw[show j+(n-1)+1=j+n from by omega,<-hu1,hBjk _ (by omega),hPn]at e2
   rw[show j+(n-2)+1=j+(n-1)from by omega,<-hu2,hBjk _ (by omega),<-hPP]at e3
   rw[<-hun,hBjk _ (by omega),hPn1]at e1
   rw[<-hBj,<-hule]at e4
   rw[e0,e1,e2,e3,e4,hW,hhd]
   grind
  have hWV:W<V*4294967296:=by
   have:Bj*W<Bj*(V*4294967296):=by
    have e:V*(Bj*4294967296)=Bj*(V*4294967296):=by grind
    omega
   exact cancel_lt hBj0 this
  have hhd0:0<=hd:=by omega
  have hW0:0<=W:=by
   have:0<=(hd*4294967296+u2)*PP:=Int.mul_nonneg (by omega) (by omega)
   omega
  have hhd1:hd<=top*4294967296+4294967295:=by
   have hunt:un<top+1:=by
    refine Int.not_le.1 fun hle=> ?_
    have h1:(top+1)*(PP*4294967296*4294967296)<=un*(PP*4294967296*4294967296):=Int.mul_le_mul_of_nonneg_right hle (by omega)
    have h2:(v2+1)*PP<=4294967296*PP:=Int.mul_le_mul_of_nonneg_right (by omega) (by omega)
    have h3:0<=u1*(PP*4294967296):=Int.mul_nonneg (by omega) (by omega)
    have h4:0<=u2*PP:=Int.mul_nonneg (by omega) (by omega)
    have e1:W=un*(PP*4294967296*4294967296)+u1*(PP*4294967296)+u2*PP+ul:=by rw[hW,hhd];grind
    have e2:V=top*(PP*4294967296)+v2*PP+vl':=by rw[hVe];grind
    have e3:top*(PP*4294967296*4294967296)=top*(PP*4294967296)*4294967296:=by grind
    rw[Int.add_mul]at h1 h2
    omega
   omega
  have htd:Int.tdiv hd top=hd/top:=Int.tdiv_eq_ediv_of_nonneg hhd0
  have htm:Int.tmod hd top=hd % top:=Int.tmod_eq_emod_of_nonneg hhd0
  have hdm:=Int.mul_ediv_add_emod hd top
  have hm0:=Int.emod_nonneg hd (show top≠0 by omega)
  have hm1:=Int.emod_lt_of_pos hd (show 0<top by omega)
  have hdq:0<=hd/top:=Int.ediv_nonneg hhd0 (by omega)
  have hdq1:hd/top<=hd:=Int.ediv_le_self _ hhd0
  rw[<-hun,<-hu1,<-hu2,<-htop,<-hv2]
  rw[two32 run.1 run.2 ru1.1 ru1.2,<-hhd,htd,htm]
  rw[wu64_in (x:=hd/top) hdq (by omega)]
  have base:W<(hd/top+1)*V:=by
   have h1:(hd+1)*(PP*4294967296)<=(hd/top+1)*top*(PP*4294967296):=Int.mul_le_mul_of_nonneg_right (by rw[Int.add_mul,Int.one_mul,Int.mul_comm (hd/top)];omega) (by omega)
   have h2:(u2+1)*PP<=4294967296*PP:=Int.mul_le_mul_of_nonneg_right (by omega) (by omega)
   have h3:(hd/top+1)*(top*(PP*4294967296))<=(hd/top+1)*V:=by
    refine Int.mul_le_mul_of_nonneg_left ?_ (by omega)
    have:0<=v2*PP:=Int.mul_nonneg (by omega) (by omega)
    have e2:V=top*(PP*4294967296)+v2*PP+vl':=by rw[hVe];grind
    omega
   have e1:W=hd*(PP*4294967296)+u2*PP+ul:=by rw[hW];grind
   have e3:(hd/top+1)*top*(PP*4294967296)=(hd/top+1)*(top*(PP*4294967296)):=by grind
   rw[Int.add_mul]at h1 h2
   omega
  have hi:∀d r:Int,0<=d->d<4294967296->d*top+r=hd->d*v2<=r*4294967296+u2->(d-1)*V<=W:=fun d r h1 h2 h3 h4=>
   knuth_hi (by decide) hPP0 (by omega) hVe hv2r.1 hvlr.1 hvlr.2 hW hulr.1 h3 h1 h2 h4
  have lo:∀d r:Int,0<=d->d*top+r=hd->r*4294967296+u2<d*v2->W<d*V:=fun d r h1 h3 h4=>
   knuth_lo hPP0 hVe hvlr.1 hW hulr.2 h3 h1 h4
  have pos:∀d:Int,W<d*V->1<=d:=fun d h=>by
   refine Int.not_lt.1 fun hlt=> ?_
   have:d*V<=0*V:=Int.mul_le_mul_of_nonneg_right (by omega) (by omega)
   omega
  have dec:∀d r:Int,d*top+r=hd->0<=r->r<4294967296->W<d*V->1<=d/\(d-1)*top+(r+top)=hd/\W<(d-1+1)*V/\(r+top>=4294967296->d-1<4294967296/\(d-1-1)*V<=W):=fun d r h1 h2 h3 h4=>by
   have hp1:=pos d h4
   have e1:(d-1)*top+(r+top)=hd:=by rw[Int.sub_mul];omega
   refine⟨hp1,e1,by rw[show d-1+1=d from by omega];exact h4,fun hge'=> ?_⟩
   have hd1:d-1<4294967296:=by
    refine Int.not_le.1 fun hle=> ?_
    have:4294967296*top<=(d-1)*top:=Int.mul_le_mul_of_nonneg_right hle (by omega)
    omega
   refine⟨hd1,hi (d-1) (r+top) (by omega) hd1 e1 ?_⟩
   have:(d-1)*v2<=4294967295*4294967295:=Int.mul_le_mul (by omega) (by omega) hv2r.1 (by omega)
   omega
  have wd:∀x:Int,Rng .u64 x->1<=x->IntKind.wrap .u64 (x-1)=x-1:=fun x h1 h2=>by rw[rngu64]at h1;exact wu64_in (by omega) (by omega)
  have wr:∀r:Int,0<=r->r<4294967296->IntKind.wrap .u64 (r+top)=r+top:=fun r h1 h2=>wu64_in (by omega) (by omega)
  refine⟨rsL _ (by omega),rsL _ (by omega),hge,by omega,by omega,fun _=>⟨by omega,by omega,fun _=>⟨by decide,rsL _ (by omega),by omega,by omega,fun _=>⟨rsL _ (by omega),by omega,by omega,fun _=>⟨by omega,by omega,rngu64.2 (by omega), ?_⟩⟩⟩⟩⟩
  refine⟨fun d _=>0<=d/\d<4294967296/\W<(d+1)*V/\(d-1)*V<=W,⟨fun d r=>0<=d/\d*top+r=hd/\0<=r/\r<4294967296/\W<(d+1)*V,fun d _=>d.toNat,
   ⟨hdq,by rw[Int.mul_comm];omega,hm0,by omega,base⟩,fun d rd r _ hj=> ?_⟩,fun d _ r _ hj _=> ?_⟩
  ·obtain⟨k1,k2,k3,k4,k5⟩:=hj
   have step:W<d*V->(IntKind.wrap .u64 (r+top)>=4294967296->0<=IntKind.wrap .u64 (d-1)/\IntKind.wrap .u64 (d-1)<4294967296/\W<(IntKind.wrap .u64 (d-1)+1)*V/\(IntKind.wrap .u64 (d-1)-1)*V<=W)/\
     (¬IntKind.wrap .u64 (r+top)>=4294967296->(0<=IntKind.wrap .u64 (d-1)/\IntKind.wrap .u64 (d-1)*top+IntKind.wrap .u64 (r+top)=hd/\0<=IntKind.wrap .u64 (r+top)/\IntKind.wrap .u64 (r+top)<4294967296/\W<(IntKind.wrap .u64 (d-1)+1)*V)/\(IntKind.wrap .u64 (d-1)).toNat<d.toNat):=fun h=>by
    obtain⟨g1,g2,g3,g4⟩:=dec d r k2 k3 k4 h
    rw[wd d rd g1,wr r k3 k4]
    exact⟨fun hge'=>⟨by omega,(g4 hge').1,g3,(g4 hge').2⟩,fun hlt'=>⟨⟨by omega,g2,by omega,by omega,g3⟩,by omega⟩⟩
   refine⟨fun hbig=>step ?_,fun hsmall=>⟨rsL _ (by omega),by omega,by omega,fun _=>⟨by decide,rsL _ (by omega),by omega,by omega,fun _=> ?_⟩⟩⟩
   ·have:4294967296*V<=d*V:=Int.mul_le_mul_of_nonneg_right hbig (by omega)
    omega
   ·have hdv:d*v2<=4294967295*4294967295:=Int.mul_le_mul (by omega) (by omega) hv2r.1 (by omega)
    have hdv0:0<=d*v2:=Int.mul_nonneg k1 hv2r.1
    rw[wu64_in (x:=d*v2) hdv0 (by omega),two32 k3 k4 ru2.1 ru2.2]
    exact⟨fun hgt=>step (lo d r k1 k2 (by omega)),fun hle=>⟨k1,by omega,k5,hi d r k1 (by omega) k2 (by omega)⟩⟩
  ·
   obtain⟨k1,k2,k3,k4⟩:=hj
   have hlast:∀(w:Sl)(e:Int),w.len=a.len+1->Dig 4294967296 w->(∀k:Int,j+n+1<=k->k<w.len->w.int k 0=0)->vto 4294967296 w j=vto 4294967296 u j->vw w=vw u+Bj*e->
     0<=W+e/\W+e<PP*4294967296*4294967296*4294967296:=fun w e hwl dw hwz hwt hwv=>by
    have e1:vw w=vto 4294967296 w j+Bj*vhi 4294967296 w j:=by rw[hBj];exact val_split _ _ (by omega) (by omega)
    have e2:=(dw.bound_hi (B:=4294967296) (by decide) (i:=j) (by omega)).1
    have e3:vw w=vto 4294967296 w (j+n+1):=by
     have:=val_split 4294967296 w (i:=j+n+1) (by omega) (by omega)
     rw[vhi_zeros (by omega) hwz,Int.mul_zero,Int.add_zero]at this
     exact this
    have e4:=(dw.bound_to (B:=4294967296) (by decide) (i:=j+n+1) (by omega)).2
    rw[hpw,<-e3]at e4
    have e5:vhi 4294967296 w j=W+e:=cancel_eq hBj0 (by rw[Int.mul_add];omega)
    rw[<-e5]
    have e6:=(dw.bound_to (B:=4294967296) (by decide) (i:=j) (by omega)).1
    exact⟨e2,cancel_lt hBj0 (by omega)⟩
   have hnext:∀(w:Sl)(d':Int),w.len=a.len+1->0<=d'->d'<4294967296->vw w=vw u+Bj*(-(d'*V))->W-d'*V<V->
     (-1<=j-1/\j-1<=a.len-n/\w.len=a.len+1/\(Sl.upd q j 0 [.int d']).len=a.len-n+1/\vw a*p=V*vhi 4294967296 (Sl.upd q j 0 [.int d']) (j-1+1)*4294967296^(j-1+1).toNat+vw w/\vw w<V*4294967296^(j-1+1).toNat)/\(j-1+1).toNat<(j+1).toNat:=fun w d' hwl h1 h2 hwv hr=>by
    refine⟨⟨by omega,by omega,hwl,by rw[len_upd];exact hql, ?_, ?_⟩,by omega⟩
    ·rw[show j-1+1=j from by omega,vhi_step _ _ hge (by rw[len_upd];omega),vhi_upd hge (by omega),int_upd hge hge,if_pos rfl,hwv,<-hBj,hE1]
     grind
    ·rw[show j-1+1=j from by omega,<-hBj,hwv,huW]
     have:Bj*(W-d'*V+1)<=Bj*V:=Int.mul_le_mul_of_nonneg_left (by omega) (by omega)
     have e:Bj*(W-d'*V+1)=Bj*W+Bj*(-(d'*V))+Bj:=by grind
     rw[Int.mul_comm V Bj]
     omega
   refine⟨fun w carry bo i=>0<=i/\i<=n/\w.len=a.len+1/\(0<=carry/\carry<4294967296)/\(bo=0\/bo=1)/\vw w+Bj*(d*vto 4294967296 v i)=vw u+Bj*((carry+bo)*4294967296^i.toNat)/\
    (∀k:Int,j+i<=k->k<u.len->w.int k 0=u.int k 0)/\vto 4294967296 w j=vto 4294967296 u j,fun _ _ _ i=>(n-i).toNat,
    ⟨Int.le_refl _,by omega,hul,⟨by decide,by decide⟩, .inl rfl,by rw[vto_zero];simp,fun _ _ _=>rfl,rfl⟩,fun w rw_ carry _ bo _ i _ hj=> ?_⟩
   obtain⟨i0,i1,hwl,hca,hbo,hwv,hwk,hwt⟩:=hj
   have dw:=ranged32 rw_
   refine⟨fun hlt=>⟨i0,hlt,fun _=> ?_⟩,fun hge'=> ?_⟩
   ·have hvi:=dv.at (i:=i) i0 (by omega)
    have hwi:=dw.at (i:=j+i) (by omega) (by omega)
    obtain⟨c',y,bo',e1,e2,e3,hc',hbo',hy⟩:=sub_digit (digit:=d) (vi:=v.int i 0) (carry:=carry) (ui:=w.int (j+i) 0) (borrow:=bo) ⟨k1,k2⟩ hvi hca hwi hbo
    rw[e1,e2,e3]
    refine⟨by decide,rngu64.2 (by omega),by omega,by omega,fun _=>⟨by omega,by omega,by decide,rngu64.2 (by omega),rsL _ (by omega),⟨by omega,by omega,by rw[len_upd];exact hwl,hc',hbo', ?_,fun k h1 h2=> ?_, ?_⟩, ?_⟩⟩
    ·have eu:vw (Sl.upd w (j+i) 0 [.int y])=vw w+(y-w.int (j+i) 0)*4294967296^(j+i).toNat:=val_upd (by omega) (by omega)
     rw[eu,hBjk i i0,vto_succ _ _ i0,hy,show(i+1).toNat=i.toNat+1 from by omega,Int.pow_succ]
     generalize(4294967296:Int)^i.toNat=Q at*
     grind
    ·rw[int_upd (by omega) (by omega),if_neg (by omega)]
     exact hwk k (by omega) h2
    ·rw[vto_upd (by omega) (by omega)]
     exact hwt
    ·show(n-(i+1)).toNat<(n-i).toNat
     omega
   ·have ei:i=n:=by omega
    subst ei
    have hwi:=dw.at (i:=j+i) (by omega) (by omega)
    obtain⟨y,neg,e1,e2,hneg,hy⟩:=last_digit (carry:=carry) (ui:=w.int (j+i) 0) (borrow:=bo) hca hwi hbo
    rw[e1,e2]
    rw[hvv]at hwv
    have hy0:0<=y/\y<4294967296:=by
     rw[<-e1,wu32]
     omega
    obtain⟨w2,hw2⟩:∃w2,w2=Sl.upd w (j+i) 0 [.int y]:=⟨_,rfl⟩
    have hw2l:w2.len=a.len+1:=by rw[hw2,len_upd];exact hwl
    have dw2:Dig 4294967296 w2:=fun k hk=>by
     rw[hw2,dg_upd (by omega)]
     split
     ·exact hy0
     ·exact dw k (by rw[hw2,n_upd]at hk;exact hk)
    have hw2v:vw w2=vw u+Bj*(neg*(PP*4294967296*4294967296*4294967296)-d*V):=by
     have eu:vw w2=vw w+(y-w.int (j+i) 0)*4294967296^(j+i).toNat:=by rw[hw2];exact val_upd (by omega) (by omega)
     rw[eu,hBjk i i0,hy,hPn1]
     rw[hPn1]at hwv
     grind
    have hw2z:∀k:Int,j+i+1<=k->k<w2.len->w2.int k 0=0:=fun k h1 h2=>by
     rw[hw2,int_upd (by omega) (by omega),if_neg (by omega),hwk k (by omega) (by omega)]
     exact hzero k h1 (by omega)
    have hw2t:vto 4294967296 w2 j=vto 4294967296 u j:=by rw[hw2,vto_upd (by omega) (by omega)];exact hwt
    have hR:=hlast w2 _ hw2l dw2 hw2z hw2t hw2v
    rw[<-hw2]
    refine⟨by omega,by omega,fun _=>⟨by omega,by omega,by decide,rngu64.2 (by omega),fun hz=> ?_,fun hnz _=> ?_⟩⟩
    ·rw[hz]at hw2v hR
     rw[wu32_in k1 k2]
     have h3:W<d*V+V:=by rw[Int.add_mul]at k3;omega
     exact⟨by omega,by omega,rsL _ (by omega),hnext w2 d hw2l k1 k2 (by rw[hw2v];simp) (by omega)⟩
    ·have hn1:neg=1:=by omega
     rw[hn1]at hw2v hR
     have hWd:W<d*V:=by omega
     have hd1:=pos d hWd
     have k4':d*V-V<=W:=by rw[Int.sub_mul]at k4;omega
     refine⟨fun w3 up i'=>0<=i'/\i'<=i/\w3.len=a.len+1/\(up=0\/up=1)/\vw w3+Bj*(up*4294967296^i'.toNat)=vw w2+Bj*vto 4294967296 v i'/\(∀k:Int,j+i'<=k->k<w2.len->w3.int k 0=w2.int k 0)/\vto 4294967296 w3 j=vto 4294967296 u j,
      fun _ _ i'=>(i-i').toNat,⟨Int.le_refl _,i0,hw2l, .inl rfl,by rw[vto_zero];simp,fun _ _ _=>rfl,hw2t⟩,fun w3 r3 up rup i' _ hj=> ?_⟩
     obtain⟨m0,m1,m2,m3,m4,m5,m6⟩:=hj
     have dw3:=ranged32 r3
     refine⟨fun hlt=>⟨m0,hlt,fun _=>⟨by omega,by omega,fun _=>⟨by show up<=1;omega,fun x22 _ x23 _ hq=> ?_⟩⟩⟩,fun hge''=> ?_⟩
     ·obtain⟨q1,q3⟩:=hq
      refine⟨by omega,by omega,rsL _ (by omega),⟨by omega,by omega,by rw[len_upd];exact m2,q3, ?_,fun k h1 h2=> ?_, ?_⟩, ?_⟩
      ·have eu:vw (Sl.upd w3 (j+i') 0 [.int x22])=vw w3+(x22-w3.int (j+i') 0)*4294967296^(j+i').toNat:=val_upd (by omega) (by omega)
       have eq1:x22-w3.int (j+i') 0=v.int i' 0+up-x23*4294967296:=by omega
       rw[eu,hBjk i' m0,vto_succ _ _ m0,eq1,show(i'+1).toNat=i'.toNat+1 from by omega,Int.pow_succ]
       generalize(4294967296:Int)^i'.toNat=Q at*
       grind
      ·rw[int_upd (by omega) (by omega),if_neg (by omega)]
       exact m5 k (by omega) h2
      ·rw[vto_upd (by omega) (by omega)]
       exact m6
      ·show(i-(i'+1)).toNat<(i-i').toNat
       omega
     ·have ei:i'=i:=by omega
      subst ei
      rw[hvv]at m4
      have hwi3:=dw3.at (i:=j+i') (by omega) (by omega)
      obtain⟨y3,cc,hy3,hcc,hy3r,hy3e⟩:∃y3 cc:Int,IntKind.wrap .u32 (w3.int (j+i') 0+up)=y3/\(cc=0\/cc=1)/\(0<=y3/\y3<4294967296)/\y3-w3.int (j+i') 0=up-cc*4294967296:=by
       rw[wu32]
       exact⟨_,(w3.int (j+i') 0+up)/4294967296,rfl,by omega,by omega,by omega⟩
      rw[hy3]
      obtain⟨w4,hw4⟩:∃w4,w4=Sl.upd w3 (j+i') 0 [.int y3]:=⟨_,rfl⟩
      have hw4l:w4.len=a.len+1:=by rw[hw4,len_upd];exact m2
      have dw4:Dig 4294967296 w4:=fun k hk=>by
       rw[hw4,dg_upd (by omega)]
       split
       ·exact hy3r
       ·exact dw3 k (by rw[hw4,n_upd]at hk;exact hk)
      have hw4v:vw w4=vw u+Bj*((1-cc)*(PP*4294967296*4294967296*4294967296)-(d-1)*V):=by
       have eu:vw w4=vw w3+(y3-w3.int (j+i') 0)*4294967296^(j+i').toNat:=by rw[hw4];exact val_upd (by omega) (by omega)
       rw[eu,hBjk i' i0,hy3e,hPn1]
       rw[hPn1]at m4
       grind
      have hw4z:∀k:Int,j+i'+1<=k->k<w4.len->w4.int k 0=0:=fun k h1 h2=>by
       rw[hw4,int_upd (by omega) (by omega),if_neg (by omega),m5 k (by omega) (by omega)]
       exact hw2z k h1 (by omega)
      have hw4t:vto 4294967296 w4 j=vto 4294967296 u j:=by rw[hw4,vto_upd (by omega) (by omega)];exact m6
      have hR4:=hlast w4 _ hw4l dw4 hw4z hw4t hw4v
      have hc1:cc=1:=by
       rcases hcc with rfl|rfl
       ·have e:(d-1)*V=d*V-V:=by rw[Int.sub_mul];omega
        omega
       ·rfl
      rw[hc1]at hw4v
      have ed:IntKind.wrap .u32 (IntKind.wrap .u64 (d-1))=d-1:=by rw[wu64_in (x:=d-1) (by omega) (by omega),wu32_in (by omega) (by omega)]
      rw[<-hw4,ed]
      refine⟨by omega,by omega,fun _=>⟨by omega,by omega,by omega,by omega,rsL _ (by omega),hnext w4 (d-1) hw4l (by omega) (by omega) (by rw[hw4v];simp) ?_⟩⟩
      rw[Int.sub_mul]
      omega
 ·
  have ej:j=-1:=by omega
  subst ej
  have z1:(-1+1:Int).toNat=0:=rfl
  rw[z1,Int.pow_zero,Int.mul_one]at hE1 hE2
  have z2:vhi 4294967296 q (-1+1)=vw q:=vhi_zero _ _
  rw[z2]at hE1
  obtain⟨rr,hrr⟩:∃rr,rr=vw a-vw b*vw q:=⟨_,rfl⟩
  have hup:vw u=p*rr:=by
   have e1:p*(vw b*vw q)=V*vw q:=by rw[hV];grind
   rw[hrr,Int.mul_sub,e1,Int.mul_comm p]
   omega
  have hu0:u.int 0 0 % p=0:=by
   have e1:vw u=u.int 0 0+4294967296*vhi 4294967296 u (0+1):=by
    rw[<-vhi_step 4294967296 u (i:=0) (by omega) (by omega)]
    exact(vhi_zero _ _).symm
   have e2:u.int 0 0=p*(rr-q2*vhi 4294967296 u (0+1)):=by
    generalize vhi 4294967296 u (0+1)=X at*
    have e3:4294967296*X=p*(q2*X):=by rw[<-hqp];grind
    rw[Int.mul_sub,<-hup]
    omega
   rw[e2]
   exact Int.mul_emod_right _ _
  have hun:u.int n 0=0:=digit_zero (B:=4294967296) (by decide) du (i:=n) (by show vw u<_;omega) (by omega) (by omega) (by omega)
  have hutn:vto 4294967296 u n=vw u:=(val_of_lt (B:=4294967296) (by decide) du (by show vw u<_;omega) (by omega) (by omega)).symm
  refine⟨fun i w=>0<=i/\i<=n/\w.len=a.len+1/\(∀k:Int,i<=k->k<w.len->w.int k 0=u.int k 0)/\p*vto 4294967296 w i=vto 4294967296 u i+u.int i 0 % p*4294967296^i.toNat,fun i _=>(n-i).toNat,
   ⟨Int.le_refl _,by omega,hul,fun _ _ _=>rfl,by rw[vto_zero,hu0];simp⟩,fun i _ w rw_ hj=> ?_⟩
  obtain⟨i0,i1,hwl,hwk,hwv⟩:=hj
  have dw:=ranged32 rw_
  refine⟨fun hlt=>⟨rsL _ (by omega), ?_⟩,fun hge'=> ?_⟩
  ·have e0:=hwk i (by omega) (by omega)
   have e1:=hwk (i+1) (by omega) (by omega)
   have r0:=du.at (i:=i) i0 (by omega)
   have r1:=du.at (i:=i+1) (by omega) (by omega)
   have hsv:shr .u64 (u.int (i+1) 0*4294967296+u.int i 0) sh=(u.int (i+1) 0*4294967296+u.int i 0)/p:=by
    rw[shr_var _ _ (by show sh.toNat<=64;omega),hpe]
   obtain⟨f1,f2,f3⟩:=unshift_digit hp1 hq1 hqp r0 r1
   rw[e0,e1,two32 r1.1 r1.2 r0.1 r0.2,hsv,wu32]
   generalize(u.int (i+1) 0*4294967296+u.int i 0)/p=z at*
   have fin:(-1:Int)<=-1/\Rng .u64 z/\0<=i/\i<w.len/\Rng .i64 (i+1)/\
     ((0<=i+1/\i+1<=n/\(Sl.upd w i 0 [.int (z % 4294967296)]).len=a.len+1/\(∀k:Int,i+1<=k->k<(Sl.upd w i 0 [.int (z % 4294967296)]).len->(Sl.upd w i 0 [.int (z % 4294967296)]).int k 0=u.int k 0)/\p*vto 4294967296 (Sl.upd w i 0 [.int (z % 4294967296)]) (i+1)=vto 4294967296 u (i+1)+u.int (i+1) 0 % p*4294967296^(i+1).toNat)/\(n-(i+1)).toNat<(n-i).toNat):=by
    refine⟨by omega,rngu64.2 (by omega),i0,by omega,rsL _ (by omega),⟨by omega,by omega,by rw[len_upd];exact hwl,fun k h1 h2=> ?_, ?_⟩,by omega⟩
    ·rw[int_upd i0 (by omega),if_neg (by omega)]
     exact hwk k (by omega) h2
    ·rw[vto_upd_succ i0,vto_succ _ _ i0,show(i+1).toNat=i.toNat+1 from by omega,Int.pow_succ]
     generalize(4294967296:Int)^i.toNat=Q at*
     generalize z % 4294967296=zz at*
     grind
   have fin:=fin.2
   repeat' first|exact fin|exact hs0|(refine⟨?_, ?_⟩)|(intro _)
   all_goals omega
  ·have ei:i=n:=by omega
   subst ei
   rw[hun,Int.zero_emod,Int.zero_mul,Int.add_zero,hutn,hup]at hwv
   have hwr:=cancel_eq (show 0<p by omega) hwv
   have last:∀t t':Sl,q_trim q t->q_trim (Sl.part w 0 i) t'->q_divide a b t t'/\True:=fun t t' h1 h2=>by
    have e1:vw (Sl.part w 0 i)=rr:=by unfold vw;rw[val_part0 (by omega)];exact hwr
    refine⟨⟨?_, ?_,h1.1,h2.1⟩,trivial⟩
    ·rw[h1.2.2,h2.2.2,e1,hrr];omega
    ·rw[h2.2.2,e1]
     refine cancel_lt (show 0<p by omega) ?_
     rw[<-hup,Int.mul_comm p,<-hV]
     exact hE2
   exact⟨⟨trivial,fun t _ ht=>⟨by decide,by omega,by omega,trivial,fun t' _ ht'=>last t t' ht ht'⟩⟩,⟨by decide,by omega,by omega,trivial,fun t _ ht=>⟨trivial,fun t' _ ht'=>last t t' ht ht'⟩⟩⟩
end Go.Sx.N
namespace Go.Sx.N
def wd(s:Sl)(i:Int):Int:=if i<s.len then s.int i 0 else 0
def xto(B:Int)(s:Sl)(i:Int):Int:=valN B (fun k=>wd s k) i.toNat
theorem xto_succ(B:Int)(s:Sl){i:Int}(h:0<=i):xto B s (i+1)=xto B s i+wd s i*B^i.toNat:=by
 unfold xto
 have:(i+1).toNat=i.toNat+1:=by omega
 rw[this,valN_succ,Int.toNat_of_nonneg h]
theorem xto_end(B:Int)(s:Sl){i:Int}(h:s.len<=i):xto B s i=val B s:=by
 unfold xto val
 obtain⟨k,hk⟩:=Nat.le.dest (show s.n<=i.toNat by unfold Sl.len at h;omega)
 rw[<-hk,valN_split,valN_zero (f:=fun j=>wd s ((s.n+j:Nat):Int)) (fun j _=>by unfold wd Sl.len;rw[if_neg (by omega)]),Int.mul_zero,Int.add_zero]
 exact valN_congr fun j hj=>by
  show wd s (j:Int)=dg s j
  unfold wd dg
  rw[if_pos (by unfold Sl.len;omega)]
theorem wd_bound{B:Int}(hB:0<B){s:Sl}(hs:Dig B s){i:Int}(h:0<=i):0<=wd s i/\wd s i<B:=by
 unfold wd
 split
 ·exact hs.at h (by assumption)
 ·omega
theorem xto_bound{B:Int}(hB:0<B){s:Sl}(hs:Dig B s)(i:Int):0<=xto B s i/\xto B s i<B^i.toNat:=
 valN_bound hB fun k _=>wd_bound hB hs (Int.natCast_nonneg _)
theorem head_core{w:Sl}{n sk x1 x2 x3:Int}(hp:p_head w n sk)(rw_:Ranged w [some .u32])(e1:x1=wd w (n-1))(e2:x2=wd w (n-2))(e3:x3=wd w (n-3)):
  Rng .u64 (shr .u64 x3 (32-sk))/\q_head w n sk (IntKind.wrap .u64 (bor .u64 (IntKind.wrap .u64 (shl .u64 (IntKind.wrap .u64 (bor .u64 (IntKind.wrap .u64 (shl .u64 x1 32)) x2)) sk)) (shr .u64 x3 (32-sk)))):=by
 obtain⟨h3,h30,hl,hs0,hs1,hv⟩:=hp
 have dw:=ranged32 rw_
 obtain⟨p,q,hpe,hp1,hp2,hqe,hq1,hqp⟩:=two_pow hs0 hs1
 have b1:=wd_bound (by decide) dw (i:=n-1) (by omega)
 have b2:=wd_bound (by decide) dw (i:=n-2) (by omega)
 have b3:=wd_bound (by decide) dw (i:=n-3) (by omega)
 rw[<-e1]at b1
 rw[<-e2]at b2
 rw[<-e3]at b3
 obtain⟨P,hP⟩:∃P:Int,P=4294967296^(n-3).toNat:=⟨_,rfl⟩
 have hP0:0<P:=by rw[hP];exact pos_pow (by decide) _
 have hlow:=xto_bound (B:=4294967296) (by decide) dw (n-3)
 rw[<-hP]at hlow
 have hval:vw w=(x1*4294967296+x2)*(P*4294967296)+x3*P+xto 4294967296 w (n-3):=by
  have f1:=xto_succ 4294967296 w (i:=n-1) (by omega)
  have f2:=xto_succ 4294967296 w (i:=n-2) (by omega)
  have f3:=xto_succ 4294967296 w (i:=n-3) (by omega)
  rw[show n-1+1=n from by omega,<-e1,show(n-1).toNat=(n-3).toNat+1+1 from by omega,Int.pow_succ,Int.pow_succ,<-hP]at f1
  rw[show n-2+1=n-1 from by omega,<-e2,show(n-2).toNat=(n-3).toNat+1 from by omega,Int.pow_succ,<-hP]at f2
  rw[show n-3+1=n-2 from by omega,<-e3,<-hP]at f3
  have f0:xto 4294967296 w n=vw w:=xto_end _ _ hl
  rw[<-f0,f1,f2,f3]
  grind
 rw[hpe,show n.toNat=(n-3).toNat+1+1+1 from by omega,Int.pow_succ,Int.pow_succ,Int.pow_succ,<-hP]at hv
 generalize xto 4294967296 w (n-3)=low at*
 rw[two32 b1.1 b1.2 b2.1 b2.2]
 obtain⟨y,hy⟩:∃y,y=x1*4294967296+x2:=⟨_,rfl⟩
 rw[<-hy]at hval⊢
 have hy0:0<=y:=by omega
 have hyp:(y+1)*p<=18446744073709551616:=by
  have h1:y<q*4294967296:=by
   refine cancel_lt (P:=p*(P*4294967296)) (Int.mul_pos (by omega) (by omega)) ?_
   have g1:0<=x3*P:=Int.mul_nonneg b3.1 (by omega)
   have g2:(y*(P*4294967296))*p<=vw w*p:=Int.mul_le_mul_of_nonneg_right (by omega) (by omega)
   have g3:p*(P*4294967296)*y=(y*(P*4294967296))*p:=by grind
   have g4:p*(P*4294967296)*(q*4294967296)=P*4294967296*4294967296*(q*p):=by grind
   rw[g3,g4,hqp]
   omega
  have h2:(y+1)*p<=q*4294967296*p:=Int.mul_le_mul_of_nonneg_right (by omega) (by omega)
  have h3:q*4294967296*p=4294967296*(q*p):=by grind
  rw[hqp]at h3
  omega
 rw[Int.add_mul,Int.one_mul]at hyp
 have hyp0:0<=y*p:=Int.mul_nonneg hy0 (by omega)
 have esl:shl .u64 y sk=y*p:=by rw[shl_var _ _ (by show sk.toNat<=64;omega),hpe]
 have esr:shr .u64 x3 (32-sk)=x3/q:=by rw[shr_var _ _ (by show(32-sk).toNat<=64;omega),hqe,show(32-sk).toNat=32-sk.toNat from by omega]
 have d1:=Int.mul_ediv_add_emod x3 q
 have d2:=Int.emod_nonneg x3 (show q≠0 by omega)
 have d3:=Int.emod_lt_of_pos x3 (show 0<q by omega)
 have d4:0<=x3/q:=Int.ediv_nonneg b3.1 (by omega)
 have d5:x3/q<p:=by
  refine Int.ediv_lt_of_lt_mul (by omega) ?_
  rw[Int.mul_comm,hqp]
  exact b3.2
 rw[esl,esr,wu64_in hyp0 (by omega)]
 generalize x3/q=h at*
 have hb:bor .u64 (y*p) h=y*p+h:=by
  have:=bor_add (k:= .u64) (a:=y) (b:=h) (i:=sk.toNat) hy0 d4 (by rw[hpe];exact d5) (by rw[hpe];show _<(18446744073709551616:Int);omega)
  rw[hpe]at this
  exact this
 rw[hb,wu64_in (by omega) (by omega)]
 refine⟨rngu64.2 (by omega), ?_⟩
 show y*p+h=vw w*2^sk.toNat/4294967296^(n.toNat-2)
 have ePP:(4294967296:Int)^(n.toNat-2)=P*4294967296:=by rw[hP,<-Int.pow_succ];congr 1;omega
 rw[hpe,ePP,hval]
 have hPB:0<P*4294967296:=by omega
 have l0:0<=(x3*P+low)*p-h*(P*4294967296):=by
  have g1:h*q*P*p<=x3*P*p:=by
   refine Int.mul_le_mul_of_nonneg_right (Int.mul_le_mul_of_nonneg_right ?_ (by omega)) (by omega)
   rw[Int.mul_comm h q];omega
  have g2:h*q*P*p=h*(P*(q*p)):=by grind
  rw[hqp]at g2
  have g3:0<=low*p:=Int.mul_nonneg hlow.1 (by omega)
  rw[Int.add_mul]
  omega
 have l1:(x3*P+low)*p-h*(P*4294967296)<P*4294967296:=by
  have g1:(x3+1)*P*p<=(h*q+q)*P*p:=by
   refine Int.mul_le_mul_of_nonneg_right (Int.mul_le_mul_of_nonneg_right ?_ (by omega)) (by omega)
   rw[Int.mul_comm h q];omega
  have g2:(h*q+q)*P*p=(h+1)*(P*(q*p)):=by grind
  rw[hqp]at g2
  have g3:(low+1)*p<=P*p:=Int.mul_le_mul_of_nonneg_right (by omega) (by omega)
  have g4:(x3+1)*P*p=x3*P*p+P*p:=by grind
  have g5:(h+1)*(P*4294967296)=h*(P*4294967296)+P*4294967296:=by grind
  have g6:(low+1)*p=low*p+p:=by grind
  rw[Int.add_mul]
  omega
 have e:(y*(P*4294967296)+x3*P+low)*p=((x3*P+low)*p-h*(P*4294967296))+P*4294967296*(y*p+h):=by grind
 rw[e,Int.add_mul_ediv_left _ _ (by omega),Int.ediv_eq_zero_of_lt l0 l1]
 omega
theorem head_ok:V_head:=by
 intro w rw_ n rn sk rs hp
 have h0:=len0 w
 have hp':=hp
 obtain⟨h3,h30,hl,hs0,hs1,hv⟩:=hp'
 have core:∀x1 x2 x3:Int,x1=wd w (n-1)->x2=wd w (n-2)->x3=wd w (n-3)->_:=fun x1 x2 x3 e1 e2 e3=>head_core hp rw_ e1 e2 e3
 refine⟨rsL _ (by omega),rsL _ (by omega),rsL _ (by omega),rsL _ (by omega), ?_⟩
 repeat' first|exact trivial|(with_reducible apply And.intro)|(intro _)
 all_goals first
  |omega
  |exact rsL _ (by omega)
  |exact(core _ _ _ rfl rfl (by unfold wd;split<;>first|rfl|omega)).1
  |exact(core _ _ _ (by unfold wd;split<;>first|rfl|omega) (by unfold wd;split<;>first|rfl|omega) (by unfold wd;split<;>first|rfl|omega)).2
theorem len_mono{B:Int}(hB:0<B){r b:Sl}(dr:Dig B r)(nr:Nrm r)(db:Dig B b)(h:val B r<=val B b):r.len<=b.len:=by
 refine Int.not_lt.1 fun hlt=> ?_
 have:=Nm.lt hB db dr (nrm_nm.1 nr) (by unfold Sl.len at hlt;omega)
 unfold val at h
 omega
theorem simulate_ok:V_simulate:=by
 intro a ra b rb hp hsa
 obtain⟨la,lb,na,nb,hb3,hba⟩:=hp
 unfold Lim at la lb
 have da:=ranged32 ra
 have db:=ranged32 rb
 have hlen:b.len<=a.len:=len_mono (B:=4294967296) (by decide) db nb da hba
 have hta:=da.at (i:=a.len-1) (by omega) (by omega)
 have htop:0<a.int (a.len-1) 0:=by have:=na (by omega);omega
 refine⟨rsL _ (by omega),by omega,by omega,fun _=>⟨trivial,fun sh _ hsh=> ?_⟩⟩
 obtain⟨hs0,_,hs1⟩:=hsh
 obtain⟨hs31,hlo,hhi⟩:=hs1 htop
 obtain⟨p,q,hpe,hp1,hp2,hqe,hq1,hqp⟩:=two_pow hs0 hs31
 have hva:vw a*p<4294967296^a.len.toNat:=by
  have e:=vto_last (B:=4294967296) (s:=a) (by omega)
  have e:vw a=vto 4294967296 a (a.len-1)+a.int (a.len-1) 0*4294967296^(a.len-1).toNat:=e
  have hb:=(da.bound_to (B:=4294967296) (by decide) (i:=a.len-1) (by omega)).2
  have e2:(4294967296:Int)^a.len.toNat=4294967296^(a.len-1).toNat*4294967296:=by rw[<-Int.pow_succ];congr 1;omega
  rw[e2]
  have hP:=pos_pow (B:=4294967296) (by decide) (a.len-1).toNat
  generalize(4294967296:Int)^(a.len-1).toNat=P at*
  rw[hpe]at hhi
  generalize a.int (a.len-1) 0=t at*
  have ht:t<q:=cancel_lt (P:=p) (by omega) (by rw[Int.mul_comm p t,Int.mul_comm p q,hqp];exact hhi)
  have h1:vw a<q*P:=by
   have:(t+1)*P<=q*P:=Int.mul_le_mul_of_nonneg_right (by omega) (by omega)
   rw[Int.add_mul]at this
   omega
  have h2:vw a*p<q*P*p:=Int.mul_lt_mul_of_pos_right h1 (by omega)
  have h3:q*P*p=P*(q*p):=by grind
  rw[h3,hqp]at h2
  exact h2
 have hvb0:0<=vw b:=(db.bound (B:=4294967296) (by decide)).1
 have hbp:vw b*p<=vw a*p:=Int.mul_le_mul_of_nonneg_right hba (by omega)
 refine⟨⟨by omega,by omega,by omega,hs0,hs31,by rw[hpe];exact hva⟩,fun x rx hx=>⟨⟨by omega,by omega,by omega,hs0,hs31,by rw[hpe];omega⟩,fun y ry hy=> ?_⟩⟩
 have hx:x=vw a*2^sh.toNat/4294967296^(a.len.toNat-2):=hx
 have hy:y=vw b*2^sh.toNat/4294967296^(a.len.toNat-2):=hy
 rw[hpe]at hx hy
 have hP:=pos_pow (B:=4294967296) (by decide) (a.len.toNat-2)
 generalize(4294967296:Int)^(a.len.toNat-2)=P at*
 obtain⟨A,hA⟩:∃A,A=vw a*p:=⟨_,rfl⟩
 obtain⟨C,hC⟩:∃C,C=vw b*p:=⟨_,rfl⟩
 rw[<-hA]at hx hbp
 rw[<-hC]at hy hbp
 have dA:=Int.mul_ediv_add_emod A P
 have dC:=Int.mul_ediv_add_emod C P
 have mA:=Int.emod_nonneg A (show P≠0 by omega)
 have mA':=Int.emod_lt_of_pos A hP
 have mC:=Int.emod_nonneg C (show P≠0 by omega)
 have mC':=Int.emod_lt_of_pos C hP
 rw[<-hx]at dA
 rw[<-hy]at dC
 rw[rngu64]at rx ry
 have hxy:y<=x:=by rw[hx,hy];exact Int.ediv_le_ediv hP hbp
 refine⟨fun a1 a2 u2 v2 u0 u1 v0 v1 e=>Leh A C x y a1 a2 u0 u1 u2 v0 v1 v2 (if e=true then-1 else 1),fun _ a2 _ _ _ _ _ _ _=>a2.toNat,Leh.start ry.1 hxy, ?_⟩
 intro a1 r1 a2 r2 u2 _ v2 _ u0 _ u1 _ v0 _ v1 _ e hj
 rw[rngu64]at r1 r2
 have htot:=hj.total
 obtain⟨n1,n2,n3,n4,n5,n6⟩:=hj.nn
 obtain⟨o1,o2,o3,o4⟩:=hj.ord
 obtain⟨k1,k2,k3⟩:=hj.a12
 have fin:q_simulate a b u0 u1 v0 v1 (decide (e=true)):=fun h0=>by
  obtain⟨z1,z2,z3,z4,z5⟩:=hj.zero h0
  have w1:=(hj.le1 (by omega)).1
  have hv1:v1<4294967296:=by
   refine Int.not_le.1 fun hle=> ?_
   have g1:4294967296*4294967296<=v1*v1:=Int.mul_le_mul hle hle (by decide) (by omega)
   have g2:v1*v1<=a1*v2:=Int.mul_le_mul k3 o2 (by omega) (by omega)
   have g3:0<=a2*v1:=Int.mul_nonneg k1 (by omega)
   omega
  refine⟨⟨by omega,by omega,by omega,hv1⟩, ?_, ?_⟩
  ·intro he
   have he:e=true:=by simpa using he
   rw[he]at z2 z3 z4 z5
   simp only[dB,decide_true,if_true]at z2 z3 z4 z5
   rw[hA,hC]at z3 z4 z5
   refine⟨by omega,cancel_le (P:=p) (by omega) ?_,cancel_lt (P:=p) (by omega) ?_,cancel_le (P:=p) (by omega) ?_⟩
   ·have e1:p*(v1*vw b-u1*vw a)=-1*(u1*(vw a*p)-v1*(vw b*p)):=by grind
    omega
   ·have e1:p*(v1*vw b-u1*vw a)=-1*(u1*(vw a*p)-v1*(vw b*p)):=by grind
    have e2:p*(u0*vw a-v0*vw b)=-1*(v0*(vw b*p)-u0*(vw a*p)):=by grind
    omega
   ·have e2:p*(u0*vw a-v0*vw b)=-1*(v0*(vw b*p)-u0*(vw a*p)):=by grind
    rw[Int.mul_comm p (vw b)]
    omega
  ·intro he
   have he:e=false:=by simpa using he
   rw[he]at z2 z3 z4 z5
   simp only[dB,Bool.false_eq_true,decide_false,if_false]at z2 z3 z4 z5
   rw[hA,hC]at z3 z4 z5
   refine⟨by omega,cancel_le (P:=p) (by omega) ?_,cancel_lt (P:=p) (by omega) ?_,cancel_le (P:=p) (by omega) ?_⟩
   ·have e1:p*(u1*vw a-v1*vw b)=1*(u1*(vw a*p)-v1*(vw b*p)):=by grind
    omega
   ·have e1:p*(u1*vw a-v1*vw b)=1*(u1*(vw a*p)-v1*(vw b*p)):=by grind
    have e2:p*(v0*vw b-u0*vw a)=1*(v0*(vw b*p)-u0*(vw a*p)):=by grind
    omega
   ·have e2:p*(v0*vw b-u0*vw a)=1*(v0*(vw b*p)-u0*(vw a*p)):=by grind
    rw[Int.mul_comm p (vw b)]
    omega
 refine⟨fun hge=>⟨fun hc=> ?_,fun _=>⟨fin,trivial⟩⟩,fun _=>⟨fin,trivial⟩⟩
 have s1:1*v2<=a1*v2:=Int.mul_le_mul_of_nonneg_right (by omega) (by omega)
 have s2:1*v1<=a2*v1:=Int.mul_le_mul_of_nonneg_right (by omega) (by omega)
 rw[wu64_in (x:=a1-a2) (by omega) (by omega),wu64_in (x:=v1+v2) (by omega) (by omega)]at hc
 have etd:Int.tdiv a1 a2=a1/a2:=Int.tdiv_eq_ediv_of_nonneg r1.1
 have etm:Int.tmod a1 a2=a1 % a2:=Int.tmod_eq_emod_of_nonneg r1.1
 have dq:=Int.mul_ediv_add_emod a1 a2
 have mq:=Int.emod_nonneg a1 (show a2≠0 by omega)
 have mq':=Int.emod_lt_of_pos a1 (show 0<a2 by omega)
 have q0:0<=a1/a2:=Int.ediv_nonneg r1.1 r2.1
 have q1:a1/a2<=a1:=Int.ediv_le_self _ r1.1
 rw[etd,etm,wu64_in (x:=a1/a2) q0 (by omega)]
 generalize a1/a2=qq at*
 generalize a1 % a2=rr at*
 have hnext:=hj.step (P:=P) (α:=A % P) (β:=C % P) (q:=qq) (r:=rr) (by rw[Int.mul_comm x P];omega) (by rw[Int.mul_comm y P];omega) mA mA' mC mC' (by omega) (by omega) (by rw[Int.mul_comm qq];omega) mq mq'
 have htot':=hnext.total
 have nn':=hnext.nn
 have oo':=hnext.ord
 have t1:1*(v1+qq*v2)<=a2*(v1+qq*v2):=Int.mul_le_mul_of_nonneg_right (by omega) (by omega)
 have t2:0<=rr*v2:=Int.mul_nonneg mq (by omega)
 have t3:0<=qq*u2:=Int.mul_nonneg q0 n3
 have t4:0<=qq*v2:=Int.mul_nonneg q0 (by omega)
 rw[wu64_in (x:=qq*u2) t3 (by omega),wu64_in (x:=u1+qq*u2) (by omega) (by omega),wu64_in (x:=qq*v2) t4 (by omega),wu64_in (x:=v1+qq*v2) (by omega) (by omega)]
 have es:(-(if decide (e=true)=true then-1 else 1):Int)=(if decide (¬e=true)=true then-1 else 1):=by cases e<;>rfl
 rw[es]at hnext
 exact⟨by omega,by omega,rngu64.2 (by omega),hnext,by show rr.toNat<a2.toNat;omega⟩
theorem difference_ok:V_difference:=by
 intro u ru a ra v rv b rb hp hsa hsb
 obtain⟨la,lb,hu,hv,hle⟩:=hp
 unfold Lim at la lb
 rw[rngu64]at ru rv
 have da:=ranged32 ra
 have db:=ranged32 rb
 have ha0:=len0 a
 have hb0:=len0 b
 obtain⟨m,hm⟩:∃m,m=imax a.len b.len+1:=⟨_,rfl⟩
 have hma:a.len+1<=m:=by rw[hm];unfold imax;split<;>omega
 have hmb:b.len+1<=m:=by rw[hm];unfold imax;split<;>omega
 have hmu:m<=1073741825:=by rw[hm];unfold imax;split<;>omega
 rw[<-hm,len_rep (by omega)]
 refine⟨rsL _ (by omega),by omega,by omega,by omega,fun _=> ?_⟩
 refine⟨fun x y bo i w=>0<=i/\i<=m/\w.len=m/\(0<=x/\x<4294967296)/\(0<=y/\y<4294967296)/\(bo=0\/bo=1)/\
   vto 4294967296 w i=u*xto 4294967296 a i-v*xto 4294967296 b i+(y+bo-x)*4294967296^i.toNat,fun _ _ _ i _=>(m-i).toNat,
  ⟨by omega,by omega,len_rep (by omega) _,⟨by decide,by decide⟩,⟨by decide,by decide⟩, .inl rfl,by simp[vto_zero,xto,valN]⟩,fun x _ y _ bo rbo i _ w rw_ hj=> ?_⟩
 obtain⟨i0,i1,hwl,hx,hy,hbo,hwv⟩:=hj
 have add:∀(f z c:Int),0<=f->f<4294967296->0<=z->z<4294967296->0<=c->c<4294967296->IntKind.wrap .u64 (z+IntKind.wrap .u64 (f*c))=z+f*c/\0<=z+f*c/\z+f*c<18446744073709551616/\(z+f*c)/4294967296<4294967296:=fun f z c f0 f1 z0 z1 c0 c1=>by
  have h1:f*c<=4294967295*4294967295:=Int.mul_le_mul (by omega) (by omega) c0 (by omega)
  have h0:0<=f*c:=Int.mul_nonneg f0 c0
  generalize f*c=m at*
  rw[wu64_in (x:=m) h0 (by omega),wu64_in (x:=z+m) (by omega) (by omega)]
  omega
 refine⟨fun hlt=>⟨fun x'=>x'=x+u*wd a i,⟨fun _=>⟨fun h=>⟨i0,h,fun _=> ?_⟩,fun h=> ?_⟩,fun x' _ hx'=>⟨fun y'=>y'=y+v*wd b i,⟨fun _=>⟨fun h=>⟨i0,h,fun _=> ?_⟩,fun h=> ?_⟩,fun y' _ hy'=> ?_⟩⟩⟩⟩,fun hge=>⟨trivial,fun t _ ht=>⟨⟨?_,ht.1⟩,trivial⟩⟩⟩
 ·have e:wd a i=a.int i 0:=if_pos h
  have hc:=da.at i0 h
  rw[e]
  exact(add u x _ ru.1 hu hx.1 hx.2 hc.1 hc.2).1
 ·have e:wd a i=0:=if_neg h
  rw[e,Int.mul_zero,Int.add_zero]
 ·have e:wd b i=b.int i 0:=if_pos h
  have hc:=db.at i0 h
  rw[e]
  exact(add v y _ rv.1 hv hy.1 hy.2 hc.1 hc.2).1
 ·have e:wd b i=0:=if_neg h
  rw[e,Int.mul_zero,Int.add_zero]
 ·have ca:=wd_bound (B:=4294967296) (by decide) da i0
  have cb:=wd_bound (B:=4294967296) (by decide) db i0
  obtain⟨_,x0,x1,x2⟩:=add u x _ ru.1 hu hx.1 hx.2 ca.1 ca.2
  obtain⟨_,y0,y1,y2⟩:=add v y _ rv.1 hv hy.1 hy.2 cb.1 cb.2
  have hx':x'=x+u*wd a i:=hx'
  have hy':y'=y+v*wd b i:=hy'
  rw[shr32,shr32,wu32,wu32]
  refine⟨by show bo<=1;omega,fun d rd o ro hq=>⟨i0,by omega,by decide,rngu64.2 (by omega),by decide,rngu64.2 (by omega),rsL _ (by omega),⟨by omega,by omega,by rw[len_upd];exact hwl,by omega,by omega,hq.2, ?_⟩, ?_⟩⟩
  ·have hq1:=hq.1
   have ex:x'=4294967296*(x'/4294967296)+x' % 4294967296:=by omega
   have ey:y'=4294967296*(y'/4294967296)+y' % 4294967296:=by omega
   rw[vto_upd_succ i0,xto_succ _ _ i0,xto_succ _ _ i0,hwv,show(i+1).toNat=i.toNat+1 from by omega,Int.pow_succ,hq1]
   generalize x'/4294967296=xq at*
   generalize x' % 4294967296=xr at*
   generalize y'/4294967296=yq at*
   generalize y' % 4294967296=yr at*
   generalize(4294967296:Int)^i.toNat=Q at*
   have e1:xr=x+u*wd a i-4294967296*xq:=by omega
   have e2:yr=y+v*wd b i-4294967296*yq:=by omega
   rw[e1,e2]
   grind
  ·show(m-(i+1)).toNat<(m-i).toNat
   omega
 ·have ei:i=m:=by omega
  subst ei
  rw[ht.2.2]
  unfold vw
  rw[val_vto,hwl,hwv,xto_end _ _ (by omega),xto_end _ _ (by omega)]
  have hw:=(ranged32 rw_).bound_to (B:=4294967296) (by decide) (i:=i) (by omega)
  rw[hwv,xto_end _ _ (by omega),xto_end _ _ (by omega)]at hw
  have hua:u*val 4294967296 a<4294967296^i.toNat:=by
   have h1:=(da.bound (B:=4294967296) (by decide))
   have h2:=pow_mono (B:=4294967296) (by decide) (show a.n<=i.toNat-1 by unfold Sl.len at hma;omega)
   have e:(4294967296:Int)^i.toNat=4294967296*4294967296^(i.toNat-1):=by
    rw[Int.mul_comm,<-Int.pow_succ];congr 1;omega
   rw[e]
   have h3:u*val 4294967296 a<=4294967295*val 4294967296 a:=Int.mul_le_mul_of_nonneg_right (by omega) h1.1
   omega
  have hvb:0<=v*val 4294967296 b:=Int.mul_nonneg rv.1 (db.bound (by decide)).1
  unfold vw at hle
  generalize u*val 4294967296 a=X at*
  generalize v*val 4294967296 b=Y at*
  generalize(4294967296:Int)^i.toNat=Q at*
  have hz:y+bo-x=0:=by
   rcases Int.lt_trichotomy (y+bo-x) 0 with h|h|h
   ·have:(y+bo-x)*Q<=-1*Q:=Int.mul_le_mul_of_nonneg_right (by omega) (by omega)
    omega
   ·exact h
   ·have:1*Q<=(y+bo-x)*Q:=Int.mul_le_mul_of_nonneg_right (by omega) (by omega)
    omega
  rw[hz]
  omega
theorem gcd_lin{x y x' y' a b c d a' b' c' d':Int}(h1:x'=a*x+b*y)(h2:y'=c*x+d*y)(h3:x=a'*x'+b'*y')(h4:y=c'*x'+d'*y'):Int.gcd x' y'=Int.gcd x y:=by
 have one:∀{x y x' y' a b c d:Int},x'=a*x+b*y->y'=c*x+d*y->Int.gcd x y∣Int.gcd x' y':=fun{x y x' y' a b c d} e1 e2=>by
  have g1:=Int.gcd_dvd_left x y
  have g2:=Int.gcd_dvd_right x y
  refine Int.dvd_gcd ?_ ?_
  ·rw[e1];exact Int.dvd_add (Int.dvd_mul_of_dvd_right g1) (Int.dvd_mul_of_dvd_right g2)
  ·rw[e2];exact Int.dvd_add (Int.dvd_mul_of_dvd_right g1) (Int.dvd_mul_of_dvd_right g2)
 exact Nat.dvd_antisymm (one h3 h4) (one h1 h2)
theorem gcd_div{x y q r:Int}(h:x=y*q+r):Int.gcd y r=Int.gcd x y:=
 gcd_lin (a:=0) (b:=1) (c:=1) (d:=-q) (a':=q) (b':=1) (c':=1) (d':=0) (by omega) (by rw[h];grind) (by rw[h];grind) (by omega)
theorem commonDivisor_ok:V_commonDivisor:=by
 intro a ra b rb hp
 obtain⟨la,lb,na,nb⟩:=hp
 obtain⟨G,hG⟩:∃G,G=Int.gcd (vw a) (vw b):=⟨_,rfl⟩
 have hva:0<=vw a:=((ranged32 ra).bound (by decide)).1
 have hvb:0<=vw b:=((ranged32 rb).bound (by decide)).1
 refine⟨fun x y=>Lim x/\Lim y/\Nrm x/\Nrm y/\vw y<=vw x/\Int.gcd (vw x) (vw y)=G,⟨⟨na,nb⟩,fun c _ hc=>⟨fun hlt=>⟨lb,la,nb,na, ?_, ?_⟩,fun hge=>⟨la,lb,na,nb, ?_,hG.symm⟩⟩⟩,fun x0 rx0 y0 ry0 hj0=> ?_⟩
 ·rcases hc with hc|hc|hc<;>omega
 ·rw[Int.gcd_comm,hG]
 ·rcases hc with hc|hc|hc<;>omega
 refine⟨fun x y=>Lim x/\Lim y/\Nrm x/\Nrm y/\vw y<=vw x/\Int.gcd (vw x) (vw y)=G,fun _ y=>(vw y).toNat,hj0,fun x rx y ry hj hsy=> ?_⟩
 obtain⟨lx,ly,nx,ny,hle,hg⟩:=hj
 have dx:=ranged32 rx
 have dy:=ranged32 ry
 have hx0:0<=vw x:=(dx.bound (by decide)).1
 have hy0:0<=vw y:=(dy.bound (by decide)).1
 have hyl:=len0 y
 have shorter:∀r:Sl,Ranged r [some .u32]->Nrm r->vw r<=vw y->r.len<=y.len:=fun r rr nr h=>len_mono (B:=4294967296) (by decide) (ranged32 rr) nr dy h
 refine⟨fun hlt=>⟨⟨lx,ly,nx,ny,by omega,hle⟩,fun u0 ru0 u1 ru1 v0 rv0 v1 rv1 e hq=>⟨fun hz=>⟨⟨lx,ly,nx,ny,by omega⟩,fun q rq r rr hd=> ?_⟩,fun hnz=> ?_⟩⟩,fun hge _=>⟨fun hz=> ?_,fun hnz=> ?_⟩⟩
 ·obtain⟨h1,h2,h3,h4⟩:=hd
  refine⟨⟨ly, ?_,ny,h4,by omega, ?_⟩, ?_⟩
  ·have:=shorter r rr h4 (by omega)
   unfold Lim at*
   omega
  ·rw[gcd_div h1]
   exact hg
  ·have:=((ranged32 rr).bound (B:=4294967296) (by decide)).1
   have:0<=vw r:=this
   show(vw r).toNat<(vw y).toNat
   omega
 ·obtain⟨⟨b1,b2,b3,b4⟩,hev,hod⟩:=hq hnz
  have next:∀s t:Sl,Ranged s [some .u32]->Ranged t [some .u32]->Nrm s->Nrm t->vw t<vw s->vw s<=vw y->Int.gcd (vw s) (vw t)=G->(Lim s/\Lim t/\Nrm s/\Nrm t/\vw t<=vw s/\Int.gcd (vw s) (vw t)=G)/\(vw t).toNat<(vw y).toNat:=fun s t rs rt ns nt h1 h2 h3=>by
   have k1:=shorter s rs ns h2
   have k2:=shorter t rt nt (by omega)
   have:0<=vw t:=((ranged32 rt).bound (by decide)).1
   unfold Lim at*
   exact⟨⟨by omega,by omega,ns,nt,by omega,h3⟩,by omega⟩
  refine⟨fun he=> ?_,fun he=> ?_⟩
  ·obtain⟨d1,d2,d3,d4⟩:=hev (by simpa using he)
   refine⟨⟨lx,ly,b1,b3,by omega⟩,fun s rs hs=>⟨⟨ly,lx,b4,b2,by omega⟩,fun t rt ht=>next s t rs rt hs.2 ht.2 (by rw[hs.1,ht.1];exact d3) (by rw[hs.1];exact d4) ?_⟩⟩
   rw[<-hg]
   refine gcd_lin (a:=u0) (b:=-v0) (c:=-u1) (d:=v1) (a':=v1) (b':=v0) (c':=u1) (d':=u0) ?_ ?_ ?_ ?_
   ·rw[hs.1];grind
   ·rw[ht.1];grind
   ·rw[hs.1,ht.1]
    have:v1*(u0*vw x-v0*vw y)+v0*(v1*vw y-u1*vw x)=(u0*v1-v0*u1)*vw x:=by grind
    rw[this,d1];omega
   ·rw[hs.1,ht.1]
    have:u1*(u0*vw x-v0*vw y)+u0*(v1*vw y-u1*vw x)=(u0*v1-v0*u1)*vw y:=by grind
    rw[this,d1];omega
  ·obtain⟨d1,d2,d3,d4⟩:=hod (by simpa using he)
   refine⟨⟨ly,lx,b3,b1,by omega⟩,fun s rs hs=>⟨⟨lx,ly,b2,b4,by omega⟩,fun t rt ht=>next s t rs rt hs.2 ht.2 (by rw[hs.1,ht.1];exact d3) (by rw[hs.1];exact d4) ?_⟩⟩
   rw[<-hg]
   refine gcd_lin (a:=-u0) (b:=v0) (c:=u1) (d:=-v1) (a':=v1) (b':=v0) (c':=u1) (d':=u0) ?_ ?_ ?_ ?_
   ·rw[hs.1];grind
   ·rw[ht.1];grind
   ·rw[hs.1,ht.1]
    have:v1*(v0*vw y-u0*vw x)+v0*(u1*vw x-v1*vw y)=-(u0*v1-v0*u1)*vw x:=by grind
    rw[this,d1];omega
   ·rw[hs.1,ht.1]
    have:u1*(v0*vw y-u0*vw x)+u0*(u1*vw x-v1*vw y)=-(u0*v1-v0*u1)*vw y:=by grind
    rw[this,d1];omega
 ·have e0:vw y=0:=(val_zero_iff (B:=4294967296) (by decide) dy ny).2 hz
  rw[e0,Int.gcd_zero_right]at hg
  refine⟨⟨?_,nx⟩,trivial⟩
  rw[<-hG,<-hg]
  omega
 ·have hyp:0<y.len:=by omega
  refine⟨fun s t=>s.len<=2/\t.len<=2/\Int.gcd (vw s) (vw t)=G,⟨fun _=>⟨fun hl=>⟨⟨lx,ly,nx,ny,hyp⟩,fun q _ r rr hd=>⟨by omega, ?_, ?_⟩⟩,fun hl=>⟨by omega,by omega,hg⟩⟩,fun s rs t rt hst=>⟨hst.1,fun z1 rz1 h1=>⟨hst.2.1,fun z2 rz2 h2=> ?_⟩⟩⟩⟩
  ·have:=shorter r rr hd.2.2.2 (by have:=hd.2.1;omega)
   omega
  ·rw[gcd_div hd.1]
   exact hg
  ·refine⟨fun z w=>0<=z/\0<=w/\Int.gcd z w=G,fun _ w=>w.toNat,⟨(rngu64.1 rz1).1,(rngu64.1 rz2).1,by rw[show z1=vw s from h1,show z2=vw t from h2];exact hst.2.2⟩,fun z rz w rw_ hj=> ?_⟩
   obtain⟨z0,w0,hgz⟩:=hj
   rw[rngu64]at rz rw_
   refine⟨fun hne=> ?_,fun heq=>⟨trivial,fun r _ hr=>⟨⟨?_,hr.2⟩,trivial⟩⟩⟩
   ·have e:=Int.tmod_eq_emod_of_nonneg (b:=w) z0
    rw[e]
    have m0:=Int.emod_nonneg z (show w≠0 by omega)
    have m1:=Int.emod_lt_of_pos z (show 0<w by omega)
    refine⟨hne,rngu64.2 (by omega),⟨w0,m0, ?_⟩,by show(z % w).toNat<w.toNat;omega⟩
    rw[gcd_div (q:=z/w) (r:=z % w) (x:=z) (Int.mul_ediv_add_emod z w).symm]
    exact hgz
   ·have:w=0:=Classical.not_not.1 heq
    rw[this,Int.gcd_zero_right]at hgz
    rw[hr.1,<-hG,<-hgz]
    omega
end Go.Sx.N
