/-
 The conditions of the reference's functions on whole numbers. Conditions: none.
 The conditions of the reference's functions on whole numbers, second part. Conditions: none.
 The conditions of the reference's functions on fractions, and of the kit's copies and comparisons. Conditions: none.
-/
import Derived.Test.YtbgbcaamipknmaaGreatNumFb
import Derived.Test.YtbgbcaamipknmaaGreatNumVD
import Derived.Test.YtbgbcaamipknmaaGreatNumVE
import Derived.Test.YtbgbcaamipknmaaGreatNumVK
set_option linter.unusedVariables false
set_option linter.unusedSimpArgs false
namespace Go.Sx.N
theorem rTrim_ok:V_rTrim:=by
 intro s rs _ hsm
 have hm:=small64 hsm
 have h0:=len0 s
 have part:∀i:Int,0<=i->i<=s.len->(∀k:Int,i<=k->k<s.len->s.int k 0=0)->(Sl.part s 0 i).len<=s.len/\vl (Sl.part s 0 i)=vl s:=fun i i0 i1 hz=>by
  refine⟨by rw[len_part i0];omega, ?_⟩
  unfold vl
  rw[val_part0 i0,val_split 65536 s i0 i1,vhi_zeros i0 hz]
  omega
 refine⟨fun i=>0<=i/\i<=s.len/\∀k:Int,i<=k->k<s.len->s.int k 0=0,fun i=>i.toNat,⟨h0,Int.le_refl _,fun k h1 h2=>absurd h2 (by omega)⟩,fun i _ hj=> ?_⟩
 obtain⟨i0,i1,hz⟩:=hj
 refine⟨fun hp=>⟨rsL _ (by omega),by omega,by omega,fun _=>⟨fun hd=>⟨rsL _ (by omega),⟨by omega,by omega,fun k h1 h2=> ?_⟩,by show(i-1).toNat<i.toNat;omega⟩,fun hd=>⟨by decide,i0,i1,⟨fun _=> ?_,part i i0 i1 hz⟩,trivial⟩⟩⟩,fun hn=>⟨by decide,i0,i1,⟨fun h=> ?_,part i i0 i1 hz⟩,trivial⟩⟩
 ·by_cases e:k=i-1
  ·rw[e];exact hd
  ·exact hz k (by omega) h2
 ·rw[len_part i0,int_part0 (by omega),Int.sub_zero]
  exact hd
 ·rw[len_part i0]at h
  omega
theorem rLess_ok:V_rLess:=by
 intro a ra b rb hp hsa hsb
 obtain⟨na,nb⟩:=hp
 have da:=ranged16 ra
 have db:=ranged16 rb
 have ha0:=len0 a
 have hm:=small64 hsa
 simp only[q_rLess,decide_eq_true_eq,decide_false,Bool.false_eq_true,false_iff]
 refine⟨fun hne _ _=>⟨⟨fun hlt=> ?_,fun hv=> ?_⟩,trivial⟩,fun heq _=>⟨rsL _ (by omega), ?_⟩⟩
 ·exact Nm.lt (by decide) da db (nrm_nm.1 nb) (by unfold Sl.len at hlt;omega)
 ·refine Int.not_le.1 fun hle=> ?_
  have:=Nm.lt (by decide) db da (nrm_nm.1 na) (by unfold Sl.len at*;omega)
  have:vl b<vl a:=this
  omega
 have heq:a.len=b.len:=Classical.not_not.1 heq
 have lt:∀(x y:Sl)(i:Int),Dig 65536 x->Dig 65536 y->0<=i->i<x.len->x.len=y.len->(∀k:Int,i<k->k<x.len->x.int k 0=y.int k 0)->x.int i 0<y.int i 0->vl x<vl y:=fun x y i dx dy hi hx hxy hk hl=>by
  have e:x.n=y.n:=by unfold Sl.len at hxy;omega
  unfold vl val
  rw[<-e]
  refine valN_lt (by decide) (i:=i.toNat) dx (by rw[e];exact dy) (by unfold Sl.len at hx;omega) (fun k hk1 hk2=>hk k (by omega) (by unfold Sl.len;omega)) ?_
  rw[dg_int hi,dg_int hi]
  exact hl
 refine⟨fun i=>-1<=i/\i<a.len/\∀k:Int,i<k->k<a.len->a.int k 0=b.int k 0,fun i=>(i+1).toNat,⟨by omega,by omega,fun k h1 h2=>absurd h1 (by omega)⟩,fun i _ hj=> ?_⟩
 obtain⟨h1,h2,h3⟩:=hj
 refine⟨fun hge=>⟨hge,h2,fun _=>⟨hge,by omega,fun _=>⟨fun hne=>⟨hge,h2,fun _=>⟨hge,by omega,fun _=>⟨⟨fun hlt=> ?_,fun hv=> ?_⟩,trivial⟩⟩⟩,fun heq'=>⟨rsL _ (by omega),⟨by omega,by omega,fun k k1 k2=> ?_⟩, ?_⟩⟩⟩⟩,fun hlt=>⟨fun hv=> ?_,trivial⟩⟩
 ·exact lt a b i da db hge h2 heq h3 hlt
 ·refine Int.not_le.1 fun hle=> ?_
  have:=lt b a i db da hge (by omega) heq.symm (fun k k1 k2=>(h3 k k1 (by omega)).symm) (by omega)
  omega
 ·by_cases e:k=i
  ·rw[e];exact Classical.not_not.1 heq'
  ·exact h3 k (by omega) k2
 ·show(i-1+1).toNat<(i+1).toNat
  omega
 ·have:vl a=vl b:=SameI.val ⟨heq,fun k k0 k1=>h3 k (by omega) k1⟩ _
  omega
theorem rPlus_ok:V_rPlus:=by
 intro a ra b rb hp
 obtain⟨la,lb⟩:=hp
 unfold Lim at la lb
 have da:=ranged16 ra
 have db:=ranged16 rb
 have ha0:=len0 a
 have hb0:=len0 b
 obtain⟨M,hM1,hM2,hM3⟩:∃M:Int,a.len<=M/\b.len<=M/\(M=a.len\/M=b.len):=by
  rcases Int.le_total a.len b.len with h|h
  ·exact⟨b.len,h,Int.le_refl _, .inr rfl⟩
  ·exact⟨a.len,Int.le_refl _,h, .inl rfl⟩
 have hva:=(da.bound (B:=65536) (by decide)).1
 have hvb:=(db.bound (B:=65536) (by decide)).1
 have hva:0<=vl a:=hva
 have hvb:0<=vl b:=hvb
 refine⟨fun n w i=>0<=i/\w.len=i/\(n=0\/n=1)/\vl w+n*65536^i.toNat=xto 65536 a i+xto 65536 b i/\(i<=M\/(i=M+1/\n=0/\65536^M.toNat<=vl w)),fun _ _ i=>(M+2-i).toNat,
  ⟨by omega,rfl, .inl rfl,rfl,by omega⟩,fun n _ w rw_ i _ hj=> ?_⟩
 obtain⟨i0,hwl,hn,hv,hi⟩:=hj
 have hwn:w.n=i.toNat:=by unfold Sl.len at hwl;omega
 refine⟨i<=M/\(i<M\/n>0),⟨fun _=>⟨fun h=>by omega,fun h1 _=>⟨fun h=>by omega,fun h2=>⟨fun h=>by omega,fun h3=> ?_⟩⟩⟩,fun hiM'=> ?_⟩⟩
 ·have n0:n=0:=by omega
  rw[n0,xto_end _ _ (by omega),xto_end _ _ (by omega)]at hv
  have hvv:vl w=vl a+vl b:=by
   show _=val 65536 a+val 65536 b
   omega
  refine⟨⟨hvv,fun ha hb=>nrm_of_val (B:=65536) (by decide) (ranged16 rw_) fun hp=> ?_⟩,trivial⟩
  show _<=vl w
  rcases hi with hi|hi
  ·have eM:i=M:=by omega
   have h1:65536^(M.toNat-1)<=vl a+vl b:=by
    rcases hM3 with e|e
    ·have:=val_ge (B:=65536) (by decide) da ha (by omega)
     have this:65536^(a.n-1)<=vl a:=this
     have e2:a.n-1=M.toNat-1:=by unfold Sl.len at e;omega
     rw[e2]at this
     omega
    ·have:=val_ge (B:=65536) (by decide) db hb (by omega)
     have this:65536^(b.n-1)<=vl b:=this
     have e2:b.n-1=M.toNat-1:=by unfold Sl.len at e;omega
     rw[e2]at this
     omega
   rw[hwn,eM,hvv]
   exact h1
  ·rw[hwn,hi.1,show(M+1).toNat-1=M.toNat from by omega]
   exact hi.2.2
 ·obtain⟨hiM,hiM2⟩:=hiM'
  have ca:=wd_bound (B:=65536) (by decide) da i0
  have cb:=wd_bound (B:=65536) (by decide) db i0
  refine⟨fun x=>x=n+wd a i,⟨fun _=>⟨fun h=>⟨i0,h,fun _=> ?_⟩,fun h=> ?_⟩,fun x _ hx=>⟨fun x'=>x'=n+wd a i+wd b i,⟨fun _=>⟨fun h=>⟨i0,h,fun _=> ?_⟩,fun h=> ?_⟩,fun x' _ hx'=> ?_⟩⟩⟩⟩
  ·have e:wd a i=a.int i 0:=if_pos h
   rw[<-e]
   exact⟨rsL _ (by omega),rfl⟩
  ·have e:wd a i=0:=if_neg h
   rw[e,Int.add_zero]
  ·have e:wd b i=b.int i 0:=if_pos h
   have hx:x=n+wd a i:=hx
   rw[<-e,hx]
   exact⟨rsL _ (by omega),rfl⟩
  ·have e:wd b i=0:=if_neg h
   have hx:x=n+wd a i:=hx
   rw[e,Int.add_zero,hx]
  ·have hx':x'=n+wd a i+wd b i:=hx'
   have e1:(Sl.lit [[.int (x' % 65536)]]).len=1:=rfl
   rw[Int.tmod_eq_emod_of_nonneg (by omega),Int.tdiv_eq_ediv_of_nonneg (by omega),wu16_in (x:=x' % 65536) (by omega) (by omega)]
   have hval:vl (Sl.app w (Sl.lit [[.int (x' % 65536)]]))=vl w+x' % 65536*65536^i.toNat:=by
    unfold vl
    rw[val_app1,hwn]
   have hv':vl (Sl.app w (Sl.lit [[.int (x' % 65536)]]))+x'/65536*65536^(i+1).toNat=xto 65536 a (i+1)+xto 65536 b (i+1):=by
    rw[hval,xto_succ _ _ i0,xto_succ _ _ i0,show(i+1).toNat=i.toNat+1 from by omega,Int.pow_succ]
    generalize(65536:Int)^i.toNat=Q at*
    have e2:x' % 65536=x'-65536*(x'/65536):=by omega
    rw[e2]
    generalize x'/65536=q at*
    rw[hx']
    grind
   refine⟨by decide,rsL _ (by omega),by rw[e1];omega,by decide,rsL _ (by omega),rsL _ (by omega),⟨by omega,by rw[len_app1];omega,by omega,hv', ?_⟩,by show(M+2-(i+1)).toNat<(M+2-i).toNat;omega⟩
   by_cases hlt:i<M
   ·left;omega
   ·right
    have ei:i=M:=by omega
    have wa:wd a i=0:=if_neg (by omega)
    have wb:wd b i=0:=if_neg (by omega)
    rw[wa,wb]at hx'
    have hm0:0<=vl w:=((ranged16 rw_).bound (B:=65536) (by decide)).1
    have hx1:x'=1:=by omega
    rw[hval,hx1,ei]
    refine⟨by omega,by decide, ?_⟩
    have e3:(1:Int) % 65536=1:=by decide
    rw[e3]
    omega
theorem rMinus_ok:V_rMinus:=by
 intro a ra b rb hp
 obtain⟨la,hle,hbl⟩:=hp
 unfold Lim at la
 have da:=ranged16 ra
 have db:=ranged16 rb
 have ha0:=len0 a
 have hb0:=len0 b
 refine⟨fun w bo i=>0<=i/\i<=a.len/\w.len=i/\(bo=0\/bo=1)/\vl w=vto 65536 a i-xto 65536 b i+bo*65536^i.toNat,fun _ _ i=>(a.len-i).toNat,⟨by omega,ha0,rfl, .inl rfl,rfl⟩,fun w rw_ bo _ i _ hj _=> ?_⟩
 obtain⟨i0,i1,hwl,hbo,hv⟩:=hj
 have hwn:w.n=i.toNat:=by unfold Sl.len at hwl;omega
 have ew:∀d:Int,vl (Sl.app w (Sl.lit [[.int d]]))=vl w+d*65536^i.toNat:=fun d=>by unfold vl;rw[val_app1,hwn]
 have e1:∀d:Int,(Sl.lit [[.int d]]).len=1:=fun d=>rfl
 refine⟨fun hlt=>⟨i0,hlt,fun _=> ?_⟩,fun hge=>⟨trivial,fun t _ ht=>⟨⟨?_,ht.1⟩,trivial⟩⟩⟩
 ·have ca:=da.at i0 hlt
  have cb:=wd_bound (B:=65536) (by decide) db i0
  have fin:∀z:Int,z=65536+a.int i 0-bo-wd b i->((65536:Int)≠0/\Rng .i64 (Int.tmod z 65536)/\(w.len+(Sl.lit [[.int (IntKind.wrap .u16 (Int.tmod z 65536))]]).len)*2<=140737488355328/\(65536:Int)≠0/\Rng .i64 (Int.tdiv z 65536)/\Rng .i64 (1-Int.tdiv z 65536)/\Rng .i64 (i+1)/\
    ((0<=i+1/\i+1<=a.len/\(Sl.app w (Sl.lit [[.int (IntKind.wrap .u16 (Int.tmod z 65536))]])).len=i+1/\(1-Int.tdiv z 65536=0\/1-Int.tdiv z 65536=1)/\vl (Sl.app w (Sl.lit [[.int (IntKind.wrap .u16 (Int.tmod z 65536))]]))=vto 65536 a (i+1)-xto 65536 b (i+1)+(1-Int.tdiv z 65536)*65536^(i+1).toNat)/\(a.len-(i+1)).toNat<(a.len-i).toNat)):=fun z hz=>by
   rw[Int.tmod_eq_emod_of_nonneg (by omega),Int.tdiv_eq_ediv_of_nonneg (by omega),wu16_in (x:=z % 65536) (by omega) (by omega),e1]
   refine⟨by decide,rsL _ (by omega),by omega,by decide,rsL _ (by omega),rsL _ (by omega),rsL _ (by omega),⟨by omega,by omega,by rw[len_app1];omega,by omega, ?_⟩,by omega⟩
   rw[ew,hv,vto_succ _ _ i0,xto_succ _ _ i0,show(i+1).toNat=i.toNat+1 from by omega,Int.pow_succ]
   generalize(65536:Int)^i.toNat=Q at*
   have e2:z % 65536=z-65536*(z/65536):=by omega
   rw[e2]
   generalize z/65536=q at*
   rw[hz]
   grind
  refine⟨rsL _ (by omega),rsL _ (by omega),fun _=>⟨fun h=>⟨i0,h,fun _=>⟨?_, ?_⟩⟩,fun h=> ?_⟩⟩
  ·have e:wd b i=b.int i 0:=if_pos h
   rw[<-e];exact rsL _ (by omega)
  ·have e:wd b i=b.int i 0:=if_pos h
   exact fin _ (by rw[e])
  ·have e:wd b i=0:=if_neg h
   exact fin _ (by rw[e];omega)
 ·have ei:i=a.len:=by omega
  subst ei
  have hw:=(ranged16 rw_).bound (B:=65536) (by decide)
  have hab:=da.bound (B:=65536) (by decide)
  have hb:=(db.bound (B:=65536) (by decide)).1
  have hw1:vl w<65536^w.n:=hw.2
  have hw0:0<=vl w:=hw.1
  have ha1:vl a<65536^a.n:=hab.2
  have hb:0<=vl b:=hb
  have e3:a.len.toNat=a.n:=toNat_len a
  rw[<-val_vto,xto_end _ _ hbl,e3]at hv
  have hv:vl w=vl a-vl b+bo*65536^a.n:=hv
  have hwn':w.n=a.n:=by omega
  rw[hwn']at hw1
  rw[ht.2.2]
  generalize(65536:Int)^a.n=Q at*
  rcases hbo with h|h
  ·rw[h]at hv;omega
  ·rw[h]at hv;omega
theorem rHalf_ok:V_rHalf:=by
 intro a ra hp hsm
 unfold p_rHalf Lim at hp
 have da:=ranged16 ra
 have h0:=len0 a
 refine⟨h0,by omega,by omega,fun _=>⟨rsL _ (by omega), ?_⟩⟩
 refine⟨fun n i w=>-1<=i/\i<a.len/\w.len=a.len/\0<=n/\n<131072/\vhi 65536 a (i+1)=2*vhi 65536 w (i+1)+n % 2,fun _ i _=>(i+1).toNat,⟨by omega,by omega,len_rep h0 _,by decide,by decide, ?_⟩,fun n _ i _ w _ hj=> ?_⟩
 ·rw[vhi_rep,vhi_end _ _ (by omega)];rfl
 obtain⟨i1,i2,hwl,n0,n1,hv⟩:=hj
 rw[Int.tmod_eq_emod_of_nonneg n0]
 refine⟨fun hge=>⟨by decide,rsL _ (by omega),rsL _ (by omega),hge,i2,fun hr=> ?_⟩,fun hlt=>⟨trivial,fun t _ ht=>⟨⟨?_,ht.1⟩,trivial⟩⟩⟩
 ·have hx:=da.at hge i2
  rw[Int.tdiv_eq_ediv_of_nonneg (by omega),wu16_in (x:=(n % 2*65536+a.int i 0)/2) (by omega) (by omega)]
  refine⟨rsL _ (by omega),by decide,rsL _ (by omega),hge,by omega,rsL _ (by omega),⟨by omega,by omega,by rw[len_upd];exact hwl,by omega,by omega, ?_⟩,by show(i-1+1).toNat<(i+1).toNat;omega⟩
  rw[show i-1+1=i from by omega,vhi_step _ _ hge i2,vhi_step _ _ hge (by rw[len_upd];omega),vhi_upd hge (by omega),int_upd hge hge,if_pos rfl,hv]
  omega
 ·have e:i=-1:=by omega
  subst e
  have e1:vhi 65536 a (-1+1)=vl a:=vhi_zero _ _
  have e2:vhi 65536 w (-1+1)=vl w:=vhi_zero _ _
  rw[e1,e2]at hv
  rw[ht.2.2]
  omega
theorem rShort_ok:V_rShort:=by
 intro s rs d rd hp hsm
 obtain⟨hl,hd0,hd1⟩:=hp
 unfold Lim at hl
 have h0:=len0 s
 have hs:=ranged16 rs
 refine⟨h0,by omega,by omega,fun _=>⟨rsL _ (by omega), ?_⟩⟩
 refine⟨fun r i q=>-1<=i/\i<s.len/\q.len=s.len/\r<d/\0<=r/\vhi 65536 s (i+1)=d*vhi 65536 q (i+1)+r,fun _ i _=>(i+1).toNat,⟨by omega,by omega,len_rep h0 _,by omega,by omega, ?_⟩,fun r _ i _ q _ hj=> ?_⟩
 ·rw[vhi_rep,vhi_end _ _ (by omega)]
  omega
 obtain⟨h1,h2,hql,hrd,hr0,hv⟩:=hj
 refine⟨fun hge=> ?_,fun hlt=>⟨trivial,fun q' _ hq=>⟨trivial,fun r' _ hr=>⟨⟨?_, ?_,hq.1,hr.1⟩,trivial⟩⟩⟩⟩
 ·have hx:=hs.at hge h2
  generalize hxe:s.int i 0=x at*
  have dm:=Int.mul_ediv_add_emod (r*65536+x) d
  have m0:=Int.emod_nonneg (r*65536+x) (show d≠0 by omega)
  have m1:=Int.emod_lt_of_pos (r*65536+x) (show 0<d by omega)
  have q0:0<=(r*65536+x)/d:=Int.ediv_nonneg (by omega) (by omega)
  have q1:(r*65536+x)/d<65536:=by
   refine Int.ediv_lt_of_lt_mul (by omega) ?_
   have:(r+1)*65536<=d*65536:=Int.mul_le_mul_of_nonneg_right (by omega) (by decide)
   rw[Int.mul_comm 65536 d]
   omega
  rw[Int.tdiv_eq_ediv_of_nonneg (by omega),Int.tmod_eq_emod_of_nonneg (by omega),wu16_in q0 q1]
  refine⟨rsL _ (by omega),hge,h2,fun _=>⟨rsL _ (by omega),by omega,rsL _ (by omega),hge,by omega,by omega,rsL _ (by omega),rsL _ (by omega),⟨by omega,by omega,by rw[len_upd];exact hql,m1,m0, ?_⟩,by show(i-1+1).toNat<(i+1).toNat;omega⟩⟩
  rw[show i-1+1=i from by omega,vhi_step _ _ hge h2,vhi_step _ _ hge (by rw[len_upd];omega),vhi_upd hge (by omega),int_upd hge hge,if_pos rfl,hv,hxe]
  generalize(r*65536+x)/d=qq at*
  generalize(r*65536+x) % d=rr at*
  grind
 ·have e:i=-1:=by omega
  subst e
  have e1:vhi 65536 s (-1+1)=vl s:=vhi_zero _ _
  have e2:vhi 65536 q (-1+1)=vl q:=vhi_zero _ _
  rw[e1,e2]at hv
  rw[hq.2.2,hr.2.2,hv]
  unfold vl
  rw[val_lit1,wu16_in hr0 (by omega)]
 ·rw[hr.2.2]
  unfold vl
  rw[val_lit1,wu16_in hr0 (by omega)]
  exact hrd
end Go.Sx.N
namespace Go.Sx.N
theorem pow2_16(k:Nat):(65536:Int)^k=2^(16*k):=by
 rw[Int.pow_mul,show(2:Int)^16=65536 from rfl]
theorem rDivided_ok:V_rDivided:=by
 intro a ra b rb hp hsb
 obtain⟨la,lb,na,nb,hb0⟩:=hp
 unfold Sm at la lb
 have da:=ranged16 ra
 have db:=ranged16 rb
 have ha0:=len0 a
 have hva:0<=vl a:=(da.bound (B:=65536) (by decide)).1
 have hvb:0<vl b:=(val_pos_iff (B:=65536) (by decide) db nb).2 hb0
 simp only[Bool.decide_eq_true]
 refine⟨fun h1=>⟨by decide,by omega,fun _=> ?_⟩,fun hne=> ?_⟩
 ·have e:vl b=b.int 0 0:=by
   unfold vl
   rw[val_vto,h1]
   have:=vto_succ 65536 b (i:=0) (by omega)
   rw[vto_zero]at this
   have e2:(0:Int)+1=1:=rfl
   rw[e2]at this
   rw[this]
   show 0+b.int 0 0*65536^0=b.int 0 0
   rw[Int.pow_zero]
   omega
  have hx:=db.at (i:=0) (by omega) (by omega)
  exact⟨⟨by unfold Lim;omega,by omega,hx.2⟩,fun q rq r rr hq=>⟨⟨by rw[e];exact hq.1,by rw[e];exact hq.2.1,hq.2.2.1,hq.2.2.2⟩,trivial⟩⟩
 have shortA:∀d:Sl,Ranged d [some .u16]->Nrm d->vl d<=vl a->d.len<=a.len:=fun d rd nd h=>len_mono (B:=65536) (by decide) (ranged16 rd) nd da h
 have vA:vl a<65536^a.n:=(da.bound (B:=65536) (by decide)).2
 have hn16:∀n:Int,0<=n->(n=0\/vl b*2^(n-1).toNat<=vl a)->n<=6400000001:=fun n n0 h=>by
  rcases h with h|h
  ·omega
  ·have h1:1*2^(n-1).toNat<=vl b*2^(n-1).toNat:=Int.mul_le_mul_of_nonneg_right (by omega) (Int.le_of_lt (Int.pow_pos (by decide)))
   have h2:(2:Int)^(n-1).toNat<2^(16*a.n):=by rw[<-pow2_16];omega
   have h3:=pow_strict (B:=2) (by decide) h2
   unfold Sl.len at la
   omega
 have two:∀n:Int,0<=n->(2:Int)^(n+1).toNat=2^n.toNat*2:=fun n hn=>by rw[show(n+1).toNat=n.toNat+1 from by omega,Int.pow_succ]
 refine⟨fun d n=>0<=n/\Nrm d/\vl d=vl b*2^n.toNat/\(n=0\/vl b*2^(n-1).toNat<=vl a),fun d _=>(vl a+1-vl d).toNat,⟨by omega,nb,by simp, .inl rfl⟩,fun d rd n rn hj=> ?_⟩
 obtain⟨n0,nd,hd,hn⟩:=hj
 have hd0:0<vl d:=by rw[hd];exact Int.mul_pos hvb (Int.pow_pos (by decide))
 refine⟨⟨na,nd⟩,fun l hl=>⟨fun hnl=> ?_,fun hyl=> ?_⟩⟩
 ·have hle:vl d<=vl a:=Int.not_lt.1 fun h=>hnl (hl.2 h)
  have hdl:=shortA d rd nd hle
  have hn':vl b*2^(n+1-1).toNat<=vl a:=by rw[show n+1-1=n from by omega,<-hd];exact hle
  have hb:=hn16 (n+1) (by omega) (.inr hn')
  refine⟨⟨by unfold Lim;omega,by unfold Lim;omega⟩,fun d' rd' h'=>⟨rsL _ (by omega),⟨by omega,h'.2 nd nd,by rw[h'.1,hd,two n n0];grind, .inr hn'⟩, ?_⟩⟩
  show(vl a+1-vl d').toNat<(vl a+1-vl d).toNat
  rw[h'.1]
  omega
 ·have had:vl a<vl d:=hl.1 (Classical.not_not.1 hyl)
  have hnb:=hn16 n n0 hn
  have mono2:∀i:Int,0<=i->i<n->vl b*2^i.toNat<=vl a:=fun i i0 i1=>by
   rcases hn with h|h
   ·omega
   ·have:(2:Int)^i.toNat<=2^(n-1).toNat:=pow_mono (by decide) (by omega)
    have:=Int.mul_le_mul_of_nonneg_left this (Int.le_of_lt hvb)
    omega
  refine⟨fun d2 i=>0<=i/\i<=n/\Nrm d2/\vl d2=vl b*2^i.toNat,fun _ i=>(n-i).toNat,⟨by omega,n0,nb,by simp⟩,fun d2 rd2 i _ hj2=> ?_⟩
  obtain⟨i0,i1,nd2,hd2⟩:=hj2
  refine⟨fun hlt=> ?_,fun hge=> ?_⟩
  ·have hdl:=shortA d2 rd2 nd2 (by rw[hd2];exact mono2 i i0 hlt)
   exact⟨⟨by unfold Lim;omega,by unfold Lim;omega⟩,fun d' rd' h'=>⟨rsL _ (by omega),⟨by omega,by omega,h'.2 nd2 nd2,by rw[h'.1,hd2,two i i0];grind⟩,by show(n-(i+1)).toNat<(n-i).toNat;omega⟩⟩
  ·have ei:i=n:=by omega
   subst ei
   have e0:(Sl.lit []).len=0:=rfl
   have sa:SameI (Sl.app (Sl.lit []) a) a:=sameI_app e0
   have hA:vl (Sl.app (Sl.lit []) a)=vl a:=sa.val _
   refine⟨by rw[e0];omega, ?_⟩
   refine⟨fun d3 q r k=>0<=k/\k<=i/\Nrm d3/\Nrm q/\Nrm r/\vl d3=vl b*2^(i-k).toNat/\vl a=vl d3*vl q+vl r/\vl r<vl d3/\0<=vl q/\0<=vl r,fun _ _ _ k=>(i-k).toNat,
    ⟨by omega,i0,nd2,nrm_nil,sa.nrm na,by rw[hd2];simp, ?_,by rw[hA,hd2,<-hd];exact had,Int.le_refl _,by rw[hA];exact hva⟩,fun d3 rd3 q rq r rr k _ hj3=> ?_⟩
   ·have:vl Sl.nil=0:=rfl
    rw[this,hA];omega
   obtain⟨k0,k1,nd3,nq,nr,hd3,hdiv,hr1,hq0,hr0⟩:=hj3
   have hd3p:0<vl d3:=by omega
   have hqa:vl q<=vl a:=by
    have:1*vl q<=vl d3*vl q:=Int.mul_le_mul_of_nonneg_right (by omega) hq0
    omega
   have hra:vl r<=vl a:=by
    have:0<=vl d3*vl q:=Int.mul_nonneg (by omega) hq0
    omega
   refine⟨fun hlt=> ?_,fun hge2=>⟨⟨?_, ?_,nq,nr⟩,trivial⟩⟩
   ·have ld3:d3.len<=a.len+b.len+1:=by
     have h1:vl d3<=vl a+vl a+vl b:=by
      have hle:vl d3<=vl b*2^i.toNat:=by
       rw[hd3]
       exact Int.mul_le_mul_of_nonneg_left (pow_mono (by decide) (by omega)) (by omega)
      rcases hn with h|h
      ·omega
      ·have e:(2:Int)^i.toNat=2^(i-1).toNat*2:=by rw[<-two (i-1) (by omega)];congr 1;omega
       have:vl b*2^i.toNat=vl b*2^(i-1).toNat*2:=by rw[e,Int.mul_assoc]
       omega
     have h2:=(db.bound (B:=65536) (by decide)).2
     have h2:vl b<65536^b.n:=h2
     have h3:=pow_mono (B:=65536) (by decide) (show a.n<=a.n+b.n by omega)
     have h4:=pow_mono (B:=65536) (by decide) (show b.n<=a.n+b.n by omega)
     have h5:(65536:Int)^(a.n+b.n+1)=65536^(a.n+b.n)*65536:=Int.pow_succ ..
     have:=(len_le_of_val (B:=65536) (by decide) (ranged16 rd3) nd3 (a.n+b.n+1)).2 (by show vl d3<_;omega)
     unfold Sl.len at*
     omega
    refine⟨by show Lim d3;unfold Lim;omega,fun d4 rd4 h4=> ?_⟩
    have hq1:=shortA q rq nq hqa
    have he:(2:Int)^(i-k).toNat=2^(i-(k+1)).toNat*2:=by rw[<-two (i-(k+1)) (by omega)];congr 1;omega
    have hd4:vl d4=vl b*2^(i-(k+1)).toNat:=by
     rw[h4.1,hd3,he,<-Int.mul_assoc]
     omega
    have hd4':vl d3=vl d4*2:=by rw[hd4,hd3,he,Int.mul_assoc]
    refine⟨⟨by unfold Lim;omega,by unfold Lim;omega⟩,fun q2 rq2 h5=>⟨⟨nr,h4.2⟩,fun l2 hl2=>⟨fun hnl=> ?_,fun hyl=> ?_⟩⟩⟩
    ·have hge4:vl d4<=vl r:=Int.not_lt.1 fun h=>hnl (hl2.2 h)
     have hq2:vl q2<=vl a:=by
      rw[h5.1]
      have:1*(vl q+vl q)<=vl d4*(vl q+vl q):=Int.mul_le_mul_of_nonneg_right (by omega) (by omega)
      have e:vl d4*(vl q+vl q)=vl d3*vl q:=by rw[hd4'];grind
      omega
     have e1:vl (Sl.lit [[.int 1]])=1:=val_lit1 _ _
     have l1:(Sl.lit [[.int 1]]).len=1:=rfl
     have n1:Nrm (Sl.lit [[.int 1]]):=fun _=>by
      have:(Sl.lit [[.int 1]]).int ((Sl.lit [[.int 1]]).len-1) 0=1:=rfl
      rw[this];decide
     have hrl:=shortA r rr nr hra
     refine⟨⟨by unfold Lim;omega,hge4,len_mono (B:=65536) (by decide) (ranged16 rd4) h4.2 (ranged16 rr) hge4⟩,fun r2 rr2 h6=>⟨⟨by have:=shortA q2 rq2 (h5.2 nq nq) hq2;unfold Lim;omega,by unfold Lim;omega⟩,fun q3 rq3 h7=>⟨rsL _ (by omega),⟨by omega,by omega,h4.2,h7.2 (h5.2 nq nq) n1,h6.2,hd4, ?_, ?_, ?_, ?_⟩,by show(i-(k+1)).toNat<(i-k).toNat;omega⟩⟩⟩
     ·rw[h7.1,e1,h5.1,h6.1,hdiv,hd4'];grind
     ·rw[h6.1];omega
     ·rw[h7.1,e1,h5.1];omega
     ·rw[h6.1];omega
    ·have hlt4:vl r<vl d4:=hl2.1 (Classical.not_not.1 hyl)
     refine⟨rsL _ (by omega),⟨by omega,by omega,h4.2,h5.2 nq nq,nr,hd4, ?_,hlt4,by rw[h5.1];omega,hr0⟩,by show(i-(k+1)).toNat<(i-k).toNat;omega⟩
     rw[h5.1,hdiv,hd4'];grind
   ·have ek:k=i:=by omega
    subst ek
    rw[hdiv,hd3]
    simp
   ·have ek:k=i:=by omega
    subst ek
    rw[hd3]at hr1
    simpa using hr1
theorem rValid1_ok:V_rValid1:=by
 intro neg l rl _ hsm
 have hm:=small64 hsm
 have h0:=len0 l
 simp only[q_rValid1,okW,NW,Bool.decide_eq_true,decide_eq_true_eq,decide_false,Bool.false_eq_true,false_iff]
 refine⟨fun hz=>⟨?_,trivial⟩,fun hnz _=>⟨fun hle _=>⟨rsL _ (by omega),by omega,by omega,fun _=>⟨?_,trivial⟩⟩,fun hgt=>⟨fun h=>hgt h.2,trivial⟩⟩⟩
 ·constructor
  ·intro h
   exact⟨⟨fun h'=>absurd h' (by omega),fun _=>by simpa using h⟩,by omega⟩
  ·intro h
   simp[h.1.2 hz]
 ·constructor
  ·intro h
   exact⟨⟨fun _=>h,fun h'=>absurd h' (by omega)⟩,hle⟩
  ·intro h
   exact h.1.1 (by omega)
theorem rCommon_ok:V_rCommon:=by
 intro a ra b rb hp
 obtain⟨la,lb,na,nb⟩:=hp
 refine⟨fun x y=>Sm x/\Sm y/\Nrm x/\Nrm y/\Int.gcd (vl x) (vl y)=Int.gcd (vl a) (vl b),fun _ y=>(vl y).toNat,⟨la,lb,na,nb,rfl⟩,fun x rx y ry hj _=> ?_⟩
 obtain⟨lx,ly,nx,ny,hg⟩:=hj
 have hx0:0<=vl x:=((ranged16 rx).bound (by decide)).1
 have hyl:=len0 y
 refine⟨fun hp=>⟨⟨lx,ly,nx,ny,hp⟩,fun q rq r rr hd=> ?_⟩,fun hz=> ?_⟩
 ·obtain⟨d1,d2,d3,d4⟩:=hd
  have hr0:0<=vl r:=((ranged16 rr).bound (by decide)).1
  refine⟨⟨ly, ?_,ny,d4,by rw[gcd_div d1];exact hg⟩,by show(vl r).toNat<(vl y).toNat;omega⟩
  have:=len_mono (B:=65536) (by decide) (ranged16 rr) d4 (ranged16 ry) (by show vl r<=vl y;omega)
  unfold Sm at*
  omega
 ·have e0:vl y=0:=(val_zero_iff (B:=65536) (by decide) (ranged16 ry) ny).2 (by omega)
  rw[e0,Int.gcd_zero_right]at hg
  refine⟨⟨?_,nx⟩,trivial⟩
  rw[<-hg]
  omega
end Go.Sx.N
namespace Go.Sx.N
theorem rOne_ok:V_rOne:=by
 intro l rl _ hsm
 simp only[q_rOne,decide_eq_true_eq,decide_false,Bool.false_eq_true,false_iff]
 exact⟨fun hl=>⟨by decide,by omega,fun _=>⟨⟨fun h=>⟨hl,h⟩,fun h=>h.2⟩,trivial⟩⟩,fun hl=>⟨fun h=>hl h.1,trivial⟩⟩
theorem rFits_ok:V_rFits:=by
 intro a b rb c d rd _ _
 simp only[q_rFits,decide_eq_true_eq,decide_false,Bool.false_eq_true,false_iff]
 exact⟨fun h _=>⟨⟨fun h'=>⟨h,h'⟩,fun h'=>h'.2⟩,trivial⟩,fun h=>⟨fun h'=>h h'.1,trivial⟩⟩
theorem rValid2_ok:V_rValid2:=by
 intro nn nl rn dn dl rd _
 simp only[Bool.decide_eq_true,decide_false]
 have key:=ok_iff (nn:=nn) (dn:=dn) (ranged16 rn) (ranged16 rd)
 have h0:=len0 dl
 have no:¬okF nn nl dn dl->q_rValid2 nn nl dn dl false/\True:=fun h=>⟨by simp only[q_rValid2,Bool.false_eq_true,false_iff];exact h,trivial⟩
 refine⟨trivial,fun v hv=>⟨fun h=>no fun hk=>h (hv.2 ⟨(key.1 hk).2.2.1,by have:=(key.1 hk).1;omega⟩),fun h3=>⟨trivial,fun w hw=>⟨fun h=>no fun hk=>h (hw.2 ⟨(key.1 hk).2.2.2.1,by have:=(key.1 hk).2.1;omega⟩),fun h4=>⟨trivial,fun f hf=>⟨fun h=>no fun hk=>h (hf.2 ⟨(key.1 hk).1,(key.1 hk).2.1⟩),fun h5=>⟨fun h=>no fun hk=>by have:=(key.1 hk).2.2.2.2.1;rw[this]at h;exact absurd h (by decide),fun h6 _=>⟨fun h=>no fun hk=>(key.1 hk).2.2.2.2.2.1 h,fun h7=> ?_⟩⟩⟩⟩⟩⟩⟩⟩
 have w1:=hv.1 (Classical.not_not.1 h3)
 have w2:=hw.1 (Classical.not_not.1 h4)
 have w3:=hf.1 (Classical.not_not.1 h5)
 have hdn:dn=false:=by simpa using h6
 refine⟨⟨by unfold Sm;omega,by unfold Sm;omega,w1.1.1,w2.1.1⟩,fun g rg hg=>⟨trivial,fun o ho=>⟨?_,trivial⟩⟩⟩
 have one:=one_iff (ranged16 rg) hg.2
 have ho:o=true↔g.len=1/\g.int 0 0=1:=ho
 show o=true↔okF nn nl dn dl
 rw[ho,one,key,hg.1]
 constructor
 ·intro h;exact⟨w3.1,w3.2,w1.1,w2.1,hdn,h7,by omega⟩
 ·intro h;have:=h.2.2.2.2.2.2;omega
theorem okF.sm{a c:Bool}{b d:Sl}(h:okF a b c d):smF a b c d:=⟨h.1,by have:=h.2;omega,by have:=h.2;omega⟩
theorem IsQ.neg{q:Rat}{nn dn n':Bool}{nl dl l':Sl}(h:IsQ q nn nl dn dl)(hn:NW n' l')(hz:zv n' l'=-zv nn nl):IsQ (-q) n' l' dn dl:=by
 refine⟨hn, ?_,h.2.2.1,h.2.2.2.1, ?_⟩
 ·rw[hz,h.2.1];rfl
 ·rw[h.2.2.2.2];rfl
theorem kSameLimbs_ok:V_kSameLimbs:=by
 intro a ra b rb _ hsa _
 have hm:=small64 hsa
 have ha0:=len0 a
 refine⟨fun hne=>⟨by simp only[q_kSameLimbs,decide_false,Bool.false_eq_true,false_iff];exact fun h=>hne h.1,trivial⟩,fun heq=> ?_⟩
 have heq:a.len=b.len:=Classical.not_not.1 heq
 refine⟨fun i=>0<=i/\i<=a.len/\∀k:Int,0<=k->k<i->a.int k 0=b.int k 0,fun i=>(a.len-i).toNat,⟨by omega,ha0,fun k h1 h2=>absurd h1 (by omega)⟩,fun i _ hj _=> ?_⟩
 obtain⟨i0,i1,hk⟩:=hj
 refine⟨fun hlt=>⟨i0,hlt,fun _=>⟨i0,by omega,fun _=>⟨fun hne=>⟨?_,trivial⟩,fun he=>⟨rsL _ (by omega),⟨by omega,by omega,fun k k0 k1=> ?_⟩, ?_⟩⟩⟩⟩,fun hge=>⟨?_,trivial⟩⟩
 ·simp only[q_kSameLimbs,decide_false,Bool.false_eq_true,false_iff]
  exact fun h=>hne (h.2 i i0 hlt)
 ·by_cases e:k=i
  ·rw[e];exact Classical.not_not.1 he
  ·exact hk k k0 (by omega)
 ·show(a.len-(i+1)).toNat<(a.len-i).toNat
  omega
 ·simp only[q_kSameLimbs,decide_true,true_iff]
  exact⟨heq,fun k k0 k1=>hk k k0 (by omega)⟩
theorem kSameWhole_ok:V_kSameWhole:=by
 intro n a ra m b rb _
 simp only[q_kSameWhole,q_kSameLimbs,Bool.decide_eq_true,decide_false,Bool.false_eq_true,false_iff]
 refine⟨fun h=>⟨trivial,fun e he=>⟨⟨fun h'=>⟨by simpa using h,he.1 h'⟩,fun h'=>he.2 h'.2⟩,trivial⟩⟩,fun h=>⟨fun h'=>h (by rw[h'.1]),trivial⟩⟩
theorem kSameFrac_ok:V_kSameFrac:=by
 intro a b rb c d rd a' b' rb' c' d' rd' _
 simp only[Bool.decide_eq_true,q_kSameWhole,q_kSameFrac,decide_false,Bool.false_eq_true,false_iff]
 refine⟨trivial,fun v hv=>⟨fun h=>⟨trivial,fun w hw=>⟨⟨fun hh=>⟨hv.1 h,hw.1 hh⟩,fun hh=>hw.2 hh.2⟩,trivial⟩⟩,fun h=>⟨fun hh=>h (hv.2 hh.1),trivial⟩⟩⟩
end Go.Sx.N
