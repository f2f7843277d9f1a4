/-
 Several texts in one. Conditions: none.
-/
import Derived.Test.YtbgbcaamipknmaaGreatNumVG
import Derived.Test.YtbgbcaamipknmaaGreatNumFc
set_option linter.unusedVariables false
set_option linter.unusedSimpArgs false
namespace Go.Sx.N
theorem cmpI_ok:V_cmpI:=by
 intro x _ y _ _
 exact⟨fun h=>absurd rfl h,fun _=>⟨fun h=>absurd rfl h,fun _=>⟨fun h=>⟨.inl ⟨rfl,h⟩,trivial⟩,fun h=>⟨fun g=>⟨.inr (.inr ⟨rfl,g⟩),trivial⟩,fun g=>⟨.inr (.inl ⟨rfl,by omega⟩),trivial⟩⟩⟩⟩⟩
theorem cmpOr_ok:V_cmpOr:=by
 intro s _ _ sm
 have hs:=small64 sm
 have s0:=len0 s
 refine⟨fun i=>(0<=i/\i<=s.len)/\∀j:Int,0<=j->j<i->s.int j 0=0,fun i=>(s.len-i).toNat,⟨⟨Int.le_refl _,s0⟩,fun j h0 h1=>by omega⟩,fun i _ hJ=> ?_⟩
 obtain⟨⟨i0,i1⟩,hz⟩:=hJ
 refine⟨fun hi=>⟨i0,hi,fun _=>⟨fun hn=>⟨.inl ⟨i,i0,hi,rfl,hn,hz⟩,trivial⟩,fun hn=> ?_⟩⟩,fun hi=>⟨.inr ⟨rfl,fun j j0 j1=>hz j j0 (by omega)⟩,trivial⟩⟩
 have hn:s.int i 0=0:=Classical.not_not.1 hn
 refine⟨by rw[rng64];omega,⟨⟨by omega,by omega⟩,fun j j0 j1=> ?_⟩,by show(s.len-(i+1)).toNat<(s.len-i).toNat;omega⟩
 by_cases h:j<i
 ·exact hz j j0 h
 ·have:j=i:=by omega
  subst this;exact hn
theorem tCompare_ok:V_tCompare:=by
 intro a _ b _ k _ nn nl _ dn dl _ a' _ b' _ k' _ nn' nl' _ dn' dl' _ _
 refine⟨trivial,fun x _ hx=>⟨trivial,fun y _ hy=>⟨trivial,fun z _ hz=>⟨trivial,fun r _ hr=>⟨?_,trivial⟩⟩⟩⟩⟩
 have hx:(x=-1/\a<a')\/(x=0/\a=a')\/(x=1/\a'<a):=hx
 have hy:(y=-1/\b<b')\/(y=0/\b=b')\/(y=1/\b'<b):=hy
 have hz:(z=-1/\k<k')\/(z=0/\k=k')\/(z=1/\k'<k):=hz
 have l3:(Sl.lit [[D.int x],[.int y],[.int z]]).len=3:=rfl
 have v0:(Sl.lit [[D.int x],[.int y],[.int z]]).int 0 0=x:=rfl
 have v1:(Sl.lit [[D.int x],[.int y],[.int z]]).int 1 0=y:=rfl
 have v2:(Sl.lit [[D.int x],[.int y],[.int z]]).int 2 0=z:=rfl
 have:(r=x/\x≠0)\/(x=0/\r=y/\y≠0)\/(x=0/\y=0/\r=z):=by
  rcases hr with⟨i,i0,i1,e,en,h⟩|⟨e,h⟩
  ·rw[l3]at i1
   rcases(show i=0\/i=1\/i=2 by omega)with rfl|rfl|rfl
   ·rw[v0]at e;exact .inl ⟨e,by omega⟩
   ·rw[v1]at e
    have:=h 0 (by omega) (by omega)
    rw[v0]at this
    exact .inr (.inl ⟨this,e,by omega⟩)
   ·rw[v2]at e
    have h0:=h 0 (by omega) (by omega)
    have h1:=h 1 (by omega) (by omega)
    rw[v0]at h0
    rw[v1]at h1
    exact .inr (.inr ⟨h0,h1,e⟩)
  ·have h0:=h 0 (by omega) (by rw[l3];omega)
   have h1:=h 1 (by omega) (by rw[l3];omega)
   have h2:=h 2 (by omega) (by rw[l3];omega)
   rw[v0]at h0
   rw[v1]at h1
   rw[v2]at h2
   exact .inr (.inr ⟨h0,h1,by omega⟩)
 show ordK a b k a' b' k' r
 unfold ordK ltK
 omega
theorem copied_ok:V_copied:=by
 intro a b _ c d _ hp
 exact⟨hp.1,fun b' _ hb=>⟨hp.2,fun d' _ hd=>⟨⟨⟨rfl,hb⟩,rfl,hd⟩,trivial⟩⟩⟩
theorem Right_ok:V_Right:=by
 intro two a _ b _ k _ nn nl _ dn dl _ _
 simp only[Bool.decide_eq_true]
 refine⟨fun i=>(0<=i/\i<=2)/\(0<i->-2147483648<=a/\a<=2147483647)/\(1<i->-2147483648<=b/\b<=2147483647),fun i=>(2-i).toNat,⟨⟨by omega,by omega⟩,fun h=>by omega,fun h=>by omega⟩,fun i _ hJ=> ?_⟩
 obtain⟨⟨i0,i1⟩,ha,hb⟩:=hJ
 have no:∀{p:Prop},(rightS two a b k nn nl dn dl->False)->q_Right two a b k nn nl dn dl (decide False)/\True:=fun h=>⟨⟨fun e=>by simp at e,fun e=>absurd e h⟩,trivial⟩
 refine⟨fun hi=>⟨i0,hi,fun e0=>⟨fun h=>no (p:=True) fun e=>by have:=e.1;omega,fun h=>⟨fun g=>no (p:=True) fun e=>by have:=e.1;omega,fun g=>⟨by rw[rng64];omega,⟨⟨by omega,by omega⟩,fun _=>by omega,fun h=>by omega⟩,by show(2-(i+1)).toNat<(2-i).toNat;omega⟩⟩⟩,
  fun e0=>⟨fun h=>no (p:=True) fun e=>by have:=e.2.1;omega,fun h=>⟨fun g=>no (p:=True) fun e=>by have:=e.2.1;omega,fun g=>⟨by rw[rng64];omega,⟨⟨by omega,by omega⟩,fun _=>ha (by omega),fun h=>by omega⟩,by show(2-(i+1)).toNat<(2-i).toNat;omega⟩⟩⟩⟩,fun hi=> ?_⟩
 have ha:=ha (by omega)
 have hb:=hb (by omega)
 have core:(two=true\/b=0)->((0<=k->(k<65536->p_fValid nn nl dn dl/\∀r:Bool,q_fValid nn nl dn dl r->q_Right two a b k nn nl dn dl r/\True)/\(¬k<65536->q_Right two a b k nn nl dn dl (decide False)/\True))/\(¬0<=k->q_Right two a b k nn nl dn dl (decide False)/\True)):=fun ht=>
  ⟨fun h0=>⟨fun h1=>⟨trivial,fun r hr=>⟨⟨fun e=>⟨ha,hb,ht,⟨h0,h1⟩,hr.1 e⟩,fun e=>hr.2 e.2.2.2.2⟩,trivial⟩⟩,fun h1=>no (p:=True) fun e=>by have:=e.2.2.2.1;omega⟩,fun h0=>no (p:=True) fun e=>by have:=e.2.2.2.1;omega⟩
 exact⟨fun ht=>core (.inl ht),fun ht=>⟨fun hb0=>core (.inr hb0),fun hb0=>no (p:=True) fun e=>by rcases e.2.2.1 with h|h;exact ht h;exact hb0 h⟩⟩
theorem kSameRow_ok:V_kSameRow:=by
 intro a _ b _ k _ nn nl _ dn dl _ a' _ b' _ k' _ nn' nl' _ dn' dl' _ _
 simp only[Bool.decide_eq_true]
 have no:(¬(a=a'/\b=b'/\k=k'/\SameF nn nl dn dl nn' nl' dn' dl'))->q_kSameRow a b k nn nl dn dl a' b' k' nn' nl' dn' dl' (decide False)/\True:=fun h=>⟨⟨fun e=>by simp at e,fun e=>absurd e h⟩,trivial⟩
 exact⟨fun h1=>⟨fun h2=>⟨fun h3=>⟨trivial,fun r hr=>⟨⟨fun e=>⟨h1,h2,h3,hr.1 e⟩,fun e=>hr.2 e.2.2.2⟩,trivial⟩⟩,fun h3=>no fun e=>h3 e.2.2.1⟩,fun h2=>no fun e=>h2 e.2.1⟩,fun h1=>no fun e=>h1 e.1⟩
theorem kSameRows_ok:V_kSameRows:=by
 intro s _ t _ _ sm _
 have hs:=small64 sm
 have s0:=len0 s
 simp only[Bool.decide_eq_true]
 have no:¬rowsEq s t->q_kSameRows s t (decide False)/\True:=fun h=>⟨⟨fun e=>by simp at e,fun e=>absurd e h⟩,trivial⟩
 refine⟨fun h=>no fun e=>h e.1,fun hl=> ?_⟩
 have hl:s.len=t.len:=Classical.not_not.1 hl
 refine⟨fun i=>(0<=i/\i<=s.len)/\∀j:Int,0<=j->j<i->rowEq s j t j,fun i=>(s.len-i).toNat,⟨⟨Int.le_refl _,s0⟩,fun j h0 h1=>by omega⟩,fun i _ hJ _=> ?_⟩
 obtain⟨⟨i0,i1⟩,hz⟩:=hJ
 refine⟨fun hi=>⟨i0,hi,i0,by omega, ?_⟩,fun hi=>⟨⟨fun _=>⟨hl,fun j j0 j1=>hz j j0 (by omega)⟩,fun _=>rfl⟩,trivial⟩⟩
 constructor<;>
 ·intro _ _ _ _ _ _ _ _ _ _
  refine⟨trivial,fun r hr=>⟨fun hn=>no fun e=>hn (hr.2 (e.2 i i0 hi)),fun hn=>⟨by rw[rng64];omega,⟨⟨by omega,by omega⟩,fun j j0 j1=> ?_⟩,by show(s.len-(i+1)).toNat<(s.len-i).toNat;omega⟩⟩⟩
  by_cases h:j<i
  ·exact hz j j0 h
  ·have:j=i:=by omega
   subst this;exact hr.1 (Classical.not_not.1 hn)
theorem kSameTable_ok:V_kSameTable:=by
 intro n two s _ n' two' s' _ _
 simp only[Bool.decide_eq_true]
 have no:¬(n=n'/\two=two'/\rowsEq s s')->q_kSameTable n two s n' two' s' (decide False)/\True:=fun h=>⟨⟨fun e=>by simp at e,fun e=>absurd e h⟩,trivial⟩
 exact⟨fun h1=>⟨fun h2=>⟨trivial,fun r hr=>⟨⟨fun e=>⟨h1,Bool.eq_iff_iff.2 h2,hr.1 e⟩,fun e=>hr.2 e.2.2⟩,trivial⟩⟩,fun h2=>no fun e=>h2 (by rw[e.2.1])⟩,fun h1=>no fun e=>h1 e.1⟩
theorem tRow_ok:V_tRow:=by
 intro a _ b _ k _ n _ d _ _
 exact⟨trivial,fun nn nl _ dn dl _ hq=>⟨⟨rfl,rfl,rfl,hq⟩,trivial⟩⟩
theorem tValid_ok:V_tValid:=by
 intro n two s _ hn
 simp only[Bool.decide_eq_true]
 have s0:=len0 s
 have rn:Rng .i64 (ylen n):=by
  have h:ylen n<=9223372036854775807:=hn
  have:0<=ylen n:=Int.natCast_nonneg _
  rw[rng64];omega
 have no:¬validT n two s->q_tValid n two s (decide False)/\True:=fun h=>⟨⟨fun e=>by simp at e,fun e=>absurd e h⟩,trivial⟩
 refine⟨rn,fun h=>no fun e=>by have:=e.1.1;omega,fun h1=>⟨rn,fun h=>no fun e=>by have:=e.1.2;omega,fun h2 _=>⟨fun h=>no fun e=>by have:=e.2.1;omega,fun h3 _=>⟨by rw[rng64];omega, ?_⟩⟩⟩⟩
 refine⟨fun i=>(-1<=i/\i<s.len)/\∀j:Int,i<j->0<j->j<s.len->¬ltR s j s (j-1),fun i=>i.toNat,⟨⟨by omega,by omega⟩,fun j h0 _ h1=>by omega⟩,fun i _ hJ=> ?_⟩
 obtain⟨⟨i0,i1⟩,hz⟩:=hJ
 refine⟨fun hi=>⟨by omega,i1,by rw[rng64];omega,by omega,by omega, ?_⟩,fun hi _=> ?_⟩
 ·constructor<;>
  ·intro _ _ _ _ _ _ _ _ _ _
   refine⟨trivial,fun r _ hr=> ?_⟩
   have hr:ordK (s.int i 0) (s.int i 1) (s.int i 2) (s.int (i-1) 0) (s.int (i-1) 1) (s.int (i-1) 2) r:=hr
   refine⟨fun h=>no fun e=> ?_,fun h=>⟨by rw[rng64];omega,⟨⟨by omega,by omega⟩,fun j j0 jp j1=> ?_⟩,by show(i-1).toNat<i.toNat;omega⟩⟩
   ·have g:=e.2.2.1 i (by omega) i1
    unfold ltR at g
    rcases hr with⟨_,k⟩|⟨k,_⟩|⟨k,_⟩
    ·exact g k
    ·omega
    ·omega
   ·by_cases c:i<j
    ·exact hz j c jp j1
    ·have:j=i:=by omega
     subst this
     intro g
     unfold ltR at g
     unfold ordK ltK at hr
     unfold ltK at g
     omega
 ·have so:sortedT s:=fun j j0 j1=>hz j (by omega) j0 j1
  refine⟨fun i=>(0<=i/\i<=s.len)/\∀j:Int,0<=j->j<i->rightAt two s j,fun i=>(s.len-i).toNat,⟨⟨Int.le_refl _,s0⟩,fun j h0 h1=>by omega⟩,fun i _ hJ=> ?_⟩
  obtain⟨⟨i0,i1⟩,hz⟩:=hJ
  refine⟨fun hi=>⟨i0,hi,fun _ _ _ _ _=>⟨trivial,fun r hr=>⟨fun hn=>⟨⟨fun e=>absurd i0 (of_decide_eq_true e),fun e=>absurd (hr.2 (e.2.2.2 i i0 hi)) hn⟩,trivial⟩,fun hn=>⟨by rw[rng64];omega,⟨⟨by omega,by omega⟩,fun j j0 j1=> ?_⟩,by show(s.len-(i+1)).toNat<(s.len-i).toNat;omega⟩⟩⟩⟩,fun hi=>⟨⟨fun _=>⟨⟨by omega,by omega⟩,by omega,so,fun j j0 j1=>hz j j0 (by omega)⟩,fun _=>by decide⟩,trivial⟩⟩
  by_cases c:j<i
  ·exact hz j j0 c
  ·have:j=i:=by omega
   subst this;exact hr.1 (Classical.not_not.1 hn)
end Go.Sx.N
set_option linter.unusedVariables false
set_option linter.unusedSimpArgs false
namespace Go.Sx.N
theorem kWhole_ok:V_kWhole:=by
 intro n rn _
 rw[rng64]at rn
 simp only[Bool.decide_eq_true]
 refine⟨fun s=>s=(if n<0 then-n else n),⟨fun h=> ?_,fun h=> ?_⟩,fun s rs hs=> ?_⟩
 ·rw[if_pos h,wu64,wu64];omega
 ·rw[if_neg h,wu64];omega
 have hs:s=(if n<0 then-n else n):=hs
 have hs0:0<=s/\s<=9223372036854775808:=by rw[hs];split<;>omega
 refine⟨fun u b l=>b=decide (n<0)/\0<=u/\u<=s/\vl l+u*65536^l.n=s/\0<=vl l/\(u=0->Nrm l)/\l.len<=4,fun u _ _=>u.toNat,⟨rfl,hs0.1,Int.le_refl _, ?_,Int.le_refl _,fun _=>nrm_nil,by decide⟩,fun u ru b l rl hj=> ?_⟩
 ·show 0+s*65536^0=s
  rw[Int.pow_zero];omega
 obtain⟨rfl,u0,us,hv,hl0,hn,hl4⟩:=hj
 have e1:∀d:Int,(Sl.lit [[.int d]]).len=1:=fun d=>rfl
 refine⟨fun hp=> ?_,fun hz=> ?_⟩
 ·have hlen:l.n<4:=by
   have h1:1*65536^l.n<=u*65536^l.n:=Int.mul_le_mul_of_nonneg_right (by omega) (Int.le_of_lt (pos_pow (by decide) _))
   have h2:(65536:Int)^l.n<65536^4:=by
    have:(65536:Int)^4=18446744073709551616:=rfl
    omega
   exact pow_strict (B:=65536) (by decide) h2
  have sh:shr .u64 u 16=u/65536:=shr_def .u64 (x:=u) (n:=16) (by decide)
  rw[sh,wu16]
  have hval:vl (Sl.app l (Sl.lit [[.int (u % 65536)]]))=vl l+u % 65536*65536^l.n:=by unfold vl;rw[val_app1]
  have hpn:=pos_pow (B:=65536) (by decide) l.n
  refine⟨by rw[e1];unfold Sl.len;omega,by decide,rngu64.2 (by omega),⟨rfl,by omega,by omega, ?_, ?_,fun hz=> ?_, ?_⟩,by show(u/65536).toNat<u.toNat;omega⟩
  ·rw[hval]
   show _+u/65536*65536^(l.n+1)=s
   rw[Int.pow_succ,<-hv]
   generalize(65536:Int)^l.n=Q at*
   have e2:u % 65536=u-65536*(u/65536):=by omega
   rw[e2]
   generalize u/65536=q at*
   grind
  ·rw[hval]
   have:0<=u % 65536*65536^l.n:=Int.mul_nonneg (by omega) (by omega)
   omega
  ·intro _
   rw[len_app1,show l.len+1-1=l.len from by omega,int_app_ge (Int.le_refl _),Int.sub_self]
   show u % 65536≠0
   omega
  ·rw[len_app1]
   unfold Sl.len
   omega
 ·have hu:u=0:=by omega
  rw[hu,Int.zero_mul,Int.add_zero]at hv
  have hN:=hn hu
  refine⟨⟨⟨hN,fun h0=> ?_⟩, ?_,hl4⟩,trivial⟩
  ·have:vl l=0:=by have:=zv_zero (n:=false) h0;unfold zv at this;rw[if_neg (by decide)]at this;exact this
   rw[decide_eq_false_iff_not]
   split at hs<;>omega
  ·unfold zv
   by_cases h:n<0
   ·rw[if_pos (by simpa using h),hv,hs,if_pos h];omega
   ·rw[if_neg (by simpa using h),hv,hs,if_neg h]
theorem fracQ_zero{d:Int}:fracQ 0 d=0:=by
 unfold fracQ
 split
 ·rfl
 ·exact Rat.zero_divInt d
theorem fracQ_low{n d:Int}(h:d<1):fracQ n d=0:=by unfold fracQ;rw[if_pos h]
theorem fracQ_eq{n d:Int}(h:1<=d):fracQ n d=Rat.divInt n d:=by unfold fracQ;rw[if_neg (by omega)]
theorem kFrac_ok:V_kFrac:=by
 intro n rn d rd _
 rw[rng64]at rn rd
 have zero:∀(h:fracQ n d=0),p_kWhole 1/\∀b2:Bool,∀s3:Sl,Ranged s3 [some .u16]->q_kWhole 1 (decide (b2=true)) s3->q_kFrac n d (decide False) Sl.nil (decide (b2=true)) s3/\True:=fun h=>⟨trivial,fun b s rs hw=>by
  simp only[Bool.decide_eq_true]at hw⊢
  refine⟨⟨?_,by decide,hw.2.2⟩,trivial⟩
  rw[h]
  have z:zv (decide False) Sl.nil=0:=zv_zero rfl
  exact isQ_int (n:=0) (ranged16 rs) ⟨nrm_nil,fun _=>rfl⟩ z hw.1 hw.2.1⟩
 refine⟨fun h=>zero (fracQ_low h),fun h1=>⟨fun h=>zero (by rw[h];exact fracQ_zero),fun hn0=> ?_⟩⟩
 refine⟨fun s=>s=(if n<0 then-n else n),⟨fun h=> ?_,fun h=> ?_⟩,fun s rs hs=> ?_⟩
 ·rw[if_pos h,wu64,wu64];omega
 ·rw[if_neg h,wu64];omega
 have hs:s=(if n<0 then-n else n):=hs
 have hs0:0<s/\s<=9223372036854775808:=by rw[hs];split<;>omega
 have gs:Int.gcd s d=Int.gcd n d:=by
  rw[hs];split
  ·exact Int.neg_gcd
  ·rfl
 have wd:IntKind.wrap .u64 d=d:=by rw[wu64];omega
 rw[wd]
 refine⟨fun a b=>0<=a/\0<=b/\b<=9223372036854775807/\(Int.gcd a b=Int.gcd n d),fun _ b=>b.toNat,⟨by omega,by omega,by omega,gs⟩,fun a ra b rb hj=> ?_⟩
 obtain⟨a0,b0,b1,hg⟩:=hj
 refine⟨fun hp=> ?_,fun hz=> ?_⟩
 ·rw[Int.tmod_eq_emod_of_nonneg a0]
  have m0:=Int.emod_nonneg a (show b≠0 by omega)
  have m1:=Int.emod_lt_of_pos a hp
  refine⟨by omega,rngu64.2 (by omega),⟨by omega,m0,by omega, ?_⟩,by show(a % b).toNat<b.toNat;omega⟩
  rw[<-hg]
  have e:=Int.mul_ediv_add_emod a b
  exact gcd_div (x:=a) (y:=b) (q:=a/b) (r:=a % b) (by omega)
 ·have hb:b=0:=by omega
  subst hb
  have ga:a=(Int.gcd n d:Nat):=by
   rw[<-hg,Int.gcd_zero_right];omega
  have gd:a∣d:=by rw[ga];exact Int.gcd_dvd_right ..
  have gn:a∣n:=by rw[ga];exact Int.gcd_dvd_left ..
  have apos:0<a:=by
   rcases Int.lt_or_eq_of_le a0 with h|h
   ·exact h
   ·rw[<-h]at gd;have:=Int.zero_dvd.1 gd;omega
  have ad:a<=d:=Int.le_of_dvd (by omega) gd
  have wa:IntKind.wrap .i64 a=a:=wrap_id .i64 _ (by show(-9223372036854775808:Int)<=_/\_<=(9223372036854775807:Int);omega)
  rw[wa,Int.tdiv_eq_ediv_of_dvd gn,Int.tdiv_eq_ediv_of_dvd gd]
  obtain⟨kn,hkn⟩:=gn
  obtain⟨kd,hkd⟩:=gd
  have en:n/a=kn:=by rw[hkn];exact Int.mul_ediv_cancel_left _ (by omega)
  have ed:d/a=kd:=by rw[hkd];exact Int.mul_ediv_cancel_left _ (by omega)
  have bn:-9223372036854775808<=kn/\kn<=9223372036854775807:=by
   rcases Int.lt_or_le kn 0 with h|h
   ·have:a*kn<=1*kn:=Int.mul_le_mul_of_nonpos_right (by omega) (by omega)
    omega
   ·have:1*kn<=a*kn:=Int.mul_le_mul_of_nonneg_right (by omega) h
    omega
  have bd:0<=kd/\kd<=9223372036854775807:=by
   have h0:0<=kd:=by
    rw[<-ed];exact Int.ediv_nonneg (by omega) (by omega)
   have:1*kd<=a*kd:=Int.mul_le_mul_of_nonneg_right (by omega) h0
   omega
  rw[en,ed]
  refine⟨by omega,by rw[rng64];omega,by omega,by rw[rng64];omega,trivial,fun x l rl hx=>⟨trivial,fun y k rk hy=>⟨?_,trivial⟩⟩⟩
  simp only[Bool.decide_eq_true]at hx hy⊢
  refine⟨?_,hx.2.2,hy.2.2⟩
  rw[fracQ_eq (by omega)]
  exact isQ_of_div (g:=a) (ranged16 rk) hx.1 hy.1 (by omega) ga (by rw[hx.2.1,en]) (by rw[hy.2.1,ed])
end Go.Sx.N
set_option linter.unusedVariables false
set_option linter.unusedSimpArgs false
namespace Go.Sx.N
def cp(s:Sl)(i:Int):List D:=[.int (s.int i 0), .int (s.int i 1), .int (s.int i 2), .bool (decide (s.bool i 3=true)),Sl.d (s.sub i 4), .bool (decide (s.bool i 5=true)),Sl.d (s.sub i 6)]
theorem SameF.refl(a:Bool)(b:Sl)(c:Bool)(d:Sl):SameF a b c d a b c d:=⟨⟨rfl,SameI.refl b⟩,rfl,SameI.refl d⟩
theorem SameF.symm{a c a' c':Bool}{b d b' d':Sl}(h:SameF a b c d a' b' c' d'):SameF a' b' c' d' a b c d:=⟨⟨h.1.1.symm,h.1.2.symm⟩,h.2.1.symm,h.2.2.symm⟩
theorem SameF.trans{a c a' c' a'' c'':Bool}{b d b' d' b'' d'':Sl}(h:SameF a b c d a' b' c' d')(g:SameF a' b' c' d' a'' b'' c'' d''):SameF a b c d a'' b'' c'' d'':=
 ⟨⟨h.1.1.trans g.1.1,h.1.2.trans g.1.2⟩,h.2.1.trans g.2.1,h.2.2.trans g.2.2⟩
theorem rowEq.refl(s:Sl)(i:Int):rowEq s i s i:=⟨rfl,rfl,rfl,SameF.refl _ _ _ _⟩
theorem rowEq.symm{s t:Sl}{i k:Int}(h:rowEq s i t k):rowEq t k s i:=⟨h.1.symm,h.2.1.symm,h.2.2.1.symm,h.2.2.2.symm⟩
theorem rowEq.trans{s t u:Sl}{i k j:Int}(h:rowEq s i t k)(g:rowEq t k u j):rowEq s i u j:=⟨h.1.trans g.1,h.2.1.trans g.2.1,h.2.2.1.trans g.2.2.1,h.2.2.2.trans g.2.2.2⟩
theorem rowEq_cells{s t:Sl}{i k:Int}(h:s.f i.toNat=t.f k.toNat):rowEq s i t k:=by
 unfold rowEq rowF Sl.int Sl.bool Sl.sub
 rw[h]
 exact⟨rfl,rfl,rfl,SameF.refl _ _ _ _⟩
theorem f_app_lt{a b:Sl}{i:Int}(h:0<=i)(h':i<a.len):(Sl.app a b).f i.toNat=a.f i.toNat:=by
 have:i.toNat<a.n:=by unfold Sl.len at h';omega
 funext j
 show(if i.toNat<a.n then a.f i.toNat j else b.f (i.toNat-a.n) j)=_
 rw[if_pos this]
theorem f_part0{s:Sl}{m i:Int}:(Sl.part s 0 m).f i.toNat=s.f i.toNat:=by
 funext j
 show s.f ((0:Int).toNat+i.toNat) j=_
 congr 1
 simp
theorem app_new{a:Sl}{l:List D}{i:Int}(h:i=a.len):(Sl.app a (Sl.lit [l])).f i.toNat=fun j=>l.getD j (.int 0):=by
 subst h
 have:¬(a.len).toNat<a.n:=by unfold Sl.len;omega
 funext j
 show(if(a.len).toNat<a.n then a.f (a.len).toNat j else(Sl.lit [l]).f ((a.len).toNat-a.n) j)=_
 rw[if_neg this]
 have e:(a.len).toNat-a.n=0:=by unfold Sl.len;omega
 rw[e]
 rfl
theorem rowEq_new{a s:Sl}{k m:Int}(h:m=a.len):rowEq (Sl.app a (Sl.lit [cp s k])) m s k:=by
 have e:=app_new (l:=cp s k) h
 unfold rowEq rowF Sl.int Sl.bool Sl.sub
 rw[e]
 refine⟨rfl,rfl,rfl,⟨?_,SameI.refl _⟩, ?_,SameI.refl _⟩
 ·show decide (s.bool k 3=true)=s.bool k 3
  simp
 ·show decide (s.bool k 5=true)=s.bool k 5
  simp
theorem not_lt_trans{a b k a' b' k' a'' b'' k'':Int}(h:¬ltK a b k a' b' k')(g:¬ltK a' b' k' a'' b'' k''):¬ltK a b k a'' b'' k'':=by
 unfold ltK at*
 omega
theorem sorted_le{s:Sl}(h:sortedT s){i:Int}(h0:0<=i):∀(n:Nat),i+n<s.len->¬ltR s (i+n) s i
 |0,_=>by rw[show i+((0:Nat):Int)=i by omega];unfold ltR ltK;omega
 |n+1,hn=>by
  have ih:=sorted_le h h0 n (by omega)
  have st:=h (i+(n+1:Nat)) (by omega) hn
  rw[show i+((n+1:Nat):Int)-1=i+n by omega]at st
  exact not_lt_trans st ih
theorem sorted_lt{s:Sl}(h:sortedT s){i j:Int}(h0:0<=i)(hij:i<=j)(hj:j<s.len):¬ltR s j s i:=by
 have:=sorted_le h h0 (j-i).toNat (by omega)
 rwa[show i+((j-i).toNat:Int)=j by omega]at this
def inTo(s:Sl)(known n k:Int):Prop:=(0<=k/\k<n)/\s.int k 2<=known/\∀j:Int,k<j->j<n->s.int j 0=s.int k 0->s.int j 1=s.int k 1->known<s.int j 2
def fTo(s:Sl)(known n:Int)(t:Sl):Prop:=
 ∃g:Int->Int,(∀i:Int,0<=i->i<t.len->inTo s known n (g i)/\rowEq t i s (g i))/\(∀i j:Int,0<=i->i<j->j<t.len->g i<g j)/\(∀k:Int,inTo s known n k->∃i:Int,0<=i/\i<t.len/\g i=k)
theorem fTo_nil{s:Sl}{known:Int}:fTo s known 0 Sl.nil:=
 ⟨fun _=>0,fun i h0 h1=>by rw[len_nil]at h1;omega,fun i j h0 h1 h2=>by rw[len_nil]at h2;omega,fun k h=>by have:=h.1;omega⟩
theorem fTo_skip{s t:Sl}{known n:Int}(hk:known<s.int n 2)(h:fTo s known n t):fTo s known (n+1) t:=by
 have e:∀k,inTo s known (n+1) k↔inTo s known n k:=fun k=>by
  constructor
  ·intro g
   refine⟨⟨g.1.1, ?_⟩,g.2.1,fun j h1 h2=>g.2.2 j h1 (by omega)⟩
   rcases Int.lt_or_le k n with c|c
   ·exact c
   ·have e:k=n:=by have:=g.1;omega
    have:=g.2.1
    rw[e]at this;omega
  ·intro g
   refine⟨⟨g.1.1,by have:=g.1;omega⟩,g.2.1,fun j h1 h2 e0 e1=> ?_⟩
   rcases Int.lt_or_le j n with c|c
   ·exact g.2.2 j h1 c e0 e1
   ·have e:j=n:=by omega
    rw[e];exact hk
 obtain⟨g,h1,h2,h3⟩:=h
 exact⟨g,fun i i0 i1=>⟨(e _).2 (h1 i i0 i1).1,(h1 i i0 i1).2⟩,h2,fun k hk=>h3 k ((e k).1 hk)⟩
theorem fTo_core{s t u:Sl}{known n m:Int}{g:Int->Int}(hn:0<=n)(hk:s.int n 2<=known)
  (h1:∀i:Int,0<=i->i<t.len->inTo s known n (g i)/\rowEq t i s (g i)) (h2:∀i j:Int,0<=i->i<j->j<t.len->g i<g j) (h3:∀k:Int,inTo s known n k->∃i:Int,0<=i/\i<t.len/\g i=k)
  (hm0:0<=m) (hm:m<=t.len) (hu:u.len=m) (hrow:∀i:Int,0<=i->i<m->u.f i.toNat=t.f i.toNat)
  (hne:∀i:Int,0<=i->i<m->¬(s.int (g i) 0=s.int n 0/\s.int (g i) 1=s.int n 1))
  (hcov:∀i:Int,m<=i->i<t.len->s.int (g i) 0=s.int n 0/\s.int (g i) 1=s.int n 1):fTo s known (n+1) (Sl.app u (Sl.lit [cp s n])):=by
 have hl:(Sl.app u (Sl.lit [cp s n])).len=m+1:=by rw[len_app1,hu]
 refine⟨fun x=>if x<m then g x else n,fun i i0 i1=> ?_,fun i j i0 ij j1=> ?_,fun k k1=> ?_⟩
 ·rw [hl]at i1
  by_cases c:i<m
  ·simp only[if_pos c]
   obtain⟨a,b⟩:=h1 i i0 (by omega)
   refine⟨⟨⟨a.1.1,by have:=a.1;omega⟩,a.2.1,fun j j1 j2 e0 e1=> ?_⟩, ?_⟩
   ·rcases Int.lt_or_le j n with d|d
    ·exact a.2.2 j j1 d e0 e1
    ·have e:j=n:=by omega
     rw[e]at e0 e1
     exact absurd ⟨e0.symm,e1.symm⟩ (hne i i0 c)
   ·refine rowEq.trans (rowEq_cells (t:=t) (k:=i) ?_) b
    rw[f_app_lt i0 (by omega)]
    exact hrow i i0 c
  ·have e:i=m:=by omega
   simp only[if_neg c]
   exact⟨⟨⟨hn,by omega⟩,hk,fun j j1 j2=>by omega⟩,rowEq_new (by omega)⟩
 ·rw[hl]at j1
  by_cases c:j<m
  ·simp only[if_pos c,if_pos (show i<m by omega)]
   exact h2 i j i0 ij (by omega)
  ·simp only[if_neg c,if_pos (show i<m by omega)]
   exact(h1 i i0 (by omega)).1.1.2
 ·rw[hl]
  by_cases c:k=n
  ·exact⟨m,hm0,by omega,by simp only[if_neg (show¬m<m by omega)];exact c.symm⟩
  ·have k0:inTo s known n k:=⟨⟨k1.1.1,by have:=k1.1;omega⟩,k1.2.1,fun j j1 j2=>k1.2.2 j j1 (by omega)⟩
   obtain⟨i,i0,i1,e⟩:=h3 k k0
   by_cases d:i<m
   ·exact⟨i,i0,by omega,by simp only[if_pos d];exact e⟩
   ·have hh:=hcov i (by omega) i1
    rw[e]at hh
    have:=k1.2.2 n (by have:=k1.1;omega) (by omega) hh.1.symm hh.2.symm
    omega
theorem fTo_app{s t:Sl}{known n:Int}(hs:sortedT s)(hn:0<=n)(hn1:n<s.len)(hk:s.int n 2<=known)(h:fTo s known n t)
  (hd:0<t.len->¬(t.int (t.len-1) 0=s.int n 0/\t.int (t.len-1) 1=s.int n 1)):fTo s known (n+1) (Sl.app t (Sl.lit [cp s n])):=by
 obtain⟨g,h1,h2,h3⟩:=h
 refine fTo_core hn hk h1 h2 h3 (len0 t) (Int.le_refl _) rfl (fun _ _ _=>rfl) (fun i i0 i1 e=> ?_) (fun i i0 i1=>by omega)
 have a:=h1 i i0 i1
 have b:=h1 (t.len-1) (by omega) (by omega)
 refine hd (by omega) ?_
 rw[b.2.1,b.2.2.1]
 have g1:g i<=g (t.len-1):=by
  by_cases c:i=t.len-1
  ·rw[c];exact Int.le_refl _
  ·have:=h2 i (t.len-1) i0 (by omega) (by omega);omega
 have l1:=sorted_lt hs a.1.1.1 g1 (by have:=b.1.1;omega)
 have l2:=sorted_lt hs b.1.1.1 (show g (t.len-1)<=n by have:=b.1.1;omega) hn1
 unfold ltR ltK at l1 l2
 omega
theorem fTo_repl{s t:Sl}{known n:Int}(hs:sortedT s)(hn:0<=n)(hk:s.int n 2<=known)(h:fTo s known n t)
  (hp:0<t.len) (hd:t.int (t.len-1) 0=s.int n 0/\t.int (t.len-1) 1=s.int n 1):fTo s known (n+1) (Sl.app (Sl.part t 0 (t.len-1)) (Sl.lit [cp s n])):=by
 obtain⟨g,h1,h2,h3⟩:=h
 have b:=h1 (t.len-1) (by omega) (by omega)
 have ek:s.int (g (t.len-1)) 0=s.int n 0/\s.int (g (t.len-1)) 1=s.int n 1:=by rw[<-b.2.1,<-b.2.2.1];exact hd
 refine fTo_core (m:=t.len-1) hn hk h1 h2 h3 (by omega) (by omega) (by rw[len_part (by omega)];omega) (fun i _ _=>f_part0) (fun i i0 i1 e=> ?_) (fun i i0 i1=> ?_)
 ·have a:=h1 i i0 (by omega)
  have l:=h2 i (t.len-1) i0 (by omega) (by omega)
  have:=a.1.2.2 (g (t.len-1)) l b.1.1.2 (by rw[ek.1,e.1]) (by rw[ek.2,e.2])
  have:=b.1.2.1
  omega
 ·have:i=t.len-1:=by omega
  rw[this];exact ek
theorem fTo_len{s t:Sl}{known n:Int}(hn:0<=n)(h:fTo s known n t):t.len<=n:=by
 obtain⟨g,h1,h2,_⟩:=h
 have step:∀i:Nat,(i:Int)<t.len->(i:Int)<=g i:=by
  intro i
  induction i with
  |zero=>intro hi;have:=(h1 0 (by omega) hi).1.1.1;simpa using this
  |succ i ih=>
   intro hi
   have a:=ih (by omega)
   have:=h2 i (i+1:Nat) (by omega) (by omega) hi
   omega
 by_cases c:t.len=0
 ·omega
 ·have t0:=len0 t
  have a:=step (t.len-1).toNat (by omega)
  have b:=(h1 (t.len-1) (by omega) (by omega)).1.1.2
  rw[show(((t.len-1).toNat:Nat):Int)=t.len-1 by omega]at a
  omega
theorem forced_ok:V_forced:=by
 intro y two s rs known rk hp sm
 obtain⟨hs,hl⟩:=hp
 have s0:=len0 s
 have e1:∀l:List D,(Sl.lit [l]).len=1:=fun l=>rfl
 refine⟨fun t i=>(0<=i/\i<=s.len)/\fTo s known i t,fun _ i=>(s.len-i).toNat,⟨⟨Int.le_refl _,s0⟩,fTo_nil⟩,fun t rt i ri hJ=> ?_⟩
 obtain⟨⟨i0,i1⟩,hf⟩:=hJ
 have t0:=len0 t
 have tl:=fTo_len i0 hf
 have ms:i<s.len->(s.len-(i+1)).toNat<(s.len-i).toNat:=fun h=>by omega
 refine⟨fun hi=>⟨i0,hi,fun _ _ _ _ _=> ?_⟩,fun hi=>⟨?_,trivial⟩⟩
 ·have nx:Rng .i64 (i+1):=by rw[rng64];omega
  refine⟨fun hk=>⟨nx,⟨⟨by omega,by omega⟩,fTo_skip hk hf⟩,ms hi⟩,fun hk st=> ?_⟩
  have hk:s.int i 2<=known:=by omega
  have app:(0<t.len->¬(t.int (t.len-1) 0=s.int i 0/\t.int (t.len-1) 1=s.int i 1))->(((t.len+(Sl.lit [cp s i]).len)*88)<=140737488355328)/\Rng .i64 (i+1)/\
    ((0<=i+1/\i+1<=s.len)/\fTo s known (i+1) (Sl.app t (Sl.lit [cp s i])))/\(s.len-(i+1)).toNat<(s.len-i).toNat:=fun hd=>
   ⟨by rw[e1];omega,nx,⟨⟨by omega,by omega⟩,fTo_app hs i0 hi hk hf hd⟩,ms hi⟩
  refine⟨fun hp=>⟨by rw[rng64];omega,by omega,by omega,fun _ _ _ _ _=>⟨fun hd=>⟨by rw[rng64];omega,by omega,by omega,by omega, ?_,nx,⟨⟨by omega,by omega⟩,fTo_repl hs i0 hk hf hp hd⟩,ms hi⟩,fun hd=>app fun _=>hd⟩⟩,fun hp=>app fun h=>absurd h hp⟩
  rw[len_part (by omega)]
  show(t.len-1-0+1)*88<=_
  omega
 ·have e:i=s.len:=by omega
  subst e
  exact hf
theorem fTo_rows{s t:Sl}{known:Int}{g:Int->Int}(hs:sortedT s)(h1:∀i:Int,0<=i->i<t.len->inForce s known (g i)/\rowEq t i s (g i))(h2:∀i j:Int,0<=i->i<j->j<t.len->g i<g j)
  {i j:Int} (i0:0<=i) (ij:i<j) (j1:j<t.len):t.int i 0<t.int j 0\/(t.int i 0=t.int j 0/\t.int i 1<t.int j 1):=by
 have a:=h1 i i0 (by omega)
 have b:=h1 j (by omega) j1
 have l:=h2 i j i0 ij j1
 have so:=sorted_lt hs a.1.1.1 (by omega) b.1.1.2
 have no:=a.1.2.2 (g j) l b.1.1.2
 have:=b.1.2.1
 rw[a.2.1,b.2.1,a.2.2.1,b.2.2.1]
 unfold ltR ltK at so
 omega
theorem mid_eq{i j:Int}(h0:0<=i)(hij:i<j)(hj:j<=140737488355328):IntKind.wrap .i64 (shr .u64 (IntKind.wrap .u64 (i+j)) 1)=(i+j)/2:=by
 rw[wu64_in (by omega) (by omega)]
 have sh:shr .u64 (i+j) 1=(i+j)/2:=shr_def .u64 (x:=i+j) (n:=1) (by decide)
 rw[sh,wi64]
 omega
theorem mid_rng{i j:Int}(h0:0<=i)(hij:i<j)(hj:j<=140737488355328):Rng .u64 (shr .u64 (IntKind.wrap .u64 (i+j)) 1):=by
 rw[wu64_in (by omega) (by omega)]
 have sh:shr .u64 (i+j) 1=(i+j)/2:=shr_def .u64 (x:=i+j) (n:=1) (by decide)
 rw[sh,rngu64]
 omega
def bs(n:Int)(P:Int->Prop)(i j:Int):Prop:=(0<=i/\i<=j/\j<=n)/\(∀k:Int,0<=k->k<i->¬P k)/\∀k:Int,j<=k->k<n->P k
theorem bs_start{n:Int}{P:Int->Prop}(h:0<=n):bs n P 0 n:=⟨⟨Int.le_refl _,h,Int.le_refl _⟩,fun k h0 h1=>by omega,fun k h0 h1=>by omega⟩
theorem bs_up{n:Int}{P:Int->Prop}(hm:∀k l:Int,0<=k->k<=l->l<n->P k->P l){i j m:Int}(h:bs n P i j)(h0:i<=m)(h1:m<j)(hp:¬P m):bs n P (m+1) j:=
 ⟨⟨by have:=h.1;omega,by have:=h.1;omega,h.1.2.2⟩,fun k k0 k1 hk=>hp (hm k m k0 (by omega) (by have:=h.1;omega) hk),h.2.2⟩
theorem bs_down{n:Int}{P:Int->Prop}(hm:∀k l:Int,0<=k->k<=l->l<n->P k->P l){i j m:Int}(h:bs n P i j)(h0:i<=m)(h1:m<j)(hp:P m):bs n P i m:=
 ⟨⟨h.1.1,h0,by have:=h.1;omega⟩,h.2.1,fun k k0 k1=>hm m k (by have:=h.1;omega) k0 k1 hp⟩
theorem okF.lim{a c:Bool}{b d:Sl}(h:okF a b c d):Lim b/\Lim d:=by
 have:=h.2
 unfold Lim
 omega
theorem okF.of_same{a c a' c':Bool}{b d b' d':Sl}(h:okF a b c d)(g:SameF a' b' c' d' a b c d):okF a' b' c' d':=by
 obtain⟨⟨q,hq⟩,h1,h2⟩:=h
 exact⟨⟨q,hq.of_same g.1.1 g.1.2 g.2.1 g.2.2⟩,by rw[g.1.2.1];exact h1,by rw[g.2.2.1];exact h2⟩
end Go.Sx.N
set_option linter.unusedVariables false
set_option linter.unusedSimpArgs false
namespace Go.Sx.N
theorem int_upd3{s:Sl}{i k:Int}{cs:List D}{j:Nat}(hj:j<3):(Sl.upd s i 3 cs).int k j=s.int k j:=by
 unfold Sl.int Sl.upd
 have:¬(k.toNat=i.toNat/\3<=j/\j<3+cs.length):=by omega
 simp[this]
theorem f_upd_ne{s:Sl}{i k:Int}{cs:List D}{j:Nat}(h0:0<=i)(h1:0<=k)(hne:k≠i):(Sl.upd s i j cs).f k.toNat=s.f k.toNat:=by
 funext x
 unfold Sl.upd
 have:¬(k.toNat=i.toNat/\j<=x/\x<j+cs.length):=by omega
 simp[this]
theorem rowEq_upd{s t:Sl}{i k:Int}{a c:Bool}{b d:Sl}(hf:SameF a b c d (t.bool k 3) (t.sub k 4) (t.bool k 5) (t.sub k 6))(h:rowEq s i t k):
  rowEq (Sl.upd s i 3 [.bool a,Sl.d b, .bool c,Sl.d d]) i t k:=by
 refine⟨by rw[int_upd3 (by decide)];exact h.1,by rw[int_upd3 (by decide)];exact h.2.1,by rw[int_upd3 (by decide)];exact h.2.2.1, ?_⟩
 have e1:(Sl.upd s i 3 [.bool a,Sl.d b, .bool c,Sl.d d]).bool i 3=a:=by simp[Sl.bool,Sl.upd,D.toB]
 have e2:(Sl.upd s i 3 [.bool a,Sl.d b, .bool c,Sl.d d]).sub i 4=b:=by simp[Sl.sub,Sl.upd,D.toS,Sl.d]
 have e3:(Sl.upd s i 3 [.bool a,Sl.d b, .bool c,Sl.d d]).bool i 5=c:=by simp[Sl.bool,Sl.upd,D.toB]
 have e4:(Sl.upd s i 3 [.bool a,Sl.d b, .bool c,Sl.d d]).sub i 6=d:=by simp[Sl.sub,Sl.upd,D.toS,Sl.d]
 unfold rowF
 rw[e1,e2,e3,e4]
 exact hf
theorem SameF.lim{a c a' c':Bool}{b d b' d':Sl}(h:SameF a b c d a' b' c' d')(g:okF a' b' c' d'):Lim b/\Lim d:=(okF.of_same g h).lim
section
variable{s t:Sl}{known a:Int}{g:Int->Int}
theorem candX_at(h1:∀i:Int,0<=i->i<t.len->inForce s known (g i)/\rowEq t i s (g i))(h3:∀k:Int,inForce s known k->∃i:Int,0<=i/\i<t.len/\g i=k){k:Int}(h:candX s a known k):
  ∃i:Int,0<=i/\i<t.len/\g i=k/\t.int i 0<=a/\∀j:Int,0<=j->j<t.len->t.int j 0<=a->t.int j 0<=t.int i 0:=by
 obtain⟨i,i0,i1,e⟩:=h3 k h.1.1
 have r:=(h1 i i0 i1).2.1
 rw[e]at r
 refine⟨i,i0,i1,e,by rw[r];exact h.1.2,fun j j0 j1 hj=> ?_⟩
 have b:=h1 j j0 j1
 rw[b.2.1]at hj⊢
 rw[r]
 exact h.2 (g j) b.1 hj
theorem at_candX(h1:∀i:Int,0<=i->i<t.len->inForce s known (g i)/\rowEq t i s (g i))(h3:∀k:Int,inForce s known k->∃i:Int,0<=i/\i<t.len/\g i=k){i:Int}(i0:0<=i)(i1:i<t.len)
  (ha:t.int i 0<=a) (hm:∀j:Int,0<=j->j<t.len->t.int j 0<=a->t.int j 0<=t.int i 0):candX s a known (g i):=by
 have r:=h1 i i0 i1
 refine⟨⟨r.1,by rw[<-r.2.1];exact ha⟩,fun k hk hka=> ?_⟩
 obtain⟨j,j0,j1,e⟩:=h3 k hk
 have b:=(h1 j j0 j1).2.1
 rw[e]at b
 rw[<-b,<-r.2.1]
 exact hm j j0 j1 (by rw[b];exact hka)
end
theorem rowF_of{s t:Sl}{i k:Int}{a c:Bool}{b d:Sl}(h:rowEq t i s k)(hq:SameF a b c d (t.bool i 3) (t.sub i 4) (t.bool i 5) (t.sub i 6)):rowF s k a b c d:=SameF.symm (SameF.trans hq h.2.2.2)
theorem look_zero{ok:Prop}{C:Int->Prop}{s:Sl}(hok:ok)(h:∀k,¬C k):lookR ok C s false Sl.nil false Sl.nil 6:=
 ⟨fun hn=>absurd hok hn,fun _=>⟨fun _=>⟨zeroF_nil,rfl⟩,fun k hk=>absurd hk (h k)⟩⟩
theorem look_bad{ok:Prop}{C:Int->Prop}{s:Sl}(hok:¬ok):lookR ok C s false Sl.nil false Sl.nil 2:=
 ⟨fun _=>⟨zeroF_nil,rfl⟩,fun h=>absurd h hok⟩
theorem row_lim{name:ByteArray}{two:Bool}{s t:Sl}{i k:Int}(hv:validT name two s)(h0:0<=k)(h1:k<s.len)(h:rowEq t i s k):Lim (t.sub i 4)/\Lim (t.sub i 6):=
 SameF.lim h.2.2.2 (hv.2.2.2 k h0 h1).2.2.2.2
theorem rowEq_part{t:Sl}{l h i:Int}(h0:0<=l)(h1:0<=i):rowEq (Sl.part t l h) i t (l+i):=by
 refine rowEq_cells ?_
 funext j
 show t.f (l.toNat+i.toNat) j=t.f (l+i).toNat j
 rw[show(l+i).toNat=l.toNat+i.toNat by omega]
theorem mono_A{s t:Sl}{known a:Int}{g:Int->Int}(hs:sortedT s)(h1:∀i:Int,0<=i->i<t.len->inForce s known (g i)/\rowEq t i s (g i))(h2:∀i j:Int,0<=i->i<j->j<t.len->g i<g j):
  ∀k l:Int,0<=k->k<=l->l<t.len->t.int k 0<=t.int l 0:=fun k l k0 kl l1=>by
 by_cases e:k=l
 ·rw[e];exact Int.le_refl _
 ·have:=fTo_rows hs h1 h2 k0 (by omega) l1
  omega
theorem Look_ok:V_Look:=by
 intro y two s rs a ra known rk hp
 simp only[Bool.decide_eq_true]
 refine⟨hp,fun b hb=>⟨fun hn=>⟨look_bad fun h=>hn (hb.2 h.1),trivial⟩,fun hn=>⟨fun ht=>⟨look_bad fun h=>by rw[ht]at h;exact absurd h.2 (by decide),trivial⟩,fun ht=> ?_⟩⟩⟩
 have hv:validT y two s:=hb.1 (Classical.not_not.1 hn)
 have ht:two=false:=by simpa using ht
 refine⟨⟨hv.2.2.1,hv.2.1⟩,fun t rt hf st=> ?_⟩
 have t0:=len0 t
 have s0:=len0 s
 obtain⟨g,h1,h2,h3⟩:=hf
 have tl:t.len<=s.len:=fTo_len (n:=s.len) s0 ⟨g,h1,h2,h3⟩
 have hs4:=hv.2.1
 have mo:=mono_A (a:=a) hv.2.2.1 h1 h2
 have mo':∀k l:Int,0<=k->k<=l->l<t.len->t.int k 0>a->t.int l 0>a:=fun k l k0 kl l1 h=>by have:=mo k l k0 kl l1;omega
 refine⟨fun i j=>bs t.len (fun k=>t.int k 0>a) i j,fun i j=>(j-i).toNat,bs_start t0,fun i ri j rj hJ=> ?_⟩
 have hJ:bs t.len (fun k=>t.int k 0>a) i j:=hJ
 have b1:=hJ.1
 refine⟨fun hi=> ?_,fun hi=> ?_⟩
 ·have em:=mid_eq b1.1 hi (by omega)
  have er:=mid_rng b1.1 hi (by omega)
  refine⟨by rw[rng64];omega,by decide,er, ?_⟩
  rw[em]
  refine⟨by omega,by omega,fun _ _ _ _ _=>⟨fun hp=>⟨by rw[rng64];omega,bs_up mo' hJ (by omega) (by omega) hp, ?_⟩,fun hp=>⟨bs_down mo' hJ (by omega) (by omega) (Classical.not_not.1 hp), ?_⟩⟩⟩
  ·show(j-((i+j)/2+1)).toNat<(j-i).toNat;omega
  ·show((i+j)/2-i).toNat<(j-i).toNat;omega
 ·have e:j=i:=by omega
  subst e
  refine⟨by decide,b1.1,b1.2.2, ?_⟩
  rw[len_part b1.1,Int.sub_zero]
  have bnd:∀l:Int,0<=l->l<t.len->t.int l 0<=a->l<j:=fun l l0 l1 hl=>by
   rcases Int.lt_or_le l j with c|c
   ·exact c
   ·have h':t.int l 0>a:=hJ.2.2 l c l1
    omega
  refine fun _=>⟨fun hz=>⟨look_zero ⟨hv,ht⟩ fun k hk=> ?_,trivial⟩,fun hz _=>⟨by rw[rng64];omega,by omega,by omega,fun _ _=> ?_⟩⟩
  ·obtain⟨l,l0,l1,_,hl,_⟩:=candX_at h1 h3 hk
   have:=bnd l l0 l1 hl
   omega
  ·have rw1:rowEq (Sl.part t 0 j) (j-1) t (j-1):=by
    have:=rowEq_part (t:=t) (l:=0) (h:=j) (i:=j-1) (by decide) (by omega)
    rwa[Int.zero_add]at this
   have rr:=(h1 (j-1) (by omega) (by omega))
   have rw2:=rw1.trans rr.2
   refine⟨row_lim hv rr.1.1.1 rr.1.1.2 rw2,fun a' b' _ c' d' _ hq=>⟨⟨fun hn=>absurd ⟨hv,ht⟩ hn,fun _=>⟨fun hn=> ?_,fun k hk=>⟨?_,rfl⟩⟩⟩,trivial⟩⟩
   ·refine absurd (at_candX (a:=a) h1 h3 (i:=j-1) (by omega) (by omega) ?_ fun l l0 l1 hl=> ?_) (hn _)
    ·have:=hJ.2.1 (j-1) (by omega) (by omega)
     have:¬(t.int (j-1) 0>a):=this
     omega
    ·exact mo l (j-1) l0 (by have:=bnd l l0 l1 hl;omega) (by omega)
   ·obtain⟨l,l0,l1,e,hl,hm⟩:=candX_at h1 h3 hk
    have hlj:=bnd l l0 l1 hl
    have hA:=hm (j-1) (by omega) (by omega) (by
     have:=hJ.2.1 (j-1) (by omega) (by omega)
     have:¬(t.int (j-1) 0>a):=this
     omega)
    have el:l=j-1:=by
     by_cases c:l=j-1
     ·exact c
     ·have st:=fTo_rows hv.2.2.1 h1 h2 l0 (show l<j-1 by omega) (by omega)
      have z1:=h1 l l0 l1
      have z2:=h1 (j-1) (by omega) (by omega)
      have q1:=(hv.2.2.2 (g l) z1.1.1.1 z1.1.1.2).2.2.1
      have q2:=(hv.2.2.2 (g (j-1)) z2.1.1.1 z2.1.1.2).2.2.1
      rw[ht]at q1 q2
      simp only[Bool.false_eq_true,false_or]at q1 q2
      rw[z1.2.2.1,z2.2.2.1]at st
      omega
    rw[<-e,el]
    exact rowF_of rw2 hq
theorem LookTwo_ok:V_LookTwo:=by
 intro y two s a ra b rb known rk hp
 simp only[Bool.decide_eq_true]
 refine⟨hp,fun v hb=>⟨fun hn=>⟨look_bad fun h=>hn (hb.2 h.1),trivial⟩,fun hn=>⟨fun ht=>⟨look_bad fun h=>ht h.2,trivial⟩,fun ht=> ?_⟩⟩⟩
 have hv:validT y two s:=hb.1 (Classical.not_not.1 hn)
 have ht:two=true:=Classical.not_not.1 ht
 refine⟨⟨hv.2.2.1,hv.2.1⟩,fun t hf st=> ?_⟩
 have t0:=len0 t
 have s0:=len0 s
 obtain⟨g,h1,h2,h3⟩:=hf
 have tl:t.len<=s.len:=fTo_len (n:=s.len) s0 ⟨g,h1,h2,h3⟩
 have hs4:=hv.2.1
 have mo:=mono_A (a:=a) hv.2.2.1 h1 h2
 have mo':∀k l:Int,0<=k->k<=l->l<t.len->t.int k 0>a->t.int l 0>a:=fun k l k0 kl l1 h=>by have:=mo k l k0 kl l1;omega
 refine⟨fun i j=>bs t.len (fun k=>t.int k 0>a) i j,fun i j=>(j-i).toNat,bs_start t0,fun i ri j rj hJ=> ?_⟩
 have hJ:bs t.len (fun k=>t.int k 0>a) i j:=hJ
 have b1:=hJ.1
 refine⟨fun hi=> ?_,fun hi=> ?_⟩
 ·have em:=mid_eq b1.1 hi (by omega)
  have er:=mid_rng b1.1 hi (by omega)
  refine⟨by rw[rng64];omega,by decide,er, ?_⟩
  rw[em]
  refine⟨by omega,by omega,fun _ _ _=>⟨fun hp=>⟨by rw[rng64];omega,bs_up mo' hJ (by omega) (by omega) hp, ?_⟩,fun hp=>⟨bs_down mo' hJ (by omega) (by omega) (Classical.not_not.1 hp), ?_⟩⟩⟩
  ·show(j-((i+j)/2+1)).toNat<(j-i).toNat;omega
  ·show((i+j)/2-i).toNat<(j-i).toNat;omega
 have e:j=i:=by omega
 subst e
 refine⟨by decide,b1.1,b1.2.2, ?_⟩
 have bnd:∀l:Int,0<=l->l<t.len->t.int l 0<=a->l<j:=fun l l0 l1 hl=>by
  rcases Int.lt_or_le l j with c|c
  ·exact c
  ·have h':t.int l 0>a:=hJ.2.2 l c l1
   omega
 have low:∀l:Int,0<=l->l<j->t.int l 0<=a:=fun l l0 l1=>by
  have:¬(t.int l 0>a):=hJ.2.1 l l0 l1
  omega
 clear hJ
 obtain⟨u,hu⟩:∃u,u=Sl.part t 0 j:=⟨_,rfl⟩
 rw[<-hu]
 have ul:u.len=j:=by rw[hu,len_part b1.1,Int.sub_zero]
 have ur:∀i:Int,0<=i->rowEq u i t i:=fun i i0=>by
  rw[hu]
  have:=rowEq_part (t:=t) (l:=0) (h:=j) (i:=i) (by decide) i0
  rwa[Int.zero_add]at this
 rw[ul]
 refine fun _=>⟨fun hz=>⟨look_zero ⟨hv,ht⟩ fun k hk=> ?_,trivial⟩,fun hz _=>⟨by rw[rng64];omega,by omega,by omega,fun _ _=> ?_⟩⟩
 ·obtain⟨l,l0,l1,_,hl,_⟩:=candX_at h1 h3 hk.1.1
  have:=bnd l l0 l1 hl
  omega
 obtain⟨x,hx⟩:∃x,x=u.int (j-1) 0:=⟨_,rfl⟩
 rw[<-hx]
 have hx':x=t.int (j-1) 0:=hx.trans (ur _ (by omega)).1
 have mo2:∀k l:Int,0<=k->k<=l->l<j->u.int k 0>=x->u.int l 0>=x:=fun k l k0 kl l1 h=>by
  have:=mo k l k0 kl (by omega)
  rw[(ur k k0).1]at h
  rw[(ur l (by omega)).1]
  omega
 refine⟨fun i k=>bs j (fun k=>u.int k 0>=x) i k,fun i k=>(k-i).toNat,bs_start b1.1,fun i ri p rp hJ=> ?_⟩
 have hJ:bs j (fun k=>u.int k 0>=x) i p:=hJ
 have b2:=hJ.1
 refine⟨fun hi=> ?_,fun hi=> ?_⟩
 ·have em:=mid_eq b2.1 hi (by omega)
  have er:=mid_rng b2.1 hi (by omega)
  refine⟨by rw[rng64];omega,by decide,er, ?_⟩
  rw[em]
  refine⟨by omega,by omega,fun _ _ _=>⟨fun hp=>⟨by rw[rng64];omega,bs_up mo2 hJ (by omega) (by omega) hp, ?_⟩,fun hp=>⟨bs_down mo2 hJ (by omega) (by omega) (Classical.not_not.1 hp), ?_⟩⟩⟩
  ·show(p-((i+p)/2+1)).toNat<(p-i).toNat;omega
  ·show((i+p)/2-i).toNat<(p-i).toNat;omega
 have e:p=i:=by omega
 subst e
 have pl:(Sl.part u 0 p).len=p:=by rw[len_part b2.1,Int.sub_zero]
 rw[pl]
 refine⟨by decide,b2.1,b2.2.2,fun _=>⟨b2.1,b2.2.2,Int.le_refl _, ?_⟩⟩
 have inX:∀l:Int,0<=l->l<j->(t.int l 0=x↔p<=l):=fun l l0 l1=>by
  constructor
  ·intro h
   rcases Int.lt_or_le l p with c|c
   ·have:¬(u.int l 0>=x):=hJ.2.1 l l0 c
    rw[(ur l l0).1]at this
    omega
   ·exact c
  ·intro h
   have:u.int l 0>=x:=hJ.2.2 l h l1
   rw[(ur l l0).1]at this
   have:=mo l (j-1) l0 (by omega) (by omega)
   omega
 clear hJ
 have pj:p<=j-1:=(inX (j-1) (by omega) (by omega)).1 hx'.symm
 obtain⟨w,hw⟩:∃w,w=Sl.part u p j:=⟨_,rfl⟩
 rw[<-hw]
 have wl:w.len=j-p:=by rw[hw,len_part b2.2.2]
 have wr:∀i:Int,0<=i->rowEq w i t (p+i):=fun i i0=>by
  rw[hw]
  exact(rowEq_part (t:=u) (l:=p) (h:=j) (i:=i) b2.1 i0).trans (ur _ (by omega))
 rw[wl]
 have cX:∀l:Int,0<=l->l<t.len->(candX s a known (g l)↔(p<=l/\l<j)):=fun l l0 l1=>by
  constructor
  ·intro h
   obtain⟨l',q0,q1,e,hl,hm⟩:=candX_at h1 h3 h
   have el:l'=l:=by
    rcases Int.lt_trichotomy l' l with c|c|c
    ·have:=h2 l' l q0 c l1;omega
    ·exact c
    ·have:=h2 l l' l0 c q1;omega
   subst el
   have hlj:=bnd l' q0 q1 hl
   refine⟨(inX l' q0 hlj).1 ?_,hlj⟩
   have:=hm (j-1) (by omega) (by omega) (low _ (by omega) (by omega))
   have:=mo l' (j-1) q0 (by omega) (by omega)
   omega
  ·intro h
   refine at_candX h1 h3 l0 l1 (low l l0 h.2) fun q q0 q1 hq=> ?_
   have:=mo q (j-1) q0 (by have:=bnd q q0 q1 hq;omega) (by omega)
   rw[(inX l l0 h.2).2 h.1,hx']
   exact this
 have mo3:∀k l:Int,p<=k->k<l->l<j->t.int k 1<t.int l 1:=fun k l k0 kl l1=>by
  have:=fTo_rows hv.2.2.1 h1 h2 (show 0<=k by omega) kl (by omega)
  have e1:=(inX k (by omega) (by omega)).2 k0
  have e2:=(inX l (by omega) (by omega)).2 (by omega)
  omega
 have mo3':∀k l:Int,0<=k->k<=l->l<j-p->w.int k 1>b->w.int l 1>b:=fun k l k0 kl l1 h=>by
  by_cases c:k=l
  ·rw[<-c];exact h
  ·have:=mo3 (p+k) (p+l) (by omega) (by omega) (by omega)
   rw[(wr k k0).2.1]at h
   rw[(wr l (by omega)).2.1]
   omega
 refine fun _=>⟨fun i k=>bs (j-p) (fun k=>w.int k 1>b) i k,fun i k=>(k-i).toNat,bs_start (by omega),fun i ri n rn hJ=> ?_⟩
 have hJ:bs (j-p) (fun k=>w.int k 1>b) i n:=hJ
 have b3:=hJ.1
 refine⟨fun hi=> ?_,fun hi=> ?_⟩
 ·have em:=mid_eq b3.1 hi (by omega)
  have er:=mid_rng b3.1 hi (by omega)
  refine⟨by rw[rng64];omega,by decide,er, ?_⟩
  rw[em]
  refine⟨by omega,by omega,fun _ _ _=>⟨fun hp=>⟨by rw[rng64];omega,bs_up mo3' hJ (by omega) (by omega) hp, ?_⟩,fun hp=>⟨bs_down mo3' hJ (by omega) (by omega) (Classical.not_not.1 hp), ?_⟩⟩⟩
  ·show(n-((i+n)/2+1)).toNat<(n-i).toNat;omega
  ·show((i+n)/2-i).toNat<(n-i).toNat;omega
 have e:n=i:=by omega
 subst e
 have vl':(Sl.part w 0 n).len=n:=by rw[len_part b3.1,Int.sub_zero]
 rw[vl']
 have inB:∀l:Int,p<=l->l<j->(t.int l 1<=b↔l<p+n):=fun l l0 l1=>by
  have r:=(wr (l-p) (by omega)).2.1
  rw[show p+(l-p)=l by omega]at r
  constructor
  ·intro h
   rcases Int.lt_or_le l (p+n)with c|c
   ·exact c
   ·have:w.int (l-p) 1>b:=hJ.2.2 (l-p) (by omega) (by omega)
    rw[r]at this
    omega
  ·intro h
   have:¬(w.int (l-p) 1>b):=hJ.2.1 (l-p) (by omega) (by omega)
   rw[r]at this
   omega
 clear hJ
 refine⟨by decide,b3.1,b3.2.2,fun _=>⟨fun hz=>⟨look_zero ⟨hv,ht⟩ fun k hk=> ?_,trivial⟩,fun hz _=>⟨by rw[rng64];omega,by omega,by omega, ?_⟩⟩⟩
 ·obtain⟨l,l0,l1,e,_,_⟩:=candX_at h1 h3 hk.1.1
  have c:=hk.1.1
  rw[<-e]at c
  have c:=(cX l l0 l1).1 c
  have hb:=hk.1.2
  rw[<-e,<-(h1 l l0 l1).2.2.1]at hb
  have:=(inB l c.1 c.2).1 hb
  omega
 have rr:=h1 (p+n-1) (by omega) (by omega)
 have rw1:rowEq (Sl.part w 0 n) (n-1) t (p+n-1):=by
  have q:=rowEq_part (t:=w) (l:=0) (h:=n) (i:=n-1) (by decide) (by omega)
  rw[Int.zero_add]at q
  have q2:=wr (n-1) (by omega)
  rw[show p+(n-1)=p+n-1 by omega]at q2
  exact q.trans q2
 have rw2:=rw1.trans rr.2
 have cT:candT s a b known (g (p+n-1)):=by
  refine⟨⟨(cX _ (by omega) (by omega)).2 ⟨by omega,by omega⟩, ?_⟩,fun k hk hkb=> ?_⟩
  ·rw[<-rr.2.2.1]
   exact(inB _ (by omega) (by omega)).2 (by omega)
  ·obtain⟨l,l0,l1,e,_,_⟩:=candX_at h1 h3 hk
   rw[<-e]at hk hkb⊢
   have c:=(cX l l0 l1).1 hk
   rw[<-(h1 l l0 l1).2.2.1]at hkb⊢
   rw[<-rr.2.2.1]
   have:=(inB l c.1 c.2).1 hkb
   by_cases d:l=p+n-1
   ·rw[d];exact Int.le_refl _
   ·have:=mo3 l (p+n-1) c.1 (by omega) (by omega)
    omega
 refine⟨row_lim hv rr.1.1.1 rr.1.1.2 rw2,fun a' b' c' d' hq=>⟨⟨fun hn=>absurd ⟨hv,ht⟩ hn,fun _=>⟨fun hn=>absurd cT (hn _),fun k hk=>⟨?_,rfl⟩⟩⟩,trivial⟩⟩
 obtain⟨l,l0,l1,e,_,_⟩:=candX_at h1 h3 hk.1.1
 have ek:l=p+n-1:=by
  have hk':=hk
  rw[<-e]at hk'
  have c:=(cX l l0 l1).1 hk'.1.1
  have z:=hk'.2 _ cT.1.1 cT.1.2
  have zb:=hk'.1.2
  rw[<-(h1 l l0 l1).2.2.1]at z zb
  rw[<-rr.2.2.1]at z
  have:=(inB l c.1 c.2).1 zb
  by_cases d:l=p+n-1
  ·exact d
  ·have:=mo3 l (p+n-1) c.1 (by omega) (by omega)
   omega
 rw[<-e,ek]
 exact rowF_of rw2 hq
end Go.Sx.N
set_option linter.unusedVariables false
set_option linter.unusedSimpArgs false
namespace Go.Sx.N
theorem litF_ok{q:Rat}{a c:Bool}{b d:Sl}(h:litF q a b c d):okF a b c d:=⟨⟨q,h.1⟩,by have:=h.2.1;omega,by have:=h.2.2;omega⟩
end Go.Sx.N
set_option linter.unusedVariables false
set_option linter.unusedSimpArgs false
namespace Go.Sx.N
theorem look_at{ok:Prop}{C:Int->Prop}{s:Sl}{a c:Bool}{b d:Sl}{e k:Int}(h:lookR ok C s a b c d e)(hok:ok)(hk:C k):rowF s k a b c d/\e=0:=(h.2 hok).2 k hk
theorem look_no{ok:Prop}{C:Int->Prop}{s:Sl}{a c:Bool}{b d:Sl}{e:Int}(h:lookR ok C s a b c d e)(hok:ok)(hk:∀k,¬C k):zeroF a b c d/\e=6:=(h.2 hok).1 hk
theorem four{Q:Int->Prop}(h0:Q 0)(h1:Q 1)(h2:Q 2)(h3:Q 3):∀i:Int,0<=i->i<4->Q i:=fun i i0 i1=>by
 rcases(show i=0\/i=1\/i=2\/i=3 by omega)with rfl|rfl|rfl|rfl
 ·exact h0
 ·exact h1
 ·exact h2
 ·exact h3
theorem three{Q:Int->Prop}(h0:Q 0)(h1:Q 1)(h2:Q 2):∀i:Int,0<=i->i<3->Q i:=fun i i0 i1=>by
 rcases(show i=0\/i=1\/i=2 by omega)with rfl|rfl|rfl
 ·exact h0
 ·exact h1
 ·exact h2
def keyAt(s:Sl)(i a b k:Int):Prop:=s.int i 0=a/\s.int i 1=b/\s.int i 2=k
def fracAt(s:Sl)(i:Int)(q:Rat):Prop:=litF q (s.bool i 3) (s.sub i 4) (s.bool i 5) (s.sub i 6)
theorem right_of{two:Bool}{s:Sl}{i a b k:Int}{q:Rat}(h:keyAt s i a b k)(hq:fracAt s i q)(ha:-1000<=a/\a<=1000)(hb:-1000<=b/\b<=1000)(ht:two=true\/b=0)(hk:0<=k/\k<=1000):rightAt two s i:=by
 unfold rightAt rightS
 rw[h.1,h.2.1,h.2.2]
 exact⟨by omega,by omega,ht,by omega,litF_ok hq⟩
section
variable{s:Sl}{q0 q1 q2 q3:Rat}
theorem age_valid(hl:s.len=4)(k0:keyAt s 0 0 0 0)(k1:keyAt s 1 30 0 0)(k2:keyAt s 2 30 0 100)(k3:keyAt s 3 60 0 0)(f0:fracAt s 0 q0)(f1:fracAt s 1 q1)(f2:fracAt s 2 q2)(f3:fracAt s 3 q3):
  validT (bytes [97,103,101]) false s:=by
 refine⟨by decide,by omega,fun i i0 i1=> ?_, ?_⟩
 ·rw[hl]at i1
  unfold ltR ltK
  rcases(show i=1\/i=2\/i=3 by omega)with rfl|rfl|rfl
  ·rw[k1.1,k1.2.1,k1.2.2,show(1:Int)-1=0 from rfl,k0.1,k0.2.1,k0.2.2];omega
  ·rw[k2.1,k2.2.1,k2.2.2,show(2:Int)-1=1 from rfl,k1.1,k1.2.1,k1.2.2];omega
  ·rw[k3.1,k3.2.1,k3.2.2,show(3:Int)-1=2 from rfl,k2.1,k2.2.1,k2.2.2];omega
 ·rw[hl]
  exact four (right_of k0 f0 (by omega) (by omega) (.inr rfl) (by omega)) (right_of k1 f1 (by omega) (by omega) (.inr rfl) (by omega)) (right_of k2 f2 (by omega) (by omega) (.inr rfl) (by omega)) (right_of k3 f3 (by omega) (by omega) (.inr rfl) (by omega))
theorem force4{known:Int}(hl:s.len=4){k a b:Int}(i0:0<=k)(i1:k<4)(ha:s.int k 0=a)(hb:s.int k 1=b)(hk:s.int k 2<=known)
  (h:∀j:Int,0<=j->j<4->k<j->s.int j 0=a->s.int j 1=b->known<s.int j 2):inForce s known k:=
 ⟨⟨i0,by omega⟩,hk,fun j j0 j1 e0 e1=>h j (by omega) (by omega) j0 (by rw[e0,ha]) (by rw[e1,hb])⟩
theorem age_none(hl:s.len=4)(k0:keyAt s 0 0 0 0)(k1:keyAt s 1 30 0 0)(k2:keyAt s 2 30 0 100)(k3:keyAt s 3 60 0 0):∀k,¬candX s (-1) 50 k:=fun k h=>by
 have h1:=h.1.1.1
 rw[hl]at h1
 have h2:=h.1.2
 rcases(show k=0\/k=1\/k=2\/k=3 by omega)with rfl|rfl|rfl|rfl
 ·rw[k0.1]at h2;omega
 ·rw[k1.1]at h2;omega
 ·rw[k2.1]at h2;omega
 ·rw[k3.1]at h2;omega
theorem age_1(hl:s.len=4)(k0:keyAt s 0 0 0 0)(k1:keyAt s 1 30 0 0)(k2:keyAt s 2 30 0 100)(k3:keyAt s 3 60 0 0):candX s 35 50 1:=by
 refine⟨⟨force4 hl (by omega) (by omega) k1.1 k1.2.1 (by rw[k1.2.2];omega) (four (fun h=>by omega) (fun h=>by omega) (fun _ _ _=>by rw[k2.2.2];omega) (fun _ h=>by rw[k3.1]at h;omega)),by rw[k1.1];omega⟩,fun j hj h=> ?_⟩
 rw[k1.1]
 have h1:=hj.1
 rw[hl]at h1
 rcases(show j=0\/j=1\/j=2\/j=3 by omega)with rfl|rfl|rfl|rfl
 ·rw[k0.1];omega
 ·rw[k1.1];omega
 ·rw[k2.1];omega
 ·rw[k3.1]at h;omega
theorem age_2(hl:s.len=4)(k0:keyAt s 0 0 0 0)(k1:keyAt s 1 30 0 0)(k2:keyAt s 2 30 0 100)(k3:keyAt s 3 60 0 0):candX s 35 100 2:=by
 refine⟨⟨force4 hl (by omega) (by omega) k2.1 k2.2.1 (by rw[k2.2.2];omega) (four (fun h=>by omega) (fun h=>by omega) (fun h=>by omega) (fun _ h=>by rw[k3.1]at h;omega)),by rw[k2.1];omega⟩,fun j hj h=> ?_⟩
 rw[k2.1]
 have h1:=hj.1
 rw[hl]at h1
 rcases(show j=0\/j=1\/j=2\/j=3 by omega)with rfl|rfl|rfl|rfl
 ·rw[k0.1];omega
 ·rw[k1.1];omega
 ·rw[k2.1];omega
 ·rw[k3.1]at h;omega
theorem age_3(hl:s.len=4)(k0:keyAt s 0 0 0 0)(k1:keyAt s 1 30 0 0)(k2:keyAt s 2 30 0 100)(k3:keyAt s 3 60 0 0):candX s 60 0 3:=by
 refine⟨⟨force4 hl (by omega) (by omega) k3.1 k3.2.1 (by rw[k3.2.2];omega) (four (fun h=>by omega) (fun h=>by omega) (fun h=>by omega) (fun h=>by omega)),by rw[k3.1];omega⟩,fun j hj h=> ?_⟩
 rw[k3.1]
 exact h
theorem two_valid(hl:s.len=3)(k0:keyAt s 0 1 0 0)(k1:keyAt s 1 1 5 0)(k2:keyAt s 2 3 2 0)(f0:fracAt s 0 q0)(f1:fracAt s 1 q1)(f2:fracAt s 2 q2):
  validT (bytes [116,119,111]) true s:=by
 refine⟨by decide,by omega,fun i i0 i1=> ?_, ?_⟩
 ·rw[hl]at i1
  unfold ltR ltK
  rcases(show i=1\/i=2 by omega)with rfl|rfl
  ·rw[k1.1,k1.2.1,k1.2.2,show(1:Int)-1=0 from rfl,k0.1,k0.2.1,k0.2.2];omega
  ·rw[k2.1,k2.2.1,k2.2.2,show(2:Int)-1=1 from rfl,k1.1,k1.2.1,k1.2.2];omega
 ·rw[hl]
  exact three (right_of k0 f0 (by omega) (by omega) (.inl rfl) (by omega)) (right_of k1 f1 (by omega) (by omega) (.inl rfl) (by omega)) (right_of k2 f2 (by omega) (by omega) (.inl rfl) (by omega))
theorem force3{known:Int}(hl:s.len=3){k a b:Int}(i0:0<=k)(i1:k<3)(ha:s.int k 0=a)(hb:s.int k 1=b)(hk:s.int k 2<=known)
  (h:∀j:Int,0<=j->j<3->k<j->s.int j 0=a->s.int j 1=b->known<s.int j 2):inForce s known k:=
 ⟨⟨i0,by omega⟩,hk,fun j j0 j1 e0 e1=>h j (by omega) (by omega) j0 (by rw[e0,ha]) (by rw[e1,hb])⟩
theorem two_force(hl:s.len=3)(k0:keyAt s 0 1 0 0)(k1:keyAt s 1 1 5 0)(k2:keyAt s 2 3 2 0):inForce s 0 0/\inForce s 0 1/\inForce s 0 2:=
  ⟨force3 hl (by omega) (by omega) k0.1 k0.2.1 (by rw[k0.2.2];omega) (three (fun h=>by omega) (fun _ _ h=>by rw[k1.2.1]at h;omega) (fun _ h=>by rw[k2.1]at h;omega)),
   force3 hl (by omega) (by omega) k1.1 k1.2.1 (by rw[k1.2.2];omega) (three (fun h=>by omega) (fun h=>by omega) (fun _ h=>by rw[k2.1]at h;omega)),
   force3 hl (by omega) (by omega) k2.1 k2.2.1 (by rw[k2.2.2];omega) (three (fun h=>by omega) (fun h=>by omega) (fun h=>by omega))⟩
theorem two_cases(hl:s.len=3){j known:Int}(h:inForce s known j):j=0\/j=1\/j=2:=by
 have:=h.1
 omega
theorem two_1(hl:s.len=3)(k0:keyAt s 0 1 0 0)(k1:keyAt s 1 1 5 0)(k2:keyAt s 2 3 2 0):candT s 2 7 0 1:=by
 have F:=two_force hl k0 k1 k2
 refine⟨⟨⟨⟨F.2.1,by rw[k1.1];omega⟩,fun j hj h=> ?_⟩,by rw[k1.2.1];omega⟩,fun j hj h=> ?_⟩
 ·rw[k1.1]
  rcases two_cases hl hj with rfl|rfl|rfl
  ·rw[k0.1];omega
  ·rw[k1.1];omega
  ·rw[k2.1]at h;omega
 ·rw[k1.2.1]
  rcases two_cases hl hj.1.1 with rfl|rfl|rfl
  ·rw[k0.2.1];omega
  ·rw[k1.2.1];omega
  ·rw[k2.2.1];omega
theorem two_2(hl:s.len=3)(k0:keyAt s 0 1 0 0)(k1:keyAt s 1 1 5 0)(k2:keyAt s 2 3 2 0){a b:Int}(ha:3<=a)(hb:2<=b):candT s a b 0 2:=by
 have F:=two_force hl k0 k1 k2
 have X:candX s a 0 2:=⟨⟨F.2.2,by rw[k2.1];omega⟩,fun j hj h=>by
  rw[k2.1]
  rcases two_cases hl hj with rfl|rfl|rfl
  ·rw[k0.1];omega
  ·rw[k1.1];omega
  ·rw[k2.1];omega⟩
 refine⟨⟨X,by rw[k2.2.1];omega⟩,fun j hj h=> ?_⟩
 have:=hj.2 2 F.2.2 (by rw[k2.1];omega)
 rw[k2.1]at this
 rcases two_cases hl hj.1.1 with rfl|rfl|rfl
 ·rw[k0.1]at this;omega
 ·rw[k1.1]at this;omega
 ·omega
theorem two_none(hl:s.len=3)(k0:keyAt s 0 1 0 0)(k1:keyAt s 1 1 5 0)(k2:keyAt s 2 3 2 0):∀k,¬candT s 3 1 0 k:=fun k h=>by
 have F:=two_force hl k0 k1 k2
 have h1:=h.1.1.2 2 F.2.2 (by rw[k2.1];omega)
 rw[k2.1]at h1
 have h2:=h.1.2
 rcases two_cases hl h.1.1.1.1 with rfl|rfl|rfl
 ·rw[k0.1]at h1;omega
 ·rw[k1.1]at h1;omega
 ·rw[k2.2.1]at h2;omega
end
theorem looked{s:Sl}{k:Int}{q:Rat}{a c a' c':Bool}{b d b' d':Sl}(h:rowF s k a b c d)(hf:fracAt s k q)(hw:litF q a' b' c' d')(rb:Ranged b [some .u16])(rd:Ranged d [some .u16])(rb':Ranged b' [some .u16])(rd':Ranged d' [some .u16]):
  (a=a'/\SameI b b')/\c=c'/\SameI d d':=by
 have h':=SameF.symm h
 have i1:IsQ q a b c d:=hf.1.of_same h'.1.1 h'.1.2 h'.2.1 h'.2.2
 exact i1.same hw.1 (ranged16 rb) (ranged16 rd) (ranged16 rb') (ranged16 rd')
set_option maxHeartbeats 2000000 in
theorem awake_ok:V_awake:=by
 intro _
 simp only[Bool.decide_eq_true]
 refine⟨trivial, ?_⟩
 rintro _ _ _ _ _ _ a0 b0 rb0 c0 d0 rd0 ⟨rfl,rfl,rfl,f0⟩
 refine⟨trivial, ?_⟩
 rintro _ _ _ _ _ _ a1 b1 rb1 c1 d1 rd1 ⟨rfl,rfl,rfl,f1⟩
 refine⟨trivial, ?_⟩
 rintro _ _ _ _ _ _ a2 b2 rb2 c2 d2 rd2 ⟨rfl,rfl,rfl,f2⟩
 refine⟨trivial, ?_⟩
 rintro _ _ _ _ _ _ a3 b3 rb3 c3 d3 rd3 ⟨rfl,rfl,rfl,f3⟩
 refine⟨trivial, ?_⟩
 rintro _ _ _ _ _ _ a4 b4 rb4 c4 d4 rd4 ⟨rfl,rfl,rfl,f4⟩
 refine⟨trivial, ?_⟩
 rintro _ _ _ _ _ _ a5 b5 rb5 c5 d5 rd5 ⟨rfl,rfl,rfl,f5⟩
 refine⟨trivial, ?_⟩
 rintro _ _ _ _ _ _ a6 b6 rb6 c6 d6 rd6 ⟨rfl,rfl,rfl,f6⟩
 have nA:okN (bytes [97,103,101]):=by show(3:Int)<=9223372036854775807;decide
 have nT:okN (bytes [116,119,111]):=by show(3:Int)<=9223372036854775807;decide
 refine⟨nA,fun xa xb rxb xc xd rxd xe _ h1=>⟨nT,fun ya yb ryb yc yd ryd ye _ h2=> ?_⟩⟩
 have vA:=age_valid (q0:=fracQ 1 10) (q1:=fracQ 1 5) (q2:=fracQ 1 4) (q3:=fracQ 1 2) (s:=Sl.lit [[.int 0, .int 0, .int 0, .bool a0,Sl.d b0, .bool c0,Sl.d d0],[.int 30, .int 0, .int 0, .bool a1,Sl.d b1, .bool c1,Sl.d d1],[.int 30, .int 0, .int 100, .bool a2,Sl.d b2, .bool c2,Sl.d d2],[.int 60, .int 0, .int 0, .bool a3,Sl.d b3, .bool c3,Sl.d d3]]) rfl ⟨rfl,rfl,rfl⟩ ⟨rfl,rfl,rfl⟩ ⟨rfl,rfl,rfl⟩ ⟨rfl,rfl,rfl⟩ f0 f1 f2 f3
 have vT:=two_valid (q0:=fracQ 1 1) (q1:=fracQ 2 1) (q2:=fracQ 3 1) (s:=Sl.lit [[.int 1, .int 0, .int 0, .bool a4,Sl.d b4, .bool c4,Sl.d d4],[.int 1, .int 5, .int 0, .bool a5,Sl.d b5, .bool c5,Sl.d d5],[.int 3, .int 2, .int 0, .bool a6,Sl.d b6, .bool c6,Sl.d d6]]) rfl ⟨rfl,rfl,rfl⟩ ⟨rfl,rfl,rfl⟩ ⟨rfl,rfl,rfl⟩ f4 f5 f6
 have oA:=And.intro vA (rfl:false=false)
 have oT:=And.intro vT (rfl:true=true)
 have e1:xe=6:=(look_no h1 oA (age_none rfl ⟨rfl,rfl,rfl⟩ ⟨rfl,rfl,rfl⟩ ⟨rfl,rfl,rfl⟩ ⟨rfl,rfl,rfl⟩)).2
 have e2:ye=6:=(look_no h2 oT (two_none rfl ⟨rfl,rfl,rfl⟩ ⟨rfl,rfl,rfl⟩ ⟨rfl,rfl,rfl⟩)).2
 refine⟨fun h=>absurd e1 h,fun _=>⟨fun h=>absurd e2 h,fun _=> ?_⟩⟩
 refine⟨nA,fun a b rb c d rd e _ h=> ?_⟩
 have w:=look_at h oA (age_1 rfl ⟨rfl,rfl,rfl⟩ ⟨rfl,rfl,rfl⟩ ⟨rfl,rfl,rfl⟩ ⟨rfl,rfl,rfl⟩)
 refine⟨fun _=>⟨trivial,fun a' b' rb' c' d' rd' hw=>⟨trivial,fun r hr=>⟨fun _=> ?_,fun h=>absurd (hr.2 (looked (q:=fracQ 1 5) w.1 f1 hw rb rd rb' rd')) h⟩⟩⟩,fun h=>absurd w.2 h⟩
 clear h w hr hw
 refine⟨nA,fun a b rb c d rd e _ h=> ?_⟩
 have w:=look_at h oA (age_2 rfl ⟨rfl,rfl,rfl⟩ ⟨rfl,rfl,rfl⟩ ⟨rfl,rfl,rfl⟩ ⟨rfl,rfl,rfl⟩)
 refine⟨fun _=>⟨trivial,fun a' b' rb' c' d' rd' hw=>⟨trivial,fun r hr=>⟨fun _=> ?_,fun h=>absurd (hr.2 (looked (q:=fracQ 1 4) w.1 f2 hw rb rd rb' rd')) h⟩⟩⟩,fun h=>absurd w.2 h⟩
 clear h w hr hw
 refine⟨nA,fun a b rb c d rd e _ h=> ?_⟩
 have w:=look_at h oA (age_3 rfl ⟨rfl,rfl,rfl⟩ ⟨rfl,rfl,rfl⟩ ⟨rfl,rfl,rfl⟩ ⟨rfl,rfl,rfl⟩)
 refine⟨fun _=>⟨trivial,fun a' b' rb' c' d' rd' hw=>⟨trivial,fun r hr=>⟨fun _=> ?_,fun h=>absurd (hr.2 (looked (q:=fracQ 1 2) w.1 f3 hw rb rd rb' rd')) h⟩⟩⟩,fun h=>absurd w.2 h⟩
 clear h w hr hw
 refine⟨nT,fun a b rb c d rd e _ h=> ?_⟩
 have w:=look_at h oT (two_1 rfl ⟨rfl,rfl,rfl⟩ ⟨rfl,rfl,rfl⟩ ⟨rfl,rfl,rfl⟩)
 refine⟨fun _=>⟨trivial,fun a' b' rb' c' d' rd' hw=>⟨trivial,fun r hr=>⟨fun _=> ?_,fun h=>absurd (hr.2 (looked (q:=fracQ 2 1) w.1 f5 hw rb rd rb' rd')) h⟩⟩⟩,fun h=>absurd w.2 h⟩
 clear h w hr hw
 refine⟨nT,fun a b rb c d rd e _ h=> ?_⟩
 have w:=look_at h oT (two_2 rfl ⟨rfl,rfl,rfl⟩ ⟨rfl,rfl,rfl⟩ ⟨rfl,rfl,rfl⟩ (by decide) (by decide))
 exact⟨fun _=>⟨trivial,fun a' b' rb' c' d' rd' hw=>⟨trivial,fun r hr=>⟨hr.2 (looked (q:=fracQ 3 1) w.1 f6 hw rb rd rb' rd'),trivial⟩⟩⟩,fun h=>absurd w.2 h⟩
theorem force_uniq{s:Sl}{known i j:Int}(h:inForce s known i)(g:inForce s known j)(e0:s.int i 0=s.int j 0)(e1:s.int i 1=s.int j 1):i=j:=by
 rcases Int.lt_trichotomy i j with c|c|c
 ·have:=h.2.2 j c g.1.2 e0.symm e1.symm
  have:=g.2.1
  omega
 ·exact c
 ·have:=g.2.2 i c h.1.2 e0 e1
  have:=h.2.1
  omega
end Go.Sx.N
