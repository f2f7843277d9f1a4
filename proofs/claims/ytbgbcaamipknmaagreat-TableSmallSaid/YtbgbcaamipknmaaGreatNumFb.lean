/-
 The conditions of sums, differences and products of words, and of whole numbers. Conditions: none.
 The conditions of whole numbers out of ints and back. Conditions: none.
 Fractions as rational numbers: what their parts tell. Conditions: none.
 The conditions of the functions on fractions. Conditions: none.
 The condition of rounding. Conditions: none.
-/
import Derived.Test.YtbgbcaamipknmaaGreatNumFa
import Derived.Test.YtbgbcaamipknmaaGreatNumVB
import Derived.Test.YtbgbcaamipknmaaGreatNumBase
import Derived.Test.YtbgbcaamipknmaaGreatNumVC
set_option linter.unusedVariables false
set_option linter.unusedSimpArgs false
namespace Go.Sx.N
theorem val_app1(B:Int)(w:Sl)(d:Int):val B (Sl.app w (Sl.lit [[.int d]]))=val B w+d*B^w.n:=by
 show valN B (dg (Sl.app w (Sl.lit [[.int d]]))) (w.n+1)=_
 rw[valN_succ]
 have e:dg (Sl.app w (Sl.lit [[.int d]])) w.n=d:=by
  show Sl.int _ ((w.n:Nat):Int) 0=d
  rw[int_app_ge (by unfold Sl.len;omega)]
  have:((w.n:Nat):Int)-w.len=0:=by unfold Sl.len;omega
  rw[this]
  rfl
 rw[e]
 congr 1
 exact valN_congr fun k hk=>int_app_lt (Int.natCast_nonneg _) (by unfold Sl.len;omega)
theorem len_app1(w:Sl)(c:List D):(Sl.app w (Sl.lit [c])).len=w.len+1:=by
 rw[len_app];rfl
theorem Clone16_ok:V_Clone16:=by
 intro s r hp b
 have h0:=len0 s
 have hl:(Sl.lit []).len=0:=rfl
 unfold p_Clone16 Lim at hp
 exact⟨fun _ h=>⟨sameI_nil h,trivial⟩,fun _=>⟨by omega,sameI_app hl,trivial⟩⟩
theorem wValid_ok:V_wValid:=by
 intro neg l rl _ hsm
 have hm:=small64 hsm
 have h0:=len0 l
 simp only[q_wValid,okW,NW,Bool.decide_eq_true,decide_eq_true_eq,decide_false,Bool.false_eq_true,false_iff]
 refine⟨fun hz=>⟨?_,trivial⟩,fun hnz=>⟨fun hle=>⟨rsL _ (by omega),by omega,by omega,fun _=>⟨?_,trivial⟩⟩,fun hgt=>⟨fun h=>hgt h.2,trivial⟩⟩⟩
 ·constructor
  ·intro h
   exact⟨⟨fun h'=>absurd h' (by omega),fun _=>by simpa using h⟩,by omega⟩
  ·intro h
   simp[h.1.2 hz]
 ·constructor
  ·intro h
   exact⟨⟨fun _=>h,fun h'=>absurd h' (by omega)⟩,hle⟩
  ·intro h
   exact h.1.1 (by omega)
theorem wAllValid_ok:V_wAllValid:=by
 intro s rs _ hsm
 have hm:=small64 hsm
 have h0:=len0 s
 simp only[q_wAllValid,q_wValid,Bool.decide_eq_true,decide_eq_true_eq,decide_false,decide_true,Bool.false_eq_true,false_iff,true_iff]
 refine⟨fun i=>0<=i/\i<=s.len/\∀k:Int,0<=k->k<i->okW (s.bool k 0) (s.sub k 1),fun i=>(s.len-i).toNat,⟨by omega,h0,fun k h1 h2=>absurd h1 (by omega)⟩,fun i _ hj=> ?_⟩
 obtain⟨i0,i1,hk⟩:=hj
 refine⟨fun hlt=>⟨i0,hlt,fun _=>⟨trivial,fun b hb=>⟨fun hn=>⟨fun h=>hn (hb.2 (h i i0 hlt)),trivial⟩,fun hn=>⟨rsL _ (by omega),⟨by omega,by omega,fun k k0 k1=> ?_⟩, ?_⟩⟩⟩⟩,fun hge=>⟨fun k k0 k1=>hk k k0 (by omega),trivial⟩⟩
 ·by_cases e:k=i
  ·rw[e];exact hb.1 (Classical.not_not.1 hn)
  ·exact hk k k0 (by omega)
 ·show(s.len-(i+1)).toNat<(s.len-i).toNat
  omega
theorem lit2_valid{n m:Bool}{a b:Sl}:(∀i:Int,0<=i->i<(Sl.lit [[.bool n,Sl.d a],[.bool m,Sl.d b]]).len->okW ((Sl.lit [[.bool n,Sl.d a],[.bool m,Sl.d b]]).bool i 0) ((Sl.lit [[.bool n,Sl.d a],[.bool m,Sl.d b]]).sub i 1))↔okW n a/\okW m b:=by
 have e:(Sl.lit [[.bool n,Sl.d a],[.bool m,Sl.d b]]).len=2:=rfl
 rw[e]
 constructor
 ·intro h
  exact⟨h 0 (by decide) (by decide),h 1 (by decide) (by decide)⟩
 ·intro h i i0 i1
  rcases(show i=0\/i=1 by omega)with rfl|rfl
  ·exact h.1
  ·exact h.2
def sg(neg:Bool)(x:Int):Int:=if neg=true then-x else x
theorem val_lt_cap{k:Nat}{l:Sl}(dl:Dig 65536 l)(h:l.len<=k):vl l<65536^k:=by
 have h1:=(dl.bound (B:=65536) (by decide)).2
 have h2:=pow_mono (B:=65536) (by decide) (show l.n<=k by unfold Sl.len at h;omega)
 exact Int.lt_of_lt_of_le h1 h2
theorem shW.ok{n:Bool}{a:Sl}(h:shW n a):okW n a:=⟨h.1,by have:=h.2;omega⟩
theorem wGcd_ok:V_wGcd:=by
 intro n a ra m b rb hp
 simp only[Bool.decide_eq_true]at hp⊢
 obtain⟨ha,hb⟩:=hp
 simp only[q_wAllValid,lit2_valid]
 have la:Lim a:=by have:=ha.2;unfold Lim;omega
 have lb:Lim b:=by have:=hb.2;unfold Lim;omega
 have hva:0<=vl a:=((ranged16 ra).bound (by decide)).1
 have hvb:0<=vl b:=((ranged16 rb).bound (by decide)).1
 have hca:vl a<cap:=by rw[cap_eq];exact val_lt_cap (ranged16 ra) ha.2
 have hcb:vl b<cap:=by rw[cap_eq];exact val_lt_cap (ranged16 rb) hb.2
 refine⟨trivial,fun v hv=>⟨fun hn=>absurd (hv.2 ⟨ha,hb⟩) hn,fun _=>⟨la,fun x _ hx=>⟨lb,fun y _ hy=>⟨⟨?_, ?_,hx.2.1 ha.1.1,hy.2.1 hb.1.1⟩,fun r rr hr=>⟨?_,fun neg l rl hq=>⟨?_,trivial⟩⟩⟩⟩⟩⟩⟩
 ·have:=hx.2.2;unfold Lim at*;omega
 ·have:=hy.2.2;unfold Lim at*;omega
 ·show Lim r
  have h1:=hr.1
  rw[hx.1,hy.1]at h1
  have hcap:vw r<cap:=by
   rw[h1]
   by_cases hz:vl a=0
   ·rw[hz,Int.gcd_zero_left];omega
   ·have:=Nat.le_of_dvd (show 0<(vl a).natAbs by omega) (Int.natCast_dvd_natCast.1 (by rw[Int.dvd_natAbs];exact Int.gcd_dvd_left (vl a) (vl b)))
    omega
  have:r.len<=(512:Nat):=(len_le_of_val (B:=4294967296) (by decide) (ranged32 rr) hr.2 512).2 (by rw[cap_eq,show(1024:Nat)=2*512 from rfl,pow16]at hcap;exact hcap)
  unfold Lim
  omega
 ·have hnf:neg=false:=by
   have:=hq.2.2
   cases neg
   ·rfl
   ·exact absurd (this.1 rfl).1 (by decide)
  exact⟨⟨hq.1,fun _=>hnf⟩,hnf,by rw[hq.2.1,hr.1,hx.1,hy.1],rfl⟩
end Go.Sx.N
namespace Go.Sx.N
theorem wi64(x:Int):IntKind.wrap .i64 x=(x+9223372036854775808) % 18446744073709551616-9223372036854775808:=by rw[IntKind.wrap_i64]
end Go.Sx.N
namespace Go.Sx.N
theorem NW.same{n m:Bool}{a b:Sl}(ra:Dig 65536 a)(rb:Dig 65536 b)(ha:NW n a)(hb:NW m b)(h:zv n a=zv m b):n=m/\SameI a b:=by
 have a0:=(ra.bound (B:=65536) (by decide)).1
 have b0:=(rb.bound (B:=65536) (by decide)).1
 have za:=val_zero_iff (B:=65536) (by decide) ra ha.1
 have zb:=val_zero_iff (B:=65536) (by decide) rb hb.1
 have a0:0<=vl a:=a0
 have b0:0<=vl b:=b0
 have za:vl a=0↔a.len=0:=za
 have zb:vl b=0↔b.len=0:=zb
 unfold zv at h
 have hv:vl a=vl b:=by
  cases n<;>cases m<;>simp at h<;>omega
 have hs:n=m:=by
  cases n<;>cases m<;>simp at h
  ·rfl
  ·have:a.len=0:=za.1 (by omega)
   have:b.len=0:=zb.1 (by omega)
   exact absurd (hb.2 this) (by decide)
  ·have:a.len=0:=za.1 (by omega)
   exact absurd (ha.2 this) (by decide)
  ·rfl
 exact⟨hs,same_of_val (B:=65536) (by decide) ra ha.1 rb hb.1 hv⟩
theorem natAbs_zv{n:Bool}{a:Sl}(ra:Dig 65536 a):((zv n a).natAbs:Int)=vl a:=by
 have:0<=vl a:=(ra.bound (B:=65536) (by decide)).1
 unfold zv
 split<;>omega
theorem IsQ.fq{q:Rat}{nn dn:Bool}{nl dl:Sl}(h:IsQ q nn nl dn dl):fq nn nl dl=q:=by
 unfold N.fq
 rw[h.2.1,h.2.2.2.2]
 exact Rat.num_divInt_den q
theorem lowF.isQ{nn dn:Bool}{nl dl:Sl}(h:lowF nn nl dn dl):IsQ (fq nn nl dl) nn nl dn dl:=by
 obtain⟨q,hq⟩:=h
 rw[hq.fq]
 exact hq
theorem okF.isQ{nn dn:Bool}{nl dl:Sl}(h:okF nn nl dn dl):IsQ (fq nn nl dl) nn nl dn dl:=h.1.isQ
theorem IsQ.lowF{q:Rat}{nn dn:Bool}{nl dl:Sl}(h:IsQ q nn nl dn dl):lowF nn nl dn dl:=⟨q,h⟩
theorem IsQ.den_pos{q:Rat}{nn dn:Bool}{nl dl:Sl}(h:IsQ q nn nl dn dl):0<vl dl:=by
 rw[h.2.2.2.2]
 have:=q.den_pos
 omega
theorem IsQ.den_len{q:Rat}{nn dn:Bool}{nl dl:Sl}(h:IsQ q nn nl dn dl)(rd:Dig 65536 dl):0<dl.len:=(val_pos_iff (B:=65536) (by decide) rd h.2.2.2.1).1 h.den_pos
theorem IsQ.nwd{q:Rat}{nn dn:Bool}{nl dl:Sl}(h:IsQ q nn nl dn dl):NW dn dl:=⟨h.2.2.2.1,fun _=>h.2.2.1⟩
theorem IsQ.zd{q:Rat}{nn dn:Bool}{nl dl:Sl}(h:IsQ q nn nl dn dl):zv dn dl=(q.den:Int):=by
 rw[<-h.2.2.2.2]
 unfold zv
 rw[h.2.2.1]
 simp
theorem IsQ.gcd{q:Rat}{nn dn:Bool}{nl dl:Sl}(h:IsQ q nn nl dn dl)(rn:Dig 65536 nl):Int.gcd (vl nl) (vl dl)=1:=by
 have hr:=q.reduced
 rw[h.2.2.2.2,<-natAbs_zv (n:=nn) rn,h.2.1]
 simpa[Int.gcd]using hr
theorem isQ_of_gcd{nn dn:Bool}{nl dl:Sl}(rn:Dig 65536 nl)(hn:NW nn nl)(hdn:dn=false)(hd:Nrm dl)(hp:0<vl dl)(hg:Int.gcd (vl nl) (vl dl)=1):IsQ (fq nn nl dl) nn nl dn dl:=by
 have hg':Int.gcd (vl dl) (zv nn nl)=1:=by
  rw[Int.gcd_comm]
  have:Int.gcd (zv nn nl) (vl dl)=Int.gcd (vl nl) (vl dl):=by
   unfold zv
   split
   ·exact Int.neg_gcd
   ·rfl
  rw[this,hg]
 refine⟨hn, ?_,hdn,hd, ?_⟩
 ·unfold fq
  rw[Rat.num_divInt,hg',Int.sign_eq_one_of_pos hp]
  simp
 ·unfold fq
  rw[Rat.den_divInt,hg',if_neg (by omega)]
  simp
  omega
theorem IsQ.len_num{q:Rat}{nn dn:Bool}{nl dl:Sl}(h:IsQ q nn nl dn dl)(rn:Dig 65536 nl):nl.len<=256↔(q.num.natAbs:Int)<cap256:=by
 rw[<-h.2.1,natAbs_zv rn,cap256_eq]
 exact len_le_of_val (B:=65536) (by decide) rn h.1.1 256
theorem IsQ.len_den{q:Rat}{nn dn:Bool}{nl dl:Sl}(h:IsQ q nn nl dn dl)(rd:Dig 65536 dl):dl.len<=256↔(q.den:Int)<cap256:=by
 rw[<-h.2.2.2.2,cap256_eq]
 exact len_le_of_val (B:=65536) (by decide) rd h.2.2.2.1 256
theorem IsQ.fit{q:Rat}{nn dn:Bool}{nl dl:Sl}(h:IsQ q nn nl dn dl)(rn:Dig 65536 nl)(rd:Dig 65536 dl):(nl.len<=256/\dl.len<=256)↔fitQ q:=by
 unfold fitQ
 rw[h.len_num rn,h.len_den rd]
theorem IsQ.ok{q:Rat}{nn dn:Bool}{nl dl:Sl}(h:IsQ q nn nl dn dl)(rn:Dig 65536 nl)(rd:Dig 65536 dl)(hf:fitQ q):okF nn nl dn dl:=⟨h.lowF,(h.fit rn rd).2 hf⟩
theorem okF.fit{nn dn:Bool}{nl dl:Sl}(h:okF nn nl dn dl)(rn:Dig 65536 nl)(rd:Dig 65536 dl):fitQ (fq nn nl dl):=(h.isQ.fit rn rd).1 h.2
theorem IsQ.same{q:Rat}{a c a' c':Bool}{b d b' d':Sl}(h:IsQ q a b c d)(h':IsQ q a' b' c' d')(rb:Dig 65536 b)(rd:Dig 65536 d)(rb':Dig 65536 b')(rd':Dig 65536 d'):(a=a'/\SameI b b')/\c=c'/\SameI d d':=
 ⟨NW.same rb rb' h.1 h'.1 (by rw[h.2.1,h'.2.1]),by rw[h.2.2.1,h'.2.2.1],(NW.same rd rd' h.nwd h'.nwd (by rw[h.zd,h'.zd])).2⟩
theorem IsQ.of_same{q:Rat}{a c a' c':Bool}{b d b' d':Sl}(h:IsQ q a b c d)(e1:a'=a)(s1:SameI b' b)(e2:c'=c)(s2:SameI d' d):IsQ q a' b' c' d':=by
 subst e1 e2
 have v1:vl b'=vl b:=s1.val _
 have v2:vl d'=vl d:=s2.val _
 refine⟨⟨s1.nrm h.1.1,fun hz=>h.1.2 (by rw[<-s1.1];exact hz)⟩, ?_,h.2.2.1,s2.nrm h.2.2.2.1,by rw[v2];exact h.2.2.2.2⟩
 unfold zv
 rw[v1]
 exact h.2.1
theorem ok_iff{nn dn:Bool}{nl dl:Sl}(rn:Dig 65536 nl)(rd:Dig 65536 dl):okF nn nl dn dl↔nl.len<=256/\dl.len<=256/\NW nn nl/\NW dn dl/\dn=false/\dl.len≠0/\Int.gcd (vl nl) (vl dl)=1:=by
 constructor
 ·intro h
  have hq:=h.isQ
  have:=hq.den_len rd
  exact⟨h.2.1,h.2.2,hq.1,hq.nwd,hq.2.2.1,by omega,hq.gcd rn⟩
 ·rintro⟨h1,h2,h3,h4,h5,h6,h7⟩
  have h0:=len0 dl
  exact⟨(isQ_of_gcd rn h3 h5 h4.1 ((val_pos_iff (B:=65536) (by decide) rd h4.1).2 (by omega)) h7).lowF,h1,h2⟩
theorem one_iff{l:Sl}(rl:Dig 65536 l)(hn:Nrm l):(l.len=1/\l.int 0 0=1)↔vl l=1:=by
 have one:∀h:l.len=1,vl l=l.int 0 0:=fun h=>by
  unfold vl
  rw[val_vto,h]
  have:=vto_succ 65536 l (i:=0) (by omega)
  rw[vto_zero]at this
  have e2:(0:Int)+1=1:=rfl
  rw[e2]at this
  rw[this]
  show 0+l.int 0 0*65536^0=l.int 0 0
  rw[Int.pow_zero]
  omega
 constructor
 ·intro h
  rw[one h.1,h.2]
 ·intro h
  have h1:=(len_le_of_val (B:=65536) (by decide) rl hn 1).2 (by
   have h:val 65536 l=1:=h
   rw[h];decide)
  have h2:=(val_pos_iff (B:=65536) (by decide) rl hn).1 (by
   have h:val 65536 l=1:=h
   rw[h];decide)
  have h3:l.len=1:=by omega
  exact⟨h3,by rw[<-one h3];exact h⟩
theorem isQ_of_div{nn dn:Bool}{nl dl:Sl}{N D g:Int}(rd:Dig 65536 dl)(hn:NW nn nl)(hd:NW dn dl)(hD:0<D)(hg:g=(Int.gcd N D:Nat))(h1:zv nn nl=N/g)(h2:zv dn dl=D/g):IsQ (Rat.divInt N D) nn nl dn dl:=by
 have hg0:0<g:=by
  have:0<Int.gcd N D:=Int.gcd_pos_of_ne_zero_right _ (by omega)
  omega
 have hgD:g∣D:=by rw[hg];exact Int.gcd_dvd_right ..
 have hDg:0<D/g:=Int.ediv_pos_of_pos_of_dvd hD (by omega) hgD
 have hdv:0<=vl dl:=(rd.bound (B:=65536) (by decide)).1
 have hdn:dn=false:=by
  cases dn
  ·rfl
  ·unfold zv at h2
   simp at h2
   omega
 have hgc:((D.gcd N:Nat):Int)=g:=by rw[hg,Int.gcd_comm]
 refine⟨hn, ?_,hdn,hd.1, ?_⟩
 ·rw[Rat.num_divInt,Int.sign_eq_one_of_pos hD,hgc,Int.one_mul,h1]
 ·rw[Rat.den_divInt,if_neg (by omega)]
  have e:vl dl=D/g:=by
   rw[<-h2]
   unfold zv
   rw[hdn]
   simp
  rw[e]
  have:D.natAbs/D.gcd N=(D/g).natAbs:=by
   have e1:g=((D.gcd N:Nat):Int):=hgc.symm
   have e2:D=((D.natAbs:Nat):Int):=by omega
   have e3:D/g=((D.natAbs/D.gcd N:Nat):Int):=by rw[Int.natCast_ediv,<-e2,<-e1]
   rw[e3]
   exact(Int.natAbs_natCast _).symm
  rw[this]
  omega
end Go.Sx.N
namespace Go.Sx.N
theorem fDivisor_ok:V_fDivisor:=by
 intro n a ra m b rb hp
 simp only[Bool.decide_eq_true]at hp⊢
 exact⟨hp,fun neg l rl e re hq=>⟨⟨hq.1,hq.2.1,hq.2.2.1⟩,trivial⟩⟩
theorem fValid_ok:V_fValid:=by
 intro nn nl rn dn dl rd _
 simp only[Bool.decide_eq_true]
 have hn:=ranged16 rn
 have hd:=ranged16 rd
 have h0:=len0 dl
 have key:=ok_iff (nn:=nn) (dn:=dn) hn hd
 have no:¬okF nn nl dn dl->q_fValid nn nl dn dl (decide False)/\True:=fun h=>⟨by simp only[q_fValid,decide_false,Bool.false_eq_true,false_iff];exact h,trivial⟩
 refine fun _=>⟨fun h=>no fun hk=>by have:=key.1 hk;omega,fun h1 _=>⟨fun h=>no fun hk=>by have:=key.1 hk;omega,fun h2=>⟨trivial,fun v hv=>⟨fun h=>no fun hk=>h (hv.2 ⟨(key.1 hk).2.2.1,by omega⟩),fun h3=>⟨trivial,fun w hw=>⟨fun h=>no fun hk=>h (hw.2 ⟨(key.1 hk).2.2.2.1,by omega⟩),fun h4=>⟨fun h=>no fun hk=>by have:=(key.1 hk).2.2.2.2.1;rw[this]at h;exact absurd h (by decide),fun h5 _=>⟨fun h=>no fun hk=>by have:=key.1 hk;omega,fun h6=> ?_⟩⟩⟩⟩⟩⟩⟩⟩
 have w1:=hv.1 (Classical.not_not.1 h3)
 have w2:=hw.1 (Classical.not_not.1 h4)
 have hdn:dn=false:=by simpa using h5
 have gcdCase:p_fDivisor nn nl dn dl/\∀(gn:Bool)(g:Sl),Ranged g [some .u16]->q_fDivisor nn nl dn dl gn g->
   ((¬gn=true->Small g->((g.len=1->(0:Int)<=0/\(0:Int)<g.len/\(Rng .u16 (g.int 0 0)->q_fValid nn nl dn dl (decide (g.int 0 0=1))/\True))/\(¬g.len=1->q_fValid nn nl dn dl (decide False)/\True)))/\(¬¬gn=true->q_fValid nn nl dn dl (decide False)/\True)):=by
  refine⟨⟨w1,w2⟩,fun gn g rg hg=> ?_⟩
  obtain⟨g1,g2,g3⟩:=hg
  have one:=one_iff (ranged16 rg) g1.1
  have hk:okF nn nl dn dl↔vl g=1:=by
   rw[key,g3]
   constructor
   ·intro h;have:=h.2.2.2.2.2.2;omega
   ·intro h;exact⟨by omega,by omega,w1.1,w2.1,hdn,by omega,by omega⟩
  refine⟨fun _ _=>⟨fun hl=>⟨by decide,by omega,fun _=>⟨?_,trivial⟩⟩,fun hl=>no fun h=>hl (one.2 (hk.1 h)).1⟩,fun h=>absurd (by rw[g2];decide) h⟩
  simp only[q_fValid,decide_eq_true_eq]
  rw[hk,<-one]
  exact⟨fun h=>⟨hl,h⟩,fun h=>h.2⟩
 refine⟨fun _ _=>⟨fun hl=>⟨by decide,by omega,fun _=>⟨fun h1'=>⟨?_,trivial⟩,fun _=>gcdCase⟩⟩,fun _=>gcdCase⟩,fun _=>gcdCase⟩
 have hv1:=(one_iff hd w2.1.1).1 ⟨hl,h1'⟩
 simp only[q_fValid,decide_true,true_iff]
 rw[key,hv1,Int.gcd_one_right]
 exact⟨by omega,by omega,w1.1,w2.1,hdn,by omega,rfl⟩
theorem isQ_int{n:Int}{nn dn:Bool}{nl dl:Sl}(rd:Dig 65536 dl)(h1:NW nn nl)(h2:zv nn nl=n)(h3:NW dn dl)(h4:zv dn dl=1):IsQ (n:Rat) nn nl dn dl:=by
 have h0:0<=vl dl:=(rd.bound (B:=65536) (by decide)).1
 have hd:dn=false:=by
  cases dn
  ·rfl
  ·unfold zv at h4;simp at h4;omega
 refine⟨h1,by rw[h2];rfl,hd,h3.1, ?_⟩
 have:zv dn dl=vl dl:=by unfold zv;rw[hd];simp
 rw[<-this,h4]
 rfl
theorem zeroF_nil:zeroF false Sl.nil false Sl.nil:=⟨rfl,rfl,rfl,rfl⟩
theorem zv_zero{n:Bool}{l:Sl}(h:l.len=0):zv n l=0:=by
 have e:vl l=0:=by
  unfold vl
  rw[val_vto,h]
  rfl
 unfold zv
 rw[e]
 simp
end Go.Sx.N
namespace Go.Sx.N
end Go.Sx.N
