/-
 Several texts in one. Conditions: none.
-/
import Derived.Test.YtccbjhfdfbaekaaGreatTabSpec
import Derived.Test.YtccbjhfdfbaekaaGreatNumFc
import Derived.Test.YtccbjhfdfbaekaaGreatNumVA
import Derived.Test.YtccbjhfdfbaekaaGreatLedF
import Derived.Test.YtccbjhfdfbaekaaGreatArrT
open Go.Sx.Sl renaming lit->zA,d->zB,mget->zC,nil->zG,len->zH,bool->zL,sub->zP,mset->zR,app->z0
open Classical renaming not_not->zD,choose->zE
open Bool renaming decide_eq_true->zF
open Int renaming ofNat_lt->zI,natAbs_natCast->z3,le_refl->z4,natAbs_mul->z6,natCast_pow->z8,tdiv_eq_ediv_of_nonneg->qL
open Rat renaming divInt->z5,intCast_lt_intCast->z7,num_intCast->qG,den_intCast->qH
open Nat renaming mul_lt_mul''->z9,lt_trans->qD,le_refl->qE
open List renaming length_append->qI,length_cons->qJ,length_nil->qK
set_option linter.unusedVariables false
set_option linter.unusedSimpArgs false
namespace Go.Sx.N
theorem avO(a b:Int):(z5 a b).num.natAbs<=a.natAbs:=by
 rw[Rat.num_divInt];refine Nat.le_trans (Int.natAbs_ediv_le_natAbs _ _) ?_
 rw[z6];rcases Int.lt_trichotomy b 0 with h|h|h
 ·rw[Int.sign_eq_neg_one_of_neg h];simp
 ·subst h;simp
 ·rw[Int.sign_eq_one_of_pos h];simp
theorem avP{a b:Int}(hb:b≠0):(z5 a b).den<=b.natAbs:=by
 rw[Rat.den_divInt,if_neg hb];exact Nat.div_le_self _ _
theorem asD{a b:Int}(hb:b≠0)(h1:a.natAbs<65536^256)(h2:b.natAbs<65536^256):bM (z5 a b):=by
 have c:BF=((65536^256:Nat):Int):=by rw[DU];exact(z8 65536 256).symm
 have:=avO a b;have:=avP (a:=a) hb;exact⟨by rw[c];exact zI.2 (by omega),by rw[c];exact zI.2 (by omega)⟩
def Ip(q:Rat):Prop:=q.num.natAbs<65536^120/\q.den<65536^120
theorem VZ(q:Rat):(q.den:Int)≠0:=by have:=q.den_pos;omega
theorem ald{p q:Rat}(hp:Ip p)(hq:Ip q):bM (p-q):=by
 have e:p-q=z5 (p.num*q.den-q.num*p.den) ((p.den:Int)*q.den):=by
  have:=Rat.divInt_sub_divInt p.num q.num (VZ p) (VZ q);rw[Rat.num_divInt_den,Rat.num_divInt_den]at this;exact this
 rw[e];have m1:p.num.natAbs*q.den<65536^120*65536^120:=z9 hp.1 hq.2;have m2:q.num.natAbs*p.den<65536^120*65536^120:=z9 hq.1 hp.2;have m3:p.den*q.den<65536^120*65536^120:=z9 hp.2 hq.2;have c:65536^120*65536^120+65536^120*65536^120<65536^256:=by decide+kernel
 have n1:(p.num*(q.den:Int)).natAbs=p.num.natAbs*q.den:=by rw[z6,z3]
 have n2:(q.num*(p.den:Int)).natAbs=q.num.natAbs*p.den:=by rw[z6,z3]
 have n3:((p.den:Int)*q.den).natAbs=p.den*q.den:=by rw[z6,z3,z3]
 have a1:(p.num*(q.den:Int)-q.num*(p.den:Int)).natAbs<=p.num.natAbs*q.den+q.num.natAbs*p.den:=by
  have:=Int.natAbs_sub_le (p.num*(q.den:Int)) (q.num*(p.den:Int));rw[n1,n2]at this;exact this
 refine asD (Int.mul_ne_zero (VZ p) (VZ q)) ?_ ?_
 ·exact Nat.lt_of_le_of_lt a1 (qD (Nat.add_lt_add m1 m2) c)
 ·rw[n3]
  exact qD m3 (by decide+kernel)
def tH(f:Nat->Rat):Nat->Rat
 |0=>0
 |n+1=>tH f n+f n
theorem aiF{s:Sl}{known due:Int}{f:Nat->Rat}:∀{n:Nat},(∀j:Nat,j<n->kQ s known (1900+(due+j)/12)=some (f j))->(∀j:Nat,j<=n->bM (tH f j))->fH s known due n= .ok (tH f n)
 |0,_,_=>rfl
 |n+1,hr,hf=>by
  have ih:=aiF (n:=n) (fun j hj=>hr j (by omega)) (fun j hj=>hf j (by omega))
  unfold fH;rw[ih];simp only[hr n (by omega)];exact if_pos (hf (n+1) (qE _))
theorem aoc{s:Sl}{known due:Int}{f:Nat->Rat}{n:Nat}(hr:∀j:Nat,j<n->kQ s known (1900+(due+j)/12)=some (f j))(hs:∀j:Nat,j<=n->Ip (tH f n-tH f j)):fH s known due n= .ok (tH f n):=by
 refine aiF hr fun j hj=> ?_
 have e:tH f j=(tH f n-tH f 0)-(tH f n-tH f j):=by
  show tH f j=(tH f n-0)-(tH f n-tH f j)
  grind
 rw[e];exact ald (hs 0 (Nat.zero_le _)) (hs j hj)
theorem asE{q:Rat}{a c:Bool}{b d:Sl}(h:aK q a b c d)(rb:Ranged b [some .u16])(rd:Ranged d [some .u16])(hb:b.len<=120)(hd:d.len<=120):Ip q:=by
 have z1:=zK (n:=a) (aj rb) (k:=120) hb;have z2:=zK (n:=false) (aj rd) (k:=120) hd;have e2:zv false d=(q.den:Int):=h.2.2.2.2;rw[h.2.1]at z1;rw[e2,z3]at z2;have c:((65536:Int)^120)=((65536^120:Nat):Int):=(z8 65536 120).symm;rw[c]at z1 z2;exact⟨zI.1 z1,zI.1 z2⟩
theorem amB:ae6:=by
 intro a b _ c d _ _ _;refine⟨fun h _=>⟨?_,trivial⟩,fun h=>⟨?_,trivial⟩⟩
 ·show decide (d.len<=120)=true↔_
  rw[decide_eq_true_iff];exact⟨fun g=>⟨h,g⟩,fun g=>g.2⟩
 ·show decide False=true↔_
  exact⟨fun g=>absurd g (by decide),fun g=>absurd g.1 h⟩
theorem amC:ae7:=by
 intro s _ _ sm;have s0:=len0 s;have sm:s.n<=140737488355328:=sm;refine⟨fun i=>0<=i/\i<=s.len/\∀j:Int,0<=j->j<i->s.int j 0=0,fun i=>(s.len-i).toNat,⟨z4 _,s0,fun j j0 j1=>by omega⟩,fun i ri⟨i0,i1,hz⟩=>⟨fun hi=>⟨i0,hi,fun _=>⟨fun h=>⟨.inl ⟨i,i0,hi,rfl,h,hz⟩,trivial⟩,fun h=>⟨?_,⟨by omega,by omega,fun j j0 j1=> ?_⟩, ?_⟩⟩⟩,fun hi=>⟨.inr ⟨rfl,fun j j0 j1=>hz j j0 (by omega)⟩,trivial⟩⟩⟩
 ·have:s.len=(s.n:Int):=rfl
  rw[au];omega
 ·by_cases e:j=i
  ·subst e;exact zD.1 h
  ·exact hz j j0 (by omega)
 ·show(s.len-(i+1)).toNat<(s.len-i).toNat
  omega
theorem asF{q:Rat}(h:q.floor<0):q.num<=q.floor:=by
 have e:=Int.mul_ediv_add_emod q.num q.den;have dp:(0:Int)<q.den:=by have:=q.den_pos;omega
 have r0:=Int.emod_nonneg q.num (show(q.den:Int)≠0 by omega);have r1:=Int.emod_lt_of_pos q.num dp;have f:q.floor=q.num/q.den:=YC (by omega) r0 r1;rw[f]at h⊢;generalize q.num/(q.den:Int)=k at*;have m:=Int.mul_le_mul_of_nonneg_left (show k<=-1 by omega) (show(0:Int)<=(q.den:Int)-1 by omega);rw[Int.sub_mul]at m;omega
theorem ac9{q:Rat}(hq:bM q)(h:aO q 5<0):bM ((aO q 5:Int):Rat):=by
 have a:q.floor<=aO q 5:=by
  unfold aO;rw[if_neg (by decide)];split<;>omega
 have b:=asF (q:=q) (by omega);have c:=hq.1;refine⟨?_, ?_⟩
 ·rw[qG];omega
 ·rw[qH]
  have:=hq.2;have:=q.den_pos;omega
theorem Gy{n:Int}(h:n.natAbs<65536^8):bM (n:Rat):=by
 have c:BF=((65536^256:Nat):Int):=by rw[DU];exact(z8 65536 256).symm
 refine⟨?_, ?_⟩
 ·rw[qG,c]
  exact zI.2 (qD h (by decide+kernel))
 ·rw[qH,c]
  exact zI.2 (by decide+kernel)
theorem YL{a c:Bool}{b d:Sl}{n1 n2:Bool}{l1 l2:Sl}(rb:Ranged b [some .u16])(rd:Ranged d [some .u16])(h1:bF 1 n1 l1 n2 l2):GY a b c d n1 l1 n2 l2:=by
 unfold GY;simp only[zF];have i1:aK 1 n1 l1 n2 l2:=h1.1;refine⟨⟨i1,by have:=h1.2.1;omega,by have:=h1.2.2;omega, .inr rfl⟩,fun rn rl rrl rd' rk rrk e _ hr=> ?_⟩
 by_cases ok:okF a b c d
 ·obtain⟨q,hq⟩:∃q,q=fq a b d:=⟨_,rfl⟩
  have fq':bM q:=by
   have:=(ok.iO.fit (aj rb) (aj rd)).1 ⟨ok.2.1,ok.2.2⟩;rw[hq];exact this
  have r:=hr.1 ok;rw[<-hq]at r;have ans:∀{v e:Int},afA q v e->yI a b c d v e/\True:=fun h=>⟨⟨fun _=>by rw[<-hq];exact h,fun k=>absurd ok k⟩,trivial⟩
  by_cases hf:bM ((aO q 5:Int):Rat)
  ·obtain⟨iR,e0⟩:=r.1 hf
   have oR:=iR.ok (aj rrl) (aj rrk) hf;refine⟨fun h=>absurd e0 h,fun _=>⟨trivial,fun zn zl rzl zd zk rzk hz=>⟨trivial,fun x _ hx=> ?_⟩⟩⟩
   have iz:aK ((0:Int):Rat) zn zl zd zk:=hz.1;have oz:=iz.ok (aj rzl) (aj rzk) (Gy (by decide));have sx:=hx.1 ⟨oR,oz⟩;rw[iR.fq,iz.fq]at sx;unfold Gm at sx;rw[z7,z7,Rat.intCast_inj]at sx;refine⟨fun h=>ans ⟨fun _=>⟨rfl,rfl⟩,fun k=>by omega,fun k=>by omega⟩,fun hx0=>⟨trivial,fun mn ml rml md mk rmk hm=>⟨trivial,fun y _ hy=> ?_⟩⟩⟩
   have im:aK ((1099511627776:Int):Rat) mn ml md mk:=hm.1;have om:=im.ok (aj rml) (aj rmk) (Gy (by decide));have sy:=hy.1 ⟨oR,om⟩;rw[iR.fq,im.fq]at sy;unfold Gm at sy;rw[z7,z7,Rat.intCast_inj]at sy;refine⟨fun h=>ans ⟨fun k=>by omega,fun _=>⟨rfl,rfl⟩,fun _ k=>by omega⟩,fun hy0=>⟨trivial,fun v _ e' _ hv=> ?_⟩⟩
   have hv:=(hv.2 oR).2;rw[iR.fq,qH,qG]at hv;have hv:=(hv rfl).1 ⟨by omega,by omega⟩;exact ans ⟨fun k=>by omega,fun k=>by omega,fun _ _=>hv⟩
  ·obtain⟨z,e3⟩:=r.2 hf
   refine⟨fun _=>ans ⟨fun k=>absurd (ac9 fq' k) hf,fun _=>⟨rfl,e3⟩,fun k1 k2=>absurd (Gy ?_) hf⟩,fun h=>by omega⟩
   have:(aO q 5).natAbs<=1099511627776:=by omega
   exact Nat.lt_of_le_of_lt this (by decide)
 ·obtain⟨z,e2⟩:=hr.2 ok
  exact⟨fun _=>⟨⟨fun k=>absurd k ok,fun _=>⟨rfl,e2⟩⟩,trivial⟩,fun h=>by omega⟩
theorem aj3:acD:=by
 intro a b rb c d rd _;simp only[zF];exact⟨⟨trivial,fun n1 l1 _ n2 l2 _ h1=>⟨YL rb rd h1,YL rb rd h1⟩⟩,trivial,fun n1 l1 _ n2 l2 _ h1=>YL rb rd h1⟩
theorem avQ{ok:Prop}{C:Int->Prop}{s:Sl}{a c:Bool}{b d:Sl}{e k:Int}(h:Qk ok C s a b c d e)(hok:ok)(hk:C k):abG s k a b c d/\e=0:=(h.2 hok).2 k hk
theorem avR{ok:Prop}{C:Int->Prop}{s:Sl}{a c:Bool}{b d:Sl}{e:Int}(h:Qk ok C s a b c d e)(hok:ok)(hk:∀k,¬C k):BU a b c d/\e=6:=(h.2 hok).1 hk
theorem Ec{ok:Prop}{s:Sl}{y known:Int}{a c:Bool}{b d:Sl}{e:Int}(h:Qk ok (GV s y known) s a b c d e)(hok:ok)(hr:∀i:Int,0<=i->i<s.len->okF (s.bool i 3) (s.sub i 4) (s.bool i 5) (s.sub i 6))
  (rb:Ranged b [some .u16]) (rd:Ranged d [some .u16]):(kQ s known y=none/\BU a b c d/\e=6)\/(∃r,kQ s known y=some r/\aK r a b c d/\bM r/\okF a b c d/\e=0):=by
 by_cases hk:∃k,GV s y known k
 ·right
  have hc:=Classical.choose_spec hk;obtain⟨hrow,he⟩:=avQ h hok hc;have hok2:=hr _ hc.1.1.1.1 hc.1.1.1.2;refine⟨fq (s.bool (zE hk) 3) (s.sub (zE hk) 4) (s.sub (zE hk) 6),by unfold kQ;rw[dif_pos hk], ?_, ?_, ?_,he⟩
  ·exact hok2.iO.of_same hrow.1.1.symm ⟨hrow.1.2.1.symm,fun i i0 i1=>(hrow.1.2.2 i i0 (by rw[hrow.1.2.1];exact i1)).symm⟩ hrow.2.1.symm ⟨hrow.2.2.1.symm,fun i i0 i1=>(hrow.2.2.2 i i0 (by rw[hrow.2.2.1];exact i1)).symm⟩
  ·have hv:aK (fq (s.bool (zE hk) 3) (s.sub (zE hk) 4) (s.sub (zE hk) 6)) a b c d:=hok2.iO.of_same hrow.1.1.symm ⟨hrow.1.2.1.symm,fun i i0 i1=>(hrow.1.2.2 i i0 (by rw[hrow.1.2.1];exact i1)).symm⟩ hrow.2.1.symm ⟨hrow.2.2.1.symm,fun i i0 i1=>(hrow.2.2.2 i i0 (by rw[hrow.2.2.1];exact i1)).symm⟩
   exact(hv.fit (aj rb) (aj rd)).1 ⟨by rw[<-hrow.1.2.1];exact hok2.2.1,by rw[<-hrow.2.2.1];exact hok2.2.2⟩
  ·have hv:aK (fq (s.bool (zE hk) 3) (s.sub (zE hk) 4) (s.sub (zE hk) 6)) a b c d:=hok2.iO.of_same hrow.1.1.symm ⟨hrow.1.2.1.symm,fun i i0 i1=>(hrow.1.2.2 i i0 (by rw[hrow.1.2.1];exact i1)).symm⟩ hrow.2.1.symm ⟨hrow.2.2.1.symm,fun i i0 i1=>(hrow.2.2.2 i i0 (by rw[hrow.2.2.1];exact i1)).symm⟩
   exact⟨hv.pO,by rw[<-hrow.1.2.1];exact hok2.2.1,by rw[<-hrow.2.2.1];exact hok2.2.2⟩
 ·left
  obtain⟨h1,h2⟩:=avR h hok (fun k hk2=>hk ⟨k,hk2⟩)
  exact⟨by unfold kQ;rw[dif_neg hk],h1,h2⟩
theorem aiG{p q:Rat}{a c a' c' nn dn:Bool}{b d b' d' nl dl:Sl}{e:Int}(h:pF a b c d a' b' c' d' nn nl dn dl e)(hp:aK p a b c d)(ho:okF a b c d)(hq:aK q a' b' c' d')(ho':okF a' b' c' d'):Di (p+q) nn nl dn dl e:=by
 have:=h.1 ⟨ho,ho'⟩;rw[hp.fq,hq.fq]at this;exact this
def zr:List D:=[.bool (decide False),zB zG, .bool (decide False),zB zG]
def okM(s:Sl)(k:Int)(q:Rat):Prop:=aK q (zL (zC s k zr) 0 0) (zP (zC s k zr) 0 1) (zL (zC s k zr) 0 2) (zP (zC s k zr) 0 3)/\okF (zL (zC s k zr) 0 0) (zP (zC s k zr) 0 1) (zL (zC s k zr) 0 2) (zP (zC s k zr) 0 3)
theorem YM{s:Sl}{k:Int}{q:Rat}{a c:Bool}{b d:Sl}(h:aK q a b c d)(o:okF a b c d):okM (zR s k [.bool a,zB b, .bool c,zB d]) k q:=by
 unfold okM;rw[mget_mset,if_pos rfl];exact⟨h,o⟩
theorem ada{s:Sl}{k k':Int}{q:Rat}{l:List D}(hk:k'≠k)(h:okM s k' q):okM (zR s k l) k' q:=by
 unfold okM;rw[mget_mset,if_neg hk];exact h
def Iq(rows:Sl)(known:Int)(s:Sl):Prop:=∀y:Int,Sl.mhas s y=true->∃r,kQ rows known y=some r/\okM s y r
theorem aod{rows:Sl}{known:Int}:Iq rows known zG:=fun y h=>by rw[mhas_nil]at h;cases h
theorem adb{rows s:Sl}{known k:Int}{q:Rat}{a c:Bool}{b d:Sl}(hs:Iq rows known s)(hr:kQ rows known k=some q)(h:aK q a b c d)(o:okF a b c d):Iq rows known (zR s k [.bool a,zB b, .bool c,zB d]):=fun y hy=>by
 by_cases e:y=k
 ·subst e;exact⟨q,hr,YM h o⟩
 ·rw[mhas_mset,decide_eq_false e,Bool.false_or]at hy
  obtain⟨r,h1,h2⟩:=hs y hy;exact⟨r,h1,ada e h2⟩
theorem ayZ{e f x:Int}(h:Lm (zA [[.int e],[.int f]]) x):x=if e≠0 then e else f:=by
 have i0:(zA [[D.int e],[D.int f]]).int 0 0=e:=rfl;have i1:(zA [[D.int e],[D.int f]]).int 1 0=f:=rfl;have l:(zA [[D.int e],[D.int f]]).len=2:=rfl;rcases h with⟨i,a,b,c,d,g⟩|⟨a,g⟩
 ·rw[l]at b
  have:i=0\/i=1:=by omega
  rcases this with rfl|rfl
  ·rw[i0]at c;subst c;rw[if_pos d]
  ·have:=g 0 (by omega) (by omega)
   rw[i0]at this;rw[if_neg (by omega),c,i1]
 ·have a0:=g 0 (by omega) (by rw[l];omega)
  have a1:=g 1 (by omega) (by rw[l];omega);rw[i0]at a0;rw[i1]at a1;rw[if_neg (by omega)];omega
def BI(name:ByteArray)(two:Bool)(s:Sl)(known paid:Int)(nm:ByteArray)(tw:Bool)(rows:Sl)(kn pd:Int):Prop:=nm=name/\tw=two/\rows=s/\kn=known/\pd=paid
noncomputable def BX(s:Sl)(known paid:Int):Nat->Option Rat
 |0=>some 0
 |n+1=>match kQ s known (1900+(paid-(n+1))/12),BX s known paid n with
  |some r,some q=>some (r+q)
  |_,_=>none
def aan(s:Sl)(known paid:Int)(sums:Sl)(lst:Int):Prop:=lst<=paid/\∀n:Nat,lst<=paid-n->Sl.mhas sums (paid-n)=true/\∃q,BX s known paid n=some q/\Ip q/\okM sums (paid-n) q
def St(name:ByteArray)(two:Bool)(s:Sl)(known paid:Int)(nm:ByteArray)(tw:Bool)(rows:Sl)(kn pd:Int)(jh sums:Sl)(lst:Int):Prop:=BI name two s known paid nm tw rows kn pd/\Iq s known jh/\aan s known paid sums lst
theorem avS{J:Int->Int->ByteArray->Bool->Sl->Int->Int->Sl->Sl->Int->Bool->Sl->Bool->Sl->Prop}{K:Int->Int->ByteArray->Bool->Sl->Int->Int->Sl->Sl->Int->Prop}{C:ByteArray->Bool->Sl->Int->Int->Sl->Sl->Int->Prop}{n:Int}{g:GR}
  (hK:∀(v e:Int)(nm:ByteArray)(tw:Bool)(rows:Sl)(kn pd:Int)(jh sums:Sl)(lst:Int),iA v->iA e->C nm tw rows kn pd jh sums lst->abH g n v e->K v e nm tw rows kn pd jh sums lst)
  (hJ:∀(z1 z2:Int)(nm:ByteArray)(tw:Bool)(rows:Sl)(kn pd:Int)(jh sums:Sl)(lst:Int)(a:Bool)(b:Sl)(c:Bool)(d:Sl),J z1 z2 nm tw rows kn pd jh sums lst a b c d->C nm tw rows kn pd jh sums lst/\∃q,g= .ok q/\aK q a b c d/\okF a b c d):G_2 J n K:=by
 unfold G_2;simp only[zF];intro z1 _ z2 _ nm tw rows _ kn _ pd _ jh sums lst _ a b rb c d rd hj;obtain⟨hC,q,hs,iq,oq⟩:=hJ z1 z2 nm tw rows kn pd jh sums lst a b c d hj;have ans:∀{v e:Int},iA v->iA e->adJ q n v e->K v e nm tw rows kn pd jh sums lst:=fun h1 h2 h=>hK _ _ _ _ _ _ _ _ _ _ h1 h2 hC (by rw[hs];exact h)
 have r0:iA 0:=by rw[au];omega
 refine⟨trivial,fun nn nl NG nd nk rnk hn=>⟨trivial,fun pn pl rpl pdn pk rpk e1 _ hp=>⟨trivial,fun tn tl rtl td tk rtk ht=>⟨trivial,fun un ul rul ud uk ruk e2 _ hu=> ?_⟩⟩⟩⟩
 have inn:aK ((n:Int):Rat) nn nl nd nk:=hn.1;have on:okF nn nl nd nk:=⟨⟨_,inn⟩,by have:=hn.2.1;omega,by have:=hn.2.2;omega⟩;have it:aK ((12:Int):Rat) tn tl td tk:=ht.1;have ot:okF tn tl td tk:=⟨⟨_,it⟩,by have:=ht.2.1;omega,by have:=ht.2.2;omega⟩;have rp:=hp.1 ⟨oq,on⟩;rw[iq.fq,inn.fq]at rp;have key:(e1=0/\e2=0/\bM (q*(n:Rat))/\bM (q*(n:Rat)/12)/\aK (q*(n:Rat)/12) un ul ud uk)\/((if e1≠0 then e1 else e2)=3/\¬(bM (q*(n:Rat))/\bM (q*(n:Rat)/12))):=by
  by_cases f1:bM (q*(n:Rat))
  ·obtain⟨ip,z⟩:=rp.1 f1
   have op:=ip.ok (aj rpl) (aj rpk) f1;have ru:=(hu.1 ⟨op,ot⟩).1 (by rw[it.fq];decide+kernel);rw[ip.fq,it.fq]at ru;have e12:((12:Int):Rat)=12:=by decide+kernel
   rw[e12]at ru;by_cases f2:bM (q*(n:Rat)/12)
   ·exact .inl ⟨z,(ru.1 f2).2,f1,f2,(ru.1 f2).1⟩
   ·exact .inr ⟨by rw[if_neg (by omega)];exact(ru.2 f2).2,fun k=>f2 k.2⟩
  ·obtain⟨_,z⟩:=rp.2 f1
   exact .inr ⟨by rw[if_pos (by omega)];exact z,fun k=>f1 k.1⟩
 refine⟨fun _ _=>e1=0/\e2=0,⟨fun x=>x=if e1≠0 then e1 else e2,⟨trivial,fun x _ hx=>ayZ hx⟩,fun x rx hx=>⟨fun h=> ?_,fun h=> ?_⟩⟩,fun _ _ _ _ hz=>⟨trivial,fun v rv e re hv=> ?_⟩⟩
 ·rcases key with⟨k1,k2,_⟩|⟨k1,k2⟩
  ·rw[k1,k2]at hx;simp at hx;exact absurd hx h
  ·refine ans r0 rx ?_
   rw[hx,k1];exact⟨fun _=>⟨rfl,rfl⟩,fun f1 f2=>absurd ⟨f1,f2⟩ k2⟩
 ·rcases key with⟨k1,k2,_⟩|⟨k1,_⟩
  ·exact⟨k1,k2⟩
  ·rw[k1]at hx;omega
 ·rcases key with⟨_,_,f1,f2,iu⟩|⟨k1,_⟩
  ·have ou:=iu.ok (aj rul) (aj ruk) f2
   have:=hv.1 ou;rw[iu.fq]at this;exact ans rv re ⟨fun k=>absurd ⟨f1,f2⟩ k,fun _ _=>this⟩
  ·rw[hz.1,hz.2]at k1;simp at k1
section
variable{s:Sl}{known due:Int}
theorem V3 {e : Int}{n:Nat}(h:fH s known due n= .err e):∀{m:Nat},n<=m->fH s known due m= .err e
  | 0, hm => by have:n=0:=by omega
                subst this;exact h
  | m +1,hm=>by
    by_cases k:n=m+1
    · subst k;exact h
    · have:=V3 h (m:=m) (by omega)
      unfold fH;rw[this]
theorem agn{n:Nat}{q:Rat}(h:fH s known due n= .ok q)(hr:kQ s known (1900+(due+n)/12)=none):fH s known due (n+1)= .err 6:=by
 unfold fH;rw[h];simp only[hr]
theorem asG{n:Nat}{q r:Rat}(h:fH s known due n= .ok q)(hr:kQ s known (1900+(due+n)/12)=some r)(hf:¬bM (q+r)):fH s known due (n+1)= .err 3:=by
 unfold fH;rw[h];simp only[hr];exact if_neg hf
theorem asH{n:Nat}{q r:Rat}(h:fH s known due n= .ok q)(hr:kQ s known (1900+(due+n)/12)=some r)(hf:bM (q+r)):fH s known due (n+1)= .ok (q+r):=by
 unfold fH;rw[h];simp only[hr];exact if_pos hf
end
theorem ale{x:Int}{K:Int->Int->ByteArray->Bool->Sl->Int->Int->Sl->Sl->Int->Prop}{y:ByteArray}{b:Bool}{s:Sl}{k p:Int}{yr su:Sl}{l:Int}{J:Int->Int->ByteArray->Bool->Sl->Int->Int->Sl->Sl->Int->Bool->Sl->Bool->Sl->Prop}(h:x≠0->K 0 x y b s k p yr su l):G_0 x K y b s k p yr su l J:=by
 unfold G_0;simp only[zF];exact fun h0=>⟨fun _=>h h0,fun k=>absurd h0 k⟩
def JR(C:ByteArray->Bool->Sl->Int->Int->Sl->Sl->Int->Prop)(g:GR):Int->Int->ByteArray->Bool->Sl->Int->Int->Sl->Sl->Int->Bool->Sl->Bool->Sl->Prop:=
 fun _ _ nm tw rows kn pd jh sums lst a b c d=>C nm tw rows kn pd jh sums lst/\∃q,g= .ok q/\aK q a b c d/\okF a b c d
theorem sum_add{s:Sl}{known due paid m:Int}{q r:Rat}{a c a' c' nn dn:Bool}{b d b' d' nl dl:Sl}{e:Int}(h1:due<=m)(h2:m<paid)(hq:fH s known due (m-due).toNat= .ok q)(iq:aK q a b c d)(oq:okF a b c d)
  (hr:kQ s known (1900+m/12)=some r) (ir:aK r a' b' c' d') (or':okF a' b' c' d') (h:pF a b c d a' b' c' d' nn nl dn dl e) (rl:Ranged nl [some .u16]) (rd:Ranged dl [some .u16]):
  (e=0/\∃q',fH s known due (m+1-due).toNat= .ok q'/\aK q' nn nl dn dl/\okF nn nl dn dl)\/(e=3/\fH s known due (paid-due).toNat= .err 3):=by
 have hm:due+((m-due).toNat:Int)=m:=by omega
 have hs:(m+1-due).toNat=(m-due).toNat+1:=by omega
 have h:=aiG h iq oq ir or';by_cases f:bM (q+r)
 ·obtain⟨i,e0⟩:=h.1 f
  exact .inl ⟨e0,q+r,by rw[hs];exact asH hq (by rw[hm];exact hr) f,i,i.ok (aj rl) (aj rd) f⟩
 ·obtain⟨_,e3⟩:=h.2 f
  exact .inr ⟨e3,V3 (asG hq (by rw[hm];exact hr) f) (by omega)⟩
theorem avT{K:Int->Int->ByteArray->Bool->Sl->Int->Int->Sl->Sl->Int->Prop}{name:ByteArray}{two:Bool}{s:Sl}{known due paid:Int}{jh sums:Sl}{lst:Int}(hv:nZ name two s/\two=false)(hn:Fv name)(hd:0<=due/\due<=paid/\paid<=2400)
  (hS:St name two s known paid name two s known paid jh sums lst)
  (hE:∀(e:Int)(nm:ByteArray)(tw:Bool)(rows:Sl)(kn pd:Int)(jh sums:Sl)(lst:Int),iA e->St name two s known paid nm tw rows kn pd jh sums lst->fH s known due (paid-due).toNat= .err e->K 0 e nm tw rows kn pd jh sums lst):
  G_1 due name two s known paid jh sums lst K (JR (St name two s known paid) (fH s known due (paid-due).toNat)):=by
 unfold G_1;simp only[zF];have hrow:∀i:Int,0<=i->i<s.len->okF (s.bool i 3) (s.sub i 4) (s.bool i 5) (s.sub i 6):=fun i i0 i1=>(hv.1.2.2.2 i i0 i1).2.2.2.2
 have f0:bM 0:=Gy (n:=0) (by decide);refine⟨trivial,fun zn zl rzl zd zk rzk hz=>⟨fun m nm tw rows kn pd jh sums lst _ _ _ _ a b c d=>St name two s known paid nm tw rows kn pd jh sums lst/\(due<=m/\m<=paid)/\∃q,fH s known due (m-due).toNat= .ok q/\aK q a b c d/\okF a b c d,
  fun m _ _ _ _ _ _ _ _ _ _ _ _ _ _ _ _=>(paid-m).toNat,⟨hS,⟨by omega,hd.2.1⟩,0,by rw[show(due-due).toNat=0 by omega];rfl,hz.1,⟨⟨_,hz.1⟩,by have:=hz.2.1;omega,by have:=hz.2.2;omega⟩⟩, ?_⟩⟩
 intro m rm nm tw rows rr kn rk pd rp jh sums lst rl u1 u2 ru2 u3 u4 ru4 a b rb c d rd ⟨hS,⟨m0,m1⟩,q,hq,iq,oq⟩;obtain⟨⟨rfl,rfl,rfl,rfl,rfl⟩,hy,hsm⟩:=hS;have hS:∀{jh:Sl},Iq rows kn jh->St nm tw rows kn pd nm tw rows kn pd jh sums lst:=fun h=>⟨⟨rfl,rfl,rfl,rfl,rfl⟩,h,hsm⟩
 have td:Int.tdiv m 12=m/12:=qL (by omega);rw[td];refine⟨fun hm=>⟨by decide,by rw[au];omega,by rw[au];omega,fun ry rz=>⟨fun hh=>⟨fun k=>absurd rfl k,fun _=> ?_⟩,fun hh=>⟨hn,fun vn vl rvl vd vk rvk e re hl=> ?_⟩⟩⟩,fun hm=>⟨fun k=>absurd rfl k,fun _=>⟨hS hy,q,by rw[show pd=m by omega];exact hq,iq,oq⟩⟩⟩
 ·obtain⟨r,hr,ir,or'⟩:=hy _ hh
  refine⟨fun e a b c d=>(e=0/\∃q',fH rows kn due (m+1-due).toNat= .ok q'/\aK q' a b c d/\okF a b c d)\/(e=3/\fH rows kn due (pd-due).toNat= .err 3),⟨trivial,fun nn nl NG dn dl kL e _ h=>sum_add m0 hm hq iq oq hr ir or' h NG kL⟩,fun e re nn nl NG dn dl kL h=>⟨ale fun he=> ?_,fun he=> ?_⟩⟩
  ·rcases h with⟨e0,_⟩|⟨e3,h⟩
   ·exact absurd e0 he
   ·rw[e3];exact hE _ _ _ _ _ _ _ _ _ (by rw[au];omega) (hS hy) h
  ·rcases h with⟨_,h⟩|⟨e3,_⟩
   ·exact⟨by rw[au];omega,⟨hS hy,⟨by omega,by omega⟩,h⟩,by show(pd-(m+1)).toNat<(pd-m).toNat;omega⟩
   ·omega
 ·have hm':due+((m-due).toNat:Int)=m:=by omega
  refine⟨fun nm' tw' rows' kn' pd' jh sums lst=>St nm tw rows kn pd nm' tw' rows' kn' pd' jh sums lst,⟨fun he=>hS ?_,fun _=>hS hy⟩,fun nm' tw' rows' _ kn' _ pd' _ AV BZ lst' _ hS'=>⟨ale fun he=> ?_,fun he=> ?_⟩⟩
  ·rcases Ec hl hv hrow rvl rvk with⟨_,_,e6⟩|⟨r,hr,ir,_,or',_⟩
   ·omega
   ·exact adb hy hr ir or'
  ·rcases Ec hl hv hrow rvl rvk with⟨hr,_,e6⟩|⟨_,_,_,_,_,e0⟩
   ·rw[e6];exact hE _ _ _ _ _ _ _ _ _ (by rw[au];omega) hS' (V3 (agn hq (by rw[hm'];exact hr)) (by omega))
   ·exact absurd e0 he
  ·rcases Ec hl hv hrow rvl rvk with⟨_,_,e6⟩|⟨r,hr,ir,_,or',_⟩
   ·omega
   ·refine⟨fun e a b c d=>(e=0/\∃q',fH rows kn due (m+1-due).toNat= .ok q'/\aK q' a b c d/\okF a b c d)\/(e=3/\fH rows kn due (pd-due).toNat= .err 3),⟨trivial,fun nn nl NG dn dl kL e _ h=>sum_add m0 hm hq iq oq hr ir or' h NG kL⟩,fun e re nn nl NG dn dl kL h=>⟨ale fun he=> ?_,fun he=> ?_⟩⟩
    ·rcases h with⟨e0,_⟩|⟨e3,h⟩
     ·exact absurd e0 he
     ·rw[e3];exact hE _ _ _ _ _ _ _ _ _ (by rw[au];omega) hS' h
    ·rcases h with⟨_,h⟩|⟨e3,_⟩
     ·exact⟨by rw[au];omega,⟨hS',⟨by omega,by omega⟩,h⟩,by show(pd-(m+1)).toNat<(pd-m).toNat;omega⟩
     ·omega
theorem aoe{s:Sl}{known paid:Int}{n:Nat}{q:Rat}(h:BX s known paid (n+1)=some q):∃r t,kQ s known (1900+(paid-(n+1))/12)=some r/\BX s known paid n=some t/\q=r+t:=by
 unfold BX at h;split at h
 ·rename_i r t hr ht
  exact⟨r,t,hr,ht,(Option.some.inj h).symm⟩
 ·cases h
theorem ade{s:Sl}{known due paid:Int}{f:Nat->Rat}{n:Nat}(hn:due+n=paid)(hr:∀j:Nat,j<n->kQ s known (1900+(due+j)/12)=some (f j)):∀i:Nat,i<=n->BX s known paid i=some (tH f n-tH f (n-i))
 |0,_=>by
  show some 0=_;rw[Nat.sub_zero];congr 1;grind
 | i+1,hi=>by
  have ih:=ade hn hr i (by omega);have h1:=hr (n-(i+1)) (by omega);unfold BX;rw[show paid-((i:Int)+1)=due+((n-(i+1):Nat):Int) by omega,h1,ih];show some _=_
  congr 1
  have:tH f (n-i)=tH f (n-(i+1))+f (n-(i+1)):=by
   rw[show n-i=(n-(i+1))+1 by omega];rfl
  grind
theorem asI{s:Sl}{known due paid:Int}{n:Nat}(hn:due+n=paid)(h:∀j:Nat,j<=n->∃q,BX s known paid j=some q/\Ip q):∃q,BX s known paid n=some q/\fH s known due n= .ok q:=by
 have hr:∀j:Nat,j<n->kQ s known (1900+(due+j)/12)=some ((kQ s known (1900+(due+j)/12)).getD 0):=fun j hj=>by
  obtain⟨q,hq,_⟩:=h (n-j) (by omega);rw[show n-j=(n-j-1)+1 by omega]at hq;obtain⟨r,_,hr,_⟩:=aoe hq;rw[show paid-(((n-j-1:Nat):Int)+1)=due+j by omega]at hr;rw[hr];rfl
 have hf:∃f:Nat->Rat,∀j:Nat,j<n->kQ s known (1900+(due+j)/12)=some (f j):=⟨_,hr⟩;obtain⟨f,hr⟩:=hf;have ht:=ade hn hr;refine⟨tH f n, ?_,aoc hr fun j hj=> ?_⟩
 ·rw[ht n (qE _),Nat.sub_self]
  congr 1
  show tH f n-0=_
  grind
 ·obtain⟨q,hq,hs⟩:=h (n-j) (by omega)
  rw[ht (n-j) (by omega),show n-(n-j)=j by omega]at hq;rw[Option.some.inj hq];exact hs
theorem alf{s:Sl}{known paid:Int}{a c:Bool}{b d:Sl}(h:bF 0 a b c d):aan s known paid (zR zG paid [.bool a,zB b, .bool c,zB d]) paid:=
 ⟨z4 _,fun n hn=>by
  have:n=0:=by omega
  subst this;have e:paid-((0:Nat):Int)=paid:=by omega
  rw[e];exact⟨by rw[mhas_mset,decide_eq_true rfl,Bool.true_or],0,rfl,⟨by decide+kernel,by decide+kernel⟩,YM h.1 ⟨⟨_,h.1⟩,by have:=h.2.1;omega,by have:=h.2.2;omega⟩⟩⟩
theorem agp{s:Sl}{known paid:Int}{sums:Sl}{lst k:Int}(h:aan s known paid sums lst)(h1:lst<=k)(h2:k<=paid):Sl.mhas sums k=true/\∃q,BX s known paid (paid-k).toNat=some q/\Ip q/\okM sums k q:=by
 have:=h.2 (paid-k).toNat (by omega);rw[show paid-(((paid-k).toNat:Nat):Int)=k by omega]at this;exact this
theorem asJ{s:Sl}{known paid:Int}{sums:Sl}{lst:Int}{q r:Rat}{a c:Bool}{b d:Sl}(h:aan s known paid sums lst)(hq:BX s known paid (paid-lst).toNat=some q)(hr:kQ s known (1900+(lst-1)/12)=some r)(hs:Ip (r+q))(i:aK (r+q) a b c d)(o:okF a b c d):
  aan s known paid (zR sums (lst-1) [.bool a,zB b, .bool c,zB d]) (lst-1):=
 ⟨by have:=h.1;omega,fun n hn=>by
  have hl:=h.1;by_cases e:paid-n=lst-1
  ·rw[e]
   refine⟨by rw[mhas_mset,decide_eq_true rfl,Bool.true_or],r+q, ?_,hs,YM i o⟩
   rw[show n=(paid-lst).toNat+1 by omega];unfold BX;rw[show paid-(((paid-lst).toNat:Int)+1)=lst-1 by omega,hr,hq]
  ·obtain⟨g1,q',g2,g3,g4⟩:=h.2 n (by omega)
   exact⟨by rw[mhas_mset,g1,Bool.or_true],q',g2,g3,ada e g4⟩⟩
theorem asK{K:Int->Int->ByteArray->Bool->Sl->Int->Int->Sl->Sl->Int->Prop}{name:ByteArray}{two:Bool}{s:Sl}{known n due paid:Int}{jh sums:Sl}{lst:Int}(hv:nZ name two s/\two=false)(hn:Fv name)(hd:0<=due/\due<=paid/\paid<=2400)
  (hS:St name two s known paid name two s known paid jh sums lst)
  (hK:∀(v e:Int)(nm:ByteArray)(tw:Bool)(rows:Sl)(kn pd:Int)(jh sums:Sl)(lst:Int),iA v->iA e->St name two s known paid nm tw rows kn pd jh sums lst->abH (fH s known due (paid-due).toNat) n v e->K v e nm tw rows kn pd jh sums lst):
  G_6 K n due name two s known paid jh sums lst:=by
 unfold G_6;simp only[zF];have hrow:∀i:Int,0<=i->i<s.len->okF (s.bool i 3) (s.sub i 4) (s.bool i 5) (s.sub i 6):=fun i i0 i1=>(hv.1.2.2.2 i i0 i1).2.2.2.2
 refine⟨fun nm tw rows kn pd jh sums lst _ _ _ _=>St name two s known paid nm tw rows kn pd jh sums lst,fun nm tw rows kn pd jh sums lst _ _ _ _=>(lst-due).toNat,hS, ?_⟩
 intro nm tw rows rr kn rk pd rp jh sums lst rl u1 u2 ru2 u3 u4 ru4 hS;obtain⟨⟨rfl,rfl,rfl,rfl,rfl⟩,hy,hsm⟩:=hS;have hE:∀(e:Int)(nm':ByteArray)(tw':Bool)(rows':Sl)(kn' pd':Int)(jh sums:Sl)(lst:Int),iA e->St nm tw rows kn pd nm' tw' rows' kn' pd' jh sums lst->fH rows kn due (pd-due).toNat= .err e->K 0 e nm' tw' rows' kn' pd' jh sums lst:=fun e _ _ _ _ _ _ _ _ re h he=>hK _ _ _ _ _ _ _ _ _ _ (by rw[au];omega) re h (by rw[he];exact⟨rfl,rfl⟩)
 have tl:∀{J},(J=JR (St nm tw rows kn pd) (fH rows kn due (pd-due).toNat))->G_2 J n K:=fun hJ=>by
  subst hJ;exact avS (C:=St nm tw rows kn pd) (g:=fH rows kn due (pd-due).toNat) hK fun _ _ _ _ _ _ _ _ _ _ _ _ _ _ h=>h
 have g3:∀{AV BZ:Sl}{lst':Int},St nm tw rows kn pd nm tw rows kn pd AV BZ lst'->G_3 due nm tw rows kn pd AV BZ lst' K n:=fun h=>by
  unfold G_3;exact⟨_,avT hv hn hd h hE,tl rfl⟩
 have g4:∀{x:Int}{AV BZ:Sl}{lst':Int},St nm tw rows kn pd nm tw rows kn pd AV BZ lst'->G_4 x due nm tw rows kn pd AV BZ lst' K n:=fun h=>by
  unfold G_4;exact fun _=>g3 h
 have g5:∀{x:Bool}{AV BZ:Sl}{lst':Int},St nm tw rows kn pd nm tw rows kn pd AV BZ lst'->G_5 x due nm tw rows kn pd AV BZ lst' K n:=fun h=>by
  unfold G_5;exact fun _=>g3 h
 have hS:∀{jh:Sl},Iq rows kn jh->St nm tw rows kn pd nm tw rows kn pd jh sums lst:=fun h=>⟨⟨rfl,rfl,rfl,rfl,rfl⟩,h,hsm⟩
 refine⟨fun hm=> ?_,fun hm ry rz=> ?_⟩
 ·have hlp:=hsm.1
  have td:Int.tdiv (lst-1) 12=(lst-1)/12:=qL (by omega);rw[td];obtain⟨_,q,hq,sq,iq,oq⟩:=agp hsm (z4 _) hlp;have put:∀{AV:Sl}{r:Rat}{a' c' nn dn:Bool}{b' d' nl dl:Sl}{e:Int},Iq rows kn AV->kQ rows kn (1900+(lst-1)/12)=some r->aK r a' b' c' d'->okF a' b' c' d'->pF a' b' c' d' (zL (zC sums lst zr) 0 0) (zP (zC sums lst zr) 0 1) (zL (zC sums lst zr) 0 2) (zP (zC sums lst zr) 0 3) nn nl dn dl e->Ranged nl [some .u16]->Ranged dl [some .u16]->e=0->nl.len<=120/\dl.len<=120->
    St nm tw rows kn pd nm tw rows kn pd AV (zR sums (lst-1) [.bool nn,zB nl, .bool dn,zB dl]) (lst-1):=by
   intro AV r a' c' nn dn b' d' nl dl e hy hr ir or' h rl rd he hs;have h:=aiG h ir or' iq oq;by_cases f:bM (r+q)
   ·obtain⟨i,_⟩:=h.1 f
    exact⟨⟨rfl,rfl,rfl,rfl,rfl⟩,hy,asJ hsm hq hr (asE i rl rd hs.1 hs.2) i (i.ok (aj rl) (aj rd) f)⟩
   ·have:=(h.2 f).2;omega
  refine⟨by rw[au];omega,by decide,by rw[au];omega,by rw[au];omega,fun ry rz=>⟨fun hh=>⟨fun k=>absurd rfl k,fun _ rs rt=>⟨trivial,fun nn nl NG dn dl kL e re h=>⟨g4 (hS hy),fun he=>⟨trivial,fun o ho=>⟨g5 (hS hy),fun hb=>⟨by rw[au];omega, ?_, ?_⟩⟩⟩⟩⟩⟩,fun hh=>⟨hn,fun vn vl rvl vd vk rvk e re hl=> ?_⟩⟩⟩
  ·obtain⟨r,hr,ir,or'⟩:=hy _ hh
   exact put hy hr ir or' h NG kL (zD.1 he) (ho.1 (zD.1 hb))
  ·show(lst-1-due).toNat<(lst-due).toNat;omega
  ·refine⟨fun nm' tw' rows' kn' pd' AV BZ lst'=>(nm'=nm/\tw'=tw/\rows'=rows/\kn'=kn/\pd'=pd)/\Iq rows kn AV/\BZ=sums/\lst'=lst,⟨fun he=>⟨⟨rfl,rfl,rfl,rfl,rfl⟩, ?_,rfl,rfl⟩,fun _=>⟨⟨rfl,rfl,rfl,rfl,rfl⟩,hy,rfl,rfl⟩⟩, ?_⟩
   ·rcases Ec hl hv hrow rvl rvk with⟨_,_,e6⟩|⟨r,hr,ir,_,or',_⟩
    ·omega
    ·exact adb hy hr ir or'
   ·rintro nm' tw' rows' _ kn' _ pd' _ AV BZ lst' _ ⟨⟨rfl,rfl,rfl,rfl,rfl⟩,hy',rfl,rfl⟩
    refine⟨g4 (hS hy'),fun he rs rt=>⟨trivial,fun nn nl NG dn dl kL e' re' h=>⟨g4 (hS hy'),fun he'=>⟨trivial,fun o ho=>⟨g5 (hS hy'),fun hb=>⟨by rw[au];omega, ?_, ?_⟩⟩⟩⟩⟩⟩
    ·rcases Ec hl hv hrow rvl rvk with⟨_,_,e6⟩|⟨r,hr,ir,_,or',_⟩
     ·omega
     ·exact put hy' hr ir or' h NG kL (zD.1 he') (ho.1 (zD.1 hb))
    ·show(lst'-1-due).toNat<(lst'-due).toNat;omega
 ·have h1:lst<=due:=by omega
  obtain⟨hh,q,hq,_,iq,oq⟩:=agp hsm h1 hd.2.1;obtain⟨q',hq',hs⟩:=asI (s:=rows) (known:=kn) (due:=due) (paid:=pd) (n:=(pd-due).toNat) (by omega) fun j hj=>by
   obtain⟨_,q,g1,g2,_⟩:=hsm.2 j (by omega);exact⟨q,g1,g2⟩
  rw[hq]at hq';cases hq'
  exact⟨JR (St nm tw rows kn pd) (fH rows kn due (pd-due).toNat),⟨fun k=>absurd hh k,fun _=>⟨hS hy,q,hs,iq,oq⟩⟩,tl rfl⟩
theorem jL(l l':List (List D)):z0 (zA l) (zA l')=zA (l++l'):=by
 unfold z0 zA
 congr 1
 ·simp
 ·funext i j
  by_cases h:i<l.length
  ·simp[h,List.getElem?_append_left h]
  ·have h:l.length<=i:=by omega
   simp[Nat.not_lt.2 h,List.getElem?_append_right h]
theorem Eb:zG=zA []:=by
 unfold zG zA
 congr 1
theorem zM(d:Sl):z0 (zA []) d=d:=by
 cases d
 unfold z0 zA
 congr 1
 simp
theorem jO(l:List (List D)):(zA l).len=(l.length:Int):=rfl
theorem RI(s:Sl):dL s s:=⟨rfl,fun _ _ _=>rfl⟩
theorem fK(s:Sl):aQ s s:=⟨rfl,fun _ _ _=>⟨rfl,rfl,rfl,rfl⟩⟩
section
variable{st:Int}{d p:Sl}
theorem Vj(hv:aA st d p)(mo:Int):-4398046511104000<=aV p mo/\aV p mo<=4398046511104000:=by
 have:=L.SL hv mo;omega
theorem avU(hv:aA st d p){k:Int}(h0:0<=k)(h1:k<d.len):-4400000000000000<=dS st d p (st+k)/\dS st d p (st+k)<=4400000000000000:=by
 have a:=Vj hv (st+k);have b:=hv.2.1 k h0 h1;unfold dS;rw[show st+k-st=k by omega];omega
def PB(st:Int)(d p:Sl)(j:Int)(s:Sl):Prop:=(0<=j/\j<=p.len)/\s.len=d.len/\∀k:Int,0<=k->k<d.len->s.int k 0=d.int k 0-sumTo (fun i=>if p.int i 1=st+k then lq p i else 0) j.toNat
def PC(st:Int)(d p s:Sl):Prop:=s.len=d.len/\∀k:Int,0<=k->k<d.len->s.int k 0=dS st d p (st+k)
theorem PB.init:PB st d p 0 (z0 (zA []) d):=by
 rw[zM];exact⟨⟨z4 _,len0 p⟩,rfl,fun k k0 k1=>by show _=d.int k 0-0;omega⟩
theorem PB.bd{j:Int}{s:Sl}(hv:aA st d p)(h:PB st d p j s){k:Int}(k0:0<=k)(k1:k<d.len):-4400000000000000<=s.int k 0/\s.int k 0<=4400000000000000:=by
 obtain⟨⟨j0,j1⟩,hl,hk⟩:=h;have:=L.BN (f:=fun i=>if p.int i 1=st+k then lq p i else 0) (n:=j.toNat) (fun i h0 h1=>by
  have:=L.Fq (hv.2.2.2 i h0 (by omega));show-1099511627776<=(if p.int i 1=st+k then lq p i else 0)/\(if p.int i 1=st+k then lq p i else 0)<=1099511627776
  split<;>omega)
 have b:=hv.2.1 k k0 k1;have:=hv.2.2.1;rw[hk k k0 k1];omega
theorem PB.step{j:Int}{s:Sl}(hv:aA st d p)(h:PB st d p j s)(hj:j<p.len):
    0 <=j/\j<p.len/\(iA (p.int j 0)->iA (p.int j 1)->Rng .u8 (p.int j 2)->iA (p.int j 3)->
      ((p.int j 2≠3->iA (p.int j 1-st)/\0<=p.int j 1-st/\p.int j 1-st<s.len/\(iA (s.int (p.int j 1-st) 0)->iA (s.int (p.int j 1-st) 0-p.int j 3)/\0<=p.int j 1-st/\p.int j 1-st<s.len/\iA (j+1)/\
          (PB st d p (j+1) (Sl.upd s (p.int j 1-st) 0 [.int (s.int (p.int j 1-st) 0-p.int j 3)])/\(p.len-(j+1)).toNat<(p.len-j).toNat)))/\
       (¬p.int j 2≠3->iA (j+1)/\(PB st d p (j+1) s/\(p.len-(j+1)).toNat<(p.len-j).toNat)))):=by
  have h':=h;obtain⟨⟨j0,j1⟩,hl,hk⟩:=h;have f:=hv.2.2.2 j j0 hj;have am:=L.Vk f;obtain⟨⟨_,_,f1,f2⟩,_⟩:=f.1;have:=hv.2.2.1;have hb:=hv.1;refine⟨j0,hj,fun _ _ _ _=>⟨fun h3=>⟨by rw[au];omega,by omega,by omega,fun _=> ?_⟩,fun h3=>⟨by rw[au];omega,⟨⟨by omega,by omega⟩,hl,fun k k0 k1=> ?_⟩,by omega⟩⟩⟩
  · have b:=h'.bd hv (k:=p.int j 1-st) (by omega) (by omega)
    refine⟨by rw[au];omega,by omega,by omega,by rw[au];omega,⟨⟨by omega,by omega⟩,hl,fun k k0 k1=> ?_⟩,by omega⟩
    rw[dY (by omega) k0,L.Ad _ j0];by_cases e:k=p.int j 1-st
    · rw[if_pos e,<-e,hk k k0 k1,if_pos (by omega)]
      unfold lq;rw[if_neg h3];omega
    · rw[if_neg e,hk k k0 k1,if_neg (by omega)];omega
  · rw[hk k k0 k1,L.Ad _ j0]
    unfold lq;have h3:=zD.1 h3;rw[if_pos h3];split<;>omega
theorem PB.fin{j:Int}{s:Sl}(h:PB st d p j s)(hj:¬j<p.len):PC st d p s:=by
 obtain⟨⟨j0,j1⟩,hl,hk⟩:=h;refine⟨hl,fun k k0 k1=> ?_⟩
 rw[hk k k0 k1];have:j.toNat=p.n:=by unfold zH at*;omega
 rw[this];unfold dS;rw[show st+k-st=k by omega];rfl
theorem YN(m:Int):∀n:Nat,(fJ st d p m n).length<=n
 |0=>qE _
 |n+1=>by
  have ih:=YN m n;simp only[fJ];split
  ·simp;omega
  ·omega
theorem YO{m:Int}{k:Nat}(h:m<=st+k){i:Nat}(hi:k<=i):¬iV st d p m i:=fun g=>by have:=g.1;omega
theorem adf{m:Int}{k:Nat}(h:m<=st+k):∀{n:Nat},k<=n->fJ st d p m n=fJ st d p m k/\EX st d p m n=EX st d p m k
  | 0, hn => by have:k=0:=by omega
                subst this;exact⟨rfl,rfl⟩
  | n +1,hn=>by
    by_cases e:k=n+1
    · subst e;exact⟨rfl,rfl⟩
    · obtain⟨r,l⟩:=adf h (n:=n) (by omega)
      simp only[fJ,EX];rw[if_neg (YO h (by omega)),if_neg (YO h (by omega))];exact⟨r,l⟩
theorem avV{m k x:Int}(k0:0<=k)(hm:st+k<m)(hx:x=dS st d p (st+k))(h0:0<x):
  zA (fJ st d p m (k+1).toNat)=z0 (zA (fJ st d p m k.toNat)) (zA [[.int (st+k)]])/\EX st d p m (k+1).toNat=EX st d p m k.toNat+x:=by
 have e:(k+1).toNat=k.toNat+1:=by omega
 have e2:((k.toNat:Nat):Int)=k:=by omega
 have hp:iV st d p m (k.toNat:Nat):=⟨by omega,by rw[e2,<-hx];exact h0⟩;rw[e];simp only[fJ,EX];rw[if_pos hp,if_pos hp,jL,e2,hx];exact⟨rfl,rfl⟩
theorem avW{m k x:Int}(k0:0<=k)(hx:x=dS st d p (st+k))(h0:¬0<x):
  fJ st d p m (k+1).toNat=fJ st d p m k.toNat/\EX st d p m (k+1).toNat=EX st d p m k.toNat:=by
 have e:(k+1).toNat=k.toNat+1:=by omega
 have e2:((k.toNat:Nat):Int)=k:=by omega
 have hp:¬iV st d p m (k.toNat:Nat):=fun g=>h0 (by rw[hx,<-e2];exact g.2)
 rw[e];simp only[fJ,EX];rw[if_neg hp,if_neg hp];exact⟨rfl,rfl⟩
end
theorem avX{q:Rat}{v e:Int}(h:afA q v e):v=(abI q).1/\e=(abI q).2:=by
 obtain⟨h1,h2,h3⟩:=h;unfold abI;split
 ·rename_i k;exact h1 k
 ·rename_i k
  split
  ·rename_i k2;exact h2 k2
  ·rename_i k2;exact h3 (by omega) (by omega)
theorem aiH{s:Sl}{known n due paid v e:Int}(h:abH (fH s known due (paid-due).toNat) n v e):v=(xW s known n due paid).1/\e=(xW s known n due paid).2:=by
 unfold xW;cases hs:fH s known due (paid-due).toNat with
 |err x=>rw[hs]at h;exact h
 | ok q=>
  rw[hs]at h;have h:adJ q n v e:=h;by_cases f:bM (q*(n:Rat))/\bM (q*(n:Rat)/12)
  ·simp only[if_pos f]
   exact avX (h.2 f.1 f.2)
  ·simp only[if_neg f]
   exact h.1 f
section
variable{st:Int}{d p s:Sl}{known day m:Int}
theorem aiI{e:Int}{k:Nat}(h:iD s known st d p day m k= .err e):∀{n:Nat},k<=n->iD s known st d p day m n= .err e
  | 0, hn => by have:k=0:=by omega
                subst this;exact h
  | n +1,hn=>by
    by_cases e1:k=n+1
    · subst e1;exact h
    · simp only[iD]
      rw[aiI h (n:=n) (by omega)]
theorem agq{k:Nat}(h:m<=st+k):∀{n:Nat},k<=n->iD s known st d p day m n=iD s known st d p day m k
  | 0, hn => by have:k=0:=by omega
                subst this;rfl
  | n +1,hn=>by
    by_cases e1:k=n+1
    · subst e1;rfl
    · simp only[iD]
      rw[agq h (n:=n) (by omega)];cases iD s known st d p day m k with
      |err e=>rfl
      |ok l=>exact if_neg (YO h (by omega))
theorem ay0{k x:Int}{l:List (List D)}(k0:0<=k)(hx:x=dS st d p (st+k))(h0:¬0<x)(h:iD s known st d p day m k.toNat= .ok l):iD s known st d p day m (k+1).toNat= .ok l:=by
 have e2:((k.toNat:Nat):Int)=k:=by omega
 have hp:¬iV st d p m (k.toNat:Nat):=fun g=>h0 (by rw[hx,<-e2];exact g.2)
 rw[show(k+1).toNat=k.toNat+1 by omega];simp only[iD];rw[h];exact if_neg hp
theorem aof{k x:Int}{l:List (List D)}(k0:0<=k)(hm:st+k<m)(hx:x=dS st d p (st+k))(h0:0<x)(h:iD s known st d p day m k.toNat= .ok l):iD s known st d p day m (k+1).toNat=EY s known day m (st+k) x l:=by
 have e2:((k.toNat:Nat):Int)=k:=by omega
 have hp:iV st d p m (k.toNat:Nat):=⟨by omega,by rw[e2,<-hx];exact h0⟩;rw[show(k+1).toNat=k.toNat+1 by omega];simp only[iD];rw[h];show(if iV st d p m (k.toNat:Nat)then _ else _)=_
 rw[if_pos hp,e2,<-hx]
end
theorem axj:as5:=by
 intro st _ d rd p rp day _ m _ name two s rs known _ hp;simp only[zF];have d0:=len0 d;have bad:¬okO st d p day m name two s->rP st d p day m name two s known zG 2/\True:=fun h=>⟨⟨fun _=>⟨rfl,rfl⟩,fun k=>absurd k h⟩,trivial⟩
 refine⟨trivial,fun v hv=>⟨fun h=>bad fun k=>h (hv.2 k.1.1),fun h1=>⟨hp,fun w hw=>⟨fun h=>bad fun k=>h (hw.2 k.1.2.1),fun h2=>⟨fun h=>bad fun k=> ?_,fun h3=>⟨fun h=>bad fun k=> ?_,fun h4=>⟨fun h=>bad fun k=> ?_,fun h5=>⟨fun h=>bad fun k=> ?_,fun h6=>⟨fun h=>bad fun k=> ?_,fun h7=>⟨trivial,fun zn zl rzl zd zk rzk hz=> ?_⟩⟩⟩⟩⟩⟩⟩⟩⟩⟩
 ·have:=k.1.2.2;rw[h]at this;cases this
 ·have:=k.2.1.1;omega
 ·have:=k.2.1.2;omega
 ·have:=k.2.2.1;omega
 ·have:=k.2.2.2;omega
 have hv:=hv.1 (zD.1 h1);have hT:nZ name two s/\two=false:=⟨hw.1 (zD.1 h2),by simpa using h3⟩;have hO:okO st d p day m name two s:=⟨⟨hv,hT⟩,⟨by omega,by omega⟩,by omega,by omega⟩;have hb:=hv.1;have fin:∀{r:Sl}{e:Int},akr (iD s known st d p day m d.n) r e->rP st d p day m name two s known r e/\True:=fun h=>⟨⟨fun g=>absurd hO g,fun _=>h⟩,trivial⟩
 have done:∀{k:Nat}{l:List (List D)},k<=d.n->(m<=st+k\/k=d.n)->iD s known st d p day m k= .ok l->rP st d p day m name two s known (zA l) 0/\True:=fun{k l} hk h hl=>fin (by
  have e:iD s known st d p day m d.n= .ok l:=by
   rcases h with h|h
   ·rw[agq h hk];exact hl
   ·rw[<-h];exact hl
  rw[e];exact⟨fK _,rfl⟩)
 have fail:∀{k:Nat}{e:Int},k<=d.n->iD s known st d p day m k= .err e->rP st d p day m name two s known zG e/\True:=fun{k e} hk hl=>fin (by
  rw[aiI hl hk];exact⟨rfl,rfl⟩)
 refine⟨by show((0:Int)+d.len)*8<=_;omega,fun sp=>⟨PB st d p,fun j _=>(p.len-j).toNat,PB.init,fun j _ o ro hB=>⟨fun hj=>hB.step hv hj,fun hj sm=> ?_⟩⟩⟩
 obtain⟨hl,hk⟩:=hB.fin hj;rw[hl];refine⟨fun i _ _ nm tw rows kn pd jh sums lst q=>(0<=i/\i<=d.len)/\St name two s known m nm tw rows kn pd jh sums lst/\∃l,iD s known st d p day m i.toNat= .ok l/\q=zA l/\(l.length:Int)<=2*i,fun i _ _ _ _ _ _ _ _ _ _ _=>(d.len-i).toNat,
  ⟨⟨z4 _,d0⟩,⟨⟨rfl,rfl,rfl,rfl,rfl⟩,aod,alf hz⟩,[],rfl,Eb,by simp⟩, ?_⟩
 intro i _ r1 rr1 r2 _ nm tw rows rr kn _ pd _ jh sums lst rl q rq ⟨⟨i0,i1⟩,hS,l,hl',hq,hn⟩;refine⟨fun hi=>⟨i0,hi,fun _=>⟨by rw[au];omega,fun hge=> ?_,fun hge=>⟨fun h0=>⟨by rw[au];omega,fun hbig=> ?_,fun hbig=> ?_⟩,fun h0=> ?_⟩⟩⟩,fun hi=> ?_⟩
 ·rw[hq];exact done (by unfold zH at*;omega) (.inl (by omega)) hl'
 ·have e:=aof (s:=s) (known:=known) (day:=day) i0 (show st+i<m by omega) (hk i i0 hi) h0 hl'
  exact fail (k:=(i+1).toNat) (by unfold zH at*;omega) (by rw[e];exact if_pos hbig)
 ·have e:=aof (s:=s) (known:=known) (day:=day) i0 (show st+i<m by omega) (hk i i0 hi) h0 hl'
  have e:iD s known st d p day m (i+1).toNat=if(xW s known (o.int i 0) (st+i) m).2≠0 then .err (xW s known (o.int i 0) (st+i) m).2 else .ok (l++uJ day (st+i) (o.int i 0) (xW s known (o.int i 0) (st+i) m).1):=by
   rw[e];exact if_neg hbig
  have hpd:pd=m:=hS.1.2.2.2.2;refine⟨fun v e nm tw rows kn pd jh sums lst=>St name two s known m nm tw rows kn pd jh sums lst/\v=(xW s known (o.int i 0) (st+i) m).1/\e=(xW s known (o.int i 0) (st+i) m).2,⟨fun h=>by omega,fun _=>⟨fun h=>by omega,fun _=> ?_⟩⟩, ?_⟩
  ·have hS':=hS
   obtain⟨⟨rfl,rfl,rfl,rfl,rfl⟩,hy,hsm⟩:=hS';exact asK hT hp ⟨by omega,by omega,by omega⟩ hS fun v e nm tw rows kn pd jh sums lst _ _ hS hr=>⟨hS,aiH hr⟩
  ·intro v rv e' re' nm tw rows rr kn _ pd _ jh sums lst rl ⟨hS,hv1,he1⟩
   have ll:(zA l).len=(l.length:Int):=rfl;have l1:∀a b c f:Int,(zA [[D.int a,D.int b,D.int c,D.int f]]).len=1:=fun _ _ _ _=>rfl
   refine⟨fun he=>fail (k:=(i+1).toNat) (by unfold zH at*;omega) (by rw[e,if_pos (by rw[<-he1];exact he),he1]),fun he=> ?_⟩
   rw[if_neg (by rw[<-he1];exact he),<-hv1]at e;rw[hq,jL];refine⟨by rw[ll,l1];omega,fun hv0=> ?_,fun hv0=> ?_⟩
   ·rw[jL]
    refine⟨?_,by rw[au];omega,⟨⟨by omega,by omega⟩,hS,_,e, ?_, ?_⟩,by show(d.len-(i+1)).toNat<(d.len-i).toNat;omega⟩
    ·rw[l1,jO,qI];simp only[qJ,qK];omega
    ·unfold uJ;rw[if_neg hv0,List.append_assoc];rfl
    ·unfold uJ;rw[if_neg hv0,qI];simp only[qJ,qK];omega
   ·refine⟨by rw[au];omega,⟨⟨by omega,by omega⟩,hS,_,e, ?_, ?_⟩,by show(d.len-(i+1)).toNat<(d.len-i).toNat;omega⟩
    ·unfold uJ;rw[if_pos (zD.1 hv0)]
    ·unfold uJ;rw[if_pos (zD.1 hv0),qI];simp only[qJ,qK];omega
 ·exact⟨by rw[au];omega,⟨⟨by omega,by omega⟩,hS,l,ay0 i0 (hk i i0 hi) h0 hl',hq,by omega⟩,by show(d.len-(i+1)).toNat<(d.len-i).toNat;omega⟩
 ·rw[hq];exact done (by unfold zH at*;omega) (.inr (by unfold zH at*;omega)) hl'
theorem amF:ae8:=by
 intro st _ d _ p _ day _ m _ name two s _ known _ hp;simp only[zF];refine⟨hp,fun r rr e re h=>⟨fun he=>⟨⟨r,e,h,fun _=>⟨⟨rfl,rfl,rfl⟩,rfl⟩,fun k=>absurd k he⟩,trivial⟩,fun he=> ?_⟩⟩
 have he:=zD.1 he;have hlen:r.len<=1000000:=by
  by_cases ho:okO st d p day m name two s
  ·have :=h.2 ho
   cases hr:iD s known st d p day m d.n with
   |err x=>rw[hr]at this;rw[this.1];omega
   | ok l =>
    rw[hr]at this;have hl:∀n:Nat,∀l,iD s known st d p day m n= .ok l->l.length<=2*n:=fun n=>by
     induction n with
     |zero=>intro l h;simp only[iD,OR.ok.injEq]at h;subst h;simp
     | succ n ih=>
      intro l h;simp only[iD]at h;cases hn:iD s known st d p day m n with
      |err e=>rw[hn]at h;cases h
      | ok l0=>
       rw[hn]at h;have i0:=ih l0 hn;have h:(if iV st d p m n then EY s known day m (st+n) (dS st d p (st+n)) l0 else .ok l0)= .ok l:=h
       split at h
       ·unfold EY at h
        split at h
        ·cases h
        ·split at h
         ·cases h
         ·cases h
          unfold uJ;split<;>simp<;>omega
       ·cases h;omega
    have:=hl d.n l hr;have e:=‹akr (.ok l) r e›.1.1;have:=ho.1.1.1.2.2.1;rw[e,jO];unfold zH at*;omega
  ·rw[(h.1 ho).1];omega
 exact⟨hlen,fun st' _ d' _ p' _ e' _ hq=>⟨⟨r,e,h,fun k=>absurd he k,fun _=>hq⟩,trivial⟩⟩
end Go.Sx.N
