/-
 Several texts in one. Conditions: none.
-/
import Derived.Test.YtccbjhfdfbaekaaGreatRunF
open Go.Sx.Sl renaming lit->zA,app->zC,len->zD,nil->zE
open Int renaming le_refl->zB,le_of_eq->zH,zero_add->zL
open Rat renaming not_lt->zF,intCast_mul->zG,intCast_le_intCast->zI
set_option linter.unusedVariables false
set_option linter.unusedSimpArgs false
namespace Go.Sx.N
theorem qO{f g:Int->Int}:∀{n:Nat},(∀i:Int,0<=i->i<n->f i=g i)->sumTo f n=sumTo g n
 |0,_=>rfl
 |n+1,h=>by
  simp only[sumTo];rw[qO (n:=n) (fun i i0 i1=>h i i0 (by omega)),h n (by omega) (by omega)]
theorem abS{p q:Sl}{i k:Int}(h:xU p i q k):lq p i=lq q k:=by unfold lq;rw[h.2.2.1,h.2.2.2]
theorem uZ{p q r:Sl}(h:behind p q r)(mo:Int):aV r mo=aV p mo+aV q mo:=by
 obtain⟨hl,ha,hb⟩:=h;have hn:r.n=p.n+q.n:=by unfold zD at hl;omega
 unfold aV;rw[hn];have e:∀b:Nat,b<=q.n->sumTo (fun i=>if r.int i 1=mo then lq r i else 0) (p.n+b)=sumTo (fun i=>if p.int i 1=mo then lq p i else 0) p.n+sumTo (fun i=>if q.int i 1=mo then lq q i else 0) b:=fun b hb'=>by
  induction b with
  |zero=>
   show sumTo _ p.n=_+0;rw[Int.add_zero];exact qO fun i i0 i1=>by rw[(ha i i0 i1).2.1,abS (ha i i0 i1)]
  |succ b ih=>
   show sumTo _ (p.n+b)+_=_;simp only[sumTo];rw[ih (by omega)];have g:=hb b (by omega) (by unfold zD;omega);have e1:((p.n.add b:Nat):Int)=p.len+b:=by show((p.n+b:Nat):Int)=_;unfold zD;omega
   rw[e1,g.2.1,abS g];omega
 exact e q.n (Nat.le_refl _)
theorem RD(a b:Sl):behind a b (zC a b):=by
 refine⟨dG a b,fun i i0 i1=> ?_,fun i i0 i1=> ?_⟩
 ·have e:=fun j=>aS (a:=a) (b:=b) (j:=j) i0 i1
  exact⟨e 0,e 1,e 2,e 3⟩
 ·have e:=fun j=>aG (a:=a) (b:=b) (i:=a.len+i) (j:=j) (by omega)
  rw[show a.len+i-a.len=i by omega]at e;exact⟨e 0,e 1,e 2,e 3⟩
theorem JF{p q:Sl}(h:aQ p q)(mo:Int):aV p mo=aV q mo:=by
 have hn:p.n=q.n:=by have:=h.1;unfold zD at this;omega
 unfold aV;rw[<-hn];exact qO fun i i0 i1=>by rw[(h.2 i i0 i1).2.1,abS (h.2 i i0 i1)]
theorem aae{s:Sl}{known i j:Int}(h:gW s known i)(g:gW s known j)(e0:s.int i 0=s.int j 0)(e1:s.int i 1=s.int j 1):i=j:=by
 rcases Int.lt_trichotomy i j with c|c|c
 ·have:=h.2.2 j c g.1.2 e0.symm e1.symm
  have:=g.2.1;omega
 ·exact c
 ·have:=g.2.2 i c h.1.2 e0 e1
  have:=h.2.1;omega
theorem avC{s:Sl}{known y k:Int}{q:Rat}(hB:∀i:Int,0<=i->i<s.len->s.int i 1=0)(hk:GV s y known k)(hq:fq (s.bool k 3) (s.sub k 4) (s.sub k 6)=q):kQ s known y=some q:=by
 have hx:∃k,GV s y known k:=⟨k,hk⟩;unfold kQ;rw[dif_pos hx];have hc:=Classical.choose_spec hx;have e0:s.int (Classical.choose hx) 0=s.int k 0:=by
  have a:=hc.2 k hk.1.1 hk.1.2;have b:=hk.2 _ hc.1.1 hc.1.2;omega
 have e:=aae hc.1.1 hk.1.1 e0 (by rw[hB _ hc.1.1.1.1 hc.1.1.1.2,hB _ hk.1.1.1.1 hk.1.1.1.2]);rw[e,hq]
def aaf(s:Sl)(A:Int->Int)(Q:Int->Rat):Prop:=s.len<=400/\(∀i:Int,0<=i->i<s.len->axV s i (A i) 0 (Q i)/\0<=A i/\A i<=100000)/\∀i j:Int,0<=i->i<j->j<s.len->A i<A j
theorem ahx{s:Sl}{A:Int->Int}{Q:Int->Rat}{name:ByteArray}{two:Bool}(h:aaf s A Q)(hn:1<=ylen name/\ylen name<=24)(h2:two=false):nZ name two s/\two=false:=by
 refine⟨⟨hn,h.1,fun i i0 i1 hlt=> ?_,fun i i0 i1=> ?_⟩,h2⟩
 ·have a:=(h.2.1 i (by omega) i1).1.1
  have b:=(h.2.1 (i-1) (by omega) (by omega)).1.1;have c:=h.2.2 (i-1) i (by omega) (by omega) i1;unfold LD ltK at hlt;rw[a,b]at hlt;omega
 ·obtain⟨⟨r0,r1,r2,r3,_⟩,a0,a1⟩:=h.2.1 i i0 i1
  unfold JY O9;rw[r0,r1,r2];exact⟨by omega,by omega, .inr rfl,by omega,r3⟩
theorem ahy{s:Sl}{A:Int->Int}{Q:Int->Rat}{known k:Int}(h:aaf s A Q)(hk:0<=known)(k0:0<=k)(k1:k<s.len):gW s known k:=
 ⟨⟨k0,k1⟩,by rw[(h.2.1 k k0 k1).1.2.2.1];exact hk,fun j j0 j1 e0=>by
  have a:=(h.2.1 j (by omega) j1).1.1;have b:=(h.2.1 k k0 k1).1.1;have c:=h.2.2 k j k0 j0 j1;omega⟩
theorem akT{s:Sl}{A:Int->Int}{Q:Int->Rat}{known y k:Int}(h:aaf s A Q)(hkn:0<=known)(k0:0<=k)(k1:k<s.len)(h1:A k<=y)(h2:∀j:Int,k<j->j<s.len->y<A j):kQ s known y=some (Q k):=by
 refine avC (k:=k) (fun i i0 i1=>(h.2.1 i i0 i1).1.2.1) ⟨⟨ahy h hkn k0 k1,by rw[(h.2.1 k k0 k1).1.1];exact h1⟩,fun j hj hjy=> ?_⟩ (h.2.1 k k0 k1).1.2.2.2.2
 rw[(h.2.1 k k0 k1).1.1];rw[(h.2.1 j hj.1.1 hj.1.2).1.1]at hjy⊢;rcases Int.lt_trichotomy j k with c|c|c
 ·have:=h.2.2 j k hj.1.1 c k1;omega
 ·rw[c];exact zB _
 ·have:=h2 j c hj.1.2;omega
section
variable{name:ByteArray}{two:Bool}{s:Sl}
theorem af2(h:GX name two s):aaf s (fun i=>i) (fun _=>0):=by
 obtain⟨_,_,hl,hr⟩:=h;refine⟨by omega,fun i i0 i1=> ?_,fun i j _ k _=>k⟩
 have e:i=0:=by omega
 subst e;exact⟨hr,by show(0:Int)<=0;decide,by show(0:Int)<=100000;decide⟩
theorem asr(h:GX name two s):nZ name two s/\two=false:=ahx (af2 h) (by rw[h.1];decide) h.2.1
theorem avD(h:GX name two s){known y:Int}(hk:0<=known)(hy:0<=y):kQ s known y=some 0:=akT (af2 h) hk (k:=0) (zB _) (by rw[h.2.2.1];decide) hy fun j j0 j1=>by have:=h.2.2.1;omega
open Classical in
theorem an0(h:GX name two s){known due:Int}(hk:0<=known)(hd:0<=due):∀n:Nat,fH s known due n= .ok 0
 |0=>rfl
 |n+1=>by
  have e:(0:Rat)+0=0:=by grind
  have f:bM 0:=by have:=VX (x:=0) (by decide) (by decide);exact this
  simp only[fH];rw[an0 h hk hd n];simp only[avD h hk (show 0<=1900+(due+(n:Int))/12 by omega)];rw[e,if_pos f]
open Classical in
theorem ayI(h:GX name two s){known x due paid:Int}(hk:0<=known)(hd:0<=due):xW s known x due paid=(0,0):=by
 have f:bM 0:=by have:=VX (x:=0) (by decide) (by decide);exact this
 have e1:(0:Rat)*(x:Rat)=0:=by grind
 have e2:(0:Rat)/12=0:=by grind
 unfold xW;rw[an0 h hk hd];show(if bM (0*(x:Rat))/\bM (0*(x:Rat)/12)then abI (0*(x:Rat)/12)else(0,3))=_
 rw[e1,e2,if_pos ⟨f,f⟩];decide+kernel
end
def iU(c:Prop) [Decidable c](r:List D):List (List D):=if c then [r]else []
theorem asu(c:Prop) [Decidable c](r:List D):(iU c r).length<=1:=by unfold iU;split<;>simp
section
variable{st:Int}{d p:Sl}
theorem avE{k:Int}:dS st d p (st+k)=d.int k 0-aV p (st+k):=by unfold dS;rw[show st+k-st=k by omega]
theorem aix{name:ByteArray}{two:Bool}{s:Sl}(h:GX name two s){known day m k0:Int}(hk:0<=known)(hst:0<=st)(k00:0<=k0)(hx:∀k:Int,0<=k->k<d.len->k≠k0->¬iV st d p m k)(ha:iV st d p m k0->dS st d p (st+k0)<=1099511627776):
  ∀n:Nat,(n:Int)<=d.len->iD s known st d p day m n= .ok (iU (k0<n/\iV st d p m k0) [.int day, .int (st+k0), .int 2, .int (dS st d p (st+k0))])
 |0,_=>by
  show OR.ok []=_;unfold iU;rw[if_neg (by omega)]
 | n+1,hn=>by
  have ih:=aix (day:=day) h hk hst k00 hx ha n (by omega);simp only[iD];rw[ih];by_cases e:(n:Int)=k0
  ·have n1:iU (k0<(n:Int)/\iV st d p m k0) [.int day, .int (st+k0), .int 2, .int (dS st d p (st+k0))]=[]:=by unfold iU;rw[if_neg (by omega)]
   rw[n1];by_cases l:iV st d p m k0
   ·simp only[e,if_pos l]
    unfold EY;have:=ha l;rw[if_neg (by omega),ayI h hk (by omega)];rw[if_neg (by decide)];unfold iU;rw[if_pos ⟨by omega,l⟩];rfl
   ·simp only[e,if_neg l]
    unfold iU;rw[if_neg (fun k=>l k.2)]
  ·have l:¬iV st d p m n:=hx n (by omega) (by omega) e
   simp only[if_neg l];unfold iU;by_cases c:k0<(n:Int)/\iV st d p m k0
   ·rw[if_pos c,if_pos ⟨by omega,c.2⟩]
   ·rw[if_neg c,if_neg (fun k=>c ⟨by omega,k.2⟩)]
theorem af4{day m lim k0:Int}(hl:0<=lim)(k00:0<=k0)(hx:∀k:Int,0<=k->k<d.len->k≠k0->st+k<m->ov st d p k<=0):∀n:Nat,(n:Int)<=d.len->
  gK st d p m lim n=(if k0<n then lim-mX st d p m lim k0 else lim)/\iy st d p day m lim n=iU (k0<n/\0<mX st d p m lim k0) [.int day, .int (st+k0), .int 4, .int (-(mX st d p m lim k0))]
 |0,_=>by
  refine⟨?_, ?_⟩
  ·rw[if_neg (by omega)];rfl
  ·unfold iU;rw[if_neg (by omega)];rfl
 | n +1,hn=>by
  obtain⟨i1,i2⟩:=af4 (day:=day) hl k00 hx n (by omega);have U:mg st d p m lim n=if(n:Int)=k0 then mX st d p m lim k0 else 0:=by
   unfold mg;by_cases e:(n:Int)=k0
   ·rw[i1,if_neg (by omega),if_pos e,e]
   ·rw[if_neg e]
    have x0:0<=gK st d p m lim n:=by
     rw[i1];have:mX st d p m lim k0<=lim:=by unfold mX imin;(repeat' split)<;>omega
     split<;>omega
    unfold mX;split
    ·rename_i c
     have:=hx n (by omega) (by omega) e c;unfold mW;rw[if_neg (by omega)];unfold imin;split<;>omega
    ·rfl
  show gK st d p m lim n-mg st d p m lim n=_/\(if 0<mg st d p m lim n then iy st d p day m lim n++[[.int day, .int (st+n), .int 4, .int (-(mg st d p m lim n))]]else iy st d p day m lim n)=_
  rw[U,i1,i2];by_cases e:(n:Int)=k0
  ·rw[if_pos e,if_neg (show¬k0<(n:Int) by omega),if_pos (show k0<((n+1:Nat):Int) by omega)]
   refine⟨rfl, ?_⟩
   have n1:iU (k0<(n:Int)/\0<mX st d p m lim k0) [.int day, .int (st+k0), .int 4, .int (-(mX st d p m lim k0))]=[]:=by unfold iU;rw[if_neg (by omega)]
   rw[n1];by_cases c:0<mX st d p m lim k0
   ·rw[if_pos c]
    unfold iU;rw[if_pos ⟨by omega,c⟩,e];rfl
   ·rw[if_neg c]
    unfold iU;rw[if_neg (fun k=>c k.2)]
  ·rw[if_neg e]
   refine⟨?_, ?_⟩
   ·by_cases c:k0<(n:Int)
    ·rw[if_pos c,if_pos (by omega)];omega
    ·rw[if_neg c,if_neg (by omega)];omega
   ·rw[if_neg (by omega)]
    unfold iU;by_cases c:k0<(n:Int)/\0<mX st d p m lim k0
    ·rw[if_pos c,if_pos ⟨by omega,c.2⟩]
    ·rw[if_neg c,if_neg (fun k=>c ⟨by omega,k.2⟩)]
end
theorem acU{p p1 q q1 r:Sl}(h:behind p q r)(hp:aQ p p1)(hq:aQ q q1):behind p1 q1 r:=by
 refine⟨by rw[h.1,hp.1,hq.1],fun i i0 i1=> ?_,fun i i0 i1=> ?_⟩
 ·obtain⟨a,b,c,e⟩:=h.2.1 i i0 (by rw[hp.1];exact i1)
  obtain⟨a',b',c',e'⟩:=hp.2 i i0 (by rw[hp.1];exact i1);exact⟨a.trans a',b.trans b',c.trans c',e.trans e'⟩
 ·rw[<-hp.1]
  obtain⟨a,b,c,e⟩:=h.2.2 i i0 (by rw[hq.1];exact i1);obtain⟨a',b',c',e'⟩:=hq.2 i i0 (by rw[hq.1];exact i1);exact⟨a.trans a',b.trans b',c.trans c',e.trans e'⟩
theorem Vf{p a q b r:Sl}(h:behind p a q)(g:behind q b r):behind p (zC a b) r:=by
 obtain⟨h1,h2,h3⟩:=h;obtain⟨g1,g2,g3⟩:=g;have p0:=len0 p;have a0:=len0 a;refine⟨by rw[g1,h1,dG];omega,fun i i0 i1=> ?_,fun i i0 i1=> ?_⟩
 ·obtain⟨x1,x2,x3,x4⟩:=g2 i i0 (by omega)
  obtain⟨y1,y2,y3,y4⟩:=h2 i i0 i1;exact⟨x1.trans y1,x2.trans y2,x3.trans y3,x4.trans y4⟩
 ·rw[dG]at i1
  by_cases c:i<a.len
  ·obtain⟨x1,x2,x3,x4⟩:=g2 (p.len+i) (by omega) (by omega)
   obtain⟨y1,y2,y3,y4⟩:=h3 i i0 c;have e:=fun j=>aS (a:=a) (b:=b) (j:=j) i0 c
   exact⟨(x1.trans y1).trans (e 0).symm,(x2.trans y2).trans (e 1).symm,(x3.trans y3).trans (e 2).symm,(x4.trans y4).trans (e 3).symm⟩
  ·obtain⟨x1,x2,x3,x4⟩:=g3 (i-a.len) (by omega) (by omega)
   rw[show q.len+(i-a.len)=p.len+i by omega]at x1 x2 x3 x4;have e:=fun j=>aG (a:=a) (b:=b) (i:=i) (j:=j) (by omega)
   exact⟨x1.trans (e 0).symm,x2.trans (e 1).symm,x3.trans (e 2).symm,x4.trans (e 3).symm⟩
theorem YE{st:Int}{d p r:Sl}{c:Prop} [Decidable c]{day mo k x st' e:Int}{d' p':Sl}(h:aY st d p r st' d' p' e)(hv:aA st d p)(hl:p.len<=3999)(hd:lastDay p<=day)
  (hr:aQ r (zA (iU c [.int day, .int mo, .int k, .int x]))) (hf:c->VT st d.len day mo k x):
  e=0/\st'=st/\aA st d' p'/\fG d' d/\behind p (zA (iU c [.int day, .int mo, .int k, .int x])) p'/\lastDay p'<=day/\p'.len<=p.len+1:=by
 have rl:r.len<=1:=by
  rw[hr.1];have:=asu c [.int day, .int mo, .int k, .int x];show((iU c [.int day, .int mo, .int k, .int x]).length:Int)<=1;omega
 have r0:=len0 r;have only:∀i:Int,0<=i->i<r.len->i=0/\c/\xU r 0 (zA [[.int day, .int mo, .int k, .int x]]) 0:=fun i i0 i1=>by
  have e:i=0:=by omega
  subst e;have g:=hr.2 0 (by omega) i1;by_cases hc:c
  ·unfold iU at g;rw[if_pos hc]at g
   exact⟨rfl,hc,g⟩
  ·have hr1:=hr.1
   unfold iU at hr1;rw[if_neg hc]at hr1;have:(zA []).len=0:=rfl;omega
 have pok:l9 st d p r:=⟨hv,fun i i0 i1=>by
  obtain⟨rfl,hc,g1,g2,g3,g4⟩:=only i i0 i1;have f:=hf hc;unfold qW JA prev;rw[g1,g2,g3,g4,if_pos rfl];exact⟨f,hd⟩⟩
 obtain⟨he,hs,hdd,hb⟩:=(h.2 pok).2 (by omega);subst he;have q:=qP h;refine⟨rfl,hs,q.2.1,hdd,acU hb (fK p) hr, ?_,by rw[hb.1];omega⟩
 unfold lastDay at hd⊢;by_cases hz:r.len=0
 ·rw[hb.1,hz]
  split
  ·rename_i c1
   rw[if_pos (by omega)]at hd;have:=(hb.2.1 (p.len+0-1) (by omega) (by omega)).1;rw[this,show p.len+0-1=p.len-1 by omega];exact hd
  ·rw[if_neg (by omega)]at hd;exact hd
 ·have p0:=len0 p
  obtain⟨_,hc,g1,_⟩:=only 0 (by omega) (by omega);have:=(hb.2.2 0 (by omega) (by omega)).1;rw[hb.1,if_pos (by omega),show p.len+r.len-1=p.len+0 by omega,this,g1];exact zB _
theorem aag{c c':Prop} [Decidable c] [Decidable c']{r r':List D}(h:c↔c')(hr:c->r=r'):iU c r=iU c' r':=by
 unfold iU;by_cases k:c
 ·rw[if_pos k,if_pos (h.1 k),hr k]
 ·rw[if_neg k,if_neg (fun g=>k (h.2 g))]
theorem WR{c:Prop} [Decidable c]{a b k x mo:Int}:aV (zA (iU c [.int a, .int b, .int k, .int x])) mo=if c/\b=mo then(if k=3 then 0 else x)else 0:=by
 unfold iU;by_cases h:c
 ·rw[if_pos h]
  show(0:Int)+(if b=mo then(if k=3 then 0 else x)else 0)=_
  by_cases e:b=mo
  ·rw[if_pos e,if_pos (show c/\b=mo from⟨h,e⟩)];omega
  ·rw[if_neg e,if_neg (fun k=>e k.2)];rfl
 ·rw[if_neg h,if_neg (fun k=>h k.1)];rfl
def YF(s:Sl):Int:=sumTo (fun j=>s.int j 3) s.n
theorem Vg{c:Prop} [Decidable c]{a b k x:Int}:YF (zA (iU c [.int a, .int b, .int k, .int x]))=if c then x else 0:=by
 unfold iU;by_cases h:c
 ·rw[if_pos h,if_pos h]
  show(0:Int)+x=_;omega
 ·rw[if_neg h,if_neg h];rfl
theorem acV{p q r:Sl}(h:behind p q r):sumTo (fun j=>r.int (p.len+j) 3) q.n=YF q:=qO fun i i0 i1=>(h.2.2 i i0 (by unfold zD;exact i1)).2.2.2
theorem acW(f:Int->Int)(a:Nat):∀b:Nat,sumTo f (a+b)=sumTo f a+sumTo (fun j=>f (a+j)) b
 |0=>by show sumTo f a=sumTo f a+0;omega
 |b+1=>by
  show sumTo f (a+b)+f ((a+b:Nat):Int)=sumTo f a+(sumTo (fun j=>f (a+j)) b+f (a+(b:Int)))
  rw[acW f a b,show((a+b:Nat):Int)=(a:Int)+(b:Int) by omega];omega
theorem af5(a b:Sl):YF (zC a b)=YF a+YF b:=by
 have h:=RD a b;show sumTo (fun j=>(zC a b).int j 3) (a.n+b.n)=_
 rw[acW];have e1:sumTo (fun j=>(zC a b).int j 3) a.n=YF a:=qO fun i i0 i1=>(h.2.1 i i0 (by unfold zD;exact i1)).2.2.2
 have e2:=acV h;unfold zD at e2;rw[e1,e2]
theorem af6{I:iM}{q p4:Sl}(h:behind I.p q p4):I.gy p4=YF q:=by
 unfold iM.gy;rw[show(p4.len-I.p.len).toNat=q.n by have:=h.1;unfold zD at*;omega];exact acV h
theorem akU(p:Sl):behind p (zA []) p:=⟨by show p.len=p.len+0;omega,fun i _ _=>⟨rfl,rfl,rfl,rfl⟩,fun i i0 i1=>by
 have:(zA []).len=0:=rfl;omega⟩
theorem Fp{p q:Sl}(h:aQ p q):lastDay p=lastDay q:=by
 unfold lastDay;by_cases k:0<p.len
 ·rw[if_pos k,if_pos (by rw[<-h.1];exact k),<-h.1]
  exact(h.2 (p.len-1) (by omega) (by omega)).1
 ·rw[if_neg k,if_neg (by rw[<-h.1];exact k)]
theorem adF{I:iM}{d1 p1:Sl}(hV:aA I.st I.d I.p)(h:I.learned I.us.len d1 p1)(he:I.qU)(hk:I.us.len<=1200)(hm:I.st+I.us.len<=2400):aA I.st d1 p1:=by
 obtain⟨hp,hd,h1,h2⟩:=h;obtain⟨⟨s0,s1,s2,s3⟩,aAx,hpl,hf⟩:=hV;have lo:d1.len<=1200/\I.st+d1.len<=2400/\I.d.len<=d1.len:=by rw[hd];unfold imax;split<;>omega
 refine⟨⟨s0,s1,lo.1,lo.2.1⟩,fun i i0 i1=> ?_,by rw[hp.1];exact hpl,L.follow_eq lo.2.2 (zH hp.1) hp.2 hf⟩
 by_cases c:i<I.us.len
 ·rw[h1 i i0 c];exact(he i i0 c).2
 ·rw[h2 i (by omega) (by rw[hd]at i1;unfold imax at i1;split at i1<;>omega)]
  exact aAx i i0 (by rw[hd]at i1;unfold imax at i1;split at i1<;>omega)
section
variable{I:iM}{o:wo}
def iM.rA(I:iM)(k0 X:Int):List (List D):=iU (0<X) [.int I.day, .int (I.st+k0), .int 2, .int X]
def iM.rB(I:iM)(B:Int):List (List D):=iU (0<B) [.int I.day, .int I.month, .int 1, .int B]
def iM.rR(I:iM)(j0 R:Int):List (List D):=iU (0<R) [.int I.day, .int (I.st+j0), .int 4, .int (-R)]
def iM.diff(I:iM)(k0 X j0 Y:Int):Prop:=((0<=k0/\0<=X/\X<=1099511627776/\(I.month-I.st<=k0->X=0))/\(0<=j0/\0<=Y/\Y<=1099511627776/\(I.month-I.st<=j0->Y=0))/\(k0=j0->X=0\/Y=0))/\
 ∀k:Int,0<=k->k<I.month-I.st->I.us.int k 1=aV I.p (I.st+k)+(if k=k0 then X else 0)-(if k=j0 then Y else 0)
theorem avF(h:I.pay o)(hV:eH I.st I.d I.p I.mo I.g I.t I.l)(ha:I.mD)(hl:I.l.len<1200)(he:I.qU)(hk:I.us.len<=1200)
  (hz:GX I.name I.two I.rt) (hkn:0<=I.known) (xX:lastDay I.p<=I.day/\0<=I.day/\I.day<65536) (hpl:I.p.len<=3990) (hsh:jK I.sa I.sb I.sc I.sd)
  {k0 X j0 Y L B:Int} (hN:aV I.p I.month=0) (hB:B=I.us.int (I.month-I.st) 1) (hx:I.diff k0 X j0 Y)
  (hL:L=(fq I.sa I.sb I.sd*(B:Rat)).floor) (hLf:bM (fq I.sa I.sb I.sd*(B:Rat))):
  ∃d4 p4,aA I.st d4 p4/\(d4.len=imax I.d.len (I.month-I.st+1)/\∀k:Int,0<=k->k<=I.month-I.st->d4.int k 0=I.us.int k 1)/\
   behind I.p (zA (I.rA k0 X++I.rB B++I.rR j0 (imin Y L))) p4/\lastDay p4<=I.day/\p4.len<=I.p.len+3/\I.fin d4 p4 o:=by
 obtain⟨xX,af7,RF⟩:=xX;obtain⟨⟨⟨hk0,X0,X1,hx1⟩,⟨hj0,Y0,Y1,hy1⟩,hXY⟩,hx⟩:=hx;obtain⟨c,hc,_,c2⟩:=h.2 hV;have c0:c=0:=hc.2.2.2 ha hl he;obtain⟨d1,p1,hle,hse⟩:=(c2 c0).2 hk;obtain⟨⟨_,_,_⟩,⟨m0,m1,_⟩,Ar,hmon⟩:=ha;have vs:=hV.1.1;have s0:=vs.1.1;have v1:=adF vs hle he hk (by omega);obtain⟨le1,le2,le3,le4⟩:=hle;have n0:0<=I.month-I.st:=by omega
 have dl1:I.month-I.st+1<=d1.len:=by rw[le2,Ar];unfold imax;split<;>omega
 have hBa:0<=B/\B<=1099511627776:=by rw[hB];exact(he (I.month-I.st) n0 (by omega)).2
 have L0:0<=L/\L<=B:=by
  have:=LX hsh.2.1 hsh.2.2 hBa.1 hBa.2;rw[hL];exact this
 have azs:∀mo,aV p1 mo=aV I.p mo:=JF le1;have ayJ:∀k:Int,0<=k->k<=I.month-I.st->d1.int k 0=I.us.int k 1:=fun k k0 k1=>le3 k k0 (by omega)
 have akV:∀k:Int,0<=k->k<I.month-I.st->dS I.st d1 p1 (I.st+k)=(if k=k0 then X else 0)-(if k=j0 then Y else 0):=fun k k0 k1=>by rw[avE,ayJ k k0 (by omega),azs,hx k k0 k1];omega
 have late0:iV I.st d1 p1 I.month k0↔0<X:=by
  unfold iV;by_cases c:k0<I.month-I.st
  ·rw[akV k0 hk0 c,if_pos rfl]
   refine⟨fun k=> ?_,fun k=>⟨by omega, ?_⟩⟩
   ·have:=k.2;split at this<;>omega
   ·split<;>omega
  ·rw[hx1 (by omega)]
   exact⟨fun k=>by omega,fun k=>by omega⟩
 have as8:iV I.st d1 p1 I.month k0->dS I.st d1 p1 (I.st+k0)=X:=fun k=>by
  have:=k.1;have h0:=late0.1 k;rw[akV k0 hk0 (by omega),if_pos rfl];split<;>omega
 have azt:∀k:Int,0<=k->k<d1.len->k≠k0->¬iV I.st d1 p1 I.month k:=fun k k1 _ k3 g=>by
  have g1:=g.1;have g2:=g.2;rw[akV k k1 (by omega),if_neg k3]at g2;split at g2<;>omega
 obtain⟨st2,d2,p2,e,hq,_,e2⟩:=hse;obtain⟨r,e0,hod,_,q2⟩:=hq;have ro:=(hod.2 ⟨⟨v1,asr hz⟩,⟨af7,RF⟩,by omega,by omega⟩);rw[aix (day:=I.day) hz hkn s0 hk0 azt (fun k=>by rw[as8 k];exact X1) d1.n (zB _)]at ro
 have rowA:iU (k0<(d1.n:Int)/\iV I.st d1 p1 I.month k0) [.int I.day, .int (I.st+k0), .int 2, .int (dS I.st d1 p1 (I.st+k0))]=I.rA k0 X:=
  aag ⟨fun k=>late0.1 k.2,fun k=>⟨by have:=(late0.2 k).1;unfold zD at dl1;omega,late0.2 k⟩⟩ (fun k=>by rw[as8 k.2])
 rw[rowA]at ro;obtain⟨hr,e00⟩:=(show aQ r (zA (I.rA k0 X))/\e0=0 from ro)
 have q2:=q2 e00;obtain⟨ee,es,v2,hd2,hb2,ld2,pl2⟩:=YE q2 v1 (by rw[le1.1];omega) (by rw[Fp le1];exact xX) hr (fun k=>by
  have:=(late0.2 k).1;exact⟨⟨af7,RF,by omega,by omega⟩, .inl ⟨.inr (.inl rfl),by omega,by omega⟩⟩)
 have hdu:=e2 ee;have hb2:behind I.p (zA (I.rA k0 X)) p2:=acU hb2 le1 (fK _);rw[le1.1]at pl2;have len2:d2.len=d1.len:=hd2.1;have ayK:∀k:Int,0<=k->k<=I.month-I.st->d2.int k 0=I.us.int k 1:=fun k k0 k1=>by rw[hd2.2 k k0 (by omega)];exact ayJ k k0 k1
 have pA:∀mo,aV p2 mo=aV I.p mo+if 0<X/\I.st+k0=mo then X else 0:=fun mo=>by
  rw[uZ hb2];unfold iM.rA;rw[WR,if_neg (show¬(2:Int)=3 by decide)]
 have hXm:¬(0<X/\I.st+k0=I.month):=fun k=>by have:=(late0.2 k.1).1;omega
 obtain⟨nn,eo,ho,_,o2⟩:=hdu;have aAy:og I.st d2 I.month:=⟨m0,by omega⟩;obtain⟨en,eo0⟩:=(ho.2 v2).2 aAy;rw[ayK _ n0 (zB _),<-hB,pA,hN,if_neg hXm]at en;have en:nn=B:=by omega
 subst en;have o2:=o2 eo0;have step3:∃d3 p3,aA I.st d3 p3/\fG d3 d2/\behind p2 (zA (I.rB nn)) p3/\lastDay p3<=I.day/\p3.len<=p2.len+1/\I.recover d3 p3 o:=by
  by_cases c:nn<=0
  ·have e:I.rB nn=[]:=by unfold iM.rB iU;rw[if_neg (by omega)]
   rw[e];exact⟨d2,p2,v2,⟨rfl,fun _ _ _=>rfl⟩,akU p2,ld2,by omega,o2.1 c⟩
  ·obtain⟨st3,d3,p3,e3,hq3,_,e3'⟩:=o2.2.2 (by omega) hBa.2
   have e:[[.int I.day, .int I.month, .int 1, .int nn]]=I.rB nn:=by unfold iM.rB iU;rw[if_pos (by omega)]
   rw[e]at hq3;obtain⟨ee,es,v3,hd3,hb3,ld3,pl3⟩:=YE (c:=0<nn) hq3 v2 (by omega) ld2 (fK _) (fun k=>⟨⟨af7,RF,m0,by omega⟩, .inl ⟨.inl rfl,by omega,by omega⟩⟩)
   exact⟨d3,p3,v3,hd3,hb3,ld3,pl3,e3' ee⟩
 obtain⟨d3,p3,v3,hd3,hb3,ld3,pl3,hrec⟩:=step3;have ayL:d3.len=d2.len:=hd3.1;have asv:∀k:Int,0<=k->k<=I.month-I.st->d3.int k 0=I.us.int k 1:=fun k k0 k1=>by rw[hd3.2 k k0 (by omega)];exact ayK k k0 k1
 have pB:∀k:Int,k<I.month-I.st->aV p3 (I.st+k)=aV I.p (I.st+k)+if 0<X/\I.st+k0=I.st+k then X else 0:=fun k k1=>by
  rw[uZ hb3,pA];unfold iM.rB;rw[WR,if_neg (show¬(0<nn/\I.month=I.st+k) by omega)];omega
 have ovA:∀k:Int,0<=k->k<I.month-I.st->ov I.st d3 p3 k=if k=j0 then Y else 0:=fun k k1 k4=>by
  unfold ov;rw[pB k k4,asv k k1 (by omega),hx k k1 k4];by_cases g:k=k0
  ·rw[if_pos g]
   by_cases g2:0<X
   ·rw[if_pos ⟨g2,by omega⟩];omega
   ·rw[if_neg (fun k=>g2 k.1)];omega
  ·rw[if_neg g,if_neg (by omega)];omega
 have ovN:∀k:Int,0<=k->k<d3.len->k≠j0->I.st+k<I.month->ov I.st d3 p3 k<=0:=fun k k1 _ k3 k4=>by
  rw[ovA k k1 (by omega),if_neg k3];exact zB _
 have hR:mX I.st d3 p3 I.month L j0=imin Y L:=by
  unfold mX;by_cases c:j0<I.month-I.st
  ·rw[if_pos (by omega),ovA j0 hj0 c,if_pos rfl]
   unfold mW
   congr 1
   split<;>omega
  ·rw[if_neg (by omega),hy1 (by omega)]
   unfold imin;split<;>omega
 obtain⟨st4,d4,p4,e4,hq4,_,f4⟩:=hrec;obtain⟨s,e0',hts,_,q4⟩:=hq4;have hlim:Dj I.st d3 p3 I.month I.sa I.sb I.sc I.sd L 0:=⟨fun k=>absurd ⟨v3,hsh⟩ k,fun _=>⟨fun k=>absurd ⟨m0,by omega⟩ k,fun _=>by
  rw[asv _ n0 (zB _),<-hB];exact⟨fun _=>⟨hL,rfl⟩,fun k=>absurd hLf k⟩⟩⟩
 have td:=(hts L 0 hlim).2 rfl;obtain⟨hs,es0⟩:=td.2 ⟨af7,RF⟩;rw[(af4 (day:=I.day) L0.1 hj0 ovN d3.n (zB _)).2,hR]at hs;have jn:0<imin Y L->j0<I.month-I.st:=fun k=>by
  rcases Int.lt_or_le j0 (I.month-I.st)with c|c
  ·exact c
  ·rw[hy1 c]at k
   unfold imin at k;split at k<;>omega
 have aAz:iU (j0<(d3.n:Int)/\0<imin Y L) [.int I.day, .int (I.st+j0), .int 4, .int (-(imin Y L))]=I.rR j0 (imin Y L):=
  aag ⟨fun k=>k.2,fun k=>⟨by have:=jn k;unfold zD at ayL len2 dl1;omega,k⟩⟩ (fun _=>rfl)
 rw[aAz]at hs;have Rb:0<=imin Y L/\imin Y L<=1099511627776:=by unfold imin;split<;>omega
 obtain⟨ee4,es4,v4,hd4,hb4,ld4,pl4⟩:=YE (q4 es0) v3 (by omega) ld3 hs (fun k=>by
  have c:=jn k;exact⟨⟨af7,RF,by omega,by omega⟩, .inr ⟨.inl rfl,by omega,by omega⟩⟩)
 refine⟨d4,p4,v4,⟨by rw[hd4.1,ayL,len2,le2,Ar],fun k k0 k1=>by rw[hd4.2 k k0 (by have:=hd4.1;omega)];exact asv k k0 k1⟩, ?_,ld4,by omega,f4 ee4⟩
 have b:=Vf (Vf hb2 hb3) hb4;rw[jL]at b;rw[<-jL];exact b
end
theorem asw{q:Rat}{k:Int}(h:(k:Rat)<=q)(g:q<((k+1:Int):Rat)):q.floor=k:=by
 have h1:=Rat.le_floor_iff.2 h;have h2:=Rat.floor_lt_iff.2 g;omega
theorem an1{a b c:Rat}(hc:0<c):a<=b/c↔a*c<=b:=by rw[<-zF,Rat.div_lt_iff hc,zF]
theorem akW{A n d:Int}(hd:0<d):((A:Rat)*((n:Rat)/(d:Rat))).floor=A*n/d:=by
 have e:(A:Rat)*((n:Rat)/(d:Rat))=((A*n:Int):Rat)/(d:Rat):=by
  rw[zG,Rat.div_def,Rat.div_def,Rat.mul_assoc]
 have hd':(0:Rat)<(d:Rat):=Rat.intCast_pos.2 hd;have k1:=Int.emod_nonneg (A*n) (show d≠0 by omega);have k2:=Int.emod_lt_of_pos (A*n) hd;have k3:=Int.mul_ediv_add_emod (A*n) d;rw[e];generalize A*n/d=k at*;generalize hN:A*n=N at*;refine asw ?_ ?_
 ·rw[an1 hd',<-zG]
  refine zI.2 ?_
  rw[Int.mul_comm];omega
 ·rw[Rat.div_lt_iff hd',<-zG]
  refine Rat.intCast_lt_intCast.2 ?_
  rw[Int.add_mul,Int.mul_comm k d];omega
section
variable{x:Int}{l:Sl}
theorem aiy(h:adK x l):rq l 0=(x:Rat)/((100:Int):Rat):=by
 unfold rq;rw[h.2.2.1.fq];unfold yu;rw[if_neg (by decide),Rat.divInt_eq_div]
theorem akX(h:adK x l)(hx:0<=x/\x<=100):bZ l:=by
 have e:=aiy h;have hd:(0:Rat)<((100:Int):Rat):=Rat.intCast_pos.2 (by decide);obtain⟨h0,h1,h2,h3,h4⟩:=h;refine⟨by omega,fun i i0 i1=> ?_,fun i i0 i1=>by omega⟩
 have e0:i=0:=by omega
 subst e0;refine⟨by rw[h1];decide,⟨h2.pO,by omega,by omega⟩, ?_, ?_, ?_⟩
 ·show 0<=rq l 0
  rw[e,an1 hd,Rat.zero_mul];exact zI.2 hx.1
 ·show rq l 0<=1
  rw[e,<-zF,Rat.lt_div_iff hd,zF,Rat.one_mul];exact zI.2 hx.2
 ·show((rq l 0).den:Int)<=1000000
  unfold rq;rw[h2.fq];unfold yu;rw[if_neg (by decide)];have:=xk (n:=x) (d:=100) (by decide);omega
theorem avG(h:adK x l){m A:Int}(hA:0<=A):(TT l m A).floor=A*x/100:=by
 have e:=aiy h;have hl:l.len.toNat=1:=by rw[h.1];rfl
 have hp:PI l m A 0=12*A:=by unfold PI;rw[h.2.1];split<;>omega
 have t:TN l m A 1=0+(PI l m A 0:Rat)*(rq l 0-rp l 0):=rfl;have r0:rp l 0=0:=if_pos rfl;rw[<-akW (A:=A) (n:=x) (d:=100) (by decide)]
 congr 1
 unfold TT;rw[hl,t,hp,r0,e,zG];rw[show((12:Int):Rat)=12 from rfl]
 grind
end
theorem ahz{x:Int}{y:Sl}(h:Qm x y)(hx:0<=x/\x<=100):qF y:=by
 refine⟨fun i i0 i1=> ?_,fun i i0 i1=>by have:=h.1;omega⟩
 have e:i=0:=by have:=h.1;omega
 subst e;exact akX h.2.2 hx
theorem akY{x:Int}{y:Sl}(h:Qm x y){yr:Int}(hy:1900<=yr):vZ y yr 0:=⟨zB _,by rw[h.1];decide,by rw[h.2.1];exact hy,fun j j0 j1=>by have:=h.1;omega⟩
section
variable{I:iM}{o:wo}
theorem asx{d4 p4:Sl}{x G:Int}(h:I.fin d4 p4 o)(hy:Qm x I.ys)(hx:0<=x/\x<=100)(hmo:0<=I.mo/\I.mo<=I.month/\I.month<=2153)(hg:amt I.g)(ht:II I.t)
  (hG:I.gy p4=G) (hGa:amt G) (hs:goes I.mo I.month I.g+G<=1099511627776) (ht0:0<=goes I.mo I.month I.t):
  (0<=(goes I.mo I.month I.g+G)*x/100/\(goes I.mo I.month I.g+G)*x/100<=1099511627776)/\I.result d4 p4 G ((goes I.mo I.month I.g+G)*x/100-goes I.mo I.month I.t) I.month (goes I.mo I.month I.g+G) ((goes I.mo I.month I.g+G)*x/100) o:=by
 obtain⟨g0,g1⟩:=hg;obtain⟨G0,G1⟩:=hGa;have sg:0<=goes I.mo I.month I.g:=by unfold goes;split<;>omega
 have s0:0<=goes I.mo I.month I.g+G:=by omega
 have b0:0<=(goes I.mo I.month I.g+G)*x/100:=Int.ediv_nonneg (Int.mul_nonneg s0 hx.1) (by decide);have b1:(goes I.mo I.month I.g+G)*x/100<=1099511627776:=by
  have:(goes I.mo I.month I.g+G)*x<=1099511627776*100:=Int.mul_le_mul hs hx.2 hx.1 (by decide);omega
 have hf:=h.2.2;rw[hG]at hf;obtain⟨r,dP,g',t',e,hh,h1,h2⟩:=hf ⟨G0,G1⟩;have ok:Dk I.ys I.mo I.g I.t I.month G:=⟨ahz hy hx,⟨hmo.1,by omega⟩,⟨g0,g1⟩,ht,⟨hmo.2.1,hmo.2.2⟩,⟨G0,G1⟩⟩;obtain⟨e1,e2,e3,e4,e5⟩:=((hh.2 ok).2 0 (akY hy (by omega))).2 hs;rw[e2,avG hy.2.2 s0]at e3;have h2:=(h2 e5).2 (by omega);rw[e4,e3,e1,e2]at h2;exact⟨⟨b0,b1⟩,h2⟩
theorem an2{np np':Int}{l:Sl}{m day a b num bW aC ni net:Int}{gone:Bool}(h:∀i:Int,0<=i->i<l.len->kJ np l i)(hn:np<=b)(hb:a<=b/\b<=np')(ha:np<=a)(ha0:0<=a)
  (hm:(if 0<l.len then l.int (l.len-1) 0 else-1)<m) (hN:(if 0<l.len then l.int (l.len-1) 4 else-1)<num) (hg:amt aC) (ht:II ni):
  ∀i:Int,0<=i->i<(zC l (zA [[.int m, .int day, .int a, .int b, .int num, .int bW, .int aC, .int ni, .int net, .bool gone]])).len->kJ np' (zC l (zA [[.int m, .int day, .int a, .int b, .int num, .int bW, .int aC, .int ni, .int net, .bool gone]])) i:=fun i i0 i1=>by
 have l0:=len0 l;have e1:(zA [[.int m, .int day, .int a, .int b, .int num, .int bW, .int aC, .int ni, .int net, .bool gone]]).len=1:=rfl;rw[dG,e1]at i1;generalize hr:zA [[.int m, .int day, .int a, .int b, .int num, .int bW, .int aC, .int ni, .int net, .bool gone]]=r at*;have lo:∀k j,0<=k->k<l.len->(zC l r).int k j=l.int k j:=fun k j k0 k1=>aS k0 k1
 have pv:∀j(d0:Int),i<=l.len->dH (zC l r) j d0 i=dH l j d0 i:=fun j d0 k=>by
  unfold dH;by_cases e:i=0
  ·rw[if_pos e,if_pos e]
  ·rw[if_neg e,if_neg e];exact lo _ _ (by omega) (by omega)
 by_cases c:i<l.len
 ·have s:=h i i0 c
  unfold kJ at s⊢;rw[pv _ _ (by omega),pv _ _ (by omega),pv _ _ (by omega),lo i 0 i0 c,lo i 4 i0 c,lo i 2 i0 c,lo i 3 i0 c,lo i 6 i0 c,lo i 7 i0 c];exact⟨s.1,⟨s.2.1.1,s.2.1.2.1,by have:=s.2.1.2.2;omega⟩,s.2.2⟩
 ·have e:i=l.len:=by omega
  have hi:∀j,(zC l r).int i j=r.int 0 j:=fun j=>by rw[aG (by omega),e,Int.sub_self]
  unfold kJ;rw[pv _ _ (by omega),pv _ _ (by omega),pv _ _ (by omega),hi 0,hi 4,hi 2,hi 3,hi 6,hi 7,<-hr];show((dH l 0 (-1) i<m)/\dH l 4 (-1) i<num)/\(dH l 3 0 i<=a/\a<=b/\b<=np')/\amt aC/\II ni;unfold dH;by_cases z:i=0
  ·rw[if_neg (by omega)]at hm hN
   rw[if_pos z,if_pos z,if_pos z];exact⟨⟨hm,hN⟩,⟨ha0,hb.1,hb.2⟩,hg,ht⟩
  ·rw[if_pos (by omega)]at hm hN
   rw[if_neg z,if_neg z,if_neg z,e];have s:=(h (l.len-1) (by omega) (by omega)).2.1.2.2;exact⟨⟨hm,hN⟩,⟨by omega,hb.1,hb.2⟩,hg,ht⟩
def aiz(I:iM)(b aC ni:Int):List (List D):=[[.int I.month, .int I.day, .int I.p.len, .int b, .int I.num, .int I.bW, .int aC, .int ni, .int (aC-ni), .bool (decide False)]]
theorem asy(h:I.pay o)(hV:eH I.st I.d I.p I.mo I.g I.t I.l)(ha:I.mD)(hl:I.l.len<1200)(he:I.qU)(hk:I.us.len<=1200)
  (hz:GX I.name I.two I.rt) (hkn:0<=I.known) (xX:lastDay I.p<=I.day/\0<=I.day/\I.day<65536) (hpl:I.p.len<=3990) (hsh:jK I.sa I.sb I.sc I.sd)
  {k0 X j0 Y L B x:Int} (hN:aV I.p I.month=0) (hB:B=I.us.int (I.month-I.st) 1) (hx:I.diff k0 X j0 Y)
  (hL:L=(fq I.sa I.sb I.sd*(B:Rat)).floor) (hLf:bM (fq I.sa I.sb I.sd*(B:Rat)))
  (hy:Qm x I.ys) (hxx:0<=x/\x<=100) (hmo:I.mo<=I.month)
  {G:Int} (hG:G=X+B-imin Y L) (hGa:amt G) (hs:goes I.mo I.month I.g+G<=1099511627776) (ht0:0<=goes I.mo I.month I.t):
  o.e=0/\o.st=I.st/\eH o.st o.d o.p o.mo o.g o.t o.l/\(o.d.len=imax I.d.len (I.month-I.st+1)/\∀k:Int,0<=k->k<=I.month-I.st->o.d.int k 0=I.us.int k 1)/\
   behind I.p (zA (I.rA k0 X++I.rB B++I.rR j0 (imin Y L))) o.p/\lastDay o.p<=I.day/\o.p.len<=I.p.len+3/\
   (o.mo=I.month/\o.g=goes I.mo I.month I.g+G/\o.t=(goes I.mo I.month I.g+G)*x/100)/\(o.aC=G/\o.ni=o.t-goes I.mo I.month I.t/\o.net=G-o.ni/\o.num=I.num)/\
   o.l=zC I.l (zA (aiz I o.p.len G o.ni)):=by
 obtain⟨d4,p4,v4,hd4,hb4,ld4,pl4,hf⟩:=avF h hV ha hl he hk hz hkn xX hpl hsh hN hB hx hL hLf;obtain⟨vm,vg,vt⟩:=hV.2.1;have hg4:I.gy p4=G:=by
  rw[af6 hb4,<-jL,af5,<-jL,af5];unfold iM.rA iM.rB iM.rR;rw[Vg,Vg,Vg,hG];have hBa:0<=B:=by rw[hB];exact(he (I.month-I.st) (by have:=ha.2.1.1;omega) (by have:=ha.2.2.1;omega)).2.1
  have R1:0<=imin Y L:=by
   have aAA:B<=1099511627776:=by rw[hB];exact(he (I.month-I.st) (by have:=ha.2.1.1;omega) (by have:=ha.2.2.1;omega)).2.2
   have L0:=LX hsh.2.1 hsh.2.2 hBa aAA;rw[<-hL]at L0;have:=hx.1.2.1.2.1;unfold imin;split<;>omega
  have X0:=hx.1.1.2.1
  (repeat' split)<;>omega
 obtain⟨⟨b0,b1⟩,hr⟩:=asx hf hy hxx ⟨vm.1,hmo,ha.2.1.2.1⟩ vg vt hg4 hGa hs ht0;obtain⟨⟨r1,r2,r3,r4⟩,⟨r5,r6,r7⟩,⟨r8,r9,r10,r11⟩,⟨r12,r13,r14,r15,r16⟩,r17,r18⟩:=hr;have el:o.p.len=p4.len:=r4.1;have pp:I.p.len<=p4.len:=by have:=hb4.1;have:=len0 (zA (I.rA k0 X++I.rB B++I.rR j0 (imin Y L)));omega
 have hv:aA o.st o.d o.p:=by
  rw[r2];obtain⟨a1,a2,a3,a4⟩:=v4;refine⟨by rw[r3.1];exact a1,fun i i0 i1=>by rw[r3.2 i i0 i1];exact a2 i i0 (by rw[<-r3.1];exact i1),by rw[r4.1];exact a3, ?_⟩
  exact Go.Sx.N.L.follow_eq (zH r3.1.symm) (zH r4.1) r4.2 a4
 have sg:0<=goes I.mo I.month I.g:=by have:=vg.1;unfold goes;split<;>omega
 have tb:goes I.mo I.month I.t<=1099511627776:=by have:=vt.2;unfold goes;split<;>omega
 rw[Gv]at r18;have rr:o.l=zC I.l (zA (aiz I o.p.len G o.ni)):=by rw[r18,r15,el];rfl
 have aAB:II o.ni:=by rw[r15];exact⟨by omega,by omega⟩
 refine⟨r1,r2,⟨⟨hv, ?_⟩,⟨⟨by rw[r5];have:=vm.1;omega,by rw[r5];exact ha.2.1.2.1⟩,⟨by rw[r6];have:=hGa.1;omega,by rw[r6];exact hs⟩,⟨by rw[r7];omega,by rw[r7];omega⟩⟩, ?_⟩,
  ⟨by rw[r3.1];exact hd4.1,fun k k0 k1=>by rw[r3.2 k k0 (by rw[r3.1,hd4.1];unfold imax;split<;>omega)];exact hd4.2 k k0 k1⟩, ?_,by rw[Fp r4];exact ld4,by omega,⟨r5,r6,r7⟩,⟨r14,by rw[r15,r7],by rw[r16,r15],r12⟩,rr⟩
 ·rw[rr,dG]
  show I.l.len+1<=1200;omega
 ·rw[rr]
  exact an2 hV.2.2 (by omega) ⟨by omega,zB _⟩ (zB _) (len0 _) ha.2.1.2.2 ha.1.2.2 hGa aAB
 ·refine⟨by rw[el];exact hb4.1,fun i i0 i1=> ?_,fun i i0 i1=> ?_⟩
  ·obtain⟨a,b,c,e⟩:=r4.2 i i0 (by omega)
   obtain⟨a',b',c',e'⟩:=hb4.2.1 i i0 i1;exact⟨a.trans a',b.trans b',c.trans c',e.trans e'⟩
  ·obtain⟨a,b,c,e⟩:=r4.2 (I.p.len+i) (by have:=len0 I.p;omega) (by have:=hb4.1;omega)
   obtain⟨a',b',c',e'⟩:=hb4.2.2 i i0 i1;exact⟨a.trans a',b.trans b',c.trans c',e.trans e'⟩
end
set_option maxRecDepth 20000
theorem aiA{s:Sl}{m:Int}:∀n:Nat,(∀k:Int,0<=k->k<n->s.int k 0<=m)->(zA (aT s m n)).len=n/\∀k:Int,0<=k->k<n->(zA (aT s m n)).int k 0=s.int k 0/\(zA (aT s m n)).int k 1=s.int k 1/\(zA (aT s m n)).int k 2=s.int k 2
 |0,_=>⟨rfl,fun k _ _=>by omega⟩
 | n+1,h=>by
  obtain⟨i1,i2⟩:=aiA n fun k k0 k1=>h k k0 (by omega)
  have e:aT s m (n+1)=aT s m n++[uK s n]:=by
   show(if s.int n 0<=m then _ else _)=_
   rw[if_pos (h n (by omega) (by omega))]
  have e1:(zA [uK s n]).len=1:=rfl;rw[e,<-jL];refine⟨by rw[dG,i1,e1];omega,fun k k0 k1=> ?_⟩
  by_cases c:k<n
  ·rw[aS k0 (by rw[i1];exact c),aS k0 (by rw[i1];exact c),aS k0 (by rw[i1];exact c)]
   exact i2 k k0 c
  ·have ek:k=n:=by omega
   rw[aG (by rw[i1];omega),aG (by rw[i1];omega),aG (by rw[i1];omega),i1,ek,Int.sub_self];exact⟨rfl,rfl,rfl⟩
theorem an3{I:iM}{dl:Sl}(h:jJ I.st dl I.es)(hl:dl.len=I.month-I.st+1):I.us.len=dl.len/\∀k:Int,0<=k->k<dl.len->I.us.int k 0=I.st+k/\I.us.int k 1=dl.int k 0/\I.us.int k 2=0:=by
 obtain⟨h1,h2⟩:=h;have e:((I.es.n:Nat):Int)=dl.len:=h1;obtain⟨a,b⟩:=aiA (s:=I.es) (m:=I.month) I.es.n fun k k0 k1=>by rw[(h2 k k0 (by omega)).1];omega
 refine⟨a.trans e,fun k k0 k1=> ?_⟩
 obtain⟨x,y,z⟩:=b k k0 (by omega);obtain⟨x',y',z'⟩:=h2 k k0 k1;exact⟨x.trans x',y.trans y',z.trans z'⟩
theorem akZ{I:iM}{dl:Sl}(h:jJ I.st dl I.es)(hl:dl.len=I.month-I.st+1)(hst:I.st<=I.month/\I.month<=2153)(aBI:I.bW=7)(hn:I.qR<I.num)(hm:I.yw<I.month)(hdl:∀k:Int,0<=k->k<dl.len->amt (dl.int k 0)):I.mD/\I.qU:=by
 obtain⟨a,b⟩:=an3 h hl;refine⟨⟨⟨by omega,by omega,hn⟩,⟨hst.1,hst.2,hm⟩,a.trans hl,fun k k0 k1=>(b k k0 (by omega)).1⟩,fun k k0 k1=> ?_⟩
 obtain⟨_,y,z⟩:=b k k0 (by omega);rw[y];exact⟨z,hdl k k0 (by omega)⟩
theorem abT{st:Int}{d p:Sl}{mo g t:Int}{l es:Sl}{day month num:Int}{sa:Bool}{sb:Sl}{sc:Bool}{sd:Sl}{name:ByteArray}{two:Bool}{rt ys:Sl}{o:wo}{dl:Sl}
  (h:iM.pay ⟨st,d,p,mo,g,t,l,es,day,month,7,num,sa,sb,sc,sd,name,two,rt,ys,0⟩ o) (hV:eH st d p mo g t l) (hes:jJ st dl es) (hlen:dl.len=month-st+1) (hst:st<=month/\month<=2153) (hk:dl.len<=1200)
  (hn:(if 0<l.len then l.int (l.len-1) 4 else-1)<num) (hm:(if 0<l.len then l.int (l.len-1) 0 else-1)<month) (hdl:∀k:Int,0<=k->k<dl.len->amt (dl.int k 0)) (hl:l.len<1200)
  (hz:GX name two rt) (xX:lastDay p<=day/\0<=day/\day<65536) (hpl:p.len<=3990) (hsh:jK sa sb sc sd)
  (k0 X j0 Y L B x G:Int) (hN:aV p month=0) (hB:dl.int (month-st) 0=B)
  (hk0:0<=k0/\0<=X/\X<=1099511627776/\(month-st<=k0->X=0)) (hj0:0<=j0/\0<=Y/\Y<=1099511627776/\(month-st<=j0->Y=0)) (hXY:k0=j0->X=0\/Y=0)
  (hx:∀k:Int,0<=k->k<month-st->dl.int k 0=aV p (st+k)+(if k=k0 then X else 0)-(if k=j0 then Y else 0))
  (hL:L=(fq sa sb sd*(B:Rat)).floor) (hLf:bM (fq sa sb sd*(B:Rat)))
  (hy:Qm x ys) (hxx:0<=x/\x<=100) (hmo:mo<=month)
  (hG:G=X+B-imin Y L) (hGa:amt G) (hs:goes mo month g+G<=1099511627776) (ht0:0<=goes mo month t):
  o.e=0/\o.st=st/\eH o.st o.d o.p o.mo o.g o.t o.l/\(o.d.len=imax d.len (month-st+1)/\∀k:Int,0<=k->k<=month-st->o.d.int k 0=dl.int k 0)/\
   behind p (zA (iU (0<X) [.int day, .int (st+k0), .int 2, .int X]++iU (0<B) [.int day, .int month, .int 1, .int B]++iU (0<imin Y L) [.int day, .int (st+j0), .int 4, .int (-(imin Y L))])) o.p/\lastDay o.p<=day/\o.p.len<=p.len+3/\
   (o.mo=month/\o.g=goes mo month g+G/\o.t=(goes mo month g+G)*x/100)/\(o.aC=G/\o.ni=o.t-goes mo month t/\o.net=G-o.ni/\o.num=num)/\
   o.l=zC l (zA [[.int month, .int day, .int p.len, .int o.p.len, .int num, .int 7, .int G, .int o.ni, .int (G-o.ni), .bool (decide False)]]):=by
 let I:iM:=⟨st,d,p,mo,g,t,l,es,day,month,7,num,sa,sb,sc,sd,name,two,rt,ys,0⟩
 obtain⟨A,E⟩:=akZ (I:=I) hes hlen hst rfl hn hm hdl;obtain⟨u1,u2⟩:=an3 (I:=I) hes hlen;have n0:0<=month-st:=by omega
 obtain⟨r1,r2,r3,⟨r4,r5⟩,r6⟩:=asy (I:=I) h hV A hl E (by rw[u1];exact hk) hz (zB _) xX hpl hsh (k0:=k0) (X:=X) (j0:=j0) (Y:=Y) (L:=L) (B:=B) hN (by rw[(u2 (month-st) n0 (by omega)).2.1,hB]) ⟨⟨hk0,hj0,hXY⟩,fun k k0 k1=>by
  have k1:k<month-st:=k1;rw[(u2 k k0 (by omega)).2.1];exact hx k k0 k1⟩ hL hLf hy hxx hmo hG hGa hs ht0
 exact⟨r1,r2,r3,⟨r4,fun k k0 k1=>by rw[r5 k k0 k1,(u2 k k0 (by omega)).2.1]⟩,r6⟩
theorem ak0{a c:Bool}{b f:Sl}(h:F9 1 2 a b c f):jK a b c f/\fq a b f=1/2:=by
 obtain⟨h1,h2,h3⟩:=h;have e:fq a b f=1/2:=by rw[h1.fq];unfold yu;rw[if_neg (by decide),Rat.divInt_eq_div];rfl
 refine⟨⟨⟨h1.pO,by omega,by omega⟩, ?_, ?_⟩,e⟩
 ·rw[e];grind
 ·rw[e];grind
theorem asz:(50:Int)=((1/2:Rat)*((100:Int):Rat)).floor/\bM ((1/2:Rat)*((100:Int):Rat)):=by
 have e:(1/2:Rat)*((100:Int):Rat)=((50:Int):Rat):=by rw[show((100:Int):Rat)=100 from rfl,show((50:Int):Rat)=50 from rfl];grind
 rw[e];exact⟨(Rat.floor_intCast 50).symm,VX (by decide) (by decide)⟩
theorem WS{a b k x a' b' k' x' mo:Int}:aV (zA [[.int a, .int b, .int k, .int x],[.int a', .int b', .int k', .int x']]) mo=(if b=mo then(if k=3 then 0 else x)else 0)+(if b'=mo then(if k'=3 then 0 else x')else 0):=by
 show(0:Int)+_+_=_;rw[zL];rfl
theorem ahA{a b k x mo:Int}:aV (zA [[.int a, .int b, .int k, .int x]]) mo=if b=mo then(if k=3 then 0 else x)else 0:=by
 show(0:Int)+_=_;rw[zL];rfl
theorem ak1 {a c : Bool} {b f : Sl} (hh : F9 1 2 a b c f)
    {es1:Sl} {ac1 nu1:Int} {a1 c1:Bool} {b1 f1:Sl} {na1:ByteArray} {tw1:Bool} {rt1 ys1:Sl} {kn1:Int} {o1:wo}
    (n1:jJ 1500 (zA [[.int 100]]) es1) (s1:oV 1 a b c f ac1 nu1 a1 b1 c1 f1 na1 tw1 rt1 ys1 kn1) (h1:iM.pay ⟨1500,zE,zE,0,0,0,zE,es1,10,1500,ac1,nu1,a1,b1,c1,f1,na1,tw1,rt1,ys1,kn1⟩ o1)
    {es2:Sl} {ac2 nu2:Int} {a2 c2:Bool} {b2 f2:Sl} {na2:ByteArray} {tw2:Bool} {rt2 ys2:Sl} {kn2:Int} {o2:wo}
    (n2:jJ 1500 (zA [[.int 70],[.int 100]]) es2) (s2:oV 2 a b c f ac2 nu2 a2 b2 c2 f2 na2 tw2 rt2 ys2 kn2) (h2:iM.pay ⟨o1.st,o1.d,o1.p,o1.mo,o1.g,o1.t,o1.l,es2,40,1501,ac2,nu2,a2,b2,c2,f2,na2,tw2,rt2,ys2,kn2⟩ o2)
    {st:Int} {d p:Sl} {mo g t:Int} {l:Sl} {e x ex y ey:Int} (hr:oU o2.st o2.d o2.p o2.mo o2.g o2.t o2.l 2 50 st d p mo g t l e) (hx:qA st d p 1501 x ex) (hy:qA st d p 1500 y ey)
    {es3:Sl} {ac3 nu3:Int} {a3 c3:Bool} {b3 f3:Sl} {na3:ByteArray} {tw3:Bool} {rt3 ys3:Sl} {kn3:Int} {o3:wo} (h3:iM.pay ⟨st,d,p,mo,g,t,l,es3,60,1501,ac3,nu3,a3,b3,c3,f3,na3,tw3,rt3,ys3,kn3⟩ o3)
    {es4:Sl} {ac4 nu4:Int} {a4 c4:Bool} {b4 f4:Sl} {na4:ByteArray} {tw4:Bool} {rt4 ys4:Sl} {kn4:Int} {o4:wo}
    (n4:jJ 1500 (zA [[.int 70],[.int 100],[.int 100]]) es4) (s4:oV 3 a b c f ac4 nu4 a4 b4 c4 f4 na4 tw4 rt4 ys4 kn4) (h4:iM.pay ⟨st,d,p,mo,g,t,l,es4,70,1502,ac4,nu4,a4,b4,c4,f4,na4,tw4,rt4,ys4,kn4⟩ o4):
    (o1.e=0/\o2.e=0/\e=0/\ex=0/\ey=0/\o4.e=0)/\o3.e=2/\(o1.aC=100/\o1.num=1/\o2.aC=70/\o2.net=70)/\x=100/\y=-30/\o4.aC=170:=by
  obtain⟨rfl,rfl,⟨rfl,rfl,rfl,rfl⟩,z1,y1,rfl⟩:=s1;obtain⟨rfl,rfl,⟨rfl,rfl,rfl,rfl⟩,z2,y2,rfl⟩:=s2;obtain⟨rfl,rfl,⟨rfl,rfl,rfl,rfl⟩,z4,y4,rfl⟩:=s4;obtain⟨hsh,hq⟩:=ak0 hh;obtain⟨fl,ff⟩:=asz;rw[<-hq]at fl ff;have V0:eH 1500 zE zE 0 0 0 zE:=⟨⟨⟨⟨by decide,by decide,by decide,by decide⟩,fun i i0 i1=>by rw[len_nil]at i1;omega,by decide,fun i i0 i1=>by rw[len_nil]at i1;omega⟩,by decide⟩,⟨⟨by decide,by decide⟩,⟨by decide,by decide⟩,⟨by decide,by decide⟩⟩,fun i i0 i1=>by rw[len_nil]at i1;omega⟩
  obtain⟨e1,t1,v1,⟨dl1,dv1⟩,bh1,ld1,pl1,⟨m1,g1,x1⟩,⟨gr1,tx1,nt1,nm1⟩,sl1⟩:=abT h1 V0 n1 rfl ⟨by decide,by decide⟩ (by decide) (by decide) (by decide) (fun k k0 k1=>by
      have e:k=0:=by have:k<1:=k1;omega
      subst e;exact⟨by decide,by decide⟩) (by decide) z1 ⟨by decide,by decide,by decide⟩ (by decide) hsh 0 0 0 0 50 100 0 100 rfl rfl
    ⟨zB _,zB _,by decide,fun _=>rfl⟩ ⟨zB _,zB _,by decide,fun _=>rfl⟩ (fun _=> .inl rfl) (fun k k0 k1=>by have:k<1500-1500:=k1;omega) fl ff y1 ⟨by decide,by decide⟩ (by decide) (by decide) ⟨by decide,by decide⟩ (by decide) (by decide)
  have bh1:behind zE (zA [[.int 10, .int 1500, .int 1, .int 100]]) o1.p:=bh1;have pn1:o1.p.len=1:=bh1.1;have P1:∀mo,aV o1.p mo=if 1500=mo then 100 else 0:=fun mo=>by
    rw[uZ bh1,ahA,if_neg (show¬(1:Int)=3 by decide)];show(0:Int)+_=_;rw[zL]
  have G1:o1.g=100:=g1;have T1:o1.t=0:=by rw[x1];decide
  have tx1:o1.ni=0:=by rw[tx1,T1];decide
  have sl1:o1.l=zA [[.int 1500, .int 10, .int 0, .int 1, .int 1, .int 7, .int 100, .int 0, .int (100-0), .bool (decide False)]]:=by rw[sl1,Gv,tx1,pn1];rfl
  have ht1:o1.st=1500:=t1;have hm1:o1.mo=1500:=m1;rw[ht1,hm1,G1,T1,sl1]at h2;rw[ht1,hm1,G1,T1,sl1]at v1;have dl1:o1.d.len=1:=dl1;obtain⟨e2,t2,v2,⟨dl2,dv2⟩,bh2,ld2,pl2,⟨m2,g2,x2⟩,⟨gr2,tx2,nt2,nm2⟩,sl2⟩:=abT h2 v1 n2 rfl ⟨by decide,by decide⟩ (by decide) (by decide) (by decide) (fun k k0 k1=>by
      have e:k=0\/k=1:=by have:k<2:=k1;omega
      rcases e with rfl|rfl<;>exact⟨by decide,by decide⟩) (by decide) z2 ⟨by have:lastDay o1.p<=10:=ld1;show lastDay o1.p<=40;omega,by decide,by decide⟩ (by show o1.p.len<=3990;omega) hsh 0 0 0 30 50 100 0 70 (by show aV o1.p 1501=0;rw[P1];decide) rfl
    ⟨zB _,zB _,by decide,fun _=>rfl⟩ ⟨zB _,by decide,by decide,fun k=>absurd k (by decide)⟩ (fun _=> .inl rfl) (fun k k0 k1=>by
      have e:k=0:=by have:k<1501-1500:=k1;omega
      subst e;show(70:Int)=aV o1.p 1500+_-_;rw[P1];decide) fl ff y2 ⟨by decide,by decide⟩ (by decide) (by decide) ⟨by decide,by decide⟩ (by decide) (by decide)
  have bh2:behind o1.p (zA [[.int 40, .int 1501, .int 1, .int 100],[.int 40, .int 1500, .int 4, .int (-30)]]) o2.p:=bh2;have pn2:o2.p.len=3:=by rw[bh2.1,pn1];rfl
  have P2:∀mo,aV o2.p mo=(if 1500=mo then 100 else 0)+((if 1501=mo then 100 else 0)+(if 1500=mo then-30 else 0)):=fun mo=>by
    rw[uZ bh2,P1,WS,if_neg (show¬(1:Int)=3 by decide),if_neg (show¬(4:Int)=3 by decide)]
  have G2:o2.g=170:=g2;have T2:o2.t=0:=by rw[x2];decide
  have tx2:o2.ni=0:=by rw[tx2,T2];decide
  have nt2:o2.net=70:=by rw[nt2,tx2];decide
  have sl2:o2.l=zA [[.int 1500, .int 10, .int 0, .int 1, .int 1, .int 7, .int 100, .int 0, .int (100-0), .bool (decide False)],[.int 1501, .int 40, .int 1, .int 3, .int 2, .int 7, .int 70, .int 0, .int (70-0), .bool (decide False)]]:=by
    rw[sl2,tx2,pn2];show zC (zA [_]) (zA [[.int 1501, .int 40, .int o1.p.len,_,_,_,_,_,_,_]])=_;rw[pn1,jL];rfl
  have ht2:o2.st=1500:=t2;have hm2:o2.mo=1501:=m2;rw[ht2,hm2,G2,T2,sl2]at hr v2;have at1:pG (zA [[.int 1500, .int 10, .int 0, .int 1, .int 1, .int 7, .int 100, .int 0, .int (100-0), .bool (decide False)],[.int 1501, .int 40, .int 1, .int 3, .int 2, .int 7, .int 70, .int 0, .int (70-0), .bool (decide False)]]) 2 1:=⟨by decide,by decide,rfl,by decide⟩;obtain⟨st3,d3,p3,e3,hq,_,q2⟩:=(hr.2 v2).2 1 at1;have rows:pR o2.p 50 1 2=[[.int 50, .int 1501, .int 5, .int (0-100)],[.int 50, .int 1500, .int 6, .int (0- -30)]]:=by
    have r1:=bh2.2.2 0 (by decide) (by decide);have r2:=bh2.2.2 1 (by decide) (by decide);rw[pn1]at r1 r2;obtain⟨_,a1,a2,a3⟩:=r1;obtain⟨_,b1',b2',b3'⟩:=r2;have a1:o2.p.int 1 1=1501:=a1;have a2:o2.p.int 1 2=1:=a2;have a3:o2.p.int 1 3=100:=a3;have b1':o2.p.int 2 1=1500:=b1';have b2':o2.p.int 2 2=4:=b2';have b3':o2.p.int 2 3=-30:=b3';show(([]++iH o2.p 50 1)++iH o2.p 50 2)=_;unfold iH;rw[a1,a2,a3,b1',b2',b3',if_pos (.inl rfl),if_neg (by decide),if_pos rfl];rfl
  have hq:aY 1500 o2.d o2.p (zA (pR o2.p 50 1 2)) st3 d3 p3 e3:=hq;rw[rows]at hq;have ld2:lastDay o2.p<=40:=ld2;have dl2:o2.d.len=2:=by rw[dl2];show imax o1.d.len 2=2;rw[dl1];decide
  have pok:l9 1500 o2.d o2.p (zA [[.int 50, .int 1501, .int 5, .int (0-100)],[.int 50, .int 1500, .int 6, .int (0- -30)]]):=⟨v2.1.1,fun i i0 i1=>by
    rw[dl2];have e:i=0\/i=1:=by have:i<2:=i1;omega
    rcases e with rfl|rfl
    · exact⟨⟨⟨by decide,by decide,by decide,by decide⟩, .inr ⟨.inr rfl,by decide,by decide⟩⟩,by show lastDay o2.p<=50;omega⟩
    · exact⟨⟨⟨by decide,by decide,by decide,by decide⟩, .inl ⟨.inr (.inr (.inr rfl)),by decide,by decide⟩⟩,by unfold prev;rw[if_neg (by decide)];decide⟩⟩
  obtain⟨e30,_,_,_⟩:=(hq.2 pok).2 (by rw[pn2];decide);subst e30;obtain⟨_,v3,hd3,hb3⟩:=qP hq;obtain⟨ee,est,ed,ep,azu,hsum⟩:=q2 rfl;subst ee est;have pn3:p.len=5:=by rw[ep.1,hb3.1,pn2];decide
  have P3:∀mo,aV p mo=(if 1500=mo then 100 else 0):=fun mo=>by
    rw[JF ep,uZ hb3,P2,WS,if_neg (show¬(5:Int)=3 by decide),if_neg (show¬(6:Int)=3 by decide)]
    (repeat' split)<;>omega
  have d3l:d3.len=2:=hd3.1.trans dl2;have dl3:d.len=2:=ed.1.trans d3l;have D0:d.int 0 0=70:=by rw[ed.2 0 (by decide) (by omega),hd3.2 0 (by decide) (by omega)];exact dv2 0 (by decide) (by decide)
  have D1:d.int 1 0=100:=by rw[ed.2 1 (by decide) (by omega),hd3.2 1 (by decide) (by omega)];exact dv2 1 (by decide) (by decide)
  have v4:aA 1500 d p:=by
    obtain⟨a1,a2,a3,a4⟩:=v3;have l1:=ed.1;have l2:=ep.1;exact⟨by omega,fun i i0 i1=>by rw[ed.2 i i0 i1];exact a2 i i0 (by omega),by omega,Go.Sx.N.L.follow_eq (by omega) (by omega) ep.2 a4⟩
  have X1:=(hx.2 v4).2 ⟨by decide,by omega⟩;have Y1:=(hy.2 v4).2 ⟨by decide,by omega⟩;have X1':x=100:=by rw[X1.1,P3];show d.int 1 0-_=100;rw[D1];decide
  have Y1':y=-30:=by rw[Y1.1,P3];show d.int 0 0-_=-30;rw[D0];decide
  obtain⟨gl,gs⟩:=azu;have gl:l.len=2:=gl;have s1:=(gs 1 (by decide) (by decide)).1;have s0:=(gs 0 (by decide) (by decide)).1;have lM:l.int 1 0=1501:=s1.1.1;have lN:l.int 1 4=2:=s1.2.1;have E3:o3.e=2:=by
    by_cases hv:eH 1500 d p mo g t l
    · obtain⟨c,hc,c1,_⟩:=h3.2 hv
      have no:¬iM.mD ⟨1500,d,p,mo,g,t,l,es3,60,1501,ac3,nu3,a3,b3,c3,f3,na3,tw3,rt3,ys3,kn3⟩:=fun k=>by
        have:=k.2.1.2.2;have:(if 0<l.len then l.int (l.len-1) 0 else-1)<1501:=this
        rw[if_pos (by omega),gl,show(2:Int)-1=1 by decide,lM]at this;omega
      have e:=hc.1 no;rw[(c1 (by omega)).1,e]
    · exact(h3.1 hv).1
  obtain⟨sm,sg,_⟩:=hsum;have sg:=sg rfl;have MO:mo=1501:=sm;have GG:g=100:=sg.1;have TT':t=0:=sg.2;subst MO GG TT';have v5:eH 1500 d p 1501 100 0 l:=⟨⟨v4,by omega⟩,⟨⟨by decide,by decide⟩,⟨by decide,by decide⟩,⟨by decide,by decide⟩⟩,fun i i0 i1=>by
    have o := v2.2.2 i i0 (by have:i<2:=by omega
                              exact this)
    have q := (gs i i0 (by have:i<2:=by omega
                           exact this)).1
    have pv : ∀ (j : Nat) (x0 : Int), (j = 0 \/j=4\/j=3)->dH l j x0 i=dH (zA [[.int 1500, .int 10, .int 0, .int 1, .int 1, .int 7, .int 100, .int 0, .int (100-0), .bool (decide False)],[.int 1501, .int 40, .int 1, .int 3, .int 2, .int 7, .int 70, .int 0, .int (70-0), .bool (decide False)]]) j x0 i:=fun j x0 hj=>by
      unfold dH;by_cases e:i=0
      · rw[if_pos e,if_pos e]
      · rw[if_neg e,if_neg e]
        have r := (gs (i - 1) (by omega) (by have:i-1<2:=by omega
                                             exact this)).1
        rcases hj with rfl|rfl|rfl
        · exact r.1.1
        · exact r.2.1
        · exact r.1.2.2.2
    unfold kJ at o⊢;rw[pv 0 _ (.inl rfl),pv 4 _ (.inr (.inl rfl)),pv 3 _ (.inr (.inr rfl)),q.1.1,q.2.1,q.1.2.2.1,q.1.2.2.2,q.2.2.2.1,q.2.2.2.2.1];exact⟨o.1,⟨o.2.1.1,o.2.1.2.1,by have:=o.2.1.2.2;omega⟩,o.2.2⟩⟩
  have ld3:lastDay p<=70:=by
    rw[Fp ep];unfold lastDay;have r:=hb3.2.2 1 (by decide) (by decide);rw[pn2]at r;have r:p3.int 4 0=50:=r.1;have pl:p3.len=5:=by rw[hb3.1,pn2];rfl
    rw[if_pos (by omega),pl,show(5:Int)-1=4 by decide,r];decide
  obtain⟨e4,t4,_,_,_,_,_,_,⟨gr4,_,_,_⟩,_⟩:=abT h4 v5 n4 rfl ⟨by decide,by decide⟩ (by decide) (by
      show(if 0<l.len then l.int (l.len-1) 4 else-1)<3
      rw[if_pos (by omega),gl,show(2:Int)-1=1 by decide,lN];decide) (by
      show(if 0<l.len then l.int (l.len-1) 0 else-1)<1502
      rw[if_pos (by omega),gl,show(2:Int)-1=1 by decide,lM];decide) (fun k k0 k1=>by
      have e:k=0\/k=1\/k=2:=by have:k<3:=k1;omega
      rcases e with rfl|rfl|rfl<;>exact⟨by decide,by decide⟩) (by show l.len<1200;omega) z4 ⟨ld3,by decide,by decide⟩ (by show p.len<=3990;omega) hsh 1 100 0 30 50 100 0 170 (by show aV p 1502=0;rw[P3];decide) rfl
    ⟨by decide,by decide,by decide,fun k=>absurd k (by decide)⟩ ⟨zB _,by decide,by decide,fun k=>absurd k (by decide)⟩ (fun k=>absurd k (by decide)) (fun k k0 k1=>by
      have e:k=0\/k=1:=by have:k<1502-1500:=k1;omega
      rcases e with rfl|rfl
      · show(70:Int)=aV p 1500+_-_
        rw[P3];decide
      · show(100:Int)=aV p 1501+_-_
        rw[P3];decide) fl ff y4 ⟨by decide,by decide⟩ (by decide) (by decide) ⟨by decide,by decide⟩ (by decide) (by decide)
  exact⟨⟨e1,e2,rfl,X1.2,Y1.2,e4⟩,E3,⟨gr1,nm1,gr2,nt2⟩,X1',Y1',gr4⟩
theorem JG{n:Int}{a:Bool}{b:Sl}{c:Bool}{d:Sl}{bW num:Int}{a':Bool}{b':Sl}{c':Bool}{d':Sl}{name:ByteArray}{two:Bool}{rt ys:Sl}{known:Int}(h:oV n a b c d bW num a' b' c' d' name two rt ys known):Fv name:=by
 unfold Fv;rw[h.2.2.2.1.1];decide
theorem amX:afQ:=by
 intro _;simp only[Qw,Ru,Rw,Bool.decide_eq_true];refine⟨trivial,fun a b _ c f _ hh=>⟨⟨⟨by decide,by decide⟩,by decide⟩,fun es1 _ n1=>⟨trivial,fun ac1 _ nu1 _ a1 b1 _ c1 f1 _ na1 tw1 rt1 _ ys1 _ kn1 _ s1=>⟨⟨JG s1,by rw[n1.1];decide⟩,fun ot1 _ od1 _ op1 _ om1 _ og1 _ ou1 _ ol1 _ q11 _ q12 _ q13 _ q14 _ q15 _ q16 _ q17 _ q18 _ q19 _ q10 oe1 _ h1=> ?_⟩⟩⟩⟩
 refine⟨⟨⟨⟨by decide,by decide⟩,by decide⟩,fun es2 _ n2=> ?_⟩,⟨⟨⟨⟨by decide,by decide⟩,by decide⟩,fun es2 _ n2=> ?_⟩,⟨⟨⟨by decide,by decide⟩,by decide⟩,fun es2 _ n2=>⟨?_, ?_⟩⟩⟩⟩
 all_goals
  refine⟨trivial,fun ac2 _ nu2 _ a2 b2 _ c2 f2 _ na2 tw2 rt2 _ ys2 _ kn2 _ s2=>⟨⟨JG s2,by rw[n2.1];decide⟩,fun ot2 _ od2 _ op2 _ om2 _ og2 _ ou2 _ ol2 _ q21 _ q22 _ q23 _ q24 _ q25 _ q26 _ q27 _ q28 _ q29 _ q20 oe2 _ h2=>⟨trivial,fun st _ d _ p _ mo _ g _ t _ l _ e _ hr=>⟨trivial,fun x _ ex _ hx=>⟨trivial,fun y _ ey _ hy=>⟨⟨⟨by decide,by decide⟩,by decide⟩,fun es3 _ n3=>⟨trivial,fun ac3 _ nu3 _ a3 b3 _ c3 f3 _ na3 tw3 rt3 _ ys3 _ kn3 _ s3=>⟨⟨JG s3,by rw[n3.1];decide⟩,fun ot3 _ od3 _ op3 _ om3 _ og3 _ ou3 _ ol3 _ q31 _ q32 _ q33 _ q34 _ q35 _ q36 _ q37 _ q38 _ q39 _ q30 oe3 _ h3=>⟨⟨⟨by decide,by decide⟩,by decide⟩,fun es4 _ n4=>⟨trivial,fun ac4 _ nu4 _ a4 b4 _ c4 f4 _ na4 tw4 rt4 _ ys4 _ kn4 _ s4=>⟨⟨JG s4,by rw[n4.1];decide⟩,fun ot4 _ od4 _ op4 _ om4 _ og4 _ ou4 _ ol4 _ q41 _ q42 _ q43 _ q44 _ q45 _ q46 _ q47 _ q48 _ q49 _ q40 oe4 _ h4=> ?_⟩⟩⟩⟩⟩⟩⟩⟩⟩⟩⟩
  obtain⟨⟨g1,g2,g3,g4,g5,g6⟩,g7,⟨g8,g9,g10,g11⟩,g12,g13,g14⟩:=ak1 hh n1 s1 (o1:=⟨ot1,od1,op1,om1,og1,ou1,ol1,q11,q12,q13,q14,q15,q16,q17,q18,q19,q10,oe1⟩) h1 n2 s2 (o2:=⟨ot2,od2,op2,om2,og2,ou2,ol2,q21,q22,q23,q24,q25,q26,q27,q28,q29,q20,oe2⟩) h2 hr hx hy (o3:=⟨ot3,od3,op3,om3,og3,ou3,ol3,q31,q32,q33,q34,q35,q36,q37,q38,q39,q30,oe3⟩) h3 n4 s4 (o4:=⟨ot4,od4,op4,om4,og4,ou4,ol4,q41,q42,q43,q44,q45,q46,q47,q48,q49,q40,oe4⟩) h4
  dsimp only at g1 g2 g6 g7 g8 g9 g10 g11 g14
  simp[nH,au,g1,g2,g3,g4,g5,g6,g7,g8,g9,g10,g11,g12,g13,g14]
end Go.Sx.N
