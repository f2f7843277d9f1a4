/-
 Several texts in one. Conditions: none.
-/
import Derived.Test.YtbgbcaamipknmaaGreatMemT
import Derived.Test.YtbgbcaamipknmaaGreatNumVG
set_option linter.unusedVariables false
set_option linter.unusedSimpArgs false
namespace Go.Sx.N
theorem ltR_congr{s t u v:Sl}{i k j l:Int}(h:rowEq s i t k)(g:rowEq u j v l):ltR s i u j↔ltR t k v l:=by
 unfold ltR
 rw[h.1,h.2.1,h.2.2.1,g.1,g.2.1,g.2.2.1]
theorem rowEq_lit{a s:Sl}{l:List D}{m:Int}(h:m=a.len):rowEq (Sl.app a (Sl.lit [l])) m (Sl.lit [l]) 0:=by
 refine rowEq_cells ?_
 rw[app_new h]
 rfl
theorem rightAt_congr{two:Bool}{s t:Sl}{i k:Int}(h:rowEq s i t k)(g:rightAt two t k):rightAt two s i:=by
 unfold rightAt rightS at*
 rw[h.1,h.2.1,h.2.2.1]
 exact⟨g.1,g.2.1,g.2.2.1,g.2.2.2.1,okF.of_same g.2.2.2.2 h.2.2.2⟩
theorem ins_det{u r t u' r' t':Sl}(h:ins u r t)(g:ins u' r' t')(e:rowsEq u u')(er:rowEq r 0 r' 0):rowsEq t t':=by
 obtain⟨p,⟨hl,hp,h1,h2,h3⟩,h4⟩:=h
 obtain⟨q,⟨gl,gq,g1,g2,g3⟩,g4⟩:=g
 have el:=e.1
 have lt:∀k,0<=k->k<u.len->(ltR r 0 u k↔ltR r' 0 u' k):=fun k k0 k1=>ltR_congr er (e.2 k k0 k1)
 have pq:p=q:=by
  rcases Int.lt_trichotomy p q with c|c|c
  ·exact absurd ((lt p hp.1 (by omega)).1 (h3 p (by omega) (by omega)).2) (g4 p hp.1 c)
  ·exact c
  ·exact absurd ((lt q gq.1 (by omega)).2 (g3 q (by omega) (by omega)).2) (h4 q gq.1 c)
 subst pq
 refine⟨by omega,fun i i0 i1=> ?_⟩
 rcases Int.lt_trichotomy i p with c|c|c
 ·exact rowEq.trans (h1 i i0 c) (rowEq.trans (e.2 i i0 (by omega)) (rowEq.symm (g1 i i0 c)))
 ·subst c;exact rowEq.trans h2 (rowEq.trans er (rowEq.symm g2))
 ·have a:=(h3 (i-1) (by omega) (by omega)).1
  have b:=(g3 (i-1) (by omega) (by omega)).1
  rw[show i-1+1=i by omega]at a b
  exact a.trans ((e.2 (i-1) (by omega) (by omega)).trans b.symm)
end Go.Sx.N
set_option linter.unusedVariables false
set_option linter.unusedSimpArgs false
namespace Go.Sx.N
theorem rowEq_app_ge{a b:Sl}{j:Int}(h:0<=j):rowEq (Sl.app a b) (a.len+j) b j:=by
 refine rowEq_cells ?_
 funext q
 unfold Sl.app Sl.len
 have e1:¬((a.n:Int)+j).toNat<a.n:=by omega
 have e2:((a.n:Int)+j).toNat-a.n=j.toNat:=by omega
 simp only[e1,if_false,e2]
def putAt(d r:Sl)(i:Int):Sl:=Sl.app (Sl.app (Sl.part d 0 i) r) (Sl.part d i d.len)
theorem putAt_len{d r:Sl}{i:Int}(hr:r.len=1)(h0:0<=i)(h1:i<=d.len):(putAt d r i).len=d.len+1:=by
 unfold putAt
 rw[len_app,len_app,len_part h0,len_part h1,hr]
 omega
theorem putAt_lt{d r:Sl}{i k:Int}(h0:0<=i)(h1:i<=d.len)(k0:0<=k)(k1:k<i):rowEq (putAt d r i) k d k:=by
 have e:(Sl.part d 0 i).len=i:=by rw[len_part h0];omega
 have n:=len0 r
 refine rowEq_cells ?_
 unfold putAt
 rw[f_app_lt k0 (by rw[len_app,e];omega),f_app_lt k0 (by rw[e];exact k1),f_part0]
theorem putAt_at{d r:Sl}{i:Int}(hr:r.len=1)(h0:0<=i)(h1:i<=d.len):rowEq (putAt d r i) i r 0:=by
 have e:(Sl.part d 0 i).len=i:=by rw[len_part h0];omega
 have a:=rowEq_app_ge (a:=Sl.part d 0 i) (b:=r) (j:=0) (Int.le_refl _)
 rw[e,Int.add_zero]at a
 refine rowEq.trans (rowEq_cells ?_) a
 unfold putAt
 rw[f_app_lt h0 (by rw[len_app,e,hr];omega)]
theorem putAt_ge{d r:Sl}{i k:Int}(hr:r.len=1)(h0:0<=i)(h1:i<=d.len)(k0:i<=k):rowEq (putAt d r i) (k+1) d k:=by
 have e:(Sl.part d 0 i).len=i:=by rw[len_part h0];omega
 have a:=rowEq_app_ge (a:=Sl.app (Sl.part d 0 i) r) (b:=Sl.part d i d.len) (j:=k-i) (by omega)
 rw[len_app,e,hr,show i+1+(k-i)=k+1 by omega]at a
 have b:=rowEq_part (t:=d) (l:=i) (h:=d.len) (i:=k-i) h0 (by omega)
 rw[show i+(k-i)=k by omega]at b
 exact a.trans b
theorem rowL_right{two:Bool}{a b k:Int}{nn dn:Bool}{nl dl:Sl}(h:rightS two a b k nn nl dn dl):rightAt two (rowL a b k nn nl dn dl) 0:=h
theorem rowEq_clr(E:Sl)(l:Int):rowEq (Sl.clr E) l E l:=by
 have key:∀d:D,d.clr.toI=d.toI/\d.clr.toB=d.toB/\SameI d.clr.toS d.toS:=fun d=>by
  cases d with
  |int n=>exact⟨rfl,rfl,rfl,fun _ _ _=>rfl⟩
  |bool b=>exact⟨rfl,rfl,rfl,fun _ _ _=>rfl⟩
  |str s=>exact⟨rfl,rfl,rfl,fun _ _ _=>rfl⟩
  |sl n f=>
   refine⟨rfl,rfl,rfl,fun i i0 i1=> ?_⟩
   have i1:i<(n:Int):=i1
   show D.toI (if i.toNat<n then f i.toNat 0 else .int 0)=D.toI (f i.toNat 0)
   rw[if_pos (by omega)]
 exact⟨(key _).1,(key _).1,(key _).1,⟨(key _).2.1,(key _).2.2⟩,(key _).2.1,(key _).2.2⟩
theorem untg_clr(E:Sl)(l:Int)(j:Nat):Untg (Sl.clr E) l j:=by
 show tgD (E.f l.toNat j).clr=false
 cases E.f l.toNat j with
 |int n=>rfl
 |bool b=>rfl
 |str s=>rfl
 |sl n f=>
  show(match(if n<n then f n 0 else D.int 0)with| .int x=>x==777|_=>false)=false
  rw[if_neg (Nat.lt_irrefl _)]
  rfl
theorem sameI_mk{b c:Sl}(h:SameI b c):SameI (Sl.mk1 b) c:=by
 refine⟨h.1,fun i h0 h1=> ?_⟩
 have h1':i<b.len:=h1
 rw[<-h.2 i h0 h1']
 show D.toI (if i.toNat<b.n then b.f i.toNat 0 else .int 777)=_
 rw[if_pos (by unfold Sl.len at h1';omega)]
 rfl
theorem SameF_mk{a c a' c':Bool}{b d b' d':Sl}(h:SameF a b c d a' b' c' d'):SameF a (Sl.mk1 b) c (Sl.mk1 d) a' b' c' d':=⟨⟨h.1.1,sameI_mk h.1.2⟩,h.2.1,sameI_mk h.2.2⟩
theorem tg_mk1(b:Sl):tgD (Sl.d (Sl.mk1 b))=true:=by
 show(match(if b.n<b.n then b.f b.n 0 else D.int 777)with| .int x=>x==777|_=>false)=true
 rw[if_neg (Nat.lt_irrefl _)]
 rfl
def lrnB(y:ByteArray)(two:Bool)(s:Sl)(a b k:Int)(nn:Bool)(nl:Sl)(dn:Bool)(dl:Sl)(i:Int)(d:Sl):Prop:=
 ((0:Int)<=Sl.len (Sl.part s 0 i))/\(Sl.len (Sl.part s 0 i)<=Sl.len d)/\((0:Int)<Sl.len (rowL a b k nn nl dn dl))/\(((Sl.len d+Sl.len (rowL a b k nn nl dn dl))*88)<=140737488355328)/\
 (Small (putAt d (rowL a b k nn nl dn dl) (Sl.len (Sl.part s 0 i)))->∃(J:Int->Sl->Prop)(M:Int->Sl->Nat),J 0 (Sl.clr (putAt d (rowL a b k nn nl dn dl) (Sl.len (Sl.part s 0 i))))/\
  ∀ x :Int,Rng .i64 x->∀u:Sl,J x u->
   ((x<Sl.len (putAt d (rowL a b k nn nl dn dl) (Sl.len (Sl.part s 0 i)))->((0:Int)<=x)/\(x<Sl.len u)/\Untg u x 4/\Untg u x 6/\(Ranged (Sl.sub u x 4) [some .u16]->Ranged (Sl.sub u x 6) [some .u16]->
    p_copied (Sl.bool u x 3) (Sl.sub u x 4) (Sl.bool u x 5) (Sl.sub u x 6)/\∀(a':Bool)(b':Sl),Ranged b' [some .u16]->∀(c':Bool)(d':Sl),Ranged d' [some .u16]->
     q_copied (Sl.bool u x 3) (Sl.sub u x 4) (Sl.bool u x 5) (Sl.sub u x 6) a' b' c' d'->((0:Int)<=x)/\(x<Sl.len u)/\Rng .i64 (x+1)/\
      (J (x+1) (Sl.upd u x 3 [.bool a',Sl.d (Sl.mk1 b'), .bool c',Sl.d (Sl.mk1 d')])/\M (x+1) (Sl.upd u x 3 [.bool a',Sl.d (Sl.mk1 b'), .bool c',Sl.d (Sl.mk1 d')])<M x u)))/\
   (¬(x<Sl.len (putAt d (rowL a b k nn nl dn dl) (Sl.len (Sl.part s 0 i))))->AllT u [4,6]/\q_Learn y two s a b k nn nl dn dl y two u 0/\True)))
theorem lrnB_ok{y:ByteArray}{two:Bool}{s:Sl}{a b k:Int}{nn dn:Bool}{nl dl:Sl}{i:Int}{d:Sl}(hv:validT y two s)(hr:rightS two a b k nn nl dn dl)(h4:s.len≠400)(i0:0<=i)(i1:i<=s.len)
  (hlo:∀l:Int,0<=l->l<i->¬ltR (rowL a b k nn nl dn dl) 0 s l) (hhi:∀l:Int,i<=l->l<s.len->ltR (rowL a b k nn nl dn dl) 0 s l) (hdl:d.len=s.len) (hd:∀l:Int,0<=l->l<s.len->rowEq d l s l):lrnB y two s a b k nn nl dn dl i d:=by
 have ep:(Sl.part s 0 i).len=i:=by rw[len_part i0];omega
 have er:(rowL a b k nn nl dn dl).len=1:=rfl
 have s4:=hv.2.1
 unfold lrnB
 rw[ep]
 have el:=putAt_len (d:=d) er i0 (by omega)
 have m1:∀l:Int,0<=l->l<i->rowEq (putAt d (rowL a b k nn nl dn dl) i) l s l:=fun l l0 l1=>(putAt_lt i0 (by omega) l0 l1).trans (hd l l0 (by omega))
 have m2:=putAt_at (d:=d) er i0 (by omega)
 have m3:∀l:Int,i<=l->l<s.len->rowEq (putAt d (rowL a b k nn nl dn dl) i) (l+1) s l:=fun l l0 l1=>(putAt_ge er i0 (by omega) l0).trans (hd l (by omega) l1)
 have rt:∀l:Int,0<=l->l<(putAt d (rowL a b k nn nl dn dl) i).len->rightAt two (putAt d (rowL a b k nn nl dn dl) i) l:=fun l l0 l1=>by
  rcases Int.lt_trichotomy l i with c|c|c
  ·exact rightAt_congr (m1 l l0 c) (hv.2.2.2 l l0 (by omega))
  ·subst c;exact rightAt_congr m2 (rowL_right hr)
  ·have q:=m3 (l-1) (by omega) (by omega)
   rw[show l-1+1=l by omega]at q
   exact rightAt_congr q (hv.2.2.2 (l-1) (by omega) (by omega))
 generalize hE:putAt d (rowL a b k nn nl dn dl) i=E at el m1 m2 m3 rt⊢
 refine⟨i0,by omega,by omega,by omega,fun _=>⟨fun x u=>((0<=x/\x<=E.len)/\u.len=E.len/\∀l:Int,0<=l->l<E.len->rowEq u l E l)/\(∀l:Int,0<=l->l<x->tgD (u.f l.toNat 4)=true/\tgD (u.f l.toNat 6)=true)/\∀l:Int,x<=l->Untg u l 4/\Untg u l 6,fun x _=>(E.len-x).toNat,⟨⟨⟨Int.le_refl _,len0 E⟩,rfl,fun l _ _=>rowEq_clr E l⟩,fun l _ _=>by omega,fun l _=>⟨untg_clr E l 4,untg_clr E l 6⟩⟩,fun x rx u hJ=> ?_⟩⟩
 obtain⟨⟨⟨x0,x1⟩,hl,hrow⟩,ht,hu⟩:=hJ
 refine⟨fun hx=>⟨x0,by omega,(hu x (Int.le_refl _)).1,(hu x (Int.le_refl _)).2,fun _ _=> ?_⟩,fun hx=>⟨fun j hj q hq=> ?_,⟨fun hn=>absurd ⟨hv,hr⟩ hn,fun _=>⟨fun h=>absurd h h4,fun _=>⟨rfl,rfl,⟨i,⟨by omega,⟨i0,i1⟩,fun l l0 l1=>(hrow l l0 (by omega)).trans (m1 l l0 l1),(hrow i i0 (by omega)).trans m2,fun l l0 l1=>⟨(hrow (l+1) (by omega) (by omega)).trans (m3 l l0 l1),hhi l l0 l1⟩⟩,hlo⟩,rfl⟩⟩⟩,trivial⟩⟩
 ·have r:=hrow x x0 hx
  have ok:okF (E.bool x 3) (E.sub x 4) (E.bool x 5) (E.sub x 6):=(rt x x0 hx).2.2.2.2
  refine⟨SameF.lim r.2.2.2 ok,fun a' b' rb c' d' rd hq=>⟨x0,by omega,by rw[rng64];omega,⟨⟨⟨by omega,by omega⟩,hl,fun l l0 l1=> ?_⟩,fun l l0 l1=> ?_,fun l l0=> ?_⟩,by show(E.len-(x+1)).toNat<(E.len-x).toNat;omega⟩⟩
  ·by_cases e:l=x
   ·subst e
    exact rowEq_upd (SameF_mk (SameF.trans hq r.2.2.2)) r
   ·exact(rowEq_cells (f_upd_ne x0 l0 e)).trans (hrow l l0 l1)
  ·by_cases e:l=x
   ·subst e
    have key:∀q:Nat,3<=q->q<7->(Sl.upd u l 3 [.bool a',Sl.d (Sl.mk1 b'), .bool c',Sl.d (Sl.mk1 d')]).f l.toNat q=[D.bool a',Sl.d (Sl.mk1 b'), .bool c',Sl.d (Sl.mk1 d')].getD (q-3) (.int 0):=fun q h1 h2=>by
     show(if _ then _ else _)=_
     rw[if_pos ⟨rfl,h1,by simpa using h2⟩]
    exact⟨(congrArg tgD (key 4 (by decide) (by decide))).trans (tg_mk1 b'),(congrArg tgD (key 6 (by decide) (by decide))).trans (tg_mk1 d')⟩
   ·rw[f_upd_ne x0 l0 e]
    exact ht l l0 (by omega)
  ·have e:l≠x:=by omega
   unfold Untg
   rw[f_upd_ne x0 (by omega) e]
   exact hu l (by omega)
 ·have:=ht (j:Int) (by omega) (by unfold Sl.len at*;omega)
  rw[show((j:Int)).toNat=j from rfl]at this
  simp only[List.mem_cons,List.not_mem_nil,or_false]at hq
  rcases hq with rfl|rfl
  ·exact this.1
  ·exact this.2
theorem ord_gt{a b k a' b' k' x:Int}(h:ordK a b k a' b' k' x):x>0↔ltK a' b' k' a b k:=by
 unfold ordK ltK at*
 omega
theorem nilapp_len(s:Sl):(Sl.app (Sl.lit []) s).len=s.len:=by
 rw[len_app]
 show(0:Int)+s.len=s.len
 omega
theorem nilapp_row(s:Sl){l:Int}(l0:0<=l):rowEq (Sl.app (Sl.lit []) s) l s l:=by
 have:=rowEq_app_ge (a:=Sl.lit []) (b:=s) l0
 rwa[show(Sl.lit []).len+l=l by show(0:Int)+l=l;omega]at this
theorem Learn_ok:V_Learn:=by
 intro y two s rs a ra b rb k rk nn nl rn dn dl rd hp
 simp only[Bool.decide_eq_true]
 refine⟨hp,fun v hv=>⟨fun hn=>⟨⟨fun _=>⟨⟨rfl,by decide,rfl⟩,rfl⟩,fun h=>absurd (hv.2 h.1) hn⟩,trivial⟩,fun hn=>⟨trivial,fun w hw=>⟨fun hn2=>⟨⟨fun _=>⟨⟨rfl,by decide,rfl⟩,rfl⟩,fun h=>absurd (hw.2 h.2) hn2⟩,trivial⟩,fun hn2=> ?_⟩⟩⟩⟩
 have hv':validT y two s:=hv.1 (Classical.not_not.1 hn)
 have hr:rightS two a b k nn nl dn dl:=hw.1 (Classical.not_not.1 hn2)
 refine fun _=>⟨fun h4=>⟨⟨fun h=>absurd ⟨hv',hr⟩ h,fun _=>⟨fun _=>⟨⟨rfl,by decide,rfl⟩,rfl⟩,fun h=>absurd h4 h⟩⟩,trivial⟩,fun h4 _=> ?_⟩
 have s0:=len0 s
 have s4:=hv'.2.1
 have mo:∀k' l:Int,0<=k'->k'<=l->l<s.len->ltR (rowL a b k nn nl dn dl) 0 s k'->ltR (rowL a b k nn nl dn dl) 0 s l:=fun k' l k0 kl l1 h=>by
  have:=sorted_lt hv'.2.2.1 k0 kl l1
  unfold ltR ltK at*
  omega
 refine⟨fun i j=>bs s.len (fun l=>ltR (rowL a b k nn nl dn dl) 0 s l) i j,fun i j=>(j-i).toNat,bs_start s0,fun i ri j rj hJ=> ?_⟩
 have hJ:bs s.len (fun l=>ltR (rowL a b k nn nl dn dl) 0 s l) i j:=hJ
 have b1:=hJ.1
 refine⟨fun hi=> ?_,fun hi=> ?_⟩
 ·have em:=mid_eq b1.1 hi (by omega)
  have er:=mid_rng b1.1 hi (by omega)
  refine⟨by rw[rng64];omega,by decide,er, ?_⟩
  rw[em]
  refine⟨by omega,by omega,fun _ _ _ _ _=>⟨trivial,fun x rx hq=>⟨fun hp=>⟨by rw[rng64];omega,bs_up mo hJ (by omega) (by omega) (fun h=>hp ((ord_gt hq).2 h)), ?_⟩,fun hp=>⟨bs_down mo hJ (by omega) (by omega) ((ord_gt hq).1 (Classical.not_not.1 hp)), ?_⟩⟩⟩⟩
  ·show(j-((i+j)/2+1)).toNat<(j-i).toNat;omega
  ·show((i+j)/2-i).toNat<(j-i).toNat;omega
 ·have e:j=i:=by omega
  subst e
  have core:∀d:Sl,d.len=s.len->(∀l:Int,0<=l->l<s.len->rowEq d l s l)->lrnB y two s a b k nn nl dn dl j d:=fun d h1 h2=>lrnB_ok hv' hr h4 b1.1 b1.2.2 hJ.2.1 hJ.2.2 h1 h2
  have c1:s.len<=0->lrnB y two s a b k nn nl dn dl j Sl.nil:=fun h=>core Sl.nil (by rw[len_nil];omega) (fun l l0 l1=>by omega)
  have c2:lrnB y two s a b k nn nl dn dl j (Sl.app (Sl.lit []) s):=core _ (nilapp_len s) (fun l l0 _=>nilapp_row s l0)
  have z:(((Sl.lit []).len+s.len)*88)<=140737488355328:=by
   show((0:Int)+s.len)*88<=_
   omega
  refine⟨by decide,b1.1,b1.2.2,fun _=>⟨fun c=>⟨fun _ h=>c1 h,fun _=>⟨z,c2⟩⟩,fun c=>⟨fun _ h=>c1 h,fun _=>⟨z,c2⟩⟩⟩⟩
end Go.Sx.N
