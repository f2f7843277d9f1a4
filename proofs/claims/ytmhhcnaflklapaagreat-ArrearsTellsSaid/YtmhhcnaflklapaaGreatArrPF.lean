/-
 The law ArrearsTells: its condition. Conditions: none.
-/
import Derived.Test.YtmhhcnaflklapaaGreatNumVTells
import Derived.Test.YtmhhcnaflklapaaGreatArrRc
set_option linter.unusedVariables false
set_option linter.unusedSimpArgs false
namespace Go.Sx.N
theorem int_uniq {n due paid known v e v' e' : Int} {name : ByteArray} {two : Bool} {s : Sl} (h : intR n due paid name two s known v e) (g : intR n due paid name two s known v' e') : v = v' /\ e = e' := by
 by_cases o : okI n due paid name two s
 ·have h := h.2 o
  have g := g.2 o
  by_cases z : n = 0 \/ due = paid
  ·have a := h.1 z; have b := g.1 z; omega
  ·have a := res_val (h.2 (fun k => z (.inl k)) (fun k => z (.inr k)))
   have b := res_val (g.2 (fun k => z (.inl k)) (fun k => z (.inr k)))
   exact ⟨a.1.trans b.1.symm, a.2.trans b.2.symm⟩
 ·have a := h.1 o; have b := g.1 o; omega
theorem eqPosts_symm {p q : Sl} (h : eqPosts p q) : eqPosts q p := ⟨h.1.symm, fun i i0 i1 => by
 have := h.2 i i0 (by rw [h.1]; exact i1)
 exact ⟨this.1.symm, this.2.1.symm, this.2.2.1.symm, this.2.2.2.symm⟩⟩
theorem eqAt_trans {p q r : Sl} {i j k : Int} (h : eqAt p i q j) (g : eqAt q j r k) : eqAt p i r k := ⟨h.1.trans g.1, h.2.1.trans g.2.1, h.2.2.1.trans g.2.2.1, h.2.2.2.trans g.2.2.2⟩
theorem eqPosts_trans {p q r : Sl} (h : eqPosts p q) (g : eqPosts q r) : eqPosts p r := ⟨h.1.trans g.1, fun i i0 i1 => eqAt_trans (h.2 i i0 i1) (g.2 i i0 (by rw [<- h.1]; exact i1))⟩
theorem owe_uniq {st day m known e e' : Int} {d p s r r' : Sl} {name : ByteArray} {two : Bool} (h : oweD st d p day m name two s known r e) (g : oweD st d p day m name two s known r' e') : eqPosts r r' /\ e = e' := by
 have nil : ∀ {r r' : Sl}, r.len = 0 -> r'.len = 0 -> eqPosts r r' := fun h g => ⟨by omega, fun i i0 i1 => by omega⟩
 by_cases o : okO st d p day m name two s
 ·have h := h.2 o
  have g := g.2 o
  cases hr : oweR s known st d p day m d.n with
  | err x =>
   rw [hr] at h g
   exact ⟨nil h.1 g.1, h.2.trans g.2.symm⟩
  | ok l =>
   rw [hr] at h g
   exact ⟨eqPosts_trans h.1 (eqPosts_symm g.1), h.2.trans g.2.symm⟩
 ·have h := h.1 o
  have g := g.1 o
  exact ⟨nil h.1 g.1, h.2.trans g.2.symm⟩
theorem follow_eq {st n d0 : Int} {p q : Sl} (h : eqPosts p q) (hp : followS st n p d0) : followS st n q d0 := fun i i0 i1 => by
 obtain ⟨a0, a1, a2, a3⟩ := h.2 i i0 (by rw [h.1]; exact i1)
 have g := hp i i0 (by rw [h.1]; exact i1)
 have pv : prev q d0 i = prev p d0 i := by
  unfold prev
  split
  ·rfl
  ·exact ((h.2 (i - 1) (by omega) (by rw [h.1]; omega)).1).symm
 unfold okAt fitAt at *
 rw [<- a0, <- a1, <- a2, <- a3, pv]
 exact g
theorem post_uniq {st : Int} {d p q q' : Sl} (hq : eqPosts q q') {s1 s2 e e' : Int} {d1 p1 d2 p2 : Sl} (h : q_Post st d p q s1 d1 p1 e) (g : q_Post st d p q' s2 d2 p2 e') : e = e' /\ sameS s1 d1 p1 s2 d2 p2 := by
 have zz : ∀ {a b : Int} {d p d' p' : Sl}, zeroS a d p -> zeroS b d' p' -> sameS a d p b d' p' := fun h g => ⟨h.1.trans g.1.symm, ⟨h.2.1.trans g.2.1.symm, fun i i0 i1 => by have := h.2.1; omega⟩, ⟨h.2.2.trans g.2.2.symm, fun i i0 i1 => by have := h.2.2; omega⟩⟩
 by_cases o : postOk st d p q
 ·have o' : postOk st d p q' := ⟨o.1, follow_eq hq o.2⟩
  have h := h.2 o
  have g := g.2 o'
  rw [<- hq.1] at g
  by_cases l : 4000 < p.len + q.len
  ·have h := h.1 l
   have g := g.1 l
   exact ⟨h.1.trans g.1.symm, zz h.2 g.2⟩
  ·obtain ⟨e1, a1, b1, c1⟩ := h.2 (by omega)
   obtain ⟨e2, a2, b2, c2⟩ := g.2 (by omega)
   refine ⟨e1.trans e2.symm, a1.trans a2.symm, ⟨b1.1.trans b2.1.symm, fun i i0 i1 => (b1.2 i i0 i1).trans (b2.2 i i0 (by rw [b2.1, <- b1.1]; exact i1)).symm⟩, ?_⟩
   have hl1 := c1.1
   have hl2 := c2.1
   refine ⟨by rw [hl1, hl2, hq.1], fun i i0 i1 => ?_⟩
   have sy : ∀ {a b : Sl} {i k : Int}, eqAt a i b k -> eqAt b k a i := fun h => ⟨h.1.symm, h.2.1.symm, h.2.2.1.symm, h.2.2.2.symm⟩
   by_cases c : i < p.len
   ·exact eqAt_trans (c1.2.1 i i0 c) (sy (c2.2.1 i i0 c))
   ·have x1 := c1.2.2 (i - p.len) (by omega) (by omega)
    have x2 := c2.2.2 (i - p.len) (by omega) (by have := hq.1; omega)
    rw [show p.len + (i - p.len) = i by omega] at x1 x2
    exact eqAt_trans x1 (eqAt_trans (hq.2 (i - p.len) (by omega) (by omega)) (sy x2))
 ·have o' : ¬ postOk st d p q' := fun k => o ⟨k.1, follow_eq (eqPosts_symm hq) k.2⟩
  have h := h.1 o
  have g := g.1 o'
  exact ⟨h.1.trans g.1.symm, zz h.2 g.2⟩
theorem owed_fold {st : Int} {d p : Sl} {m : Int} : ∀ n : Nat, owedS st d p m n = (lateS st d p m n).foldl (fun a r => a + openS st d p (monR r)) 0
 | 0 => rfl
 | n + 1 => by
  simp only [owedS, lateS]
  rw [owed_fold n]
  by_cases h : lateP st d p m n
  ·simp only [if_pos h, List.foldl_append]
   rfl
  ·simp only [if_neg h]
theorem owe_len {st : Int} {d p s : Sl} {known day m : Int} : ∀ (n : Nat) (l : List (List D)), oweR s known st d p day m n = .ok l -> l.length <= 2 * n
 | 0, l, h => by simp only [oweR, OR.ok.injEq] at h; subst h; simp
 | n + 1, l, h => by
  simp only [oweR] at h
  cases hn : oweR s known st d p day m n with
  | err e => rw [hn] at h; cases h
  | ok l0 =>
   rw [hn] at h
   have i0 := owe_len n l0 hn
   have h : (if lateP st d p m n then oweAdd s known day m (st + n) (openS st d p (st + n)) l0 else .ok l0) = .ok l := h
   split at h
   ·unfold oweAdd at h
    split at h
    ·cases h
    ·split at h
     ·cases h
     ·cases h
      unfold oweRow
      split <;> simp <;> omega
   ·cases h; omega
theorem owe_short {st day m known e : Int} {d p s r : Sl} {name : ByteArray} {two : Bool} (h : oweD st d p day m name two s known r e) : r.len <= 1000000 := by
 by_cases o : okO st d p day m name two s
 ·have h := h.2 o
  have hd := o.1.1.1.2.2.1
  cases hr : oweR s known st d p day m d.n with
  | err x => rw [hr] at h; rw [h.1]; omega
  | ok l =>
   rw [hr] at h
   have := owe_len d.n l hr
   rw [h.1.1, len_lit]
   unfold Sl.len at hd
   omega
 ·rw [(h.1 o).1]; omega
theorem Tells_core {st : Int} {d p : Sl} {n due day m : Int} {name : ByteArray} {two : Bool} {s : Sl} {known : Int} (hn : okN name) (hf : d.len <= 20 /\ p.len <= 40) : V_Tells_1 st d p n due day m name two s known := by
 unfold V_Tells_1 V_Tells_0
 simp only [Bool.decide_eq_true, app_nil_left]
 have d0 := len0 d
 have p0 := len0 p
 have e0 : (Sl.lit []).len = 0 := rfl
 have same : sameS st d p st d p := ⟨rfl, ⟨rfl, fun _ _ _ => rfl⟩, eqPosts_refl p⟩
 refine ⟨by omega, by omega, hn, fun a _ e _ hi => ⟨hn, fun b _ f _ hj => ⟨hn, fun c _ g _ hc => ⟨hn, fun c' _ h _ hc' => ⟨hn, fun t _ t1 _ t2 _ i _ hs => ⟨trivial, fun ml _ j _ hl => ⟨trivial, fun o _ k _ ho => ?_⟩⟩⟩⟩⟩⟩⟩
 obtain ⟨ab, ef⟩ := int_uniq hi hj
 obtain ⟨cc, gh⟩ := owe_uniq hc hc'
 obtain ⟨r, e0', hr, hs1, hs2⟩ := hs
 obtain ⟨rc, eg⟩ := owe_uniq hr hc'
 refine ⟨fun x => absurd ab x, fun _ => ⟨fun x => absurd ef x, fun _ => ⟨fun x => absurd gh x, fun _ => ⟨trivial, fun v hv => ⟨fun x => absurd (hv.2 cc) x, fun _ => ⟨trivial, fun w hw => ⟨fun x => absurd (hw.2 same) x, fun _ => ⟨trivial, fun u hu => ⟨fun hno => ?_, fun hyes => ?_⟩⟩⟩⟩⟩⟩⟩⟩⟩
 all_goals have zero : zeroS t t1 t2 -> p_Same t t1 t2 0 Sl.nil Sl.nil /\ ∀ b : Bool, q_Same t t1 t2 0 Sl.nil Sl.nil b -> ((b = true -> p_aAwake /\ ∀ b' : Bool, q_aAwake b' -> q_Tells st d p n due day m name two s known b' /\ True) /\ (¬ b = true -> q_Tells st d p n due day m name two s known (decide False) /\ True)) := fun hz => ⟨trivial, fun b hb => ⟨fun _ => ⟨trivial, fun b' hb' => ⟨hb', trivial⟩⟩, fun x => absurd (hb.2 ⟨hz.1, ⟨hz.2.1, fun i i0 i1 => by have := hz.2.1; omega⟩, ⟨hz.2.2, fun i i0 i1 => by have := hz.2.2; omega⟩⟩) x⟩⟩
 ·have hv : ¬ validS st d p := fun x => hno (hu.2 x)
  have no : ¬ okO st d p day m name two s := fun x => hv x.1.1
  obtain ⟨ml0, j2⟩ := hl.1 hv
  obtain ⟨o0, k2⟩ := ho.1 hv
  have e2 := (hr.1 no).2
  obtain ⟨tz, i2⟩ := hs1 (by omega)
  exact ⟨fun _ => ⟨fun _ => ⟨fun _ _ => ⟨fun _ => ⟨fun _ => zero tz, fun x => absurd o0 x⟩, fun x => absurd ml0 x⟩, fun x => by omega⟩, fun x => by omega⟩, fun x => by omega⟩
 ·have hv : validS st d p := hu.1 (Classical.not_not.1 hyes)
  obtain ⟨mls, j0⟩ := hl.2 hv
  obtain ⟨o1, k0⟩ := ho.2 hv
  refine ⟨hv, fun L _ hL _ => ?_⟩
  have hL : SameI L (Sl.lit (lateS st d p m d.n)) := hL
  have ll := late_len (st := st) (d := d) (p := p) m d.n
  have tl : L.len <= d.len := by
   rw [hL.1, len_lit]
   unfold Sl.len; omega
  have L0 := len0 L
  refine ⟨fun x i => (0 <= i /\ i <= L.len) /\ x = ((lateS st d p m d.n).take i.toNat).foldl (fun a r => a + openS st d p (monR r)) 0 /\ -4400000000000000 * i <= x /\ x <= 4400000000000000 * i, fun _ i => (L.len - i).toNat, ⟨⟨Int.le_refl _, L0⟩, rfl, by omega, by omega⟩, fun x _ i _ ⟨⟨i0, i1⟩, hx, hb1, hb2⟩ => ⟨fun hi => ⟨i0, hi, fun _ => ?_⟩, fun hi => ?_⟩⟩
  ·obtain ⟨hi', hmon, y, ⟨y0, y1⟩, hy, hym, hyo⟩ := late_row hv hL i0 hi
   have ob := open_bd hv y0 y1
   rw [hy]
   refine ⟨⟨hv, by omega, by omega⟩, fun z _ hz => ?_⟩
   have hz : z = openS st d p (st + y) := hz
   refine ⟨by rw [rng64]; omega, by rw [rng64]; omega, ⟨⟨by omega, by omega⟩, ?_, by omega, by omega⟩, by show (L.len - (i + 1)).toNat < (L.len - i).toNat; omega⟩
   rw [show (i + 1).toNat = i.toNat + 1 by omega, List.take_add_one, List.foldl_append, <- hx, List.getElem?_eq_getElem hi']
   rw [List.getD_eq_getElem?_getD, List.getElem?_eq_getElem hi'] at hmon
   have hmon : monR (lateS st d p m d.n)[i.toNat] = L.int i 0 := hmon
   show x + z = x + openS st d p (monR (lateS st d p m d.n)[i.toNat])
   rw [hmon, hy, hz]
  ·have hall : (lateS st d p m d.n).take i.toNat = lateS st d p m d.n := List.take_of_length_le (by have := hL.1; rw [len_lit] at this; omega)
   rw [hall, <- owed_fold] at hx
   refine ⟨fun y => absurd j0 y, fun _ => ⟨fun y => absurd k0 y, fun _ => ⟨trivial, fun v hv' => ⟨fun y => absurd (hv'.2 (mls.trans hL.symm)) y, fun _ => ⟨fun y => absurd (o1.trans hx.symm) y, fun _ => ⟨fun hh => ?_, fun hh => ?_⟩⟩⟩⟩⟩⟩
   ·obtain ⟨tz, ie⟩ := hs1 (by omega)
    exact ⟨fun _ => zero tz, fun y => by omega⟩
   ·have hp := hs2 (by omega)
    refine ⟨⟨by omega, owe_short hc'⟩, fun t' _ t1' _ t2' _ i' _ hx' => ?_⟩
    obtain ⟨ie, ss⟩ := post_uniq rc hp hx'
    exact ⟨fun _ => ⟨trivial, fun b hb => ⟨fun _ => ⟨trivial, fun b' hb' => ⟨hb', trivial⟩⟩, fun y => absurd (hb.2 ss) y⟩⟩, fun y => absurd ie y⟩
theorem Tells_ok : V_Tells := by
 intro st _ d _ p _ n _ due _ day _ m _ name two s _ known _ hn
 simp only [Bool.decide_eq_true]
 have aw : p_aAwake /\ ∀ b : Bool, q_aAwake b -> q_Tells st d p n due day m name two s known b /\ True := ⟨trivial, fun b hb => ⟨hb, trivial⟩⟩
 refine ⟨trivial, fun a ha => ⟨fun _ => aw, fun h1 => ⟨trivial, fun b hb => ⟨fun _ => aw, fun h2 => ⟨trivial, fun c hc => ⟨fun _ => aw, fun h3 => ?_⟩⟩⟩⟩⟩⟩
 have hf := (hc.1 (Classical.not_not.1 h3)).1
 exact ⟨⟨Tells_core hn hf, Tells_core hn hf⟩, Tells_core hn hf⟩
end Go.Sx.N
