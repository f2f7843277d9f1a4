/-
  A region in whatever order the tape draws. Conditions: the contracts hold of the callees.
-/
import Derived.Test.YtlhjljekeobplaaSxC
namespace Go.Sx
open Go.RowKit (Below)

variable {T : FuncId → Pred} {w0 : World} {R0 : Bs T}

mutual
theorem SVR.back {bl bl' : List Nat} {vs vs' : List Value} (hb : ∀ (i : Nat) (b : Nat), bl[i]? = some b → bl'[i]? = some b) (hv : ∀ (i : Nat) (b : Value), vs[i]? = some b → vs'[i]? = some b) :
    ∀ {s : SV (sem T)} {v v0 : Value}, SVR bl vs s v0 → SVR bl' vs' s v → SVR bl vs s v
  | .int _ _, _, _, _, h => h
  | .blit _, _, _, _, h => h
  | .bool _, _, _, _, h => h
  | .str _, _, _, _, h => h
  | .sl _, _, _, h0, h => by
    have h0 : vs[_]? = some _ := h0
    have h : vs'[_]? = some _ := h
    rw [hv _ _ h0] at h; cases h
    exact h0
  | .ptr _ _, _, _, ⟨b, h0, _⟩, ⟨b', h, hh⟩ => by
    rw [hb _ _ h0] at h; cases h
    exact ⟨b, h0, hh⟩
  | .eptr _ _ _ _, _, _, ⟨a, l, c, h0, _⟩, ⟨a', l', c', h, h1, h2, hh⟩ => by
    rw [hv _ _ h0] at h; cases h
    exact ⟨a, l, c, h0, h1, h2, hh⟩
  | .fn _ _, _, _, ⟨cs0, _, h0⟩, ⟨cs, h, hh⟩ => ⟨cs, h, SVRs.back hb hv h0 hh⟩
  | .yld _, _, _, ⟨b, h0, _⟩, ⟨b', h, hh⟩ => by
    rw [hb _ _ h0] at h; cases h
    exact ⟨b, h0, hh⟩
  | .agg _, _, _, ⟨cs0, _, h0⟩, ⟨cs, h, hh⟩ => ⟨cs, h, SVRs.back hb hv h0 hh⟩
  | .tup _, _, _, ⟨cs0, _, h0⟩, ⟨cs, h, hh⟩ => ⟨cs, h, SVRs.back hb hv h0 hh⟩
  | .con _, _, _, _, h => h
  | .junk, _, _, _, _ => trivial
theorem SVRs.back {bl bl' : List Nat} {vs vs' : List Value} (hb : ∀ (i : Nat) (b : Nat), bl[i]? = some b → bl'[i]? = some b) (hv : ∀ (i : Nat) (b : Value), vs[i]? = some b → vs'[i]? = some b) :
    ∀ {s : List (SV (sem T))} {v v0 : List Value}, SVRs bl vs s v0 → SVRs bl' vs' s v → SVRs bl vs s v
  | [], [], _, _, _ => trivial
  | _ :: _, _ :: _, _ :: _, ⟨h0, hh0⟩, ⟨h, hh⟩ => ⟨SVR.back hb hv h0 h, SVRs.back hb hv hh0 hh⟩
  | [], _ :: _, _, _, h => h.elim
  | _ :: _, [], _, _, h => h.elim
  | _ :: _, _ :: _, [], h0, _ => h0.elim
end

theorem zipIdx_all {α : Type} {f : α × Nat → Bool} {l : List α} (h : l.zipIdx.all f = true) {i : Nat} {x : α} (hx : l[i]? = some x) : f (x, i) = true := by
  have := List.all_eq_true.1 h (x, i)
  apply this
  rw [List.mk_mem_zipIdx_iff_getElem?]
  exact hx

theorem zipIdx_get {α β : Type} {f : α × Nat → β} {l : List α} {i : Nat} {y : β} (h : (l.zipIdx.map f)[i]? = some y) : ∃ x, l[i]? = some x ∧ y = f (x, i) := by
  rw [List.getElem?_map, List.getElem?_zipIdx] at h
  cases hx : l[i]? with
  | none => rw [hx] at h; simp at h
  | some x => rw [hx] at h; simp at h; exact ⟨x, rfl, by rw [← h]⟩

section
variable {P : Program} {w : World} {R : Nat → Prop} {bl : List Nat} {vs : List Value} {ow : Nat → Option Owner} {st st0 : St (sem T)} {a : Act}

/-- The condition that the region keeps: what it may not write stands as it stood. -/
def Base (P : Program) (bl0 : List Nat) (vs0 : List Value) (base : St (sem T)) (w : World) : Prop :=
  ∃ R2, (∀ (i : Nat) (bx : Box (sem T)), base.boxes[i]? = some bx → bx.live = true → ∃ (b : Nat) (cs : Array Value), bl0[i]? = some b ∧ w.heap[b]? = some (.cells cs bx.ty (0, 0)) ∧ SVRs bl0 vs0 bx.cells cs.toList) ∧
    (∀ (i : Nat) (e : Ent (sem T)), base.ents[i]? = some e → e.live = true → ∃ v : Value, vs0[i]? = some v ∧ Cont P w R2 e.elem e.s v)

theorem base_box {written : List Nat} {i : Nat} {bx : Box (sem T)} (h : (baseOf st written).boxes[i]? = some bx) (hl : bx.live = true) : st.boxes[i]? = some bx := by
  obtain ⟨x, hx, hy⟩ := zipIdx_get h
  simp only at hy
  split at hy
  · subst hy; cases hl
  · subst hy; exact hx

theorem base_ent {written : List Nat} {i : Nat} {e : Ent (sem T)} (h : (baseOf st written).ents[i]? = some e) (hl : e.live = true) : st.ents[i]? = some e ∧ e.own = false := by
  simp only [baseOf, List.getElem?_map, Option.map_eq_some_iff] at h
  obtain ⟨x, hx, hy⟩ := h
  split at hy
  · subst hy; cases hl
  · rename_i ho
    subst hy
    exact ⟨hx, by simpa using ho⟩

theorem base_start (h : HR P w0 R0 bl vs R ow st.boxes st.ents w) (written : List Nat) : Base P bl vs (baseOf st written) w :=
  ⟨R, fun i bx hi hl => h.look.box i bx (base_box hi hl) hl, fun i e hi hl => h.look.ent i e (base_ent hi hl).1 hl⟩

theorem base_again {bl0 : List Nat} {vs0 : List Value} {R' : Nat → Prop} {ow' : Nat → Option Owner} {wS : World} {owS ow0 : Nat → Option Owner} {RS : Nat → Prop} {written : List Nat} (hS0 : HR P w0 R0 bl0 vs0 RS owS st0.boxes st0.ents wS)
    (hst : Stp P w0 R0 bl0 vs0 ow0 st0 bl vs R' ow' st w) (hsame : sameBoxes (baseOf st0 written) st = true) : Base P bl0 vs0 (baseOf st0 written) w := by
  unfold sameBoxes at hsame
  simp only [Bool.and_eq_true] at hsame
  obtain ⟨hb, he⟩ := hsame
  refine ⟨R', fun i bx hi hl => ?_, fun i e hi hl => ?_⟩
  · have h1 := zipIdx_all hb hi
    simp only [hl, Bool.not_true, Bool.false_or] at h1
    have h0 := base_box hi hl
    obtain ⟨bx', hx', _, hsame, _⟩ := hst.ext.box i bx h0
    rw [hx'] at h1
    have : bx' = bx := hsame (by simpa using h1)
    subst this
    obtain ⟨b, cs, g1, _, g3, g4⟩ := hst.hr.box i bx' hx' hl
    obtain ⟨b0, cs0, k1, _, _, k4⟩ := hS0.box i bx' h0 hl
    have e1 := hst.bl i b0 k1
    rw [g1] at e1
    have e2 : b = b0 := Option.some.inj e1
    rw [e2] at g3
    exact ⟨b0, cs, k1, g3, k4.back hst.bl hst.vs g4⟩
  · have h1 := zipIdx_all he hi
    simp only [hl, Bool.not_true, Bool.false_or] at h1
    obtain ⟨h0, _⟩ := base_ent hi hl
    obtain ⟨e', hx', _, hsame⟩ := hst.ext.ent i e h0
    rw [hx'] at h1
    have : e' = e := hsame (by simpa using h1)
    subst this
    obtain ⟨v, hv, hc⟩ := hst.hr.look.ent i e' hx' hl
    obtain ⟨v0, hv0, _⟩ := hS0.ent i e' h0 hl
    have e1 := hst.vs i v0 hv0
    rw [hv] at e1
    have e2 : v = v0 := Option.some.inj e1
    rw [e2] at hc
    exact ⟨v0, hv0, hc⟩

theorem base_look {bl0 : List Nat} {vs0 : List Value} {base : St (sem T)} (hb : ∀ (i : Nat) (b : Nat), bl0[i]? = some b → bl[i]? = some b) (hv : ∀ (i : Nat) (b : Value), vs0[i]? = some b → vs[i]? = some b)
    (hvsl : ∀ (i : Nat) (v : Value), vs[i]? = some v → ∃ a n c, v = .slice a n c) (h : Base P bl0 vs0 base w) : ∃ R2, Look P R2 bl vs base.boxes base.ents w := by
  obtain ⟨R2, h1, h2⟩ := h
  refine ⟨R2, ⟨fun i bx hi hl => ?_, fun i e hi hl => ?_, hvsl⟩⟩
  · obtain ⟨b, cs, g1, g2, g3⟩ := h1 i bx hi hl
    exact ⟨b, cs, hb _ _ g1, g2, g3.mono hb hv⟩
  · obtain ⟨v, g1, g2⟩ := h2 i e hi hl
    exact ⟨v, hv _ _ g1, g2⟩

theorem findTake_inv {ops : Array Oper} {listed : Array Bool} {base : St (sem T)} : ∀ {rs : List Nat} {t : Take (sem T)}, findTake P ops listed base st rs = t → (t = .none ∨ ∃ i o, i ∈ rs ∧ ops[i]? = some o ∧ Region.free .any ops listed i = true ∧ takeOf P ops base st i o = t ∧ t ≠ .none)
  | [], t, h => .inl h.symm
  | i :: rest, t, h => by
    have hrec : findTake P ops listed base st rest = t → (t = .none ∨ ∃ j o, j ∈ i :: rest ∧ ops[j]? = some o ∧ Region.free .any ops listed j = true ∧ takeOf P ops base st j o = t ∧ t ≠ .none) := fun hh =>
      (findTake_inv hh).imp id (fun ⟨j, o, h1, h2⟩ => ⟨j, o, by simp [h1], h2⟩)
    unfold findTake at h
    split at h
    · rename_i o ho
      split at h
      · rename_i hf
        split at h
        · exact hrec h
        · rename_i hne; exact .inr ⟨i, o, by simp, ho, hf, h, fun e => hne (h.trans e)⟩
      · exact hrec h
    · exact hrec h

/-- What is meant by each way of taking an operation first. -/
def TakeOk (P : Program) (ops : Array Oper) (base st : St (sem T)) (a : Act) (i : Nat) (o : Oper) : Take (sem T) → Prop
  | .skip i' d => i' = i ∧ d = o.dst ∧ Region.wanted o (yielded ops a.tmps) = false
  | .val i' d p => i' = i ∧ d = o.dst ∧ Region.wanted o (yielded ops a.tmps) = true ∧ pureOp P { base with tmps := st.tmps } o = some p ∧ p.v.clean = true
  | .ask t b => st.tmps[t]? = some (.bool b)
  | .none => True

theorem takeOf_ok (ht : TD bl vs ow st.tmps a) {ops : Array Oper} {base : St (sem T)} {i : Nat} {o : Oper} : TakeOk P ops base st a i o (takeOf P ops base st i o) := by
  have hgo : Region.wanted o (yielded ops a.tmps) = true → TakeOk P ops base st a i o (takeGo P base st i o) := by
    intro hw
    have hpure : TakeOk P ops base st a i o (takeVal P base st i o) := by
      unfold takeVal
      split
      · rename_i p hp
        split
        · rename_i hc; exact ⟨rfl, rfl, hw, hp, hc⟩
        · trivial
      · trivial
    unfold takeGo
    split
    · split
      · rename_i b hb; exact hb
      · exact hpure
    · exact hpure
  unfold takeOf
  split
  · rename_i hg
    exact hgo (by simp [Region.wanted, hg])
  · rename_i j want hg
    split
    · rename_i hj
      exact ⟨rfl, rfl, by simp [Region.wanted, hg, yielded, hj]⟩
    · rename_i d hj
      split
      · rename_i b hb
        obtain ⟨v, hv, hs⟩ := tmp_get ht hb
        have hs : v = .bool b := hs
        subst hs
        have hy : yielded ops a.tmps j = some b := by simp [yielded, hj, hv]
        split
        · rename_i hbw
          have : b = want := by simpa using hbw
          exact hgo (by simp [Region.wanted, hg, hy, this])
        · rename_i hbw
          have : b ≠ want := by simpa using hbw
          exact ⟨rfl, rfl, by simp [Region.wanted, hg, hy, this]⟩
      · rename_i b hb; exact hb
      · rename_i us hb
        obtain ⟨v, hv, hs⟩ := tmp_get ht hb
        have hs : v = .tuple us := hs
        subst hs
        exact ⟨rfl, rfl, by simp [Region.wanted, hg, yielded, hj, hv]⟩
      · trivial

theorem bothAll_den {f : Nat → Tree (sem T)} : ∀ {l : List Nat}, (bothAll f l).den → ∀ i ∈ l, (f i).den
  | [], _, _, h => by cases h
  | [i], hd, j, h => by simp at h; subst h; exact hd
  | i :: i' :: l, hd, j, h => by
    simp only [List.mem_cons] at h
    rcases h with rfl | h
    · exact hd.1
    · exact bothAll_den (l := i' :: l) hd.2 j (by simpa using h)

end

def todo (listed : Array Bool) : Nat := listed.toList.countP (· == false)

theorem todo_set {listed : Array Bool} {i : Nat} (h : listed.getD i true = false) : todo (listed.setIfInBounds i true) + 1 = todo listed := by
  have hi : i < listed.size := by
    rcases Nat.lt_or_ge i listed.size with h' | h'
    · exact h'
    · simp [Array.getElem?_eq_none h'] at h
  have hv : listed.toList[i]? = some false := by
    simp [hi] at h ⊢
    exact h
  have key : ∀ (l : List Bool) (i : Nat), l[i]? = some false → (l.set i true).countP (· == false) + 1 = l.countP (· == false) := by
    intro l
    induction l with
    | nil => intro i h; simp at h
    | cons x l ih =>
      intro i h
      cases i with
      | zero => simp at h; subst h; simp [List.countP_cons]
      | succ i =>
        have := ih i (by simpa using h)
        simp only [List.set_cons_succ, List.countP_cons]
        omega
  unfold todo
  rw [Array.toList_setIfInBounds]
  exact key _ _ hv

theorem todo_zero {ops : Array Oper} {listed : Array Bool} (h : todo listed = 0) : Region.ready .any ops listed = [] := by
  rw [List.eq_nil_iff_forall_not_mem]
  intro i hi
  have := (mem_ready.1 hi).1
  have h1 := todo_set this
  omega

/-- **A region in whatever order.** -/
theorem runDraw_sound {cfg : Cfg} {inl : Inl (sem T)} (hsig : SigOk T cfg) (hinl : InlC cfg w0 R0 inl) {path : Nat} {ops : Array Oper} {Q : Exit → Act → World → Prop} (hQp : ∀ c a w, ¬ Q (.panic c) a w) (hns : Region.noSelect ops = true)
    {bl0 : List Nat} {vs0 : List Value} {st0 : St (sem T)} {RS : Nat → Prop} {owS ow0 : Nat → Option Owner} {wS : World} {written : List Nat} (hS0 : HR cfg.P w0 R0 bl0 vs0 RS owS st0.boxes st0.ents wS) {k : St (sem T) → Tree (sem T)}
    {D : List Nat} {a0 : Act} (hD : ∀ (i : Nat) (o : Oper), ops[i]? = some o → ∀ x, o.dst = some x → x ∈ D)
    (hQ : ∀ a' w', Keeps D a0 a' → Reach cfg.P w0 R0 bl0 vs0 ow0 st0 (fun st' => (k st').den) a' w' → Q .normal a' w') :
    ∀ (n : Nat) {listed : Array Bool} {bl : List Nat} {vs : List Value} {R : Nat → Prop} {ow : Nat → Option Owner} {st : St (sem T)} {a : Act} {w : World} {fuel : Nat},
    Stp cfg.P w0 R0 bl0 vs0 ow0 st0 bl vs R ow st w → TD bl vs ow st.tmps a → (runDraw cfg inl path ops (baseOf st0 written) n listed st k).den → Base cfg.P bl0 vs0 (baseOf st0 written) w → todo listed ≤ fuel → Keeps D a0 a →
    wpAnyH cfg.P .any ops Q (Base cfg.P bl0 vs0 (baseOf st0 written)) fuel listed a w
  | 0, _, _, _, _, _, _, _, _, _, _, _, hd, _, _, _ => hd.elim
  | n + 1, listed, bl, vs, R, ow, st, a, w, fuel, hst, ht, hd, hB, hf, hkp => by
    unfold runDraw at hd
    split at hd
    · rename_i hr
      exact wpAnyH_done hr (hQ a w hkp ⟨bl, vs, R, ow, st, hst, ht, hd⟩) fuel
    · rename_i hr
      generalize hrs : Region.ready .any ops listed = rs at *
      have hmem : ∀ i ∈ rs, i ∈ Region.ready .any ops listed := fun i hi => by rw [hrs]; exact hi
      have hfuel : ∀ i ∈ rs, ∃ f, fuel = f + 1 ∧ todo (listed.setIfInBounds i true) ≤ f := fun i hi => by
        have h1 := todo_set (mem_ready.1 (hmem i hi)).1
        exact ⟨fuel - 1, by omega, by omega⟩
      generalize htk : findTake cfg.P ops listed (baseOf st0 written) st rs = tk at hd
      rcases findTake_inv htk with rfl | ⟨i, o, hi, ho, hfree, htake, htne⟩
      · -- whichever comes up
        have hne : rs ≠ [] := by
          intro e
          subst e
          exact hr rfl
        obtain ⟨i0, hi0⟩ := List.exists_mem_of_ne_nil rs hne
        obtain ⟨f, rfl, _⟩ := hfuel i0 hi0
        refine wpAnyH_all hrs hne (fun i hi => ?_)
        have hdi := bothAll_den hd i hi
        obtain ⟨f', hf1, hf2⟩ := hfuel i hi
        have : f' = f := by omega
        subst this
        unfold wpOp
        split at hdi
        · rename_i o ho
          simp only [ho]
          have hone := oneOp_sound hsig hinl hst.hr ht hdi Q
          have hnext : ∀ a' w', ((∃ v, a' = a.put o.dst v) ∧ Reach cfg.P w0 R0 bl vs ow st (fun st' => (if sameBoxes (baseOf st0 written) st' then runDraw cfg inl path ops (baseOf st0 written) n (listed.setIfInBounds i true) st' k else .fail "a region that draws its order: a box is written" path : Tree (sem T)).den) a' w') →
              Base cfg.P bl0 vs0 (baseOf st0 written) w' ∧ wpAnyH cfg.P .any ops Q (Base cfg.P bl0 vs0 (baseOf st0 written)) f' (listed.setIfInBounds i true) a' w' := by
            rintro a' w' ⟨⟨v, rfl⟩, bl', vs', R', ow', st', g1, g2, g3⟩
            split at g3
            · rename_i hsame
              have hst' := hst.trans g1
              have hB' := base_again hS0 hst' hsame
              exact ⟨hB', runDraw_sound hsig hinl hQp hns hS0 hD hQ n hst' g2 g3 hB' hf2 (hkp.trans (Keeps.put (hD i o ho)))⟩
            · exact g3.elim
          split at hone
          · rename_i hw
            rw [if_pos hw]
            exact .inl (Oper.wp_mono hnext hone)
          · rename_i hw
            rw [if_neg hw]
            exact hnext _ _ ⟨⟨undef, rfl⟩, hone⟩
        · exact hdi.elim
      · have hok := takeOf_ok (P := cfg.P) ht (ops := ops) (base := baseOf st0 written) (i := i) (o := o)
        rw [htake] at hok
        obtain ⟨f, rfl, hf2⟩ := hfuel i hi
        have hcont : (Region.ready .any ops listed).contains i = true := by rw [hrs]; simpa using hi
        cases tk with
        | none => exact absurd rfl htne
        | ask t b =>
          have hb : st.tmps[t]? = some (.bool b) := hok
          obtain ⟨v, hv, hs⟩ := tmp_get ht hb
          have hs : v = .bool b.b := hs
          subst hs
          have hlit : ∀ c : Bool, b.b = c → TD bl vs ow (st.tmps.set t (.blit c)) a := fun c hc => ht.same (fun u hu => by rw [hv] at hu; cases hu; exact congrArg Value.bool hc)
          have hst' : ∀ c : Bool, Stp cfg.P w0 R0 bl0 vs0 ow0 st0 bl vs R ow { st with tmps := st.tmps.set t (.blit c) } w := fun c => ⟨hst.hr, hst.bl, hst.vs, ⟨hst.ext.box, hst.ext.ent⟩, hst.mrk⟩
          by_cases hp : b.p
          · exact runDraw_sound hsig hinl hQp hns hS0 hD hQ n (hst' true) (hlit true (by simp [PB.b, hp])) (hd.1 hp) hB hf hkp
          · exact runDraw_sound hsig hinl hQp hns hS0 hD hQ n (hst' false) (hlit false (by simp [PB.b, hp])) (hd.2 hp) hB hf hkp
        | skip i' d =>
          obtain ⟨rfl, rfl, hw⟩ := hok
          refine wpAnyH_take ho hns hfree hcont (fun c a w hh => (hQp c _ _ hh).elim) (v := undef) (.inr ⟨hw, rfl⟩) hB ?_
          have hst' : Stp cfg.P w0 R0 bl0 vs0 ow0 st0 bl vs R ow (setTmp st o.dst (.con (.tuple #[]))) w := by
            cases hdst : o.dst with
            | none => exact hst
            | some d => exact ⟨hst.hr, hst.bl, hst.vs, ⟨hst.ext.box, hst.ext.ent⟩, hst.mrk⟩
          exact runDraw_sound hsig hinl hQp hns hS0 hD hQ n hst' (ht.put o.dst rfl) hd hB hf2 (hkp.trans (Keeps.put (hD i' o ho)))
        | val i' d p =>
          obtain ⟨rfl, rfl, hw, hp, hclean⟩ := hok
          obtain ⟨hnsd, hd⟩ := needs_den.1 hd
          obtain ⟨R2, hlook⟩ := base_look hst.bl hst.vs hst.hr.vsl hB
          have htb : TD bl vs ow ({ baseOf st0 written with tmps := st.tmps } : St (sem T)).tmps a := ht
          obtain ⟨v, hrun, hsv, hg⟩ := pure_sound (st := { baseOf st0 written with tmps := st.tmps }) hlook htb.tr hp hnsd
          have hy : YieldsIf cfg.P ops (Base cfg.P bl0 vs0 (baseOf st0 written)) o v a := .inl ⟨hw, fun w2 hB2 => by
            obtain ⟨R3, hlook2⟩ := base_look hst.bl hst.vs hst.hr.vsl hB2
            obtain ⟨v2, hrun2, hsv2, _⟩ := pure_sound (st := { baseOf st0 written with tmps := st.tmps }) hlook2 htb.tr hp hnsd
            rw [SVR.unique hclean hsv hsv2]
            exact hrun2⟩
          refine wpAnyH_take ho hns hfree hcont (fun c a w hh => (hQp c _ _ hh).elim) hy hB ?_
          have hst' : Stp cfg.P w0 R0 bl0 vs0 ow0 st0 bl vs R ow (setTmp st o.dst p.v) w := by
            cases hdst : o.dst with
            | none => exact hst
            | some d => exact ⟨hst.hr, hst.bl, hst.vs, ⟨hst.ext.box, hst.ext.ent⟩, hst.mrk⟩
          exact runDraw_sound hsig hinl hQp hns hS0 hD hQ n hst' (ht.put o.dst hsv) ((givens_den.1 hd) hg) hB hf2 (hkp.trans (Keeps.put (hD i' o ho)))

end Go.Sx
