/-
  The heap's relation to a symbolic state, and the moves that keep it: a new block, a new entry, one that is given up. Conditions: none beyond each lemma's own.
-/
import Derived.Test.YtlhjljekeobplaaSx5
namespace Go.Sx
open Go.RowKit (Below)

inductive Owner where
  | box (i : Nat)
  | ent (i : Nat)
  | mark (l : Nat)

variable {T : FuncId → Pred} {P : Program}

def Own (P : Program) (w : World) (R : Nat → Prop) (ow : Nat → Option Owner) (i : Nat) (elem : TypeId) (s : Sl) (v : Value) : Prop :=
  ∃ a cap, v = .slice a s.n cap ∧ s.n ≤ cap ∧ cap ≤ maxLen ∧ (a = none → cap = 0) ∧
    (cap = 0 ∨ ∃ (b : Nat) (cs : Array Value), a = some ⟨b, 0, none⟩ ∧ ow b = some (.ent i) ∧ w.heap[b]? = some (.cells cs elem (0, 0)) ∧ ∀ ks, kinds P elem = some ks → cs.size = cap * ks.length ∧
      ∀ j k kk, j < s.n → ks[k]? = some kk → ∃ u, cs[j * ks.length + k]? = some u ∧ Rd P w R (s.f j k) kk u)

/-- What stands of a loop over a function: its frame, its code. -/
structure LStat (T : FuncId → Pred) where
  params : Array Tmp
  assign : Code
  body : Code
  tmps : List (SV (sem T))
  busy : Bool

/-- What is given from outside: the blocks that may be read; the loops over functions that are under way. -/
structure Bs (T : FuncId → Pred) where
  R : Nat → Prop
  lps : Nat → Option (LStat T)

def jpCode : Jp → Option (Option Code)
  | .none => some none
  | .ret => some (some .ret)
  | .exit id => some (some (.exit id))
  | .bad => none

/-- The loop's record. -/
def LpOk (bl : List Nat) (vs : List Value) (L : LStat T) (cells : List (SV (sem T))) (o : Option Obj) : Prop :=
  ∃ r : Loop, o = some (.loop r) ∧ r.params = L.params ∧ r.assign = L.assign ∧ r.body = L.body ∧ SVRs bl vs L.tmps r.tmps.toList ∧
    ∃ j, jpCode (jpOf cells) = some j ∧ r.pending = j ∧ r.state = (if L.busy then .busy else match j with | none => .ready | some _ => .done) ∧ (L.busy = true → j = none)

theorem LpOk.mono {bl bl' : List Nat} {vs vs' : List Value} {L : LStat T} {cells : List (SV (sem T))} {o o' : Option Obj} (h : LpOk bl vs L cells o) (ho : o' = o) (hb : ∀ (i : Nat) (b : Nat), bl[i]? = some b → bl'[i]? = some b)
    (hv : ∀ (i : Nat) (v : Value), vs[i]? = some v → vs'[i]? = some v) : LpOk bl' vs' L cells o' := by
  obtain ⟨r, h1, h2, h3, h4, h5, h6⟩ := h
  exact ⟨r, ho.trans h1, h2, h3, h4, h5.mono hb hv, h6⟩

structure HR (P : Program) (w0 : World) (R0 : Bs T) (bl : List Nat) (vs : List Value) (R : Nat → Prop) (ow : Nat → Option Owner)
    (boxes : List (Box (sem T))) (ents : List (Ent (sem T))) (w : World) : Prop where
  below : Below w0.heap.size w0 w
  rlt : ∀ b, R b → b < w.heap.size
  r0 : ∀ b, R0.R b → R b
  rsub : ∀ b, R b → R0.R b ∨ w0.heap.size ≤ b
  ro : ∀ b, R b → ow b = none
  olt : ∀ b o, ow b = some o → w0.heap.size ≤ b ∧ b < w.heap.size
  nb : bl.length = boxes.length
  nv : vs.length = ents.length
  vsl : ∀ (i : Nat) (v : Value), vs[i]? = some v → ∃ a n c, v = .slice a n c
  box : ∀ (i : Nat) (bx : Box (sem T)), boxes[i]? = some bx → bx.live = true → ∃ (b : Nat) (cs : Array Value), bl[i]? = some b ∧ ow b = some (.box i) ∧ w.heap[b]? = some (.cells cs bx.ty (0, 0)) ∧ SVRs bl vs bx.cells cs.toList
  ent : ∀ (i : Nat) (e : Ent (sem T)), ents[i]? = some e → e.live = true → ∃ v : Value, vs[i]? = some v ∧
    (e.own = false → Rd P w R (.sl e.s.n e.s.f) (.sl e.elem) v) ∧ (e.own = true → Own P w R ow i e.elem e.s v)
  mrk : ∀ {l : Nat} b, ow b = some (.mark l) → w.heap[b]? = some (.deferred (some []))
  lp : ∀ i L, R0.lps i = some L → ∃ bx b, boxes[i]? = some bx ∧ bx.live = false ∧ bl[i]? = some b ∧ ow b = some (.box i) ∧ LpOk bl vs L bx.cells w.heap[b]?

section
variable {w0 w w' : World} {R0 : Bs T} {R : Nat → Prop} {bl : List Nat} {vs : List Value} {ow : Nat → Option Owner} {boxes : List (Box (sem T))} {ents : List (Ent (sem T))}

theorem Own.cont {i : Nat} {e : TypeId} {s : Sl} {v : Value} (h : Own P w R ow i e s v) : Cont P w R e s v := by
  obtain ⟨a, cap, hv, h1, h2, ha, hc⟩ := h
  refine ⟨a, cap, hv, h1, h2, ha, fun ks i j kk hk hi hj => ?_⟩
  rcases hc with hc | ⟨b, cs, hab, _, hcs, hcont⟩
  · omega
  · obtain ⟨u, hu, hr⟩ := (hcont ks hk).2 i j kk hi hj
    refine ⟨_, u, hab, rfl, ?_, hr⟩
    simp [World.cell?, hcs, hu]

theorem HR.look (h : HR P w0 R0 bl vs R ow boxes ents w) : Look P R bl vs boxes ents w where
  box := fun i bx hi hl => let ⟨b, cs, h1, _, h2, h3⟩ := h.box i bx hi hl; ⟨b, cs, h1, h2, h3⟩
  ent := fun i e hi hl => by
    obtain ⟨v, hv, h1, h2⟩ := h.ent i e hi hl
    refine ⟨v, hv, ?_⟩
    cases ho : e.own
    · exact (h1 ho).cont
    · exact (h2 ho).cont
  vsl := h.vsl

theorem Own.mono {i : Nat} {e : TypeId} {s : Sl} {v : Value} {R' : Nat → Prop} {ow' : Nat → Option Owner} (h : Own P w R ow i e s v)
    (hR : ∀ b, R b → R' b) (hw : ∀ b, R b → w'.heap[b]? = w.heap[b]?) (ho : ∀ b, ow b = some (.ent i) → ow' b = some (.ent i) ∧ w'.heap[b]? = w.heap[b]?) : Own P w' R' ow' i e s v := by
  obtain ⟨a, cap, hv, h1, h2, ha, hc⟩ := h
  refine ⟨a, cap, hv, h1, h2, ha, ?_⟩
  rcases hc with hc | ⟨b, cs, hab, hob, hcs, hcont⟩
  · exact .inl hc
  · refine .inr ⟨b, cs, hab, (ho b hob).1, (ho b hob).2.trans hcs, fun ks hks => ⟨(hcont ks hks).1, fun j k kk hj hk => ?_⟩⟩
    obtain ⟨u, hu, hr⟩ := (hcont ks hks).2 j k kk hj hk
    exact ⟨u, hu, hr.mono hR hw⟩

/-- The world has grown, and what was there is as it was. -/
theorem HR.grow (h : HR P w0 R0 bl vs R ow boxes ents w) (hb : Below w.heap.size w w') : HR P w0 R0 bl vs R ow boxes ents w' where
  below := h.below.trans (hb.mono h.below.size)
  rlt := fun b hr => Nat.lt_of_lt_of_le (h.rlt b hr) hb.size
  r0 := h.r0
  rsub := h.rsub
  ro := h.ro
  olt := fun b o ho => ⟨(h.olt b o ho).1, Nat.lt_of_lt_of_le (h.olt b o ho).2 hb.size⟩
  nb := h.nb
  nv := h.nv
  vsl := h.vsl
  box := fun i bx hi hl => by
    obtain ⟨b, cs, h1, h2, h3, h4⟩ := h.box i bx hi hl
    exact ⟨b, cs, h1, h2, (hb.block b (h.olt b _ h2).2).trans h3, h4⟩
  ent := fun i e hi hl => by
    obtain ⟨v, hv, h1, h2⟩ := h.ent i e hi hl
    exact ⟨v, hv, fun ho => (h1 ho).mono (fun _ x => x) (fun b hr => hb.block b (h.rlt b hr)),
      fun ho => (h2 ho).mono (fun _ x => x) (fun b hr => hb.block b (h.rlt b hr)) (fun b hb' => ⟨hb', hb.block b (h.olt b _ hb').2⟩)⟩
  mrk := fun b hb' => (hb.block b (h.olt b _ hb').2).trans (h.mrk b hb')
  lp := fun i L hi => by
    obtain ⟨bx, b, h1, h2, h3, h4, h5⟩ := h.lp i L hi
    exact ⟨bx, b, h1, h2, h3, h4, h5.mono (hb.block b (h.olt b _ h4).2) (fun _ _ x => x) (fun _ _ x => x)⟩

theorem get_append_lt {α : Type} {l l' : List α} {i : Nat} {x : α} (h : l[i]? = some x) : (l ++ l')[i]? = some x := by
  have : i < l.length := by
    rcases Nat.lt_or_ge i l.length with h' | h'
    · exact h'
    · rw [List.getElem?_eq_none h'] at h; cases h
  rw [List.getElem?_append_left this]; exact h

theorem get_append_inv {α : Type} {l : List α} {y : α} {i : Nat} {x : α} (h : (l ++ [y])[i]? = some x) : l[i]? = some x ∨ (i = l.length ∧ x = y) := by
  rcases Nat.lt_or_ge i l.length with h' | h'
  · rw [List.getElem?_append_left h'] at h; exact .inl h
  · rw [List.getElem?_append_right h'] at h
    have : i - l.length = 0 := by
      cases hh : i - l.length with
      | zero => rfl
      | succ n => rw [hh] at h; simp at h
    rw [this] at h
    simp at h
    exact .inr ⟨by omega, h.symm⟩

def setOw (ow : Nat → Option Owner) (b : Nat) (o : Option Owner) : Nat → Option Owner := fun x => if x = b then o else ow x

theorem setOw_ne {ow : Nat → Option Owner} {b x : Nat} {o : Option Owner} (h : x ≠ b) : setOw ow b o x = ow x := by simp [setOw, h]
theorem setOw_eq {ow : Nat → Option Owner} {b : Nat} {o : Option Owner} : setOw ow b o b = o := by simp [setOw]

/-- A block that nobody owns becomes a box. -/
theorem HR.pushBox (h : HR P w0 R0 bl vs R ow boxes ents w) {b : Nat} {ty : TypeId} {cs : Array Value} {cells : List (SV (sem T))} (hw : w.heap[b]? = some (.cells cs ty (0, 0)))
    (hb : w0.heap.size ≤ b) (ho : ow b = none) (hR : ¬ R b) (hs : SVRs bl vs cells cs.toList) :
    HR P w0 R0 (bl ++ [b]) vs R (setOw ow b (some (.box boxes.length))) (boxes ++ [⟨ty, cells, 0, true⟩]) ents w where
  below := h.below
  rlt := h.rlt
  r0 := h.r0
  rsub := h.rsub
  ro := fun x hx => by
    rw [setOw_ne (fun e : x = b => hR (by rw [← e]; exact hx))]; exact h.ro x hx
  olt := fun x o hx => by
    by_cases e : x = b
    · subst e; exact ⟨hb, (Array.getElem?_eq_some_iff.1 hw).1⟩
    · rw [setOw_ne e] at hx; exact h.olt x o hx
  nb := by simp [h.nb]
  nv := h.nv
  vsl := h.vsl
  box := fun i bx hi hl => by
    rcases get_append_inv hi with hi | ⟨rfl, rfl⟩
    · obtain ⟨b', cs', h1, h2, h3, h4⟩ := h.box i bx hi hl
      have hne : b' ≠ b := fun e => by rw [e, ho] at h2; cases h2
      exact ⟨b', cs', get_append_lt h1, by rw [setOw_ne hne]; exact h2, h3, h4.mono (fun _ _ => get_append_lt) (fun _ _ x => x)⟩
    · refine ⟨b, cs, ?_, setOw_eq, hw, hs.mono (fun _ _ => get_append_lt) (fun _ _ x => x)⟩
      rw [← h.nb, List.getElem?_append_right (Nat.le_refl _)]; simp
  ent := fun i e hi hl => by
    obtain ⟨v, hv, h1, h2⟩ := h.ent i e hi hl
    refine ⟨v, hv, h1, fun hown => (h2 hown).mono (fun _ x => x) (fun _ _ => rfl) (fun x hx => ⟨?_, rfl⟩)⟩
    have hne : x ≠ b := fun e => by rw [e, ho] at hx; cases hx
    rw [setOw_ne hne]; exact hx
  mrk := fun x hx => by
    by_cases e : x = b
    · subst e; rw [setOw_eq] at hx; cases hx
    · rw [setOw_ne e] at hx; exact h.mrk x hx
  lp := fun i L hi => by
    obtain ⟨bx, x, h1, h2, h3, h4, h5⟩ := h.lp i L hi
    have hne : x ≠ b := fun e => by rw [e, ho] at h4; cases h4
    exact ⟨bx, x, get_append_lt h1, h2, get_append_lt h3, by rw [setOw_ne hne]; exact h4, h5.mono rfl (fun _ _ => get_append_lt) (fun _ _ x => x)⟩

/-- One more entry, readable. -/
theorem HR.pushRo (h : HR P w0 R0 bl vs R ow boxes ents w) {e : TypeId} {s : Sl} {v : Value} (hr : Rd P w R (.sl s.n s.f) (.sl e) v) :
    HR P w0 R0 bl (vs ++ [v]) R ow boxes (ents ++ [⟨e, s, false, true, 0⟩]) w where
  below := h.below
  rlt := h.rlt
  r0 := h.r0
  rsub := h.rsub
  ro := h.ro
  olt := h.olt
  nb := h.nb
  nv := by simp [h.nv]
  vsl := fun i u hi => by
    rcases get_append_inv hi with hi | ⟨_, rfl⟩
    · exact h.vsl i u hi
    · obtain ⟨e', a, cap, _, hv, _⟩ := hr; exact ⟨_, _, _, hv⟩
  box := fun i bx hi hl => by
    obtain ⟨b, cs, h1, h2, h3, h4⟩ := h.box i bx hi hl
    exact ⟨b, cs, h1, h2, h3, h4.mono (fun _ _ x => x) (fun _ _ => get_append_lt)⟩
  ent := fun i e' hi hl => by
    rcases get_append_inv hi with hi | ⟨rfl, rfl⟩
    · obtain ⟨u, hu, h1, h2⟩ := h.ent i e' hi hl
      exact ⟨u, get_append_lt hu, h1, h2⟩
    · refine ⟨v, ?_, fun _ => hr, fun ho => by cases ho⟩
      rw [← h.nv, List.getElem?_append_right (Nat.le_refl _)]; simp
  mrk := h.mrk
  lp := fun i L hi => by
    obtain ⟨bx, x, h1, h2, h3, h4, h5⟩ := h.lp i L hi
    exact ⟨bx, x, h1, h2, h3, h4, h5.mono rfl (fun _ _ x => x) (fun _ _ => get_append_lt)⟩

/-- One more entry, own: its row was nobody's, or was that of an entry that lives no more. -/
theorem HR.pushOwn (h : HR P w0 R0 bl vs R ow boxes ents w) {e : TypeId} {s : Sl} {v : Value} {a : Option Addr} {cap : Nat} (hv : v = .slice a s.n cap) (h1 : s.n ≤ cap) (h2 : cap ≤ maxLen)
    (ha : a = none → cap = 0)
    (hc : cap = 0 ∨ ∃ (b : Nat) (cs : Array Value), a = some ⟨b, 0, none⟩ ∧ w0.heap.size ≤ b ∧ ¬ R b ∧ (∀ i, ow b ≠ some (.box i)) ∧ (∀ l, ow b ≠ some (.mark l)) ∧ (∀ i en, ow b = some (.ent i) → ents[i]? = some en → en.live = false ∨ en.own = false) ∧
      w.heap[b]? = some (.cells cs e (0, 0)) ∧ ∀ ks, kinds P e = some ks → cs.size = cap * ks.length ∧
      ∀ j k kk, j < s.n → ks[k]? = some kk → ∃ u, cs[j * ks.length + k]? = some u ∧ Rd P w R (s.f j k) kk u) :
    ∃ ow', HR P w0 R0 bl (vs ++ [v]) R ow' boxes (ents ++ [⟨e, s, true, true, 0⟩]) w ∧ ∀ {l : Nat} x, ow x = some (.mark l) → ow' x = some (.mark l) := by
  rcases hc with hc | ⟨b, cs, hab, hb, hRb, hnb, hnm, hne, hw, hcont⟩
  · refine ⟨ow, ⟨h.below, h.rlt, h.r0, h.rsub, h.ro, h.olt, h.nb, by simp [h.nv], ?_, ?_, ?_, h.mrk, ?_⟩, fun _ x => x⟩
    · intro i u hi
      rcases get_append_inv hi with hi | ⟨_, rfl⟩
      · exact h.vsl i u hi
      · exact ⟨_, _, _, hv⟩
    · intro i bx hi hl
      obtain ⟨b, cs, h1, h2, h3, h4⟩ := h.box i bx hi hl
      exact ⟨b, cs, h1, h2, h3, h4.mono (fun _ _ x => x) (fun _ _ => get_append_lt)⟩
    · intro i e' hi hl
      rcases get_append_inv hi with hi | ⟨rfl, rfl⟩
      · obtain ⟨u, hu, h1, h2⟩ := h.ent i e' hi hl
        exact ⟨u, get_append_lt hu, h1, h2⟩
      · refine ⟨v, ?_, (fun ho => by cases ho), fun _ => ⟨a, cap, hv, h1, h2, ha, .inl hc⟩⟩
        rw [← h.nv, List.getElem?_append_right (Nat.le_refl _)]; simp
    · intro i L hi
      obtain ⟨bx, x, h1, h2, h3, h4, h5⟩ := h.lp i L hi
      exact ⟨bx, x, h1, h2, h3, h4, h5.mono rfl (fun _ _ x => x) (fun _ _ => get_append_lt)⟩
  · have hmk : ∀ {l : Nat} x, ow x = some (.mark l) → setOw ow b (some (.ent ents.length)) x = some (.mark l) := fun x hx => by
      rw [setOw_ne (fun e => hnm _ (by rw [← e]; exact hx))]; exact hx
    refine ⟨setOw ow b (some (.ent ents.length)), ⟨h.below, h.rlt, h.r0, h.rsub, ?_, ?_, h.nb, by simp [h.nv], ?_, ?_, ?_, ?_, ?_⟩, hmk⟩
    · intro x hx
      rw [setOw_ne (fun e : x = b => hRb (by rw [← e]; exact hx))]; exact h.ro x hx
    · intro x o hx
      by_cases e : x = b
      · subst e; exact ⟨hb, (Array.getElem?_eq_some_iff.1 hw).1⟩
      · rw [setOw_ne e] at hx; exact h.olt x o hx
    · intro i u hi
      rcases get_append_inv hi with hi | ⟨_, rfl⟩
      · exact h.vsl i u hi
      · exact ⟨_, _, _, hv⟩
    · intro i bx hi hl
      obtain ⟨b', cs', h1, h2, h3, h4⟩ := h.box i bx hi hl
      have hbne : b' ≠ b := fun e => by rw [e] at h2; exact hnb i h2
      exact ⟨b', cs', h1, by rw [setOw_ne hbne]; exact h2, h3, h4.mono (fun _ _ x => x) (fun _ _ => get_append_lt)⟩
    · intro i e' hi hl
      rcases get_append_inv hi with hi | ⟨rfl, rfl⟩
      · obtain ⟨u, hu, h1, h2⟩ := h.ent i e' hi hl
        refine ⟨u, get_append_lt hu, h1, fun hown => (h2 hown).mono (fun _ x => x) (fun _ _ => rfl) (fun x hx => ⟨?_, rfl⟩)⟩
        have hxne : x ≠ b := fun e => by
          rw [e] at hx
          rcases hne i e' hx hi with hh | hh
          · rw [hl] at hh; cases hh
          · rw [hown] at hh; cases hh
        rw [setOw_ne hxne]; exact hx
      · refine ⟨v, ?_, (fun ho => by cases ho), fun _ => ⟨a, cap, hv, h1, h2, ha, .inr ⟨b, cs, hab, setOw_eq, hw, hcont⟩⟩⟩
        rw [← h.nv, List.getElem?_append_right (Nat.le_refl _)]; simp
    · intro _ x hx
      by_cases e : x = b
      · subst e; rw [setOw_eq] at hx; cases hx
      · rw [setOw_ne e] at hx; exact h.mrk x hx
    · intro i L hi
      obtain ⟨bx, x, h1, h2, h3, h4, h5⟩ := h.lp i L hi
      have hxne : x ≠ b := fun e => by rw [e] at h4; exact hnb i h4
      exact ⟨bx, x, h1, h2, h3, by rw [setOw_ne hxne]; exact h4, h5.mono rfl (fun _ _ x => x) (fun _ _ => get_append_lt)⟩

theorem get_set_inv {α : Type} {l : List α} {i j : Nat} {x y : α} (h : (l.set i y)[j]? = some x) : (j = i ∧ x = y) ∨ (j ≠ i ∧ l[j]? = some x) := by
  by_cases e : i = j
  · subst e
    rw [List.getElem?_set] at h
    simp at h
    exact .inl ⟨rfl, h.2.symm⟩
  · rw [List.getElem?_set_ne e] at h
    exact .inr ⟨fun h' => e h'.symm, h⟩

/-- An entry is given up. -/
theorem HR.dead (h : HR P w0 R0 bl vs R ow boxes ents w) (i : Nat) (e : Ent (sem T)) (he : e.live = false) : HR P w0 R0 bl vs R ow boxes (ents.set i e) w where
  below := h.below
  rlt := h.rlt
  r0 := h.r0
  rsub := h.rsub
  ro := h.ro
  olt := h.olt
  nb := h.nb
  nv := by simp [h.nv]
  vsl := h.vsl
  box := h.box
  ent := fun j e' hj hl => by
    rcases get_set_inv hj with ⟨rfl, rfl⟩ | ⟨_, hj⟩
    · rw [he] at hl; cases hl
    · exact h.ent j e' hj hl
  mrk := h.mrk
  lp := h.lp

end

/-! ### How states grow -/

structure Ext (st st' : St (sem T)) : Prop where
  box : ∀ (i : Nat) (bx : Box (sem T)), st.boxes[i]? = some bx → ∃ bx', st'.boxes[i]? = some bx' ∧ bx.ver ≤ bx'.ver ∧ (bx'.ver = bx.ver → bx' = bx) ∧ bx'.ty = bx.ty
  ent : ∀ (i : Nat) (e : Ent (sem T)), st.ents[i]? = some e → ∃ e', st'.ents[i]? = some e' ∧ e.ver ≤ e'.ver ∧ (e'.ver = e.ver → e' = e)

theorem Ext.refl (st : St (sem T)) : Ext st st := ⟨fun _ bx h => ⟨bx, h, Nat.le_refl _, fun _ => rfl, rfl⟩, fun _ e h => ⟨e, h, Nat.le_refl _, fun _ => rfl⟩⟩

theorem Ext.trans {a b c : St (sem T)} (h : Ext a b) (k : Ext b c) : Ext a c where
  box := fun i bx hi => by
    obtain ⟨b1, h1, h2, h3, h4⟩ := h.box i bx hi
    obtain ⟨b2, k1, k2, k3, k4⟩ := k.box i b1 h1
    refine ⟨b2, k1, Nat.le_trans h2 k2, fun he => ?_, k4.trans h4⟩
    have e1 : b1.ver = bx.ver := by omega
    have e2 : b2.ver = b1.ver := by omega
    rw [k3 e2, h3 e1]
  ent := fun i bx hi => by
    obtain ⟨b1, h1, h2, h3⟩ := h.ent i bx hi
    obtain ⟨b2, k1, k2, k3⟩ := k.ent i b1 h1
    refine ⟨b2, k1, Nat.le_trans h2 k2, fun he => ?_⟩
    have e1 : b1.ver = bx.ver := by omega
    have e2 : b2.ver = b1.ver := by omega
    rw [k3 e2, h3 e1]

theorem Ext.of_append {st st' : St (sem T)} {nb : List (Box (sem T))} {ne : List (Ent (sem T))} (hb : st'.boxes = st.boxes ++ nb) (he : st'.ents = st.ents ++ ne) : Ext st st' where
  box := fun i bx h => ⟨bx, by rw [hb]; exact get_append_lt h, Nat.le_refl _, fun _ => rfl, rfl⟩
  ent := fun i e h => ⟨e, by rw [he]; exact get_append_lt h, Nat.le_refl _, fun _ => rfl⟩

theorem Ext.of_set_box {st st' : St (sem T)} {i : Nat} {bx : Box (sem T)} (hb : st'.boxes = st.boxes.set i bx) (he : st'.ents = st.ents) (h : ∀ b0, st.boxes[i]? = some b0 → b0.ver < bx.ver ∧ bx.ty = b0.ty) : Ext st st' where
  box := fun j b hj => by
    rw [hb]
    by_cases e : i = j
    · subst e
      refine ⟨bx, ?_, Nat.le_of_lt (h b hj).1, fun he => ?_, (h b hj).2⟩
      · rw [List.getElem?_set]
        have : i < st.boxes.length := by
          rcases Nat.lt_or_ge i st.boxes.length with h' | h'
          · exact h'
          · rw [List.getElem?_eq_none h'] at hj; cases hj
        simp [this]
      · have := (h b hj).1; omega
    · exact ⟨b, by rw [List.getElem?_set_ne e]; exact hj, Nat.le_refl _, fun _ => rfl, rfl⟩
  ent := fun i e h => ⟨e, by rw [he]; exact h, Nat.le_refl _, fun _ => rfl⟩

theorem Ext.of_set_ent {st st' : St (sem T)} {i : Nat} {bx : Ent (sem T)} (hb : st'.boxes = st.boxes) (he : st'.ents = st.ents.set i bx) (h : ∀ b0, st.ents[i]? = some b0 → b0.ver < bx.ver) : Ext st st' where
  box := fun i e h => ⟨e, by rw [hb]; exact h, Nat.le_refl _, fun _ => rfl, rfl⟩
  ent := fun j b hj => by
    rw [he]
    by_cases e : i = j
    · subst e
      refine ⟨bx, ?_, Nat.le_of_lt (h b hj), fun he => ?_⟩
      · rw [List.getElem?_set]
        have : i < st.ents.length := by
          rcases Nat.lt_or_ge i st.ents.length with h' | h'
          · exact h'
          · rw [List.getElem?_eq_none h'] at hj; cases hj
        simp [this]
      · have := h b hj; omega
    · exact ⟨b, by rw [List.getElem?_set_ne e]; exact hj, Nat.le_refl _, fun _ => rfl⟩

/-- A step from a symbolic state to a later one, in the model's world. -/
structure Stp (P : Program) (w0 : World) (R0 : Bs T) (bl : List Nat) (vs : List Value) (ow : Nat → Option Owner) (st : St (sem T)) (bl' : List Nat) (vs' : List Value) (R' : Nat → Prop) (ow' : Nat → Option Owner) (st' : St (sem T)) (w' : World) : Prop where
  hr : HR P w0 R0 bl' vs' R' ow' st'.boxes st'.ents w'
  bl : ∀ (i : Nat) (b : Nat), bl[i]? = some b → bl'[i]? = some b
  vs : ∀ (i : Nat) (v : Value), vs[i]? = some v → vs'[i]? = some v
  ext : Ext st st'
  mrk : ∀ {l : Nat} b, ow b = some (.mark l) → ow' b = some (.mark l)

theorem Stp.trans {w0 : World} {R0 : Bs T} {bl bl1 bl2 : List Nat} {vs vs1 vs2 : List Value} {R1 R2 : Nat → Prop} {ow ow1 ow2 : Nat → Option Owner} {st st1 st2 : St (sem T)} {w1 w2 : World}
    (h : Stp P w0 R0 bl vs ow st bl1 vs1 R1 ow1 st1 w1) (k : Stp P w0 R0 bl1 vs1 ow1 st1 bl2 vs2 R2 ow2 st2 w2) : Stp P w0 R0 bl vs ow st bl2 vs2 R2 ow2 st2 w2 :=
  ⟨k.hr, fun i b hb => k.bl i b (h.bl i b hb), fun i v hv => k.vs i v (h.vs i v hv), h.ext.trans k.ext, fun b hb => k.mrk b (h.mrk b hb)⟩

theorem Stp.refl {w0 w : World} {R0 : Bs T} {bl : List Nat} {vs : List Value} {R : Nat → Prop} {ow : Nat → Option Owner} {st : St (sem T)} (h : HR P w0 R0 bl vs R ow st.boxes st.ents w) : Stp P w0 R0 bl vs ow st bl vs R ow st w :=
  ⟨h, fun _ _ x => x, fun _ _ x => x, Ext.refl _, fun _ x => x⟩

end Go.Sx
