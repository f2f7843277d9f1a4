/-
  What a claim's reader reads as data, the executor's readings read too. Conditions: the types hold plain data.
-/
import Derived.Test.YtlhjljekeobplaaSxJ
import GoSem.ClaimJoined
namespace Go.Sx

def okFields (ok : TypeId → Bool) (P : Program) : List Field → Nat → Bool
  | [], _ => true
  | f :: fs, off => match kinds P f.type with
    | some ks => f.offset == off && ok f.type && okFields ok P fs (off + ks.length)
    | none => false

def okTy (P : Program) : Nat → TypeId → Bool
  | 0, _ => false
  | n + 1, t => match P.underlying t with
    | some (.int _) => true
    | some .bool => true
    | some .string => true
    | some (.slice e) => (kinds P e).isSome && okTy P n e
    | some (.struct fs) => okFields (okTy P n) P fs.toList 0
    | some (.array _ e) => (kinds P e).isSome && okTy P n e
    | _ => false

def RdL (P : Program) (w : World) (R : Nat → Prop) : List K → List Value → List D → Prop
  | [], [], [] => True
  | k :: ks, v :: vs, d :: ds => Rd P w R d k v ∧ RdL P w R ks vs ds
  | _, _, _ => False

variable {P : Program} {w : World} {R : Nat → Prop}

theorem RdL.length : ∀ {ks : List K} {vs : List Value} {ds : List D}, RdL P w R ks vs ds → vs.length = ks.length ∧ ds.length = ks.length
  | [], [], [], _ => ⟨rfl, rfl⟩
  | _ :: _, _ :: _, _ :: _, h => by have := h.2.length; simp [this]
  | [], _ :: _, _, h => by cases h
  | [], [], _ :: _, h => by cases h
  | _ :: _, [], _, h => by cases h
  | _ :: _, _ :: _, [], h => by cases h

theorem RdL.append : ∀ {ks : List K} {vs : List Value} {ds : List D} {ks' : List K} {vs' : List Value} {ds' : List D}, RdL P w R ks vs ds → RdL P w R ks' vs' ds' → RdL P w R (ks ++ ks') (vs ++ vs') (ds ++ ds')
  | [], [], [], _, _, _, _, h => h
  | _ :: _, _ :: _, _ :: _, _, _, _, h, h' => ⟨h.1, h.2.append h'⟩
  | [], _ :: _, _, _, _, _, h, _ => by cases h
  | [], [], _ :: _, _, _, _, h, _ => by cases h
  | _ :: _, [], _, _, _, _, h, _ => by cases h
  | _ :: _, _ :: _, [], _, _, _, h, _ => by cases h

theorem RdL.get : ∀ {ks : List K} {vs : List Value} {ds : List D}, RdL P w R ks vs ds → ∀ {j : Nat} {k : K}, ks[j]? = some k → ∃ v, vs[j]? = some v ∧ Rd P w R (ds.getD j (.int 0)) k v
  | [], [], [], _, j, k, h => by simp at h
  | _ :: _, v :: _, _ :: _, h, 0, k, hk => by
    simp only [List.getElem?_cons_zero, Option.some.injEq] at hk
    subst hk
    exact ⟨v, rfl, h.1⟩
  | _ :: _, _ :: _, _ :: _, h, j + 1, k, hk => by
    obtain ⟨v, h1, h2⟩ := h.2.get (j := j) (by simpa using hk)
    exact ⟨v, by simpa using h1, by simpa using h2⟩
  | [], _ :: _, _, h, _, _, _ => by cases h
  | [], [], _ :: _, h, _, _, _ => by cases h
  | _ :: _, [], _, h, _, _, _ => by cases h
  | _ :: _, _ :: _, [], h, _, _, _ => by cases h

def catK (f : Nat → TypeId → Option (List K)) (n : Nat) (fs : List Field) : Option (List K) := fs.foldr (fun x acc => match f n x.type, acc with | some a, some b => some (a ++ b) | _, _ => none) (some [])

theorem kindsF_mono : ∀ (n : Nat) {t : TypeId} {l : List K}, kindsF P n t = some l → kindsF P (n + 1) t = some l
  | 0, t, l, h => by simp [kindsF] at h
  | n + 1, t, l, h => by
    unfold kindsF at h ⊢
    split at h
    · exact h
    · exact h
    · exact h
    · exact h
    · rename_i fs _
      generalize fs.toList = fs at h
      induction fs generalizing l with
      | nil => exact h
      | cons x fs ih =>
        simp only [List.foldr_cons] at h ⊢
        split at h
        · rename_i a b ha hb
          rw [kindsF_mono n ha, ih _ hb]
          exact h
        · cases h
    · rename_i m e _
      obtain ⟨l', h1, h2⟩ := Option.map_eq_some_iff.1 h
      rw [kindsF_mono n h1, Option.map_some, h2]
    · cases h

theorem kinds_cells {t : TypeId} {ks : List K} (h : kinds P t = some ks) : kindsF P 8 t = some ks ∧ P.cellsOf t = ks.length := by
  unfold kinds at h
  split at h
  · rename_i l i h1 h2
    split at h
    · rename_i he
      cases h
      refine ⟨h1, ?_⟩
      simp only [Program.cellsOf, h2, Option.map_some, Option.getD_some]
      simpa using he
    · cases h
  · cases h

theorem mapM_get {α β : Type} {f : α → Option β} : ∀ {l : List α} {r : List β}, l.mapM f = some r → ∀ {i : Nat} {x : α}, l[i]? = some x → ∃ y, r[i]? = some y ∧ f x = some y
  | [], r, h, i, x, hx => by simp at hx
  | y :: l, r, h, i, x, hx => by
    simp only [List.mapM_cons, Option.bind_eq_bind, Option.bind_eq_some_iff, Option.pure_def, Option.some.injEq] at h
    obtain ⟨z, h1, r', h2, rfl⟩ := h
    cases i with
    | zero =>
      simp only [List.getElem?_cons_zero, Option.some.injEq] at hx
      subst hx
      exact ⟨z, rfl, h1⟩
    | succ i => exact mapM_get h2 (by simpa using hx)

theorem heap_of_cell {a : Addr} {v : Value} (h : w.cell? a = some v) : a.block < w.heap.size ∧ a.spot = none := by
  unfold World.cell? at h
  split at h
  · rename_i c _ _ hb
    refine ⟨(Array.getElem?_eq_some_iff.1 hb).1, ?_⟩
    split at h
    · cases h
    · rename_i hs
      cases hsp : a.spot with
      | none => rfl
      | some x => rw [hsp] at hs; simp at hs
  · cases h

theorem mapM_size {α β : Type} {f : α → Option β} : ∀ {l : List α} {r : List β}, l.mapM f = some r → r.length = l.length
  | [], r, h => by simp at h; subst h; rfl
  | y :: l, r, h => by
    simp only [List.mapM_cons, Option.bind_eq_bind, Option.bind_eq_some_iff, Option.pure_def, Option.some.injEq] at h
    obtain ⟨z, h1, r', h2, rfl⟩ := h
    simp [mapM_size h2]

theorem cells_get {base : Nat} {a : Addr} {n : Nat} {cs : List Value} (h : w.cells? base a n = some cs) {j : Nat} {v : Value} (hj : cs[j]? = some v) : w.cell? (a.add j) = some v := by
  unfold World.cells? at h
  split at h
  · have hlen : cs.length = n := by have := mapM_size h; simpa using this
    have hjn : j < n := by rw [← hlen]; exact (List.getElem?_eq_some_iff.1 hj).1
    obtain ⟨y, h1, h2⟩ := mapM_get h (i := j) (x := j) (by rw [List.getElem?_range hjn])
    rw [hj] at h1
    cases h1
    exact h2
  · cases h

theorem add_eq {a : Addr} (h : a.spot = none) (n : Nat) : a.add n = ⟨a.block, a.off + n, none⟩ := by
  unfold Addr.add
  split
  · rename_i e; subst e; cases a; simp_all
  · rfl

section
variable {H : Type} {enc : TypeId × Value → H} {spare : Nat → Bool} {held : Bool}

theorem trod_fields {fuel : Nat} {ok : TypeId → Bool} (ih : ∀ {t : TypeId} {cs : List Value} {d : DataW H} {ps : List MemPlace} {ks : List K}, DataW.trod enc P w 0 spare held fuel t cs = some (d, ps) → ok t = true → kinds P t = some ks → ∃ ds, RdL P w (fun b => b < w.heap.size) ks cs ds) {cs : List Value} {m : Nat} :
    ∀ {fs : List Field} {off : Nat} {ks : List K} {xs : List (DataW H × List MemPlace)}, okFields ok P fs off = true → catK (kindsF P) m fs = some ks → m < 8 → cs.length = off + ks.length →
      fs.mapM (fun f => DataW.trod enc P w 0 spare held fuel f.type ((cs.drop f.offset).take (P.cellsOf f.type))) = some xs → ∃ ds, RdL P w (fun b => b < w.heap.size) ks (cs.drop off) ds
  | [], off, ks, xs, _, hk, _, hl, _ => by
    simp only [catK, List.foldr_nil, Option.some.injEq] at hk
    subst hk
    refine ⟨[], ?_⟩
    rw [List.drop_of_length_le (by simpa using Nat.le_of_eq hl)]
    trivial
  | f :: fs, off, ks, xs, hok, hk, hm, hl, hx => by
    simp only [okFields] at hok
    split at hok
    · rename_i kf hkf
      simp only [Bool.and_eq_true, beq_iff_eq] at hok
      obtain ⟨⟨hoff, hokf⟩, hokr⟩ := hok
      simp only [catK, List.foldr_cons] at hk
      split at hk
      · rename_i a b ha hb
        cases hk
        obtain ⟨h8, hsz⟩ := kinds_cells hkf
        have haf : a = kf := by
          have up : ∀ (d n : Nat), kindsF P n f.type = some a → kindsF P (n + d) f.type = some a := by
            intro d
            induction d with
            | zero => intro n h; exact h
            | succ d ihd => intro n h; exact kindsF_mono _ (ihd n h)
          have := up (8 - m) m ha
          rw [show m + (8 - m) = 8 by omega, h8] at this
          exact (Option.some.inj this).symm
        subst haf
        simp only [List.mapM_cons, Option.bind_eq_bind, Option.bind_eq_some_iff, Option.pure_def, Option.some.injEq] at hx
        obtain ⟨x, hx1, xs', hx2, rfl⟩ := hx
        obtain ⟨d1, h1⟩ := ih (d := x.1) (ps := x.2) hx1 hokf hkf
        obtain ⟨d2, h2⟩ := trod_fields ih (fs := fs) (off := off + a.length) hokr hb hm (by simp at hl; omega) hx2
        rw [hoff, hsz] at h1
        refine ⟨d1 ++ d2, ?_⟩
        have : cs.drop off = (cs.drop off).take a.length ++ cs.drop (off + a.length) := by
          rw [← List.drop_drop]; exact (List.take_append_drop _ _).symm
        rw [this]
        exact h1.append h2
      · cases hk
    · cases hok

theorem trod_read : ∀ (fuel n : Nat) {t : TypeId} {cs : List Value} {d : DataW H} {ps : List MemPlace} {ks : List K}, DataW.trod enc P w 0 spare held fuel t cs = some (d, ps) → okTy P n t = true → kinds P t = some ks →
    ∃ ds, RdL P w (fun b => b < w.heap.size) ks cs ds
  | 0, n, t, cs, d, ps, ks, h, _, _ => by simp [DataW.trod] at h
  | fuel + 1, 0, t, cs, d, ps, ks, _, ho, _ => by simp [okTy] at ho
  | fuel + 1, n + 1, t, cs, d, ps, ks, h, ho, hk => by
    obtain ⟨h8, hsz⟩ := kinds_cells hk
    unfold okTy at ho
    unfold kindsF at h8
    unfold DataW.trod at h
    split at ho
    · rename_i k hu
      simp only [hu] at h h8
      cases h8
      match cs, h with
      | [.int k' x], h =>
        simp only at h
        split at h
        · rename_i hc
          obtain ⟨rfl, hwf⟩ := hc
          exact ⟨[.int x], ⟨⟨k', rfl, rfl, by simpa [Lit.wf] using hwf⟩, trivial⟩⟩
        · cases h
    · rename_i hu
      simp only [hu] at h h8
      cases h8
      match cs, h with
      | [.bool b], h => exact ⟨[.bool b], ⟨⟨rfl, rfl⟩, trivial⟩⟩
    · rename_i hu
      simp only [hu] at h h8
      cases h8
      match cs, h with
      | [.string b], h => exact ⟨[.str b], ⟨⟨rfl, rfl⟩, trivial⟩⟩
    · rename_i e hu
      simp only [hu] at h h8
      cases h8
      simp only [Bool.and_eq_true] at ho
      obtain ⟨hks, hoe⟩ := ho
      obtain ⟨ke, hke⟩ := Option.isSome_iff_exists.1 hks
      have hce := (kinds_cells hke).2
      match cs, h with
      | [.slice none 0 0], _ => exact ⟨[.sl 0 fun _ _ => .int 0], ⟨⟨e, none, 0, rfl, rfl, Nat.le_refl _, Nat.zero_le _, fun _ => rfl, fun ks i j kk _ hi => absurd hi (Nat.not_lt_zero _)⟩, trivial⟩⟩
      | [.slice (some a) len cap], h =>
        simp only at h
        split at h
        · rename_i hc
          obtain ⟨elems, he, _⟩ := Option.bind_eq_some_iff.1 h
          have hall : ∀ i, i < len → ∃ dsi csi, w.cells? 0 (a.add (i * P.cellsOf e)) (P.cellsOf e) = some csi ∧ RdL P w (fun b => b < w.heap.size) ke csi dsi := fun i hi => by
            obtain ⟨y, _, hy⟩ := mapM_get he (i := i) (x := i) (by rw [List.getElem?_range hi])
            obtain ⟨csi, h1, h2⟩ := Option.bind_eq_some_iff.1 hy
            obtain ⟨dsi, h3⟩ := trod_read fuel n (d := y.1) (ps := y.2) h2 hoe hke
            exact ⟨dsi, csi, h1, h3⟩
          have hspot : 0 < len → 0 < ke.length → a.spot = none := fun h0 h1 => by
            obtain ⟨dsi, csi, g1, g2⟩ := hall 0 h0
            have hl := g2.length.1
            obtain ⟨v, hv⟩ : ∃ v, csi[0]? = some v := ⟨csi[0]'(by omega), List.getElem?_eq_getElem _⟩
            have := cells_get g1 hv
            rw [Nat.zero_mul] at this
            have h0 : (a.add 0).add 0 = a := by simp [Addr.add]
            rw [h0] at this
            exact (heap_of_cell this).2
          let F : Nat → List D := fun i => if hi : i < len then Classical.choose (hall i hi) else []
          refine ⟨[.sl len fun i j => (F i).getD j (.int 0)], ⟨⟨e, some a, cap, rfl, rfl, hc.2.1, hc.2.2, (fun hn => by cases hn), fun ks i j kk hks' hi hj => ?_⟩, trivial⟩⟩
          rw [hke] at hks'
          cases hks'
          obtain ⟨csi, g1, g2⟩ := Classical.choose_spec (hall i hi)
          obtain ⟨v, hv, hrd⟩ := g2.get hj
          have hcell := cells_get g1 hv
          have hjl : j < ke.length := (List.getElem?_eq_some_iff.1 hj).1
          have hs := hspot (by omega) (by omega)
          rw [hce, add_eq hs, add_eq rfl] at hcell
          refine ⟨a, v, rfl, hs, (heap_of_cell hcell).1, ?_, ?_⟩
          · rw [Nat.add_assoc] at hcell
            exact hcell
          · show Rd P w _ ((F i).getD j (.int 0)) kk v
            simp only [F, dif_pos hi]
            exact hrd
        · cases h
    · rename_i fs hu
      simp only [hu] at h h8
      split at h
      · rename_i hlen
        obtain ⟨xs, hx, _⟩ := Option.map_eq_some_iff.1 h
        obtain ⟨ds, hd⟩ := trod_fields (ok := okTy P n) (fun h1 h2 h3 => trod_read fuel n h1 h2 h3) (off := 0) ho h8 (by omega) (by rw [hlen, hsz]; omega) hx
        exact ⟨ds, by simpa using hd⟩
      · cases h
    · rename_i m e hu
      simp only [hu] at h h8
      simp only [Bool.and_eq_true] at ho
      obtain ⟨hks, hoe⟩ := ho
      obtain ⟨ke, hke⟩ := Option.isSome_iff_exists.1 hks
      have hce := (kinds_cells hke).2
      obtain ⟨l, hl, rfl⟩ := Option.map_eq_some_iff.1 h8
      have hle : l = ke := by
        have := kindsF_mono 7 hl
        rw [(kinds_cells hke).1] at this
        exact (Option.some.inj this).symm
      subst hle
      split at h
      · rename_i hlen
        obtain ⟨xs, hx, _⟩ := Option.map_eq_some_iff.1 h
        have key : ∀ q : Nat, q ≤ m → ∃ ds, RdL P w (fun b => b < w.heap.size) (List.replicate q l).flatten (cs.take (q * l.length)) ds := by
          intro q
          induction q with
          | zero => intro _; exact ⟨[], by simp [RdL]⟩
          | succ q ih =>
            intro hq
            obtain ⟨d1, h1⟩ := ih (by omega)
            obtain ⟨y, _, hy⟩ := mapM_get hx (i := q) (x := q) (by rw [List.getElem?_range (by omega)])
            obtain ⟨d2, h2⟩ := trod_read fuel n (d := y.1) (ps := y.2) hy hoe hke
            rw [hce] at h2
            refine ⟨d1 ++ d2, ?_⟩
            have e1 : (List.replicate (q + 1) l).flatten = (List.replicate q l).flatten ++ l := by
              rw [List.replicate_succ', List.flatten_append]; simp
            have e2 : cs.take ((q + 1) * l.length) = cs.take (q * l.length) ++ (cs.drop (q * l.length)).take l.length := by
              rw [Nat.succ_mul, List.take_add]
            rw [e1, e2]
            exact h1.append h2
        obtain ⟨ds, hd⟩ := key m (Nat.le_refl _)
        refine ⟨ds, ?_⟩
        have : cs.take (m * l.length) = cs := by
          apply List.take_of_length_le
          rw [hlen, hsz]
          simp
        rwa [this] at hd
      · cases h
    · cases ho
end

end Go.Sx
