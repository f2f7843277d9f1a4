/-
  The operations of the symbolic executor that neither write nor make memory are sound: what it says of them the model's run bears out. Conditions: the symbolic state relates to the model's.
-/
import Derived.Test.YtlhjljekeobplaaSx3
namespace Go.Sx
open Go.RowKit (Below)

variable {T : FuncId → Pred} {P : Program} {R : Nat → Prop} {bl : List Nat} {vs : List Value} {w : World}

theorem wrap_in (k : IntKind) (x : Int) : k.min ≤ k.wrap x ∧ k.wrap x ≤ k.max := by
  cases k <;> simp [IntKind.wrap, IntKind.min, IntKind.max, IntKind.bits, IntKind.signed] <;> (try split) <;> omega

theorem wrap_id (k : IntKind) (x : Int) (h : k.min ≤ x ∧ x ≤ k.max) : k.wrap x = x := by
  cases k <;> simp [IntKind.wrap, IntKind.min, IntKind.max, IntKind.bits, IntKind.signed] at * <;> (try split) <;> omega

theorem ofConCell_sound (v : Value) : SVR (T := T) bl vs (ofConCell v) v := by
  unfold ofConCell
  split
  · split
    · rename_i h; exact ⟨rfl, h.1, h.2⟩
    · trivial
  · rfl
  · rfl
  · trivial
  · trivial
  · rfl

theorem ofConCells_sound : ∀ l : List Value, SVRs (T := T) bl vs (l.map ofConCell) l
  | [] => trivial
  | v :: l => ⟨ofConCell_sound v, ofConCells_sound l⟩

theorem ofCon_sound (v : Value) : SVR (T := T) bl vs (ofCon v) v := by
  unfold ofCon
  split
  · exact ⟨_, rfl, ofConCells_sound _⟩
  · rename_i us
    split
    · rename_i h
      have : us = #[] := by simpa using h
      subst this; rfl
    · trivial
  · exact ofConCell_sound v

theorem ev_sound {st : St (sem T)} {a : Act} (ht : TR bl vs st.tmps a) (x : Operand) : SVR bl vs (st.ev x) (a.eval x) := by
  cases x with
  | tmp t =>
    simp only [St.ev, Act.eval]
    rw [List.getD_eq_getElem?_getD, Array.getD_eq_getD_getElem?]
    cases h : st.tmps[t]? with
    | none => exact trivial
    | some s =>
      obtain ⟨y, hy, hh⟩ := ht.2.get h
      simp only [Array.getElem?_toList] at hy
      simp only [hy, Option.getD_some]; exact hh
  | const v => exact ofCon_sound v
  | global g => trivial
  | func f => exact ⟨#[], rfl, trivial⟩

/-- What soundness says of one operation. -/
def PureOk (T : FuncId → Pred) (P : Program) (bl : List Nat) (vs : List Value) (w : World) (a : Act) (o : Oper) (p : Pu (sem T)) : Prop :=
  ∃ v, (execOp a.eval o).run P w = .ok (.value v) w ∧ SVR bl vs p.v v ∧ ∀ q ∈ p.gs, q

theorem ok_eq {v : SV (sem T)} {p : Pu (sem T)} (h : ok v = some p) : p = ⟨[], v, []⟩ := by
  simp only [ok, Option.some.injEq] at h; exact h.symm

theorem intOp_sound {wr : Bool} {op : BinOp} {k : IntKind} {x y : Int} {t : TypeId} {p : Pu (sem T)} (h : intOp (A := sem T) wr op k x y = some p) (hn : ∀ q ∈ p.ns, q)
    (_hx : k.min ≤ x ∧ x ≤ k.max) :
    ∃ v, (binOp op t (.int k x) (.int k y)).run P w = .ok v w ∧ SVR bl vs p.v v ∧ p.gs = [] := by
  unfold intOp at h
  cases op <;> simp only at h
  case add =>
    split at h
    · cases h
      simp only [List.mem_singleton, forall_eq, sem, arithS] at hn
      refine ⟨.int k (x + y), ?_, ⟨rfl, hn.1, hn.2⟩, rfl⟩
      simp [binOp, Op.intArith, wrap_id k _ hn]
    · cases ok_eq h
      exact ⟨.int k (k.wrap (x + y)), by simp [binOp, Op.intArith], ⟨rfl, (wrap_in k _).1, (wrap_in k _).2⟩, rfl⟩
  case sub =>
    split at h
    · cases h
      simp only [List.mem_singleton, forall_eq, sem, arithS] at hn
      refine ⟨.int k (x - y), ?_, ⟨rfl, hn.1, hn.2⟩, rfl⟩
      simp [binOp, Op.intArith, wrap_id k _ hn]
    · cases ok_eq h
      exact ⟨.int k (k.wrap (x - y)), by simp [binOp, Op.intArith], ⟨rfl, (wrap_in k _).1, (wrap_in k _).2⟩, rfl⟩
  case mul =>
    split at h
    · cases h
      simp only [List.mem_singleton, forall_eq, sem, arithS] at hn
      refine ⟨.int k (x * y), ?_, ⟨rfl, hn.1, hn.2⟩, rfl⟩
      simp [binOp, Op.intArith, wrap_id k _ hn]
    · cases ok_eq h
      exact ⟨.int k (k.wrap (x * y)), by simp [binOp, Op.intArith], ⟨rfl, (wrap_in k _).1, (wrap_in k _).2⟩, rfl⟩
  case quo =>
    split at h
    · cases h
      simp only [List.mem_cons, List.not_mem_nil, or_false, forall_eq_or_imp, forall_eq, sem, arithS] at hn
      obtain ⟨h0, hn⟩ := hn
      refine ⟨.int k (x.tdiv y), ?_, ⟨rfl, hn.1, hn.2⟩, rfl⟩
      simp [binOp, Op.intDiv, h0, wrap_id k _ hn]
    · cases h
      simp only [List.mem_singleton, forall_eq, sem] at hn
      exact ⟨.int k (k.wrap (x.tdiv y)), by simp [binOp, Op.intDiv, hn], ⟨rfl, (wrap_in k _).1, (wrap_in k _).2⟩, rfl⟩
  case rem =>
    split at h <;>
    · cases h
      simp only [List.mem_cons, List.not_mem_nil, or_false, forall_eq_or_imp, forall_eq, sem, arithS] at hn
      obtain ⟨h0, hn⟩ := hn
      refine ⟨.int k (x.tmod y), ?_, ⟨rfl, hn.1, hn.2⟩, rfl⟩
      simp [binOp, Op.intDiv, h0]
  case and => cases ok_eq h; exact ⟨.int k (k.wrap (arithS .and k x y)), by simp only [binOp, Op.intBits, ne_eq, not_true_eq_false, if_false]; rfl, ⟨rfl, (wrap_in k _).1, (wrap_in k _).2⟩, rfl⟩
  case or => cases ok_eq h; exact ⟨.int k (k.wrap (arithS .or k x y)), by simp only [binOp, Op.intBits, ne_eq, not_true_eq_false, if_false]; rfl, ⟨rfl, (wrap_in k _).1, (wrap_in k _).2⟩, rfl⟩
  case xor => cases ok_eq h; exact ⟨.int k (k.wrap (arithS .xor k x y)), by simp only [binOp, Op.intBits, ne_eq, not_true_eq_false, if_false]; rfl, ⟨rfl, (wrap_in k _).1, (wrap_in k _).2⟩, rfl⟩
  case andNot => cases ok_eq h; exact ⟨.int k (k.wrap (arithS .andNot k x y)), by simp only [binOp, Op.intBits, ne_eq, not_true_eq_false, if_false]; rfl, ⟨rfl, (wrap_in k _).1, (wrap_in k _).2⟩, rfl⟩
  case eql => cases ok_eq h; exact ⟨.bool (cmpS .eql x y).b, by simp [binOp, Op.intCmp, cmpS, PB.b] <;> first | rfl | (by_cases hxy : x = y <;> simp [hxy]), rfl, rfl⟩
  case neq => cases ok_eq h; exact ⟨.bool (cmpS .neq x y).b, by simp [binOp, Op.intCmp, cmpS, PB.b] <;> first | rfl | (by_cases hxy : x = y <;> simp [hxy]), rfl, rfl⟩
  case lss => cases ok_eq h; exact ⟨.bool (cmpS .lss x y).b, by simp [binOp, Op.intCmp, cmpS, PB.b] <;> first | rfl | (by_cases hxy : x = y <;> simp [hxy]), rfl, rfl⟩
  case leq => cases ok_eq h; exact ⟨.bool (cmpS .leq x y).b, by simp [binOp, Op.intCmp, cmpS, PB.b] <;> first | rfl | (by_cases hxy : x = y <;> simp [hxy]), rfl, rfl⟩
  case gtr => cases ok_eq h; exact ⟨.bool (cmpS .gtr x y).b, by simp [binOp, Op.intCmp, cmpS, PB.b] <;> first | rfl | (by_cases hxy : x = y <;> simp [hxy]), rfl, rfl⟩
  case geq => cases ok_eq h; exact ⟨.bool (cmpS .geq x y).b, by simp [binOp, Op.intCmp, cmpS, PB.b] <;> first | rfl | (by_cases hxy : x = y <;> simp [hxy]), rfl, rfl⟩
  all_goals cases h

theorem shiftOp_sound {op : BinOp} {k yk : IntKind} {x y : Int} {t : TypeId} {p : Pu (sem T)} (h : shiftOp (A := sem T) op k x y = some p) (hn : ∀ q ∈ p.ns, q) :
    ∃ v, (binOp op t (.int k x) (.int yk y)).run P w = .ok v w ∧ SVR bl vs p.v v ∧ p.gs = [] := by
  unfold shiftOp at h
  cases op <;> simp only at h
  case shl =>
    cases h
    simp only [List.mem_singleton, forall_eq, sem] at hn
    refine ⟨_, ?_, ⟨rfl, (wrap_in k _).1, (wrap_in k _).2⟩, rfl⟩
    simp only [binOp, Op.shift, show ¬ y < 0 by omega, if_false, Sem.run_pure]; rfl
  case shr =>
    cases h
    simp only [List.mem_cons, List.not_mem_nil, or_false, forall_eq_or_imp, forall_eq, sem, arithS] at hn
    obtain ⟨h0, hn⟩ := hn
    refine ⟨_, ?_, ⟨rfl, hn.1, hn.2⟩, rfl⟩
    simp only [binOp, Op.shift, show ¬ y < 0 by omega, if_false, Sem.run_pure]; rfl
  all_goals cases h

theorem eqCell_inv {x y : SV (sem T)} {b : PB} (h : eqCell x y = some b) {u v : Value} (hu : SVR bl vs x u) (hv : SVR bl vs y v) :
    ∃ k m n, u = .int k m ∧ v = .int k n ∧ b = ⟨m = n, inferInstance⟩ := by
  unfold eqCell at h
  split at h
  · split at h
    · rename_i k x k' y hk
      have : k = k' := by simpa using hk
      subst this
      cases h
      exact ⟨k, x, y, hu.1, hv.1, rfl⟩
    · cases h
  · cases h

theorem eqCells_sound : ∀ {xs ys : List (SV (sem T))} {b : PB}, eqCells xs ys = some b → ∀ {us us' : List Value}, SVRs bl vs xs us → SVRs bl vs ys us' →
    us.length = us'.length ∧ (∀ u v, (u, v) ∈ us.zip us' → ∃ k m n, u = .int k m ∧ v = .int k n) ∧
    (b.p ↔ ∀ u v, (u, v) ∈ us.zip us' → u = v)
  | [], [], b, h, us, us', h1, h2 => by
    cases us with
    | nil => cases us' with
      | nil => simp only [eqCells, sem, Option.some.injEq] at h; subst h; simp
      | cons => exact h2.elim
    | cons => exact h1.elim
  | [x], [y], b, h, us, us', h1, h2 => by
    match us, us', h1, h2 with
    | [u], [v], h1, h2 =>
      obtain ⟨k, m, n, rfl, rfl, rfl⟩ := eqCell_inv (by simpa [eqCells] using h) h1.1 h2.1
      refine ⟨rfl, ?_, ?_⟩
      · intro a c hac; simp at hac; exact ⟨k, m, n, hac.1, hac.2⟩
      · simp
    | [], _, h1, _ => exact h1.elim
    | _, [], _, h2 => exact h2.elim
    | _ :: _ :: _, _, h1, _ => exact h1.2.elim
    | _, _ :: _ :: _, _, h2 => exact h2.2.elim
  | x :: x' :: xs, y :: ys, b, h, us, us', h1, h2 => by
    match us, us', h1, h2 with
    | u :: us, v :: us', h1, h2 =>
      simp only [eqCells] at h
      split at h
      · rename_i b1 c1 hb hc
        cases h
        obtain ⟨k, m, n, rfl, rfl, rfl⟩ := eqCell_inv hb h1.1 h2.1
        obtain ⟨hl, ha, hp⟩ := eqCells_sound hc h1.2 h2.2
        refine ⟨by simp [hl], ?_, ?_⟩
        · intro a c hac
          simp only [List.zip_cons_cons, List.mem_cons, Prod.mk.injEq] at hac
          rcases hac with ⟨rfl, rfl⟩ | hac
          · exact ⟨k, m, n, rfl, rfl⟩
          · exact ha _ _ hac
        · simp only [List.zip_cons_cons, List.mem_cons, Prod.mk.injEq]
          rw [hp]
          constructor
          · rintro ⟨hmn, hrest⟩ a c (⟨rfl, rfl⟩ | hac)
            · rw [hmn]
            · exact hrest _ _ hac
          · intro hall
            refine ⟨?_, fun a c hac => hall _ _ (.inr hac)⟩
            have := hall _ _ (.inl ⟨rfl, rfl⟩)
            simpa using this
      · cases h
    | [], _, h1, _ => exact h1.elim
    | _, [], _, h2 => exact h2.elim
  | [], _ :: _, b, h, _, _, _, _ => by simp [eqCells] at h
  | _ :: _, [], b, h, _, _, _, _ => by simp [eqCells] at h
  | [x], y :: y' :: ys, b, h, us, us', h1, h2 => by
    simp only [eqCells] at h
    split at h
    · rename_i hb hc; simp at hc
    · cases h

section
variable {st : St (sem T)} {a : Act} {o : Oper} {p : Pu (sem T)}

theorem pok {v : Value} {sv : SV (sem T)} (hr : (execOp a.eval o).run P w = .ok (.value v) w) (hs : SVR bl vs sv v) (h : ok sv = some p) : PureOk T P bl vs w a o p := by
  cases ok_eq h
  exact ⟨v, hr, hs, by simp⟩

theorem pure_move (ht : TR bl vs st.tmps a) {x : Operand} (ho : o.op = .move x ∨ o.op = .assign x)
    (h : pMove st x = some p) : PureOk T P bl vs w a o p := by
  unfold pMove at h
  have he := ev_sound ht x
  have hr : (execOp a.eval o).run P w = .ok (.value (a.eval x)) w := by
    rcases ho with ho | ho <;> simp [execOp, ho]
  split at h
  · cases h
  · exact pok hr he h

theorem pure_pick (ht : TR bl vs st.tmps a) {c x y : Operand} (ho : o.op = .pick c x y)
    (h : pPick st c x y = some p) : PureOk T P bl vs w a o p := by
  unfold pPick at h
  have hc := ev_sound ht c
  have hx := ev_sound ht x
  have hy := ev_sound ht y
  split at h
  · rename_i hcc
    rw [hcc] at hc
    have hc' : a.eval c = .bool true := hc
    split at h
    · cases h
    · exact pok (by simp [execOp, ho, hc', asBool]) hx h
  · rename_i hcc
    rw [hcc] at hc
    have hc' : a.eval c = .bool false := hc
    split at h
    · cases h
    · exact pok (by simp [execOp, ho, hc', asBool]) hy h
  · cases h

theorem fieldOff_inv {t : TypeId} {f off : Nat} {ft : TypeId} (h : fieldOff P t f = some (off, ft)) :
    ∃ fs fd i, P.underlying t = some (.struct fs) ∧ fs[f]? = some fd ∧ fd.offset = off ∧ fd.type = ft ∧ P.info? ft = some i ∧ i.size ≠ 0 := by
  unfold fieldOff at h
  split at h
  · rename_i fs hu
    split at h
    · rename_i fd hf
      split at h
      · rename_i n hs
        split at h
        · cases h
        · rename_i hn
          cases h
          unfold sizeT at hs
          obtain ⟨i, hi, rfl⟩ := Option.map_eq_some_iff.1 hs
          exact ⟨fs, fd, i, hu, hf, rfl, rfl, hi, by simpa using hn⟩
      · cases h
    · cases h
  · cases h

theorem run_sizeOf' {t : TypeId} {i : TypeInfo} (hi : P.info? t = some i) : (sizeOf t).run P w = .ok i.size w := by simp [sizeOf, typeInfo, hi]

theorem run_fieldAt' {t : TypeId} {f off : Nat} {ft : TypeId} (h : fieldOff P t f = some (off, ft)) (b o' : Nat) :
    (Instr.fieldAt t (.pointer (some ⟨b, o', none⟩)) f).run P w = .ok (.pointer (some ⟨b, o' + off, none⟩)) w := by
  obtain ⟨fs, fd, i, hu, hf, rfl, rfl, hi, hn⟩ := fieldOff_inv h
  simp only [Instr.fieldAt, Sem.run_bind, run_underlying hu, Result.andThen_ok, hf, Instr.sureAddr, Sem.run_pure, fieldPlace, run_sizeOf' hi, Sem.run_ite, if_neg hn, Addr.add_lit]

theorem pure_fieldAddr (ht : TR bl vs st.tmps a) {t : TypeId} {x : Operand} {f : Nat} (ho : o.op = .fieldAddr t x f)
    (h : pFieldAddr P st t x f = some p) : PureOk T P bl vs w a o p := by
  unfold pFieldAddr at h
  have hx := ev_sound ht x
  split at h
  · rename_i off ft b o' hf hxx
    rw [hxx] at hx
    obtain ⟨b', hb, hv⟩ := hx
    refine pok (v := .pointer (some ⟨b', o' + off, none⟩)) (sv := .ptr b (o' + off)) ?_ ⟨b', hb, rfl⟩ h
    simp only [execOp, ho, hv, Sem.run_bind, run_fieldAt' hf, Result.andThen_ok, Sem.run_pure]
  · rename_i off ft id sz i o' hf hxx
    rw [hxx] at hx
    obtain ⟨ad, len, cap, h1, h2, h3, hv⟩ := hx
    refine pok (v := .pointer (some ⟨ad.block, ad.off + (Int.toNat i * sz + (o' + off)), none⟩)) (sv := .eptr id sz i (o' + off)) ?_ ⟨ad, len, cap, h1, h2, h3, rfl⟩ h
    simp only [execOp, ho, hv, Sem.run_bind, run_fieldAt' hf, Result.andThen_ok, Sem.run_pure]
    simp only [Nat.add_assoc]
  · cases h

theorem isAgg_run (t : TypeId) {d : TypeDesc} (hu : P.underlying t = some d) : (isAgg t).run P w = .ok (isAggT P t) w := by
  unfold isAgg isAggT
  simp only [Sem.run_bind, run_underlying hu, Result.andThen_ok, hu]
  cases d <;> rfl

theorem pack_inv {t : TypeId} {l : List (SV (sem T))} {v : SV (sem T)} (h : pack P t l = some v) :
    (isAggT P t = true ∧ v = .agg l) ∨ (isAggT P t = false ∧ l = [v]) := by
  unfold pack at h
  split at h
  · rename_i hp; cases h; exact .inl ⟨hp, rfl⟩
  · rename_i hp
    split at h
    · cases h; exact .inr ⟨by simpa using hp, rfl⟩
    · cases h

/-- A variable that is read: its cells are known. -/
theorem run_loadVar' {t : TypeId} {n : Nat} (hs : sizeT P t = some n) {b off : Nat} {vals : List Value} (hlen : vals.length = n)
    (hc : ∀ j u, vals[j]? = some u → w.cell? ⟨b, off + j, none⟩ = some u) {l : List (SV (sem T))} {v : SV (sem T)} (hp : pack P t l = some v) (hl : SVRs bl vs l vals)
    (hu : (P.underlying t).isSome = true) : ∃ u, (loadVar t ⟨b, off, none⟩).run P w = .ok u w ∧ SVR bl vs v u := by
  obtain ⟨d, hd⟩ := Option.isSome_iff_exists.1 hu
  unfold sizeT at hs
  obtain ⟨i, hi, rfl⟩ := Option.map_eq_some_iff.1 hs
  rcases pack_inv hp with ⟨ha, rfl⟩ | ⟨ha, rfl⟩
  · refine ⟨.agg vals.toArray, ?_, ⟨_, rfl, by simpa using hl⟩⟩
    have hr := run_loadCells_list (P := P) (w := w) ⟨b, off, none⟩ vals (fun j u hj => by rw [Addr.add_lit]; exact hc j u hj)
    rw [hlen] at hr
    simp only [loadVar, Sem.run_bind, isAgg_run t hd, Result.andThen_ok, ha, if_true, run_sizeOf' hi, hr, Sem.run_pure]
  · match vals, hl with
    | [u], hl =>
      refine ⟨u, ?_, hl.1⟩
      have := hc 0 u rfl
      simp only [Nat.add_zero] at this
      simp only [loadVar, Sem.run_bind, isAgg_run t hd, Result.andThen_ok, ha, Bool.false_eq_true, if_false, run_load, this]
    | [], hl => exact hl.elim
    | _ :: _ :: _, hl => exact hl.2.elim

theorem rg_den {b : Bool} {p : Prop} {t : Tree (sem T)} (h : (if b then Tree.given (A := sem T) p t else t).den) (hp : p) : t.den := by
  cases b with
  | false => exact h
  | true => exact h hp

theorem int_of_rd {s : Sl} {i : Int} {j : Nat} {k : IntKind} {u : Value} (h : Rd P w R (s.f i.toNat j) (.int k) u) : Rng k (Sl.int s i j) := by
  unfold Sl.int
  cases hd : s.f i.toNat j with
  | int n => rw [hd] at h; obtain ⟨ik, hk, hv, h3, h4⟩ := h; cases hk; exact ⟨h3, h4⟩
  | bool b => rw [hd] at h; exact absurd h.1 (by simp)
  | str b => rw [hd] at h; exact absurd h.1 (by simp)
  | sl n g => rw [hd] at h; obtain ⟨e, _, _, hk, _⟩ := h; cases hk

theorem ranged_of {e : TypeId} {s : Sl} (h : ∀ (ks : List K) (i j : Nat) (kk : K), kinds P e = some ks → i < s.n → ks[j]? = some kk → ∃ u, Rd P w R (s.f i j) kk u) : Ranged s (rks P e) := by
  intro i j k h0 h1 hj
  unfold rks at hj
  split at hj
  · rename_i ks hks
    rw [List.getElem?_map] at hj
    cases hkk : ks[j]? with
    | none => rw [hkk] at hj; cases hj
    | some kk =>
      rw [hkk] at hj
      cases kk with
      | int k' =>
        simp only [Option.map_some, Option.some.injEq] at hj
        subst hj
        obtain ⟨u, hu⟩ := h ks i.toNat j _ hks (by omega) hkk
        exact int_of_rd hu
      | _ => simp at hj
  · simp at hj

theorem ranged_rd {e : TypeId} {s : Sl} {v : Value} (h : Rd P w R (.sl s.n s.f) (.sl e) v) : Ranged s (rks P e) := by
  obtain ⟨e', a, cap, hk, _, _, _, _, hc⟩ := h
  cases hk
  exact ranged_of fun ks i j kk hks hi hj => by
    obtain ⟨_, u, _, _, _, _, hu⟩ := hc ks i j kk hks hi hj
    exact ⟨u, hu⟩

theorem elemCells_sound {rg : Bool} {s : Sl} {i : Int} {f : Nat → Value} : ∀ {ks : List K} {j : Nat} {l : List (SV (sem T))}, elemCells (A := sem T) s i ks j = some l →
    (∀ n kk, ks[n]? = some kk → Rd P w R (s.f i.toNat (j + n)) kk (f (j + n))) →
    SVRs bl vs l ((List.range' j ks.length).map f) ∧ ∀ q ∈ elemGivens (A := sem T) P rg s i ks j, q
  | [], j, l, h, _ => by simp only [elemCells, Option.some.injEq] at h; subst h; exact ⟨trivial, by simp [elemGivens]⟩
  | .int k :: ks, j, l, h, hf => by
    simp only [elemCells, Option.map_eq_some_iff] at h
    obtain ⟨l', hl', rfl⟩ := h
    obtain ⟨h1, h2⟩ := elemCells_sound hl' (fun n kk hn => by have := hf (n + 1) kk (by simpa using hn); rw [show j + 1 + n = j + (n + 1) by omega]; exact this)
    have h0 := hf 0 _ rfl
    simp only [Nat.add_zero] at h0
    have hd : s.f i.toNat j = .int (Sl.int s i j) ∧ f j = .int k (Sl.int s i j) ∧ k.min ≤ Sl.int s i j ∧ Sl.int s i j ≤ k.max := by
      unfold Sl.int
      cases hd : s.f i.toNat j with
      | int n => rw [hd] at h0; obtain ⟨ik, hk, hv, h3, h4⟩ := h0; cases hk; exact ⟨rfl, hv, h3, h4⟩
      | bool b => rw [hd] at h0; exact absurd h0.1 (by simp)
      | str b => rw [hd] at h0; exact absurd h0.1 (by simp)
      | sl n g => rw [hd] at h0; obtain ⟨e, _, _, hk, _⟩ := h0; cases hk
    refine ⟨?_, ?_⟩
    · simp only [List.length_cons, List.range'_succ, List.map_cons]
      exact ⟨⟨hd.2.1, hd.2.2⟩, h1⟩
    · intro q hq
      simp only [elemGivens, List.mem_cons] at hq
      rcases hq with hq | hq
      · rw [hq]; exact hd.2.2
      · exact h2 q hq
  | .bool :: ks, j, l, h, hf => by
    simp only [elemCells, Option.map_eq_some_iff] at h
    obtain ⟨l', hl', rfl⟩ := h
    obtain ⟨h1, h2⟩ := elemCells_sound hl' (fun n kk hn => by have := hf (n + 1) kk (by simpa using hn); rw [show j + 1 + n = j + (n + 1) by omega]; exact this)
    have h0 := hf 0 _ rfl
    simp only [Nat.add_zero] at h0
    have hd : f j = .bool (Sl.bool s i j) := by
      unfold Sl.bool
      cases hd : s.f i.toNat j with
      | int n => rw [hd] at h0; obtain ⟨ik, hk, _⟩ := h0; cases hk
      | bool b => rw [hd] at h0; exact h0.2
      | str b => rw [hd] at h0; exact absurd h0.1 (by simp)
      | sl n g => rw [hd] at h0; obtain ⟨e, _, _, hk, _⟩ := h0; cases hk
    refine ⟨?_, ?_⟩
    · simp only [List.length_cons, List.range'_succ, List.map_cons]
      refine ⟨?_, h1⟩
      rw [hd]; simp [SVR, PB.b]
    · intro q hq
      simp only [elemGivens] at hq
      exact h2 q hq
  | .str :: ks, j, l, h, hf => by
    simp only [elemCells, Option.map_eq_some_iff] at h
    obtain ⟨l', hl', rfl⟩ := h
    obtain ⟨h1, h2⟩ := elemCells_sound hl' (fun n kk hn => by have := hf (n + 1) kk (by simpa using hn); rw [show j + 1 + n = j + (n + 1) by omega]; exact this)
    have h0 := hf 0 _ rfl
    simp only [Nat.add_zero] at h0
    have hd : f j = .string (Sl.str s i j) := by
      unfold Sl.str
      cases hd : s.f i.toNat j with
      | int n => rw [hd] at h0; obtain ⟨ik, hk, _⟩ := h0; cases hk
      | bool b => rw [hd] at h0; exact absurd h0.1 (by simp)
      | str b => rw [hd] at h0; exact h0.2
      | sl n g => rw [hd] at h0; obtain ⟨e, _, _, hk, _⟩ := h0; cases hk
    refine ⟨?_, ?_⟩
    · simp only [List.length_cons, List.range'_succ, List.map_cons]
      exact ⟨hd, h1⟩
    · intro q hq
      simp only [elemGivens] at hq
      exact h2 q hq
  | .sl _ :: _, _, _, h, _ => by simp [elemCells] at h


theorem range'_get {s n j m : Nat} (h : (List.range' s n)[j]? = some m) : j < n ∧ m = s + j := by
  rcases Nat.lt_or_ge j n with hlt | hge
  · rw [List.getElem?_range' (by omega)] at h
    simp at h
    exact ⟨hlt, h.symm⟩
  · rw [List.getElem?_eq_none (by simp; omega)] at h
    cases h

theorem kindsF_under {n : Nat} {t : TypeId} {l : List K} (h : kindsF P n t = some l) : (P.underlying t).isSome = true := by
  cases n with
  | zero => simp [kindsF] at h
  | succ n =>
    unfold kindsF at h
    cases hu : P.underlying t with
    | none => simp [hu] at h
    | some d => rfl

theorem kinds_inv {t : TypeId} {l : List K} (h : kinds P t = some l) : ∃ i, P.info? t = some i ∧ i.size = l.length ∧ (P.underlying t).isSome = true := by
  unfold kinds at h
  split at h
  · rename_i l' i hk hi
    split at h
    · rename_i hs
      cases h
      exact ⟨i, hi, by simpa using hs, kindsF_under hk⟩
    · cases h
  · cases h

theorem pure_load (hl : Look P R bl vs st.boxes st.ents w) (ht : TR bl vs st.tmps a) {t : TypeId} {x : Operand} (ho : o.op = .load t x)
    (h : pLoad P st t x = some p) : PureOk T P bl vs w a o p := by
  unfold pLoad at h
  split at h
  · cases h
  rename_i hu
  have hu : (P.underlying t).isSome = true := by
    cases hh : P.underlying t with
    | none => simp [hh] at hu
    | some d => rfl
  have hx := ev_sound ht x
  split at h
  · rename_i b off n hxx hs
    rw [hxx] at hx
    obtain ⟨b', hb, hv⟩ := hx
    split at h
    · rename_i bx hbx
      split at h
      · rename_i hc
        simp only [Bool.and_eq_true, decide_eq_true_eq] at hc
        obtain ⟨⟨hlive, hoff⟩, _⟩ := hc
        obtain ⟨sv, hp, hok⟩ := Option.bind_eq_some_iff.1 h
        obtain ⟨b2, cs, hb2, hcs, hr⟩ := hl.box b bx hbx hlive
        rw [hb] at hb2; cases hb2
        have hlen := hr.length
        obtain ⟨u, hrun, hsv⟩ := run_loadVar' (P := P) (w := w) (bl := bl) (vs := vs) hs (b := b') (off := off) (vals := (cs.toList.drop off).take n) (by simp; simp at hlen; omega) (fun j u hj => by
          simp only [World.cell?, hcs]
          have : cs[off + j]? = some u := by
            rw [List.getElem?_take] at hj
            split at hj
            · rw [List.getElem?_drop] at hj; simpa using hj
            · cases hj
          simpa using this) hp ((hr.drop off).take n) hu
        refine pok (v := u) ?_ hsv hok
        simp only [execOp, ho, hv, Instr.loadAt, Instr.sureAddr, Sem.run_bind, Sem.run_pure, Result.andThen_ok, hrun]
      · cases h
    · cases h
  · rename_i id sz i off ksT n hxx hkT hs
    rw [hxx] at hx
    obtain ⟨i', rfl⟩ : ∃ i' : Int, i' = i := ⟨i, rfl⟩
    obtain ⟨ad, len, cap, h1, h2, ⟨h3, h4⟩, hv⟩ := hx
    split at h
    · rename_i en hen
      split at h
      · rename_i hlive
        split at h
        · rename_i ks hks
          split at h
          · rename_i hc
            simp only [Bool.and_eq_true, decide_eq_true_eq, beq_iff_eq] at hc
            obtain ⟨hoff, rfl⟩ := hc
            split at h
            · rename_i l hel
              split at h
              · rename_i sv hp
                cases h
                obtain ⟨v0, hv0, a0, cap0, he0, hn1, hn2, ha0, hcells⟩ := hl.ent id en hen hlive
                rw [h1] at hv0; cases hv0
                cases he0
                have hi : i'.toNat < en.s.n := by omega
                have hcell : ∀ j kk, ks[j]? = some kk → ∃ u, w.cell? ⟨ad.block, ad.off + (i'.toNat * ks.length + j), none⟩ = some u ∧ Rd P w R (en.s.f i'.toNat j) kk u := fun j kk hj => by
                  obtain ⟨ad', u, hA, hB, hC, hD⟩ := hcells ks i'.toNat j kk hks hi hj
                  cases hA
                  exact ⟨u, hC, hD⟩
                have hsound := elemCells_sound (rg := st.rg) (T := T) (P := P) (w := w) (R := R) (bl := bl) (vs := vs) (s := en.s) (i := i') (f := fun j => (w.cell? ⟨ad.block, ad.off + (i'.toNat * ks.length + j), none⟩).getD undef) hel (fun m kk hm => by
                  rw [List.getElem?_take] at hm
                  split at hm
                  · rw [List.getElem?_drop] at hm
                    obtain ⟨u, hu1, hu2⟩ := hcell (off + m) kk hm
                    simp only [hu1, Option.getD_some]; exact hu2
                  · cases hm)
                obtain ⟨u, hrun, hsv⟩ := run_loadVar' (P := P) (w := w) (bl := bl) (vs := vs) hs (b := ad.block) (off := ad.off + (i'.toNat * ks.length + off)) (vals := (List.range' off ((ks.drop off).take n).length).map fun j => (w.cell? ⟨ad.block, ad.off + (i'.toNat * ks.length + j), none⟩).getD undef) (by simp; omega) (fun j u hj => by
                  simp only [List.getElem?_map, Option.map_eq_some_iff] at hj
                  obtain ⟨m, hm, rfl⟩ := hj
                  obtain ⟨hlt, rfl⟩ := range'_get hm
                  simp only [List.length_take, List.length_drop] at hlt
                  obtain ⟨kk, hkk⟩ : ∃ kk, ks[off + j]? = some kk := ⟨ks[off + j]'(by omega), by simp⟩
                  obtain ⟨u, hu1, _⟩ := hcell (off + j) kk hkk
                  rw [show ad.off + (i'.toNat * ks.length + off) + j = ad.off + (i'.toNat * ks.length + (off + j)) by omega]
                  simp only [hu1, Option.getD_some]) hp hsound.1 hu
                refine ⟨u, ?_, hsv, hsound.2⟩
                simp only [execOp, ho, hv, Instr.loadAt, Instr.sureAddr, Sem.run_bind, Sem.run_pure, Result.andThen_ok, hrun]
              · cases h
            · cases h
          · cases h
        · cases h
      · cases h
    · cases h
  · cases h


theorem elem_inv {t e : TypeId} (h : elemOf? P t = some e) : P.underlying t = some (.slice e) := by
  unfold elemOf? at h
  split at h
  · rename_i e' hu; cases h; exact hu
  · cases h

theorem pure_indexAddr (hl : Look P R bl vs st.boxes st.ents w) (ht : TR bl vs st.tmps a) {t : TypeId} {x ix : Operand} (ho : o.op = .indexAddr t x ix)
    (h : pIndexAddr P st t x ix = some p) (hn : ∀ q ∈ p.ns, q) : PureOk T P bl vs w a o p := by
  unfold pIndexAddr at h
  have hx := ev_sound ht x
  have hix := ev_sound ht ix
  split at h
  · rename_i e id k i he hxx hii
    rw [hxx] at hx
    rw [hii] at hix
    split at h
    · rename_i en hen
      split at h
      · rename_i ks hks
        split at h
        · rename_i hc
          simp only [Bool.and_eq_true, beq_iff_eq, decide_eq_true_eq] at hc
          obtain ⟨⟨hlive, rfl⟩, hpos⟩ := hc
          obtain ⟨i', rfl⟩ : ∃ i' : Int, i' = i := ⟨i, rfl⟩
          cases h
          simp only [List.mem_cons, List.not_mem_nil, or_false, forall_eq_or_imp, forall_eq, sem] at hn
          obtain ⟨h0, h1⟩ := hn
          unfold Sl.len at h1
          obtain ⟨v0, hv0, a0, cap0, he0, hn1, hn2, ha0, hcells⟩ := hl.ent id en hen hlive
          have hx' : vs[id]? = some (a.eval x) := hx
          rw [hv0] at hx'
          have hxv : a.eval x = .slice a0 en.s.n cap0 := by rw [← Option.some.inj hx', he0]
          obtain ⟨ii, hinfo, hsz, hu⟩ := kinds_inv hks
          have hks0 : a0 = none ∨ ∃ ad, a0 = some ad := by cases a0 <;> simp
          rcases hks0 with rfl | ⟨ad, rfl⟩
          · have := ha0 rfl; omega
          · obtain ⟨kk, hkk⟩ : ∃ kk, ks[0]? = some kk := ⟨ks[0], by simp⟩
            obtain ⟨ad', u, hA, hspot, _⟩ := hcells ks 0 0 kk hks (by omega) hkk
            cases hA
            have hadd : ad.add (i'.toNat * ii.size) = ⟨ad.block, ad.off + (i'.toNat * ks.length + 0), none⟩ := by
              obtain ⟨bb, oo, ss⟩ := ad
              cases hspot
              rw [Addr.add_lit, hsz]; rfl
            refine ⟨.pointer (some ⟨ad.block, ad.off + (i'.toNat * ks.length + 0), none⟩), ?_, ?_, by simp⟩
            · simp only [execOp, ho, hxv, hix.1, Sem.run_bind, Instr.indexAt, asIntOf, Sem.run_pure, Result.andThen_ok, run_underlying (elem_inv he), Sem.run_ite, h0, h1, and_self, if_true, run_sizeOf' hinfo, hadd]
            · exact ⟨ad, en.s.n, cap0, by rw [hv0, he0], hspot, ⟨h0, h1⟩, rfl⟩
        · cases h
      · cases h
    · cases h
  · cases h

end

end Go.Sx
