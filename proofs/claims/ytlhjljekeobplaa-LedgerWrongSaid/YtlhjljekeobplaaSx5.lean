/-
  The remaining operations that neither write nor make memory, and all of them together. Conditions: the symbolic state relates to the model's.
-/
import Derived.Test.YtlhjljekeobplaaSx4
namespace Go.Sx
open Go.RowKit (Below)

variable {T : FuncId → Pred} {P : Program} {R : Nat → Prop} {bl : List Nat} {vs : List Value} {w : World}
variable {st : St (sem T)} {a : Act} {o : Oper} {p : Pu (sem T)}

theorem pure_nilCheck (ht : TR bl vs st.tmps a) {x : Operand} (ho : o.op = .nilCheck x)
    (h : pNil st x = some p) : PureOk T P bl vs w a o p := by
  unfold pNil at h
  have hx := ev_sound ht x
  split at h
  · rename_i b off hxx
    rw [hxx] at hx
    obtain ⟨b', hb, hv⟩ := hx
    exact pok (v := a.eval x) (sv := .ptr b off) (by simp [execOp, ho, hv]) ⟨b', hb, hv⟩ h
  · rename_i f caps hxx
    rw [hxx] at hx
    obtain ⟨cs, hv, hc⟩ := hx
    exact pok (v := a.eval x) (sv := .fn f caps) (by simp [execOp, ho, hv]) ⟨cs, hv, hc⟩ h
  · rename_i i hxx
    rw [hxx] at hx
    obtain ⟨b, hb, hv⟩ := hx
    exact pok (v := a.eval x) (sv := .yld i) (by simp [execOp, ho, hv]) ⟨b, hb, hv⟩ h
  · cases h

theorem part_int {cs : Array Value} {t : TypeId} {ik : IntKind} (hu : P.underlying t = some (.int ik)) {j : Nat} {u : Value} (hc : cs[j]? = some u) :
    (part t cs j).run P w = .ok u w := by
  simp only [part, isAgg, Sem.run_bind, run_underlying hu, Result.andThen_ok, Sem.run_pure, Bool.false_eq_true, if_false, hc]

theorem eqFields_plain : ∀ (fs : List Field) (j : Nat) (d : Nat) (us us' : List Value) (xs ys : Array Value),
    (fs.zipIdx j).all (fun (f, i) => f.name != "_" && f.offset == i && (match P.underlying f.type with | some (.int _) => true | _ => false)) = true →
    us.length = us'.length → us.length = fs.length → xs.toList.drop j = us → ys.toList.drop j = us' →
    (∀ u v, (u, v) ∈ us.zip us' → ∃ k m n, u = .int k m ∧ v = .int k n) →
    ∃ b, (Op.eqFields (d + 1) xs ys fs).run P w = .ok b w ∧ (b = true ↔ ∀ u v, (u, v) ∈ us.zip us' → u = v)
  | [], j, d, us, us', xs, ys, _, h1, h2, _, _, _ => by
    have : us = [] := List.eq_nil_of_length_eq_zero (by simpa using h2)
    subst this
    exact ⟨true, by simp [Op.eqFields], by simp⟩
  | f :: fs, j, d, us, us', xs, ys, hall, h1, h2, hx, hy, hint => by
    match us, us', h1, h2 with
    | u :: us, v :: us', h1, h2 =>
      simp only [List.zipIdx_cons, List.all_cons, Bool.and_eq_true, bne_iff_ne, ne_eq, beq_iff_eq] at hall
      obtain ⟨⟨⟨hname, hoff⟩, hty⟩, hrest⟩ := hall
      obtain ⟨ik, hu⟩ : ∃ ik, P.underlying f.type = some (.int ik) := by
        split at hty
        · rename_i ik hu; exact ⟨ik, hu⟩
        · cases hty
      obtain ⟨k, m, n, rfl, rfl⟩ := hint u v (by simp)
      have hxj : xs[j]? = some (.int k m) := by
        have := congrArg (·[0]?) hx
        simpa using this
      have hyj : ys[j]? = some (.int k n) := by
        have := congrArg (·[0]?) hy
        simpa using this
      have hx' : xs.toList.drop (j + 1) = us := by
        have := congrArg (List.drop 1) hx
        simpa [List.drop_drop, Nat.add_comm] using this
      have hy' : ys.toList.drop (j + 1) = us' := by
        have := congrArg (List.drop 1) hy
        simpa [List.drop_drop, Nat.add_comm] using this
      obtain ⟨b, hb, hbb⟩ := eqFields_plain fs (j + 1) d us us' xs ys hrest (by simpa using h1) (by simpa using h2) hx' hy' (fun u v huv => hint u v (by simp [huv]))
      simp only [Op.eqFields, hname, hoff, if_true, ne_eq, not_false_eq_true, Sem.run_bind, part_int hu hxj, part_int hu hyj, Result.andThen_ok, run_equalIn_int w d f.type k ik m n hu]
      by_cases hmn : m = n
      · subst hmn
        refine ⟨b, by simpa using hb, ?_⟩
        rw [hbb]
        simp only [List.zip_cons_cons, List.mem_cons, Prod.mk.injEq]
        constructor
        · rintro hh u v (⟨rfl, rfl⟩ | huv)
          · rfl
          · exact hh u v huv
        · intro hh u v huv
          exact hh u v (.inr huv)
      · refine ⟨false, by simp [hmn], ?_⟩
        simp only [Bool.false_eq_true, List.zip_cons_cons, List.mem_cons, Prod.mk.injEq, false_iff]
        intro hall
        have := hall (.int k m) (.int k n) (.inl ⟨rfl, rfl⟩)
        simp at this
        exact hmn this

theorem boolOp_sound {op : BinOp} {t t' : TypeId} {x y : Operand} (ho : o.op = .binOp op t x y t') {X Y : PB} (hx : a.eval x = .bool X.b) (hy : a.eval y = .bool Y.b)
    (h : boolOp (A := sem T) P op t X Y = some p) : PureOk T P bl vs w a o p := by
  have key : (X.b == Y.b) = @decide (X.p ↔ Y.p) (@instDecidableIff _ _ X.d Y.d) := by
    obtain ⟨xp, xd⟩ := X
    obtain ⟨yp, yd⟩ := Y
    rw [Bool.eq_iff_iff]
    simp only [beq_iff_eq, decide_eq_true_eq, PB.b]
    by_cases h1 : xp <;> by_cases h2 : yp <;> simp [h1, h2]
  unfold boolOp at h
  split at h
  · rename_i hu
    refine pok (v := .bool (X.b == Y.b)) (sv := .bool ((sem T).beq X Y)) (by simp only [execOp, ho, hx, hy, eqGuard_at_bool, Sem.run_bind, Sem.run_pure, Result.andThen_ok, run_eql_bool w t _ _ hu]) ?_ h
    show Value.bool (X.b == Y.b) = .bool (@decide (X.p ↔ Y.p) (@instDecidableIff _ _ X.d Y.d))
    rw [key]
  · rename_i hu
    refine pok (v := .bool !(X.b == Y.b)) (sv := .bool ((sem T).bnot ((sem T).beq X Y))) (by simp only [execOp, ho, hx, hy, eqGuard_at_bool, Sem.run_bind, Sem.run_pure, Result.andThen_ok, run_neq_bool w t _ _ hu]) ?_ h
    rw [key]
    simp [SVR, PB.b]
  · cases h

theorem pure_bin (ht : TR bl vs st.tmps a) {op : BinOp} {t t' : TypeId} {x y : Operand} (ho : o.op = .binOp op t x y t')
    {wr : Bool} (h : pureBin P wr op t (st.ev x) (st.ev y) = some p) (hn : ∀ q ∈ p.ns, q) : PureOk T P bl vs w a o p := by
  have hx := ev_sound ht x
  have hy := ev_sound ht y
  unfold pureBin at h
  split at h
  · rename_i k x' k' y' hxx hyy
    rw [hxx] at hx
    rw [hyy] at hy
    obtain ⟨i, rfl⟩ : ∃ i : Int, i = x' := ⟨x', rfl⟩
    obtain ⟨j, rfl⟩ : ∃ i : Int, i = y' := ⟨y', rfl⟩
    have key : (∃ v, (binOp op t (.int k i) (.int k' j)).run P w = .ok v w ∧ SVR bl vs p.v v ∧ p.gs = []) := by
      split at h
      · exact shiftOp_sound h hn
      · split at h
        · rename_i hk
          have : k = k' := by simpa using hk
          subst this
          exact intOp_sound h hn hx.2
        · cases h
    obtain ⟨v, hr, hs, hg⟩ := key
    refine ⟨v, ?_, hs, by simp [hg]⟩
    simp only [execOp, ho, hx.1, hy.1, eqGuard_at_int, Sem.run_bind, Sem.run_pure, Result.andThen_ok, hr]
  · rename_i X Y hxx hyy
    rw [hxx] at hx
    rw [hyy] at hy
    exact boolOp_sound ho hx hy h
  · rename_i X Y hxx hyy
    rw [hxx] at hx
    rw [hyy] at hy
    have hy' : a.eval y = .bool ((sem T).blit Y : PB).b := by
      have : a.eval y = .bool Y := hy
      rw [this]; cases Y <;> simp [PB.b]
    exact boolOp_sound ho hx hy' h
  · rename_i X Y hxx hyy
    rw [hxx] at hx
    rw [hyy] at hy
    have hx' : a.eval x = .bool ((sem T).blit X : PB).b := by
      have : a.eval x = .bool X := hx
      rw [this]; cases X <;> simp [PB.b]
    exact boolOp_sound ho hx' hy h
  · rename_i X Y hxx hyy
    rw [hxx] at hx
    rw [hyy] at hy
    have hx' : a.eval x = .bool ((sem T).blit X : PB).b := by
      have : a.eval x = .bool X := hx
      rw [this]; cases X <;> simp [PB.b]
    have hy' : a.eval y = .bool ((sem T).blit Y : PB).b := by
      have : a.eval y = .bool Y := hy
      rw [this]; cases Y <;> simp [PB.b]
    exact boolOp_sound ho hx' hy' h
  · rename_i xs ys hxx hyy
    rw [hxx] at hx
    rw [hyy] at hy
    obtain ⟨cs, hv, hc⟩ := hx
    obtain ⟨cs', hv', hc'⟩ := hy
    split at h
    · rename_i hp
      unfold plainStruct at hp
      split at hp
      · rename_i fs hu
        simp only [Bool.and_eq_true, Bool.not_eq_true'] at hp
        obtain ⟨⟨⟨hall, hstood⟩, hguard⟩, hcount⟩ := hp
        have hfo : P.fieldsOf t = fs := by simp [Program.fieldsOf, hu]
        have key : ∀ (B : PB), eqCells xs ys = some B → ∃ b, (Op.equalIn 10000 t (.agg cs) (.agg cs')).run P w = .ok b w ∧ b = B.b := by
          intro B hB
          obtain ⟨hl, hint, hp⟩ := eqCells_sound hB hc hc'
          rw [run_equalIn_struct w 9999 t cs cs' (by rw [hfo]; exact hu) hstood, hfo]
          have hfl : cs.toList.length = fs.toList.length := by
            rw [← hc.length]
            exact (by simpa using hcount : fs.toList.length = xs.length).symm
          obtain ⟨b, hb, hbb⟩ := eqFields_plain (P := P) (w := w) fs.toList 0 9998 cs.toList cs'.toList cs cs' hall hl hfl rfl rfl hint
          refine ⟨b, hb, ?_⟩
          rw [Bool.eq_iff_iff, hbb, ← hp]
          simp [PB.b]
        split at h
        · rename_i B hB
          obtain ⟨b, hb, rfl⟩ := key B hB
          exact pok (v := .bool B.b) (sv := .bool B) (by simp only [execOp, ho, hv, hv', Sem.run_bind, run_eqGuard_agg w _ t _ _ _ _ hguard, Result.andThen_ok, run_eql_struct, hb, Sem.run_pure]) rfl h
        · rename_i B hB
          obtain ⟨b, hb, rfl⟩ := key B hB
          refine pok (v := .bool !B.b) (sv := .bool ((sem T).bnot B)) (by simp only [execOp, ho, hv, hv', Sem.run_bind, run_eqGuard_agg w _ t _ _ _ _ hguard, Result.andThen_ok, run_neq_struct, hb, Sem.run_pure]) ?_ h
          simp [SVR, PB.b]
        · cases h
      · cases hp
    · cases h
  · rename_i x' y' hxx hyy
    rw [hxx] at hx
    rw [hyy] at hy
    have hv : a.eval x = .string x' := hx
    have hv' : a.eval y = .string y' := hy
    have key : (x'.toList == y'.toList) = @decide (x' = y') inferInstance := by
      rw [Bool.eq_iff_iff]
      simp [ByteArray.toList_eq, ByteArray.ext_iff, Array.toList_inj]
    split at h
    · refine pok (v := .bool (x'.toList == y'.toList)) (sv := .bool ((sem T).yeq x' y')) (by simp [execOp, ho, hv, hv', eqGuard_at_string, binOp, Op.stringOp]) ?_ h
      simp only [SVR, PB.b]; rw [key]
    · refine pok (v := .bool !(x'.toList == y'.toList)) (sv := .bool ((sem T).bnot ((sem T).yeq x' y'))) (by simp [execOp, ho, hv, hv', eqGuard_at_string, binOp, Op.stringOp, bne, beq_toListBytes]) ?_ h
      simp only [SVR, PB.b]; rw [key]; simp
    · cases h
  · cases h


theorem pure_un (ht : TR bl vs st.tmps a) {op : UnOp} {t : TypeId} {x : Operand} (ho : o.op = .unOp op t x)
    (h : pUn st op x = some p) (hn : ∀ q ∈ p.ns, q) : PureOk T P bl vs w a o p := by
  unfold pUn at h
  have hx := ev_sound ht x
  split at h
  · rename_i b hxx
    rw [hxx] at hx
    have hv : a.eval x = .bool b := hx
    exact pok (v := .bool !b) (sv := .blit !b) (by simp [execOp, ho, hv, Op.unary]) rfl h
  · rename_i b hxx
    rw [hxx] at hx
    have hv : a.eval x = .bool b.b := hx
    refine pok (v := .bool !b.b) (sv := .bool ((sem T).bnot b)) (by simp [execOp, ho, hv, Op.unary]) ?_ h
    simp [SVR, PB.b]
  · rename_i k n hxx
    rw [hxx] at hx
    obtain ⟨i, rfl⟩ : ∃ i : Int, i = n := ⟨n, rfl⟩
    have hk0 : k.min ≤ 0 ∧ 0 ≤ k.max := by cases k <;> decide
    obtain ⟨v, hr, hs, hg⟩ := intOp_sound (T := T) (P := P) (w := w) (bl := bl) (vs := vs) (t := t) h hn hk0
    refine ⟨v, ?_, hs, by simp [hg]⟩
    simp only [execOp, ho, hx.1, Op.unary, Sem.run_bind]
    simp only [binOp_sub] at hr
    simp only [hr, Result.andThen_ok, Sem.run_pure]
  · rename_i k n hxx
    rw [hxx] at hx
    obtain ⟨i, rfl⟩ : ∃ i : Int, i = n := ⟨n, rfl⟩
    refine pok (v := .int k (k.wrap (arithS .xor k (if k.signed then -1 else k.max) i))) (sv := .int k ((sem T).wrap k ((sem T).arith .xor k ((sem T).lit (if k.signed then -1 else k.max)) i))) ?_ ⟨rfl, (wrap_in k _).1, (wrap_in k _).2⟩ h
    simp only [execOp, ho, hx.1, Op.unary, Op.intBits, Sem.run_bind, Sem.run_pure, Result.andThen_ok]
    rfl
  · cases h

theorem pure_convert (ht : TR bl vs st.tmps a) {src dst : TypeId} {x : Operand} (ho : o.op = .convert src dst x)
    (h : pConvert P st src dst x = some p) : PureOk T P bl vs w a o p := by
  unfold pConvert at h
  have hx := ev_sound ht x
  split at h
  · rename_i d k k' n hs hd hxx
    rw [hxx] at hx
    obtain ⟨i, rfl⟩ : ∃ i : Int, i = n := ⟨n, rfl⟩
    have hr : (execOp a.eval o).run P w = .ok (.value (.int k (k.wrap i))) w := by
      simp [execOp, ho, hx.1, convert, run_underlying hs, run_underlying hd, Conv.intToInt]
    split at h
    · rename_i hc
      have hin : k.min ≤ i ∧ i ≤ k.max := ⟨Int.le_trans hc.1 hx.2.1, Int.le_trans hx.2.2 hc.2⟩
      rw [wrap_id k i hin] at hr
      exact pok (sv := .int k i) hr ⟨rfl, hin.1, hin.2⟩ h
    · exact pok (sv := .int k ((sem T).wrap k i)) hr ⟨rfl, (wrap_in k _).1, (wrap_in k _).2⟩ h
  · cases h

theorem evs_sound (ht : TR bl vs st.tmps a) : ∀ l : List Operand, SVRs bl vs (l.map st.ev) (l.map a.eval)
  | [] => trivial
  | x :: l => ⟨ev_sound ht x, evs_sound ht l⟩

theorem pure_makeFunc (ht : TR bl vs st.tmps a) {f : FuncId} {first caps : Array Operand} (ho : o.op = .makeFunc (.func f) first caps)
    (h : pMakeFunc st f first caps = some p) : PureOk T P bl vs w a o p := by
  unfold pMakeFunc at h
  split at h
  · rename_i hf
    have : first = #[] := by simpa using hf
    subst this
    refine pok (v := .func (.func f) #[] (caps.map a.eval)) (sv := .fn f (caps.toList.map st.ev)) (by simp [execOp, ho, Instr.makeFunc]) ⟨_, rfl, ?_⟩ h
    simpa using evs_sound ht caps.toList
  · cases h

theorem pure_extract (ht : TR bl vs st.tmps a) {x : Operand} {ix : Nat} (ho : o.op = .extract x ix)
    (h : pExtract st x ix = some p) : PureOk T P bl vs w a o p := by
  unfold pExtract at h
  have hx := ev_sound ht x
  split at h
  · rename_i l hxx
    rw [hxx] at hx
    obtain ⟨cs, hv, hc⟩ := hx
    split at h
    · cases h
    · rename_i v hv' hl
      obtain ⟨y, hy, hs⟩ := hc.get hl
      simp only [Array.getElem?_toList] at hy
      exact pok (v := y) (by simp [execOp, ho, hv, Instr.extract, hy]) hs h
    · cases h
  · cases h

theorem pure_field (ht : TR bl vs st.tmps a) {t : TypeId} {x : Operand} {f : Nat} (ho : o.op = .field t x f)
    (h : pField P st t x f = some p) : PureOk T P bl vs w a o p := by
  unfold pField at h
  have hx := ev_sound ht x
  split at h
  · rename_i off ft l hf hxx
    rw [hxx] at hx
    obtain ⟨cs, hv, hc⟩ := hx
    split at h
    · rename_i n hs
      split at h
      · rename_i hle
        simp only [Bool.and_eq_true, decide_eq_true_eq] at hle
        obtain ⟨hle, hfu⟩ := hle
        obtain ⟨sv, hp, hok⟩ := Option.bind_eq_some_iff.1 h
        obtain ⟨fs, fd, i, hu, hfd, rfl, rfl, hi, hn⟩ := fieldOff_inv hf
        unfold sizeT at hs
        rw [hi] at hs
        cases hs
        have hlen := hc.length
        simp only [Array.length_toList] at hlen
        obtain ⟨d, hd⟩ := Option.isSome_iff_exists.1 hfu
        rcases pack_inv hp with ⟨ha, rfl⟩ | ⟨ha, hl1⟩
        · refine pok (v := .agg (cs.extract fd.offset (fd.offset + i.size))) (sv := .agg ((l.drop fd.offset).take i.size)) ?_ ⟨_, rfl, ?_⟩ hok
          · simp only [execOp, ho, hv, Instr.field, Sem.run_bind, run_underlying hu, Result.andThen_ok, hfd, asAgg, Sem.run_pure, part, isAgg_run fd.type hd, ha, if_true, run_sizeOf' hi]
          · have := (hc.drop fd.offset).take i.size
            simpa [List.extract_eq_take_drop] using this
        · have hsv := (hc.drop fd.offset).take i.size
          rw [hl1] at hsv
          have hlen1 := congrArg List.length hl1
          simp at hlen1
          have h0 : ∃ u, cs[fd.offset]? = some u ∧ SVR bl vs sv u := by
            have hg : l[fd.offset]? = some sv := by
              have := congrArg (·[0]?) hl1
              simp [List.getElem?_take] at this
              exact this.2
            obtain ⟨y, hy, hs⟩ := hc.get hg
            simp only [Array.getElem?_toList] at hy
            exact ⟨y, hy, hs⟩
          obtain ⟨u, hcu, hsu⟩ := h0
          refine pok (v := u) ?_ hsu hok
          simp only [execOp, ho, hv, Instr.field, Sem.run_bind, run_underlying hu, Result.andThen_ok, hfd, asAgg, Sem.run_pure, part, isAgg_run fd.type hd, ha, Bool.false_eq_true, if_false, hcu]
      · cases h
    · cases h
  · cases h

theorem pure_len (hl : Look P R bl vs st.boxes st.ents w) (ht : TR bl vs st.tmps a) {args : Array Operand} {argTypes : Array TypeId} (ho : o.op = .call { callee := .builtin .len, args, argTypes })
    (h : pLen P st args argTypes = some p) (hn : ∀ q ∈ p.ns, q) : PureOk T P bl vs w a o p := by
  unfold pLen at h
  split at h
  · rename_i x t hargs htys
    have hargs' : args = #[x] := by rw [← Array.toList_inj]; exact hargs
    have htys' : argTypes = #[t] := by rw [← Array.toList_inj]; exact htys
    subst hargs' htys'
    have hx := ev_sound ht x
    have hrun : ∀ v, (Builtin.len_ #[t] o.type #[a.eval x]).run P w = .ok v w → (execOp a.eval o).run P w = .ok (.value v) w := by
      intro v hv
      simp [execOp, ho, resolve, invoke, builtin, hv]
    split at h
    · rename_i e id hu hxx
      rw [hxx] at hx
      split at h
      · rename_i en hen
        split at h
        · rename_i hlive
          obtain ⟨v0, hv0, a0, cap0, he0, hn1, hn2, ha0, hcells⟩ := hl.ent id en hen hlive
          have hx' : vs[id]? = some (a.eval x) := hx
          rw [hv0] at hx'
          have hxv : a.eval x = .slice a0 en.s.n cap0 := by rw [← Option.some.inj hx', he0]
          cases h
          refine ⟨.int .i64 en.s.n, hrun _ ?_, ?_, fun q hq => ?_⟩
          rotate_left
          rotate_left
          · simp only [List.mem_singleton] at hq
            rw [hq]
            exact Nat.le_trans hn1 hn2
          · simp [Builtin.len_, hxv, run_underlying hu, goInt]
          · refine ⟨rfl, ?_, ?_⟩
            · simp [IntKind.min, IntKind.signed, IntKind.bits, Sl.len] <;> omega
            · simp [IntKind.max, IntKind.signed, IntKind.bits, Sl.len]; unfold maxLen at hn2; omega
        · cases h
      · cases h
    · rename_i e hu hxx
      rw [hxx] at hx
      have hv : a.eval x = .slice none 0 0 := hx
      exact pok (v := .int .i64 0) (sv := .int .i64 ((sem T).lit 0)) (hrun _ (by simp [Builtin.len_, hv, run_underlying hu, goInt])) ⟨rfl, (by decide : IntKind.i64.min ≤ 0), (by decide : 0 ≤ IntKind.i64.max)⟩ h
    · rename_i y hu hxx
      rw [hxx] at hx
      have hv : a.eval x = .string y := hx
      cases h
      simp only [List.mem_singleton, forall_eq, sem] at hn
      exact ⟨.int .i64 (ylen y), hrun _ (by simp [Builtin.len_, hv, run_underlying hu, goInt, ylen]), ⟨rfl, hn.1, hn.2⟩, by simp⟩
    · rename_i n e hu
      split at h
      · rename_i hc
        refine pok (v := .int .i64 n) (sv := .int .i64 ((sem T).lit n)) (hrun _ ?_) ⟨rfl, ?_, hc⟩ h
        · simp [Builtin.len_, run_underlying hu, goInt]
        · simp [IntKind.min, IntKind.signed, IntKind.bits] <;> omega
      · cases h
    · cases h
  · cases h

theorem imin_in {k : IntKind} {x y : Int} (hx : k.min ≤ x ∧ x ≤ k.max) (hy : k.min ≤ y ∧ y ≤ k.max) : k.min ≤ imin x y ∧ imin x y ≤ k.max := by
  unfold imin; split <;> assumption
theorem imax_in {k : IntKind} {x y : Int} (hx : k.min ≤ x ∧ x ≤ k.max) (hy : k.min ≤ y ∧ y ≤ k.max) : k.min ≤ imax x y ∧ imax x y ≤ k.max := by
  unfold imax; split <;> assumption

theorem pure_min (ht : TR bl vs st.tmps a) {args : Array Operand} {argTypes : Array TypeId} (ho : o.op = .call { callee := .builtin .min, args, argTypes })
    (h : pMin st args = some p) : PureOk T P bl vs w a o p := by
  unfold pMin at h
  split at h
  · rename_i x y hargs
    have hargs' : args = #[x, y] := by rw [← Array.toList_inj]; exact hargs
    subst hargs'
    have hx := ev_sound ht x
    have hy := ev_sound ht y
    split at h
    · rename_i k i k' j hxx hyy
      rw [hxx] at hx
      rw [hyy] at hy
      split at h
      · rename_i hk
        have : k = k' := by simpa using hk
        subst this
        refine pok (v := .int k (imin i j)) (sv := .int k ((sem T).imin i j)) ?_ ⟨rfl, (imin_in hx.2 hy.2).1, (imin_in hx.2 hy.2).2⟩ h
        simp [execOp, ho, resolve, invoke, builtin, Builtin.min_, Builtin.min2, hx.1, hy.1, imin]
      · cases h
    · cases h
  · cases h

theorem pure_max (ht : TR bl vs st.tmps a) {args : Array Operand} {argTypes : Array TypeId} (ho : o.op = .call { callee := .builtin .max, args, argTypes })
    (h : pMax st args = some p) : PureOk T P bl vs w a o p := by
  unfold pMax at h
  split at h
  · rename_i x y hargs
    have hargs' : args = #[x, y] := by rw [← Array.toList_inj]; exact hargs
    subst hargs'
    have hx := ev_sound ht x
    have hy := ev_sound ht y
    split at h
    · rename_i k i k' j hxx hyy
      rw [hxx] at hx
      rw [hyy] at hy
      split at h
      · rename_i hk
        have : k = k' := by simpa using hk
        subst this
        refine pok (v := .int k (imax i j)) (sv := .int k ((sem T).imax i j)) ?_ ⟨rfl, (imax_in hx.2 hy.2).1, (imax_in hx.2 hy.2).2⟩ h
        simp [execOp, ho, resolve, invoke, builtin, Builtin.max_, Builtin.max2, hx.1, hy.1, imax]
      · cases h
    · cases h
  · cases h


theorem cells_sound (hv : ∀ (i : Nat) (v : Value), vs[i]? = some v → ∃ a n c, v = .slice a n c) {s : SV (sem T)} {v : Value} (h : SVR bl vs s v) (hc : (cellsOf s).all isCell = true) :
    SVRs bl vs (cellsOf s) v.cells.toList := by
  cases s with
  | agg l => obtain ⟨cs, rfl, hl⟩ := h; exact hl
  | tup l => simp [cellsOf, isCell] at hc
  | junk => simp [cellsOf, isCell] at hc
  | int k x => obtain ⟨rfl, h⟩ := h; exact ⟨⟨rfl, h⟩, trivial⟩
  | blit b => have h : v = .bool b := h; subst h; exact ⟨rfl, trivial⟩
  | bool b => have h : v = .bool b.b := h; subst h; exact ⟨rfl, trivial⟩
  | str y => have h : v = .string y := h; subst h; exact ⟨rfl, trivial⟩
  | sl id => obtain ⟨a, n, c, rfl⟩ := hv _ _ h; exact ⟨h, trivial⟩
  | ptr i off => obtain ⟨b, hb, rfl⟩ := h; exact ⟨⟨b, hb, rfl⟩, trivial⟩
  | eptr id sz i off => obtain ⟨a, l, c, h1, h2, h3, rfl⟩ := h; exact ⟨⟨a, l, c, h1, h2, h3, rfl⟩, trivial⟩
  | fn f caps => obtain ⟨cs, rfl, hl⟩ := h; exact ⟨⟨cs, rfl, hl⟩, trivial⟩
  | yld i => obtain ⟨b, hb, rfl⟩ := h; exact ⟨⟨b, hb, rfl⟩, trivial⟩
  | con c =>
    have h : v = c := h
    subst h
    cases v <;> first | (simp [cellsOf, isCell] at hc; done) | exact ⟨rfl, trivial⟩

theorem isCell_one {s : SV (sem T)} {v : Value} (hv : ∀ (i : Nat) (v : Value), vs[i]? = some v → ∃ a n c, v = .slice a n c) (h : SVR bl vs s v) (hc : isCell s = true) : v.oneCell' = true := by
  cases s with
  | agg l => simp [isCell] at hc
  | tup l => simp [isCell] at hc
  | junk => simp [isCell] at hc
  | int k x => obtain ⟨rfl, h⟩ := h; exact rfl
  | blit b => have h : v = .bool b := h; subst h; exact rfl
  | bool b => have h : v = .bool b.b := h; subst h; exact rfl
  | str y => have h : v = .string y := h; subst h; exact rfl
  | sl id => obtain ⟨a, n, c, rfl⟩ := hv _ _ h; exact rfl
  | ptr i off => obtain ⟨b, hb, rfl⟩ := h; exact rfl
  | eptr id sz i off => obtain ⟨a, l, c, h1, h2, h3, rfl⟩ := h; exact rfl
  | fn f caps => obtain ⟨cs, rfl, hl⟩ := h; exact rfl
  | yld i => obtain ⟨b, hb, rfl⟩ := h; exact rfl
  | con c =>
    have h : v = c := h
    subst h
    cases v <;> first | (simp [isCell] at hc; done) | exact rfl

theorem zeroCells_sound {t : TypeId} {z : List (SV (sem T))} (h : zeroCellsOf P t = some z) :
    ∃ i v, P.info? t = some i ∧ i.zero = some v ∧ SVRs bl vs z v.cells.toList := by
  unfold zeroCellsOf at h
  split at h
  · rename_i i hi
    split at h
    · rename_i v hz
      cases h
      refine ⟨i, v, hi, hz, ?_⟩
      have := ofCon_sound (T := T) (bl := bl) (vs := vs) v
      cases v with
      | agg cs => exact ofConCells_sound cs.toList
      | tuple us =>
        unfold ofCon at this ⊢
        simp only at this ⊢
        split <;> rename_i hu
        · simp only [hu, if_true] at this; exact ⟨this, trivial⟩
        · exact ⟨trivial, trivial⟩
      | int k n =>
        unfold ofCon ofConCell at this ⊢
        simp only at this ⊢
        split <;> rename_i hu
        · simp only [hu, and_self, if_true] at this; exact ⟨this, trivial⟩
        · exact ⟨trivial, trivial⟩
      | _ => exact ⟨this, trivial⟩
    · cases h
  · cases h

theorem fold_set : ∀ (us : List Value) (k off : Nat) (cells : Array Value), off + k + us.length ≤ cells.size →
    ((us.zipIdx k).foldl (fun cs (p : Value × Nat) => cs.setIfInBounds (off + p.2) p.1) cells).toList = cells.toList.take (off + k) ++ us ++ cells.toList.drop (off + k + us.length)
  | [], k, off, cells, _ => by simp
  | u :: us, k, off, cells, h => by
    simp only [List.zipIdx_cons, List.foldl_cons, List.length_cons]
    simp only [List.length_cons] at h
    have hlen : off + k < cells.toList.length := by simp; omega
    have := fold_set us (k + 1) off (cells.setIfInBounds (off + k) u) (by simp; omega)
    rw [this]
    simp only [Array.toList_setIfInBounds]
    rw [show off + (k + 1) = off + k + 1 by omega, List.take_set, List.drop_set_of_lt (by omega)]
    rw [List.take_succ_eq_append_getElem hlen, List.set_append_right _ _ (by simp; omega)]
    have hm : min (off + k) cells.size = off + k := Nat.min_eq_left (by simp at hlen; omega)
    simp [hm]
    rw [show off + k + 1 + us.length = off + k + (us.length + 1) by omega]

theorem fill_sound (hvsl : ∀ (i : Nat) (v : Value), vs[i]? = some v → ∃ a n c, v = .slice a n c) (ht : TR bl vs st.tmps a) {t : TypeId} {place : Nat → Option (Nat × Nat)}
    (hplace : (∃ fs, P.underlying t = some (.struct fs) ∧ ∀ i f n, fs[i]? = some f → sizeT P f.type = some n → place i = some (f.offset, n)) ∨
      (∃ m e, P.underlying t = some (.array m e) ∧ ∀ i n, sizeT P e = some n → place i = some (i * n, n))) :
    ∀ (parts : List (Nat × Operand)) (cells : Array Value) (z l : List (SV (sem T))) (ps : List (Nat × List (SV (sem T)))), SVRs bl vs z cells.toList →
    buildParts P t (parts.map fun p => (p.1, st.ev p.2)) = some ps → fillParts z ps = some l →
    ∃ cs, Instr.fill place cells (parts.map fun p => (p.1, a.eval p.2)) = some cs ∧ SVRs bl vs l cs.toList
  | [], cells, z, l, ps, hz, hb, hf => by
    simp only [List.map_nil, buildParts, Option.some.injEq] at hb
    subst hb
    simp only [fillParts, Option.some.injEq] at hf
    subst hf
    exact ⟨cells, rfl, hz⟩
  | (i, x) :: parts, cells, z, l, ps, hz, hb, hf => by
    have hx := ev_sound ht x
    simp only [List.map_cons] at hb ⊢
    have key : ∃ off r, ps = (off, cellsOf (st.ev x)) :: r ∧ buildParts P t (parts.map fun p => (p.1, st.ev p.2)) = some r ∧ place i = some (off, (cellsOf (st.ev x)).length) ∧ (cellsOf (st.ev x)).all isCell = true := by
      unfold buildParts at hb
      rcases hplace with ⟨fs, hu, hpl⟩ | ⟨m, e, hu, hpl⟩
      · split at hb
        · rename_i fs' r hu' hr
          rw [hu] at hu'; cases hu'
          split at hb
          · rename_i f hf'
            split at hb
            · rename_i hc
              simp only [Bool.and_eq_true, beq_iff_eq] at hc
              cases hb
              exact ⟨f.offset, r, rfl, hr, hpl i f _ hf' hc.1, hc.2⟩
            · cases hb
          · cases hb
        · rename_i hu' _; rw [hu] at hu'; cases hu'
        · cases hb
      · split at hb
        · rename_i hu' _; rw [hu] at hu'; cases hu'
        · rename_i m' e' r hu' hr
          rw [hu] at hu'; cases hu'
          split at hb
          · rename_i n hn
            split at hb
            · rename_i hc
              simp only [Bool.and_eq_true, beq_iff_eq] at hc
              cases hb
              obtain ⟨rfl, hc2⟩ := hc
              exact ⟨_, r, rfl, hr, hpl i _ hn, hc2⟩
            · cases hb
          · cases hb
        · cases hb
    obtain ⟨off, r, rfl, hr, hpl, hcell⟩ := key
    simp only [fillParts] at hf
    split at hf
    · rename_i hle
      have hcs := cells_sound hvsl hx hcell
      have hl1 := hcs.length
      have hl2 := hz.length
      simp only [Array.length_toList] at hl1 hl2
      have hset : SVRs bl vs (z.take off ++ cellsOf (st.ev x) ++ z.drop (off + (cellsOf (st.ev x)).length))
          (((a.eval x).cells.zipIdx.foldl (fun cs (p : Value × Nat) => cs.setIfInBounds (off + p.2) p.1) cells)).toList := by
        have := fold_set (a.eval x).cells.toList 0 off cells (by simp; omega)
        rw [← Array.foldl_toList, Array.toList_zipIdx, this]
        simp only [Nat.add_zero, Array.length_toList, ← hl1]
        exact ((hz.take off).append hcs).append (hz.drop _)
      obtain ⟨cs, h1, h2⟩ := fill_sound hvsl ht hplace parts _ _ l r hset hr hf
      refine ⟨cs, ?_, h2⟩
      simp only [Instr.fill, hpl, hl1]
      rw [if_neg (by simp; omega)]
      exact h1
    · cases hf

theorem run_mapM_fields : ∀ l : List Field, (∀ f ∈ l, (sizeT P f.type).isSome = true) →
    (l.mapM fun f => (do pure (f.offset, ← sizeOf f.type) : Sem (Nat × Nat))).run P w = .ok (l.map fun f => (f.offset, (sizeT P f.type).getD 0)) w
  | [], _ => by simp
  | f :: l, h => by
    obtain ⟨n, hn⟩ := Option.isSome_iff_exists.1 (h f (by simp))
    have hn' := hn
    unfold sizeT at hn'
    obtain ⟨i, hi, rfl⟩ := Option.map_eq_some_iff.1 hn'
    simp only [List.mapM_cons, Sem.run_bind, run_sizeOf' hi, Result.andThen_ok, Sem.run_pure, run_mapM_fields l (fun g hg => h g (by simp [hg])), List.map_cons, hn, Option.getD_some]

theorem run_zero {t : TypeId} {i : TypeInfo} {v : Value} (hi : P.info? t = some i) (hz : i.zero = some v) : (zeroValue t).run P w = .ok v w := by
  simp [zeroValue, typeInfo, hi, hz]

theorem pure_build (hl : Look P R bl vs st.boxes st.ents w) (ht : TR bl vs st.tmps a) {t : TypeId} {parts : Array (Nat × Operand)} (ho : o.op = .build t parts)
    (h : pBuild P st t parts = some p) : PureOk T P bl vs w a o p := by
  unfold pBuild at h
  split at h
  · rename_i z ps hz hps
    obtain ⟨l, hfl, h⟩ := Option.bind_eq_some_iff.1 h
    split at h
    · rename_i hfo
      obtain ⟨i, v, hi, hzv, hs⟩ := zeroCells_sound (bl := bl) (vs := vs) hz
      unfold fieldsOk at hfo
      have hparts : (Array.map (fun x => (x.1, a.eval x.2)) parts).toList = parts.toList.map fun p => (p.1, a.eval p.2) := by simp
      split at hfo
      · rename_i fs hu
        have hall : ∀ f ∈ fs.toList, (sizeT P f.type).isSome = true := List.all_eq_true.1 hfo
        obtain ⟨cs, h1, h2⟩ := fill_sound (P := P) (t := t) (place := fun i => (fs.map fun f => (f.offset, (sizeT P f.type).getD 0))[i]?) hl.vsl ht (.inl ⟨fs, hu, fun i f n hf hn => by simp [hf, hn]⟩) parts.toList v.cells z l ps hs hps hfl
        refine pok (v := .agg cs) (sv := .agg l) ?_ ⟨cs, rfl, h2⟩ h
        have hm : (fs.mapM fun f => (do pure (f.offset, ← sizeOf f.type) : Sem (Nat × Nat))).run P w = .ok (fs.map fun f => (f.offset, (sizeT P f.type).getD 0)) w := by
          rw [Array.mapM_eq_mapM_toList, Sem.run_map, run_mapM_fields fs.toList hall]
          simp only [Result.andThen_ok]
          congr 1
          rw [← Array.toList_inj]
          simp
        simp only [execOp, ho, Instr.build, Sem.run_bind, run_zero hi hzv, Result.andThen_ok, run_underlying hu, hm, hparts, h1, Sem.run_pure]
      · rename_i m e hu
        obtain ⟨n, hn⟩ := Option.isSome_iff_exists.1 hfo
        have hn' := hn
        unfold sizeT at hn'
        obtain ⟨ie, hie, rfl⟩ := Option.map_eq_some_iff.1 hn'
        obtain ⟨cs, h1, h2⟩ := fill_sound (P := P) (t := t) (place := fun i => some (i * ie.size, ie.size)) hl.vsl ht (.inr ⟨m, e, hu, fun i n hn2 => by rw [hn] at hn2; cases hn2; rfl⟩) parts.toList v.cells z l ps hs hps hfl
        refine pok (v := .agg cs) (sv := .agg l) ?_ ⟨cs, rfl, h2⟩ h
        simp only [execOp, ho, Instr.build, Sem.run_bind, run_zero hi hzv, Result.andThen_ok, run_underlying hu, run_sizeOf' hie, hparts, h1, Sem.run_pure]
      · cases hfo
    · cases h
  · cases h

theorem pure_cap (ht : TR bl vs st.tmps a) {args : Array Operand} {argTypes : Array TypeId} (ho : o.op = .call { callee := .builtin .cap, args, argTypes })
    (h : pCap P st args argTypes = some p) : PureOk T P bl vs w a o p := by
  unfold pCap at h
  split at h
  · rename_i x t hargs htys
    have hargs' : args = #[x] := by rw [← Array.toList_inj]; exact hargs
    have htys' : argTypes = #[t] := by rw [← Array.toList_inj]; exact htys
    subst hargs' htys'
    have hx := ev_sound ht x
    split at h
    · rename_i e hu hxx
      rw [hxx] at hx
      have hv : a.eval x = .slice none 0 0 := hx
      refine pok (v := .int .i64 0) (sv := .int .i64 ((sem T).lit 0)) ?_ ⟨rfl, (by decide : IntKind.i64.min ≤ 0), (by decide : 0 ≤ IntKind.i64.max)⟩ h
      simp [execOp, ho, resolve, invoke, builtin, Builtin.cap_, hv, run_underlying hu, goInt]
    · cases h
  · cases h

theorem pure_index (ht : TR bl vs st.tmps a) {t : TypeId} {x ix : Operand} (ho : o.op = .index t x ix) (h : pIndex P st t x ix = some p) (hn : ∀ q ∈ p.ns, q) : PureOk T P bl vs w a o p := by
  unfold pIndex at h
  have hx := ev_sound ht x
  have hi := ev_sound ht ix
  split at h
  · rename_i y k i hu hxx hii
    rw [hxx] at hx
    rw [hii] at hi
    obtain ⟨j, rfl⟩ : ∃ j : Int, j = i := ⟨i, rfl⟩
    have hv : a.eval x = .string y := hx
    cases h
    simp only [List.mem_cons, List.not_mem_nil, or_false, forall_eq_or_imp, forall_eq, sem] at hn
    obtain ⟨h0, h1⟩ := hn
    have hlt : j.toNat < y.size := by unfold ylen at h1; omega
    have hget : y[j.toNat]? = some (y[j.toNat]'hlt) := getElem?_pos y j.toNat hlt
    have hval : ychr y j = (((y[j.toNat]'hlt).toNat : Nat) : Int) := by
      unfold ychr
      congr 2
      rw [List.getD_eq_getElem?_getD, List.getElem?_eq_getElem (by simpa using hlt)]
      rfl
    refine ⟨.int .u8 (ychr y j), ?_, ⟨rfl, ?_, ?_⟩, by simp⟩
    · simp only [execOp, ho, Instr.index, hv, hi.1, asIntOf, Sem.run_bind, Sem.run_pure, Result.andThen_ok, run_underlying hu, if_pos h0, hget, hval]
    · show IntKind.u8.min ≤ ychr y j
      rw [hval]; simp [IntKind.min, IntKind.signed]
    · show ychr y j ≤ IntKind.u8.max
      rw [hval]
      have := UInt8.toNat_lt (y[j.toNat]'hlt)
      simp [IntKind.max, IntKind.signed, IntKind.bits]
      omega
  · cases h

/-- **An operation that neither writes nor makes memory**: the model's run yields the value that was said, in the world that it got. -/
theorem pure_sound (hl : Look P R bl vs st.boxes st.ents w) (ht : TR bl vs st.tmps a) (h : pureOp P st o = some p) (hn : ∀ q ∈ p.ns, q) : PureOk T P bl vs w a o p := by
  unfold pureOp at h
  split at h
  · rename_i x ho; exact pure_move ht (.inl ho) h
  · rename_i x ho; exact pure_move ht (.inr ho) h
  · rename_i c x y ho; exact pure_pick ht ho h
  · rename_i t x f ho; exact pure_fieldAddr ht ho h
  · rename_i t x ho; exact pure_load hl ht ho h
  · rename_i t x ix ho; exact pure_indexAddr hl ht ho h hn
  · rename_i x ho; exact pure_nilCheck ht ho h
  · rename_i op t x y t' ho; exact pure_bin ht ho h hn
  · rename_i op t x ho; exact pure_un ht ho h hn
  · rename_i src dst x ho; exact pure_convert ht ho h
  · rename_i f first caps ho; exact pure_makeFunc ht ho h
  · rename_i t parts ho; exact pure_build hl ht ho h
  · rename_i t x f ho; exact pure_field ht ho h
  · rename_i x ix ho; exact pure_extract ht ho h
  · rename_i args argTypes ho; exact pure_len hl ht ho h hn
  · rename_i args argTypes ho; exact pure_cap ht ho h
  · rename_i t x ix ho; exact pure_index ht ho h hn
  · rename_i args argTypes ho; exact pure_min ht ho h
  · rename_i args argTypes ho; exact pure_max ht ho h
  · cases h

end Go.Sx
