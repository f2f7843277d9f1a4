/-
  One operation and regions: in the text's order, and in whatever order the tape draws. Conditions: the contracts hold of the callees.
-/
import Derived.Test.YtlhjljekeobplaaSxB
import Derived.OrdersHeld
import Derived.OrdersIn
import Derived.RangeFuncRecord
namespace Go.Sx
open Go.RowKit (Below)

variable {T : FuncId → Pred} {w0 : World} {R0 : Bs T}

def SigOk (T : FuncId → Pred) (cfg : Cfg) : Prop := ∀ g sg, cfg.sig g = some sg → ConOK cfg.P g sg (T g) ∧ sg.args.all roSh = true

def markD (b : Nat) : Deferred := { target := .collected b, args := #[] }

/-- The activation's deferred calls are marks of loops over functions. -/
def DR (ow : Nat → Option Owner) (a : Act) : Prop := ∃ Ds : List Nat, a.defers = Ds.map markD ∧ (∀ d ∈ Ds, ow d = some (.mark 0)) ∧ Ds.Nodup

def TD (bl : List Nat) (vs : List Value) (ow : Nat → Option Owner) (tmps : List (SV (sem T))) (a : Act) : Prop := DR ow a ∧ SVRs bl vs tmps a.tmps.toList

theorem TD.tr {bl : List Nat} {vs : List Value} {ow : Nat → Option Owner} {tmps : List (SV (sem T))} {a : Act} (h : TD bl vs ow tmps a) : TR bl vs tmps a := ⟨trivial, h.2⟩

theorem DR.mono {ow ow' : Nat → Option Owner} {a : Act} (h : DR ow a) (hm : ∀ {l : Nat} b, ow b = some (.mark l) → ow' b = some (.mark l)) : DR ow' a := by
  obtain ⟨Ds, h1, h2, h3⟩ := h
  exact ⟨Ds, h1, fun d hd => hm d (h2 d hd), h3⟩

/-- What is asked of calls in place: no rounds of loops among them. -/
def InlC (cfg : Cfg) (w0 : World) (R0 : Bs T) (inl : Inl (sem T)) : Prop :=
  (∀ (path : Nat) (f : FuncId) (args : List (SV (sem T))) (vals : List Value) (st : St (sem T)) (k : SV (sem T) → St (sem T) → Tree (sem T)) (bl : List Nat) (vs : List Value) (R : Nat → Prop) (ow : Nat → Option Owner) (w : World),
    HR cfg.P w0 R0 bl vs R ow st.boxes st.ents w → SVRs bl vs args vals → (inl path (.fn f) args st k).den → CallOk cfg.P w0 R0 bl vs ow st w f vals k) ∧
  ∀ (path i : Nat) (args : List (SV (sem T))) (st : St (sem T)) (k : SV (sem T) → St (sem T) → Tree (sem T)), ¬ (inl path (.yld i) args st k).den

/-- What a round of a loop must come to. -/
def YieldOk (P : Program) (w0 : World) (R0 : Bs T) (bl : List Nat) (vs : List Value) (ow : Nat → Option Owner) (st : St (sem T)) (w : World) (i : Nat) (vals : List Value) (k : SV (sem T) → St (sem T) → Tree (sem T)) : Prop :=
  ∃ b, bl[i]? = some b ∧ ∃ fn tmps assign body, (Instr.yield b vals.toArray).run P w = .ok (.round b fn tmps assign body) w ∧
    ∀ n, RoundIn Fence.wide n P b fn tmps assign body w fun e w' => ∃ v, e = .returned v ∧ ∃ sv st' bl' vs' R' ow', Stp P w0 R0 bl vs ow st bl' vs' R' ow' st' w' ∧ st'.tmps = st.tmps ∧ SVR bl' vs' sv v ∧ (k sv st').den

def InlOk (cfg : Cfg) (w0 : World) (R0 : Bs T) (inl : Inl (sem T)) : Prop :=
  ∀ (path : Nat) (g : Fi) (args : List (SV (sem T))) (vals : List Value) (st : St (sem T)) (k : SV (sem T) → St (sem T) → Tree (sem T)) (bl : List Nat) (vs : List Value) (R : Nat → Prop) (ow : Nat → Option Owner) (w : World),
    HR cfg.P w0 R0 bl vs R ow st.boxes st.ents w → SVRs bl vs args vals → (inl path g args st k).den → match g with
      | .fn f => CallOk cfg.P w0 R0 bl vs ow st w f vals k
      | .yld i => YieldOk cfg.P w0 R0 bl vs ow st w i vals k

def Reach (P : Program) (w0 : World) (R0 : Bs T) (bl : List Nat) (vs : List Value) (ow : Nat → Option Owner) (st : St (sem T)) (Kp : St (sem T) → Prop) (a' : Act) (w' : World) : Prop :=
  ∃ bl' vs' R' ow' st', Stp P w0 R0 bl vs ow st bl' vs' R' ow' st' w' ∧ TD bl' vs' ow' st'.tmps a' ∧ Kp st'

section
variable {P : Program} {w : World} {R : Nat → Prop} {bl : List Nat} {vs : List Value} {ow : Nat → Option Owner} {st : St (sem T)} {a : Act}

/-- The slots outside D hold what they held. -/
def Keeps (D : List Nat) (a a' : Act) : Prop := a'.tmps.size = a.tmps.size ∧ ∀ t, t ∉ D → a'.tmps[t]? = a.tmps[t]?

theorem Keeps.refl (D : List Nat) (a : Act) : Keeps D a a := ⟨rfl, fun _ _ => rfl⟩
theorem Keeps.trans {D : List Nat} {a b c : Act} (h : Keeps D a b) (k : Keeps D b c) : Keeps D a c := ⟨k.1.trans h.1, fun t ht => (k.2 t ht).trans (h.2 t ht)⟩
theorem Keeps.mono {D D' : List Nat} {a b : Act} (h : Keeps D a b) (hD : ∀ t, t ∈ D → t ∈ D') : Keeps D' a b := ⟨h.1, fun t ht => h.2 t (fun hh => ht (hD t hh))⟩
theorem Keeps.put {D : List Nat} {a : Act} {d : Option Nat} {v : Value} (h : ∀ x, d = some x → x ∈ D) : Keeps D a (a.put d v) := ⟨by cases d <;> simp [Act.put], fun t ht => by
  cases d with
  | none => rfl
  | some d =>
    simp only [Act.put]
    rw [Array.getElem?_setIfInBounds_ne (fun e : d = t => ht (by rw [← e]; exact h d rfl))]⟩

theorem Reach.of {bl1 : List Nat} {vs1 : List Value} {R1 : Nat → Prop} {ow1 : Nat → Option Owner} {st1 : St (sem T)} {w1 : World} {Kp : St (sem T) → Prop} {a' : Act} {w' : World} (h : Stp P w0 R0 bl vs ow st bl1 vs1 R1 ow1 st1 w1) (hr : Reach P w0 R0 bl1 vs1 ow1 st1 Kp a' w') : Reach P w0 R0 bl vs ow st Kp a' w' := by
  obtain ⟨bl', vs', R', ow', st', h1, h2, h3⟩ := hr
  exact ⟨bl', vs', R', ow', st', h.trans h1, h2, h3⟩

theorem SVRs.set : ∀ {s : List (SV (sem T))} {v : List Value} {i : Nat} {x : SV (sem T)} {u : Value}, SVRs bl vs s v → SVR bl vs x u → SVRs bl vs (s.set i x) (v.set i u)
  | [], [], _, _, _, _, _ => by simp [SVRs]
  | _ :: _, _ :: _, 0, _, _, h, hx => ⟨hx, h.2⟩
  | _ :: _, _ :: _, i + 1, _, _, h, hx => ⟨h.1, h.2.set hx⟩
  | [], _ :: _, _, _, _, h, _ => h.elim
  | _ :: _, [], _, _, _, h, _ => h.elim

theorem TD.put (h : TD bl vs ow st.tmps a) (d : Option Nat) {sv : SV (sem T)} {v : Value} (hs : SVR bl vs sv v) : TD bl vs ow (setTmp st d sv).tmps (a.put d v) := by
  cases d with
  | none => exact h
  | some d =>
    refine ⟨?_, by simp only [setTmp, Act.put, Array.toList_setIfInBounds]; exact h.2.set hs⟩
    obtain ⟨Ds, h1, h2⟩ := h.1
    exact ⟨Ds, h1, h2⟩

theorem TD.mono {bl' : List Nat} {vs' : List Value} {ow' : Nat → Option Owner} (h : TD bl vs ow st.tmps a) (hb : ∀ (i : Nat) (b : Nat), bl[i]? = some b → bl'[i]? = some b) (hv : ∀ (i : Nat) (b : Value), vs[i]? = some b → vs'[i]? = some b)
    (hm : ∀ {l : Nat} b, ow b = some (.mark l) → ow' b = some (.mark l)) : TD bl' vs' ow' st.tmps a :=
  ⟨h.1.mono hm, h.2.mono hb hv⟩

/-- A slot whose value is known to be another: the frame is the same. -/
theorem TD.same (h : TD bl vs ow st.tmps a) {d : Nat} {sv : SV (sem T)} (hs : ∀ v, a.tmps[d]? = some v → SVR bl vs sv v) : TD bl vs ow (st.tmps.set d sv) a := by
  refine ⟨h.1, ?_⟩
  have key : ∀ (s : List (SV (sem T))) (l : List Value) (d : Nat), SVRs bl vs s l → (∀ v, l[d]? = some v → SVR bl vs sv v) → SVRs bl vs (s.set d sv) l := by
    intro s
    induction s with
    | nil => intro l d h _; simpa using h
    | cons x s ih =>
      intro l d h hs
      cases l with
      | nil => exact h.elim
      | cons v l =>
        cases d with
        | zero => exact ⟨hs v rfl, h.2⟩
        | succ d => exact ⟨h.1, ih l d h.2 (fun u hu => hs u (by simpa using hu))⟩
  exact key _ _ _ h.2 (fun v hv => hs v (by simpa using hv))

theorem stepOp_sound {cfg : Cfg} {inl : Inl (sem T)} (hsig : SigOk T cfg) (hinl : InlC cfg w0 R0 inl) {path : Nat} {o : Oper} (h : HR cfg.P w0 R0 bl vs R ow st.boxes st.ents w) (ht : TD bl vs ow st.tmps a)
    {kk : SV (sem T) → St (sem T) → Tree (sem T)} (hd : (stepOp cfg inl path st o kk).den) (Q : Exit → Act → World → Prop) :
    o.wp cfg.P a w (fun a' w' => ∃ v sv st' bl' vs' R' ow', a' = a.put o.dst v ∧ Stp cfg.P w0 R0 bl vs ow st bl' vs' R' ow' st' w' ∧ st'.tmps = st.tmps ∧ SVR bl' vs' sv v ∧ (kk sv st').den) Q := by
  unfold stepOp at hd
  split at hd
  · rename_i p hp
    obtain ⟨hns, hd⟩ := needs_den.1 hd
    obtain ⟨v, hr, hs, hg⟩ := pure_sound h.look ht.tr hp hns
    unfold Oper.wp
    rw [hr]
    exact ⟨v, p.v, st, bl, vs, R, ow, rfl, (Stp.refl h), rfl, hs, (givens_den.1 hd) hg⟩
  · split at hd
    · rename_i f args hc
      split at hd
      · rename_i hgo
        have hcall : ∃ vals, SVRs bl vs args vals ∧ (execOp a.eval o).run cfg.P w = .ok (.enter f vals.toArray) w := by
          unfold callee at hc
          split at hc
          · rename_i fo as tys ho
            split at hc
            · rename_i g caps hfo
              cases hc
              have hf := ev_sound ht.tr fo
              rw [hfo] at hf
              obtain ⟨cs, hfv, hcs⟩ := hf
              refine ⟨as.toList.map a.eval ++ cs.toList, (evs_sound ht.tr as.toList).append hcs, ?_⟩
              unfold goBody at hgo
              split at hgo
              · rename_i fn hfn
                simp only [Bool.and_eq_true, bne_iff_ne, ne_eq] at hgo
                have hbn : fn.body.isNone = false := by
                  cases hb : fn.body with
                  | none => rw [hb] at hgo; simp at hgo
                  | some _ => rfl
                have hne : (fn.name == "runtime.NumGoroutine") = false := by simpa using hgo.1
                simp only [execOp, ho, resolve, hfv, Deferred.ofValue, invoke, callFunc, Sem.run_bind, Sem.run_pure, Result.andThen_ok, run_program, hfn, hne, hbn, Bool.false_eq_true, if_false]
                congr 2
                rw [← Array.toList_inj]
                simp
              · cases hgo
            · cases hc
            · cases hc
          · cases hc
        obtain ⟨vals, hvals, hrun⟩ := hcall
        have hok : CallOk cfg.P w0 R0 bl vs ow st w f vals kk := by
          split at hd
          · rename_i sg hsg
            obtain ⟨h1, h2⟩ := hsig f sg hsg
            exact callC_sound h1 h2 h hvals hd
          · exact hinl.1 path f args vals st kk bl vs R ow w h hvals hd
        unfold Oper.wp
        rw [hrun, Oper.upon_enter]
        refine hok.mono ?_
        rintro e w' ⟨v, rfl, sv, st', bl', vs', R', ow', g1, g2, g3, g4⟩
        exact ⟨v, sv, st', bl', vs', R', ow', rfl, g1, g2, g3, g4⟩
      · exact hd.elim
    · exact (hinl.2 _ _ _ _ _ hd).elim
    · obtain ⟨v, w', hr, sv, st', bl', vs', R', ow', g1, g2, g3, g4⟩ := eff_sound h ht.tr hd
      unfold Oper.wp
      rcases hr with hr | ⟨hr, rfl⟩
      · rw [hr]; exact ⟨v, sv, st', bl', vs', R', ow', rfl, g1, g2, g3, g4⟩
      · rw [hr]; exact ⟨undef, sv, st', bl', vs', R', ow', rfl, g1, g2, g3, g4⟩

theorem tmp_get (ht : TD bl vs ow st.tmps a) {d : Nat} {s : SV (sem T)} (h : st.tmps[d]? = some s) : ∃ v, a.tmps[d]? = some v ∧ SVR bl vs s v := by
  obtain ⟨v, hv, hs⟩ := ht.2.get h
  exact ⟨v, by simpa using hv, hs⟩

/-- An operation under its guard. -/
theorem guardK_sound {ops : Array Oper} {o : Oper} (h : HR P w0 R0 bl vs R ow st.boxes st.ents w) (ht : TD bl vs ow st.tmps a) {yes no : St (sem T) → Tree (sem T)} (hd : (guardK ops o st yes no).den) :
    ∃ st1, Stp P w0 R0 bl vs ow st bl vs R ow st1 w ∧ TD bl vs ow st1.tmps a ∧ ((Region.wanted o (yielded ops a.tmps) = true ∧ (yes st1).den) ∨ (Region.wanted o (yielded ops a.tmps) = false ∧ (no st1).den)) := by
  have hS : Stp P w0 R0 bl vs ow st bl vs R ow st w := (Stp.refl h)
  unfold guardK at hd
  split at hd
  · rename_i hg
    exact ⟨st, hS, ht, .inl ⟨by simp [Region.wanted, hg], hd⟩⟩
  · rename_i j want hg
    split at hd
    · rename_i hj
      exact ⟨st, hS, ht, .inr ⟨by simp [Region.wanted, hg, yielded, hj], hd⟩⟩
    · rename_i d hj
      split at hd
      · rename_i b hb
        obtain ⟨v, hv, hs⟩ := tmp_get ht hb
        have hs : v = .bool b := hs
        subst hs
        have hy : yielded ops a.tmps j = some b := by simp [yielded, hj, hv]
        split at hd
        · rename_i hbw
          have : b = want := by simpa using hbw
          exact ⟨st, hS, ht, .inl ⟨by simp [Region.wanted, hg, hy, this], hd⟩⟩
        · rename_i hbw
          have : b ≠ want := by simpa using hbw
          exact ⟨st, hS, ht, .inr ⟨by simp [Region.wanted, hg, hy, this], hd⟩⟩
      · rename_i b hb
        obtain ⟨v, hv, hs⟩ := tmp_get ht hb
        have hs : v = .bool b.b := hs
        subst hs
        have hy : yielded ops a.tmps j = some b.b := by simp [yielded, hj, hv]
        obtain ⟨hd1, hd2⟩ := hd
        have hlit : ∀ c : Bool, b.b = c → TD bl vs ow (st.tmps.set d (.blit c)) a := fun c hc => ht.same (fun u hu => by rw [hv] at hu; cases hu; exact congrArg Value.bool hc)
        have hst : ∀ c : Bool, Stp P w0 R0 bl vs ow st bl vs R ow { st with tmps := st.tmps.set d (.blit c) } w := fun c => ⟨h, fun _ _ x => x, fun _ _ x => x, ⟨(Ext.refl st).box, (Ext.refl st).ent⟩, fun _ x => x⟩
        by_cases hp : b.p
        · have hbt : b.b = true := by simp [PB.b, hp]
          have hd1 := hd1 hp
          refine ⟨_, hst true, hlit true hbt, ?_⟩
          cases want with
          | true => exact .inl ⟨by simp [Region.wanted, hg, hy, hbt], hd1⟩
          | false => exact .inr ⟨by simp [Region.wanted, hg, hy, hbt], hd1⟩
        · have hbt : b.b = false := by simp [PB.b, hp]
          have hd2 := hd2 hp
          refine ⟨_, hst false, hlit false hbt, ?_⟩
          cases want with
          | true => exact .inr ⟨by simp [Region.wanted, hg, hy, hbt], hd2⟩
          | false => exact .inl ⟨by simp [Region.wanted, hg, hy, hbt], hd2⟩
      · rename_i us hb
        obtain ⟨v, hv, hs⟩ := tmp_get ht hb
        have hs : v = .tuple us := hs
        subst hs
        have hy : yielded ops a.tmps j = none := by simp [yielded, hj, hv]
        exact ⟨st, hS, ht, .inr ⟨by simp [Region.wanted, hg, hy], hd⟩⟩
      · exact hd.elim

theorem oneOp_sound {cfg : Cfg} {inl : Inl (sem T)} (hsig : SigOk T cfg) (hinl : InlC cfg w0 R0 inl) {path : Nat} {ops : Array Oper} {o : Oper} (h : HR cfg.P w0 R0 bl vs R ow st.boxes st.ents w) (ht : TD bl vs ow st.tmps a)
    {k : St (sem T) → Tree (sem T)} (hd : (oneOp cfg inl path ops st o k).den) (Q : Exit → Act → World → Prop) :
    if Region.wanted o (yielded ops a.tmps) then o.wp cfg.P a w (fun a' w' => (∃ v, a' = a.put o.dst v) ∧ Reach cfg.P w0 R0 bl vs ow st (fun st' => (k st').den) a' w') Q else Reach cfg.P w0 R0 bl vs ow st (fun st' => (k st').den) (a.put o.dst undef) w := by
  unfold oneOp at hd
  obtain ⟨st1, hS, ht1, hw | hw⟩ := guardK_sound h ht hd
  · rw [if_pos hw.1]
    refine Oper.wp_mono ?_ (stepOp_sound hsig hinl hS.hr ht1 hw.2 Q)
    rintro a' w' ⟨v, sv, st', bl', vs', R', ow', rfl, g1, g2, g3, g4⟩
    refine ⟨⟨v, rfl⟩, bl', vs', R', ow', setTmp st' o.dst sv, ?_, ?_, g4⟩
    · have := hS.trans g1
      cases hdst : o.dst with
      | none => exact this
      | some d => exact ⟨this.hr, this.bl, this.vs, ⟨this.ext.box, this.ext.ent⟩, this.mrk⟩
    · have : TD bl' vs' ow' st'.tmps a := by rw [g2]; exact ht1.mono g1.bl g1.vs g1.mrk
      exact this.put o.dst g3
  · rw [if_neg (by simp [hw.1])]
    refine ⟨bl, vs, R, ow, setTmp st1 o.dst (.con (.tuple #[])), ?_, ht1.put o.dst rfl, hw.2⟩
    cases hdst : o.dst with
    | none => exact hS
    | some d => exact ⟨hS.hr, hS.bl, hS.vs, ⟨hS.ext.box, hS.ext.ent⟩, hS.mrk⟩

theorem decided_sound {x : Operand} (h : HR P w0 R0 bl vs R ow st.boxes st.ents w) (ht : TD bl vs ow st.tmps a) {k : St (sem T) → Tree (sem T)} (hd : (decided x st k).den) :
    ∃ st1, Stp P w0 R0 bl vs ow st bl vs R ow st1 w ∧ TD bl vs ow st1.tmps a ∧ (k st1).den := by
  have hS : Stp P w0 R0 bl vs ow st bl vs R ow st w := (Stp.refl h)
  unfold decided at hd
  split at hd
  · rename_i t
    split at hd
    · rename_i b hb
      obtain ⟨v, hv, hs⟩ := tmp_get ht hb
      have hs : v = .bool b.b := hs
      subst hs
      have hlit : ∀ c : Bool, b.b = c → TD bl vs ow (st.tmps.set t (.blit c)) a := fun c hc => ht.same (fun u hu => by rw [hv] at hu; cases hu; exact congrArg Value.bool hc)
      have hst : ∀ c : Bool, Stp P w0 R0 bl vs ow st bl vs R ow { st with tmps := st.tmps.set t (.blit c) } w := fun c => ⟨h, fun _ _ x => x, fun _ _ x => x, ⟨(Ext.refl st).box, (Ext.refl st).ent⟩, fun _ x => x⟩
      by_cases hp : b.p
      · exact ⟨_, hst true, hlit true (by simp [PB.b, hp]), hd.1 hp⟩
      · exact ⟨_, hst false, hlit false (by simp [PB.b, hp]), hd.2 hp⟩
    · exact ⟨st, hS, ht, hd⟩
  · exact ⟨st, hS, ht, hd⟩
end

/-! ### In whatever frame: a function's, or a round's -/

def FZ (rnd : Option Nat) : Fence := { Fence.wide with round := rnd }

theorem callsIn_FZ {rnd : Option Nat} {n : Nat} {P : Program} {f : FuncId} {args : Array Value} {w : World} {R : Ending → World → Prop} : CallsIn (FZ rnd) n P f args w R ↔ Calls P f args w R := callsIn_wide (n := n)

theorem rowsIn_FZ {rnd : Option Nat} {n : Nat} {P : Program} {row : String} {args : Array Value} {w : World} {R : Value → World → Prop} (h : Rows P row args w R) : RowsIn (FZ rnd) n P row args w R := fun c cs _ => by
  obtain ⟨v, w', h1, h2⟩ := h c cs
  exact ⟨v, w', h1, stepsIn_wide.2 h2⟩

/-- What is known of an operation in a function's frame is known of it in every frame. -/
theorem opIn {P : Program} {rnd : Option Nat} {n : Nat} {o : Oper} {a : Act} {w : World} {next : Act → World → Prop} {Q : Exit → Act → World → Prop} (hd : ∀ c, o.op ≠ .defer c) (h : o.wp P a w next Q) : o.wpIn (FZ rnd) n P a w next Q := by
  refine ⟨fun f _ => trivial, ?_⟩
  rw [Oper.semAt_eq _ _ _ hd]
  unfold Oper.wp at h
  generalize (execOp a.eval o).run P w = r at h ⊢
  cases r with
  | ok x w' =>
    cases x with
    | value v => exact h
    | skip => exact h
    | defer d => exact h
    | enter f args => exact ⟨(fun hh => nomatch hh), callsIn_FZ.2 h⟩
    | row row args => exact ⟨(fun hh => nomatch hh), rowsIn_FZ h⟩
    | _ => exact h.elim
  | halt x w' =>
    cases x <;> first | exact h | exact h.elim

section
variable {P : Program} {w : World} {R : Nat → Prop} {bl : List Nat} {vs : List Value} {ow : Nat → Option Owner} {st : St (sem T)} {a : Act} {rnd : Option Nat} {n : Nat}

theorem pureOp_nodefer {o : Oper} {p : Pu (sem T)} (h : pureOp P st o = some p) : ∀ c, o.op ≠ .defer c := fun c e => by
  simp [pureOp, e] at h

theorem stepOp_nodefer {cfg : Cfg} {inl : Inl (sem T)} {path : Nat} {o : Oper} {k : SV (sem T) → St (sem T) → Tree (sem T)} (hd : (stepOp cfg inl path st o k).den) : ∀ c, o.op ≠ .defer c := fun c e => by
  unfold stepOp at hd
  have h1 : pureOp cfg.P st o = none := by simp [pureOp, e]
  have h2 : callee st o = none := by simp [callee, e]
  rw [h1, h2] at hd
  simp only [effOp, e] at hd
  exact hd

/-- One operation, in whatever frame. -/
theorem stepOpI_sound {cfg : Cfg} {inl : Inl (sem T)} (hsig : SigOk T cfg) (hinl : InlOk cfg w0 R0 inl) {path : Nat} {o : Oper} (h : HR cfg.P w0 R0 bl vs R ow st.boxes st.ents w) (ht : TD bl vs ow st.tmps a)
    {kk : SV (sem T) → St (sem T) → Tree (sem T)} (hd : (stepOp cfg inl path st o kk).den) (Q : Exit → Act → World → Prop) :
    o.wpIn (FZ rnd) n cfg.P a w (fun a' w' => ∃ v sv st' bl' vs' R' ow', a' = a.put o.dst v ∧ Stp cfg.P w0 R0 bl vs ow st bl' vs' R' ow' st' w' ∧ st'.tmps = st.tmps ∧ SVR bl' vs' sv v ∧ (kk sv st').den) Q := by
  have hnd := stepOp_nodefer hd
  let inl' : Inl (sem T) := fun path g args st k => match g with
    | .fn f => inl path (.fn f) args st k
    | .yld i => .fail "" i
  have hC : InlC cfg w0 R0 inl' := ⟨fun path f args vals st k bl vs R ow w h1 h2 h3 => hinl path (.fn f) args vals st k bl vs R ow w h1 h2 h3, fun path i args st k h => h⟩
  by_cases hy : ∃ i args, pureOp cfg.P st o = none ∧ callee st o = some (.yld i, args)
  · obtain ⟨i, args, hp, hc⟩ := hy
    have hd' : (inl path (.yld i) args st kk).den := by
      unfold stepOp at hd
      rw [hp, hc] at hd
      exact hd
    unfold callee at hc
    split at hc
    · rename_i fo as tys ho
      split at hc
      · cases hc
      · rename_i i' hfo
        cases hc
        have hf := ev_sound ht.tr fo
        rw [hfo] at hf
        obtain ⟨b, hb, hfv⟩ := hf
        have hvals := evs_sound ht.tr as.toList
        obtain ⟨b', hb', fn, tmps, assign, body, hrun, hround⟩ := hinl path (.yld i) _ _ st kk bl vs R ow w h hvals hd'
        rw [hb] at hb'; cases hb'
        refine ⟨fun f _ => trivial, ?_⟩
        rw [Oper.semAt_eq _ _ _ hnd]
        have hex : (execOp a.eval o).run cfg.P w = .ok (.round b fn tmps assign body) w := by
          simp only [execOp, ho, resolve, hfv, Deferred.ofValue, invoke, Sem.run_bind, Sem.run_pure, Result.andThen_ok]
          have e : (as.toList.map a.eval).toArray = as.map a.eval := by rw [← Array.toList_inj]; simp
          rw [e] at hrun
          simpa using hrun
        rw [hex, Oper.uponIn_round]
        refine ⟨(fun hh => nomatch hh), ?_⟩
        have hR : RoundIn (FZ rnd) (n - 1) cfg.P b fn tmps assign body w fun e w' => ∃ v, e = .returned v ∧ ∃ sv st' bl' vs' R' ow', Stp cfg.P w0 R0 bl vs ow st bl' vs' R' ow' st' w' ∧ st'.tmps = st.tmps ∧ SVR bl' vs' sv v ∧ (kk sv st').den := hround (n - 1)
        refine hR.mono ?_
        rintro e w' ⟨v, rfl, sv, st', bl', vs', R', ow', g1, g2, g3, g4⟩
        exact ⟨v, sv, st', bl', vs', R', ow', rfl, g1, g2, g3, g4⟩
      · cases hc
    · cases hc
  · have hd' : (stepOp cfg inl' path st o kk).den := by
      unfold stepOp at hd ⊢
      split
      · rename_i p hp
        rw [hp] at hd
        exact hd
      · rename_i hp
        rw [hp] at hd
        split
        · rename_i f args hc
          rw [hc] at hd
          exact hd
        · rename_i i args hc
          exact absurd ⟨i, args, hp, hc⟩ hy
        · rename_i hc
          rw [hc] at hd
          exact hd
    exact opIn hnd (stepOp_sound hsig hC h ht hd' Q)

theorem wpInOp_mono {F : Fence} {o : Oper} {K K' : Act → World → Prop} {Q : Exit → Act → World → Prop} (h : ∀ a w, K a w → K' a w) (hw : o.wpIn F n P a w K Q) : o.wpIn F n P a w K' Q := Oper.wpIn_mono h hw

theorem oneOpI_sound {cfg : Cfg} {inl : Inl (sem T)} (hsig : SigOk T cfg) (hinl : InlOk cfg w0 R0 inl) {path : Nat} {ops : Array Oper} {o : Oper} (h : HR cfg.P w0 R0 bl vs R ow st.boxes st.ents w) (ht : TD bl vs ow st.tmps a)
    {k : St (sem T) → Tree (sem T)} (hd : (oneOp cfg inl path ops st o k).den) (Q : Exit → Act → World → Prop) :
    if Region.wanted o (yielded ops a.tmps) then o.wpIn (FZ rnd) n cfg.P a w (fun a' w' => (∃ v, a' = a.put o.dst v) ∧ Reach cfg.P w0 R0 bl vs ow st (fun st' => (k st').den) a' w') Q else Reach cfg.P w0 R0 bl vs ow st (fun st' => (k st').den) (a.put o.dst undef) w := by
  unfold oneOp at hd
  obtain ⟨st1, hS, ht1, hw | hw⟩ := guardK_sound h ht hd
  · rw [if_pos hw.1]
    refine wpInOp_mono ?_ (stepOpI_sound hsig hinl hS.hr ht1 hw.2 Q)
    rintro a' w' ⟨v, sv, st', bl', vs', R', ow', rfl, g1, g2, g3, g4⟩
    refine ⟨⟨v, rfl⟩, bl', vs', R', ow', setTmp st' o.dst sv, ?_, ?_, g4⟩
    · have := hS.trans g1
      cases hdst : o.dst with
      | none => exact this
      | some d => exact ⟨this.hr, this.bl, this.vs, ⟨this.ext.box, this.ext.ent⟩, this.mrk⟩
    · have : TD bl' vs' ow' st'.tmps a := by rw [g2]; exact ht1.mono g1.bl g1.vs g1.mrk
      exact this.put o.dst g3
  · rw [if_neg (by simp [hw.1])]
    refine ⟨bl, vs, R, ow, setTmp st1 o.dst (.con (.tuple #[])), ?_, ht1.put o.dst rfl, hw.2⟩
    cases hdst : o.dst with
    | none => exact hS
    | some d => exact ⟨hS.hr, hS.bl, hS.vs, ⟨hS.ext.box, hS.ext.ent⟩, hS.mrk⟩

/-- The operations of a region, one after the other, in whatever frame. -/
def wpLI (F : Fence) (n : Nat) (P : Program) (ops : Array Oper) (Q : Exit → Act → World → Prop) : List Oper → Act → World → Prop
  | [], a, w => Q .normal a w
  | o :: rest, a, w => if Region.wanted o (yielded ops a.tmps) then o.wpIn F n P a w (wpLI F n P ops Q rest) Q else wpLI F n P ops Q rest (a.put o.dst undef) w

theorem wpLI_ops {ops : Array Oper} {Q : Exit → Act → World → Prop} : ∀ (l : List Oper) (k : Nat) (a : Act) (w : World), (∀ j, l[j]? = ops[k + j]?) → wpLI (FZ rnd) n P ops Q l a w → wpOpsIn (FZ rnd) n P ops Q (List.range' k l.length) a w
  | [], k, a, w, _, h => h
  | o :: l, k, a, w, hl, h => by
    have ho : ops[k]? = some o := by have := hl 0; simpa using this.symm
    have hl' : ∀ j, l[j]? = ops[k + 1 + j]? := fun j => by
      have := hl (j + 1)
      rw [show k + 1 + j = k + (j + 1) by omega]
      simpa using this
    simp only [List.length_cons, List.range'_succ]
    unfold wpOpsIn
    simp only [ho]
    unfold wpLI at h
    split at h
    · rename_i hw
      rw [if_pos hw]
      exact Oper.wpIn_mono (fun a w h => wpLI_ops l (k + 1) a w hl' h) h
    · rename_i hw
      rw [if_neg hw]
      exact ⟨fun f _ => trivial, wpLI_ops l (k + 1) _ w hl' h⟩

theorem wp_region_LI {id : Nat} {ops : Array Oper} {Q : Exit → Act → World → Prop} (h : wpLI (FZ rnd) n P ops Q ops.toList a w) : (Code.region id ops false).wpIn (FZ rnd) n P Q a w := by
  refine wpIn_region ?_
  rw [List.range_eq_range', ← Array.length_toList]
  exact wpLI_ops ops.toList 0 a w (fun j => by simp) h

/-- A region that draws its order: what is known of it in a function's frame is known of it in every frame. -/
theorem wpOps_in {ops : Array Oper} {Q : Exit → Act → World → Prop} (hL : ¬ LetsOut Q) (hn : noDefer ops = true) : ∀ (l : List Nat) (a : Act) (w : World), wpOps P ops Q l a w → wpOpsIn (FZ rnd) n P ops Q l a w
  | [], _, _, h => h
  | i :: rest, a, w, h => by
    unfold wpOps at h
    unfold wpOpsIn
    split at h
    · rename_i hi
      simp only [hi]
      exact wpOps_in hL hn rest a w h
    · rename_i o hi
      simp only [hi]
      have hnd : ∀ c, o.op ≠ .defer c := fun c e => by
        have := List.all_eq_true.1 hn o (by simpa using Array.mem_of_getElem? hi)
        rw [e] at this
        cases this
      split at h
      · rename_i hw
        rw [if_pos hw]
        exact Oper.wpIn_mono (fun a w h => wpOps_in hL hn rest a w h) (opIn hnd (h.resolve_right fun hh => hL hh.2))
      · rename_i hw
        rw [if_neg hw]
        exact ⟨fun f _ => trivial, wpOps_in hL hn rest _ w h⟩

end

/-- A region in the text's order. -/
theorem runOps_sound {cfg : Cfg} {inl : Inl (sem T)} (hsig : SigOk T cfg) (hinl : InlOk cfg w0 R0 inl) {rnd : Option Nat} {n : Nat} {path : Nat} {ops : Array Oper} {Q : Exit → Act → World → Prop} : ∀ (rest : List Oper) {bl : List Nat} {vs : List Value} {R : Nat → Prop} {ow : Nat → Option Owner} {st : St (sem T)} {a : Act} {w : World},
    HR cfg.P w0 R0 bl vs R ow st.boxes st.ents w → TD bl vs ow st.tmps a → ∀ {k : St (sem T) → Tree (sem T)}, (runOps cfg inl path ops rest st k).den →
    (∀ a' w', Keeps (rest.filterMap (·.dst)) a a' → Reach cfg.P w0 R0 bl vs ow st (fun st' => (k st').den) a' w' → Q .normal a' w') → wpLI (FZ rnd) n cfg.P ops Q rest a w
  | [], bl, vs, R, ow, st, a, w, h, ht, k, hd, hQ => hQ a w (Keeps.refl _ _) ⟨bl, vs, R, ow, st, Stp.refl h, ht, hd⟩
  | o :: rest, bl, vs, R, ow, st, a, w, h, ht, k, hd, hQ => by
    have main : ∀ st1, Stp cfg.P w0 R0 bl vs ow st bl vs R ow st1 w → TD bl vs ow st1.tmps a → (oneOp cfg inl path ops st1 o fun st => runOps cfg inl path ops rest st k).den → wpLI (FZ rnd) n cfg.P ops Q (o :: rest) a w := by
      intro st1 hS ht1 hd1
      have hone := oneOpI_sound (rnd := rnd) (n := n) hsig hinl hS.hr ht1 hd1 Q
      have hnext : ∀ a' w', ((∃ v, a' = a.put o.dst v) ∧ Reach cfg.P w0 R0 bl vs ow st1 (fun st' => (runOps cfg inl path ops rest st' k).den) a' w') → wpLI (FZ rnd) n cfg.P ops Q rest a' w' := by
        rintro a' w' ⟨⟨v, rfl⟩, bl', vs', R', ow', st', g1, g2, g3⟩
        refine runOps_sound hsig hinl rest g1.hr g2 g3 (fun a2 w2 hkp hr => hQ a2 w2 (Keeps.trans (Keeps.put (fun x hx => ?_)) (hkp.mono fun t ht => ?_)) ((hr.of g1).of hS))
        · simp [List.filterMap_cons, hx]
        · simp only [List.filterMap_cons]; split <;> simp [ht]
      unfold wpLI
      split at hone
      · rename_i hw
        rw [if_pos hw]
        exact Oper.wpIn_mono hnext hone
      · rename_i hw
        rw [if_neg hw]
        exact hnext _ _ ⟨⟨undef, rfl⟩, hone⟩
    unfold runOps at hd
    split at hd
    · obtain ⟨st1, hS, ht1, hd1⟩ := decided_sound h ht hd
      exact main st1 hS ht1 hd1
    · exact main st (Stp.refl h) ht hd

end Go.Sx
