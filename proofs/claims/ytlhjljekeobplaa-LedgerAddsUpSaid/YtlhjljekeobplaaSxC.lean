/-
  One operation and regions: in the text's order, and in whatever order the tape draws. Conditions: the contracts hold of the callees.
-/
import Derived.Test.YtlhjljekeobplaaSxB
import Derived.OrdersHeld
namespace Go.Sx
open Go.RowKit (Below)

variable {T : FuncId → Pred} {w0 : World} {R0 : Nat → Prop}

def SigOk (T : FuncId → Pred) (cfg : Cfg) : Prop := ∀ g sg, cfg.sig g = some sg → ConOK cfg.P g sg (T g) ∧ sg.args.all roSh = true

def InlOk (cfg : Cfg) (w0 : World) (R0 : Nat → Prop) (inl : Inl (sem T)) : Prop :=
  ∀ (path : Nat) (f : FuncId) (args : List (SV (sem T))) (vals : List Value) (st : St (sem T)) (k : SV (sem T) → St (sem T) → Tree (sem T)) (bl : List Nat) (vs : List Value) (R : Nat → Prop) (ow : Nat → Option Owner) (w : World),
    HR cfg.P w0 R0 bl vs R ow st.boxes st.ents w → SVRs bl vs args vals → (inl path f args st k).den → CallOk cfg.P w0 R0 bl vs st w f vals k

def Reach (P : Program) (w0 : World) (R0 : Nat → Prop) (bl : List Nat) (vs : List Value) (st : St (sem T)) (Kp : St (sem T) → Prop) (a' : Act) (w' : World) : Prop :=
  ∃ bl' vs' R' ow' st', Stp P w0 R0 bl vs st bl' vs' R' ow' st' w' ∧ TR bl' vs' st'.tmps a' ∧ Kp st'

section
variable {P : Program} {w : World} {R : Nat → Prop} {bl : List Nat} {vs : List Value} {ow : Nat → Option Owner} {st : St (sem T)} {a : Act}

/-- The slots outside D hold what they held. -/
def Keeps (D : List Nat) (a a' : Act) : Prop := a'.tmps.size = a.tmps.size ∧ ∀ t, t ∉ D → a'.tmps[t]? = a.tmps[t]?

theorem Keeps.refl (D : List Nat) (a : Act) : Keeps D a a := ⟨rfl, fun _ _ => rfl⟩
theorem Keeps.trans {D : List Nat} {a b c : Act} (h : Keeps D a b) (k : Keeps D b c) : Keeps D a c := ⟨k.1.trans h.1, fun t ht => (k.2 t ht).trans (h.2 t ht)⟩
theorem Keeps.mono {D D' : List Nat} {a b : Act} (h : Keeps D a b) (hD : ∀ t, t ∈ D → t ∈ D') : Keeps D' a b := ⟨h.1, fun t ht => h.2 t (fun hh => ht (hD t hh))⟩
theorem Keeps.put {D : List Nat} {a : Act} {d : Option Nat} {v : Value} (h : ∀ x, d = some x → x ∈ D) : Keeps D a (a.put d v) := ⟨by cases d <;> simp [Act.put], fun t ht => by
  cases d with
  | none => rfl
  | some d =>
    simp only [Act.put]
    rw [Array.getElem?_setIfInBounds_ne (fun e : d = t => ht (by rw [← e]; exact h d rfl))]⟩

theorem Reach.of {bl1 : List Nat} {vs1 : List Value} {R1 : Nat → Prop} {ow1 : Nat → Option Owner} {st1 : St (sem T)} {w1 : World} {Kp : St (sem T) → Prop} {a' : Act} {w' : World} (h : Stp P w0 R0 bl vs st bl1 vs1 R1 ow1 st1 w1) (hr : Reach P w0 R0 bl1 vs1 st1 Kp a' w') : Reach P w0 R0 bl vs st Kp a' w' := by
  obtain ⟨bl', vs', R', ow', st', h1, h2, h3⟩ := hr
  exact ⟨bl', vs', R', ow', st', h.trans h1, h2, h3⟩

theorem SVRs.set : ∀ {s : List (SV (sem T))} {v : List Value} {i : Nat} {x : SV (sem T)} {u : Value}, SVRs bl vs s v → SVR bl vs x u → SVRs bl vs (s.set i x) (v.set i u)
  | [], [], _, _, _, _, _ => by simp [SVRs]
  | _ :: _, _ :: _, 0, _, _, h, hx => ⟨hx, h.2⟩
  | _ :: _, _ :: _, i + 1, _, _, h, hx => ⟨h.1, h.2.set hx⟩
  | [], _ :: _, _, _, _, h, _ => h.elim
  | _ :: _, [], _, _, _, h, _ => h.elim

theorem TR.put (h : TR bl vs st.tmps a) (d : Option Nat) {sv : SV (sem T)} {v : Value} (hs : SVR bl vs sv v) : TR bl vs (setTmp st d sv).tmps (a.put d v) := by
  cases d with
  | none => exact h
  | some d => exact ⟨h.1, by simp only [setTmp, Act.put, Array.toList_setIfInBounds]; exact h.2.set hs⟩

theorem TR.mono {bl' : List Nat} {vs' : List Value} (h : TR bl vs st.tmps a) (hb : ∀ (i : Nat) (b : Nat), bl[i]? = some b → bl'[i]? = some b) (hv : ∀ (i : Nat) (b : Value), vs[i]? = some b → vs'[i]? = some b) : TR bl' vs' st.tmps a :=
  ⟨h.1, h.2.mono hb hv⟩

/-- A slot whose value is known to be another: the frame is the same. -/
theorem TR.same (h : TR bl vs st.tmps a) {d : Nat} {sv : SV (sem T)} (hs : ∀ v, a.tmps[d]? = some v → SVR bl vs sv v) : TR bl vs (st.tmps.set d sv) a := by
  refine ⟨h.1, ?_⟩
  have key : ∀ (s : List (SV (sem T))) (l : List Value) (d : Nat), SVRs bl vs s l → (∀ v, l[d]? = some v → SVR bl vs sv v) → SVRs bl vs (s.set d sv) l := by
    intro s
    induction s with
    | nil => intro l d h _; simpa using h
    | cons x s ih =>
      intro l d h hs
      cases l with
      | nil => exact h.elim
      | cons v l =>
        cases d with
        | zero => exact ⟨hs v rfl, h.2⟩
        | succ d => exact ⟨h.1, ih l d h.2 (fun u hu => hs u (by simpa using hu))⟩
  exact key _ _ _ h.2 (fun v hv => hs v (by simpa using hv))

theorem stepOp_sound {cfg : Cfg} {inl : Inl (sem T)} (hsig : SigOk T cfg) (hinl : InlOk cfg w0 R0 inl) {path : Nat} {o : Oper} (h : HR cfg.P w0 R0 bl vs R ow st.boxes st.ents w) (ht : TR bl vs st.tmps a)
    {kk : SV (sem T) → St (sem T) → Tree (sem T)} (hd : (stepOp cfg inl path st o kk).den) (Q : Exit → Act → World → Prop) :
    o.wp cfg.P a w (fun a' w' => ∃ v sv st' bl' vs' R' ow', a' = a.put o.dst v ∧ Stp cfg.P w0 R0 bl vs st bl' vs' R' ow' st' w' ∧ st'.tmps = st.tmps ∧ SVR bl' vs' sv v ∧ (kk sv st').den) Q := by
  unfold stepOp at hd
  split at hd
  · rename_i p hp
    obtain ⟨hns, hd⟩ := needs_den.1 hd
    obtain ⟨v, hr, hs, hg⟩ := pure_sound h.look ht hp hns
    unfold Oper.wp
    rw [hr]
    exact ⟨v, p.v, st, bl, vs, R, ow, rfl, ⟨h, fun _ _ x => x, fun _ _ x => x, Ext.refl _⟩, rfl, hs, (givens_den.1 hd) hg⟩
  · split at hd
    · rename_i f args hc
      split at hd
      · rename_i hgo
        have hcall : ∃ vals, SVRs bl vs args vals ∧ (execOp a.eval o).run cfg.P w = .ok (.enter f vals.toArray) w := by
          unfold callee at hc
          split at hc
          · rename_i fo as tys ho
            split at hc
            · rename_i g caps hfo
              cases hc
              have hf := ev_sound ht fo
              rw [hfo] at hf
              obtain ⟨cs, hfv, hcs⟩ := hf
              refine ⟨as.toList.map a.eval ++ cs.toList, (evs_sound ht as.toList).append hcs, ?_⟩
              unfold goBody at hgo
              split at hgo
              · rename_i fn hfn
                simp only [Bool.and_eq_true, bne_iff_ne, ne_eq] at hgo
                have hbn : fn.body.isNone = false := by
                  cases hb : fn.body with
                  | none => rw [hb] at hgo; simp at hgo
                  | some _ => rfl
                have hne : (fn.name == "runtime.NumGoroutine") = false := by simpa using hgo.1
                simp only [execOp, ho, resolve, hfv, Deferred.ofValue, invoke, callFunc, Sem.run_bind, Sem.run_pure, Result.andThen_ok, run_program, hfn, hne, hbn, Bool.false_eq_true, if_false]
                congr 2
                rw [← Array.toList_inj]
                simp
              · cases hgo
            · cases hc
          · cases hc
        obtain ⟨vals, hvals, hrun⟩ := hcall
        have hok : CallOk cfg.P w0 R0 bl vs st w f vals kk := by
          split at hd
          · rename_i sg hsg
            obtain ⟨h1, h2⟩ := hsig f sg hsg
            exact callC_sound h1 h2 h hvals hd
          · exact hinl path f args vals st kk bl vs R ow w h hvals hd
        unfold Oper.wp
        rw [hrun, Oper.upon_enter]
        refine hok.mono ?_
        rintro e w' ⟨v, rfl, sv, st', bl', vs', R', ow', g1, g2, g3, g4⟩
        exact ⟨v, sv, st', bl', vs', R', ow', rfl, g1, g2, g3, g4⟩
      · exact hd.elim
    · obtain ⟨v, w', hr, sv, st', bl', vs', R', ow', g1, g2, g3, g4⟩ := eff_sound h ht hd
      unfold Oper.wp
      rcases hr with hr | ⟨hr, rfl⟩
      · rw [hr]; exact ⟨v, sv, st', bl', vs', R', ow', rfl, g1, g2, g3, g4⟩
      · rw [hr]; exact ⟨undef, sv, st', bl', vs', R', ow', rfl, g1, g2, g3, g4⟩

theorem tmp_get (ht : TR bl vs st.tmps a) {d : Nat} {s : SV (sem T)} (h : st.tmps[d]? = some s) : ∃ v, a.tmps[d]? = some v ∧ SVR bl vs s v := by
  obtain ⟨v, hv, hs⟩ := ht.2.get h
  exact ⟨v, by simpa using hv, hs⟩

/-- An operation under its guard. -/
theorem guardK_sound {ops : Array Oper} {o : Oper} (h : HR P w0 R0 bl vs R ow st.boxes st.ents w) (ht : TR bl vs st.tmps a) {yes no : St (sem T) → Tree (sem T)} (hd : (guardK ops o st yes no).den) :
    ∃ st1, Stp P w0 R0 bl vs st bl vs R ow st1 w ∧ TR bl vs st1.tmps a ∧ ((Region.wanted o (yielded ops a.tmps) = true ∧ (yes st1).den) ∨ (Region.wanted o (yielded ops a.tmps) = false ∧ (no st1).den)) := by
  have hS : Stp P w0 R0 bl vs st bl vs R ow st w := ⟨h, fun _ _ x => x, fun _ _ x => x, Ext.refl _⟩
  unfold guardK at hd
  split at hd
  · rename_i hg
    exact ⟨st, hS, ht, .inl ⟨by simp [Region.wanted, hg], hd⟩⟩
  · rename_i j want hg
    split at hd
    · rename_i hj
      exact ⟨st, hS, ht, .inr ⟨by simp [Region.wanted, hg, yielded, hj], hd⟩⟩
    · rename_i d hj
      split at hd
      · rename_i b hb
        obtain ⟨v, hv, hs⟩ := tmp_get ht hb
        have hs : v = .bool b := hs
        subst hs
        have hy : yielded ops a.tmps j = some b := by simp [yielded, hj, hv]
        split at hd
        · rename_i hbw
          have : b = want := by simpa using hbw
          exact ⟨st, hS, ht, .inl ⟨by simp [Region.wanted, hg, hy, this], hd⟩⟩
        · rename_i hbw
          have : b ≠ want := by simpa using hbw
          exact ⟨st, hS, ht, .inr ⟨by simp [Region.wanted, hg, hy, this], hd⟩⟩
      · rename_i b hb
        obtain ⟨v, hv, hs⟩ := tmp_get ht hb
        have hs : v = .bool b.b := hs
        subst hs
        have hy : yielded ops a.tmps j = some b.b := by simp [yielded, hj, hv]
        obtain ⟨hd1, hd2⟩ := hd
        have hlit : ∀ c : Bool, b.b = c → TR bl vs (st.tmps.set d (.blit c)) a := fun c hc => ht.same (fun u hu => by rw [hv] at hu; cases hu; exact congrArg Value.bool hc)
        have hst : ∀ c : Bool, Stp P w0 R0 bl vs st bl vs R ow { st with tmps := st.tmps.set d (.blit c) } w := fun c => ⟨h, fun _ _ x => x, fun _ _ x => x, ⟨(Ext.refl st).box, (Ext.refl st).ent⟩⟩
        by_cases hp : b.p
        · have hbt : b.b = true := by simp [PB.b, hp]
          have hd1 := hd1 hp
          refine ⟨_, hst true, hlit true hbt, ?_⟩
          cases want with
          | true => exact .inl ⟨by simp [Region.wanted, hg, hy, hbt], hd1⟩
          | false => exact .inr ⟨by simp [Region.wanted, hg, hy, hbt], hd1⟩
        · have hbt : b.b = false := by simp [PB.b, hp]
          have hd2 := hd2 hp
          refine ⟨_, hst false, hlit false hbt, ?_⟩
          cases want with
          | true => exact .inr ⟨by simp [Region.wanted, hg, hy, hbt], hd2⟩
          | false => exact .inl ⟨by simp [Region.wanted, hg, hy, hbt], hd2⟩
      · rename_i us hb
        obtain ⟨v, hv, hs⟩ := tmp_get ht hb
        have hs : v = .tuple us := hs
        subst hs
        have hy : yielded ops a.tmps j = none := by simp [yielded, hj, hv]
        exact ⟨st, hS, ht, .inr ⟨by simp [Region.wanted, hg, hy], hd⟩⟩
      · exact hd.elim

theorem oneOp_sound {cfg : Cfg} {inl : Inl (sem T)} (hsig : SigOk T cfg) (hinl : InlOk cfg w0 R0 inl) {path : Nat} {ops : Array Oper} {o : Oper} (h : HR cfg.P w0 R0 bl vs R ow st.boxes st.ents w) (ht : TR bl vs st.tmps a)
    {k : St (sem T) → Tree (sem T)} (hd : (oneOp cfg inl path ops st o k).den) (Q : Exit → Act → World → Prop) :
    if Region.wanted o (yielded ops a.tmps) then o.wp cfg.P a w (fun a' w' => (∃ v, a' = a.put o.dst v) ∧ Reach cfg.P w0 R0 bl vs st (fun st' => (k st').den) a' w') Q else Reach cfg.P w0 R0 bl vs st (fun st' => (k st').den) (a.put o.dst undef) w := by
  unfold oneOp at hd
  obtain ⟨st1, hS, ht1, hw | hw⟩ := guardK_sound h ht hd
  · rw [if_pos hw.1]
    refine Oper.wp_mono ?_ (stepOp_sound hsig hinl hS.hr ht1 hw.2 Q)
    rintro a' w' ⟨v, sv, st', bl', vs', R', ow', rfl, g1, g2, g3, g4⟩
    refine ⟨⟨v, rfl⟩, bl', vs', R', ow', setTmp st' o.dst sv, ?_, ?_, g4⟩
    · have := hS.trans g1
      cases hdst : o.dst with
      | none => exact this
      | some d => exact ⟨this.hr, this.bl, this.vs, ⟨this.ext.box, this.ext.ent⟩⟩
    · have : TR bl' vs' st'.tmps a := by rw [g2]; exact ht1.mono g1.bl g1.vs
      exact this.put o.dst g3
  · rw [if_neg (by simp [hw.1])]
    refine ⟨bl, vs, R, ow, setTmp st1 o.dst (.con (.tuple #[])), ?_, ht1.put o.dst rfl, hw.2⟩
    cases hdst : o.dst with
    | none => exact hS
    | some d => exact ⟨hS.hr, hS.bl, hS.vs, ⟨hS.ext.box, hS.ext.ent⟩⟩

theorem decided_sound {x : Operand} (h : HR P w0 R0 bl vs R ow st.boxes st.ents w) (ht : TR bl vs st.tmps a) {k : St (sem T) → Tree (sem T)} (hd : (decided x st k).den) :
    ∃ st1, Stp P w0 R0 bl vs st bl vs R ow st1 w ∧ TR bl vs st1.tmps a ∧ (k st1).den := by
  have hS : Stp P w0 R0 bl vs st bl vs R ow st w := ⟨h, fun _ _ x => x, fun _ _ x => x, Ext.refl _⟩
  unfold decided at hd
  split at hd
  · rename_i t
    split at hd
    · rename_i b hb
      obtain ⟨v, hv, hs⟩ := tmp_get ht hb
      have hs : v = .bool b.b := hs
      subst hs
      have hlit : ∀ c : Bool, b.b = c → TR bl vs (st.tmps.set t (.blit c)) a := fun c hc => ht.same (fun u hu => by rw [hv] at hu; cases hu; exact congrArg Value.bool hc)
      have hst : ∀ c : Bool, Stp P w0 R0 bl vs st bl vs R ow { st with tmps := st.tmps.set t (.blit c) } w := fun c => ⟨h, fun _ _ x => x, fun _ _ x => x, ⟨(Ext.refl st).box, (Ext.refl st).ent⟩⟩
      by_cases hp : b.p
      · exact ⟨_, hst true, hlit true (by simp [PB.b, hp]), hd.1 hp⟩
      · exact ⟨_, hst false, hlit false (by simp [PB.b, hp]), hd.2 hp⟩
    · exact ⟨st, hS, ht, hd⟩
  · exact ⟨st, hS, ht, hd⟩
end

/-- A region in the text's order. -/
theorem runOps_sound {cfg : Cfg} {inl : Inl (sem T)} (hsig : SigOk T cfg) (hinl : InlOk cfg w0 R0 inl) {path : Nat} {ops : Array Oper} {Q : Exit → Act → World → Prop} : ∀ (rest : List Oper) {bl : List Nat} {vs : List Value} {R : Nat → Prop} {ow : Nat → Option Owner} {st : St (sem T)} {a : Act} {w : World},
    HR cfg.P w0 R0 bl vs R ow st.boxes st.ents w → TR bl vs st.tmps a → ∀ {k : St (sem T) → Tree (sem T)}, (runOps cfg inl path ops rest st k).den →
    (∀ a' w', Keeps (rest.filterMap (·.dst)) a a' → Reach cfg.P w0 R0 bl vs st (fun st' => (k st').den) a' w' → Q .normal a' w') → wpList cfg.P ops Q rest a w
  | [], bl, vs, R, ow, st, a, w, h, ht, k, hd, hQ => hQ a w (Keeps.refl _ _) ⟨bl, vs, R, ow, st, ⟨h, fun _ _ x => x, fun _ _ x => x, Ext.refl _⟩, ht, hd⟩
  | o :: rest, bl, vs, R, ow, st, a, w, h, ht, k, hd, hQ => by
    have main : ∀ st1, Stp cfg.P w0 R0 bl vs st bl vs R ow st1 w → TR bl vs st1.tmps a → (oneOp cfg inl path ops st1 o fun st => runOps cfg inl path ops rest st k).den → wpList cfg.P ops Q (o :: rest) a w := by
      intro st1 hS ht1 hd1
      have hone := oneOp_sound hsig hinl hS.hr ht1 hd1 Q
      have hnext : ∀ a' w', ((∃ v, a' = a.put o.dst v) ∧ Reach cfg.P w0 R0 bl vs st1 (fun st' => (runOps cfg inl path ops rest st' k).den) a' w') → wpList cfg.P ops Q rest a' w' := by
        rintro a' w' ⟨⟨v, rfl⟩, bl', vs', R', ow', st', g1, g2, g3⟩
        refine runOps_sound hsig hinl rest g1.hr g2 g3 (fun a2 w2 hkp hr => hQ a2 w2 (Keeps.trans (Keeps.put (fun x hx => ?_)) (hkp.mono fun t ht => ?_)) ((hr.of g1).of hS))
        · simp [List.filterMap_cons, hx]
        · simp only [List.filterMap_cons]; split <;> simp [ht]
      refine wpList_step fun K hK => ?_
      split at hone
      · rename_i hw
        rw [if_pos hw]
        exact Oper.wp_mono (fun a' w' hr => hK _ _ (hnext a' w' hr)) hone
      · rename_i hw
        rw [if_neg hw]
        exact hK _ _ (hnext _ _ ⟨⟨undef, rfl⟩, hone⟩)
    unfold runOps at hd
    split at hd
    · obtain ⟨st1, hS, ht1, hd1⟩ := decided_sound h ht hd
      exact main st1 hS ht1 hd1
    · exact main st ⟨h, fun _ _ x => x, fun _ _ x => x, Ext.refl _⟩ ht hd

end Go.Sx
