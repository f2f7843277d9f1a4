/-
  Calls in place, and the condition of a function: it gives the contract. Conditions: the contracts hold of the callees.
-/
import Derived.Test.YtlhjljekeobplaaSxQ
namespace Go.Sx
open Go.RowKit (Below)

variable {T : FuncId → Pred}

section
variable {P : Program} {w0 w : World} {R0 : Bs T} {R : Nat → Prop} {bl : List Nat} {vs : List Value} {ow : Nat → Option Owner} {st : St (sem T)} {a : Act}

def resVal (tmps : Array Value) : ResultVar → Sem Value
  | .tmp t => pure (tmps.getD t undef)
  | .cell a t => do loadVar t (← asAddr (tmps.getD a undef))

theorem resultsOf_sound (hl : Look P R bl vs st.boxes st.ents w) (ht : TD bl vs ow st.tmps a) : ∀ {rs : List ResultVar} {l : List (SV (sem T))}, resultsOf P st rs = some l →
    ∃ vals : List Value, SVRs bl vs l vals ∧ (rs.mapM (resVal a.tmps)).run P w = .ok vals w
  | [], l, h => by
    simp only [resultsOf, Option.some.injEq] at h
    subst h
    exact ⟨[], trivial, rfl⟩
  | .tmp t :: rs, l, h => by
    simp only [resultsOf, Option.map_eq_some_iff] at h
    obtain ⟨l', h', rfl⟩ := h
    obtain ⟨vals, h1, h2⟩ := resultsOf_sound hl ht h'
    refine ⟨a.tmps.getD t undef :: vals, ⟨ev_sound ht.tr (.tmp t), h1⟩, ?_⟩
    simp only [List.mapM_cons, resVal, Sem.run_bind, Sem.run_pure, Result.andThen_ok, h2]
  | .cell t ty :: rs, l, h => by
    simp only [resultsOf] at h
    split at h
    · rename_i b off n l' hb hs hrec
      split at h
      · rename_i bx hbx
        split at h
        · rename_i hc
          simp only [Bool.and_eq_true, decide_eq_true_eq] at hc
          obtain ⟨⟨hlive, hoff⟩, hu⟩ := hc
          split at h
          · rename_i v hp
            cases h
            obtain ⟨vals, h1, h2⟩ := resultsOf_sound hl ht hrec
            have hx := ev_sound ht.tr (.tmp t)
            have hbe : st.ev (.tmp t) = .ptr b off := hb
            rw [hbe] at hx
            obtain ⟨b', hb1, hv⟩ := hx
            obtain ⟨b2, cs, hb2, hcs, hr⟩ := hl.box b bx hbx hlive
            rw [hb1] at hb2; cases hb2
            have hlen := hr.length
            obtain ⟨u, hrun, hsv⟩ := run_loadVar' (P := P) (w := w) (bl := bl) (vs := vs) hs (b := b') (off := off) (vals := (cs.toList.drop off).take n) (by simp; simp at hlen; omega) (fun j u hj => by
              simp only [World.cell?, hcs]
              have : cs[off + j]? = some u := by
                rw [List.getElem?_take] at hj
                split at hj
                · rw [List.getElem?_drop] at hj; simpa using hj
                · cases hj
              simpa using this) hp ((hr.drop off).take n) hu
            refine ⟨u :: vals, ⟨hsv, h1⟩, ?_⟩
            have hv : a.tmps.getD t undef = .pointer (some ⟨b', off, none⟩) := hv
            simp only [List.mapM_cons, resVal, Sem.run_bind, Sem.run_pure, Result.andThen_ok, hv, asAddr, hrun, h2]
          · cases h
        · cases h
      · cases h
    · cases h

theorem results_run (hl : Look P R bl vs st.boxes st.ents w) (ht : TD bl vs ow st.tmps a) {fn : Func} {l : List (SV (sem T))} (h : resultsOf P st fn.results.toList = some l) :
    ∃ vals : List Value, SVRs bl vs l vals ∧ (results fn a.tmps).run P w = .ok (oneV vals) w := by
  obtain ⟨vals, h1, h2⟩ := resultsOf_sound hl ht h
  refine ⟨vals, h1, ?_⟩
  have e : fn.results = fn.results.toList.toArray := by simp
  have hf : ∀ (rs : Array ResultVar), rs = rs.toList.toArray → (do
      let vs ← rs.mapM (resVal a.tmps)
      pure (if h : vs.size = 1 then vs[0] else .tuple vs) : Sem Value).run P w = (do
      let vs ← rs.toList.mapM (resVal a.tmps)
      pure (if h : vs.toArray.size = 1 then vs.toArray[0] else .tuple vs.toArray) : Sem Value).run P w := by
    intro rs hrs
    rw [hrs, List.mapM_toArray]
    simp
  have hg : results fn a.tmps = (do
      let vs ← fn.results.mapM (resVal a.tmps)
      pure (if h : vs.size = 1 then vs[0] else .tuple vs)) := by
    unfold results
    congr 1
  rw [hg, hf _ e]
  simp only [Sem.run_bind, h2, Result.andThen_ok, Sem.run_pure]
  match vals with
  | [] => rfl
  | [v] => rfl
  | _ :: _ :: _ => simp [oneV]

theorem frame_tr {fn : Func} {args : List (SV (sem T))} {vals : List Value} (hs : SVRs bl vs args vals) : TD bl vs ow (frameOf fn args) { tmps := vals.toArray ++ Array.replicate (fn.ntmps - vals.toArray.size) undef, defers := [] } := by
  refine ⟨⟨[], rfl, by simp, List.nodup_nil⟩, ?_⟩
  simp only [frameOf, Array.toList_append, Array.toList_replicate, List.size_toArray, ← hs.length]
  refine SVRs.append (by simpa using hs) ?_
  generalize fn.ntmps - args.length = n
  induction n with
  | zero => exact trivial
  | succ n ih => exact ⟨rfl, ih⟩
end

def upMarks (ow : Nat → Option Owner) : Nat → Option Owner := fun b => match ow b with
  | some (.mark l) => some (.mark (l + 1))
  | o => o

def downMarks (ow : Nat → Option Owner) : Nat → Option Owner := fun b => match ow b with
  | some (.mark (l + 1)) => some (.mark l)
  | some (.mark 0) => none
  | o => o

theorem HR.up {P : Program} {w0 w : World} {B : Bs T} {R : Nat → Prop} {bl : List Nat} {vs : List Value} {ow : Nat → Option Owner} {boxes : List (Box (sem T))} {ents : List (Ent (sem T))} (h : HR P w0 B bl vs R ow boxes ents w) :
    HR P w0 B bl vs R (upMarks ow) boxes ents w := by
  refine h.remark (fun b o hb ho => ?_) (fun b o hb => ?_)
  · unfold upMarks
    rw [hb]
    cases o with
    | mark l => exact absurd rfl (ho l)
    | _ => rfl
  · unfold upMarks at hb
    split at hb
    · rename_i l hl
      cases hb
      exact .inr ⟨l, _, hl, rfl⟩
    · exact .inl hb

theorem HR.down {P : Program} {w0 w : World} {B : Bs T} {R : Nat → Prop} {bl : List Nat} {vs : List Value} {ow : Nat → Option Owner} {boxes : List (Box (sem T))} {ents : List (Ent (sem T))} (h : HR P w0 B bl vs R ow boxes ents w) :
    HR P w0 B bl vs R (downMarks ow) boxes ents w := by
  refine h.remark (fun b o hb ho => ?_) (fun b o hb => ?_)
  · unfold downMarks
    rw [hb]
    cases o with
    | mark l => exact absurd rfl (ho l)
    | _ => rfl
  · unfold downMarks at hb
    split at hb
    · rename_i l hl
      cases hb
      exact .inr ⟨_, _, hl, rfl⟩
    · cases hb
    · exact .inl hb

theorem down_up {ow ow' : Nat → Option Owner} (h : ∀ {l : Nat} b, upMarks ow b = some (.mark (l + 1)) → ow' b = some (.mark (l + 1))) : ∀ {l : Nat} b, ow b = some (.mark l) → downMarks ow' b = some (.mark l) := by
  intro l b hb
  have : upMarks ow b = some (.mark (l + 1)) := by unfold upMarks; rw [hb]
  unfold downMarks
  rw [h b this]

/-- A function leaves by its marks. -/
theorem leaves_marks {P : Program} {w0 : World} {B : Bs T} {R : Nat → Prop} {bl : List Nat} {vs : List Value} {boxes : List (Box (sem T))} {ents : List (Ent (sem T))} {F : Fence} {n : Nat} {fn : Func} {tmps : Array Value} {Q : Ending → World → Prop} :
    ∀ (Ds : List Nat) {ow : Nat → Option Owner} {w : World}, HR P w0 B bl vs R ow boxes ents w → (∀ d ∈ Ds, ow d = some (.mark 0)) → Ds.Nodup →
      (∀ (ow' : Nat → Option Owner) (w' : World), HR P w0 B bl vs R ow' boxes ents w' → (∀ b, (∀ l, ow b ≠ some (.mark l)) → ow' b = ow b) → (∀ {l : Nat} b, ow b = some (.mark (l + 1)) → ow' b = some (.mark (l + 1))) → ∃ v, (results fn tmps).run P w' = .ok v w' ∧ Q (.returned v) w') →
      LeavesInM F n P fn tmps Q (Ds.map markD) .returning w
  | [], ow, w, h, _, _, hq => by
    show LeavesIn F n P fn tmps Q [] .returning w
    exact hq ow w h (fun _ _ => rfl) (fun _ x => x)
  | d :: Ds, ow, w, h, hm, hn, hq => by
    have hd := hm d (by simp)
    have hn' := List.nodup_cons.1 hn
    refine ⟨(fun e => by cases e), .inl ⟨d, _, rfl, run_takeDeferred (h.mrk d hd), ?_⟩⟩
    refine leaves_marks Ds (h.takeMark hd) (fun d' hd' => ?_) hn'.2 (fun ow' w' g1 g2 g3 => hq ow' w' g1 (fun b hb => ?_) (fun b hb => ?_))
    · rw [setOw_ne (fun e => hn'.1 (by rw [← e]; exact hd'))]; exact hm d' (by simp [hd'])
    · have hbd : b ≠ d := fun e => hb 0 (by rw [e]; exact hd)
      have := g2 b (fun l => by rw [setOw_ne hbd]; exact hb l)
      rw [this, setOw_ne hbd]
    · have hbd : b ≠ d := fun e => by rw [e, hd] at hb; cases hb
      exact g3 b (by rw [setOw_ne hbd]; exact hb)

theorem inl_sound {cfg : Cfg} (hsig : SigOk T cfg) {w0 : World} : ∀ n, MkOk cfg w0 (inlF (A := sem T) cfg n)
  | 0 => ⟨fun ys B hys path g args vals st k bl vs R ow w h hs hd => hd.elim, fun path i args st k hd => hd⟩
  | n + 1 => by
    refine ⟨fun ys B hys path g args vals st k bl vs R ow w h hs hd => ?_, fun path i args st k hd => ?_⟩
    · cases g with
      | yld i =>
        unfold inlF at hd
        split at hd
        · rename_i y hy
          obtain ⟨rfl, hh⟩ := hys.find hy
          exact hh args vals st k bl vs R ow w h hs hd
        · exact hd.elim
      | fn f =>
        unfold inlF at hd
        split at hd
        · rename_i fn hfn
          split at hd
          · rename_i body hbody
            show CallOk cfg.P w0 B bl vs ow st w f vals k
            unfold CallOk
            refine callsIn_wide.1 (callsIn_of_wp_marks (n := 0) hfn hbody trivial (wpIn_mono (exec_sound (st := { st with tmps := frameOf fn args, wr := cfg.wr f }) (rnd := none) hsig (inl_sound hsig n) body hys (fun _ => rfl) h.up (frame_tr hs) hd) ?_))
            have fin : ∀ {D : List Nat} {a0 a' : Act} {w' : World}, Keeps D a0 a' ∧ Reach cfg.P w0 B bl vs (upMarks ow) { st with tmps := frameOf fn args, wr := cfg.wr f } (fun st' => (retK cfg.P f fn st.tmps k { st' with wr := st.wr }).den) a' w' →
                LeavesInM Fence.wide 0 cfg.P fn a'.tmps (fun e w' => ∃ v, e = .returned v ∧ ∃ sv st' bl' vs' R' ow', Stp cfg.P w0 B bl vs ow st bl' vs' R' ow' st' w' ∧ st'.tmps = st.tmps ∧ SVR bl' vs' sv v ∧ (k sv st').den) a'.defers .returning w' := by
              rintro D a0 a' w' ⟨_, bl', vs', R', ow', st', hS, ht', hd'⟩
              obtain ⟨⟨Ds, d1, d2, d3⟩, ht2⟩ := ht'
              rw [d1]
              refine leaves_marks Ds hS.hr d2 d3 fun ow2 w2 g1 g2 g3 => ?_
              unfold retK at hd'
              split at hd'
              · rename_i l hl
                have ht'' : TD bl' vs' (fun _ => none) st'.tmps { a' with defers := [] } := ⟨⟨[], rfl, by simp, List.nodup_nil⟩, ht2⟩
                obtain ⟨rvals, k1, k2⟩ := results_run (st := { st' with wr := st.wr }) (a := { a' with defers := [] }) g1.look ht'' hl
                exact ⟨_, k2, _, rfl, one l, { st' with tmps := st.tmps, wr := st.wr }, bl', vs', R', downMarks ow2, ⟨g1.down, hS.bl, hS.vs, ⟨hS.ext.box, hS.ext.ent⟩, fun b hb => down_up (ow := ow) (fun b hb => g3 b (hS.mrk b hb)) b hb⟩, rfl, one_sound k1, hd'⟩
              · exact hd'.elim
            intro e a' w' hq
            cases e with
            | normal => exact fin hq
            | ret => exact fin hq
            | exit id =>
              obtain ⟨_, _, _, _, _, _, _, _, hd'⟩ := hq
              exact hd'.elim
            | goto l => exact hq.elim
            | panic ch => exact hq.elim
            | outgrown => exact hq.elim
          · exact hd.elim
        · exact hd.elim
    · unfold inlF at hd
      simp at hd
      exact hd

section
variable {P : Program} {w0 w : World} {R0 : Bs T} {R : Nat → Prop} {bl : List Nat} {vs : List Value} {ow : Nat → Option Owner} {st : St (sem T)} {a : Act}

theorem resCells_sound (hr : HR P w0 R0 bl vs R ow st.boxes st.ents w) {owr : Nat → Option Owner} : ∀ {l : List (K × Bool)} {svs : List (SV (sem T))} {vals : List Value} {cs : List CS} {n : Nat}, resCells st l svs = some cs → SVRs bl vs svs vals →
    (∀ q id, (posCells l svs)[q]? = some (some id) → ∀ b, ow b = some (.ent id) → owr b = some (.ent (n + q))) → ResCells P w R owr n l vals (cs.map Cl.toD)
  | [], [], vals, cs, n, h, hs, _ => by
    simp only [resCells, Option.some.injEq] at h
    subst h
    cases vals with
    | nil => trivial
    | cons => exact hs.elim
  | p :: l, sv :: svs, vals, cs, n, h, hs, ho => by
    cases vals with
    | nil => exact hs.elim
    | cons v vals =>
      have hrest : ∀ q id, (posCells l svs)[q]? = some (some id) → ∀ b, ow b = some (.ent id) → owr b = some (.ent (n + 1 + q)) := fun q id hq b hb => by
        have := ho (q + 1) id (by simpa [posCells] using hq) b hb
        rw [show n + 1 + q = n + (q + 1) by omega]
        exact this
      simp only [resCells] at h
      split at h
      · rename_i c cs' hc hcs
        cases h
        refine ⟨?_, resCells_sound hr hcs hs.2 hrest⟩
        unfold resCell at hc
        split at hc
        · rename_i e id
          split at hc
          · rename_i en hen
            split at hc
            · rename_i hcc
              simp only [Bool.and_eq_true, beq_iff_eq] at hcc
              obtain ⟨⟨hlive, hown⟩, rfl⟩ := hcc
              cases hc
              obtain ⟨u, hu, _, hO⟩ := hr.ent id en hen hlive
              have hsv : vs[id]? = some v := hs.1
              rw [hu] at hsv; cases hsv
              refine ⟨en.s, rfl, (hO hown).relabel (fun b hb => ?_)⟩
              have := ho 0 id (by simp [posCells, idOfC]) b hb
              simpa using this
            · cases hc
          · cases hc
        · rename_i e id
          split at hc
          · rename_i en hen
            split at hc
            · rename_i hcc
              simp only [Bool.and_eq_true, beq_iff_eq, Bool.not_eq_true'] at hcc
              obtain ⟨⟨hlive, hown⟩, rfl⟩ := hcc
              cases hc
              obtain ⟨u, hu, hO, _⟩ := hr.ent id en hen hlive
              have hsv : vs[id]? = some v := hs.1
              rw [hu] at hsv; cases hsv
              exact hO hown
            · cases hc
          · cases hc
        · rename_i e own
          cases hc
          have hv : v = .slice none 0 0 := hs.1
          subst hv
          cases own with
          | true => exact ⟨Sl.nil, rfl, none, 0, rfl, Nat.le_refl _, Nat.zero_le _, fun _ => rfl, .inl rfl⟩
          | false => exact ⟨e, none, 0, rfl, rfl, Nat.le_refl _, Nat.zero_le _, fun _ => rfl, fun ks i j kk _ hi => absurd hi (Nat.not_lt_zero _)⟩
        · cases hc
        · rename_i k own hne1 hne2 hne3 hne4
          have hrd := toClR_sound hr hc hs.1
          cases k with
          | sl e => exfalso; first | exact hne1 _ rfl | exact hne2 _ rfl | exact hne3 _ rfl | exact hne4 _ rfl | exact hne3 _ _ rfl | exact hne4 _ _ rfl
          | _ => exact hrd
      · cases h
  | [], _ :: _, _, _, _, h, _, _ => by simp [resCells] at h
  | _ :: _, [], _, _, _, h, _, _ => by simp [resCells] at h
end

end Go.Sx
