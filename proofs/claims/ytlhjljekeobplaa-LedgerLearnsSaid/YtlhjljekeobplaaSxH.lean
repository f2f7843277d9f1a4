/-
  Calls in place, and the condition of a function: it gives the contract. Conditions: the contracts hold of the callees.
-/
import Derived.Test.YtlhjljekeobplaaSxG
namespace Go.Sx
open Go.RowKit (Below)

variable {T : FuncId → Pred}

section
variable {P : Program} {w0 w : World} {R0 R : Nat → Prop} {bl : List Nat} {vs : List Value} {ow : Nat → Option Owner} {st : St (sem T)} {a : Act}

def resVal (tmps : Array Value) : ResultVar → Sem Value
  | .tmp t => pure (tmps.getD t undef)
  | .cell a t => do loadVar t (← asAddr (tmps.getD a undef))

theorem resultsOf_sound (hl : Look P R bl vs st.boxes st.ents w) (ht : TR bl vs st.tmps a) : ∀ {rs : List ResultVar} {l : List (SV (sem T))}, resultsOf P st rs = some l →
    ∃ vals : List Value, SVRs bl vs l vals ∧ (rs.mapM (resVal a.tmps)).run P w = .ok vals w
  | [], l, h => by
    simp only [resultsOf, Option.some.injEq] at h
    subst h
    exact ⟨[], trivial, rfl⟩
  | .tmp t :: rs, l, h => by
    simp only [resultsOf, Option.map_eq_some_iff] at h
    obtain ⟨l', h', rfl⟩ := h
    obtain ⟨vals, h1, h2⟩ := resultsOf_sound hl ht h'
    refine ⟨a.tmps.getD t undef :: vals, ⟨ev_sound ht (.tmp t), h1⟩, ?_⟩
    simp only [List.mapM_cons, resVal, Sem.run_bind, Sem.run_pure, Result.andThen_ok, h2]
  | .cell t ty :: rs, l, h => by
    simp only [resultsOf] at h
    split at h
    · rename_i b off n l' hb hs hrec
      split at h
      · rename_i bx hbx
        split at h
        · rename_i hc
          simp only [Bool.and_eq_true, decide_eq_true_eq] at hc
          obtain ⟨⟨hlive, hoff⟩, hu⟩ := hc
          split at h
          · rename_i v hp
            cases h
            obtain ⟨vals, h1, h2⟩ := resultsOf_sound hl ht hrec
            have hx := ev_sound ht (.tmp t)
            have hbe : st.ev (.tmp t) = .ptr b off := hb
            rw [hbe] at hx
            obtain ⟨b', hb1, hv⟩ := hx
            obtain ⟨b2, cs, hb2, hcs, hr⟩ := hl.box b bx hbx hlive
            rw [hb1] at hb2; cases hb2
            have hlen := hr.length
            obtain ⟨u, hrun, hsv⟩ := run_loadVar' (P := P) (w := w) (bl := bl) (vs := vs) hs (b := b') (off := off) (vals := (cs.toList.drop off).take n) (by simp; simp at hlen; omega) (fun j u hj => by
              simp only [World.cell?, hcs]
              have : cs[off + j]? = some u := by
                rw [List.getElem?_take] at hj
                split at hj
                · rw [List.getElem?_drop] at hj; simpa using hj
                · cases hj
              simpa using this) hp ((hr.drop off).take n) hu
            refine ⟨u :: vals, ⟨hsv, h1⟩, ?_⟩
            have hv : a.tmps.getD t undef = .pointer (some ⟨b', off, none⟩) := hv
            simp only [List.mapM_cons, resVal, Sem.run_bind, Sem.run_pure, Result.andThen_ok, hv, asAddr, hrun, h2]
          · cases h
        · cases h
      · cases h
    · cases h

theorem results_run (hl : Look P R bl vs st.boxes st.ents w) (ht : TR bl vs st.tmps a) {fn : Func} {l : List (SV (sem T))} (h : resultsOf P st fn.results.toList = some l) :
    ∃ vals : List Value, SVRs bl vs l vals ∧ (results fn a.tmps).run P w = .ok (oneV vals) w := by
  obtain ⟨vals, h1, h2⟩ := resultsOf_sound hl ht h
  refine ⟨vals, h1, ?_⟩
  have e : fn.results = fn.results.toList.toArray := by simp
  have hf : ∀ (rs : Array ResultVar), rs = rs.toList.toArray → (do
      let vs ← rs.mapM (resVal a.tmps)
      pure (if h : vs.size = 1 then vs[0] else .tuple vs) : Sem Value).run P w = (do
      let vs ← rs.toList.mapM (resVal a.tmps)
      pure (if h : vs.toArray.size = 1 then vs.toArray[0] else .tuple vs.toArray) : Sem Value).run P w := by
    intro rs hrs
    rw [hrs, List.mapM_toArray]
    simp
  have hg : results fn a.tmps = (do
      let vs ← fn.results.mapM (resVal a.tmps)
      pure (if h : vs.size = 1 then vs[0] else .tuple vs)) := by
    unfold results
    congr 1
  rw [hg, hf _ e]
  simp only [Sem.run_bind, h2, Result.andThen_ok, Sem.run_pure]
  match vals with
  | [] => rfl
  | [v] => rfl
  | _ :: _ :: _ => simp [oneV]

theorem frame_tr {fn : Func} {args : List (SV (sem T))} {vals : List Value} (hs : SVRs bl vs args vals) : TR bl vs (frameOf fn args) { tmps := vals.toArray ++ Array.replicate (fn.ntmps - vals.toArray.size) undef, defers := [] } := by
  refine ⟨rfl, ?_⟩
  simp only [frameOf, Array.toList_append, Array.toList_replicate, List.size_toArray, ← hs.length]
  refine SVRs.append (by simpa using hs) ?_
  generalize fn.ntmps - args.length = n
  induction n with
  | zero => exact trivial
  | succ n ih => exact ⟨rfl, ih⟩
end

theorem inl_sound {cfg : Cfg} (hsig : SigOk T cfg) {w0 : World} {R0 : Nat → Prop} : ∀ n, InlOk cfg w0 R0 (inlF (A := sem T) cfg n)
  | 0 => fun path f args vals st k bl vs R ow w h hs hd => hd.elim
  | n + 1 => fun path f args vals st k bl vs R ow w h hs hd => by
    unfold inlF at hd
    split at hd
    · rename_i fn hfn
      split at hd
      · rename_i body hbody
        refine calls_of_wp hfn hbody (wp_mono (exec_sound (st := { st with tmps := frameOf fn args }) hsig (inl_sound hsig n) body h (frame_tr hs) hd) ?_)
        have fin : ∀ {D : List Nat} {a0 a' : Act} {w' : World}, Keeps D a0 a' ∧ Reach cfg.P w0 R0 bl vs { st with tmps := frameOf fn args } (fun st' => (retK cfg.P f fn st.tmps k st').den) a' w' → a'.defers = [] ∧ ∃ v, (results fn a'.tmps).run cfg.P w' = .ok v w' ∧ ∃ v', (Ending.returned v) = .returned v' ∧ ∃ sv st' bl' vs' R' ow', Stp cfg.P w0 R0 bl vs st bl' vs' R' ow' st' w' ∧ st'.tmps = st.tmps ∧ SVR bl' vs' sv v' ∧ (k sv st').den := by
          rintro D a0 a' w' ⟨_, bl', vs', R', ow', st', hS, ht', hd'⟩
          unfold retK at hd'
          split at hd'
          · rename_i l hl
            obtain ⟨rvals, g1, g2⟩ := results_run hS.hr.look ht' hl
            exact ⟨ht'.1, _, g2, _, rfl, one l, { st' with tmps := st.tmps }, bl', vs', R', ow', ⟨hS.hr, hS.bl, hS.vs, ⟨hS.ext.box, hS.ext.ent⟩⟩, rfl, one_sound g1, hd'⟩
          · exact hd'.elim
        intro e a' w' hq
        cases e with
        | normal => exact fin hq
        | ret => exact fin hq
        | exit id =>
          obtain ⟨_, _, _, _, _, _, _, _, hd'⟩ := hq
          exact hd'.elim
        | goto l => exact hq.elim
        | panic ch => exact hq.elim
        | outgrown => exact hq.elim
      · exact hd.elim
    · exact hd.elim

section
variable {P : Program} {w0 w : World} {R0 R : Nat → Prop} {bl : List Nat} {vs : List Value} {ow : Nat → Option Owner} {st : St (sem T)} {a : Act}

theorem resCells_sound (hr : HR P w0 R0 bl vs R ow st.boxes st.ents w) {owr : Nat → Option Owner} : ∀ {l : List (K × Bool)} {svs : List (SV (sem T))} {vals : List Value} {cs : List CS} {n : Nat}, resCells st l svs = some cs → SVRs bl vs svs vals →
    (∀ q id, (posCells l svs)[q]? = some (some id) → ∀ b, ow b = some (.ent id) → owr b = some (.ent (n + q))) → ResCells P w R owr n l vals (cs.map Cl.toD)
  | [], [], vals, cs, n, h, hs, _ => by
    simp only [resCells, Option.some.injEq] at h
    subst h
    cases vals with
    | nil => trivial
    | cons => exact hs.elim
  | p :: l, sv :: svs, vals, cs, n, h, hs, ho => by
    cases vals with
    | nil => exact hs.elim
    | cons v vals =>
      have hrest : ∀ q id, (posCells l svs)[q]? = some (some id) → ∀ b, ow b = some (.ent id) → owr b = some (.ent (n + 1 + q)) := fun q id hq b hb => by
        have := ho (q + 1) id (by simpa [posCells] using hq) b hb
        rw [show n + 1 + q = n + (q + 1) by omega]
        exact this
      simp only [resCells] at h
      split at h
      · rename_i c cs' hc hcs
        cases h
        refine ⟨?_, resCells_sound hr hcs hs.2 hrest⟩
        unfold resCell at hc
        split at hc
        · rename_i e id
          split at hc
          · rename_i en hen
            split at hc
            · rename_i hcc
              simp only [Bool.and_eq_true, beq_iff_eq] at hcc
              obtain ⟨⟨hlive, hown⟩, rfl⟩ := hcc
              cases hc
              obtain ⟨u, hu, _, hO⟩ := hr.ent id en hen hlive
              have hsv : vs[id]? = some v := hs.1
              rw [hu] at hsv; cases hsv
              refine ⟨en.s, rfl, (hO hown).relabel (fun b hb => ?_)⟩
              have := ho 0 id (by simp [posCells, idOfC]) b hb
              simpa using this
            · cases hc
          · cases hc
        · rename_i e id
          split at hc
          · rename_i en hen
            split at hc
            · rename_i hcc
              simp only [Bool.and_eq_true, beq_iff_eq, Bool.not_eq_true'] at hcc
              obtain ⟨⟨hlive, hown⟩, rfl⟩ := hcc
              cases hc
              obtain ⟨u, hu, hO, _⟩ := hr.ent id en hen hlive
              have hsv : vs[id]? = some v := hs.1
              rw [hu] at hsv; cases hsv
              exact hO hown
            · cases hc
          · cases hc
        · rename_i e own
          cases hc
          have hv : v = .slice none 0 0 := hs.1
          subst hv
          cases own with
          | true => exact ⟨Sl.nil, rfl, none, 0, rfl, Nat.le_refl _, Nat.zero_le _, fun _ => rfl, .inl rfl⟩
          | false => exact ⟨e, none, 0, rfl, rfl, Nat.le_refl _, Nat.zero_le _, fun _ => rfl, fun ks i j kk _ hi => absurd hi (Nat.not_lt_zero _)⟩
        · cases hc
        · rename_i k own hne1 hne2 hne3 hne4
          have hrd := toClR_sound hr hc hs.1
          cases k with
          | sl e => exfalso; first | exact hne1 _ rfl | exact hne2 _ rfl | exact hne3 _ rfl | exact hne4 _ rfl | exact hne3 _ _ rfl | exact hne4 _ _ rfl
          | _ => exact hrd
      · cases h
  | [], _ :: _, _, _, _, h, _, _ => by simp [resCells] at h
  | _ :: _, [], _, _, _, h, _, _ => by simp [resCells] at h
end

end Go.Sx
