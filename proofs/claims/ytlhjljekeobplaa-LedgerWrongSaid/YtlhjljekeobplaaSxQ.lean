/-
  The run of any served code, in whatever frame: it comes to where its condition says. Conditions: the contracts hold of the callees.
-/
import Derived.Test.YtlhjljekeobplaaSxG
namespace Go.Sx
open Go.RowKit (Below)

variable {T : FuncId → Pred} {w0 : World}

def MkOk (cfg : Cfg) (w0 : World) (mk : Ys (sem T) → Inl (sem T)) : Prop :=
  (∀ (ys : Ys (sem T)) (B : Bs T), YsOk cfg w0 ys B → InlOk cfg w0 B (mk ys)) ∧ ∀ (path i : Nat) (args : List (SV (sem T))) (st : St (sem T)) (k : SV (sem T) → St (sem T) → Tree (sem T)), ¬ (mk [] path (.yld i) args st k).den

theorem MkOk.c {cfg : Cfg} {mk : Ys (sem T) → Inl (sem T)} (h : MkOk cfg w0 mk) (B : Bs T) : InlC cfg w0 B (mk []) :=
  ⟨fun path f args vals st k bl vs R ow w h1 h2 h3 => h.1 [] B trivial path (.fn f) args vals st k bl vs R ow w h1 h2 h3, h.2⟩

theorem jp_inv {st : St (sem T)} {i : Nat} {j : Jp} (h : jpAt st i = j) (hj : j ≠ .bad) : ∃ bx, st.boxes[i]? = some bx ∧ bx.live = false ∧ jpOf bx.cells = j := by
  unfold jpAt at h
  split at h
  · rename_i bx hbx
    split at h
    · exact absurd h.symm hj
    · rename_i hl
      exact ⟨bx, hbx, by simpa using hl, h⟩
  · exact absurd h.symm hj

theorem run_resolve_range {P : Program} {a : Act} {w : World} {f : Operand} {g l : Nat} {cs : Array Value} (hf : a.eval f = .func (.func g) #[] cs) :
    (resolve a.eval (rangeCall f l) 0).run P w = .ok { target := .fn (.func g) cs, args := #[.func (.yield l) #[] #[]] } w := by
  simp only [resolve, hf]
  simp [go_sem]

theorem run_invoke_range {P : Program} {w : World} {g : Nat} {cs args : Array Value} (hgo : goBody P g = true) :
    (invoke (.fn (.func g) cs) args).run P w = .ok (.enter g (args ++ cs)) w := by
  unfold goBody at hgo
  split at hgo
  · rename_i fn hfn
    simp only [Bool.and_eq_true, bne_iff_ne, ne_eq] at hgo
    have hbn : fn.body.isNone = false := by
      cases hb : fn.body with
      | none => rw [hb] at hgo; simp at hgo
      | some _ => rfl
    have hne : (fn.name == "runtime.NumGoroutine") = false := by simpa using hgo.1
    simp only [invoke, callFunc, Sem.run_bind, Sem.run_pure, Result.andThen_ok, run_program, hfn, hne, hbn, Bool.false_eq_true, if_false]
  · cases hgo

theorem setJp_box {st : St (sem T)} {i : Nat} {tmps : List (SV (sem T))} {j : Option Nat} {bx : Box (sem T)} (h : st.boxes[i]? = some bx) :
    setJp st i tmps j = { st with tmps := tmps, boxes := st.boxes.set i { bx with cells := jpCells j, ver := bx.ver + 1 } } := by
  unfold setJp
  rw [h]

/-- A round of a loop over a function, out of the runs of its assignment and its body. -/
theorem hand_sound {cfg : Cfg} {B : Bs T} {ys : Ys (sem T)} {y : Yd (sem T)} {L : LStat T} {ps : Array Tmp} {assign body : Code} {st0 : St (sem T)} {Ra : List (SV (sem T)) → St (sem T) → (St (sem T) → Tree (sem T)) → Tree (sem T)}
    (hB : B.lps y.i = some L) (hys : YsOk cfg w0 ys B) (hne : ∀ y' ∈ ys, y'.i ≠ y.i) (hLb : L.busy = false) (hLp : L.params = ps) (hLa : L.assign = assign) (hLd : L.body = body) (hLt : L.tmps = st0.tmps)
    {EA EB : St (sem T) → (St (sem T) → Tree (sem T)) → (Nat → St (sem T) → Tree (sem T)) → (St (sem T) → Tree (sem T)) → Tree (sem T)}
    (hA : ∀ (B' : Bs T) {b : Nat} {n : Nat} {bl : List Nat} {vs : List Value} {R : Nat → Prop} {ow : Nat → Option Owner} {st : St (sem T)} {a : Act} {w : World} {kN kR : St (sem T) → Tree (sem T)} {kE : Nat → St (sem T) → Tree (sem T)}, YsOk cfg w0 ys B' →
      HR cfg.P w0 B' bl vs R ow st.boxes st.ents w → TD bl vs ow st.tmps a → (EA st kN kE kR).den → assign.wpIn (FZ (some b)) n cfg.P (Sat cfg.P w0 B' bl vs ow st (dsts assign) a kN kE kR) a w)
    (hBd : ∀ (B' : Bs T) {b : Nat} {n : Nat} {bl : List Nat} {vs : List Value} {R : Nat → Prop} {ow : Nat → Option Owner} {st : St (sem T)} {a : Act} {w : World} {kN kR : St (sem T) → Tree (sem T)} {kE : Nat → St (sem T) → Tree (sem T)}, YsOk cfg w0 ys B' →
      HR cfg.P w0 B' bl vs R ow st.boxes st.ents w → TD bl vs ow st.tmps a → (EB st kN kE kR).den → body.wpIn (FZ (some b)) n cfg.P (Sat cfg.P w0 B' bl vs ow st (dsts body) a kN kE kR) a w)
    {args : List (SV (sem T))} {vals : List Value} {st1 : St (sem T)} {k : SV (sem T) → St (sem T) → Tree (sem T)} {bl : List Nat} {vs : List Value} {R : Nat → Prop} {ow : Nat → Option Owner} {w : World}
    (h : HR cfg.P w0 B bl vs R ow st1.boxes st1.ents w) (hv : SVRs bl vs args vals) (hj : jpAt st1 y.i = .none) (hlen : args.length = ps.size) {wr : Bool}
    (hd : (EA { st1 with tmps := setMany st0.tmps ps.toList args, wr := wr } (fun st2 => onNone (jpAt st2 y.i) (EB st2
        (fun st3 => k (.blit true) { st3 with tmps := st1.tmps, wr := st1.wr }) (fun id st3 => k (.blit false) (setJp { st3 with wr := st1.wr } y.i st1.tmps (some id))) (fun st3 => k (.blit false) (setJp { st3 with wr := st1.wr } y.i st1.tmps none))) (.fail "a loop's assignment" y.i))
        (fun _ _ => .fail "an exit out of a loop's assignment" y.i) (fun _ => .fail "a return out of a loop's assignment" y.i)).den) :
    YieldOk cfg.P w0 B bl vs ow st1 w y.i vals k := by
  obtain ⟨bx, g1, g2, g3⟩ := jp_inv hj (by simp)
  obtain ⟨bx', b, k1, _, k3, k4, r, r1, r2, r3, r4, r5, j, j1, j2, j3, j4⟩ := h.lp y.i L hB
  rw [g1] at k1; cases k1
  rw [g3] at j1
  have hjn : none = j := by simpa [jpCode] using j1
  subst hjn
  have hst : r.state = .ready := by rw [j3, hLb]; rfl
  have hargs : vals.toArray.size = r.params.size := by rw [r2, hLp, ← hlen]; simpa using hv.length.symm
  have hy := run_yield (P := cfg.P) (args := vals.toArray) r1 hargs
  refine ⟨b, k3, r.fn, _, r.assign, r.body, hy, fun n => roundIn_of_wpIn trivial ?_⟩
  have htm : TD bl vs ow (setMany st0.tmps ps.toList args) { tmps := (r.params.zip vals.toArray).foldl (fun tmps (t, a) => tmps.setIfInBounds t a) r.tmps, defers := [] } := by
    refine ⟨⟨[], rfl, by simp, List.nodup_nil⟩, ?_⟩
    have := setMany_tr (bl := bl) (vs := vs) (ps := ps.toList) (tmps := st0.tmps) (args := args) (vals := vals) (t := r.tmps) (by rw [← hLt]; exact r5) hv (by rw [hlen]; simp)
    have e : (r.params.zip vals.toArray).foldl (fun tmps (t, a) => tmps.setIfInBounds t a) r.tmps = (ps.toList.zip vals).foldl (fun t p => t.setIfInBounds p.1 p.2) r.tmps := by
      rw [r2, hLp, ← Array.foldl_toList, Array.toList_zip]
    show SVRs bl vs _ ((r.params.zip vals.toArray).foldl (fun tmps (t, a) => tmps.setIfInBounds t a) r.tmps).toList
    rw [e]
    exact this
  have hAw := hA B (b := b) (n := n) (st := { st1 with tmps := setMany st0.tmps ps.toList args, wr := wr }) hys h htm hd
  rw [r3, hLa]
  refine wpIn_mono (F := FZ (some b)) hAw ?_
  intro e a1 w1 hq
  cases e with
  | exit id => obtain ⟨_, _, _, _, _, _, _, _, hd⟩ := hq; exact hd.elim
  | ret => obtain ⟨_, _, _, _, _, _, _, _, hd⟩ := hq; exact hd.elim
  | goto l => exact hq.elim
  | panic ch => exact hq.elim
  | outgrown => exact hq.elim
  | normal =>
    obtain ⟨_, bl1, vs1, R1, ow1, st2, hS, ht1, hd1⟩ := hq
    -- the round begins
    have hb1 := hS.bl _ _ k3
    obtain ⟨bx1, b', m1, m2, m3, m4, q, q1, q2, q3, q4, q5, jj, jj1, jj2, jj3, jj4⟩ := hS.hr.lp y.i L hB
    rw [hb1] at m3; cases m3
    dsimp only [onNone] at hd1
    split at hd1
    · rename_i hj2
      obtain ⟨bx2, u1, u2, u3⟩ := jp_inv hj2 (by simp)
      rw [m1] at u1; cases u1
      rw [u3] at jj1
      have hjj : none = jj := by simpa [jpCode] using jj1
      subst hjj
      have hready : q.state = .ready := by rw [jj3, hLb]; rfl
      refine ⟨_, run_beginRound q1 hready, ?_⟩
      have hB2 : HR cfg.P w0 (B.put y.i (some { L with busy := true })) bl1 vs1 R1 ow1 st2.boxes st2.ents (w1.putObj b (.loop { q with state := .busy })) := by
        refine hS.hr.setLoop hb1 m4 rfl (fun j hj => Bs.put_ne B hj _) (fun _ _ => rfl) m1 m2 rfl (fun L' hL' => ?_)
        rw [Bs.put_eq] at hL'
        cases hL'
        exact ⟨_, rfl, q2, q3, q4, q5, none, by rw [u3]; rfl, jj2, rfl, fun _ => rfl⟩
      have hys2 : YsOk cfg w0 ys (B.put y.i (some { L with busy := true })) := hys.mono rfl (fun y' hy' => Bs.put_ne B (hne y' hy') _)
      rw [r4, hLd]
      refine wpIn_mono (F := FZ (some b)) (hBd _ hys2 hB2 ht1 hd1) ?_
      -- the round's end
      intro e a3 w3 hq3
      have fin : ∀ (jump : Option Code) (st3 : St (sem T)) (bl3 : List Nat) (vs3 : List Value) (R3 : Nat → Prop) (ow3 : Nat → Option Owner), Stp cfg.P w0 (B.put y.i (some { L with busy := true })) bl1 vs1 ow1 st2 bl3 vs3 R3 ow3 st3 w3 →
          ∃ (bx3 : Box (sem T)) (w4 : World), st3.boxes[y.i]? = some bx3 ∧ bx3.live = false ∧ (Instr.endRound b jump).run cfg.P w3 = .ok (.bool jump.isNone) w4 ∧
            ∀ (boxes' : List (Box (sem T))) (bx' : Box (sem T)), (∀ j, j ≠ y.i → boxes'[j]? = st3.boxes[j]?) → boxes'[y.i]? = some bx' → bx'.live = false → boxes'.length = st3.boxes.length → jpCode (jpOf bx'.cells) = some jump → HR cfg.P w0 B bl3 vs3 R3 ow3 boxes' st3.ents w4 := by
        intro jump st3 bl3 vs3 R3 ow3 hS3
        obtain ⟨bx3, b3, n1, n2, n3, n4, z, z1, z2, z3, z4, z5, _⟩ := hS3.hr.lp y.i _ (Bs.put_eq B _ _)
        rw [hS3.bl _ _ hb1] at n3; cases n3
        refine ⟨bx3, _, n1, n2, run_endRound jump z1, fun boxes' bx' u1 u2 u3 u4 u5 => ?_⟩
        refine hS3.hr.setLoop (hS3.bl _ _ hb1) n4 rfl (fun j hj => (Bs.put_ne B hj _).symm) u1 u2 u3 u4 (fun L' hL' => ?_)
        rw [hB] at hL'
        cases hL'
        refine ⟨_, rfl, z2, z3, z4, z5, jump, u5, rfl, ?_, fun hh => by rw [hLb] at hh; cases hh⟩
        rw [hLb]
        cases jump <;> rfl
      cases e with
      | normal =>
        obtain ⟨_, bl3, vs3, R3, ow3, st3, hS3, ht3, hd3⟩ := hq3
        obtain ⟨bx3, w4, n1, n2, hrun, hH⟩ := fin none st3 bl3 vs3 R3 ow3 hS3
        obtain ⟨bx3', b3, o1, o2, o3, o4, z, _, _, _, _, _, j5, j6, _, _, j7⟩ := hS3.hr.lp y.i _ (Bs.put_eq B _ _)
        rw [n1] at o1; cases o1
        refine ⟨_, w4, hrun, _, rfl, .blit true, { st3 with tmps := st1.tmps, wr := st1.wr }, bl3, vs3, R3, ow3, ⟨hH _ bx3 (fun _ _ => rfl) n1 n2 rfl (by rw [j6, j7 rfl]), fun i b hb => hS3.bl i b (hS.bl i b hb), fun i v hv => hS3.vs i v (hS.vs i v hv), ?_, fun b hb => hS3.mrk b (hS.mrk b hb)⟩, rfl, rfl, hd3⟩
        have := hS.ext.trans hS3.ext
        exact ⟨this.box, this.ent⟩
      | ret =>
        obtain ⟨_, bl3, vs3, R3, ow3, st3, hS3, ht3, hd3⟩ := hq3
        obtain ⟨bx3, w4, n1, n2, hrun, hH⟩ := fin (some .ret) st3 bl3 vs3 R3 ow3 hS3
        refine ⟨_, w4, hrun, _, rfl, .blit false, setJp { st3 with wr := st1.wr } y.i st1.tmps none, bl3, vs3, R3, ow3, ⟨?_, fun i b hb => hS3.bl i b (hS.bl i b hb), fun i v hv => hS3.vs i v (hS.vs i v hv), ?_, fun b hb => hS3.mrk b (hS.mrk b hb)⟩, ?_, rfl, hd3⟩
        · rw [setJp_box (st := { st3 with wr := st1.wr }) n1]
          exact hH _ { bx3 with cells := jpCells none, ver := bx3.ver + 1 } (fun j hj => by simp only; rw [List.getElem?_set_ne (fun e => hj e.symm)]) (set_get_same n1) n2 (by simp) rfl
        · rw [setJp_box (st := { st3 with wr := st1.wr }) n1]
          have := (hS.ext.trans hS3.ext).trans (Ext.of_set_box (st := st3) (st' := { st3 with tmps := st1.tmps, wr := st1.wr, boxes := st3.boxes.set y.i { bx3 with cells := jpCells none, ver := bx3.ver + 1 } }) (i := y.i) rfl rfl (fun b0 h0 => by rw [n1] at h0; cases h0; exact ⟨Nat.lt_succ_self _, rfl⟩))
          exact ⟨this.box, this.ent⟩
        · rw [setJp_box (st := { st3 with wr := st1.wr }) n1]
      | exit id =>
        obtain ⟨_, bl3, vs3, R3, ow3, st3, hS3, ht3, hd3⟩ := hq3
        obtain ⟨bx3, w4, n1, n2, hrun, hH⟩ := fin (some (.exit id)) st3 bl3 vs3 R3 ow3 hS3
        refine ⟨_, w4, hrun, _, rfl, .blit false, setJp { st3 with wr := st1.wr } y.i st1.tmps (some id), bl3, vs3, R3, ow3, ⟨?_, fun i b hb => hS3.bl i b (hS.bl i b hb), fun i v hv => hS3.vs i v (hS.vs i v hv), ?_, fun b hb => hS3.mrk b (hS.mrk b hb)⟩, ?_, rfl, hd3⟩
        · rw [setJp_box (st := { st3 with wr := st1.wr }) n1]
          exact hH _ { bx3 with cells := jpCells (some id), ver := bx3.ver + 1 } (fun j hj => by simp only; rw [List.getElem?_set_ne (fun e => hj e.symm)]) (set_get_same n1) n2 (by simp) rfl
        · rw [setJp_box (st := { st3 with wr := st1.wr }) n1]
          have := (hS.ext.trans hS3.ext).trans (Ext.of_set_box (st := st3) (st' := { st3 with tmps := st1.tmps, wr := st1.wr, boxes := st3.boxes.set y.i { bx3 with cells := jpCells (some id), ver := bx3.ver + 1 } }) (i := y.i) rfl rfl (fun b0 h0 => by rw [n1] at h0; cases h0; exact ⟨Nat.lt_succ_self _, rfl⟩))
          exact ⟨this.box, this.ent⟩
        · rw [setJp_box (st := { st3 with wr := st1.wr }) n1]
      | goto l => exact hq3.elim
      | panic ch => exact hq3.elim
      | outgrown => exact hq3.elim
    · exact hd1.elim

theorem sat_lets {P : Program} {B : Bs T} {bl : List Nat} {vs : List Value} {ow : Nat → Option Owner} {st : St (sem T)} {D : List Nat} {a : Act} {kN kR : St (sem T) → Tree (sem T)} {kE : Nat → St (sem T) → Tree (sem T)} : ¬ LetsOut (Sat P w0 B bl vs ow st D a kN kE kR) := by
  rintro ⟨a, w, h⟩
  exact h

/-- **THE RUN OF CODE.** -/
theorem exec_sound {cfg : Cfg} {mk : Ys (sem T) → Inl (sem T)} (hsig : SigOk T cfg) (hmk : MkOk cfg w0 mk) : ∀ (c : Code) {B : Bs T} {ys : Ys (sem T)} {inR : Bool} {rnd : Option Nat} {n : Nat} {path : Nat} {bl : List Nat} {vs : List Value} {R : Nat → Prop} {ow : Nat → Option Owner} {st : St (sem T)} {a : Act} {w : World} {kN kR : St (sem T) → Tree (sem T)} {kE : Nat → St (sem T) → Tree (sem T)},
    YsOk cfg w0 ys B → (inR = false → rnd = none) → HR cfg.P w0 B bl vs R ow st.boxes st.ents w → TD bl vs ow st.tmps a → (exec cfg mk ys inR path c st kN kE kR).den → c.wpIn (FZ rnd) n cfg.P (Sat cfg.P w0 B bl vs ow st (dsts c) a kN kE kR) a w
  | .skip, B, ys, inR, rnd, n, path, bl, vs, R, ow, st, a, w, kN, kR, kE, hys, hr, h, ht, hd => wpIn_skip ⟨Keeps.refl _ _, bl, vs, R, ow, st, (Stp.refl h), ht, hd⟩
  | .exit id, B, ys, inR, rnd, n, path, bl, vs, R, ow, st, a, w, kN, kR, kE, hys, hr, h, ht, hd => wpIn_exit ⟨Keeps.refl _ _, bl, vs, R, ow, st, (Stp.refl h), ht, hd⟩
  | .ret, B, ys, inR, rnd, n, path, bl, vs, R, ow, st, a, w, kN, kR, kE, hys, hr, h, ht, hd => wpIn_ret ⟨Keeps.refl _ _, bl, vs, R, ow, st, (Stp.refl h), ht, hd⟩
  | .seq x y, B, ys, inR, rnd, n, path, bl, vs, R0', ow0, st0, a, w, kN, kR, kE, hys, hr, h0, ht0, hd => by
    unfold exec at hd
    have keep : ∀ {t}, t ∈ dsts x → t ∈ dsts (.seq x y) := fun ht => by simp [dsts, ht]
    split at hd
    · simp only at hd
      generalize hh : joinHav cfg.P (cfg.hav (path * 1000 + firstRegion y)) ys x y st0 = hv at hd
      obtain ⟨R, ow, hF, htF, _, _⟩ := h0.freezes (roIds (hksAll hv) (svsAll st0 hv))
      generalize hst : freezeHav hv st0 = st at hd
      have hF : Stp cfg.P w0 B bl vs ow0 st0 bl vs R ow st w := by rw [← hst]; exact hF
      have htF : st.tmps = st0.tmps := by rw [← hst]; exact htF
      have h := hF.hr
      have ht : TD bl vs ow st.tmps a := by rw [htF]; exact ⟨ht0.1.mono hF.mrk, ht0.2⟩
      refine wpIn_mono (Q := Sat cfg.P w0 B bl vs ow st (dsts (.seq x y)) a kN kE kR) ?_ (fun e a' w' hq => hq.of hF (fun _ x => x) (Keeps.refl _ _))
      split at hd
      · rename_i hok
        unfold loopOk at hok
        simp only [Bool.and_eq_true] at hok
        obtain ⟨⟨hok1, hok2⟩, hok3⟩ := hok
        have hD : ∀ t ∈ dsts x, t ∈ hv.slots.map (·.1) := fun t ht => by
          have := List.all_eq_true.1 hok1 t ht
          simpa using this
        obtain ⟨J, hd1, hd2⟩ := hd
        refine wpIn_seq (wpIn_mono (exec_sound hsig hmk x hys hr h ht hd1) ?_)
        intro e a' w' hq
        cases e with
        | normal =>
          obtain ⟨hk, bl2, vs2, R2, ow2, st2, hS2, ht2, hdn⟩ := hq
          dsimp only at hdn
          obtain ⟨R3, ow3, hF2, htF2, _, _⟩ := hS2.hr.freezes (roIds (hksAll hv) (svsAll st2 hv))
          generalize hst2 : freezeHav hv st2 = st3 at hdn
          have hF2 : Stp cfg.P w0 B bl2 vs2 ow2 st2 bl2 vs2 R3 ow3 st3 w' := by rw [← hst2]; exact hF2
          have htF2 : st3.tmps = st2.tmps := by rw [← hst2]; exact htF2
          have ht3 : TD bl2 vs2 ow3 st3.tmps a' := by rw [htF2]; exact ⟨ht2.1.mono hF2.mrk, ht2.2⟩
          have hS3 := hS2.trans hF2
          split at hdn
          · rename_i hro
            split at hdn
            · rename_i news hnews
              split at hdn
              · rename_i hno
                simp only [Bool.and_eq_true] at hno
                have hpre := join_end h ht hok3 hD hS3 ht3 hk hro hnews hno.1 hno.2
                obtain ⟨svs, cs, st1, vs', R', ow', es, hS1, ht1, hcs, hb1, he1, hf⟩ := head_in hpre hok3 hd2
                have hf := hf (by rw [hcs]; exact hdn)
                exact wpIn_mono (exec_sound hsig hmk y hys hr hS1.hr ht1 hf) fun e a2 w2 hq2 => hq2.of hS1 (fun t ht => by simp [dsts, ht]) (hk.mono fun t ht => keep ht)
              · exact hdn.elim
            · exact hdn.elim
          · exact hdn.elim
        | exit id => exact ⟨hq.1.mono fun t ht => keep ht, hq.2⟩
        | ret => exact ⟨hq.1.mono fun t ht => keep ht, hq.2⟩
        | goto l => exact hq.elim
        | panic ch => exact hq.elim
        | outgrown => exact hq.elim
      · exact hd.elim
    · refine wpIn_seq (wpIn_mono (exec_sound hsig hmk x hys hr h0 ht0 hd) ?_)
      intro e a' w' hq
      cases e with
      | normal =>
        obtain ⟨hk, bl1, vs1, R1, ow1, st1, hS, ht1, hd1⟩ := hq
        exact wpIn_mono (exec_sound hsig hmk y hys hr hS.hr ht1 hd1) fun e a2 w2 hq2 => hq2.of hS (fun t ht => by simp [dsts, ht]) (hk.mono fun t ht => keep ht)
      | exit id => exact ⟨hq.1.mono fun t ht => keep ht, hq.2⟩
      | ret => exact ⟨hq.1.mono fun t ht => keep ht, hq.2⟩
      | goto l => exact hq.elim
      | panic ch => exact hq.elim
      | outgrown => exact hq.elim
  | .cond c x y, B, ys, inR, rnd, n, path, bl, vs, R, ow, st, a, w, kN, kR, kE, hys, hr, h, ht, hd => by
    unfold exec at hd
    obtain ⟨st1, hS, ht1, hd1⟩ := decided_sound h ht hd
    have hev := ev_sound ht1.tr c
    split at hd1
    · rename_i hc
      rw [hc] at hev
      exact wpIn_cond_true hev (wpIn_mono (exec_sound hsig hmk x hys hr hS.hr ht1 hd1) fun e a2 w2 hq2 => hq2.of hS (fun t ht => by simp [dsts, ht]) (Keeps.refl _ _))
    · rename_i hc
      rw [hc] at hev
      exact wpIn_cond_false hev (wpIn_mono (exec_sound hsig hmk y hys hr hS.hr ht1 hd1) fun e a2 w2 hq2 => hq2.of hS (fun t ht => by simp [dsts, ht]) (Keeps.refl _ _))
    · exact hd1.elim
  | .block id b, B, ys, inR, rnd, n, path, bl, vs, R, ow, st, a, w, kN, kR, kE, hys, hr, h, ht, hd => by
    unfold exec at hd
    refine wpIn_block (wpIn_mono (exec_sound hsig hmk b hys hr h ht hd) ?_)
    intro e a' w' hq
    cases e with
    | normal => exact hq
    | exit id' =>
      obtain ⟨hk, bl1, vs1, R1, ow1, st1, hS, ht1, hd1⟩ := hq
      simp only [Exit.inBlock]
      by_cases hid : id' = id
      · simp only [hid, if_true, beq_self_eq_true] at hd1 ⊢
        exact ⟨hk, bl1, vs1, R1, ow1, st1, hS, ht1, hd1⟩
      · have hd1 : (if (id' == id) = true then kN st1 else kE id' st1).den := hd1
        rw [if_neg (by simpa using hid)] at hd1
        rw [if_neg hid]
        exact ⟨hk, bl1, vs1, R1, ow1, st1, hS, ht1, hd1⟩
    | ret => exact hq
    | goto l => exact hq.elim
    | panic ch => exact hq.elim
    | outgrown => exact hq.elim
  | .region id ops draw, B, ys, inR, rnd, n, path, bl, vs, R, ow, st, a, w, kN, kR, kE, hys, hr, h, ht, hd => by
    unfold exec at hd
    cases draw with
    | false =>
      simp only [Bool.false_eq_true, if_false] at hd
      exact wp_region_LI (runOps_sound hsig (hmk.1 ys B hys) ops.toList h ht hd fun a' w' hk hr => ⟨hk, hr⟩)
    | true =>
      simp only [if_true] at hd
      split at hd
      · rename_i hc
        simp only [Bool.and_eq_true] at hc
        obtain ⟨⟨hc1, hc2⟩, hc3⟩ := hc
        refine wpIn_draw (S := Base cfg.P bl vs (baseOf st (writtenIn ops st))) sat_lets hc3 hc2 ?_
        have hdr : Below w.heap.size w { w with drawn := w.drawn + 1 } := Below.drew (Below.refl _ _)
        have h' := h.grow hdr
        exact runDraw_sound hsig (hmk.c B) (fun c a w h => h) hc1 h' (D := dsts (.region id ops true)) (a0 := a) (fun i o ho x hx => by
            simp only [dsts, List.mem_filterMap]
            exact ⟨o, by simpa using Array.mem_of_getElem? ho, hx⟩) (fun a' w' hk hr => ⟨hk, hr⟩) _ (Stp.refl h') ht hd (base_start h' _) (todo_start _) (Keeps.refl _ _)
      · exact hd.elim
  | .loop b, B, ys, inR, rnd, n, path, bl, vs, R0', ow0, st0, a, w, kN, kR, kE, hys, hr, h0, ht0, hd => by
    unfold exec at hd
    simp only at hd
    generalize hh : autoHav cfg.P (cfg.hav (path * 1000 + firstRegion b)) ys b st0 = hv at hd
    obtain ⟨R, ow, hF, htF, _, _⟩ := h0.freezes (roIds (hksAll hv) (svsAll st0 hv))
    generalize hst : freezeHav hv st0 = st at hd
    have hF : Stp cfg.P w0 B bl vs ow0 st0 bl vs R ow st w := by rw [← hst]; exact hF
    have htF : st.tmps = st0.tmps := by rw [← hst]; exact htF
    have h := hF.hr
    have ht : TD bl vs ow st.tmps a := by rw [htF]; exact ⟨ht0.1.mono hF.mrk, ht0.2⟩
    refine wpIn_mono (Q := Sat cfg.P w0 B bl vs ow st (dsts (.loop b)) a kN kE kR) ?_ (fun e a' w' hq => hq.of hF (fun _ x => x) (Keeps.refl _ _))
    split at hd
    · rename_i hok
      unfold loopOk at hok
      simp only [Bool.and_eq_true] at hok
      obtain ⟨⟨hok1, hok2⟩, hok3⟩ := hok
      have hD : ∀ t ∈ dsts b, t ∈ hv.slots.map (·.1) := fun t ht => by
        have := List.all_eq_true.1 hok1 t ht
        simpa using this
      split at hd
      · rename_i raws hraw
        obtain ⟨J, M, hJ, hd⟩ := hd
        refine wpIn_loop_ghost (fun n a' w' => ∃ ds, apP (shapeHav hv) J ds ∧ n = apN (shapeHav hv) M ds ∧ Keeps (dsts b) a a' ∧ Pre cfg.P w0 B bl vs ow (headSt st hv) hv ds a' w') (apN (shapeHav hv) M (raws.map Cl.toD))
          ⟨_, hJ, rfl, Keeps.refl _ _, pre_start h ht hok3 hok2 hraw⟩ ?_
        rintro m a1 w1 ⟨ds, hJd, rfl, hk1, hpre⟩
        obtain ⟨svs, cs, st1, vs', R', ow', es, hS1, ht1, hcs, hb1, he1, hf⟩ := head_in hpre hok3 hd
        have hf := hf (by rw [hcs]; exact hJd)
        refine wpIn_mono (exec_sound hsig hmk b hys hr hS1.hr ht1 hf) ?_
        intro e a2 w2 hq
        cases e with
        | normal =>
          obtain ⟨hk2, bl2, vs2, R2, ow2, st2, hS2, ht2, hd2⟩ := hq
          dsimp only at hd2
          obtain ⟨R3, ow3, hF2, htF2, _, _⟩ := hS2.hr.freezes (roIds (hksAll hv) (svsAll st2 hv))
          generalize hst2 : freezeHav hv st2 = st3 at hd2
          have hF2 : Stp cfg.P w0 B bl2 vs2 ow2 st2 bl2 vs2 R3 ow3 st3 w2 := by rw [← hst2]; exact hF2
          have htF2 : st3.tmps = st2.tmps := by rw [← hst2]; exact htF2
          have ht3 : TD bl2 vs2 ow3 st3.tmps a2 := by rw [htF2]; exact ⟨ht2.1.mono hF2.mrk, ht2.2⟩
          have hS3 := hS2.trans hF2
          split at hd2
          · rename_i hro
            split at hd2
            · rename_i news hnews
              split at hd2
              · rename_i hno
                simp only [Bool.and_eq_true] at hno
                obtain ⟨g1, g2⟩ := hd2
                exact ⟨_, by rw [← hcs]; exact g2, news.map Cl.toD, g1, rfl, hk1.trans hk2, round_end h ht hok3 hD hb1 he1 hS1.vs hS1.mrk hS3 ht3 (hk1.trans hk2) hro hnews hno.1 hno.2⟩
              · exact hd2.elim
            · exact hd2.elim
          · exact hd2.elim
        | exit id' => exact Sat.of (e := .exit id') hS1 (fun _ x => x) hk1 hq
        | ret => exact Sat.of (e := .ret) hS1 (fun _ x => x) hk1 hq
        | goto l => exact hq.elim
        | panic ch => exact hq.elim
        | outgrown => exact hq.elim
      · exact hd.elim
    · exact hd.elim
  | .rangeFunc f ps assign body, B, ys, inR, rnd, n, path, bl, vs, R, ow, st, a, w, kN, kR, kE, hys, hr, h, ht, hd => by
    unfold exec at hd
    have hf := ev_sound ht.tr f
    split at hd
    · rename_i g caps hfe
      rw [hfe] at hf
      obtain ⟨cs, hfv, hcs⟩ := hf
      split at hd
      · rename_i hgo
        simp only [Bool.and_eq_true, Bool.not_eq_true'] at hgo
        obtain ⟨hgo, hin⟩ := hgo
        have hrn := hr hin
        subst hrn
        dsimp only at hd
        refine wpIn_rangeFunc fun fn _ => ?_
        let L : LStat T := { params := ps, assign := assign, body := body, tmps := st.tmps, busy := false }
        let rec0 : Loop := { state := .ready, pending := none, fn, tmps := a.tmps, params := ps, assign, body, defers := w.heap.size }
        have hE := h.enterLoop (L := L) (r := rec0) rfl rfl rfl ht.2 rfl rfl rfl
        have hnone : ∀ j, B.lps j ≠ none → j < st.boxes.length := fun j hj => by
          cases hL : B.lps j with
          | none => exact absurd hL hj
          | some L' =>
            obtain ⟨bx, b, g1, _⟩ := h.lp j L' hL
            exact (List.getElem?_eq_some_iff.1 g1).1
        have hne : ∀ y' ∈ ys, y'.i ≠ st.boxes.length := fun y' hy' e => by
          obtain ⟨L', hL'⟩ := hys.lps y' hy'
          have := hnone y'.i (by rw [hL']; simp)
          omega
        generalize hyd : ({ i := st.boxes.length, code := .seq assign body, tmps := st.tmps, run := _ } : Yd (sem T)) = yd at hd
        have hydi : yd.i = st.boxes.length := by rw [← hyd]
        have hys1 : YsOk cfg w0 ys (B.put st.boxes.length (some L)) := hys.mono rfl (fun y' hy' => Bs.put_ne B (hne y' hy') _)
        have hys' : YsOk cfg w0 (yd :: ys) (B.put st.boxes.length (some L)) := by
          refine ⟨⟨L, by rw [hydi]; exact Bs.put_eq _ _ _, rfl, fun B' hR' hL' hysB => ?_⟩, hys1⟩
          intro args vals st1 k bl' vs' R' ow' w' h' hv' hd'
          rw [← hyd] at hd'
          dsimp only at hd'
          split at hd'
          · rename_i hj
            split at hd'
            · rename_i hlen
              refine hand_sound (y := yd) (L := L) (ps := ps) (assign := assign) (body := body) (st0 := st) (Ra := fun _ _ _ => .done) (EA := fun st kN kE kR => exec cfg mk ys true (path * 1000 + 998) assign st kN kE kR) (EB := fun st kN kE kR => exec cfg mk ys true (path * 1000 + 999) body st kN kE kR) hL' hysB (fun y' hy' => by rw [hydi]; exact hne y' hy') rfl rfl rfl rfl rfl
                (fun B2 {b n bl vs R ow st a w kN kR kE} g1 g2 g3 g4 => exec_sound hsig hmk assign g1 (fun hh => by cases hh) g2 g3 g4) (fun B2 {b n bl vs R ow st a w kN kR kE} g1 g2 g3 g4 => exec_sound hsig hmk body g1 (fun hh => by cases hh) g2 g3 g4) h' hv' (by rw [hydi]; exact hj) (by simpa using hlen) (wr := st.wr) ?_
              rw [hydi]
              exact hd'
            · exact hd'.elim
          · exact hd'.elim
        have hcall := hmk.1 (yd :: ys) _ hys' (path * 1000 + 997) (.fn g) (.yld st.boxes.length :: caps) (.func (.yield (w.heap.size + 1)) #[] #[] :: cs.toList) { st with boxes := st.boxes ++ [⟨0, [], 0, false⟩] } _ _ _ _ _ _ hE
          ⟨⟨w.heap.size + 1, by rw [← h.nb]; simp, rfl⟩, hcs.mono (fun _ _ => get_append_lt) (fun _ _ x => x)⟩ hd
        refine ⟨w.heap.size + 1, [markD w.heap.size], _, _, _, g, _, _, run_enterLoop_outer fn a.tmps ps assign body, run_resolve_range hfv, fun _ _ => trivial, run_invoke_range hgo, (fun hh => nomatch hh), ?_⟩
        dsimp only at hcall
        unfold CallOk at hcall
        have hargs : (.func (.yield (w.heap.size + 1)) #[] #[] :: cs.toList : List Value).toArray = #[.func (.yield (w.heap.size + 1)) #[] #[]] ++ cs := by
          rw [← Array.toList_inj]; simp
        rw [hargs] at hcall
        refine (callsIn_FZ (rnd := none) (n := n - 1)).2 (hcall.mono ?_)
        rintro e w3 ⟨v, rfl, sv, st2, bl2, vs2, R2, ow2, hS2, htm2, _, hd2⟩
        -- behind the iterator
        obtain ⟨bx, b, m1, m2, m3, m4, q, q1, q2, q3, q4, q5, j, j1, j2, j3, _⟩ := hS2.hr.lp st.boxes.length L (Bs.put_eq _ _ _)
        have hbl : b = w.heap.size + 1 := by
          have := hS2.bl st.boxes.length (w.heap.size + 1) (by rw [← h.nb]; simp)
          rw [m3] at this
          exact Option.some.inj this
        subst hbl
        have hnb : q.state ≠ .busy := by
          rw [j3]
          cases j <;> simp [L]
        have hend := run_endLoop (P := cfg.P) q1 hnb
        have hlast : B.lps st.boxes.length = none := by
          cases hL : B.lps st.boxes.length with
          | none => rfl
          | some L' => have := hnone st.boxes.length (by rw [hL]; simp); omega
        have hH : HR cfg.P w0 B bl2 vs2 R2 ow2 st2.boxes st2.ents (w3.putObj (w.heap.size + 1) (.loop { q with state := .exhausted })) :=
          hS2.hr.setLoop m3 m4 rfl (fun j hj => (Bs.put_ne B hj _).symm) (fun _ _ => rfl) m1 m2 rfl (fun L' hL' => by rw [hlast] at hL'; cases hL')
        have hmark : ow2 w.heap.size = some (.mark 0) := hS2.mrk _ (by rw [setOw_ne (by omega), setOw_eq])
        have hmrk : ∀ {l : Nat} x, ow x = some (.mark l) → ow2 x = some (.mark l) := fun x hx => by
          have := (h.olt x _ hx).2
          exact hS2.mrk x (by rw [setOw_ne (by omega), setOw_ne (by omega)]; exact hx)
        have hbl2 : ∀ (i b : Nat), bl[i]? = some b → bl2[i]? = some b := fun i b hb => hS2.bl i b (get_append_lt hb)
        have hext := (Ext.of_append (st := st) (st' := { st with boxes := st.boxes ++ [⟨0, [], 0, false⟩] }) (nb := [⟨0, [], 0, false⟩]) (ne := []) rfl (by simp)).trans hS2.ext
        have hSf : Stp cfg.P w0 B bl vs ow st bl2 vs2 R2 ow2 { st2 with tmps := st.tmps } (w3.putObj (w.heap.size + 1) (.loop { q with state := .exhausted })) := ⟨hH, hbl2, hS2.vs, ⟨hext.box, hext.ent⟩, hmrk⟩
        have hTf : TD bl2 vs2 ow2 ({ st2 with tmps := st.tmps } : St (sem T)).tmps { a with defers := [markD w.heap.size] ++ a.defers } := by
          obtain ⟨Ds, d1, d2, d3⟩ := ht.1
          refine ⟨⟨w.heap.size :: Ds, by simp [d1], fun d hdm => ?_, ?_⟩, ht.2.mono hbl2 hS2.vs⟩
          · simp only [List.mem_cons] at hdm
            rcases hdm with rfl | hdm
            · exact hmark
            · exact hmrk d (d2 d hdm)
          · refine List.nodup_cons.2 ⟨fun hm => ?_, d3⟩
            have := (h.olt _ _ (d2 _ hm)).2
            omega
        refine ⟨q.pending, _, hend, ?_⟩
        have hkeep : Keeps (dsts (.rangeFunc f ps assign body)) a { a with defers := [markD w.heap.size] ++ a.defers } := ⟨rfl, fun _ _ => rfl⟩
        rw [j2] at hSf ⊢
        dsimp only at hd2
        split at hd2
        · rename_i hj
          obtain ⟨bx', u1, _, u3⟩ := jp_inv hj (by simp)
          rw [m1] at u1; cases u1
          rw [u3] at j1
          have : none = j := by simpa [jpCode] using j1
          subst this
          exact ⟨hkeep, bl2, vs2, R2, ow2, _, hSf, hTf, hd2⟩
        · rename_i hj
          obtain ⟨bx', u1, _, u3⟩ := jp_inv hj (by simp)
          rw [m1] at u1; cases u1
          rw [u3] at j1
          have : some .ret = j := by simpa [jpCode] using j1
          subst this
          exact wpIn_ret ⟨hkeep, bl2, vs2, R2, ow2, _, hSf, hTf, hd2⟩
        · rename_i id hj
          obtain ⟨bx', u1, _, u3⟩ := jp_inv hj (by simp)
          rw [m1] at u1; cases u1
          rw [u3] at j1
          have : some (.exit id) = j := by simpa [jpCode] using j1
          subst this
          exact wpIn_exit ⟨hkeep, bl2, vs2, R2, ow2, _, hSf, hTf, hd2⟩
        · exact hd2.elim
      · exact hd.elim
    · exact hd.elim
  | .scope _, B, ys, inR, rnd, n, path, bl, vs, R, ow, st, a, w, kN, kR, kE, hys, hr, h, ht, hd => by
    unfold exec at hd
    exact hd.elim
  | .refuse _, B, ys, inR, rnd, n, path, bl, vs, R, ow, st, a, w, kN, kR, kE, hys, hr, h, ht, hd => by
    unfold exec at hd
    exact hd.elim
  | .label _, B, ys, inR, rnd, n, path, bl, vs, R, ow, st, a, w, kN, kR, kE, hys, hr, h, ht, hd => by
    unfold exec at hd
    exact hd.elim
  | .goto _, B, ys, inR, rnd, n, path, bl, vs, R, ow, st, a, w, kN, kR, kE, hys, hr, h, ht, hd => by
    unfold exec at hd
    exact hd.elim

end Go.Sx
