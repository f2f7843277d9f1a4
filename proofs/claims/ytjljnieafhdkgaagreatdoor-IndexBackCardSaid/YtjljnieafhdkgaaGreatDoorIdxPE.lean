/-
  The condition of IndexBack. Conditions: none.
-/
import Derived.Test.YtjljnieafhdkgaaGreatDoorNumVWBack
import Derived.Test.YtjljnieafhdkgaaGreatDoorIdxN
set_option linter.unusedVariables false
set_option linter.unusedSimpArgs false
namespace Go.Sx.N

theorem WBack_ok : V_WBack := by
  intro m _ x1 _ x2 _ known _ n rn _
  simp only [Bool.decide_eq_true]
  rw [rngu16] at rn
  have rs : ∀ x : Int, -1000000 ≤ x → x ≤ 1000000 → Rng .i64 x := fun x a b => by rw [rng64]; omega
  refine ⟨trivial, fun b4 h4 => ⟨fun h => absurd h4 h, fun _ => ⟨trivial, fun name two s _ ⟨hn, h2, hB⟩ => ⟨trivial, fun a _ b _ hab => ⟨rs _ (by omega) (by omega), trivial, fun vn vl rvl vd vk rvk hv => ⟨built_name hn, fun gn gl rgl gd gk rgk e _ hg => ⟨built_name hn, fun un ul rul ud uk ruk eu _ hu => ⟨built_name hn, fun ln ll rll ld lk rlk el _ hl => ?_⟩⟩⟩⟩⟩⟩⟩⟩
  obtain ⟨sp, _, le⟩ := asked_span hab
  have g := grow_res hn h2 hB sp hg rgl rgk
  have ht : okT name two s a b := ⟨built_valid hn h2 hB, sp⟩
  have iv := frac_is hv (by decide)
  have bv := valB_frac (n := n - 9) (by omega)
  obtain ⟨v, ev⟩ : ∃ v, v = Rat.divInt (n - 9) 1000 := ⟨_, rfl⟩
  rw [← ev] at iv bv
  have ov := iv.ok (ranged16 rvl) (ranged16 rvk) (val_fit bv)
  have body : ∀ (on : Bool) (ol : Sl) (od : Bool) (ok : Sl), Ranged ol [some .u16] → Ranged ok [some .u16] → q_iOne on ol od ok → V_WBack_0 m x1 x2 known n name two s a b vn vl vd vk gn gl gd gk e un ul ud uk eu ln ll ld lk el on ol od ok := fun on ol od ok rol rok ho => by
    unfold V_WBack_0
    simp only [Bool.decide_eq_true]
    refine ⟨built_name hn, fun pn pl rpl pd pk rpk ep _ hp => ?_⟩
    have oo := ho.1.ok (ranged16 rol) (ranged16 rok) one_fit
    rcases g with ⟨k, z, e6⟩ | ⟨q, k, qp, qb, qf, ig, og, e0⟩
    · have k' : growS s a b known = .err 6 := k
      have u := chg_err hu ov ht k'
      have l := chg_err hl ov ht k'
      have p := chg_err hp oo ht k'
      refine ⟨fun h => absurd (e6.trans u.2.symm) h, fun _ => ⟨fun h => absurd (e6.trans l.2.symm) h, fun _ => ⟨fun h => absurd (e6.trans p.2.symm) h, fun _ => ⟨fun _ => ⟨fun _ => ⟨trivial, fun i1 _ h1 => ⟨trivial, fun i2 _ h2 => ?_⟩⟩, fun h => absurd e6 h⟩, fun h => by omega⟩⟩⟩⟩
      have h1 : i1 = ul.len + uk.len := h1
      have h2 : i2 = ll.len + lk.len := h2
      have := u.1.2.1; have := u.1.2.2.2; have := l.1.2.1; have := l.1.2.2.2
      exact ⟨rs _ (by omega) (by omega), decide_eq_true (by omega), trivial⟩
    · have k' : growS s a b known = .ok q := k
      have gq := gro_of (len180_le a b) qp qb
      have u := (show mulF _ _ _ _ _ _ _ from chg_ok hu ov ht k')
      unfold mulF at u
      rw [iv.fq] at u
      obtain ⟨iu, u0⟩ := u.1 (mul_fits bv gq)
      have l := (show divF _ _ _ _ _ _ _ from chg_ok hl ov ht k').1 gq.ne
      rw [iv.fq] at l
      obtain ⟨il, l0⟩ := l.1 (div_fits bv gq)
      have p := (show mulF _ _ _ _ _ _ _ from chg_ok hp oo ht k')
      unfold mulF at p
      rw [ho.1.fq, Rat.one_mul] at p
      obtain ⟨ip, p0⟩ := p.1 qf
      refine ⟨fun h => absurd (e0.trans u0.symm) h, fun _ => ⟨fun h => absurd (e0.trans l0.symm) h, fun _ => ⟨fun h => absurd (e0.trans p0.symm) h, fun _ => ⟨fun h => absurd e0 h, fun _ => ⟨built_name hn, fun bn bl rbl bd bk rbk eb _ hb => ⟨built_name hn, fun cn cl rcl cd ck rck ec _ hc => ⟨trivial, fun ra _ rb _ rk _ wn wl rwl wd wk rwk hw => ?_⟩⟩⟩⟩⟩⟩⟩
      have ou := iu.ok (ranged16 rul) (ranged16 ruk) (mul_fits bv gq)
      have ol' := il.ok (ranged16 rll) (ranged16 rlk) (div_fits bv gq)
      have b1 := (show divF _ _ _ _ _ _ _ from chg_ok hb ou ht k').1 gq.ne
      rw [iu.fq, Rat.mul_div_cancel gq.ne] at b1
      obtain ⟨ib, b0⟩ := b1.1 (val_fit bv)
      have c1 := (show mulF _ _ _ _ _ _ _ from chg_ok hc ol' ht k')
      unfold mulF at c1
      rw [il.fq, Rat.div_mul_cancel gq.ne] at c1
      obtain ⟨ic, c0⟩ := c1.1 (val_fit bv)
      obtain ⟨w1, w2, w3⟩ := one_row hw (by decide) rfl
      have zn : okN (bytes [122, 101, 114, 111]) := by unfold okN; decide
      refine ⟨zn, fun dn dl rdl dd dk rdk ed _ hd => ⟨zn, fun fn fl rfl' fd fk rfk ef _ hf => ?_⟩⟩
      have wt : okT (bytes [122, 101, 114, 111]) (decide False) (Sl.lit [[(.int ra), (.int rb), (.int rk), (.bool wn), (Sl.d wl), (.bool wd), (Sl.d wk)]]) 0 1 :=
        ⟨⟨⟨⟨by decide, by decide⟩, (show (1 : Int) ≤ 400 by decide), w1, w2⟩, rfl⟩, span_ok (by decide)⟩
      have wg : growS (Sl.lit [[(.int ra), (.int rb), (.int rk), (.bool wn), (Sl.d wl), (.bool wd), (Sl.d wk)]]) 0 1 0 = .ok 0 := by
        obtain ⟨y0, _, y1, _⟩ := fYs
        unfold growS
        rw [y0, y1]
        have g0 : grS (Sl.lit [[(.int ra), (.int rb), (.int rk), (.bool wn), (Sl.d wl), (.bool wd), (Sl.d wk)]]) 0 1900 0 = .ok 1 := rfl
        exact gr_step (p := 0) g0 (y := 1900) rfl w3 (by decide +kernel) (by decide +kernel) (by decide +kernel)
      have d1 := (show mulF _ _ _ _ _ _ _ from chg_ok hd ov wt wg)
      unfold mulF at d1
      rw [Rat.mul_zero] at d1
      obtain ⟨id', d0⟩ := d1.1 (fit_small (by decide +kernel) (by decide +kernel))
      have f1 := (show divF _ _ _ _ _ _ _ from chg_ok hf ov wt wg).2 rfl
      refine ⟨rs _ (by omega) (by omega), rs _ (by omega) (by omega), fun _ => ⟨trivial, fun r1 h1 => ⟨fun _ => ⟨trivial, fun r2 h2 => ⟨fun _ => ⟨trivial, fun r3 h3 => ⟨fun _ => ⟨trivial, fun on' ol' rol' od' ok' rok' ho' => ⟨trivial, fun r4 h4 => ⟨fun _ => ⟨decide_eq_true f1.2, trivial⟩, fun h => absurd ?_ h⟩⟩⟩, fun h => absurd ?_ h⟩⟩, fun h => absurd ?_ h⟩⟩, fun h => absurd ?_ h⟩⟩, fun h => absurd (by omega) h⟩
      · exact same_frac h4 id' (by have := frac_is ho' (by decide); rw [show Rat.divInt 0 1 = 0 by decide +kernel] at this; exact this) rdl rdk rol' rok'
      · exact same_frac h3 ip ig rpl rpk rgl rgk
      · exact same_frac h2 ic iv rcl rck rvl rvk
      · exact same_frac h1 ib iv rbl rbk rvl rvk
  exact ⟨⟨trivial, fun on ol rol od ok rok ho => ⟨body on ol od ok rol rok ho, body on ol od ok rol rok ho⟩⟩, trivial, fun on ol rol od ok rok ho => body on ol od ok rol rok ho⟩

end Go.Sx.N
