/-
 The reference's interest. Conditions: none.
-/
import Derived.Test.YtmhhcnaflklapaaGreatArrRa
set_option linter.unusedVariables false
set_option linter.unusedSimpArgs false
namespace Go.Sx.N
theorem xInterest_ok : V_xInterest := by
 intro n _ due _ paid _ name two s _ known _ hn
 simp only [Bool.decide_eq_true]
 have yes : ¬ okI n due paid name two s -> (decide True = true ↔ ¬ okI n due paid name two s) := fun h => ⟨fun _ => h, fun _ => by decide⟩
 refine ⟨fun r => r = true ↔ ¬ okI n due paid name two s, ⟨fun h => yes fun k => by have := k.1; omega, fun h1 => ⟨fun h => yes fun k => by have := k.1; omega, fun h2 => ⟨fun h => yes fun k => by have := k.2.1; omega, fun h3 => ⟨fun h => yes fun k => by have := k.2.1; omega, fun h4 => ⟨fun h => yes fun k => by have := k.2.1; omega, fun h5 => ⟨hn, fun v hv => ⟨fun h => yes fun k => h (hv.2 k.2.2.1), fun h6 => ?_⟩⟩⟩⟩⟩⟩⟩, fun v hv => ⟨fun h => ⟨⟨fun _ => ⟨rfl, rfl⟩, fun k => absurd k (hv.1 h)⟩, trivial⟩, fun h => ?_⟩⟩
 ·constructor
  ·intro k g
   have := g.2.2.2
   rw [k] at this; cases this
  ·intro k
   cases two with
   | true => rfl
   | false => exact absurd ⟨⟨by omega, by omega⟩, ⟨by omega, by omega, by omega⟩, hv.1 (Classical.not_not.1 h6), rfl⟩ k
 have hO : okI n due paid name two s := Classical.not_not.1 fun k => h (hv.2 k)
 obtain ⟨hn0, hd, hV, h2⟩ := hO
 have fin : ∀ {x e : Int}, ((n = 0 \/ due = paid) -> x = 0 /\ e = 0) -> (n ≠ 0 -> due ≠ paid -> resI (sumS s known due (paid - due).toNat) n x e) -> q_xInterest n due paid name two s known x e /\ True := fun h1 h2' => ⟨⟨fun g => absurd ⟨hn0, hd, hV, h2⟩ g, fun _ => ⟨h1, h2'⟩⟩, trivial⟩
 refine ⟨fun r => r = true ↔ (n = 0 \/ due = paid), ⟨fun h0 => ⟨fun _ => .inl h0, fun _ => by decide⟩, fun h0 => ⟨fun k => .inr (of_decide_eq_true k), fun k => by rcases k with k | k; exact absurd k h0; exact decide_eq_true k⟩⟩, fun w hw => ⟨fun hz => fin (fun _ => ⟨rfl, rfl⟩) (fun a b => by rcases hw.1 hz with k | k; exact absurd k a; exact absurd k b), fun hz => ⟨trivial, fun zn zl rzl zd zk rzk hz0 => ?_⟩⟩⟩
 have hz : ¬ (n = 0 \/ due = paid) := fun k => hz (hw.2 k)
 have hn1 : n ≠ 0 := fun k => hz (.inl k)
 have hd1 : due ≠ paid := fun k => hz (.inr k)
 have fin : ∀ {x e : Int}, resI (sumS s known due (paid - due).toNat) n x e -> q_xInterest n due paid name two s known x e /\ True := fun h => fin (fun k => absurd k hz) (fun _ _ => h)
 have hrow : ∀ i : Int, 0 <= i -> i < s.len -> okF (s.bool i 3) (s.sub i 4) (s.bool i 5) (s.sub i 6) := fun i i0 i1 => (hV.2.2.2 i i0 i1).2.2.2.2
 refine ⟨fun mo y m a b c d => ((0 <= m /\ m <= paid) /\ mo = m % 12 /\ y = 1900 + m / 12) /\ ∃ q, sumS s known due (m - due).toNat = .ok q /\ IsQ q a b c d /\ okF a b c d,
  fun _ _ m _ _ _ _ => (paid - m).toNat, ⟨⟨⟨by omega, by omega⟩, by omega, by omega⟩, 0, by rw [show ((0 : Int) - due).toNat = 0 by omega]; rfl, hz0.1, ⟨⟨_, hz0.1⟩, by have := hz0.2.1; omega, by have := hz0.2.2; omega⟩⟩, ?_⟩
 intro mo _ y _ m _ a b rb c d rd ⟨⟨⟨m0, m1⟩, hmo, hy⟩, q, hq, iq, oq⟩
 have nxt : ∀ {a' : Bool} {b' : Sl} {c' : Bool} {d' : Sl}, m < paid -> (∃ q, sumS s known due (m + 1 - due).toNat = .ok q /\ IsQ q a' b' c' d' /\ okF a' b' c' d') ->
   Rng .i64 (mo + 1) /\ ((mo + 1 = 12 -> Rng .i64 (y + 1) /\ Rng .i64 (m + 1) /\ ((((0 <= m + 1 /\ m + 1 <= paid) /\ 0 = (m + 1) % 12 /\ y + 1 = 1900 + (m + 1) / 12) /\ ∃ q, sumS s known due (m + 1 - due).toNat = .ok q /\ IsQ q a' b' c' d' /\ okF a' b' c' d') /\ (paid - (m + 1)).toNat < (paid - m).toNat)) /\
   (¬ mo + 1 = 12 -> Rng .i64 (m + 1) /\ ((((0 <= m + 1 /\ m + 1 <= paid) /\ mo + 1 = (m + 1) % 12 /\ y = 1900 + (m + 1) / 12) /\ ∃ q, sumS s known due (m + 1 - due).toNat = .ok q /\ IsQ q a' b' c' d' /\ okF a' b' c' d') /\ (paid - (m + 1)).toNat < (paid - m).toNat))) := fun hm hh =>
  ⟨by rw [rng64]; omega, fun h => ⟨by rw [rng64]; omega, by rw [rng64]; omega, ⟨⟨⟨by omega, by omega⟩, by omega, by omega⟩, hh⟩, by omega⟩, fun h => ⟨by rw [rng64]; omega, ⟨⟨⟨by omega, by omega⟩, by omega, by omega⟩, hh⟩, by omega⟩⟩
 refine ⟨fun hm => ⟨fun hge => ⟨hn, fun vn vl rvl vd vk rvk e _ hl => ?_⟩, fun hge => nxt hm ⟨q, by rw [show (m + 1 - due).toNat = (m - due).toNat by omega]; exact hq, iq, oq⟩⟩, fun hm => ⟨trivial, fun fn fl rfl_ fd fk rfk hf => ⟨trivial, fun pn pl rpl pd pk rpk e _ he => ?_⟩⟩⟩
 ·rw [hy] at hl
  have hm' : due + ((m - due).toNat : Int) = m := by omega
  rcases look_rate hl ⟨hV, h2⟩ hrow rvl rvk with ⟨hr, _, e6⟩ | ⟨r, hr, ir, fr, or', e0⟩
  ·refine ⟨fun _ => fin ?_, fun h => by omega⟩
   rw [e6, sum_err (sum_none hq (by rw [hm']; exact hr)) (m := (paid - due).toNat) (by omega)]
   exact ⟨rfl, rfl⟩
  ·refine ⟨fun h => by omega, fun _ => ⟨trivial, fun an al ral ad ak rak e2 _ ha => ?_⟩⟩
   have ha : q_fAdd a b c d vn vl vd vk an al ad ak e2 := ha
   rcases sum_add (paid := paid) hge hm hq iq oq hr ir or' ha ral rak with ⟨e20, hq'⟩ | ⟨e23, hq'⟩
   ·exact ⟨fun h => by omega, fun _ => nxt hm hq'⟩
   ·refine ⟨fun _ => fin ?_, fun h => by omega⟩
    rw [hq', e23]
    exact ⟨rfl, rfl⟩
 have hmp : m = paid := by omega
 rw [hmp] at hq
 have fin : ∀ {x e : Int}, partI q n x e -> q_xInterest n due paid name two s known x e /\ True := fun h => fin (by rw [hq]; exact h)
 have i_n : IsQ ((n : Int) : Rat) fn fl fd fk := hf.1
 have o_n : okF fn fl fd fk := ⟨⟨_, hf.1⟩, by have := hf.2.1; omega, by have := hf.2.2; omega⟩
 have he := he.1 ⟨oq, o_n⟩
 rw [iq.fq, i_n.fq] at he
 by_cases f1 : fitQ (q * (n : Rat))
 rotate_left
 ·obtain ⟨_, e3⟩ := he.2 f1
  exact ⟨fun _ => fin ⟨fun _ => ⟨rfl, e3⟩, fun k => absurd k f1⟩, fun h => by omega⟩
 obtain ⟨ip, e0⟩ := he.1 f1
 have op := ip.ok (ranged16 rpl) (ranged16 rpk) f1
 refine ⟨fun h => absurd e0 h, fun _ => ⟨fun e a b c d => resF (q * (n : Rat) / 12) a b c d e, ?_, ?_⟩⟩
 ·have core : ∀ (tn : Bool) (tl : Sl), Ranged tl [some .u16] -> ∀ (td : Bool) (tk : Sl), Ranged tk [some .u16] -> q_rFromInt2 12 tn tl td tk -> p_rDiv2 pn pl pd pk tn tl td tk /\ ∀ (dn : Bool) (dl : Sl), Ranged dl [some .u16] -> ∀ (dd : Bool) (dk : Sl), Ranged dk [some .u16] -> ∀ e : Int, Rng .i64 e -> q_rDiv2 pn pl pd pk tn tl td tk dn dl dd dk e -> resF (q * (n : Rat) / 12) dn dl dd dk e := fun tn tl rtl td tk rtk ht => ⟨trivial, fun dn dl rdl dd dk rdk e _ hd => by
   have it : IsQ ((12 : Int) : Rat) tn tl td tk := ht.1
   have ot : okF tn tl td tk := ⟨⟨_, ht.1⟩, by have := ht.2.1; omega, by have := ht.2.2; omega⟩
   have hd := (hd.1 ⟨op, ot⟩).1 (by rw [it.fq]; decide)
   rw [ip.fq, it.fq] at hd
   exact hd⟩
  exact ⟨⟨trivial, core⟩, ⟨trivial, core⟩⟩
 intro e1 _ pn' pl' rpl' pd' pk' rpk' he1
 by_cases f2 : fitQ (q * (n : Rat) / 12)
 rotate_left
 ·obtain ⟨_, e3⟩ := he1.2 f2
  exact ⟨fun _ => fin ⟨fun _ => ⟨rfl, e3⟩, fun _ k => absurd k f2⟩, fun h => by omega⟩
 obtain ⟨iv, e0'⟩ := he1.1 f2
 have ov := iv.ok (ranged16 rpl') (ranged16 rpk') f2
 have fin : ∀ {x e : Int}, amtS (q * (n : Rat) / 12) x e -> q_xInterest n due paid name two s known x e /\ True := fun h => fin ⟨fun k => absurd ⟨f1, f2⟩ k, fun _ _ => h⟩
 generalize q * (n : Rat) / 12 = Q at *
 refine ⟨fun h => absurd e0' h, fun _ => ⟨fun e a b c d => resF ((roundQ Q 5 : Int) : Rat) a b c d e, ?_, ?_⟩⟩
 ·have core : ∀ (tn : Bool) (tl : Sl), Ranged tl [some .u16] -> ∀ (td : Bool) (tk : Sl), Ranged tk [some .u16] -> q_rFromInt2 1 tn tl td tk -> p_rRound2 pn' pl' pd' pk' tn tl td tk 5 /\ ∀ (dn : Bool) (dl : Sl), Ranged dl [some .u16] -> ∀ (dd : Bool) (dk : Sl), Ranged dk [some .u16] -> ∀ e : Int, Rng .i64 e -> q_rRound2 pn' pl' pd' pk' tn tl td tk 5 dn dl dd dk e -> resF ((roundQ Q 5 : Int) : Rat) dn dl dd dk e := fun tn tl rtl td tk rtk ht => ⟨⟨⟨ht.1, by have := ht.2.1; omega, by have := ht.2.2; omega⟩, rfl⟩, fun dn dl rdl dd dk rdk e _ hd => by
   have hd := hd.1 ov
   rw [iv.fq] at hd
   exact hd⟩
  exact ⟨⟨trivial, core⟩, ⟨trivial, core⟩⟩
 intro e2 _ rn rl rrl rd' rk rrk hr
 by_cases hf' : fitQ ((roundQ Q 5 : Int) : Rat)
 rotate_left
 ·obtain ⟨z, e3⟩ := hr.2 hf'
  refine ⟨fun _ => fin ⟨fun k => absurd (round_fit f2 k) hf', fun _ => ⟨rfl, e3⟩, fun k1 k2 => absurd (int_fitA ?_) hf'⟩, fun h => by omega⟩
  have : (roundQ Q 5).natAbs <= 1099511627776 := by omega
  exact Nat.lt_of_le_of_lt this (by decide)
 obtain ⟨iR, e0⟩ := hr.1 hf'
 have oR := iR.ok (ranged16 rrl) (ranged16 rrk) hf'
 have hneg := neg_iff oR rrl
 rw [iR.fq, show (0 : Rat) = ((0 : Int) : Rat) from rfl, Rat.intCast_le_intCast] at hneg
 refine ⟨fun h => absurd e0 h, fun _ => ⟨fun h => fin ⟨fun _ => ⟨rfl, rfl⟩, fun k => by have := hneg.1 h; omega, fun k => absurd k (hneg.1 h)⟩, fun hx0 => ⟨trivial, fun mn ml rml md mk rmk hm => ⟨trivial, fun y _ hy => ?_⟩⟩⟩⟩
 have hx0 : 0 <= roundQ Q 5 := Classical.not_not.1 fun k => hx0 (hneg.2 k)
 have im : IsQ ((1099511627776 : Int) : Rat) mn ml md mk := hm.1
 have om := im.ok (ranged16 rml) (ranged16 rmk) (int_fitA (by decide))
 have sy := hy.1 ⟨oR, om⟩
 rw [iR.fq, im.fq] at sy
 unfold sgnQ at sy
 rw [Rat.intCast_lt_intCast, Rat.intCast_lt_intCast, Rat.intCast_inj] at sy
 refine ⟨fun h => fin ⟨fun k => by omega, fun _ => ⟨rfl, rfl⟩, fun _ k => by omega⟩, fun hy0 => ⟨trivial, fun v _ e' _ hv => ?_⟩⟩
 have hv := (hv.2 oR).2
 rw [iR.fq, Rat.den_intCast, Rat.num_intCast] at hv
 have hv := (hv rfl).1 ⟨by omega, by omega⟩
 exact fin ⟨fun k => by omega, fun k => by omega, fun _ _ => ⟨hv.1, rfl⟩⟩
end Go.Sx.N
