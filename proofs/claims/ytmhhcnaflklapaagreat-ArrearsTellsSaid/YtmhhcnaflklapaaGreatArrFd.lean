/-
 What follows the sum of rates. Conditions: none.
-/
import Derived.Test.YtmhhcnaflklapaaGreatArrFc
set_option linter.unusedVariables false
set_option linter.unusedSimpArgs false
namespace Go.Sx.N
theorem first2 {e f x : Int} (h : q_aFirst (Sl.lit [[.int e], [.int f]]) x) : x = if e ≠ 0 then e else f := by
 have i0 : (Sl.lit [[D.int e], [D.int f]]).int 0 0 = e := rfl
 have i1 : (Sl.lit [[D.int e], [D.int f]]).int 1 0 = f := rfl
 have l : (Sl.lit [[D.int e], [D.int f]]).len = 2 := rfl
 rcases h with ⟨i, a, b, c, d, g⟩ | ⟨a, g⟩
 ·rw [l] at b
  have : i = 0 \/ i = 1 := by omega
  rcases this with rfl | rfl
  ·rw [i0] at c; subst c; rw [if_pos d]
  ·have := g 0 (by omega) (by omega)
   rw [i0] at this
   rw [if_neg (by omega), c, i1]
 ·have a0 := g 0 (by omega) (by rw [l]; omega)
  have a1 := g 1 (by omega) (by rw [l]; omega)
  rw [i0] at a0
  rw [i1] at a1
  rw [if_neg (by omega)]; omega
def BI (name : ByteArray) (two : Bool) (s : Sl) (known paid : Int) (nm : ByteArray) (tw : Bool) (rows : Sl) (kn pd : Int) : Prop := nm = name /\ tw = two /\ rows = s /\ kn = known /\ pd = paid
noncomputable def tailS (s : Sl) (known paid : Int) : Nat -> Option Rat
 | 0 => some 0
 | n + 1 => match rateO s known (1900 + (paid - (n + 1)) / 12), tailS s known paid n with
  | some r, some q => some (r + q)
  | _, _ => none
def sumsM (s : Sl) (known paid : Int) (sums : Sl) (lst : Int) : Prop := lst <= paid /\ ∀ n : Nat, lst <= paid - n -> Sl.mhas sums (paid - n) = true /\ ∃ q, tailS s known paid n = some q /\ shortQ q /\ okM sums (paid - n) q
def St (name : ByteArray) (two : Bool) (s : Sl) (known paid : Int) (nm : ByteArray) (tw : Bool) (rows : Sl) (kn pd : Int) (yrs sums : Sl) (lst : Int) : Prop := BI name two s known paid nm tw rows kn pd /\ yearsM s known yrs /\ sumsM s known paid sums lst
theorem tail_ok {J : Int -> Int -> ByteArray -> Bool -> Sl -> Int -> Int -> Sl -> Sl -> Int -> Bool -> Sl -> Bool -> Sl -> Prop} {K : Int -> Int -> ByteArray -> Bool -> Sl -> Int -> Int -> Sl -> Sl -> Int -> Prop} {C : ByteArray -> Bool -> Sl -> Int -> Int -> Sl -> Sl -> Int -> Prop} {n : Int} {g : GR}
  (hK : ∀ (v e : Int) (nm : ByteArray) (tw : Bool) (rows : Sl) (kn pd : Int) (yrs sums : Sl) (lst : Int), Rng .i64 v -> Rng .i64 e -> C nm tw rows kn pd yrs sums lst -> resI g n v e -> K v e nm tw rows kn pd yrs sums lst)
  (hJ : ∀ (z1 z2 : Int) (nm : ByteArray) (tw : Bool) (rows : Sl) (kn pd : Int) (yrs sums : Sl) (lst : Int) (a : Bool) (b : Sl) (c : Bool) (d : Sl), J z1 z2 nm tw rows kn pd yrs sums lst a b c d -> C nm tw rows kn pd yrs sums lst /\ ∃ q, g = .ok q /\ IsQ q a b c d /\ okF a b c d) : G_2 J n K := by
 unfold G_2
 simp only [Bool.decide_eq_true]
 intro z1 _ z2 _ nm tw rows _ kn _ pd _ yrs sums lst _ a b rb c d rd hj
 obtain ⟨hC, q, hs, iq, oq⟩ := hJ z1 z2 nm tw rows kn pd yrs sums lst a b c d hj
 have ans : ∀ {v e : Int}, Rng .i64 v -> Rng .i64 e -> partI q n v e -> K v e nm tw rows kn pd yrs sums lst := fun h1 h2 h => hK _ _ _ _ _ _ _ _ _ _ h1 h2 hC (by rw [hs]; exact h)
 have r0 : Rng .i64 0 := by rw [rng64]; omega
 refine ⟨trivial, fun nn nl rnl nd nk rnk hn => ⟨trivial, fun pn pl rpl pdn pk rpk e1 _ hp => ⟨trivial, fun tn tl rtl td tk rtk ht => ⟨trivial, fun un ul rul ud uk ruk e2 _ hu => ?_⟩⟩⟩⟩
 have inn : IsQ ((n : Int) : Rat) nn nl nd nk := hn.1
 have on : okF nn nl nd nk := ⟨⟨_, inn⟩, by have := hn.2.1; omega, by have := hn.2.2; omega⟩
 have it : IsQ ((12 : Int) : Rat) tn tl td tk := ht.1
 have ot : okF tn tl td tk := ⟨⟨_, it⟩, by have := ht.2.1; omega, by have := ht.2.2; omega⟩
 have rp := hp.1 ⟨oq, on⟩
 rw [iq.fq, inn.fq] at rp
 have key : (e1 = 0 /\ e2 = 0 /\ fitQ (q * (n : Rat)) /\ fitQ (q * (n : Rat) / 12) /\ IsQ (q * (n : Rat) / 12) un ul ud uk) \/ ((if e1 ≠ 0 then e1 else e2) = 3 /\ ¬ (fitQ (q * (n : Rat)) /\ fitQ (q * (n : Rat) / 12))) := by
  by_cases f1 : fitQ (q * (n : Rat))
  ·obtain ⟨ip, z⟩ := rp.1 f1
   have op := ip.ok (ranged16 rpl) (ranged16 rpk) f1
   have ru := (hu.1 ⟨op, ot⟩).1 (by rw [it.fq]; decide +kernel)
   rw [ip.fq, it.fq] at ru
   have e12 : ((12 : Int) : Rat) = 12 := by decide +kernel
   rw [e12] at ru
   by_cases f2 : fitQ (q * (n : Rat) / 12)
   ·exact .inl ⟨z, (ru.1 f2).2, f1, f2, (ru.1 f2).1⟩
   ·exact .inr ⟨by rw [if_neg (by omega)]; exact (ru.2 f2).2, fun k => f2 k.2⟩
  ·obtain ⟨_, z⟩ := rp.2 f1
   exact .inr ⟨by rw [if_pos (by omega)]; exact z, fun k => f1 k.1⟩
 refine ⟨fun _ _ => e1 = 0 /\ e2 = 0, ⟨fun x => x = if e1 ≠ 0 then e1 else e2, ⟨trivial, fun x _ hx => first2 hx⟩, fun x rx hx => ⟨fun h => ?_, fun h => ?_⟩⟩, fun _ _ _ _ hz => ⟨trivial, fun v rv e re hv => ?_⟩⟩
 ·rcases key with ⟨k1, k2, _⟩ | ⟨k1, k2⟩
  ·rw [k1, k2] at hx; simp at hx; exact absurd hx h
  ·refine ans r0 rx ?_
   rw [hx, k1]; exact ⟨fun _ => ⟨rfl, rfl⟩, fun f1 f2 => absurd ⟨f1, f2⟩ k2⟩
 ·rcases key with ⟨k1, k2, _⟩ | ⟨k1, _⟩
  ·exact ⟨k1, k2⟩
  ·rw [k1] at hx; omega
 ·rcases key with ⟨_, _, f1, f2, iu⟩ | ⟨k1, _⟩
  ·have ou := iu.ok (ranged16 rul) (ranged16 ruk) f2
   have := hv.1 ou
   rw [iu.fq] at this
   exact ans rv re ⟨fun k => absurd ⟨f1, f2⟩ k, fun _ _ => this⟩
  ·rw [hz.1, hz.2] at k1; simp at k1
end Go.Sx.N
