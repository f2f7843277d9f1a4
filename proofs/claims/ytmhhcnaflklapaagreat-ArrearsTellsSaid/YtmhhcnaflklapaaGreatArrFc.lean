/-
 What the maps of a basis hold. Conditions: none.
-/
import Derived.Test.YtmhhcnaflklapaaGreatArrFb
set_option linter.unusedVariables false
set_option linter.unusedSimpArgs false
namespace Go.Sx.N
theorem look_at {ok : Prop} {C : Int -> Prop} {s : Sl} {a c : Bool} {b d : Sl} {e k : Int} (h : lookR ok C s a b c d e) (hok : ok) (hk : C k) : rowF s k a b c d /\ e = 0 := (h.2 hok).2 k hk
theorem look_no {ok : Prop} {C : Int -> Prop} {s : Sl} {a c : Bool} {b d : Sl} {e : Int} (h : lookR ok C s a b c d e) (hok : ok) (hk : ∀ k, ¬ C k) : zeroF a b c d /\ e = 6 := (h.2 hok).1 hk
theorem look_rate {ok : Prop} {s : Sl} {y known : Int} {a c : Bool} {b d : Sl} {e : Int} (h : lookR ok (candX s y known) s a b c d e) (hok : ok) (hr : ∀ i : Int, 0 <= i -> i < s.len -> okF (s.bool i 3) (s.sub i 4) (s.bool i 5) (s.sub i 6))
  (rb : Ranged b [some .u16]) (rd : Ranged d [some .u16]) : (rateO s known y = none /\ zeroF a b c d /\ e = 6) \/ (∃ r, rateO s known y = some r /\ IsQ r a b c d /\ fitQ r /\ okF a b c d /\ e = 0) := by
 by_cases hk : ∃ k, candX s y known k
 ·right
  have hc := Classical.choose_spec hk
  obtain ⟨hrow, he⟩ := look_at h hok hc
  have hok2 := hr _ hc.1.1.1.1 hc.1.1.1.2
  refine ⟨fq (s.bool (Classical.choose hk) 3) (s.sub (Classical.choose hk) 4) (s.sub (Classical.choose hk) 6), by unfold rateO; rw [dif_pos hk], ?_, ?_, ?_, he⟩
  ·exact hok2.isQ.of_same hrow.1.1.symm ⟨hrow.1.2.1.symm, fun i i0 i1 => (hrow.1.2.2 i i0 (by rw [hrow.1.2.1]; exact i1)).symm⟩ hrow.2.1.symm ⟨hrow.2.2.1.symm, fun i i0 i1 => (hrow.2.2.2 i i0 (by rw [hrow.2.2.1]; exact i1)).symm⟩
  ·have hv : IsQ (fq (s.bool (Classical.choose hk) 3) (s.sub (Classical.choose hk) 4) (s.sub (Classical.choose hk) 6)) a b c d := hok2.isQ.of_same hrow.1.1.symm ⟨hrow.1.2.1.symm, fun i i0 i1 => (hrow.1.2.2 i i0 (by rw [hrow.1.2.1]; exact i1)).symm⟩ hrow.2.1.symm ⟨hrow.2.2.1.symm, fun i i0 i1 => (hrow.2.2.2 i i0 (by rw [hrow.2.2.1]; exact i1)).symm⟩
   exact (hv.fit (ranged16 rb) (ranged16 rd)).1 ⟨by rw [<- hrow.1.2.1]; exact hok2.2.1, by rw [<- hrow.2.2.1]; exact hok2.2.2⟩
  ·have hv : IsQ (fq (s.bool (Classical.choose hk) 3) (s.sub (Classical.choose hk) 4) (s.sub (Classical.choose hk) 6)) a b c d := hok2.isQ.of_same hrow.1.1.symm ⟨hrow.1.2.1.symm, fun i i0 i1 => (hrow.1.2.2 i i0 (by rw [hrow.1.2.1]; exact i1)).symm⟩ hrow.2.1.symm ⟨hrow.2.2.1.symm, fun i i0 i1 => (hrow.2.2.2 i i0 (by rw [hrow.2.2.1]; exact i1)).symm⟩
   exact ⟨hv.lowF, by rw [<- hrow.1.2.1]; exact hok2.2.1, by rw [<- hrow.2.2.1]; exact hok2.2.2⟩
 ·left
  obtain ⟨h1, h2⟩ := look_no h hok (fun k hk2 => hk ⟨k, hk2⟩)
  exact ⟨by unfold rateO; rw [dif_neg hk], h1, h2⟩
theorem add_res {p q : Rat} {a c a' c' nn dn : Bool} {b d b' d' nl dl : Sl} {e : Int} (h : q_fAdd a b c d a' b' c' d' nn nl dn dl e) (hp : IsQ p a b c d) (ho : okF a b c d) (hq : IsQ q a' b' c' d') (ho' : okF a' b' c' d') : resF (p + q) nn nl dn dl e := by
 have := h.1 ⟨ho, ho'⟩
 rw [hp.fq, hq.fq] at this
 exact this
def zr : List D := [.bool (decide False), Sl.d Sl.nil, .bool (decide False), Sl.d Sl.nil]
def okM (s : Sl) (k : Int) (q : Rat) : Prop := IsQ q (Sl.bool (Sl.mget s k zr) 0 0) (Sl.sub (Sl.mget s k zr) 0 1) (Sl.bool (Sl.mget s k zr) 0 2) (Sl.sub (Sl.mget s k zr) 0 3) /\ okF (Sl.bool (Sl.mget s k zr) 0 0) (Sl.sub (Sl.mget s k zr) 0 1) (Sl.bool (Sl.mget s k zr) 0 2) (Sl.sub (Sl.mget s k zr) 0 3)
theorem okM_same {s : Sl} {k : Int} {q : Rat} {a c : Bool} {b d : Sl} (h : IsQ q a b c d) (o : okF a b c d) : okM (Sl.mset s k [.bool a, Sl.d b, .bool c, Sl.d d]) k q := by
 unfold okM
 rw [mget_mset, if_pos rfl]
 exact ⟨h, o⟩
theorem okM_other {s : Sl} {k k' : Int} {q : Rat} {l : List D} (hk : k' ≠ k) (h : okM s k' q) : okM (Sl.mset s k l) k' q := by
 unfold okM
 rw [mget_mset, if_neg hk]
 exact h
def yearsM (rows : Sl) (known : Int) (s : Sl) : Prop := ∀ y : Int, Sl.mhas s y = true -> ∃ r, rateO rows known y = some r /\ okM s y r
theorem years_nil {rows : Sl} {known : Int} : yearsM rows known Sl.nil := fun y h => by rw [mhas_nil] at h; cases h
theorem years_set {rows s : Sl} {known k : Int} {q : Rat} {a c : Bool} {b d : Sl} (hs : yearsM rows known s) (hr : rateO rows known k = some q) (h : IsQ q a b c d) (o : okF a b c d) : yearsM rows known (Sl.mset s k [.bool a, Sl.d b, .bool c, Sl.d d]) := fun y hy => by
 by_cases e : y = k
 ·subst e; exact ⟨q, hr, okM_same h o⟩
 ·rw [mhas_mset, decide_eq_false e, Bool.false_or] at hy
  obtain ⟨r, h1, h2⟩ := hs y hy
  exact ⟨r, h1, okM_other e h2⟩
end Go.Sx.N
