/-
 The statements' tables; the chapter's examples. Conditions: none.
-/
import Derived.Test.YtmhhcnaflklapaaGreatArrFj
set_option linter.unusedVariables false
set_option linter.unusedSimpArgs false
namespace Go.Sx.N
def rt (t : Sl) (y : Int) : Int := if t.len <= 0 \/ y < 1990 then 0 else t.int (imin (y - 1990) (imin t.len 8 - 1)) 0
theorem val_res {s : Sl} {known n due paid : Int} : resI (sumS s known due (paid - due).toNat) n (intV s known n due paid).1 (intV s known n due paid).2 := by
 unfold intV
 cases hs : sumS s known due (paid - due).toNat with
 | err x => exact ⟨rfl, rfl⟩
 | ok q =>
  show partI q n _ _
  refine ⟨fun f => ?_, fun f1 f2 => ?_⟩
  ·simp only [if_neg f]; first | exact ⟨rfl, rfl⟩ | exact ⟨trivial, trivial⟩ | trivial
  ·simp only [if_pos (And.intro f1 f2)]
   unfold amtV
   refine ⟨fun k => ?_, fun k => ?_, fun k1 k2 => ?_⟩
   ·rw [if_pos k]; exact ⟨rfl, rfl⟩
   ·rw [if_neg (by omega), if_pos k]; exact ⟨rfl, rfl⟩
   ·rw [if_neg (by omega), if_neg (by omega)]; exact ⟨rfl, rfl⟩
theorem yearly_plain {s : Sl} {name : ByteArray} {two : Bool} (h : q_yearly name two s) : plainT s (fun i => 2020 + i) (fun i => Rat.divInt (6 * (i + 1)) 100) := by
 obtain ⟨_, _, hl, h0, h1⟩ := h
 refine ⟨by omega, fun i i0 i1 => ?_, fun i j _ ij _ => by show 2020 + i < 2020 + j; omega⟩
 have : i = 0 \/ i = 1 := by omega
 rcases this with rfl | rfl
 ·exact ⟨h0, by show (0 : Int) <= 2020 + 0; omega, by show (2020 : Int) + 0 <= 100000; omega⟩
 ·exact ⟨h1, by show (0 : Int) <= 2020 + 1; omega, by show (2020 : Int) + 1 <= 100000; omega⟩
theorem yearly_valid {s : Sl} {name : ByteArray} {two : Bool} (h : q_yearly name two s) : validT name two s /\ two = false := plain_valid (yearly_plain h) (by rw [h.1]; decide) h.2.1
theorem yearly_rate {s : Sl} {name : ByteArray} {two : Bool} (h : q_yearly name two s) {y : Int} (hy : y = 2020 \/ y = 2021) : rateO s 0 y = some (Rat.divInt (6 * (y - 2019)) 100) := by
 have hl := h.2.2.1
 have := plain_rate (yearly_plain h) (known := 0) (y := y) (k := y - 2020) (Int.le_refl _) (by omega) (by omega) (by show 2020 + (y - 2020) <= y; omega) (fun j j0 j1 => by show y < 2020 + j; omega)
 rw [this]
 show some (Rat.divInt (6 * (y - 2020 + 1)) 100) = _
 rw [show y - 2020 + 1 = y - 2019 by omega]
theorem yearly_eval {s : Sl} {name : ByteArray} {two : Bool} (h : q_yearly name two s) {n due v e : Int} (hn : 0 <= n /\ n <= 1000) (hd : due = 1451 \/ due = 1452) (hq : q_Interest n due 1453 name two s 0 v e) : e = 0 /\ v = (2 * (n * (if due = 1451 then 18 else 12)) + 1200) / 2400 := by
 rcases hd with rfl | rfl
 ·have := int_eval (D := 100) (f := fun j => if j = 0 then 6 else 12) hq ⟨⟨hn.1, by omega⟩, ⟨by omega, by omega, by omega⟩, yearly_valid h⟩ ⟨by omega, by omega⟩ (fun j => by show 0 <= (if j = 0 then (6 : Int) else 12) /\ (if j = 0 then (6 : Int) else 12) <= 70000; split <;> omega) (fun j hj => by
   have : j = 0 \/ j = 1 := by omega
   rcases this with rfl | rfl
   ·exact yearly_rate h (.inl rfl)
   ·exact yearly_rate h (.inr rfl)) (by
    have : sumI (fun j => if j = 0 then (6 : Int) else 12) ((1453 : Int) - 1451).toNat = 18 := rfl
    rw [this]; omega)
  exact this
 ·have := int_eval (D := 100) (f := fun j => 12) hq ⟨⟨hn.1, by omega⟩, ⟨by omega, by omega, by omega⟩, yearly_valid h⟩ ⟨by omega, by omega⟩ (fun j => ⟨by omega, by omega⟩) (fun j hj => by
   have : j = 0 := by omega
   subst this
   exact yearly_rate h (.inr rfl)) (by
    have : sumI (fun j => (12 : Int)) ((1453 : Int) - 1452).toNat = 12 := rfl
    rw [this]; omega)
  exact this
theorem yearly_val {s : Sl} {name : ByteArray} {two : Bool} (h : q_yearly name two s) {n due : Int} (hn : 0 < n /\ n <= 1000) (hd : due = 1451 \/ due = 1452) : intV s 0 n due 1453 = ((2 * (n * (if due = 1451 then 18 else 12)) + 1200) / 2400, 0) := by
 have g : q_Interest n due 1453 name two s 0 (intV s 0 n due 1453).1 (intV s 0 n due 1453).2 := ⟨fun k => absurd ⟨⟨by omega, by omega⟩, ⟨by omega, by omega, by omega⟩, yearly_valid h⟩ k, fun _ => ⟨fun k => by omega, fun _ _ => val_res⟩⟩
 obtain ⟨a, b⟩ := yearly_eval h ⟨by omega, hn.2⟩ hd g
 exact Prod.ext b a
def exD : Sl := Sl.lit [[.int 100], [.int 200], [.int 300]]
def exP : Sl := Sl.lit [[.int 0, .int 1452, .int 1, .int 50]]
theorem ex_valid : validS 1451 exD exP := by
 refine ⟨by decide, fun i i0 i1 => ?_, by decide, fun i i0 i1 => ?_⟩
 ·have i1 : i < 3 := i1
  have : i = 0 \/ i = 1 \/ i = 2 := by omega
  rcases this with rfl | rfl | rfl <;> decide
 ·have i1 : i < 1 := i1
  have : i = 0 := by omega
  subst this
  unfold okAt fitAt fitsS prev
  decide
theorem ex_owe {s : Sl} {name : ByteArray} {two : Bool} (h : q_yearly name two s) : oweR s 0 1451 exD exP 9 1453 3 = .ok [[.int 9, .int 1451, .int 2, .int 100], [.int 9, .int 1451, .int 3, .int 2], [.int 9, .int 1452, .int 2, .int 150], [.int 9, .int 1452, .int 3, .int 2]] := by
 have o1 : openS 1451 exD exP 1451 = 100 := by decide
 have o2 : openS 1451 exD exP 1452 = 150 := by decide
 have v1 : intV s 0 100 1451 1453 = (2, 0) := yearly_val h (by omega) (.inl rfl)
 have v2 : intV s 0 150 1452 1453 = (2, 0) := yearly_val h (by omega) (.inr rfl)
 have e1 : oweR s 0 1451 exD exP 9 1453 1 = .ok [[.int 9, .int 1451, .int 2, .int 100], [.int 9, .int 1451, .int 3, .int 2]] := by
  have := owe_at (s := s) (known := 0) (day := 9) (st := 1451) (d := exD) (p := exP) (m := 1453) (k := 0) (x := 100) (l := []) (by omega) (by omega) o1.symm (by omega) rfl
  have this : oweR s 0 1451 exD exP 9 1453 1 = oweAdd s 0 9 1453 1451 100 [] := this
  rw [this]
  unfold oweAdd
  rw [v1, if_neg (by omega), if_neg (by decide)]
  rfl
 have e2 : oweR s 0 1451 exD exP 9 1453 2 = .ok ([[.int 9, .int 1451, .int 2, .int 100], [.int 9, .int 1451, .int 3, .int 2]] ++ [[.int 9, .int 1452, .int 2, .int 150], [.int 9, .int 1452, .int 3, .int 2]]) := by
  have := owe_at (s := s) (known := 0) (day := 9) (st := 1451) (d := exD) (p := exP) (m := 1453) (k := 1) (x := 150) (by omega) (by omega) o2.symm (by omega) e1
  have this : oweR s 0 1451 exD exP 9 1453 2 = oweAdd s 0 9 1453 1452 150 [[.int 9, .int 1451, .int 2, .int 100], [.int 9, .int 1451, .int 3, .int 2]] := this
  rw [this]
  unfold oweAdd
  rw [v2, if_neg (by omega), if_neg (by decide)]
  rfl
 have := owe_stop (s := s) (known := 0) (day := 9) (st := 1451) (d := exD) (p := exP) (m := 1453) (k := 2) (by omega) (n := 3) (by omega)
 rw [this, e2]
 rfl
theorem aAwake_ok : V_aAwake := by
 intro _
 simp only [Bool.decide_eq_true]
 refine ⟨trivial, fun n1 t1 s1 _ h1 => ⟨by show okN n1; unfold okN; rw [h1.1]; decide, fun v _ e _ hq => ⟨trivial, fun st _ d _ p _ hl => ⟨trivial, fun n2 t2 s2 _ h2 => ⟨by show okN n2; unfold okN; rw [h2.1]; decide, fun r _ e2 _ ho => ?_⟩⟩⟩⟩⟩
 obtain ⟨rfl, rfl, rfl⟩ := hl
 obtain ⟨rfl, rfl⟩ := yearly_eval h1 (by omega) (.inl rfl) hq
 have ho := ho.2 ⟨⟨ex_valid, yearly_valid h2⟩, ⟨by omega, by omega⟩, by omega, by omega⟩
 have ho : resO (oweR s2 0 1451 exD exP 9 1453 3) r e2 := ho
 rw [ex_owe h2] at ho
 obtain ⟨hr, rfl⟩ := ho
 refine ⟨fun _ => ⟨fun _ => ⟨fun _ => ⟨trivial, fun b hb => ⟨hb.2 hr, trivial⟩⟩, fun k => absurd (by decide) k⟩, fun k => absurd rfl k⟩, fun k => absurd rfl k⟩
end Go.Sx.N
