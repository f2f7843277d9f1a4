/-
 The law about scales of years overwrites a scale that the package gave: the piece of its code. Conditions: none.
-/
import Derived.Test.YtfhjplagjjjlpaaGreatNumT
import Derived.Test.YtfhjplagjjjlpaaGreatOverY
import Derived.Test.YtfhjplagjjjlpaaGreatTaxPY
set_option linter.unusedVariables false
set_option linter.unusedSimpArgs false
namespace Go.Sx.Over
open Go Go.Proofs Go.RowKit Go.Lib Go.Sx Go.Sx.N
def Kp (D : List Nat) : Nat -> List Value -> List Value -> Prop
 | _, [], [] => True
 | i, x :: xs, y :: ys => (y = x \/ D.contains i = true) /\ Kp D (i + 1) xs ys
 | _, _, _ => False
theorem Kp.get {D : List Nat} : ∀ {n : Nat} {xs ys : List Value}, Kp D n xs ys -> ys.length = xs.length /\ ∀ t, n + t ∉ D -> ys[t]? = xs[t]?
 | n, [], [], _ => ⟨rfl, fun _ _ => rfl⟩
 | n, x :: xs, y :: ys, h => by
  obtain ⟨h1, h2⟩ := h.2.get
  refine ⟨by simp [h1], fun t ht => ?_⟩
  cases t with
  | zero =>
   rcases h.1 with e | e
   ·rw [e]; rfl
   ·exact absurd (List.contains_iff_mem.1 e) ht
  | succ t => simpa using h2 t (by rwa [show n + 1 + t = n + (t + 1) by omega])
 | _, [], _ :: _, h => h.elim
 | _, _ :: _, [], h => h.elim
theorem Kp.keeps {D : List Nat} {xs ys : List Value} {d e : List Deferred} (h : Kp D 0 xs ys) : Keeps D ⟨xs.toArray, d⟩ ⟨ys.toArray, e⟩ :=
 ⟨by simpa using h.get.1, fun t ht => by simpa using h.get.2 t (by simpa using ht)⟩
theorem cons_of {l : List Value} {n : Nat} (h : l.length = n + 1) : ∃ (x : Value) (m : List Value), l = x :: m /\ m.length = n := by
 cases l with
 | nil => cases h
 | cons x m => exact ⟨x, m, rfl, by simpa using h⟩
theorem nil_of {l : List Value} (h : l.length = 0) : l = [] := List.eq_nil_of_length_eq_zero h
theorem limb_of {w : World} {Z : Nat -> Prop} {d : D} {v : Value} (h : Dp Tryz.prog w Z d (.sl 96) v) (hk : kinds Tryz.prog 96 = some [.int .u16]) : LimbV w Z v := by
 cases d with
 | int n => obtain ⟨_, h, _⟩ := h; cases h
 | bool b => obtain ⟨h, _⟩ := h; cases h
 | str s => obtain ⟨h, _⟩ := h; cases h
 | sl n f =>
  obtain ⟨e, a, cap, he, rfl, h1, h2, h3, h4⟩ := h
  cases he
  refine ⟨a, n, cap, rfl, by omega, by omega, h2, h4.imp id fun ⟨b, cs, ha, hz, hb, hc⟩ => ⟨b, cs, ha, hb, ?_, hz⟩⟩
  have := (hc _ hk).1
  simpa using this
theorem bool_of {w : World} {Z : Nat -> Prop} {d : D} {v : Value} (h : Dp Tryz.prog w Z d .bool v) : ∃ b, v = .bool b := by
 cases d with
 | int n => obtain ⟨_, h, _⟩ := h; cases h
 | bool b => exact ⟨b, h.2⟩
 | str s => obtain ⟨h, _⟩ := h; cases h
 | sl n f => obtain ⟨_, _, _, h, _⟩ := h; cases h
set_option maxHeartbeats 4000000 in
set_option maxRecDepth 100000 in
theorem yearsLoop {l : List Nat} (h : OKA l) {c : Code} (h3 : leafAt (Tryz.f3.body.getD .skip) 9 = some c) : PieceOk Tb Tryz.prog c ⟨1000000, 7, 3000000041, [(11, .int .i64)], none, 77⟩ := by
 cases h3
 intro w R ow i0 a v s rds Q hg hR hRo hlt hsz hv hnm hown hrd hpre hQ
 obtain ⟨T, defers⟩ := a
 obtain ⟨L, rfl⟩ : ∃ L : List Value, T = L.toArray := ⟨T.toList, by simp⟩
 have hsz : L.length = 77 := by simpa using hsz
 repeat (rcases cons_of hsz with ⟨x, m, e, h2⟩; clear hsz; subst e; have hsz := h2; clear h2)
 obtain rfl := nil_of hsz
 obtain ⟨k0, rfl, hk0⟩ : ∃ n : Int, rds = [.int n] /\ (#[] : Array Value).size = 0 := by
  cases rds with
  | nil => exact hrd.elim
  | cons d r =>
   cases r with
   | cons _ _ => exact hrd.2.elim
   | nil =>
    obtain ⟨⟨u, hu, hd⟩, _⟩ := hrd
    cases d with
    | int n => exact ⟨n, rfl, rfl⟩
    | bool x => obtain ⟨e, _⟩ := hd; cases e
    | str x => obtain ⟨e, _⟩ := hd; cases e
    | sl n f => obtain ⟨e, _, _, e2, _⟩ := hd; cases e2
 obtain rfl : k0 = 0 := hpre
 obtain ⟨⟨u, hu, ik, e1, e2, _⟩, _⟩ := hrd
 cases e1
 subst e2
 simp only [List.getElem?_toArray, List.getElem?_cons_succ, List.getElem?_cons_zero, Option.some.injEq] at hu hv
 subst hu hv
 have hD : isD 3000000041 = true := rfl
 have hdp := ((hown.deep hD hnm).2 rfl).1 hD
 rw [show unD 3000000041 = 41 from rfl] at hdp
 obtain ⟨e, ad, cap, he, rfl, hn1, hn2, hn3, hn4⟩ := hdp
 cases he
 have hfin : ∀ (ys : List Value) (w' : World), Kp _ 0 _ ys -> BelowX (fun b => ow b = some (.ent i0)) w w' -> Q .normal ⟨ys.toArray, defers⟩ w' := fun ys w' hk hb => hQ ⟨ys.toArray, defers⟩ w' rfl hk.keeps hb (fun e he => by cases he)
 clear hQ hnm hsz hown
 rcases hn4 with rfl | ⟨b, cs, rfl, hz, hb, hc⟩
 ·have hge : ¬ (0 : Int) < (s.n : Int) := by omega
  go_wp2
  go_loopw [11] (fun i wr => i = .int .i64 0 /\ wr = w) (fun i _ => 0)
  case atStart => exact ⟨rfl, rfl⟩
  case round =>
   obtain ⟨rfl, rfl⟩ := hrel
   go_wp2
   refine hfin _ _ ?_ (Ov.refl _ _).bx
   repeat (first | exact trivial | refine ⟨.inl rfl, ?_⟩ | refine ⟨.inr rfl, ?_⟩)
 ·obtain ⟨hsz, hcell, _⟩ := hc _ rfl
  have hsz : cs.size = cap * 5 := hsz
  go_wp2
  go_loopw [11] (fun i wr => ∃ k : Nat, k <= s.n /\ i = .int .i64 k /\ Inv (fun b => ow b = some (.ent i0)) b cs w wr) (fun i _ => s.n - (intOf i).toNat)
  case atStart => exact ⟨0, Nat.zero_le _, rfl, Inv.start hb⟩
  case round =>
   obtain ⟨k, hk, rfl, hI⟩ := hrel
   have hfz : wr.frozen? ⟨b, k * 5, none⟩ = false := hI.frz _
   by_cases hlt : k < s.n
   ·have hlt' : (k : Int) < s.n := by omega
    obtain ⟨u0, q0⟩ := hI.cell0 (q := k * 5) (by omega)
    obtain ⟨u1, c1, e1⟩ := hcell k 1 .bool hlt rfl
    obtain ⟨u2, c2, e2⟩ := hcell k 2 (.sl 96) hlt rfl
    obtain ⟨u3, c3, e3⟩ := hcell k 3 .bool hlt rfl
    obtain ⟨u4, c4, e4⟩ := hcell k 4 (.sl 96) hlt rfl
    obtain ⟨b1, rfl⟩ := bool_of e1
    obtain ⟨b3, rfl⟩ := bool_of e3
    have hS := hI.set hz k (.int .i64 (-7))
    have q1 := hS.cell (q := k * 5 + 1) (by omega) c1
    have q2 := hS.cell (q := k * 5 + 2) (by omega) c2
    have q3 := hS.cell (q := k * 5 + 3) (by omega) c3
    have q4 := hS.cell (q := k * 5 + 4) (by omega) c4
    have L2 := hS.limb (limb_of e2 rfl)
    have L4 := hS.limb (limb_of e4 rfl)
    have o2 := L2.one
    have o4 := L4.one
    clear hc hcell e1 e2 e3 e4 c1 c2 c3 c4
    go_wp2_with (go_at_call 9; refine (overFrac L2 L4 rfl rfl).mono ?_; rintro e w' ⟨rfl, ho⟩)
    go_round
    case rel => exact ⟨k + 1, by omega, by go_num, hS.ov ho⟩
    case measure => simp [intOf]; omega
   ·have hge : ¬ (k : Int) < (s.n : Int) := by omega
    go_wp2
    refine hfin _ _ ?_ hI.bx
    repeat (first | exact trivial | refine ⟨.inl rfl, ?_⟩ | refine ⟨.inr rfl, ?_⟩)
end Go.Sx.Over
