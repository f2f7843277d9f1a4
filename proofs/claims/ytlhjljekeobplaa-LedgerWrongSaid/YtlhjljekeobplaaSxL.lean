/-
  From a contract 'true, whatever the arguments' to a given statement's contract. Conditions: the parameters are plain data, the one result is a bool.
-/
import Derived.Test.YtlhjljekeobplaaSxK
import Derived.Test.YtlhjljekeobplaaSxJ
import Derived.ProofKit
import Derived.OpenShut
import Derived.JoinedCond
namespace Go.Sx
open Go.RowKit (Below)
open Go.ChangeShapes Go.WideShapes Go.ChangeAt Go.RowKit

/-- The shape of a parameter. -/
def shP (P : Program) (t : TypeId) : Option VSh :=
  match P.underlying t with
  | some (.struct _) | some (.array _ _) => (kinds P t).map fun l => .agg (l.map fun k => (k, false))
  | _ => match kinds P t with
    | some [k] => some (.cell k false)
    | _ => none

def shPs (P : Program) : List TypeId → Option (List VSh)
  | [] => some []
  | t :: ts => match shP P t, shPs P ts with
    | some a, some b => some (a :: b)
    | _, _ => none

section
variable {P : Program} {w : World} {R : Nat → Prop} {ow : Nat → Option Owner}

theorem RdL.res : ∀ {ks : List K} {vs : List Value} {ds : List D} {n : Nat}, RdL P w R ks vs ds → ResCells P w R ow n (ks.map fun k => (k, false)) vs ds
  | [], [], [], _, _ => trivial
  | k :: ks, v :: vs, d :: ds, n, h => ⟨by cases k <;> exact h.1, h.2.res⟩
  | [], _ :: _, _, _, h => by cases h
  | [], [], _ :: _, _, h => by cases h
  | _ :: _, [], _, _, h => by cases h
  | _ :: _, _ :: _, [], _, h => by cases h

theorem cells_one {v : Value} (h : ∀ cs, v ≠ .agg cs) : v.cells.toList = [v] := by
  cases v <;> first | rfl | exact absurd rfl (h _)

theorem okWide_agg {base : Nat} {t : TypeId} {v : Value} (h : Value.okWide P w .any base t v) (ht : (∃ fs, P.underlying t = some (.struct fs)) ∨ ∃ n e, P.underlying t = some (.array n e)) : ∃ cs, v = .agg cs := by
  unfold Value.okWide at h
  rcases ht with ⟨fs, ht⟩ | ⟨n, e, ht⟩
  · rw [ht] at h
    obtain ⟨cs, h1, _⟩ := h
    exact ⟨cs, h1⟩
  · rw [ht] at h
    obtain ⟨cs, h1, _⟩ := h
    exact ⟨cs, h1⟩

theorem read_arg {H : Type} {enc : TypeId × Value → H} {sp : Nat → Bool} {held : Bool} {t : TypeId} {v : Value} {d : DataW H} {ps : List MemPlace} {base n m : Nat} {sh : VSh}
    (h : DataW.Trod enc P w 0 sp held t v d ps) (hv : Value.okWide P w .any base t v) (ho : okTy P m t = true) (hs : shP P t = some sh) : ∃ ds, ResV P w (fun b => b < w.heap.size) ow n sh v ds ∧ ds.length = sh.width := by
  obtain ⟨fuel, hf⟩ := h
  unfold shP at hs
  have one : ∀ {k : K}, kinds P t = some [k] → (∀ cs, v ≠ .agg cs) → ∃ ds, ResV P w (fun b => b < w.heap.size) ow n (.cell k false) v ds ∧ ds.length = 1 := fun {k} hk hne => by
    obtain ⟨ds, h1⟩ := trod_read fuel m hf ho hk
    rw [cells_one hne] at h1
    exact ⟨ds, h1.res, h1.length.2⟩
  split at hs
  · rename_i fs hu
    obtain ⟨l, hk, rfl⟩ := Option.map_eq_some_iff.1 hs
    obtain ⟨cs, rfl⟩ := okWide_agg hv (.inl ⟨fs, hu⟩)
    obtain ⟨ds, h1⟩ := trod_read fuel m hf ho hk
    exact ⟨ds, ⟨cs, rfl, h1.res⟩, by simp [VSh.width, h1.length.2]⟩
  · rename_i k e hu
    obtain ⟨l, hk, rfl⟩ := Option.map_eq_some_iff.1 hs
    obtain ⟨cs, rfl⟩ := okWide_agg hv (.inr ⟨k, e, hu⟩)
    obtain ⟨ds, h1⟩ := trod_read fuel m hf ho hk
    exact ⟨ds, ⟨cs, rfl, h1.res⟩, by simp [VSh.width, h1.length.2]⟩
  · rename_i hn1 hn2
    split at hs
    · rename_i k hk
      cases hs
      refine one hk (fun cs e => ?_)
      subst e
      obtain ⟨h8, _⟩ := kinds_cells hk
      unfold kindsF at h8
      cases hu : P.underlying t with
      | none => rw [hu] at h8; cases h8
      | some u =>
        rw [hu] at h8
        cases u with
        | struct fs => exact hn1 fs hu
        | array a b => exact hn2 a b hu
        | int k => unfold Value.okWide at hv; rw [hu] at hv; simp [Cell.okWide, Cell.ok, hu] at hv
        | bool => unfold Value.okWide at hv; rw [hu] at hv; simp [Cell.okWide, Cell.ok, hu] at hv
        | string => unfold Value.okWide at hv; rw [hu] at hv; simp [Cell.okWide, Cell.ok, hu] at hv
        | slice e => unfold Value.okWide at hv; rw [hu] at hv; simp [Cell.okWide, Cell.ok, hu] at hv
        | _ => simp at h8
    · cases hs

theorem read_args {H : Type} {enc : TypeId × Value → H} {sp : Nat → Bool} {held : Bool} {base m : Nat} : ∀ {ts : List TypeId} {vs : List Value} {ds : List (DataW H)} {ps : List MemPlace} {shs : List VSh} {n : Nat},
    DataW.TrodAll enc P w 0 sp held ts vs ds ps → (∀ (j : Nat) t v, ts[j]? = some t → vs[j]? = some v → Value.okWide P w .any base t v) → ts.all (okTy P m) = true → shPs P ts = some shs →
    ∃ xs, ResVs P w (fun b => b < w.heap.size) ow n shs vs xs ∧ xs.length = (shs.map VSh.width).sum
  | [], [], [], ps, shs, n, h, _, _, hs => by
    simp only [shPs, Option.some.injEq] at hs
    subst hs
    exact ⟨[], rfl, rfl⟩
  | t :: ts, v :: vs, d :: ds, ps, shs, n, h, hv, ho, hs => by
    obtain ⟨p, q, h1, h2, rfl⟩ := h
    simp only [List.all_cons, Bool.and_eq_true] at ho
    simp only [shPs] at hs
    split at hs
    · rename_i a b ha hb
      cases hs
      obtain ⟨x1, g1, l1⟩ := read_arg (ow := ow) (n := n) h1 (hv 0 t v rfl rfl) ho.1 ha
      obtain ⟨x2, g2, l2⟩ := read_args (n := n + a.width) h2 (fun j t v => hv (j + 1) t v) ho.2 hb
      exact ⟨x1 ++ x2, ⟨x1, x2, rfl, g1, g2⟩, by simp [l1, l2]⟩
    · cases hs
  | [], _ :: _, _, _, _, _, h, _, _, _ => by cases h
  | [], [], _ :: _, _, _, _, h, _, _, _ => by cases h
  | _ :: _, [], _, _, _, _, h, _, _, _ => by cases h
  | _ :: _, _ :: _, [], _, _, _, h, _, _, _ => by cases h

theorem trodAll_below {H : Type} {enc : TypeId × Value → H} (hl : laidOutB P = true) {W W' : World} (hb : Below W.heap.size W W') : ∀ {ts : List TypeId} {vs : List Value} {ds : List (DataW H)} {ps : List MemPlace},
    (∀ t ∈ ts, P.readableRec t = true ∧ t < P.types.size) → DataW.TrodAll enc P W 0 (fun _ => true) true ts vs ds ps → (∀ p ∈ ps, p.block < W.heap.size) → ∀ {sp : Nat → Bool}, (∀ p ∈ ps, sp p.block = true) → DataW.TrodAll enc P W' 0 sp true ts vs ds ps
  | [], [], [], ps, _, h, _, sp, _ => h
  | t :: ts, v :: vs, d :: ds, ps, ht, h, hp, sp, hsp => by
    obtain ⟨p, q, h1, h2, rfl⟩ := h
    have ht0 := ht t (by simp)
    refine ⟨p, q, ?_, trodAll_below hl hb (fun t' ht' => ht t' (by simp [ht'])) h2 (fun x hx => hp x (by simp [hx])) (fun x hx => hsp x (by simp [hx])), rfl⟩
    exact WideElems.Trod_stays hl ht0.1 ht0.2 h1 (fun x hx => hb.same (hp x (by simp [hx]))) (fun x hx => hsp x (by simp [hx]))
  | [], _ :: _, _, _, _, h, _, _, _ => by cases h
  | [], [], _ :: _, _, _, h, _, _, _ => by cases h
  | _ :: _, [], _, _, _, h, _, _, _ => by cases h
  | _ :: _, _ :: _, [], _, _, h, _, _, _ => by cases h

theorem post_true {H : Type} {enc : TypeId × Value → H} (hl : laidOutB P = true) {f : Func} {s : ChangeSpec} {W W' : World} {args : Array Value} {ds gs : List (DataW H)} {before : List MemPlace} {tb : TypeId}
    (hW : DataW.Whole enc P f.params.toList s.vars false W args.toList ds gs before) (hv : s.vars = [])
    (hp : ∀ t ∈ f.params.toList, P.readableRec t = true ∧ t < P.types.size) (hrt : f.resultTypes = #[tb]) (htb : P.underlying tb = some .bool) (hs : s.fn H ds = { results := [.lit (.bool true)], args := ds }) (hb : Below W.heap.size W W') :
    s.post enc P f false true false false W args (.bool true) W' := by
  have hlt : ∀ p ∈ before, p.block < W.heap.size := fun p hp => hW.lt p hp
  obtain ⟨p, q, hA, hV, rfl, hz, hn⟩ := hW
  have hV' := hV
  rw [hv] at hV'
  obtain ⟨rfl, rfl⟩ := trodVars_none hV'
  simp only [List.append_nil] at hlt hz hn
  have hs' : s.fn H (ds ++ []) = { results := [.lit (.bool true)], args := ds } := by rw [List.append_nil]; exact hs
  refine ⟨ds, [], p ++ [], [], p, [], ⟨p, [], hA, hV, rfl, by simpa using hz, by simp⟩, ?_, ?_, ?_, hb.frame _, (fun h => by cases h)⟩
  · rw [hrt, hs']
    exact trodAll_mk1 ⟨1, by simp [DataW.trod, Value.cells, htb]⟩
  · rw [hs']
    exact trodAll_below hl hb hp hA hlt (fun x hx => by simpa using hlt x hx)
  · rw [hs', hv]
    exact rfl

/-- **A CONTRACT 'true, whatever the arguments' GIVES WHAT A STATEMENT ASKS.** -/
theorem con_true {H : Type} {enc : TypeId × Value → H} (hl : laidOutB P = true) {f : FuncId} {fn : Func} {s : ChangeSpec} {sg : Sig} {pr : Pred} {tb : TypeId} {m : Nat} (hc : ConOK P f sg pr)
    (hpre : ∀ ds, ds.length = (sg.args.map VSh.width).sum → pr.pre ds) (hpost : ∀ ds b, ds.length = (sg.args.map VSh.width).sum → pr.post ds [.bool b] → b = true)
    (hv : s.vars = []) (hp : (fn.params.toList.all fun t => P.readableRec t && decide (t < P.types.size)) = true) (hok : fn.params.toList.all (okTy P m) = true) (hsh : shPs P fn.params.toList = some sg.args) (hres : sg.res = [.cell .bool false])
    (hrt : fn.resultTypes = #[tb]) (htb : P.underlying tb = some .bool) (hs : ∀ ds : List (DataW H), ds.length = fn.params.toList.length → s.fn H ds = { results := [.lit (.bool true)], args := ds })
    {W : World} {base : Nat} {args : Array Value} {ds gs : List (DataW H)} {before : List MemPlace}
    (hval : ∀ (j : Nat) t v, fn.params[j]? = some t → args[j]? = some v → Value.okWide P W .any base t v)
    (hW : DataW.Whole enc P fn.params.toList s.vars false W args.toList ds gs before) :
    Calls P f args W fun e W' => ∃ v, e = .returned v ∧ s.post enc P fn false true false false W args v W' := by
  have hW' := hW
  obtain ⟨p, q, hA, hV, rfl, hz, hn⟩ := hW'
  obtain ⟨xs, g1, g2⟩ := read_args (ow := fun _ => none) (n := 0) hA (fun j t v h1 h2 => hval j t v (by simpa using h1) (by simpa using h2)) hok hsh
  have hlen : ds.length = fn.params.toList.length := by
    have : ∀ {ts : List TypeId} {vs : List Value} {ds : List (DataW H)} {ps : List MemPlace}, DataW.TrodAll enc P W 0 (fun _ => true) true ts vs ds ps → ds.length = ts.length := by
      intro ts
      induction ts with
      | nil => intro vs ds ps h; obtain ⟨_, rfl, _⟩ := trodAll_nil h; rfl
      | cons t ts ih =>
        intro vs ds ps h
        cases vs <;> cases ds <;> first | exact h.elim | skip
        obtain ⟨_, _, _, h2, _⟩ := h
        simp [ih h2]
    exact this hA
  have hcall := hc W (fun b => b < W.heap.size) args.toList xs (fun _ h => h) g1 (hpre xs g2)
  simp only [Array.toArray_toList] at hcall
  refine hcall.mono fun e W' ⟨v, rs, he, hpo, hb, hro⟩ => ⟨v, he, ?_⟩
  obtain ⟨vals, R', ow', rfl, _, _, _, _, hrv⟩ := hro
  rw [hres] at hrv
  have : ∃ b : Bool, vals = [.bool b] ∧ rs = [.bool b] := by
    cases vals with
    | nil => exact hrv.elim
    | cons v vs =>
      obtain ⟨d1, d2, rfl, h1, h2⟩ := hrv
      cases vs with
      | cons => exact h2.elim
      | nil =>
        have h2 : d2 = [] := h2
        subst h2
        cases d1 with
        | nil => exact h1.elim
        | cons d d1 =>
          cases d1 with
          | cons => exact h1.2.elim
          | nil =>
            have hr : Rd P W' R' d .bool v := h1.1
            cases d with
            | bool b => exact ⟨b, by rw [hr.2], rfl⟩
            | int n => obtain ⟨_, hk, _⟩ := hr; cases hk
            | str n => exact absurd hr.1 (by simp)
            | sl n g => obtain ⟨_, _, _, hk, _⟩ := hr; cases hk
  obtain ⟨b, rfl, rfl⟩ := this
  obtain rfl := hpost xs b g2 hpo
  exact post_true hl hW hv (fun t ht => by simpa using List.all_eq_true.1 hp t ht) hrt htb (hs ds hlen) hb
end

end Go.Sx
