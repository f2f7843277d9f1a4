/-
  What the symbolic executor's words mean: the leaves' algebra, the trees' denotation, how symbolic values and states relate to the model's. Conditions: none; small lemmas are proved.
-/
import Derived.Test.YtlhjljekeobplaaSx2
import Derived.WalkKit
namespace Go.Sx
open Go.RowKit (Below)

structure PB where
  p : Prop
  d : Decidable p

def PB.b (x : PB) : Bool := @decide x.p x.d

structure Sl where
  n : Nat
  f : Nat → Nat → D

def D.toI : D → Int
  | .int n => n
  | _ => 0
def D.toB : D → Bool
  | .bool b => b
  | _ => false
def D.toY : D → ByteArray
  | .str s => s
  | _ => ByteArray.empty
def D.toS : D → Sl
  | .sl n f => ⟨n, f⟩
  | _ => ⟨0, fun _ _ => .int 0⟩

def Sl.d (s : Sl) : D := .sl s.n s.f
def Sl.len (s : Sl) : Int := ((s.n : Nat) : Int)
def Sl.int (s : Sl) (i : Int) (j : Nat) : Int := (s.f i.toNat j).toI
def Sl.bool (s : Sl) (i : Int) (j : Nat) : Bool := (s.f i.toNat j).toB
def Sl.str (s : Sl) (i : Int) (j : Nat) : ByteArray := (s.f i.toNat j).toY
def Sl.sub (s : Sl) (i : Int) (j : Nat) : Sl := (s.f i.toNat j).toS
def Sl.nil : Sl := ⟨0, fun _ _ => .int 0⟩
def Sl.part (s : Sl) (l h : Int) : Sl := ⟨(h - l).toNat, fun i j => s.f (l.toNat + i) j⟩
def Sl.upd (s : Sl) (i : Int) (j : Nat) (cs : List D) : Sl :=
  ⟨s.n, fun a b => if a = i.toNat ∧ j ≤ b ∧ b < j + cs.length then cs.getD (b - j) (.int 0) else s.f a b⟩
def Sl.app (s r : Sl) : Sl := ⟨s.n + r.n, fun i j => if i < s.n then s.f i j else r.f (i - s.n) j⟩
def Sl.lit (l : List (List D)) : Sl := ⟨l.length, fun i j => (l.getD i []).getD j (.int 0)⟩
def Sl.rep (n : Int) (z : List D) : Sl := ⟨n.toNat, fun _ j => z.getD j (.int 0)⟩

def imin (x y : Int) : Int := if y < x then y else x
def imax (x y : Int) : Int := if y > x then y else x
def ylen (s : ByteArray) : Int := ((s.size : Nat) : Int)
def ychr (s : ByteArray) (i : Int) : Int := (((s.data.toList.getD i.toNat 0).toNat : Nat) : Int)
def Rng (k : IntKind) (x : Int) : Prop := k.min ≤ x ∧ x ≤ k.max
def Small (s : Sl) : Prop := s.n ≤ maxLen

/-- The integers of a slice are in the ranges of their kinds. -/
def Ranged (s : Sl) (l : List (Option IntKind)) : Prop := ∀ (i : Int) (j : Nat) (k : IntKind), 0 ≤ i → i < s.n → l[j]? = some (some k) → Rng k (Sl.int s i j)

def band (k : IntKind) (x y : Int) : Int := (((BitVec.ofInt k.bits x) &&& (BitVec.ofInt k.bits y)).toNat : Int)
def bor (k : IntKind) (x y : Int) : Int := (((BitVec.ofInt k.bits x) ||| (BitVec.ofInt k.bits y)).toNat : Int)
def bxor (k : IntKind) (x y : Int) : Int := (((BitVec.ofInt k.bits x) ^^^ (BitVec.ofInt k.bits y)).toNat : Int)
def bclr (k : IntKind) (x y : Int) : Int := (((BitVec.ofInt k.bits x) &&& ~~~(BitVec.ofInt k.bits y)).toNat : Int)
def shl (k : IntKind) (x y : Int) : Int := x * 2 ^ (min y.toNat k.bits)
def shr (k : IntKind) (x y : Int) : Int := x.fdiv (2 ^ (min y.toNat k.bits))

def arithS (op : BinOp) (k : IntKind) (x y : Int) : Int :=
  match op with
  | .add => x + y
  | .sub => x - y
  | .mul => x * y
  | .quo => Int.tdiv x y
  | .rem => Int.tmod x y
  | .and => band k x y
  | .or => bor k x y
  | .xor => bxor k x y
  | .andNot => bclr k x y
  | .shl => shl k x y
  | .shr => shr k x y
  | _ => 0

def cmpS (op : BinOp) (x y : Int) : PB :=
  match op with
  | .eql => ⟨x = y, inferInstance⟩
  | .neq => ⟨x ≠ y, inferInstance⟩
  | .lss => ⟨x < y, inferInstance⟩
  | .leq => ⟨x ≤ y, inferInstance⟩
  | .gtr => ⟨x > y, inferInstance⟩
  | _ => ⟨x ≥ y, inferInstance⟩

abbrev CS := Cl Int PB ByteArray Sl

def Cl.toD : CS → D
  | .int x => .int x
  | .bool b => .bool (@decide b.p b.d)
  | .str y => .str y
  | .sl s => .sl s.n s.f

structure Pred where
  pre : List D → Prop
  post : List D → List D → Prop

@[reducible] def sem (T : FuncId → Pred) : Alg where
  I := Int
  B := PB
  Y := ByteArray
  S := Sl
  P := Prop
  V := (List D → Prop) × (List D → Nat)
  lit := fun n => n
  arith := arithS
  wrap := fun k x => IntKind.wrap k x
  imin := imin
  imax := imax
  cmp := cmpS
  bnot := fun b => ⟨¬ b.p, @instDecidableNot _ b.d⟩
  band := fun b c => ⟨b.p ∧ c.p, @instDecidableAnd _ _ b.d c.d⟩
  beq := fun b c => ⟨b.p ↔ c.p, @instDecidableIff _ _ b.d c.d⟩
  blit := fun b => match b with
    | true => ⟨True, inferInstance⟩
    | false => ⟨False, inferInstance⟩
  ylit := fun s => s
  ylen := ylen
  ychr := ychr
  yeq := fun x y => ⟨x = y, inferInstance⟩
  len := Sl.len
  cellI := Sl.int
  cellB := fun s i j => ⟨Sl.bool s i j = true, inferInstance⟩
  cellY := Sl.str
  cellS := Sl.sub
  nilS := Sl.nil
  sub := Sl.part
  upd := fun s i j cs => Sl.upd s i j (cs.map Cl.toD)
  app := Sl.app
  listS := fun l => Sl.lit (l.map fun cs => cs.map Cl.toD)
  replS := fun n z => Sl.rep n (z.map Cl.toD)
  le := fun x y => x ≤ y
  lt := fun x y => x < y
  ne := fun x y => x ≠ y
  rng := Rng
  ranged := Ranged
  small := Small
  pre := fun f l => (T f).pre (l.map Cl.toD)
  post := fun f l r => (T f).post (l.map Cl.toD) (r.map Cl.toD)

/-- Curried functions over raw data. -/
def CurP : List RK → Type
  | [] => Prop
  | .int :: r => Int → CurP r
  | .bool :: r => Bool → CurP r
  | .str :: r => ByteArray → CurP r
  | .sl :: r => Sl → CurP r

def CurN : List RK → Type
  | [] => Nat
  | .int :: r => Int → CurN r
  | .bool :: r => Bool → CurN r
  | .str :: r => ByteArray → CurN r
  | .sl :: r => Sl → CurN r

def apP : (sh : List RK) → CurP sh → List D → Prop
  | [], p, _ => p
  | .int :: r, f, d :: ds => apP r (f d.toI) ds
  | .bool :: r, f, d :: ds => apP r (f d.toB) ds
  | .str :: r, f, d :: ds => apP r (f d.toY) ds
  | .sl :: r, f, d :: ds => apP r (f d.toS) ds
  | _, _, [] => False

def apN : (sh : List RK) → CurN sh → List D → Nat
  | [], p, _ => p
  | .int :: r, f, d :: ds => apN r (f d.toI) ds
  | .bool :: r, f, d :: ds => apN r (f d.toB) ds
  | .str :: r, f, d :: ds => apN r (f d.toY) ds
  | .sl :: r, f, d :: ds => apN r (f d.toS) ds
  | _, _, [] => 0

variable {T : FuncId → Pred}

def Tree.den : Tree (sem T) → Prop
  | .need p t => p ∧ t.den
  | .given p t => p → t.den
  | .br b t e => (b.p → t.den) ∧ (¬ b.p → e.den)
  | .both t e => t.den ∧ e.den
  | .allI f => ∀ x : Int, (f x).den
  | .allB f => ∀ b : Bool, (f ⟨b = true, inferInstance⟩).den
  | .allY f => ∀ y : ByteArray, (f y).den
  | .allS f => ∀ s : Sl, (f s).den
  | .loop sh e f => ∃ (J : CurP sh) (M : CurN sh), apP sh J (e.map Cl.toD) ∧ (f (apP sh J, apN sh M)).den
  | .inv v xs t => v.1 (xs.map Cl.toD) → t.den
  | .again v old new => v.1 (new.map Cl.toD) ∧ v.2 (new.map Cl.toD) < v.2 (old.map Cl.toD)
  | .join sh f => ∃ J : CurP sh, (f (apP sh J, fun _ => 0)).den
  | .put v xs => v.1 (xs.map Cl.toD)
  | .done => True
  | .fail _ _ => False

/-! ### Reading -/

/-- The value reads as the data, at a kind; the blocks that it reads are among R. -/
def Rd (P : Program) (w : World) (R : Nat → Prop) : D → K → Value → Prop
  | .int n, k, v => ∃ ik, k = .int ik ∧ v = .int ik n ∧ ik.min ≤ n ∧ n ≤ ik.max
  | .bool b, k, v => k = .bool ∧ v = .bool b
  | .str s, k, v => k = .str ∧ v = .string s
  | .sl n f, k, v => ∃ e a cap, k = .sl e ∧ v = .slice a n cap ∧ n ≤ cap ∧ cap ≤ maxLen ∧ (a = none → cap = 0) ∧
      ∀ ks i j kk, kinds P e = some ks → i < n → ks[j]? = some kk → ∃ ad u, a = some ad ∧ ad.spot = none ∧ R ad.block ∧ w.cell? ⟨ad.block, ad.off + (i * ks.length + j), none⟩ = some u ∧ Rd P w R (f i j) kk u

theorem Rd.mono {P : Program} {w w' : World} {R R' : Nat → Prop} (hR : ∀ b, R b → R' b) (hw : ∀ b, R b → w'.heap[b]? = w.heap[b]?) :
    ∀ {d : D} {k : K} {v : Value}, Rd P w R d k v → Rd P w' R' d k v := by
  intro d
  induction d with
  | int n => intro k v h; exact h
  | bool b => intro k v h; exact h
  | str s => intro k v h; exact h
  | sl n f ih =>
    intro k v h
    obtain ⟨e, a, cap, hk, hv, h1, h2, h4, h5⟩ := h
    refine ⟨e, a, cap, hk, hv, h1, h2, h4, fun ks i j kk h3 hi hj => ?_⟩
    obtain ⟨ad, u, ha, hs, hr, hc, hd⟩ := h5 ks i j kk h3 hi hj
    refine ⟨ad, u, ha, hs, hR _ hr, ?_, ih i j hd⟩
    rw [World.cell?_of_block (w := w) (a := ⟨ad.block, ad.off + (i * ks.length + j), none⟩) (hw ad.block hr)]
    exact hc

/-- The content of a slice value, whoever owns the row. -/
def Cont (P : Program) (w : World) (R : Nat → Prop) (e : TypeId) (s : Sl) (v : Value) : Prop :=
  ∃ a cap, v = .slice a s.n cap ∧ s.n ≤ cap ∧ cap ≤ maxLen ∧ (a = none → cap = 0) ∧
    ∀ ks i j kk, kinds P e = some ks → i < s.n → ks[j]? = some kk → ∃ ad u, a = some ad ∧ ad.spot = none ∧ w.cell? ⟨ad.block, ad.off + (i * ks.length + j), none⟩ = some u ∧ Rd P w R (s.f i j) kk u

theorem Rd.cont {P : Program} {w : World} {R : Nat → Prop} {e : TypeId} {s : Sl} {v : Value} (h : Rd P w R (.sl s.n s.f) (.sl e) v) : Cont P w R e s v := by
  obtain ⟨e', a, cap, hk, hv, h1, h2, h4, h5⟩ := h
  cases hk
  refine ⟨a, cap, hv, h1, h2, h4, fun ks i j kk h3 hi hj => ?_⟩
  obtain ⟨ad, u, ha, hs, _, hc, hd⟩ := h5 ks i j kk h3 hi hj
  exact ⟨ad, u, ha, hs, hc, hd⟩

/-! ### Symbolic values and the model's -/

def inB (i : Int) (n : Nat) : Prop := 0 ≤ i ∧ i < (n : Int)

mutual
def SVR (bl : List Nat) (vs : List Value) : SV (sem T) → Value → Prop
  | .int k x, v => v = .int k x ∧ k.min ≤ x ∧ x ≤ k.max
  | .blit b, v => v = .bool b
  | .bool b, v => v = .bool b.b
  | .str y, v => v = .string y
  | .sl id, v => vs[id]? = some v
  | .ptr i off, v => ∃ b, bl[i]? = some b ∧ v = .pointer (some ⟨b, off, none⟩)
  | .eptr id sz i off, v => ∃ a len cap, vs[id]? = some (.slice (some a) len cap) ∧ a.spot = none ∧ inB i len ∧ v = .pointer (some ⟨a.block, a.off + (Int.toNat i * sz + off), none⟩)
  | .fn f caps, v => ∃ cs, v = .func (.func f) #[] cs ∧ SVRs bl vs caps cs.toList
  | .yld i, v => ∃ b, bl[i]? = some b ∧ v = .func (.yield b) #[] #[]
  | .agg l, v => ∃ cs, v = .agg cs ∧ SVRs bl vs l cs.toList
  | .tup l, v => ∃ cs, v = .tuple cs ∧ SVRs bl vs l cs.toList
  | .con c, v => v = c
  | .junk, _ => True
def SVRs (bl : List Nat) (vs : List Value) : List (SV (sem T)) → List Value → Prop
  | [], [] => True
  | s :: ss, v :: l => SVR bl vs s v ∧ SVRs bl vs ss l
  | _, _ => False
end

mutual
theorem SVR.mono {bl bl' : List Nat} {vs vs' : List Value} (hb : ∀ (i : Nat) (b : Nat), bl[i]? = some b → bl'[i]? = some b) (hv : ∀ (i : Nat) (b : Value), vs[i]? = some b → vs'[i]? = some b) :
    ∀ {s : SV (sem T)} {v : Value}, SVR bl vs s v → SVR bl' vs' s v
  | .int _ _, _, h => h
  | .blit _, _, h => h
  | .bool _, _, h => h
  | .str _, _, h => h
  | .sl _, _, h => hv _ _ h
  | .ptr _ _, _, ⟨b, h, hh⟩ => ⟨b, hb _ _ h, hh⟩
  | .eptr _ _ _ _, _, ⟨a, l, c, h, hh⟩ => ⟨a, l, c, hv _ _ h, hh⟩
  | .fn _ _, _, ⟨cs, h, hh⟩ => ⟨cs, h, SVRs.mono hb hv hh⟩
  | .yld _, _, ⟨b, h, hh⟩ => ⟨b, hb _ _ h, hh⟩
  | .agg _, _, ⟨cs, h, hh⟩ => ⟨cs, h, SVRs.mono hb hv hh⟩
  | .tup _, _, ⟨cs, h, hh⟩ => ⟨cs, h, SVRs.mono hb hv hh⟩
  | .con _, _, h => h
  | .junk, _, _ => trivial
theorem SVRs.mono {bl bl' : List Nat} {vs vs' : List Value} (hb : ∀ (i : Nat) (b : Nat), bl[i]? = some b → bl'[i]? = some b) (hv : ∀ (i : Nat) (b : Value), vs[i]? = some b → vs'[i]? = some b) :
    ∀ {s : List (SV (sem T))} {v : List Value}, SVRs bl vs s v → SVRs bl' vs' s v
  | [], [], _ => trivial
  | _ :: _, _ :: _, ⟨h, hh⟩ => ⟨SVR.mono hb hv h, SVRs.mono hb hv hh⟩
  | [], _ :: _, h => h.elim
  | _ :: _, [], h => h.elim
end

section
variable {bl : List Nat} {vs : List Value}

theorem SVRs.length : ∀ {s : List (SV (sem T))} {v : List Value}, SVRs bl vs s v → s.length = v.length
  | [], [], _ => rfl
  | _ :: _, _ :: _, ⟨_, h⟩ => congrArg (· + 1) h.length
  | [], _ :: _, h => h.elim
  | _ :: _, [], h => h.elim

theorem SVRs.get : ∀ {s : List (SV (sem T))} {v : List Value}, SVRs bl vs s v → ∀ {i : Nat} {x : SV (sem T)}, s[i]? = some x → ∃ y, v[i]? = some y ∧ SVR bl vs x y
  | [], [], _, _, _, h => by simp at h
  | _ :: _, _ :: _, ⟨h1, h2⟩, 0, _, h => by simp at h; subst h; exact ⟨_, rfl, h1⟩
  | _ :: _, _ :: _, ⟨_, h2⟩, i + 1, _, h => by simpa using h2.get (i := i) (by simpa using h)
  | [], _ :: _, h, _, _, _ => h.elim
  | _ :: _, [], h, _, _, _ => h.elim

theorem SVRs.append : ∀ {s s' : List (SV (sem T))} {v v' : List Value}, SVRs bl vs s v → SVRs bl vs s' v' → SVRs bl vs (s ++ s') (v ++ v')
  | [], _, [], _, _, h => h
  | _ :: _, _, _ :: _, _, ⟨h1, h2⟩, h => ⟨h1, h2.append h⟩
  | [], _, _ :: _, _, h, _ => h.elim
  | _ :: _, _, [], _, h, _ => h.elim

theorem SVRs.drop : ∀ (n : Nat) {s : List (SV (sem T))} {v : List Value}, SVRs bl vs s v → SVRs bl vs (s.drop n) (v.drop n)
  | 0, _, _, h => by simpa using h
  | n + 1, [], [], _ => by simp [SVRs]
  | n + 1, _ :: _, _ :: _, ⟨_, h⟩ => by simpa using h.drop n
  | _ + 1, [], _ :: _, h => h.elim
  | _ + 1, _ :: _, [], h => h.elim

theorem SVRs.take : ∀ (n : Nat) {s : List (SV (sem T))} {v : List Value}, SVRs bl vs s v → SVRs bl vs (s.take n) (v.take n)
  | 0, _, _, h => by simp [SVRs]
  | n + 1, [], [], _ => by simp [SVRs]
  | n + 1, _ :: _, _ :: _, ⟨h1, h⟩ => by simpa [SVRs] using ⟨h1, h.take n⟩
  | _ + 1, [], _ :: _, h => h.elim
  | _ + 1, _ :: _, [], h => h.elim

theorem SVRs.of_get : ∀ {s : List (SV (sem T))} {v : List Value}, s.length = v.length → (∀ (i : Nat) (x : SV (sem T)) (y : Value), s[i]? = some x → v[i]? = some y → SVR bl vs x y) → SVRs bl vs s v
  | [], [], _, _ => trivial
  | _ :: _, _ :: _, hl, h => ⟨h 0 _ _ rfl rfl, SVRs.of_get (by simpa using hl) fun i x y hx hy => h (i + 1) x y (by simpa using hx) (by simpa using hy)⟩
  | [], _ :: _, hl, _ => by simp at hl
  | _ :: _, [], hl, _ => by simp at hl

mutual
/-- Where no part is unknown the value is one. -/
theorem SVR.unique : ∀ {s : SV (sem T)} {u v : Value}, s.clean = true → SVR bl vs s u → SVR bl vs s v → u = v
  | .int _ _, _, _, _, h, h' => h.1.trans h'.1.symm
  | .blit _, _, _, _, h, h' => h.trans h'.symm
  | .bool _, _, _, _, h, h' => h.trans h'.symm
  | .str _, _, _, _, h, h' => h.trans h'.symm
  | .sl _, _, _, _, h, h' => Option.some.inj (h.symm.trans h')
  | .ptr _ _, _, _, _, ⟨b, h, hh⟩, ⟨b', h', hh'⟩ => by cases Option.some.inj (h.symm.trans h'); exact hh.trans hh'.symm
  | .eptr _ _ _ _, _, _, _, ⟨a, l, c, h, _, _, hh⟩, ⟨a', l', c', h', _, _, hh'⟩ => by
    have := Option.some.inj (h.symm.trans h'); cases this; exact hh.trans hh'.symm
  | .fn _ _, _, _, hc, ⟨cs, h, hh⟩, ⟨cs', h', hh'⟩ => by
    rw [h, h', Array.toList_inj.1 (SVRs.unique hc hh hh')]
  | .yld _, _, _, _, ⟨b, h, hh⟩, ⟨b', h', hh'⟩ => by cases Option.some.inj (h.symm.trans h'); exact hh.trans hh'.symm
  | .agg _, _, _, hc, ⟨cs, h, hh⟩, ⟨cs', h', hh'⟩ => by
    rw [h, h', Array.toList_inj.1 (SVRs.unique hc hh hh')]
  | .tup _, _, _, hc, ⟨cs, h, hh⟩, ⟨cs', h', hh'⟩ => by
    rw [h, h', Array.toList_inj.1 (SVRs.unique hc hh hh')]
  | .con _, _, _, _, h, h' => h.trans h'.symm
  | .junk, _, _, hc, _, _ => by simp [SV.clean] at hc
theorem SVRs.unique : ∀ {s : List (SV (sem T))} {u v : List Value}, SV.clean.cleans s = true → SVRs bl vs s u → SVRs bl vs s v → u = v
  | [], [], [], _, _, _ => rfl
  | _ :: _, _ :: _, _ :: _, hc, ⟨h1, h2⟩, ⟨h1', h2'⟩ => by
    simp only [SV.clean.cleans, Bool.and_eq_true] at hc
    rw [SVR.unique hc.1 h1 h1', SVRs.unique hc.2 h2 h2']
  | [], _ :: _, _, _, h, _ => h.elim
  | [], [], _ :: _, _, _, h => h.elim
  | _ :: _, [], _, _, h, _ => h.elim
  | _ :: _, _ :: _, [], _, _, h => h.elim
end
end

/-! ### States -/

structure Look (P : Program) (R : Nat → Prop) (bl : List Nat) (vs : List Value) (boxes : List (Box (sem T))) (ents : List (Ent (sem T))) (w : World) : Prop where
  box : ∀ (i : Nat) (bx : Box (sem T)), boxes[i]? = some bx → bx.live = true → ∃ (b : Nat) (cs : Array Value), bl[i]? = some b ∧ w.heap[b]? = some (.cells cs bx.ty (0, 0)) ∧ SVRs bl vs bx.cells cs.toList
  ent : ∀ (i : Nat) (e : Ent (sem T)), ents[i]? = some e → e.live = true → ∃ v : Value, vs[i]? = some v ∧ Cont P w R e.elem e.s v
  vsl : ∀ (i : Nat) (v : Value), vs[i]? = some v → ∃ a n c, v = .slice a n c

def TR (bl : List Nat) (vs : List Value) (tmps : List (SV (sem T))) (a : Act) : Prop :=
  True ∧ SVRs bl vs tmps a.tmps.toList

end Go.Sx
