/-
  The conditions of the functions. Conditions: none; printed by a program of our own.
-/
import Derived.Test.YtjbknheeiaaioaaTabSpec
set_option maxRecDepth 20000
namespace Go.Sx.N
def V_TLook_0 (s0 : Sl) (x1 : Int) (x2 : Int) (x3 : Int) (s10 : Sl) (b16 : Bool) (s17 : Sl) (b18 : Bool) (s19 : Sl) (x304 : Int) : Prop :=
(((x304 < 0) →
(q_TLook s0 x1 x2 x3 (decide True)) ∧ True) ∧
(¬ (x304 < 0) →
((0 : Int) ≤ x304) ∧
(x304 < (Sl.len s10)) ∧
((Ranged (Sl.sub s10 x304 4) [some .u16]) →
((Ranged (Sl.sub s10 x304 6) [some .u16]) →
(p_kSameFrac (decide (b16 = true)) s17 (decide (b18 = true)) s19 (decide (Sl.bool s10 x304 3 = true)) (Sl.sub s10 x304 4) (decide (Sl.bool s10 x304 5 = true)) (Sl.sub s10 x304 6)) ∧
(∀ b400 : Bool,
((q_kSameFrac (decide (b16 = true)) s17 (decide (b18 = true)) s19 (decide (Sl.bool s10 x304 3 = true)) (Sl.sub s10 x304 4) (decide (Sl.bool s10 x304 5 = true)) (Sl.sub s10 x304 6) (decide (b400 = true))) →
(q_TLook s0 x1 x2 x3 (decide (b400 = true))) ∧ True))))))
def V_TLook_1 (s0 : Sl) (x1 : Int) (x2 : Int) (x3 : Int) (y8 : ByteArray) (b9 : Bool) (s10 : Sl) (b16 : Bool) (s17 : Sl) (b18 : Bool) (s19 : Sl) (x20 : Int) : Prop :=
(∃ (J300 : Int → Prop) (M300 : Int → Nat), J300 (imin x1 11) ∧
(∀ x301 : Int,
((Rng .i64 x301) →
(J300 x301 →
(((x301 ≥ (-4)) →
(∃ (J302 : Bool → Int → Int → Prop) (M302 : Bool → Int → Int → Nat), J302 (decide False) (-1) 5 ∧
(∀ b303 : Bool,
(∀ x304 : Int,
((Rng .i64 x304) →
(∀ x305 : Int,
((Rng .i64 x305) →
(J302 (decide (b303 = true)) x304 x305 →
(((x305 ≥ (-2)) →
(p_holds y8 (decide (b9 = true)) s10 x301 x305 x3) ∧
(∀ x306 : Int,
((Rng .i64 x306) →
((q_holds y8 (decide (b9 = true)) s10 x301 x305 x3 x306) →
(((b303 = true) →
(((x304 < 0) →
(((x305 ≤ x2) →
(Rng .i64 (x305 - 1)) ∧
(J302 (decide True) x306 (x305 - 1) ∧ M302 (decide True) x306 (x305 - 1) < M302 (decide (b303 = true)) x304 x305)) ∧
(¬ (x305 ≤ x2) →
(Rng .i64 (x305 - 1)) ∧
(J302 (decide True) x304 (x305 - 1) ∧ M302 (decide True) x304 (x305 - 1) < M302 (decide (b303 = true)) x304 x305)))) ∧
(¬ (x304 < 0) →
(Rng .i64 (x305 - 1)) ∧
(J302 (decide True) x304 (x305 - 1) ∧ M302 (decide True) x304 (x305 - 1) < M302 (decide (b303 = true)) x304 x305)))) ∧
(¬ (b303 = true) →
(((x304 < 0) →
(((x305 ≤ x2) →
(Rng .i64 (x305 - 1)) ∧
(J302 (decide (x306 ≥ 0)) x306 (x305 - 1) ∧ M302 (decide (x306 ≥ 0)) x306 (x305 - 1) < M302 (decide (b303 = true)) x304 x305)) ∧
(¬ (x305 ≤ x2) →
(Rng .i64 (x305 - 1)) ∧
(J302 (decide (x306 ≥ 0)) x304 (x305 - 1) ∧ M302 (decide (x306 ≥ 0)) x304 (x305 - 1) < M302 (decide (b303 = true)) x304 x305)))) ∧
(¬ (x304 < 0) →
(Rng .i64 (x305 - 1)) ∧
(J302 (decide (x306 ≥ 0)) x304 (x305 - 1) ∧ M302 (decide (x306 ≥ 0)) x304 (x305 - 1) < M302 (decide (b303 = true)) x304 x305))))))))) ∧
(¬ (x305 ≥ (-2)) →
(((b303 = true) →
((((x20 = 0) ↔ (x304 ≥ 0)) →
(((x304 ≥ 0) →
(V_TLook_0 s0 x1 x2 x3 s10 b16 s17 b18 s19 x304)) ∧
(¬ (x304 ≥ 0) →
(((x20 = 6) →
(V_TLook_0 s0 x1 x2 x3 s10 b16 s17 b18 s19 x304)) ∧
(¬ (x20 = 6) →
(q_TLook s0 x1 x2 x3 (decide False)) ∧ True))))) ∧
(¬ ((x20 = 0) ↔ (x304 ≥ 0)) →
(q_TLook s0 x1 x2 x3 (decide False)) ∧ True))) ∧
(¬ (b303 = true) →
(Rng .i64 (x301 - 1)) ∧
(J300 (x301 - 1) ∧ M300 (x301 - 1) < M300 x301))))))))))))) ∧
(¬ (x301 ≥ (-4)) →
(((x20 = 6) →
(p_kLimbs (decide (b16 = true)) s17 (decide (b18 = true)) s19) ∧
(∀ x302 : Int,
((Rng .i64 x302) →
((q_kLimbs (decide (b16 = true)) s17 (decide (b18 = true)) s19 x302) →
(q_TLook s0 x1 x2 x3 (decide (x302 = 0))) ∧ True)))) ∧
(¬ (x20 = 6) →
(q_TLook s0 x1 x2 x3 (decide False)) ∧ True))))))))
def V_TLook_2 (s0 : Sl) (x1 : Int) (x2 : Int) (x3 : Int) (s7 : Sl) (y8 : ByteArray) (b9 : Bool) (s10 : Sl) (b11 : Bool) (s12 : Sl) (b13 : Bool) (s14 : Sl) (b16 : Bool) (s17 : Sl) (b18 : Bool) (s19 : Sl) (x20 : Int) (x22 : Int) : Prop :=
(((x22 ≥ 0) →
((0 : Int) ≤ x22) ∧
(x22 < (Sl.len s7)) ∧
((Ranged (Sl.sub s7 x22 4) [some .u16]) →
((Ranged (Sl.sub s7 x22 6) [some .u16]) →
(p_kSameFrac (decide (b11 = true)) s12 (decide (b13 = true)) s14 (decide (Sl.bool s7 x22 3 = true)) (Sl.sub s7 x22 4) (decide (Sl.bool s7 x22 5 = true)) (Sl.sub s7 x22 6)) ∧
(∀ b200 : Bool,
((q_kSameFrac (decide (b11 = true)) s12 (decide (b13 = true)) s14 (decide (Sl.bool s7 x22 3 = true)) (Sl.sub s7 x22 4) (decide (Sl.bool s7 x22 5 = true)) (Sl.sub s7 x22 6) (decide (b200 = true))) →
(((¬ (b200 = true)) →
(q_TLook s0 x1 x2 x3 (decide False)) ∧ True) ∧
(¬ (¬ (b200 = true)) →
(V_TLook_1 s0 x1 x2 x3 y8 b9 s10 b16 s17 b18 s19 x20)))))))) ∧
(¬ (x22 ≥ 0) →
(V_TLook_1 s0 x1 x2 x3 y8 b9 s10 b16 s17 b18 s19 x20)))
def V_TLook_3 (s0 : Sl) (x1 : Int) (x2 : Int) (x3 : Int) (s7 : Sl) (y8 : ByteArray) (b9 : Bool) (s10 : Sl) (b11 : Bool) (s12 : Sl) (b13 : Bool) (s14 : Sl) (x15 : Int) (b16 : Bool) (s17 : Sl) (b18 : Bool) (s19 : Sl) (x20 : Int) (x22 : Int) : Prop :=
(((¬ ((x15 = 0) ↔ (x22 ≥ 0))) →
(q_TLook s0 x1 x2 x3 (decide False)) ∧ True) ∧
(¬ (¬ ((x15 = 0) ↔ (x22 ≥ 0))) →
(((x22 < 0) →
(((x15 ≠ 6) →
(q_TLook s0 x1 x2 x3 (decide False)) ∧ True) ∧
(¬ (x15 ≠ 6) →
(V_TLook_2 s0 x1 x2 x3 s7 y8 b9 s10 b11 s12 b13 s14 b16 s17 b18 s19 x20 x22)))) ∧
(¬ (x22 < 0) →
(V_TLook_2 s0 x1 x2 x3 s7 y8 b9 s10 b11 s12 b13 s14 b16 s17 b18 s19 x20 x22)))))
def V_TLook : Prop :=
(∀ s0 : Sl,
((Ranged s0 [some .u8, some .u8, some .u8, some .u16]) →
(∀ x1 : Int,
((Rng .i64 x1) →
(∀ x2 : Int,
((Rng .i64 x2) →
(∀ x3 : Int,
((Rng .i64 x3) →
((p_TLook s0 x1 x2 x3) →
(p_awake ) ∧
(∀ b4 : Bool,
((q_awake  (decide (b4 = true))) →
(((¬ (b4 = true)) →
(q_TLook s0 x1 x2 x3 (decide False)) ∧ True) ∧
(¬ (¬ (b4 = true)) →
(p_Built s0 (decide False)) ∧
(∀ y5 : ByteArray,
(∀ b6 : Bool,
(∀ s7 : Sl,
((Ranged s7 [some .i64, some .i64, some .i64, none, none, none, none]) →
((q_Built s0 (decide False) y5 (decide (b6 = true)) s7) →
(p_Built s0 (decide True)) ∧
(∀ y8 : ByteArray,
(∀ b9 : Bool,
(∀ s10 : Sl,
((Ranged s10 [some .i64, some .i64, some .i64, none, none, none, none]) →
((q_Built s0 (decide True) y8 (decide (b9 = true)) s10) →
(p_Look y5 (decide (b6 = true)) s7 x1 x3) ∧
(∀ b11 : Bool,
(∀ s12 : Sl,
((Ranged s12 [some .u16]) →
(∀ b13 : Bool,
(∀ s14 : Sl,
((Ranged s14 [some .u16]) →
(∀ x15 : Int,
((Rng .i64 x15) →
((q_Look y5 (decide (b6 = true)) s7 x1 x3 (decide (b11 = true)) s12 (decide (b13 = true)) s14 x15) →
(p_LookTwo y8 (decide (b9 = true)) s10 x1 x2 x3) ∧
(∀ b16 : Bool,
(∀ s17 : Sl,
((Ranged s17 [some .u16]) →
(∀ b18 : Bool,
(∀ s19 : Sl,
((Ranged s19 [some .u16]) →
(∀ x20 : Int,
((Rng .i64 x20) →
((q_LookTwo y8 (decide (b9 = true)) s10 x1 x2 x3 (decide (b16 = true)) s17 (decide (b18 = true)) s19 x20) →
(∃ (J21 : Int → Int → Prop) (M21 : Int → Int → Nat), J21 (-1) (imin x1 11) ∧
(∀ x22 : Int,
((Rng .i64 x22) →
(∀ x23 : Int,
((Rng .i64 x23) →
(J21 x22 x23 →
(((x23 ≥ (-4)) →
(((x22 < 0) →
(p_holds y5 (decide (b6 = true)) s7 x23 0 x3) ∧
(∀ x24 : Int,
((Rng .i64 x24) →
((q_holds y5 (decide (b6 = true)) s7 x23 0 x3 x24) →
(Rng .i64 (x23 - 1)) ∧
(J21 x24 (x23 - 1) ∧ M21 x24 (x23 - 1) < M21 x22 x23))))) ∧
(¬ (x22 < 0) →
(V_TLook_3 s0 x1 x2 x3 s7 y8 b9 s10 b11 s12 b13 s14 x15 b16 s17 b18 s19 x20 x22)))) ∧
(¬ (x23 ≥ (-4)) →
(V_TLook_3 s0 x1 x2 x3 s7 y8 b9 s10 b11 s12 b13 s14 x15 b16 s17 b18 s19 x20 x22))))))))))))))))))))))))))))))))))))))))))))))))))
end Go.Sx.N
