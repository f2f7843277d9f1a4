/-
  The conditions of the functions. Conditions: none; printed by a program of our own.
-/
import Derived.Test.YtjbknheeiaaioaaTabSpec
set_option maxRecDepth 20000
namespace Go.Sx.N
def V_TView_0 (s0 : Sl) (b1 : Bool) (x2 : Int) (x3 : Int) (x4 : Int) (s8 : Sl) (s11 : Sl) (J19 : Int → Prop) (M19 : Int → Nat) (x20 : Int) (x21 : Int) : Prop :=
(((x21 < 0) →
(q_TView s0 (decide (b1 = true)) x2 x3 x4 (decide False)) ∧ True) ∧
(¬ (x21 < 0) →
((0 : Int) ≤ x21) ∧
(x21 < (Sl.len s8)) ∧
((Rng .i64 (Sl.int s8 x21 0)) →
((Rng .i64 (Sl.int s8 x21 1)) →
((Rng .i64 (Sl.int s8 x21 2)) →
((Ranged (Sl.sub s8 x21 4) [some .u16]) →
((Ranged (Sl.sub s8 x21 6) [some .u16]) →
(p_kSameRow (Sl.int s8 x21 0) (Sl.int s8 x21 1) (Sl.int s8 x21 2) (decide (Sl.bool s8 x21 3 = true)) (Sl.sub s8 x21 4) (decide (Sl.bool s8 x21 5 = true)) (Sl.sub s8 x21 6) (Sl.int s11 x20 0) (Sl.int s11 x20 1) (Sl.int s11 x20 2) (decide (Sl.bool s11 x20 3 = true)) (Sl.sub s11 x20 4) (decide (Sl.bool s11 x20 5 = true)) (Sl.sub s11 x20 6)) ∧
(∀ b100 : Bool,
((q_kSameRow (Sl.int s8 x21 0) (Sl.int s8 x21 1) (Sl.int s8 x21 2) (decide (Sl.bool s8 x21 3 = true)) (Sl.sub s8 x21 4) (decide (Sl.bool s8 x21 5 = true)) (Sl.sub s8 x21 6) (Sl.int s11 x20 0) (Sl.int s11 x20 1) (Sl.int s11 x20 2) (decide (Sl.bool s11 x20 3 = true)) (Sl.sub s11 x20 4) (decide (Sl.bool s11 x20 5 = true)) (Sl.sub s11 x20 6) (decide (b100 = true))) →
(((¬ (b100 = true)) →
(q_TView s0 (decide (b1 = true)) x2 x3 x4 (decide False)) ∧ True) ∧
(¬ (¬ (b100 = true)) →
(Rng .i64 (x20 + 1)) ∧
(J19 (x20 + 1) ∧ M19 (x20 + 1) < M19 x20))))))))))))
def V_TView : Prop :=
(∀ s0 : Sl,
((Ranged s0 [some .u8, some .u8, some .u8, some .u16]) →
(∀ b1 : Bool,
(∀ x2 : Int,
((Rng .i64 x2) →
(∀ x3 : Int,
((Rng .i64 x3) →
(∀ x4 : Int,
((Rng .i64 x4) →
((p_TView s0 (decide (b1 = true)) x2 x3 x4) →
(p_awake ) ∧
(∀ b5 : Bool,
((q_awake  (decide (b5 = true))) →
(((¬ (b5 = true)) →
(q_TView s0 (decide (b1 = true)) x2 x3 x4 (decide False)) ∧ True) ∧
(¬ (¬ (b5 = true)) →
(p_Built s0 (decide (b1 = true))) ∧
(∀ y6 : ByteArray,
(∀ b7 : Bool,
(∀ s8 : Sl,
((Ranged s8 [some .i64, some .i64, some .i64, none, none, none, none]) →
((q_Built s0 (decide (b1 = true)) y6 (decide (b7 = true)) s8) →
(p_View y6 (decide (b7 = true)) s8 x4) ∧
(∀ y9 : ByteArray,
(∀ b10 : Bool,
(∀ s11 : Sl,
((Ranged s11 [some .i64, some .i64, some .i64, none, none, none, none]) →
(∀ x12 : Int,
((Rng .i64 x12) →
((q_View y6 (decide (b7 = true)) s8 x4 y9 (decide (b10 = true)) s11 x12) →
(p_View y9 (decide (b10 = true)) s11 x4) ∧
(∀ y13 : ByteArray,
(∀ b14 : Bool,
(∀ s15 : Sl,
((Ranged s15 [some .i64, some .i64, some .i64, none, none, none, none]) →
(∀ x16 : Int,
((Rng .i64 x16) →
((q_View y9 (decide (b10 = true)) s11 x4 y13 (decide (b14 = true)) s15 x16) →
(Rng .i64 (x12 + x16)) ∧
((((x12 + x16) ≠ 0) →
(q_TView s0 (decide (b1 = true)) x2 x3 x4 (decide False)) ∧ True) ∧
(¬ ((x12 + x16) ≠ 0) →
(p_tValid y9 (decide (b10 = true)) s11) ∧
(∀ b17 : Bool,
((q_tValid y9 (decide (b10 = true)) s11 (decide (b17 = true))) →
(((¬ (b17 = true)) →
(q_TView s0 (decide (b1 = true)) x2 x3 x4 (decide False)) ∧ True) ∧
(¬ (¬ (b17 = true)) →
(((¬ (y9 = y6)) →
(q_TView s0 (decide (b1 = true)) x2 x3 x4 (decide False)) ∧ True) ∧
(¬ (¬ (y9 = y6)) →
(((¬ ((b10 = true) ↔ (b1 = true))) →
(q_TView s0 (decide (b1 = true)) x2 x3 x4 (decide False)) ∧ True) ∧
(¬ (¬ ((b10 = true) ↔ (b1 = true))) →
(p_kSameTable y9 (decide (b10 = true)) s11 y13 (decide (b14 = true)) s15) ∧
(∀ b18 : Bool,
((q_kSameTable y9 (decide (b10 = true)) s11 y13 (decide (b14 = true)) s15 (decide (b18 = true))) →
(((¬ (b18 = true)) →
(q_TView s0 (decide (b1 = true)) x2 x3 x4 (decide False)) ∧ True) ∧
(¬ (¬ (b18 = true)) →
((Small s11) →
(∃ (J19 : Int → Prop) (M19 : Int → Nat), J19 0 ∧
(∀ x20 : Int,
((Rng .i64 x20) →
(J19 x20 →
(((x20 < (Sl.len s11)) →
((0 : Int) ≤ x20) ∧
(x20 < (Sl.len s11)) ∧
((Rng .i64 (Sl.int s11 x20 0)) →
((Rng .i64 (Sl.int s11 x20 1)) →
((Rng .i64 (Sl.int s11 x20 2)) →
((Ranged (Sl.sub s11 x20 4) [some .u16]) →
((Ranged (Sl.sub s11 x20 6) [some .u16]) →
(p_holds y6 (decide (b7 = true)) s8 (Sl.int s11 x20 0) (Sl.int s11 x20 1) x4) ∧
(∀ x21 : Int,
((Rng .i64 x21) →
((q_holds y6 (decide (b7 = true)) s8 (Sl.int s11 x20 0) (Sl.int s11 x20 1) x4 x21) →
(((x20 > 0) →
(Rng .i64 (x20 - 1)) ∧
((0 : Int) ≤ (x20 - 1)) ∧
((x20 - 1) < (Sl.len s11)) ∧
((Rng .i64 (Sl.int s11 (x20 - 1) 0)) →
(Rng .i64 (x20 - 1)) ∧
((0 : Int) ≤ (x20 - 1)) ∧
((x20 - 1) < (Sl.len s11)) ∧
((Rng .i64 (Sl.int s11 (x20 - 1) 1)) →
(p_tLess (Sl.int s11 (x20 - 1) 0) (Sl.int s11 (x20 - 1) 1) 1 (decide False) Sl.nil (decide False) Sl.nil (Sl.int s11 x20 0) (Sl.int s11 x20 1) 0 (decide False) Sl.nil (decide False) Sl.nil) ∧
(∀ b22 : Bool,
((q_tLess (Sl.int s11 (x20 - 1) 0) (Sl.int s11 (x20 - 1) 1) 1 (decide False) Sl.nil (decide False) Sl.nil (Sl.int s11 x20 0) (Sl.int s11 x20 1) 0 (decide False) Sl.nil (decide False) Sl.nil (decide (b22 = true))) →
(((¬ (b22 = true)) →
(q_TView s0 (decide (b1 = true)) x2 x3 x4 (decide False)) ∧ True) ∧
(¬ (¬ (b22 = true)) →
(V_TView_0 s0 b1 x2 x3 x4 s8 s11 J19 M19 x20 x21)))))))) ∧
(¬ (x20 > 0) →
(V_TView_0 s0 b1 x2 x3 x4 s8 s11 J19 M19 x20 x21)))))))))))) ∧
(¬ (x20 < (Sl.len s11)) →
((Small s8) →
(∃ (J21 : Int → Prop) (M21 : Int → Nat), J21 0 ∧
(∀ x22 : Int,
((Rng .i64 x22) →
(J21 x22 →
(((x22 < (Sl.len s8)) →
((0 : Int) ≤ x22) ∧
(x22 < (Sl.len s8)) ∧
((Rng .i64 (Sl.int s8 x22 0)) →
((Rng .i64 (Sl.int s8 x22 1)) →
((Rng .i64 (Sl.int s8 x22 2)) →
((Ranged (Sl.sub s8 x22 4) [some .u16]) →
((Ranged (Sl.sub s8 x22 6) [some .u16]) →
((Small s11) →
(∃ (J23 : Bool → Int → Prop) (M23 : Bool → Int → Nat), J23 (decide False) 0 ∧
(∀ b24 : Bool,
(∀ x25 : Int,
((Rng .i64 x25) →
(J23 (decide (b24 = true)) x25 →
(((x25 < (Sl.len s11)) →
((0 : Int) ≤ x25) ∧
(x25 < (Sl.len s11)) ∧
((Rng .i64 (Sl.int s11 x25 0)) →
((Rng .i64 (Sl.int s11 x25 1)) →
((Rng .i64 (Sl.int s11 x25 2)) →
((Ranged (Sl.sub s11 x25 4) [some .u16]) →
((Ranged (Sl.sub s11 x25 6) [some .u16]) →
(((b24 = true) →
(Rng .i64 (x25 + 1)) ∧
(J23 (decide True) (x25 + 1) ∧ M23 (decide True) (x25 + 1) < M23 (decide (b24 = true)) x25)) ∧
(¬ (b24 = true) →
((((Sl.int s11 x25 0) = (Sl.int s8 x22 0)) →
(Rng .i64 (x25 + 1)) ∧
(J23 (decide ((Sl.int s11 x25 1) = (Sl.int s8 x22 1))) (x25 + 1) ∧ M23 (decide ((Sl.int s11 x25 1) = (Sl.int s8 x22 1))) (x25 + 1) < M23 (decide (b24 = true)) x25)) ∧
(¬ ((Sl.int s11 x25 0) = (Sl.int s8 x22 0)) →
(Rng .i64 (x25 + 1)) ∧
(J23 (decide False) (x25 + 1) ∧ M23 (decide False) (x25 + 1) < M23 (decide (b24 = true)) x25))))))))))) ∧
(¬ (x25 < (Sl.len s11)) →
(p_holds y6 (decide (b7 = true)) s8 (Sl.int s8 x22 0) (Sl.int s8 x22 1) x4) ∧
(∀ x26 : Int,
((Rng .i64 x26) →
((q_holds y6 (decide (b7 = true)) s8 (Sl.int s8 x22 0) (Sl.int s8 x22 1) x4 x26) →
(((¬ ((b24 = true) ↔ (x26 ≥ 0))) →
(q_TView s0 (decide (b1 = true)) x2 x3 x4 (decide False)) ∧ True) ∧
(¬ (¬ ((b24 = true) ↔ (x26 ≥ 0))) →
(Rng .i64 (x22 + 1)) ∧
(J21 (x22 + 1) ∧ M21 (x22 + 1) < M21 x22)))))))))))))))))))) ∧
(¬ (x22 < (Sl.len s8)) →
((Small (Sl.lit [[(.int x4)], [(.int (imax x4 65536))]])) →
(∃ (J23 : Int → Prop) (M23 : Int → Nat), J23 0 ∧
(∀ x24 : Int,
((Rng .i64 x24) →
(J23 x24 →
(((x24 < (Sl.len (Sl.lit [[(.int x4)], [(.int (imax x4 65536))]]))) →
((0 : Int) ≤ x24) ∧
(x24 < (Sl.len (Sl.lit [[(.int x4)], [(.int (imax x4 65536))]]))) ∧
((Rng .i64 (Sl.int (Sl.lit [[(.int x4)], [(.int (imax x4 65536))]]) x24 0)) →
(p_Look y6 (decide (b7 = true)) s8 x2 x4) ∧
(∀ b25 : Bool,
(∀ s26 : Sl,
((Ranged s26 [some .u16]) →
(∀ b27 : Bool,
(∀ s28 : Sl,
((Ranged s28 [some .u16]) →
(∀ x29 : Int,
((Rng .i64 x29) →
((q_Look y6 (decide (b7 = true)) s8 x2 x4 (decide (b25 = true)) s26 (decide (b27 = true)) s28 x29) →
(p_Look y9 (decide (b10 = true)) s11 x2 (Sl.int (Sl.lit [[(.int x4)], [(.int (imax x4 65536))]]) x24 0)) ∧
(∀ b30 : Bool,
(∀ s31 : Sl,
((Ranged s31 [some .u16]) →
(∀ b32 : Bool,
(∀ s33 : Sl,
((Ranged s33 [some .u16]) →
(∀ x34 : Int,
((Rng .i64 x34) →
((q_Look y9 (decide (b10 = true)) s11 x2 (Sl.int (Sl.lit [[(.int x4)], [(.int (imax x4 65536))]]) x24 0) (decide (b30 = true)) s31 (decide (b32 = true)) s33 x34) →
(p_LookTwo y6 (decide (b7 = true)) s8 x2 x3 x4) ∧
(∀ b35 : Bool,
(∀ s36 : Sl,
((Ranged s36 [some .u16]) →
(∀ b37 : Bool,
(∀ s38 : Sl,
((Ranged s38 [some .u16]) →
(∀ x39 : Int,
((Rng .i64 x39) →
((q_LookTwo y6 (decide (b7 = true)) s8 x2 x3 x4 (decide (b35 = true)) s36 (decide (b37 = true)) s38 x39) →
(p_LookTwo y9 (decide (b10 = true)) s11 x2 x3 (Sl.int (Sl.lit [[(.int x4)], [(.int (imax x4 65536))]]) x24 0)) ∧
(∀ b40 : Bool,
(∀ s41 : Sl,
((Ranged s41 [some .u16]) →
(∀ b42 : Bool,
(∀ s43 : Sl,
((Ranged s43 [some .u16]) →
(∀ x44 : Int,
((Rng .i64 x44) →
((q_LookTwo y9 (decide (b10 = true)) s11 x2 x3 (Sl.int (Sl.lit [[(.int x4)], [(.int (imax x4 65536))]]) x24 0) (decide (b40 = true)) s41 (decide (b42 = true)) s43 x44) →
(((x29 ≠ x34) →
(q_TView s0 (decide (b1 = true)) x2 x3 x4 (decide False)) ∧ True) ∧
(¬ (x29 ≠ x34) →
(((x39 ≠ x44) →
(q_TView s0 (decide (b1 = true)) x2 x3 x4 (decide False)) ∧ True) ∧
(¬ (x39 ≠ x44) →
(p_kSameFrac (decide (b25 = true)) s26 (decide (b27 = true)) s28 (decide (b30 = true)) s31 (decide (b32 = true)) s33) ∧
(∀ b45 : Bool,
((q_kSameFrac (decide (b25 = true)) s26 (decide (b27 = true)) s28 (decide (b30 = true)) s31 (decide (b32 = true)) s33 (decide (b45 = true))) →
(((¬ (b45 = true)) →
(q_TView s0 (decide (b1 = true)) x2 x3 x4 (decide False)) ∧ True) ∧
(¬ (¬ (b45 = true)) →
(p_kSameFrac (decide (b35 = true)) s36 (decide (b37 = true)) s38 (decide (b40 = true)) s41 (decide (b42 = true)) s43) ∧
(∀ b46 : Bool,
((q_kSameFrac (decide (b35 = true)) s36 (decide (b37 = true)) s38 (decide (b40 = true)) s41 (decide (b42 = true)) s43 (decide (b46 = true))) →
(((¬ (b46 = true)) →
(q_TView s0 (decide (b1 = true)) x2 x3 x4 (decide False)) ∧ True) ∧
(¬ (¬ (b46 = true)) →
(Rng .i64 (x24 + 1)) ∧
(J23 (x24 + 1) ∧ M23 (x24 + 1) < M23 x24))))))))))))))))))))))))))))))))))))))))))))))))))) ∧
(¬ (x24 < (Sl.len (Sl.lit [[(.int x4)], [(.int (imax x4 65536))]]))) →
(q_TView s0 (decide (b1 = true)) x2 x3 x4 (decide True)) ∧ True))))))))))))))))))))))))))))))))))))))))))))))))))))))))))))))))))))
end Go.Sx.N
