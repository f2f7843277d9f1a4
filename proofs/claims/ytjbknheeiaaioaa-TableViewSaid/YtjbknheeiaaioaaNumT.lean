/-
  The tables of the contracts. Conditions: none; printed by a program of our own.
-/
import Derived.Test.YtjbknheeiaaioaaEngE
import Derived.Test.YtjbknheeiaaioaaProg
import Derived.Test.YtjbknheeiaaioaaNumBase
import Derived.Test.YtjbknheeiaaioaaTabSpec
namespace Go.Sx.N
open Go.Proofs
@[reducible] def b0 : List Nat := []
@[reducible] def b1 : List Nat := 84 :: b0
@[reducible] def b2 : List Nat := 89 :: b1
@[reducible] def b3 : List Nat := 86 :: b2
@[reducible] def b4 : List Nat := 78 :: b3
@[reducible] def b5 : List Nat := 88 :: b4
@[reducible] def b6 : List Nat := 80 :: b5
@[reducible] def b7 : List Nat := 71 :: b6
@[reducible] def b8 : List Nat := 70 :: b7
@[reducible] def b9 : List Nat := 68 :: b8
@[reducible] def b10 : List Nat := 76 :: b9
@[reducible] def b11 : List Nat := 77 :: b10
@[reducible] def b12 : List Nat := 72 :: b11
@[reducible] def b13 : List Nat := 81 :: b12
@[reducible] def b14 : List Nat := 82 :: b13
@[reducible] def b15 : List Nat := 74 :: b14
@[reducible] def b16 : List Nat := 79 :: b15
@[reducible] def b17 : List Nat := 73 :: b16
@[reducible] def b18 : List Nat := 75 :: b17
@[reducible] def b19 : List Nat := 69 :: b18
@[reducible] def b20 : List Nat := 49 :: b19
@[reducible] def b21 : List Nat := 61 :: b20
@[reducible] def b22 : List Nat := 67 :: b21
@[reducible] def b23 : List Nat := 66 :: b22
@[reducible] def b24 : List Nat := 64 :: b23
@[reducible] def b25 : List Nat := 44 :: b24
@[reducible] def b26 : List Nat := 50 :: b25
@[reducible] def b27 : List Nat := 33 :: b26
@[reducible] def b28 : List Nat := 13 :: b27
@[reducible] def b29 : List Nat := 43 :: b28
@[reducible] def b30 : List Nat := 22 :: b29
@[reducible] def b31 : List Nat := 14 :: b30
@[reducible] def b32 : List Nat := 52 :: b31
@[reducible] def b33 : List Nat := 51 :: b32
@[reducible] def b34 : List Nat := 35 :: b33
@[reducible] def b35 : List Nat := 23 :: b34
@[reducible] def b36 : List Nat := 16 :: b35
@[reducible] def b37 : List Nat := 29 :: b36
@[reducible] def b38 : List Nat := 27 :: b37
@[reducible] def b39 : List Nat := 15 :: b38
@[reducible] def b40 : List Nat := 10 :: b39
@[reducible] def b41 : List Nat := 11 :: b40
@[reducible] def b42 : List Nat := 19 :: b41
@[reducible] def b43 : List Nat := 38 :: b42
@[reducible] def b44 : List Nat := 17 :: b43
@[reducible] def b45 : List Nat := 39 :: b44
@[reducible] def b46 : List Nat := 24 :: b45
@[reducible] def b47 : List Nat := 20 :: b46
@[reducible] def b48 : List Nat := 18 :: b47
@[reducible] def b49 : List Nat := 9 :: b48
@[reducible] def b50 : List Nat := 12 :: b49
@[reducible] def b51 : List Nat := 8 :: b50
def Tb : FuncId → Pred
  | 84 => ⟨fun a => apP [.int, .int, .int] p_Sub32 a, fun a r => apP [.int, .int, .int, .int, .int] q_Sub32 (a ++ r)⟩
  | 89 => ⟨fun a => apP [.int, .int, .int] p_Add32 a, fun a r => apP [.int, .int, .int, .int, .int] q_Add32 (a ++ r)⟩
  | 86 => ⟨fun a => apP [.int] p_Len32 a, fun a r => apP [.int, .int] q_Len32 (a ++ r)⟩
  | 78 => ⟨fun a => apP [.int] p_Lz32 a, fun a r => apP [.int, .int] q_Lz32 (a ++ r)⟩
  | 88 => ⟨fun a => apP [.int, .int, .int] p_Div32 a, fun a r => apP [.int, .int, .int, .int, .int] q_Div32 (a ++ r)⟩
  | 80 => ⟨fun a => apP [.sl] p_Clone32 a, fun a r => apP [.sl, .sl] q_Clone32 (a ++ r)⟩
  | 71 => ⟨fun a => apP [.sl] p_trim a, fun a r => apP [.sl, .sl] q_trim (a ++ r)⟩
  | 70 => ⟨fun a => apP [.sl] p_pack a, fun a r => apP [.sl, .sl] q_pack (a ++ r)⟩
  | 68 => ⟨fun a => apP [.bool, .sl] p_unpack a, fun a r => apP [.bool, .sl, .bool, .sl] q_unpack (a ++ r)⟩
  | 76 => ⟨fun a => apP [.sl] p_long a, fun a r => apP [.sl, .int] q_long (a ++ r)⟩
  | 77 => ⟨fun a => apP [.int] p_short a, fun a r => apP [.int, .sl] q_short (a ++ r)⟩
  | 72 => ⟨fun a => apP [.sl, .sl] p_compare a, fun a r => apP [.sl, .sl, .int] q_compare (a ++ r)⟩
  | 81 => ⟨fun a => apP [.sl, .int] p_divideShort a, fun a r => apP [.sl, .int, .sl, .int] q_divideShort (a ++ r)⟩
  | 82 => ⟨fun a => apP [.sl, .int] p_shifted a, fun a r => apP [.sl, .int, .sl] q_shifted (a ++ r)⟩
  | 74 => ⟨fun a => apP [.sl, .sl] p_divide a, fun a r => apP [.sl, .sl, .sl, .sl] q_divide (a ++ r)⟩
  | 79 => ⟨fun a => apP [.sl, .int, .int] p_head a, fun a r => apP [.sl, .int, .int, .int] q_head (a ++ r)⟩
  | 73 => ⟨fun a => apP [.sl, .sl] p_simulate a, fun a r => apP [.sl, .sl, .int, .int, .int, .int, .bool] q_simulate (a ++ r)⟩
  | 75 => ⟨fun a => apP [.int, .sl, .int, .sl] p_difference a, fun a r => apP [.int, .sl, .int, .sl, .sl] q_difference (a ++ r)⟩
  | 69 => ⟨fun a => apP [.sl, .sl] p_commonDivisor a, fun a r => apP [.sl, .sl, .sl] q_commonDivisor (a ++ r)⟩
  | 49 => ⟨fun a => apP [.sl] p_Clone16 a, fun a r => apP [.sl, .sl] q_Clone16 (a ++ r)⟩
  | 61 => ⟨fun a => apP [.bool, .sl] p_wValid a, fun a r => apP [.bool, .sl, .bool] q_wValid (a ++ r)⟩
  | 67 => ⟨fun a => apP [.sl] p_wAllValid a, fun a r => apP [.sl, .bool] q_wAllValid (a ++ r)⟩
  | 66 => ⟨fun a => apP [.bool, .sl, .bool, .sl] p_wGcd a, fun a r => apP [.bool, .sl, .bool, .sl, .bool, .sl, .int] q_wGcd (a ++ r)⟩
  | 64 => ⟨fun a => apP [.bool, .sl, .bool, .sl] p_fDivisor a, fun a r => apP [.bool, .sl, .bool, .sl, .bool, .sl] q_fDivisor (a ++ r)⟩
  | 44 => ⟨fun a => apP [.bool, .sl, .bool, .sl] p_fValid a, fun a r => apP [.bool, .sl, .bool, .sl, .bool] q_fValid (a ++ r)⟩
  | 50 => ⟨fun a => apP [.sl, .sl] p_kSameLimbs a, fun a r => apP [.sl, .sl, .bool] q_kSameLimbs (a ++ r)⟩
  | 33 => ⟨fun a => apP [.bool, .sl, .bool, .sl] p_kSameWhole a, fun a r => apP [.bool, .sl, .bool, .sl, .bool] q_kSameWhole (a ++ r)⟩
  | 13 => ⟨fun a => apP [.bool, .sl, .bool, .sl, .bool, .sl, .bool, .sl] p_kSameFrac a, fun a r => apP [.bool, .sl, .bool, .sl, .bool, .sl, .bool, .sl, .bool] q_kSameFrac (a ++ r)⟩
  | 43 => ⟨fun a => apP [.int] p_kWhole a, fun a r => apP [.int, .bool, .sl] q_kWhole (a ++ r)⟩
  | 22 => ⟨fun a => apP [.int, .int] p_kFrac a, fun a r => apP [.int, .int, .bool, .sl, .bool, .sl] q_kFrac (a ++ r)⟩
  | 14 => ⟨fun a => apP [.bool, .sl, .bool, .sl] p_kLimbs a, fun a r => apP [.bool, .sl, .bool, .sl, .int] q_kLimbs (a ++ r)⟩
  | 52 => ⟨fun a => apP [.int, .int] p_cmpI a, fun a r => apP [.int, .int, .int] q_cmpI (a ++ r)⟩
  | 51 => ⟨fun a => apP [.sl] p_cmpOr a, fun a r => apP [.sl, .int] q_cmpOr (a ++ r)⟩
  | 35 => ⟨fun a => apP [.int, .int, .int, .bool, .sl, .bool, .sl, .int, .int, .int, .bool, .sl, .bool, .sl] p_tCompare a, fun a r => apP [.int, .int, .int, .bool, .sl, .bool, .sl, .int, .int, .int, .bool, .sl, .bool, .sl, .int] q_tCompare (a ++ r)⟩
  | 23 => ⟨fun a => apP [.bool, .int, .int, .int, .bool, .sl, .bool, .sl] p_Right a, fun a r => apP [.bool, .int, .int, .int, .bool, .sl, .bool, .sl, .bool] q_Right (a ++ r)⟩
  | 16 => ⟨fun a => apP [.str, .bool, .sl] p_tValid a, fun a r => apP [.str, .bool, .sl, .bool] q_tValid (a ++ r)⟩
  | 29 => ⟨fun a => apP [.bool, .sl, .bool, .sl] p_copied a, fun a r => apP [.bool, .sl, .bool, .sl, .bool, .sl, .bool, .sl] q_copied (a ++ r)⟩
  | 27 => ⟨fun a => apP [.str, .bool, .sl, .int] p_forced a, fun a r => apP [.str, .bool, .sl, .int, .sl] q_forced (a ++ r)⟩
  | 15 => ⟨fun a => apP [.str, .bool, .sl, .int] p_View a, fun a r => apP [.str, .bool, .sl, .int, .str, .bool, .sl, .int] q_View (a ++ r)⟩
  | 10 => ⟨fun a => apP [.str, .bool, .sl, .int, .int] p_Look a, fun a r => apP [.str, .bool, .sl, .int, .int, .bool, .sl, .bool, .sl, .int] q_Look (a ++ r)⟩
  | 11 => ⟨fun a => apP [.str, .bool, .sl, .int, .int, .int] p_LookTwo a, fun a r => apP [.str, .bool, .sl, .int, .int, .int, .bool, .sl, .bool, .sl, .int] q_LookTwo (a ++ r)⟩
  | 19 => ⟨fun a => apP [.int, .int, .int, .bool, .sl, .bool, .sl, .int, .int, .int, .bool, .sl, .bool, .sl] p_kSameRow a, fun a r => apP [.int, .int, .int, .bool, .sl, .bool, .sl, .int, .int, .int, .bool, .sl, .bool, .sl, .bool] q_kSameRow (a ++ r)⟩
  | 38 => ⟨fun a => apP [.sl, .sl] p_kSameRows a, fun a r => apP [.sl, .sl, .bool] q_kSameRows (a ++ r)⟩
  | 17 => ⟨fun a => apP [.str, .bool, .sl, .str, .bool, .sl] p_kSameTable a, fun a r => apP [.str, .bool, .sl, .str, .bool, .sl, .bool] q_kSameTable (a ++ r)⟩
  | 39 => ⟨fun a => apP [.int] p_Pool a, fun a r => apP [.int, .int, .bool, .sl, .bool, .sl, .int] q_Pool (a ++ r)⟩
  | 24 => ⟨fun a => apP [.int, .int, .int, .int, .int] p_tRow a, fun a r => apP [.int, .int, .int, .int, .int, .int, .int, .int, .bool, .sl, .bool, .sl] q_tRow (a ++ r)⟩
  | 20 => ⟨fun a => apP [.int, .int, .int, .int, .bool] p_tOf a, fun a r => apP [.int, .int, .int, .int, .bool, .int, .int, .int, .bool, .sl, .bool, .sl] q_tOf (a ++ r)⟩
  | 18 => ⟨fun a => apP [.int, .int, .int, .bool, .sl, .bool, .sl, .int, .int, .int, .bool, .sl, .bool, .sl] p_tLess a, fun a r => apP [.int, .int, .int, .bool, .sl, .bool, .sl, .int, .int, .int, .bool, .sl, .bool, .sl, .bool] q_tLess (a ++ r)⟩
  | 9 => ⟨fun a => apP [.sl, .bool] p_Built a, fun a r => apP [.sl, .bool, .str, .bool, .sl] q_Built (a ++ r)⟩
  | 12 => ⟨fun a => apP [.str, .bool, .sl, .int, .int, .int] p_holds a, fun a r => apP [.str, .bool, .sl, .int, .int, .int, .int] q_holds (a ++ r)⟩
  | 8 => ⟨fun a => apP [] p_awake a, fun a r => apP [.bool] q_awake (a ++ r)⟩
  | 3 => ⟨fun a => apP [.sl, .int, .int, .int] p_TLook a, fun a r => apP [.sl, .int, .int, .int, .bool] q_TLook (a ++ r)⟩
  | 4 => ⟨fun a => apP [.sl, .bool, .int, .int, .int] p_TView a, fun a r => apP [.sl, .bool, .int, .int, .int, .bool] q_TView (a ++ r)⟩
  | _ => ⟨fun _ => True, fun _ _ => True⟩
def sgs : FuncId → Option Sig
  | 84 => some ⟨[.cell (.int .u32) false, .cell (.int .u32) false, .cell (.int .u32) false], [.cell (.int .u32) false, .cell (.int .u32) false]⟩
  | 89 => some ⟨[.cell (.int .u32) false, .cell (.int .u32) false, .cell (.int .u32) false], [.cell (.int .u32) false, .cell (.int .u32) false]⟩
  | 86 => some ⟨[.cell (.int .u32) false], [.cell (.int .i64) false]⟩
  | 78 => some ⟨[.cell (.int .u32) false], [.cell (.int .i64) false]⟩
  | 88 => some ⟨[.cell (.int .u32) false, .cell (.int .u32) false, .cell (.int .u32) false], [.cell (.int .u32) false, .cell (.int .u32) false]⟩
  | 80 => some ⟨[.cell (.sl 110) false], [.cell (.sl 110) true]⟩
  | 71 => some ⟨[.cell (.sl 110) false], [.cell (.sl 110) false]⟩
  | 70 => some ⟨[.cell (.sl 50) false], [.cell (.sl 110) false]⟩
  | 68 => some ⟨[.cell (.bool) false, .cell (.sl 110) false], [.agg [(.bool, false), (.sl 50, false)]]⟩
  | 76 => some ⟨[.cell (.sl 110) false], [.cell (.int .u64) false]⟩
  | 77 => some ⟨[.cell (.int .u64) false], [.cell (.sl 110) false]⟩
  | 72 => some ⟨[.cell (.sl 110) false, .cell (.sl 110) false], [.cell (.int .i64) false]⟩
  | 81 => some ⟨[.cell (.sl 110) false, .cell (.int .u32) false], [.cell (.sl 110) false, .cell (.int .u32) false]⟩
  | 82 => some ⟨[.cell (.sl 110) false, .cell (.int .i64) false], [.cell (.sl 110) true]⟩
  | 74 => some ⟨[.cell (.sl 110) false, .cell (.sl 110) false], [.cell (.sl 110) false, .cell (.sl 110) false]⟩
  | 79 => some ⟨[.cell (.sl 110) false, .cell (.int .i64) false, .cell (.int .i64) false], [.cell (.int .u64) false]⟩
  | 73 => some ⟨[.cell (.sl 110) false, .cell (.sl 110) false], [.agg [(.int .u64, false), (.int .u64, false), (.int .u64, false), (.int .u64, false), (.bool, false)]]⟩
  | 75 => some ⟨[.cell (.int .u64) false, .cell (.sl 110) false, .cell (.int .u64) false, .cell (.sl 110) false], [.cell (.sl 110) false]⟩
  | 69 => some ⟨[.cell (.sl 110) false, .cell (.sl 110) false], [.cell (.sl 110) false]⟩
  | 49 => some ⟨[.cell (.sl 50) false], [.cell (.sl 50) false]⟩
  | 61 => some ⟨[.agg [(.bool, false), (.sl 50, false)]], [.cell (.bool) false]⟩
  | 67 => some ⟨[.cell (.sl 30) false], [.cell (.bool) false]⟩
  | 66 => some ⟨[.agg [(.bool, false), (.sl 50, false)], .agg [(.bool, false), (.sl 50, false)]], [.agg [(.bool, false), (.sl 50, false)], .cell (.int .i64) false]⟩
  | 64 => some ⟨[.agg [(.bool, false), (.sl 50, false)], .agg [(.bool, false), (.sl 50, false)]], [.agg [(.bool, false), (.sl 50, false)]]⟩
  | 44 => some ⟨[.agg [(.bool, false), (.sl 50, false), (.bool, false), (.sl 50, false)]], [.cell (.bool) false]⟩
  | 50 => some ⟨[.cell (.sl 50) false, .cell (.sl 50) false], [.cell (.bool) false]⟩
  | 33 => some ⟨[.agg [(.bool, false), (.sl 50, false)], .agg [(.bool, false), (.sl 50, false)]], [.cell (.bool) false]⟩
  | 13 => some ⟨[.agg [(.bool, false), (.sl 50, false), (.bool, false), (.sl 50, false)], .agg [(.bool, false), (.sl 50, false), (.bool, false), (.sl 50, false)]], [.cell (.bool) false]⟩
  | 43 => some ⟨[.cell (.int .i64) false], [.agg [(.bool, false), (.sl 50, false)]]⟩
  | 22 => some ⟨[.cell (.int .i64) false, .cell (.int .i64) false], [.agg [(.bool, false), (.sl 50, false), (.bool, false), (.sl 50, false)]]⟩
  | 14 => some ⟨[.agg [(.bool, false), (.sl 50, false), (.bool, false), (.sl 50, false)]], [.cell (.int .i64) false]⟩
  | 52 => some ⟨[.cell (.int .i64) false, .cell (.int .i64) false], [.cell (.int .i64) false]⟩
  | 51 => some ⟨[.cell (.sl 3) false], [.cell (.int .i64) false]⟩
  | 35 => some ⟨[.agg [(.int .i64, false), (.int .i64, false), (.int .i64, false), (.bool, false), (.sl 50, false), (.bool, false), (.sl 50, false)], .agg [(.int .i64, false), (.int .i64, false), (.int .i64, false), (.bool, false), (.sl 50, false), (.bool, false), (.sl 50, false)]], [.cell (.int .i64) false]⟩
  | 23 => some ⟨[.cell (.bool) false, .agg [(.int .i64, false), (.int .i64, false), (.int .i64, false), (.bool, false), (.sl 50, false), (.bool, false), (.sl 50, false)]], [.cell (.bool) false]⟩
  | 16 => some ⟨[.agg [(.str, false), (.bool, false), (.sl 40, false)]], [.cell (.bool) false]⟩
  | 29 => some ⟨[.agg [(.bool, false), (.sl 50, false), (.bool, false), (.sl 50, false)]], [.agg [(.bool, false), (.sl 50, false), (.bool, false), (.sl 50, false)]]⟩
  | 27 => some ⟨[.agg [(.str, false), (.bool, false), (.sl 40, false)], .cell (.int .i64) false], [.cell (.sl 40) true]⟩
  | 15 => some ⟨[.agg [(.str, false), (.bool, false), (.sl 40, false)], .cell (.int .i64) false], [.agg [(.str, false), (.bool, false), (.sl 40, false)], .cell (.int .i64) false]⟩
  | 10 => some ⟨[.agg [(.str, false), (.bool, false), (.sl 40, false)], .cell (.int .i64) false, .cell (.int .i64) false], [.agg [(.bool, false), (.sl 50, false), (.bool, false), (.sl 50, false)], .cell (.int .i64) false]⟩
  | 11 => some ⟨[.agg [(.str, false), (.bool, false), (.sl 40, false)], .cell (.int .i64) false, .cell (.int .i64) false, .cell (.int .i64) false], [.agg [(.bool, false), (.sl 50, false), (.bool, false), (.sl 50, false)], .cell (.int .i64) false]⟩
  | 19 => some ⟨[.agg [(.int .i64, false), (.int .i64, false), (.int .i64, false), (.bool, false), (.sl 50, false), (.bool, false), (.sl 50, false)], .agg [(.int .i64, false), (.int .i64, false), (.int .i64, false), (.bool, false), (.sl 50, false), (.bool, false), (.sl 50, false)]], [.cell (.bool) false]⟩
  | 38 => some ⟨[.cell (.sl 40) false, .cell (.sl 40) false], [.cell (.bool) false]⟩
  | 17 => some ⟨[.agg [(.str, false), (.bool, false), (.sl 40, false)], .agg [(.str, false), (.bool, false), (.sl 40, false)]], [.cell (.bool) false]⟩
  | 39 => some ⟨[.cell (.int .u16) false], [.agg [(.int .u8, false), (.bool, false), (.sl 50, false), (.bool, false), (.sl 50, false), (.int .i64, false)]]⟩
  | 24 => some ⟨[.cell (.int .i64) false, .cell (.int .i64) false, .cell (.int .i64) false, .cell (.int .i64) false, .cell (.int .i64) false], [.agg [(.int .i64, false), (.int .i64, false), (.int .i64, false), (.bool, false), (.sl 50, false), (.bool, false), (.sl 50, false)]]⟩
  | 20 => some ⟨[.agg [(.int .u8, false), (.int .u8, false), (.int .u8, false), (.int .u16, false)], .cell (.bool) false], [.agg [(.int .i64, false), (.int .i64, false), (.int .i64, false), (.bool, false), (.sl 50, false), (.bool, false), (.sl 50, false)]]⟩
  | 18 => some ⟨[.agg [(.int .i64, false), (.int .i64, false), (.int .i64, false), (.bool, false), (.sl 50, false), (.bool, false), (.sl 50, false)], .agg [(.int .i64, false), (.int .i64, false), (.int .i64, false), (.bool, false), (.sl 50, false), (.bool, false), (.sl 50, false)]], [.cell (.bool) false]⟩
  | 9 => some ⟨[.cell (.sl 52) false, .cell (.bool) false], [.agg [(.str, false), (.bool, false), (.sl 40, true)]]⟩
  | 12 => some ⟨[.agg [(.str, false), (.bool, false), (.sl 40, false)], .cell (.int .i64) false, .cell (.int .i64) false, .cell (.int .i64) false], [.cell (.int .i64) false]⟩
  | 8 => some ⟨[], [.cell (.bool) false]⟩
  | 3 => some ⟨[.cell (.sl 52) false, .cell (.int .i64) false, .cell (.int .i64) false, .cell (.int .i64) false], [.cell (.bool) false]⟩
  | 4 => some ⟨[.cell (.sl 52) false, .cell (.bool) false, .cell (.int .i64) false, .cell (.int .i64) false, .cell (.int .i64) false], [.cell (.bool) false]⟩
  | _ => none
def havs : Nat → Hav
  | 99999007 => ⟨[(5, .int .i64)], [], []⟩
  | 99999016 => ⟨[(10, .sl 50 false), (11, .sl 50 false), (8, .sl 50 false)], [], []⟩
  | 12003 => ⟨[(9, .int .i64), (15, .int .i64)], [], []⟩
  | _ => ⟨[], [], []⟩
def wrs : FuncId → Bool
  | _ => false
def rgs : FuncId → Bool
  | 11 => false
  | _ => true
def cuts : Nat → Bool := fun n => [74015009, 69003, 69016, 75008, 75010, 99999003, 99999011, 99999009, 99999004, 99999010, 99999012, 99999010, 99999011, 99999506, 99999508, 99999006, 99999008, 99999010, 99999004, 43005, 22006, 9008, 9009, 9006].contains n
noncomputable def cfgAt (l : List Nat) : Cfg := cfgOf Try.prog sgs havs wrs cuts rgs l
end Go.Sx.N
