/-
  The tables of the contracts. Conditions: none; printed by a program of our own.
-/
import Derived.Test.YtjljnieafhdkgaaGreatDoorEngE
import Derived.Test.YtjljnieafhdkgaaGreatDoorProg
import Derived.Test.YtjljnieafhdkgaaGreatDoorNumBase
import Derived.Test.YtjljnieafhdkgaaGreatDoorIdxSpec
namespace Go.Sx.N
open Go.Proofs
@[reducible] def b0 : List Nat := []
@[reducible] def b1 : List Nat := 125 :: b0
@[reducible] def b2 : List Nat := 130 :: b1
@[reducible] def b3 : List Nat := 129 :: b2
@[reducible] def b4 : List Nat := 121 :: b3
@[reducible] def b5 : List Nat := 128 :: b4
@[reducible] def b6 : List Nat := 119 :: b5
@[reducible] def b7 : List Nat := 113 :: b6
@[reducible] def b8 : List Nat := 99 :: b7
@[reducible] def b9 : List Nat := 107 :: b8
@[reducible] def b10 : List Nat := 117 :: b9
@[reducible] def b11 : List Nat := 118 :: b10
@[reducible] def b12 : List Nat := 112 :: b11
@[reducible] def b13 : List Nat := 120 :: b12
@[reducible] def b14 : List Nat := 122 :: b13
@[reducible] def b15 : List Nat := 109 :: b14
@[reducible] def b16 : List Nat := 126 :: b15
@[reducible] def b17 : List Nat := 115 :: b16
@[reducible] def b18 : List Nat := 116 :: b17
@[reducible] def b19 : List Nat := 108 :: b18
@[reducible] def b20 : List Nat := 110 :: b19
@[reducible] def b21 : List Nat := 111 :: b20
@[reducible] def b22 : List Nat := 101 :: b21
@[reducible] def b23 : List Nat := 73 :: b22
@[reducible] def b24 : List Nat := 104 :: b23
@[reducible] def b25 : List Nat := 97 :: b24
@[reducible] def b26 : List Nat := 66 :: b25
@[reducible] def b27 : List Nat := 100 :: b26
@[reducible] def b28 : List Nat := 98 :: b27
@[reducible] def b29 : List Nat := 80 :: b28
@[reducible] def b30 : List Nat := 81 :: b29
@[reducible] def b31 : List Nat := 96 :: b30
@[reducible] def b32 : List Nat := 95 :: b31
@[reducible] def b33 : List Nat := 77 :: b32
@[reducible] def b34 : List Nat := 78 :: b33
@[reducible] def b35 : List Nat := 49 :: b34
@[reducible] def b36 : List Nat := 50 :: b35
@[reducible] def b37 : List Nat := 79 :: b36
@[reducible] def b38 : List Nat := 48 :: b37
@[reducible] def b39 : List Nat := 76 :: b38
@[reducible] def b40 : List Nat := 47 :: b39
@[reducible] def b41 : List Nat := 34 :: b40
@[reducible] def b42 : List Nat := 19 :: b41
@[reducible] def b43 : List Nat := 20 :: b42
@[reducible] def b44 : List Nat := 56 :: b43
@[reducible] def b45 : List Nat := 83 :: b44
@[reducible] def b46 : List Nat := 52 :: b45
@[reducible] def b47 : List Nat := 21 :: b46
@[reducible] def b48 : List Nat := 22 :: b47
@[reducible] def b49 : List Nat := 54 :: b48
@[reducible] def b50 : List Nat := 25 :: b49
@[reducible] def b51 : List Nat := 18 :: b50
@[reducible] def b52 : List Nat := 87 :: b51
@[reducible] def b53 : List Nat := 86 :: b52
@[reducible] def b54 : List Nat := 59 :: b53
@[reducible] def b55 : List Nat := 57 :: b54
@[reducible] def b56 : List Nat := 32 :: b55
@[reducible] def b57 : List Nat := 46 :: b56
@[reducible] def b58 : List Nat := 44 :: b57
@[reducible] def b59 : List Nat := 17 :: b58
@[reducible] def b60 : List Nat := 68 :: b59
@[reducible] def b61 : List Nat := 69 :: b60
@[reducible] def b62 : List Nat := 40 :: b61
@[reducible] def b63 : List Nat := 41 :: b62
@[reducible] def b64 : List Nat := 42 :: b63
@[reducible] def b65 : List Nat := 16 :: b64
@[reducible] def b66 : List Nat := 33 :: b65
@[reducible] def b67 : List Nat := 23 :: b66
@[reducible] def b68 : List Nat := 14 :: b67
@[reducible] def b69 : List Nat := 26 :: b68
@[reducible] def b70 : List Nat := 27 :: b69
@[reducible] def b71 : List Nat := 24 :: b70
@[reducible] def b72 : List Nat := 91 :: b71
@[reducible] def b73 : List Nat := 90 :: b72
@[reducible] def b74 : List Nat := 62 :: b73
@[reducible] def b75 : List Nat := 30 :: b74
@[reducible] def b76 : List Nat := 28 :: b75
@[reducible] def b77 : List Nat := 31 :: b76
@[reducible] def b78 : List Nat := 15 :: b77
@[reducible] def b79 : List Nat := 11 :: b78
@[reducible] def b80 : List Nat := 10 :: b79
@[reducible] def b81 : List Nat := 12 :: b80
@[reducible] def b82 : List Nat := 13 :: b81
def Tb : FuncId → Pred
  | 125 => ⟨fun a => apP [.int, .int, .int] p_Sub32 a, fun a r => apP [.int, .int, .int, .int, .int] q_Sub32 (a ++ r)⟩
  | 130 => ⟨fun a => apP [.int, .int, .int] p_Add32 a, fun a r => apP [.int, .int, .int, .int, .int] q_Add32 (a ++ r)⟩
  | 129 => ⟨fun a => apP [.int] p_Len32 a, fun a r => apP [.int, .int] q_Len32 (a ++ r)⟩
  | 121 => ⟨fun a => apP [.int] p_Lz32 a, fun a r => apP [.int, .int] q_Lz32 (a ++ r)⟩
  | 128 => ⟨fun a => apP [.int, .int, .int] p_Div32 a, fun a r => apP [.int, .int, .int, .int, .int] q_Div32 (a ++ r)⟩
  | 119 => ⟨fun a => apP [.sl] p_Clone32 a, fun a r => apP [.sl, .sl] q_Clone32 (a ++ r)⟩
  | 113 => ⟨fun a => apP [.sl] p_trim a, fun a r => apP [.sl, .sl] q_trim (a ++ r)⟩
  | 99 => ⟨fun a => apP [.sl] p_pack a, fun a r => apP [.sl, .sl] q_pack (a ++ r)⟩
  | 107 => ⟨fun a => apP [.bool, .sl] p_unpack a, fun a r => apP [.bool, .sl, .bool, .sl] q_unpack (a ++ r)⟩
  | 117 => ⟨fun a => apP [.sl] p_long a, fun a r => apP [.sl, .int] q_long (a ++ r)⟩
  | 118 => ⟨fun a => apP [.int] p_short a, fun a r => apP [.int, .sl] q_short (a ++ r)⟩
  | 112 => ⟨fun a => apP [.sl, .sl] p_compare a, fun a r => apP [.sl, .sl, .int] q_compare (a ++ r)⟩
  | 120 => ⟨fun a => apP [.sl, .int] p_divideShort a, fun a r => apP [.sl, .int, .sl, .int] q_divideShort (a ++ r)⟩
  | 122 => ⟨fun a => apP [.sl, .int] p_shifted a, fun a r => apP [.sl, .int, .sl] q_shifted (a ++ r)⟩
  | 109 => ⟨fun a => apP [.sl, .sl] p_divide a, fun a r => apP [.sl, .sl, .sl, .sl] q_divide (a ++ r)⟩
  | 126 => ⟨fun a => apP [.sl, .int, .int] p_head a, fun a r => apP [.sl, .int, .int, .int] q_head (a ++ r)⟩
  | 115 => ⟨fun a => apP [.sl, .sl] p_simulate a, fun a r => apP [.sl, .sl, .int, .int, .int, .int, .bool] q_simulate (a ++ r)⟩
  | 116 => ⟨fun a => apP [.int, .sl, .int, .sl] p_difference a, fun a r => apP [.int, .sl, .int, .sl, .sl] q_difference (a ++ r)⟩
  | 108 => ⟨fun a => apP [.sl, .sl] p_commonDivisor a, fun a r => apP [.sl, .sl, .sl] q_commonDivisor (a ++ r)⟩
  | 110 => ⟨fun a => apP [.sl, .sl] p_plus a, fun a r => apP [.sl, .sl, .sl] q_plus (a ++ r)⟩
  | 111 => ⟨fun a => apP [.sl, .sl] p_minus a, fun a r => apP [.sl, .sl, .sl] q_minus (a ++ r)⟩
  | 101 => ⟨fun a => apP [.sl, .sl] p_times a, fun a r => apP [.sl, .sl, .sl] q_times (a ++ r)⟩
  | 73 => ⟨fun a => apP [.sl] p_Clone16 a, fun a r => apP [.sl, .sl] q_Clone16 (a ++ r)⟩
  | 104 => ⟨fun a => apP [.bool, .sl] p_wValid a, fun a r => apP [.bool, .sl, .bool] q_wValid (a ++ r)⟩
  | 97 => ⟨fun a => apP [.sl] p_wAllValid a, fun a r => apP [.sl, .bool] q_wAllValid (a ++ r)⟩
  | 66 => ⟨fun a => apP [.int] p_wFromInt a, fun a r => apP [.int, .bool, .sl] q_wFromInt (a ++ r)⟩
  | 100 => ⟨fun a => apP [.bool, .sl] p_result a, fun a r => apP [.bool, .sl, .bool, .sl, .int] q_result (a ++ r)⟩
  | 98 => ⟨fun a => apP [.bool, .sl, .bool, .sl] p_sum a, fun a r => apP [.bool, .sl, .bool, .sl, .bool, .sl, .int] q_sum (a ++ r)⟩
  | 80 => ⟨fun a => apP [.bool, .sl, .bool, .sl] p_wAdd a, fun a r => apP [.bool, .sl, .bool, .sl, .bool, .sl, .int] q_wAdd (a ++ r)⟩
  | 81 => ⟨fun a => apP [.bool, .sl, .bool, .sl] p_wMul a, fun a r => apP [.bool, .sl, .bool, .sl, .bool, .sl, .int] q_wMul (a ++ r)⟩
  | 96 => ⟨fun a => apP [.bool, .sl, .bool, .sl] p_wDivMod a, fun a r => apP [.bool, .sl, .bool, .sl, .bool, .sl, .bool, .sl, .int] q_wDivMod (a ++ r)⟩
  | 95 => ⟨fun a => apP [.bool, .sl, .bool, .sl] p_wGcd a, fun a r => apP [.bool, .sl, .bool, .sl, .bool, .sl, .int] q_wGcd (a ++ r)⟩
  | 77 => ⟨fun a => apP [.bool, .sl] p_opposite a, fun a r => apP [.bool, .sl, .bool, .sl] q_opposite (a ++ r)⟩
  | 78 => ⟨fun a => apP [.bool, .sl, .bool, .sl] p_fDivisor a, fun a r => apP [.bool, .sl, .bool, .sl, .bool, .sl] q_fDivisor (a ++ r)⟩
  | 49 => ⟨fun a => apP [.bool, .sl, .bool, .sl] p_fPlus a, fun a r => apP [.bool, .sl, .bool, .sl, .bool, .sl] q_fPlus (a ++ r)⟩
  | 50 => ⟨fun a => apP [.bool, .sl, .bool, .sl] p_fTimes a, fun a r => apP [.bool, .sl, .bool, .sl, .bool, .sl] q_fTimes (a ++ r)⟩
  | 79 => ⟨fun a => apP [.bool, .sl, .bool, .sl] p_fDivide a, fun a r => apP [.bool, .sl, .bool, .sl, .bool, .sl, .bool, .sl] q_fDivide (a ++ r)⟩
  | 48 => ⟨fun a => apP [.bool, .sl, .bool, .sl] p_lowest a, fun a r => apP [.bool, .sl, .bool, .sl, .bool, .sl, .bool, .sl] q_lowest (a ++ r)⟩
  | 76 => ⟨fun a => apP [.bool, .sl, .bool, .sl] p_fValid a, fun a r => apP [.bool, .sl, .bool, .sl, .bool] q_fValid (a ++ r)⟩
  | 47 => ⟨fun a => apP [.sl] p_fAllValid a, fun a r => apP [.sl, .bool] q_fAllValid (a ++ r)⟩
  | 34 => ⟨fun a => apP [.int] p_fFromInt a, fun a r => apP [.int, .bool, .sl, .bool, .sl] q_fFromInt (a ++ r)⟩
  | 19 => ⟨fun a => apP [.bool, .sl, .bool, .sl, .bool, .sl, .bool, .sl] p_fAdd a, fun a r => apP [.bool, .sl, .bool, .sl, .bool, .sl, .bool, .sl, .bool, .sl, .bool, .sl, .int] q_fAdd (a ++ r)⟩
  | 20 => ⟨fun a => apP [.bool, .sl, .bool, .sl, .bool, .sl, .bool, .sl] p_fMul a, fun a r => apP [.bool, .sl, .bool, .sl, .bool, .sl, .bool, .sl, .bool, .sl, .bool, .sl, .int] q_fMul (a ++ r)⟩
  | 56 => ⟨fun a => apP [.bool, .sl, .bool, .sl, .bool, .sl, .bool, .sl] p_fDiv a, fun a r => apP [.bool, .sl, .bool, .sl, .bool, .sl, .bool, .sl, .bool, .sl, .bool, .sl, .int] q_fDiv (a ++ r)⟩
  | 83 => ⟨fun a => apP [.sl, .sl] p_kSameLimbs a, fun a r => apP [.sl, .sl, .bool] q_kSameLimbs (a ++ r)⟩
  | 52 => ⟨fun a => apP [.bool, .sl, .bool, .sl] p_kSameWhole a, fun a r => apP [.bool, .sl, .bool, .sl, .bool] q_kSameWhole (a ++ r)⟩
  | 21 => ⟨fun a => apP [.bool, .sl, .bool, .sl, .bool, .sl, .bool, .sl] p_kSameFrac a, fun a r => apP [.bool, .sl, .bool, .sl, .bool, .sl, .bool, .sl, .bool] q_kSameFrac (a ++ r)⟩
  | 22 => ⟨fun a => apP [.int, .int] p_kPick a, fun a r => apP [.int, .int, .int] q_kPick (a ++ r)⟩
  | 54 => ⟨fun a => apP [.int] p_kWhole a, fun a r => apP [.int, .bool, .sl] q_kWhole (a ++ r)⟩
  | 25 => ⟨fun a => apP [.int, .int] p_kFrac a, fun a r => apP [.int, .int, .bool, .sl, .bool, .sl] q_kFrac (a ++ r)⟩
  | 18 => ⟨fun a => apP [.bool, .sl, .bool, .sl] p_kLimbs a, fun a r => apP [.bool, .sl, .bool, .sl, .int] q_kLimbs (a ++ r)⟩
  | 87 => ⟨fun a => apP [.int, .int] p_cmpI a, fun a r => apP [.int, .int, .int] q_cmpI (a ++ r)⟩
  | 86 => ⟨fun a => apP [.sl] p_cmpOr a, fun a r => apP [.sl, .int] q_cmpOr (a ++ r)⟩
  | 59 => ⟨fun a => apP [.int, .int, .int, .bool, .sl, .bool, .sl, .int, .int, .int, .bool, .sl, .bool, .sl] p_tCompare a, fun a r => apP [.int, .int, .int, .bool, .sl, .bool, .sl, .int, .int, .int, .bool, .sl, .bool, .sl, .int] q_tCompare (a ++ r)⟩
  | 57 => ⟨fun a => apP [.bool, .int, .int, .int, .bool, .sl, .bool, .sl] p_Right a, fun a r => apP [.bool, .int, .int, .int, .bool, .sl, .bool, .sl, .bool] q_Right (a ++ r)⟩
  | 32 => ⟨fun a => apP [.str, .bool, .sl] p_tValid a, fun a r => apP [.str, .bool, .sl, .bool] q_tValid (a ++ r)⟩
  | 46 => ⟨fun a => apP [.bool, .sl, .bool, .sl] p_copied a, fun a r => apP [.bool, .sl, .bool, .sl, .bool, .sl, .bool, .sl] q_copied (a ++ r)⟩
  | 44 => ⟨fun a => apP [.str, .bool, .sl, .int] p_forced a, fun a r => apP [.str, .bool, .sl, .int, .sl] q_forced (a ++ r)⟩
  | 17 => ⟨fun a => apP [.str, .bool, .sl, .int, .int] p_Look a, fun a r => apP [.str, .bool, .sl, .int, .int, .bool, .sl, .bool, .sl, .int] q_Look (a ++ r)⟩
  | 68 => ⟨fun a => apP [.int] p_cLeap a, fun a r => apP [.int, .bool] q_cLeap (a ++ r)⟩
  | 69 => ⟨fun a => apP [.int] p_cLeaps a, fun a r => apP [.int, .int] q_cLeaps (a ++ r)⟩
  | 40 => ⟨fun a => apP [.int, .int] p_cLen a, fun a r => apP [.int, .int, .int] q_cLen (a ++ r)⟩
  | 41 => ⟨fun a => apP [.int] p_cStart a, fun a r => apP [.int, .int] q_cStart (a ++ r)⟩
  | 42 => ⟨fun a => apP [.int] p_cIsDate a, fun a r => apP [.int, .bool] q_cIsDate (a ++ r)⟩
  | 16 => ⟨fun a => apP [.int, .int, .int] p_cDay a, fun a r => apP [.int, .int, .int, .int, .int] q_cDay (a ++ r)⟩
  | 33 => ⟨fun a => apP [.int, .int] p_isSpan a, fun a r => apP [.int, .int, .bool] q_isSpan (a ++ r)⟩
  | 23 => ⟨fun a => apP [.int, .int] p_xYears a, fun a r => apP [.int, .int, .sl, .int] q_xYears (a ++ r)⟩
  | 14 => ⟨fun a => apP [.str, .bool, .sl, .int, .int, .int] p_xGrow a, fun a r => apP [.str, .bool, .sl, .int, .int, .int, .bool, .sl, .bool, .sl, .int] q_xGrow (a ++ r)⟩
  | 26 => ⟨fun a => apP [.bool, .sl, .bool, .sl, .str, .bool, .sl, .int, .int, .int] p_xRaise a, fun a r => apP [.bool, .sl, .bool, .sl, .str, .bool, .sl, .int, .int, .int, .bool, .sl, .bool, .sl, .int] q_xRaise (a ++ r)⟩
  | 27 => ⟨fun a => apP [.bool, .sl, .bool, .sl, .str, .bool, .sl, .int, .int, .int] p_xLower a, fun a r => apP [.bool, .sl, .bool, .sl, .str, .bool, .sl, .int, .int, .int, .bool, .sl, .bool, .sl, .int] q_xLower (a ++ r)⟩
  | 24 => ⟨fun a => apP [.sl, .sl] p_kSameInts a, fun a r => apP [.sl, .sl, .bool] q_kSameInts (a ++ r)⟩
  | 91 => ⟨fun a => apP [.int] p_rLeap3 a, fun a r => apP [.int, .bool] q_rLeap3 (a ++ r)⟩
  | 90 => ⟨fun a => apP [.int, .int] p_rLen3 a, fun a r => apP [.int, .int, .int] q_rLen3 (a ++ r)⟩
  | 62 => ⟨fun a => apP [.int, .int, .int] p_rDay a, fun a r => apP [.int, .int, .int, .int, .int] q_rDay (a ++ r)⟩
  | 30 => ⟨fun a => apP [.int, .int] p_rYears a, fun a r => apP [.int, .int, .sl, .int] q_rYears (a ++ r)⟩
  | 28 => ⟨fun a => apP [.int, .int, .int, .int] p_iRow a, fun a r => apP [.int, .int, .int, .int, .int, .int, .int, .bool, .sl, .bool, .sl] q_iRow (a ++ r)⟩
  | 31 => ⟨fun a => apP [] p_cpi a, fun a r => apP [.str, .bool, .sl] q_cpi (a ++ r)⟩
  | 15 => ⟨fun a => apP [] p_iOne a, fun a r => apP [.bool, .sl, .bool, .sl] q_iOne (a ++ r)⟩
  | 11 => ⟨fun a => apP [] p_xAwake a, fun a r => apP [.bool] q_xAwake (a ++ r)⟩
  | 10 => ⟨fun a => apP [.int, .int] p_yearsL a, fun a r => apP [.int, .int, .bool] q_yearsL (a ++ r)⟩
  | 12 => ⟨fun a => apP [.sl] p_iBuilt a, fun a r => apP [.sl, .str, .bool, .sl] q_iBuilt (a ++ r)⟩
  | 13 => ⟨fun a => apP [.int, .int] p_asked a, fun a r => apP [.int, .int, .int, .int] q_asked (a ++ r)⟩
  | 3 => ⟨fun a => apP [.int, .int] p_WYears a, fun a r => apP [.int, .int, .bool] q_WYears (a ++ r)⟩
  | 4 => ⟨fun a => apP [.sl, .int, .int, .int] p_WGrowth a, fun a r => apP [.sl, .int, .int, .int, .bool] q_WGrowth (a ++ r)⟩
  | 5 => ⟨fun a => apP [.sl, .int, .int, .int, .int] p_WAdds a, fun a r => apP [.sl, .int, .int, .int, .int, .bool] q_WAdds (a ++ r)⟩
  | 6 => ⟨fun a => apP [.sl, .int, .int, .int] p_WOnly a, fun a r => apP [.sl, .int, .int, .int, .bool] q_WOnly (a ++ r)⟩
  | 7 => ⟨fun a => apP [.sl, .int, .int, .int, .int] p_WBack a, fun a r => apP [.sl, .int, .int, .int, .int, .bool] q_WBack (a ++ r)⟩
  | 8 => ⟨fun a => apP [.sl, .int, .int, .int] p_WWrong a, fun a r => apP [.sl, .int, .int, .int, .bool] q_WWrong (a ++ r)⟩
  | _ => ⟨fun _ => True, fun _ _ => True⟩
def sgs : FuncId → Option Sig
  | 125 => some ⟨[.cell (.int .u32) false, .cell (.int .u32) false, .cell (.int .u32) false], [.cell (.int .u32) false, .cell (.int .u32) false]⟩
  | 130 => some ⟨[.cell (.int .u32) false, .cell (.int .u32) false, .cell (.int .u32) false], [.cell (.int .u32) false, .cell (.int .u32) false]⟩
  | 129 => some ⟨[.cell (.int .u32) false], [.cell (.int .i64) false]⟩
  | 121 => some ⟨[.cell (.int .u32) false], [.cell (.int .i64) false]⟩
  | 128 => some ⟨[.cell (.int .u32) false, .cell (.int .u32) false, .cell (.int .u32) false], [.cell (.int .u32) false, .cell (.int .u32) false]⟩
  | 119 => some ⟨[.cell (.sl 133) false], [.cell (.sl 133) true]⟩
  | 113 => some ⟨[.cell (.sl 133) false], [.cell (.sl 133) false]⟩
  | 99 => some ⟨[.cell (.sl 52) false], [.cell (.sl 133) false]⟩
  | 107 => some ⟨[.cell (.bool) false, .cell (.sl 133) false], [.agg [(.bool, false), (.sl 52, false)]]⟩
  | 117 => some ⟨[.cell (.sl 133) false], [.cell (.int .u64) false]⟩
  | 118 => some ⟨[.cell (.int .u64) false], [.cell (.sl 133) false]⟩
  | 112 => some ⟨[.cell (.sl 133) false, .cell (.sl 133) false], [.cell (.int .i64) false]⟩
  | 120 => some ⟨[.cell (.sl 133) false, .cell (.int .u32) false], [.cell (.sl 133) false, .cell (.int .u32) false]⟩
  | 122 => some ⟨[.cell (.sl 133) false, .cell (.int .i64) false], [.cell (.sl 133) true]⟩
  | 109 => some ⟨[.cell (.sl 133) false, .cell (.sl 133) false], [.cell (.sl 133) false, .cell (.sl 133) false]⟩
  | 126 => some ⟨[.cell (.sl 133) false, .cell (.int .i64) false, .cell (.int .i64) false], [.cell (.int .u64) false]⟩
  | 115 => some ⟨[.cell (.sl 133) false, .cell (.sl 133) false], [.agg [(.int .u64, false), (.int .u64, false), (.int .u64, false), (.int .u64, false), (.bool, false)]]⟩
  | 116 => some ⟨[.cell (.int .u64) false, .cell (.sl 133) false, .cell (.int .u64) false, .cell (.sl 133) false], [.cell (.sl 133) false]⟩
  | 108 => some ⟨[.cell (.sl 133) false, .cell (.sl 133) false], [.cell (.sl 133) false]⟩
  | 110 => some ⟨[.cell (.sl 133) false, .cell (.sl 133) false], [.cell (.sl 133) false]⟩
  | 111 => some ⟨[.cell (.sl 133) false, .cell (.sl 133) false], [.cell (.sl 133) false]⟩
  | 101 => some ⟨[.cell (.sl 133) false, .cell (.sl 133) false], [.cell (.sl 133) false]⟩
  | 73 => some ⟨[.cell (.sl 52) false], [.cell (.sl 52) false]⟩
  | 104 => some ⟨[.agg [(.bool, false), (.sl 52, false)]], [.cell (.bool) false]⟩
  | 97 => some ⟨[.cell (.sl 32) false], [.cell (.bool) false]⟩
  | 66 => some ⟨[.cell (.int .i64) false], [.agg [(.bool, false), (.sl 52, false)]]⟩
  | 100 => some ⟨[.cell (.bool) false, .cell (.sl 133) false], [.agg [(.bool, false), (.sl 52, false)], .cell (.int .i64) false]⟩
  | 98 => some ⟨[.cell (.bool) false, .cell (.sl 133) false, .cell (.bool) false, .cell (.sl 133) false], [.agg [(.bool, false), (.sl 52, false)], .cell (.int .i64) false]⟩
  | 80 => some ⟨[.agg [(.bool, false), (.sl 52, false)], .agg [(.bool, false), (.sl 52, false)]], [.agg [(.bool, false), (.sl 52, false)], .cell (.int .i64) false]⟩
  | 81 => some ⟨[.agg [(.bool, false), (.sl 52, false)], .agg [(.bool, false), (.sl 52, false)]], [.agg [(.bool, false), (.sl 52, false)], .cell (.int .i64) false]⟩
  | 96 => some ⟨[.agg [(.bool, false), (.sl 52, false)], .agg [(.bool, false), (.sl 52, false)]], [.agg [(.bool, false), (.sl 52, false)], .agg [(.bool, false), (.sl 52, false)], .cell (.int .i64) false]⟩
  | 95 => some ⟨[.agg [(.bool, false), (.sl 52, false)], .agg [(.bool, false), (.sl 52, false)]], [.agg [(.bool, false), (.sl 52, false)], .cell (.int .i64) false]⟩
  | 77 => some ⟨[.agg [(.bool, false), (.sl 52, false)]], [.agg [(.bool, false), (.sl 52, false)]]⟩
  | 78 => some ⟨[.agg [(.bool, false), (.sl 52, false)], .agg [(.bool, false), (.sl 52, false)]], [.agg [(.bool, false), (.sl 52, false)]]⟩
  | 49 => some ⟨[.agg [(.bool, false), (.sl 52, false)], .agg [(.bool, false), (.sl 52, false)]], [.agg [(.bool, false), (.sl 52, false)]]⟩
  | 50 => some ⟨[.agg [(.bool, false), (.sl 52, false)], .agg [(.bool, false), (.sl 52, false)]], [.agg [(.bool, false), (.sl 52, false)]]⟩
  | 79 => some ⟨[.agg [(.bool, false), (.sl 52, false)], .agg [(.bool, false), (.sl 52, false)]], [.agg [(.bool, false), (.sl 52, false)], .agg [(.bool, false), (.sl 52, false)]]⟩
  | 48 => some ⟨[.agg [(.bool, false), (.sl 52, false)], .agg [(.bool, false), (.sl 52, false)]], [.agg [(.bool, false), (.sl 52, false), (.bool, false), (.sl 52, false)]]⟩
  | 76 => some ⟨[.agg [(.bool, false), (.sl 52, false), (.bool, false), (.sl 52, false)]], [.cell (.bool) false]⟩
  | 47 => some ⟨[.cell (.sl 34) false], [.cell (.bool) false]⟩
  | 34 => some ⟨[.cell (.int .i64) false], [.agg [(.bool, false), (.sl 52, false), (.bool, false), (.sl 52, false)]]⟩
  | 19 => some ⟨[.agg [(.bool, false), (.sl 52, false), (.bool, false), (.sl 52, false)], .agg [(.bool, false), (.sl 52, false), (.bool, false), (.sl 52, false)]], [.agg [(.bool, false), (.sl 52, false), (.bool, false), (.sl 52, false)], .cell (.int .i64) false]⟩
  | 20 => some ⟨[.agg [(.bool, false), (.sl 52, false), (.bool, false), (.sl 52, false)], .agg [(.bool, false), (.sl 52, false), (.bool, false), (.sl 52, false)]], [.agg [(.bool, false), (.sl 52, false), (.bool, false), (.sl 52, false)], .cell (.int .i64) false]⟩
  | 56 => some ⟨[.agg [(.bool, false), (.sl 52, false), (.bool, false), (.sl 52, false)], .agg [(.bool, false), (.sl 52, false), (.bool, false), (.sl 52, false)]], [.agg [(.bool, false), (.sl 52, false), (.bool, false), (.sl 52, false)], .cell (.int .i64) false]⟩
  | 83 => some ⟨[.cell (.sl 52) false, .cell (.sl 52) false], [.cell (.bool) false]⟩
  | 52 => some ⟨[.agg [(.bool, false), (.sl 52, false)], .agg [(.bool, false), (.sl 52, false)]], [.cell (.bool) false]⟩
  | 21 => some ⟨[.agg [(.bool, false), (.sl 52, false), (.bool, false), (.sl 52, false)], .agg [(.bool, false), (.sl 52, false), (.bool, false), (.sl 52, false)]], [.cell (.bool) false]⟩
  | 22 => some ⟨[.cell (.int .i64) false, .cell (.int .i64) false], [.cell (.int .i64) false]⟩
  | 54 => some ⟨[.cell (.int .i64) false], [.agg [(.bool, false), (.sl 52, false)]]⟩
  | 25 => some ⟨[.cell (.int .i64) false, .cell (.int .i64) false], [.agg [(.bool, false), (.sl 52, false), (.bool, false), (.sl 52, false)]]⟩
  | 18 => some ⟨[.agg [(.bool, false), (.sl 52, false), (.bool, false), (.sl 52, false)]], [.cell (.int .i64) false]⟩
  | 87 => some ⟨[.cell (.int .i64) false, .cell (.int .i64) false], [.cell (.int .i64) false]⟩
  | 86 => some ⟨[.cell (.sl 3) false], [.cell (.int .i64) false]⟩
  | 59 => some ⟨[.agg [(.int .i64, false), (.int .i64, false), (.int .i64, false), (.bool, false), (.sl 52, false), (.bool, false), (.sl 52, false)], .agg [(.int .i64, false), (.int .i64, false), (.int .i64, false), (.bool, false), (.sl 52, false), (.bool, false), (.sl 52, false)]], [.cell (.int .i64) false]⟩
  | 57 => some ⟨[.cell (.bool) false, .agg [(.int .i64, false), (.int .i64, false), (.int .i64, false), (.bool, false), (.sl 52, false), (.bool, false), (.sl 52, false)]], [.cell (.bool) false]⟩
  | 32 => some ⟨[.agg [(.str, false), (.bool, false), (.sl 56, false)]], [.cell (.bool) false]⟩
  | 46 => some ⟨[.agg [(.bool, false), (.sl 52, false), (.bool, false), (.sl 52, false)]], [.agg [(.bool, false), (.sl 52, false), (.bool, false), (.sl 52, false)]]⟩
  | 44 => some ⟨[.agg [(.str, false), (.bool, false), (.sl 56, false)], .cell (.int .i64) false], [.cell (.sl 56) true]⟩
  | 17 => some ⟨[.agg [(.str, false), (.bool, false), (.sl 56, false)], .cell (.int .i64) false, .cell (.int .i64) false], [.agg [(.bool, false), (.sl 52, false), (.bool, false), (.sl 52, false)], .cell (.int .i64) false]⟩
  | 68 => some ⟨[.cell (.int .i64) false], [.cell (.bool) false]⟩
  | 69 => some ⟨[.cell (.int .i64) false], [.cell (.int .i64) false]⟩
  | 40 => some ⟨[.cell (.int .i64) false, .cell (.int .i64) false], [.cell (.int .i64) false]⟩
  | 41 => some ⟨[.cell (.int .i64) false], [.cell (.int .i64) false]⟩
  | 42 => some ⟨[.cell (.int .i64) false], [.cell (.bool) false]⟩
  | 16 => some ⟨[.cell (.int .i64) false, .cell (.int .i64) false, .cell (.int .i64) false], [.cell (.int .i64) false, .cell (.int .i64) false]⟩
  | 33 => some ⟨[.cell (.int .i64) false, .cell (.int .i64) false], [.cell (.bool) false]⟩
  | 23 => some ⟨[.cell (.int .i64) false, .cell (.int .i64) false], [.cell (.sl 3) true, .cell (.int .i64) false]⟩
  | 14 => some ⟨[.agg [(.str, false), (.bool, false), (.sl 56, false)], .cell (.int .i64) false, .cell (.int .i64) false, .cell (.int .i64) false], [.agg [(.bool, false), (.sl 52, false), (.bool, false), (.sl 52, false)], .cell (.int .i64) false]⟩
  | 26 => some ⟨[.agg [(.bool, false), (.sl 52, false), (.bool, false), (.sl 52, false)], .agg [(.str, false), (.bool, false), (.sl 56, false)], .cell (.int .i64) false, .cell (.int .i64) false, .cell (.int .i64) false], [.agg [(.bool, false), (.sl 52, false), (.bool, false), (.sl 52, false)], .cell (.int .i64) false]⟩
  | 27 => some ⟨[.agg [(.bool, false), (.sl 52, false), (.bool, false), (.sl 52, false)], .agg [(.str, false), (.bool, false), (.sl 56, false)], .cell (.int .i64) false, .cell (.int .i64) false, .cell (.int .i64) false], [.agg [(.bool, false), (.sl 52, false), (.bool, false), (.sl 52, false)], .cell (.int .i64) false]⟩
  | 24 => some ⟨[.cell (.sl 3) false, .cell (.sl 3) false], [.cell (.bool) false]⟩
  | 91 => some ⟨[.cell (.int .i64) false], [.cell (.bool) false]⟩
  | 90 => some ⟨[.cell (.int .i64) false, .cell (.int .i64) false], [.cell (.int .i64) false]⟩
  | 62 => some ⟨[.cell (.int .i64) false, .cell (.int .i64) false, .cell (.int .i64) false], [.cell (.int .i64) false, .cell (.int .i64) false]⟩
  | 30 => some ⟨[.cell (.int .i64) false, .cell (.int .i64) false], [.cell (.sl 3) true, .cell (.int .i64) false]⟩
  | 28 => some ⟨[.cell (.int .i64) false, .cell (.int .i64) false, .cell (.int .i64) false, .cell (.int .i64) false], [.agg [(.int .i64, false), (.int .i64, false), (.int .i64, false), (.bool, false), (.sl 52, false), (.bool, false), (.sl 52, false)]]⟩
  | 31 => some ⟨[], [.agg [(.str, false), (.bool, false), (.sl 56, false)]]⟩
  | 15 => some ⟨[], [.agg [(.bool, false), (.sl 52, false), (.bool, false), (.sl 52, false)]]⟩
  | 11 => some ⟨[], [.cell (.bool) false]⟩
  | 10 => some ⟨[.cell (.int .i64) false, .cell (.int .i64) false], [.cell (.bool) false]⟩
  | 12 => some ⟨[.cell (.sl 52) false], [.agg [(.str, false), (.bool, false), (.sl 56, true)]]⟩
  | 13 => some ⟨[.cell (.int .i64) false, .cell (.int .i64) false], [.cell (.int .i64) false, .cell (.int .i64) false]⟩
  | 3 => some ⟨[.cell (.int .i64) false, .cell (.int .i64) false], [.cell (.bool) false]⟩
  | 4 => some ⟨[.cell (.sl 52) false, .cell (.int .i64) false, .cell (.int .i64) false, .cell (.int .i64) false], [.cell (.bool) false]⟩
  | 5 => some ⟨[.cell (.sl 52) false, .cell (.int .i64) false, .cell (.int .i64) false, .cell (.int .i64) false, .cell (.int .i64) false], [.cell (.bool) false]⟩
  | 6 => some ⟨[.cell (.sl 52) false, .cell (.int .i64) false, .cell (.int .i64) false, .cell (.int .i64) false], [.cell (.bool) false]⟩
  | 7 => some ⟨[.cell (.sl 52) false, .cell (.int .i64) false, .cell (.int .i64) false, .cell (.int .i64) false, .cell (.int .u16) false], [.cell (.bool) false]⟩
  | 8 => some ⟨[.cell (.sl 52) false, .cell (.int .i64) false, .cell (.int .i64) false, .cell (.int .u8) false], [.cell (.bool) false]⟩
  | _ => none
def havs : Nat → Hav
  | 66007 => ⟨[(5, .int .i64)], [], []⟩
  | 99999016 => ⟨[(10, .sl 52 false), (11, .sl 52 false), (8, .sl 52 false)], [], []⟩
  | _ => ⟨[], [], []⟩
def wrs : FuncId → Bool
  | _ => false
def rgs : FuncId → Bool
  | _ => true
def cuts : Nat → Bool := fun n => [109015009, 108003, 108016, 116008, 116010, 110003, 110011, 111009, 66004, 66010, 66012, 99999010, 99999011, 99999506, 99999508, 99999006, 99999008, 99999010, 99999004, 54005, 25006, 12009, 12010, 12012].contains n
noncomputable def cfgAt (l : List Nat) : Cfg := cfgOf Tryz.prog sgs havs wrs cuts rgs l
end Go.Sx.N
