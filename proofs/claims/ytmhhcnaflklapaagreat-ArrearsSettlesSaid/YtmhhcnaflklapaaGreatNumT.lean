/-
  The tables of the contracts. Conditions: none; printed by a program of our own.
-/
import Derived.Test.YtmhhcnaflklapaaGreatEngE
import Derived.Test.YtmhhcnaflklapaaGreatProg
import Derived.Test.YtmhhcnaflklapaaGreatNumBase
import Derived.Test.YtmhhcnaflklapaaGreatArrSpec
namespace Go.Sx.N
open Go.Proofs
@[reducible] def b0 : List Nat := []
@[reducible] def b1 : List Nat := 190 :: b0
@[reducible] def b2 : List Nat := 195 :: b1
@[reducible] def b3 : List Nat := 194 :: b2
@[reducible] def b4 : List Nat := 186 :: b3
@[reducible] def b5 : List Nat := 193 :: b4
@[reducible] def b6 : List Nat := 184 :: b5
@[reducible] def b7 : List Nat := 178 :: b6
@[reducible] def b8 : List Nat := 160 :: b7
@[reducible] def b9 : List Nat := 173 :: b8
@[reducible] def b10 : List Nat := 182 :: b9
@[reducible] def b11 : List Nat := 183 :: b10
@[reducible] def b12 : List Nat := 161 :: b11
@[reducible] def b13 : List Nat := 185 :: b12
@[reducible] def b14 : List Nat := 187 :: b13
@[reducible] def b15 : List Nat := 175 :: b14
@[reducible] def b16 : List Nat := 191 :: b15
@[reducible] def b17 : List Nat := 180 :: b16
@[reducible] def b18 : List Nat := 181 :: b17
@[reducible] def b19 : List Nat := 174 :: b18
@[reducible] def b20 : List Nat := 176 :: b19
@[reducible] def b21 : List Nat := 177 :: b20
@[reducible] def b22 : List Nat := 159 :: b21
@[reducible] def b23 : List Nat := 125 :: b22
@[reducible] def b24 : List Nat := 147 :: b23
@[reducible] def b25 : List Nat := 157 :: b24
@[reducible] def b26 : List Nat := 100 :: b25
@[reducible] def b27 : List Nat := 139 :: b26
@[reducible] def b28 : List Nat := 158 :: b27
@[reducible] def b29 : List Nat := 172 :: b28
@[reducible] def b30 : List Nat := 153 :: b29
@[reducible] def b31 : List Nat := 133 :: b30
@[reducible] def b32 : List Nat := 156 :: b31
@[reducible] def b33 : List Nat := 155 :: b32
@[reducible] def b34 : List Nat := 136 :: b33
@[reducible] def b35 : List Nat := 130 :: b34
@[reducible] def b36 : List Nat := 131 :: b35
@[reducible] def b37 : List Nat := 127 :: b36
@[reducible] def b38 : List Nat := 106 :: b37
@[reducible] def b39 : List Nat := 132 :: b38
@[reducible] def b40 : List Nat := 105 :: b39
@[reducible] def b41 : List Nat := 99 :: b40
@[reducible] def b42 : List Nat := 104 :: b41
@[reducible] def b43 : List Nat := 64 :: b42
@[reducible] def b44 : List Nat := 102 :: b43
@[reducible] def b45 : List Nat := 67 :: b44
@[reducible] def b46 : List Nat := 68 :: b45
@[reducible] def b47 : List Nat := 110 :: b46
@[reducible] def b48 : List Nat := 111 :: b47
@[reducible] def b49 : List Nat := 109 :: b48
@[reducible] def b50 : List Nat := 71 :: b49
@[reducible] def b51 : List Nat := 38 :: b50
@[reducible] def b52 : List Nat := 97 :: b51
@[reducible] def b53 : List Nat := 96 :: b52
@[reducible] def b54 : List Nat := 60 :: b53
@[reducible] def b55 : List Nat := 63 :: b54
@[reducible] def b56 : List Nat := 33 :: b55
@[reducible] def b57 : List Nat := 152 :: b56
@[reducible] def b58 : List Nat := 150 :: b57
@[reducible] def b59 : List Nat := 126 :: b58
@[reducible] def b60 : List Nat := 57 :: b59
@[reducible] def b61 : List Nat := 41 :: b60
@[reducible] def b62 : List Nat := 15 :: b61
@[reducible] def b63 : List Nat := 58 :: b62
@[reducible] def b64 : List Nat := 32 :: b63
@[reducible] def b65 : List Nat := 31 :: b64
@[reducible] def b66 : List Nat := 25 :: b65
@[reducible] def b67 : List Nat := 92 :: b66
@[reducible] def b68 : List Nat := 52 :: b67
@[reducible] def b69 : List Nat := 103 :: b68
@[reducible] def b70 : List Nat := 69 :: b69
@[reducible] def b71 : List Nat := 70 :: b70
@[reducible] def b72 : List Nat := 10 :: b71
@[reducible] def b73 : List Nat := 22 :: b72
@[reducible] def b74 : List Nat := 23 :: b73
@[reducible] def b75 : List Nat := 16 :: b74
@[reducible] def b76 : List Nat := 21 :: b75
@[reducible] def b77 : List Nat := 13 :: b76
@[reducible] def b78 : List Nat := 11 :: b77
@[reducible] def b79 : List Nat := 36 :: b78
@[reducible] def b80 : List Nat := 37 :: b79
@[reducible] def b81 : List Nat := 24 :: b80
@[reducible] def b82 : List Nat := 18 :: b81
@[reducible] def b83 : List Nat := 14 :: b82
@[reducible] def b84 : List Nat := 12 :: b83
def Tb : FuncId → Pred
  | 190 => ⟨fun a => apP [.int, .int, .int] p_Sub32 a, fun a r => apP [.int, .int, .int, .int, .int] q_Sub32 (a ++ r)⟩
  | 195 => ⟨fun a => apP [.int, .int, .int] p_Add32 a, fun a r => apP [.int, .int, .int, .int, .int] q_Add32 (a ++ r)⟩
  | 194 => ⟨fun a => apP [.int] p_Len32 a, fun a r => apP [.int, .int] q_Len32 (a ++ r)⟩
  | 186 => ⟨fun a => apP [.int] p_Lz32 a, fun a r => apP [.int, .int] q_Lz32 (a ++ r)⟩
  | 193 => ⟨fun a => apP [.int, .int, .int] p_Div32 a, fun a r => apP [.int, .int, .int, .int, .int] q_Div32 (a ++ r)⟩
  | 184 => ⟨fun a => apP [.sl] p_Clone32 a, fun a r => apP [.sl, .sl] q_Clone32 (a ++ r)⟩
  | 178 => ⟨fun a => apP [.sl] p_trim a, fun a r => apP [.sl, .sl] q_trim (a ++ r)⟩
  | 160 => ⟨fun a => apP [.sl] p_pack a, fun a r => apP [.sl, .sl] q_pack (a ++ r)⟩
  | 173 => ⟨fun a => apP [.bool, .sl] p_unpack a, fun a r => apP [.bool, .sl, .bool, .sl] q_unpack (a ++ r)⟩
  | 182 => ⟨fun a => apP [.sl] p_long a, fun a r => apP [.sl, .int] q_long (a ++ r)⟩
  | 183 => ⟨fun a => apP [.int] p_short a, fun a r => apP [.int, .sl] q_short (a ++ r)⟩
  | 161 => ⟨fun a => apP [.sl, .sl] p_compare a, fun a r => apP [.sl, .sl, .int] q_compare (a ++ r)⟩
  | 185 => ⟨fun a => apP [.sl, .int] p_divideShort a, fun a r => apP [.sl, .int, .sl, .int] q_divideShort (a ++ r)⟩
  | 187 => ⟨fun a => apP [.sl, .int] p_shifted a, fun a r => apP [.sl, .int, .sl] q_shifted (a ++ r)⟩
  | 175 => ⟨fun a => apP [.sl, .sl] p_divide a, fun a r => apP [.sl, .sl, .sl, .sl] q_divide (a ++ r)⟩
  | 191 => ⟨fun a => apP [.sl, .int, .int] p_head a, fun a r => apP [.sl, .int, .int, .int] q_head (a ++ r)⟩
  | 180 => ⟨fun a => apP [.sl, .sl] p_simulate a, fun a r => apP [.sl, .sl, .int, .int, .int, .int, .bool] q_simulate (a ++ r)⟩
  | 181 => ⟨fun a => apP [.int, .sl, .int, .sl] p_difference a, fun a r => apP [.int, .sl, .int, .sl, .sl] q_difference (a ++ r)⟩
  | 174 => ⟨fun a => apP [.sl, .sl] p_commonDivisor a, fun a r => apP [.sl, .sl, .sl] q_commonDivisor (a ++ r)⟩
  | 176 => ⟨fun a => apP [.sl, .sl] p_plus a, fun a r => apP [.sl, .sl, .sl] q_plus (a ++ r)⟩
  | 177 => ⟨fun a => apP [.sl, .sl] p_minus a, fun a r => apP [.sl, .sl, .sl] q_minus (a ++ r)⟩
  | 159 => ⟨fun a => apP [.sl, .sl] p_times a, fun a r => apP [.sl, .sl, .sl] q_times (a ++ r)⟩
  | 125 => ⟨fun a => apP [.sl] p_Clone16 a, fun a r => apP [.sl, .sl] q_Clone16 (a ++ r)⟩
  | 147 => ⟨fun a => apP [.bool, .sl] p_wValid a, fun a r => apP [.bool, .sl, .bool] q_wValid (a ++ r)⟩
  | 157 => ⟨fun a => apP [.sl] p_wAllValid a, fun a r => apP [.sl, .bool] q_wAllValid (a ++ r)⟩
  | 100 => ⟨fun a => apP [.int] p_wFromInt a, fun a r => apP [.int, .bool, .sl] q_wFromInt (a ++ r)⟩
  | 139 => ⟨fun a => apP [.bool, .sl] p_wInt a, fun a r => apP [.bool, .sl, .int, .int] q_wInt (a ++ r)⟩
  | 158 => ⟨fun a => apP [.bool, .sl] p_result a, fun a r => apP [.bool, .sl, .bool, .sl, .int] q_result (a ++ r)⟩
  | 172 => ⟨fun a => apP [.bool, .sl, .bool, .sl] p_sum a, fun a r => apP [.bool, .sl, .bool, .sl, .bool, .sl, .int] q_sum (a ++ r)⟩
  | 153 => ⟨fun a => apP [.bool, .sl, .bool, .sl] p_wAdd a, fun a r => apP [.bool, .sl, .bool, .sl, .bool, .sl, .int] q_wAdd (a ++ r)⟩
  | 133 => ⟨fun a => apP [.bool, .sl, .bool, .sl] p_wMul a, fun a r => apP [.bool, .sl, .bool, .sl, .bool, .sl, .int] q_wMul (a ++ r)⟩
  | 156 => ⟨fun a => apP [.bool, .sl, .bool, .sl] p_wDivMod a, fun a r => apP [.bool, .sl, .bool, .sl, .bool, .sl, .bool, .sl, .int] q_wDivMod (a ++ r)⟩
  | 155 => ⟨fun a => apP [.bool, .sl, .bool, .sl] p_wGcd a, fun a r => apP [.bool, .sl, .bool, .sl, .bool, .sl, .int] q_wGcd (a ++ r)⟩
  | 136 => ⟨fun a => apP [.bool, .sl, .bool, .sl] p_wCmp a, fun a r => apP [.bool, .sl, .bool, .sl, .int] q_wCmp (a ++ r)⟩
  | 130 => ⟨fun a => apP [.bool, .sl] p_opposite a, fun a r => apP [.bool, .sl, .bool, .sl] q_opposite (a ++ r)⟩
  | 131 => ⟨fun a => apP [.bool, .sl, .bool, .sl] p_fDivisor a, fun a r => apP [.bool, .sl, .bool, .sl, .bool, .sl] q_fDivisor (a ++ r)⟩
  | 127 => ⟨fun a => apP [.bool, .sl, .bool, .sl] p_fPlus a, fun a r => apP [.bool, .sl, .bool, .sl, .bool, .sl] q_fPlus (a ++ r)⟩
  | 106 => ⟨fun a => apP [.bool, .sl, .bool, .sl] p_fTimes a, fun a r => apP [.bool, .sl, .bool, .sl, .bool, .sl] q_fTimes (a ++ r)⟩
  | 132 => ⟨fun a => apP [.bool, .sl, .bool, .sl] p_fDivide a, fun a r => apP [.bool, .sl, .bool, .sl, .bool, .sl, .bool, .sl] q_fDivide (a ++ r)⟩
  | 105 => ⟨fun a => apP [.bool, .sl, .bool, .sl] p_lowest a, fun a r => apP [.bool, .sl, .bool, .sl, .bool, .sl, .bool, .sl] q_lowest (a ++ r)⟩
  | 99 => ⟨fun a => apP [.bool, .sl, .bool, .sl] p_fValid a, fun a r => apP [.bool, .sl, .bool, .sl, .bool] q_fValid (a ++ r)⟩
  | 104 => ⟨fun a => apP [.sl] p_fAllValid a, fun a r => apP [.sl, .bool] q_fAllValid (a ++ r)⟩
  | 64 => ⟨fun a => apP [.int] p_fFromInt a, fun a r => apP [.int, .bool, .sl, .bool, .sl] q_fFromInt (a ++ r)⟩
  | 102 => ⟨fun a => apP [.bool, .sl, .bool, .sl, .bool, .sl, .bool, .sl] p_fAdd a, fun a r => apP [.bool, .sl, .bool, .sl, .bool, .sl, .bool, .sl, .bool, .sl, .bool, .sl, .int] q_fAdd (a ++ r)⟩
  | 67 => ⟨fun a => apP [.bool, .sl, .bool, .sl, .bool, .sl, .bool, .sl] p_fMul a, fun a r => apP [.bool, .sl, .bool, .sl, .bool, .sl, .bool, .sl, .bool, .sl, .bool, .sl, .int] q_fMul (a ++ r)⟩
  | 68 => ⟨fun a => apP [.bool, .sl, .bool, .sl, .bool, .sl, .bool, .sl] p_fDiv a, fun a r => apP [.bool, .sl, .bool, .sl, .bool, .sl, .bool, .sl, .bool, .sl, .bool, .sl, .int] q_fDiv (a ++ r)⟩
  | 110 => ⟨fun a => apP [.bool, .sl, .bool, .sl, .bool, .sl, .bool, .sl] p_fCmp a, fun a r => apP [.bool, .sl, .bool, .sl, .bool, .sl, .bool, .sl, .int] q_fCmp (a ++ r)⟩
  | 111 => ⟨fun a => apP [.bool, .sl, .bool, .sl] p_fInt a, fun a r => apP [.bool, .sl, .bool, .sl, .int, .int] q_fInt (a ++ r)⟩
  | 109 => ⟨fun a => apP [.bool, .sl, .bool, .sl, .bool, .sl, .bool, .sl, .int] p_fRound a, fun a r => apP [.bool, .sl, .bool, .sl, .bool, .sl, .bool, .sl, .int, .bool, .sl, .bool, .sl, .int] q_fRound (a ++ r)⟩
  | 71 => ⟨fun a => apP [.int] p_kWhole a, fun a r => apP [.int, .bool, .sl] q_kWhole (a ++ r)⟩
  | 38 => ⟨fun a => apP [.int, .int] p_kFrac a, fun a r => apP [.int, .int, .bool, .sl, .bool, .sl] q_kFrac (a ++ r)⟩
  | 97 => ⟨fun a => apP [.int, .int] p_cmpI a, fun a r => apP [.int, .int, .int] q_cmpI (a ++ r)⟩
  | 96 => ⟨fun a => apP [.sl] p_cmpOr a, fun a r => apP [.sl, .int] q_cmpOr (a ++ r)⟩
  | 60 => ⟨fun a => apP [.int, .int, .int, .bool, .sl, .bool, .sl, .int, .int, .int, .bool, .sl, .bool, .sl] p_tCompare a, fun a r => apP [.int, .int, .int, .bool, .sl, .bool, .sl, .int, .int, .int, .bool, .sl, .bool, .sl, .int] q_tCompare (a ++ r)⟩
  | 63 => ⟨fun a => apP [.bool, .int, .int, .int, .bool, .sl, .bool, .sl] p_Right a, fun a r => apP [.bool, .int, .int, .int, .bool, .sl, .bool, .sl, .bool] q_Right (a ++ r)⟩
  | 33 => ⟨fun a => apP [.str, .bool, .sl] p_tValid a, fun a r => apP [.str, .bool, .sl, .bool] q_tValid (a ++ r)⟩
  | 152 => ⟨fun a => apP [.bool, .sl, .bool, .sl] p_copied a, fun a r => apP [.bool, .sl, .bool, .sl, .bool, .sl, .bool, .sl] q_copied (a ++ r)⟩
  | 150 => ⟨fun a => apP [.str, .bool, .sl, .int] p_forced a, fun a r => apP [.str, .bool, .sl, .int, .sl] q_forced (a ++ r)⟩
  | 126 => ⟨fun a => apP [.str, .bool, .sl, .int, .int] p_Look a, fun a r => apP [.str, .bool, .sl, .int, .int, .bool, .sl, .bool, .sl, .int] q_Look (a ++ r)⟩
  | 57 => ⟨fun a => apP [.int, .sl, .sl, .int] p_has a, fun a r => apP [.int, .sl, .sl, .int, .bool] q_has (a ++ r)⟩
  | 41 => ⟨fun a => apP [.int, .sl, .sl, .sl, .int] p_follow a, fun a r => apP [.int, .sl, .sl, .sl, .int, .bool] q_follow (a ++ r)⟩
  | 15 => ⟨fun a => apP [.int, .sl, .sl] p_Valid a, fun a r => apP [.int, .sl, .sl, .bool] q_Valid (a ++ r)⟩
  | 58 => ⟨fun a => apP [.int, .sl, .sl, .int] p_posted a, fun a r => apP [.int, .sl, .sl, .int, .int] q_posted (a ++ r)⟩
  | 32 => ⟨fun a => apP [.int, .sl, .sl, .int] p_Open a, fun a r => apP [.int, .sl, .sl, .int, .int, .int] q_Open (a ++ r)⟩
  | 31 => ⟨fun a => apP [.int, .sl, .sl, .int] p_Total a, fun a r => apP [.int, .sl, .sl, .int, .int, .int] q_Total (a ++ r)⟩
  | 25 => ⟨fun a => apP [.int, .sl, .sl, .int, .sl, .sl] p_Same a, fun a r => apP [.int, .sl, .sl, .int, .sl, .sl, .bool] q_Same (a ++ r)⟩
  | 92 => ⟨fun a => apP [.sl] p_Concat a, fun a r => apP [.sl, .sl] q_Concat (a ++ r)⟩
  | 52 => ⟨fun a => apP [.int, .sl, .sl, .sl] p_Post a, fun a r => apP [.int, .sl, .sl, .sl, .int, .sl, .sl, .int] q_Post (a ++ r)⟩
  | 103 => ⟨fun a => apP [.bool, .sl, .bool, .sl] p_aShort a, fun a r => apP [.bool, .sl, .bool, .sl, .bool] q_aShort (a ++ r)⟩
  | 69 => ⟨fun a => apP [.sl] p_aFirst a, fun a r => apP [.sl, .int] q_aFirst (a ++ r)⟩
  | 70 => ⟨fun a => apP [.bool, .sl, .bool, .sl] p_aAmount a, fun a r => apP [.bool, .sl, .bool, .sl, .int, .int] q_aAmount (a ++ r)⟩
  | 10 => ⟨fun a => apP [.int, .int, .int, .str, .bool, .sl, .int] p_Interest a, fun a r => apP [.int, .int, .int, .str, .bool, .sl, .int, .int, .int] q_Interest (a ++ r)⟩
  | 22 => ⟨fun a => apP [.int, .sl, .sl, .int] p_Late a, fun a r => apP [.int, .sl, .sl, .int, .sl, .int] q_Late (a ++ r)⟩
  | 23 => ⟨fun a => apP [.int, .sl, .sl, .int] p_Owed a, fun a r => apP [.int, .sl, .sl, .int, .int, .int] q_Owed (a ++ r)⟩
  | 16 => ⟨fun a => apP [.int, .sl, .sl, .int, .int, .str, .bool, .sl, .int] p_Owe a, fun a r => apP [.int, .sl, .sl, .int, .int, .str, .bool, .sl, .int, .sl, .int] q_Owe (a ++ r)⟩
  | 21 => ⟨fun a => apP [.int, .sl, .sl, .int, .int, .str, .bool, .sl, .int] p_Settle a, fun a r => apP [.int, .sl, .sl, .int, .int, .str, .bool, .sl, .int, .int, .sl, .sl, .int] q_Settle (a ++ r)⟩
  | 13 => ⟨fun a => apP [.int, .int] p_part a, fun a r => apP [.int, .int, .bool, .sl, .bool, .sl] q_part (a ++ r)⟩
  | 11 => ⟨fun a => apP [.sl] p_rates a, fun a r => apP [.sl, .str, .bool, .sl] q_rates (a ++ r)⟩
  | 36 => ⟨fun a => apP [] p_yearly a, fun a r => apP [.str, .bool, .sl] q_yearly (a ++ r)⟩
  | 37 => ⟨fun a => apP [] p_lPosted a, fun a r => apP [.int, .sl, .sl] q_lPosted (a ++ r)⟩
  | 24 => ⟨fun a => apP [.sl, .sl] p_paids a, fun a r => apP [.sl, .sl, .bool] q_paids (a ++ r)⟩
  | 18 => ⟨fun a => apP [.int, .int] p_near a, fun a r => apP [.int, .int, .bool] q_near (a ++ r)⟩
  | 14 => ⟨fun a => apP [.int, .sl, .sl, .int] p_few a, fun a r => apP [.int, .sl, .sl, .int, .bool] q_few (a ++ r)⟩
  | 12 => ⟨fun a => apP [] p_aAwake a, fun a r => apP [.bool] q_aAwake (a ++ r)⟩
  | 9 => ⟨fun a => apP [.int, .sl, .sl, .int, .int, .sl] p_Settles a, fun a r => apP [.int, .sl, .sl, .int, .int, .sl, .bool] q_Settles (a ++ r)⟩
  | _ => ⟨fun _ => True, fun _ _ => True⟩
def sgs : FuncId → Option Sig
  | 190 => some ⟨[.cell (.int .u32) false, .cell (.int .u32) false, .cell (.int .u32) false], [.cell (.int .u32) false, .cell (.int .u32) false]⟩
  | 195 => some ⟨[.cell (.int .u32) false, .cell (.int .u32) false, .cell (.int .u32) false], [.cell (.int .u32) false, .cell (.int .u32) false]⟩
  | 194 => some ⟨[.cell (.int .u32) false], [.cell (.int .i64) false]⟩
  | 186 => some ⟨[.cell (.int .u32) false], [.cell (.int .i64) false]⟩
  | 193 => some ⟨[.cell (.int .u32) false, .cell (.int .u32) false, .cell (.int .u32) false], [.cell (.int .u32) false, .cell (.int .u32) false]⟩
  | 184 => some ⟨[.cell (.sl 22) false], [.cell (.sl 22) true]⟩
  | 178 => some ⟨[.cell (.sl 22) false], [.cell (.sl 22) false]⟩
  | 160 => some ⟨[.cell (.sl 33) false], [.cell (.sl 22) false]⟩
  | 173 => some ⟨[.cell (.bool) false, .cell (.sl 22) false], [.agg [(.bool, false), (.sl 33, false)]]⟩
  | 182 => some ⟨[.cell (.sl 22) false], [.cell (.int .u64) false]⟩
  | 183 => some ⟨[.cell (.int .u64) false], [.cell (.sl 22) false]⟩
  | 161 => some ⟨[.cell (.sl 22) false, .cell (.sl 22) false], [.cell (.int .i64) false]⟩
  | 185 => some ⟨[.cell (.sl 22) false, .cell (.int .u32) false], [.cell (.sl 22) false, .cell (.int .u32) false]⟩
  | 187 => some ⟨[.cell (.sl 22) false, .cell (.int .i64) false], [.cell (.sl 22) true]⟩
  | 175 => some ⟨[.cell (.sl 22) false, .cell (.sl 22) false], [.cell (.sl 22) false, .cell (.sl 22) false]⟩
  | 191 => some ⟨[.cell (.sl 22) false, .cell (.int .i64) false, .cell (.int .i64) false], [.cell (.int .u64) false]⟩
  | 180 => some ⟨[.cell (.sl 22) false, .cell (.sl 22) false], [.agg [(.int .u64, false), (.int .u64, false), (.int .u64, false), (.int .u64, false), (.bool, false)]]⟩
  | 181 => some ⟨[.cell (.int .u64) false, .cell (.sl 22) false, .cell (.int .u64) false, .cell (.sl 22) false], [.cell (.sl 22) false]⟩
  | 174 => some ⟨[.cell (.sl 22) false, .cell (.sl 22) false], [.cell (.sl 22) false]⟩
  | 176 => some ⟨[.cell (.sl 22) false, .cell (.sl 22) false], [.cell (.sl 22) false]⟩
  | 177 => some ⟨[.cell (.sl 22) false, .cell (.sl 22) false], [.cell (.sl 22) false]⟩
  | 159 => some ⟨[.cell (.sl 22) false, .cell (.sl 22) false], [.cell (.sl 22) false]⟩
  | 125 => some ⟨[.cell (.sl 33) false], [.cell (.sl 33) false]⟩
  | 147 => some ⟨[.agg [(.bool, false), (.sl 33, false)]], [.cell (.bool) false]⟩
  | 157 => some ⟨[.cell (.sl 36) false], [.cell (.bool) false]⟩
  | 100 => some ⟨[.cell (.int .i64) false], [.agg [(.bool, false), (.sl 33, false)]]⟩
  | 139 => some ⟨[.agg [(.bool, false), (.sl 33, false)]], [.cell (.int .i64) false, .cell (.int .i64) false]⟩
  | 158 => some ⟨[.cell (.bool) false, .cell (.sl 22) false], [.agg [(.bool, false), (.sl 33, false)], .cell (.int .i64) false]⟩
  | 172 => some ⟨[.cell (.bool) false, .cell (.sl 22) false, .cell (.bool) false, .cell (.sl 22) false], [.agg [(.bool, false), (.sl 33, false)], .cell (.int .i64) false]⟩
  | 153 => some ⟨[.agg [(.bool, false), (.sl 33, false)], .agg [(.bool, false), (.sl 33, false)]], [.agg [(.bool, false), (.sl 33, false)], .cell (.int .i64) false]⟩
  | 133 => some ⟨[.agg [(.bool, false), (.sl 33, false)], .agg [(.bool, false), (.sl 33, false)]], [.agg [(.bool, false), (.sl 33, false)], .cell (.int .i64) false]⟩
  | 156 => some ⟨[.agg [(.bool, false), (.sl 33, false)], .agg [(.bool, false), (.sl 33, false)]], [.agg [(.bool, false), (.sl 33, false)], .agg [(.bool, false), (.sl 33, false)], .cell (.int .i64) false]⟩
  | 155 => some ⟨[.agg [(.bool, false), (.sl 33, false)], .agg [(.bool, false), (.sl 33, false)]], [.agg [(.bool, false), (.sl 33, false)], .cell (.int .i64) false]⟩
  | 136 => some ⟨[.agg [(.bool, false), (.sl 33, false)], .agg [(.bool, false), (.sl 33, false)]], [.cell (.int .i64) false]⟩
  | 130 => some ⟨[.agg [(.bool, false), (.sl 33, false)]], [.agg [(.bool, false), (.sl 33, false)]]⟩
  | 131 => some ⟨[.agg [(.bool, false), (.sl 33, false)], .agg [(.bool, false), (.sl 33, false)]], [.agg [(.bool, false), (.sl 33, false)]]⟩
  | 127 => some ⟨[.agg [(.bool, false), (.sl 33, false)], .agg [(.bool, false), (.sl 33, false)]], [.agg [(.bool, false), (.sl 33, false)]]⟩
  | 106 => some ⟨[.agg [(.bool, false), (.sl 33, false)], .agg [(.bool, false), (.sl 33, false)]], [.agg [(.bool, false), (.sl 33, false)]]⟩
  | 132 => some ⟨[.agg [(.bool, false), (.sl 33, false)], .agg [(.bool, false), (.sl 33, false)]], [.agg [(.bool, false), (.sl 33, false)], .agg [(.bool, false), (.sl 33, false)]]⟩
  | 105 => some ⟨[.agg [(.bool, false), (.sl 33, false)], .agg [(.bool, false), (.sl 33, false)]], [.agg [(.bool, false), (.sl 33, false), (.bool, false), (.sl 33, false)]]⟩
  | 99 => some ⟨[.agg [(.bool, false), (.sl 33, false), (.bool, false), (.sl 33, false)]], [.cell (.bool) false]⟩
  | 104 => some ⟨[.cell (.sl 38) false], [.cell (.bool) false]⟩
  | 64 => some ⟨[.cell (.int .i64) false], [.agg [(.bool, false), (.sl 33, false), (.bool, false), (.sl 33, false)]]⟩
  | 102 => some ⟨[.agg [(.bool, false), (.sl 33, false), (.bool, false), (.sl 33, false)], .agg [(.bool, false), (.sl 33, false), (.bool, false), (.sl 33, false)]], [.agg [(.bool, false), (.sl 33, false), (.bool, false), (.sl 33, false)], .cell (.int .i64) false]⟩
  | 67 => some ⟨[.agg [(.bool, false), (.sl 33, false), (.bool, false), (.sl 33, false)], .agg [(.bool, false), (.sl 33, false), (.bool, false), (.sl 33, false)]], [.agg [(.bool, false), (.sl 33, false), (.bool, false), (.sl 33, false)], .cell (.int .i64) false]⟩
  | 68 => some ⟨[.agg [(.bool, false), (.sl 33, false), (.bool, false), (.sl 33, false)], .agg [(.bool, false), (.sl 33, false), (.bool, false), (.sl 33, false)]], [.agg [(.bool, false), (.sl 33, false), (.bool, false), (.sl 33, false)], .cell (.int .i64) false]⟩
  | 110 => some ⟨[.agg [(.bool, false), (.sl 33, false), (.bool, false), (.sl 33, false)], .agg [(.bool, false), (.sl 33, false), (.bool, false), (.sl 33, false)]], [.cell (.int .i64) false]⟩
  | 111 => some ⟨[.agg [(.bool, false), (.sl 33, false), (.bool, false), (.sl 33, false)]], [.cell (.int .i64) false, .cell (.int .i64) false]⟩
  | 109 => some ⟨[.agg [(.bool, false), (.sl 33, false), (.bool, false), (.sl 33, false)], .agg [(.bool, false), (.sl 33, false), (.bool, false), (.sl 33, false)], .cell (.int .u8) false], [.agg [(.bool, false), (.sl 33, false), (.bool, false), (.sl 33, false)], .cell (.int .i64) false]⟩
  | 71 => some ⟨[.cell (.int .i64) false], [.agg [(.bool, false), (.sl 33, false)]]⟩
  | 38 => some ⟨[.cell (.int .i64) false, .cell (.int .i64) false], [.agg [(.bool, false), (.sl 33, false), (.bool, false), (.sl 33, false)]]⟩
  | 97 => some ⟨[.cell (.int .i64) false, .cell (.int .i64) false], [.cell (.int .i64) false]⟩
  | 96 => some ⟨[.cell (.sl 3) false], [.cell (.int .i64) false]⟩
  | 60 => some ⟨[.agg [(.int .i64, false), (.int .i64, false), (.int .i64, false), (.bool, false), (.sl 33, false), (.bool, false), (.sl 33, false)], .agg [(.int .i64, false), (.int .i64, false), (.int .i64, false), (.bool, false), (.sl 33, false), (.bool, false), (.sl 33, false)]], [.cell (.int .i64) false]⟩
  | 63 => some ⟨[.cell (.bool) false, .agg [(.int .i64, false), (.int .i64, false), (.int .i64, false), (.bool, false), (.sl 33, false), (.bool, false), (.sl 33, false)]], [.cell (.bool) false]⟩
  | 33 => some ⟨[.agg [(.str, false), (.bool, false), (.sl 41, false)]], [.cell (.bool) false]⟩
  | 152 => some ⟨[.agg [(.bool, false), (.sl 33, false), (.bool, false), (.sl 33, false)]], [.agg [(.bool, false), (.sl 33, false), (.bool, false), (.sl 33, false)]]⟩
  | 150 => some ⟨[.agg [(.str, false), (.bool, false), (.sl 41, false)], .cell (.int .i64) false], [.cell (.sl 41) true]⟩
  | 126 => some ⟨[.agg [(.str, false), (.bool, false), (.sl 41, false)], .cell (.int .i64) false, .cell (.int .i64) false], [.agg [(.bool, false), (.sl 33, false), (.bool, false), (.sl 33, false)], .cell (.int .i64) false]⟩
  | 57 => some ⟨[.agg [(.int .i64, false), (.sl 3, false), (.sl 84, false)], .cell (.int .i64) false], [.cell (.bool) false]⟩
  | 41 => some ⟨[.agg [(.int .i64, false), (.sl 3, false), (.sl 84, false)], .cell (.sl 84) false, .cell (.int .i64) false], [.cell (.bool) false]⟩
  | 15 => some ⟨[.agg [(.int .i64, false), (.sl 3, false), (.sl 84, false)]], [.cell (.bool) false]⟩
  | 58 => some ⟨[.agg [(.int .i64, false), (.sl 3, false), (.sl 84, false)], .cell (.int .i64) false], [.cell (.int .i64) false]⟩
  | 32 => some ⟨[.agg [(.int .i64, false), (.sl 3, false), (.sl 84, false)], .cell (.int .i64) false], [.cell (.int .i64) false, .cell (.int .i64) false]⟩
  | 31 => some ⟨[.agg [(.int .i64, false), (.sl 3, false), (.sl 84, false)], .cell (.int .u8) false], [.cell (.int .i64) false, .cell (.int .i64) false]⟩
  | 25 => some ⟨[.agg [(.int .i64, false), (.sl 3, false), (.sl 84, false)], .agg [(.int .i64, false), (.sl 3, false), (.sl 84, false)]], [.cell (.bool) false]⟩
  | 92 => some ⟨[.cell (.sl 45) false], [.cell (.sl 84) true]⟩
  | 52 => some ⟨[.agg [(.int .i64, false), (.sl 3, false), (.sl 84, false)], .cell (.sl 84) false], [.agg [(.int .i64, false), (.sl 3, true), (.sl 84, true)], .cell (.int .i64) false]⟩
  | 103 => some ⟨[.agg [(.bool, false), (.sl 33, false), (.bool, false), (.sl 33, false)]], [.cell (.bool) false]⟩
  | 69 => some ⟨[.cell (.sl 24) false], [.cell (.int .i64) false]⟩
  | 70 => some ⟨[.agg [(.bool, false), (.sl 33, false), (.bool, false), (.sl 33, false)]], [.cell (.int .i64) false, .cell (.int .i64) false]⟩
  | 10 => some ⟨[.cell (.int .i64) false, .cell (.int .i64) false, .cell (.int .i64) false, .agg [(.str, false), (.bool, false), (.sl 41, false)], .cell (.int .i64) false], [.cell (.int .i64) false, .cell (.int .i64) false]⟩
  | 22 => some ⟨[.agg [(.int .i64, false), (.sl 3, false), (.sl 84, false)], .cell (.int .i64) false], [.cell (.sl 3) true, .cell (.int .i64) false]⟩
  | 23 => some ⟨[.agg [(.int .i64, false), (.sl 3, false), (.sl 84, false)], .cell (.int .i64) false], [.cell (.int .i64) false, .cell (.int .i64) false]⟩
  | 16 => some ⟨[.agg [(.int .i64, false), (.sl 3, false), (.sl 84, false)], .cell (.int .i64) false, .cell (.int .i64) false, .agg [(.str, false), (.bool, false), (.sl 41, false)], .cell (.int .i64) false], [.cell (.sl 84) true, .cell (.int .i64) false]⟩
  | 21 => some ⟨[.agg [(.int .i64, false), (.sl 3, false), (.sl 84, false)], .cell (.int .i64) false, .cell (.int .i64) false, .agg [(.str, false), (.bool, false), (.sl 41, false)], .cell (.int .i64) false], [.agg [(.int .i64, false), (.sl 3, true), (.sl 84, true)], .cell (.int .i64) false]⟩
  | 13 => some ⟨[.cell (.int .i64) false, .cell (.int .i64) false], [.agg [(.bool, false), (.sl 33, false), (.bool, false), (.sl 33, false)]]⟩
  | 11 => some ⟨[.cell (.sl 5) false], [.agg [(.str, false), (.bool, false), (.sl 41, false)]]⟩
  | 36 => some ⟨[], [.agg [(.str, false), (.bool, false), (.sl 41, true)]]⟩
  | 37 => some ⟨[], [.agg [(.int .i64, false), (.sl 3, true), (.sl 84, true)]]⟩
  | 24 => some ⟨[.cell (.sl 84) false, .cell (.sl 84) false], [.cell (.bool) false]⟩
  | 18 => some ⟨[.cell (.int .i64) false, .cell (.int .i64) false], [.cell (.bool) false]⟩
  | 14 => some ⟨[.agg [(.int .i64, false), (.sl 3, false), (.sl 84, false)], .cell (.int .i64) false], [.cell (.bool) false]⟩
  | 12 => some ⟨[], [.cell (.bool) false]⟩
  | 9 => some ⟨[.agg [(.int .i64, false), (.sl 3, false), (.sl 84, false)], .cell (.int .i64) false, .cell (.int .i64) false, .cell (.sl 5) false], [.cell (.bool) false]⟩
  | _ => none
def havs : Nat → Hav
  | 100007 => ⟨[(5, .int .i64)], [], []⟩
  | 117016 => ⟨[(10, .sl 33 false), (11, .sl 33 false), (8, .sl 33 false)], [], []⟩
  | 16999012009 => ⟨[(999999, .junk)], [], []⟩
  | 10006009 => ⟨[(999999, .junk)], [], []⟩
  | _ => ⟨[], [], []⟩
def wrs : FuncId → Bool
  | _ => false
def rgs : FuncId → Bool
  | 57 => false
  | 41 => false
  | 15 => false
  | 58 => false
  | 32 => false
  | 31 => false
  | 25 => false
  | 52 => false
  | 22 => false
  | 23 => false
  | 37 => false
  | 24 => false
  | 14 => false
  | _ => true
def cuts : Nat → Bool := fun n => [175015009, 174003, 174016, 181008, 181010, 176003, 176011, 177009, 100004, 100010, 100012, 109010, 109011, 109506, 109508, 140006, 140008, 140010, 77004, 5008, 10006501, 16006501, 71005, 38006, 10006509, 10006510, 10006004505, 10006004003505, 10006007006505, 10006009, 10006012, 10006014, 10006004003008, 10006007009, 10006007006008, 16999012509, 16999012510, 16999012004505, 16999012004003505, 16999012007006505, 16999012, 16999012009, 16999012012, 16999012014, 16999012004003008, 16999012007009, 16999012007006008].contains n
noncomputable def cfgAt (l : List Nat) : Cfg := cfgOf Tryz.prog sgs havs wrs cuts rgs l
end Go.Sx.N
