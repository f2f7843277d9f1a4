/-
  The tables of the contracts. Conditions: none; printed by a program of our own.
-/
import Derived.Test.YtljmbenpkbjmmaaGreatEngE
import Derived.Test.YtljmbenpkbjmmaaGreatProg
import Derived.Test.YtljmbenpkbjmmaaGreatNumBase
import Derived.Test.YtljmbenpkbjmmaaGreatRecSpec
namespace Go.Sx.N
open Go.Proofs
@[reducible] def b0 : List Nat := []
@[reducible] def b1 : List Nat := 149 :: b0
@[reducible] def b2 : List Nat := 156 :: b1
@[reducible] def b3 : List Nat := 155 :: b2
@[reducible] def b4 : List Nat := 145 :: b3
@[reducible] def b5 : List Nat := 154 :: b4
@[reducible] def b6 : List Nat := 143 :: b5
@[reducible] def b7 : List Nat := 142 :: b6
@[reducible] def b8 : List Nat := 110 :: b7
@[reducible] def b9 : List Nat := 136 :: b8
@[reducible] def b10 : List Nat := 152 :: b9
@[reducible] def b11 : List Nat := 153 :: b10
@[reducible] def b12 : List Nat := 109 :: b11
@[reducible] def b13 : List Nat := 144 :: b12
@[reducible] def b14 : List Nat := 146 :: b13
@[reducible] def b15 : List Nat := 133 :: b14
@[reducible] def b16 : List Nat := 158 :: b15
@[reducible] def b17 : List Nat := 150 :: b16
@[reducible] def b18 : List Nat := 151 :: b17
@[reducible] def b19 : List Nat := 141 :: b18
@[reducible] def b20 : List Nat := 134 :: b19
@[reducible] def b21 : List Nat := 135 :: b20
@[reducible] def b22 : List Nat := 132 :: b21
@[reducible] def b23 : List Nat := 112 :: b22
@[reducible] def b24 : List Nat := 103 :: b23
@[reducible] def b25 : List Nat := 108 :: b24
@[reducible] def b26 : List Nat := 81 :: b25
@[reducible] def b27 : List Nat := 90 :: b26
@[reducible] def b28 : List Nat := 131 :: b27
@[reducible] def b29 : List Nat := 137 :: b28
@[reducible] def b30 : List Nat := 115 :: b29
@[reducible] def b31 : List Nat := 111 :: b30
@[reducible] def b32 : List Nat := 114 :: b31
@[reducible] def b33 : List Nat := 129 :: b32
@[reducible] def b34 : List Nat := 79 :: b33
@[reducible] def b35 : List Nat := 113 :: b34
@[reducible] def b36 : List Nat := 105 :: b35
@[reducible] def b37 : List Nat := 87 :: b36
@[reducible] def b38 : List Nat := 80 :: b37
@[reducible] def b39 : List Nat := 86 :: b38
@[reducible] def b40 : List Nat := 82 :: b39
@[reducible] def b41 : List Nat := 54 :: b40
@[reducible] def b42 : List Nat := 78 :: b41
@[reducible] def b43 : List Nat := 56 :: b42
@[reducible] def b44 : List Nat := 57 :: b43
@[reducible] def b45 : List Nat := 55 :: b44
@[reducible] def b46 : List Nat := 59 :: b45
@[reducible] def b47 : List Nat := 58 :: b46
@[reducible] def b48 : List Nat := 128 :: b47
@[reducible] def b49 : List Nat := 126 :: b48
@[reducible] def b50 : List Nat := 99 :: b49
@[reducible] def b51 : List Nat := 100 :: b50
@[reducible] def b52 : List Nat := 124 :: b51
@[reducible] def b53 : List Nat := 127 :: b52
@[reducible] def b54 : List Nat := 125 :: b53
@[reducible] def b55 : List Nat := 98 :: b54
@[reducible] def b56 : List Nat := 97 :: b55
@[reducible] def b57 : List Nat := 66 :: b56
@[reducible] def b58 : List Nat := 64 :: b57
@[reducible] def b59 : List Nat := 39 :: b58
@[reducible] def b60 : List Nat := 140 :: b59
@[reducible] def b61 : List Nat := 139 :: b60
@[reducible] def b62 : List Nat := 96 :: b61
@[reducible] def b63 : List Nat := 65 :: b62
@[reducible] def b64 : List Nat := 93 :: b63
@[reducible] def b65 : List Nat := 123 :: b64
@[reducible] def b66 : List Nat := 92 :: b65
@[reducible] def b67 : List Nat := 91 :: b66
@[reducible] def b68 : List Nat := 95 :: b67
@[reducible] def b69 : List Nat := 60 :: b68
@[reducible] def b70 : List Nat := 37 :: b69
@[reducible] def b71 : List Nat := 63 :: b70
@[reducible] def b72 : List Nat := 94 :: b71
@[reducible] def b73 : List Nat := 61 :: b72
@[reducible] def b74 : List Nat := 38 :: b73
@[reducible] def b75 : List Nat := 50 :: b74
@[reducible] def b76 : List Nat := 49 :: b75
@[reducible] def b77 : List Nat := 28 :: b76
@[reducible] def b78 : List Nat := 51 :: b77
@[reducible] def b79 : List Nat := 29 :: b78
@[reducible] def b80 : List Nat := 30 :: b79
@[reducible] def b81 : List Nat := 22 :: b80
@[reducible] def b82 : List Nat := 35 :: b81
@[reducible] def b83 : List Nat := 71 :: b82
@[reducible] def b84 : List Nat := 45 :: b83
@[reducible] def b85 : List Nat := 23 :: b84
@[reducible] def b86 : List Nat := 68 :: b85
@[reducible] def b87 : List Nat := 70 :: b86
@[reducible] def b88 : List Nat := 44 :: b87
@[reducible] def b89 : List Nat := 72 :: b88
@[reducible] def b90 : List Nat := 46 :: b89
@[reducible] def b91 : List Nat := 36 :: b90
@[reducible] def b92 : List Nat := 32 :: b91
@[reducible] def b93 : List Nat := 33 :: b92
@[reducible] def b94 : List Nat := 13 :: b93
@[reducible] def b95 : List Nat := 40 :: b94
@[reducible] def b96 : List Nat := 15 :: b95
@[reducible] def b97 : List Nat := 16 :: b96
@[reducible] def b98 : List Nat := 18 :: b97
@[reducible] def b99 : List Nat := 19 :: b98
@[reducible] def b100 : List Nat := 43 :: b99
@[reducible] def b101 : List Nat := 34 :: b100
@[reducible] def b102 : List Nat := 14 :: b101
@[reducible] def b103 : List Nat := 24 :: b102
@[reducible] def b104 : List Nat := 17 :: b103
@[reducible] def b105 : List Nat := 20 :: b104
@[reducible] def b106 : List Nat := 25 :: b105
@[reducible] def b107 : List Nat := 27 :: b106
@[reducible] def b108 : List Nat := 10 :: b107
@[reducible] def b109 : List Nat := 11 :: b108
@[reducible] def b110 : List Nat := 21 :: b109
@[reducible] def b111 : List Nat := 31 :: b110
@[reducible] def b112 : List Nat := 12 :: b111
def Tb : FuncId → Pred
  | 149 => ⟨fun a => apP [.int, .int, .int] p_Sub32 a, fun a r => apP [.int, .int, .int, .int, .int] q_Sub32 (a ++ r)⟩
  | 156 => ⟨fun a => apP [.int, .int, .int] p_Add32 a, fun a r => apP [.int, .int, .int, .int, .int] q_Add32 (a ++ r)⟩
  | 155 => ⟨fun a => apP [.int] p_Len32 a, fun a r => apP [.int, .int] q_Len32 (a ++ r)⟩
  | 145 => ⟨fun a => apP [.int] p_Lz32 a, fun a r => apP [.int, .int] q_Lz32 (a ++ r)⟩
  | 154 => ⟨fun a => apP [.int, .int, .int] p_Div32 a, fun a r => apP [.int, .int, .int, .int, .int] q_Div32 (a ++ r)⟩
  | 143 => ⟨fun a => apP [.sl] p_Clone32 a, fun a r => apP [.sl, .sl] q_Clone32 (a ++ r)⟩
  | 142 => ⟨fun a => apP [.sl] p_trim a, fun a r => apP [.sl, .sl] q_trim (a ++ r)⟩
  | 110 => ⟨fun a => apP [.sl] p_pack a, fun a r => apP [.sl, .sl] q_pack (a ++ r)⟩
  | 136 => ⟨fun a => apP [.bool, .sl] p_unpack a, fun a r => apP [.bool, .sl, .bool, .sl] q_unpack (a ++ r)⟩
  | 152 => ⟨fun a => apP [.sl] p_long a, fun a r => apP [.sl, .int] q_long (a ++ r)⟩
  | 153 => ⟨fun a => apP [.int] p_short a, fun a r => apP [.int, .sl] q_short (a ++ r)⟩
  | 109 => ⟨fun a => apP [.sl, .sl] p_compare a, fun a r => apP [.sl, .sl, .int] q_compare (a ++ r)⟩
  | 144 => ⟨fun a => apP [.sl, .int] p_divideShort a, fun a r => apP [.sl, .int, .sl, .int] q_divideShort (a ++ r)⟩
  | 146 => ⟨fun a => apP [.sl, .int] p_shifted a, fun a r => apP [.sl, .int, .sl] q_shifted (a ++ r)⟩
  | 133 => ⟨fun a => apP [.sl, .sl] p_divide a, fun a r => apP [.sl, .sl, .sl, .sl] q_divide (a ++ r)⟩
  | 158 => ⟨fun a => apP [.sl, .int, .int] p_head a, fun a r => apP [.sl, .int, .int, .int] q_head (a ++ r)⟩
  | 150 => ⟨fun a => apP [.sl, .sl] p_simulate a, fun a r => apP [.sl, .sl, .int, .int, .int, .int, .bool] q_simulate (a ++ r)⟩
  | 151 => ⟨fun a => apP [.int, .sl, .int, .sl] p_difference a, fun a r => apP [.int, .sl, .int, .sl, .sl] q_difference (a ++ r)⟩
  | 141 => ⟨fun a => apP [.sl, .sl] p_commonDivisor a, fun a r => apP [.sl, .sl, .sl] q_commonDivisor (a ++ r)⟩
  | 134 => ⟨fun a => apP [.sl, .sl] p_plus a, fun a r => apP [.sl, .sl, .sl] q_plus (a ++ r)⟩
  | 135 => ⟨fun a => apP [.sl, .sl] p_minus a, fun a r => apP [.sl, .sl, .sl] q_minus (a ++ r)⟩
  | 132 => ⟨fun a => apP [.sl, .sl] p_times a, fun a r => apP [.sl, .sl, .sl] q_times (a ++ r)⟩
  | 112 => ⟨fun a => apP [.sl] p_Clone16 a, fun a r => apP [.sl, .sl] q_Clone16 (a ++ r)⟩
  | 103 => ⟨fun a => apP [.bool, .sl] p_wValid a, fun a r => apP [.bool, .sl, .bool] q_wValid (a ++ r)⟩
  | 108 => ⟨fun a => apP [.sl] p_wAllValid a, fun a r => apP [.sl, .bool] q_wAllValid (a ++ r)⟩
  | 81 => ⟨fun a => apP [.int] p_wFromInt a, fun a r => apP [.int, .bool, .sl] q_wFromInt (a ++ r)⟩
  | 90 => ⟨fun a => apP [.bool, .sl] p_wInt a, fun a r => apP [.bool, .sl, .int, .int] q_wInt (a ++ r)⟩
  | 131 => ⟨fun a => apP [.bool, .sl] p_result a, fun a r => apP [.bool, .sl, .bool, .sl, .int] q_result (a ++ r)⟩
  | 137 => ⟨fun a => apP [.bool, .sl, .bool, .sl] p_sum a, fun a r => apP [.bool, .sl, .bool, .sl, .bool, .sl, .int] q_sum (a ++ r)⟩
  | 115 => ⟨fun a => apP [.bool, .sl, .bool, .sl] p_wAdd a, fun a r => apP [.bool, .sl, .bool, .sl, .bool, .sl, .int] q_wAdd (a ++ r)⟩
  | 111 => ⟨fun a => apP [.bool, .sl, .bool, .sl] p_wMul a, fun a r => apP [.bool, .sl, .bool, .sl, .bool, .sl, .int] q_wMul (a ++ r)⟩
  | 114 => ⟨fun a => apP [.bool, .sl, .bool, .sl] p_wDivMod a, fun a r => apP [.bool, .sl, .bool, .sl, .bool, .sl, .bool, .sl, .int] q_wDivMod (a ++ r)⟩
  | 129 => ⟨fun a => apP [.bool, .sl, .bool, .sl] p_wGcd a, fun a r => apP [.bool, .sl, .bool, .sl, .bool, .sl, .int] q_wGcd (a ++ r)⟩
  | 79 => ⟨fun a => apP [.bool, .sl, .bool, .sl] p_wCmp a, fun a r => apP [.bool, .sl, .bool, .sl, .int] q_wCmp (a ++ r)⟩
  | 113 => ⟨fun a => apP [.bool, .sl] p_opposite a, fun a r => apP [.bool, .sl, .bool, .sl] q_opposite (a ++ r)⟩
  | 105 => ⟨fun a => apP [.bool, .sl, .bool, .sl] p_fDivisor a, fun a r => apP [.bool, .sl, .bool, .sl, .bool, .sl] q_fDivisor (a ++ r)⟩
  | 87 => ⟨fun a => apP [.bool, .sl, .bool, .sl] p_fPlus a, fun a r => apP [.bool, .sl, .bool, .sl, .bool, .sl] q_fPlus (a ++ r)⟩
  | 80 => ⟨fun a => apP [.bool, .sl, .bool, .sl] p_fTimes a, fun a r => apP [.bool, .sl, .bool, .sl, .bool, .sl] q_fTimes (a ++ r)⟩
  | 86 => ⟨fun a => apP [.bool, .sl, .bool, .sl] p_fDivide a, fun a r => apP [.bool, .sl, .bool, .sl, .bool, .sl, .bool, .sl] q_fDivide (a ++ r)⟩
  | 82 => ⟨fun a => apP [.bool, .sl, .bool, .sl] p_lowest a, fun a r => apP [.bool, .sl, .bool, .sl, .bool, .sl, .bool, .sl] q_lowest (a ++ r)⟩
  | 54 => ⟨fun a => apP [.bool, .sl, .bool, .sl] p_fValid a, fun a r => apP [.bool, .sl, .bool, .sl, .bool] q_fValid (a ++ r)⟩
  | 78 => ⟨fun a => apP [.sl] p_fAllValid a, fun a r => apP [.sl, .bool] q_fAllValid (a ++ r)⟩
  | 56 => ⟨fun a => apP [.int] p_fFromInt a, fun a r => apP [.int, .bool, .sl, .bool, .sl] q_fFromInt (a ++ r)⟩
  | 57 => ⟨fun a => apP [.bool, .sl, .bool, .sl, .bool, .sl, .bool, .sl] p_fMul a, fun a r => apP [.bool, .sl, .bool, .sl, .bool, .sl, .bool, .sl, .bool, .sl, .bool, .sl, .int] q_fMul (a ++ r)⟩
  | 55 => ⟨fun a => apP [.bool, .sl, .bool, .sl, .bool, .sl, .bool, .sl] p_fCmp a, fun a r => apP [.bool, .sl, .bool, .sl, .bool, .sl, .bool, .sl, .int] q_fCmp (a ++ r)⟩
  | 59 => ⟨fun a => apP [.bool, .sl, .bool, .sl] p_fInt a, fun a r => apP [.bool, .sl, .bool, .sl, .int, .int] q_fInt (a ++ r)⟩
  | 58 => ⟨fun a => apP [.bool, .sl, .bool, .sl, .bool, .sl, .bool, .sl, .int] p_fRound a, fun a r => apP [.bool, .sl, .bool, .sl, .bool, .sl, .bool, .sl, .int, .bool, .sl, .bool, .sl, .int] q_fRound (a ++ r)⟩
  | 128 => ⟨fun a => apP [.sl] p_rTrim a, fun a r => apP [.sl, .sl] q_rTrim (a ++ r)⟩
  | 126 => ⟨fun a => apP [.sl, .sl] p_rLess a, fun a r => apP [.sl, .sl, .bool] q_rLess (a ++ r)⟩
  | 99 => ⟨fun a => apP [.sl, .sl] p_rPlus a, fun a r => apP [.sl, .sl, .sl] q_rPlus (a ++ r)⟩
  | 100 => ⟨fun a => apP [.sl, .sl] p_rMinus a, fun a r => apP [.sl, .sl, .sl] q_rMinus (a ++ r)⟩
  | 124 => ⟨fun a => apP [.sl, .sl] p_rTimes a, fun a r => apP [.sl, .sl, .sl] q_rTimes (a ++ r)⟩
  | 127 => ⟨fun a => apP [.sl] p_rHalf a, fun a r => apP [.sl, .sl] q_rHalf (a ++ r)⟩
  | 125 => ⟨fun a => apP [.sl, .int] p_rShort a, fun a r => apP [.sl, .int, .sl, .sl] q_rShort (a ++ r)⟩
  | 98 => ⟨fun a => apP [.sl, .sl] p_rDivided a, fun a r => apP [.sl, .sl, .sl, .sl] q_rDivided (a ++ r)⟩
  | 97 => ⟨fun a => apP [.bool, .sl] p_rMake a, fun a r => apP [.bool, .sl, .bool, .sl] q_rMake (a ++ r)⟩
  | 66 => ⟨fun a => apP [.bool, .sl] p_rValid1 a, fun a r => apP [.bool, .sl, .bool] q_rValid1 (a ++ r)⟩
  | 64 => ⟨fun a => apP [.int] p_rFromInt1 a, fun a r => apP [.int, .bool, .sl] q_rFromInt1 (a ++ r)⟩
  | 39 => ⟨fun a => apP [.bool, .sl] p_rInt1 a, fun a r => apP [.bool, .sl, .int, .int] q_rInt1 (a ++ r)⟩
  | 140 => ⟨fun a => apP [.bool, .sl] p_rNeg1 a, fun a r => apP [.bool, .sl, .bool, .sl] q_rNeg1 (a ++ r)⟩
  | 139 => ⟨fun a => apP [.bool, .sl, .bool, .sl] p_rSum1 a, fun a r => apP [.bool, .sl, .bool, .sl, .bool, .sl] q_rSum1 (a ++ r)⟩
  | 96 => ⟨fun a => apP [.bool, .sl, .bool, .sl] p_rProduct1 a, fun a r => apP [.bool, .sl, .bool, .sl, .bool, .sl] q_rProduct1 (a ++ r)⟩
  | 65 => ⟨fun a => apP [.bool, .sl, .bool, .sl] p_rFloor1 a, fun a r => apP [.bool, .sl, .bool, .sl, .bool, .sl, .bool, .sl] q_rFloor1 (a ++ r)⟩
  | 93 => ⟨fun a => apP [.sl, .sl] p_rCommon a, fun a r => apP [.sl, .sl, .sl] q_rCommon (a ++ r)⟩
  | 123 => ⟨fun a => apP [.bool, .sl, .bool, .sl] p_rOrder1 a, fun a r => apP [.bool, .sl, .bool, .sl, .int] q_rOrder1 (a ++ r)⟩
  | 92 => ⟨fun a => apP [.sl] p_rOne a, fun a r => apP [.sl, .bool] q_rOne (a ++ r)⟩
  | 91 => ⟨fun a => apP [.bool, .sl, .bool, .sl] p_rFits a, fun a r => apP [.bool, .sl, .bool, .sl, .bool] q_rFits (a ++ r)⟩
  | 95 => ⟨fun a => apP [.bool, .sl, .bool, .sl] p_rLowest a, fun a r => apP [.bool, .sl, .bool, .sl, .bool, .sl, .bool, .sl] q_rLowest (a ++ r)⟩
  | 60 => ⟨fun a => apP [.bool, .sl, .bool, .sl] p_rValid2 a, fun a r => apP [.bool, .sl, .bool, .sl, .bool] q_rValid2 (a ++ r)⟩
  | 37 => ⟨fun a => apP [.int] p_rFromInt2 a, fun a r => apP [.int, .bool, .sl, .bool, .sl] q_rFromInt2 (a ++ r)⟩
  | 63 => ⟨fun a => apP [.bool, .sl, .bool, .sl, .bool, .sl, .bool, .sl] p_rTimes2 a, fun a r => apP [.bool, .sl, .bool, .sl, .bool, .sl, .bool, .sl, .bool, .sl, .bool, .sl] q_rTimes2 (a ++ r)⟩
  | 94 => ⟨fun a => apP [.bool, .sl, .bool, .sl, .bool, .sl, .bool, .sl] p_rOrder2 a, fun a r => apP [.bool, .sl, .bool, .sl, .bool, .sl, .bool, .sl, .int] q_rOrder2 (a ++ r)⟩
  | 61 => ⟨fun a => apP [.bool, .sl, .bool, .sl, .bool, .sl, .bool, .sl] p_rCmp2 a, fun a r => apP [.bool, .sl, .bool, .sl, .bool, .sl, .bool, .sl, .int] q_rCmp2 (a ++ r)⟩
  | 38 => ⟨fun a => apP [.bool, .sl, .bool, .sl] p_rFloor2 a, fun a r => apP [.bool, .sl, .bool, .sl, .bool, .sl, .int] q_rFloor2 (a ++ r)⟩
  | 50 => ⟨fun a => apP [.int, .sl, .sl, .int] p_has a, fun a r => apP [.int, .sl, .sl, .int, .bool] q_has (a ++ r)⟩
  | 49 => ⟨fun a => apP [.int, .sl, .sl, .sl, .int] p_follow a, fun a r => apP [.int, .sl, .sl, .sl, .int, .bool] q_follow (a ++ r)⟩
  | 28 => ⟨fun a => apP [.int, .sl, .sl] p_Valid a, fun a r => apP [.int, .sl, .sl, .bool] q_Valid (a ++ r)⟩
  | 51 => ⟨fun a => apP [.int, .sl, .sl, .int] p_posted a, fun a r => apP [.int, .sl, .sl, .int, .int] q_posted (a ++ r)⟩
  | 29 => ⟨fun a => apP [.int, .sl, .sl, .int] p_Open a, fun a r => apP [.int, .sl, .sl, .int, .int, .int] q_Open (a ++ r)⟩
  | 30 => ⟨fun a => apP [.int, .sl, .sl, .int] p_Total a, fun a r => apP [.int, .sl, .sl, .int, .int, .int] q_Total (a ++ r)⟩
  | 22 => ⟨fun a => apP [.int, .sl, .sl, .int, .sl, .sl] p_Same a, fun a r => apP [.int, .sl, .sl, .int, .sl, .sl, .bool] q_Same (a ++ r)⟩
  | 35 => ⟨fun a => apP [.int, .sl, .sl, .int] p_rHas a, fun a r => apP [.int, .sl, .sl, .int, .bool] q_rHas (a ++ r)⟩
  | 71 => ⟨fun a => apP [.int, .sl, .sl, .int, .int, .int, .int] p_rRight a, fun a r => apP [.int, .sl, .sl, .int, .int, .int, .int, .bool] q_rRight (a ++ r)⟩
  | 45 => ⟨fun a => apP [.int, .sl, .sl, .sl] p_rPosts a, fun a r => apP [.int, .sl, .sl, .sl, .bool] q_rPosts (a ++ r)⟩
  | 23 => ⟨fun a => apP [.int, .sl, .sl] p_rValid a, fun a r => apP [.int, .sl, .sl, .bool] q_rValid (a ++ r)⟩
  | 68 => ⟨fun a => apP [.int, .sl, .sl, .int] p_rPosted a, fun a r => apP [.int, .sl, .sl, .int, .int] q_rPosted (a ++ r)⟩
  | 70 => ⟨fun a => apP [.sl] p_Concat a, fun a r => apP [.sl, .sl] q_Concat (a ++ r)⟩
  | 44 => ⟨fun a => apP [.int, .sl, .sl, .sl] p_Post a, fun a r => apP [.int, .sl, .sl, .sl, .int, .sl, .sl, .int] q_Post (a ++ r)⟩
  | 72 => ⟨fun a => apP [.int] p_kWhole a, fun a r => apP [.int, .bool, .sl] q_kWhole (a ++ r)⟩
  | 46 => ⟨fun a => apP [.int, .int] p_kFrac a, fun a r => apP [.int, .int, .bool, .sl, .bool, .sl] q_kFrac (a ++ r)⟩
  | 36 => ⟨fun a => apP [.bool, .sl, .bool, .sl, .bool, .sl, .bool, .sl] p_rMul2 a, fun a r => apP [.bool, .sl, .bool, .sl, .bool, .sl, .bool, .sl, .bool, .sl, .bool, .sl, .int] q_rMul2 (a ++ r)⟩
  | 32 => ⟨fun a => apP [.bool, .sl, .bool, .sl] p_isShare a, fun a r => apP [.bool, .sl, .bool, .sl, .bool] q_isShare (a ++ r)⟩
  | 33 => ⟨fun a => apP [.int, .sl, .sl, .int, .bool, .sl, .bool, .sl] p_limit a, fun a r => apP [.int, .sl, .sl, .int, .bool, .sl, .bool, .sl, .int, .int] q_limit (a ++ r)⟩
  | 13 => ⟨fun a => apP [.int, .sl, .sl, .int, .bool, .sl, .bool, .sl] p_Limit a, fun a r => apP [.int, .sl, .sl, .int, .bool, .sl, .bool, .sl, .int, .int] q_Limit (a ++ r)⟩
  | 40 => ⟨fun a => apP [.int, .sl, .sl, .int] p_outstanding a, fun a r => apP [.int, .sl, .sl, .int, .int] q_outstanding (a ++ r)⟩
  | 15 => ⟨fun a => apP [.int, .sl, .sl, .int] p_Outstanding a, fun a r => apP [.int, .sl, .sl, .int, .int, .int] q_Outstanding (a ++ r)⟩
  | 16 => ⟨fun a => apP [.int, .sl, .sl, .int, .int, .bool, .sl, .bool, .sl] p_Take a, fun a r => apP [.int, .sl, .sl, .int, .int, .bool, .sl, .bool, .sl, .sl, .int] q_Take (a ++ r)⟩
  | 18 => ⟨fun a => apP [.int, .sl, .sl, .int, .int, .bool, .sl, .bool, .sl] p_Apply a, fun a r => apP [.int, .sl, .sl, .int, .int, .bool, .sl, .bool, .sl, .int, .sl, .sl, .int] q_Apply (a ++ r)⟩
  | 19 => ⟨fun a => apP [.int, .sl, .sl, .int, .bool, .sl, .bool, .sl] p_Runs a, fun a r => apP [.int, .sl, .sl, .int, .bool, .sl, .bool, .sl, .int, .int] q_Runs (a ++ r)⟩
  | 43 => ⟨fun a => apP [.int, .sl, .sl, .int] p_xOpen a, fun a r => apP [.int, .sl, .sl, .int, .int] q_xOpen (a ++ r)⟩
  | 34 => ⟨fun a => apP [.bool, .sl, .bool, .sl] p_xShare a, fun a r => apP [.bool, .sl, .bool, .sl, .bool] q_xShare (a ++ r)⟩
  | 14 => ⟨fun a => apP [.int, .sl, .sl, .int, .bool, .sl, .bool, .sl] p_xLimit a, fun a r => apP [.int, .sl, .sl, .int, .bool, .sl, .bool, .sl, .int, .int] q_xLimit (a ++ r)⟩
  | 24 => ⟨fun a => apP [.int, .sl, .sl, .int] p_xOutstanding a, fun a r => apP [.int, .sl, .sl, .int, .int] q_xOutstanding (a ++ r)⟩
  | 17 => ⟨fun a => apP [.int, .sl, .sl, .int, .int, .bool, .sl, .bool, .sl] p_xTake a, fun a r => apP [.int, .sl, .sl, .int, .int, .bool, .sl, .bool, .sl, .sl, .int] q_xTake (a ++ r)⟩
  | 20 => ⟨fun a => apP [.int, .sl, .sl, .int, .bool, .sl, .bool, .sl] p_xRuns a, fun a r => apP [.int, .sl, .sl, .int, .bool, .sl, .bool, .sl, .int, .int] q_xRuns (a ++ r)⟩
  | 25 => ⟨fun a => apP [.int, .sl, .sl, .sl] p_xPost a, fun a r => apP [.int, .sl, .sl, .sl, .int, .sl, .sl, .int] q_xPost (a ++ r)⟩
  | 27 => ⟨fun a => apP [.int, .int] p_Part a, fun a r => apP [.int, .int, .bool, .sl, .bool, .sl] q_Part (a ++ r)⟩
  | 10 => ⟨fun a => apP [.int, .sl, .sl] p_few a, fun a r => apP [.int, .sl, .sl, .bool] q_few (a ++ r)⟩
  | 11 => ⟨fun a => apP [.bool, .sl, .bool, .sl] p_light a, fun a r => apP [.bool, .sl, .bool, .sl, .bool] q_light (a ++ r)⟩
  | 21 => ⟨fun a => apP [.sl, .sl] p_paids a, fun a r => apP [.sl, .sl, .bool] q_paids (a ++ r)⟩
  | 31 => ⟨fun a => apP [] p_example a, fun a r => apP [.int, .sl, .sl] q_example (a ++ r)⟩
  | 12 => ⟨fun a => apP [] p_awake a, fun a r => apP [.bool] q_awake (a ++ r)⟩
  | 3 => ⟨fun a => apP [.int, .sl, .sl, .int, .int, .bool, .sl, .bool, .sl] p_Tells a, fun a r => apP [.int, .sl, .sl, .int, .int, .bool, .sl, .bool, .sl, .bool] q_Tells (a ++ r)⟩
  | 4 => ⟨fun a => apP [.int, .sl, .sl, .int, .int, .int, .int, .int] p_Shares a, fun a r => apP [.int, .sl, .sl, .int, .int, .int, .int, .int, .bool] q_Shares (a ++ r)⟩
  | 5 => ⟨fun a => apP [.int, .sl, .sl, .int] p_Wrong a, fun a r => apP [.int, .sl, .sl, .int, .bool] q_Wrong (a ++ r)⟩
  | 8 => ⟨fun a => apP [.int, .sl, .sl, .int, .int] p_Later a, fun a r => apP [.int, .sl, .sl, .int, .int, .bool] q_Later (a ++ r)⟩
  | 9 => ⟨fun a => apP [.int, .sl, .sl, .int, .int, .int, .int] p_Within a, fun a r => apP [.int, .sl, .sl, .int, .int, .int, .int, .bool] q_Within (a ++ r)⟩
  | 6 => ⟨fun a => apP [.int, .sl, .sl, .int, .int, .int, .int] p_Oldest a, fun a r => apP [.int, .sl, .sl, .int, .int, .int, .int, .bool] q_Oldest (a ++ r)⟩
  | 7 => ⟨fun a => apP [.int, .sl, .sl, .int, .int, .int] p_WRuns a, fun a r => apP [.int, .sl, .sl, .int, .int, .int, .bool] q_WRuns (a ++ r)⟩
  | _ => ⟨fun _ => True, fun _ _ => True⟩
def sgs : FuncId → Option Sig
  | 149 => some ⟨[.cell (.int .u32) false, .cell (.int .u32) false, .cell (.int .u32) false], [.cell (.int .u32) false, .cell (.int .u32) false]⟩
  | 156 => some ⟨[.cell (.int .u32) false, .cell (.int .u32) false, .cell (.int .u32) false], [.cell (.int .u32) false, .cell (.int .u32) false]⟩
  | 155 => some ⟨[.cell (.int .u32) false], [.cell (.int .i64) false]⟩
  | 145 => some ⟨[.cell (.int .u32) false], [.cell (.int .i64) false]⟩
  | 154 => some ⟨[.cell (.int .u32) false, .cell (.int .u32) false, .cell (.int .u32) false], [.cell (.int .u32) false, .cell (.int .u32) false]⟩
  | 143 => some ⟨[.cell (.sl 143) false], [.cell (.sl 143) true]⟩
  | 142 => some ⟨[.cell (.sl 143) false], [.cell (.sl 143) false]⟩
  | 110 => some ⟨[.cell (.sl 97) false], [.cell (.sl 143) false]⟩
  | 136 => some ⟨[.cell (.bool) false, .cell (.sl 143) false], [.agg [(.bool, false), (.sl 97, false)]]⟩
  | 152 => some ⟨[.cell (.sl 143) false], [.cell (.int .u64) false]⟩
  | 153 => some ⟨[.cell (.int .u64) false], [.cell (.sl 143) false]⟩
  | 109 => some ⟨[.cell (.sl 143) false, .cell (.sl 143) false], [.cell (.int .i64) false]⟩
  | 144 => some ⟨[.cell (.sl 143) false, .cell (.int .u32) false], [.cell (.sl 143) false, .cell (.int .u32) false]⟩
  | 146 => some ⟨[.cell (.sl 143) false, .cell (.int .i64) false], [.cell (.sl 143) true]⟩
  | 133 => some ⟨[.cell (.sl 143) false, .cell (.sl 143) false], [.cell (.sl 143) false, .cell (.sl 143) false]⟩
  | 158 => some ⟨[.cell (.sl 143) false, .cell (.int .i64) false, .cell (.int .i64) false], [.cell (.int .u64) false]⟩
  | 150 => some ⟨[.cell (.sl 143) false, .cell (.sl 143) false], [.agg [(.int .u64, false), (.int .u64, false), (.int .u64, false), (.int .u64, false), (.bool, false)]]⟩
  | 151 => some ⟨[.cell (.int .u64) false, .cell (.sl 143) false, .cell (.int .u64) false, .cell (.sl 143) false], [.cell (.sl 143) false]⟩
  | 141 => some ⟨[.cell (.sl 143) false, .cell (.sl 143) false], [.cell (.sl 143) false]⟩
  | 134 => some ⟨[.cell (.sl 143) false, .cell (.sl 143) false], [.cell (.sl 143) false]⟩
  | 135 => some ⟨[.cell (.sl 143) false, .cell (.sl 143) false], [.cell (.sl 143) false]⟩
  | 132 => some ⟨[.cell (.sl 143) false, .cell (.sl 143) false], [.cell (.sl 143) false]⟩
  | 112 => some ⟨[.cell (.sl 97) false], [.cell (.sl 97) false]⟩
  | 103 => some ⟨[.agg [(.bool, false), (.sl 97, false)]], [.cell (.bool) false]⟩
  | 108 => some ⟨[.cell (.sl 28) false], [.cell (.bool) false]⟩
  | 81 => some ⟨[.cell (.int .i64) false], [.agg [(.bool, false), (.sl 97, false)]]⟩
  | 90 => some ⟨[.agg [(.bool, false), (.sl 97, false)]], [.cell (.int .i64) false, .cell (.int .i64) false]⟩
  | 131 => some ⟨[.cell (.bool) false, .cell (.sl 143) false], [.agg [(.bool, false), (.sl 97, false)], .cell (.int .i64) false]⟩
  | 137 => some ⟨[.cell (.bool) false, .cell (.sl 143) false, .cell (.bool) false, .cell (.sl 143) false], [.agg [(.bool, false), (.sl 97, false)], .cell (.int .i64) false]⟩
  | 115 => some ⟨[.agg [(.bool, false), (.sl 97, false)], .agg [(.bool, false), (.sl 97, false)]], [.agg [(.bool, false), (.sl 97, false)], .cell (.int .i64) false]⟩
  | 111 => some ⟨[.agg [(.bool, false), (.sl 97, false)], .agg [(.bool, false), (.sl 97, false)]], [.agg [(.bool, false), (.sl 97, false)], .cell (.int .i64) false]⟩
  | 114 => some ⟨[.agg [(.bool, false), (.sl 97, false)], .agg [(.bool, false), (.sl 97, false)]], [.agg [(.bool, false), (.sl 97, false)], .agg [(.bool, false), (.sl 97, false)], .cell (.int .i64) false]⟩
  | 129 => some ⟨[.agg [(.bool, false), (.sl 97, false)], .agg [(.bool, false), (.sl 97, false)]], [.agg [(.bool, false), (.sl 97, false)], .cell (.int .i64) false]⟩
  | 79 => some ⟨[.agg [(.bool, false), (.sl 97, false)], .agg [(.bool, false), (.sl 97, false)]], [.cell (.int .i64) false]⟩
  | 113 => some ⟨[.agg [(.bool, false), (.sl 97, false)]], [.agg [(.bool, false), (.sl 97, false)]]⟩
  | 105 => some ⟨[.agg [(.bool, false), (.sl 97, false)], .agg [(.bool, false), (.sl 97, false)]], [.agg [(.bool, false), (.sl 97, false)]]⟩
  | 87 => some ⟨[.agg [(.bool, false), (.sl 97, false)], .agg [(.bool, false), (.sl 97, false)]], [.agg [(.bool, false), (.sl 97, false)]]⟩
  | 80 => some ⟨[.agg [(.bool, false), (.sl 97, false)], .agg [(.bool, false), (.sl 97, false)]], [.agg [(.bool, false), (.sl 97, false)]]⟩
  | 86 => some ⟨[.agg [(.bool, false), (.sl 97, false)], .agg [(.bool, false), (.sl 97, false)]], [.agg [(.bool, false), (.sl 97, false)], .agg [(.bool, false), (.sl 97, false)]]⟩
  | 82 => some ⟨[.agg [(.bool, false), (.sl 97, false)], .agg [(.bool, false), (.sl 97, false)]], [.agg [(.bool, false), (.sl 97, false), (.bool, false), (.sl 97, false)]]⟩
  | 54 => some ⟨[.agg [(.bool, false), (.sl 97, false), (.bool, false), (.sl 97, false)]], [.cell (.bool) false]⟩
  | 78 => some ⟨[.cell (.sl 30) false], [.cell (.bool) false]⟩
  | 56 => some ⟨[.cell (.int .i64) false], [.agg [(.bool, false), (.sl 97, false), (.bool, false), (.sl 97, false)]]⟩
  | 57 => some ⟨[.agg [(.bool, false), (.sl 97, false), (.bool, false), (.sl 97, false)], .agg [(.bool, false), (.sl 97, false), (.bool, false), (.sl 97, false)]], [.agg [(.bool, false), (.sl 97, false), (.bool, false), (.sl 97, false)], .cell (.int .i64) false]⟩
  | 55 => some ⟨[.agg [(.bool, false), (.sl 97, false), (.bool, false), (.sl 97, false)], .agg [(.bool, false), (.sl 97, false), (.bool, false), (.sl 97, false)]], [.cell (.int .i64) false]⟩
  | 59 => some ⟨[.agg [(.bool, false), (.sl 97, false), (.bool, false), (.sl 97, false)]], [.cell (.int .i64) false, .cell (.int .i64) false]⟩
  | 58 => some ⟨[.agg [(.bool, false), (.sl 97, false), (.bool, false), (.sl 97, false)], .agg [(.bool, false), (.sl 97, false), (.bool, false), (.sl 97, false)], .cell (.int .u8) false], [.agg [(.bool, false), (.sl 97, false), (.bool, false), (.sl 97, false)], .cell (.int .i64) false]⟩
  | 128 => some ⟨[.cell (.sl 97) false], [.cell (.sl 97) false]⟩
  | 126 => some ⟨[.cell (.sl 97) false, .cell (.sl 97) false], [.cell (.bool) false]⟩
  | 99 => some ⟨[.cell (.sl 97) false, .cell (.sl 97) false], [.cell (.sl 97) false]⟩
  | 100 => some ⟨[.cell (.sl 97) false, .cell (.sl 97) false], [.cell (.sl 97) false]⟩
  | 124 => some ⟨[.cell (.sl 97) false, .cell (.sl 97) false], [.cell (.sl 97) false]⟩
  | 127 => some ⟨[.cell (.sl 97) false], [.cell (.sl 97) false]⟩
  | 125 => some ⟨[.cell (.sl 97) false, .cell (.int .i64) false], [.cell (.sl 97) false, .cell (.sl 97) false]⟩
  | 98 => some ⟨[.cell (.sl 97) false, .cell (.sl 97) false], [.cell (.sl 97) false, .cell (.sl 97) false]⟩
  | 97 => some ⟨[.cell (.bool) false, .cell (.sl 97) false], [.agg [(.bool, false), (.sl 97, false)]]⟩
  | 66 => some ⟨[.agg [(.bool, false), (.sl 97, false)]], [.cell (.bool) false]⟩
  | 64 => some ⟨[.cell (.int .i64) false], [.agg [(.bool, false), (.sl 97, false)]]⟩
  | 39 => some ⟨[.agg [(.bool, false), (.sl 97, false)]], [.cell (.int .i64) false, .cell (.int .i64) false]⟩
  | 140 => some ⟨[.agg [(.bool, false), (.sl 97, false)]], [.agg [(.bool, false), (.sl 97, false)]]⟩
  | 139 => some ⟨[.agg [(.bool, false), (.sl 97, false)], .agg [(.bool, false), (.sl 97, false)]], [.agg [(.bool, false), (.sl 97, false)]]⟩
  | 96 => some ⟨[.agg [(.bool, false), (.sl 97, false)], .agg [(.bool, false), (.sl 97, false)]], [.agg [(.bool, false), (.sl 97, false)]]⟩
  | 65 => some ⟨[.agg [(.bool, false), (.sl 97, false)], .agg [(.bool, false), (.sl 97, false)]], [.agg [(.bool, false), (.sl 97, false)], .agg [(.bool, false), (.sl 97, false)]]⟩
  | 93 => some ⟨[.cell (.sl 97) false, .cell (.sl 97) false], [.cell (.sl 97) false]⟩
  | 123 => some ⟨[.agg [(.bool, false), (.sl 97, false)], .agg [(.bool, false), (.sl 97, false)]], [.cell (.int .i64) false]⟩
  | 92 => some ⟨[.cell (.sl 97) false], [.cell (.bool) false]⟩
  | 91 => some ⟨[.agg [(.bool, false), (.sl 97, false), (.bool, false), (.sl 97, false)]], [.cell (.bool) false]⟩
  | 95 => some ⟨[.agg [(.bool, false), (.sl 97, false)], .agg [(.bool, false), (.sl 97, false)]], [.agg [(.bool, false), (.sl 97, false), (.bool, false), (.sl 97, false)]]⟩
  | 60 => some ⟨[.agg [(.bool, false), (.sl 97, false), (.bool, false), (.sl 97, false)]], [.cell (.bool) false]⟩
  | 37 => some ⟨[.cell (.int .i64) false], [.agg [(.bool, false), (.sl 97, false), (.bool, false), (.sl 97, false)]]⟩
  | 63 => some ⟨[.agg [(.bool, false), (.sl 97, false), (.bool, false), (.sl 97, false)], .agg [(.bool, false), (.sl 97, false), (.bool, false), (.sl 97, false)]], [.agg [(.bool, false), (.sl 97, false), (.bool, false), (.sl 97, false)]]⟩
  | 94 => some ⟨[.agg [(.bool, false), (.sl 97, false), (.bool, false), (.sl 97, false)], .agg [(.bool, false), (.sl 97, false), (.bool, false), (.sl 97, false)]], [.cell (.int .i64) false]⟩
  | 61 => some ⟨[.agg [(.bool, false), (.sl 97, false), (.bool, false), (.sl 97, false)], .agg [(.bool, false), (.sl 97, false), (.bool, false), (.sl 97, false)]], [.cell (.int .i64) false]⟩
  | 38 => some ⟨[.agg [(.bool, false), (.sl 97, false), (.bool, false), (.sl 97, false)]], [.agg [(.bool, false), (.sl 97, false)], .cell (.int .i64) false]⟩
  | 50 => some ⟨[.agg [(.int .i64, false), (.sl 3, false), (.sl 55, false)], .cell (.int .i64) false], [.cell (.bool) false]⟩
  | 49 => some ⟨[.agg [(.int .i64, false), (.sl 3, false), (.sl 55, false)], .cell (.sl 55) false, .cell (.int .i64) false], [.cell (.bool) false]⟩
  | 28 => some ⟨[.agg [(.int .i64, false), (.sl 3, false), (.sl 55, false)]], [.cell (.bool) false]⟩
  | 51 => some ⟨[.agg [(.int .i64, false), (.sl 3, false), (.sl 55, false)], .cell (.int .i64) false], [.cell (.int .i64) false]⟩
  | 29 => some ⟨[.agg [(.int .i64, false), (.sl 3, false), (.sl 55, false)], .cell (.int .i64) false], [.cell (.int .i64) false, .cell (.int .i64) false]⟩
  | 30 => some ⟨[.agg [(.int .i64, false), (.sl 3, false), (.sl 55, false)], .cell (.int .u8) false], [.cell (.int .i64) false, .cell (.int .i64) false]⟩
  | 22 => some ⟨[.agg [(.int .i64, false), (.sl 3, false), (.sl 55, false)], .agg [(.int .i64, false), (.sl 3, false), (.sl 55, false)]], [.cell (.bool) false]⟩
  | 35 => some ⟨[.agg [(.int .i64, false), (.sl 3, false), (.sl 55, false)], .cell (.int .i64) false], [.cell (.bool) false]⟩
  | 71 => some ⟨[.agg [(.int .i64, false), (.sl 3, false), (.sl 55, false)], .agg [(.int .i64, false), (.int .i64, false), (.int .u8, false), (.int .i64, false)]], [.cell (.bool) false]⟩
  | 45 => some ⟨[.agg [(.int .i64, false), (.sl 3, false), (.sl 55, false)], .cell (.sl 55) false], [.cell (.bool) false]⟩
  | 23 => some ⟨[.agg [(.int .i64, false), (.sl 3, false), (.sl 55, false)]], [.cell (.bool) false]⟩
  | 68 => some ⟨[.agg [(.int .i64, false), (.sl 3, false), (.sl 55, false)], .cell (.int .i64) false], [.cell (.int .i64) false]⟩
  | 70 => some ⟨[.cell (.sl 23) false], [.cell (.sl 55) true]⟩
  | 44 => some ⟨[.agg [(.int .i64, false), (.sl 3, false), (.sl 55, false)], .cell (.sl 55) false], [.agg [(.int .i64, false), (.sl 3, true), (.sl 55, true)], .cell (.int .i64) false]⟩
  | 72 => some ⟨[.cell (.int .i64) false], [.agg [(.bool, false), (.sl 97, false)]]⟩
  | 46 => some ⟨[.cell (.int .i64) false, .cell (.int .i64) false], [.agg [(.bool, false), (.sl 97, false), (.bool, false), (.sl 97, false)]]⟩
  | 36 => some ⟨[.agg [(.bool, false), (.sl 97, false), (.bool, false), (.sl 97, false)], .agg [(.bool, false), (.sl 97, false), (.bool, false), (.sl 97, false)]], [.agg [(.bool, false), (.sl 97, false), (.bool, false), (.sl 97, false)], .cell (.int .i64) false]⟩
  | 32 => some ⟨[.agg [(.bool, false), (.sl 97, false), (.bool, false), (.sl 97, false)]], [.cell (.bool) false]⟩
  | 33 => some ⟨[.agg [(.int .i64, false), (.sl 3, false), (.sl 55, false)], .cell (.int .i64) false, .agg [(.bool, false), (.sl 97, false), (.bool, false), (.sl 97, false)]], [.cell (.int .i64) false, .cell (.int .i64) false]⟩
  | 13 => some ⟨[.agg [(.int .i64, false), (.sl 3, false), (.sl 55, false)], .cell (.int .i64) false, .agg [(.bool, false), (.sl 97, false), (.bool, false), (.sl 97, false)]], [.cell (.int .i64) false, .cell (.int .i64) false]⟩
  | 40 => some ⟨[.agg [(.int .i64, false), (.sl 3, false), (.sl 55, false)], .cell (.int .i64) false], [.cell (.int .i64) false]⟩
  | 15 => some ⟨[.agg [(.int .i64, false), (.sl 3, false), (.sl 55, false)], .cell (.int .i64) false], [.cell (.int .i64) false, .cell (.int .i64) false]⟩
  | 16 => some ⟨[.agg [(.int .i64, false), (.sl 3, false), (.sl 55, false)], .cell (.int .i64) false, .cell (.int .i64) false, .agg [(.bool, false), (.sl 97, false), (.bool, false), (.sl 97, false)]], [.cell (.sl 55) true, .cell (.int .i64) false]⟩
  | 18 => some ⟨[.agg [(.int .i64, false), (.sl 3, false), (.sl 55, false)], .cell (.int .i64) false, .cell (.int .i64) false, .agg [(.bool, false), (.sl 97, false), (.bool, false), (.sl 97, false)]], [.agg [(.int .i64, false), (.sl 3, true), (.sl 55, true)], .cell (.int .i64) false]⟩
  | 19 => some ⟨[.agg [(.int .i64, false), (.sl 3, false), (.sl 55, false)], .cell (.int .i64) false, .agg [(.bool, false), (.sl 97, false), (.bool, false), (.sl 97, false)]], [.cell (.int .i64) false, .cell (.int .i64) false]⟩
  | 43 => some ⟨[.agg [(.int .i64, false), (.sl 3, false), (.sl 55, false)], .cell (.int .i64) false], [.cell (.int .i64) false]⟩
  | 34 => some ⟨[.agg [(.bool, false), (.sl 97, false), (.bool, false), (.sl 97, false)]], [.cell (.bool) false]⟩
  | 14 => some ⟨[.agg [(.int .i64, false), (.sl 3, false), (.sl 55, false)], .cell (.int .i64) false, .agg [(.bool, false), (.sl 97, false), (.bool, false), (.sl 97, false)]], [.cell (.int .i64) false, .cell (.int .i64) false]⟩
  | 24 => some ⟨[.agg [(.int .i64, false), (.sl 3, false), (.sl 55, false)], .cell (.int .i64) false], [.cell (.int .i64) false]⟩
  | 17 => some ⟨[.agg [(.int .i64, false), (.sl 3, false), (.sl 55, false)], .cell (.int .i64) false, .cell (.int .i64) false, .agg [(.bool, false), (.sl 97, false), (.bool, false), (.sl 97, false)]], [.cell (.sl 55) true, .cell (.int .i64) false]⟩
  | 20 => some ⟨[.agg [(.int .i64, false), (.sl 3, false), (.sl 55, false)], .cell (.int .i64) false, .agg [(.bool, false), (.sl 97, false), (.bool, false), (.sl 97, false)]], [.cell (.int .i64) false, .cell (.int .i64) false]⟩
  | 25 => some ⟨[.agg [(.int .i64, false), (.sl 3, false), (.sl 55, false)], .cell (.sl 55) false], [.agg [(.int .i64, false), (.sl 3, false), (.sl 55, false)], .cell (.int .i64) false]⟩
  | 27 => some ⟨[.cell (.int .i64) false, .cell (.int .i64) false], [.agg [(.bool, false), (.sl 97, false), (.bool, false), (.sl 97, false)]]⟩
  | 10 => some ⟨[.agg [(.int .i64, false), (.sl 3, false), (.sl 55, false)]], [.cell (.bool) false]⟩
  | 11 => some ⟨[.agg [(.bool, false), (.sl 97, false), (.bool, false), (.sl 97, false)]], [.cell (.bool) false]⟩
  | 21 => some ⟨[.cell (.sl 55) false, .cell (.sl 55) false], [.cell (.bool) false]⟩
  | 31 => some ⟨[], [.agg [(.int .i64, false), (.sl 3, true), (.sl 55, true)]]⟩
  | 12 => some ⟨[], [.cell (.bool) false]⟩
  | 3 => some ⟨[.agg [(.int .i64, false), (.sl 3, false), (.sl 55, false)], .cell (.int .i64) false, .cell (.int .i64) false, .agg [(.bool, false), (.sl 97, false), (.bool, false), (.sl 97, false)]], [.cell (.bool) false]⟩
  | 4 => some ⟨[.agg [(.int .i64, false), (.sl 3, false), (.sl 55, false)], .cell (.int .i64) false, .cell (.int .i64) false, .cell (.int .u8) false, .cell (.int .u8) false, .cell (.int .u8) false], [.cell (.bool) false]⟩
  | 5 => some ⟨[.agg [(.int .i64, false), (.sl 3, false), (.sl 55, false)], .cell (.int .i64) false], [.cell (.bool) false]⟩
  | 8 => some ⟨[.agg [(.int .i64, false), (.sl 3, false), (.sl 55, false)], .cell (.int .i64) false, .cell (.int .i64) false], [.cell (.bool) false]⟩
  | 9 => some ⟨[.agg [(.int .i64, false), (.sl 3, false), (.sl 55, false)], .cell (.int .i64) false, .cell (.int .i64) false, .cell (.int .u8) false, .cell (.int .u8) false], [.cell (.bool) false]⟩
  | 6 => some ⟨[.agg [(.int .i64, false), (.sl 3, false), (.sl 55, false)], .cell (.int .i64) false, .cell (.int .i64) false, .cell (.int .u8) false, .cell (.int .u8) false], [.cell (.bool) false]⟩
  | 7 => some ⟨[.agg [(.int .i64, false), (.sl 3, false), (.sl 55, false)], .cell (.int .i64) false, .cell (.int .u8) false, .cell (.int .u8) false], [.cell (.bool) false]⟩
  | _ => none
def havs : Nat → Hav
  | 81007 => ⟨[(5, .int .i64)], [], []⟩
  | 98016 => ⟨[(10, .sl 97 false), (11, .sl 97 false), (8, .sl 97 false)], [], []⟩
  | _ => ⟨[], [], []⟩
def wrs : FuncId → Bool
  | 7 => true
  | _ => false
def rgs : FuncId → Bool
  | 50 => false
  | 49 => false
  | 28 => false
  | 51 => false
  | 29 => false
  | 30 => false
  | 22 => false
  | 35 => false
  | 71 => false
  | 45 => false
  | 23 => false
  | 68 => false
  | 44 => false
  | 40 => false
  | 43 => false
  | 24 => false
  | 25 => false
  | 10 => false
  | 11 => false
  | 21 => false
  | 31 => false
  | _ => true
def cuts : Nat → Bool := fun n => [133015009, 141003, 141016, 151008, 151010, 134003, 134011, 135009, 81004, 81010, 81012, 58010, 58011, 58506, 58508, 99006, 99008, 99010, 64004, 72005, 46006, 33503, 33506, 3503].contains n
noncomputable def cfgAt (l : List Nat) : Cfg := cfgOf Tryz.prog sgs havs wrs cuts rgs l
end Go.Sx.N
