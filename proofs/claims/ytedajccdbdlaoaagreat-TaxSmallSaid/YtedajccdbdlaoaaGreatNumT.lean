/-
  The tables of the contracts. Conditions: none; printed by a program of our own.
-/
import Derived.Test.YtedajccdbdlaoaaGreatEngE
import Derived.Test.YtedajccdbdlaoaaGreatProg
import Derived.Test.YtedajccdbdlaoaaGreatNumBase
import Derived.Test.YtedajccdbdlaoaaGreatTaxSpec
namespace Go.Sx.N
open Go.Proofs
@[reducible] def b0 : List Nat := []
@[reducible] def b1 : List Nat := 159 :: b0
@[reducible] def b2 : List Nat := 164 :: b1
@[reducible] def b3 : List Nat := 163 :: b2
@[reducible] def b4 : List Nat := 155 :: b3
@[reducible] def b5 : List Nat := 162 :: b4
@[reducible] def b6 : List Nat := 153 :: b5
@[reducible] def b7 : List Nat := 146 :: b6
@[reducible] def b8 : List Nat := 100 :: b7
@[reducible] def b9 : List Nat := 141 :: b8
@[reducible] def b10 : List Nat := 151 :: b9
@[reducible] def b11 : List Nat := 152 :: b10
@[reducible] def b12 : List Nat := 99 :: b11
@[reducible] def b13 : List Nat := 154 :: b12
@[reducible] def b14 : List Nat := 156 :: b13
@[reducible] def b15 : List Nat := 143 :: b14
@[reducible] def b16 : List Nat := 160 :: b15
@[reducible] def b17 : List Nat := 149 :: b16
@[reducible] def b18 : List Nat := 150 :: b17
@[reducible] def b19 : List Nat := 142 :: b18
@[reducible] def b20 : List Nat := 144 :: b19
@[reducible] def b21 : List Nat := 145 :: b20
@[reducible] def b22 : List Nat := 125 :: b21
@[reducible] def b23 : List Nat := 93 :: b22
@[reducible] def b24 : List Nat := 101 :: b23
@[reducible] def b25 : List Nat := 133 :: b24
@[reducible] def b26 : List Nat := 98 :: b25
@[reducible] def b27 : List Nat := 67 :: b26
@[reducible] def b28 : List Nat := 61 :: b27
@[reducible] def b29 : List Nat := 97 :: b28
@[reducible] def b30 : List Nat := 124 :: b29
@[reducible] def b31 : List Nat := 123 :: b30
@[reducible] def b32 : List Nat := 90 :: b31
@[reducible] def b33 : List Nat := 91 :: b32
@[reducible] def b34 : List Nat := 122 :: b33
@[reducible] def b35 : List Nat := 121 :: b34
@[reducible] def b36 : List Nat := 64 :: b35
@[reducible] def b37 : List Nat := 87 :: b36
@[reducible] def b38 : List Nat := 88 :: b37
@[reducible] def b39 : List Nat := 58 :: b38
@[reducible] def b40 : List Nat := 59 :: b39
@[reducible] def b41 : List Nat := 89 :: b40
@[reducible] def b42 : List Nat := 57 :: b41
@[reducible] def b43 : List Nat := 81 :: b42
@[reducible] def b44 : List Nat := 56 :: b43
@[reducible] def b45 : List Nat := 26 :: b44
@[reducible] def b46 : List Nat := 32 :: b45
@[reducible] def b47 : List Nat := 25 :: b46
@[reducible] def b48 : List Nat := 31 :: b47
@[reducible] def b49 : List Nat := 30 :: b48
@[reducible] def b50 : List Nat := 28 :: b49
@[reducible] def b51 : List Nat := 65 :: b50
@[reducible] def b52 : List Nat := 63 :: b51
@[reducible] def b53 : List Nat := 62 :: b52
@[reducible] def b54 : List Nat := 140 :: b53
@[reducible] def b55 : List Nat := 114 :: b54
@[reducible] def b56 : List Nat := 115 :: b55
@[reducible] def b57 : List Nat := 117 :: b56
@[reducible] def b58 : List Nat := 148 :: b57
@[reducible] def b59 : List Nat := 116 :: b58
@[reducible] def b60 : List Nat := 113 :: b59
@[reducible] def b61 : List Nat := 80 :: b60
@[reducible] def b62 : List Nat := 79 :: b61
@[reducible] def b63 : List Nat := 111 :: b62
@[reducible] def b64 : List Nat := 47 :: b63
@[reducible] def b65 : List Nat := 110 :: b64
@[reducible] def b66 : List Nat := 136 :: b65
@[reducible] def b67 : List Nat := 139 :: b66
@[reducible] def b68 : List Nat := 138 :: b67
@[reducible] def b69 : List Nat := 109 :: b68
@[reducible] def b70 : List Nat := 77 :: b69
@[reducible] def b71 : List Nat := 137 :: b70
@[reducible] def b72 : List Nat := 78 :: b71
@[reducible] def b73 : List Nat := 112 :: b72
@[reducible] def b74 : List Nat := 46 :: b73
@[reducible] def b75 : List Nat := 75 :: b74
@[reducible] def b76 : List Nat := 20 :: b75
@[reducible] def b77 : List Nat := 19 :: b76
@[reducible] def b78 : List Nat := 107 :: b77
@[reducible] def b79 : List Nat := 105 :: b78
@[reducible] def b80 : List Nat := 108 :: b79
@[reducible] def b81 : List Nat := 106 :: b80
@[reducible] def b82 : List Nat := 76 :: b81
@[reducible] def b83 : List Nat := 73 :: b82
@[reducible] def b84 : List Nat := 74 :: b83
@[reducible] def b85 : List Nat := 104 :: b84
@[reducible] def b86 : List Nat := 71 :: b85
@[reducible] def b87 : List Nat := 39 :: b86
@[reducible] def b88 : List Nat := 102 :: b87
@[reducible] def b89 : List Nat := 68 :: b88
@[reducible] def b90 : List Nat := 33 :: b89
@[reducible] def b91 : List Nat := 22 :: b90
@[reducible] def b92 : List Nat := 52 :: b91
@[reducible] def b93 : List Nat := 48 :: b92
@[reducible] def b94 : List Nat := 21 :: b93
@[reducible] def b95 : List Nat := 51 :: b94
@[reducible] def b96 : List Nat := 53 :: b95
@[reducible] def b97 : List Nat := 55 :: b96
@[reducible] def b98 : List Nat := 24 :: b97
@[reducible] def b99 : List Nat := 27 :: b98
@[reducible] def b100 : List Nat := 69 :: b99
@[reducible] def b101 : List Nat := 34 :: b100
@[reducible] def b102 : List Nat := 23 :: b101
@[reducible] def b103 : List Nat := 43 :: b102
@[reducible] def b104 : List Nat := 72 :: b103
@[reducible] def b105 : List Nat := 41 :: b104
@[reducible] def b106 : List Nat := 42 :: b105
@[reducible] def b107 : List Nat := 35 :: b106
@[reducible] def b108 : List Nat := 45 :: b107
@[reducible] def b109 : List Nat := 14 :: b108
@[reducible] def b110 : List Nat := 44 :: b109
@[reducible] def b111 : List Nat := 16 :: b110
@[reducible] def b112 : List Nat := 40 :: b111
@[reducible] def b113 : List Nat := 36 :: b112
@[reducible] def b114 : List Nat := 38 :: b113
@[reducible] def b115 : List Nat := 15 :: b114
@[reducible] def b116 : List Nat := 17 :: b115
@[reducible] def b117 : List Nat := 18 :: b116
@[reducible] def b118 : List Nat := 29 :: b117
def Tb : FuncId → Pred
  | 159 => ⟨fun a => apP [.int, .int, .int] p_Sub32 a, fun a r => apP [.int, .int, .int, .int, .int] q_Sub32 (a ++ r)⟩
  | 164 => ⟨fun a => apP [.int, .int, .int] p_Add32 a, fun a r => apP [.int, .int, .int, .int, .int] q_Add32 (a ++ r)⟩
  | 163 => ⟨fun a => apP [.int] p_Len32 a, fun a r => apP [.int, .int] q_Len32 (a ++ r)⟩
  | 155 => ⟨fun a => apP [.int] p_Lz32 a, fun a r => apP [.int, .int] q_Lz32 (a ++ r)⟩
  | 162 => ⟨fun a => apP [.int, .int, .int] p_Div32 a, fun a r => apP [.int, .int, .int, .int, .int] q_Div32 (a ++ r)⟩
  | 153 => ⟨fun a => apP [.sl] p_Clone32 a, fun a r => apP [.sl, .sl] q_Clone32 (a ++ r)⟩
  | 146 => ⟨fun a => apP [.sl] p_trim a, fun a r => apP [.sl, .sl] q_trim (a ++ r)⟩
  | 100 => ⟨fun a => apP [.sl] p_pack a, fun a r => apP [.sl, .sl] q_pack (a ++ r)⟩
  | 141 => ⟨fun a => apP [.bool, .sl] p_unpack a, fun a r => apP [.bool, .sl, .bool, .sl] q_unpack (a ++ r)⟩
  | 151 => ⟨fun a => apP [.sl] p_long a, fun a r => apP [.sl, .int] q_long (a ++ r)⟩
  | 152 => ⟨fun a => apP [.int] p_short a, fun a r => apP [.int, .sl] q_short (a ++ r)⟩
  | 99 => ⟨fun a => apP [.sl, .sl] p_compare a, fun a r => apP [.sl, .sl, .int] q_compare (a ++ r)⟩
  | 154 => ⟨fun a => apP [.sl, .int] p_divideShort a, fun a r => apP [.sl, .int, .sl, .int] q_divideShort (a ++ r)⟩
  | 156 => ⟨fun a => apP [.sl, .int] p_shifted a, fun a r => apP [.sl, .int, .sl] q_shifted (a ++ r)⟩
  | 143 => ⟨fun a => apP [.sl, .sl] p_divide a, fun a r => apP [.sl, .sl, .sl, .sl] q_divide (a ++ r)⟩
  | 160 => ⟨fun a => apP [.sl, .int, .int] p_head a, fun a r => apP [.sl, .int, .int, .int] q_head (a ++ r)⟩
  | 149 => ⟨fun a => apP [.sl, .sl] p_simulate a, fun a r => apP [.sl, .sl, .int, .int, .int, .int, .bool] q_simulate (a ++ r)⟩
  | 150 => ⟨fun a => apP [.int, .sl, .int, .sl] p_difference a, fun a r => apP [.int, .sl, .int, .sl, .sl] q_difference (a ++ r)⟩
  | 142 => ⟨fun a => apP [.sl, .sl] p_commonDivisor a, fun a r => apP [.sl, .sl, .sl] q_commonDivisor (a ++ r)⟩
  | 144 => ⟨fun a => apP [.sl, .sl] p_plus a, fun a r => apP [.sl, .sl, .sl] q_plus (a ++ r)⟩
  | 145 => ⟨fun a => apP [.sl, .sl] p_minus a, fun a r => apP [.sl, .sl, .sl] q_minus (a ++ r)⟩
  | 125 => ⟨fun a => apP [.sl, .sl] p_times a, fun a r => apP [.sl, .sl, .sl] q_times (a ++ r)⟩
  | 93 => ⟨fun a => apP [.sl] p_Clone16 a, fun a r => apP [.sl, .sl] q_Clone16 (a ++ r)⟩
  | 101 => ⟨fun a => apP [.sl, .sl] p_Equal16 a, fun a r => apP [.sl, .sl, .bool] q_Equal16 (a ++ r)⟩
  | 133 => ⟨fun a => apP [.bool, .sl] p_wValid a, fun a r => apP [.bool, .sl, .bool] q_wValid (a ++ r)⟩
  | 98 => ⟨fun a => apP [.sl] p_wAllValid a, fun a r => apP [.sl, .bool] q_wAllValid (a ++ r)⟩
  | 67 => ⟨fun a => apP [.bool, .sl, .bool, .sl] p_wSame a, fun a r => apP [.bool, .sl, .bool, .sl, .bool] q_wSame (a ++ r)⟩
  | 61 => ⟨fun a => apP [.int] p_wFromInt a, fun a r => apP [.int, .bool, .sl] q_wFromInt (a ++ r)⟩
  | 97 => ⟨fun a => apP [.bool, .sl] p_wInt a, fun a r => apP [.bool, .sl, .int, .int] q_wInt (a ++ r)⟩
  | 124 => ⟨fun a => apP [.bool, .sl] p_result a, fun a r => apP [.bool, .sl, .bool, .sl, .int] q_result (a ++ r)⟩
  | 123 => ⟨fun a => apP [.bool, .sl, .bool, .sl] p_sum a, fun a r => apP [.bool, .sl, .bool, .sl, .bool, .sl, .int] q_sum (a ++ r)⟩
  | 90 => ⟨fun a => apP [.bool, .sl, .bool, .sl] p_wAdd a, fun a r => apP [.bool, .sl, .bool, .sl, .bool, .sl, .int] q_wAdd (a ++ r)⟩
  | 91 => ⟨fun a => apP [.bool, .sl, .bool, .sl] p_wMul a, fun a r => apP [.bool, .sl, .bool, .sl, .bool, .sl, .int] q_wMul (a ++ r)⟩
  | 122 => ⟨fun a => apP [.bool, .sl, .bool, .sl] p_wDivMod a, fun a r => apP [.bool, .sl, .bool, .sl, .bool, .sl, .bool, .sl, .int] q_wDivMod (a ++ r)⟩
  | 121 => ⟨fun a => apP [.bool, .sl, .bool, .sl] p_wGcd a, fun a r => apP [.bool, .sl, .bool, .sl, .bool, .sl, .int] q_wGcd (a ++ r)⟩
  | 64 => ⟨fun a => apP [.bool, .sl, .bool, .sl] p_wCmp a, fun a r => apP [.bool, .sl, .bool, .sl, .int] q_wCmp (a ++ r)⟩
  | 87 => ⟨fun a => apP [.bool, .sl] p_opposite a, fun a r => apP [.bool, .sl, .bool, .sl] q_opposite (a ++ r)⟩
  | 88 => ⟨fun a => apP [.bool, .sl, .bool, .sl] p_fDivisor a, fun a r => apP [.bool, .sl, .bool, .sl, .bool, .sl] q_fDivisor (a ++ r)⟩
  | 58 => ⟨fun a => apP [.bool, .sl, .bool, .sl] p_fPlus a, fun a r => apP [.bool, .sl, .bool, .sl, .bool, .sl] q_fPlus (a ++ r)⟩
  | 59 => ⟨fun a => apP [.bool, .sl, .bool, .sl] p_fTimes a, fun a r => apP [.bool, .sl, .bool, .sl, .bool, .sl] q_fTimes (a ++ r)⟩
  | 89 => ⟨fun a => apP [.bool, .sl, .bool, .sl] p_fDivide a, fun a r => apP [.bool, .sl, .bool, .sl, .bool, .sl, .bool, .sl] q_fDivide (a ++ r)⟩
  | 57 => ⟨fun a => apP [.bool, .sl, .bool, .sl] p_lowest a, fun a r => apP [.bool, .sl, .bool, .sl, .bool, .sl, .bool, .sl] q_lowest (a ++ r)⟩
  | 81 => ⟨fun a => apP [.bool, .sl, .bool, .sl] p_fValid a, fun a r => apP [.bool, .sl, .bool, .sl, .bool] q_fValid (a ++ r)⟩
  | 56 => ⟨fun a => apP [.sl] p_fAllValid a, fun a r => apP [.sl, .bool] q_fAllValid (a ++ r)⟩
  | 26 => ⟨fun a => apP [.int] p_fFromInt a, fun a r => apP [.int, .bool, .sl, .bool, .sl] q_fFromInt (a ++ r)⟩
  | 32 => ⟨fun a => apP [.bool, .sl, .bool, .sl, .bool, .sl, .bool, .sl] p_fSame a, fun a r => apP [.bool, .sl, .bool, .sl, .bool, .sl, .bool, .sl, .bool] q_fSame (a ++ r)⟩
  | 25 => ⟨fun a => apP [.bool, .sl, .bool, .sl, .bool, .sl, .bool, .sl] p_fAdd a, fun a r => apP [.bool, .sl, .bool, .sl, .bool, .sl, .bool, .sl, .bool, .sl, .bool, .sl, .int] q_fAdd (a ++ r)⟩
  | 31 => ⟨fun a => apP [.bool, .sl, .bool, .sl, .bool, .sl, .bool, .sl] p_fMul a, fun a r => apP [.bool, .sl, .bool, .sl, .bool, .sl, .bool, .sl, .bool, .sl, .bool, .sl, .int] q_fMul (a ++ r)⟩
  | 30 => ⟨fun a => apP [.bool, .sl, .bool, .sl, .bool, .sl, .bool, .sl] p_fDiv a, fun a r => apP [.bool, .sl, .bool, .sl, .bool, .sl, .bool, .sl, .bool, .sl, .bool, .sl, .int] q_fDiv (a ++ r)⟩
  | 28 => ⟨fun a => apP [.bool, .sl, .bool, .sl, .bool, .sl, .bool, .sl] p_fCmp a, fun a r => apP [.bool, .sl, .bool, .sl, .bool, .sl, .bool, .sl, .int] q_fCmp (a ++ r)⟩
  | 65 => ⟨fun a => apP [.bool, .sl, .bool, .sl] p_fFloor a, fun a r => apP [.bool, .sl, .bool, .sl, .bool, .sl, .int] q_fFloor (a ++ r)⟩
  | 63 => ⟨fun a => apP [.bool, .sl, .bool, .sl] p_fInt a, fun a r => apP [.bool, .sl, .bool, .sl, .int, .int] q_fInt (a ++ r)⟩
  | 62 => ⟨fun a => apP [.bool, .sl, .bool, .sl, .bool, .sl, .bool, .sl, .int] p_fRound a, fun a r => apP [.bool, .sl, .bool, .sl, .bool, .sl, .bool, .sl, .int, .bool, .sl, .bool, .sl, .int] q_fRound (a ++ r)⟩
  | 140 => ⟨fun a => apP [.sl] p_rTrim a, fun a r => apP [.sl, .sl] q_rTrim (a ++ r)⟩
  | 114 => ⟨fun a => apP [.sl, .sl] p_rLess a, fun a r => apP [.sl, .sl, .bool] q_rLess (a ++ r)⟩
  | 115 => ⟨fun a => apP [.sl, .sl] p_rPlus a, fun a r => apP [.sl, .sl, .sl] q_rPlus (a ++ r)⟩
  | 117 => ⟨fun a => apP [.sl, .sl] p_rMinus a, fun a r => apP [.sl, .sl, .sl] q_rMinus (a ++ r)⟩
  | 148 => ⟨fun a => apP [.sl, .sl] p_rTimes a, fun a r => apP [.sl, .sl, .sl] q_rTimes (a ++ r)⟩
  | 116 => ⟨fun a => apP [.sl] p_rHalf a, fun a r => apP [.sl, .sl] q_rHalf (a ++ r)⟩
  | 113 => ⟨fun a => apP [.sl, .int] p_rShort a, fun a r => apP [.sl, .int, .sl, .sl] q_rShort (a ++ r)⟩
  | 80 => ⟨fun a => apP [.sl, .sl] p_rDivided a, fun a r => apP [.sl, .sl, .sl, .sl] q_rDivided (a ++ r)⟩
  | 79 => ⟨fun a => apP [.bool, .sl] p_rMake a, fun a r => apP [.bool, .sl, .bool, .sl] q_rMake (a ++ r)⟩
  | 111 => ⟨fun a => apP [.bool, .sl] p_rValid1 a, fun a r => apP [.bool, .sl, .bool] q_rValid1 (a ++ r)⟩
  | 47 => ⟨fun a => apP [.int] p_rFromInt1 a, fun a r => apP [.int, .bool, .sl] q_rFromInt1 (a ++ r)⟩
  | 110 => ⟨fun a => apP [.bool, .sl] p_rInt1 a, fun a r => apP [.bool, .sl, .int, .int] q_rInt1 (a ++ r)⟩
  | 136 => ⟨fun a => apP [.bool, .sl] p_rNeg1 a, fun a r => apP [.bool, .sl, .bool, .sl] q_rNeg1 (a ++ r)⟩
  | 139 => ⟨fun a => apP [.bool, .sl, .bool, .sl] p_rSum1 a, fun a r => apP [.bool, .sl, .bool, .sl, .bool, .sl] q_rSum1 (a ++ r)⟩
  | 138 => ⟨fun a => apP [.bool, .sl, .bool, .sl] p_rProduct1 a, fun a r => apP [.bool, .sl, .bool, .sl, .bool, .sl] q_rProduct1 (a ++ r)⟩
  | 109 => ⟨fun a => apP [.bool, .sl, .bool, .sl] p_rFloor1 a, fun a r => apP [.bool, .sl, .bool, .sl, .bool, .sl, .bool, .sl] q_rFloor1 (a ++ r)⟩
  | 77 => ⟨fun a => apP [.sl, .sl] p_rCommon a, fun a r => apP [.sl, .sl, .sl] q_rCommon (a ++ r)⟩
  | 137 => ⟨fun a => apP [.bool, .sl, .bool, .sl] p_rOrder1 a, fun a r => apP [.bool, .sl, .bool, .sl, .int] q_rOrder1 (a ++ r)⟩
  | 78 => ⟨fun a => apP [.sl] p_rOne a, fun a r => apP [.sl, .bool] q_rOne (a ++ r)⟩
  | 112 => ⟨fun a => apP [.bool, .sl, .bool, .sl] p_rFits a, fun a r => apP [.bool, .sl, .bool, .sl, .bool] q_rFits (a ++ r)⟩
  | 46 => ⟨fun a => apP [.bool, .sl, .bool, .sl] p_rLowest a, fun a r => apP [.bool, .sl, .bool, .sl, .bool, .sl, .bool, .sl] q_rLowest (a ++ r)⟩
  | 75 => ⟨fun a => apP [.bool, .sl, .bool, .sl] p_rValid2 a, fun a r => apP [.bool, .sl, .bool, .sl, .bool] q_rValid2 (a ++ r)⟩
  | 20 => ⟨fun a => apP [.int] p_rFromInt2 a, fun a r => apP [.int, .bool, .sl, .bool, .sl] q_rFromInt2 (a ++ r)⟩
  | 19 => ⟨fun a => apP [.int, .int] p_rQuick a, fun a r => apP [.int, .int, .bool, .sl, .bool, .sl] q_rQuick (a ++ r)⟩
  | 107 => ⟨fun a => apP [.bool, .sl, .bool, .sl, .bool, .sl, .bool, .sl] p_rPlus2 a, fun a r => apP [.bool, .sl, .bool, .sl, .bool, .sl, .bool, .sl, .bool, .sl, .bool, .sl] q_rPlus2 (a ++ r)⟩
  | 105 => ⟨fun a => apP [.bool, .sl, .bool, .sl, .bool, .sl, .bool, .sl] p_rMinus2 a, fun a r => apP [.bool, .sl, .bool, .sl, .bool, .sl, .bool, .sl, .bool, .sl, .bool, .sl] q_rMinus2 (a ++ r)⟩
  | 108 => ⟨fun a => apP [.bool, .sl, .bool, .sl, .bool, .sl, .bool, .sl] p_rTimes2 a, fun a r => apP [.bool, .sl, .bool, .sl, .bool, .sl, .bool, .sl, .bool, .sl, .bool, .sl] q_rTimes2 (a ++ r)⟩
  | 106 => ⟨fun a => apP [.bool, .sl, .bool, .sl, .bool, .sl, .bool, .sl] p_rOrder2 a, fun a r => apP [.bool, .sl, .bool, .sl, .bool, .sl, .bool, .sl, .int] q_rOrder2 (a ++ r)⟩
  | 76 => ⟨fun a => apP [.bool, .sl, .bool, .sl, .bool, .sl, .bool, .sl] p_rCmp2 a, fun a r => apP [.bool, .sl, .bool, .sl, .bool, .sl, .bool, .sl, .int] q_rCmp2 (a ++ r)⟩
  | 73 => ⟨fun a => apP [.bool, .sl, .bool, .sl] p_rFloor2 a, fun a r => apP [.bool, .sl, .bool, .sl, .bool, .sl, .int] q_rFloor2 (a ++ r)⟩
  | 74 => ⟨fun a => apP [.bool, .sl, .bool, .sl] p_rInt2 a, fun a r => apP [.bool, .sl, .bool, .sl, .int, .int] q_rInt2 (a ++ r)⟩
  | 104 => ⟨fun a => apP [.sl, .sl] p_kSameLimbs a, fun a r => apP [.sl, .sl, .bool] q_kSameLimbs (a ++ r)⟩
  | 71 => ⟨fun a => apP [.bool, .sl, .bool, .sl] p_kSameWhole a, fun a r => apP [.bool, .sl, .bool, .sl, .bool] q_kSameWhole (a ++ r)⟩
  | 39 => ⟨fun a => apP [.bool, .sl, .bool, .sl, .bool, .sl, .bool, .sl] p_kSameFrac a, fun a r => apP [.bool, .sl, .bool, .sl, .bool, .sl, .bool, .sl, .bool] q_kSameFrac (a ++ r)⟩
  | 102 => ⟨fun a => apP [.sl] p_kCopyLimbs a, fun a r => apP [.sl, .sl] q_kCopyLimbs (a ++ r)⟩
  | 68 => ⟨fun a => apP [.bool, .sl] p_kCopyWhole a, fun a r => apP [.bool, .sl, .bool, .sl] q_kCopyWhole (a ++ r)⟩
  | 33 => ⟨fun a => apP [.bool, .sl, .bool, .sl] p_kCopyFrac a, fun a r => apP [.bool, .sl, .bool, .sl, .bool, .sl, .bool, .sl] q_kCopyFrac (a ++ r)⟩
  | 22 => ⟨fun a => apP [.int, .int] p_kPick a, fun a r => apP [.int, .int, .int] q_kPick (a ++ r)⟩
  | 52 => ⟨fun a => apP [.int] p_isAmount a, fun a r => apP [.int, .bool] q_isAmount (a ++ r)⟩
  | 48 => ⟨fun a => apP [.bool, .sl, .bool, .sl] p_validRate a, fun a r => apP [.bool, .sl, .bool, .sl, .bool] q_validRate (a ++ r)⟩
  | 21 => ⟨fun a => apP [.sl] p_tValid a, fun a r => apP [.sl, .bool] q_tValid (a ++ r)⟩
  | 51 => ⟨fun a => apP [.sl] p_validYears a, fun a r => apP [.sl, .bool] q_validYears (a ++ r)⟩
  | 53 => ⟨fun a => apP [.sl, .int] p_applying a, fun a r => apP [.sl, .int, .sl, .bool] q_applying (a ++ r)⟩
  | 55 => ⟨fun a => apP [.sl, .int, .int] p_exact a, fun a r => apP [.sl, .int, .int, .bool, .sl, .bool, .sl, .int] q_exact (a ++ r)⟩
  | 24 => ⟨fun a => apP [.sl, .int] p_tTax a, fun a r => apP [.sl, .int, .bool, .sl, .bool, .sl, .int] q_tTax (a ++ r)⟩
  | 27 => ⟨fun a => apP [.sl, .int, .int] p_tDue a, fun a r => apP [.sl, .int, .int, .int, .int] q_tDue (a ++ r)⟩
  | 69 => ⟨fun a => apP [.bool, .sl, .bool, .sl] p_ownFrac a, fun a r => apP [.bool, .sl, .bool, .sl, .bool, .sl, .bool, .sl] q_ownFrac (a ++ r)⟩
  | 34 => ⟨fun a => apP [.sl, .int] p_tScale a, fun a r => apP [.sl, .int, .sl, .int] q_tScale (a ++ r)⟩
  | 23 => ⟨fun a => apP [.sl, .int, .int, .int, .int, .int] p_tWithhold a, fun a r => apP [.sl, .int, .int, .int, .int, .int, .int, .int, .int, .int, .int] q_tWithhold (a ++ r)⟩
  | 43 => ⟨fun a => apP [.sl] p_xValid a, fun a r => apP [.sl, .bool] q_xValid (a ++ r)⟩
  | 72 => ⟨fun a => apP [.sl, .int, .int] p_taxed a, fun a r => apP [.sl, .int, .int, .bool, .sl, .bool, .sl] q_taxed (a ++ r)⟩
  | 41 => ⟨fun a => apP [.sl, .int] p_xTax a, fun a r => apP [.sl, .int, .bool, .sl, .bool, .sl, .int] q_xTax (a ++ r)⟩
  | 42 => ⟨fun a => apP [.sl, .int, .int] p_xDue a, fun a r => apP [.sl, .int, .int, .int, .int] q_xDue (a ++ r)⟩
  | 35 => ⟨fun a => apP [.sl, .int] p_xScale a, fun a r => apP [.sl, .int, .sl, .int] q_xScale (a ++ r)⟩
  | 45 => ⟨fun a => apP [.sl, .int, .int, .int, .int, .int] p_xWithhold a, fun a r => apP [.sl, .int, .int, .int, .int, .int, .int, .int, .int, .int, .int] q_xWithhold (a ++ r)⟩
  | 14 => ⟨fun a => apP [.sl] p_fits a, fun a r => apP [.sl, .bool] q_fits (a ++ r)⟩
  | 44 => ⟨fun a => apP [] p_example a, fun a r => apP [.sl] q_example (a ++ r)⟩
  | 16 => ⟨fun a => apP [] p_awake a, fun a r => apP [.bool] q_awake (a ++ r)⟩
  | 40 => ⟨fun a => apP [.sl] p_given a, fun a r => apP [.sl, .sl] q_given (a ++ r)⟩
  | 36 => ⟨fun a => apP [.sl, .sl] p_same a, fun a r => apP [.sl, .sl, .bool] q_same (a ++ r)⟩
  | 38 => ⟨fun a => apP [.sl] p_copied a, fun a r => apP [.sl, .sl] q_copied (a ++ r)⟩
  | 15 => ⟨fun a => apP [.sl, .int, .int] p_tells a, fun a r => apP [.sl, .int, .int, .bool] q_tells (a ++ r)⟩
  | 17 => ⟨fun a => apP [.sl] p_scales a, fun a r => apP [.sl, .sl, .bool] q_scales (a ++ r)⟩
  | 18 => ⟨fun a => apP [.sl, .sl, .int, .int, .int, .sl] p_withholds a, fun a r => apP [.sl, .sl, .int, .int, .int, .sl, .bool] q_withholds (a ++ r)⟩
  | 29 => ⟨fun a => apP [.bool, .sl, .bool, .sl] p_below a, fun a r => apP [.bool, .sl, .bool, .sl, .int] q_below (a ++ r)⟩
  | 3 => ⟨fun a => apP [.sl, .int, .int] p_Tells a, fun a r => apP [.sl, .int, .int, .bool] q_Tells (a ++ r)⟩
  | 4 => ⟨fun a => apP [.sl, .int, .int, .int, .sl] p_Withholds a, fun a r => apP [.sl, .int, .int, .int, .sl, .bool] q_Withholds (a ++ r)⟩
  | 9 => ⟨fun a => apP [.sl, .int, .sl] p_Year a, fun a r => apP [.sl, .int, .sl, .bool] q_Year (a ++ r)⟩
  | 6 => ⟨fun a => apP [.sl, .int] p_Even a, fun a r => apP [.sl, .int, .bool] q_Even (a ++ r)⟩
  | 7 => ⟨fun a => apP [.sl, .int, .int, .int, .int] p_Grows a, fun a r => apP [.sl, .int, .int, .int, .int, .bool] q_Grows (a ++ r)⟩
  | 10 => ⟨fun a => apP [.int, .int, .int, .int, .int] p_Flat a, fun a r => apP [.int, .int, .int, .int, .int, .bool] q_Flat (a ++ r)⟩
  | 11 => ⟨fun a => apP [.sl, .int, .int, .int, .int] p_Split a, fun a r => apP [.sl, .int, .int, .int, .int, .bool] q_Split (a ++ r)⟩
  | 8 => ⟨fun a => apP [.sl, .sl, .int, .int, .int, .int, .int] p_Anew a, fun a r => apP [.sl, .sl, .int, .int, .int, .int, .int, .bool] q_Anew (a ++ r)⟩
  | 13 => ⟨fun a => apP [.sl, .int, .int] p_Wrong a, fun a r => apP [.sl, .int, .int, .bool] q_Wrong (a ++ r)⟩
  | 5 => ⟨fun a => apP [] p_TSmall a, fun a r => apP [.bool] q_TSmall (a ++ r)⟩
  | _ => ⟨fun _ => True, fun _ _ => True⟩
def sgs : FuncId → Option Sig
  | 159 => some ⟨[.cell (.int .u32) false, .cell (.int .u32) false, .cell (.int .u32) false], [.cell (.int .u32) false, .cell (.int .u32) false]⟩
  | 164 => some ⟨[.cell (.int .u32) false, .cell (.int .u32) false, .cell (.int .u32) false], [.cell (.int .u32) false, .cell (.int .u32) false]⟩
  | 163 => some ⟨[.cell (.int .u32) false], [.cell (.int .i64) false]⟩
  | 155 => some ⟨[.cell (.int .u32) false], [.cell (.int .i64) false]⟩
  | 162 => some ⟨[.cell (.int .u32) false, .cell (.int .u32) false, .cell (.int .u32) false], [.cell (.int .u32) false, .cell (.int .u32) false]⟩
  | 153 => some ⟨[.cell (.sl 69) false], [.cell (.sl 69) true]⟩
  | 146 => some ⟨[.cell (.sl 69) false], [.cell (.sl 69) false]⟩
  | 100 => some ⟨[.cell (.sl 45) false], [.cell (.sl 69) false]⟩
  | 141 => some ⟨[.cell (.bool) false, .cell (.sl 69) false], [.agg [(.bool, false), (.sl 45, false)]]⟩
  | 151 => some ⟨[.cell (.sl 69) false], [.cell (.int .u64) false]⟩
  | 152 => some ⟨[.cell (.int .u64) false], [.cell (.sl 69) false]⟩
  | 99 => some ⟨[.cell (.sl 69) false, .cell (.sl 69) false], [.cell (.int .i64) false]⟩
  | 154 => some ⟨[.cell (.sl 69) false, .cell (.int .u32) false], [.cell (.sl 69) false, .cell (.int .u32) false]⟩
  | 156 => some ⟨[.cell (.sl 69) false, .cell (.int .i64) false], [.cell (.sl 69) true]⟩
  | 143 => some ⟨[.cell (.sl 69) false, .cell (.sl 69) false], [.cell (.sl 69) false, .cell (.sl 69) false]⟩
  | 160 => some ⟨[.cell (.sl 69) false, .cell (.int .i64) false, .cell (.int .i64) false], [.cell (.int .u64) false]⟩
  | 149 => some ⟨[.cell (.sl 69) false, .cell (.sl 69) false], [.agg [(.int .u64, false), (.int .u64, false), (.int .u64, false), (.int .u64, false), (.bool, false)]]⟩
  | 150 => some ⟨[.cell (.int .u64) false, .cell (.sl 69) false, .cell (.int .u64) false, .cell (.sl 69) false], [.cell (.sl 69) false]⟩
  | 142 => some ⟨[.cell (.sl 69) false, .cell (.sl 69) false], [.cell (.sl 69) false]⟩
  | 144 => some ⟨[.cell (.sl 69) false, .cell (.sl 69) false], [.cell (.sl 69) false]⟩
  | 145 => some ⟨[.cell (.sl 69) false, .cell (.sl 69) false], [.cell (.sl 69) false]⟩
  | 125 => some ⟨[.cell (.sl 69) false, .cell (.sl 69) false], [.cell (.sl 69) false]⟩
  | 93 => some ⟨[.cell (.sl 45) false], [.cell (.sl 45) false]⟩
  | 101 => some ⟨[.cell (.sl 45) false, .cell (.sl 45) false], [.cell (.bool) false]⟩
  | 133 => some ⟨[.agg [(.bool, false), (.sl 45, false)]], [.cell (.bool) false]⟩
  | 98 => some ⟨[.cell (.sl 37) false], [.cell (.bool) false]⟩
  | 67 => some ⟨[.agg [(.bool, false), (.sl 45, false)], .agg [(.bool, false), (.sl 45, false)]], [.cell (.bool) false]⟩
  | 61 => some ⟨[.cell (.int .i64) false], [.agg [(.bool, false), (.sl 45, false)]]⟩
  | 97 => some ⟨[.agg [(.bool, false), (.sl 45, false)]], [.cell (.int .i64) false, .cell (.int .i64) false]⟩
  | 124 => some ⟨[.cell (.bool) false, .cell (.sl 69) false], [.agg [(.bool, false), (.sl 45, false)], .cell (.int .i64) false]⟩
  | 123 => some ⟨[.cell (.bool) false, .cell (.sl 69) false, .cell (.bool) false, .cell (.sl 69) false], [.agg [(.bool, false), (.sl 45, false)], .cell (.int .i64) false]⟩
  | 90 => some ⟨[.agg [(.bool, false), (.sl 45, false)], .agg [(.bool, false), (.sl 45, false)]], [.agg [(.bool, false), (.sl 45, false)], .cell (.int .i64) false]⟩
  | 91 => some ⟨[.agg [(.bool, false), (.sl 45, false)], .agg [(.bool, false), (.sl 45, false)]], [.agg [(.bool, false), (.sl 45, false)], .cell (.int .i64) false]⟩
  | 122 => some ⟨[.agg [(.bool, false), (.sl 45, false)], .agg [(.bool, false), (.sl 45, false)]], [.agg [(.bool, false), (.sl 45, false)], .agg [(.bool, false), (.sl 45, false)], .cell (.int .i64) false]⟩
  | 121 => some ⟨[.agg [(.bool, false), (.sl 45, false)], .agg [(.bool, false), (.sl 45, false)]], [.agg [(.bool, false), (.sl 45, false)], .cell (.int .i64) false]⟩
  | 64 => some ⟨[.agg [(.bool, false), (.sl 45, false)], .agg [(.bool, false), (.sl 45, false)]], [.cell (.int .i64) false]⟩
  | 87 => some ⟨[.agg [(.bool, false), (.sl 45, false)]], [.agg [(.bool, false), (.sl 45, false)]]⟩
  | 88 => some ⟨[.agg [(.bool, false), (.sl 45, false)], .agg [(.bool, false), (.sl 45, false)]], [.agg [(.bool, false), (.sl 45, false)]]⟩
  | 58 => some ⟨[.agg [(.bool, false), (.sl 45, false)], .agg [(.bool, false), (.sl 45, false)]], [.agg [(.bool, false), (.sl 45, false)]]⟩
  | 59 => some ⟨[.agg [(.bool, false), (.sl 45, false)], .agg [(.bool, false), (.sl 45, false)]], [.agg [(.bool, false), (.sl 45, false)]]⟩
  | 89 => some ⟨[.agg [(.bool, false), (.sl 45, false)], .agg [(.bool, false), (.sl 45, false)]], [.agg [(.bool, false), (.sl 45, false)], .agg [(.bool, false), (.sl 45, false)]]⟩
  | 57 => some ⟨[.agg [(.bool, false), (.sl 45, false)], .agg [(.bool, false), (.sl 45, false)]], [.agg [(.bool, false), (.sl 45, false), (.bool, false), (.sl 45, false)]]⟩
  | 81 => some ⟨[.agg [(.bool, false), (.sl 45, false), (.bool, false), (.sl 45, false)]], [.cell (.bool) false]⟩
  | 56 => some ⟨[.cell (.sl 39) false], [.cell (.bool) false]⟩
  | 26 => some ⟨[.cell (.int .i64) false], [.agg [(.bool, false), (.sl 45, false), (.bool, false), (.sl 45, false)]]⟩
  | 32 => some ⟨[.agg [(.bool, false), (.sl 45, false), (.bool, false), (.sl 45, false)], .agg [(.bool, false), (.sl 45, false), (.bool, false), (.sl 45, false)]], [.cell (.bool) false]⟩
  | 25 => some ⟨[.agg [(.bool, false), (.sl 45, false), (.bool, false), (.sl 45, false)], .agg [(.bool, false), (.sl 45, false), (.bool, false), (.sl 45, false)]], [.agg [(.bool, false), (.sl 45, false), (.bool, false), (.sl 45, false)], .cell (.int .i64) false]⟩
  | 31 => some ⟨[.agg [(.bool, false), (.sl 45, false), (.bool, false), (.sl 45, false)], .agg [(.bool, false), (.sl 45, false), (.bool, false), (.sl 45, false)]], [.agg [(.bool, false), (.sl 45, false), (.bool, false), (.sl 45, false)], .cell (.int .i64) false]⟩
  | 30 => some ⟨[.agg [(.bool, false), (.sl 45, false), (.bool, false), (.sl 45, false)], .agg [(.bool, false), (.sl 45, false), (.bool, false), (.sl 45, false)]], [.agg [(.bool, false), (.sl 45, false), (.bool, false), (.sl 45, false)], .cell (.int .i64) false]⟩
  | 28 => some ⟨[.agg [(.bool, false), (.sl 45, false), (.bool, false), (.sl 45, false)], .agg [(.bool, false), (.sl 45, false), (.bool, false), (.sl 45, false)]], [.cell (.int .i64) false]⟩
  | 65 => some ⟨[.agg [(.bool, false), (.sl 45, false), (.bool, false), (.sl 45, false)]], [.agg [(.bool, false), (.sl 45, false)], .cell (.int .i64) false]⟩
  | 63 => some ⟨[.agg [(.bool, false), (.sl 45, false), (.bool, false), (.sl 45, false)]], [.cell (.int .i64) false, .cell (.int .i64) false]⟩
  | 62 => some ⟨[.agg [(.bool, false), (.sl 45, false), (.bool, false), (.sl 45, false)], .agg [(.bool, false), (.sl 45, false), (.bool, false), (.sl 45, false)], .cell (.int .u8) false], [.agg [(.bool, false), (.sl 45, false), (.bool, false), (.sl 45, false)], .cell (.int .i64) false]⟩
  | 140 => some ⟨[.cell (.sl 45) false], [.cell (.sl 45) false]⟩
  | 114 => some ⟨[.cell (.sl 45) false, .cell (.sl 45) false], [.cell (.bool) false]⟩
  | 115 => some ⟨[.cell (.sl 45) false, .cell (.sl 45) false], [.cell (.sl 45) false]⟩
  | 117 => some ⟨[.cell (.sl 45) false, .cell (.sl 45) false], [.cell (.sl 45) false]⟩
  | 148 => some ⟨[.cell (.sl 45) false, .cell (.sl 45) false], [.cell (.sl 45) false]⟩
  | 116 => some ⟨[.cell (.sl 45) false], [.cell (.sl 45) false]⟩
  | 113 => some ⟨[.cell (.sl 45) false, .cell (.int .i64) false], [.cell (.sl 45) false, .cell (.sl 45) false]⟩
  | 80 => some ⟨[.cell (.sl 45) false, .cell (.sl 45) false], [.cell (.sl 45) false, .cell (.sl 45) false]⟩
  | 79 => some ⟨[.cell (.bool) false, .cell (.sl 45) false], [.agg [(.bool, false), (.sl 45, false)]]⟩
  | 111 => some ⟨[.agg [(.bool, false), (.sl 45, false)]], [.cell (.bool) false]⟩
  | 47 => some ⟨[.cell (.int .i64) false], [.agg [(.bool, false), (.sl 45, false)]]⟩
  | 110 => some ⟨[.agg [(.bool, false), (.sl 45, false)]], [.cell (.int .i64) false, .cell (.int .i64) false]⟩
  | 136 => some ⟨[.agg [(.bool, false), (.sl 45, false)]], [.agg [(.bool, false), (.sl 45, false)]]⟩
  | 139 => some ⟨[.agg [(.bool, false), (.sl 45, false)], .agg [(.bool, false), (.sl 45, false)]], [.agg [(.bool, false), (.sl 45, false)]]⟩
  | 138 => some ⟨[.agg [(.bool, false), (.sl 45, false)], .agg [(.bool, false), (.sl 45, false)]], [.agg [(.bool, false), (.sl 45, false)]]⟩
  | 109 => some ⟨[.agg [(.bool, false), (.sl 45, false)], .agg [(.bool, false), (.sl 45, false)]], [.agg [(.bool, false), (.sl 45, false)], .agg [(.bool, false), (.sl 45, false)]]⟩
  | 77 => some ⟨[.cell (.sl 45) false, .cell (.sl 45) false], [.cell (.sl 45) false]⟩
  | 137 => some ⟨[.agg [(.bool, false), (.sl 45, false)], .agg [(.bool, false), (.sl 45, false)]], [.cell (.int .i64) false]⟩
  | 78 => some ⟨[.cell (.sl 45) false], [.cell (.bool) false]⟩
  | 112 => some ⟨[.agg [(.bool, false), (.sl 45, false), (.bool, false), (.sl 45, false)]], [.cell (.bool) false]⟩
  | 46 => some ⟨[.agg [(.bool, false), (.sl 45, false)], .agg [(.bool, false), (.sl 45, false)]], [.agg [(.bool, false), (.sl 45, false), (.bool, false), (.sl 45, false)]]⟩
  | 75 => some ⟨[.agg [(.bool, false), (.sl 45, false), (.bool, false), (.sl 45, false)]], [.cell (.bool) false]⟩
  | 20 => some ⟨[.cell (.int .i64) false], [.agg [(.bool, false), (.sl 45, false), (.bool, false), (.sl 45, false)]]⟩
  | 19 => some ⟨[.cell (.int .i64) false, .cell (.int .i64) false], [.agg [(.bool, false), (.sl 45, false), (.bool, false), (.sl 45, false)]]⟩
  | 107 => some ⟨[.agg [(.bool, false), (.sl 45, false), (.bool, false), (.sl 45, false)], .agg [(.bool, false), (.sl 45, false), (.bool, false), (.sl 45, false)]], [.agg [(.bool, false), (.sl 45, false), (.bool, false), (.sl 45, false)]]⟩
  | 105 => some ⟨[.agg [(.bool, false), (.sl 45, false), (.bool, false), (.sl 45, false)], .agg [(.bool, false), (.sl 45, false), (.bool, false), (.sl 45, false)]], [.agg [(.bool, false), (.sl 45, false), (.bool, false), (.sl 45, false)]]⟩
  | 108 => some ⟨[.agg [(.bool, false), (.sl 45, false), (.bool, false), (.sl 45, false)], .agg [(.bool, false), (.sl 45, false), (.bool, false), (.sl 45, false)]], [.agg [(.bool, false), (.sl 45, false), (.bool, false), (.sl 45, false)]]⟩
  | 106 => some ⟨[.agg [(.bool, false), (.sl 45, false), (.bool, false), (.sl 45, false)], .agg [(.bool, false), (.sl 45, false), (.bool, false), (.sl 45, false)]], [.cell (.int .i64) false]⟩
  | 76 => some ⟨[.agg [(.bool, false), (.sl 45, false), (.bool, false), (.sl 45, false)], .agg [(.bool, false), (.sl 45, false), (.bool, false), (.sl 45, false)]], [.cell (.int .i64) false]⟩
  | 73 => some ⟨[.agg [(.bool, false), (.sl 45, false), (.bool, false), (.sl 45, false)]], [.agg [(.bool, false), (.sl 45, false)], .cell (.int .i64) false]⟩
  | 74 => some ⟨[.agg [(.bool, false), (.sl 45, false), (.bool, false), (.sl 45, false)]], [.cell (.int .i64) false, .cell (.int .i64) false]⟩
  | 104 => some ⟨[.cell (.sl 45) false, .cell (.sl 45) false], [.cell (.bool) false]⟩
  | 71 => some ⟨[.agg [(.bool, false), (.sl 45, false)], .agg [(.bool, false), (.sl 45, false)]], [.cell (.bool) false]⟩
  | 39 => some ⟨[.agg [(.bool, false), (.sl 45, false), (.bool, false), (.sl 45, false)], .agg [(.bool, false), (.sl 45, false), (.bool, false), (.sl 45, false)]], [.cell (.bool) false]⟩
  | 102 => some ⟨[.cell (.sl 45) false], [.cell (.sl 45) false]⟩
  | 68 => some ⟨[.agg [(.bool, false), (.sl 45, false)]], [.agg [(.bool, false), (.sl 45, false)]]⟩
  | 33 => some ⟨[.agg [(.bool, false), (.sl 45, false), (.bool, false), (.sl 45, false)]], [.agg [(.bool, false), (.sl 45, false), (.bool, false), (.sl 45, false)]]⟩
  | 22 => some ⟨[.cell (.int .i64) false, .cell (.int .i64) false], [.cell (.int .i64) false]⟩
  | 52 => some ⟨[.cell (.int .i64) false], [.cell (.bool) false]⟩
  | 48 => some ⟨[.agg [(.bool, false), (.sl 45, false), (.bool, false), (.sl 45, false)]], [.cell (.bool) false]⟩
  | 21 => some ⟨[.cell (.sl 42) false], [.cell (.bool) false]⟩
  | 51 => some ⟨[.cell (.sl 48) false], [.cell (.bool) false]⟩
  | 53 => some ⟨[.cell (.sl 48) false, .cell (.int .i64) false], [.cell (.sl 42) false, .cell (.bool) false]⟩
  | 55 => some ⟨[.cell (.sl 42) false, .cell (.int .i64) false, .cell (.int .i64) false], [.agg [(.bool, false), (.sl 45, false), (.bool, false), (.sl 45, false)], .cell (.int .i64) false]⟩
  | 24 => some ⟨[.cell (.sl 42) false, .cell (.int .i64) false], [.agg [(.bool, false), (.sl 45, false), (.bool, false), (.sl 45, false)], .cell (.int .i64) false]⟩
  | 27 => some ⟨[.cell (.sl 42) false, .cell (.int .i64) false, .cell (.int .i64) false], [.cell (.int .i64) false, .cell (.int .i64) false]⟩
  | 69 => some ⟨[.agg [(.bool, false), (.sl 45, false), (.bool, false), (.sl 45, false)]], [.agg [(.bool, false), (.sl 45, false), (.bool, false), (.sl 45, false)]]⟩
  | 34 => some ⟨[.cell (.sl 48) false, .cell (.int .i64) false], [.cell (.sl 42) false, .cell (.int .i64) false]⟩
  | 23 => some ⟨[.cell (.sl 48) false, .agg [(.int .i64, false), (.int .i64, false), (.int .i64, false)], .cell (.int .i64) false, .cell (.int .i64) false], [.cell (.int .i64) false, .agg [(.int .i64, false), (.int .i64, false), (.int .i64, false)], .cell (.int .i64) false]⟩
  | 43 => some ⟨[.cell (.sl 122) false], [.cell (.bool) false]⟩
  | 72 => some ⟨[.cell (.sl 122) false, .cell (.int .i64) false, .cell (.int .i64) false], [.agg [(.bool, false), (.sl 45, false), (.bool, false), (.sl 45, false)]]⟩
  | 41 => some ⟨[.cell (.sl 122) false, .cell (.int .i64) false], [.agg [(.bool, false), (.sl 45, false), (.bool, false), (.sl 45, false)], .cell (.int .i64) false]⟩
  | 42 => some ⟨[.cell (.sl 122) false, .cell (.int .i64) false, .cell (.int .i64) false], [.cell (.int .i64) false, .cell (.int .i64) false]⟩
  | 35 => some ⟨[.cell (.sl 84) false, .cell (.int .i64) false], [.cell (.sl 122) false, .cell (.int .i64) false]⟩
  | 45 => some ⟨[.cell (.sl 84) false, .agg [(.int .i64, false), (.int .i64, false), (.int .i64, false)], .cell (.int .i64) false, .cell (.int .i64) false], [.cell (.int .i64) false, .agg [(.int .i64, false), (.int .i64, false), (.int .i64, false)], .cell (.int .i64) false]⟩
  | 14 => some ⟨[.cell (.sl 42) false], [.cell (.bool) false]⟩
  | 44 => some ⟨[], [.cell (.sl 42) false]⟩
  | 16 => some ⟨[], [.cell (.bool) false]⟩
  | 40 => some ⟨[.cell (.sl 42) false], [.cell (.sl 122) false]⟩
  | 36 => some ⟨[.cell (.sl 42) false, .cell (.sl 122) false], [.cell (.bool) false]⟩
  | 38 => some ⟨[.cell (.sl 42) false], [.cell (.sl 42) true]⟩
  | 15 => some ⟨[.cell (.sl 42) false, .cell (.int .i64) false, .cell (.int .i64) false], [.cell (.bool) false]⟩
  | 17 => some ⟨[.cell (.sl 48) false], [.cell (.sl 84) false, .cell (.bool) false]⟩
  | 18 => some ⟨[.cell (.sl 48) false, .cell (.sl 84) false, .agg [(.int .i64, false), (.int .i64, false), (.int .i64, false)], .cell (.sl 50) false], [.cell (.bool) false]⟩
  | 29 => some ⟨[.agg [(.bool, false), (.sl 45, false), (.bool, false), (.sl 45, false)]], [.cell (.int .i64) false]⟩
  | 3 => some ⟨[.cell (.sl 42) false, .cell (.int .i64) false, .cell (.int .i64) false], [.cell (.bool) false]⟩
  | 4 => some ⟨[.cell (.sl 48) false, .agg [(.int .i64, false), (.int .i64, false), (.int .i64, false)], .cell (.sl 50) false], [.cell (.bool) false]⟩
  | 9 => some ⟨[.cell (.sl 42) false, .cell (.int .u8) false, .cell (.sl 50) false], [.cell (.bool) false]⟩
  | 6 => some ⟨[.cell (.sl 42) false, .cell (.int .i64) false], [.cell (.bool) false]⟩
  | 7 => some ⟨[.cell (.sl 42) false, .agg [(.int .i64, false), (.int .i64, false)], .agg [(.int .u8, false), (.int .u8, false)]], [.cell (.bool) false]⟩
  | 10 => some ⟨[.agg [(.int .u32, false), (.int .u32, false)], .agg [(.int .i64, false), (.int .i64, false)], .cell (.int .u8) false], [.cell (.bool) false]⟩
  | 11 => some ⟨[.cell (.sl 42) false, .agg [(.int .i64, false), (.int .i64, false), (.int .i64, false)], .cell (.int .u8) false], [.cell (.bool) false]⟩
  | 8 => some ⟨[.agg [(.sl 42, false), (.sl 42, false)], .agg [(.int .i64, false), (.int .i64, false), (.int .i64, false)], .agg [(.int .i64, false), (.int .i64, false)]], [.cell (.bool) false]⟩
  | 13 => some ⟨[.cell (.sl 42) false, .cell (.int .u8) false, .cell (.int .i64) false], [.cell (.bool) false]⟩
  | 5 => some ⟨[], [.cell (.bool) false]⟩
  | _ => none
def havs : Nat → Hav
  | 61007 => ⟨[(5, .int .i64)], [], []⟩
  | 80016 => ⟨[(10, .sl 45 false), (11, .sl 45 false), (8, .sl 45 false)], [], []⟩
  | 35003 => ⟨[(6, .int .i64), (7, .int .i64)], [], []⟩
  | 5003 => ⟨[(2, .int .i64), (1, .sl 42 false)], [], []⟩
  | 5015 => ⟨[(9, .int .i64), (4, .sl 3 false), (5, .sl 39 false)], [], []⟩
  | _ => ⟨[], [], []⟩
def wrs : FuncId → Bool
  | 18 => true
  | _ => false
def rgs : FuncId → Bool
  | _ => true
def cuts : Nat → Bool := fun n => [143015009, 142003, 142016, 150008, 150010, 144003, 144011, 145009, 61004, 61010, 61012, 62010, 62011, 62506, 62508, 115006, 115008, 115010, 47004, 55997006, 55999008, 72011, 7512, 10512, 11010, 11014, 11016, 11018, 13018, 8006].contains n
noncomputable def cfgAt (l : List Nat) : Cfg := cfgOf Tryz.prog sgs havs wrs cuts rgs l
end Go.Sx.N
