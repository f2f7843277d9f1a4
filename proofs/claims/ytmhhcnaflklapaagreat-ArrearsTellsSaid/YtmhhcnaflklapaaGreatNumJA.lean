/-
  Several texts in one. Conditions: none.
-/
import Derived.Test.YtmhhcnaflklapaaGreatNumT
import Derived.Test.YtmhhcnaflklapaaGreatNumVA
import Derived.KernelRfl
import Derived.Test.YtmhhcnaflklapaaGreatNumVB
import Derived.Test.YtmhhcnaflklapaaGreatNumVC
import Derived.Test.YtmhhcnaflklapaaGreatNumVD
import Derived.Test.YtmhhcnaflklapaaGreatNumVE
import Derived.Test.YtmhhcnaflklapaaGreatNumVK
import Derived.Test.YtmhhcnaflklapaaGreatNumVG
import Derived.Test.YtmhhcnaflklapaaGreatNumVH
namespace Go.Sx.N
open Go.Proofs
theorem j_Sub32 : VCA b0 6 190 = V_Sub32 := by kernel_rfl
theorem j_Add32 : VCA b1 6 195 = V_Add32 := by kernel_rfl
theorem j_Len32 : VCA b2 6 194 = V_Len32 := by kernel_rfl
theorem j_Lz32 : VCA b3 6 186 = V_Lz32 := by kernel_rfl
theorem j_Div32 : VCA b4 6 193 = V_Div32 := by kernel_rfl
theorem j_Clone32 : VCA b5 6 184 = V_Clone32 := by kernel_rfl
theorem j_trim : VCA b6 6 178 = V_trim := by kernel_rfl
theorem j_pack : VCA b7 6 160 = V_pack := by kernel_rfl
theorem j_unpack : VCA b8 6 173 = V_unpack := by kernel_rfl
theorem j_long : VCA b9 6 182 = V_long := by kernel_rfl
theorem j_short : VCA b10 6 183 = V_short := by kernel_rfl
theorem j_compare : VCA b11 6 161 = V_compare := by kernel_rfl
theorem j_divideShort : VCA b12 6 185 = V_divideShort := by kernel_rfl
theorem j_shifted : VCA b13 6 187 = V_shifted := by kernel_rfl
theorem j_divide : VCA b14 6 175 = V_divide := by kernel_rfl
theorem j_head : VCA b15 6 191 = V_head := by kernel_rfl
theorem j_simulate : VCA b16 6 180 = V_simulate := by kernel_rfl
theorem j_difference : VCA b17 6 181 = V_difference := by kernel_rfl
theorem j_commonDivisor : VCA b18 6 174 = V_commonDivisor := by kernel_rfl
end Go.Sx.N
namespace Go.Sx.N
open Go.Proofs
theorem j_plus : VCA b19 6 176 = V_plus := by kernel_rfl
theorem j_minus : VCA b20 6 177 = V_minus := by kernel_rfl
theorem j_times : VCA b21 6 159 = V_times := by kernel_rfl
theorem j_Clone16 : VCA b22 6 125 = V_Clone16 := by kernel_rfl
theorem j_wValid : VCA b23 6 147 = V_wValid := by kernel_rfl
theorem j_wAllValid : VCA b24 6 157 = V_wAllValid := by kernel_rfl
theorem j_wFromInt : VCA b25 6 100 = V_wFromInt := by kernel_rfl
theorem j_wInt : VCA b26 6 139 = V_wInt := by kernel_rfl
theorem j_result : VCA b27 6 158 = V_result := by kernel_rfl
theorem j_sum : VCA b28 6 172 = V_sum := by kernel_rfl
theorem j_wAdd : VCA b29 6 153 = V_wAdd := by kernel_rfl
theorem j_wMul : VCA b30 6 133 = V_wMul := by kernel_rfl
theorem j_wDivMod : VCA b31 6 156 = V_wDivMod := by kernel_rfl
theorem j_wGcd : VCA b32 6 155 = V_wGcd := by kernel_rfl
theorem j_wCmp : VCA b33 6 136 = V_wCmp := by kernel_rfl
end Go.Sx.N
namespace Go.Sx.N
open Go.Proofs
theorem j_opposite : VCA b34 6 130 = V_opposite := by kernel_rfl
theorem j_fDivisor : VCA b35 6 131 = V_fDivisor := by kernel_rfl
theorem j_fPlus : VCA b36 6 127 = V_fPlus := by kernel_rfl
theorem j_fTimes : VCA b37 6 106 = V_fTimes := by kernel_rfl
theorem j_fDivide : VCA b38 6 132 = V_fDivide := by kernel_rfl
theorem j_lowest : VCA b39 6 105 = V_lowest := by kernel_rfl
theorem j_fValid : VCA b40 6 99 = V_fValid := by kernel_rfl
theorem j_fAllValid : VCA b41 6 104 = V_fAllValid := by kernel_rfl
theorem j_fFromInt : VCA b42 6 64 = V_fFromInt := by kernel_rfl
theorem j_fAdd : VCA b43 6 102 = V_fAdd := by kernel_rfl
theorem j_fMul : VCA b44 6 67 = V_fMul := by kernel_rfl
theorem j_fDiv : VCA b45 6 68 = V_fDiv := by kernel_rfl
theorem j_fCmp : VCA b46 6 110 = V_fCmp := by kernel_rfl
theorem j_fInt : VCA b47 6 111 = V_fInt := by kernel_rfl
theorem j_fRound : VCA b48 6 109 = V_fRound := by kernel_rfl
end Go.Sx.N
namespace Go.Sx.N
open Go.Proofs
theorem j_rTrim : VCA b49 6 145 = V_rTrim := by kernel_rfl
theorem j_rLess : VCA b50 6 141 = V_rLess := by kernel_rfl
theorem j_rPlus : VCA b51 6 140 = V_rPlus := by kernel_rfl
theorem j_rMinus : VCA b52 6 142 = V_rMinus := by kernel_rfl
theorem j_rTimes : VCA b53 6 118 = V_rTimes := by kernel_rfl
theorem j_rHalf : VCA b54 6 144 = V_rHalf := by kernel_rfl
theorem j_rShort : VCA b55 6 143 = V_rShort := by kernel_rfl
theorem j_rDivided : VCA b56 6 117 = V_rDivided := by kernel_rfl
theorem j_rMake : VCA b57 6 112 = V_rMake := by kernel_rfl
theorem j_rValid1 : VCA b58 6 113 = V_rValid1 := by kernel_rfl
theorem j_rFromInt1 : VCA b59 6 77 = V_rFromInt1 := by kernel_rfl
theorem j_rInt1 : VCA b60 6 90 = V_rInt1 := by kernel_rfl
theorem j_rNeg1 : VCA b61 6 146 = V_rNeg1 := by kernel_rfl
theorem j_rSum1 : VCA b62 6 116 = V_rSum1 := by kernel_rfl
theorem j_rProduct1 : VCA b63 6 86 = V_rProduct1 := by kernel_rfl
theorem j_rFloor1 : VCA b64 6 119 = V_rFloor1 := by kernel_rfl
theorem j_rCommon : VCA b65 6 115 = V_rCommon := by kernel_rfl
theorem j_rOrder1 : VCA b66 6 120 = V_rOrder1 := by kernel_rfl
end Go.Sx.N
namespace Go.Sx.N
open Go.Proofs
theorem j_rOne : VCA b67 6 89 = V_rOne := by kernel_rfl
theorem j_rFits : VCA b68 6 114 = V_rFits := by kernel_rfl
theorem j_rLowest : VCA b69 6 85 = V_rLowest := by kernel_rfl
theorem j_rValid2 : VCA b70 6 79 = V_rValid2 := by kernel_rfl
theorem j_rFromInt2 : VCA b71 6 44 = V_rFromInt2 := by kernel_rfl
theorem j_rPlus2 : VCA b72 6 81 = V_rPlus2 := by kernel_rfl
theorem j_rTimes2 : VCA b73 6 82 = V_rTimes2 := by kernel_rfl
theorem j_rOrder2 : VCA b74 6 88 = V_rOrder2 := by kernel_rfl
theorem j_rCmp2 : VCA b75 6 50 = V_rCmp2 := by kernel_rfl
theorem j_rInt2 : VCA b76 6 51 = V_rInt2 := by kernel_rfl
end Go.Sx.N
namespace Go.Sx.N
open Go.Proofs
end Go.Sx.N
namespace Go.Sx.N
open Go.Proofs
theorem j_has : VCA b87 6 57 = V_has := by kernel_rfl
theorem j_follow : VCA b88 6 41 = V_follow := by kernel_rfl
theorem j_Valid : VCA b89 6 15 = V_Valid := by kernel_rfl
theorem j_posted : VCA b90 6 58 = V_posted := by kernel_rfl
theorem j_Open : VCA b91 6 32 = V_Open := by kernel_rfl
theorem j_Total : VCA b92 6 31 = V_Total := by kernel_rfl
theorem j_Same : VCA b93 6 25 = V_Same := by kernel_rfl
theorem j_rHas : VCA b94 6 122 = V_rHas := by kernel_rfl
theorem j_rRight : VCA b95 6 93 = V_rRight := by kernel_rfl
theorem j_rPosts : VCA b96 6 53 = V_rPosts := by kernel_rfl
theorem j_rValid : VCA b97 6 26 = V_rValid := by kernel_rfl
theorem j_rPosted : VCA b98 6 54 = V_rPosted := by kernel_rfl
theorem j_Concat : VCA b99 6 92 = V_Concat := by kernel_rfl
theorem j_Post : VCA b100 6 52 = V_Post := by kernel_rfl
end Go.Sx.N
namespace Go.Sx.N
open Go.Proofs
theorem j_kWhole : VCA b77 6 71 = V_kWhole := by kernel_rfl
theorem j_kFrac : VCA b78 6 38 = V_kFrac := by kernel_rfl
theorem j_cmpI : VCA b79 6 97 = V_cmpI := by kernel_rfl
theorem j_cmpOr : VCA b80 6 96 = V_cmpOr := by kernel_rfl
theorem j_tCompare : VCA b81 6 60 = V_tCompare := by kernel_rfl
theorem j_Right : VCA b82 6 63 = V_Right := by kernel_rfl
theorem j_tValid : VCA b83 6 33 = V_tValid := by kernel_rfl
theorem j_copied : VCA b84 6 152 = V_copied := by kernel_rfl
theorem j_forced : VCA b85 6 150 = V_forced := by kernel_rfl
theorem j_Look : VCA b86 6 126 = V_Look := by kernel_rfl
end Go.Sx.N
