/-
  The tables of the contracts. Conditions: none; printed by a program of our own.
-/
import Derived.Test.YtehofgnfaiefkaaGreatEngE
import Derived.Test.YtehofgnfaiefkaaGreatProg
import Derived.Test.YtehofgnfaiefkaaGreatNumBase
import Derived.Test.YtehofgnfaiefkaaGreatTabSpec
import Derived.Test.YtehofgnfaiefkaaGreatMemSpec
namespace Go.Sx.N
open Go.Proofs
def WA (a r : List RK) (p : CurP a) (q : CurP (a ++ r)) : Pred := ⟨fun x => apP a p x, fun x y => apP (a ++ r) q (x ++ y)⟩
abbrev Ki (k : IntKind) : K × Bool := (.int k, false)
abbrev Kb : K × Bool := (.bool, false)
abbrev Ky : K × Bool := (.str, false)
abbrev Ks (e : TypeId) (o : Bool) : K × Bool := (.sl e, o)
abbrev Ci (k : IntKind) : VSh := .cell (.int k) false
abbrev Cb : VSh := .cell .bool false
abbrev Cs (e : TypeId) (o : Bool) : VSh := .cell (.sl e) o
abbrev Rk0 : List RK := [.int, .int, .int]
abbrev Rk1 : List RK := [.int, .int]
abbrev Rk2 : List RK := [.int]
abbrev Rk3 : List RK := [.sl]
abbrev Rk4 : List RK := [.bool, .sl]
abbrev Rk5 : List RK := [.sl, .sl]
abbrev Rk6 : List RK := [.sl, .int]
abbrev Rk7 : List RK := [.sl, .int, .int]
abbrev Rk8 : List RK := [.int, .int, .int, .int, .bool]
abbrev Rk9 : List RK := [.int, .sl, .int, .sl]
abbrev Rk10 : List RK := [.bool]
abbrev Rk11 : List RK := [.bool, .sl, .bool, .sl]
abbrev Rk12 : List RK := [.bool, .sl, .int]
abbrev Rk13 : List RK := [.bool, .sl, .bool, .sl, .bool, .sl, .bool, .sl]
abbrev Rk14 : List RK := [.int, .int, .int, .bool, .sl, .bool, .sl, .int, .int, .int, .bool, .sl, .bool, .sl]
abbrev Rk15 : List RK := [.bool, .int, .int, .int, .bool, .sl, .bool, .sl]
abbrev Rk16 : List RK := [.str, .bool, .sl]
abbrev Rk17 : List RK := [.str, .bool, .sl, .int]
abbrev Rk18 : List RK := [.str, .bool, .sl, .int, .int]
abbrev Rk19 : List RK := [.bool, .sl, .bool, .sl, .int]
abbrev Rk20 : List RK := [.str, .bool, .sl, .int, .int, .int]
abbrev Rk21 : List RK := [.str, .bool, .sl, .str, .bool, .sl]
abbrev Rk22 : List RK := [.int, .int, .int, .int, .int]
abbrev Rk23 : List RK := [.int, .int, .int, .bool, .sl, .bool, .sl]
abbrev Rk24 : List RK := []
abbrev Ag0 : VSh := .agg [Kb, Ks 78 false]
abbrev Ag1 : VSh := .agg [Ki .u64, Ki .u64, Ki .u64, Ki .u64, Kb]
abbrev Ag2 : VSh := .agg [Kb, Ks 78 false, Kb, Ks 78 false]
abbrev Ag3 : VSh := .agg [Ki .i64, Ki .i64, Ki .i64, Kb, Ks 78 false, Kb, Ks 78 false]
abbrev Ag4 : VSh := .agg [Ky, Kb, Ks 34 false]
abbrev Ag5 : VSh := .agg [Kb, Ks 78 true, Kb, Ks 78 true]
abbrev Ag6 : VSh := .agg [Ky, Kb, Ks 2000000034 true]
abbrev b0 : List Nat := []
abbrev b1 := 116 :: b0
abbrev b2 := 121 :: b1
abbrev b3 := 118 :: b2
abbrev b4 := 110 :: b3
abbrev b5 := 120 :: b4
abbrev b6 := 112 :: b5
abbrev b7 := 103 :: b6
abbrev b8 := 101 :: b7
abbrev b9 := 99 :: b8
abbrev b10 := 108 :: b9
abbrev b11 := 109 :: b10
abbrev b12 := 104 :: b11
abbrev b13 := 113 :: b12
abbrev b14 := 114 :: b13
abbrev b15 := 106 :: b14
abbrev b16 := 111 :: b15
abbrev b17 := 105 :: b16
abbrev b18 := 107 :: b17
abbrev b19 := 100 :: b18
abbrev b20 := 63 :: b19
abbrev b21 := 84 :: b20
abbrev b22 := 98 :: b21
abbrev b23 := 92 :: b22
abbrev b24 := 87 :: b23
abbrev b25 := 50 :: b24
abbrev b26 := 102 :: b25
abbrev b27 := 94 :: b26
abbrev b28 := 95 :: b27
abbrev b29 := 97 :: b28
abbrev b30 := 96 :: b29
abbrev b31 := 93 :: b30
abbrev b32 := 88 :: b31
abbrev b33 := 72 :: b32
abbrev b34 := 75 :: b33
abbrev b35 := 74 :: b34
abbrev b36 := 73 :: b35
abbrev b37 := 51 :: b36
abbrev b38 := 64 :: b37
abbrev b39 := 41 :: b38
abbrev b40 := 17 :: b39
abbrev b41 := 65 :: b40
abbrev b42 := 42 :: b41
abbrev b43 := 8 :: b42
abbrev b44 := 68 :: b43
abbrev b45 := 67 :: b44
abbrev b46 := 46 :: b45
abbrev b47 := 23 :: b46
abbrev b48 := 29 :: b47
abbrev b49 := 33 :: b48
abbrev b50 := 31 :: b49
abbrev b51 := 11 :: b50
abbrev b52 := 13 :: b51
abbrev b53 := 52 :: b52
abbrev b54 := 55 :: b53
abbrev b55 := 27 :: b54
abbrev b56 := 18 :: b55
abbrev b57 := 7 :: b56
abbrev b58 := 10 :: b57
abbrev b59 := 15 :: b58
abbrev b60 := 16 :: b59
abbrev b61 := 24 :: b60
abbrev b62 := 49 :: b61
abbrev b63 := 34 :: b62
abbrev b64 := 35 :: b63
abbrev b65 := 12 :: b64
abbrev b66 := 14 :: b65
abbrev b67 := 5 :: b66
abbrev b68 := 6 :: b67
def Tb : FuncId → Pred
  | 116 => WA Rk0 Rk1 p_Sub32 q_Sub32
  | 121 => WA Rk0 Rk1 p_Add32 q_Add32
  | 118 => WA Rk2 Rk2 p_Len32 q_Len32
  | 110 => WA Rk2 Rk2 p_Lz32 q_Lz32
  | 120 => WA Rk0 Rk1 p_Div32 q_Div32
  | 112 => WA Rk3 Rk3 p_Clone32 q_Clone32
  | 103 => WA Rk3 Rk3 p_trim q_trim
  | 101 => WA Rk3 Rk3 p_pack q_pack
  | 99 => WA Rk4 Rk4 p_unpack q_unpack
  | 108 => WA Rk3 Rk2 p_long q_long
  | 109 => WA Rk2 Rk3 p_short q_short
  | 104 => WA Rk5 Rk2 p_compare q_compare
  | 113 => WA Rk6 Rk6 p_divideShort q_divideShort
  | 114 => WA Rk6 Rk3 p_shifted q_shifted
  | 106 => WA Rk5 Rk5 p_divide q_divide
  | 111 => WA Rk7 Rk2 p_head q_head
  | 105 => WA Rk5 Rk8 p_simulate q_simulate
  | 107 => WA Rk9 Rk3 p_difference q_difference
  | 100 => WA Rk5 Rk3 p_commonDivisor q_commonDivisor
  | 63 => WA Rk3 Rk3 p_Clone16 q_Clone16
  | 84 => WA Rk4 Rk10 p_wValid q_wValid
  | 98 => WA Rk3 Rk10 p_wAllValid q_wAllValid
  | 92 => WA Rk11 Rk12 p_wGcd q_wGcd
  | 87 => WA Rk11 Rk4 p_fDivisor q_fDivisor
  | 50 => WA Rk11 Rk10 p_fValid q_fValid
  | 102 => WA Rk3 Rk3 p_rTrim q_rTrim
  | 94 => WA Rk5 Rk10 p_rLess q_rLess
  | 95 => WA Rk5 Rk3 p_rPlus q_rPlus
  | 97 => WA Rk5 Rk3 p_rMinus q_rMinus
  | 96 => WA Rk3 Rk3 p_rHalf q_rHalf
  | 93 => WA Rk6 Rk5 p_rShort q_rShort
  | 88 => WA Rk5 Rk5 p_rDivided q_rDivided
  | 72 => WA Rk4 Rk10 p_rValid1 q_rValid1
  | 75 => WA Rk5 Rk3 p_rCommon q_rCommon
  | 74 => WA Rk3 Rk10 p_rOne q_rOne
  | 73 => WA Rk11 Rk10 p_rFits q_rFits
  | 51 => WA Rk11 Rk10 p_rValid2 q_rValid2
  | 64 => WA Rk5 Rk10 p_kSameLimbs q_kSameLimbs
  | 41 => WA Rk11 Rk10 p_kSameWhole q_kSameWhole
  | 17 => WA Rk13 Rk10 p_kSameFrac q_kSameFrac
  | 65 => WA Rk2 Rk4 p_kWhole q_kWhole
  | 42 => WA Rk1 Rk11 p_kFrac q_kFrac
  | 8 => WA Rk11 Rk2 p_kLimbs q_kLimbs
  | 68 => WA Rk1 Rk2 p_cmpI q_cmpI
  | 67 => WA Rk3 Rk2 p_cmpOr q_cmpOr
  | 46 => WA Rk14 Rk2 p_tCompare q_tCompare
  | 23 => WA Rk15 Rk10 p_Right q_Right
  | 29 => WA Rk16 Rk10 p_tValid q_tValid
  | 33 => WA Rk11 Rk11 p_copied q_copied
  | 31 => WA Rk17 Rk3 p_forced q_forced
  | 11 => WA Rk18 Rk19 p_Look q_Look
  | 13 => WA Rk20 Rk19 p_LookTwo q_LookTwo
  | 52 => WA Rk14 Rk10 p_kSameRow q_kSameRow
  | 55 => WA Rk5 Rk10 p_kSameRows q_kSameRows
  | 27 => WA Rk21 Rk10 p_kSameTable q_kSameTable
  | 18 => WA Rk22 Rk23 p_tRow q_tRow
  | 7 => WA Rk24 Rk10 p_awake q_awake
  | 10 => WA Rk16 Rk16 p_kLentTable q_kLentTable
  | 15 => WA Rk21 Rk10 p_kKeptTable q_kKeptTable
  | 16 => WA Rk16 Rk24 p_kOverTable q_kOverTable
  | 24 => WA Rk15 Rk10 p_tRight q_tRight
  | 49 => WA Rk14 Rk10 p_tBefore q_tBefore
  | 34 => WA Rk16 Rk10 p_rTValid q_rTValid
  | 35 => WA Rk18 Rk10 p_tForce q_tForce
  | 12 => WA Rk18 Rk19 p_rLook q_rLook
  | 14 => WA Rk20 Rk19 p_rLookTwo q_rLookTwo
  | 5 => WA Rk16 Rk10 p_Few q_Few
  | 6 => WA Rk20 Rk10 p_looks q_looks
  | 3 => WA Rk20 Rk10 p_TLooks q_TLooks
  | _ => ⟨fun _ => True, fun _ _ => True⟩
def sgs : FuncId → Option Sig
  | 116 => some ⟨[Ci .u32, Ci .u32, Ci .u32], [Ci .u32, Ci .u32]⟩
  | 121 => some ⟨[Ci .u32, Ci .u32, Ci .u32], [Ci .u32, Ci .u32]⟩
  | 118 => some ⟨[Ci .u32], [Ci .i64]⟩
  | 110 => some ⟨[Ci .u32], [Ci .i64]⟩
  | 120 => some ⟨[Ci .u32, Ci .u32, Ci .u32], [Ci .u32, Ci .u32]⟩
  | 112 => some ⟨[Cs 109 false], [Cs 109 true]⟩
  | 103 => some ⟨[Cs 109 false], [Cs 109 false]⟩
  | 101 => some ⟨[Cs 78 false], [Cs 109 false]⟩
  | 99 => some ⟨[Cb, Cs 109 false], [Ag0]⟩
  | 108 => some ⟨[Cs 109 false], [Ci .u64]⟩
  | 109 => some ⟨[Ci .u64], [Cs 109 false]⟩
  | 104 => some ⟨[Cs 109 false, Cs 109 false], [Ci .i64]⟩
  | 113 => some ⟨[Cs 109 false, Ci .u32], [Cs 109 false, Ci .u32]⟩
  | 114 => some ⟨[Cs 109 false, Ci .i64], [Cs 109 true]⟩
  | 106 => some ⟨[Cs 109 false, Cs 109 false], [Cs 109 false, Cs 109 false]⟩
  | 111 => some ⟨[Cs 109 false, Ci .i64, Ci .i64], [Ci .u64]⟩
  | 105 => some ⟨[Cs 109 false, Cs 109 false], [Ag1]⟩
  | 107 => some ⟨[Ci .u64, Cs 109 false, Ci .u64, Cs 109 false], [Cs 109 false]⟩
  | 100 => some ⟨[Cs 109 false, Cs 109 false], [Cs 109 false]⟩
  | 63 => some ⟨[Cs 78 false], [Cs 78 true]⟩
  | 84 => some ⟨[Ag0], [Cb]⟩
  | 98 => some ⟨[Cs 30 false], [Cb]⟩
  | 92 => some ⟨[Ag0, Ag0], [Ag0, Ci .i64]⟩
  | 87 => some ⟨[Ag0, Ag0], [Ag0]⟩
  | 50 => some ⟨[Ag2], [Cb]⟩
  | 102 => some ⟨[Cs 78 false], [Cs 78 false]⟩
  | 94 => some ⟨[Cs 78 false, Cs 78 false], [Cb]⟩
  | 95 => some ⟨[Cs 78 false, Cs 78 false], [Cs 78 false]⟩
  | 97 => some ⟨[Cs 78 false, Cs 78 false], [Cs 78 false]⟩
  | 96 => some ⟨[Cs 78 false], [Cs 78 false]⟩
  | 93 => some ⟨[Cs 78 false, Ci .i64], [Cs 78 false, Cs 78 false]⟩
  | 88 => some ⟨[Cs 78 false, Cs 78 false], [Cs 78 false, Cs 78 false]⟩
  | 72 => some ⟨[Ag0], [Cb]⟩
  | 75 => some ⟨[Cs 78 false, Cs 78 false], [Cs 78 false]⟩
  | 74 => some ⟨[Cs 78 false], [Cb]⟩
  | 73 => some ⟨[Ag2], [Cb]⟩
  | 51 => some ⟨[Ag2], [Cb]⟩
  | 64 => some ⟨[Cs 78 false, Cs 78 false], [Cb]⟩
  | 41 => some ⟨[Ag0, Ag0], [Cb]⟩
  | 17 => some ⟨[Ag2, Ag2], [Cb]⟩
  | 65 => some ⟨[Ci .i64], [Ag0]⟩
  | 42 => some ⟨[Ci .i64, Ci .i64], [Ag2]⟩
  | 8 => some ⟨[Ag2], [Ci .i64]⟩
  | 68 => some ⟨[Ci .i64, Ci .i64], [Ci .i64]⟩
  | 67 => some ⟨[Cs 3 false], [Ci .i64]⟩
  | 46 => some ⟨[Ag3, Ag3], [Ci .i64]⟩
  | 23 => some ⟨[Cb, Ag3], [Cb]⟩
  | 29 => some ⟨[Ag4], [Cb]⟩
  | 33 => some ⟨[Ag2], [Ag5]⟩
  | 31 => some ⟨[Ag4, Ci .i64], [Cs 34 true]⟩
  | 11 => some ⟨[Ag4, Ci .i64, Ci .i64], [Ag5, Ci .i64]⟩
  | 13 => some ⟨[Ag4, Ci .i64, Ci .i64, Ci .i64], [Ag5, Ci .i64]⟩
  | 52 => some ⟨[Ag3, Ag3], [Cb]⟩
  | 55 => some ⟨[Cs 34 false, Cs 34 false], [Cb]⟩
  | 27 => some ⟨[Ag4, Ag4], [Cb]⟩
  | 18 => some ⟨[Ci .i64, Ci .i64, Ci .i64, Ci .i64, Ci .i64], [Ag3]⟩
  | 7 => some ⟨[], [Cb]⟩
  | 10 => some ⟨[Ag4], [Ag6]⟩
  | 24 => some ⟨[Cb, Ag3], [Cb]⟩
  | 49 => some ⟨[Ag3, Ag3], [Cb]⟩
  | 34 => some ⟨[Ag4], [Cb]⟩
  | 35 => some ⟨[Ag4, Ci .i64, Ci .i64], [Cb]⟩
  | 12 => some ⟨[Ag4, Ci .i64, Ci .i64], [Ag2, Ci .i64]⟩
  | 14 => some ⟨[Ag4, Ci .i64, Ci .i64, Ci .i64], [Ag2, Ci .i64]⟩
  | 5 => some ⟨[Ag4], [Cb]⟩
  | 6 => some ⟨[Ag4, Ci .i64, Ci .i64, Ci .i64], [Cb]⟩
  | 3 => some ⟨[Ag4, Ci .i64, Ci .i64, Ci .i64], [Cb]⟩
  | _ => none
def havs : Nat → Hav
  | 99999007 => ⟨[(5, .int .i64)], [], []⟩
  | 88016 => ⟨[(10, .sl 78 false), (11, .sl 78 false), (8, .sl 78 false)], [], []⟩
  | _ => ⟨[], [], []⟩
def wrs : FuncId → Bool
  | 5 => true
  | _ => false
def rgs : FuncId → Bool
  | 13 => false
  | _ => true
def pms : FuncId → Option Prim
  | 15 => some (.kept ⟨[.agg [(.str, false), (.bool, false), (.sl 34, true)], .agg [(.str, false), (.bool, false), (.sl 34, false)]], [.cell (.bool) false]⟩)
  | 16 => some (.over ⟨[.agg [(.str, false), (.bool, false), (.sl 34, true)]], []⟩)
  | _ => none
def cuts : Nat → Bool := fun n => [106015009, 100003, 100016, 107008, 107010, 99999003, 99999011, 99999009, 99999004, 99999010, 99999012, 99999010, 99999011, 99999506, 99999508, 95006, 95008, 95010, 99999004, 65005, 42006].contains n
noncomputable def cfgAt (l : List Nat) : Cfg := cfgOf Tryz.prog sgs havs wrs cuts rgs l pms
def sgA (f : FuncId) : Sig := (sgs f).getD ⟨[], []⟩
def VCA (l : List Nat) (d f : Nat) : Prop := (vc (A := sem Tb) (cfgAt l) d f (sgA f)).den
abbrev OKA (l : List Nat) : Prop := SigOk Tb (cfgAt l)
theorem nxA {l : List Nat} {d f : Nat} {V : Prop} (h : OKA l) (j : VCA l d f = V) (hv : V) (hs : sgs f = some (sgA f)) (hq : pms f = none) : OKA (f :: l) := by
  unfold VCA cfgAt at j
  unfold OKA cfgAt at h ⊢
  exact SigOk.next (l := l) h (f := f) (sg := sgA f) hs j hv hq
theorem lwA {l : List Nat} {d f : Nat} {V : Prop} (h : OKA l) (j : VCA l d f = V) (hv : V) : ConOK Tryz.prog f (sgA f) (Tb f) := by
  unfold VCA cfgAt at j
  unfold OKA cfgAt at h
  exact SigOk.law (l := l) h j hv
end Go.Sx.N
