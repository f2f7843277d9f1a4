/-
  The tables of the contracts. Conditions: none; printed by a program of our own.
-/
import Derived.Test.YtjbknheeiaaioaaEngE
import Derived.Test.YtjbknheeiaaioaaProg
import Derived.Test.YtjbknheeiaaioaaNumBase
import Derived.Test.YtjbknheeiaaioaaTabSpec
namespace Go.Sx.N
open Go.Proofs
def WA (a r : List RK) (p : CurP a) (q : CurP (a ++ r)) : Pred := ⟨fun x => apP a p x, fun x y => apP (a ++ r) q (x ++ y)⟩
abbrev Ki (k : IntKind) : K × Bool := (.int k, false)
abbrev Kb : K × Bool := (.bool, false)
abbrev Ky : K × Bool := (.str, false)
abbrev Ks (e : TypeId) (o : Bool) : K × Bool := (.sl e, o)
abbrev Ci (k : IntKind) : VSh := .cell (.int k) false
abbrev Cb : VSh := .cell .bool false
abbrev Cs (e : TypeId) (o : Bool) : VSh := .cell (.sl e) o
abbrev Rk0 : List RK := [.int, .int, .int]
abbrev Rk1 : List RK := [.int, .int]
abbrev Rk2 : List RK := [.int]
abbrev Rk3 : List RK := [.sl]
abbrev Rk4 : List RK := [.bool, .sl]
abbrev Rk5 : List RK := [.sl, .sl]
abbrev Rk6 : List RK := [.sl, .int]
abbrev Rk7 : List RK := [.sl, .int, .int]
abbrev Rk8 : List RK := [.int, .int, .int, .int, .bool]
abbrev Rk9 : List RK := [.int, .sl, .int, .sl]
abbrev Rk10 : List RK := [.bool]
abbrev Rk11 : List RK := [.bool, .sl, .bool, .sl]
abbrev Rk12 : List RK := [.bool, .sl, .int]
abbrev Rk13 : List RK := [.bool, .sl, .bool, .sl, .bool, .sl, .bool, .sl]
abbrev Rk14 : List RK := [.int, .int, .int, .bool, .sl, .bool, .sl, .int, .int, .int, .bool, .sl, .bool, .sl]
abbrev Rk15 : List RK := [.bool, .int, .int, .int, .bool, .sl, .bool, .sl]
abbrev Rk16 : List RK := [.str, .bool, .sl]
abbrev Rk17 : List RK := [.str, .bool, .sl, .int]
abbrev Rk18 : List RK := [.str, .bool, .sl, .int, .int]
abbrev Rk19 : List RK := [.bool, .sl, .bool, .sl, .int]
abbrev Rk20 : List RK := [.str, .bool, .sl, .int, .int, .int]
abbrev Rk21 : List RK := [.str, .bool, .sl, .int, .int, .int, .bool, .sl, .bool, .sl]
abbrev Rk22 : List RK := [.str, .bool, .sl, .str, .bool, .sl]
abbrev Rk23 : List RK := [.int, .bool, .sl, .bool, .sl, .int]
abbrev Rk24 : List RK := [.int, .int, .int, .int, .int]
abbrev Rk25 : List RK := [.int, .int, .int, .bool, .sl, .bool, .sl]
abbrev Rk26 : List RK := [.sl, .bool]
abbrev Rk27 : List RK := []
abbrev Rk28 : List RK := [.sl, .int, .int, .int]
abbrev Rk29 : List RK := [.sl, .bool, .int, .int, .int]
abbrev Rk30 : List RK := [.sl, .int, .int, .int, .int, .int, .int]
abbrev Rk31 : List RK := [.sl, .int, .bool]
abbrev Ag0 : VSh := .agg [Kb, Ks 50 false]
abbrev Ag1 : VSh := .agg [Ki .u64, Ki .u64, Ki .u64, Ki .u64, Kb]
abbrev Ag2 : VSh := .agg [Kb, Ks 50 false, Kb, Ks 50 false]
abbrev Ag3 : VSh := .agg [Ki .i64, Ki .i64, Ki .i64, Kb, Ks 50 false, Kb, Ks 50 false]
abbrev Ag4 : VSh := .agg [Ky, Kb, Ks 40 false]
abbrev Ag5 : VSh := .agg [Ki .u8, Kb, Ks 50 false, Kb, Ks 50 false, Ki .i64]
abbrev Ag6 : VSh := .agg [Ki .u8, Ki .u8, Ki .u8, Ki .u16]
abbrev Ag7 : VSh := .agg [Ky, Kb, Ks 40 true]
abbrev b0 : List Nat := []
abbrev b1 := 84 :: b0
abbrev b2 := 89 :: b1
abbrev b3 := 86 :: b2
abbrev b4 := 78 :: b3
abbrev b5 := 88 :: b4
abbrev b6 := 80 :: b5
abbrev b7 := 71 :: b6
abbrev b8 := 70 :: b7
abbrev b9 := 68 :: b8
abbrev b10 := 76 :: b9
abbrev b11 := 77 :: b10
abbrev b12 := 72 :: b11
abbrev b13 := 81 :: b12
abbrev b14 := 82 :: b13
abbrev b15 := 74 :: b14
abbrev b16 := 79 :: b15
abbrev b17 := 73 :: b16
abbrev b18 := 75 :: b17
abbrev b19 := 69 :: b18
abbrev b20 := 49 :: b19
abbrev b21 := 61 :: b20
abbrev b22 := 67 :: b21
abbrev b23 := 66 :: b22
abbrev b24 := 64 :: b23
abbrev b25 := 44 :: b24
abbrev b26 := 50 :: b25
abbrev b27 := 33 :: b26
abbrev b28 := 13 :: b27
abbrev b29 := 43 :: b28
abbrev b30 := 22 :: b29
abbrev b31 := 14 :: b30
abbrev b32 := 52 :: b31
abbrev b33 := 51 :: b32
abbrev b34 := 35 :: b33
abbrev b35 := 23 :: b34
abbrev b36 := 16 :: b35
abbrev b37 := 29 :: b36
abbrev b38 := 27 :: b37
abbrev b39 := 15 :: b38
abbrev b40 := 10 :: b39
abbrev b41 := 11 :: b40
abbrev b42 := 21 :: b41
abbrev b43 := 19 :: b42
abbrev b44 := 38 :: b43
abbrev b45 := 17 :: b44
abbrev b46 := 39 :: b45
abbrev b47 := 24 :: b46
abbrev b48 := 20 :: b47
abbrev b49 := 18 :: b48
abbrev b50 := 9 :: b49
abbrev b51 := 12 :: b50
abbrev b52 := 8 :: b51
def Tb : FuncId → Pred
  | 84 => WA Rk0 Rk1 p_Sub32 q_Sub32
  | 89 => WA Rk0 Rk1 p_Add32 q_Add32
  | 86 => WA Rk2 Rk2 p_Len32 q_Len32
  | 78 => WA Rk2 Rk2 p_Lz32 q_Lz32
  | 88 => WA Rk0 Rk1 p_Div32 q_Div32
  | 80 => WA Rk3 Rk3 p_Clone32 q_Clone32
  | 71 => WA Rk3 Rk3 p_trim q_trim
  | 70 => WA Rk3 Rk3 p_pack q_pack
  | 68 => WA Rk4 Rk4 p_unpack q_unpack
  | 76 => WA Rk3 Rk2 p_long q_long
  | 77 => WA Rk2 Rk3 p_short q_short
  | 72 => WA Rk5 Rk2 p_compare q_compare
  | 81 => WA Rk6 Rk6 p_divideShort q_divideShort
  | 82 => WA Rk6 Rk3 p_shifted q_shifted
  | 74 => WA Rk5 Rk5 p_divide q_divide
  | 79 => WA Rk7 Rk2 p_head q_head
  | 73 => WA Rk5 Rk8 p_simulate q_simulate
  | 75 => WA Rk9 Rk3 p_difference q_difference
  | 69 => WA Rk5 Rk3 p_commonDivisor q_commonDivisor
  | 49 => WA Rk3 Rk3 p_Clone16 q_Clone16
  | 61 => WA Rk4 Rk10 p_wValid q_wValid
  | 67 => WA Rk3 Rk10 p_wAllValid q_wAllValid
  | 66 => WA Rk11 Rk12 p_wGcd q_wGcd
  | 64 => WA Rk11 Rk4 p_fDivisor q_fDivisor
  | 44 => WA Rk11 Rk10 p_fValid q_fValid
  | 50 => WA Rk5 Rk10 p_kSameLimbs q_kSameLimbs
  | 33 => WA Rk11 Rk10 p_kSameWhole q_kSameWhole
  | 13 => WA Rk13 Rk10 p_kSameFrac q_kSameFrac
  | 43 => WA Rk2 Rk4 p_kWhole q_kWhole
  | 22 => WA Rk1 Rk11 p_kFrac q_kFrac
  | 14 => WA Rk11 Rk2 p_kLimbs q_kLimbs
  | 52 => WA Rk1 Rk2 p_cmpI q_cmpI
  | 51 => WA Rk3 Rk2 p_cmpOr q_cmpOr
  | 35 => WA Rk14 Rk2 p_tCompare q_tCompare
  | 23 => WA Rk15 Rk10 p_Right q_Right
  | 16 => WA Rk16 Rk10 p_tValid q_tValid
  | 29 => WA Rk11 Rk11 p_copied q_copied
  | 27 => WA Rk17 Rk3 p_forced q_forced
  | 15 => WA Rk17 Rk17 p_View q_View
  | 10 => WA Rk18 Rk19 p_Look q_Look
  | 11 => WA Rk20 Rk19 p_LookTwo q_LookTwo
  | 21 => WA Rk21 Rk17 p_Learn q_Learn
  | 19 => WA Rk14 Rk10 p_kSameRow q_kSameRow
  | 38 => WA Rk5 Rk10 p_kSameRows q_kSameRows
  | 17 => WA Rk22 Rk10 p_kSameTable q_kSameTable
  | 39 => WA Rk2 Rk23 p_Pool q_Pool
  | 24 => WA Rk24 Rk25 p_tRow q_tRow
  | 20 => WA Rk8 Rk25 p_tOf q_tOf
  | 18 => WA Rk14 Rk10 p_tLess q_tLess
  | 9 => WA Rk26 Rk16 p_Built q_Built
  | 12 => WA Rk20 Rk2 p_holds q_holds
  | 8 => WA Rk27 Rk10 p_awake q_awake
  | 3 => WA Rk28 Rk10 p_TLook q_TLook
  | 4 => WA Rk29 Rk10 p_TView q_TView
  | 5 => WA Rk30 Rk10 p_TKnown q_TKnown
  | 6 => WA Rk26 Rk10 p_TOrder q_TOrder
  | 7 => WA Rk31 Rk10 p_TWrong q_TWrong
  | _ => ⟨fun _ => True, fun _ _ => True⟩
def sgs : FuncId → Option Sig
  | 84 => some ⟨[Ci .u32, Ci .u32, Ci .u32], [Ci .u32, Ci .u32]⟩
  | 89 => some ⟨[Ci .u32, Ci .u32, Ci .u32], [Ci .u32, Ci .u32]⟩
  | 86 => some ⟨[Ci .u32], [Ci .i64]⟩
  | 78 => some ⟨[Ci .u32], [Ci .i64]⟩
  | 88 => some ⟨[Ci .u32, Ci .u32, Ci .u32], [Ci .u32, Ci .u32]⟩
  | 80 => some ⟨[Cs 110 false], [Cs 110 true]⟩
  | 71 => some ⟨[Cs 110 false], [Cs 110 false]⟩
  | 70 => some ⟨[Cs 50 false], [Cs 110 false]⟩
  | 68 => some ⟨[Cb, Cs 110 false], [Ag0]⟩
  | 76 => some ⟨[Cs 110 false], [Ci .u64]⟩
  | 77 => some ⟨[Ci .u64], [Cs 110 false]⟩
  | 72 => some ⟨[Cs 110 false, Cs 110 false], [Ci .i64]⟩
  | 81 => some ⟨[Cs 110 false, Ci .u32], [Cs 110 false, Ci .u32]⟩
  | 82 => some ⟨[Cs 110 false, Ci .i64], [Cs 110 true]⟩
  | 74 => some ⟨[Cs 110 false, Cs 110 false], [Cs 110 false, Cs 110 false]⟩
  | 79 => some ⟨[Cs 110 false, Ci .i64, Ci .i64], [Ci .u64]⟩
  | 73 => some ⟨[Cs 110 false, Cs 110 false], [Ag1]⟩
  | 75 => some ⟨[Ci .u64, Cs 110 false, Ci .u64, Cs 110 false], [Cs 110 false]⟩
  | 69 => some ⟨[Cs 110 false, Cs 110 false], [Cs 110 false]⟩
  | 49 => some ⟨[Cs 50 false], [Cs 50 false]⟩
  | 61 => some ⟨[Ag0], [Cb]⟩
  | 67 => some ⟨[Cs 30 false], [Cb]⟩
  | 66 => some ⟨[Ag0, Ag0], [Ag0, Ci .i64]⟩
  | 64 => some ⟨[Ag0, Ag0], [Ag0]⟩
  | 44 => some ⟨[Ag2], [Cb]⟩
  | 50 => some ⟨[Cs 50 false, Cs 50 false], [Cb]⟩
  | 33 => some ⟨[Ag0, Ag0], [Cb]⟩
  | 13 => some ⟨[Ag2, Ag2], [Cb]⟩
  | 43 => some ⟨[Ci .i64], [Ag0]⟩
  | 22 => some ⟨[Ci .i64, Ci .i64], [Ag2]⟩
  | 14 => some ⟨[Ag2], [Ci .i64]⟩
  | 52 => some ⟨[Ci .i64, Ci .i64], [Ci .i64]⟩
  | 51 => some ⟨[Cs 3 false], [Ci .i64]⟩
  | 35 => some ⟨[Ag3, Ag3], [Ci .i64]⟩
  | 23 => some ⟨[Cb, Ag3], [Cb]⟩
  | 16 => some ⟨[Ag4], [Cb]⟩
  | 29 => some ⟨[Ag2], [Ag2]⟩
  | 27 => some ⟨[Ag4, Ci .i64], [Cs 40 true]⟩
  | 15 => some ⟨[Ag4, Ci .i64], [Ag4, Ci .i64]⟩
  | 10 => some ⟨[Ag4, Ci .i64, Ci .i64], [Ag2, Ci .i64]⟩
  | 11 => some ⟨[Ag4, Ci .i64, Ci .i64, Ci .i64], [Ag2, Ci .i64]⟩
  | 21 => some ⟨[Ag4, Ag3], [Ag4, Ci .i64]⟩
  | 19 => some ⟨[Ag3, Ag3], [Cb]⟩
  | 38 => some ⟨[Cs 40 false, Cs 40 false], [Cb]⟩
  | 17 => some ⟨[Ag4, Ag4], [Cb]⟩
  | 39 => some ⟨[Ci .u16], [Ag5]⟩
  | 24 => some ⟨[Ci .i64, Ci .i64, Ci .i64, Ci .i64, Ci .i64], [Ag3]⟩
  | 20 => some ⟨[Ag6, Cb], [Ag3]⟩
  | 18 => some ⟨[Ag3, Ag3], [Cb]⟩
  | 9 => some ⟨[Cs 52 false, Cb], [Ag7]⟩
  | 12 => some ⟨[Ag4, Ci .i64, Ci .i64, Ci .i64], [Ci .i64]⟩
  | 8 => some ⟨[], [Cb]⟩
  | 3 => some ⟨[Cs 52 false, Ci .i64, Ci .i64, Ci .i64], [Cb]⟩
  | 4 => some ⟨[Cs 52 false, Cb, Ci .i64, Ci .i64, Ci .i64], [Cb]⟩
  | 5 => some ⟨[Cs 52 false, Ag6, Ci .i64, Ci .i64], [Cb]⟩
  | 6 => some ⟨[Cs 52 false, Cb], [Cb]⟩
  | 7 => some ⟨[Cs 52 false, Ci .u8, Cb], [Cb]⟩
  | _ => none
def havs : Nat → Hav
  | 99999007 => ⟨[(5, .int .i64)], [], []⟩
  | 99999016 => ⟨[(10, .sl 50 false), (11, .sl 50 false), (8, .sl 50 false)], [], []⟩
  | 6006 => ⟨[(999999, .junk)], [], []⟩
  | 12003 => ⟨[(9, .int .i64), (15, .int .i64)], [], []⟩
  | _ => ⟨[], [], []⟩
def wrs : FuncId → Bool
  | _ => false
def rgs : FuncId → Bool
  | 11 => false
  | _ => true
def pms : FuncId → Option Prim
  | 41 => some (.ins 40)
  | _ => none
def cuts : Nat → Bool := fun n => [74015009, 69003, 69016, 75008, 75010, 99999003, 99999011, 99999009, 99999004, 99999010, 99999012, 99999010, 99999011, 99999506, 99999508, 99999006, 99999008, 99999010, 99999004, 43005, 22006, 9008, 9009, 9006, 7023, 7026, 7029, 7529, 7041, 6508, 6509].contains n
noncomputable def cfgAt (l : List Nat) : Cfg := cfgOf Try.prog sgs havs wrs cuts rgs l pms
def sgA (f : FuncId) : Sig := (sgs f).getD ⟨[], []⟩
def VCA (l : List Nat) (d f : Nat) : Prop := (vc (A := sem Tb) (cfgAt l) d f (sgA f)).den
abbrev OKA (l : List Nat) : Prop := SigOk Tb (cfgAt l)
theorem nxA {l : List Nat} {d f : Nat} {V : Prop} (h : OKA l) (j : VCA l d f = V) (hv : V) (hs : sgs f = some (sgA f)) : OKA (f :: l) := by
  unfold VCA cfgAt at j
  unfold OKA cfgAt at h ⊢
  exact SigOk.next (l := l) h (f := f) (sg := sgA f) hs j hv
theorem lwA {l : List Nat} {d f : Nat} {V : Prop} (h : OKA l) (j : VCA l d f = V) (hv : V) : ConOK Try.prog f (sgA f) (Tb f) := by
  unfold VCA cfgAt at j
  unfold OKA cfgAt at h
  exact SigOk.law (l := l) h j hv
end Go.Sx.N
