/-
  The tables of the contracts. Conditions: none; printed by a program of our own.
-/
import Derived.Test.YtdhjdigfoohofaaEngE
import Derived.Test.YtdhjdigfoohofaaProg
import Derived.Test.YtdhjdigfoohofaaNumBase
import Derived.Test.YtdhjdigfoohofaaChgSpec
namespace Go.Sx.N
open Go.Proofs
@[reducible] def b0 : List Nat := []
@[reducible] def b1 : List Nat := 24 :: b0
@[reducible] def b2 : List Nat := 17 :: b1
@[reducible] def b3 : List Nat := 16 :: b2
@[reducible] def b4 : List Nat := 25 :: b3
@[reducible] def b5 : List Nat := 13 :: b4
@[reducible] def b6 : List Nat := 14 :: b5
@[reducible] def b7 : List Nat := 9 :: b6
@[reducible] def b8 : List Nat := 15 :: b7
@[reducible] def b9 : List Nat := 11 :: b8
@[reducible] def b10 : List Nat := 4 :: b9
@[reducible] def b11 : List Nat := 12 :: b10
@[reducible] def b12 : List Nat := 5 :: b11
@[reducible] def b13 : List Nat := 6 :: b12
@[reducible] def b14 : List Nat := 23 :: b13
@[reducible] def b15 : List Nat := 35 :: b14
@[reducible] def b16 : List Nat := 21 :: b15
@[reducible] def b17 : List Nat := 20 :: b16
@[reducible] def b18 : List Nat := 19 :: b17
@[reducible] def b19 : List Nat := 7 :: b18
@[reducible] def b20 : List Nat := 8 :: b19
@[reducible] def b21 : List Nat := 10 :: b20
def Tb : FuncId → Pred
  | 24 => ⟨fun a => apP [.int, .sl, .sl, .int] p_has a, fun a r => apP [.int, .sl, .sl, .int, .bool] q_has (a ++ r)⟩
  | 17 => ⟨fun a => apP [.int, .sl, .sl, .sl, .int] p_follow a, fun a r => apP [.int, .sl, .sl, .sl, .int, .bool] q_follow (a ++ r)⟩
  | 16 => ⟨fun a => apP [.int, .sl, .sl] p_Valid a, fun a r => apP [.int, .sl, .sl, .bool] q_Valid (a ++ r)⟩
  | 25 => ⟨fun a => apP [.int, .sl, .sl, .int] p_posted a, fun a r => apP [.int, .sl, .sl, .int, .int] q_posted (a ++ r)⟩
  | 13 => ⟨fun a => apP [.int, .sl, .sl, .int] p_Open a, fun a r => apP [.int, .sl, .sl, .int, .int, .int] q_Open (a ++ r)⟩
  | 14 => ⟨fun a => apP [.int, .sl, .sl, .int] p_Balance a, fun a r => apP [.int, .sl, .sl, .int, .int, .int] q_Balance (a ++ r)⟩
  | 9 => ⟨fun a => apP [.int, .sl, .sl, .int, .int] p_Learn a, fun a r => apP [.int, .sl, .sl, .int, .int, .int, .sl, .sl, .int] q_Learn (a ++ r)⟩
  | 15 => ⟨fun a => apP [.int, .sl, .sl, .int] p_At a, fun a r => apP [.int, .sl, .sl, .int, .int, .sl, .sl, .int] q_At (a ++ r)⟩
  | 11 => ⟨fun a => apP [.int, .sl, .sl, .int, .sl, .sl] p_Same a, fun a r => apP [.int, .sl, .sl, .int, .sl, .sl, .bool] q_Same (a ++ r)⟩
  | 4 => ⟨fun a => apP [.int, .sl, .sl] p_Few a, fun a r => apP [.int, .sl, .sl, .bool] q_Few (a ++ r)⟩
  | 12 => ⟨fun a => apP [] p_example a, fun a r => apP [.int, .sl, .sl] q_example (a ++ r)⟩
  | 5 => ⟨fun a => apP [] p_awake a, fun a r => apP [.bool] q_awake (a ++ r)⟩
  | 6 => ⟨fun a => apP [.int, .sl, .sl] p_copied a, fun a r => apP [.int, .sl, .sl, .int, .sl, .sl] q_copied (a ++ r)⟩
  | 23 => ⟨fun a => apP [.int, .sl, .sl, .int] p_rHas a, fun a r => apP [.int, .sl, .sl, .int, .bool] q_rHas (a ++ r)⟩
  | 35 => ⟨fun a => apP [.int, .sl, .sl, .int, .int, .int, .int] p_rRight a, fun a r => apP [.int, .sl, .sl, .int, .int, .int, .int, .bool] q_rRight (a ++ r)⟩
  | 21 => ⟨fun a => apP [.int, .sl, .sl, .sl] p_rPosts a, fun a r => apP [.int, .sl, .sl, .sl, .bool] q_rPosts (a ++ r)⟩
  | 20 => ⟨fun a => apP [.int, .sl, .sl] p_rValid a, fun a r => apP [.int, .sl, .sl, .bool] q_rValid (a ++ r)⟩
  | 19 => ⟨fun a => apP [.sl] p_Concat a, fun a r => apP [.sl, .sl] q_Concat (a ++ r)⟩
  | 7 => ⟨fun a => apP [.int, .sl, .sl, .sl] p_Post a, fun a r => apP [.int, .sl, .sl, .sl, .int, .sl, .sl, .int] q_Post (a ++ r)⟩
  | 8 => ⟨fun a => apP [.int, .sl, .sl, .sl] p_rPost a, fun a r => apP [.int, .sl, .sl, .sl, .int, .sl, .sl, .int] q_rPost (a ++ r)⟩
  | 10 => ⟨fun a => apP [.int, .sl, .sl, .int, .int] p_rLearn a, fun a r => apP [.int, .sl, .sl, .int, .int, .int, .sl, .sl, .int] q_rLearn (a ++ r)⟩
  | 3 => ⟨fun a => apP [.int, .sl, .sl, .sl, .int, .int] p_Changes a, fun a r => apP [.int, .sl, .sl, .sl, .int, .int, .bool] q_Changes (a ++ r)⟩
  | _ => ⟨fun _ => True, fun _ _ => True⟩
def sgs : FuncId → Option Sig
  | 24 => some ⟨[.agg [(.int .i64, false), (.sl 3, false), (.sl 40, false)], .cell (.int .i64) false], [.cell (.bool) false]⟩
  | 17 => some ⟨[.agg [(.int .i64, false), (.sl 3, false), (.sl 40, false)], .cell (.sl 40) false, .cell (.int .i64) false], [.cell (.bool) false]⟩
  | 16 => some ⟨[.agg [(.int .i64, false), (.sl 3, false), (.sl 40, false)]], [.cell (.bool) false]⟩
  | 25 => some ⟨[.agg [(.int .i64, false), (.sl 3, false), (.sl 40, false)], .cell (.int .i64) false], [.cell (.int .i64) false]⟩
  | 13 => some ⟨[.agg [(.int .i64, false), (.sl 3, false), (.sl 40, false)], .cell (.int .i64) false], [.cell (.int .i64) false, .cell (.int .i64) false]⟩
  | 14 => some ⟨[.agg [(.int .i64, false), (.sl 3, false), (.sl 40, false)], .cell (.int .i64) false], [.cell (.int .i64) false, .cell (.int .i64) false]⟩
  | 9 => some ⟨[.agg [(.int .i64, false), (.sl 3, false), (.sl 40, false)], .cell (.int .i64) false, .cell (.int .i64) false], [.agg [(.int .i64, false), (.sl 3, true), (.sl 40, true)], .cell (.int .i64) false]⟩
  | 15 => some ⟨[.agg [(.int .i64, false), (.sl 3, false), (.sl 40, false)], .cell (.int .i64) false], [.agg [(.int .i64, false), (.sl 3, true), (.sl 40, true)], .cell (.int .i64) false]⟩
  | 11 => some ⟨[.agg [(.int .i64, false), (.sl 3, false), (.sl 40, false)], .agg [(.int .i64, false), (.sl 3, false), (.sl 40, false)]], [.cell (.bool) false]⟩
  | 4 => some ⟨[.agg [(.int .i64, false), (.sl 3, false), (.sl 40, false)]], [.cell (.bool) false]⟩
  | 12 => some ⟨[], [.agg [(.int .i64, false), (.sl 3, true), (.sl 40, true)]]⟩
  | 5 => some ⟨[], [.cell (.bool) false]⟩
  | 6 => some ⟨[.agg [(.int .i64, false), (.sl 3, false), (.sl 40, false)]], [.agg [(.int .i64, false), (.sl 3, true), (.sl 40, true)]]⟩
  | 23 => some ⟨[.agg [(.int .i64, false), (.sl 3, false), (.sl 40, false)], .cell (.int .i64) false], [.cell (.bool) false]⟩
  | 35 => some ⟨[.agg [(.int .i64, false), (.sl 3, false), (.sl 40, false)], .agg [(.int .i64, false), (.int .i64, false), (.int .u8, false), (.int .i64, false)]], [.cell (.bool) false]⟩
  | 21 => some ⟨[.agg [(.int .i64, false), (.sl 3, false), (.sl 40, false)], .cell (.sl 40) false], [.cell (.bool) false]⟩
  | 20 => some ⟨[.agg [(.int .i64, false), (.sl 3, false), (.sl 40, false)]], [.cell (.bool) false]⟩
  | 19 => some ⟨[.cell (.sl 23) false], [.cell (.sl 40) true]⟩
  | 7 => some ⟨[.agg [(.int .i64, false), (.sl 3, false), (.sl 40, false)], .cell (.sl 40) false], [.agg [(.int .i64, false), (.sl 3, true), (.sl 40, true)], .cell (.int .i64) false]⟩
  | 8 => some ⟨[.agg [(.int .i64, false), (.sl 3, false), (.sl 40, false)], .cell (.sl 40) false], [.agg [(.int .i64, false), (.sl 3, false), (.sl 40, false)], .cell (.int .i64) false]⟩
  | 10 => some ⟨[.agg [(.int .i64, false), (.sl 3, false), (.sl 40, false)], .cell (.int .i64) false, .cell (.int .i64) false], [.agg [(.int .i64, false), (.sl 3, false), (.sl 40, false)], .cell (.int .i64) false]⟩
  | 3 => some ⟨[.agg [(.int .i64, false), (.sl 3, false), (.sl 40, false)], .cell (.sl 40) false, .cell (.int .i64) false, .cell (.int .i64) false], [.cell (.bool) false]⟩
  | _ => none
def havs : Nat → Hav
  | _ => ⟨[], [], []⟩
def wrs : FuncId → Bool
  | 9 => true
  | _ => false
def rgs : FuncId → Bool
  | 24 => false
  | 17 => false
  | 16 => false
  | 25 => false
  | 13 => false
  | 14 => false
  | 9 => false
  | 15 => false
  | 11 => false
  | 4 => false
  | 12 => false
  | 5 => false
  | 6 => false
  | 23 => false
  | 35 => false
  | 21 => false
  | 20 => false
  | 7 => false
  | 8 => false
  | 10 => false
  | 3 => false
  | _ => true
def cuts : Nat → Bool := fun n => [].contains n
noncomputable def cfgAt (l : List Nat) : Cfg := cfgOf Try.prog sgs havs wrs cuts rgs l
end Go.Sx.N
