/-
  The tables of the contracts. Conditions: none; printed by a program of our own.
-/
import Derived.Test.YtlhjljekeobplaaSxJ
import Derived.Test.YtlhjljekeobplaaProg
import Derived.Test.YtlhjljekeobplaaLedSpec
namespace Go.Sx.L
open Go.Proofs
def Tb : FuncId → Pred
  | 37 => ⟨fun a => apP [.int, .sl, .sl, .int] p_has a, fun a r => apP [.int, .sl, .sl, .int, .bool] q_has (a ++ r)⟩
  | 36 => ⟨fun a => apP [.int, .sl, .sl, .sl, .int] p_follow a, fun a r => apP [.int, .sl, .sl, .sl, .int, .bool] q_follow (a ++ r)⟩
  | 15 => ⟨fun a => apP [.int, .sl, .sl] p_Valid a, fun a r => apP [.int, .sl, .sl, .bool] q_Valid (a ++ r)⟩
  | 38 => ⟨fun a => apP [.int, .sl, .sl, .int] p_posted a, fun a r => apP [.int, .sl, .sl, .int, .int] q_posted (a ++ r)⟩
  | 21 => ⟨fun a => apP [.int, .sl, .sl, .int] p_Posted a, fun a r => apP [.int, .sl, .sl, .int, .int, .int] q_Posted (a ++ r)⟩
  | 16 => ⟨fun a => apP [.int, .sl, .sl, .int] p_Open a, fun a r => apP [.int, .sl, .sl, .int, .int, .int] q_Open (a ++ r)⟩
  | 17 => ⟨fun a => apP [.int, .sl, .sl, .int] p_Balance a, fun a r => apP [.int, .sl, .sl, .int, .int, .int] q_Balance (a ++ r)⟩
  | 22 => ⟨fun a => apP [.int, .sl, .sl, .int] p_Total a, fun a r => apP [.int, .sl, .sl, .int, .int, .int] q_Total (a ++ r)⟩
  | 13 => ⟨fun a => apP [.int, .sl, .sl, .int, .int] p_Learn a, fun a r => apP [.int, .sl, .sl, .int, .int, .int, .sl, .sl, .int] q_Learn (a ++ r)⟩
  | 23 => ⟨fun a => apP [.int, .sl, .sl, .int] p_At a, fun a r => apP [.int, .sl, .sl, .int, .int, .sl, .sl, .int] q_At (a ++ r)⟩
  | 14 => ⟨fun a => apP [.int, .sl, .sl, .int, .sl, .sl] p_Same a, fun a r => apP [.int, .sl, .sl, .int, .sl, .sl, .bool] q_Same (a ++ r)⟩
  | 18 => ⟨fun a => apP [.int, .sl, .sl] p_Few a, fun a r => apP [.int, .sl, .sl, .bool] q_Few (a ++ r)⟩
  | 11 => ⟨fun a => apP [.int, .sl, .sl] p_usable a, fun a r => apP [.int, .sl, .sl, .bool] q_usable (a ++ r)⟩
  | 32 => ⟨fun a => apP [] p_example a, fun a r => apP [.int, .sl, .sl] q_example (a ++ r)⟩
  | 12 => ⟨fun a => apP [] p_awake a, fun a r => apP [.bool] q_awake (a ++ r)⟩
  | 19 => ⟨fun a => apP [.int, .sl, .sl] p_copied a, fun a r => apP [.int, .sl, .sl, .int, .sl, .sl] q_copied (a ++ r)⟩
  | 24 => ⟨fun a => apP [.int, .sl, .sl, .int] p_rHas a, fun a r => apP [.int, .sl, .sl, .int, .bool] q_rHas (a ++ r)⟩
  | 51 => ⟨fun a => apP [.int, .sl, .sl, .int, .int, .int, .int] p_rRight a, fun a r => apP [.int, .sl, .sl, .int, .int, .int, .int, .bool] q_rRight (a ++ r)⟩
  | 44 => ⟨fun a => apP [.int, .sl, .sl, .sl] p_rPosts a, fun a r => apP [.int, .sl, .sl, .sl, .bool] q_rPosts (a ++ r)⟩
  | 20 => ⟨fun a => apP [.int, .sl, .sl] p_rValid a, fun a r => apP [.int, .sl, .sl, .bool] q_rValid (a ++ r)⟩
  | 25 => ⟨fun a => apP [.int, .sl, .sl, .int] p_rPosted a, fun a r => apP [.int, .sl, .sl, .int, .int] q_rPosted (a ++ r)⟩
  | 27 => ⟨fun a => apP [.int, .sl, .sl, .int] p_rBalance a, fun a r => apP [.int, .sl, .sl, .int, .int] q_rBalance (a ++ r)⟩
  | 26 => ⟨fun a => apP [.int, .sl, .sl, .int] p_rTotal a, fun a r => apP [.int, .sl, .sl, .int, .int] q_rTotal (a ++ r)⟩
  | 28 => ⟨fun a => apP [.int, .sl, .sl, .int] p_rAt a, fun a r => apP [.int, .sl, .sl, .int, .int, .sl, .sl] q_rAt (a ++ r)⟩
  | 47 => ⟨fun a => apP [.sl] p_Concat a, fun a r => apP [.sl, .sl] q_Concat (a ++ r)⟩
  | 29 => ⟨fun a => apP [.int, .sl, .sl, .sl] p_Post a, fun a r => apP [.int, .sl, .sl, .sl, .int, .sl, .sl, .int] q_Post (a ++ r)⟩
  | 3 => ⟨fun a => apP [.int, .sl, .sl, .int, .int, .int] p_Learns a, fun a r => apP [.int, .sl, .sl, .int, .int, .int, .bool] q_Learns (a ++ r)⟩
  | 4 => ⟨fun a => apP [.int, .sl, .sl, .int] p_Before a, fun a r => apP [.int, .sl, .sl, .int, .bool] q_Before (a ++ r)⟩
  | 6 => ⟨fun a => apP [.int, .sl, .sl] p_AddsUp a, fun a r => apP [.int, .sl, .sl, .bool] q_AddsUp (a ++ r)⟩
  | 5 => ⟨fun a => apP [.int, .sl, .sl, .int, .int, .int, .int] p_Tells a, fun a r => apP [.int, .sl, .sl, .int, .int, .int, .int, .bool] q_Tells (a ++ r)⟩
  | 8 => ⟨fun a => apP [.int, .sl, .sl, .sl] p_Posts a, fun a r => apP [.int, .sl, .sl, .sl, .bool] q_Posts (a ++ r)⟩
  | 9 => ⟨fun a => apP [.int, .sl, .sl, .int, .int] p_Days a, fun a r => apP [.int, .sl, .sl, .int, .int, .bool] q_Days (a ++ r)⟩
  | 10 => ⟨fun a => apP [.int, .sl, .sl, .int, .int] p_Wrong a, fun a r => apP [.int, .sl, .sl, .int, .int, .bool] q_Wrong (a ++ r)⟩
  | _ => ⟨fun _ => True, fun _ _ => True⟩
def sgs : FuncId → Option Sig
  | 37 => some ⟨[.agg [(.int .i64, false), (.sl 3, false), (.sl 47, false)], .cell (.int .i64) false], [.cell (.bool) false]⟩
  | 36 => some ⟨[.agg [(.int .i64, false), (.sl 3, false), (.sl 47, false)], .cell (.sl 47) false, .cell (.int .i64) false], [.cell (.bool) false]⟩
  | 15 => some ⟨[.agg [(.int .i64, false), (.sl 3, false), (.sl 47, false)]], [.cell (.bool) false]⟩
  | 38 => some ⟨[.agg [(.int .i64, false), (.sl 3, false), (.sl 47, false)], .cell (.int .i64) false], [.cell (.int .i64) false]⟩
  | 21 => some ⟨[.agg [(.int .i64, false), (.sl 3, false), (.sl 47, false)], .cell (.int .i64) false], [.cell (.int .i64) false, .cell (.int .i64) false]⟩
  | 16 => some ⟨[.agg [(.int .i64, false), (.sl 3, false), (.sl 47, false)], .cell (.int .i64) false], [.cell (.int .i64) false, .cell (.int .i64) false]⟩
  | 17 => some ⟨[.agg [(.int .i64, false), (.sl 3, false), (.sl 47, false)], .cell (.int .i64) false], [.cell (.int .i64) false, .cell (.int .i64) false]⟩
  | 22 => some ⟨[.agg [(.int .i64, false), (.sl 3, false), (.sl 47, false)], .cell (.int .u8) false], [.cell (.int .i64) false, .cell (.int .i64) false]⟩
  | 13 => some ⟨[.agg [(.int .i64, false), (.sl 3, false), (.sl 47, false)], .cell (.int .i64) false, .cell (.int .i64) false], [.agg [(.int .i64, false), (.sl 3, true), (.sl 47, true)], .cell (.int .i64) false]⟩
  | 23 => some ⟨[.agg [(.int .i64, false), (.sl 3, false), (.sl 47, false)], .cell (.int .i64) false], [.agg [(.int .i64, false), (.sl 3, true), (.sl 47, true)], .cell (.int .i64) false]⟩
  | 14 => some ⟨[.agg [(.int .i64, false), (.sl 3, false), (.sl 47, false)], .agg [(.int .i64, false), (.sl 3, false), (.sl 47, false)]], [.cell (.bool) false]⟩
  | 18 => some ⟨[.agg [(.int .i64, false), (.sl 3, false), (.sl 47, false)]], [.cell (.bool) false]⟩
  | 11 => some ⟨[.agg [(.int .i64, false), (.sl 3, false), (.sl 47, false)]], [.cell (.bool) false]⟩
  | 32 => some ⟨[], [.agg [(.int .i64, false), (.sl 3, true), (.sl 47, true)]]⟩
  | 12 => some ⟨[], [.cell (.bool) false]⟩
  | 19 => some ⟨[.agg [(.int .i64, false), (.sl 3, false), (.sl 47, false)]], [.agg [(.int .i64, false), (.sl 3, true), (.sl 47, true)]]⟩
  | 24 => some ⟨[.agg [(.int .i64, false), (.sl 3, false), (.sl 47, false)], .cell (.int .i64) false], [.cell (.bool) false]⟩
  | 51 => some ⟨[.agg [(.int .i64, false), (.sl 3, false), (.sl 47, false)], .agg [(.int .i64, false), (.int .i64, false), (.int .u8, false), (.int .i64, false)]], [.cell (.bool) false]⟩
  | 44 => some ⟨[.agg [(.int .i64, false), (.sl 3, false), (.sl 47, false)], .cell (.sl 47) false], [.cell (.bool) false]⟩
  | 20 => some ⟨[.agg [(.int .i64, false), (.sl 3, false), (.sl 47, false)]], [.cell (.bool) false]⟩
  | 25 => some ⟨[.agg [(.int .i64, false), (.sl 3, false), (.sl 47, false)], .cell (.int .i64) false], [.cell (.int .i64) false]⟩
  | 27 => some ⟨[.agg [(.int .i64, false), (.sl 3, false), (.sl 47, false)], .cell (.int .i64) false], [.cell (.int .i64) false]⟩
  | 26 => some ⟨[.agg [(.int .i64, false), (.sl 3, false), (.sl 47, false)], .cell (.int .u8) false], [.cell (.int .i64) false]⟩
  | 28 => some ⟨[.agg [(.int .i64, false), (.sl 3, false), (.sl 47, false)], .cell (.int .i64) false], [.agg [(.int .i64, false), (.sl 3, false), (.sl 47, false)]]⟩
  | 47 => some ⟨[.cell (.sl 23) false], [.cell (.sl 47) true]⟩
  | 29 => some ⟨[.agg [(.int .i64, false), (.sl 3, false), (.sl 47, false)], .cell (.sl 47) false], [.agg [(.int .i64, false), (.sl 3, true), (.sl 47, true)], .cell (.int .i64) false]⟩
  | 3 => some ⟨[.agg [(.int .i64, false), (.sl 3, false), (.sl 47, false)], .cell (.int .u8) false, .cell (.int .u32) false, .cell (.int .u32) false], [.cell (.bool) false]⟩
  | 4 => some ⟨[.agg [(.int .i64, false), (.sl 3, false), (.sl 47, false)], .cell (.int .i64) false], [.cell (.bool) false]⟩
  | 6 => some ⟨[.agg [(.int .i64, false), (.sl 3, false), (.sl 47, false)]], [.cell (.bool) false]⟩
  | 5 => some ⟨[.agg [(.int .i64, false), (.sl 3, false), (.sl 47, false)], .cell (.int .i64) false, .cell (.int .i64) false, .cell (.int .i64) false, .cell (.int .u8) false], [.cell (.bool) false]⟩
  | 8 => some ⟨[.agg [(.int .i64, false), (.sl 3, false), (.sl 47, false)], .cell (.sl 47) false], [.cell (.bool) false]⟩
  | 9 => some ⟨[.agg [(.int .i64, false), (.sl 3, false), (.sl 47, false)], .cell (.int .i64) false, .cell (.int .i64) false], [.cell (.bool) false]⟩
  | 10 => some ⟨[.agg [(.int .i64, false), (.sl 3, false), (.sl 47, false)], .cell (.int .u8) false, .cell (.int .i64) false], [.cell (.bool) false]⟩
  | _ => none
def havs : Nat → Hav
  | _ => ⟨[], []⟩
def wrs : FuncId → Bool
  | 13 => true
  | 10 => true
  | _ => false
def cuts : Nat → Bool := fun n => [10006, 10027, 10037].contains n
noncomputable def cfgAt (l : List Nat) : Cfg := cfgOf Try.prog sgs havs wrs cuts false l
end Go.Sx.L
