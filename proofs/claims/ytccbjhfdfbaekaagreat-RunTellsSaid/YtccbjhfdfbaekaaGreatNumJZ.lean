/-
 The conditions are what the executor says. Conditions: none; printed by a program of our own.
-/
import Derived.Test.YtccbjhfdfbaekaaGreatNumT
import Derived.Test.YtccbjhfdfbaekaaGreatNumVA
import Derived.KernelRfl
namespace Go.Sx.N
open Go.Proofs
theorem amR:VCA KX 6 55=acP:=by kernel_rfl
theorem axq:VCA AB 6 56=anO:=by kernel_rfl
theorem ap7:VCA KY 6 25=afF:=by kernel_rfl
theorem auP:VCA AL 6 27=aiq:=by kernel_rfl
theorem azh:VCA ap8 6 8=as7:=by kernel_rfl
theorem axu:VCA AO 6 12=anP:=by kernel_rfl
theorem axw:VCA NU 6 46=anQ:=by kernel_rfl
theorem aqb:VCA Iw 6 17=afK:=by kernel_rfl
theorem auT:VCA Iy 6 11=air:=by kernel_rfl
theorem ake:VCA XL 6 9=aac:=by kernel_rfl
theorem amV:VCA XM 6 21=acQ:=by kernel_rfl
theorem aqf:VCA aqd 6 10=afL:=by kernel_rfl
theorem aqi:VCA FN 6 14=afQ:=by kernel_rfl
theorem aql:VCA aqh 6 44=afR:=by kernel_rfl
theorem axy:VCA aqk 6 15=anR:=by kernel_rfl
end Go.Sx.N
