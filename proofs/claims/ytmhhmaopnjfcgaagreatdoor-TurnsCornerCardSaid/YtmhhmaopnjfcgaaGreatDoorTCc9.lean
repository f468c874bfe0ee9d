/-
  Parts of the proof: Te0. Conditions: none.
-/
import Derived.Test.YtmhhmaopnjfcgaaGreatDoorTCc8
namespace Go.Proofs.YtmhhmaopnjfcgaaGreatDoor.V.I
open Go
set_option maxRecDepth 100000 in
noncomputable def te0 : Told := ⟨[], [], (.agg [(.int .i64 (.ofNat 2)), (.int .i64 (.ofNat 1)), (.osl 11), (.int .u8 (.ofNat 0)), (.int .i64 (.ofNat 0)), (.int .i64 (.ofNat 0)), (.osl 9)]), [], [(.cells 3 [(.int .i64 (.ofNat 3)), (.int .i64 (.ofNat 5))]), (.hd 0 0 2 1 2 false), (.cells 3 [(.int .i64 (.ofNat 2)), (.int .i64 (.ofNat 6))]), (.hd 2 0 2 1 2 false), (.cells 3 [(.int .i64 (.ofNat 1)), (.int .i64 (.ofNat 7))]), (.hd 4 0 2 1 2 false), (.cells 3 [(.int .i64 (.ofNat 0)), (.int .i64 (.ofNat 4))]), (.hd 6 0 2 1 2 false), (.cells 40 [(.int .i64 (.ofNat 0)), (.int .i64 (.ofNat 0)), (.int .u8 (.ofNat 0)), (.osl 7), (.int .i64 (.ofNat 0)), (.int .i64 (.ofNat 0)), (.int .u8 (.ofNat 1)), (.osl 5), (.int .i64 (.ofNat 0)), (.int .i64 (.ofNat 0)), (.int .u8 (.ofNat 2)), (.osl 3), (.int .i64 (.ofNat 0)), (.int .i64 (.ofNat 0)), (.int .u8 (.ofNat 3)), (.osl 1)]), (.hd 8 0 4 4 4 false), (.cells 84 [(.int .i64 (.ofNat 1)), (.int .u8 (.ofNat 0)), (.int .u8 (.ofNat 2))]), (.hd 10 0 1 3 1 false)]⟩
set_option maxRecDepth 1000000 in
theorem te0_ok : ToldOK (memoG E9 tbg2 3000 60 28) te0 := by
 unfold ToldOK
 kernel_rfl
end Go.Proofs.YtmhhmaopnjfcgaaGreatDoor.V.I
