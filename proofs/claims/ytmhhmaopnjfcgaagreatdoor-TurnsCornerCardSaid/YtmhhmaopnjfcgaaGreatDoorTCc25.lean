/-
  Parts of the proof: Tg4. Conditions: none.
-/
import Derived.Test.YtmhhmaopnjfcgaaGreatDoorTCc8
import Derived.Test.YtmhhmaopnjfcgaaGreatDoorTCc19
namespace Go.Proofs.YtmhhmaopnjfcgaaGreatDoor.V.I
open Go
set_option maxRecDepth 100000 in
noncomputable def tg4 : Told := ⟨[(.agg [(.int .i64 (.ofNat 2)), (.int .i64 (.ofNat 1)), (.osl 7), (.int .u8 (.ofNat 0)), (.int .i64 (.ofNat 0)), (.int .i64 (.ofNat 0)), (.osl 5)])], [(.cells 3 [(.int .i64 (.ofNat 2)), (.int .i64 (.ofNat 1)), (.int .i64 (.ofNat 7)), (.int .i64 (.ofNat 6))]), (.hd 0 0 4 1 4 true), (.cells 3 [(.int .i64 (.ofNat 3)), (.int .i64 (.ofNat 0)), (.int .i64 (.ofNat 4)), (.int .i64 (.ofNat 5))]), (.hd 2 0 4 1 4 true), (.cells 40 [(.int .i64 (.ofNat 0)), (.int .i64 (.ofNat 0)), (.int .u8 (.ofNat 0)), (.osl 3), (.int .i64 (.ofNat 0)), (.int .i64 (.ofNat 0)), (.int .u8 (.ofNat 1)), (.osl 1)]), (.hd 4 0 2 4 2 true), (.cells 84 [(.int .i64 (.ofNat 0)), (.int .u8 (.ofNat 2)), (.int .u8 (.ofNat 1)), (.int .i64 (.ofNat 1)), (.int .u8 (.ofNat 0)), (.int .u8 (.ofNat 2)), (.int .i64 (.ofNat 1)), (.int .u8 (.ofNat 2)), (.int .u8 (.ofNat 1)), (.int .i64 (.ofNat 4)), (.int .u8 (.ofNat 1)), (.int .u8 (.ofNat 1)), (.int .i64 (.ofNat 6)), (.int .u8 (.ofNat 1)), (.int .u8 (.ofNat 1))]), (.hd 6 0 5 3 5 true)], (.int .i64 (.ofNat 0)), [(some (.cells 3 [(.int .i64 (.ofNat 2)), (.int .i64 (.ofNat 1)), (.int .i64 (.ofNat 7)), (.int .i64 (.ofNat 6))])), (some (.hd 0 0 4 1 4 true)), (some (.cells 3 [(.int .i64 (.ofNat 3)), (.int .i64 (.ofNat 0)), (.int .i64 (.ofNat 4)), (.int .i64 (.ofNat 5))])), (some (.hd 2 0 4 1 4 true)), (some (.cells 40 [(.int .i64 (.ofNat 0)), (.int .i64 (.ofNat 0)), (.int .u8 (.ofNat 0)), (.osl 3), (.int .i64 (.ofNat 0)), (.int .i64 (.ofNat 0)), (.int .u8 (.ofNat 1)), (.osl 1)])), (some (.hd 4 0 2 4 2 true)), (some (.cells 84 [(.int .i64 (.ofNat 0)), (.int .u8 (.ofNat 2)), (.int .u8 (.ofNat 1)), (.int .i64 (.ofNat 1)), (.int .u8 (.ofNat 0)), (.int .u8 (.ofNat 2)), (.int .i64 (.ofNat 1)), (.int .u8 (.ofNat 2)), (.int .u8 (.ofNat 1)), (.int .i64 (.ofNat 4)), (.int .u8 (.ofNat 1)), (.int .u8 (.ofNat 1)), (.int .i64 (.ofNat 6)), (.int .u8 (.ofNat 1)), (.int .u8 (.ofNat 1))])), (some (.hd 6 0 5 3 5 true))], []⟩
set_option maxRecDepth 1000000 in
theorem tg4_ok : ToldOK (memoG E9 tbE 3000 60 10) tg4 := by
 unfold ToldOK
 kernel_rfl
end Go.Proofs.YtmhhmaopnjfcgaaGreatDoor.V.I
