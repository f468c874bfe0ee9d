/-
  Parts of the proof: Tf6. Conditions: none.
-/
import Derived.Test.YtmhhmaopnjfcgaaGreatDoorTCc8
import Derived.Test.YtmhhmaopnjfcgaaGreatDoorTCc12
namespace Go.Proofs.YtmhhmaopnjfcgaaGreatDoor.V.I
open Go
set_option maxRecDepth 100000 in
noncomputable def tf6 : Told := ⟨[(.agg [(.int .i64 (.ofNat 2)), (.int .i64 (.ofNat 1)), (.osl 13), (.int .u8 (.ofNat 0)), (.int .i64 (.ofNat 0)), (.int .i64 (.ofNat 0)), (.osl 11)]), (.agg [(.int .u8 (.ofNat 4)), (.int .i64 (.ofNat 0)), (.int .u8 (.ofNat 1)), (.osl 1), (.int .u8 (.ofNat 0)), (.int .i64 (.ofNat 0))])], [(.cells 3 [(.int .i64 (.ofNat 2))]), (.hd 0 0 1 1 1 true), (.cells 3 [(.int .i64 (.ofNat 3)), (.int .i64 (.ofNat 5))]), (.hd 2 0 2 1 2 false), (.cells 3 [(.int .i64 (.ofNat 2)), (.int .i64 (.ofNat 6))]), (.hd 4 0 2 1 2 false), (.cells 3 [(.int .i64 (.ofNat 1)), (.int .i64 (.ofNat 7))]), (.hd 6 0 2 1 2 false), (.cells 3 [(.int .i64 (.ofNat 0)), (.int .i64 (.ofNat 4))]), (.hd 8 0 2 1 2 false), (.cells 40 [(.int .i64 (.ofNat 0)), (.int .i64 (.ofNat 0)), (.int .u8 (.ofNat 0)), (.osl 9), (.int .i64 (.ofNat 0)), (.int .i64 (.ofNat 0)), (.int .u8 (.ofNat 1)), (.osl 7), (.int .i64 (.ofNat 0)), (.int .i64 (.ofNat 0)), (.int .u8 (.ofNat 2)), (.osl 5), (.int .i64 (.ofNat 0)), (.int .i64 (.ofNat 0)), (.int .u8 (.ofNat 3)), (.osl 3)]), (.hd 10 0 4 4 4 false), (.cells 84 [(.int .i64 (.ofNat 1)), (.int .u8 (.ofNat 0)), (.int .u8 (.ofNat 2))]), (.hd 12 0 1 3 1 false)], (.tup [(.agg [(.int .i64 (.ofNat 0)), (.int .i64 (.ofNat 0)), (.con (.slice none 0 0)), (.int .u8 (.ofNat 0)), (.int .i64 (.ofNat 0)), (.int .i64 (.ofNat 0)), (.con (.slice none 0 0))]), (.int .i64 (.ofNat 12))]), [(some (.cells 3 [(.int .i64 (.ofNat 2))])), (some (.hd 0 0 1 1 1 true)), (some (.cells 3 [(.int .i64 (.ofNat 3)), (.int .i64 (.ofNat 5))])), (some (.hd 2 0 2 1 2 false)), (some (.cells 3 [(.int .i64 (.ofNat 2)), (.int .i64 (.ofNat 6))])), (some (.hd 4 0 2 1 2 false)), (some (.cells 3 [(.int .i64 (.ofNat 1)), (.int .i64 (.ofNat 7))])), (some (.hd 6 0 2 1 2 false)), (some (.cells 3 [(.int .i64 (.ofNat 0)), (.int .i64 (.ofNat 4))])), (some (.hd 8 0 2 1 2 false)), (some (.cells 40 [(.int .i64 (.ofNat 0)), (.int .i64 (.ofNat 0)), (.int .u8 (.ofNat 0)), (.osl 9), (.int .i64 (.ofNat 0)), (.int .i64 (.ofNat 0)), (.int .u8 (.ofNat 1)), (.osl 7), (.int .i64 (.ofNat 0)), (.int .i64 (.ofNat 0)), (.int .u8 (.ofNat 2)), (.osl 5), (.int .i64 (.ofNat 0)), (.int .i64 (.ofNat 0)), (.int .u8 (.ofNat 3)), (.osl 3)])), (some (.hd 10 0 4 4 4 false)), (some (.cells 84 [(.int .i64 (.ofNat 1)), (.int .u8 (.ofNat 0)), (.int .u8 (.ofNat 2))])), (some (.hd 12 0 1 3 1 false))], []⟩
set_option maxRecDepth 1000000 in
theorem tf6_ok : ToldOK (memoG E9 tbD 3000 60 27) tf6 := by
 unfold ToldOK
 kernel_rfl
end Go.Proofs.YtmhhmaopnjfcgaaGreatDoor.V.I
