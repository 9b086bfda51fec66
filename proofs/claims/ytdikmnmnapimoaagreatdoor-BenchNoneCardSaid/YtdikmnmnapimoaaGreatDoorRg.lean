/-
BenchNone, run by the kernel at any line: it answers true; awake was run elsewhere. No condition.
-/
import Derived.Test.YtdikmnmnapimoaaGreatDoorRf
namespace Go.Proofs.YtdikmnmnapimoaaGreatDoor
open Go Go.Ideal
set_option maxRecDepth 1000000 in
theorem run_none (line : ByteArray) : runVB LP [kAwake] 1000000 3 [.string line] s0 (.bool true) = true := by kernel_rfl
theorem none_ends (line : ByteArray) : ∃ s', FnOk LP 3 [.string line] s0 (.bool true) s' := runVB_ok lp_ok (runs_cons ok_awake runs_nil) (run_none line)
end Go.Proofs.YtdikmnmnapimoaaGreatDoor
