/-
The function begun, run by the kernel. No condition.
-/
import Derived.Test.YtdikmnmnapimoaaGreatDoorPg
import Derived.Test.YtdikmnmnapimoaaGreatDoorSa
namespace Go.Proofs.YtdikmnmnapimoaaGreatDoor
open Go Go.Ideal
theorem run_begun : runB LP [] 1000000 7 [] s0 (vp 11 0) sA = true := by kernel_rfl
end Go.Proofs.YtdikmnmnapimoaaGreatDoor
