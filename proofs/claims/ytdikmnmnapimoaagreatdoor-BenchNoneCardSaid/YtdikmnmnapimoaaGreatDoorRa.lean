/-
A call of (*World).alone, run by the kernel from a known memory on. No condition.
-/
import Derived.Test.YtdikmnmnapimoaaGreatDoorPg
import Derived.Test.YtdikmnmnapimoaaGreatDoorSa
namespace Go.Proofs.YtdikmnmnapimoaaGreatDoor
open Go Go.Ideal
theorem run_a : runB LP [] 1000000 212 [(vp 254 0), (vi 0), (vp 1799 0)] aIn (.tuple ⟨[(vi 0), (.bool true)]⟩) aOut = true := by kernel_rfl
end Go.Proofs.YtdikmnmnapimoaaGreatDoor
