/-
The function settles, run by the kernel; three calls that were run elsewhere are known. No condition.
-/
import Derived.Test.YtdikmnmnapimoaaGreatDoorPg
import Derived.Test.YtdikmnmnapimoaaGreatDoorSb
namespace Go.Proofs.YtdikmnmnapimoaaGreatDoor
open Go Go.Ideal
noncomputable def ka : Run := ⟨212, [(vp 254 0), (vi 0), (vp 1799 0)], aIn, (.tuple ⟨[(vi 0), (.bool true)]⟩), aOut, false⟩
noncomputable def kb : Run := ⟨212, [(vp 254 0), (vi 0), (vp 1799 0)], bIn, (.tuple ⟨[(vi 0), (.bool true)]⟩), bOut, false⟩
noncomputable def kc : Run := ⟨212, [(vp 254 0), (vi 0), (vp 1799 0)], cIn, (.tuple ⟨[(vi 0), (.bool true)]⟩), cOut, false⟩
noncomputable def kBegun : Run := ⟨7, [], s0, vp 11 0, sA, false⟩
noncomputable def kSettles : Run := ⟨8, [vp 11 0], sA, .bool true, sB, false⟩
theorem run_settles : runB LP [ka, kb, kc] 1000000 8 [vp 11 0] sA (.bool true) sB = true := by kernel_rfl
end Go.Proofs.YtdikmnmnapimoaaGreatDoor
