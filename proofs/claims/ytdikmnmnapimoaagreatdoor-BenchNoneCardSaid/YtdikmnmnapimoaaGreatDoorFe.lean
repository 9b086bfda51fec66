import Derived.Test.YtdikmnmnapimoaaGreatDoorRows
import Derived.ProofKit
namespace Go.Proofs.YtdikmnmnapimoaaGreatDoor
open Go

set_option maxRecDepth 1000000 in
theorem unf3 : Tryz.prog.unfollowed 3 = true := by kernel_rfl

theorem fact3_10 : ((Rows.benchNoneRow.unfollowed == Tryz.prog.unfollowed 3) : Bool) = true := by rw [unf3]; kernel_rfl

theorem fact3_11 : ((Rows.benchNoneRow.recurses == Tryz.prog.recurses 3) : Bool) = true := by unfold Program.recurses; rw [unf3, Bool.true_or]; kernel_rfl

end Go.Proofs.YtdikmnmnapimoaaGreatDoor
