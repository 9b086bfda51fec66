import Derived.Test.YtdikmnmnapimoaaGreatDoorRows
import Derived.ProofKit
namespace Go.Proofs.YtdikmnmnapimoaaGreatDoor
open Go

set_option maxRecDepth 1000000 in
theorem fact3_9 : ((Rows.benchNoneRow.inPlace == Tryz.prog.inPlace 3) : Bool) = true := by kernel_rfl

end Go.Proofs.YtdikmnmnapimoaaGreatDoor
