import Derived.Test.YtdikmnmnapimoaaGreatDoorRows
import Derived.ProofKit
namespace Go.Proofs.YtdikmnmnapimoaaGreatDoor
open Go

set_option maxRecDepth 1000000 in
theorem fact3_24 : (Tryz.prog.stopsHeard : Bool) = true := by kernel_rfl

end Go.Proofs.YtdikmnmnapimoaaGreatDoor
