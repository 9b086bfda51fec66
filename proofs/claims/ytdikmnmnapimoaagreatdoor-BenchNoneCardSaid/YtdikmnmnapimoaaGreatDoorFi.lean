import Derived.Test.YtdikmnmnapimoaaGreatDoorRows
import Derived.ProofKit
namespace Go.Proofs.YtdikmnmnapimoaaGreatDoor
open Go

set_option maxRecDepth 1000000 in
theorem fact3_22 : ((Rows.benchNoneRow.plainKeys == Tryz.prog.plainKeys) : Bool) = true := by kernel_rfl

set_option maxRecDepth 1000000 in
theorem fact3_26 : ((Rows.benchNoneRow.lifted == Tryz.prog.liftsFinal) : Bool) = true := by kernel_rfl

end Go.Proofs.YtdikmnmnapimoaaGreatDoor
