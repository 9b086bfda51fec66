/-
The program's tie, fact by fact, second part. No condition.
-/
import Derived.Test.YtdikmnmnapimoaaGreatDoorTiea
namespace Go.Proofs.YtdikmnmnapimoaaGreatDoor
open Go
theorem tieD (os : Os) (tape : Tape) : varsDone Tryz.prog 400 (varsId Tryz.prog) os tape = true := by kernel_rfl
theorem tie1 (os : Os) (tape : Tape) : (DataW.laidRun Tryz.prog (varsWorld Tryz.prog 400 (varsId Tryz.prog) os tape).memory 8 (tiedList.map (·.1))).map (·.1) = some tiedList := by kernel_rfl
theorem tie2 (os : Os) (tape : Tape) : (DataW.laidRun Tryz.prog (varsWorld Tryz.prog 400 (varsId Tryz.prog) os tape).memory 8 (tiedList.map (·.1))).map (fun x => decide x.2.Nodup && laidRowsB Tryz.prog (varsWorld Tryz.prog 400 (varsId Tryz.prog) os tape).memory x.2) = some true := by kernel_rfl
end Go.Proofs.YtdikmnmnapimoaaGreatDoor
