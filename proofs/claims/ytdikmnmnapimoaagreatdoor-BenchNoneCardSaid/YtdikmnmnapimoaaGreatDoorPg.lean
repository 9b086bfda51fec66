/-
The program, with tables to look things up quickly: they are the program's. No condition.
-/
import Derived.Test.YtdikmnmnapimoaaGreatDoorEvC
import Derived.Test.YtdikmnmnapimoaaGreatDoorProg
import Derived.KernelRfl
namespace Go.Proofs.YtdikmnmnapimoaaGreatDoor
open Go Go.Ideal
noncomputable def LP : Pg := pgOf Tryz.prog
set_option maxRecDepth 100000 in
theorem lp_ok : LOk LP := by
  refine lok_of 34 Tryz.func34 (by kernel_rfl) (by kernel_rfl) ?_ ?_ (by kernel_rfl)
  · kernel_rfl
  · kernel_rfl
end Go.Proofs.YtdikmnmnapimoaaGreatDoor
