/-
The function awake: it answers true; begun and settles were run elsewhere. No condition.
-/
import Derived.Test.YtdikmnmnapimoaaGreatDoorRa
import Derived.Test.YtdikmnmnapimoaaGreatDoorRb
import Derived.Test.YtdikmnmnapimoaaGreatDoorRc
import Derived.Test.YtdikmnmnapimoaaGreatDoorRd
import Derived.Test.YtdikmnmnapimoaaGreatDoorRe
namespace Go.Proofs.YtdikmnmnapimoaaGreatDoor
open Go Go.Ideal
theorem run_awake : runVB LP [kBegun, kSettles] 1000000 6 [] s0 (.bool true) = true := by kernel_rfl

theorem ok_a : Run.Ok LP ka := Run.ok_of (runB_ok lp_ok runs_nil run_a)
theorem ok_b : Run.Ok LP kb := Run.ok_of (runB_ok lp_ok runs_nil run_b)
theorem ok_c : Run.Ok LP kc := Run.ok_of (runB_ok lp_ok runs_nil run_c)
theorem ok_begun : Run.Ok LP kBegun := Run.ok_of (runB_ok lp_ok runs_nil run_begun)
theorem ok_settles : Run.Ok LP kSettles := Run.ok_of (runB_ok lp_ok (runs_cons ok_a (runs_cons ok_b (runs_cons ok_c runs_nil))) run_settles)
theorem awake_ends : ∃ s', FnOk LP 6 [] s0 (.bool true) s' := runVB_ok lp_ok (runs_cons ok_begun (runs_cons ok_settles runs_nil)) run_awake
noncomputable def sAwake : ISt := Classical.choose awake_ends
noncomputable def kAwake : Run := ⟨6, [], s0, .bool true, sAwake, true⟩
theorem tab1_flat : tab1.all flat = true := by kernel_rfl
theorem tab5_flat : tab5.all flat = true := by kernel_rfl
theorem ok_awake : Run.Ok LP kAwake := Run.ok_apart (Classical.choose_spec awake_ends) (by decide) (by decide) tab1_flat tab5_flat rfl rfl
end Go.Proofs.YtdikmnmnapimoaaGreatDoor
