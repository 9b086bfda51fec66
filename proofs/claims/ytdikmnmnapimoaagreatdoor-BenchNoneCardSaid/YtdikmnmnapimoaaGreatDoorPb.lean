/-
BenchNone's row.
-/
import Derived.Test.YtdikmnmnapimoaaGreatDoorFz
import Derived.Test.YtdikmnmnapimoaaGreatDoorPa
namespace Go.Proofs.YtdikmnmnapimoaaGreatDoor
open Go

theorem none_holds : Rows.BenchNoneSaid :=
  OpenClaim.holds_of_wide 3 Tryz.f3 rfl rfl rfl rfl rfl rfl rfl ⟨rfl, rfl, rfl, rfl, rfl⟩ rfl rfl rfl rfl rfl (by as_aux_lemma => kernel_rfl) Tryz.func3 closed3
    (of_decide_eq_true (by as_aux_lemma => kernel_rfl)) (by unfold Func.isWrapper; rw [if_neg (of_decide_eq_false (by as_aux_lemma => kernel_rfl))]; exact ⟨rfl, rfl⟩)
    (fun os started H enc _ => lifted3 os started H enc)

end Go.Proofs.YtdikmnmnapimoaaGreatDoor
