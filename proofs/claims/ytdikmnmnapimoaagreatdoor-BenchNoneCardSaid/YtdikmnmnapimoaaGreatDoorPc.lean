/-
What BenchNone's tied card asks of the program.
-/
import Derived.Test.YtdikmnmnapimoaaGreatDoorRows
import Derived.SevenTiedAt
import Derived.Test.YtdikmnmnapimoaaGreatDoorPe
namespace Go.Proofs.YtdikmnmnapimoaaGreatDoor
open Go

theorem none_named : Tryz.pinned.checked.prog.funcNamed Rows.benchNoneRow.func = some 3 := by kernel_rfl

theorem none_func : Tryz.pinned.checked.prog.funcs[3]? = some Tryz.f3 := Tryz.func3

theorem none_looks : true = Tryz.pinned.checked.prog.looks [] := by kernel_rfl

theorem none_wants : Tryz.pinned.checked.prog.wantsStandIn 9 = false := by kernel_rfl

theorem none_goes : false = Rows.benchNoneRow.goesBy Tryz.pinned.checked.prog := by
  have hg : Tryz.pinned.checked.prog.goes 3 = false := goes_none 3
  unfold OpenClaim.goesBy Program.goesAt Program.goesFrom
  rw [none_named, Option.any_some, hg]
  rfl

theorem none_main : Tryz.pinned.checked.prog.mainIs = some (true, "063a68b82bd546cc57b7e125b1b9fcc554c8d8acbbf9f1c130dc724e4a1b025a".toList) := by kernel_rfl

theorem none_wf : Rows.benchNoneRow.wfByText (OpenSpec.ofChange Rows.benchNoneSpec) = true := by kernel_rfl

theorem none_hl : ∀ f fn, Tryz.pinned.checked.prog.funcNamed Rows.benchNoneRow.func = some f → Tryz.pinned.checked.prog.funcs[f]? = some fn →
    true = Tryz.pinned.checked.prog.looks [] ∧ ∀ (j : Nat) t, fn.params[j]? = some t → Tryz.pinned.checked.prog.wantsStandIn t = false := by
  intro f fn hf hfn
  rw [none_named] at hf
  have hf' : 3 = f := Option.some.inj hf
  subst hf'
  rw [none_func] at hfn
  have hfn' : Tryz.f3 = fn := Option.some.inj hfn
  subst hfn'
  refine ⟨none_looks, fun j t ht => ?_⟩
  rw [Tryz.params3] at ht
  have h9 : t = 9 := by
    rcases j with _ | j
    · simpa using ht.symm
    · simp at ht
  rw [h9]
  exact none_wants

end Go.Proofs.YtdikmnmnapimoaaGreatDoor
