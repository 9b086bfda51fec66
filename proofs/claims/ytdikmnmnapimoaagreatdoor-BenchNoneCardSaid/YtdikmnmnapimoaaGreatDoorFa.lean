import Derived.Test.YtdikmnmnapimoaaGreatDoorRows
import Derived.ProofKit
namespace Go.Proofs.YtdikmnmnapimoaaGreatDoor
open Go

theorem chunk_all {p : Nat → Bool} {a k : Nat} (h : (List.range' a k).all p = true) : ∀ t, a ≤ t → t < a + k → p t = true := by
  intro t h1 h2
  rw [List.all_eq_true] at h
  exact h t (List.mem_range'_1.mpr ⟨h1, h2⟩)

theorem laid_a : (List.range' 0 260).all (rowFine Tryz.prog) = true := by kernel_rfl

theorem laid_b : (List.range' 260 260).all (rowFine Tryz.prog) = true := by kernel_rfl

end Go.Proofs.YtdikmnmnapimoaaGreatDoor
