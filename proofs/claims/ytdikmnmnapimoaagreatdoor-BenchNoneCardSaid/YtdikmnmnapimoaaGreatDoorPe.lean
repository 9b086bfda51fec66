/-
No function of the program starts a goroutine.
-/
import Derived.Test.YtdikmnmnapimoaaGreatDoorRows
import Derived.ProofKit
import GoSem.ClaimGoes
namespace Go.Proofs.YtdikmnmnapimoaaGreatDoor
open Go

theorem goes_range {P : Program} (h : ∀ g, g < P.funcs.size → (P.funcs[g]?).any Func.goes = false) (f : FuncId) : P.goes f = false := by
  have h' : ∀ g : Nat, (P.funcs[g]?).any Func.goes = false := by
    intro g
    by_cases hg : g < P.funcs.size
    · exact h g hg
    · rw [Array.getElem?_eq_none (by omega)]; rfl
  have h1 : ((P.closure f).any fun g => (P.funcs[g]?).any Func.goes) = false := by
    rw [List.any_eq_false]
    intro g _
    rw [h' g]
    exact Bool.false_ne_true
  have h2 : P.funcs.any Func.goes = false := by
    rw [Array.any_eq_false]
    intro i hi hc
    have h3 := h' i
    rw [Array.getElem?_eq_getElem hi, Option.any_some] at h3
    rw [h3] at hc
    cases hc
  unfold Program.goes
  rw [h1, h2, Bool.and_false]
  rfl

theorem goes_a : (List.range' 0 240).all (fun g => !(Tryz.prog.funcs[g]?).any Func.goes) = true := by kernel_rfl

theorem goes_b : (List.range' 240 240).all (fun g => !(Tryz.prog.funcs[g]?).any Func.goes) = true := by kernel_rfl

theorem goes_c : (List.range' 480 243).all (fun g => !(Tryz.prog.funcs[g]?).any Func.goes) = true := by kernel_rfl

theorem goes_n : Tryz.prog.funcs.size = 723 := by kernel_rfl

theorem goes_part {a k : Nat} (h : (List.range' a k).all (fun g => !(Tryz.prog.funcs[g]?).any Func.goes) = true) (g : Nat) (h1 : a ≤ g) (h2 : g < a + k) : (Tryz.prog.funcs[g]?).any Func.goes = false := by
  rw [List.all_eq_true] at h
  have h3 := h g (List.mem_range'_1.mpr ⟨h1, h2⟩)
  cases h4 : (Tryz.prog.funcs[g]?).any Func.goes with
  | false => rfl
  | true => rw [h4] at h3; cases h3

theorem goes_none (f : FuncId) : Tryz.prog.goes f = false := by
  refine goes_range (fun g hg => ?_) f
  rw [goes_n] at hg
  by_cases h1 : g < 240
  · exact goes_part goes_a g (by omega) (by omega)
  · by_cases h2 : g < 480
    · exact goes_part goes_b g (by omega) (by omega)
    · exact goes_part goes_c g (by omega) (by omega)

end Go.Proofs.YtdikmnmnapimoaaGreatDoor
