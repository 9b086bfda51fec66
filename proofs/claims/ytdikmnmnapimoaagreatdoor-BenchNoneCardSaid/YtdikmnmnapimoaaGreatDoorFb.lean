import Derived.Test.YtdikmnmnapimoaaGreatDoorFa
namespace Go.Proofs.YtdikmnmnapimoaaGreatDoor
open Go

theorem laid_c : (List.range' 520 273).all (rowFine Tryz.prog) = true := by kernel_rfl

theorem laid_n : Tryz.prog.types.size = 793 := by kernel_rfl

theorem laid_g : Tryz.prog.globals.all (fun g => decide (g.type < Tryz.prog.types.size)) = true := by kernel_rfl

theorem laid_f : Tryz.prog.funcs.all (fun f => f.params.all fun t => decide (t < Tryz.prog.types.size)) = true := by
  rw [laid_n]
  kernel_rfl

theorem laid : laidOutB Tryz.prog = true := by
  unfold laidOutB
  rw [laid_f, laid_g, Bool.and_true, Bool.and_true, laid_n, List.all_eq_true]
  intro t ht
  rw [List.mem_range] at ht
  by_cases h1 : t < 260
  · exact chunk_all laid_a t (by omega) (by omega)
  · by_cases h2 : t < 520
    · exact chunk_all laid_b t (by omega) (by omega)
    · exact chunk_all laid_c t (by omega) (by omega)

end Go.Proofs.YtdikmnmnapimoaaGreatDoor
