/-
BenchNone returns true for every line, on every tape, in each memory in which the listed tables hold what the program's text lays. The runs are the kernel's, of an evaluator that was shown to tell what the machine does.
-/
import Derived.Test.YtdikmnmnapimoaaGreatDoorRows
import Derived.Test.YtdikmnmnapimoaaGreatDoorRg
import Derived.WalkKit
import Derived.ProofKit
import Derived.Lay
import Derived.Lib.LaidU8
import Derived.SevenTiedAt
namespace Go.Proofs.YtdikmnmnapimoaaGreatDoor
open Go Go.RowKit Go.Lib Go.ChangeShapes Go.WideShapes Go.ChangeAt Go.Ideal

abbrev lists : List (String × DataW Unit) := [("unicode/utf8.first", Rows.laid_unicode_utf8_first), ("unicode/utf8.acceptRanges", Rows.laid_unicode_utf8_acceptRanges), ("internal/strconv.uint64pow10", Rows.laid_internal_strconv_uint64pow10), ("math/bits.deBruijn32tab", Rows.laid_math_bits_deBruijn32tab), ("math/bits.deBruijn64tab", Rows.laid_math_bits_deBruijn64tab)]

theorem own : ownKnob Tryz.prog.godebug = none := by kernel_rfl
theorem g1 : Tryz.prog.globalNamed "internal/strconv.uint64pow10" = some 1 := by kernel_rfl
theorem g5 : Tryz.prog.globalNamed "math/bits.deBruijn64tab" = some 5 := by kernel_rfl
theorem y1 : (Tryz.prog.globals[1]?).map (·.type) = some 153 := by kernel_rfl
theorem y5 : (Tryz.prog.globals[5]?).map (·.type) = some 278 := by kernel_rfl
theorem c76 : Tryz.prog.cellsOf 76 = 1 := by kernel_rfl
theorem c5 : Tryz.prog.cellsOf 5 = 1 := by kernel_rfl
theorem c153 : Tryz.prog.cellsOf 153 = 20 := by kernel_rfl
theorem c278 : Tryz.prog.cellsOf 278 = 64 := by kernel_rfl
theorem u153 : Tryz.prog.underlying 153 = some (.array 20 76) := by kernel_rfl
theorem u76 : Tryz.prog.underlying 76 = some (.int .u64) := by kernel_rfl
theorem u278 : Tryz.prog.underlying 278 = some (.array 64 5) := by kernel_rfl
theorem u5 : Tryz.prog.underlying 5 = some (.int .u8) := by kernel_rfl
theorem u4 : Tryz.prog.underlying 4 = some .bool := by kernel_rfl
theorem u9 : Tryz.prog.underlying 9 = some .string := by kernel_rfl

abbrev zs1 : List Int := [1, 10, 100, 1000, 10000, 100000, 1000000, 10000000, 100000000, 1000000000, 10000000000, 100000000000, 1000000000000, 10000000000000, 100000000000000, 1000000000000000, 10000000000000000, 100000000000000000, 1000000000000000000, 10000000000000000000]
abbrev zs5 : List Int := [0, 1, 56, 2, 57, 49, 28, 3, 61, 58, 42, 50, 38, 29, 17, 4, 62, 47, 59, 36, 45, 43, 51, 22, 53, 39, 33, 30, 24, 18, 12, 5, 63, 55, 48, 27, 60, 41, 37, 16, 46, 35, 44, 21, 52, 32, 23, 11, 54, 26, 40, 15, 34, 20, 31, 10, 25, 14, 19, 9, 13, 8, 7, 6]

theorem var_heap {P : Program} {W : World} {n : String} {g : Nat} {cs : Array Value} (hg : P.globalNamed n = some g) (h : W.var? P n = some cs) : ∃ e z, W.heap[g]? = some (.cells cs e z) := by
  simp only [World.var?, hg, Option.bind_some] at h
  split at h
  · rename_i C e z hC
    cases h
    exact ⟨e, z, hC⟩
  · cases h

theorem cells1 {W : World} (h : laidMet Tryz.prog lists W) : ∃ C e z, W.heap[1]? = some (.cells C e z) ∧ C.toList = tab1 := by
  obtain ⟨g, t, cs, fuel, p, hg, hty, hvar, hd⟩ := laidMet.reads h (n := "internal/strconv.uint64pow10") (d := Rows.laid_internal_strconv_uint64pow10) (by simp [lists])
  obtain rfl := Option.some.inj (g1.symm.trans hg)
  obtain rfl := Option.some.inj (y1.symm.trans hty)
  obtain ⟨e, z, hC⟩ := var_heap g1 hvar
  exact ⟨cs, e, z, hC, cells_of_tab (zs := zs1) u153 u76 c76 c153 hd⟩

theorem cells5 {W : World} (h : laidMet Tryz.prog lists W) : ∃ C e z, W.heap[5]? = some (.cells C e z) ∧ C.toList = tab5 := by
  obtain ⟨g, t, cs, fuel, p, hg, hty, hvar, hd⟩ := laidMet.reads h (n := "math/bits.deBruijn64tab") (d := Rows.laid_math_bits_deBruijn64tab) (by simp [lists])
  obtain rfl := Option.some.inj (g5.symm.trans hg)
  obtain rfl := Option.some.inj (y5.symm.trans hty)
  obtain ⟨e, z, hC⟩ := var_heap g5 hvar
  exact ⟨cs, e, z, hC, cells_of_tab (zs := zs5) u278 u5 c5 c278 hd⟩

theorem law {f : FuncId} {args : List Value} {W : World} (h : ∃ s', FnOk LP f args s0 (.bool true) s') (hf : args.all flat = true) (hL : laidMet Tryz.prog lists W) :
    Calls Tryz.prog f ⟨args⟩ W fun e W' => e = .returned (.bool true) ∧ Below W.heap.size W W' := by
  obtain ⟨s', h⟩ := h
  obtain ⟨C, e1, z1, hC, hCl⟩ := cells1 hL
  obtain ⟨D, e2, z2, hD, hDl⟩ := cells5 hL
  exact calls_of_run (by decide) (by decide) tab1_flat tab5_flat h hf rfl hC hCl hD hDl

set_option maxRecDepth 100000 in
theorem lifted3 (os : Os) (started : os.Started) (H : Type) (enc : TypeId × Value → H) :
    ReturnsInHanded {} Tryz.checked os 3 .any (fun w args => (Rows.benchNoneSpec.pre enc Tryz.prog Tryz.f3 [] false w args ∧ laidMetH Tryz.prog lists w) ∧ sizedMet enc Tryz.prog Tryz.f3 (OpenSpec.ofChange Rows.benchNoneSpec) false w args)
      (Rows.benchNoneSpec.post enc Tryz.prog Tryz.f3 false true false false) := by
  refine returnsInHanded_of_change_and (C := Tryz.checked) (X := fun w _ => laidMetH Tryz.prog lists w) (fun _ _ _ hh h => h.of_heap hh) own started (by kernel_rfl) Tryz.func3
    (ChangeSpec.witness_shaped (enc := enc) (C := Tryz.checked) (os := os) (X := fun w _ => laidMetH Tryz.prog lists w) false (World.laidAll Tryz.prog os lists) #[.string ByteArray.empty] 8 (World.laidAll_os _ _ _)
      (World.shaped_of_ZipB (by kernel_rfl) (by kernel_rfl)) (by kernel_rfl) (by kernel_rfl) (by kernel_rfl)
      (by rw [MakeChecks.laidMetH_plain _ _ _ (by kernel_rfl)]; exact laidMet_laidAll _ (by kernel_rfl) (by kernel_rfl))) ?_
  intro W base args ds gs before hval0 hW _ _ hL _
  have hval : ∀ (j : Nat) t v, Tryz.f3.params[j]? = some t → args[j]? = some v → Value.okWide Tryz.prog W .any base t v := hval0
  have hW' := hW
  obtain ⟨p, q, hA0, hV, rfl, _, _⟩ := hW
  have hA : DataW.TrodAll enc Tryz.prog W 0 (fun _ => true) true Tryz.f3.params.toList args.toList ds p := hA0
  rw [Tryz.params3] at hA hval
  obtain ⟨v0, d0, rfl, rfl, h0⟩ := trodAll_one hA
  obtain ⟨rfl, rfl⟩ := trodVars_none hV
  obtain ⟨s, rfl, rfl, rfl, hs⟩ := ChangeMaps.open_string u9 (hval 0 9 v0 rfl rfl) h0
  simp only [List.append_nil] at hW'
  rw [MakeChecks.laidMetH_plain _ _ _ (by kernel_rfl)] at hL
  refine (law (none_ends s) rfl hL).mono fun e W' ⟨he, hb⟩ => ?_
  subst he
  exact ⟨_, rfl, _, _, _, [], [], [], hW', trodAll_mk1 (shut_bool u4 _), trodAll_mk1 (ChangeMaps.shut_string u9 hs), rfl, hb.frame _, fun h => by cases h⟩

end Go.Proofs.YtdikmnmnapimoaaGreatDoor
