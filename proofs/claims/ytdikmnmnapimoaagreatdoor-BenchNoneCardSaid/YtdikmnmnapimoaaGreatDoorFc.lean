import Derived.Test.YtdikmnmnapimoaaGreatDoorRows
import Derived.ProofKit
namespace Go.Proofs.YtdikmnmnapimoaaGreatDoor
open Go

set_option maxRecDepth 1000000 in
theorem fact3_2 : (mapsRowed Tryz.prog : Bool) = true := by kernel_rfl

set_option maxRecDepth 1000000 in
theorem fact3_0 : (Rows.benchNoneRow.wf (OpenSpec.ofChange Rows.benchNoneSpec) : Bool) = true := by kernel_rfl

set_option maxRecDepth 1000000 in
theorem fact3_3 : (Tryz.f3.params.all (Tryz.prog.readableRec ·) : Bool) = true := by kernel_rfl

set_option maxRecDepth 1000000 in
theorem fact3_4 : (namedTie Tryz.prog Rows.benchNoneRow.named Rows.benchNoneSpec.vars : Bool) = true := by kernel_rfl

set_option maxRecDepth 1000000 in
theorem fact3_5 : ((Rows.benchNoneRow.stops == []) : Bool) = true := by kernel_rfl

set_option maxRecDepth 1000000 in
theorem fact3_6 : ((Tryz.prog.stops == []) : Bool) = true := by kernel_rfl

set_option maxRecDepth 1000000 in
theorem fact3_7 : ((Rows.benchNoneRow.knobs == []) : Bool) = true := by kernel_rfl

set_option maxRecDepth 1000000 in
theorem fact3_8 : ((Tryz.prog.stopKnobs == []) : Bool) = true := by kernel_rfl

set_option maxRecDepth 1000000 in
theorem fact3_13 : ((Rows.benchNoneRow.maps == (Tryz.f3.params.toList ++ Rows.benchNoneSpec.plain.varTypes Tryz.prog).any (Tryz.prog.mapsRec ·)) : Bool) = true := by kernel_rfl

set_option maxRecDepth 1000000 in
theorem fact3_14 : ((Rows.benchNoneRow.ifaces == (Tryz.f3.params.toList ++ Rows.benchNoneSpec.plain.varTypes Tryz.prog).any (Tryz.prog.ifacesRec ·)) : Bool) = true := by kernel_rfl

set_option maxRecDepth 1000000 in
theorem fact3_15 : ((Rows.benchNoneRow.mapsOut == Tryz.prog.mapsAmong Tryz.f3.resultTypes.toList) : Bool) = true := by kernel_rfl

set_option maxRecDepth 1000000 in
theorem fact3_16 : ((Rows.benchNoneRow.loops == (Tryz.f3.params.toList ++ Rows.benchNoneSpec.plain.varTypes Tryz.prog).any (Tryz.prog.loopsFrom ·)) : Bool) = true := by kernel_rfl

set_option maxRecDepth 1000000 in
theorem fact3_17 : ((Rows.benchNoneRow.wideKeys == (Tryz.f3.params.toList ++ Rows.benchNoneSpec.plain.varTypes Tryz.prog ++ Tryz.f3.resultTypes.toList).any (Tryz.prog.wideKeysFrom ·)) : Bool) = true := by kernel_rfl

set_option maxRecDepth 1000000 in
theorem fact3_18 : (Rows.benchNoneSpec.vars.all (Tryz.prog.varReadable ·) : Bool) = true := by kernel_rfl

set_option maxRecDepth 1000000 in
theorem fact3_19 : (Tryz.f3.resultTypes.all (fun t => Tryz.prog.readableRec t && decide (t < Tryz.prog.types.size)) : Bool) = true := by kernel_rfl

set_option maxRecDepth 1000000 in
theorem fact3_20 : ((Rows.benchNoneRow.ifacesOut == Tryz.f3.resultTypes.toList.any (Tryz.prog.ifacesRec ·)) : Bool) = true := by kernel_rfl

set_option maxRecDepth 1000000 in
theorem fact3_21 : ((Rows.benchNoneRow.loopsOut == Tryz.f3.resultTypes.toList.any (Tryz.prog.loopsFrom ·)) : Bool) = true := by kernel_rfl

set_option maxRecDepth 1000000 in
theorem fact3_23 : (Rows.benchNoneRow.shortTexts.isNone : Bool) = true := by kernel_rfl

set_option maxRecDepth 1000000 in
theorem fact3_27 : ((Tryz.prog.make == some Rows.benchNoneRow.make) : Bool) = true := by kernel_rfl

set_option maxRecDepth 1000000 in
theorem fact3_28 : ((Rows.benchNoneRow.kinds == (if Rows.benchNoneRow.domain.isEmpty then [] else Tryz.f3.params.toList.map fun t => match Tryz.prog.underlying t with | some (.int k) => some k | _ => none)) : Bool) = true := by kernel_rfl

set_option maxRecDepth 1000000 in
theorem fact3_29 : ((Rows.benchNoneRow.pinned == Rows.benchNoneRow.pinnedBy) : Bool) = true := by kernel_rfl

set_option maxRecDepth 1000000 in
theorem fact3_30 : ((Rows.benchNoneRow.veiled == (Tryz.f3.params.toList ++ Rows.benchNoneSpec.plain.varTypes Tryz.prog ++ Tryz.f3.resultTypes.toList).any (Tryz.prog.veiledRec ·)) : Bool) = true := by kernel_rfl

set_option maxRecDepth 1000000 in
theorem fact3_31 : (Rows.benchNoneRow.veiledFits Tryz.prog Tryz.f3.params.toList (Tryz.f3.params.toList ++ Rows.benchNoneSpec.plain.varTypes Tryz.prog ++ Tryz.f3.resultTypes.toList) : Bool) = true := by kernel_rfl

end Go.Proofs.YtdikmnmnapimoaaGreatDoor
