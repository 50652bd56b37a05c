/- The closed facts of the row. MADE BY PROGRAM (facts.py). -/
import Derived.Test.YtceenhjhejjdlaaGreatDoorP17
set_option linter.unusedSimpArgs false
set_option linter.unusedVariables false
namespace Go.Proofs.YtceenhjhejjdlaaGreatDoor
open Go
set_option maxRecDepth 100000
theorem fact3_0 : (Rows.armsOnceRow.wf (OpenSpec.ofChange Rows.armsOnceSpec)) = true := by kernel_rfl
theorem fact3_3 : (Tryz.f3.params.all (Tryz.prog.readableRec ·)) = true := by kernel_rfl
theorem fact3_4 : (namedTie Tryz.prog Rows.armsOnceRow.named Rows.armsOnceSpec.vars) = true := by kernel_rfl
theorem fact3_5 : ((Rows.armsOnceRow.stops == [])) = true := by kernel_rfl
theorem fact3_7 : ((Rows.armsOnceRow.knobs == [])) = true := by kernel_rfl
theorem fact3_9 : ((Rows.armsOnceRow.inPlace == Tryz.prog.inPlace 3)) = true := by kernel_rfl
theorem fact3_10 : ((Rows.armsOnceRow.unfollowed == Tryz.prog.unfollowed 3)) = true := by kernel_rfl
theorem fact3_11 : ((Rows.armsOnceRow.recurses == Tryz.prog.recurses 3)) = true := by kernel_rfl
theorem fact3_12 : ((Rows.armsOnceRow.named == Tryz.prog.varsNamed 3)) = true := by kernel_rfl
theorem fact3_13 : ((Rows.armsOnceRow.maps == (Tryz.f3.params.toList ++ Rows.armsOnceSpec.plain.varTypes Tryz.prog).any (Tryz.prog.mapsRec ·))) = true := by kernel_rfl
theorem fact3_14 : ((Rows.armsOnceRow.ifaces == (Tryz.f3.params.toList ++ Rows.armsOnceSpec.plain.varTypes Tryz.prog).any (Tryz.prog.ifacesRec ·))) = true := by kernel_rfl
theorem fact3_15 : ((Rows.armsOnceRow.mapsOut == Tryz.prog.mapsAmong Tryz.f3.resultTypes.toList)) = true := by kernel_rfl
theorem fact3_16 : ((Rows.armsOnceRow.loops == (Tryz.f3.params.toList ++ Rows.armsOnceSpec.plain.varTypes Tryz.prog).any (Tryz.prog.loopsFrom ·))) = true := by kernel_rfl
theorem fact3_17 : ((Rows.armsOnceRow.wideKeys == (Tryz.f3.params.toList ++ Rows.armsOnceSpec.plain.varTypes Tryz.prog ++ Tryz.f3.resultTypes.toList).any (Tryz.prog.wideKeysFrom ·))) = true := by kernel_rfl
theorem fact3_18 : (Rows.armsOnceSpec.vars.all (Tryz.prog.varReadable ·)) = true := by kernel_rfl
theorem fact3_19 : (Tryz.f3.resultTypes.all (fun t => Tryz.prog.readableRec t && decide (t < Tryz.prog.types.size))) = true := by kernel_rfl
theorem fact3_20 : ((Rows.armsOnceRow.ifacesOut == Tryz.f3.resultTypes.toList.any (Tryz.prog.ifacesRec ·))) = true := by kernel_rfl
theorem fact3_21 : ((Rows.armsOnceRow.loopsOut == Tryz.f3.resultTypes.toList.any (Tryz.prog.loopsFrom ·))) = true := by kernel_rfl
theorem fact3_22 : ((Rows.armsOnceRow.plainKeys == Tryz.prog.plainKeys)) = true := by kernel_rfl
theorem fact3_23 : (Rows.armsOnceRow.shortTexts.isNone) = true := by kernel_rfl
theorem fact3_26 : ((Rows.armsOnceRow.lifted == Tryz.prog.liftsFinal)) = true := by kernel_rfl
theorem fact3_27 : ((Tryz.prog.make == some Rows.armsOnceRow.make)) = true := by kernel_rfl
theorem fact3_28 : ((Rows.armsOnceRow.kinds == (if Rows.armsOnceRow.domain.isEmpty then [] else Tryz.f3.params.toList.map fun t => match Tryz.prog.underlying t with | some (.int k) => some k | _ => none))) = true := by kernel_rfl
theorem fact3_29 : ((Rows.armsOnceRow.pinned == Rows.armsOnceRow.pinnedBy)) = true := by kernel_rfl
theorem fact3_30 : ((Rows.armsOnceRow.veiled == (Tryz.f3.params.toList ++ Rows.armsOnceSpec.plain.varTypes Tryz.prog ++ Tryz.f3.resultTypes.toList).any (Tryz.prog.veiledRec ·))) = true := by kernel_rfl
theorem fact3_31 : (Rows.armsOnceRow.veiledFits Tryz.prog Tryz.f3.params.toList (Tryz.f3.params.toList ++ Rows.armsOnceSpec.plain.varTypes Tryz.prog ++ Tryz.f3.resultTypes.toList)) = true := by kernel_rfl
theorem facts3 : joinedFacts Tryz.prog 3 Tryz.f3 Rows.armsOnceSpec Rows.armsOnceRow = true :=
  (and_t (and_t (and_t (and_t (and_t (and_t (and_t (and_t (and_t (and_t (and_t (and_t (and_t (and_t (and_t (and_t (and_t (and_t (and_t (and_t (and_t (and_t (and_t (and_t (and_t (and_t (and_t (and_t (and_t (and_t (and_t fact3_0 factP_1) factP_2) fact3_3) fact3_4) fact3_5) factP_6) fact3_7) factP_8) fact3_9) fact3_10) fact3_11) fact3_12) fact3_13) fact3_14) fact3_15) fact3_16) fact3_17) fact3_18) fact3_19) fact3_20) fact3_21) fact3_22) fact3_23) factP_24) factP_25) fact3_26) fact3_27) fact3_28) fact3_29) fact3_30) fact3_31)
end Go.Proofs.YtceenhjhejjdlaaGreatDoor
