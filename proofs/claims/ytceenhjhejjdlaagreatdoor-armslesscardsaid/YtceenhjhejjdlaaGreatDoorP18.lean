/- The closed facts of the row. MADE BY PROGRAM (facts.py). -/
import Derived.Test.YtceenhjhejjdlaaGreatDoorP17
set_option linter.unusedSimpArgs false
set_option linter.unusedVariables false
namespace Go.Proofs.YtceenhjhejjdlaaGreatDoor
open Go
set_option maxRecDepth 100000
theorem fact4_0 : (Rows.armsLessRow.wf (OpenSpec.ofChange Rows.armsLessSpec)) = true := by kernel_rfl
theorem fact4_3 : (Tryz.f4.params.all (Tryz.prog.readableRec ·)) = true := by kernel_rfl
theorem fact4_4 : (namedTie Tryz.prog Rows.armsLessRow.named Rows.armsLessSpec.vars) = true := by kernel_rfl
theorem fact4_5 : ((Rows.armsLessRow.stops == [])) = true := by kernel_rfl
theorem fact4_7 : ((Rows.armsLessRow.knobs == [])) = true := by kernel_rfl
theorem fact4_9 : ((Rows.armsLessRow.inPlace == Tryz.prog.inPlace 4)) = true := by kernel_rfl
theorem fact4_10 : ((Rows.armsLessRow.unfollowed == Tryz.prog.unfollowed 4)) = true := by kernel_rfl
theorem fact4_11 : ((Rows.armsLessRow.recurses == Tryz.prog.recurses 4)) = true := by kernel_rfl
theorem fact4_12 : ((Rows.armsLessRow.named == Tryz.prog.varsNamed 4)) = true := by kernel_rfl
theorem fact4_13 : ((Rows.armsLessRow.maps == (Tryz.f4.params.toList ++ Rows.armsLessSpec.plain.varTypes Tryz.prog).any (Tryz.prog.mapsRec ·))) = true := by kernel_rfl
theorem fact4_14 : ((Rows.armsLessRow.ifaces == (Tryz.f4.params.toList ++ Rows.armsLessSpec.plain.varTypes Tryz.prog).any (Tryz.prog.ifacesRec ·))) = true := by kernel_rfl
theorem fact4_15 : ((Rows.armsLessRow.mapsOut == Tryz.prog.mapsAmong Tryz.f4.resultTypes.toList)) = true := by kernel_rfl
theorem fact4_16 : ((Rows.armsLessRow.loops == (Tryz.f4.params.toList ++ Rows.armsLessSpec.plain.varTypes Tryz.prog).any (Tryz.prog.loopsFrom ·))) = true := by kernel_rfl
theorem fact4_17 : ((Rows.armsLessRow.wideKeys == (Tryz.f4.params.toList ++ Rows.armsLessSpec.plain.varTypes Tryz.prog ++ Tryz.f4.resultTypes.toList).any (Tryz.prog.wideKeysFrom ·))) = true := by kernel_rfl
theorem fact4_18 : (Rows.armsLessSpec.vars.all (Tryz.prog.varReadable ·)) = true := by kernel_rfl
theorem fact4_19 : (Tryz.f4.resultTypes.all (fun t => Tryz.prog.readableRec t && decide (t < Tryz.prog.types.size))) = true := by kernel_rfl
theorem fact4_20 : ((Rows.armsLessRow.ifacesOut == Tryz.f4.resultTypes.toList.any (Tryz.prog.ifacesRec ·))) = true := by kernel_rfl
theorem fact4_21 : ((Rows.armsLessRow.loopsOut == Tryz.f4.resultTypes.toList.any (Tryz.prog.loopsFrom ·))) = true := by kernel_rfl
theorem fact4_22 : ((Rows.armsLessRow.plainKeys == Tryz.prog.plainKeys)) = true := by kernel_rfl
theorem fact4_23 : (Rows.armsLessRow.shortTexts.isNone) = true := by kernel_rfl
theorem fact4_26 : ((Rows.armsLessRow.lifted == Tryz.prog.liftsFinal)) = true := by kernel_rfl
theorem fact4_27 : ((Tryz.prog.make == some Rows.armsLessRow.make)) = true := by kernel_rfl
theorem fact4_28 : ((Rows.armsLessRow.kinds == (if Rows.armsLessRow.domain.isEmpty then [] else Tryz.f4.params.toList.map fun t => match Tryz.prog.underlying t with | some (.int k) => some k | _ => none))) = true := by kernel_rfl
theorem fact4_29 : ((Rows.armsLessRow.pinned == Rows.armsLessRow.pinnedBy)) = true := by kernel_rfl
theorem fact4_30 : ((Rows.armsLessRow.veiled == (Tryz.f4.params.toList ++ Rows.armsLessSpec.plain.varTypes Tryz.prog ++ Tryz.f4.resultTypes.toList).any (Tryz.prog.veiledRec ·))) = true := by kernel_rfl
theorem fact4_31 : (Rows.armsLessRow.veiledFits Tryz.prog Tryz.f4.params.toList (Tryz.f4.params.toList ++ Rows.armsLessSpec.plain.varTypes Tryz.prog ++ Tryz.f4.resultTypes.toList)) = true := by kernel_rfl
theorem facts4 : joinedFacts Tryz.prog 4 Tryz.f4 Rows.armsLessSpec Rows.armsLessRow = true :=
  (and_t (and_t (and_t (and_t (and_t (and_t (and_t (and_t (and_t (and_t (and_t (and_t (and_t (and_t (and_t (and_t (and_t (and_t (and_t (and_t (and_t (and_t (and_t (and_t (and_t (and_t (and_t (and_t (and_t (and_t (and_t fact4_0 factP_1) factP_2) fact4_3) fact4_4) fact4_5) factP_6) fact4_7) factP_8) fact4_9) fact4_10) fact4_11) fact4_12) fact4_13) fact4_14) fact4_15) fact4_16) fact4_17) fact4_18) fact4_19) fact4_20) fact4_21) fact4_22) fact4_23) factP_24) factP_25) fact4_26) fact4_27) fact4_28) fact4_29) fact4_30) fact4_31)
end Go.Proofs.YtceenhjhejjdlaaGreatDoor
