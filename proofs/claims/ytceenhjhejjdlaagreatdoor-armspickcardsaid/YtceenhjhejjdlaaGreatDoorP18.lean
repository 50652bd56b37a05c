/- The closed facts of the row. MADE BY PROGRAM (facts.py). -/
import Derived.Test.YtceenhjhejjdlaaGreatDoorP17
set_option linter.unusedSimpArgs false
set_option linter.unusedVariables false
namespace Go.Proofs.YtceenhjhejjdlaaGreatDoor
open Go
set_option maxRecDepth 100000
theorem fact5_0 : (Rows.armsPickRow.wf (OpenSpec.ofChange Rows.armsPickSpec)) = true := by kernel_rfl
theorem fact5_3 : (Tryz.f5.params.all (Tryz.prog.readableRec ·)) = true := by kernel_rfl
theorem fact5_4 : (namedTie Tryz.prog Rows.armsPickRow.named Rows.armsPickSpec.vars) = true := by kernel_rfl
theorem fact5_5 : ((Rows.armsPickRow.stops == [])) = true := by kernel_rfl
theorem fact5_7 : ((Rows.armsPickRow.knobs == [])) = true := by kernel_rfl
theorem fact5_9 : ((Rows.armsPickRow.inPlace == Tryz.prog.inPlace 5)) = true := by kernel_rfl
theorem fact5_10 : ((Rows.armsPickRow.unfollowed == Tryz.prog.unfollowed 5)) = true := by kernel_rfl
theorem fact5_11 : ((Rows.armsPickRow.recurses == Tryz.prog.recurses 5)) = true := by kernel_rfl
theorem fact5_12 : ((Rows.armsPickRow.named == Tryz.prog.varsNamed 5)) = true := by kernel_rfl
theorem fact5_13 : ((Rows.armsPickRow.maps == (Tryz.f5.params.toList ++ Rows.armsPickSpec.plain.varTypes Tryz.prog).any (Tryz.prog.mapsRec ·))) = true := by kernel_rfl
theorem fact5_14 : ((Rows.armsPickRow.ifaces == (Tryz.f5.params.toList ++ Rows.armsPickSpec.plain.varTypes Tryz.prog).any (Tryz.prog.ifacesRec ·))) = true := by kernel_rfl
theorem fact5_15 : ((Rows.armsPickRow.mapsOut == Tryz.prog.mapsAmong Tryz.f5.resultTypes.toList)) = true := by kernel_rfl
theorem fact5_16 : ((Rows.armsPickRow.loops == (Tryz.f5.params.toList ++ Rows.armsPickSpec.plain.varTypes Tryz.prog).any (Tryz.prog.loopsFrom ·))) = true := by kernel_rfl
theorem fact5_17 : ((Rows.armsPickRow.wideKeys == (Tryz.f5.params.toList ++ Rows.armsPickSpec.plain.varTypes Tryz.prog ++ Tryz.f5.resultTypes.toList).any (Tryz.prog.wideKeysFrom ·))) = true := by kernel_rfl
theorem fact5_18 : (Rows.armsPickSpec.vars.all (Tryz.prog.varReadable ·)) = true := by kernel_rfl
theorem fact5_19 : (Tryz.f5.resultTypes.all (fun t => Tryz.prog.readableRec t && decide (t < Tryz.prog.types.size))) = true := by kernel_rfl
theorem fact5_20 : ((Rows.armsPickRow.ifacesOut == Tryz.f5.resultTypes.toList.any (Tryz.prog.ifacesRec ·))) = true := by kernel_rfl
theorem fact5_21 : ((Rows.armsPickRow.loopsOut == Tryz.f5.resultTypes.toList.any (Tryz.prog.loopsFrom ·))) = true := by kernel_rfl
theorem fact5_22 : ((Rows.armsPickRow.plainKeys == Tryz.prog.plainKeys)) = true := by kernel_rfl
theorem fact5_23 : (Rows.armsPickRow.shortTexts.isNone) = true := by kernel_rfl
theorem fact5_26 : ((Rows.armsPickRow.lifted == Tryz.prog.liftsFinal)) = true := by kernel_rfl
theorem fact5_27 : ((Tryz.prog.make == some Rows.armsPickRow.make)) = true := by kernel_rfl
theorem fact5_28 : ((Rows.armsPickRow.kinds == (if Rows.armsPickRow.domain.isEmpty then [] else Tryz.f5.params.toList.map fun t => match Tryz.prog.underlying t with | some (.int k) => some k | _ => none))) = true := by kernel_rfl
theorem fact5_29 : ((Rows.armsPickRow.pinned == Rows.armsPickRow.pinnedBy)) = true := by kernel_rfl
theorem fact5_30 : ((Rows.armsPickRow.veiled == (Tryz.f5.params.toList ++ Rows.armsPickSpec.plain.varTypes Tryz.prog ++ Tryz.f5.resultTypes.toList).any (Tryz.prog.veiledRec ·))) = true := by kernel_rfl
theorem fact5_31 : (Rows.armsPickRow.veiledFits Tryz.prog Tryz.f5.params.toList (Tryz.f5.params.toList ++ Rows.armsPickSpec.plain.varTypes Tryz.prog ++ Tryz.f5.resultTypes.toList)) = true := by kernel_rfl
theorem facts5 : joinedFacts Tryz.prog 5 Tryz.f5 Rows.armsPickSpec Rows.armsPickRow = true :=
  (and_t (and_t (and_t (and_t (and_t (and_t (and_t (and_t (and_t (and_t (and_t (and_t (and_t (and_t (and_t (and_t (and_t (and_t (and_t (and_t (and_t (and_t (and_t (and_t (and_t (and_t (and_t (and_t (and_t (and_t (and_t fact5_0 factP_1) factP_2) fact5_3) fact5_4) fact5_5) factP_6) fact5_7) factP_8) fact5_9) fact5_10) fact5_11) fact5_12) fact5_13) fact5_14) fact5_15) fact5_16) fact5_17) fact5_18) fact5_19) fact5_20) fact5_21) fact5_22) fact5_23) factP_24) factP_25) fact5_26) fact5_27) fact5_28) fact5_29) fact5_30) fact5_31)
end Go.Proofs.YtceenhjhejjdlaaGreatDoor
