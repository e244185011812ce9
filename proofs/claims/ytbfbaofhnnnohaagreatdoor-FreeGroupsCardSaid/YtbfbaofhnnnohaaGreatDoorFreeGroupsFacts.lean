/- The closed facts of the row of FreeGroups, one by one. -/
import Derived.Test.YtbfbaofhnnnohaaGreatDoorRow
import Derived.JoinedOf
set_option maxRecDepth 100000
namespace Go.Proofs.YtbfbaofhnnnohaaGreatDoor.freeGroups
theorem wf : Rows.freeGroupsRow.wf (OpenSpec.ofChange Rows.freeGroupsSpec) = true := by kernel_rfl
theorem r1 : Tryz.f7.params.all (Tryz.prog.readableRec ·) = true := by kernel_rfl
theorem r2 : namedTie Tryz.prog Rows.freeGroupsRow.named Rows.freeGroupsSpec.vars = true := by kernel_rfl
theorem r3 : (Rows.freeGroupsRow.stops == []) = true := by kernel_rfl
theorem r4 : (Rows.freeGroupsRow.knobs == []) = true := by kernel_rfl
theorem r5 : (Rows.freeGroupsRow.inPlace == Tryz.prog.inPlace 7) = true := by kernel_rfl
theorem r6 : (Rows.freeGroupsRow.unfollowed == Tryz.prog.unfollowed 7) = true := by kernel_rfl
theorem r7 : (Rows.freeGroupsRow.recurses == Tryz.prog.recurses 7) = true := by kernel_rfl
theorem r8 : (Rows.freeGroupsRow.named == Tryz.prog.varsNamed 7) = true := by kernel_rfl
theorem r9 : (Rows.freeGroupsRow.maps == (Tryz.f7.params.toList ++ Rows.freeGroupsSpec.plain.varTypes Tryz.prog).any (Tryz.prog.mapsRec ·)) = true := by kernel_rfl
theorem r10 : (Rows.freeGroupsRow.ifaces == (Tryz.f7.params.toList ++ Rows.freeGroupsSpec.plain.varTypes Tryz.prog).any (Tryz.prog.ifacesRec ·)) = true := by kernel_rfl
theorem r11 : (Rows.freeGroupsRow.mapsOut == Tryz.prog.mapsAmong Tryz.f7.resultTypes.toList) = true := by kernel_rfl
theorem r12 : (Rows.freeGroupsRow.loops == (Tryz.f7.params.toList ++ Rows.freeGroupsSpec.plain.varTypes Tryz.prog).any (Tryz.prog.loopsFrom ·)) = true := by kernel_rfl
theorem r13 : (Rows.freeGroupsRow.wideKeys == (Tryz.f7.params.toList ++ Rows.freeGroupsSpec.plain.varTypes Tryz.prog ++ Tryz.f7.resultTypes.toList).any (Tryz.prog.wideKeysFrom ·)) = true := by kernel_rfl
theorem r14 : Rows.freeGroupsSpec.vars.all (Tryz.prog.varReadable ·) = true := by kernel_rfl
theorem r15 : Tryz.f7.resultTypes.all (fun t => Tryz.prog.readableRec t && decide (t < Tryz.prog.types.size)) = true := by kernel_rfl
theorem r16 : (Rows.freeGroupsRow.ifacesOut == Tryz.f7.resultTypes.toList.any (Tryz.prog.ifacesRec ·)) = true := by kernel_rfl
theorem r17 : (Rows.freeGroupsRow.loopsOut == Tryz.f7.resultTypes.toList.any (Tryz.prog.loopsFrom ·)) = true := by kernel_rfl
theorem r18 : (Rows.freeGroupsRow.plainKeys == Tryz.prog.plainKeys) = true := by kernel_rfl
theorem r19 : Rows.freeGroupsRow.shortTexts.isNone = true := by kernel_rfl
theorem r20 : (Rows.freeGroupsRow.lifted == Tryz.prog.liftsFinal) = true := by kernel_rfl
theorem r21 : (Tryz.prog.make == some Rows.freeGroupsRow.make) = true := by kernel_rfl
theorem r22 : (Rows.freeGroupsRow.kinds == (if Rows.freeGroupsRow.domain.isEmpty then [] else Tryz.f7.params.toList.map fun t => match Tryz.prog.underlying t with | some (.int k) => some k | _ => none)) = true := by kernel_rfl
theorem r23 : (Rows.freeGroupsRow.pinned == Rows.freeGroupsRow.pinnedBy) = true := by kernel_rfl
theorem r24 : (Rows.freeGroupsRow.veiled == (Tryz.f7.params.toList ++ Rows.freeGroupsSpec.plain.varTypes Tryz.prog ++ Tryz.f7.resultTypes.toList).any (Tryz.prog.veiledRec ·)) = true := by kernel_rfl
theorem r25 : Rows.freeGroupsRow.veiledFits Tryz.prog Tryz.f7.params.toList (Tryz.f7.params.toList ++ Rows.freeGroupsSpec.plain.varTypes Tryz.prog ++ Tryz.f7.resultTypes.toList) = true := by kernel_rfl
theorem facts : joinedFacts Tryz.prog 7 Tryz.f7 Rows.freeGroupsSpec Rows.freeGroupsRow = true := Row.joined_of wf Row.laidOut Row.c1 r1 r2 r3 Row.c2 r4 Row.c3 r5 r6 r7 r8 r9 r10 r11 r12 r13 r14 r15 r16 r17 r18 r19 Row.c4 Row.c5 r20 r21 r22 r23 r24 r25
end Go.Proofs.YtbfbaofhnnnohaaGreatDoor.freeGroups
