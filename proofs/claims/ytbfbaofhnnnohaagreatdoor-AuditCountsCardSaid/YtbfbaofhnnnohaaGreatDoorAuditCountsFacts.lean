/- The closed facts of the row of AuditCounts, one by one. -/
import Derived.Test.YtbfbaofhnnnohaaGreatDoorRow
import Derived.JoinedOf
set_option maxRecDepth 100000
namespace Go.Proofs.YtbfbaofhnnnohaaGreatDoor.auditCounts
theorem wf : Rows.auditCountsRow.wf (OpenSpec.ofChange Rows.auditCountsSpec) = true := by kernel_rfl
theorem r1 : Tryz.f5.params.all (Tryz.prog.readableRec ·) = true := by kernel_rfl
theorem r2 : namedTie Tryz.prog Rows.auditCountsRow.named Rows.auditCountsSpec.vars = true := by kernel_rfl
theorem r3 : (Rows.auditCountsRow.stops == []) = true := by kernel_rfl
theorem r4 : (Rows.auditCountsRow.knobs == []) = true := by kernel_rfl
theorem r5 : (Rows.auditCountsRow.inPlace == Tryz.prog.inPlace 5) = true := by kernel_rfl
theorem r6 : (Rows.auditCountsRow.unfollowed == Tryz.prog.unfollowed 5) = true := by kernel_rfl
theorem r7 : (Rows.auditCountsRow.recurses == Tryz.prog.recurses 5) = true := by kernel_rfl
theorem r8 : (Rows.auditCountsRow.named == Tryz.prog.varsNamed 5) = true := by kernel_rfl
theorem r9 : (Rows.auditCountsRow.maps == (Tryz.f5.params.toList ++ Rows.auditCountsSpec.plain.varTypes Tryz.prog).any (Tryz.prog.mapsRec ·)) = true := by kernel_rfl
theorem r10 : (Rows.auditCountsRow.ifaces == (Tryz.f5.params.toList ++ Rows.auditCountsSpec.plain.varTypes Tryz.prog).any (Tryz.prog.ifacesRec ·)) = true := by kernel_rfl
theorem r11 : (Rows.auditCountsRow.mapsOut == Tryz.prog.mapsAmong Tryz.f5.resultTypes.toList) = true := by kernel_rfl
theorem r12 : (Rows.auditCountsRow.loops == (Tryz.f5.params.toList ++ Rows.auditCountsSpec.plain.varTypes Tryz.prog).any (Tryz.prog.loopsFrom ·)) = true := by kernel_rfl
theorem r13 : (Rows.auditCountsRow.wideKeys == (Tryz.f5.params.toList ++ Rows.auditCountsSpec.plain.varTypes Tryz.prog ++ Tryz.f5.resultTypes.toList).any (Tryz.prog.wideKeysFrom ·)) = true := by kernel_rfl
theorem r14 : Rows.auditCountsSpec.vars.all (Tryz.prog.varReadable ·) = true := by kernel_rfl
theorem r15 : Tryz.f5.resultTypes.all (fun t => Tryz.prog.readableRec t && decide (t < Tryz.prog.types.size)) = true := by kernel_rfl
theorem r16 : (Rows.auditCountsRow.ifacesOut == Tryz.f5.resultTypes.toList.any (Tryz.prog.ifacesRec ·)) = true := by kernel_rfl
theorem r17 : (Rows.auditCountsRow.loopsOut == Tryz.f5.resultTypes.toList.any (Tryz.prog.loopsFrom ·)) = true := by kernel_rfl
theorem r18 : (Rows.auditCountsRow.plainKeys == Tryz.prog.plainKeys) = true := by kernel_rfl
theorem r19 : Rows.auditCountsRow.shortTexts.isNone = true := by kernel_rfl
theorem r20 : (Rows.auditCountsRow.lifted == Tryz.prog.liftsFinal) = true := by kernel_rfl
theorem r21 : (Tryz.prog.make == some Rows.auditCountsRow.make) = true := by kernel_rfl
theorem r22 : (Rows.auditCountsRow.kinds == (if Rows.auditCountsRow.domain.isEmpty then [] else Tryz.f5.params.toList.map fun t => match Tryz.prog.underlying t with | some (.int k) => some k | _ => none)) = true := by kernel_rfl
theorem r23 : (Rows.auditCountsRow.pinned == Rows.auditCountsRow.pinnedBy) = true := by kernel_rfl
theorem r24 : (Rows.auditCountsRow.veiled == (Tryz.f5.params.toList ++ Rows.auditCountsSpec.plain.varTypes Tryz.prog ++ Tryz.f5.resultTypes.toList).any (Tryz.prog.veiledRec ·)) = true := by kernel_rfl
theorem r25 : Rows.auditCountsRow.veiledFits Tryz.prog Tryz.f5.params.toList (Tryz.f5.params.toList ++ Rows.auditCountsSpec.plain.varTypes Tryz.prog ++ Tryz.f5.resultTypes.toList) = true := by kernel_rfl
theorem facts : joinedFacts Tryz.prog 5 Tryz.f5 Rows.auditCountsSpec Rows.auditCountsRow = true := Row.joined_of wf Row.laidOut Row.c1 r1 r2 r3 Row.c2 r4 Row.c3 r5 r6 r7 r8 r9 r10 r11 r12 r13 r14 r15 r16 r17 r18 r19 Row.c4 Row.c5 r20 r21 r22 r23 r24 r25
end Go.Proofs.YtbfbaofhnnnohaaGreatDoor.auditCounts
