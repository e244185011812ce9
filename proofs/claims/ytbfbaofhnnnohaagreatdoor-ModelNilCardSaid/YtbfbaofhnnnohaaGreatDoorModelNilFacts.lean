/- The closed facts of the row of ModelNil, one by one. -/
import Derived.Test.YtbfbaofhnnnohaaGreatDoorRow
import Derived.JoinedOf
set_option maxRecDepth 100000
namespace Go.Proofs.YtbfbaofhnnnohaaGreatDoor.modelNil
theorem wf : Rows.modelNilRow.wf (OpenSpec.ofChange Rows.modelNilSpec) = true := by kernel_rfl
theorem r1 : Tryz.f3.params.all (Tryz.prog.readableRec ·) = true := by kernel_rfl
theorem r2 : namedTie Tryz.prog Rows.modelNilRow.named Rows.modelNilSpec.vars = true := by kernel_rfl
theorem r3 : (Rows.modelNilRow.stops == []) = true := by kernel_rfl
theorem r4 : (Rows.modelNilRow.knobs == []) = true := by kernel_rfl
theorem r5 : (Rows.modelNilRow.inPlace == Tryz.prog.inPlace 3) = true := by kernel_rfl
theorem r6 : (Rows.modelNilRow.unfollowed == Tryz.prog.unfollowed 3) = true := by kernel_rfl
theorem r7 : (Rows.modelNilRow.recurses == Tryz.prog.recurses 3) = true := by kernel_rfl
theorem r8 : (Rows.modelNilRow.named == Tryz.prog.varsNamed 3) = true := by kernel_rfl
theorem r9 : (Rows.modelNilRow.maps == (Tryz.f3.params.toList ++ Rows.modelNilSpec.plain.varTypes Tryz.prog).any (Tryz.prog.mapsRec ·)) = true := by kernel_rfl
theorem r10 : (Rows.modelNilRow.ifaces == (Tryz.f3.params.toList ++ Rows.modelNilSpec.plain.varTypes Tryz.prog).any (Tryz.prog.ifacesRec ·)) = true := by kernel_rfl
theorem r11 : (Rows.modelNilRow.mapsOut == Tryz.prog.mapsAmong Tryz.f3.resultTypes.toList) = true := by kernel_rfl
theorem r12 : (Rows.modelNilRow.loops == (Tryz.f3.params.toList ++ Rows.modelNilSpec.plain.varTypes Tryz.prog).any (Tryz.prog.loopsFrom ·)) = true := by kernel_rfl
theorem r13 : (Rows.modelNilRow.wideKeys == (Tryz.f3.params.toList ++ Rows.modelNilSpec.plain.varTypes Tryz.prog ++ Tryz.f3.resultTypes.toList).any (Tryz.prog.wideKeysFrom ·)) = true := by kernel_rfl
theorem r14 : Rows.modelNilSpec.vars.all (Tryz.prog.varReadable ·) = true := by kernel_rfl
theorem r15 : Tryz.f3.resultTypes.all (fun t => Tryz.prog.readableRec t && decide (t < Tryz.prog.types.size)) = true := by kernel_rfl
theorem r16 : (Rows.modelNilRow.ifacesOut == Tryz.f3.resultTypes.toList.any (Tryz.prog.ifacesRec ·)) = true := by kernel_rfl
theorem r17 : (Rows.modelNilRow.loopsOut == Tryz.f3.resultTypes.toList.any (Tryz.prog.loopsFrom ·)) = true := by kernel_rfl
theorem r18 : (Rows.modelNilRow.plainKeys == Tryz.prog.plainKeys) = true := by kernel_rfl
theorem r19 : Rows.modelNilRow.shortTexts.isNone = true := by kernel_rfl
theorem r20 : (Rows.modelNilRow.lifted == Tryz.prog.liftsFinal) = true := by kernel_rfl
theorem r21 : (Tryz.prog.make == some Rows.modelNilRow.make) = true := by kernel_rfl
theorem r22 : (Rows.modelNilRow.kinds == (if Rows.modelNilRow.domain.isEmpty then [] else Tryz.f3.params.toList.map fun t => match Tryz.prog.underlying t with | some (.int k) => some k | _ => none)) = true := by kernel_rfl
theorem r23 : (Rows.modelNilRow.pinned == Rows.modelNilRow.pinnedBy) = true := by kernel_rfl
theorem r24 : (Rows.modelNilRow.veiled == (Tryz.f3.params.toList ++ Rows.modelNilSpec.plain.varTypes Tryz.prog ++ Tryz.f3.resultTypes.toList).any (Tryz.prog.veiledRec ·)) = true := by kernel_rfl
theorem r25 : Rows.modelNilRow.veiledFits Tryz.prog Tryz.f3.params.toList (Tryz.f3.params.toList ++ Rows.modelNilSpec.plain.varTypes Tryz.prog ++ Tryz.f3.resultTypes.toList) = true := by kernel_rfl
theorem facts : joinedFacts Tryz.prog 3 Tryz.f3 Rows.modelNilSpec Rows.modelNilRow = true := Row.joined_of wf Row.laidOut Row.c1 r1 r2 r3 Row.c2 r4 Row.c3 r5 r6 r7 r8 r9 r10 r11 r12 r13 r14 r15 r16 r17 r18 r19 Row.c4 Row.c5 r20 r21 r22 r23 r24 r25
end Go.Proofs.YtbfbaofhnnnohaaGreatDoor.modelNil
