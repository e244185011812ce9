/- slices.Sorted of the keys of a map (strings), slices.AppendSeq of the keys of a map (uint32), at this program. Printed by srt.py. -/
import Derived.Shelf.SlIter.Sorted
import Derived.Shelf.SortM.Plain
import Derived.Shelf.SortM.SortNone
import Derived.KernelRfl
import Derived.Test.YtbfbaofhnnnohaaGreatDoorSlU
import Derived.Test.YtbfbaofhnnnohaaGreatDoorProg
set_option linter.unusedVariables false
namespace Go.Proofs
open Go.RowKit Go.Maps Go.Sort Go.Shelf
def Tryz.sorted298_ren : Go.Shelf.Ren := ⟨fun | 6 => 298 | 8 => 345 | 9 => 346 | 11 => 380 | 13 => 150 | 12 => 381 | 23 => 238 | 24 => 239 | 14 => 398 | 15 => 399 | 16 => 400 | 17 => 401 | 18 => 402 | 19 => 403 | 20 => 404 | 21 => 405 | 22 => 406 | 25 => 412 | 26 => 286 | 27 => 287 | 28 => 413 | 29 => 414 | 30 => 262 | 31 => 417 | n => n, fun | 26 => 9 | 28 => 402 | 24 => 237 | 0 => 0 | 3 => 3 | 37 => 269 | 48 => 22 | 50 => 284 | 4 => 4 | 40 => 341 | 39 => 340 | 45 => 264 | 5 => 5 | 9 => 9 | 51 => 386 | 55 => 390 | 57 => 422 | 58 => 423 | 33 => 135 | n => n, fun | n => n⟩
theorem Tryz.sorted298 : Go.Proofs.SlLaysZ.n6 Tryz.prog Tryz.sorted298_ren := {
  mixed := by kernel_rfl
  f6 := ⟨Tryz.f298.name, by decide, Tryz.func298.trans (congrArg some (by kernel_rfl))⟩
  f8 := ⟨Tryz.f345.name, by decide, Tryz.func345.trans (congrArg some (by kernel_rfl))⟩
  f11 := ⟨Tryz.f380.name, by decide, Tryz.func380.trans (congrArg some (by kernel_rfl))⟩
  t0 := Tryz.underlying0
  a0 := Tryz.isAgg0
  z0 := Tryz.sizeOf0
  v0 := Tryz.zeroValue0
  t24 := Tryz.underlying237
  a24 := Tryz.isAgg237
  z24 := Tryz.sizeOf237
  v24 := Tryz.zeroValue237
  t26 := Tryz.underlying9
  a26 := Tryz.isAgg9
  z26 := Tryz.sizeOf9
  v26 := Tryz.zeroValue9
  t28 := Tryz.underlying402
  a28 := Tryz.isAgg402
  z28 := Tryz.sizeOf402
  v28 := Tryz.zeroValue402
  i26 := by kernel_rfl }
def Tryz.sort346_ren : Go.Shelf.Ren := ⟨fun | 6 => 346 | 8 => 150 | 9 => 381 | 19 => 238 | 20 => 239 | 21 => 398 | 22 => 399 | 23 => 400 | 24 => 401 | 25 => 402 | 26 => 403 | 27 => 404 | 28 => 405 | 29 => 406 | 36 => 412 | 31 => 286 | 32 => 287 | 37 => 413 | 38 => 414 | 39 => 262 | 41 => 417 | n => n, fun | 27 => 237 | 29 => 9 | 3 => 3 | 32 => 269 | 26 => 237 | 0 => 0 | 44 => 22 | 46 => 284 | 4 => 4 | 36 => 341 | 35 => 340 | 41 => 264 | 5 => 5 | 9 => 9 | 53 => 386 | 57 => 390 | 63 => 422 | 64 => 423 | n => n, fun | n => n⟩
theorem Tryz.sort346 : Go.Proofs.SlLaysM.n6 Tryz.prog Tryz.sort346_ren := {
  mixed := by kernel_rfl
  f6 := ⟨Tryz.f346.name, by decide, Tryz.func346.trans (congrArg some (by kernel_rfl))⟩
  f8 := Tryz.func150.trans (congrArg some (by kernel_rfl))
  f9 := ⟨Tryz.f381.name, by decide, Tryz.func381.trans (congrArg some (by kernel_rfl))⟩
  f19 := Tryz.func238.trans (congrArg some (by kernel_rfl))
  f20 := Tryz.func239.trans (congrArg some (by kernel_rfl))
  f21 := ⟨Tryz.f398.name, by decide, Tryz.func398.trans (congrArg some (by kernel_rfl))⟩
  f22 := ⟨Tryz.f399.name, by decide, Tryz.func399.trans (congrArg some (by kernel_rfl))⟩
  f23 := ⟨Tryz.f400.name, by decide, Tryz.func400.trans (congrArg some (by kernel_rfl))⟩
  f24 := ⟨Tryz.f401.name, by decide, Tryz.func401.trans (congrArg some (by kernel_rfl))⟩
  f25 := ⟨Tryz.f402.name, by decide, Tryz.func402.trans (congrArg some (by kernel_rfl))⟩
  f26 := ⟨Tryz.f403.name, by decide, Tryz.func403.trans (congrArg some (by kernel_rfl))⟩
  f27 := ⟨Tryz.f404.name, by decide, Tryz.func404.trans (congrArg some (by kernel_rfl))⟩
  f28 := ⟨Tryz.f405.name, by decide, Tryz.func405.trans (congrArg some (by kernel_rfl))⟩
  f29 := ⟨Tryz.f406.name, by decide, Tryz.func406.trans (congrArg some (by kernel_rfl))⟩
  f31 := Tryz.func286.trans (congrArg some (by kernel_rfl))
  f32 := Tryz.func287.trans (congrArg some (by kernel_rfl))
  f36 := ⟨Tryz.f412.name, by decide, Tryz.func412.trans (congrArg some (by kernel_rfl))⟩
  f37 := ⟨Tryz.f413.name, by decide, Tryz.func413.trans (congrArg some (by kernel_rfl))⟩
  f38 := ⟨Tryz.f414.name, by decide, Tryz.func414.trans (congrArg some (by kernel_rfl))⟩
  f39 := ⟨Tryz.f262.name, by decide, Tryz.func262.trans (congrArg some (by kernel_rfl))⟩
  f41 := ⟨Tryz.f417.name, by decide, Tryz.func417.trans (congrArg some (by kernel_rfl))⟩
  t0 := Tryz.underlying0
  a0 := Tryz.isAgg0
  z0 := Tryz.sizeOf0
  v0 := Tryz.zeroValue0
  t3 := Tryz.underlying3
  a3 := Tryz.isAgg3
  z3 := Tryz.sizeOf3
  v3 := Tryz.zeroValue3
  t4 := Tryz.underlying4
  a4 := Tryz.isAgg4
  z4 := Tryz.sizeOf4
  v4 := Tryz.zeroValue4
  t5 := Tryz.underlying5
  a5 := Tryz.isAgg5
  z5 := Tryz.sizeOf5
  v5 := Tryz.zeroValue5
  t9 := Tryz.underlying9
  a9 := Tryz.isAgg9
  z9 := Tryz.sizeOf9
  v9 := Tryz.zeroValue9
  t26 := Tryz.underlying237
  a26 := Tryz.isAgg237
  z26 := Tryz.sizeOf237
  v26 := Tryz.zeroValue237
  t27 := Tryz.underlying237
  a27 := Tryz.isAgg237
  z27 := Tryz.sizeOf237
  v27 := Tryz.zeroValue237
  t29 := Tryz.underlying9
  a29 := Tryz.isAgg9
  z29 := Tryz.sizeOf9
  v29 := Tryz.zeroValue9
  t32 := Tryz.underlying269
  a32 := Tryz.isAgg269
  z32 := Tryz.sizeOf269
  v32 := Tryz.zeroValue269
  t35 := Tryz.underlying340
  a35 := Tryz.isAgg340
  z35 := Tryz.sizeOf340
  v35 := Tryz.zeroValue340
  t36 := Tryz.underlying341
  a36 := Tryz.isAgg341
  z36 := Tryz.sizeOf341
  v36 := Tryz.zeroValue341
  t41 := Tryz.underlying264
  a41 := Tryz.isAgg264
  z41 := Tryz.sizeOf264
  v41 := Tryz.zeroValue264
  t44 := Tryz.underlying22
  a44 := Tryz.isAgg22
  z44 := Tryz.sizeOf22
  v44 := Tryz.zeroValue22
  t46 := Tryz.underlying284
  a46 := Tryz.isAgg284
  z46 := Tryz.sizeOf284
  v46 := Tryz.zeroValue284
  t53 := Tryz.underlying386
  a53 := Tryz.isAgg386
  z53 := Tryz.sizeOf386
  v53 := Tryz.zeroValue386
  t57 := Tryz.underlying390
  a57 := Tryz.isAgg390
  z57 := Tryz.sizeOf390
  v57 := Tryz.zeroValue390
  t63 := Tryz.underlying422
  a63 := Tryz.isAgg422
  z63 := Tryz.sizeOf422
  v63 := Tryz.zeroValue422
  t64 := Tryz.underlying423
  a64 := Tryz.isAgg423
  z64 := Tryz.sizeOf423
  v64 := Tryz.zeroValue423 }
def Tryz.keys347_ren : Go.Shelf.Ren := ⟨fun | 10 => 347 | n => n, fun | 33 => 135 | 23 => 212 | 0 => 0 | 4 => 4 | 26 => 9 | 3 => 144 | n => n, fun | n => n⟩
theorem Tryz.keys347 : Go.Proofs.SlLaysZ.n10 Tryz.prog Tryz.keys347_ren := {
  mixed := by kernel_rfl
  f10 := ⟨Tryz.f347.name, by decide, Tryz.func347.trans (congrArg some (by kernel_rfl))⟩
  t0 := Tryz.underlying0
  a0 := Tryz.isAgg0
  z0 := Tryz.sizeOf0
  v0 := Tryz.zeroValue0
  t4 := Tryz.underlying4
  a4 := Tryz.isAgg4
  z4 := Tryz.sizeOf4
  v4 := Tryz.zeroValue4
  t23 := Tryz.underlying212
  a23 := Tryz.isAgg212
  z23 := Tryz.sizeOf212
  v23 := Tryz.zeroValue212
  t26 := Tryz.underlying9
  a26 := Tryz.isAgg9
  z26 := Tryz.sizeOf9
  v26 := Tryz.zeroValue9
  t33 := Tryz.underlying135
  a33 := Tryz.isAgg135
  z33 := Tryz.sizeOf135
  v33 := Tryz.zeroValue135 }
def Tryz.keys390_ren : Go.Shelf.Ren := ⟨fun | 10 => 390 | n => n, fun | 33 => 135 | 23 => 157 | 0 => 0 | 4 => 4 | 26 => 9 | 3 => 3 | n => n, fun | n => n⟩
theorem Tryz.keys390 : Go.Proofs.SlLaysZ.n10 Tryz.prog Tryz.keys390_ren := {
  mixed := by kernel_rfl
  f10 := ⟨Tryz.f390.name, by decide, Tryz.func390.trans (congrArg some (by kernel_rfl))⟩
  t0 := Tryz.underlying0
  a0 := Tryz.isAgg0
  z0 := Tryz.sizeOf0
  v0 := Tryz.zeroValue0
  t4 := Tryz.underlying4
  a4 := Tryz.isAgg4
  z4 := Tryz.sizeOf4
  v4 := Tryz.zeroValue4
  t23 := Tryz.underlying157
  a23 := Tryz.isAgg157
  z23 := Tryz.sizeOf157
  v23 := Tryz.zeroValue157
  t26 := Tryz.underlying9
  a26 := Tryz.isAgg9
  z26 := Tryz.sizeOf9
  v26 := Tryz.zeroValue9
  t33 := Tryz.underlying135
  a33 := Tryz.isAgg135
  z33 := Tryz.sizeOf135
  v33 := Tryz.zeroValue135 }
def Tryz.keys131_ren : Go.Shelf.Ren := ⟨fun | 10 => 131 | n => n, fun | 33 => 83 | 23 => 73 | 0 => 0 | 4 => 4 | 26 => 22 | 3 => 23 | n => n, fun | n => n⟩
theorem Tryz.keys131 : Go.Proofs.SlLaysZU.n10 Tryz.prog Tryz.keys131_ren := {
  mixed := by kernel_rfl
  f10 := ⟨Tryz.f131.name, by decide, Tryz.func131.trans (congrArg some (by kernel_rfl))⟩
  t0 := Tryz.underlying0
  a0 := Tryz.isAgg0
  z0 := Tryz.sizeOf0
  v0 := Tryz.zeroValue0
  t4 := Tryz.underlying4
  a4 := Tryz.isAgg4
  z4 := Tryz.sizeOf4
  v4 := Tryz.zeroValue4
  t23 := Tryz.underlying73
  a23 := Tryz.isAgg73
  z23 := Tryz.sizeOf73
  v23 := Tryz.zeroValue73
  t26 := Tryz.underlying22
  a26 := Tryz.isAgg22
  z26 := Tryz.sizeOf22
  v26 := Tryz.zeroValue22
  t33 := Tryz.underlying83
  a33 := Tryz.isAgg83
  z33 := Tryz.sizeOf83
  v33 := Tryz.zeroValue83 }
def Tryz.app208_ren : Go.Shelf.Ren := ⟨fun | 11 => 208 | n => n, fun | 24 => 23 | 26 => 22 | 28 => 155 | 0 => 0 | 33 => 83 | 4 => 4 | n => n, fun | n => n⟩
theorem Tryz.app208 : Go.Proofs.SlLaysZU.n11 Tryz.prog Tryz.app208_ren := {
  mixed := by kernel_rfl
  f11 := ⟨Tryz.f208.name, by decide, Tryz.func208.trans (congrArg some (by kernel_rfl))⟩
  t0 := Tryz.underlying0
  a0 := Tryz.isAgg0
  z0 := Tryz.sizeOf0
  v0 := Tryz.zeroValue0
  t24 := Tryz.underlying23
  a24 := Tryz.isAgg23
  z24 := Tryz.sizeOf23
  v24 := Tryz.zeroValue23
  t26 := Tryz.underlying22
  a26 := Tryz.isAgg22
  z26 := Tryz.sizeOf22
  v26 := Tryz.zeroValue22
  t28 := Tryz.underlying155
  a28 := Tryz.isAgg155
  z28 := Tryz.sizeOf155
  v28 := Tryz.zeroValue155
  i26 := by kernel_rfl }

theorem Tryz.sorts298 (m : Nat) : AnyZ.SortsIn Tryz.prog Tryz.sorted298_ren Fence.wide m :=
  ⟨fun blk off cap ss W hH hblk hsz => callsIn_wide.2 (AnyM.slices_Sort_string Tryz.sort346 blk off cap ss W hH hblk hsz),
   fun p cap W => callsIn_wide.2 (AnyM.slices_Sort_string_none Tryz.sort346 p cap W)⟩

set_option maxHeartbeats 1000000 in
theorem Tryz.sortedAt347 (Bm o b nn : Nat) (D0 : DataW Unit) {R : Value → Option (DataW Unit × List MemPlace)} (w : World) (hBm : Bm < w.heap.size) (hm : w.cell? ⟨Bm, o, none⟩ = some (.map (some b))) (hown : w.ownsMap Tryz.prog 9 R b nn D0) (hs : Maps.size D0 ≤ 1000000) :
    Calls Tryz.prog 298 #[.func (.func 347) #[] #[.pointer (some ⟨Bm, o, none⟩)]] w fun e w' => ∃ (v : Value) (ss : List (List UInt8)), e = .returned v ∧ ss.Perm (strKeys D0) ∧ w'.ownsRow w.heap.size 9 1 v ss.length ((ss.mergeSort (fun x y => decide (x ≤ y))).map encStr) ∧ (v = .slice none 0 0 ↔ ss = []) ∧ Below w.heap.size w w' := by
  have hseq : SeqGives Fence.wide 2 Tryz.prog 347 #[.pointer (some ⟨Bm, o, none⟩)] encStr (fun ss => ss.Perm (strKeys D0)) (Maps.size D0) w :=
    AnyO.keys_gives (ρ := Tryz.keys347_ren) { Tryz.keys347 with } Fence.wide _ trivial rfl (by omega) Bm o b nn D0 w hBm hm hown
  have hmax : maxLen = 9223372036854775807 := rfl
  exact callsIn_wide.1 (AnyZ.sorted_in Tryz.sorted298 Fence.wide 5 trivial trivial trivial trivial rfl (by omega) (Tryz.sorts298 _) (enters_of Tryz.func346 (by kernel_rfl) rfl) 347 #[.pointer (some ⟨Bm, o, none⟩)] trivial (enters_of Tryz.func347 (by kernel_rfl) rfl) _ _ (by omega) (by omega) _ hseq)

set_option maxHeartbeats 1000000 in
theorem Tryz.sortedAt390 (Bm o b nn : Nat) (D0 : DataW Unit) {R : Value → Option (DataW Unit × List MemPlace)} (w : World) (hBm : Bm < w.heap.size) (hm : w.cell? ⟨Bm, o, none⟩ = some (.map (some b))) (hown : w.ownsMap Tryz.prog 9 R b nn D0) (hs : Maps.size D0 ≤ 1000000) :
    Calls Tryz.prog 298 #[.func (.func 390) #[] #[.pointer (some ⟨Bm, o, none⟩)]] w fun e w' => ∃ (v : Value) (ss : List (List UInt8)), e = .returned v ∧ ss.Perm (strKeys D0) ∧ w'.ownsRow w.heap.size 9 1 v ss.length ((ss.mergeSort (fun x y => decide (x ≤ y))).map encStr) ∧ (v = .slice none 0 0 ↔ ss = []) ∧ Below w.heap.size w w' := by
  have hseq : SeqGives Fence.wide 2 Tryz.prog 390 #[.pointer (some ⟨Bm, o, none⟩)] encStr (fun ss => ss.Perm (strKeys D0)) (Maps.size D0) w :=
    AnyO.keys_gives (ρ := Tryz.keys390_ren) { Tryz.keys390 with } Fence.wide _ trivial rfl (by omega) Bm o b nn D0 w hBm hm hown
  have hmax : maxLen = 9223372036854775807 := rfl
  exact callsIn_wide.1 (AnyZ.sorted_in Tryz.sorted298 Fence.wide 5 trivial trivial trivial trivial rfl (by omega) (Tryz.sorts298 _) (enters_of Tryz.func346 (by kernel_rfl) rfl) 390 #[.pointer (some ⟨Bm, o, none⟩)] trivial (enters_of Tryz.func390 (by kernel_rfl) rfl) _ _ (by omega) (by omega) _ hseq)

set_option maxHeartbeats 1000000 in
theorem Tryz.appAt131 (Bm o b nn : Nat) (D0 : DataW Unit) {R : Value → Option (DataW Unit × List MemPlace)} (w : World) (hBm : Bm < w.heap.size) (hm : w.cell? ⟨Bm, o, none⟩ = some (.map (some b))) (hown : w.ownsMap Tryz.prog 22 R b nn D0) (hs : Maps.size D0 ≤ 1000000) :
    Calls Tryz.prog 208 #[.slice none 0 0, .func (.func 131) #[] #[.pointer (some ⟨Bm, o, none⟩)]] w fun e w' => ∃ (v : Value) (ss : List Int), e = .returned v ∧ ss.Perm (uKeys D0) ∧ w'.ownsRow w.heap.size 22 1 v ss.length (ss.map encU) ∧ (v = .slice none 0 0 ↔ ss = []) ∧ Below w.heap.size w w' := by
  have hseq : SeqGives Fence.wide 4 Tryz.prog 131 #[.pointer (some ⟨Bm, o, none⟩)] encU (fun ss => ss.Perm (uKeys D0)) (Maps.size D0) w :=
    AnyZU.keys_gives (ρ := Tryz.keys131_ren) { Tryz.keys131 with } Fence.wide _ trivial rfl (by omega) Bm o b nn D0 w hBm hm hown
  have hmax : maxLen = 9223372036854775807 := rfl
  exact callsIn_wide.1 (AnyZU.appendSeq_in Tryz.app208 Fence.wide 5 trivial rfl (by omega) 131 #[.pointer (some ⟨Bm, o, none⟩)] trivial (enters_of Tryz.func131 (by kernel_rfl) rfl) _ _ (by omega) (by omega) _ hseq)

end Go.Proofs
