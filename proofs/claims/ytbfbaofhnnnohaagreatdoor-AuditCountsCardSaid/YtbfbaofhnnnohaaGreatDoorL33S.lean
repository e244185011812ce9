import Derived.Test.YtbfbaofhnnnohaaGreatDoorProg
import Derived.KernelRfl
import Derived.Test.YtbfbaofhnnnohaaGreatDoorL33K
import Derived.Test.YtbfbaofhnnnohaaGreatDoorL33U
import Derived.Test.YtbfbaofhnnnohaaGreatDoorAmD
import Derived.Test.YtbfbaofhnnnohaaGreatDoorShelf
set_option maxRecDepth 100000
namespace Go.Proofs.YtbfbaofhnnnohaaGreatDoor
namespace Am
open Go
/-- The library's own cell lies in the map at the first place. -/
def L0 : M := cellAt 0
theorem sk296 : SumOk Tryz.prog L0 296 sumReplace := sumReplace_ok Tryz.call296 (g := 0) (k0 := 1) rfl Tryz.strings_Replace
theorem sa373 : (Tryz.f373.name == "runtime.NumGoroutine") = false := by kernel_rfl
theorem sb373 : Tryz.f373.body.isNone = true := by kernel_rfl
theorem sc373 : Extern.findNext Tryz.f373 = none := by kernel_rfl
theorem sd373 : Extern.find Tryz.f373 = some Extern.BytealgCount.count := by kernel_rfl
theorem sk373 : SumOk Tryz.prog L0 373 sumCnt := @sumCnt_ok Tryz.prog L0 373 Tryz.f373 Tryz.func373 sa373 sb373 sc373 sd373
theorem sk379 : SumOk Tryz.prog L0 379 sumJoin := sumJoin_ok Tryz.call379 Tryz.strings_Join_none Tryz.strings_Join
theorem sa394 : (Tryz.f394.name == "runtime.NumGoroutine") = false := by kernel_rfl
theorem sb394 : Tryz.f394.body.isNone = true := by kernel_rfl
theorem sc394 : Extern.findNext Tryz.f394 = none := by kernel_rfl
theorem sd394 : Extern.find Tryz.f394 = some Extern.BytealgIndexByte.indexByte := by kernel_rfl
theorem sk394 : SumOk Tryz.prog L0 394 sumIdx := @sumIdx_ok Tryz.prog L0 394 Tryz.f394 Tryz.func394 sa394 sb394 sc394 sd394
theorem sumsOk : SumsOk Tryz.prog L0 sums := fun f g h => T.all_get (p := fun f g => SumOk Tryz.prog L0 f g) (t := sumT) (ix := fun n => n) ⟨⟨⟨trivial, trivial, ⟨trivial, trivial, ⟨trivial, trivial, ⟨trivial, trivial, ⟨trivial, trivial, ⟨⟨trivial, sk379, trivial⟩, trivial, trivial⟩⟩⟩⟩⟩⟩, trivial, ⟨trivial, trivial, ⟨⟨trivial, trivial, ⟨trivial, trivial, ⟨trivial, trivial, ⟨⟨trivial, sk373, trivial⟩, trivial, trivial⟩⟩⟩⟩, trivial, trivial⟩⟩⟩, trivial, ⟨⟨⟨trivial, trivial, ⟨⟨trivial, trivial, ⟨⟨⟨trivial, sk296, trivial⟩, trivial, trivial⟩, trivial, trivial⟩⟩, trivial, trivial⟩⟩, trivial, trivial⟩, trivial, ⟨⟨trivial, trivial, ⟨⟨⟨⟨trivial, trivial, ⟨trivial, sk394, trivial⟩⟩, trivial, trivial⟩, trivial, trivial⟩, trivial, trivial⟩⟩, trivial, trivial⟩⟩⟩ f g h
theorem mixed : Tryz.prog.follows .mixedOrders = true := by kernel_rfl
end Am
end Go.Proofs.YtbfbaofhnnnohaaGreatDoor
