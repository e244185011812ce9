import Derived.Test.YtbfbaofhnnnohaaGreatDoorProg
import Derived.KernelRfl
import Derived.Test.YtbfbaofhnnnohaaGreatDoorL26K
import Derived.Test.YtbfbaofhnnnohaaGreatDoorL26U
import Derived.Test.YtbfbaofhnnnohaaGreatDoorAmD
import Derived.Test.YtbfbaofhnnnohaaGreatDoorShelf
import Derived.Test.YtbfbaofhnnnohaaGreatDoorSrt
import Derived.Test.YtbfbaofhnnnohaaGreatDoorAmE
set_option maxRecDepth 100000
namespace Go.Proofs.YtbfbaofhnnnohaaGreatDoor
namespace Am
open Go
/-- The library's own cell lies in the map at the first place. -/
def L0 : M := cellAt 0
theorem sk208 : SumOk Tryz.prog L0 208 (sumAppU [131]) := sumAppU_ok Tryz.call208 Tryz.underlying22 (by
  intro g hg Bm o b nn D0 w h1 h2 h3 h4
  have hg := memN_mem hg
  simp only [List.mem_cons, List.not_mem_nil, or_false] at hg
  rcases hg with rfl 
  · exact Tryz.appAt131 Bm o b nn D0 (R := anyElem) w h1 h2 h3 h4)
theorem sk296 : SumOk Tryz.prog L0 296 sumReplace := sumReplace_ok Tryz.call296 (g := 0) (k0 := 1) rfl Tryz.strings_Replace
theorem sk298 : SumOk Tryz.prog L0 298 (sumSortS [347, 390]) := sumSortS_ok Tryz.call298 Tryz.underlying9 (by
  intro g hg Bm o b nn D0 w h1 h2 h3 h4
  have hg := memN_mem hg
  simp only [List.mem_cons, List.not_mem_nil, or_false] at hg
  rcases hg with rfl | rfl 
  · exact Tryz.sortedAt347 Bm o b nn D0 (R := anyElem) w h1 h2 h3 h4
  · exact Tryz.sortedAt390 Bm o b nn D0 (R := anyElem) w h1 h2 h3 h4)
theorem sk379 : SumOk Tryz.prog L0 379 sumJoin := sumJoin_ok Tryz.call379 Tryz.strings_Join_none Tryz.strings_Join
theorem sumsOk : SumsOk Tryz.prog L0 sums := fun f g h => T.all_get (p := fun f g => SumOk Tryz.prog L0 f g) (t := sumT) (ix := fun n => n) ⟨⟨⟨trivial, trivial, ⟨trivial, trivial, ⟨trivial, trivial, ⟨trivial, trivial, ⟨trivial, trivial, ⟨⟨trivial, sk379, trivial⟩, trivial, trivial⟩⟩⟩⟩⟩⟩, trivial, trivial⟩, trivial, ⟨⟨⟨⟨trivial, trivial, ⟨⟨trivial, trivial, ⟨trivial, sk208, trivial⟩⟩, trivial, trivial⟩⟩, trivial, ⟨⟨trivial, trivial, ⟨⟨⟨trivial, sk296, trivial⟩, trivial, trivial⟩, trivial, trivial⟩⟩, trivial, trivial⟩⟩, trivial, trivial⟩, trivial, ⟨⟨trivial, trivial, ⟨⟨trivial, trivial, ⟨⟨⟨trivial, sk298, trivial⟩, trivial, trivial⟩, trivial, trivial⟩⟩, trivial, trivial⟩⟩, trivial, trivial⟩⟩⟩ f g h
theorem mixed : Tryz.prog.follows .mixedOrders = true := by kernel_rfl
end Am
end Go.Proofs.YtbfbaofhnnnohaaGreatDoor
