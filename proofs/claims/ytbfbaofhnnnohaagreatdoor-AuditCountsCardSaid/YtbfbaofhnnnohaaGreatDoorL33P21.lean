import Derived.Test.YtbfbaofhnnnohaaGreatDoorL33F
import Derived.Test.YtbfbaofhnnnohaaGreatDoorL33U
import Derived.Test.YtbfbaofhnnnohaaGreatDoorAmD
import Derived.KernelRfl
set_option maxRecDepth 1000000
set_option linter.unusedVariables false
namespace Go.Proofs.YtbfbaofhnnnohaaGreatDoor
namespace Am
open Go
noncomputable def s21_0 (x u v : Int) : St := ⟨.leaf, start x⟩
def q21_0 : CCode := .reg [o p0 (.p (.mv (.c (.bool false))))]
def q21_1 : CCode := .reg [o p2 (.p (.bld [(.string ⟨⟨[]⟩⟩), (.string ⟨⟨[]⟩⟩), (.int .i64 0)] [(0, 1, (.c (.string ⟨⟨[97, 102, 102, 47, 110, 49, 47, 49, 48, 46, 48, 46, 48, 46, 48, 45, 50, 54]⟩⟩))), (1, 1, (.c (.string ⟨⟨[65, 2]⟩⟩))), (2, 1, (.c (.int .i64 1)))])),
  o p3 (.a (.bsl 3 1 [(.string ⟨⟨[]⟩⟩), (.string ⟨⟨[]⟩⟩), (.int .i64 0)] [(0, 3, (.t p2))])),
  o p4 (.call 61 [(.t p3), (.c (.bool true))]),
  o p1 (.p (.mv (.t p4)))]
def q21_2 : CCode := .reg [o p5 (.p (.mv (.t p1))),
  o p6 (.p (.lenP false (.t p5))),
  o p7 (.p (.bin .i .eql (.t p6) (.c (.int .i64 1)))),
  o p8 (.p (.mv (.t p7))),
  g (some p9) p8 true (.p (.mv (.t p1))),
  g (some p10) p8 true (.p (.iaL 2 (.t p9) (.c (.int .i64 0)))),
  g (some p11) p8 true (.r (.ld 2 true (.t p10))),
  g (some p12) p8 true (.p (.bld [(.int .i64 0), (.string ⟨⟨[]⟩⟩)] [(0, 1, (.c (.int .i64 2))), (1, 1, (.c (.string ⟨⟨[97, 102, 102, 47, 110, 49, 47, 49, 48, 46, 48, 46, 48, 46, 48, 45, 50, 54]⟩⟩)))])),
  g (some p13) p8 true (.p (.eqA [0, 1] false (.t p11) (.t p12))),
  o p14 (.p (.pick (.t p8) (.t p13) (.c (.bool false)))),
  o p0 (.p (.mv (.t p14)))]
def q21_3 : CCode := .ret
theorem split21 : c21.body = (.seq q21_0 (.seq q21_1 (.seq q21_2 q21_3))) := rfl
noncomputable def s21_1_0 (x u v : Int) : St := ⟨(.node .leaf (some (.bool false)) .leaf),
  ⟨1, 1, (.node .leaf (some (.cells [(.int .i64 x)] false)) .leaf)⟩⟩
theorem rs21_0 (x u v : Int) : ends (keepX [p0] [0]) (execF (callF prog sums 200 200) 200 q21_0 (s21_0 x u v)) = [some (.normal, s21_1_0 x u v)] := by kernel_rfl
noncomputable def s21_2_0 (x u v : Int) : St := ⟨(.node (.node .leaf (some (.slice (some ⟨220, 0, none⟩) 1 4)) .leaf) (some (.bool false)) .leaf),
  ⟨224, 224, (.node .leaf (some (.cells [(.int .i64 x)] false)) (.node (.node .leaf none (.node .leaf none (.node .leaf none (.node (.node .leaf none (.node .leaf (some (.cells [(.int .i64 2), (.string ⟨⟨[97, 102, 102, 47, 110, 49, 47, 49, 48, 46, 48, 46, 48, 46, 48, 45, 50, 54]⟩⟩)] true)) .leaf)) none .leaf)))) none .leaf))⟩⟩
theorem rs21_1_0 (x u v : Int) : ends (keepX [p1, p0] [0, 220]) (execF (callF prog sums 200 200) 200 q21_1 (s21_1_0 x u v)) = [some (.normal, s21_2_0 x u v)] := by kernel_rfl
theorem z21_0 (x : Int) : ((execF (callF prog sums 200 200) 200 (.seq q21_2 q21_3) (s21_2_0 x 0 0)).all (okR c21.res)) = true := by kernel_rfl
end Am
end Go.Proofs.YtbfbaofhnnnohaaGreatDoor
