import Derived.Test.YtbfbaofhnnnohaaGreatDoorL26F
import Derived.Test.YtbfbaofhnnnohaaGreatDoorL26U
import Derived.Test.YtbfbaofhnnnohaaGreatDoorAmD
import Derived.KernelRfl
set_option maxRecDepth 1000000
set_option linter.unusedVariables false
namespace Go.Proofs.YtbfbaofhnnnohaaGreatDoor
namespace Am
open Go
noncomputable def s29_0 (x u v : Int) : St := ⟨.leaf, start x⟩
def q29_0 : CCode := .reg [o p0 (.p (.mv (.c (.bool false))))]
def q29_1 : CCode := .reg [o p7 (.a (.bsl 1 3 [(.int .u32 0)] [(0, 1, (.c (.int .u32 70))), (1, 1, (.c (.int .u32 1))), (2, 1, (.c (.int .u32 2)))])),
  o p8 (.call 25 [(.t p7)]),
  o p1 (.p (.mv (.t p8)))]
def q29_2 : CCode := .reg [o p9 (.p (.bld [(.bool false), (.int .i64 0), (.int .i64 0), (.slice none 0 0), (.int .i64 0), (.int .i64 0), (.slice none 0 0), (.int .i64 0), (.int .i64 0), (.slice none 0 0), (.int .i64 0), (.int .i64 0), (.slice none 0 0)] [(0, 1, (.c (.bool true)))])),
  o p2 (.a (.alc [(.bool false), (.int .i64 0), (.int .i64 0), (.slice none 0 0), (.int .i64 0), (.int .i64 0), (.slice none 0 0), (.int .i64 0), (.int .i64 0), (.slice none 0 0), (.int .i64 0), (.int .i64 0), (.slice none 0 0)])),
  n (.w (.st 13 (.t p2) (.t p9)))]
def q29_3 : CCode := .reg [o p10 (.p (.bld [(.int .i64 0), (.int .i64 0), (.int .i64 0)] [(2, 1, (.c (.int .i64 2)))])),
  o p11 (.a (.bsl 3 1 [(.int .i64 0), (.int .i64 0), (.int .i64 0)] [(0, 3, (.t p10))])),
  o p12 (.p (.bld [(.int .i64 0), (.int .i64 0), (.slice none 0 0)] [(0, 1, (.c (.int .i64 1))), (2, 1, (.t p11))])),
  o p13 (.p (.fa 1 (.t p2))),
  o p14 (.p (.iaA 4 3 (.t p13) (.c (.int .i64 0)))),
  n (.w (.st 3 (.t p14) (.t p12)))]
def q29_4 : CCode := .reg [o p15 (.r (.ld 13 true (.t p2))),
  o p16 (.call 48 [(.t p15)]),
  o p3 (.p (.mv (.t p16)))]
def q29_5 : CCode := .reg [o p17 (.call 49 []),
  o p18 (.p (.bld [(.slice none 0 0), (.int .i64 0), (.int .i64 0)] [])),
  o p19 (.a (.box 3 (.t p18))),
  o p4 (.p (.mv (.t p17))),
  o p5 (.p (.mv (.t p19)))]
def q29_6 : CCode := .reg [o p20 (.p (.mv (.t p4))),
  o p21 (.call 42 [(.c (.int .i64 0))]),
  o p22 (.call 42 [(.c (.int .i64 0))]),
  o p23 (.p (.bin .i .add (.t p22) (.c (.int .u32 1)))),
  o p24 (.a (.bsl 1 2 [(.int .u32 0)] [(0, 1, (.t p21)), (1, 1, (.t p23))])),
  o p25 (.p (.mv (.t p5))),
  o p26 (.p (.mkf 31 [(.t p25)] [])),
  o p27 (.call 30 [(.t p20), (.t p24), (.t p26)])]
def q29_7 : CCode := .reg [o p28 (.p (.mv (.t p4))),
  o p29 (.p (.mv (.t p3))),
  o p30 (.p (.mkf 51 [(.t p29)] [])),
  o p31 (.call 50 [(.t p28), (.t p30), (.c (.int .i64 20))]),
  o p6 (.p (.mv (.t p31)))]
def q29_8 : CCode := .reg [o p32 (.p (.mv (.t p1))),
  o p33 (.r (.lenM (.t p32))),
  o p34 (.p (.bin .i .eql (.t p33) (.c (.int .i64 2)))),
  o p35 (.p (.mv (.t p34))),
  g (some p36) p35 true (.p (.mv (.t p1))),
  g (some p37) p35 true (.r (.look (.slice none 0 0) false (.one 0) (.t p36) (.c (.int .u32 0)))),
  g (some p38) p35 true (.p (.lenP false (.t p37))),
  g (some p39) p35 true (.p (.bin .i .eql (.t p38) (.c (.int .i64 2)))),
  o p40 (.p (.pick (.t p35) (.t p39) (.c (.bool false)))),
  o p41 (.p (.mv (.t p40))),
  g (some p42) p41 true (.p (.mv (.t p1))),
  g (some p43) p41 true (.r (.look (.slice none 0 0) false (.one 0) (.t p42) (.c (.int .u32 0)))),
  g (some p44) p41 true (.p (.iaL 1 (.t p43) (.c (.int .i64 1)))),
  g (some p45) p41 true (.r (.ld 1 false (.t p44))),
  g (some p46) p41 true (.p (.bin .i .eql (.t p45) (.c (.int .u32 2)))),
  o p47 (.p (.pick (.t p41) (.t p46) (.c (.bool false)))),
  o p48 (.p (.mv (.t p47))),
  g (some p49) p48 true (.p (.mv (.t p1))),
  g (some p50) p48 true (.r (.look (.slice none 0 0) false (.one 0) (.t p49) (.c (.int .u32 64)))),
  g (some p51) p48 true (.p (.lenP false (.t p50))),
  g (some p52) p48 true (.p (.bin .i .eql (.t p51) (.c (.int .i64 1)))),
  o p53 (.p (.pick (.t p48) (.t p52) (.c (.bool false)))),
  o p54 (.p (.mv (.t p53))),
  g (some p55) p54 true (.p (.mv (.t p6))),
  o p56 (.p (.pick (.t p54) (.t p55) (.c (.bool false)))),
  o p57 (.p (.mv (.t p56))),
  g (some p58) p57 true (.p (.mv (.t p5))),
  g (some p59) p57 true (.p (.nck (.t p58))),
  g (some p60) p57 true (.p (.fa 0 (.t p59))),
  g (some p61) p57 true (.r (.ld 1 false (.t p60))),
  g (some p62) p57 true (.p (.lenP false (.t p61))),
  g (some p63) p57 true (.p (.bin .i .eql (.t p62) (.c (.int .i64 2)))),
  o p64 (.p (.pick (.t p57) (.t p63) (.c (.bool false)))),
  o p65 (.p (.mv (.t p64))),
  g (some p66) p65 true (.p (.mv (.t p5))),
  g (some p67) p65 true (.p (.nck (.t p66))),
  g (some p68) p65 true (.p (.fa 1 (.t p67))),
  g (some p69) p65 true (.r (.ld 1 false (.t p68))),
  g (some p70) p65 true (.p (.bin .i .eql (.t p69) (.c (.int .i64 0)))),
  o p71 (.p (.pick (.t p65) (.t p70) (.c (.bool false)))),
  o p0 (.p (.mv (.t p71)))]
def q29_9 : CCode := .ret
theorem split29 : c29.body = (.seq q29_0 (.seq q29_1 (.seq q29_2 (.seq q29_3 (.seq q29_4 (.seq q29_5 (.seq q29_6 (.seq q29_7 (.seq q29_8 q29_9))))))))) := rfl
noncomputable def s29_1_0 (x u v : Int) : St := ⟨(.node .leaf (some (.bool false)) .leaf),
  ⟨1, 1, (.node .leaf (some (.cells [(.int .i64 x)] false)) .leaf)⟩⟩
theorem rs29_0 (x u v : Int) : ends (keepX [p0] [0]) (execF (callF prog sums 200 200) 200 q29_0 (s29_0 x u v)) = [some (.normal, s29_1_0 x u v)] := by kernel_rfl
noncomputable def s29_2_0 (x u v : Int) : St := ⟨(.node (.node .leaf (some (.map (some 2))) .leaf) (some (.bool false)) .leaf),
  ⟨15, 15, (.node .leaf (some (.cells [(.int .i64 x)] false)) (.node .leaf (some (.map [((.int .u32 64), (.slice (some ⟨6, 0, none⟩) 1 2), 0), ((.int .u32 0), (.slice (some ⟨14, 0, none⟩) 2 2), 1)] 2)) (.node .leaf (some (.cells [(.int .u32 70)] true)) (.node .leaf (some (.cells [(.int .u32 1), (.int .u32 2)] true)) .leaf))))⟩⟩
theorem rs29_1_0 (x u v : Int) : ends (keepX [p1, p0] [0, 2, 6, 14]) (execF (callF prog sums 200 200) 200 q29_1 (s29_1_0 x u v)) = [some (.normal, s29_2_0 x u v)] := by kernel_rfl
noncomputable def s29_3_0 (x u v : Int) : St := ⟨(.node (.node .leaf (some (.map (some 2))) .leaf) (some (.bool false)) (.node .leaf (some (.pointer (some ⟨15, 0, none⟩))) .leaf)),
  ⟨16, 16, (.node (.node (.node (.node (.node .leaf (some (.cells [(.bool true), (.int .i64 0), (.int .i64 0), (.slice none 0 0), (.int .i64 0), (.int .i64 0), (.slice none 0 0), (.int .i64 0), (.int .i64 0), (.slice none 0 0), (.int .i64 0), (.int .i64 0), (.slice none 0 0)] true)) .leaf) none .leaf) none .leaf) none .leaf) (some (.cells [(.int .i64 x)] false)) (.node .leaf (some (.map [((.int .u32 64), (.slice (some ⟨6, 0, none⟩) 1 2), 0), ((.int .u32 0), (.slice (some ⟨14, 0, none⟩) 2 2), 1)] 2)) (.node .leaf (some (.cells [(.int .u32 70)] true)) (.node .leaf (some (.cells [(.int .u32 1), (.int .u32 2)] true)) .leaf))))⟩⟩
theorem rs29_2_0 (x u v : Int) : ends (keepX [p2, p1, p0] [0, 2, 6, 14, 15]) (execF (callF prog sums 200 200) 200 q29_2 (s29_2_0 x u v)) = [some (.normal, s29_3_0 x u v)] := by kernel_rfl
noncomputable def s29_4_0 (x u v : Int) : St := ⟨(.node (.node .leaf (some (.map (some 2))) .leaf) (some (.bool false)) (.node .leaf (some (.pointer (some ⟨15, 0, none⟩))) .leaf)),
  ⟨17, 17, (.node (.node (.node (.node (.node .leaf (some (.cells [(.bool true), (.int .i64 1), (.int .i64 0), (.slice (some ⟨16, 0, none⟩) 1 3), (.int .i64 0), (.int .i64 0), (.slice none 0 0), (.int .i64 0), (.int .i64 0), (.slice none 0 0), (.int .i64 0), (.int .i64 0), (.slice none 0 0)] true)) .leaf) none .leaf) none .leaf) none .leaf) (some (.cells [(.int .i64 x)] false)) (.node (.node (.node (.node .leaf (some (.cells [(.int .i64 0), (.int .i64 0), (.int .i64 2)] true)) .leaf) none .leaf) none .leaf) (some (.map [((.int .u32 64), (.slice (some ⟨6, 0, none⟩) 1 2), 0), ((.int .u32 0), (.slice (some ⟨14, 0, none⟩) 2 2), 1)] 2)) (.node .leaf (some (.cells [(.int .u32 70)] true)) (.node .leaf (some (.cells [(.int .u32 1), (.int .u32 2)] true)) .leaf))))⟩⟩
theorem rs29_3_0 (x u v : Int) : ends (keepX [p2, p1, p0] [0, 2, 6, 14, 15, 16]) (execF (callF prog sums 200 200) 200 q29_3 (s29_3_0 x u v)) = [some (.normal, s29_4_0 x u v)] := by kernel_rfl
noncomputable def s29_5_0 (x u v : Int) : St := ⟨(.node (.node (.node .leaf (some (.pointer (some ⟨2472, 0, none⟩))) .leaf) (some (.map (some 2))) .leaf) (some (.bool false)) .leaf),
  ⟨2480, 2480, (.node (.node (.node (.node .leaf none (.node (.node .leaf none (.node (.node .leaf none (.node .leaf none (.node (.node (.node .leaf (some (.map [((.string ⟨⟨[97, 102, 102, 47, 110, 49, 47, 49, 48, 46, 48, 46, 48, 46, 48, 45, 50, 54]⟩⟩), (.agg ⟨[(.string ⟨⟨[97, 102, 102, 47, 110, 49, 47, 49, 48, 46, 48, 46, 48, 46, 48, 45, 50, 54]⟩⟩), (.string ⟨⟨[65, 2]⟩⟩), (.int .i64 5)]⟩), 0), ((.string ⟨⟨[98, 108, 111, 99, 107, 47, 49, 48, 46, 48, 46, 48, 46, 48, 45, 50, 54]⟩⟩), (.agg ⟨[(.string ⟨⟨[98, 108, 111, 99, 107, 47, 49, 48, 46, 48, 46, 48, 46, 48, 45, 50, 54]⟩⟩), (.string ⟨⟨[66, 10, 0, 0, 0, 2, 110, 49, 1, 2, 104, 49, 2, 110, 49, 1, 1, 0, 0, 0, 0, 0, 0, 0, 0, 0, 0, 0, 0, 0, 0, 0, 0, 0, 0, 0, 0, 0, 0, 0, 0, 0, 0, 0, 0, 0, 0, 0, 0, 0, 0, 0, 0, 0, 0, 0, 0, 0, 0, 0, 0, 0, 0, 0, 0, 0, 0, 0, 0, 0, 0, 0, 0, 0, 0, 0, 0, 0, 0, 62, 2, 3, 4, 5, 6, 7, 8, 9, 10, 11, 12, 13, 14, 15, 16, 17, 18, 19, 20, 21, 22, 23, 24, 25, 26, 27, 28, 29, 30, 31, 32, 33, 34, 35, 36, 37, 38, 39, 40, 41, 42, 43, 44, 45, 46, 47, 48, 49, 50, 51, 52, 53, 54, 55, 56, 57, 58, 59, 60, 61, 62, 63]⟩⟩), (.int .i64 6)]⟩), 1), ((.string ⟨⟨[104, 97, 110, 100, 108, 101, 47, 104, 49]⟩⟩), (.agg ⟨[(.string ⟨⟨[104, 97, 110, 100, 108, 101, 47, 104, 49]⟩⟩), (.string ⟨⟨[72, 0, 1, 10, 0, 0, 0, 0, 2]⟩⟩), (.int .i64 7)]⟩), 2), ((.string ⟨⟨[110, 111, 100, 101, 47, 110, 49]⟩⟩), (.agg ⟨[(.string ⟨⟨[110, 111, 100, 101, 47, 110, 49]⟩⟩), (.string ⟨⟨[78, 0]⟩⟩), (.int .i64 2)]⟩), 3), ((.string ⟨⟨[110, 111, 100, 101, 47, 110, 50]⟩⟩), (.agg ⟨[(.string ⟨⟨[110, 111, 100, 101, 47, 110, 50]⟩⟩), (.string ⟨⟨[78, 0]⟩⟩), (.int .i64 3)]⟩), 4), ((.string ⟨⟨[110, 111, 100, 101, 47, 110, 51]⟩⟩), (.agg ⟨[(.string ⟨⟨[110, 111, 100, 101, 47, 110, 51]⟩⟩), (.string ⟨⟨[78, 1]⟩⟩), (.int .i64 4)]⟩), 5), ((.string ⟨⟨[112, 111, 111, 108, 47, 49, 48, 46, 48, 46, 48, 46, 48, 45, 50, 52]⟩⟩), (.agg ⟨[(.string ⟨⟨[112, 111, 111, 108, 47, 49, 48, 46, 48, 46, 48, 46, 48, 45, 50, 52]⟩⟩), (.string ⟨⟨[80, 10, 0, 0, 0, 24, 1]⟩⟩), (.int .i64 1)]⟩), 6)] 7)) .leaf) none .leaf) none .leaf))) none .leaf)) none .leaf)) none .leaf) none .leaf) (some (.cells [(.int .i64 x)] false)) (.node (.node (.node .leaf none (.node (.node .leaf none (.node (.node .leaf none (.node .leaf none (.node (.node (.node .leaf (some (.cells [(.int .i64 7), (.map (some 2471))] true)) .leaf) none .leaf) none .leaf))) none .leaf)) none .leaf)) none .leaf) (some (.map [((.int .u32 64), (.slice (some ⟨6, 0, none⟩) 1 2), 0), ((.int .u32 0), (.slice (some ⟨14, 0, none⟩) 2 2), 1)] 2)) (.node .leaf (some (.cells [(.int .u32 70)] true)) (.node .leaf (some (.cells [(.int .u32 1), (.int .u32 2)] true)) .leaf))))⟩⟩
theorem rs29_4_0 (x u v : Int) : ends (keepX [p3, p1, p0] [0, 2, 6, 14, 2471, 2472]) (execF (callF prog sums 200 200) 200 q29_4 (s29_4_0 x u v)) = [some (.normal, s29_5_0 x u v)] := by kernel_rfl
noncomputable def s29_6_0 (x u v : Int) : St := ⟨(.node (.node (.node .leaf (some (.pointer (some ⟨2472, 0, none⟩))) .leaf) (some (.map (some 2))) (.node .leaf (some (.pointer (some ⟨2481, 0, none⟩))) .leaf)) (some (.bool false)) (.node (.node .leaf (some (.pointer (some ⟨2480, 0, none⟩))) .leaf) none .leaf)),
  ⟨2482, 2482, (.node (.node (.node (.node .leaf none (.node (.node .leaf none (.node (.node .leaf none (.node .leaf none (.node (.node (.node .leaf (some (.map [((.string ⟨⟨[97, 102, 102, 47, 110, 49, 47, 49, 48, 46, 48, 46, 48, 46, 48, 45, 50, 54]⟩⟩), (.agg ⟨[(.string ⟨⟨[97, 102, 102, 47, 110, 49, 47, 49, 48, 46, 48, 46, 48, 46, 48, 45, 50, 54]⟩⟩), (.string ⟨⟨[65, 2]⟩⟩), (.int .i64 5)]⟩), 0), ((.string ⟨⟨[98, 108, 111, 99, 107, 47, 49, 48, 46, 48, 46, 48, 46, 48, 45, 50, 54]⟩⟩), (.agg ⟨[(.string ⟨⟨[98, 108, 111, 99, 107, 47, 49, 48, 46, 48, 46, 48, 46, 48, 45, 50, 54]⟩⟩), (.string ⟨⟨[66, 10, 0, 0, 0, 2, 110, 49, 1, 2, 104, 49, 2, 110, 49, 1, 1, 0, 0, 0, 0, 0, 0, 0, 0, 0, 0, 0, 0, 0, 0, 0, 0, 0, 0, 0, 0, 0, 0, 0, 0, 0, 0, 0, 0, 0, 0, 0, 0, 0, 0, 0, 0, 0, 0, 0, 0, 0, 0, 0, 0, 0, 0, 0, 0, 0, 0, 0, 0, 0, 0, 0, 0, 0, 0, 0, 0, 0, 0, 62, 2, 3, 4, 5, 6, 7, 8, 9, 10, 11, 12, 13, 14, 15, 16, 17, 18, 19, 20, 21, 22, 23, 24, 25, 26, 27, 28, 29, 30, 31, 32, 33, 34, 35, 36, 37, 38, 39, 40, 41, 42, 43, 44, 45, 46, 47, 48, 49, 50, 51, 52, 53, 54, 55, 56, 57, 58, 59, 60, 61, 62, 63]⟩⟩), (.int .i64 6)]⟩), 1), ((.string ⟨⟨[104, 97, 110, 100, 108, 101, 47, 104, 49]⟩⟩), (.agg ⟨[(.string ⟨⟨[104, 97, 110, 100, 108, 101, 47, 104, 49]⟩⟩), (.string ⟨⟨[72, 0, 1, 10, 0, 0, 0, 0, 2]⟩⟩), (.int .i64 7)]⟩), 2), ((.string ⟨⟨[110, 111, 100, 101, 47, 110, 49]⟩⟩), (.agg ⟨[(.string ⟨⟨[110, 111, 100, 101, 47, 110, 49]⟩⟩), (.string ⟨⟨[78, 0]⟩⟩), (.int .i64 2)]⟩), 3), ((.string ⟨⟨[110, 111, 100, 101, 47, 110, 50]⟩⟩), (.agg ⟨[(.string ⟨⟨[110, 111, 100, 101, 47, 110, 50]⟩⟩), (.string ⟨⟨[78, 0]⟩⟩), (.int .i64 3)]⟩), 4), ((.string ⟨⟨[110, 111, 100, 101, 47, 110, 51]⟩⟩), (.agg ⟨[(.string ⟨⟨[110, 111, 100, 101, 47, 110, 51]⟩⟩), (.string ⟨⟨[78, 1]⟩⟩), (.int .i64 4)]⟩), 5), ((.string ⟨⟨[112, 111, 111, 108, 47, 49, 48, 46, 48, 46, 48, 46, 48, 45, 50, 52]⟩⟩), (.agg ⟨[(.string ⟨⟨[112, 111, 111, 108, 47, 49, 48, 46, 48, 46, 48, 46, 48, 45, 50, 52]⟩⟩), (.string ⟨⟨[80, 10, 0, 0, 0, 24, 1]⟩⟩), (.int .i64 1)]⟩), 6)] 7)) .leaf) none .leaf) none .leaf))) none .leaf)) none .leaf)) none .leaf) none (.node (.node (.node .leaf none (.node .leaf none (.node (.node .leaf none (.node .leaf none (.node (.node (.node .leaf (some (.cells [(.slice none 0 0), (.int .i64 0), (.int .i64 0)] true)) .leaf) none .leaf) none .leaf))) none .leaf))) none .leaf) none .leaf)) (some (.cells [(.int .i64 x)] false)) (.node (.node (.node (.node .leaf none (.node .leaf none (.node (.node .leaf none (.node .leaf none (.node (.node (.node .leaf (some (.cells [(.int .i64 0), (.string ⟨⟨[]⟩⟩), (.string ⟨⟨[]⟩⟩), (.int .i64 0), (.string ⟨⟨[]⟩⟩), (.int .i64 0), .nilFunc, (.bool false), (.int .i64 0)] true)) .leaf) none .leaf) none .leaf))) none .leaf))) none (.node (.node .leaf none (.node (.node .leaf none (.node .leaf none (.node (.node (.node .leaf (some (.cells [(.int .i64 7), (.map (some 2471))] true)) .leaf) none .leaf) none .leaf))) none .leaf)) none .leaf)) none .leaf) (some (.map [((.int .u32 64), (.slice (some ⟨6, 0, none⟩) 1 2), 0), ((.int .u32 0), (.slice (some ⟨14, 0, none⟩) 2 2), 1)] 2)) (.node .leaf (some (.cells [(.int .u32 70)] true)) (.node .leaf (some (.cells [(.int .u32 1), (.int .u32 2)] true)) .leaf))))⟩⟩
theorem rs29_5_0 (x u v : Int) : ends (keepX [p4, p5, p3, p1, p0] [0, 2, 6, 14, 2471, 2472, 2480, 2481]) (execF (callF prog sums 200 200) 200 q29_5 (s29_5_0 x u v)) = [some (.normal, s29_6_0 x u v)] := by kernel_rfl
noncomputable def s29_7_0 (x u v : Int) : St := ⟨(.node (.node (.node .leaf (some (.pointer (some ⟨2472, 0, none⟩))) .leaf) (some (.map (some 2))) (.node .leaf (some (.pointer (some ⟨2481, 0, none⟩))) .leaf)) (some (.bool false)) (.node (.node .leaf (some (.pointer (some ⟨2480, 0, none⟩))) .leaf) none .leaf)),
  ⟨2526, 2526, (.node (.node (.node (.node .leaf none (.node (.node .leaf none (.node (.node .leaf none (.node .leaf none (.node (.node (.node .leaf (some (.map [((.string ⟨⟨[97, 102, 102, 47, 110, 49, 47, 49, 48, 46, 48, 46, 48, 46, 48, 45, 50, 54]⟩⟩), (.agg ⟨[(.string ⟨⟨[97, 102, 102, 47, 110, 49, 47, 49, 48, 46, 48, 46, 48, 46, 48, 45, 50, 54]⟩⟩), (.string ⟨⟨[65, 2]⟩⟩), (.int .i64 5)]⟩), 0), ((.string ⟨⟨[98, 108, 111, 99, 107, 47, 49, 48, 46, 48, 46, 48, 46, 48, 45, 50, 54]⟩⟩), (.agg ⟨[(.string ⟨⟨[98, 108, 111, 99, 107, 47, 49, 48, 46, 48, 46, 48, 46, 48, 45, 50, 54]⟩⟩), (.string ⟨⟨[66, 10, 0, 0, 0, 2, 110, 49, 1, 2, 104, 49, 2, 110, 49, 1, 1, 0, 0, 0, 0, 0, 0, 0, 0, 0, 0, 0, 0, 0, 0, 0, 0, 0, 0, 0, 0, 0, 0, 0, 0, 0, 0, 0, 0, 0, 0, 0, 0, 0, 0, 0, 0, 0, 0, 0, 0, 0, 0, 0, 0, 0, 0, 0, 0, 0, 0, 0, 0, 0, 0, 0, 0, 0, 0, 0, 0, 0, 0, 62, 2, 3, 4, 5, 6, 7, 8, 9, 10, 11, 12, 13, 14, 15, 16, 17, 18, 19, 20, 21, 22, 23, 24, 25, 26, 27, 28, 29, 30, 31, 32, 33, 34, 35, 36, 37, 38, 39, 40, 41, 42, 43, 44, 45, 46, 47, 48, 49, 50, 51, 52, 53, 54, 55, 56, 57, 58, 59, 60, 61, 62, 63]⟩⟩), (.int .i64 6)]⟩), 1), ((.string ⟨⟨[104, 97, 110, 100, 108, 101, 47, 104, 49]⟩⟩), (.agg ⟨[(.string ⟨⟨[104, 97, 110, 100, 108, 101, 47, 104, 49]⟩⟩), (.string ⟨⟨[72, 0, 1, 10, 0, 0, 0, 0, 2]⟩⟩), (.int .i64 7)]⟩), 2), ((.string ⟨⟨[110, 111, 100, 101, 47, 110, 49]⟩⟩), (.agg ⟨[(.string ⟨⟨[110, 111, 100, 101, 47, 110, 49]⟩⟩), (.string ⟨⟨[78, 0]⟩⟩), (.int .i64 2)]⟩), 3), ((.string ⟨⟨[110, 111, 100, 101, 47, 110, 50]⟩⟩), (.agg ⟨[(.string ⟨⟨[110, 111, 100, 101, 47, 110, 50]⟩⟩), (.string ⟨⟨[78, 0]⟩⟩), (.int .i64 3)]⟩), 4), ((.string ⟨⟨[110, 111, 100, 101, 47, 110, 51]⟩⟩), (.agg ⟨[(.string ⟨⟨[110, 111, 100, 101, 47, 110, 51]⟩⟩), (.string ⟨⟨[78, 1]⟩⟩), (.int .i64 4)]⟩), 5), ((.string ⟨⟨[112, 111, 111, 108, 47, 49, 48, 46, 48, 46, 48, 46, 48, 45, 50, 52]⟩⟩), (.agg ⟨[(.string ⟨⟨[112, 111, 111, 108, 47, 49, 48, 46, 48, 46, 48, 46, 48, 45, 50, 52]⟩⟩), (.string ⟨⟨[80, 10, 0, 0, 0, 24, 1]⟩⟩), (.int .i64 1)]⟩), 6)] 7)) .leaf) none .leaf) none .leaf))) none .leaf)) none .leaf)) none (.node (.node .leaf none (.node .leaf none (.node (.node .leaf none (.node .leaf none (.node (.node (.node .leaf (some (.cells [(.pointer (some ⟨2480, 0, none⟩)), (.map (some 2484)), (.slice (some ⟨2497, 1, none⟩) 0 2), (.slice none 0 0), (.int .i64 0), (.func (.func 31) ⟨[(.pointer (some ⟨2481, 0, none⟩))]⟩ ⟨[]⟩)] true)) .leaf) none .leaf) none .leaf))) none .leaf))) none .leaf)) none (.node (.node (.node (.node (.node .leaf none (.node .leaf none (.node .leaf none (.node (.node (.node .leaf (some (.cells [(.int .u32 167772160)] true)) .leaf) none .leaf) none .leaf)))) none .leaf) none (.node .leaf none (.node (.node .leaf none (.node .leaf none (.node (.node (.node .leaf (some (.cells [(.slice none 0 0), (.int .i64 0), (.int .i64 0)] true)) .leaf) none .leaf) none .leaf))) none .leaf))) none .leaf) none (.node (.node (.node (.node .leaf none (.node .leaf none (.node .leaf none (.node (.node (.node .leaf (some (.cells [(.pointer (some ⟨2480, 0, none⟩)), (.int .u32 167772160), (.int .i64 1), (.slice (some ⟨2500, 0, none⟩) 2 2), (.string ⟨⟨[]⟩⟩), (.slice none 0 0), (.int .i64 5), (.slice none 0 0), (.int .u32 0), (.string ⟨⟨[]⟩⟩), (.int .u8 0), (.int .u8 0), (.int .u8 0), (.int .u8 0), (.int .u8 0), (.int .u8 0), (.int .u8 0), (.int .u8 0), (.int .u8 0), (.int .u8 0), (.int .u8 0), (.int .u8 0), (.int .u8 0), (.int .u8 0), (.int .u8 0), (.int .u8 0), (.int .u8 0), (.int .u8 0), (.int .u8 0), (.int .u8 0), (.int .u8 0), (.int .u8 0), (.int .u8 0), (.int .u8 0), (.int .u8 0), (.int .u8 0), (.int .u8 0), (.int .u8 0), (.int .u8 0), (.int .u8 0), (.int .u8 0), (.int .u8 0), (.int .u8 0), (.int .u8 0), (.int .u8 0), (.int .u8 0), (.int .u8 0), (.int .u8 0), (.int .u8 0), (.int .u8 0), (.int .u8 0), (.int .u8 0), (.int .u8 0), (.int .u8 0), (.int .u8 0), (.int .u8 0), (.int .u8 0), (.int .u8 0), (.int .u8 0), (.int .u8 0), (.int .u8 0), (.int .u8 0), (.int .u8 0), (.int .u8 0), (.int .u8 0), (.int .u8 0), (.int .u8 0), (.int .u8 0), (.int .u8 0), (.int .u8 0), (.int .u8 0), (.int .u8 0), (.int .u8 0), (.int .u8 0), (.slice none 0 0), (.slice none 0 0), (.map none), (.slice none 0 0), (.func (.func 134) ⟨[(.pointer (some ⟨2483, 0, none⟩))]⟩ ⟨[]⟩)] true)) .leaf) none .leaf) none .leaf)))) none .leaf) none .leaf) none .leaf))) (some (.cells [(.int .i64 x)] false)) (.node (.node (.node (.node .leaf none (.node .leaf none (.node (.node .leaf none (.node .leaf none (.node (.node (.node .leaf (some (.cells [(.int .i64 1), (.string ⟨⟨[98, 108, 111, 99, 107, 47, 49, 48, 46, 48, 46, 48, 46, 48, 45, 50, 54]⟩⟩), (.string ⟨⟨[]⟩⟩), (.int .i64 0), (.string ⟨⟨[]⟩⟩), (.int .i64 0), (.func (.func 274) ⟨[(.pointer (some ⟨2501, 0, none⟩))]⟩ ⟨[]⟩), (.bool true), (.int .i64 0)] true)) .leaf) none .leaf) none .leaf))) none .leaf))) none (.node (.node .leaf none (.node (.node .leaf none (.node .leaf none (.node (.node (.node .leaf (some (.cells [(.int .i64 7), (.map (some 2471))] true)) .leaf) none .leaf) none .leaf))) none .leaf)) none .leaf)) none (.node (.node (.node (.node .leaf none (.node .leaf none (.node .leaf none (.node (.node (.node .leaf (some (.cells [(.int .u32 167772160), (.int .u32 167772161)] true)) .leaf) none .leaf) none .leaf)))) none .leaf) none (.node .leaf none (.node (.node .leaf none (.node .leaf none (.node (.node (.node .leaf (some (.map [((.int .u32 167772160), (.slice (some ⟨2492, 0, none⟩) 2 2), 0)] 1)) .leaf) none .leaf) none .leaf))) none .leaf))) none (.node .leaf none (.node .leaf none (.node (.node .leaf none (.node .leaf none (.node (.node (.node .leaf (some (.cells [(.int .u32 167772160), (.int .u32 167772161)] true)) .leaf) none .leaf) none .leaf))) none .leaf))))) (some (.map [((.int .u32 64), (.slice (some ⟨6, 0, none⟩) 1 2), 0), ((.int .u32 0), (.slice (some ⟨14, 0, none⟩) 2 2), 1)] 2)) (.node .leaf (some (.cells [(.int .u32 70)] true)) (.node .leaf (some (.cells [(.int .u32 1), (.int .u32 2)] true)) .leaf))))⟩⟩
theorem rs29_6_0 (x u v : Int) : ends (keepX [p4, p3, p1, p5, p0] [0, 2, 6, 14, 2471, 2472, 2480, 2481, 2483, 2484, 2492, 2497, 2500, 2501]) (execF (callF prog sums 200 200) 200 q29_6 (s29_6_0 x u v)) = [some (.normal, s29_7_0 x u v)] := by kernel_rfl
noncomputable def s29_8_0 (x u v : Int) : St := ⟨(.node (.node .leaf (some (.map (some 2))) (.node .leaf (some (.pointer (some ⟨2481, 0, none⟩))) .leaf)) (some (.bool false)) (.node .leaf none (.node .leaf (some (.bool true)) .leaf))),
  ⟨2779, 2779, (.node (.node .leaf none (.node (.node (.node .leaf none (.node .leaf none (.node (.node .leaf none (.node .leaf none (.node (.node (.node .leaf (some (.cells [(.slice (some ⟨2774, 0, none⟩) 2 2), (.int .i64 0), (.int .i64 1)] true)) .leaf) none .leaf) none .leaf))) none .leaf))) none .leaf) none .leaf)) (some (.cells [(.int .i64 x)] false)) (.node .leaf (some (.map [((.int .u32 64), (.slice (some ⟨6, 0, none⟩) 1 2), 0), ((.int .u32 0), (.slice (some ⟨14, 0, none⟩) 2 2), 1)] 2)) (.node .leaf (some (.cells [(.int .u32 70)] true)) (.node (.node .leaf none (.node (.node .leaf none (.node .leaf none (.node (.node .leaf none (.node (.node .leaf (some (.cells [(.int .u32 167772160), (.int .u32 167772161)] true)) .leaf) none .leaf)) none .leaf))) none .leaf)) (some (.cells [(.int .u32 1), (.int .u32 2)] true)) .leaf))))⟩⟩
theorem rs29_7_0 (x u v : Int) : ends (keepX [p1, p6, p5, p0] [0, 2, 6, 14, 2481, 2774]) (execF (callF prog sums 200 200) 200 q29_7 (s29_7_0 x u v)) = [some (.normal, s29_8_0 x u v)] := by kernel_rfl
theorem z29_0 (x : Int) : ((execF (callF prog sums 200 200) 200 (.seq q29_8 q29_9) (s29_8_0 x 0 0)).all (okR c29.res)) = true := by kernel_rfl
end Am
end Go.Proofs.YtbfbaofhnnnohaaGreatDoor
