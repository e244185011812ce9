import Derived.Test.YtbfbaofhnnnohaaGreatDoorL33N
set_option maxRecDepth 100000
namespace Go.Proofs.YtbfbaofhnnnohaaGreatDoor
namespace Am
open Go
def c21 : CFunc := ⟨[.t p0], .seq (.reg [o p0 (.p (.mv (.c (.bool false))))])
  (.seq (.reg [o p2 (.p (.bld [(.string ⟨⟨[]⟩⟩), (.string ⟨⟨[]⟩⟩), (.int .i64 0)] [(0, 1, (.c (.string ⟨⟨[97, 102, 102, 47, 110, 49, 47, 49, 48, 46, 48, 46, 48, 46, 48, 45, 50, 54]⟩⟩))), (1, 1, (.c (.string ⟨⟨[65, 2]⟩⟩))), (2, 1, (.c (.int .i64 1)))])),
  o p3 (.a (.bsl 3 1 [(.string ⟨⟨[]⟩⟩), (.string ⟨⟨[]⟩⟩), (.int .i64 0)] [(0, 3, (.t p2))])),
  o p4 (.call 61 [(.t p3), (.c (.bool true))]),
  o p1 (.p (.mv (.t p4)))])
  (.seq (.reg [o p5 (.p (.mv (.t p1))),
  o p6 (.p (.lenP false (.t p5))),
  o p7 (.p (.bin .i .eql (.t p6) (.c (.int .i64 1)))),
  o p8 (.p (.mv (.t p7))),
  g (some p9) p8 true (.p (.mv (.t p1))),
  g (some p10) p8 true (.p (.iaL 2 (.t p9) (.c (.int .i64 0)))),
  g (some p11) p8 true (.r (.ld 2 true (.t p10))),
  g (some p12) p8 true (.p (.bld [(.int .i64 0), (.string ⟨⟨[]⟩⟩)] [(0, 1, (.c (.int .i64 2))), (1, 1, (.c (.string ⟨⟨[97, 102, 102, 47, 110, 49, 47, 49, 48, 46, 48, 46, 48, 46, 48, 45, 50, 54]⟩⟩)))])),
  g (some p13) p8 true (.p (.eqA [0, 1] false (.t p11) (.t p12))),
  o p14 (.p (.pick (.t p8) (.t p13) (.c (.bool false)))),
  o p0 (.p (.mv (.t p14)))])
  (.ret)))⟩
def c32 : CFunc := ⟨[.cell p2 5 true, .t p3], .seq (.reg [o p2 (.a (.alc [(.slice none 0 0), (.slice none 0 0), (.map none), (.map none), (.map none)])),
  o p3 (.p (.mv (.c (.int .i64 0))))])
  (.seq (.reg [o p8 (.a (.mkm)),
  o p9 (.a (.mkm)),
  o p10 (.a (.mkm)),
  o p11 (.p (.bld [(.slice none 0 0), (.slice none 0 0), (.map none), (.map none), (.map none)] [(2, 1, (.t p8)), (3, 1, (.t p9)), (4, 1, (.t p10))])),
  o p4 (.a (.alc [(.slice none 0 0), (.slice none 0 0), (.map none), (.map none), (.map none)])),
  n (.w (.st 5 (.t p4) (.t p11)))])
  (.seq (.reg [o p12 (.a (.mkm)),
  o p5 (.p (.mv (.t p12)))])
  (.seq (.seq (.reg [o p13 (.p (.mv (.t p0))),
  o p14 (.p (.lenP false (.t p13))),
  o p15 (.p (.mv (.c (.int .i64 0))))])
  (.block 0 (.loop (.seq (.reg [o p16 (.p (.bin .i .lss (.t p15) (.t p14)))])
  (.seq (.cond (.t p16) (.skip)
  (.exit 0))
  (.seq (.block 1 (.seq (.reg [o p17 (.p (.iaL 3 (.t p13) (.t p15))),
  o p18 (.r (.ld 3 true (.t p17))),
  o p7 (.a (.alc [(.string ⟨⟨[]⟩⟩), (.string ⟨⟨[]⟩⟩), (.int .i64 0)])),
  n (.w (.st 3 (.t p7) (.t p18)))])
  (.seq (.reg [o p19 (.p (.mv (.t p5))),
  o p20 (.p (.fa 0 (.t p7))),
  o p21 (.r (.ld 1 false (.t p20))),
  o p22 (.r (.look (.int .i64 0) false (.one 1) (.t p19) (.t p21))),
  o p23 (.p (.bin .i .add (.t p22) (.c (.int .i64 1)))),
  n (.w (.mup (.one 1) (.t p19) (.t p21) (.t p23)))])
  (.seq (.reg [o p24 (.p (.mv (.t p5))),
  o p25 (.p (.fa 0 (.t p7))),
  o p26 (.r (.ld 1 false (.t p25))),
  o p27 (.r (.look (.int .i64 0) false (.one 1) (.t p24) (.t p26))),
  o p28 (.p (.bin .i .gtr (.t p27) (.c (.int .i64 1)))),
  o p29 (.p (.mv (.t p28))),
  g (some p30) p29 false (.r (.ld 3 true (.t p7))),
  g (some p31) p29 false (.call 70 [(.t p30)]),
  g (some p32) p29 false (.p (.un .not (.t p31))),
  g (some p33) p29 false (.p (.mv (.t p32))),
  g (some p34) p33 true (.r (.ld 3 true (.t p7))),
  g (some p35) p33 true (.call 71 [(.t p4), (.t p34)]),
  g (some p36) p33 true (.p (.un .not (.t p35))),
  g (some p37) p29 false (.p (.pick (.t p33) (.t p36) (.c (.bool false)))),
  g (some p38) p29 false (.p (.mv (.t p37))),
  g (some p39) p38 true (.r (.ld 3 true (.t p7))),
  g (some p40) p38 true (.call 72 [(.t p4), (.t p39)]),
  g (some p41) p38 true (.p (.un .not (.t p40))),
  g (some p42) p29 false (.p (.pick (.t p38) (.t p41) (.c (.bool false)))),
  g (some p43) p29 false (.p (.mv (.t p42))),
  g (some p44) p43 true (.r (.ld 3 true (.t p7))),
  g (some p45) p43 true (.call 73 [(.t p4), (.t p44)]),
  g (some p46) p43 true (.p (.un .not (.t p45))),
  g (some p47) p29 false (.p (.pick (.t p43) (.t p46) (.c (.bool false)))),
  g (some p48) p29 false (.p (.mv (.t p47))),
  g (some p49) p48 true (.r (.ld 3 true (.t p7))),
  g (some p50) p48 true (.call 74 [(.t p4), (.t p49)]),
  g (some p51) p48 true (.p (.un .not (.t p50))),
  g (some p52) p29 false (.p (.pick (.t p48) (.t p51) (.c (.bool false)))),
  g (some p53) p29 false (.p (.mv (.t p52))),
  g (some p54) p53 true (.r (.ld 3 true (.t p7))),
  g (some p55) p53 true (.call 75 [(.t p4), (.t p54)]),
  g (some p56) p53 true (.p (.un .not (.t p55))),
  g (some p57) p29 false (.p (.pick (.t p53) (.t p56) (.c (.bool false)))),
  o p58 (.p (.pick (.t p29) (.c (.bool true)) (.t p57)))])
  (.cond (.t p58) (.seq (.reg [o p59 (.p (.bld [(.slice none 0 0), (.slice none 0 0), (.map none), (.map none), (.map none)] [])),
  n (.w (.st 5 (.t p2) (.t p59))),
  o p3 (.p (.mv (.c (.int .i64 3))))])
  (.ret))
  (.skip))))))
  (.reg [o p60 (.p (.bin .i .add (.t p15) (.c (.int .i64 1)))),
  o p15 (.p (.mv (.t p60)))])))))))
  (.seq (.reg [o p61 (.r (.ld 5 true (.t p4))),
  n (.w (.st 5 (.t p2) (.t p61))),
  o p3 (.p (.mv (.c (.int .i64 0))))])
  (.ret)))))⟩
def c61 : CFunc := ⟨[.t p4], .seq (.reg [o p4 (.p (.mv (.c (.slice none 0 0))))])
  (.seq (.seq (.reg [o p9 (.p (.mv (.t p0))),
  o p10 (.call 123 [(.t p9)]),
  o p5 (.p (.mv (.t p10)))])
  (.seq (.reg [o p11 (.p (.mv (.t p5))),
  o p12 (.p (.lenP false (.t p11))),
  o p13 (.p (.bin .i .gtr (.t p12) (.c (.int .i64 0))))])
  (.cond (.t p13) (.seq (.reg [o p14 (.p (.mv (.t p5))),
  o p15 (.call 124 [(.t p14)]),
  o p4 (.p (.mv (.t p15)))])
  (.ret))
  (.skip))))
  (.seq (.reg [o p17 (.p (.mv (.t p0))),
  o p18 (.call 32 [(.t p17)]),
  o p16 (.p (.mv (.t p18))),
  o p19 (.p (.ext 0 (.t p16))),
  o p20 (.p (.ext 1 (.t p16))),
  o p6 (.a (.alc [(.slice none 0 0), (.slice none 0 0), (.map none), (.map none), (.map none)])),
  n (.w (.st 5 (.t p6) (.t p19))),
  o p7 (.p (.mv (.t p20)))])
  (.seq (.reg [o p21 (.r (.ld 5 true (.t p6))),
  o p22 (.p (.mv (.t p1))),
  o p23 (.p (.bld [(.slice none 0 0), (.slice none 0 0), (.map none), (.map none), (.map none), (.bool false), (.slice none 0 0)] [(0, 5, (.t p21)), (5, 1, (.t p22))])),
  o p24 (.a (.box 7 (.t p23))),
  o p8 (.p (.mv (.t p24)))])
  (.seq (.reg [o p25 (.p (.mv (.t p8))),
  o p26 (.call 125 [(.t p25)])])
  (.seq (.reg [o p27 (.p (.mv (.t p8))),
  o p28 (.call 126 [(.t p27)])])
  (.seq (.reg [o p29 (.p (.mv (.t p8))),
  o p30 (.call 127 [(.t p29)])])
  (.seq (.reg [o p31 (.p (.mv (.t p8))),
  o p32 (.call 128 [(.t p31)])])
  (.seq (.reg [o p33 (.p (.mv (.t p8))),
  o p34 (.p (.nck (.t p33))),
  o p35 (.p (.fa 6 (.t p34))),
  o p36 (.r (.ld 1 false (.t p35))),
  o p37 (.call 124 [(.t p36)]),
  o p4 (.p (.mv (.t p37)))])
  (.ret)))))))))⟩
def c64 : CFunc := ⟨[.cell p4 2 true, .t p5], .seq (.reg [o p4 (.a (.alc [(.int .u32 0), (.int .i64 0)])),
  o p5 (.p (.mv (.c (.int .i64 0))))])
  (.seq (.seq (.reg [o p6 (.p (.mv (.t p1))),
  o p7 (.p (.bin .i .lss (.t p6) (.c (.int .i64 0)))),
  o p8 (.p (.mv (.t p7))),
  g (some p9) p8 false (.p (.mv (.t p1))),
  g (some p10) p8 false (.p (.bin .i .gtr (.t p9) (.c (.int .i64 32)))),
  o p11 (.p (.pick (.t p8) (.c (.bool true)) (.t p10)))])
  (.cond (.t p11) (.seq (.reg [o p12 (.p (.bld [(.int .u32 0), (.int .i64 0)] [])),
  n (.w (.st 2 (.t p4) (.t p12))),
  o p5 (.p (.mv (.c (.int .i64 1))))])
  (.ret))
  (.skip)))
  (.seq (.reg [o p13 (.p (.mv (.t p0))),
  o p14 (.p (.mv (.t p1))),
  o p15 (.call 129 [(.t p14)]),
  o p16 (.p (.bin .i .and (.t p13) (.t p15))),
  o p17 (.p (.mv (.t p1))),
  o p18 (.p (.bld [(.int .u32 0), (.int .i64 0)] [(0, 1, (.t p16)), (1, 1, (.t p17))])),
  n (.w (.st 2 (.t p4) (.t p18))),
  o p5 (.p (.mv (.c (.int .i64 0))))])
  (.ret)))⟩
def c70 : CFunc := ⟨[.t p2], .seq (.reg [o p1 (.a (.box 3 (.t p0))),
  o p2 (.p (.mv (.c (.bool false))))])
  (.seq (.reg [o p3 (.p (.fa 0 (.t p1))),
  o p4 (.r (.ld 1 false (.t p3))),
  o p5 (.p (.bin .s .eql (.t p4) (.c (.string ⟨⟨[108, 111, 99, 107]⟩⟩)))),
  o p6 (.p (.mv (.t p5))),
  g (some p7) p6 true (.p (.fa 1 (.t p1))),
  g (some p8) p6 true (.r (.ld 1 false (.t p7))),
  g (some p9) p6 true (.p (.bin .s .eql (.t p8) (.c (.string ⟨⟨[76]⟩⟩)))),
  o p10 (.p (.pick (.t p6) (.t p9) (.c (.bool false)))),
  o p2 (.p (.mv (.t p10)))])
  (.ret))⟩
def c71 : CFunc := ⟨[.t p4], .seq (.reg [o p3 (.a (.box 3 (.t p1))),
  o p4 (.p (.mv (.c (.bool false))))])
  (.seq (.reg [o p10 (.p (.fa 0 (.t p3))),
  o p11 (.r (.ld 1 false (.t p10))),
  o p12 (.call 135 [(.t p11)]),
  o p9 (.p (.mv (.t p12))),
  o p13 (.p (.ext 0 (.t p9))),
  o p14 (.p (.ext 1 (.t p9))),
  o p5 (.a (.alc [(.int .u32 0), (.int .i64 0)])),
  n (.w (.st 2 (.t p5) (.t p13))),
  o p6 (.p (.mv (.t p14)))])
  (.seq (.reg [o p16 (.p (.fa 1 (.t p3))),
  o p17 (.r (.ld 1 false (.t p16))),
  o p18 (.call 136 [(.t p17)]),
  o p15 (.p (.mv (.t p18))),
  o p19 (.p (.ext 0 (.t p15))),
  o p20 (.p (.ext 1 (.t p15))),
  o p7 (.a (.alc [(.int .u32 0), (.int .i64 0), (.bool false)])),
  n (.w (.st 3 (.t p7) (.t p19))),
  o p8 (.p (.mv (.t p20)))])
  (.seq (.seq (.reg [o p21 (.p (.mv (.t p6))),
  o p22 (.p (.un .not (.t p21))),
  o p23 (.p (.mv (.t p22))),
  g (some p24) p23 false (.p (.mv (.t p8))),
  g (some p25) p23 false (.p (.bin .i .neq (.t p24) (.c (.int .i64 0)))),
  o p26 (.p (.pick (.t p23) (.c (.bool true)) (.t p25))),
  o p27 (.p (.mv (.t p26))),
  g (some p28) p27 false (.p (.fa 0 (.t p7))),
  g (some p29) p27 false (.r (.ld 2 true (.t p28))),
  g (some p30) p27 false (.r (.ld 2 true (.t p5))),
  g (some p31) p27 false (.p (.eqA [0, 0] true (.t p29) (.t p30))),
  o p32 (.p (.pick (.t p27) (.c (.bool true)) (.t p31)))])
  (.cond (.t p32) (.seq (.reg [o p4 (.p (.mv (.c (.bool false))))])
  (.ret))
  (.skip)))
  (.seq (.dreg [o p33 (.p (.mv (.t p0))),
  o p34 (.p (.mv (.t p0))),
  o p35 (.p (.nck (.t p34))),
  o p36 (.p (.fa 0 (.t p35))),
  o p37 (.r (.ld 1 false (.t p36))),
  o p38 (.r (.ld 3 true (.t p7))),
  o p39 (.a (.bsl 3 1 [(.int .u32 0), (.int .i64 0), (.bool false)] [(0, 3, (.t p38))])),
  o p40 (.w (.app 3 24 (.t p37) (.t p39))),
  o p41 (.p (.nck (.t p33))),
  o p42 (.p (.fa 0 (.t p41))),
  n (.w (.st 1 (.t p42) (.t p40)))] [[], [], [], [], [], [], [], [], [], [], []])
  (.seq (.reg [o p4 (.p (.mv (.c (.bool true))))])
  (.ret))))))⟩
def c72 : CFunc := ⟨[.t p4], .seq (.reg [o p3 (.a (.box 3 (.t p1))),
  o p4 (.p (.mv (.c (.bool false))))])
  (.seq (.reg [o p10 (.p (.fa 0 (.t p3))),
  o p11 (.r (.ld 1 false (.t p10))),
  o p12 (.call 137 [(.t p11)]),
  o p9 (.p (.mv (.t p12))),
  o p13 (.p (.ext 0 (.t p9))),
  o p14 (.p (.ext 1 (.t p9))),
  o p5 (.p (.mv (.t p13))),
  o p6 (.p (.mv (.t p14)))])
  (.seq (.reg [o p16 (.p (.fa 1 (.t p3))),
  o p17 (.r (.ld 1 false (.t p16))),
  o p18 (.call 138 [(.t p17)]),
  o p15 (.p (.mv (.t p18))),
  o p19 (.p (.ext 0 (.t p15))),
  o p20 (.p (.ext 1 (.t p15))),
  o p7 (.a (.alc [(.int .u32 0), (.string ⟨⟨[]⟩⟩), (.int .u8 0), (.int .u8 0), (.int .u8 0), (.int .u8 0), (.int .u8 0), (.int .u8 0), (.int .u8 0), (.int .u8 0), (.int .u8 0), (.int .u8 0), (.int .u8 0), (.int .u8 0), (.int .u8 0), (.int .u8 0), (.int .u8 0), (.int .u8 0), (.int .u8 0), (.int .u8 0), (.int .u8 0), (.int .u8 0), (.int .u8 0), (.int .u8 0), (.int .u8 0), (.int .u8 0), (.int .u8 0), (.int .u8 0), (.int .u8 0), (.int .u8 0), (.int .u8 0), (.int .u8 0), (.int .u8 0), (.int .u8 0), (.int .u8 0), (.int .u8 0), (.int .u8 0), (.int .u8 0), (.int .u8 0), (.int .u8 0), (.int .u8 0), (.int .u8 0), (.int .u8 0), (.int .u8 0), (.int .u8 0), (.int .u8 0), (.int .u8 0), (.int .u8 0), (.int .u8 0), (.int .u8 0), (.int .u8 0), (.int .u8 0), (.int .u8 0), (.int .u8 0), (.int .u8 0), (.int .u8 0), (.int .u8 0), (.int .u8 0), (.int .u8 0), (.int .u8 0), (.int .u8 0), (.int .u8 0), (.int .u8 0), (.int .u8 0), (.int .u8 0), (.int .u8 0), (.slice none 0 0), (.slice none 0 0)])),
  n (.w (.st 68 (.t p7) (.t p19))),
  o p8 (.p (.mv (.t p20)))])
  (.seq (.seq (.reg [o p21 (.p (.mv (.t p6))),
  o p22 (.p (.un .not (.t p21))),
  o p23 (.p (.mv (.t p22))),
  g (some p24) p23 false (.p (.mv (.t p8))),
  g (some p25) p23 false (.p (.bin .i .neq (.t p24) (.c (.int .i64 0)))),
  o p26 (.p (.pick (.t p23) (.c (.bool true)) (.t p25))),
  o p27 (.p (.mv (.t p26))),
  g (some p28) p27 false (.p (.fa 0 (.t p7))),
  g (some p29) p27 false (.r (.ld 1 false (.t p28))),
  g (some p30) p27 false (.p (.mv (.t p5))),
  g (some p31) p27 false (.p (.bin .i .neq (.t p29) (.t p30))),
  o p32 (.p (.pick (.t p27) (.c (.bool true)) (.t p31)))])
  (.cond (.t p32) (.seq (.reg [o p4 (.p (.mv (.c (.bool false))))])
  (.ret))
  (.skip)))
  (.seq (.dreg [o p33 (.p (.mv (.t p0))),
  o p34 (.p (.mv (.t p0))),
  o p35 (.p (.nck (.t p34))),
  o p36 (.p (.fa 1 (.t p35))),
  o p37 (.r (.ld 1 false (.t p36))),
  o p38 (.r (.ld 68 true (.t p7))),
  o p39 (.a (.bsl 68 1 [(.int .u32 0), (.string ⟨⟨[]⟩⟩), (.int .u8 0), (.int .u8 0), (.int .u8 0), (.int .u8 0), (.int .u8 0), (.int .u8 0), (.int .u8 0), (.int .u8 0), (.int .u8 0), (.int .u8 0), (.int .u8 0), (.int .u8 0), (.int .u8 0), (.int .u8 0), (.int .u8 0), (.int .u8 0), (.int .u8 0), (.int .u8 0), (.int .u8 0), (.int .u8 0), (.int .u8 0), (.int .u8 0), (.int .u8 0), (.int .u8 0), (.int .u8 0), (.int .u8 0), (.int .u8 0), (.int .u8 0), (.int .u8 0), (.int .u8 0), (.int .u8 0), (.int .u8 0), (.int .u8 0), (.int .u8 0), (.int .u8 0), (.int .u8 0), (.int .u8 0), (.int .u8 0), (.int .u8 0), (.int .u8 0), (.int .u8 0), (.int .u8 0), (.int .u8 0), (.int .u8 0), (.int .u8 0), (.int .u8 0), (.int .u8 0), (.int .u8 0), (.int .u8 0), (.int .u8 0), (.int .u8 0), (.int .u8 0), (.int .u8 0), (.int .u8 0), (.int .u8 0), (.int .u8 0), (.int .u8 0), (.int .u8 0), (.int .u8 0), (.int .u8 0), (.int .u8 0), (.int .u8 0), (.int .u8 0), (.int .u8 0), (.slice none 0 0), (.slice none 0 0)] [(0, 68, (.t p38))])),
  o p40 (.w (.app 68 136 (.t p37) (.t p39))),
  o p41 (.p (.nck (.t p33))),
  o p42 (.p (.fa 1 (.t p41))),
  n (.w (.st 1 (.t p42) (.t p40)))] [[], [], [], [], [], [], [], [], [], [], []])
  (.seq (.reg [o p4 (.p (.mv (.c (.bool true))))])
  (.ret))))))⟩
def c73 : CFunc := ⟨[.t p4], .seq (.reg [o p3 (.a (.box 3 (.t p1))),
  o p4 (.p (.mv (.c (.bool false))))])
  (.seq (.reg [o p11 (.p (.fa 0 (.t p3))),
  o p12 (.r (.ld 1 false (.t p11))),
  o p13 (.call 139 [(.t p12)]),
  o p10 (.p (.mv (.t p13))),
  o p14 (.p (.ext 0 (.t p10))),
  o p15 (.p (.ext 1 (.t p10))),
  o p16 (.p (.ext 2 (.t p10))),
  o p5 (.p (.mv (.t p14))),
  o p6 (.p (.mv (.t p15))),
  o p7 (.p (.mv (.t p16)))])
  (.seq (.reg [o p18 (.p (.fa 1 (.t p3))),
  o p19 (.r (.ld 1 false (.t p18))),
  o p20 (.call 140 [(.t p19)]),
  o p17 (.p (.mv (.t p20))),
  o p21 (.p (.ext 0 (.t p17))),
  o p22 (.p (.ext 1 (.t p17))),
  o p8 (.p (.mv (.t p21))),
  o p9 (.p (.mv (.t p22)))])
  (.seq (.seq (.reg [o p23 (.p (.mv (.t p7))),
  o p24 (.p (.un .not (.t p23))),
  o p25 (.p (.mv (.t p24))),
  g (some p26) p25 false (.p (.mv (.t p9))),
  g (some p27) p25 false (.p (.bin .i .neq (.t p26) (.c (.int .i64 0)))),
  o p28 (.p (.pick (.t p25) (.c (.bool true)) (.t p27)))])
  (.cond (.t p28) (.seq (.reg [o p4 (.p (.mv (.c (.bool false))))])
  (.ret))
  (.skip)))
  (.seq (.reg [o p29 (.p (.mv (.t p0))),
  o p30 (.p (.nck (.t p29))),
  o p31 (.p (.fa 2 (.t p30))),
  o p32 (.r (.ld 1 false (.t p31))),
  o p33 (.p (.mv (.t p5))),
  o p34 (.p (.mv (.t p6))),
  o p35 (.p (.bld [(.string ⟨⟨[]⟩⟩), (.int .u32 0)] [(0, 1, (.t p33)), (1, 1, (.t p34))])),
  o p36 (.p (.mv (.t p8))),
  n (.w (.mup (.str [1, 0]) (.t p32) (.t p35) (.t p36)))])
  (.seq (.reg [o p4 (.p (.mv (.c (.bool true))))])
  (.ret))))))⟩
def c74 : CFunc := ⟨[.t p4], .seq (.reg [o p3 (.a (.box 3 (.t p1))),
  o p4 (.p (.mv (.c (.bool false))))])
  (.seq (.reg [o p10 (.p (.fa 0 (.t p3))),
  o p11 (.r (.ld 1 false (.t p10))),
  o p12 (.call 141 [(.t p11)]),
  o p9 (.p (.mv (.t p12))),
  o p13 (.p (.ext 0 (.t p9))),
  o p14 (.p (.ext 1 (.t p9))),
  o p5 (.p (.mv (.t p13))),
  o p6 (.p (.mv (.t p14)))])
  (.seq (.reg [o p16 (.p (.fa 1 (.t p3))),
  o p17 (.r (.ld 1 false (.t p16))),
  o p18 (.call 142 [(.t p17)]),
  o p15 (.p (.mv (.t p18))),
  o p19 (.p (.ext 0 (.t p15))),
  o p20 (.p (.ext 1 (.t p15))),
  o p7 (.a (.alc [(.slice none 0 0)])),
  n (.w (.st 1 (.t p7) (.t p19))),
  o p8 (.p (.mv (.t p20)))])
  (.seq (.seq (.reg [o p21 (.p (.mv (.t p6))),
  o p22 (.p (.un .not (.t p21))),
  o p23 (.p (.mv (.t p22))),
  g (some p24) p23 false (.p (.mv (.t p8))),
  g (some p25) p23 false (.p (.bin .i .neq (.t p24) (.c (.int .i64 0)))),
  o p26 (.p (.pick (.t p23) (.c (.bool true)) (.t p25)))])
  (.cond (.t p26) (.seq (.reg [o p4 (.p (.mv (.c (.bool false))))])
  (.ret))
  (.skip)))
  (.seq (.dreg [o p27 (.p (.mv (.t p0))),
  o p28 (.p (.nck (.t p27))),
  o p29 (.p (.fa 3 (.t p28))),
  o p30 (.r (.ld 1 false (.t p29))),
  o p31 (.p (.mv (.t p5))),
  o p32 (.r (.ld 1 true (.t p7))),
  n (.w (.mup (.one 1) (.t p30) (.t p31) (.t p32)))] [[], [], [], [], [], [], []])
  (.seq (.reg [o p4 (.p (.mv (.c (.bool true))))])
  (.ret))))))⟩
def c75 : CFunc := ⟨[.t p4], .seq (.reg [o p3 (.a (.box 3 (.t p1))),
  o p4 (.p (.mv (.c (.bool false))))])
  (.seq (.reg [o p10 (.p (.fa 0 (.t p3))),
  o p11 (.r (.ld 1 false (.t p10))),
  o p12 (.call 143 [(.t p11)]),
  o p9 (.p (.mv (.t p12))),
  o p13 (.p (.ext 0 (.t p9))),
  o p14 (.p (.ext 1 (.t p9))),
  o p5 (.p (.mv (.t p13))),
  o p6 (.p (.mv (.t p14)))])
  (.seq (.reg [o p16 (.p (.fa 1 (.t p3))),
  o p17 (.r (.ld 1 false (.t p16))),
  o p18 (.call 112 [(.t p17)]),
  o p15 (.p (.mv (.t p18))),
  o p19 (.p (.ext 0 (.t p15))),
  o p20 (.p (.ext 1 (.t p15))),
  o p7 (.p (.mv (.t p19))),
  o p8 (.p (.mv (.t p20)))])
  (.seq (.seq (.reg [o p21 (.p (.mv (.t p6))),
  o p22 (.p (.un .not (.t p21))),
  o p23 (.p (.mv (.t p22))),
  g (some p24) p23 false (.p (.mv (.t p8))),
  g (some p25) p23 false (.p (.bin .i .neq (.t p24) (.c (.int .i64 0)))),
  o p26 (.p (.pick (.t p23) (.c (.bool true)) (.t p25)))])
  (.cond (.t p26) (.seq (.reg [o p4 (.p (.mv (.c (.bool false))))])
  (.ret))
  (.skip)))
  (.seq (.reg [o p27 (.p (.mv (.t p0))),
  o p28 (.p (.nck (.t p27))),
  o p29 (.p (.fa 4 (.t p28))),
  o p30 (.r (.ld 1 false (.t p29))),
  o p31 (.p (.mv (.t p5))),
  o p32 (.p (.mv (.t p7))),
  n (.w (.mup (.one 1) (.t p30) (.t p31) (.t p32)))])
  (.seq (.reg [o p4 (.p (.mv (.c (.bool true))))])
  (.ret))))))⟩
def c112 : CFunc := ⟨[.t p2, .t p3], .seq (.reg [o p2 (.p (.mv (.c (.bool false)))),
  o p3 (.p (.mv (.c (.int .i64 0))))])
  (.seq (.reg [o p7 (.p (.mv (.t p0))),
  o p8 (.call 177 [(.t p7), (.c (.int .u8 78)), (.c (.int .u8 1))]),
  o p6 (.p (.mv (.t p8))),
  o p9 (.p (.ext 0 (.t p6))),
  o p10 (.p (.ext 1 (.t p6))),
  o p4 (.p (.mv (.t p9))),
  o p5 (.p (.mv (.t p10)))])
  (.seq (.seq (.reg [o p11 (.p (.mv (.t p5))),
  o p12 (.p (.un .not (.t p11)))])
  (.cond (.t p12) (.seq (.reg [o p2 (.p (.mv (.c (.bool false)))),
  o p3 (.p (.mv (.c (.int .i64 3))))])
  (.ret))
  (.skip)))
  (.seq (.reg [o p13 (.p (.mv (.t p4))),
  o p14 (.p (.bin .i .eql (.t p13) (.c (.int .i64 1)))),
  o p2 (.p (.mv (.t p14))),
  o p3 (.p (.mv (.c (.int .i64 0))))])
  (.ret))))⟩
def c123 : CFunc := ⟨[.t p2], .seq (.reg [o p2 (.p (.mv (.c (.slice none 0 0))))])
  (.seq (.reg [o p3 (.p (.mv (.c (.slice none 0 0))))])
  (.seq (.seq (.reg [o p11 (.p (.mv (.t p0))),
  o p12 (.p (.lenP false (.t p11))),
  o p13 (.p (.mv (.c (.int .i64 0))))])
  (.block 0 (.loop (.seq (.reg [o p14 (.p (.bin .i .lss (.t p13) (.t p12)))])
  (.seq (.cond (.t p14) (.skip)
  (.exit 0))
  (.seq (.block 1 (.seq (.reg [o p15 (.p (.mv (.t p13))),
  o p16 (.p (.iaL 3 (.t p11) (.t p13))),
  o p17 (.r (.ld 3 true (.t p16))),
  o p5 (.a (.alc [(.string ⟨⟨[]⟩⟩), (.string ⟨⟨[]⟩⟩), (.int .i64 0)])),
  o p4 (.p (.mv (.t p15))),
  n (.w (.st 3 (.t p5) (.t p17)))])
  (.seq (.reg [o p19 (.r (.ld 3 true (.t p5))),
  o p20 (.a (.bsl 3 1 [(.string ⟨⟨[]⟩⟩), (.string ⟨⟨[]⟩⟩), (.int .i64 0)] [(0, 3, (.t p19))])),
  o p21 (.call 32 [(.t p20)]),
  o p18 (.p (.mv (.t p21))),
  o p22 (.p (.ext 0 (.t p18))),
  o p23 (.p (.ext 1 (.t p18))),
  o p6 (.a (.alc [(.slice none 0 0), (.slice none 0 0), (.map none), (.map none), (.map none)])),
  n (.w (.st 5 (.t p6) (.t p22))),
  o p7 (.p (.mv (.t p23)))])
  (.seq (.reg [o p8 (.p (.mv (.c (.bool false))))])
  (.seq (.seq (.reg [o p24 (.p (.mv (.t p0))),
  o p25 (.p (.lenP false (.t p24))),
  o p26 (.p (.mv (.c (.int .i64 0))))])
  (.block 2 (.loop (.seq (.reg [o p27 (.p (.bin .i .lss (.t p26) (.t p25)))])
  (.seq (.cond (.t p27) (.skip)
  (.exit 2))
  (.seq (.block 3 (.seq (.reg [o p28 (.p (.mv (.t p26))),
  o p29 (.p (.iaL 3 (.t p24) (.t p26))),
  o p30 (.r (.ld 3 true (.t p29))),
  o p10 (.a (.alc [(.string ⟨⟨[]⟩⟩), (.string ⟨⟨[]⟩⟩), (.int .i64 0)])),
  o p9 (.p (.mv (.t p28))),
  n (.w (.st 3 (.t p10) (.t p30)))])
  (.reg [o p31 (.p (.mv (.t p8))),
  o p32 (.p (.mv (.t p31))),
  g (some p33) p32 false (.p (.mv (.t p9))),
  g (some p34) p32 false (.p (.mv (.t p4))),
  g (some p35) p32 false (.p (.bin .i .neq (.t p33) (.t p34))),
  g (some p36) p32 false (.p (.mv (.t p35))),
  g (some p37) p36 true (.p (.fa 0 (.t p10))),
  g (some p38) p36 true (.r (.ld 1 false (.t p37))),
  g (some p39) p36 true (.p (.fa 0 (.t p5))),
  g (some p40) p36 true (.r (.ld 1 false (.t p39))),
  g (some p41) p36 true (.p (.bin .s .eql (.t p38) (.t p40))),
  g (some p42) p32 false (.p (.pick (.t p36) (.t p41) (.c (.bool false)))),
  o p43 (.p (.pick (.t p32) (.c (.bool true)) (.t p42))),
  o p8 (.p (.mv (.t p43)))])))
  (.reg [o p44 (.p (.bin .i .add (.t p26) (.c (.int .i64 1)))),
  o p26 (.p (.mv (.t p44)))])))))))
  (.seq (.reg [o p45 (.p (.mv (.t p7))),
  o p46 (.p (.bin .i .neq (.t p45) (.c (.int .i64 0)))),
  o p47 (.p (.mv (.t p46))),
  g (some p48) p47 false (.p (.mv (.t p8))),
  o p49 (.p (.pick (.t p47) (.c (.bool true)) (.t p48)))])
  (.cond (.t p49) (.reg [o p50 (.p (.mv (.t p3))),
  o p51 (.p (.fa 0 (.t p5))),
  o p52 (.r (.ld 1 false (.t p51))),
  o p53 (.p (.bld [(.int .i64 0), (.string ⟨⟨[]⟩⟩)] [(0, 1, (.c (.int .i64 1))), (1, 1, (.t p52))])),
  o p54 (.a (.bsl 2 1 [(.int .i64 0), (.string ⟨⟨[]⟩⟩)] [(0, 2, (.t p53))])),
  o p55 (.w (.app 2 24 (.t p50) (.t p54))),
  o p3 (.p (.mv (.t p55)))])
  (.skip))))))))
  (.reg [o p56 (.p (.bin .i .add (.t p13) (.c (.int .i64 1)))),
  o p13 (.p (.mv (.t p56)))])))))))
  (.seq (.reg [o p57 (.p (.mv (.t p3))),
  o p2 (.p (.mv (.t p57)))])
  (.ret))))⟩
def c124 : CFunc := ⟨[.t p2], .seq (.reg [o p2 (.p (.mv (.c (.slice none 0 0))))])
  (.seq (.reg [o p3 (.p (.mv (.t p0))),
  o p4 (.call 191 [(.t p3), (.c (.func (.func 192) ⟨[]⟩ ⟨[]⟩))])])
  (.seq (.reg [o p5 (.p (.mv (.t p0))),
  o p2 (.p (.mv (.t p5)))])
  (.ret)))⟩
def c125 : CFunc := ⟨[], .seq (.reg [o p8 (.p (.mv (.t p0))),
  o p9 (.p (.nck (.t p8))),
  o p10 (.p (.fa 0 (.t p9))),
  o p11 (.p (.fa 2 (.t p10))),
  o p12 (.r (.ld 1 false (.t p11))),
  o p13 (.w (.rgM (.t p12)))])
  (.block 0 (.loop (.seq (.reg [o p14 (.nxM (.t p13)),
  o p15 (.p (.ext 0 (.t p14)))])
  (.seq (.cond (.t p15) (.skip)
  (.exit 0))
  (.block 1 (.seq (.reg [o p16 (.r (.ent (.t p13))),
  o p17 (.p (.ext 0 (.t p16))),
  o p18 (.p (.ext 1 (.t p16))),
  o p2 (.a (.alc [(.string ⟨⟨[]⟩⟩), (.int .u32 0)])),
  n (.w (.st 2 (.t p2) (.t p17))),
  o p3 (.p (.mv (.t p18)))])
  (.seq (.reg [o p20 (.p (.fa 0 (.t p2))),
  o p21 (.r (.ld 1 false (.t p20))),
  o p22 (.p (.fa 1 (.t p2))),
  o p23 (.r (.ld 1 false (.t p22))),
  o p24 (.call 196 [(.t p21), (.t p23)]),
  o p19 (.p (.mv (.t p24))),
  o p25 (.p (.ext 0 (.t p19))),
  o p26 (.p (.ext 1 (.t p19))),
  o p4 (.p (.mv (.t p25))),
  o p5 (.p (.mv (.t p26)))])
  (.seq (.dreg [o p28 (.p (.mv (.t p0))),
  o p29 (.p (.nck (.t p28))),
  o p30 (.p (.fa 0 (.t p29))),
  o p31 (.r (.ld 5 true (.t p30))),
  o p32 (.p (.fa 1 (.t p2))),
  o p33 (.r (.ld 1 false (.t p32))),
  o p6 (.a (.alc [(.int .u32 0), (.string ⟨⟨[]⟩⟩), (.int .u8 0), (.int .u8 0), (.int .u8 0), (.int .u8 0), (.int .u8 0), (.int .u8 0), (.int .u8 0), (.int .u8 0), (.int .u8 0), (.int .u8 0), (.int .u8 0), (.int .u8 0), (.int .u8 0), (.int .u8 0), (.int .u8 0), (.int .u8 0), (.int .u8 0), (.int .u8 0), (.int .u8 0), (.int .u8 0), (.int .u8 0), (.int .u8 0), (.int .u8 0), (.int .u8 0), (.int .u8 0), (.int .u8 0), (.int .u8 0), (.int .u8 0), (.int .u8 0), (.int .u8 0), (.int .u8 0), (.int .u8 0), (.int .u8 0), (.int .u8 0), (.int .u8 0), (.int .u8 0), (.int .u8 0), (.int .u8 0), (.int .u8 0), (.int .u8 0), (.int .u8 0), (.int .u8 0), (.int .u8 0), (.int .u8 0), (.int .u8 0), (.int .u8 0), (.int .u8 0), (.int .u8 0), (.int .u8 0), (.int .u8 0), (.int .u8 0), (.int .u8 0), (.int .u8 0), (.int .u8 0), (.int .u8 0), (.int .u8 0), (.int .u8 0), (.int .u8 0), (.int .u8 0), (.int .u8 0), (.int .u8 0), (.int .u8 0), (.int .u8 0), (.int .u8 0), (.slice none 0 0), (.slice none 0 0)])),
  o p34 (.call 197 [(.t p31), (.t p33)]),
  o p27 (.p (.mv (.t p34))),
  o p35 (.p (.ext 0 (.t p27))),
  o p36 (.p (.ext 1 (.t p27))),
  n (.w (.st 68 (.t p6) (.t p35))),
  o p7 (.p (.mv (.t p36)))] [[], [], [], [], [], [], [], [6], [], [], [], [], []])
  (.seq (.reg [o p37 (.p (.mv (.t p0))),
  o p38 (.p (.mv (.t p3))),
  o p39 (.p (.bin .i .eql (.t p38) (.c (.int .i64 2)))),
  o p40 (.p (.mv (.t p39))),
  g (some p41) p40 true (.p (.mv (.t p7))),
  g (some p42) p40 true (.p (.un .not (.t p41))),
  g (some p43) p40 true (.p (.mv (.t p42))),
  g (some p44) p43 false (.p (.fa 1 (.t p6))),
  g (some p45) p43 false (.r (.ld 1 false (.t p44))),
  g (some p46) p43 false (.p (.fa 0 (.t p2))),
  g (some p47) p43 false (.r (.ld 1 false (.t p46))),
  g (some p48) p43 false (.p (.bin .s .neq (.t p45) (.t p47))),
  g (some p49) p40 true (.p (.pick (.t p43) (.c (.bool true)) (.t p48))),
  o p50 (.p (.pick (.t p40) (.t p49) (.c (.bool false)))),
  o p51 (.p (.mv (.t p4))),
  o p52 (.call 198 [(.t p37), (.t p50), (.c (.int .i64 2)), (.t p51)])])
  (.seq (.reg [o p53 (.p (.mv (.t p0))),
  o p54 (.p (.mv (.t p3))),
  o p55 (.p (.bin .i .neq (.t p54) (.c (.int .i64 2)))),
  o p56 (.p (.mv (.t p4))),
  o p57 (.call 198 [(.t p53), (.t p55), (.c (.int .i64 9)), (.t p56)])])
  (.dreg [o p58 (.p (.mv (.t p0))),
  o p59 (.p (.mv (.t p0))),
  o p60 (.p (.nck (.t p59))),
  o p61 (.p (.fa 0 (.t p60))),
  o p62 (.p (.fa 4 (.t p61))),
  o p63 (.r (.ld 1 false (.t p62))),
  o p64 (.p (.fa 0 (.t p2))),
  o p65 (.r (.ld 1 false (.t p64))),
  o p66 (.r (.look (.bool false) false (.one 1) (.t p63) (.t p65))),
  o p67 (.p (.mv (.t p4))),
  o p68 (.call 198 [(.t p58), (.t p66), (.c (.int .i64 11)), (.t p67)])] [[], [], [], [], [], [], [], [], [], [], []])))))))))))⟩
def c126 : CFunc := ⟨[], .seq (.reg [o p9 (.p (.mv (.t p0))),
  o p10 (.p (.nck (.t p9))),
  o p11 (.p (.fa 0 (.t p10))),
  o p12 (.p (.fa 1 (.t p11))),
  o p13 (.r (.ld 1 false (.t p12))),
  o p14 (.p (.lenP false (.t p13))),
  o p15 (.p (.mv (.c (.int .i64 0))))])
  (.block 0 (.loop (.seq (.reg [o p16 (.p (.bin .i .lss (.t p15) (.t p14)))])
  (.seq (.cond (.t p16) (.skip)
  (.exit 0))
  (.seq (.block 1 (.seq (.reg [o p17 (.p (.iaL 68 (.t p13) (.t p15))),
  o p18 (.r (.ld 68 true (.t p17))),
  o p3 (.a (.alc [(.int .u32 0), (.string ⟨⟨[]⟩⟩), (.int .u8 0), (.int .u8 0), (.int .u8 0), (.int .u8 0), (.int .u8 0), (.int .u8 0), (.int .u8 0), (.int .u8 0), (.int .u8 0), (.int .u8 0), (.int .u8 0), (.int .u8 0), (.int .u8 0), (.int .u8 0), (.int .u8 0), (.int .u8 0), (.int .u8 0), (.int .u8 0), (.int .u8 0), (.int .u8 0), (.int .u8 0), (.int .u8 0), (.int .u8 0), (.int .u8 0), (.int .u8 0), (.int .u8 0), (.int .u8 0), (.int .u8 0), (.int .u8 0), (.int .u8 0), (.int .u8 0), (.int .u8 0), (.int .u8 0), (.int .u8 0), (.int .u8 0), (.int .u8 0), (.int .u8 0), (.int .u8 0), (.int .u8 0), (.int .u8 0), (.int .u8 0), (.int .u8 0), (.int .u8 0), (.int .u8 0), (.int .u8 0), (.int .u8 0), (.int .u8 0), (.int .u8 0), (.int .u8 0), (.int .u8 0), (.int .u8 0), (.int .u8 0), (.int .u8 0), (.int .u8 0), (.int .u8 0), (.int .u8 0), (.int .u8 0), (.int .u8 0), (.int .u8 0), (.int .u8 0), (.int .u8 0), (.int .u8 0), (.int .u8 0), (.int .u8 0), (.slice none 0 0), (.slice none 0 0)])),
  n (.w (.st 68 (.t p3) (.t p18)))])
  (.seq (.reg [o p19 (.p (.fa 0 (.t p3))),
  o p20 (.r (.ld 1 false (.t p19))),
  o p21 (.call 199 [(.t p20)]),
  o p4 (.p (.mv (.t p21)))])
  (.seq (.dreg [o p23 (.p (.mv (.t p0))),
  o p24 (.p (.nck (.t p23))),
  o p25 (.p (.fa 0 (.t p24))),
  o p26 (.p (.fa 2 (.t p25))),
  o p27 (.r (.ld 1 false (.t p26))),
  o p28 (.p (.fa 1 (.t p3))),
  o p29 (.r (.ld 1 false (.t p28))),
  o p30 (.p (.fa 0 (.t p3))),
  o p31 (.r (.ld 1 false (.t p30))),
  o p32 (.p (.bld [(.string ⟨⟨[]⟩⟩), (.int .u32 0)] [(0, 1, (.t p29)), (1, 1, (.t p31))])),
  o p33 (.r (.look (.int .i64 0) true (.str [1, 0]) (.t p27) (.t p32))),
  o p22 (.p (.mv (.t p33))),
  o p34 (.p (.ext 0 (.t p22))),
  o p35 (.p (.ext 1 (.t p22))),
  o p5 (.p (.mv (.t p34))),
  o p6 (.p (.mv (.t p35)))] [[], [], [], [], [], [], [], [], [], [], [], [], [], [], [], []])
  (.seq (.dreg [o p37 (.p (.mv (.t p0))),
  o p38 (.p (.nck (.t p37))),
  o p39 (.p (.fa 0 (.t p38))),
  o p40 (.r (.ld 5 true (.t p39))),
  o p41 (.p (.fa 0 (.t p3))),
  o p42 (.r (.ld 1 false (.t p41))),
  o p7 (.a (.alc [(.int .u32 0), (.int .i64 0), (.bool false)])),
  o p43 (.call 200 [(.t p40), (.t p42)]),
  o p36 (.p (.mv (.t p43))),
  o p44 (.p (.ext 0 (.t p36))),
  o p45 (.p (.ext 1 (.t p36))),
  n (.w (.st 3 (.t p7) (.t p44))),
  o p8 (.p (.mv (.t p45)))] [[], [], [], [], [], [], [], [6], [], [], [], [], []])
  (.seq (.reg [o p46 (.p (.mv (.t p0))),
  o p47 (.p (.fa 1 (.t p3))),
  o p48 (.r (.ld 1 false (.t p47))),
  o p49 (.p (.bin .s .neq (.t p48) (.c (.string ⟨⟨[]⟩⟩)))),
  o p50 (.p (.mv (.t p49))),
  g (some p51) p50 true (.p (.mv (.t p6))),
  g (some p52) p50 true (.p (.un .not (.t p51))),
  o p53 (.p (.pick (.t p50) (.t p52) (.c (.bool false)))),
  o p54 (.p (.mv (.t p4))),
  o p55 (.call 198 [(.t p46), (.t p53), (.c (.int .i64 3)), (.t p54)])])
  (.seq (.reg [o p56 (.p (.mv (.t p0))),
  o p57 (.p (.mv (.t p0))),
  o p58 (.p (.fa 0 (.t p3))),
  o p59 (.r (.ld 1 false (.t p58))),
  o p60 (.call 201 [(.t p57), (.t p59)]),
  o p61 (.p (.bin .i .gtr (.t p60) (.c (.int .i64 1)))),
  o p62 (.p (.mv (.t p4))),
  o p63 (.call 198 [(.t p56), (.t p61), (.c (.int .i64 4)), (.t p62)])])
  (.seq (.reg [o p64 (.p (.mv (.t p0))),
  o p65 (.p (.mv (.t p8))),
  o p66 (.p (.un .not (.t p65))),
  o p67 (.p (.mv (.t p4))),
  o p68 (.call 198 [(.t p64), (.t p66), (.c (.int .i64 5)), (.t p67)])])
  (.seq (.reg [o p69 (.p (.mv (.t p0))),
  o p70 (.p (.fa 1 (.t p3))),
  o p71 (.r (.ld 1 false (.t p70))),
  o p72 (.p (.bin .s .eql (.t p71) (.c (.string ⟨⟨[]⟩⟩)))),
  o p73 (.p (.mv (.t p72))),
  g (some p74) p73 true (.r (.ld 68 true (.t p3))),
  g (some p75) p73 true (.call 202 [(.t p74)]),
  o p76 (.p (.pick (.t p73) (.t p75) (.c (.bool false)))),
  o p77 (.p (.mv (.t p4))),
  o p78 (.call 198 [(.t p69), (.t p76), (.c (.int .i64 10)), (.t p77)])])
  (.reg [o p79 (.p (.mv (.t p0))),
  o p80 (.p (.mv (.t p0))),
  o p81 (.r (.ld 68 true (.t p3))),
  o p82 (.call 203 [(.t p80), (.t p81)]),
  o p83 (.p (.mv (.t p4))),
  o p84 (.call 198 [(.t p79), (.t p82), (.c (.int .i64 11)), (.t p83)])]))))))))))
  (.reg [o p85 (.p (.bin .i .add (.t p15) (.c (.int .i64 1)))),
  o p15 (.p (.mv (.t p85)))]))))))⟩
def c127 : CFunc := ⟨[], .scope (.seq (.skip)
  (.seq (.reg [o p10 (.p (.mv (.t p0))),
  o p11 (.p (.nck (.t p10))),
  o p12 (.p (.fa 0 (.t p11))),
  o p13 (.p (.fa 0 (.t p12))),
  o p14 (.r (.ld 1 false (.t p13))),
  o p15 (.p (.lenP false (.t p14))),
  o p16 (.p (.mv (.c (.int .i64 0))))])
  (.block 0 (.loop (.seq (.reg [o p17 (.p (.bin .i .lss (.t p16) (.t p15)))])
  (.seq (.cond (.t p17) (.skip)
  (.exit 0))
  (.seq (.block 1 (.seq (.reg [o p18 (.p (.mv (.t p16))),
  o p19 (.p (.iaL 3 (.t p14) (.t p16))),
  o p20 (.r (.ld 3 true (.t p19))),
  o p3 (.a (.alc [(.int .u32 0), (.int .i64 0), (.bool false)])),
  o p2 (.p (.mv (.t p18))),
  n (.w (.st 3 (.t p3) (.t p20)))])
  (.seq (.reg [o p22 (.p (.fa 0 (.t p3))),
  o p23 (.r (.ld 2 true (.t p22))),
  o p24 (.call 163 [(.t p23)]),
  o p21 (.p (.mv (.t p24))),
  o p25 (.p (.ext 0 (.t p21))),
  o p26 (.p (.ext 1 (.t p21))),
  o p4 (.p (.mv (.t p25))),
  o p5 (.p (.mv (.t p26)))])
  (.seq (.reg [o p27 (.p (.mv (.t p0))),
  o p28 (.p (.nck (.t p27))),
  o p29 (.p (.fa 0 (.t p28))),
  o p30 (.p (.fa 0 (.t p29))),
  o p31 (.r (.ld 1 false (.t p30))),
  o p32 (.p (.lenP false (.t p31))),
  o p33 (.p (.mv (.c (.int .i64 0))))])
  (.block 2 (.loop (.seq (.reg [o p34 (.p (.bin .i .lss (.t p33) (.t p32)))])
  (.seq (.cond (.t p34) (.skip)
  (.exit 2))
  (.seq (.block 3 (.seq (.reg [o p35 (.p (.mv (.t p33))),
  o p36 (.p (.iaL 3 (.t p31) (.t p33))),
  o p37 (.r (.ld 3 true (.t p36))),
  o p7 (.a (.alc [(.int .u32 0), (.int .i64 0), (.bool false)])),
  o p6 (.p (.mv (.t p35))),
  n (.w (.st 3 (.t p7) (.t p37)))])
  (.seq (.reg [o p39 (.p (.fa 0 (.t p7))),
  o p40 (.r (.ld 2 true (.t p39))),
  o p41 (.call 163 [(.t p40)]),
  o p38 (.p (.mv (.t p41))),
  o p42 (.p (.ext 0 (.t p38))),
  o p43 (.p (.ext 1 (.t p38))),
  o p8 (.p (.mv (.t p42))),
  o p9 (.p (.mv (.t p43)))])
  (.seq (.reg [o p44 (.p (.mv (.t p6))),
  o p45 (.p (.mv (.t p2))),
  o p46 (.p (.bin .i .neq (.t p44) (.t p45))),
  o p47 (.p (.mv (.t p46))),
  g (some p48) p47 true (.p (.mv (.t p8))),
  g (some p49) p47 true (.p (.mv (.t p4))),
  g (some p50) p47 true (.p (.bin .s .lss (.t p48) (.t p49))),
  o p51 (.p (.pick (.t p47) (.t p50) (.c (.bool false)))),
  o p52 (.p (.mv (.t p51))),
  g (some p53) p52 true (.p (.fa 0 (.t p3))),
  g (some p54) p52 true (.r (.ld 2 true (.t p53))),
  g (some p55) p52 true (.p (.fa 0 (.t p7))),
  g (some p56) p52 true (.r (.ld 2 true (.t p55))),
  g (some p57) p52 true (.call 204 [(.t p54), (.t p56)]),
  o p58 (.p (.pick (.t p52) (.t p57) (.c (.bool false))))])
  (.cond (.t p58) (.seq (.reg [o p59 (.p (.mv (.t p0))),
  o p60 (.p (.mv (.t p4))),
  o p61 (.call 198 [(.t p59), (.c (.bool true)), (.c (.int .i64 6)), (.t p60)])])
  (.exit 1))
  (.skip))))))
  (.reg [o p62 (.p (.bin .i .add (.t p33) (.c (.int .i64 1)))),
  o p33 (.p (.mv (.t p62)))]))))))))))
  (.reg [o p63 (.p (.bin .i .add (.t p16) (.c (.int .i64 1)))),
  o p16 (.p (.mv (.t p63)))]))))))))⟩
def c128 : CFunc := ⟨[], .seq (.reg [o p12 (.p (.mv (.t p0))),
  o p13 (.call 205 [(.t p12)]),
  o p2 (.p (.mv (.t p13)))])
  (.seq (.seq (.reg [o p14 (.p (.mv (.t p0))),
  o p15 (.p (.nck (.t p14))),
  o p16 (.p (.fa 0 (.t p15))),
  o p17 (.p (.fa 3 (.t p16))),
  o p18 (.r (.ld 1 false (.t p17))),
  o p19 (.w (.rgM (.t p18)))])
  (.block 0 (.loop (.seq (.reg [o p20 (.nxM (.t p19)),
  o p21 (.p (.ext 0 (.t p20)))])
  (.seq (.cond (.t p21) (.skip)
  (.exit 0))
  (.block 1 (.seq (.reg [o p22 (.r (.ent (.t p19))),
  o p23 (.p (.ext 0 (.t p22))),
  o p24 (.p (.ext 1 (.t p22))),
  o p4 (.a (.alc [(.slice none 0 0)])),
  o p3 (.p (.mv (.t p23))),
  n (.w (.st 1 (.t p4) (.t p24)))])
  (.seq (.reg [o p26 (.p (.mv (.t p3))),
  o p27 (.call 206 [(.t p26)]),
  o p25 (.p (.mv (.t p27))),
  o p28 (.p (.ext 0 (.t p25))),
  o p29 (.p (.ext 1 (.t p25))),
  o p5 (.p (.mv (.t p28))),
  o p6 (.p (.mv (.t p29)))])
  (.seq (.reg [o p30 (.p (.mv (.t p0))),
  o p31 (.p (.mv (.t p2))),
  o p32 (.p (.mv (.t p3))),
  o p33 (.r (.look (.agg ⟨[(.slice none 0 0)]⟩) false (.one 1) (.t p31) (.t p32))),
  o p34 (.r (.ld 1 true (.t p4))),
  o p35 (.call 207 [(.t p33), (.t p34)]),
  o p36 (.p (.mv (.t p5))),
  o p37 (.call 198 [(.t p30), (.t p35), (.c (.int .i64 7)), (.t p36)])])
  (.reg [o p38 (.p (.mv (.t p0))),
  o p39 (.r (.ld 1 true (.t p4))),
  o p40 (.p (.mv (.t p2))),
  o p41 (.p (.mv (.t p3))),
  o p42 (.r (.look (.agg ⟨[(.slice none 0 0)]⟩) false (.one 1) (.t p40) (.t p41))),
  o p43 (.call 207 [(.t p39), (.t p42)]),
  o p44 (.p (.mv (.t p5))),
  o p45 (.call 198 [(.t p38), (.t p43), (.c (.int .i64 8)), (.t p44)])]))))))))))
  (.seq (.reg [o p46 (.p (.mv (.t p2))),
  o p47 (.w (.rgM (.t p46)))])
  (.block 2 (.loop (.seq (.reg [o p48 (.nxM (.t p47)),
  o p49 (.p (.ext 0 (.t p48)))])
  (.seq (.cond (.t p49) (.skip)
  (.exit 2))
  (.block 3 (.seq (.reg [o p50 (.r (.ent (.t p47))),
  o p51 (.p (.ext 0 (.t p50))),
  o p7 (.p (.mv (.t p51)))])
  (.seq (.reg [o p53 (.p (.mv (.t p7))),
  o p54 (.call 206 [(.t p53)]),
  o p52 (.p (.mv (.t p54))),
  o p55 (.p (.ext 0 (.t p52))),
  o p56 (.p (.ext 1 (.t p52))),
  o p8 (.p (.mv (.t p55))),
  o p9 (.p (.mv (.t p56)))])
  (.seq (.reg [o p58 (.p (.mv (.t p0))),
  o p59 (.p (.nck (.t p58))),
  o p60 (.p (.fa 0 (.t p59))),
  o p61 (.p (.fa 3 (.t p60))),
  o p62 (.r (.ld 1 false (.t p61))),
  o p63 (.p (.mv (.t p7))),
  o p64 (.r (.look (.agg ⟨[(.slice none 0 0)]⟩) true (.one 1) (.t p62) (.t p63))),
  o p57 (.p (.mv (.t p64))),
  o p65 (.p (.ext 0 (.t p57))),
  o p66 (.p (.ext 1 (.t p57))),
  o p10 (.a (.alc [(.slice none 0 0)])),
  n (.w (.st 1 (.t p10) (.t p65))),
  o p11 (.p (.mv (.t p66)))])
  (.reg [o p67 (.p (.mv (.t p0))),
  o p68 (.p (.mv (.t p11))),
  o p69 (.p (.un .not (.t p68))),
  o p70 (.p (.mv (.t p8))),
  o p71 (.call 198 [(.t p67), (.t p69), (.c (.int .i64 7)), (.t p70)])])))))))))))⟩
def c129 : CFunc := ⟨[.t p2], .seq (.reg [o p2 (.p (.mv (.c (.int .u32 0))))])
  (.seq (.reg [o p3 (.p (.mv (.t p0))),
  o p4 (.p (.mm true (.t p3) (.c (.int .i64 0)))),
  o p5 (.p (.mm false (.t p4) (.c (.int .i64 32)))),
  o p0 (.p (.mv (.t p5)))])
  (.seq (.reg [o p6 (.p (.mv (.t p0))),
  o p7 (.p (.bin .i .sub (.c (.int .i64 32)) (.t p6))),
  o p8 (.p (.bin .i .shl (.c (.int .u64 1)) (.t p7))),
  o p9 (.p (.bin .i .sub (.c (.int .u64 4294967296)) (.t p8))),
  o p10 (.p (.conv .u32 (.t p9))),
  o p2 (.p (.mv (.t p10)))])
  (.ret)))⟩
def c135 : CFunc := ⟨[.cell p2 2 true, .t p3], .seq (.reg [o p2 (.a (.alc [(.int .u32 0), (.int .i64 0)])),
  o p3 (.p (.mv (.c (.bool false))))])
  (.seq (.reg [o p9 (.p (.mv (.t p0))),
  o p10 (.call 211 [(.t p9), (.c (.string ⟨⟨[112, 111, 111, 108, 47]⟩⟩))]),
  o p8 (.p (.mv (.t p10))),
  o p11 (.p (.ext 0 (.t p8))),
  o p12 (.p (.ext 1 (.t p8))),
  o p4 (.p (.mv (.t p11))),
  o p5 (.p (.mv (.t p12)))])
  (.seq (.reg [o p14 (.p (.mv (.t p4))),
  o p15 (.call 212 [(.t p14)]),
  o p13 (.p (.mv (.t p15))),
  o p16 (.p (.ext 0 (.t p13))),
  o p17 (.p (.ext 1 (.t p13))),
  o p6 (.a (.alc [(.int .u32 0), (.int .i64 0)])),
  n (.w (.st 2 (.t p6) (.t p16))),
  o p7 (.p (.mv (.t p17)))])
  (.seq (.seq (.reg [o p18 (.p (.mv (.t p5))),
  o p19 (.p (.un .not (.t p18))),
  o p20 (.p (.mv (.t p19))),
  g (some p21) p20 false (.p (.mv (.t p7))),
  g (some p22) p20 false (.p (.un .not (.t p21))),
  o p23 (.p (.pick (.t p20) (.c (.bool true)) (.t p22))),
  o p24 (.p (.mv (.t p23))),
  g (some p25) p24 false (.p (.fa 1 (.t p6))),
  g (some p26) p24 false (.r (.ld 1 false (.t p25))),
  g (some p27) p24 false (.p (.bin .i .gtr (.t p26) (.c (.int .i64 26)))),
  o p28 (.p (.pick (.t p24) (.c (.bool true)) (.t p27)))])
  (.cond (.t p28) (.seq (.reg [o p29 (.p (.bld [(.int .u32 0), (.int .i64 0)] [])),
  n (.w (.st 2 (.t p2) (.t p29))),
  o p3 (.p (.mv (.c (.bool false))))])
  (.ret))
  (.skip)))
  (.seq (.reg [o p30 (.r (.ld 2 true (.t p6))),
  n (.w (.st 2 (.t p2) (.t p30))),
  o p3 (.p (.mv (.c (.bool true))))])
  (.ret)))))⟩
def c136 : CFunc := ⟨[.cell p2 3 true, .t p3], .seq (.reg [o p2 (.a (.alc [(.int .u32 0), (.int .i64 0), (.bool false)])),
  o p3 (.p (.mv (.c (.int .i64 0))))])
  (.seq (.reg [o p8 (.p (.mv (.t p0))),
  o p9 (.a (.s2b (.t p8))),
  o p10 (.call 213 [(.t p9)]),
  o p4 (.p (.mv (.t p10)))])
  (.seq (.reg [o p11 (.p (.mv (.t p4))),
  o p12 (.call 214 [(.t p11), (.c (.int .i64 1))]),
  o p5 (.p (.mv (.t p12)))])
  (.seq (.reg [o p13 (.p (.mv (.t p4))),
  o p14 (.call 214 [(.t p13), (.c (.int .i64 4))]),
  o p15 (.p (.conv .u32 (.t p14))),
  o p16 (.p (.mv (.t p4))),
  o p17 (.call 214 [(.t p16), (.c (.int .i64 1))]),
  o p18 (.p (.conv .i64 (.t p17))),
  o p19 (.p (.bld [(.int .u32 0), (.int .i64 0)] [(0, 1, (.t p15)), (1, 1, (.t p18))])),
  o p20 (.p (.bld [(.int .u32 0), (.int .i64 0), (.bool false)] [(0, 2, (.t p19))])),
  o p6 (.a (.alc [(.int .u32 0), (.int .i64 0), (.bool false)])),
  n (.w (.st 3 (.t p6) (.t p20)))])
  (.seq (.reg [o p21 (.p (.mv (.t p4))),
  o p22 (.call 214 [(.t p21), (.c (.int .i64 1))]),
  o p7 (.p (.mv (.t p22)))])
  (.seq (.reg [o p23 (.p (.mv (.t p7))),
  o p24 (.p (.bin .i .eql (.t p23) (.c (.int .u64 1)))),
  o p25 (.p (.fa 2 (.t p6))),
  n (.w (.st 1 (.t p25) (.t p24)))])
  (.seq (.seq (.reg [o p26 (.p (.mv (.t p4))),
  o p27 (.call 215 [(.t p26)]),
  o p28 (.p (.un .not (.t p27))),
  o p29 (.p (.mv (.t p28))),
  g (some p30) p29 false (.p (.mv (.t p5))),
  g (some p31) p29 false (.p (.bin .i .neq (.t p30) (.c (.int .u64 80)))),
  o p32 (.p (.pick (.t p29) (.c (.bool true)) (.t p31))),
  o p33 (.p (.mv (.t p32))),
  g (some p34) p33 false (.p (.mv (.t p7))),
  g (some p35) p33 false (.p (.bin .i .gtr (.t p34) (.c (.int .u64 1)))),
  o p36 (.p (.pick (.t p33) (.c (.bool true)) (.t p35))),
  o p37 (.p (.mv (.t p36))),
  g (some p38) p37 false (.r (.ld 3 true (.t p6))),
  g (some p39) p37 false (.call 162 [(.t p38)]),
  g (some p40) p37 false (.p (.un .not (.t p39))),
  o p41 (.p (.pick (.t p37) (.c (.bool true)) (.t p40)))])
  (.cond (.t p41) (.seq (.reg [o p42 (.p (.bld [(.int .u32 0), (.int .i64 0), (.bool false)] [])),
  n (.w (.st 3 (.t p2) (.t p42))),
  o p3 (.p (.mv (.c (.int .i64 3))))])
  (.ret))
  (.skip)))
  (.seq (.reg [o p43 (.r (.ld 3 true (.t p6))),
  n (.w (.st 3 (.t p2) (.t p43))),
  o p3 (.p (.mv (.c (.int .i64 0))))])
  (.ret))))))))⟩
def c137 : CFunc := ⟨[.t p2, .t p3], .seq (.reg [o p2 (.p (.mv (.c (.int .u32 0)))),
  o p3 (.p (.mv (.c (.bool false))))])
  (.seq (.reg [o p9 (.p (.mv (.t p0))),
  o p10 (.call 211 [(.t p9), (.c (.string ⟨⟨[98, 108, 111, 99, 107, 47]⟩⟩))]),
  o p8 (.p (.mv (.t p10))),
  o p11 (.p (.ext 0 (.t p8))),
  o p12 (.p (.ext 1 (.t p8))),
  o p4 (.p (.mv (.t p11))),
  o p5 (.p (.mv (.t p12)))])
  (.seq (.reg [o p14 (.p (.mv (.t p4))),
  o p15 (.call 216 [(.t p14)]),
  o p13 (.p (.mv (.t p15))),
  o p16 (.p (.ext 0 (.t p13))),
  o p17 (.p (.ext 1 (.t p13))),
  o p6 (.p (.mv (.t p16))),
  o p7 (.p (.mv (.t p17)))])
  (.seq (.seq (.reg [o p18 (.p (.mv (.t p5))),
  o p19 (.p (.un .not (.t p18))),
  o p20 (.p (.mv (.t p19))),
  g (some p21) p20 false (.p (.mv (.t p7))),
  g (some p22) p20 false (.p (.un .not (.t p21))),
  o p23 (.p (.pick (.t p20) (.c (.bool true)) (.t p22)))])
  (.cond (.t p23) (.seq (.reg [o p2 (.p (.mv (.c (.int .u32 0)))),
  o p3 (.p (.mv (.c (.bool false))))])
  (.ret))
  (.skip)))
  (.seq (.reg [o p24 (.p (.mv (.t p6))),
  o p2 (.p (.mv (.t p24))),
  o p3 (.p (.mv (.c (.bool true))))])
  (.ret)))))⟩
def c138 : CFunc := ⟨[.cell p2 68 true, .t p3], .seq (.reg [o p2 (.a (.alc [(.int .u32 0), (.string ⟨⟨[]⟩⟩), (.int .u8 0), (.int .u8 0), (.int .u8 0), (.int .u8 0), (.int .u8 0), (.int .u8 0), (.int .u8 0), (.int .u8 0), (.int .u8 0), (.int .u8 0), (.int .u8 0), (.int .u8 0), (.int .u8 0), (.int .u8 0), (.int .u8 0), (.int .u8 0), (.int .u8 0), (.int .u8 0), (.int .u8 0), (.int .u8 0), (.int .u8 0), (.int .u8 0), (.int .u8 0), (.int .u8 0), (.int .u8 0), (.int .u8 0), (.int .u8 0), (.int .u8 0), (.int .u8 0), (.int .u8 0), (.int .u8 0), (.int .u8 0), (.int .u8 0), (.int .u8 0), (.int .u8 0), (.int .u8 0), (.int .u8 0), (.int .u8 0), (.int .u8 0), (.int .u8 0), (.int .u8 0), (.int .u8 0), (.int .u8 0), (.int .u8 0), (.int .u8 0), (.int .u8 0), (.int .u8 0), (.int .u8 0), (.int .u8 0), (.int .u8 0), (.int .u8 0), (.int .u8 0), (.int .u8 0), (.int .u8 0), (.int .u8 0), (.int .u8 0), (.int .u8 0), (.int .u8 0), (.int .u8 0), (.int .u8 0), (.int .u8 0), (.int .u8 0), (.int .u8 0), (.int .u8 0), (.slice none 0 0), (.slice none 0 0)])),
  o p3 (.p (.mv (.c (.int .i64 0))))])
  (.seq (.reg [o p7 (.p (.mv (.t p0))),
  o p8 (.a (.s2b (.t p7))),
  o p9 (.call 213 [(.t p8)]),
  o p4 (.p (.mv (.t p9)))])
  (.seq (.reg [o p10 (.p (.mv (.t p4))),
  o p11 (.call 214 [(.t p10), (.c (.int .i64 1))]),
  o p5 (.p (.mv (.t p11)))])
  (.seq (.reg [o p12 (.p (.mv (.t p4))),
  o p13 (.call 214 [(.t p12), (.c (.int .i64 4))]),
  o p14 (.p (.conv .u32 (.t p13))),
  o p15 (.p (.bld [(.int .u32 0), (.string ⟨⟨[]⟩⟩), (.int .u8 0), (.int .u8 0), (.int .u8 0), (.int .u8 0), (.int .u8 0), (.int .u8 0), (.int .u8 0), (.int .u8 0), (.int .u8 0), (.int .u8 0), (.int .u8 0), (.int .u8 0), (.int .u8 0), (.int .u8 0), (.int .u8 0), (.int .u8 0), (.int .u8 0), (.int .u8 0), (.int .u8 0), (.int .u8 0), (.int .u8 0), (.int .u8 0), (.int .u8 0), (.int .u8 0), (.int .u8 0), (.int .u8 0), (.int .u8 0), (.int .u8 0), (.int .u8 0), (.int .u8 0), (.int .u8 0), (.int .u8 0), (.int .u8 0), (.int .u8 0), (.int .u8 0), (.int .u8 0), (.int .u8 0), (.int .u8 0), (.int .u8 0), (.int .u8 0), (.int .u8 0), (.int .u8 0), (.int .u8 0), (.int .u8 0), (.int .u8 0), (.int .u8 0), (.int .u8 0), (.int .u8 0), (.int .u8 0), (.int .u8 0), (.int .u8 0), (.int .u8 0), (.int .u8 0), (.int .u8 0), (.int .u8 0), (.int .u8 0), (.int .u8 0), (.int .u8 0), (.int .u8 0), (.int .u8 0), (.int .u8 0), (.int .u8 0), (.int .u8 0), (.int .u8 0), (.slice none 0 0), (.slice none 0 0)] [(0, 1, (.t p14))])),
  o p6 (.a (.alc [(.int .u32 0), (.string ⟨⟨[]⟩⟩), (.int .u8 0), (.int .u8 0), (.int .u8 0), (.int .u8 0), (.int .u8 0), (.int .u8 0), (.int .u8 0), (.int .u8 0), (.int .u8 0), (.int .u8 0), (.int .u8 0), (.int .u8 0), (.int .u8 0), (.int .u8 0), (.int .u8 0), (.int .u8 0), (.int .u8 0), (.int .u8 0), (.int .u8 0), (.int .u8 0), (.int .u8 0), (.int .u8 0), (.int .u8 0), (.int .u8 0), (.int .u8 0), (.int .u8 0), (.int .u8 0), (.int .u8 0), (.int .u8 0), (.int .u8 0), (.int .u8 0), (.int .u8 0), (.int .u8 0), (.int .u8 0), (.int .u8 0), (.int .u8 0), (.int .u8 0), (.int .u8 0), (.int .u8 0), (.int .u8 0), (.int .u8 0), (.int .u8 0), (.int .u8 0), (.int .u8 0), (.int .u8 0), (.int .u8 0), (.int .u8 0), (.int .u8 0), (.int .u8 0), (.int .u8 0), (.int .u8 0), (.int .u8 0), (.int .u8 0), (.int .u8 0), (.int .u8 0), (.int .u8 0), (.int .u8 0), (.int .u8 0), (.int .u8 0), (.int .u8 0), (.int .u8 0), (.int .u8 0), (.int .u8 0), (.int .u8 0), (.slice none 0 0), (.slice none 0 0)])),
  n (.w (.st 68 (.t p6) (.t p15)))])
  (.seq (.reg [o p16 (.p (.mv (.t p4))),
  o p17 (.call 217 [(.t p16)]),
  o p18 (.p (.fa 1 (.t p6))),
  n (.w (.st 1 (.t p18) (.t p17)))])
  (.seq (.reg [o p19 (.p (.mv (.t p4))),
  o p20 (.call 218 [(.t p19)]),
  o p21 (.p (.fa 67 (.t p6))),
  n (.w (.st 1 (.t p21) (.t p20)))])
  (.seq (.dreg [o p22 (.p (.fa 2 (.t p6))),
  o p23 (.p (.slA 64 1 (.t p22) none none)),
  o p24 (.p (.mv (.t p4))),
  o p25 (.call 219 [(.t p24), (.c (.int .i64 64))]),
  o p26 (.w (.cpy 1 (.t p23) (.t p25)))] [[], [], [], [], []])
  (.seq (.reg [o p27 (.p (.mv (.t p4))),
  o p28 (.p (.mv (.t p4))),
  o p29 (.call 214 [(.t p28), (.c (.int .i64 1))]),
  o p30 (.p (.conv .i64 (.t p29))),
  o p31 (.call 219 [(.t p27), (.t p30)]),
  o p32 (.p (.fa 66 (.t p6))),
  n (.w (.st 1 (.t p32) (.t p31)))])
  (.seq (.seq (.reg [o p33 (.p (.mv (.t p4))),
  o p34 (.call 215 [(.t p33)]),
  o p35 (.p (.un .not (.t p34))),
  o p36 (.p (.mv (.t p35))),
  g (some p37) p36 false (.p (.mv (.t p5))),
  g (some p38) p36 false (.p (.bin .i .neq (.t p37) (.c (.int .u64 66)))),
  o p39 (.p (.pick (.t p36) (.c (.bool true)) (.t p38))),
  o p40 (.p (.mv (.t p39))),
  g (some p41) p40 false (.r (.ld 68 true (.t p6))),
  g (some p42) p40 false (.call 144 [(.t p41)]),
  g (some p43) p40 false (.p (.un .not (.t p42))),
  o p44 (.p (.pick (.t p40) (.c (.bool true)) (.t p43)))])
  (.cond (.t p44) (.seq (.reg [o p45 (.p (.bld [(.int .u32 0), (.string ⟨⟨[]⟩⟩), (.int .u8 0), (.int .u8 0), (.int .u8 0), (.int .u8 0), (.int .u8 0), (.int .u8 0), (.int .u8 0), (.int .u8 0), (.int .u8 0), (.int .u8 0), (.int .u8 0), (.int .u8 0), (.int .u8 0), (.int .u8 0), (.int .u8 0), (.int .u8 0), (.int .u8 0), (.int .u8 0), (.int .u8 0), (.int .u8 0), (.int .u8 0), (.int .u8 0), (.int .u8 0), (.int .u8 0), (.int .u8 0), (.int .u8 0), (.int .u8 0), (.int .u8 0), (.int .u8 0), (.int .u8 0), (.int .u8 0), (.int .u8 0), (.int .u8 0), (.int .u8 0), (.int .u8 0), (.int .u8 0), (.int .u8 0), (.int .u8 0), (.int .u8 0), (.int .u8 0), (.int .u8 0), (.int .u8 0), (.int .u8 0), (.int .u8 0), (.int .u8 0), (.int .u8 0), (.int .u8 0), (.int .u8 0), (.int .u8 0), (.int .u8 0), (.int .u8 0), (.int .u8 0), (.int .u8 0), (.int .u8 0), (.int .u8 0), (.int .u8 0), (.int .u8 0), (.int .u8 0), (.int .u8 0), (.int .u8 0), (.int .u8 0), (.int .u8 0), (.int .u8 0), (.int .u8 0), (.slice none 0 0), (.slice none 0 0)] [])),
  n (.w (.st 68 (.t p2) (.t p45))),
  o p3 (.p (.mv (.c (.int .i64 3))))])
  (.ret))
  (.skip)))
  (.seq (.reg [o p46 (.r (.ld 68 true (.t p6))),
  n (.w (.st 68 (.t p2) (.t p46))),
  o p3 (.p (.mv (.c (.int .i64 0))))])
  (.ret))))))))))⟩
def c139 : CFunc := ⟨[.t p2, .t p3, .t p4], .seq (.reg [o p2 (.p (.mv (.c (.string ⟨⟨[]⟩⟩)))),
  o p3 (.p (.mv (.c (.int .u32 0)))),
  o p4 (.p (.mv (.c (.bool false))))])
  (.seq (.reg [o p13 (.p (.mv (.t p0))),
  o p14 (.call 211 [(.t p13), (.c (.string ⟨⟨[97, 102, 102, 47]⟩⟩))]),
  o p12 (.p (.mv (.t p14))),
  o p15 (.p (.ext 0 (.t p12))),
  o p16 (.p (.ext 1 (.t p12))),
  o p5 (.p (.mv (.t p15))),
  o p6 (.p (.mv (.t p16)))])
  (.seq (.reg [o p18 (.p (.mv (.t p5))),
  o p19 (.call 220 [(.t p18), (.c (.string ⟨⟨[47]⟩⟩))]),
  o p17 (.p (.mv (.t p19))),
  o p20 (.p (.ext 0 (.t p17))),
  o p21 (.p (.ext 1 (.t p17))),
  o p22 (.p (.ext 2 (.t p17))),
  o p7 (.p (.mv (.t p20))),
  o p8 (.p (.mv (.t p21))),
  o p9 (.p (.mv (.t p22)))])
  (.seq (.reg [o p24 (.p (.mv (.t p8))),
  o p25 (.call 216 [(.t p24)]),
  o p23 (.p (.mv (.t p25))),
  o p26 (.p (.ext 0 (.t p23))),
  o p27 (.p (.ext 1 (.t p23))),
  o p10 (.p (.mv (.t p26))),
  o p11 (.p (.mv (.t p27)))])
  (.seq (.seq (.reg [o p28 (.p (.mv (.t p6))),
  o p29 (.p (.un .not (.t p28))),
  o p30 (.p (.mv (.t p29))),
  g (some p31) p30 false (.p (.mv (.t p11))),
  g (some p32) p30 false (.p (.un .not (.t p31))),
  o p33 (.p (.pick (.t p30) (.c (.bool true)) (.t p32))),
  o p34 (.p (.mv (.t p33))),
  g (some p35) p34 false (.p (.mv (.t p7))),
  g (some p36) p34 false (.call 221 [(.t p35)]),
  g (some p37) p34 false (.p (.un .not (.t p36))),
  o p38 (.p (.pick (.t p34) (.c (.bool true)) (.t p37)))])
  (.cond (.t p38) (.seq (.reg [o p2 (.p (.mv (.c (.string ⟨⟨[]⟩⟩)))),
  o p3 (.p (.mv (.c (.int .u32 0)))),
  o p4 (.p (.mv (.c (.bool false))))])
  (.ret))
  (.skip)))
  (.seq (.reg [o p39 (.p (.mv (.t p7))),
  o p40 (.p (.mv (.t p10))),
  o p2 (.p (.mv (.t p39))),
  o p3 (.p (.mv (.t p40))),
  o p4 (.p (.mv (.c (.bool true))))])
  (.ret))))))⟩
def c140 : CFunc := ⟨[.t p2, .t p3], .seq (.reg [o p2 (.p (.mv (.c (.int .i64 0)))),
  o p3 (.p (.mv (.c (.int .i64 0))))])
  (.seq (.reg [o p7 (.p (.mv (.t p0))),
  o p8 (.call 177 [(.t p7), (.c (.int .u8 65)), (.c (.int .u8 3))]),
  o p6 (.p (.mv (.t p8))),
  o p9 (.p (.ext 0 (.t p6))),
  o p10 (.p (.ext 1 (.t p6))),
  o p4 (.p (.mv (.t p9))),
  o p5 (.p (.mv (.t p10)))])
  (.seq (.seq (.reg [o p11 (.p (.mv (.t p5))),
  o p12 (.p (.un .not (.t p11))),
  o p13 (.p (.mv (.t p12))),
  g (some p14) p13 false (.p (.mv (.t p4))),
  g (some p15) p13 false (.p (.bin .i .lss (.t p14) (.c (.int .i64 1)))),
  o p16 (.p (.pick (.t p13) (.c (.bool true)) (.t p15)))])
  (.cond (.t p16) (.seq (.reg [o p2 (.p (.mv (.c (.int .i64 0)))),
  o p3 (.p (.mv (.c (.int .i64 3))))])
  (.ret))
  (.skip)))
  (.seq (.reg [o p17 (.p (.mv (.t p4))),
  o p2 (.p (.mv (.t p17))),
  o p3 (.p (.mv (.c (.int .i64 0))))])
  (.ret))))⟩
def c141 : CFunc := ⟨[.t p2, .t p3], .seq (.reg [o p2 (.p (.mv (.c (.string ⟨⟨[]⟩⟩)))),
  o p3 (.p (.mv (.c (.bool false))))])
  (.seq (.reg [o p4 (.p (.mv (.t p0))),
  o p5 (.call 222 [(.t p4), (.c (.string ⟨⟨[104, 97, 110, 100, 108, 101, 47]⟩⟩))]),
  o p6 (.p (.ext 0 (.t p5))),
  o p7 (.p (.ext 1 (.t p5))),
  o p2 (.p (.mv (.t p6))),
  o p3 (.p (.mv (.t p7)))])
  (.ret))⟩
def c142 : CFunc := ⟨[.cell p2 1 true, .t p3], .seq (.reg [o p2 (.a (.alc [(.slice none 0 0)])),
  o p3 (.p (.mv (.c (.int .i64 0))))])
  (.seq (.reg [o p4 (.a (.alc [(.slice none 0 0)]))])
  (.seq (.reg [o p9 (.p (.mv (.t p0))),
  o p10 (.a (.s2b (.t p9))),
  o p11 (.call 213 [(.t p10)]),
  o p5 (.p (.mv (.t p11)))])
  (.seq (.reg [o p12 (.p (.mv (.t p5))),
  o p13 (.call 214 [(.t p12), (.c (.int .i64 1))]),
  o p6 (.p (.mv (.t p13)))])
  (.seq (.seq (.reg [o p14 (.p (.mv (.t p5))),
  o p15 (.call 214 [(.t p14), (.c (.int .i64 2))]),
  o p7 (.p (.mv (.t p15)))])
  (.block 0 (.loop (.seq (.seq (.reg [o p16 (.p (.mv (.t p7))),
  o p17 (.p (.bin .i .gtr (.t p16) (.c (.int .u64 0)))),
  o p18 (.p (.mv (.t p17))),
  g (some p19) p18 true (.p (.mv (.t p5))),
  g (some p20) p18 true (.call 223 [(.t p19)]),
  g (some p21) p18 true (.p (.un .not (.t p20))),
  o p22 (.p (.pick (.t p18) (.t p21) (.c (.bool false))))])
  (.cond (.t p22) (.skip)
  (.exit 0)))
  (.seq (.block 1 (.seq (.reg [o p25 (.p (.mv (.t p5))),
  o p26 (.call 214 [(.t p25), (.c (.int .i64 4))]),
  o p27 (.p (.conv .u32 (.t p26))),
  o p28 (.p (.bld [(.int .u32 0), (.int .i64 0)] [(0, 1, (.t p27))])),
  o p8 (.a (.alc [(.int .u32 0), (.int .i64 0)])),
  n (.w (.st 2 (.t p8) (.t p28)))])
  (.seq (.reg [o p29 (.p (.mv (.t p5))),
  o p30 (.call 214 [(.t p29), (.c (.int .i64 2))]),
  o p31 (.p (.conv .i64 (.t p30))),
  o p32 (.p (.fa 1 (.t p8))),
  n (.w (.st 1 (.t p32) (.t p31)))])
  (.reg [o p33 (.p (.fa 0 (.t p4))),
  o p34 (.r (.ld 1 false (.t p33))),
  o p35 (.r (.ld 2 true (.t p8))),
  o p36 (.a (.bsl 2 1 [(.int .u32 0), (.int .i64 0)] [(0, 2, (.t p35))])),
  o p37 (.w (.app 2 16 (.t p34) (.t p36))),
  o p38 (.p (.fa 0 (.t p4))),
  n (.w (.st 1 (.t p38) (.t p37)))]))))
  (.reg [o p23 (.p (.mv (.t p7))),
  o p24 (.p (.bin .i .sub (.t p23) (.c (.int .u64 1)))),
  o p7 (.p (.mv (.t p24)))]))))))
  (.seq (.seq (.reg [o p39 (.p (.mv (.t p5))),
  o p40 (.call 215 [(.t p39)]),
  o p41 (.p (.un .not (.t p40))),
  o p42 (.p (.mv (.t p41))),
  g (some p43) p42 false (.p (.mv (.t p6))),
  g (some p44) p42 false (.p (.bin .i .neq (.t p43) (.c (.int .u64 72)))),
  o p45 (.p (.pick (.t p42) (.c (.bool true)) (.t p44))),
  o p46 (.p (.mv (.t p45))),
  g (some p47) p46 false (.r (.ld 1 true (.t p4))),
  g (some p48) p46 false (.call 224 [(.t p47)]),
  g (some p49) p46 false (.p (.un .not (.t p48))),
  o p50 (.p (.pick (.t p46) (.c (.bool true)) (.t p49)))])
  (.cond (.t p50) (.seq (.reg [o p51 (.p (.bld [(.slice none 0 0)] [])),
  n (.w (.st 1 (.t p2) (.t p51))),
  o p3 (.p (.mv (.c (.int .i64 3))))])
  (.ret))
  (.skip)))
  (.seq (.reg [o p52 (.r (.ld 1 true (.t p4))),
  n (.w (.st 1 (.t p2) (.t p52))),
  o p3 (.p (.mv (.c (.int .i64 0))))])
  (.ret)))))))⟩
def c143 : CFunc := ⟨[.t p2, .t p3], .seq (.reg [o p2 (.p (.mv (.c (.string ⟨⟨[]⟩⟩)))),
  o p3 (.p (.mv (.c (.bool false))))])
  (.seq (.reg [o p4 (.p (.mv (.t p0))),
  o p5 (.call 222 [(.t p4), (.c (.string ⟨⟨[110, 111, 100, 101, 47]⟩⟩))]),
  o p6 (.p (.ext 0 (.t p5))),
  o p7 (.p (.ext 1 (.t p5))),
  o p2 (.p (.mv (.t p6))),
  o p3 (.p (.mv (.t p7)))])
  (.ret))⟩
def c144 : CFunc := ⟨[.t p2], .seq (.reg [o p1 (.a (.box 68 (.t p0))),
  o p2 (.p (.mv (.c (.bool false))))])
  (.seq (.dreg [o p3 (.p (.fa 0 (.t p1))),
  o p4 (.r (.ld 1 false (.t p3))),
  o p6 (.p (.fa 0 (.t p1))),
  o p7 (.r (.ld 1 false (.t p6))),
  o p5 (.call 225 [(.t p4)]),
  o p8 (.p (.bin .i .eql (.t p5) (.t p7))),
  o p9 (.p (.mv (.t p8))),
  g (some p10) p9 true (.p (.fa 1 (.t p1))),
  g (some p11) p9 true (.r (.ld 1 false (.t p10))),
  g (some p12) p9 true (.call 226 [(.t p11)]),
  o p13 (.p (.pick (.t p9) (.t p12) (.c (.bool false)))),
  o p14 (.p (.mv (.t p13))),
  g (some p15) p14 true (.p (.fa 67 (.t p1))),
  g (some p16) p14 true (.r (.ld 1 false (.t p15))),
  g (some p17) p14 true (.p (.lenP false (.t p16))),
  g (some p18) p14 true (.p (.bin .i .leq (.t p17) (.c (.int .i64 64)))),
  o p19 (.p (.pick (.t p14) (.t p18) (.c (.bool false)))),
  o p20 (.p (.mv (.t p19))),
  g (some p21) p20 true (.r (.ld 68 true (.t p1))),
  g (some p22) p20 true (.call 227 [(.t p21)]),
  o p23 (.p (.pick (.t p20) (.t p22) (.c (.bool false)))),
  o p24 (.p (.mv (.t p23))),
  g (some p25) p24 true (.r (.ld 68 true (.t p1))),
  g (some p26) p24 true (.call 228 [(.t p25)]),
  o p27 (.p (.pick (.t p24) (.t p26) (.c (.bool false)))),
  o p2 (.p (.mv (.t p27)))] [[], [], [], [], [3], [], [], [], [], [], [], [], [], [], [], [], [], [], [], [], [], [], [], [], [], []])
  (.ret))⟩
def c150 : CFunc := ⟨[.t p2], .seq (.reg [o p2 (.p (.mv (.c (.int .i64 0))))])
  (.seq (.cond (.c (.bool false)) (.seq (.reg [o p3 (.p (.mv (.t p0))),
  o p4 (.p (.conv .u32 (.t p3))),
  o p5 (.call 238 [(.t p4)]),
  o p2 (.p (.mv (.t p5)))])
  (.ret))
  (.skip))
  (.seq (.reg [o p6 (.p (.mv (.t p0))),
  o p7 (.call 239 [(.t p6)]),
  o p2 (.p (.mv (.t p7)))])
  (.ret)))⟩
def c162 : CFunc := ⟨[.t p2], .seq (.reg [o p1 (.a (.box 3 (.t p0))),
  o p2 (.p (.mv (.c (.bool false))))])
  (.seq (.reg [o p3 (.p (.fa 0 (.t p1))),
  o p4 (.r (.ld 2 true (.t p3))),
  o p5 (.call 249 [(.t p4)]),
  o p6 (.p (.mv (.t p5))),
  g (some p7) p6 true (.p (.fa 0 (.t p1))),
  g (some p8) p6 true (.p (.fa 1 (.t p7))),
  g (some p9) p6 true (.r (.ld 1 false (.t p8))),
  g (some p10) p6 true (.p (.bin .i .geq (.t p9) (.c (.int .i64 16)))),
  o p11 (.p (.pick (.t p6) (.t p10) (.c (.bool false)))),
  o p12 (.p (.mv (.t p11))),
  g (some p13) p12 true (.p (.fa 0 (.t p1))),
  g (some p14) p12 true (.p (.fa 1 (.t p13))),
  g (some p15) p12 true (.r (.ld 1 false (.t p14))),
  g (some p16) p12 true (.p (.bin .i .leq (.t p15) (.c (.int .i64 26)))),
  o p17 (.p (.pick (.t p12) (.t p16) (.c (.bool false)))),
  o p2 (.p (.mv (.t p17)))])
  (.ret))⟩
def c163 : CFunc := ⟨[.t p2, .t p3], .seq (.reg [o p1 (.a (.box 2 (.t p0))),
  o p2 (.p (.mv (.c (.string ⟨⟨[]⟩⟩)))),
  o p3 (.p (.mv (.c (.int .i64 0))))])
  (.seq (.seq (.reg [o p4 (.r (.ld 2 true (.t p1))),
  o p5 (.call 249 [(.t p4)]),
  o p6 (.p (.un .not (.t p5))),
  o p7 (.p (.mv (.t p6))),
  g (some p8) p7 false (.p (.fa 1 (.t p1))),
  g (some p9) p7 false (.r (.ld 1 false (.t p8))),
  g (some p10) p7 false (.p (.bin .i .gtr (.t p9) (.c (.int .i64 26)))),
  o p11 (.p (.pick (.t p7) (.c (.bool true)) (.t p10)))])
  (.cond (.t p11) (.seq (.reg [o p2 (.p (.mv (.c (.string ⟨⟨[]⟩⟩)))),
  o p3 (.p (.mv (.c (.int .i64 1))))])
  (.ret))
  (.skip)))
  (.seq (.reg [o p12 (.r (.ld 2 true (.t p1))),
  o p13 (.call 250 [(.t p12)]),
  o p14 (.p (.bin .s .add (.c (.string ⟨⟨[112, 111, 111, 108, 47]⟩⟩)) (.t p13))),
  o p2 (.p (.mv (.t p14))),
  o p3 (.p (.mv (.c (.int .i64 0))))])
  (.ret)))⟩
def c174 : CFunc := ⟨[.t p4], .seq (.reg [o p2 (.a (.box 2 (.t p0))),
  o p4 (.p (.mv (.c (.bool false))))])
  (.seq (.dreg [o p5 (.r (.ld 2 true (.t p2))),
  o p6 (.call 249 [(.t p5)]),
  o p7 (.p (.mv (.t p6))),
  g (some p8) p7 true (.p (.mv (.t p1))),
  g (some p9) p7 true (.p (.fa 1 (.t p2))),
  g (some p10) p7 true (.r (.ld 1 false (.t p9))),
  g (some p13) p7 true (.p (.fa 0 (.t p2))),
  g (some p14) p7 true (.r (.ld 1 false (.t p13))),
  g (some p11) p7 true (.call 129 [(.t p10)]),
  g (some p12) p7 true (.p (.bin .i .and (.t p8) (.t p11))),
  g (some p15) p7 true (.p (.bin .i .eql (.t p12) (.t p14))),
  o p16 (.p (.pick (.t p7) (.t p15) (.c (.bool false)))),
  o p4 (.p (.mv (.t p16)))] [[], [], [], [], [], [], [], [], [7], [], [], [], []])
  (.ret))⟩
def c175 : CFunc := ⟨[.t p4, .t p5], .seq (.reg [o p4 (.p (.mv (.c (.string ⟨⟨[]⟩⟩)))),
  o p5 (.p (.mv (.c (.int .i64 0))))])
  (.seq (.seq (.reg [o p6 (.p (.mv (.t p1))),
  o p7 (.call 221 [(.t p6)]),
  o p8 (.p (.un .not (.t p7)))])
  (.cond (.t p8) (.seq (.reg [o p4 (.p (.mv (.c (.string ⟨⟨[]⟩⟩)))),
  o p5 (.p (.mv (.c (.int .i64 1))))])
  (.ret))
  (.skip)))
  (.seq (.reg [o p9 (.p (.mv (.t p0))),
  o p10 (.p (.mv (.t p1))),
  o p11 (.p (.bin .s .add (.t p9) (.t p10))),
  o p4 (.p (.mv (.t p11))),
  o p5 (.p (.mv (.c (.int .i64 0))))])
  (.ret)))⟩
def c177 : CFunc := ⟨[.t p6, .t p7], .seq (.reg [o p6 (.p (.mv (.c (.int .i64 0)))),
  o p7 (.p (.mv (.c (.bool false))))])
  (.seq (.seq (.reg [o p8 (.p (.mv (.t p0))),
  o p9 (.p (.lenP true (.t p8))),
  o p10 (.p (.bin .i .neq (.t p9) (.c (.int .i64 2)))),
  o p11 (.p (.mv (.t p10))),
  g (some p12) p11 false (.p (.mv (.t p0))),
  g (some p13) p11 false (.p (.ixS (.t p12) (.c (.int .i64 0)))),
  g (some p14) p11 false (.p (.mv (.t p1))),
  g (some p15) p11 false (.p (.bin .i .neq (.t p13) (.t p14))),
  o p16 (.p (.pick (.t p11) (.c (.bool true)) (.t p15))),
  o p17 (.p (.mv (.t p16))),
  g (some p18) p17 false (.p (.mv (.t p0))),
  g (some p19) p17 false (.p (.ixS (.t p18) (.c (.int .i64 1)))),
  g (some p20) p17 false (.p (.mv (.t p2))),
  g (some p21) p17 false (.p (.bin .i .gtr (.t p19) (.t p20))),
  o p22 (.p (.pick (.t p17) (.c (.bool true)) (.t p21)))])
  (.cond (.t p22) (.seq (.reg [o p6 (.p (.mv (.c (.int .i64 0)))),
  o p7 (.p (.mv (.c (.bool false))))])
  (.ret))
  (.skip)))
  (.seq (.reg [o p23 (.p (.mv (.t p0))),
  o p24 (.p (.ixS (.t p23) (.c (.int .i64 1)))),
  o p25 (.p (.conv .i64 (.t p24))),
  o p6 (.p (.mv (.t p25))),
  o p7 (.p (.mv (.c (.bool true))))])
  (.ret)))⟩
def c191 : CFunc := ⟨[], .seq (.reg [o p5 (.p (.mv (.t p0))),
  o p6 (.p (.lenP false (.t p5))),
  o p4 (.p (.mv (.t p6)))])
  (.reg [o p7 (.p (.mv (.t p0))),
  o p8 (.p (.mv (.t p4))),
  o p9 (.p (.mv (.t p4))),
  o p10 (.p (.conv .u64 (.t p9))),
  o p11 (.call 150 [(.t p10)]),
  o p12 (.p (.mv (.t p1))),
  o p13 (.call 260 [(.t p7), (.c (.int .i64 0)), (.t p8), (.t p11), (.t p12)])])⟩
def c192 : CFunc := ⟨[.t p4], .seq (.reg [o p2 (.a (.box 2 (.t p0))),
  o p3 (.a (.box 2 (.t p1))),
  o p4 (.p (.mv (.c (.int .i64 0))))])
  (.seq (.dreg [o p5 (.p (.fa 0 (.t p2))),
  o p6 (.r (.ld 1 false (.t p5))),
  o p7 (.p (.fa 0 (.t p3))),
  o p8 (.r (.ld 1 false (.t p7))),
  o p10 (.p (.fa 1 (.t p2))),
  o p11 (.r (.ld 1 false (.t p10))),
  o p12 (.p (.fa 1 (.t p3))),
  o p13 (.r (.ld 1 false (.t p12))),
  o p9 (.call 194 [(.t p6), (.t p8)]),
  o p14 (.call 195 [(.t p11), (.t p13)]),
  o p15 (.a (.bsl 1 2 [(.int .i64 0)] [(0, 1, (.t p9)), (1, 1, (.t p14))])),
  o p16 (.call 193 [(.t p15)]),
  o p4 (.p (.mv (.t p16)))] [[], [], [], [], [], [], [], [], [5, 7], [], [], [], []])
  (.ret))⟩
def c193 : CFunc := ⟨[.t p2], .seq (.reg [o p2 (.p (.mv (.c (.int .i64 0))))])
  (.seq (.reg [o p3 (.p (.mv (.c (.int .i64 0))))])
  (.seq (.seq (.reg [o p6 (.p (.mv (.t p0))),
  o p7 (.p (.lenP false (.t p6))),
  o p8 (.p (.mv (.c (.int .i64 0))))])
  (.block 0 (.loop (.seq (.reg [o p9 (.p (.bin .i .lss (.t p8) (.t p7)))])
  (.seq (.cond (.t p9) (.skip)
  (.exit 0))
  (.seq (.block 1 (.seq (.reg [o p10 (.p (.iaL 1 (.t p6) (.t p8))),
  o p11 (.r (.ld 1 false (.t p10))),
  o p5 (.p (.mv (.t p11)))])
  (.seq (.reg [o p12 (.p (.mv (.t p5))),
  o p13 (.p (.mv (.t p3))),
  o p14 (.p (.bin .i .neq (.t p12) (.t p13)))])
  (.cond (.t p14) (.seq (.reg [o p15 (.p (.mv (.t p5))),
  o p2 (.p (.mv (.t p15)))])
  (.ret))
  (.skip)))))
  (.reg [o p16 (.p (.bin .i .add (.t p8) (.c (.int .i64 1)))),
  o p8 (.p (.mv (.t p16)))])))))))
  (.seq (.reg [o p17 (.p (.mv (.t p3))),
  o p2 (.p (.mv (.t p17)))])
  (.ret))))⟩
def c194 : CFunc := ⟨[.t p4], .seq (.reg [o p4 (.p (.mv (.c (.int .i64 0))))])
  (.seq (.reg [o p7 (.p (.mv (.t p0))),
  o p8 (.call 261 [(.t p7)]),
  o p5 (.p (.mv (.t p8)))])
  (.seq (.reg [o p9 (.p (.mv (.t p1))),
  o p10 (.call 261 [(.t p9)]),
  o p6 (.p (.mv (.t p10)))])
  (.seq (.seq (.reg [o p11 (.p (.mv (.t p5)))])
  (.cond (.t p11) (.seq (.seq (.reg [o p12 (.p (.mv (.t p6)))])
  (.cond (.t p12) (.seq (.reg [o p4 (.p (.mv (.c (.int .i64 0))))])
  (.ret))
  (.skip)))
  (.seq (.reg [o p4 (.p (.mv (.c (.int .i64 (-1)))))])
  (.ret)))
  (.skip)))
  (.seq (.seq (.reg [o p13 (.p (.mv (.t p6)))])
  (.cond (.t p13) (.seq (.reg [o p4 (.p (.mv (.c (.int .i64 1))))])
  (.ret))
  (.skip)))
  (.seq (.seq (.reg [o p14 (.p (.mv (.t p0))),
  o p15 (.p (.mv (.t p1))),
  o p16 (.p (.bin .i .lss (.t p14) (.t p15)))])
  (.cond (.t p16) (.seq (.reg [o p4 (.p (.mv (.c (.int .i64 (-1)))))])
  (.ret))
  (.skip)))
  (.seq (.seq (.reg [o p17 (.p (.mv (.t p0))),
  o p18 (.p (.mv (.t p1))),
  o p19 (.p (.bin .i .gtr (.t p17) (.t p18)))])
  (.cond (.t p19) (.seq (.reg [o p4 (.p (.mv (.c (.int .i64 1))))])
  (.ret))
  (.skip)))
  (.seq (.reg [o p4 (.p (.mv (.c (.int .i64 0))))])
  (.ret))))))))⟩
def c195 : CFunc := ⟨[.t p4], .seq (.reg [o p4 (.p (.mv (.c (.int .i64 0))))])
  (.seq (.reg [o p7 (.p (.mv (.t p0))),
  o p8 (.call 262 [(.t p7)]),
  o p5 (.p (.mv (.t p8)))])
  (.seq (.reg [o p9 (.p (.mv (.t p1))),
  o p10 (.call 262 [(.t p9)]),
  o p6 (.p (.mv (.t p10)))])
  (.seq (.seq (.reg [o p11 (.p (.mv (.t p5)))])
  (.cond (.t p11) (.seq (.seq (.reg [o p12 (.p (.mv (.t p6)))])
  (.cond (.t p12) (.seq (.reg [o p4 (.p (.mv (.c (.int .i64 0))))])
  (.ret))
  (.skip)))
  (.seq (.reg [o p4 (.p (.mv (.c (.int .i64 (-1)))))])
  (.ret)))
  (.skip)))
  (.seq (.seq (.reg [o p13 (.p (.mv (.t p6)))])
  (.cond (.t p13) (.seq (.reg [o p4 (.p (.mv (.c (.int .i64 1))))])
  (.ret))
  (.skip)))
  (.seq (.seq (.reg [o p14 (.p (.mv (.t p0))),
  o p15 (.p (.mv (.t p1))),
  o p16 (.p (.bin .s .lss (.t p14) (.t p15)))])
  (.cond (.t p16) (.seq (.reg [o p4 (.p (.mv (.c (.int .i64 (-1)))))])
  (.ret))
  (.skip)))
  (.seq (.seq (.reg [o p17 (.p (.mv (.t p0))),
  o p18 (.p (.mv (.t p1))),
  o p19 (.p (.bin .s .gtr (.t p17) (.t p18)))])
  (.cond (.t p19) (.seq (.reg [o p4 (.p (.mv (.c (.int .i64 1))))])
  (.ret))
  (.skip)))
  (.seq (.reg [o p4 (.p (.mv (.c (.int .i64 0))))])
  (.ret))))))))⟩
def c196 : CFunc := ⟨[.t p4, .t p5], .seq (.reg [o p4 (.p (.mv (.c (.string ⟨⟨[]⟩⟩)))),
  o p5 (.p (.mv (.c (.int .i64 0))))])
  (.seq (.reg [o p9 (.p (.mv (.t p0))),
  o p10 (.call 263 [(.t p9)]),
  o p8 (.p (.mv (.t p10))),
  o p11 (.p (.ext 0 (.t p8))),
  o p12 (.p (.ext 1 (.t p8))),
  o p6 (.p (.mv (.t p11))),
  o p7 (.p (.mv (.t p12)))])
  (.seq (.seq (.reg [o p13 (.p (.mv (.t p7))),
  o p14 (.p (.bin .i .neq (.t p13) (.c (.int .i64 0))))])
  (.cond (.t p14) (.seq (.reg [o p15 (.p (.mv (.t p7))),
  o p4 (.p (.mv (.c (.string ⟨⟨[]⟩⟩)))),
  o p5 (.p (.mv (.t p15)))])
  (.ret))
  (.skip)))
  (.seq (.reg [o p16 (.p (.mv (.t p6))),
  o p17 (.p (.mv (.t p1))),
  o p18 (.call 264 [(.t p17)]),
  o p19 (.call 250 [(.t p18)]),
  o p20 (.p (.bin .s .add (.t p16) (.t p19))),
  o p4 (.p (.mv (.t p20))),
  o p5 (.p (.mv (.c (.int .i64 0))))])
  (.ret))))⟩
def c197 : CFunc := ⟨[.cell p4 68 true, .t p5], .seq (.reg [o p2 (.a (.box 5 (.t p0))),
  o p4 (.a (.alc [(.int .u32 0), (.string ⟨⟨[]⟩⟩), (.int .u8 0), (.int .u8 0), (.int .u8 0), (.int .u8 0), (.int .u8 0), (.int .u8 0), (.int .u8 0), (.int .u8 0), (.int .u8 0), (.int .u8 0), (.int .u8 0), (.int .u8 0), (.int .u8 0), (.int .u8 0), (.int .u8 0), (.int .u8 0), (.int .u8 0), (.int .u8 0), (.int .u8 0), (.int .u8 0), (.int .u8 0), (.int .u8 0), (.int .u8 0), (.int .u8 0), (.int .u8 0), (.int .u8 0), (.int .u8 0), (.int .u8 0), (.int .u8 0), (.int .u8 0), (.int .u8 0), (.int .u8 0), (.int .u8 0), (.int .u8 0), (.int .u8 0), (.int .u8 0), (.int .u8 0), (.int .u8 0), (.int .u8 0), (.int .u8 0), (.int .u8 0), (.int .u8 0), (.int .u8 0), (.int .u8 0), (.int .u8 0), (.int .u8 0), (.int .u8 0), (.int .u8 0), (.int .u8 0), (.int .u8 0), (.int .u8 0), (.int .u8 0), (.int .u8 0), (.int .u8 0), (.int .u8 0), (.int .u8 0), (.int .u8 0), (.int .u8 0), (.int .u8 0), (.int .u8 0), (.int .u8 0), (.int .u8 0), (.int .u8 0), (.int .u8 0), (.slice none 0 0), (.slice none 0 0)])),
  o p5 (.p (.mv (.c (.bool false))))])
  (.seq (.reg [o p11 (.p (.mv (.t p1))),
  o p12 (.call 64 [(.t p11), (.c (.int .i64 26))]),
  o p10 (.p (.mv (.t p12))),
  o p13 (.p (.ext 0 (.t p10))),
  o p14 (.p (.ext 1 (.t p10))),
  o p6 (.a (.alc [(.int .u32 0), (.int .i64 0)])),
  n (.w (.st 2 (.t p6) (.t p13))),
  o p7 (.p (.mv (.t p14)))])
  (.seq (.seq (.reg [o p15 (.p (.fa 1 (.t p2))),
  o p16 (.r (.ld 1 false (.t p15))),
  o p17 (.p (.lenP false (.t p16))),
  o p18 (.p (.mv (.c (.int .i64 0))))])
  (.block 0 (.loop (.seq (.reg [o p19 (.p (.bin .i .lss (.t p18) (.t p17)))])
  (.seq (.cond (.t p19) (.skip)
  (.exit 0))
  (.seq (.block 1 (.seq (.reg [o p20 (.p (.iaL 68 (.t p16) (.t p18))),
  o p21 (.r (.ld 68 true (.t p20))),
  o p9 (.a (.alc [(.int .u32 0), (.string ⟨⟨[]⟩⟩), (.int .u8 0), (.int .u8 0), (.int .u8 0), (.int .u8 0), (.int .u8 0), (.int .u8 0), (.int .u8 0), (.int .u8 0), (.int .u8 0), (.int .u8 0), (.int .u8 0), (.int .u8 0), (.int .u8 0), (.int .u8 0), (.int .u8 0), (.int .u8 0), (.int .u8 0), (.int .u8 0), (.int .u8 0), (.int .u8 0), (.int .u8 0), (.int .u8 0), (.int .u8 0), (.int .u8 0), (.int .u8 0), (.int .u8 0), (.int .u8 0), (.int .u8 0), (.int .u8 0), (.int .u8 0), (.int .u8 0), (.int .u8 0), (.int .u8 0), (.int .u8 0), (.int .u8 0), (.int .u8 0), (.int .u8 0), (.int .u8 0), (.int .u8 0), (.int .u8 0), (.int .u8 0), (.int .u8 0), (.int .u8 0), (.int .u8 0), (.int .u8 0), (.int .u8 0), (.int .u8 0), (.int .u8 0), (.int .u8 0), (.int .u8 0), (.int .u8 0), (.int .u8 0), (.int .u8 0), (.int .u8 0), (.int .u8 0), (.int .u8 0), (.int .u8 0), (.int .u8 0), (.int .u8 0), (.int .u8 0), (.int .u8 0), (.int .u8 0), (.int .u8 0), (.int .u8 0), (.slice none 0 0), (.slice none 0 0)])),
  n (.w (.st 68 (.t p9) (.t p21)))])
  (.seq (.reg [o p22 (.p (.fa 0 (.t p9))),
  o p23 (.r (.ld 1 false (.t p22))),
  o p24 (.p (.fa 0 (.t p6))),
  o p25 (.r (.ld 1 false (.t p24))),
  o p26 (.p (.bin .i .eql (.t p23) (.t p25)))])
  (.cond (.t p26) (.seq (.reg [o p27 (.r (.ld 68 true (.t p9))),
  n (.w (.st 68 (.t p4) (.t p27))),
  o p5 (.p (.mv (.c (.bool true))))])
  (.ret))
  (.skip)))))
  (.reg [o p28 (.p (.bin .i .add (.t p18) (.c (.int .i64 1)))),
  o p18 (.p (.mv (.t p28)))])))))))
  (.seq (.reg [o p29 (.p (.bld [(.int .u32 0), (.string ⟨⟨[]⟩⟩), (.int .u8 0), (.int .u8 0), (.int .u8 0), (.int .u8 0), (.int .u8 0), (.int .u8 0), (.int .u8 0), (.int .u8 0), (.int .u8 0), (.int .u8 0), (.int .u8 0), (.int .u8 0), (.int .u8 0), (.int .u8 0), (.int .u8 0), (.int .u8 0), (.int .u8 0), (.int .u8 0), (.int .u8 0), (.int .u8 0), (.int .u8 0), (.int .u8 0), (.int .u8 0), (.int .u8 0), (.int .u8 0), (.int .u8 0), (.int .u8 0), (.int .u8 0), (.int .u8 0), (.int .u8 0), (.int .u8 0), (.int .u8 0), (.int .u8 0), (.int .u8 0), (.int .u8 0), (.int .u8 0), (.int .u8 0), (.int .u8 0), (.int .u8 0), (.int .u8 0), (.int .u8 0), (.int .u8 0), (.int .u8 0), (.int .u8 0), (.int .u8 0), (.int .u8 0), (.int .u8 0), (.int .u8 0), (.int .u8 0), (.int .u8 0), (.int .u8 0), (.int .u8 0), (.int .u8 0), (.int .u8 0), (.int .u8 0), (.int .u8 0), (.int .u8 0), (.int .u8 0), (.int .u8 0), (.int .u8 0), (.int .u8 0), (.int .u8 0), (.int .u8 0), (.int .u8 0), (.slice none 0 0), (.slice none 0 0)] [])),
  n (.w (.st 68 (.t p4) (.t p29))),
  o p5 (.p (.mv (.c (.bool false))))])
  (.ret))))⟩
def c198 : CFunc := ⟨[], .seq (.reg [o p8 (.p (.mv (.t p1))),
  o p9 (.p (.mv (.t p8))),
  g (some p10) p9 true (.p (.mv (.t p2))),
  g (some p11) p9 true (.p (.bin .i .lss (.t p10) (.c (.int .i64 8)))),
  g (some p12) p9 true (.p (.mv (.t p11))),
  g (some p13) p12 false (.p (.mv (.t p0))),
  g (some p14) p12 false (.p (.nck (.t p13))),
  g (some p15) p12 false (.p (.fa 5 (.t p14))),
  g (some p16) p12 false (.r (.ld 1 false (.t p15))),
  g (some p17) p9 true (.p (.pick (.t p12) (.c (.bool true)) (.t p16))),
  o p18 (.p (.pick (.t p9) (.t p17) (.c (.bool false))))])
  (.cond (.t p18) (.reg [o p19 (.p (.mv (.t p0))),
  o p20 (.p (.mv (.t p0))),
  o p21 (.p (.nck (.t p20))),
  o p22 (.p (.fa 6 (.t p21))),
  o p23 (.r (.ld 1 false (.t p22))),
  o p24 (.p (.mv (.t p2))),
  o p25 (.p (.mv (.t p3))),
  o p26 (.p (.bld [(.int .i64 0), (.string ⟨⟨[]⟩⟩)] [(0, 1, (.t p24)), (1, 1, (.t p25))])),
  o p27 (.a (.bsl 2 1 [(.int .i64 0), (.string ⟨⟨[]⟩⟩)] [(0, 2, (.t p26))])),
  o p28 (.w (.app 2 24 (.t p23) (.t p27))),
  o p29 (.p (.nck (.t p19))),
  o p30 (.p (.fa 6 (.t p29))),
  n (.w (.st 1 (.t p30) (.t p28)))])
  (.skip))⟩
def c199 : CFunc := ⟨[.t p2], .seq (.reg [o p2 (.p (.mv (.c (.string ⟨⟨[]⟩⟩))))])
  (.seq (.reg [o p3 (.p (.mv (.t p0))),
  o p4 (.call 264 [(.t p3)]),
  o p5 (.call 250 [(.t p4)]),
  o p6 (.p (.bin .s .add (.c (.string ⟨⟨[98, 108, 111, 99, 107, 47]⟩⟩)) (.t p5))),
  o p2 (.p (.mv (.t p6)))])
  (.ret))⟩
def c200 : CFunc := ⟨[.cell p4 3 true, .t p5], .seq (.reg [o p2 (.a (.box 5 (.t p0))),
  o p4 (.a (.alc [(.int .u32 0), (.int .i64 0), (.bool false)])),
  o p5 (.p (.mv (.c (.bool false))))])
  (.seq (.seq (.reg [o p8 (.p (.fa 0 (.t p2))),
  o p9 (.r (.ld 1 false (.t p8))),
  o p10 (.p (.lenP false (.t p9))),
  o p11 (.p (.mv (.c (.int .i64 0))))])
  (.block 0 (.loop (.seq (.reg [o p12 (.p (.bin .i .lss (.t p11) (.t p10)))])
  (.seq (.cond (.t p12) (.skip)
  (.exit 0))
  (.seq (.block 1 (.seq (.reg [o p13 (.p (.iaL 3 (.t p9) (.t p11))),
  o p14 (.r (.ld 3 true (.t p13))),
  o p7 (.a (.alc [(.int .u32 0), (.int .i64 0), (.bool false)])),
  n (.w (.st 3 (.t p7) (.t p14)))])
  (.seq (.reg [o p15 (.p (.fa 0 (.t p7))),
  o p16 (.r (.ld 2 true (.t p15))),
  o p17 (.p (.mv (.t p1))),
  o p18 (.call 174 [(.t p16), (.t p17)])])
  (.cond (.t p18) (.seq (.reg [o p19 (.r (.ld 3 true (.t p7))),
  n (.w (.st 3 (.t p4) (.t p19))),
  o p5 (.p (.mv (.c (.bool true))))])
  (.ret))
  (.skip)))))
  (.reg [o p20 (.p (.bin .i .add (.t p11) (.c (.int .i64 1)))),
  o p11 (.p (.mv (.t p20)))])))))))
  (.seq (.reg [o p21 (.p (.bld [(.int .u32 0), (.int .i64 0), (.bool false)] [])),
  n (.w (.st 3 (.t p4) (.t p21))),
  o p5 (.p (.mv (.c (.bool false))))])
  (.ret)))⟩
def c201 : CFunc := ⟨[.t p4], .seq (.reg [o p4 (.p (.mv (.c (.int .i64 0))))])
  (.seq (.reg [o p5 (.p (.mv (.c (.int .i64 0))))])
  (.seq (.seq (.reg [o p8 (.p (.mv (.t p0))),
  o p9 (.p (.nck (.t p8))),
  o p10 (.p (.fa 0 (.t p9))),
  o p11 (.p (.fa 2 (.t p10))),
  o p12 (.r (.ld 1 false (.t p11))),
  o p13 (.w (.rgM (.t p12)))])
  (.block 0 (.loop (.seq (.reg [o p14 (.nxM (.t p13)),
  o p15 (.p (.ext 0 (.t p14)))])
  (.seq (.cond (.t p15) (.skip)
  (.exit 0))
  (.block 1 (.seq (.reg [o p16 (.r (.ent (.t p13))),
  o p17 (.p (.ext 0 (.t p16))),
  o p18 (.p (.ext 1 (.t p16))),
  o p6 (.a (.alc [(.string ⟨⟨[]⟩⟩), (.int .u32 0)])),
  n (.w (.st 2 (.t p6) (.t p17))),
  o p7 (.p (.mv (.t p18)))])
  (.seq (.reg [o p19 (.p (.fa 1 (.t p6))),
  o p20 (.r (.ld 1 false (.t p19))),
  o p21 (.p (.mv (.t p1))),
  o p22 (.p (.bin .i .eql (.t p20) (.t p21))),
  o p23 (.p (.mv (.t p22))),
  g (some p24) p23 true (.p (.mv (.t p7))),
  g (some p25) p23 true (.p (.bin .i .eql (.t p24) (.c (.int .i64 2)))),
  o p26 (.p (.pick (.t p23) (.t p25) (.c (.bool false))))])
  (.cond (.t p26) (.reg [o p27 (.p (.mv (.t p5))),
  o p28 (.p (.bin .i .add (.t p27) (.c (.int .i64 1)))),
  o p5 (.p (.mv (.t p28)))])
  (.skip))))))))))
  (.seq (.reg [o p29 (.p (.mv (.t p5))),
  o p4 (.p (.mv (.t p29)))])
  (.ret))))⟩
def c202 : CFunc := ⟨[.t p2], .seq (.reg [o p1 (.a (.box 68 (.t p0))),
  o p2 (.p (.mv (.c (.bool false))))])
  (.seq (.reg [o p3 (.r (.ld 68 true (.t p1))),
  o p4 (.call 144 [(.t p3)]),
  o p5 (.p (.mv (.t p4))),
  g (some p6) p5 true (.p (.fa 66 (.t p1))),
  g (some p7) p5 true (.r (.ld 1 false (.t p6))),
  g (some p8) p5 true (.p (.lenP false (.t p7))),
  g (some p9) p5 true (.p (.bin .i .eql (.t p8) (.c (.int .i64 64)))),
  o p10 (.p (.pick (.t p5) (.t p9) (.c (.bool false)))),
  o p2 (.p (.mv (.t p10)))])
  (.ret))⟩
def c203 : CFunc := ⟨[.t p4], .seq (.reg [o p2 (.a (.box 1 (.t p0))),
  o p3 (.a (.box 68 (.t p1))),
  o p4 (.p (.mv (.c (.bool false))))])
  (.seq (.reg [o p5 (.p (.fa 67 (.t p3))),
  o p6 (.r (.ld 1 false (.t p5))),
  o p7 (.p (.mkf 266 [] [(.t p2)])),
  o p8 (.call 265 [(.t p6), (.t p7)]),
  o p4 (.p (.mv (.t p8)))])
  (.ret))⟩
def c204 : CFunc := ⟨[.t p4], .seq (.reg [o p2 (.a (.box 2 (.t p0))),
  o p3 (.a (.box 2 (.t p1))),
  o p4 (.p (.mv (.c (.bool false))))])
  (.seq (.reg [o p5 (.r (.ld 2 true (.t p2))),
  o p6 (.r (.ld 2 true (.t p3))),
  o p7 (.call 267 [(.t p5), (.t p6)]),
  o p8 (.p (.mv (.t p7))),
  g (some p9) p8 false (.r (.ld 2 true (.t p3))),
  g (some p10) p8 false (.r (.ld 2 true (.t p2))),
  g (some p11) p8 false (.call 267 [(.t p9), (.t p10)]),
  o p12 (.p (.pick (.t p8) (.c (.bool true)) (.t p11))),
  o p4 (.p (.mv (.t p12)))])
  (.ret))⟩
def c205 : CFunc := ⟨[.t p2], .seq (.reg [o p2 (.p (.mv (.c (.map none))))])
  (.seq (.reg [o p10 (.a (.mkm)),
  o p3 (.p (.mv (.t p10)))])
  (.seq (.seq (.reg [o p11 (.p (.mv (.t p0))),
  o p12 (.p (.nck (.t p11))),
  o p13 (.p (.fa 0 (.t p12))),
  o p14 (.p (.fa 1 (.t p13))),
  o p15 (.r (.ld 1 false (.t p14))),
  o p16 (.p (.lenP false (.t p15))),
  o p17 (.p (.mv (.c (.int .i64 0))))])
  (.block 0 (.loop (.seq (.reg [o p18 (.p (.bin .i .lss (.t p17) (.t p16)))])
  (.seq (.cond (.t p18) (.skip)
  (.exit 0))
  (.seq (.block 1 (.seq (.reg [o p19 (.p (.iaL 68 (.t p15) (.t p17))),
  o p20 (.r (.ld 68 true (.t p19))),
  o p5 (.a (.alc [(.int .u32 0), (.string ⟨⟨[]⟩⟩), (.int .u8 0), (.int .u8 0), (.int .u8 0), (.int .u8 0), (.int .u8 0), (.int .u8 0), (.int .u8 0), (.int .u8 0), (.int .u8 0), (.int .u8 0), (.int .u8 0), (.int .u8 0), (.int .u8 0), (.int .u8 0), (.int .u8 0), (.int .u8 0), (.int .u8 0), (.int .u8 0), (.int .u8 0), (.int .u8 0), (.int .u8 0), (.int .u8 0), (.int .u8 0), (.int .u8 0), (.int .u8 0), (.int .u8 0), (.int .u8 0), (.int .u8 0), (.int .u8 0), (.int .u8 0), (.int .u8 0), (.int .u8 0), (.int .u8 0), (.int .u8 0), (.int .u8 0), (.int .u8 0), (.int .u8 0), (.int .u8 0), (.int .u8 0), (.int .u8 0), (.int .u8 0), (.int .u8 0), (.int .u8 0), (.int .u8 0), (.int .u8 0), (.int .u8 0), (.int .u8 0), (.int .u8 0), (.int .u8 0), (.int .u8 0), (.int .u8 0), (.int .u8 0), (.int .u8 0), (.int .u8 0), (.int .u8 0), (.int .u8 0), (.int .u8 0), (.int .u8 0), (.int .u8 0), (.int .u8 0), (.int .u8 0), (.int .u8 0), (.int .u8 0), (.int .u8 0), (.slice none 0 0), (.slice none 0 0)])),
  n (.w (.st 68 (.t p5) (.t p20)))])
  (.seq (.reg [o p21 (.r (.ld 68 true (.t p5))),
  o p22 (.call 268 [(.t p21)]),
  o p23 (.w (.rgM (.t p22)))])
  (.block 2 (.loop (.seq (.reg [o p24 (.nxM (.t p23)),
  o p25 (.p (.ext 0 (.t p24)))])
  (.seq (.cond (.t p25) (.skip)
  (.exit 2))
  (.block 3 (.seq (.reg [o p26 (.r (.ent (.t p23))),
  o p27 (.p (.ext 0 (.t p26))),
  o p28 (.p (.ext 1 (.t p26))),
  o p6 (.a (.alc [(.string ⟨⟨[]⟩⟩), (.string ⟨⟨[]⟩⟩)])),
  n (.w (.st 2 (.t p6) (.t p27))),
  o p7 (.p (.mv (.t p28)))])
  (.seq (.reg [o p30 (.p (.mv (.t p3))),
  o p31 (.p (.fa 0 (.t p6))),
  o p32 (.r (.ld 1 false (.t p31))),
  o p33 (.r (.look (.agg ⟨[(.slice none 0 0)]⟩) false (.one 1) (.t p30) (.t p32))),
  o p34 (.p (.fa 0 (.t p5))),
  o p35 (.r (.ld 1 false (.t p34))),
  o p36 (.p (.mv (.t p7))),
  o p37 (.call 269 [(.t p33), (.t p35), (.t p36)]),
  o p29 (.p (.mv (.t p37))),
  o p38 (.p (.ext 0 (.t p29))),
  o p39 (.p (.ext 1 (.t p29))),
  o p8 (.a (.alc [(.slice none 0 0)])),
  n (.w (.st 1 (.t p8) (.t p38))),
  o p9 (.p (.mv (.t p39)))])
  (.reg [o p40 (.p (.mv (.t p3))),
  o p41 (.p (.fa 0 (.t p6))),
  o p42 (.r (.ld 1 false (.t p41))),
  o p43 (.r (.ld 1 true (.t p8))),
  n (.w (.mup (.one 1) (.t p40) (.t p42) (.t p43)))])))))))))))
  (.reg [o p44 (.p (.bin .i .add (.t p17) (.c (.int .i64 1)))),
  o p17 (.p (.mv (.t p44)))])))))))
  (.seq (.reg [o p45 (.p (.mv (.t p3))),
  o p2 (.p (.mv (.t p45)))])
  (.ret))))⟩
def c206 : CFunc := ⟨[.t p2, .t p3], .seq (.reg [o p2 (.p (.mv (.c (.string ⟨⟨[]⟩⟩)))),
  o p3 (.p (.mv (.c (.int .i64 0))))])
  (.seq (.reg [o p4 (.p (.mv (.t p0))),
  o p5 (.call 175 [(.c (.string ⟨⟨[104, 97, 110, 100, 108, 101, 47]⟩⟩)), (.t p4)]),
  o p6 (.p (.ext 0 (.t p5))),
  o p7 (.p (.ext 1 (.t p5))),
  o p2 (.p (.mv (.t p6))),
  o p3 (.p (.mv (.t p7)))])
  (.ret))⟩
def c207 : CFunc := ⟨[.t p4], .seq (.reg [o p2 (.a (.box 1 (.t p0))),
  o p3 (.a (.box 1 (.t p1))),
  o p4 (.p (.mv (.c (.bool false))))])
  (.seq (.reg [o p5 (.p (.fa 0 (.t p2))),
  o p6 (.r (.ld 1 false (.t p5))),
  o p7 (.p (.mkf 271 [] [(.t p3)])),
  o p8 (.call 270 [(.t p6), (.t p7)]),
  o p4 (.p (.mv (.t p8)))])
  (.ret))⟩
def c211 : CFunc := ⟨[.t p4, .t p5], .seq (.reg [o p4 (.p (.mv (.c (.string ⟨⟨[]⟩⟩)))),
  o p5 (.p (.mv (.c (.bool false))))])
  (.seq (.reg [o p6 (.p (.mv (.t p0))),
  o p7 (.p (.mv (.t p1))),
  o p8 (.call 275 [(.t p6), (.t p7)]),
  o p9 (.p (.ext 0 (.t p8))),
  o p10 (.p (.ext 1 (.t p8))),
  o p4 (.p (.mv (.t p9))),
  o p5 (.p (.mv (.t p10)))])
  (.ret))⟩
def c212 : CFunc := ⟨[.cell p2 2 true, .t p3], .seq (.reg [o p2 (.a (.alc [(.int .u32 0), (.int .i64 0)])),
  o p3 (.p (.mv (.c (.bool false))))])
  (.seq (.reg [o p10 (.p (.mv (.t p0))),
  o p11 (.call 220 [(.t p10), (.c (.string ⟨⟨[45]⟩⟩))]),
  o p9 (.p (.mv (.t p11))),
  o p12 (.p (.ext 0 (.t p9))),
  o p13 (.p (.ext 1 (.t p9))),
  o p14 (.p (.ext 2 (.t p9))),
  o p4 (.p (.mv (.t p12))),
  o p5 (.p (.mv (.t p13))),
  o p6 (.p (.mv (.t p14)))])
  (.seq (.reg [o p16 (.p (.mv (.t p4))),
  o p17 (.p (.bin .s .add (.t p16) (.c (.string ⟨⟨[47]⟩⟩)))),
  o p18 (.p (.mv (.t p5))),
  o p19 (.p (.bin .s .add (.t p17) (.t p18))),
  o p20 (.call 276 [(.t p19)]),
  o p15 (.p (.mv (.t p20))),
  o p21 (.p (.ext 0 (.t p15))),
  o p22 (.p (.ext 1 (.t p15))),
  o p7 (.a (.alc [(.int .u32 0), (.int .i64 0)])),
  n (.w (.st 2 (.t p7) (.t p21))),
  o p8 (.p (.mv (.t p22)))])
  (.seq (.seq (.reg [o p23 (.p (.mv (.t p8))),
  o p24 (.p (.bin .i .neq (.t p23) (.c (.int .i64 0)))),
  o p25 (.p (.mv (.t p24))),
  g (some p26) p25 false (.r (.ld 2 true (.t p7))),
  g (some p27) p25 false (.call 250 [(.t p26)]),
  g (some p28) p25 false (.p (.mv (.t p0))),
  g (some p29) p25 false (.p (.bin .s .neq (.t p27) (.t p28))),
  o p30 (.p (.pick (.t p25) (.c (.bool true)) (.t p29)))])
  (.cond (.t p30) (.seq (.reg [o p31 (.p (.bld [(.int .u32 0), (.int .i64 0)] [])),
  n (.w (.st 2 (.t p2) (.t p31))),
  o p3 (.p (.mv (.c (.bool false))))])
  (.ret))
  (.skip)))
  (.seq (.reg [o p32 (.r (.ld 2 true (.t p7))),
  n (.w (.st 2 (.t p2) (.t p32))),
  o p3 (.p (.mv (.c (.bool true))))])
  (.ret)))))⟩
def c213 : CFunc := ⟨[.t p2], .seq (.reg [o p2 (.p (.mv (.c (.pointer none))))])
  (.seq (.reg [o p3 (.p (.mv (.t p0))),
  o p4 (.call 251 [(.t p3)]),
  o p5 (.p (.bld [(.slice none 0 0), (.bool false)] [(0, 1, (.t p4))])),
  o p6 (.a (.box 2 (.t p5))),
  o p2 (.p (.mv (.t p6)))])
  (.ret))⟩
def c214 : CFunc := ⟨[.t p4], .seq (.reg [o p4 (.p (.mv (.c (.int .u64 0))))])
  (.seq (.seq (.reg [o p8 (.p (.mv (.t p1))),
  o p9 (.p (.bin .i .lss (.t p8) (.c (.int .i64 1)))),
  o p10 (.p (.mv (.t p9))),
  g (some p11) p10 false (.p (.mv (.t p1))),
  g (some p12) p10 false (.p (.bin .i .gtr (.t p11) (.c (.int .i64 8)))),
  o p13 (.p (.pick (.t p10) (.c (.bool true)) (.t p12)))])
  (.cond (.t p13) (.seq (.reg [o p14 (.p (.mv (.t p0))),
  o p15 (.call 277 [(.t p14)])])
  (.seq (.reg [o p4 (.p (.mv (.c (.int .u64 0))))])
  (.ret)))
  (.skip)))
  (.seq (.reg [o p5 (.p (.mv (.c (.int .u64 0))))])
  (.seq (.seq (.reg [o p16 (.p (.mv (.t p0))),
  o p17 (.p (.mv (.t p1))),
  o p18 (.call 219 [(.t p16), (.t p17)]),
  o p19 (.p (.lenP false (.t p18))),
  o p20 (.p (.mv (.c (.int .i64 0))))])
  (.block 0 (.loop (.seq (.reg [o p21 (.p (.bin .i .lss (.t p20) (.t p19)))])
  (.seq (.cond (.t p21) (.skip)
  (.exit 0))
  (.seq (.block 1 (.seq (.reg [o p22 (.p (.iaL 1 (.t p18) (.t p20))),
  o p23 (.r (.ld 1 false (.t p22))),
  o p7 (.p (.mv (.t p23)))])
  (.reg [o p24 (.p (.mv (.t p5))),
  o p25 (.p (.bin .i .shl (.t p24) (.c (.int .u64 8)))),
  o p26 (.p (.mv (.t p7))),
  o p27 (.p (.conv .u64 (.t p26))),
  o p28 (.p (.bin .i .or (.t p25) (.t p27))),
  o p5 (.p (.mv (.t p28)))])))
  (.reg [o p29 (.p (.bin .i .add (.t p20) (.c (.int .i64 1)))),
  o p20 (.p (.mv (.t p29)))])))))))
  (.seq (.reg [o p30 (.p (.mv (.t p5))),
  o p4 (.p (.mv (.t p30)))])
  (.ret)))))⟩
def c215 : CFunc := ⟨[.t p2], .seq (.reg [o p2 (.p (.mv (.c (.bool false))))])
  (.seq (.reg [o p3 (.p (.mv (.t p0))),
  o p4 (.call 223 [(.t p3)]),
  o p5 (.p (.un .not (.t p4))),
  o p6 (.p (.mv (.t p5))),
  g (some p7) p6 true (.p (.mv (.t p0))),
  g (some p8) p6 true (.p (.nck (.t p7))),
  g (some p9) p6 true (.p (.fa 0 (.t p8))),
  g (some p10) p6 true (.r (.ld 1 false (.t p9))),
  g (some p11) p6 true (.p (.lenP false (.t p10))),
  g (some p12) p6 true (.p (.bin .i .eql (.t p11) (.c (.int .i64 0)))),
  o p13 (.p (.pick (.t p6) (.t p12) (.c (.bool false)))),
  o p2 (.p (.mv (.t p13)))])
  (.ret))⟩
def c216 : CFunc := ⟨[.t p2, .t p3], .seq (.reg [o p2 (.p (.mv (.c (.int .u32 0)))),
  o p3 (.p (.mv (.c (.bool false))))])
  (.seq (.reg [o p7 (.p (.mv (.t p0))),
  o p8 (.call 212 [(.t p7)]),
  o p6 (.p (.mv (.t p8))),
  o p9 (.p (.ext 0 (.t p6))),
  o p10 (.p (.ext 1 (.t p6))),
  o p4 (.a (.alc [(.int .u32 0), (.int .i64 0)])),
  n (.w (.st 2 (.t p4) (.t p9))),
  o p5 (.p (.mv (.t p10)))])
  (.seq (.seq (.reg [o p11 (.p (.mv (.t p5))),
  o p12 (.p (.un .not (.t p11))),
  o p13 (.p (.mv (.t p12))),
  g (some p14) p13 false (.p (.fa 1 (.t p4))),
  g (some p15) p13 false (.r (.ld 1 false (.t p14))),
  g (some p16) p13 false (.p (.bin .i .neq (.t p15) (.c (.int .i64 26)))),
  o p17 (.p (.pick (.t p13) (.c (.bool true)) (.t p16)))])
  (.cond (.t p17) (.seq (.reg [o p2 (.p (.mv (.c (.int .u32 0)))),
  o p3 (.p (.mv (.c (.bool false))))])
  (.ret))
  (.skip)))
  (.seq (.reg [o p18 (.p (.fa 0 (.t p4))),
  o p19 (.r (.ld 1 false (.t p18))),
  o p2 (.p (.mv (.t p19))),
  o p3 (.p (.mv (.c (.bool true))))])
  (.ret))))⟩
def c217 : CFunc := ⟨[.t p2], .seq (.reg [o p2 (.p (.mv (.c (.string ⟨⟨[]⟩⟩))))])
  (.seq (.reg [o p4 (.p (.mv (.t p0))),
  o p5 (.call 214 [(.t p4), (.c (.int .i64 1))]),
  o p6 (.p (.conv .i64 (.t p5))),
  o p3 (.p (.mv (.t p6)))])
  (.seq (.seq (.reg [o p7 (.p (.mv (.t p3))),
  o p8 (.p (.bin .i .gtr (.t p7) (.c (.int .i64 64))))])
  (.cond (.t p8) (.reg [o p9 (.p (.mv (.t p0))),
  o p10 (.call 277 [(.t p9)])])
  (.skip)))
  (.seq (.reg [o p11 (.p (.mv (.t p0))),
  o p12 (.p (.mv (.t p3))),
  o p13 (.call 219 [(.t p11), (.t p12)]),
  o p14 (.r (.b2s (.t p13))),
  o p2 (.p (.mv (.t p14)))])
  (.ret))))⟩
def c218 : CFunc := ⟨[.t p2], .seq (.reg [o p2 (.p (.mv (.c (.slice none 0 0))))])
  (.seq (.reg [o p3 (.p (.mv (.c (.slice none 0 0))))])
  (.seq (.seq (.reg [o p6 (.p (.mv (.t p0))),
  o p7 (.call 214 [(.t p6), (.c (.int .i64 1))]),
  o p4 (.p (.mv (.t p7)))])
  (.block 0 (.loop (.seq (.seq (.reg [o p8 (.p (.mv (.t p4))),
  o p9 (.p (.bin .i .gtr (.t p8) (.c (.int .u64 0)))),
  o p10 (.p (.mv (.t p9))),
  g (some p11) p10 true (.p (.mv (.t p0))),
  g (some p12) p10 true (.call 223 [(.t p11)]),
  g (some p13) p10 true (.p (.un .not (.t p12))),
  o p14 (.p (.pick (.t p10) (.t p13) (.c (.bool false))))])
  (.cond (.t p14) (.skip)
  (.exit 0)))
  (.seq (.block 1 (.seq (.reg [o p17 (.p (.mv (.t p0))),
  o p18 (.call 217 [(.t p17)]),
  o p19 (.p (.bld [(.string ⟨⟨[]⟩⟩), (.string ⟨⟨[]⟩⟩)] [(0, 1, (.t p18))])),
  o p5 (.a (.alc [(.string ⟨⟨[]⟩⟩), (.string ⟨⟨[]⟩⟩)])),
  n (.w (.st 2 (.t p5) (.t p19)))])
  (.seq (.reg [o p20 (.p (.mv (.t p0))),
  o p21 (.call 217 [(.t p20)]),
  o p22 (.p (.fa 1 (.t p5))),
  n (.w (.st 1 (.t p22) (.t p21)))])
  (.reg [o p23 (.p (.mv (.t p3))),
  o p24 (.r (.ld 2 true (.t p5))),
  o p25 (.a (.bsl 2 1 [(.string ⟨⟨[]⟩⟩), (.string ⟨⟨[]⟩⟩)] [(0, 2, (.t p24))])),
  o p26 (.w (.app 2 32 (.t p23) (.t p25))),
  o p3 (.p (.mv (.t p26)))]))))
  (.reg [o p15 (.p (.mv (.t p4))),
  o p16 (.p (.bin .i .sub (.t p15) (.c (.int .u64 1)))),
  o p4 (.p (.mv (.t p16)))]))))))
  (.seq (.reg [o p27 (.p (.mv (.t p3))),
  o p2 (.p (.mv (.t p27)))])
  (.ret))))⟩
def c219 : CFunc := ⟨[.t p4], .seq (.reg [o p4 (.p (.mv (.c (.slice none 0 0))))])
  (.seq (.seq (.reg [o p6 (.p (.mv (.t p0))),
  o p7 (.call 223 [(.t p6)]),
  o p8 (.p (.mv (.t p7))),
  g (some p9) p8 false (.p (.mv (.t p1))),
  g (some p10) p8 false (.p (.bin .i .lss (.t p9) (.c (.int .i64 0)))),
  o p11 (.p (.pick (.t p8) (.c (.bool true)) (.t p10))),
  o p12 (.p (.mv (.t p11))),
  g (some p13) p12 false (.p (.mv (.t p1))),
  g (some p14) p12 false (.p (.mv (.t p0))),
  g (some p15) p12 false (.p (.nck (.t p14))),
  g (some p16) p12 false (.p (.fa 0 (.t p15))),
  g (some p17) p12 false (.r (.ld 1 false (.t p16))),
  g (some p18) p12 false (.p (.lenP false (.t p17))),
  g (some p19) p12 false (.p (.bin .i .gtr (.t p13) (.t p18))),
  o p20 (.p (.pick (.t p12) (.c (.bool true)) (.t p19)))])
  (.cond (.t p20) (.seq (.reg [o p21 (.p (.mv (.t p0))),
  o p22 (.call 277 [(.t p21)])])
  (.seq (.reg [o p4 (.p (.mv (.c (.slice none 0 0))))])
  (.ret)))
  (.skip)))
  (.seq (.reg [o p23 (.p (.mv (.t p0))),
  o p24 (.p (.nck (.t p23))),
  o p25 (.p (.fa 0 (.t p24))),
  o p26 (.r (.ld 1 false (.t p25))),
  o p27 (.p (.mv (.t p1))),
  o p28 (.p (.mv (.t p1))),
  o p29 (.r (.slL 1 (.t p26) none (some (.t p27)) (some (.t p28)))),
  o p5 (.p (.mv (.t p29)))])
  (.seq (.reg [o p30 (.p (.mv (.t p0))),
  o p31 (.p (.mv (.t p0))),
  o p32 (.p (.nck (.t p31))),
  o p33 (.p (.fa 0 (.t p32))),
  o p34 (.r (.ld 1 false (.t p33))),
  o p35 (.p (.mv (.t p1))),
  o p36 (.r (.slL 1 (.t p34) (some (.t p35)) none none)),
  o p37 (.p (.nck (.t p30))),
  o p38 (.p (.fa 0 (.t p37))),
  n (.w (.st 1 (.t p38) (.t p36)))])
  (.seq (.reg [o p39 (.p (.mv (.t p5))),
  o p4 (.p (.mv (.t p39)))])
  (.ret)))))⟩
def c220 : CFunc := ⟨[.t p4, .t p5, .t p6], .seq (.reg [o p4 (.p (.mv (.c (.string ⟨⟨[]⟩⟩)))),
  o p5 (.p (.mv (.c (.string ⟨⟨[]⟩⟩)))),
  o p6 (.p (.mv (.c (.bool false))))])
  (.seq (.reg [o p7 (.p (.mv (.t p0))),
  o p8 (.p (.mv (.t p1))),
  o p9 (.call 278 [(.t p7), (.t p8)]),
  o p10 (.p (.ext 0 (.t p9))),
  o p11 (.p (.ext 1 (.t p9))),
  o p12 (.p (.ext 2 (.t p9))),
  o p4 (.p (.mv (.t p10))),
  o p5 (.p (.mv (.t p11))),
  o p6 (.p (.mv (.t p12)))])
  (.ret))⟩
def c221 : CFunc := ⟨[.t p2], .seq (.reg [o p2 (.p (.mv (.c (.bool false))))])
  (.seq (.seq (.reg [o p5 (.p (.mv (.t p0))),
  o p6 (.a (.rgS (.t p5)))])
  (.block 0 (.loop (.seq (.reg [o p7 (.w (.nxS (.t p6))),
  o p8 (.p (.ext 0 (.t p7)))])
  (.seq (.cond (.t p8) (.skip)
  (.exit 0))
  (.block 1 (.seq (.reg [o p9 (.p (.ext 2 (.t p7))),
  o p4 (.p (.mv (.t p9)))])
  (.seq (.reg [o p10 (.p (.mv (.t p4))),
  o p11 (.call 279 [(.t p10)]),
  o p12 (.p (.un .not (.t p11)))])
  (.cond (.t p12) (.seq (.reg [o p2 (.p (.mv (.c (.bool false))))])
  (.ret))
  (.skip))))))))))
  (.seq (.reg [o p13 (.p (.mv (.t p0))),
  o p14 (.p (.bin .s .neq (.t p13) (.c (.string ⟨⟨[]⟩⟩)))),
  o p15 (.p (.mv (.t p14))),
  g (some p16) p15 true (.p (.mv (.t p0))),
  g (some p17) p15 true (.p (.lenP true (.t p16))),
  g (some p18) p15 true (.p (.bin .i .leq (.t p17) (.c (.int .i64 64)))),
  o p19 (.p (.pick (.t p15) (.t p18) (.c (.bool false)))),
  o p2 (.p (.mv (.t p19)))])
  (.ret)))⟩
def c222 : CFunc := ⟨[.t p4, .t p5], .seq (.reg [o p4 (.p (.mv (.c (.string ⟨⟨[]⟩⟩)))),
  o p5 (.p (.mv (.c (.bool false))))])
  (.seq (.reg [o p9 (.p (.mv (.t p0))),
  o p10 (.p (.mv (.t p1))),
  o p11 (.call 211 [(.t p9), (.t p10)]),
  o p8 (.p (.mv (.t p11))),
  o p12 (.p (.ext 0 (.t p8))),
  o p13 (.p (.ext 1 (.t p8))),
  o p6 (.p (.mv (.t p12))),
  o p7 (.p (.mv (.t p13)))])
  (.seq (.seq (.reg [o p14 (.p (.mv (.t p7))),
  o p15 (.p (.un .not (.t p14))),
  o p16 (.p (.mv (.t p15))),
  g (some p17) p16 false (.p (.mv (.t p6))),
  g (some p18) p16 false (.call 221 [(.t p17)]),
  g (some p19) p16 false (.p (.un .not (.t p18))),
  o p20 (.p (.pick (.t p16) (.c (.bool true)) (.t p19)))])
  (.cond (.t p20) (.seq (.reg [o p4 (.p (.mv (.c (.string ⟨⟨[]⟩⟩)))),
  o p5 (.p (.mv (.c (.bool false))))])
  (.ret))
  (.skip)))
  (.seq (.reg [o p21 (.p (.mv (.t p6))),
  o p4 (.p (.mv (.t p21))),
  o p5 (.p (.mv (.c (.bool true))))])
  (.ret))))⟩
def c223 : CFunc := ⟨[.t p2], .seq (.reg [o p2 (.p (.mv (.c (.bool false))))])
  (.seq (.reg [o p3 (.p (.mv (.t p0))),
  o p4 (.p (.bin .p .eql (.t p3) (.c (.pointer none)))),
  o p5 (.p (.mv (.t p4))),
  g (some p6) p5 false (.p (.mv (.t p0))),
  g (some p7) p5 false (.p (.nck (.t p6))),
  g (some p8) p5 false (.p (.fa 1 (.t p7))),
  g (some p9) p5 false (.r (.ld 1 false (.t p8))),
  o p10 (.p (.pick (.t p5) (.c (.bool true)) (.t p9))),
  o p2 (.p (.mv (.t p10)))])
  (.ret))⟩
def c224 : CFunc := ⟨[.t p2], .seq (.reg [o p1 (.a (.box 1 (.t p0))),
  o p2 (.p (.mv (.c (.bool false))))])
  (.seq (.seq (.reg [o p5 (.p (.fa 0 (.t p1))),
  o p6 (.r (.ld 1 false (.t p5))),
  o p7 (.p (.lenP false (.t p6))),
  o p8 (.p (.mv (.c (.int .i64 0))))])
  (.block 0 (.loop (.seq (.reg [o p9 (.p (.bin .i .lss (.t p8) (.t p7)))])
  (.seq (.cond (.t p9) (.skip)
  (.exit 0))
  (.seq (.block 1 (.seq (.reg [o p10 (.p (.mv (.t p8))),
  o p11 (.p (.iaL 2 (.t p6) (.t p8))),
  o p12 (.r (.ld 2 true (.t p11))),
  o p4 (.a (.alc [(.int .u32 0), (.int .i64 0)])),
  o p3 (.p (.mv (.t p10))),
  n (.w (.st 2 (.t p4) (.t p12)))])
  (.seq (.dreg [o p13 (.p (.fa 0 (.t p4))),
  o p14 (.r (.ld 1 false (.t p13))),
  o p16 (.p (.fa 0 (.t p4))),
  o p17 (.r (.ld 1 false (.t p16))),
  o p15 (.call 280 [(.t p14)]),
  o p18 (.p (.bin .i .neq (.t p15) (.t p17))),
  o p19 (.p (.mv (.t p18))),
  g (some p20) p19 false (.p (.fa 1 (.t p4))),
  g (some p21) p19 false (.r (.ld 1 false (.t p20))),
  g (some p22) p19 false (.p (.bin .i .lss (.t p21) (.c (.int .i64 1)))),
  o p23 (.p (.pick (.t p19) (.c (.bool true)) (.t p22))),
  o p24 (.p (.mv (.t p23))),
  g (some p25) p24 false (.p (.fa 1 (.t p4))),
  g (some p26) p24 false (.r (.ld 1 false (.t p25))),
  g (some p27) p24 false (.p (.bin .i .gtr (.t p26) (.c (.int .i64 65535)))),
  o p28 (.p (.pick (.t p24) (.c (.bool true)) (.t p27))),
  o p29 (.p (.mv (.t p28))),
  g (some p30) p29 false (.p (.mv (.t p3))),
  g (some p31) p29 false (.p (.bin .i .gtr (.t p30) (.c (.int .i64 0)))),
  g (some p32) p29 false (.p (.mv (.t p31))),
  g (some p33) p32 true (.p (.fa 0 (.t p1))),
  g (some p34) p32 true (.r (.ld 1 false (.t p33))),
  g (some p35) p32 true (.p (.mv (.t p3))),
  g (some p36) p32 true (.p (.bin .i .sub (.t p35) (.c (.int .i64 1)))),
  g (some p37) p32 true (.p (.iaL 2 (.t p34) (.t p36))),
  g (some p38) p32 true (.p (.fa 0 (.t p37))),
  g (some p39) p32 true (.r (.ld 1 false (.t p38))),
  g (some p40) p32 true (.p (.fa 0 (.t p4))),
  g (some p41) p32 true (.r (.ld 1 false (.t p40))),
  g (some p42) p32 true (.p (.bin .i .geq (.t p39) (.t p41))),
  g (some p43) p29 false (.p (.pick (.t p32) (.t p42) (.c (.bool false)))),
  o p44 (.p (.pick (.t p29) (.c (.bool true)) (.t p43)))] [[], [], [], [], [3], [], [], [], [], [], [], [], [], [], [], [], [], [], [], [], [], [], [], [], [], [], [], [], [], [], [], []])
  (.cond (.t p44) (.seq (.reg [o p2 (.p (.mv (.c (.bool false))))])
  (.ret))
  (.skip)))))
  (.reg [o p45 (.p (.bin .i .add (.t p8) (.c (.int .i64 1)))),
  o p8 (.p (.mv (.t p45)))])))))))
  (.seq (.reg [o p46 (.p (.fa 0 (.t p1))),
  o p47 (.r (.ld 1 false (.t p46))),
  o p48 (.p (.lenP false (.t p47))),
  o p49 (.p (.bin .i .leq (.t p48) (.c (.int .i64 4096)))),
  o p2 (.p (.mv (.t p49)))])
  (.ret)))⟩
def c225 : CFunc := ⟨[.t p2], .seq (.reg [o p2 (.p (.mv (.c (.int .u32 0))))])
  (.seq (.reg [o p3 (.p (.mv (.t p0))),
  o p4 (.call 129 [(.c (.int .i64 26))]),
  o p5 (.p (.bin .i .and (.t p3) (.t p4))),
  o p2 (.p (.mv (.t p5)))])
  (.ret))⟩
def c226 : CFunc := ⟨[.t p2], .seq (.reg [o p2 (.p (.mv (.c (.bool false))))])
  (.seq (.reg [o p3 (.p (.mv (.t p0))),
  o p4 (.p (.bin .s .eql (.t p3) (.c (.string ⟨⟨[]⟩⟩)))),
  o p5 (.p (.mv (.t p4))),
  g (some p6) p5 false (.p (.mv (.t p0))),
  g (some p7) p5 false (.call 221 [(.t p6)]),
  o p8 (.p (.pick (.t p5) (.c (.bool true)) (.t p7))),
  o p2 (.p (.mv (.t p8)))])
  (.ret))⟩
def c227 : CFunc := ⟨[.t p2], .seq (.reg [o p1 (.a (.box 68 (.t p0))),
  o p2 (.p (.mv (.c (.bool false))))])
  (.seq (.reg [o p9 (.a (.mkm)),
  o p3 (.p (.mv (.t p9)))])
  (.seq (.reg [o p4 (.p (.mv (.c (.int .u64 0))))])
  (.seq (.seq (.reg [o p10 (.p (.fa 2 (.t p1))),
  o p11 (.r (.ld 64 true (.t p10))),
  o p12 (.p (.mv (.c (.int .i64 0))))])
  (.block 0 (.loop (.seq (.reg [o p13 (.p (.bin .i .lss (.t p12) (.c (.int .i64 64))))])
  (.seq (.cond (.t p13) (.skip)
  (.exit 0))
  (.seq (.block 1 (.seq (.reg [o p14 (.p (.ixA 64 1 false (.t p11) (.t p12))),
  o p6 (.p (.mv (.t p14)))])
  (.seq (.seq (.reg [o p15 (.p (.mv (.t p6))),
  o p16 (.p (.conv .i64 (.t p15))),
  o p17 (.p (.fa 67 (.t p1))),
  o p18 (.r (.ld 1 false (.t p17))),
  o p19 (.p (.lenP false (.t p18))),
  o p20 (.p (.bin .i .gtr (.t p16) (.t p19)))])
  (.cond (.t p20) (.seq (.reg [o p2 (.p (.mv (.c (.bool false))))])
  (.ret))
  (.skip)))
  (.reg [o p21 (.p (.mv (.t p4))),
  o p22 (.p (.mv (.t p6))),
  o p23 (.p (.conv .i64 (.t p22))),
  o p24 (.p (.bin .i .sub (.t p23) (.c (.int .i64 1)))),
  o p25 (.call 281 [(.t p21), (.t p24)]),
  o p4 (.p (.mv (.t p25)))]))))
  (.reg [o p26 (.p (.bin .i .add (.t p12) (.c (.int .i64 1)))),
  o p12 (.p (.mv (.t p26)))])))))))
  (.seq (.seq (.reg [o p27 (.p (.fa 67 (.t p1))),
  o p28 (.r (.ld 1 false (.t p27))),
  o p29 (.p (.lenP false (.t p28))),
  o p30 (.p (.mv (.c (.int .i64 0))))])
  (.block 2 (.loop (.seq (.reg [o p31 (.p (.bin .i .lss (.t p30) (.t p29)))])
  (.seq (.cond (.t p31) (.skip)
  (.exit 2))
  (.seq (.block 3 (.seq (.reg [o p32 (.p (.iaL 2 (.t p28) (.t p30))),
  o p33 (.r (.ld 2 true (.t p32))),
  o p8 (.a (.alc [(.string ⟨⟨[]⟩⟩), (.string ⟨⟨[]⟩⟩)])),
  n (.w (.st 2 (.t p8) (.t p33)))])
  (.seq (.dreg [o p34 (.p (.mv (.t p3))),
  o p35 (.r (.ld 2 true (.t p8))),
  o p36 (.r (.look (.int .i64 0) false (.str [1, 1]) (.t p34) (.t p35))),
  o p37 (.p (.bin .i .add (.t p36) (.c (.int .i64 1)))),
  o p38 (.w (.men (.int .i64 0) (.str [1, 1]) (.t p34) (.t p35))),
  o p39 (.p (.ext 1 (.t p38))),
  n (.w (.est (.t p34) (.t p39) (.t p37)))] [[], [], [], [], [2], [], []])
  (.seq (.reg [o p40 (.r (.ld 2 true (.t p8))),
  o p41 (.call 282 [(.t p40)]),
  o p42 (.p (.un .not (.t p41))),
  o p43 (.p (.mv (.t p42))),
  g (some p44) p43 false (.p (.mv (.t p3))),
  g (some p45) p43 false (.r (.ld 2 true (.t p8))),
  g (some p46) p43 false (.r (.look (.int .i64 0) false (.str [1, 1]) (.t p44) (.t p45))),
  g (some p47) p43 false (.p (.bin .i .gtr (.t p46) (.c (.int .i64 1)))),
  o p48 (.p (.pick (.t p43) (.c (.bool true)) (.t p47)))])
  (.cond (.t p48) (.seq (.reg [o p2 (.p (.mv (.c (.bool false))))])
  (.ret))
  (.skip))))))
  (.reg [o p49 (.p (.bin .i .add (.t p30) (.c (.int .i64 1)))),
  o p30 (.p (.mv (.t p49)))])))))))
  (.seq (.dreg [o p50 (.p (.mv (.t p4))),
  o p52 (.p (.fa 67 (.t p1))),
  o p53 (.r (.ld 1 false (.t p52))),
  o p54 (.p (.lenP false (.t p53))),
  o p51 (.call 283 [(.t p50)]),
  o p55 (.p (.bin .i .eql (.t p51) (.t p54))),
  o p2 (.p (.mv (.t p55)))] [[], [], [], [], [2], [], []])
  (.ret))))))⟩
def c228 : CFunc := ⟨[.t p2], .seq (.reg [o p1 (.a (.box 68 (.t p0))),
  o p2 (.p (.mv (.c (.bool false))))])
  (.seq (.reg [o p3 (.p (.mv (.c (.int .u64 0))))])
  (.seq (.seq (.reg [o p9 (.p (.fa 66 (.t p1))),
  o p10 (.r (.ld 1 false (.t p9))),
  o p11 (.p (.lenP false (.t p10))),
  o p12 (.p (.mv (.c (.int .i64 0))))])
  (.block 0 (.loop (.seq (.reg [o p13 (.p (.bin .i .lss (.t p12) (.t p11)))])
  (.seq (.cond (.t p13) (.skip)
  (.exit 0))
  (.seq (.block 1 (.seq (.reg [o p14 (.p (.iaL 1 (.t p10) (.t p12))),
  o p15 (.r (.ld 1 false (.t p14))),
  o p5 (.p (.mv (.t p15)))])
  (.seq (.seq (.reg [o p16 (.p (.mv (.t p5))),
  o p17 (.p (.conv .i64 (.t p16))),
  o p18 (.p (.bin .i .geq (.t p17) (.c (.int .i64 64)))),
  o p19 (.p (.mv (.t p18))),
  g (some p20) p19 false (.p (.mv (.t p3))),
  g (some p21) p19 false (.p (.mv (.t p5))),
  g (some p22) p19 false (.p (.conv .i64 (.t p21))),
  g (some p23) p19 false (.call 284 [(.t p20), (.t p22)]),
  o p24 (.p (.pick (.t p19) (.c (.bool true)) (.t p23))),
  o p25 (.p (.mv (.t p24))),
  g (some p26) p25 false (.p (.mv (.t p5))),
  g (some p27) p25 false (.p (.fa 2 (.t p1))),
  g (some p28) p25 false (.p (.iaA 64 1 (.t p27) (.t p26))),
  g (some p29) p25 false (.r (.ld 1 false (.t p28))),
  g (some p30) p25 false (.p (.bin .i .neq (.t p29) (.c (.int .u8 0)))),
  o p31 (.p (.pick (.t p25) (.c (.bool true)) (.t p30)))])
  (.cond (.t p31) (.seq (.reg [o p2 (.p (.mv (.c (.bool false))))])
  (.ret))
  (.skip)))
  (.reg [o p32 (.p (.mv (.t p3))),
  o p33 (.p (.mv (.t p5))),
  o p34 (.p (.conv .i64 (.t p33))),
  o p35 (.call 281 [(.t p32), (.t p34)]),
  o p3 (.p (.mv (.t p35)))]))))
  (.reg [o p36 (.p (.bin .i .add (.t p12) (.c (.int .i64 1)))),
  o p12 (.p (.mv (.t p36)))])))))))
  (.seq (.reg [o p6 (.p (.mv (.c (.int .i64 0))))])
  (.seq (.seq (.reg [o p37 (.p (.fa 2 (.t p1))),
  o p38 (.r (.ld 64 true (.t p37))),
  o p39 (.p (.mv (.c (.int .i64 0))))])
  (.block 2 (.loop (.seq (.reg [o p40 (.p (.bin .i .lss (.t p39) (.c (.int .i64 64))))])
  (.seq (.cond (.t p40) (.skip)
  (.exit 2))
  (.seq (.block 3 (.seq (.reg [o p41 (.p (.ixA 64 1 false (.t p38) (.t p39))),
  o p8 (.p (.mv (.t p41)))])
  (.seq (.reg [o p42 (.p (.mv (.t p8))),
  o p43 (.p (.bin .i .eql (.t p42) (.c (.int .u8 0))))])
  (.cond (.t p43) (.reg [o p44 (.p (.mv (.t p6))),
  o p45 (.p (.bin .i .add (.t p44) (.c (.int .i64 1)))),
  o p6 (.p (.mv (.t p45)))])
  (.skip)))))
  (.reg [o p46 (.p (.bin .i .add (.t p39) (.c (.int .i64 1)))),
  o p39 (.p (.mv (.t p46)))])))))))
  (.seq (.reg [o p47 (.p (.mv (.t p6))),
  o p48 (.p (.fa 66 (.t p1))),
  o p49 (.r (.ld 1 false (.t p48))),
  o p50 (.p (.lenP false (.t p49))),
  o p51 (.p (.bin .i .eql (.t p47) (.t p50))),
  o p2 (.p (.mv (.t p51)))])
  (.ret))))))⟩
def c238 : CFunc := ⟨[.t p2], .seq (.reg [o p2 (.p (.mv (.c (.int .i64 0))))])
  (.seq (.seq (.reg [o p3 (.p (.mv (.t p0))),
  o p4 (.p (.bin .i .geq (.t p3) (.c (.int .u32 65536))))])
  (.cond (.t p4) (.seq (.reg [o p5 (.p (.mv (.t p0))),
  o p6 (.p (.bin .i .shr (.t p5) (.c (.int .u64 16)))),
  o p0 (.p (.mv (.t p6)))])
  (.reg [o p2 (.p (.mv (.c (.int .i64 16))))]))
  (.skip)))
  (.seq (.seq (.reg [o p7 (.p (.mv (.t p0))),
  o p8 (.p (.bin .i .geq (.t p7) (.c (.int .u32 256))))])
  (.cond (.t p8) (.seq (.reg [o p9 (.p (.mv (.t p0))),
  o p10 (.p (.bin .i .shr (.t p9) (.c (.int .u64 8)))),
  o p0 (.p (.mv (.t p10)))])
  (.reg [o p11 (.p (.mv (.t p2))),
  o p12 (.p (.bin .i .add (.t p11) (.c (.int .i64 8)))),
  o p2 (.p (.mv (.t p12)))]))
  (.skip)))
  (.seq (.reg [o p13 (.p (.mv (.t p2))),
  o p14 (.p (.mv (.t p0))),
  o p15 (.p (.conv .u8 (.t p14))),
  o p16 (.p (.ixS (.c (.string ⟨⟨[0, 1, 2, 2, 3, 3, 3, 3, 4, 4, 4, 4, 4, 4, 4, 4, 5, 5, 5, 5, 5, 5, 5, 5, 5, 5, 5, 5, 5, 5, 5, 5, 6, 6, 6, 6, 6, 6, 6, 6, 6, 6, 6, 6, 6, 6, 6, 6, 6, 6, 6, 6, 6, 6, 6, 6, 6, 6, 6, 6, 6, 6, 6, 6, 7, 7, 7, 7, 7, 7, 7, 7, 7, 7, 7, 7, 7, 7, 7, 7, 7, 7, 7, 7, 7, 7, 7, 7, 7, 7, 7, 7, 7, 7, 7, 7, 7, 7, 7, 7, 7, 7, 7, 7, 7, 7, 7, 7, 7, 7, 7, 7, 7, 7, 7, 7, 7, 7, 7, 7, 7, 7, 7, 7, 7, 7, 7, 7, 8, 8, 8, 8, 8, 8, 8, 8, 8, 8, 8, 8, 8, 8, 8, 8, 8, 8, 8, 8, 8, 8, 8, 8, 8, 8, 8, 8, 8, 8, 8, 8, 8, 8, 8, 8, 8, 8, 8, 8, 8, 8, 8, 8, 8, 8, 8, 8, 8, 8, 8, 8, 8, 8, 8, 8, 8, 8, 8, 8, 8, 8, 8, 8, 8, 8, 8, 8, 8, 8, 8, 8, 8, 8, 8, 8, 8, 8, 8, 8, 8, 8, 8, 8, 8, 8, 8, 8, 8, 8, 8, 8, 8, 8, 8, 8, 8, 8, 8, 8, 8, 8, 8, 8, 8, 8, 8, 8, 8, 8, 8, 8, 8, 8, 8, 8, 8, 8, 8, 8, 8, 8, 8, 8, 8, 8, 8, 8]⟩⟩)) (.t p15))),
  o p17 (.p (.conv .i64 (.t p16))),
  o p18 (.p (.bin .i .add (.t p13) (.t p17))),
  o p2 (.p (.mv (.t p18)))])
  (.ret))))⟩
def c239 : CFunc := ⟨[.t p2], .seq (.reg [o p2 (.p (.mv (.c (.int .i64 0))))])
  (.seq (.seq (.reg [o p3 (.p (.mv (.t p0))),
  o p4 (.p (.bin .i .geq (.t p3) (.c (.int .u64 4294967296))))])
  (.cond (.t p4) (.seq (.reg [o p5 (.p (.mv (.t p0))),
  o p6 (.p (.bin .i .shr (.t p5) (.c (.int .u64 32)))),
  o p0 (.p (.mv (.t p6)))])
  (.reg [o p2 (.p (.mv (.c (.int .i64 32))))]))
  (.skip)))
  (.seq (.seq (.reg [o p7 (.p (.mv (.t p0))),
  o p8 (.p (.bin .i .geq (.t p7) (.c (.int .u64 65536))))])
  (.cond (.t p8) (.seq (.reg [o p9 (.p (.mv (.t p0))),
  o p10 (.p (.bin .i .shr (.t p9) (.c (.int .u64 16)))),
  o p0 (.p (.mv (.t p10)))])
  (.reg [o p11 (.p (.mv (.t p2))),
  o p12 (.p (.bin .i .add (.t p11) (.c (.int .i64 16)))),
  o p2 (.p (.mv (.t p12)))]))
  (.skip)))
  (.seq (.seq (.reg [o p13 (.p (.mv (.t p0))),
  o p14 (.p (.bin .i .geq (.t p13) (.c (.int .u64 256))))])
  (.cond (.t p14) (.seq (.reg [o p15 (.p (.mv (.t p0))),
  o p16 (.p (.bin .i .shr (.t p15) (.c (.int .u64 8)))),
  o p0 (.p (.mv (.t p16)))])
  (.reg [o p17 (.p (.mv (.t p2))),
  o p18 (.p (.bin .i .add (.t p17) (.c (.int .i64 8)))),
  o p2 (.p (.mv (.t p18)))]))
  (.skip)))
  (.seq (.reg [o p19 (.p (.mv (.t p2))),
  o p20 (.p (.mv (.t p0))),
  o p21 (.p (.conv .u8 (.t p20))),
  o p22 (.p (.ixS (.c (.string ⟨⟨[0, 1, 2, 2, 3, 3, 3, 3, 4, 4, 4, 4, 4, 4, 4, 4, 5, 5, 5, 5, 5, 5, 5, 5, 5, 5, 5, 5, 5, 5, 5, 5, 6, 6, 6, 6, 6, 6, 6, 6, 6, 6, 6, 6, 6, 6, 6, 6, 6, 6, 6, 6, 6, 6, 6, 6, 6, 6, 6, 6, 6, 6, 6, 6, 7, 7, 7, 7, 7, 7, 7, 7, 7, 7, 7, 7, 7, 7, 7, 7, 7, 7, 7, 7, 7, 7, 7, 7, 7, 7, 7, 7, 7, 7, 7, 7, 7, 7, 7, 7, 7, 7, 7, 7, 7, 7, 7, 7, 7, 7, 7, 7, 7, 7, 7, 7, 7, 7, 7, 7, 7, 7, 7, 7, 7, 7, 7, 7, 8, 8, 8, 8, 8, 8, 8, 8, 8, 8, 8, 8, 8, 8, 8, 8, 8, 8, 8, 8, 8, 8, 8, 8, 8, 8, 8, 8, 8, 8, 8, 8, 8, 8, 8, 8, 8, 8, 8, 8, 8, 8, 8, 8, 8, 8, 8, 8, 8, 8, 8, 8, 8, 8, 8, 8, 8, 8, 8, 8, 8, 8, 8, 8, 8, 8, 8, 8, 8, 8, 8, 8, 8, 8, 8, 8, 8, 8, 8, 8, 8, 8, 8, 8, 8, 8, 8, 8, 8, 8, 8, 8, 8, 8, 8, 8, 8, 8, 8, 8, 8, 8, 8, 8, 8, 8, 8, 8, 8, 8, 8, 8, 8, 8, 8, 8, 8, 8, 8, 8, 8, 8, 8, 8, 8, 8, 8, 8]⟩⟩)) (.t p21))),
  o p23 (.p (.conv .i64 (.t p22))),
  o p24 (.p (.bin .i .add (.t p19) (.t p23))),
  o p2 (.p (.mv (.t p24)))])
  (.ret)))))⟩
def c249 : CFunc := ⟨[.t p2], .seq (.reg [o p1 (.a (.box 2 (.t p0))),
  o p2 (.p (.mv (.c (.bool false))))])
  (.seq (.dreg [o p3 (.p (.fa 1 (.t p1))),
  o p4 (.r (.ld 1 false (.t p3))),
  o p5 (.p (.bin .i .geq (.t p4) (.c (.int .i64 0)))),
  o p6 (.p (.mv (.t p5))),
  g (some p7) p6 true (.p (.fa 1 (.t p1))),
  g (some p8) p6 true (.r (.ld 1 false (.t p7))),
  g (some p9) p6 true (.p (.bin .i .leq (.t p8) (.c (.int .i64 32)))),
  o p10 (.p (.pick (.t p6) (.t p9) (.c (.bool false)))),
  o p11 (.p (.mv (.t p10))),
  g (some p12) p11 true (.p (.fa 0 (.t p1))),
  g (some p13) p11 true (.r (.ld 1 false (.t p12))),
  g (some p14) p11 true (.p (.fa 1 (.t p1))),
  g (some p15) p11 true (.r (.ld 1 false (.t p14))),
  g (some p16) p11 true (.call 129 [(.t p15)]),
  g (some p17) p11 true (.p (.bin .i .andNot (.t p13) (.t p16))),
  g (some p18) p11 true (.p (.bin .i .eql (.t p17) (.c (.int .u32 0)))),
  o p19 (.p (.pick (.t p11) (.t p18) (.c (.bool false)))),
  o p2 (.p (.mv (.t p19)))] [[], [], [], [], [], [], [], [], [], [], [], [], [], [10], [], [], [], []])
  (.ret))⟩
def c250 : CFunc := ⟨[.t p2], .seq (.reg [o p1 (.a (.box 2 (.t p0))),
  o p2 (.p (.mv (.c (.string ⟨⟨[]⟩⟩))))])
  (.seq (.reg [o p3 (.r (.ld 2 true (.t p1))),
  o p4 (.call 297 [(.t p3)]),
  o p5 (.call 296 [(.t p4), (.c (.string ⟨⟨[47]⟩⟩)), (.c (.string ⟨⟨[45]⟩⟩)), (.c (.int .i64 1))]),
  o p2 (.p (.mv (.t p5)))])
  (.ret))⟩
def c251 : CFunc := ⟨[.t p2], .seq (.reg [o p2 (.p (.mv (.c (.slice none 0 0))))])
  (.seq (.seq (.reg [o p3 (.p (.mv (.t p0))),
  o p4 (.p (.bin .l .eql (.t p3) (.c (.slice none 0 0))))])
  (.cond (.t p4) (.seq (.reg [o p2 (.p (.mv (.c (.slice none 0 0))))])
  (.ret))
  (.skip)))
  (.seq (.reg [o p5 (.a (.bsl 1 0 [(.int .u8 0)] [])),
  o p6 (.p (.mv (.t p0))),
  o p7 (.w (.app 1 1 (.t p5) (.t p6))),
  o p2 (.p (.mv (.t p7)))])
  (.ret)))⟩
def c260 : CFunc := ⟨[], .seq (.reg [o p10 (.p (.mv (.c (.bool true))))])
  (.seq (.reg [o p11 (.p (.mv (.c (.bool true))))])
  (.block 0 (.loop (.block 1 (.seq (.reg [o p21 (.p (.mv (.t p2))),
  o p22 (.p (.mv (.t p1))),
  o p23 (.p (.bin .i .sub (.t p21) (.t p22))),
  o p12 (.p (.mv (.t p23)))])
  (.seq (.seq (.reg [o p24 (.p (.mv (.t p12))),
  o p25 (.p (.bin .i .leq (.t p24) (.c (.int .i64 12))))])
  (.cond (.t p25) (.seq (.reg [o p26 (.p (.mv (.t p0))),
  o p27 (.p (.mv (.t p1))),
  o p28 (.p (.mv (.t p2))),
  o p29 (.p (.mv (.t p4))),
  o p30 (.call 307 [(.t p26), (.t p27), (.t p28), (.t p29)])])
  (.ret))
  (.skip)))
  (.seq (.seq (.reg [o p31 (.p (.mv (.t p3))),
  o p32 (.p (.bin .i .eql (.t p31) (.c (.int .i64 0))))])
  (.cond (.t p32) (.seq (.reg [o p33 (.p (.mv (.t p0))),
  o p34 (.p (.mv (.t p1))),
  o p35 (.p (.mv (.t p2))),
  o p36 (.p (.mv (.t p4))),
  o p37 (.call 308 [(.t p33), (.t p34), (.t p35), (.t p36)])])
  (.ret))
  (.skip)))
  (.seq (.seq (.reg [o p38 (.p (.mv (.t p10))),
  o p39 (.p (.un .not (.t p38)))])
  (.cond (.t p39) (.seq (.reg [o p40 (.p (.mv (.t p0))),
  o p41 (.p (.mv (.t p1))),
  o p42 (.p (.mv (.t p2))),
  o p43 (.p (.mv (.t p4))),
  o p44 (.call 309 [(.t p40), (.t p41), (.t p42), (.t p43)])])
  (.reg [o p45 (.p (.mv (.t p3))),
  o p46 (.p (.bin .i .sub (.t p45) (.c (.int .i64 1)))),
  o p3 (.p (.mv (.t p46)))]))
  (.skip)))
  (.seq (.reg [o p48 (.p (.mv (.t p0))),
  o p49 (.p (.mv (.t p1))),
  o p50 (.p (.mv (.t p2))),
  o p51 (.p (.mv (.t p4))),
  o p52 (.call 310 [(.t p48), (.t p49), (.t p50), (.t p51)]),
  o p47 (.p (.mv (.t p52))),
  o p53 (.p (.ext 0 (.t p47))),
  o p54 (.p (.ext 1 (.t p47))),
  o p13 (.p (.mv (.t p53))),
  o p14 (.p (.mv (.t p54)))])
  (.seq (.seq (.reg [o p55 (.p (.mv (.t p14))),
  o p56 (.p (.bin .i .eql (.t p55) (.c (.int .i64 2))))])
  (.cond (.t p56) (.seq (.reg [o p57 (.p (.mv (.t p0))),
  o p58 (.p (.mv (.t p1))),
  o p59 (.p (.mv (.t p2))),
  o p60 (.p (.mv (.t p4))),
  o p61 (.call 311 [(.t p57), (.t p58), (.t p59), (.t p60)])])
  (.seq (.reg [o p62 (.p (.mv (.t p2))),
  o p63 (.p (.bin .i .sub (.t p62) (.c (.int .i64 1)))),
  o p64 (.p (.mv (.t p13))),
  o p65 (.p (.mv (.t p1))),
  o p66 (.p (.bin .i .sub (.t p64) (.t p65))),
  o p67 (.p (.bin .i .sub (.t p63) (.t p66))),
  o p13 (.p (.mv (.t p67)))])
  (.reg [o p14 (.p (.mv (.c (.int .i64 1))))])))
  (.skip)))
  (.seq (.seq (.reg [o p68 (.p (.mv (.t p10))),
  o p69 (.p (.mv (.t p68))),
  g (some p70) p69 true (.p (.mv (.t p11))),
  o p71 (.p (.pick (.t p69) (.t p70) (.c (.bool false)))),
  o p72 (.p (.mv (.t p71))),
  g (some p73) p72 true (.p (.mv (.t p14))),
  g (some p74) p72 true (.p (.bin .i .eql (.t p73) (.c (.int .i64 1)))),
  o p75 (.p (.pick (.t p72) (.t p74) (.c (.bool false))))])
  (.cond (.t p75) (.seq (.reg [o p76 (.p (.mv (.t p0))),
  o p77 (.p (.mv (.t p1))),
  o p78 (.p (.mv (.t p2))),
  o p79 (.p (.mv (.t p4))),
  o p80 (.call 312 [(.t p76), (.t p77), (.t p78), (.t p79)])])
  (.cond (.t p80) (.ret)
  (.skip)))
  (.skip)))
  (.seq (.seq (.dreg [o p81 (.p (.mv (.t p1))),
  o p82 (.p (.bin .i .gtr (.t p81) (.c (.int .i64 0)))),
  o p83 (.p (.mv (.t p82))),
  g (some p84) p83 true (.p (.mv (.t p4))),
  g (some p85) p83 true (.p (.mv (.t p0))),
  g (some p86) p83 true (.p (.mv (.t p1))),
  g (some p87) p83 true (.p (.bin .i .sub (.t p86) (.c (.int .i64 1)))),
  g (some p88) p83 true (.p (.iaL 2 (.t p85) (.t p87))),
  g (some p89) p83 true (.r (.ld 2 true (.t p88))),
  g (some p90) p83 true (.p (.mv (.t p0))),
  g (some p91) p83 true (.p (.mv (.t p13))),
  g (some p92) p83 true (.p (.iaL 2 (.t p90) (.t p91))),
  g (some p93) p83 true (.r (.ld 2 true (.t p92))),
  g (some p94) p83 true (.callv (.t p84) [(.t p89), (.t p93)]),
  g (some p95) p83 true (.p (.bin .i .lss (.t p94) (.c (.int .i64 0)))),
  g (some p96) p83 true (.p (.un .not (.t p95))),
  o p97 (.p (.pick (.t p83) (.t p96) (.c (.bool false))))] [[], [], [], [], [], [], [], [], [], [], [], [], [], [], [], [], []])
  (.cond (.t p97) (.seq (.reg [o p98 (.p (.mv (.t p0))),
  o p99 (.p (.mv (.t p1))),
  o p100 (.p (.mv (.t p2))),
  o p101 (.p (.mv (.t p13))),
  o p102 (.p (.mv (.t p4))),
  o p103 (.call 313 [(.t p98), (.t p99), (.t p100), (.t p101), (.t p102)]),
  o p15 (.p (.mv (.t p103)))])
  (.seq (.reg [o p104 (.p (.mv (.t p15))),
  o p1 (.p (.mv (.t p104)))])
  (.exit 1)))
  (.skip)))
  (.seq (.reg [o p106 (.p (.mv (.t p0))),
  o p107 (.p (.mv (.t p1))),
  o p108 (.p (.mv (.t p2))),
  o p109 (.p (.mv (.t p13))),
  o p110 (.p (.mv (.t p4))),
  o p111 (.call 314 [(.t p106), (.t p107), (.t p108), (.t p109), (.t p110)]),
  o p105 (.p (.mv (.t p111))),
  o p112 (.p (.ext 0 (.t p105))),
  o p113 (.p (.ext 1 (.t p105))),
  o p16 (.p (.mv (.t p112))),
  o p17 (.p (.mv (.t p113)))])
  (.seq (.reg [o p114 (.p (.mv (.t p17))),
  o p11 (.p (.mv (.t p114)))])
  (.seq (.reg [o p115 (.p (.mv (.t p16))),
  o p116 (.p (.mv (.t p1))),
  o p117 (.p (.bin .i .sub (.t p115) (.t p116))),
  o p118 (.p (.mv (.t p2))),
  o p119 (.p (.mv (.t p16))),
  o p120 (.p (.bin .i .sub (.t p118) (.t p119))),
  o p18 (.p (.mv (.t p117))),
  o p19 (.p (.mv (.t p120)))])
  (.seq (.reg [o p121 (.p (.mv (.t p12))),
  o p122 (.p (.bin .i .quo (.t p121) (.c (.int .i64 8)))),
  o p20 (.p (.mv (.t p122)))])
  (.seq (.reg [o p123 (.p (.mv (.t p18))),
  o p124 (.p (.mv (.t p19))),
  o p125 (.p (.bin .i .lss (.t p123) (.t p124)))])
  (.cond (.t p125) (.seq (.reg [o p126 (.p (.mv (.t p18))),
  o p127 (.p (.mv (.t p20))),
  o p128 (.p (.bin .i .geq (.t p126) (.t p127))),
  o p10 (.p (.mv (.t p128)))])
  (.seq (.reg [o p129 (.p (.mv (.t p0))),
  o p130 (.p (.mv (.t p1))),
  o p131 (.p (.mv (.t p16))),
  o p132 (.p (.mv (.t p3))),
  o p133 (.p (.mv (.t p4))),
  o p134 (.call 260 [(.t p129), (.t p130), (.t p131), (.t p132), (.t p133)])])
  (.reg [o p135 (.p (.mv (.t p16))),
  o p136 (.p (.bin .i .add (.t p135) (.c (.int .i64 1)))),
  o p1 (.p (.mv (.t p136)))])))
  (.seq (.reg [o p137 (.p (.mv (.t p19))),
  o p138 (.p (.mv (.t p20))),
  o p139 (.p (.bin .i .geq (.t p137) (.t p138))),
  o p10 (.p (.mv (.t p139)))])
  (.seq (.reg [o p140 (.p (.mv (.t p0))),
  o p141 (.p (.mv (.t p16))),
  o p142 (.p (.bin .i .add (.t p141) (.c (.int .i64 1)))),
  o p143 (.p (.mv (.t p2))),
  o p144 (.p (.mv (.t p3))),
  o p145 (.p (.mv (.t p4))),
  o p146 (.call 260 [(.t p140), (.t p142), (.t p143), (.t p144), (.t p145)])])
  (.reg [o p147 (.p (.mv (.t p16))),
  o p2 (.p (.mv (.t p147)))])))))))))))))))))))))⟩
def c261 : CFunc := ⟨[.t p2], .seq (.reg [o p2 (.p (.mv (.c (.bool false))))])
  (.seq (.reg [o p3 (.p (.mv (.t p0))),
  o p4 (.p (.mv (.t p0))),
  o p5 (.p (.bin .i .neq (.t p3) (.t p4))),
  o p2 (.p (.mv (.t p5)))])
  (.ret))⟩
def c262 : CFunc := ⟨[.t p2], .seq (.reg [o p2 (.p (.mv (.c (.bool false))))])
  (.seq (.reg [o p3 (.p (.mv (.t p0))),
  o p4 (.p (.mv (.t p0))),
  o p5 (.p (.bin .s .neq (.t p3) (.t p4))),
  o p2 (.p (.mv (.t p5)))])
  (.ret))⟩
def c263 : CFunc := ⟨[.t p2, .t p3], .seq (.reg [o p2 (.p (.mv (.c (.string ⟨⟨[]⟩⟩)))),
  o p3 (.p (.mv (.c (.int .i64 0))))])
  (.seq (.reg [o p7 (.p (.mv (.t p0))),
  o p8 (.call 175 [(.c (.string ⟨⟨[97, 102, 102, 47]⟩⟩)), (.t p7)]),
  o p6 (.p (.mv (.t p8))),
  o p9 (.p (.ext 0 (.t p6))),
  o p10 (.p (.ext 1 (.t p6))),
  o p4 (.p (.mv (.t p9))),
  o p5 (.p (.mv (.t p10)))])
  (.seq (.seq (.reg [o p11 (.p (.mv (.t p5))),
  o p12 (.p (.bin .i .neq (.t p11) (.c (.int .i64 0))))])
  (.cond (.t p12) (.seq (.reg [o p13 (.p (.mv (.t p5))),
  o p2 (.p (.mv (.c (.string ⟨⟨[]⟩⟩)))),
  o p3 (.p (.mv (.t p13)))])
  (.ret))
  (.skip)))
  (.seq (.reg [o p14 (.p (.mv (.t p4))),
  o p15 (.p (.bin .s .add (.t p14) (.c (.string ⟨⟨[47]⟩⟩)))),
  o p2 (.p (.mv (.t p15))),
  o p3 (.p (.mv (.c (.int .i64 0))))])
  (.ret))))⟩
def c264 : CFunc := ⟨[.cell p2 2 true], .seq (.reg [o p2 (.a (.alc [(.int .u32 0), (.int .i64 0)]))])
  (.seq (.reg [o p6 (.p (.mv (.t p0))),
  o p7 (.call 64 [(.t p6), (.c (.int .i64 26))]),
  o p5 (.p (.mv (.t p7))),
  o p8 (.p (.ext 0 (.t p5))),
  o p9 (.p (.ext 1 (.t p5))),
  o p3 (.a (.alc [(.int .u32 0), (.int .i64 0)])),
  n (.w (.st 2 (.t p3) (.t p8))),
  o p4 (.p (.mv (.t p9)))])
  (.seq (.reg [o p10 (.r (.ld 2 true (.t p3))),
  n (.w (.st 2 (.t p2) (.t p10)))])
  (.ret)))⟩
def c265 : CFunc := ⟨[.t p4], .seq (.reg [o p4 (.p (.mv (.c (.bool false))))])
  (.seq (.reg [o p5 (.p (.mv (.t p0))),
  o p6 (.p (.mv (.t p1))),
  o p7 (.call 315 [(.t p5), (.t p6)]),
  o p8 (.p (.bin .i .geq (.t p7) (.c (.int .i64 0)))),
  o p4 (.p (.mv (.t p8)))])
  (.ret))⟩
def c266 : CFunc := ⟨[.t p3], .seq (.reg [o p2 (.a (.box 2 (.t p0))),
  o p3 (.p (.mv (.c (.bool false))))])
  (.seq (.dreg [o p4 (.r (.ld 1 false (.t p1))),
  o p5 (.p (.nck (.t p4))),
  o p6 (.p (.fa 0 (.t p5))),
  o p7 (.p (.fa 4 (.t p6))),
  o p8 (.r (.ld 1 false (.t p7))),
  o p9 (.p (.fa 1 (.t p2))),
  o p10 (.r (.ld 1 false (.t p9))),
  o p11 (.r (.look (.bool false) false (.one 1) (.t p8) (.t p10))),
  o p3 (.p (.mv (.t p11)))] [[], [], [], [], [], [], [], [], []])
  (.ret))⟩
def c267 : CFunc := ⟨[.t p4], .seq (.reg [o p2 (.a (.box 2 (.t p0))),
  o p3 (.a (.box 2 (.t p1))),
  o p4 (.p (.mv (.c (.bool false))))])
  (.seq (.reg [o p5 (.r (.ld 2 true (.t p3))),
  o p6 (.call 249 [(.t p5)]),
  o p7 (.p (.mv (.t p6))),
  g (some p8) p7 true (.r (.ld 2 true (.t p2))),
  g (some p9) p7 true (.p (.fa 0 (.t p3))),
  g (some p10) p7 true (.r (.ld 1 false (.t p9))),
  g (some p11) p7 true (.call 174 [(.t p8), (.t p10)]),
  o p12 (.p (.pick (.t p7) (.t p11) (.c (.bool false)))),
  o p13 (.p (.mv (.t p12))),
  g (some p14) p13 true (.p (.fa 1 (.t p3))),
  g (some p15) p13 true (.r (.ld 1 false (.t p14))),
  g (some p16) p13 true (.p (.fa 1 (.t p2))),
  g (some p17) p13 true (.r (.ld 1 false (.t p16))),
  g (some p18) p13 true (.p (.bin .i .geq (.t p15) (.t p17))),
  o p19 (.p (.pick (.t p13) (.t p18) (.c (.bool false)))),
  o p4 (.p (.mv (.t p19)))])
  (.ret))⟩
def c268 : CFunc := ⟨[.t p2], .seq (.reg [o p1 (.a (.box 68 (.t p0))),
  o p2 (.p (.mv (.c (.map none))))])
  (.seq (.reg [o p6 (.a (.mkm)),
  o p3 (.p (.mv (.t p6)))])
  (.seq (.seq (.reg [o p7 (.r (.ld 68 true (.t p1))),
  o p8 (.call 144 [(.t p7)]),
  o p9 (.p (.un .not (.t p8)))])
  (.cond (.t p9) (.seq (.reg [o p10 (.p (.mv (.t p3))),
  o p2 (.p (.mv (.t p10)))])
  (.ret))
  (.skip)))
  (.seq (.seq (.reg [o p11 (.p (.fa 2 (.t p1))),
  o p12 (.r (.ld 64 true (.t p11))),
  o p13 (.p (.mv (.c (.int .i64 0))))])
  (.block 0 (.loop (.seq (.reg [o p14 (.p (.bin .i .lss (.t p13) (.c (.int .i64 64))))])
  (.seq (.cond (.t p14) (.skip)
  (.exit 0))
  (.seq (.block 1 (.seq (.reg [o p15 (.p (.ixA 64 1 false (.t p12) (.t p13))),
  o p5 (.p (.mv (.t p15)))])
  (.seq (.reg [o p16 (.p (.mv (.t p5))),
  o p17 (.p (.bin .i .neq (.t p16) (.c (.int .u8 0))))])
  (.cond (.t p17) (.dreg [o p18 (.p (.mv (.t p3))),
  o p19 (.p (.fa 67 (.t p1))),
  o p20 (.r (.ld 1 false (.t p19))),
  o p21 (.p (.mv (.t p5))),
  o p22 (.p (.bin .i .sub (.t p21) (.c (.int .u8 1)))),
  o p23 (.p (.iaL 2 (.t p20) (.t p22))),
  o p24 (.r (.ld 2 true (.t p23))),
  o p25 (.r (.look (.int .i64 0) false (.str [1, 1]) (.t p18) (.t p24))),
  o p26 (.p (.bin .i .add (.t p25) (.c (.int .i64 1)))),
  o p27 (.w (.men (.int .i64 0) (.str [1, 1]) (.t p18) (.t p24))),
  o p28 (.p (.ext 1 (.t p27))),
  n (.w (.est (.t p18) (.t p28) (.t p26)))] [[], [], [], [], [], [], [], [], [], [7], [], []])
  (.skip)))))
  (.reg [o p29 (.p (.bin .i .add (.t p13) (.c (.int .i64 1)))),
  o p13 (.p (.mv (.t p29)))])))))))
  (.seq (.reg [o p30 (.p (.mv (.t p3))),
  o p2 (.p (.mv (.t p30)))])
  (.ret)))))⟩
def c269 : CFunc := ⟨[.cell p6 1 true, .t p7], .seq (.reg [o p3 (.a (.box 1 (.t p0))),
  o p6 (.a (.alc [(.slice none 0 0)])),
  o p7 (.p (.mv (.c (.int .i64 0))))])
  (.seq (.block 0 (.seq (.reg [o p9 (.r (.ld 1 true (.t p3))),
  o p10 (.p (.mv (.t p2))),
  o p11 (.call 316 [(.t p9), (.t p10)]),
  o p12 (.p (.un .not (.t p11))),
  o p8 (.p (.mv (.t p12)))])
  (.cond (.t p8) (.seq (.reg [o p13 (.p (.bld [(.slice none 0 0)] [])),
  n (.w (.st 1 (.t p6) (.t p13))),
  o p7 (.p (.mv (.c (.int .i64 1))))])
  (.ret))
  (.seq (.reg [o p15 (.p (.mv (.t p2))),
  o p16 (.r (.ld 1 true (.t p3))),
  o p17 (.p (.mv (.t p1))),
  o p18 (.call 272 [(.t p16), (.t p17)]),
  o p19 (.p (.bin .i .sub (.c (.int .i64 65535)) (.t p18))),
  o p20 (.p (.bin .i .gtr (.t p15) (.t p19))),
  o p14 (.p (.mv (.t p20)))])
  (.cond (.t p14) (.seq (.reg [o p21 (.p (.bld [(.slice none 0 0)] [])),
  n (.w (.st 1 (.t p6) (.t p21))),
  o p7 (.p (.mv (.c (.int .i64 9))))])
  (.ret))
  (.skip))))))
  (.seq (.dreg [o p22 (.r (.ld 1 true (.t p3))),
  o p23 (.p (.mv (.t p1))),
  o p24 (.r (.ld 1 true (.t p3))),
  o p25 (.p (.mv (.t p1))),
  o p27 (.p (.mv (.t p2))),
  o p26 (.call 272 [(.t p24), (.t p25)]),
  o p28 (.p (.bin .i .add (.t p26) (.t p27))),
  o p29 (.call 317 [(.t p22), (.t p23), (.t p28)]),
  o p30 (.p (.ext 0 (.t p29))),
  o p31 (.p (.ext 1 (.t p29))),
  n (.w (.st 1 (.t p6) (.t p30))),
  o p7 (.p (.mv (.t p31)))] [[], [], [], [], [], [0], [], [], [], [], [], []])
  (.ret)))⟩
def c270 : CFunc := ⟨[.t p4], .seq (.reg [o p4 (.p (.mv (.c (.bool false))))])
  (.seq (.reg [o p5 (.p (.mv (.t p0))),
  o p6 (.p (.mv (.t p1))),
  o p7 (.call 318 [(.t p5), (.t p6)]),
  o p8 (.p (.bin .i .geq (.t p7) (.c (.int .i64 0)))),
  o p4 (.p (.mv (.t p8)))])
  (.ret))⟩
def c271 : CFunc := ⟨[.t p3], .seq (.reg [o p2 (.a (.box 2 (.t p0))),
  o p3 (.p (.mv (.c (.bool false))))])
  (.seq (.dreg [o p4 (.p (.fa 1 (.t p2))),
  o p5 (.r (.ld 1 false (.t p4))),
  o p6 (.r (.ld 1 true (.t p1))),
  o p7 (.p (.fa 0 (.t p2))),
  o p8 (.r (.ld 1 false (.t p7))),
  o p9 (.call 272 [(.t p6), (.t p8)]),
  o p10 (.p (.bin .i .gtr (.t p5) (.t p9))),
  o p3 (.p (.mv (.t p10)))] [[], [], [], [], [], [1], [], []])
  (.ret))⟩
def c272 : CFunc := ⟨[.t p4], .seq (.reg [o p2 (.a (.box 1 (.t p0))),
  o p4 (.p (.mv (.c (.int .i64 0))))])
  (.seq (.reg [o p8 (.r (.ld 1 true (.t p2))),
  o p9 (.p (.mv (.t p1))),
  o p10 (.call 319 [(.t p8), (.t p9)]),
  o p7 (.p (.mv (.t p10))),
  o p11 (.p (.ext 0 (.t p7))),
  o p12 (.p (.ext 1 (.t p7))),
  o p5 (.p (.mv (.t p11))),
  o p6 (.p (.mv (.t p12)))])
  (.seq (.seq (.reg [o p13 (.p (.mv (.t p6))),
  o p14 (.p (.un .not (.t p13)))])
  (.cond (.t p14) (.seq (.reg [o p4 (.p (.mv (.c (.int .i64 0))))])
  (.ret))
  (.skip)))
  (.seq (.reg [o p15 (.p (.fa 0 (.t p2))),
  o p16 (.r (.ld 1 false (.t p15))),
  o p17 (.p (.mv (.t p5))),
  o p18 (.p (.iaL 2 (.t p16) (.t p17))),
  o p19 (.p (.fa 1 (.t p18))),
  o p20 (.r (.ld 1 false (.t p19))),
  o p4 (.p (.mv (.t p20)))])
  (.ret))))⟩
def c275 : CFunc := ⟨[.t p4, .t p5], .seq (.reg [o p4 (.p (.mv (.c (.string ⟨⟨[]⟩⟩)))),
  o p5 (.p (.mv (.c (.bool false))))])
  (.seq (.seq (.reg [o p6 (.p (.mv (.t p0))),
  o p7 (.p (.mv (.t p1))),
  o p8 (.call 324 [(.t p6), (.t p7)]),
  o p9 (.p (.un .not (.t p8)))])
  (.cond (.t p9) (.seq (.reg [o p10 (.p (.mv (.t p0))),
  o p4 (.p (.mv (.t p10))),
  o p5 (.p (.mv (.c (.bool false))))])
  (.ret))
  (.skip)))
  (.seq (.reg [o p11 (.p (.mv (.t p0))),
  o p12 (.p (.mv (.t p1))),
  o p13 (.p (.lenP true (.t p12))),
  o p14 (.p (.slS (.t p11) (some (.t p13)) none)),
  o p4 (.p (.mv (.t p14))),
  o p5 (.p (.mv (.c (.bool true))))])
  (.ret)))⟩
def c276 : CFunc := ⟨[.cell p2 2 true, .t p3], .seq (.reg [o p2 (.a (.alc [(.int .u32 0), (.int .i64 0)])),
  o p3 (.p (.mv (.c (.int .i64 0))))])
  (.seq (.reg [o p12 (.p (.mv (.t p0))),
  o p13 (.call 220 [(.t p12), (.c (.string ⟨⟨[47]⟩⟩))]),
  o p11 (.p (.mv (.t p13))),
  o p14 (.p (.ext 0 (.t p11))),
  o p15 (.p (.ext 1 (.t p11))),
  o p16 (.p (.ext 2 (.t p11))),
  o p4 (.p (.mv (.t p14))),
  o p5 (.p (.mv (.t p15))),
  o p6 (.p (.mv (.t p16)))])
  (.seq (.reg [o p18 (.p (.mv (.t p4))),
  o p19 (.call 325 [(.t p18)]),
  o p17 (.p (.mv (.t p19))),
  o p20 (.p (.ext 0 (.t p17))),
  o p21 (.p (.ext 1 (.t p17))),
  o p7 (.p (.mv (.t p20))),
  o p8 (.p (.mv (.t p21)))])
  (.seq (.seq (.reg [o p22 (.p (.mv (.t p6))),
  o p23 (.p (.un .not (.t p22))),
  o p24 (.p (.mv (.t p23))),
  g (some p25) p24 false (.p (.mv (.t p8))),
  g (some p26) p24 false (.p (.bin .i .neq (.t p25) (.c (.int .i64 0)))),
  o p27 (.p (.pick (.t p24) (.c (.bool true)) (.t p26))),
  o p28 (.p (.mv (.t p27))),
  g (some p29) p28 false (.p (.mv (.t p5))),
  g (some p30) p28 false (.p (.bin .s .eql (.t p29) (.c (.string ⟨⟨[]⟩⟩)))),
  o p31 (.p (.pick (.t p28) (.c (.bool true)) (.t p30))),
  o p32 (.p (.mv (.t p31))),
  g (some p33) p32 false (.p (.mv (.t p5))),
  g (some p34) p32 false (.p (.lenP true (.t p33))),
  g (some p35) p32 false (.p (.bin .i .gtr (.t p34) (.c (.int .i64 2)))),
  o p36 (.p (.pick (.t p32) (.c (.bool true)) (.t p35)))])
  (.cond (.t p36) (.seq (.reg [o p37 (.p (.bld [(.int .u32 0), (.int .i64 0)] [])),
  n (.w (.st 2 (.t p2) (.t p37))),
  o p3 (.p (.mv (.c (.int .i64 3))))])
  (.ret))
  (.skip)))
  (.seq (.reg [o p38 (.p (.mv (.t p7))),
  o p39 (.p (.bld [(.int .u32 0), (.int .i64 0)] [(0, 1, (.t p38))])),
  o p9 (.a (.alc [(.int .u32 0), (.int .i64 0)])),
  n (.w (.st 2 (.t p9) (.t p39)))])
  (.seq (.seq (.reg [o p40 (.p (.mv (.t p5))),
  o p41 (.p (.lenP true (.t p40))),
  o p42 (.p (.mv (.c (.int .i64 0))))])
  (.block 0 (.loop (.seq (.reg [o p43 (.p (.bin .i .lss (.t p42) (.t p41)))])
  (.seq (.cond (.t p43) (.skip)
  (.exit 0))
  (.seq (.block 1 (.seq (.reg [o p44 (.p (.mv (.t p42))),
  o p10 (.p (.mv (.t p44)))])
  (.dreg [o p45 (.p (.fa 1 (.t p9))),
  o p46 (.r (.ld 1 false (.t p45))),
  o p47 (.p (.bin .i .mul (.c (.int .i64 10)) (.t p46))),
  o p48 (.p (.mv (.t p5))),
  o p49 (.p (.mv (.t p10))),
  o p50 (.p (.ixS (.t p48) (.t p49))),
  o p51 (.p (.conv .i64 (.t p50))),
  o p52 (.p (.bin .i .add (.t p47) (.t p51))),
  o p53 (.p (.bin .i .sub (.t p52) (.c (.int .i64 48)))),
  o p54 (.p (.fa 1 (.t p9))),
  n (.w (.st 1 (.t p54) (.t p53)))] [[], [], [], [], [], [], [], [], [], [], []])))
  (.reg [o p55 (.p (.bin .i .add (.t p42) (.c (.int .i64 1)))),
  o p42 (.p (.mv (.t p55)))])))))))
  (.seq (.seq (.reg [o p56 (.r (.ld 2 true (.t p9))),
  o p57 (.call 297 [(.t p56)]),
  o p58 (.p (.mv (.t p0))),
  o p59 (.p (.bin .s .neq (.t p57) (.t p58)))])
  (.cond (.t p59) (.seq (.reg [o p60 (.p (.bld [(.int .u32 0), (.int .i64 0)] [])),
  n (.w (.st 2 (.t p2) (.t p60))),
  o p3 (.p (.mv (.c (.int .i64 3))))])
  (.ret))
  (.skip)))
  (.seq (.reg [o p61 (.r (.ld 2 true (.t p9))),
  n (.w (.st 2 (.t p2) (.t p61))),
  o p3 (.p (.mv (.c (.int .i64 0))))])
  (.ret))))))))⟩
def c277 : CFunc := ⟨[], .seq (.reg [o p2 (.p (.mv (.t p0))),
  o p3 (.p (.bin .p .neq (.t p2) (.c (.pointer none))))])
  (.cond (.t p3) (.reg [o p4 (.p (.mv (.t p0))),
  o p5 (.p (.nck (.t p4))),
  o p6 (.p (.fa 1 (.t p5))),
  n (.w (.st 1 (.t p6) (.c (.bool true))))])
  (.skip))⟩
def c278 : CFunc := ⟨[.t p4, .t p5, .t p6], .seq (.reg [o p4 (.p (.mv (.c (.string ⟨⟨[]⟩⟩)))),
  o p5 (.p (.mv (.c (.string ⟨⟨[]⟩⟩)))),
  o p6 (.p (.mv (.c (.bool false))))])
  (.seq (.seq (.reg [o p8 (.p (.mv (.t p0))),
  o p9 (.p (.mv (.t p1))),
  o p10 (.call 326 [(.t p8), (.t p9)]),
  o p7 (.p (.mv (.t p10)))])
  (.seq (.reg [o p11 (.p (.mv (.t p7))),
  o p12 (.p (.bin .i .geq (.t p11) (.c (.int .i64 0))))])
  (.cond (.t p12) (.seq (.dreg [o p13 (.p (.mv (.t p0))),
  o p14 (.p (.mv (.t p7))),
  o p15 (.p (.slS (.t p13) none (some (.t p14)))),
  o p16 (.p (.mv (.t p0))),
  o p17 (.p (.mv (.t p7))),
  o p18 (.p (.mv (.t p1))),
  o p19 (.p (.lenP true (.t p18))),
  o p20 (.p (.bin .i .add (.t p17) (.t p19))),
  o p21 (.p (.slS (.t p16) (some (.t p20)) none)),
  o p4 (.p (.mv (.t p15))),
  o p5 (.p (.mv (.t p21))),
  o p6 (.p (.mv (.c (.bool true))))] [[], [], [], [], [], [], [], [], [], [], [], []])
  (.ret))
  (.skip))))
  (.seq (.reg [o p22 (.p (.mv (.t p0))),
  o p4 (.p (.mv (.t p22))),
  o p5 (.p (.mv (.c (.string ⟨⟨[]⟩⟩)))),
  o p6 (.p (.mv (.c (.bool false))))])
  (.ret)))⟩
def c279 : CFunc := ⟨[.t p2], .seq (.reg [o p2 (.p (.mv (.c (.bool false))))])
  (.seq (.block 0 (.seq (.seq (.reg [o p4 (.p (.mv (.t p0))),
  o p5 (.p (.bin .i .geq (.t p4) (.c (.int .i32 97)))),
  o p6 (.p (.mv (.t p5))),
  g (some p7) p6 true (.p (.mv (.t p0))),
  g (some p8) p6 true (.p (.bin .i .leq (.t p7) (.c (.int .i32 122)))),
  o p9 (.p (.pick (.t p6) (.t p8) (.c (.bool false)))),
  o p3 (.p (.mv (.t p9)))])
  (.cond (.t p3) (.skip)
  (.seq (.reg [o p10 (.p (.mv (.t p0))),
  o p11 (.p (.bin .i .geq (.t p10) (.c (.int .i32 65)))),
  o p12 (.p (.mv (.t p11))),
  g (some p13) p12 true (.p (.mv (.t p0))),
  g (some p14) p12 true (.p (.bin .i .leq (.t p13) (.c (.int .i32 90)))),
  o p15 (.p (.pick (.t p12) (.t p14) (.c (.bool false)))),
  o p3 (.p (.mv (.t p15)))])
  (.cond (.t p3) (.skip)
  (.reg [o p16 (.p (.mv (.t p0))),
  o p17 (.p (.bin .i .geq (.t p16) (.c (.int .i32 48)))),
  o p18 (.p (.mv (.t p17))),
  g (some p19) p18 true (.p (.mv (.t p0))),
  g (some p20) p18 true (.p (.bin .i .leq (.t p19) (.c (.int .i32 57)))),
  o p21 (.p (.pick (.t p18) (.t p20) (.c (.bool false)))),
  o p3 (.p (.mv (.t p21)))])))))
  (.cond (.t p3) (.seq (.reg [o p2 (.p (.mv (.c (.bool true))))])
  (.ret))
  (.seq (.seq (.reg [o p23 (.p (.mv (.t p0))),
  o p24 (.p (.bin .i .eql (.t p23) (.c (.int .i32 46)))),
  o p22 (.p (.mv (.t p24)))])
  (.cond (.t p22) (.skip)
  (.seq (.reg [o p25 (.p (.mv (.t p0))),
  o p26 (.p (.bin .i .eql (.t p25) (.c (.int .i32 45)))),
  o p22 (.p (.mv (.t p26)))])
  (.cond (.t p22) (.skip)
  (.reg [o p27 (.p (.mv (.t p0))),
  o p28 (.p (.bin .i .eql (.t p27) (.c (.int .i32 95)))),
  o p22 (.p (.mv (.t p28)))])))))
  (.cond (.t p22) (.seq (.reg [o p2 (.p (.mv (.c (.bool true))))])
  (.ret))
  (.skip))))))
  (.seq (.reg [o p2 (.p (.mv (.c (.bool false))))])
  (.ret)))⟩
def c280 : CFunc := ⟨[.t p2], .seq (.reg [o p2 (.p (.mv (.c (.int .u32 0))))])
  (.seq (.reg [o p3 (.p (.mv (.t p0))),
  o p4 (.call 129 [(.c (.int .i64 26))]),
  o p5 (.p (.bin .i .and (.t p3) (.t p4))),
  o p2 (.p (.mv (.t p5)))])
  (.ret))⟩
def c281 : CFunc := ⟨[.t p4], .seq (.reg [o p4 (.p (.mv (.c (.int .u64 0))))])
  (.seq (.seq (.reg [o p5 (.p (.mv (.t p1))),
  o p6 (.call 327 [(.t p5)]),
  o p7 (.p (.un .not (.t p6)))])
  (.cond (.t p7) (.seq (.reg [o p8 (.p (.mv (.t p0))),
  o p4 (.p (.mv (.t p8)))])
  (.ret))
  (.skip)))
  (.seq (.reg [o p9 (.p (.mv (.t p0))),
  o p10 (.p (.mv (.t p1))),
  o p11 (.call 328 [(.t p10)]),
  o p12 (.p (.bin .i .or (.t p9) (.t p11))),
  o p4 (.p (.mv (.t p12)))])
  (.ret)))⟩
def c282 : CFunc := ⟨[.t p2], .seq (.reg [o p1 (.a (.box 2 (.t p0))),
  o p2 (.p (.mv (.c (.bool false))))])
  (.seq (.reg [o p3 (.p (.fa 0 (.t p1))),
  o p4 (.r (.ld 1 false (.t p3))),
  o p5 (.call 221 [(.t p4)]),
  o p6 (.p (.mv (.t p5))),
  g (some p7) p6 true (.p (.fa 1 (.t p1))),
  g (some p8) p6 true (.r (.ld 1 false (.t p7))),
  g (some p9) p6 true (.call 221 [(.t p8)]),
  o p10 (.p (.pick (.t p6) (.t p9) (.c (.bool false)))),
  o p2 (.p (.mv (.t p10)))])
  (.ret))⟩
def c283 : CFunc := ⟨[.t p2], .seq (.reg [o p2 (.p (.mv (.c (.int .i64 0))))])
  (.seq (.reg [o p3 (.p (.mv (.c (.int .i64 0))))])
  (.seq (.block 0 (.loop (.seq (.seq (.reg [o p4 (.p (.mv (.t p0))),
  o p5 (.p (.bin .i .neq (.t p4) (.c (.int .u64 0))))])
  (.cond (.t p5) (.skip)
  (.exit 0)))
  (.seq (.block 1 (.reg [o p10 (.p (.mv (.t p3))),
  o p11 (.p (.bin .i .add (.t p10) (.c (.int .i64 1)))),
  o p3 (.p (.mv (.t p11)))]))
  (.reg [o p6 (.p (.mv (.t p0))),
  o p7 (.p (.mv (.t p0))),
  o p8 (.p (.bin .i .sub (.t p7) (.c (.int .u64 1)))),
  o p9 (.p (.bin .i .and (.t p6) (.t p8))),
  o p0 (.p (.mv (.t p9)))])))))
  (.seq (.reg [o p12 (.p (.mv (.t p3))),
  o p2 (.p (.mv (.t p12)))])
  (.ret))))⟩
def c284 : CFunc := ⟨[.t p4], .seq (.reg [o p4 (.p (.mv (.c (.bool false))))])
  (.seq (.reg [o p5 (.p (.mv (.t p1))),
  o p6 (.call 327 [(.t p5)]),
  o p7 (.p (.mv (.t p6))),
  g (some p8) p7 true (.p (.mv (.t p0))),
  g (some p9) p7 true (.p (.mv (.t p1))),
  g (some p10) p7 true (.p (.bin .i .shr (.t p8) (.t p9))),
  g (some p11) p7 true (.p (.bin .i .and (.t p10) (.c (.int .u64 1)))),
  g (some p12) p7 true (.p (.bin .i .eql (.t p11) (.c (.int .u64 1)))),
  o p13 (.p (.pick (.t p7) (.t p12) (.c (.bool false)))),
  o p4 (.p (.mv (.t p13)))])
  (.ret))⟩
def c286 : CFunc := ⟨[.t p2], .seq (.reg [o p2 (.p (.mv (.c (.int .u64 0))))])
  (.seq (.reg [o p3 (.p (.mv (.t p0))),
  o p4 (.p (.conv .u64 (.t p3))),
  o p5 (.call 150 [(.t p4)]),
  o p6 (.p (.bin .i .shl (.c (.int .u64 1)) (.t p5))),
  o p2 (.p (.mv (.t p6)))])
  (.ret))⟩
def c287 : CFunc := ⟨[.t p2], .seq (.reg [o p2 (.p (.mv (.c (.int .u64 0))))])
  (.seq (.dreg [o p3 (.p (.mv (.t p0))),
  o p4 (.p (.nck (.t p3))),
  o p5 (.r (.ld 1 false (.t p4))),
  o p6 (.p (.mv (.t p0))),
  o p7 (.p (.nck (.t p6))),
  o p8 (.r (.ld 1 false (.t p7))),
  o p9 (.p (.bin .i .shl (.t p8) (.c (.int .u64 13)))),
  o p10 (.p (.bin .i .xor (.t p5) (.t p9))),
  o p11 (.p (.nck (.t p3))),
  n (.w (.st 1 (.t p11) (.t p10)))] [[], [], [], [], [], [], [], [], [], []])
  (.seq (.dreg [o p12 (.p (.mv (.t p0))),
  o p13 (.p (.nck (.t p12))),
  o p14 (.r (.ld 1 false (.t p13))),
  o p15 (.p (.mv (.t p0))),
  o p16 (.p (.nck (.t p15))),
  o p17 (.r (.ld 1 false (.t p16))),
  o p18 (.p (.bin .i .shr (.t p17) (.c (.int .u64 7)))),
  o p19 (.p (.bin .i .xor (.t p14) (.t p18))),
  o p20 (.p (.nck (.t p12))),
  n (.w (.st 1 (.t p20) (.t p19)))] [[], [], [], [], [], [], [], [], [], []])
  (.seq (.dreg [o p21 (.p (.mv (.t p0))),
  o p22 (.p (.nck (.t p21))),
  o p23 (.r (.ld 1 false (.t p22))),
  o p24 (.p (.mv (.t p0))),
  o p25 (.p (.nck (.t p24))),
  o p26 (.r (.ld 1 false (.t p25))),
  o p27 (.p (.bin .i .shl (.t p26) (.c (.int .u64 17)))),
  o p28 (.p (.bin .i .xor (.t p23) (.t p27))),
  o p29 (.p (.nck (.t p21))),
  n (.w (.st 1 (.t p29) (.t p28)))] [[], [], [], [], [], [], [], [], [], []])
  (.seq (.reg [o p30 (.p (.mv (.t p0))),
  o p31 (.p (.nck (.t p30))),
  o p32 (.r (.ld 1 false (.t p31))),
  o p2 (.p (.mv (.t p32)))])
  (.ret)))))⟩
def c290 : CFunc := ⟨[.t p2], .seq (.reg [o p2 (.p (.mv (.c (.bool false))))])
  (.seq (.reg [o p3 (.p (.mv (.t p0))),
  o p4 (.p (.mv (.t p0))),
  o p5 (.p (.bin .i .neq (.t p3) (.t p4))),
  o p2 (.p (.mv (.t p5)))])
  (.ret))⟩
def c297 : CFunc := ⟨[.t p2], .seq (.reg [o p1 (.a (.box 2 (.t p0))),
  o p2 (.p (.mv (.c (.string ⟨⟨[]⟩⟩))))])
  (.seq (.seq (.reg [o p3 (.r (.ld 2 true (.t p1))),
  o p4 (.call 249 [(.t p3)]),
  o p5 (.p (.un .not (.t p4)))])
  (.cond (.t p5) (.seq (.reg [o p2 (.p (.mv (.c (.string ⟨⟨[]⟩⟩))))])
  (.ret))
  (.skip)))
  (.seq (.dreg [o p6 (.p (.fa 0 (.t p1))),
  o p7 (.r (.ld 1 false (.t p6))),
  o p10 (.p (.fa 1 (.t p1))),
  o p11 (.r (.ld 1 false (.t p10))),
  o p8 (.call 343 [(.t p7)]),
  o p9 (.p (.bin .s .add (.t p8) (.c (.string ⟨⟨[47]⟩⟩)))),
  o p12 (.call 344 [(.t p11)]),
  o p13 (.p (.bin .s .add (.t p9) (.t p12))),
  o p2 (.p (.mv (.t p13)))] [[], [], [], [], [3], [], [], [], []])
  (.ret)))⟩
def c307 : CFunc := ⟨[], .seq (.reg [o p10 (.p (.mv (.t p1))),
  o p11 (.p (.bin .i .add (.t p10) (.c (.int .i64 1)))),
  o p8 (.p (.mv (.t p11)))])
  (.block 0 (.loop (.seq (.seq (.reg [o p12 (.p (.mv (.t p8))),
  o p13 (.p (.mv (.t p2))),
  o p14 (.p (.bin .i .lss (.t p12) (.t p13)))])
  (.cond (.t p14) (.skip)
  (.exit 0)))
  (.seq (.block 1 (.seq (.reg [o p17 (.p (.mv (.t p8))),
  o p9 (.p (.mv (.t p17)))])
  (.block 2 (.loop (.seq (.seq (.dreg [o p18 (.p (.mv (.t p9))),
  o p19 (.p (.mv (.t p1))),
  o p20 (.p (.bin .i .gtr (.t p18) (.t p19))),
  o p21 (.p (.mv (.t p20))),
  g (some p22) p21 true (.p (.mv (.t p3))),
  g (some p23) p21 true (.p (.mv (.t p0))),
  g (some p24) p21 true (.p (.mv (.t p9))),
  g (some p25) p21 true (.p (.iaL 2 (.t p23) (.t p24))),
  g (some p26) p21 true (.r (.ld 2 true (.t p25))),
  g (some p27) p21 true (.p (.mv (.t p0))),
  g (some p28) p21 true (.p (.mv (.t p9))),
  g (some p29) p21 true (.p (.bin .i .sub (.t p28) (.c (.int .i64 1)))),
  g (some p30) p21 true (.p (.iaL 2 (.t p27) (.t p29))),
  g (some p31) p21 true (.r (.ld 2 true (.t p30))),
  g (some p32) p21 true (.callv (.t p22) [(.t p26), (.t p31)]),
  g (some p33) p21 true (.p (.bin .i .lss (.t p32) (.c (.int .i64 0)))),
  o p34 (.p (.pick (.t p21) (.t p33) (.c (.bool false))))] [[], [], [], [], [], [], [], [], [], [], [], [], [], [], [], [], []])
  (.cond (.t p34) (.skip)
  (.exit 2)))
  (.seq (.block 3 (.dreg [o p37 (.p (.mv (.t p0))),
  o p38 (.p (.mv (.t p9))),
  o p39 (.p (.mv (.t p0))),
  o p40 (.p (.mv (.t p9))),
  o p41 (.p (.bin .i .sub (.t p40) (.c (.int .i64 1)))),
  o p42 (.p (.mv (.t p0))),
  o p43 (.p (.mv (.t p9))),
  o p44 (.p (.bin .i .sub (.t p43) (.c (.int .i64 1)))),
  o p45 (.p (.iaL 2 (.t p42) (.t p44))),
  o p46 (.r (.ld 2 true (.t p45))),
  o p47 (.p (.mv (.t p0))),
  o p48 (.p (.mv (.t p9))),
  o p49 (.p (.iaL 2 (.t p47) (.t p48))),
  o p50 (.r (.ld 2 true (.t p49))),
  o p51 (.p (.iaL 2 (.t p37) (.t p38))),
  n (.w (.st 2 (.t p51) (.t p46))),
  o p52 (.p (.iaL 2 (.t p39) (.t p41))),
  n (.w (.st 2 (.t p52) (.t p50)))] [[], [], [], [], [], [], [], [], [], [], [], [], [], [], [], [], [], []]))
  (.reg [o p35 (.p (.mv (.t p9))),
  o p36 (.p (.bin .i .sub (.t p35) (.c (.int .i64 1)))),
  o p9 (.p (.mv (.t p36)))])))))))
  (.reg [o p15 (.p (.mv (.t p8))),
  o p16 (.p (.bin .i .add (.t p15) (.c (.int .i64 1)))),
  o p8 (.p (.mv (.t p16)))])))))⟩
def c308 : CFunc := ⟨[], .seq (.reg [o p13 (.p (.mv (.t p1))),
  o p8 (.p (.mv (.t p13)))])
  (.seq (.reg [o p9 (.p (.mv (.c (.int .i64 0))))])
  (.seq (.reg [o p14 (.p (.mv (.t p2))),
  o p15 (.p (.mv (.t p1))),
  o p16 (.p (.bin .i .sub (.t p14) (.t p15))),
  o p10 (.p (.mv (.t p16)))])
  (.seq (.seq (.reg [o p17 (.p (.mv (.t p10))),
  o p18 (.p (.bin .i .sub (.t p17) (.c (.int .i64 1)))),
  o p19 (.p (.bin .i .quo (.t p18) (.c (.int .i64 2)))),
  o p11 (.p (.mv (.t p19)))])
  (.block 0 (.loop (.seq (.seq (.reg [o p20 (.p (.mv (.t p11))),
  o p21 (.p (.bin .i .geq (.t p20) (.c (.int .i64 0))))])
  (.cond (.t p21) (.skip)
  (.exit 0)))
  (.seq (.block 1 (.reg [o p24 (.p (.mv (.t p0))),
  o p25 (.p (.mv (.t p11))),
  o p26 (.p (.mv (.t p10))),
  o p27 (.p (.mv (.t p8))),
  o p28 (.p (.mv (.t p3))),
  o p29 (.call 348 [(.t p24), (.t p25), (.t p26), (.t p27), (.t p28)])]))
  (.reg [o p22 (.p (.mv (.t p11))),
  o p23 (.p (.bin .i .sub (.t p22) (.c (.int .i64 1)))),
  o p11 (.p (.mv (.t p23)))]))))))
  (.seq (.reg [o p30 (.p (.mv (.t p10))),
  o p31 (.p (.bin .i .sub (.t p30) (.c (.int .i64 1)))),
  o p12 (.p (.mv (.t p31)))])
  (.block 2 (.loop (.seq (.seq (.reg [o p32 (.p (.mv (.t p12))),
  o p33 (.p (.bin .i .geq (.t p32) (.c (.int .i64 0))))])
  (.cond (.t p33) (.skip)
  (.exit 2)))
  (.seq (.block 3 (.seq (.dreg [o p36 (.p (.mv (.t p0))),
  o p37 (.p (.mv (.t p8))),
  o p38 (.p (.mv (.t p0))),
  o p39 (.p (.mv (.t p8))),
  o p40 (.p (.mv (.t p12))),
  o p41 (.p (.bin .i .add (.t p39) (.t p40))),
  o p42 (.p (.mv (.t p0))),
  o p43 (.p (.mv (.t p8))),
  o p44 (.p (.mv (.t p12))),
  o p45 (.p (.bin .i .add (.t p43) (.t p44))),
  o p46 (.p (.iaL 2 (.t p42) (.t p45))),
  o p47 (.r (.ld 2 true (.t p46))),
  o p48 (.p (.mv (.t p0))),
  o p49 (.p (.mv (.t p8))),
  o p50 (.p (.iaL 2 (.t p48) (.t p49))),
  o p51 (.r (.ld 2 true (.t p50))),
  o p52 (.p (.iaL 2 (.t p36) (.t p37))),
  n (.w (.st 2 (.t p52) (.t p47))),
  o p53 (.p (.iaL 2 (.t p38) (.t p41))),
  n (.w (.st 2 (.t p53) (.t p51)))] [[], [], [], [], [], [], [], [], [], [], [], [], [], [], [], [], [], [], [], []])
  (.reg [o p54 (.p (.mv (.t p0))),
  o p55 (.p (.mv (.t p9))),
  o p56 (.p (.mv (.t p12))),
  o p57 (.p (.mv (.t p8))),
  o p58 (.p (.mv (.t p3))),
  o p59 (.call 348 [(.t p54), (.t p55), (.t p56), (.t p57), (.t p58)])])))
  (.reg [o p34 (.p (.mv (.t p12))),
  o p35 (.p (.bin .i .sub (.t p34) (.c (.int .i64 1)))),
  o p12 (.p (.mv (.t p35)))])))))))))⟩
def c309 : CFunc := ⟨[], .seq (.reg [o p13 (.p (.mv (.t p2))),
  o p14 (.p (.mv (.t p1))),
  o p15 (.p (.bin .i .sub (.t p13) (.t p14))),
  o p8 (.p (.mv (.t p15)))])
  (.seq (.reg [o p16 (.p (.mv (.t p8))),
  o p17 (.p (.bin .i .geq (.t p16) (.c (.int .i64 8))))])
  (.cond (.t p17) (.seq (.reg [o p18 (.p (.mv (.t p8))),
  o p19 (.p (.conv .u64 (.t p18))),
  o p9 (.a (.alc [(.int .u64 0)])),
  n (.w (.st 1 (.t p9) (.t p19)))])
  (.seq (.reg [o p20 (.p (.mv (.t p8))),
  o p21 (.call 286 [(.t p20)]),
  o p10 (.p (.mv (.t p21)))])
  (.seq (.reg [o p22 (.p (.mv (.t p1))),
  o p23 (.p (.mv (.t p8))),
  o p24 (.p (.bin .i .quo (.t p23) (.c (.int .i64 4)))),
  o p25 (.p (.bin .i .mul (.t p24) (.c (.int .i64 2)))),
  o p26 (.p (.bin .i .add (.t p22) (.t p25))),
  o p27 (.p (.bin .i .sub (.t p26) (.c (.int .i64 1)))),
  o p11 (.p (.mv (.t p27)))])
  (.block 0 (.loop (.seq (.seq (.reg [o p28 (.p (.mv (.t p11))),
  o p29 (.p (.mv (.t p1))),
  o p30 (.p (.mv (.t p8))),
  o p31 (.p (.bin .i .quo (.t p30) (.c (.int .i64 4)))),
  o p32 (.p (.bin .i .mul (.t p31) (.c (.int .i64 2)))),
  o p33 (.p (.bin .i .add (.t p29) (.t p32))),
  o p34 (.p (.bin .i .add (.t p33) (.c (.int .i64 1)))),
  o p35 (.p (.bin .i .leq (.t p28) (.t p34)))])
  (.cond (.t p35) (.skip)
  (.exit 0)))
  (.seq (.block 1 (.seq (.reg [o p38 (.call 287 [(.t p9)]),
  o p39 (.p (.mv (.t p10))),
  o p40 (.p (.bin .i .sub (.t p39) (.c (.int .u64 1)))),
  o p41 (.p (.bin .i .and (.t p38) (.t p40))),
  o p42 (.p (.conv .i64 (.t p41))),
  o p12 (.p (.mv (.t p42)))])
  (.seq (.seq (.reg [o p43 (.p (.mv (.t p12))),
  o p44 (.p (.mv (.t p8))),
  o p45 (.p (.bin .i .geq (.t p43) (.t p44)))])
  (.cond (.t p45) (.reg [o p46 (.p (.mv (.t p12))),
  o p47 (.p (.mv (.t p8))),
  o p48 (.p (.bin .i .sub (.t p46) (.t p47))),
  o p12 (.p (.mv (.t p48)))])
  (.skip)))
  (.dreg [o p49 (.p (.mv (.t p0))),
  o p50 (.p (.mv (.t p11))),
  o p51 (.p (.mv (.t p0))),
  o p52 (.p (.mv (.t p1))),
  o p53 (.p (.mv (.t p12))),
  o p54 (.p (.bin .i .add (.t p52) (.t p53))),
  o p55 (.p (.mv (.t p0))),
  o p56 (.p (.mv (.t p1))),
  o p57 (.p (.mv (.t p12))),
  o p58 (.p (.bin .i .add (.t p56) (.t p57))),
  o p59 (.p (.iaL 2 (.t p55) (.t p58))),
  o p60 (.r (.ld 2 true (.t p59))),
  o p61 (.p (.mv (.t p0))),
  o p62 (.p (.mv (.t p11))),
  o p63 (.p (.iaL 2 (.t p61) (.t p62))),
  o p64 (.r (.ld 2 true (.t p63))),
  o p65 (.p (.iaL 2 (.t p49) (.t p50))),
  n (.w (.st 2 (.t p65) (.t p60))),
  o p66 (.p (.iaL 2 (.t p51) (.t p54))),
  n (.w (.st 2 (.t p66) (.t p64)))] [[], [], [], [], [], [], [], [], [], [], [], [], [], [], [], [], [], [], [], []]))))
  (.reg [o p36 (.p (.mv (.t p11))),
  o p37 (.p (.bin .i .add (.t p36) (.c (.int .i64 1)))),
  o p11 (.p (.mv (.t p37)))]))))))))
  (.skip)))⟩
def c310 : CFunc := ⟨[.t p8, .t p9], .seq (.reg [o p8 (.p (.mv (.c (.int .i64 0)))),
  o p9 (.p (.mv (.c (.int .i64 0))))])
  (.seq (.reg [o p15 (.p (.mv (.t p2))),
  o p16 (.p (.mv (.t p1))),
  o p17 (.p (.bin .i .sub (.t p15) (.t p16))),
  o p10 (.p (.mv (.t p17)))])
  (.seq (.reg [o p11 (.a (.alc [(.int .i64 0)]))])
  (.seq (.reg [o p18 (.p (.mv (.t p1))),
  o p19 (.p (.mv (.t p10))),
  o p20 (.p (.bin .i .quo (.t p19) (.c (.int .i64 4)))),
  o p21 (.p (.bin .i .mul (.t p20) (.c (.int .i64 1)))),
  o p22 (.p (.bin .i .add (.t p18) (.t p21))),
  o p12 (.p (.mv (.t p22)))])
  (.seq (.reg [o p23 (.p (.mv (.t p1))),
  o p24 (.p (.mv (.t p10))),
  o p25 (.p (.bin .i .quo (.t p24) (.c (.int .i64 4)))),
  o p26 (.p (.bin .i .mul (.t p25) (.c (.int .i64 2)))),
  o p27 (.p (.bin .i .add (.t p23) (.t p26))),
  o p13 (.p (.mv (.t p27)))])
  (.seq (.reg [o p28 (.p (.mv (.t p1))),
  o p29 (.p (.mv (.t p10))),
  o p30 (.p (.bin .i .quo (.t p29) (.c (.int .i64 4)))),
  o p31 (.p (.bin .i .mul (.t p30) (.c (.int .i64 3)))),
  o p32 (.p (.bin .i .add (.t p28) (.t p31))),
  o p14 (.p (.mv (.t p32)))])
  (.seq (.seq (.reg [o p33 (.p (.mv (.t p10))),
  o p34 (.p (.bin .i .geq (.t p33) (.c (.int .i64 8))))])
  (.cond (.t p34) (.seq (.seq (.reg [o p35 (.p (.mv (.t p10))),
  o p36 (.p (.bin .i .geq (.t p35) (.c (.int .i64 50))))])
  (.cond (.t p36) (.seq (.reg [o p37 (.p (.mv (.t p0))),
  o p38 (.p (.mv (.t p12))),
  o p39 (.p (.mv (.t p3))),
  o p40 (.call 349 [(.t p37), (.t p38), (.t p11), (.t p39)]),
  o p12 (.p (.mv (.t p40)))])
  (.seq (.reg [o p41 (.p (.mv (.t p0))),
  o p42 (.p (.mv (.t p13))),
  o p43 (.p (.mv (.t p3))),
  o p44 (.call 349 [(.t p41), (.t p42), (.t p11), (.t p43)]),
  o p13 (.p (.mv (.t p44)))])
  (.reg [o p45 (.p (.mv (.t p0))),
  o p46 (.p (.mv (.t p14))),
  o p47 (.p (.mv (.t p3))),
  o p48 (.call 349 [(.t p45), (.t p46), (.t p11), (.t p47)]),
  o p14 (.p (.mv (.t p48)))])))
  (.skip)))
  (.reg [o p49 (.p (.mv (.t p0))),
  o p50 (.p (.mv (.t p12))),
  o p51 (.p (.mv (.t p13))),
  o p52 (.p (.mv (.t p14))),
  o p53 (.p (.mv (.t p3))),
  o p54 (.call 350 [(.t p49), (.t p50), (.t p51), (.t p52), (.t p11), (.t p53)]),
  o p13 (.p (.mv (.t p54)))]))
  (.skip)))
  (.seq (.reg [o p55 (.r (.ld 1 false (.t p11)))])
  (.block 0 (.seq (.reg [o p58 (.p (.bin .i .eql (.t p55) (.c (.int .i64 0)))),
  o p57 (.p (.mv (.t p58)))])
  (.cond (.t p57) (.seq (.reg [o p59 (.p (.mv (.t p13))),
  o p8 (.p (.mv (.t p59))),
  o p9 (.p (.mv (.c (.int .i64 1))))])
  (.ret))
  (.seq (.reg [o p61 (.p (.bin .i .eql (.t p55) (.c (.int .i64 12)))),
  o p60 (.p (.mv (.t p61)))])
  (.cond (.t p60) (.seq (.reg [o p62 (.p (.mv (.t p13))),
  o p8 (.p (.mv (.t p62))),
  o p9 (.p (.mv (.c (.int .i64 2))))])
  (.ret))
  (.seq (.reg [o p56 (.p (.mv (.t p13))),
  o p8 (.p (.mv (.t p56))),
  o p9 (.p (.mv (.c (.int .i64 0))))])
  (.ret))))))))))))))⟩
def c311 : CFunc := ⟨[], .seq (.reg [o p10 (.p (.mv (.t p1))),
  o p8 (.p (.mv (.t p10)))])
  (.seq (.reg [o p11 (.p (.mv (.t p2))),
  o p12 (.p (.bin .i .sub (.t p11) (.c (.int .i64 1)))),
  o p9 (.p (.mv (.t p12)))])
  (.block 0 (.loop (.seq (.seq (.reg [o p13 (.p (.mv (.t p8))),
  o p14 (.p (.mv (.t p9))),
  o p15 (.p (.bin .i .lss (.t p13) (.t p14)))])
  (.cond (.t p15) (.skip)
  (.exit 0)))
  (.block 1 (.seq (.dreg [o p16 (.p (.mv (.t p0))),
  o p17 (.p (.mv (.t p8))),
  o p18 (.p (.mv (.t p0))),
  o p19 (.p (.mv (.t p9))),
  o p20 (.p (.mv (.t p0))),
  o p21 (.p (.mv (.t p9))),
  o p22 (.p (.iaL 2 (.t p20) (.t p21))),
  o p23 (.r (.ld 2 true (.t p22))),
  o p24 (.p (.mv (.t p0))),
  o p25 (.p (.mv (.t p8))),
  o p26 (.p (.iaL 2 (.t p24) (.t p25))),
  o p27 (.r (.ld 2 true (.t p26))),
  o p28 (.p (.iaL 2 (.t p16) (.t p17))),
  n (.w (.st 2 (.t p28) (.t p23))),
  o p29 (.p (.iaL 2 (.t p18) (.t p19))),
  n (.w (.st 2 (.t p29) (.t p27)))] [[], [], [], [], [], [], [], [], [], [], [], [], [], [], [], []])
  (.seq (.reg [o p30 (.p (.mv (.t p8))),
  o p31 (.p (.bin .i .add (.t p30) (.c (.int .i64 1)))),
  o p8 (.p (.mv (.t p31)))])
  (.reg [o p32 (.p (.mv (.t p9))),
  o p33 (.p (.bin .i .sub (.t p32) (.c (.int .i64 1)))),
  o p9 (.p (.mv (.t p33)))]))))))))⟩
def c312 : CFunc := ⟨[.t p8], .seq (.reg [o p8 (.p (.mv (.c (.bool false))))])
  (.seq (.reg [o p13 (.p (.mv (.t p1))),
  o p14 (.p (.bin .i .add (.t p13) (.c (.int .i64 1)))),
  o p9 (.p (.mv (.t p14)))])
  (.seq (.seq (.reg [o p10 (.p (.mv (.c (.int .i64 0))))])
  (.block 0 (.loop (.seq (.seq (.reg [o p15 (.p (.mv (.t p10))),
  o p16 (.p (.bin .i .lss (.t p15) (.c (.int .i64 5))))])
  (.cond (.t p16) (.skip)
  (.exit 0)))
  (.seq (.block 1 (.seq (.block 2 (.loop (.seq (.seq (.dreg [o p19 (.p (.mv (.t p9))),
  o p20 (.p (.mv (.t p2))),
  o p21 (.p (.bin .i .lss (.t p19) (.t p20))),
  o p22 (.p (.mv (.t p21))),
  g (some p23) p22 true (.p (.mv (.t p3))),
  g (some p24) p22 true (.p (.mv (.t p0))),
  g (some p25) p22 true (.p (.mv (.t p9))),
  g (some p26) p22 true (.p (.iaL 2 (.t p24) (.t p25))),
  g (some p27) p22 true (.r (.ld 2 true (.t p26))),
  g (some p28) p22 true (.p (.mv (.t p0))),
  g (some p29) p22 true (.p (.mv (.t p9))),
  g (some p30) p22 true (.p (.bin .i .sub (.t p29) (.c (.int .i64 1)))),
  g (some p31) p22 true (.p (.iaL 2 (.t p28) (.t p30))),
  g (some p32) p22 true (.r (.ld 2 true (.t p31))),
  g (some p33) p22 true (.callv (.t p23) [(.t p27), (.t p32)]),
  g (some p34) p22 true (.p (.bin .i .lss (.t p33) (.c (.int .i64 0)))),
  g (some p35) p22 true (.p (.un .not (.t p34))),
  o p36 (.p (.pick (.t p22) (.t p35) (.c (.bool false))))] [[], [], [], [], [], [], [], [], [], [], [], [], [], [], [], [], [], []])
  (.cond (.t p36) (.skip)
  (.exit 2)))
  (.block 3 (.reg [o p37 (.p (.mv (.t p9))),
  o p38 (.p (.bin .i .add (.t p37) (.c (.int .i64 1)))),
  o p9 (.p (.mv (.t p38)))])))))
  (.seq (.seq (.reg [o p39 (.p (.mv (.t p9))),
  o p40 (.p (.mv (.t p2))),
  o p41 (.p (.bin .i .eql (.t p39) (.t p40)))])
  (.cond (.t p41) (.seq (.reg [o p8 (.p (.mv (.c (.bool true))))])
  (.ret))
  (.skip)))
  (.seq (.seq (.reg [o p42 (.p (.mv (.t p2))),
  o p43 (.p (.mv (.t p1))),
  o p44 (.p (.bin .i .sub (.t p42) (.t p43))),
  o p45 (.p (.bin .i .lss (.t p44) (.c (.int .i64 50))))])
  (.cond (.t p45) (.seq (.reg [o p8 (.p (.mv (.c (.bool false))))])
  (.ret))
  (.skip)))
  (.seq (.dreg [o p46 (.p (.mv (.t p0))),
  o p47 (.p (.mv (.t p9))),
  o p48 (.p (.mv (.t p0))),
  o p49 (.p (.mv (.t p9))),
  o p50 (.p (.bin .i .sub (.t p49) (.c (.int .i64 1)))),
  o p51 (.p (.mv (.t p0))),
  o p52 (.p (.mv (.t p9))),
  o p53 (.p (.bin .i .sub (.t p52) (.c (.int .i64 1)))),
  o p54 (.p (.iaL 2 (.t p51) (.t p53))),
  o p55 (.r (.ld 2 true (.t p54))),
  o p56 (.p (.mv (.t p0))),
  o p57 (.p (.mv (.t p9))),
  o p58 (.p (.iaL 2 (.t p56) (.t p57))),
  o p59 (.r (.ld 2 true (.t p58))),
  o p60 (.p (.iaL 2 (.t p46) (.t p47))),
  n (.w (.st 2 (.t p60) (.t p55))),
  o p61 (.p (.iaL 2 (.t p48) (.t p50))),
  n (.w (.st 2 (.t p61) (.t p59)))] [[], [], [], [], [], [], [], [], [], [], [], [], [], [], [], [], [], []])
  (.seq (.seq (.reg [o p62 (.p (.mv (.t p9))),
  o p63 (.p (.mv (.t p1))),
  o p64 (.p (.bin .i .sub (.t p62) (.t p63))),
  o p65 (.p (.bin .i .geq (.t p64) (.c (.int .i64 2))))])
  (.cond (.t p65) (.seq (.reg [o p66 (.p (.mv (.t p9))),
  o p67 (.p (.bin .i .sub (.t p66) (.c (.int .i64 1)))),
  o p11 (.p (.mv (.t p67)))])
  (.block 4 (.loop (.seq (.seq (.reg [o p68 (.p (.mv (.t p11))),
  o p69 (.p (.bin .i .geq (.t p68) (.c (.int .i64 1))))])
  (.cond (.t p69) (.skip)
  (.exit 4)))
  (.seq (.block 5 (.seq (.seq (.dreg [o p72 (.p (.mv (.t p3))),
  o p73 (.p (.mv (.t p0))),
  o p74 (.p (.mv (.t p11))),
  o p75 (.p (.iaL 2 (.t p73) (.t p74))),
  o p76 (.r (.ld 2 true (.t p75))),
  o p77 (.p (.mv (.t p0))),
  o p78 (.p (.mv (.t p11))),
  o p79 (.p (.bin .i .sub (.t p78) (.c (.int .i64 1)))),
  o p80 (.p (.iaL 2 (.t p77) (.t p79))),
  o p81 (.r (.ld 2 true (.t p80))),
  o p82 (.callv (.t p72) [(.t p76), (.t p81)]),
  o p83 (.p (.bin .i .lss (.t p82) (.c (.int .i64 0)))),
  o p84 (.p (.un .not (.t p83)))] [[], [], [], [], [], [], [], [], [], [], [], [], []])
  (.cond (.t p84) (.exit 4)
  (.skip)))
  (.dreg [o p85 (.p (.mv (.t p0))),
  o p86 (.p (.mv (.t p11))),
  o p87 (.p (.mv (.t p0))),
  o p88 (.p (.mv (.t p11))),
  o p89 (.p (.bin .i .sub (.t p88) (.c (.int .i64 1)))),
  o p90 (.p (.mv (.t p0))),
  o p91 (.p (.mv (.t p11))),
  o p92 (.p (.bin .i .sub (.t p91) (.c (.int .i64 1)))),
  o p93 (.p (.iaL 2 (.t p90) (.t p92))),
  o p94 (.r (.ld 2 true (.t p93))),
  o p95 (.p (.mv (.t p0))),
  o p96 (.p (.mv (.t p11))),
  o p97 (.p (.iaL 2 (.t p95) (.t p96))),
  o p98 (.r (.ld 2 true (.t p97))),
  o p99 (.p (.iaL 2 (.t p85) (.t p86))),
  n (.w (.st 2 (.t p99) (.t p94))),
  o p100 (.p (.iaL 2 (.t p87) (.t p89))),
  n (.w (.st 2 (.t p100) (.t p98)))] [[], [], [], [], [], [], [], [], [], [], [], [], [], [], [], [], [], []])))
  (.reg [o p70 (.p (.mv (.t p11))),
  o p71 (.p (.bin .i .sub (.t p70) (.c (.int .i64 1)))),
  o p11 (.p (.mv (.t p71)))]))))))
  (.skip)))
  (.seq (.reg [o p101 (.p (.mv (.t p2))),
  o p102 (.p (.mv (.t p9))),
  o p103 (.p (.bin .i .sub (.t p101) (.t p102))),
  o p104 (.p (.bin .i .geq (.t p103) (.c (.int .i64 2))))])
  (.cond (.t p104) (.seq (.reg [o p105 (.p (.mv (.t p9))),
  o p106 (.p (.bin .i .add (.t p105) (.c (.int .i64 1)))),
  o p12 (.p (.mv (.t p106)))])
  (.block 6 (.loop (.seq (.seq (.reg [o p107 (.p (.mv (.t p12))),
  o p108 (.p (.mv (.t p2))),
  o p109 (.p (.bin .i .lss (.t p107) (.t p108)))])
  (.cond (.t p109) (.skip)
  (.exit 6)))
  (.seq (.block 7 (.seq (.seq (.dreg [o p112 (.p (.mv (.t p3))),
  o p113 (.p (.mv (.t p0))),
  o p114 (.p (.mv (.t p12))),
  o p115 (.p (.iaL 2 (.t p113) (.t p114))),
  o p116 (.r (.ld 2 true (.t p115))),
  o p117 (.p (.mv (.t p0))),
  o p118 (.p (.mv (.t p12))),
  o p119 (.p (.bin .i .sub (.t p118) (.c (.int .i64 1)))),
  o p120 (.p (.iaL 2 (.t p117) (.t p119))),
  o p121 (.r (.ld 2 true (.t p120))),
  o p122 (.callv (.t p112) [(.t p116), (.t p121)]),
  o p123 (.p (.bin .i .lss (.t p122) (.c (.int .i64 0)))),
  o p124 (.p (.un .not (.t p123)))] [[], [], [], [], [], [], [], [], [], [], [], [], []])
  (.cond (.t p124) (.exit 6)
  (.skip)))
  (.dreg [o p125 (.p (.mv (.t p0))),
  o p126 (.p (.mv (.t p12))),
  o p127 (.p (.mv (.t p0))),
  o p128 (.p (.mv (.t p12))),
  o p129 (.p (.bin .i .sub (.t p128) (.c (.int .i64 1)))),
  o p130 (.p (.mv (.t p0))),
  o p131 (.p (.mv (.t p12))),
  o p132 (.p (.bin .i .sub (.t p131) (.c (.int .i64 1)))),
  o p133 (.p (.iaL 2 (.t p130) (.t p132))),
  o p134 (.r (.ld 2 true (.t p133))),
  o p135 (.p (.mv (.t p0))),
  o p136 (.p (.mv (.t p12))),
  o p137 (.p (.iaL 2 (.t p135) (.t p136))),
  o p138 (.r (.ld 2 true (.t p137))),
  o p139 (.p (.iaL 2 (.t p125) (.t p126))),
  n (.w (.st 2 (.t p139) (.t p134))),
  o p140 (.p (.iaL 2 (.t p127) (.t p129))),
  n (.w (.st 2 (.t p140) (.t p138)))] [[], [], [], [], [], [], [], [], [], [], [], [], [], [], [], [], [], []])))
  (.reg [o p110 (.p (.mv (.t p12))),
  o p111 (.p (.bin .i .add (.t p110) (.c (.int .i64 1)))),
  o p12 (.p (.mv (.t p111)))]))))))
  (.skip)))))))))
  (.reg [o p17 (.p (.mv (.t p10))),
  o p18 (.p (.bin .i .add (.t p17) (.c (.int .i64 1)))),
  o p10 (.p (.mv (.t p18)))]))))))
  (.seq (.reg [o p8 (.p (.mv (.c (.bool false))))])
  (.ret))))⟩
def c313 : CFunc := ⟨[.t p10], .seq (.reg [o p10 (.p (.mv (.c (.int .i64 0))))])
  (.seq (.dreg [o p13 (.p (.mv (.t p0))),
  o p14 (.p (.mv (.t p1))),
  o p15 (.p (.mv (.t p0))),
  o p16 (.p (.mv (.t p3))),
  o p17 (.p (.mv (.t p0))),
  o p18 (.p (.mv (.t p3))),
  o p19 (.p (.iaL 2 (.t p17) (.t p18))),
  o p20 (.r (.ld 2 true (.t p19))),
  o p21 (.p (.mv (.t p0))),
  o p22 (.p (.mv (.t p1))),
  o p23 (.p (.iaL 2 (.t p21) (.t p22))),
  o p24 (.r (.ld 2 true (.t p23))),
  o p25 (.p (.iaL 2 (.t p13) (.t p14))),
  n (.w (.st 2 (.t p25) (.t p20))),
  o p26 (.p (.iaL 2 (.t p15) (.t p16))),
  n (.w (.st 2 (.t p26) (.t p24)))] [[], [], [], [], [], [], [], [], [], [], [], [], [], [], [], []])
  (.seq (.reg [o p27 (.p (.mv (.t p1))),
  o p28 (.p (.bin .i .add (.t p27) (.c (.int .i64 1)))),
  o p29 (.p (.mv (.t p2))),
  o p30 (.p (.bin .i .sub (.t p29) (.c (.int .i64 1)))),
  o p11 (.p (.mv (.t p28))),
  o p12 (.p (.mv (.t p30)))])
  (.seq (.block 0 (.loop (.block 1 (.seq (.block 2 (.loop (.seq (.seq (.dreg [o p31 (.p (.mv (.t p11))),
  o p32 (.p (.mv (.t p12))),
  o p33 (.p (.bin .i .leq (.t p31) (.t p32))),
  o p34 (.p (.mv (.t p33))),
  g (some p35) p34 true (.p (.mv (.t p4))),
  g (some p36) p34 true (.p (.mv (.t p0))),
  g (some p37) p34 true (.p (.mv (.t p1))),
  g (some p38) p34 true (.p (.iaL 2 (.t p36) (.t p37))),
  g (some p39) p34 true (.r (.ld 2 true (.t p38))),
  g (some p40) p34 true (.p (.mv (.t p0))),
  g (some p41) p34 true (.p (.mv (.t p11))),
  g (some p42) p34 true (.p (.iaL 2 (.t p40) (.t p41))),
  g (some p43) p34 true (.r (.ld 2 true (.t p42))),
  g (some p44) p34 true (.callv (.t p35) [(.t p39), (.t p43)]),
  g (some p45) p34 true (.p (.bin .i .lss (.t p44) (.c (.int .i64 0)))),
  g (some p46) p34 true (.p (.un .not (.t p45))),
  o p47 (.p (.pick (.t p34) (.t p46) (.c (.bool false))))] [[], [], [], [], [], [], [], [], [], [], [], [], [], [], [], [], []])
  (.cond (.t p47) (.skip)
  (.exit 2)))
  (.block 3 (.reg [o p48 (.p (.mv (.t p11))),
  o p49 (.p (.bin .i .add (.t p48) (.c (.int .i64 1)))),
  o p11 (.p (.mv (.t p49)))])))))
  (.seq (.block 4 (.loop (.seq (.seq (.dreg [o p50 (.p (.mv (.t p11))),
  o p51 (.p (.mv (.t p12))),
  o p52 (.p (.bin .i .leq (.t p50) (.t p51))),
  o p53 (.p (.mv (.t p52))),
  g (some p54) p53 true (.p (.mv (.t p4))),
  g (some p55) p53 true (.p (.mv (.t p0))),
  g (some p56) p53 true (.p (.mv (.t p1))),
  g (some p57) p53 true (.p (.iaL 2 (.t p55) (.t p56))),
  g (some p58) p53 true (.r (.ld 2 true (.t p57))),
  g (some p59) p53 true (.p (.mv (.t p0))),
  g (some p60) p53 true (.p (.mv (.t p12))),
  g (some p61) p53 true (.p (.iaL 2 (.t p59) (.t p60))),
  g (some p62) p53 true (.r (.ld 2 true (.t p61))),
  g (some p63) p53 true (.callv (.t p54) [(.t p58), (.t p62)]),
  g (some p64) p53 true (.p (.bin .i .lss (.t p63) (.c (.int .i64 0)))),
  o p65 (.p (.pick (.t p53) (.t p64) (.c (.bool false))))] [[], [], [], [], [], [], [], [], [], [], [], [], [], [], [], []])
  (.cond (.t p65) (.skip)
  (.exit 4)))
  (.block 5 (.reg [o p66 (.p (.mv (.t p12))),
  o p67 (.p (.bin .i .sub (.t p66) (.c (.int .i64 1)))),
  o p12 (.p (.mv (.t p67)))])))))
  (.seq (.seq (.reg [o p68 (.p (.mv (.t p11))),
  o p69 (.p (.mv (.t p12))),
  o p70 (.p (.bin .i .gtr (.t p68) (.t p69)))])
  (.cond (.t p70) (.exit 0)
  (.skip)))
  (.seq (.dreg [o p71 (.p (.mv (.t p0))),
  o p72 (.p (.mv (.t p11))),
  o p73 (.p (.mv (.t p0))),
  o p74 (.p (.mv (.t p12))),
  o p75 (.p (.mv (.t p0))),
  o p76 (.p (.mv (.t p12))),
  o p77 (.p (.iaL 2 (.t p75) (.t p76))),
  o p78 (.r (.ld 2 true (.t p77))),
  o p79 (.p (.mv (.t p0))),
  o p80 (.p (.mv (.t p11))),
  o p81 (.p (.iaL 2 (.t p79) (.t p80))),
  o p82 (.r (.ld 2 true (.t p81))),
  o p83 (.p (.iaL 2 (.t p71) (.t p72))),
  n (.w (.st 2 (.t p83) (.t p78))),
  o p84 (.p (.iaL 2 (.t p73) (.t p74))),
  n (.w (.st 2 (.t p84) (.t p82)))] [[], [], [], [], [], [], [], [], [], [], [], [], [], [], [], []])
  (.seq (.reg [o p85 (.p (.mv (.t p11))),
  o p86 (.p (.bin .i .add (.t p85) (.c (.int .i64 1)))),
  o p11 (.p (.mv (.t p86)))])
  (.reg [o p87 (.p (.mv (.t p12))),
  o p88 (.p (.bin .i .sub (.t p87) (.c (.int .i64 1)))),
  o p12 (.p (.mv (.t p88)))])))))))))
  (.seq (.reg [o p89 (.p (.mv (.t p11))),
  o p10 (.p (.mv (.t p89)))])
  (.ret)))))⟩
def c314 : CFunc := ⟨[.t p10, .t p11], .seq (.reg [o p10 (.p (.mv (.c (.int .i64 0)))),
  o p11 (.p (.mv (.c (.bool false))))])
  (.seq (.dreg [o p14 (.p (.mv (.t p0))),
  o p15 (.p (.mv (.t p1))),
  o p16 (.p (.mv (.t p0))),
  o p17 (.p (.mv (.t p3))),
  o p18 (.p (.mv (.t p0))),
  o p19 (.p (.mv (.t p3))),
  o p20 (.p (.iaL 2 (.t p18) (.t p19))),
  o p21 (.r (.ld 2 true (.t p20))),
  o p22 (.p (.mv (.t p0))),
  o p23 (.p (.mv (.t p1))),
  o p24 (.p (.iaL 2 (.t p22) (.t p23))),
  o p25 (.r (.ld 2 true (.t p24))),
  o p26 (.p (.iaL 2 (.t p14) (.t p15))),
  n (.w (.st 2 (.t p26) (.t p21))),
  o p27 (.p (.iaL 2 (.t p16) (.t p17))),
  n (.w (.st 2 (.t p27) (.t p25)))] [[], [], [], [], [], [], [], [], [], [], [], [], [], [], [], []])
  (.seq (.reg [o p28 (.p (.mv (.t p1))),
  o p29 (.p (.bin .i .add (.t p28) (.c (.int .i64 1)))),
  o p30 (.p (.mv (.t p2))),
  o p31 (.p (.bin .i .sub (.t p30) (.c (.int .i64 1)))),
  o p12 (.p (.mv (.t p29))),
  o p13 (.p (.mv (.t p31)))])
  (.seq (.block 0 (.loop (.seq (.seq (.dreg [o p32 (.p (.mv (.t p12))),
  o p33 (.p (.mv (.t p13))),
  o p34 (.p (.bin .i .leq (.t p32) (.t p33))),
  o p35 (.p (.mv (.t p34))),
  g (some p36) p35 true (.p (.mv (.t p4))),
  g (some p37) p35 true (.p (.mv (.t p0))),
  g (some p38) p35 true (.p (.mv (.t p12))),
  g (some p39) p35 true (.p (.iaL 2 (.t p37) (.t p38))),
  g (some p40) p35 true (.r (.ld 2 true (.t p39))),
  g (some p41) p35 true (.p (.mv (.t p0))),
  g (some p42) p35 true (.p (.mv (.t p1))),
  g (some p43) p35 true (.p (.iaL 2 (.t p41) (.t p42))),
  g (some p44) p35 true (.r (.ld 2 true (.t p43))),
  g (some p45) p35 true (.callv (.t p36) [(.t p40), (.t p44)]),
  g (some p46) p35 true (.p (.bin .i .lss (.t p45) (.c (.int .i64 0)))),
  o p47 (.p (.pick (.t p35) (.t p46) (.c (.bool false))))] [[], [], [], [], [], [], [], [], [], [], [], [], [], [], [], []])
  (.cond (.t p47) (.skip)
  (.exit 0)))
  (.block 1 (.reg [o p48 (.p (.mv (.t p12))),
  o p49 (.p (.bin .i .add (.t p48) (.c (.int .i64 1)))),
  o p12 (.p (.mv (.t p49)))])))))
  (.seq (.block 2 (.loop (.seq (.seq (.dreg [o p50 (.p (.mv (.t p12))),
  o p51 (.p (.mv (.t p13))),
  o p52 (.p (.bin .i .leq (.t p50) (.t p51))),
  o p53 (.p (.mv (.t p52))),
  g (some p54) p53 true (.p (.mv (.t p4))),
  g (some p55) p53 true (.p (.mv (.t p0))),
  g (some p56) p53 true (.p (.mv (.t p13))),
  g (some p57) p53 true (.p (.iaL 2 (.t p55) (.t p56))),
  g (some p58) p53 true (.r (.ld 2 true (.t p57))),
  g (some p59) p53 true (.p (.mv (.t p0))),
  g (some p60) p53 true (.p (.mv (.t p1))),
  g (some p61) p53 true (.p (.iaL 2 (.t p59) (.t p60))),
  g (some p62) p53 true (.r (.ld 2 true (.t p61))),
  g (some p63) p53 true (.callv (.t p54) [(.t p58), (.t p62)]),
  g (some p64) p53 true (.p (.bin .i .lss (.t p63) (.c (.int .i64 0)))),
  g (some p65) p53 true (.p (.un .not (.t p64))),
  o p66 (.p (.pick (.t p53) (.t p65) (.c (.bool false))))] [[], [], [], [], [], [], [], [], [], [], [], [], [], [], [], [], []])
  (.cond (.t p66) (.skip)
  (.exit 2)))
  (.block 3 (.reg [o p67 (.p (.mv (.t p13))),
  o p68 (.p (.bin .i .sub (.t p67) (.c (.int .i64 1)))),
  o p13 (.p (.mv (.t p68)))])))))
  (.seq (.seq (.reg [o p69 (.p (.mv (.t p12))),
  o p70 (.p (.mv (.t p13))),
  o p71 (.p (.bin .i .gtr (.t p69) (.t p70)))])
  (.cond (.t p71) (.seq (.dreg [o p72 (.p (.mv (.t p0))),
  o p73 (.p (.mv (.t p13))),
  o p74 (.p (.mv (.t p0))),
  o p75 (.p (.mv (.t p1))),
  o p76 (.p (.mv (.t p0))),
  o p77 (.p (.mv (.t p1))),
  o p78 (.p (.iaL 2 (.t p76) (.t p77))),
  o p79 (.r (.ld 2 true (.t p78))),
  o p80 (.p (.mv (.t p0))),
  o p81 (.p (.mv (.t p13))),
  o p82 (.p (.iaL 2 (.t p80) (.t p81))),
  o p83 (.r (.ld 2 true (.t p82))),
  o p84 (.p (.iaL 2 (.t p72) (.t p73))),
  n (.w (.st 2 (.t p84) (.t p79))),
  o p85 (.p (.iaL 2 (.t p74) (.t p75))),
  n (.w (.st 2 (.t p85) (.t p83)))] [[], [], [], [], [], [], [], [], [], [], [], [], [], [], [], []])
  (.seq (.reg [o p86 (.p (.mv (.t p13))),
  o p10 (.p (.mv (.t p86))),
  o p11 (.p (.mv (.c (.bool true))))])
  (.ret)))
  (.skip)))
  (.seq (.dreg [o p87 (.p (.mv (.t p0))),
  o p88 (.p (.mv (.t p12))),
  o p89 (.p (.mv (.t p0))),
  o p90 (.p (.mv (.t p13))),
  o p91 (.p (.mv (.t p0))),
  o p92 (.p (.mv (.t p13))),
  o p93 (.p (.iaL 2 (.t p91) (.t p92))),
  o p94 (.r (.ld 2 true (.t p93))),
  o p95 (.p (.mv (.t p0))),
  o p96 (.p (.mv (.t p12))),
  o p97 (.p (.iaL 2 (.t p95) (.t p96))),
  o p98 (.r (.ld 2 true (.t p97))),
  o p99 (.p (.iaL 2 (.t p87) (.t p88))),
  n (.w (.st 2 (.t p99) (.t p94))),
  o p100 (.p (.iaL 2 (.t p89) (.t p90))),
  n (.w (.st 2 (.t p100) (.t p98)))] [[], [], [], [], [], [], [], [], [], [], [], [], [], [], [], []])
  (.seq (.reg [o p101 (.p (.mv (.t p12))),
  o p102 (.p (.bin .i .add (.t p101) (.c (.int .i64 1)))),
  o p12 (.p (.mv (.t p102)))])
  (.seq (.reg [o p103 (.p (.mv (.t p13))),
  o p104 (.p (.bin .i .sub (.t p103) (.c (.int .i64 1)))),
  o p13 (.p (.mv (.t p104)))])
  (.seq (.block 4 (.loop (.block 5 (.seq (.block 6 (.loop (.seq (.seq (.dreg [o p105 (.p (.mv (.t p12))),
  o p106 (.p (.mv (.t p13))),
  o p107 (.p (.bin .i .leq (.t p105) (.t p106))),
  o p108 (.p (.mv (.t p107))),
  g (some p109) p108 true (.p (.mv (.t p4))),
  g (some p110) p108 true (.p (.mv (.t p0))),
  g (some p111) p108 true (.p (.mv (.t p12))),
  g (some p112) p108 true (.p (.iaL 2 (.t p110) (.t p111))),
  g (some p113) p108 true (.r (.ld 2 true (.t p112))),
  g (some p114) p108 true (.p (.mv (.t p0))),
  g (some p115) p108 true (.p (.mv (.t p1))),
  g (some p116) p108 true (.p (.iaL 2 (.t p114) (.t p115))),
  g (some p117) p108 true (.r (.ld 2 true (.t p116))),
  g (some p118) p108 true (.callv (.t p109) [(.t p113), (.t p117)]),
  g (some p119) p108 true (.p (.bin .i .lss (.t p118) (.c (.int .i64 0)))),
  o p120 (.p (.pick (.t p108) (.t p119) (.c (.bool false))))] [[], [], [], [], [], [], [], [], [], [], [], [], [], [], [], []])
  (.cond (.t p120) (.skip)
  (.exit 6)))
  (.block 7 (.reg [o p121 (.p (.mv (.t p12))),
  o p122 (.p (.bin .i .add (.t p121) (.c (.int .i64 1)))),
  o p12 (.p (.mv (.t p122)))])))))
  (.seq (.block 8 (.loop (.seq (.seq (.dreg [o p123 (.p (.mv (.t p12))),
  o p124 (.p (.mv (.t p13))),
  o p125 (.p (.bin .i .leq (.t p123) (.t p124))),
  o p126 (.p (.mv (.t p125))),
  g (some p127) p126 true (.p (.mv (.t p4))),
  g (some p128) p126 true (.p (.mv (.t p0))),
  g (some p129) p126 true (.p (.mv (.t p13))),
  g (some p130) p126 true (.p (.iaL 2 (.t p128) (.t p129))),
  g (some p131) p126 true (.r (.ld 2 true (.t p130))),
  g (some p132) p126 true (.p (.mv (.t p0))),
  g (some p133) p126 true (.p (.mv (.t p1))),
  g (some p134) p126 true (.p (.iaL 2 (.t p132) (.t p133))),
  g (some p135) p126 true (.r (.ld 2 true (.t p134))),
  g (some p136) p126 true (.callv (.t p127) [(.t p131), (.t p135)]),
  g (some p137) p126 true (.p (.bin .i .lss (.t p136) (.c (.int .i64 0)))),
  g (some p138) p126 true (.p (.un .not (.t p137))),
  o p139 (.p (.pick (.t p126) (.t p138) (.c (.bool false))))] [[], [], [], [], [], [], [], [], [], [], [], [], [], [], [], [], []])
  (.cond (.t p139) (.skip)
  (.exit 8)))
  (.block 9 (.reg [o p140 (.p (.mv (.t p13))),
  o p141 (.p (.bin .i .sub (.t p140) (.c (.int .i64 1)))),
  o p13 (.p (.mv (.t p141)))])))))
  (.seq (.seq (.reg [o p142 (.p (.mv (.t p12))),
  o p143 (.p (.mv (.t p13))),
  o p144 (.p (.bin .i .gtr (.t p142) (.t p143)))])
  (.cond (.t p144) (.exit 4)
  (.skip)))
  (.seq (.dreg [o p145 (.p (.mv (.t p0))),
  o p146 (.p (.mv (.t p12))),
  o p147 (.p (.mv (.t p0))),
  o p148 (.p (.mv (.t p13))),
  o p149 (.p (.mv (.t p0))),
  o p150 (.p (.mv (.t p13))),
  o p151 (.p (.iaL 2 (.t p149) (.t p150))),
  o p152 (.r (.ld 2 true (.t p151))),
  o p153 (.p (.mv (.t p0))),
  o p154 (.p (.mv (.t p12))),
  o p155 (.p (.iaL 2 (.t p153) (.t p154))),
  o p156 (.r (.ld 2 true (.t p155))),
  o p157 (.p (.iaL 2 (.t p145) (.t p146))),
  n (.w (.st 2 (.t p157) (.t p152))),
  o p158 (.p (.iaL 2 (.t p147) (.t p148))),
  n (.w (.st 2 (.t p158) (.t p156)))] [[], [], [], [], [], [], [], [], [], [], [], [], [], [], [], []])
  (.seq (.reg [o p159 (.p (.mv (.t p12))),
  o p160 (.p (.bin .i .add (.t p159) (.c (.int .i64 1)))),
  o p12 (.p (.mv (.t p160)))])
  (.reg [o p161 (.p (.mv (.t p13))),
  o p162 (.p (.bin .i .sub (.t p161) (.c (.int .i64 1)))),
  o p13 (.p (.mv (.t p162)))])))))))))
  (.seq (.dreg [o p163 (.p (.mv (.t p0))),
  o p164 (.p (.mv (.t p13))),
  o p165 (.p (.mv (.t p0))),
  o p166 (.p (.mv (.t p1))),
  o p167 (.p (.mv (.t p0))),
  o p168 (.p (.mv (.t p1))),
  o p169 (.p (.iaL 2 (.t p167) (.t p168))),
  o p170 (.r (.ld 2 true (.t p169))),
  o p171 (.p (.mv (.t p0))),
  o p172 (.p (.mv (.t p13))),
  o p173 (.p (.iaL 2 (.t p171) (.t p172))),
  o p174 (.r (.ld 2 true (.t p173))),
  o p175 (.p (.iaL 2 (.t p163) (.t p164))),
  n (.w (.st 2 (.t p175) (.t p170))),
  o p176 (.p (.iaL 2 (.t p165) (.t p166))),
  n (.w (.st 2 (.t p176) (.t p174)))] [[], [], [], [], [], [], [], [], [], [], [], [], [], [], [], []])
  (.seq (.reg [o p177 (.p (.mv (.t p13))),
  o p10 (.p (.mv (.t p177))),
  o p11 (.p (.mv (.c (.bool false))))])
  (.ret))))))))))))⟩
def c315 : CFunc := ⟨[.t p4], .seq (.reg [o p4 (.p (.mv (.c (.int .i64 0))))])
  (.seq (.seq (.reg [o p6 (.p (.mv (.t p0))),
  o p7 (.p (.lenP false (.t p6))),
  o p8 (.p (.mv (.c (.int .i64 0))))])
  (.block 0 (.loop (.seq (.reg [o p9 (.p (.bin .i .lss (.t p8) (.t p7)))])
  (.seq (.cond (.t p9) (.skip)
  (.exit 0))
  (.seq (.block 1 (.seq (.reg [o p10 (.p (.mv (.t p8))),
  o p5 (.p (.mv (.t p10)))])
  (.seq (.reg [o p11 (.p (.mv (.t p1))),
  o p12 (.p (.mv (.t p0))),
  o p13 (.p (.mv (.t p5))),
  o p14 (.p (.iaL 2 (.t p12) (.t p13))),
  o p15 (.r (.ld 2 true (.t p14))),
  o p16 (.callv (.t p11) [(.t p15)])])
  (.cond (.t p16) (.seq (.reg [o p17 (.p (.mv (.t p5))),
  o p4 (.p (.mv (.t p17)))])
  (.ret))
  (.skip)))))
  (.reg [o p18 (.p (.bin .i .add (.t p8) (.c (.int .i64 1)))),
  o p8 (.p (.mv (.t p18)))])))))))
  (.seq (.reg [o p4 (.p (.mv (.c (.int .i64 (-1)))))])
  (.ret)))⟩
def c316 : CFunc := ⟨[.t p4], .seq (.reg [o p2 (.a (.box 1 (.t p0))),
  o p4 (.p (.mv (.c (.bool false))))])
  (.seq (.reg [o p5 (.r (.ld 1 true (.t p2))),
  o p6 (.call 224 [(.t p5)]),
  o p7 (.p (.mv (.t p6))),
  g (some p8) p7 true (.p (.mv (.t p1))),
  g (some p9) p7 true (.p (.bin .i .geq (.t p8) (.c (.int .i64 0)))),
  o p10 (.p (.pick (.t p7) (.t p9) (.c (.bool false)))),
  o p11 (.p (.mv (.t p10))),
  g (some p12) p11 true (.p (.mv (.t p1))),
  g (some p13) p11 true (.p (.bin .i .leq (.t p12) (.c (.int .i64 65535)))),
  o p14 (.p (.pick (.t p11) (.t p13) (.c (.bool false)))),
  o p4 (.p (.mv (.t p14)))])
  (.ret))⟩
def c317 : CFunc := ⟨[.cell p6 1 true, .t p7], .seq (.reg [o p3 (.a (.box 1 (.t p0))),
  o p6 (.a (.alc [(.slice none 0 0)])),
  o p7 (.p (.mv (.c (.int .i64 0))))])
  (.seq (.seq (.reg [o p11 (.r (.ld 1 true (.t p3))),
  o p12 (.p (.mv (.t p2))),
  o p13 (.call 316 [(.t p11), (.t p12)]),
  o p14 (.p (.un .not (.t p13)))])
  (.cond (.t p14) (.seq (.reg [o p15 (.p (.bld [(.slice none 0 0)] [])),
  n (.w (.st 1 (.t p6) (.t p15))),
  o p7 (.p (.mv (.c (.int .i64 1))))])
  (.ret))
  (.skip)))
  (.seq (.reg [o p17 (.r (.ld 1 true (.t p3))),
  o p18 (.p (.mv (.t p1))),
  o p19 (.call 319 [(.t p17), (.t p18)]),
  o p16 (.p (.mv (.t p19))),
  o p20 (.p (.ext 0 (.t p16))),
  o p21 (.p (.ext 1 (.t p16))),
  o p8 (.p (.mv (.t p20))),
  o p9 (.p (.mv (.t p21)))])
  (.seq (.reg [o p22 (.p (.fa 0 (.t p3))),
  o p23 (.r (.ld 1 false (.t p22))),
  o p24 (.call 351 [(.t p23)]),
  o p10 (.p (.mv (.t p24)))])
  (.seq (.block 0 (.seq (.reg [o p26 (.p (.mv (.t p9))),
  o p27 (.p (.mv (.t p26))),
  g (some p28) p27 true (.p (.mv (.t p2))),
  g (some p29) p27 true (.p (.bin .i .eql (.t p28) (.c (.int .i64 0)))),
  o p30 (.p (.pick (.t p27) (.t p29) (.c (.bool false)))),
  o p25 (.p (.mv (.t p30)))])
  (.cond (.t p25) (.reg [o p31 (.p (.mv (.t p10))),
  o p32 (.p (.mv (.t p8))),
  o p33 (.p (.mv (.t p8))),
  o p34 (.p (.bin .i .add (.t p33) (.c (.int .i64 1)))),
  o p35 (.call 352 [(.t p31), (.t p32), (.t p34)]),
  o p10 (.p (.mv (.t p35)))])
  (.seq (.reg [o p37 (.p (.mv (.t p9))),
  o p36 (.p (.mv (.t p37)))])
  (.cond (.t p36) (.reg [o p38 (.p (.mv (.t p10))),
  o p39 (.p (.mv (.t p8))),
  o p40 (.p (.mv (.t p2))),
  o p41 (.p (.iaL 2 (.t p38) (.t p39))),
  o p42 (.p (.fa 1 (.t p41))),
  n (.w (.st 1 (.t p42) (.t p40)))])
  (.seq (.reg [o p44 (.p (.mv (.t p2))),
  o p45 (.p (.bin .i .gtr (.t p44) (.c (.int .i64 0)))),
  o p46 (.p (.mv (.t p45))),
  g (some p47) p46 true (.p (.mv (.t p10))),
  g (some p48) p46 true (.p (.lenP false (.t p47))),
  g (some p49) p46 true (.p (.bin .i .eql (.t p48) (.c (.int .i64 4096)))),
  o p50 (.p (.pick (.t p46) (.t p49) (.c (.bool false)))),
  o p43 (.p (.mv (.t p50)))])
  (.cond (.t p43) (.seq (.reg [o p51 (.p (.bld [(.slice none 0 0)] [])),
  n (.w (.st 1 (.t p6) (.t p51))),
  o p7 (.p (.mv (.c (.int .i64 9))))])
  (.ret))
  (.seq (.reg [o p53 (.p (.mv (.t p2))),
  o p54 (.p (.bin .i .gtr (.t p53) (.c (.int .i64 0)))),
  o p52 (.p (.mv (.t p54)))])
  (.cond (.t p52) (.reg [o p55 (.p (.mv (.t p10))),
  o p56 (.p (.mv (.t p8))),
  o p57 (.p (.mv (.t p1))),
  o p58 (.call 280 [(.t p57)]),
  o p59 (.p (.mv (.t p2))),
  o p60 (.p (.bld [(.int .u32 0), (.int .i64 0)] [(0, 1, (.t p58)), (1, 1, (.t p59))])),
  o p61 (.a (.bsl 2 1 [(.int .u32 0), (.int .i64 0)] [(0, 2, (.t p60))])),
  o p62 (.call 353 [(.t p55), (.t p56), (.t p61)]),
  o p10 (.p (.mv (.t p62)))])
  (.skip))))))))))
  (.seq (.reg [o p63 (.p (.mv (.t p10))),
  o p64 (.p (.bld [(.slice none 0 0)] [(0, 1, (.t p63))])),
  n (.w (.st 1 (.t p6) (.t p64))),
  o p7 (.p (.mv (.c (.int .i64 0))))])
  (.ret))))))⟩
def c318 : CFunc := ⟨[.t p4], .seq (.reg [o p4 (.p (.mv (.c (.int .i64 0))))])
  (.seq (.seq (.reg [o p6 (.p (.mv (.t p0))),
  o p7 (.p (.lenP false (.t p6))),
  o p8 (.p (.mv (.c (.int .i64 0))))])
  (.block 0 (.loop (.seq (.reg [o p9 (.p (.bin .i .lss (.t p8) (.t p7)))])
  (.seq (.cond (.t p9) (.skip)
  (.exit 0))
  (.seq (.block 1 (.seq (.reg [o p10 (.p (.mv (.t p8))),
  o p5 (.p (.mv (.t p10)))])
  (.seq (.reg [o p11 (.p (.mv (.t p1))),
  o p12 (.p (.mv (.t p0))),
  o p13 (.p (.mv (.t p5))),
  o p14 (.p (.iaL 2 (.t p12) (.t p13))),
  o p15 (.r (.ld 2 true (.t p14))),
  o p16 (.callv (.t p11) [(.t p15)])])
  (.cond (.t p16) (.seq (.reg [o p17 (.p (.mv (.t p5))),
  o p4 (.p (.mv (.t p17)))])
  (.ret))
  (.skip)))))
  (.reg [o p18 (.p (.bin .i .add (.t p8) (.c (.int .i64 1)))),
  o p8 (.p (.mv (.t p18)))])))))))
  (.seq (.reg [o p4 (.p (.mv (.c (.int .i64 (-1)))))])
  (.ret)))⟩
def c319 : CFunc := ⟨[.t p4, .t p5], .seq (.reg [o p2 (.a (.box 1 (.t p0))),
  o p4 (.p (.mv (.c (.int .i64 0)))),
  o p5 (.p (.mv (.c (.bool false))))])
  (.seq (.dreg [o p6 (.p (.fa 0 (.t p2))),
  o p7 (.r (.ld 1 false (.t p6))),
  o p8 (.p (.mv (.t p1))),
  o p9 (.call 280 [(.t p8)]),
  o p10 (.call 354 [(.t p7), (.t p9), (.c (.func (.func 355) ⟨[]⟩ ⟨[]⟩))]),
  o p11 (.p (.ext 0 (.t p10))),
  o p12 (.p (.ext 1 (.t p10))),
  o p4 (.p (.mv (.t p11))),
  o p5 (.p (.mv (.t p12)))] [[], [], [], [1], [], [], [], [], []])
  (.ret))⟩
def c324 : CFunc := ⟨[.t p4], .seq (.reg [o p4 (.p (.mv (.c (.bool false))))])
  (.seq (.reg [o p5 (.p (.mv (.t p0))),
  o p6 (.p (.lenP true (.t p5))),
  o p7 (.p (.mv (.t p1))),
  o p8 (.p (.lenP true (.t p7))),
  o p9 (.p (.bin .i .geq (.t p6) (.t p8))),
  o p10 (.p (.mv (.t p9))),
  g (some p11) p10 true (.p (.mv (.t p0))),
  g (some p12) p10 true (.p (.mv (.t p1))),
  g (some p13) p10 true (.p (.lenP true (.t p12))),
  g (some p14) p10 true (.p (.slS (.t p11) none (some (.t p13)))),
  g (some p15) p10 true (.p (.mv (.t p1))),
  g (some p16) p10 true (.p (.bin .s .eql (.t p14) (.t p15))),
  o p17 (.p (.pick (.t p10) (.t p16) (.c (.bool false)))),
  o p4 (.p (.mv (.t p17)))])
  (.ret))⟩
def c325 : CFunc := ⟨[.t p2, .t p3], .seq (.reg [o p2 (.p (.mv (.c (.int .u32 0)))),
  o p3 (.p (.mv (.c (.int .i64 0))))])
  (.seq (.reg [o p10 (.p (.mv (.t p0))),
  o p11 (.call 365 [(.t p10), (.c (.string ⟨⟨[46]⟩⟩))]),
  o p4 (.p (.mv (.t p11)))])
  (.seq (.seq (.reg [o p12 (.p (.mv (.t p4))),
  o p13 (.p (.lenP false (.t p12))),
  o p14 (.p (.bin .i .neq (.t p13) (.c (.int .i64 4))))])
  (.cond (.t p14) (.seq (.reg [o p2 (.p (.mv (.c (.int .u32 0)))),
  o p3 (.p (.mv (.c (.int .i64 3))))])
  (.ret))
  (.skip)))
  (.seq (.reg [o p5 (.a (.alc [(.int .u8 0), (.int .u8 0), (.int .u8 0), (.int .u8 0)]))])
  (.seq (.seq (.reg [o p15 (.p (.mv (.t p4))),
  o p16 (.p (.lenP false (.t p15))),
  o p17 (.p (.mv (.c (.int .i64 0))))])
  (.block 0 (.loop (.seq (.reg [o p18 (.p (.bin .i .lss (.t p17) (.t p16)))])
  (.seq (.cond (.t p18) (.skip)
  (.exit 0))
  (.seq (.block 1 (.seq (.reg [o p19 (.p (.mv (.t p17))),
  o p20 (.p (.iaL 1 (.t p15) (.t p17))),
  o p21 (.r (.ld 1 false (.t p20))),
  o p6 (.p (.mv (.t p19))),
  o p7 (.p (.mv (.t p21)))])
  (.seq (.reg [o p23 (.p (.mv (.t p7))),
  o p24 (.call 366 [(.t p23)]),
  o p22 (.p (.mv (.t p24))),
  o p25 (.p (.ext 0 (.t p22))),
  o p26 (.p (.ext 1 (.t p22))),
  o p8 (.p (.mv (.t p25))),
  o p9 (.p (.mv (.t p26)))])
  (.seq (.seq (.reg [o p27 (.p (.mv (.t p9))),
  o p28 (.p (.un .not (.t p27)))])
  (.cond (.t p28) (.seq (.reg [o p2 (.p (.mv (.c (.int .u32 0)))),
  o p3 (.p (.mv (.c (.int .i64 3))))])
  (.ret))
  (.skip)))
  (.reg [o p29 (.p (.mv (.t p6))),
  o p30 (.p (.mv (.t p8))),
  o p31 (.p (.iaA 4 1 (.t p5) (.t p29))),
  n (.w (.st 1 (.t p31) (.t p30)))])))))
  (.reg [o p32 (.p (.bin .i .add (.t p17) (.c (.int .i64 1)))),
  o p17 (.p (.mv (.t p32)))])))))))
  (.seq (.reg [o p33 (.r (.ld 4 true (.t p5))),
  o p34 (.call 367 [(.t p33)]),
  o p2 (.p (.mv (.t p34))),
  o p3 (.p (.mv (.c (.int .i64 0))))])
  (.ret))))))⟩
def c326 : CFunc := ⟨[.t p4], .seq (.reg [o p4 (.p (.mv (.c (.int .i64 0))))])
  (.seq (.reg [o p14 (.p (.mv (.t p1))),
  o p15 (.p (.lenP true (.t p14))),
  o p5 (.p (.mv (.t p15)))])
  (.seq (.block 0 (.seq (.reg [o p17 (.p (.mv (.t p5))),
  o p18 (.p (.bin .i .eql (.t p17) (.c (.int .i64 0)))),
  o p19 (.p (.mv (.t p18))),
  g (some p20) p19 false (.p (.mv (.t p1))),
  g (some p21) p19 false (.p (.mv (.t p0))),
  g (some p22) p19 false (.p (.bin .s .eql (.t p20) (.t p21))),
  o p23 (.p (.pick (.t p19) (.c (.bool true)) (.t p22))),
  o p16 (.p (.mv (.t p23)))])
  (.cond (.t p16) (.seq (.reg [o p4 (.p (.mv (.c (.int .i64 0))))])
  (.ret))
  (.seq (.reg [o p25 (.p (.mv (.t p5))),
  o p26 (.p (.bin .i .eql (.t p25) (.c (.int .i64 1)))),
  o p24 (.p (.mv (.t p26)))])
  (.cond (.t p24) (.seq (.reg [o p27 (.p (.mv (.t p0))),
  o p28 (.p (.mv (.t p1))),
  o p29 (.p (.ixS (.t p28) (.c (.int .i64 0)))),
  o p30 (.call 368 [(.t p27), (.t p29)]),
  o p4 (.p (.mv (.t p30)))])
  (.ret))
  (.seq (.reg [o p32 (.p (.mv (.t p5))),
  o p33 (.p (.mv (.t p0))),
  o p34 (.p (.lenP true (.t p33))),
  o p35 (.p (.bin .i .geq (.t p32) (.t p34))),
  o p31 (.p (.mv (.t p35)))])
  (.cond (.t p31) (.seq (.reg [o p4 (.p (.mv (.c (.int .i64 (-1)))))])
  (.ret))
  (.seq (.bad)
  (.cond (.t p36) (.seq (.reg [o p45 (.p (.mv (.t p0))),
  o p46 (.p (.mv (.t p1))),
  o p47 (.call 369 [(.t p45), (.t p46)]),
  o p4 (.p (.mv (.t p47)))])
  (.ret))
  (.skip))))))))))
  (.seq (.reg [o p48 (.p (.mv (.t p1))),
  o p49 (.p (.ixS (.t p48) (.c (.int .i64 0)))),
  o p6 (.p (.mv (.t p49)))])
  (.seq (.reg [o p50 (.p (.mv (.t p1))),
  o p51 (.p (.ixS (.t p50) (.c (.int .i64 1)))),
  o p7 (.p (.mv (.t p51)))])
  (.seq (.reg [o p8 (.p (.mv (.c (.int .i64 0))))])
  (.seq (.reg [o p52 (.p (.mv (.t p0))),
  o p53 (.p (.lenP true (.t p52))),
  o p54 (.p (.mv (.t p5))),
  o p55 (.p (.bin .i .sub (.t p53) (.t p54))),
  o p56 (.p (.bin .i .add (.t p55) (.c (.int .i64 1)))),
  o p9 (.p (.mv (.t p56)))])
  (.seq (.reg [o p10 (.p (.mv (.c (.int .i64 0))))])
  (.seq (.block 1 (.loop (.seq (.seq (.reg [o p57 (.p (.mv (.t p8))),
  o p58 (.p (.mv (.t p9))),
  o p59 (.p (.bin .i .lss (.t p57) (.t p58)))])
  (.cond (.t p59) (.skip)
  (.exit 1)))
  (.block 2 (.seq (.seq (.reg [o p60 (.p (.mv (.t p0))),
  o p61 (.p (.mv (.t p8))),
  o p62 (.p (.ixS (.t p60) (.t p61))),
  o p63 (.p (.mv (.t p6))),
  o p64 (.p (.bin .i .neq (.t p62) (.t p63)))])
  (.cond (.t p64) (.seq (.reg [o p65 (.p (.mv (.t p0))),
  o p66 (.p (.mv (.t p8))),
  o p67 (.p (.bin .i .add (.t p66) (.c (.int .i64 1)))),
  o p68 (.p (.mv (.t p9))),
  o p69 (.p (.slS (.t p65) (some (.t p67)) (some (.t p68)))),
  o p70 (.p (.mv (.t p6))),
  o p71 (.call 368 [(.t p69), (.t p70)]),
  o p11 (.p (.mv (.t p71)))])
  (.seq (.seq (.reg [o p72 (.p (.mv (.t p11))),
  o p73 (.p (.bin .i .lss (.t p72) (.c (.int .i64 0))))])
  (.cond (.t p73) (.seq (.reg [o p4 (.p (.mv (.c (.int .i64 (-1)))))])
  (.ret))
  (.skip)))
  (.reg [o p74 (.p (.mv (.t p8))),
  o p75 (.p (.mv (.t p11))),
  o p76 (.p (.bin .i .add (.t p75) (.c (.int .i64 1)))),
  o p77 (.p (.bin .i .add (.t p74) (.t p76))),
  o p8 (.p (.mv (.t p77)))])))
  (.skip)))
  (.seq (.seq (.reg [o p78 (.p (.mv (.t p0))),
  o p79 (.p (.mv (.t p8))),
  o p80 (.p (.bin .i .add (.t p79) (.c (.int .i64 1)))),
  o p81 (.p (.ixS (.t p78) (.t p80))),
  o p82 (.p (.mv (.t p7))),
  o p83 (.p (.bin .i .eql (.t p81) (.t p82))),
  o p84 (.p (.mv (.t p83))),
  g (some p85) p84 true (.p (.mv (.t p0))),
  g (some p86) p84 true (.p (.mv (.t p8))),
  g (some p87) p84 true (.p (.mv (.t p8))),
  g (some p88) p84 true (.p (.mv (.t p5))),
  g (some p89) p84 true (.p (.bin .i .add (.t p87) (.t p88))),
  g (some p90) p84 true (.p (.slS (.t p85) (some (.t p86)) (some (.t p89)))),
  g (some p91) p84 true (.p (.mv (.t p1))),
  g (some p92) p84 true (.p (.bin .s .eql (.t p90) (.t p91))),
  o p93 (.p (.pick (.t p84) (.t p92) (.c (.bool false))))])
  (.cond (.t p93) (.seq (.reg [o p94 (.p (.mv (.t p8))),
  o p4 (.p (.mv (.t p94)))])
  (.ret))
  (.skip)))
  (.seq (.reg [o p95 (.p (.mv (.t p8))),
  o p96 (.p (.bin .i .add (.t p95) (.c (.int .i64 1)))),
  o p8 (.p (.mv (.t p96)))])
  (.seq (.reg [o p97 (.p (.mv (.t p10))),
  o p98 (.p (.bin .i .add (.t p97) (.c (.int .i64 1)))),
  o p10 (.p (.mv (.t p98)))])
  (.seq (.bad)
  (.cond (.t p107) (.seq (.reg [o p108 (.p (.mv (.t p0))),
  o p109 (.p (.mv (.t p8))),
  o p110 (.p (.slS (.t p108) (some (.t p109)) none)),
  o p111 (.p (.mv (.t p1))),
  o p112 (.call 369 [(.t p110), (.t p111)]),
  o p12 (.p (.mv (.t p112)))])
  (.seq (.seq (.reg [o p113 (.p (.mv (.t p12))),
  o p114 (.p (.bin .i .geq (.t p113) (.c (.int .i64 0))))])
  (.cond (.t p114) (.seq (.reg [o p115 (.p (.mv (.t p12))),
  o p116 (.p (.mv (.t p8))),
  o p117 (.p (.bin .i .add (.t p115) (.t p116))),
  o p4 (.p (.mv (.t p117)))])
  (.ret))
  (.skip)))
  (.seq (.reg [o p4 (.p (.mv (.c (.int .i64 (-1)))))])
  (.ret))))
  (.seq (.bad)
  (.cond (.t p132) (.seq (.reg [o p133 (.p (.mv (.t p0))),
  o p134 (.p (.mv (.t p8))),
  o p135 (.p (.slS (.t p133) (some (.t p134)) none)),
  o p136 (.p (.mv (.t p1))),
  o p137 (.call 371 [(.t p135), (.t p136)]),
  o p13 (.p (.mv (.t p137)))])
  (.seq (.seq (.reg [o p138 (.p (.mv (.t p13))),
  o p139 (.p (.bin .i .lss (.t p138) (.c (.int .i64 0))))])
  (.cond (.t p139) (.seq (.reg [o p4 (.p (.mv (.c (.int .i64 (-1)))))])
  (.ret))
  (.skip)))
  (.seq (.reg [o p140 (.p (.mv (.t p8))),
  o p141 (.p (.mv (.t p13))),
  o p142 (.p (.bin .i .add (.t p140) (.t p141))),
  o p4 (.p (.mv (.t p142)))])
  (.ret))))
  (.skip)))))))))))))
  (.seq (.reg [o p4 (.p (.mv (.c (.int .i64 (-1)))))])
  (.ret))))))))))⟩
def c327 : CFunc := ⟨[.t p2], .seq (.reg [o p2 (.p (.mv (.c (.bool false))))])
  (.seq (.reg [o p3 (.p (.mv (.t p0))),
  o p4 (.p (.bin .i .geq (.t p3) (.c (.int .i64 0)))),
  o p5 (.p (.mv (.t p4))),
  g (some p6) p5 true (.p (.mv (.t p0))),
  g (some p7) p5 true (.p (.bin .i .lss (.t p6) (.c (.int .i64 64)))),
  o p8 (.p (.pick (.t p5) (.t p7) (.c (.bool false)))),
  o p2 (.p (.mv (.t p8)))])
  (.ret))⟩
def c328 : CFunc := ⟨[.t p2], .seq (.reg [o p2 (.p (.mv (.c (.int .u64 0))))])
  (.seq (.reg [o p3 (.p (.mv (.t p0))),
  o p4 (.p (.bin .i .shl (.c (.int .u64 1)) (.t p3))),
  o p2 (.p (.mv (.t p4)))])
  (.ret))⟩
def c337 : CFunc := ⟨[.t p4], .seq (.reg [o p4 (.p (.mv (.c (.int .i64 0))))])
  (.seq (.seq (.reg [o p7 (.p (.mv (.t p1))),
  o p8 (.p (.lenP true (.t p7))),
  o p9 (.p (.bin .i .eql (.t p8) (.c (.int .i64 0))))])
  (.cond (.t p9) (.seq (.reg [o p10 (.p (.mv (.t p0))),
  o p11 (.call 372 [(.t p10)]),
  o p12 (.p (.bin .i .add (.t p11) (.c (.int .i64 1)))),
  o p4 (.p (.mv (.t p12)))])
  (.ret))
  (.skip)))
  (.seq (.seq (.reg [o p13 (.p (.mv (.t p1))),
  o p14 (.p (.lenP true (.t p13))),
  o p15 (.p (.bin .i .eql (.t p14) (.c (.int .i64 1))))])
  (.cond (.t p15) (.seq (.reg [o p16 (.p (.mv (.t p0))),
  o p17 (.p (.mv (.t p1))),
  o p18 (.p (.ixS (.t p17) (.c (.int .i64 0)))),
  o p19 (.call 373 [(.t p16), (.t p18)]),
  o p4 (.p (.mv (.t p19)))])
  (.ret))
  (.skip)))
  (.seq (.reg [o p5 (.p (.mv (.c (.int .i64 0))))])
  (.block 0 (.loop (.block 1 (.seq (.reg [o p20 (.p (.mv (.t p0))),
  o p21 (.p (.mv (.t p1))),
  o p22 (.call 339 [(.t p20), (.t p21)]),
  o p6 (.p (.mv (.t p22)))])
  (.seq (.seq (.reg [o p23 (.p (.mv (.t p6))),
  o p24 (.p (.bin .i .eql (.t p23) (.c (.int .i64 (-1)))))])
  (.cond (.t p24) (.seq (.reg [o p25 (.p (.mv (.t p5))),
  o p4 (.p (.mv (.t p25)))])
  (.ret))
  (.skip)))
  (.seq (.reg [o p26 (.p (.mv (.t p5))),
  o p27 (.p (.bin .i .add (.t p26) (.c (.int .i64 1)))),
  o p5 (.p (.mv (.t p27)))])
  (.reg [o p28 (.p (.mv (.t p0))),
  o p29 (.p (.mv (.t p6))),
  o p30 (.p (.mv (.t p1))),
  o p31 (.p (.lenP true (.t p30))),
  o p32 (.p (.bin .i .add (.t p29) (.t p31))),
  o p33 (.p (.slS (.t p28) (some (.t p32)) none)),
  o p0 (.p (.mv (.t p33)))]))))))))))⟩
def c339 : CFunc := ⟨[.t p4], .seq (.reg [o p4 (.p (.mv (.c (.int .i64 0))))])
  (.seq (.reg [o p5 (.p (.mv (.t p0))),
  o p6 (.p (.mv (.t p1))),
  o p7 (.call 326 [(.t p5), (.t p6)]),
  o p4 (.p (.mv (.t p7)))])
  (.ret))⟩
def c341 : CFunc := ⟨[.t p2, .t p3], .seq (.reg [o p2 (.p (.mv (.c (.int .i32 0)))),
  o p3 (.p (.mv (.c (.int .i64 0))))])
  (.seq (.seq (.reg [o p4 (.p (.mv (.t p0))),
  o p5 (.p (.bin .s .neq (.t p4) (.c (.string ⟨⟨[]⟩⟩)))),
  o p6 (.p (.mv (.t p5))),
  g (some p7) p6 true (.p (.mv (.t p0))),
  g (some p8) p6 true (.p (.ixS (.t p7) (.c (.int .i64 0)))),
  g (some p9) p6 true (.p (.bin .i .lss (.t p8) (.c (.int .u8 128)))),
  o p10 (.p (.pick (.t p6) (.t p9) (.c (.bool false))))])
  (.cond (.t p10) (.seq (.reg [o p11 (.p (.mv (.t p0))),
  o p12 (.p (.ixS (.t p11) (.c (.int .i64 0)))),
  o p13 (.p (.conv .i32 (.t p12))),
  o p2 (.p (.mv (.t p13))),
  o p3 (.p (.mv (.c (.int .i64 1))))])
  (.ret))
  (.reg [o p15 (.p (.mv (.t p0))),
  o p16 (.call 376 [(.t p15)]),
  o p14 (.p (.mv (.t p16))),
  o p17 (.p (.ext 0 (.t p14))),
  o p18 (.p (.ext 1 (.t p14))),
  o p2 (.p (.mv (.t p17))),
  o p3 (.p (.mv (.t p18)))])))
  (.ret))⟩
def c343 : CFunc := ⟨[.t p2], .seq (.reg [o p2 (.p (.mv (.c (.string ⟨⟨[]⟩⟩))))])
  (.seq (.reg [o p3 (.p (.mv (.c (.slice none 0 0))))])
  (.seq (.seq (.reg [o p6 (.p (.mv (.t p0))),
  o p7 (.call 377 [(.t p6)]),
  o p8 (.p (.mv (.c (.int .i64 0))))])
  (.block 0 (.loop (.seq (.reg [o p9 (.p (.bin .i .lss (.t p8) (.c (.int .i64 4))))])
  (.seq (.cond (.t p9) (.skip)
  (.exit 0))
  (.seq (.block 1 (.seq (.reg [o p10 (.p (.ixA 4 1 false (.t p7) (.t p8))),
  o p5 (.p (.mv (.t p10)))])
  (.reg [o p11 (.p (.mv (.t p3))),
  o p12 (.p (.mv (.t p5))),
  o p13 (.call 378 [(.t p12)]),
  o p14 (.a (.bsl 1 1 [(.string ⟨⟨[]⟩⟩)] [(0, 1, (.t p13))])),
  o p15 (.w (.app 1 16 (.t p11) (.t p14))),
  o p3 (.p (.mv (.t p15)))])))
  (.reg [o p16 (.p (.bin .i .add (.t p8) (.c (.int .i64 1)))),
  o p8 (.p (.mv (.t p16)))])))))))
  (.seq (.reg [o p17 (.p (.mv (.t p3))),
  o p18 (.call 379 [(.t p17), (.c (.string ⟨⟨[46]⟩⟩))]),
  o p2 (.p (.mv (.t p18)))])
  (.ret))))⟩
def c344 : CFunc := ⟨[.t p2], .seq (.reg [o p2 (.p (.mv (.c (.string ⟨⟨[]⟩⟩))))])
  (.seq (.seq (.reg [o p3 (.p (.mv (.t p0))),
  o p4 (.p (.bin .i .lss (.t p3) (.c (.int .i64 10))))])
  (.cond (.t p4) (.seq (.reg [o p5 (.p (.mv (.t p0))),
  o p6 (.p (.bin .i .add (.c (.int .i64 48)) (.t p5))),
  o p7 (.p (.conv .u8 (.t p6))),
  o p8 (.a (.bsl 1 1 [(.int .u8 0)] [(0, 1, (.t p7))])),
  o p9 (.r (.b2s (.t p8))),
  o p2 (.p (.mv (.t p9)))])
  (.ret))
  (.skip)))
  (.seq (.reg [o p10 (.p (.mv (.t p0))),
  o p11 (.p (.bin .i .quo (.t p10) (.c (.int .i64 10)))),
  o p12 (.call 344 [(.t p11)]),
  o p13 (.p (.mv (.t p0))),
  o p14 (.p (.bin .i .rem (.t p13) (.c (.int .i64 10)))),
  o p15 (.call 344 [(.t p14)]),
  o p16 (.p (.bin .s .add (.t p12) (.t p15))),
  o p2 (.p (.mv (.t p16)))])
  (.ret)))⟩
def c348 : CFunc := ⟨[], .seq (.reg [o p12 (.p (.mv (.t p1))),
  o p10 (.p (.mv (.t p12)))])
  (.block 0 (.loop (.block 1 (.seq (.reg [o p13 (.p (.mv (.t p10))),
  o p14 (.p (.bin .i .mul (.c (.int .i64 2)) (.t p13))),
  o p15 (.p (.bin .i .add (.t p14) (.c (.int .i64 1)))),
  o p11 (.p (.mv (.t p15)))])
  (.seq (.seq (.reg [o p16 (.p (.mv (.t p11))),
  o p17 (.p (.mv (.t p2))),
  o p18 (.p (.bin .i .geq (.t p16) (.t p17)))])
  (.cond (.t p18) (.exit 0)
  (.skip)))
  (.seq (.seq (.dreg [o p19 (.p (.mv (.t p11))),
  o p20 (.p (.bin .i .add (.t p19) (.c (.int .i64 1)))),
  o p21 (.p (.mv (.t p2))),
  o p22 (.p (.bin .i .lss (.t p20) (.t p21))),
  o p23 (.p (.mv (.t p22))),
  g (some p24) p23 true (.p (.mv (.t p4))),
  g (some p25) p23 true (.p (.mv (.t p0))),
  g (some p26) p23 true (.p (.mv (.t p3))),
  g (some p27) p23 true (.p (.mv (.t p11))),
  g (some p28) p23 true (.p (.bin .i .add (.t p26) (.t p27))),
  g (some p29) p23 true (.p (.iaL 2 (.t p25) (.t p28))),
  g (some p30) p23 true (.r (.ld 2 true (.t p29))),
  g (some p31) p23 true (.p (.mv (.t p0))),
  g (some p32) p23 true (.p (.mv (.t p3))),
  g (some p33) p23 true (.p (.mv (.t p11))),
  g (some p34) p23 true (.p (.bin .i .add (.t p32) (.t p33))),
  g (some p35) p23 true (.p (.bin .i .add (.t p34) (.c (.int .i64 1)))),
  g (some p36) p23 true (.p (.iaL 2 (.t p31) (.t p35))),
  g (some p37) p23 true (.r (.ld 2 true (.t p36))),
  g (some p38) p23 true (.callv (.t p24) [(.t p30), (.t p37)]),
  g (some p39) p23 true (.p (.bin .i .lss (.t p38) (.c (.int .i64 0)))),
  o p40 (.p (.pick (.t p23) (.t p39) (.c (.bool false))))] [[], [], [], [], [], [], [], [], [], [], [], [], [], [], [], [], [], [], [], [], [], []])
  (.cond (.t p40) (.reg [o p41 (.p (.mv (.t p11))),
  o p42 (.p (.bin .i .add (.t p41) (.c (.int .i64 1)))),
  o p11 (.p (.mv (.t p42)))])
  (.skip)))
  (.seq (.seq (.dreg [o p43 (.p (.mv (.t p4))),
  o p44 (.p (.mv (.t p0))),
  o p45 (.p (.mv (.t p3))),
  o p46 (.p (.mv (.t p10))),
  o p47 (.p (.bin .i .add (.t p45) (.t p46))),
  o p48 (.p (.iaL 2 (.t p44) (.t p47))),
  o p49 (.r (.ld 2 true (.t p48))),
  o p50 (.p (.mv (.t p0))),
  o p51 (.p (.mv (.t p3))),
  o p52 (.p (.mv (.t p11))),
  o p53 (.p (.bin .i .add (.t p51) (.t p52))),
  o p54 (.p (.iaL 2 (.t p50) (.t p53))),
  o p55 (.r (.ld 2 true (.t p54))),
  o p56 (.callv (.t p43) [(.t p49), (.t p55)]),
  o p57 (.p (.bin .i .lss (.t p56) (.c (.int .i64 0)))),
  o p58 (.p (.un .not (.t p57)))] [[], [], [], [], [], [], [], [], [], [], [], [], [], [], [], []])
  (.cond (.t p58) (.ret)
  (.skip)))
  (.seq (.dreg [o p59 (.p (.mv (.t p0))),
  o p60 (.p (.mv (.t p3))),
  o p61 (.p (.mv (.t p10))),
  o p62 (.p (.bin .i .add (.t p60) (.t p61))),
  o p63 (.p (.mv (.t p0))),
  o p64 (.p (.mv (.t p3))),
  o p65 (.p (.mv (.t p11))),
  o p66 (.p (.bin .i .add (.t p64) (.t p65))),
  o p67 (.p (.mv (.t p0))),
  o p68 (.p (.mv (.t p3))),
  o p69 (.p (.mv (.t p11))),
  o p70 (.p (.bin .i .add (.t p68) (.t p69))),
  o p71 (.p (.iaL 2 (.t p67) (.t p70))),
  o p72 (.r (.ld 2 true (.t p71))),
  o p73 (.p (.mv (.t p0))),
  o p74 (.p (.mv (.t p3))),
  o p75 (.p (.mv (.t p10))),
  o p76 (.p (.bin .i .add (.t p74) (.t p75))),
  o p77 (.p (.iaL 2 (.t p73) (.t p76))),
  o p78 (.r (.ld 2 true (.t p77))),
  o p79 (.p (.iaL 2 (.t p59) (.t p62))),
  n (.w (.st 2 (.t p79) (.t p72))),
  o p80 (.p (.iaL 2 (.t p63) (.t p66))),
  n (.w (.st 2 (.t p80) (.t p78)))] [[], [], [], [], [], [], [], [], [], [], [], [], [], [], [], [], [], [], [], [], [], [], [], []])
  (.reg [o p81 (.p (.mv (.t p11))),
  o p10 (.p (.mv (.t p81)))])))))))))⟩
def c349 : CFunc := ⟨[.t p8], .seq (.reg [o p8 (.p (.mv (.c (.int .i64 0))))])
  (.seq (.reg [o p9 (.p (.mv (.t p0))),
  o p10 (.p (.mv (.t p1))),
  o p11 (.p (.bin .i .sub (.t p10) (.c (.int .i64 1)))),
  o p12 (.p (.mv (.t p1))),
  o p13 (.p (.mv (.t p1))),
  o p14 (.p (.bin .i .add (.t p13) (.c (.int .i64 1)))),
  o p15 (.p (.mv (.t p2))),
  o p16 (.p (.mv (.t p3))),
  o p17 (.call 350 [(.t p9), (.t p11), (.t p12), (.t p14), (.t p15), (.t p16)]),
  o p8 (.p (.mv (.t p17)))])
  (.ret))⟩
def c350 : CFunc := ⟨[.t p12], .seq (.reg [o p12 (.p (.mv (.c (.int .i64 0))))])
  (.seq (.reg [o p14 (.p (.mv (.t p0))),
  o p15 (.p (.mv (.t p1))),
  o p16 (.p (.mv (.t p2))),
  o p17 (.p (.mv (.t p4))),
  o p18 (.p (.mv (.t p5))),
  o p19 (.call 382 [(.t p14), (.t p15), (.t p16), (.t p17), (.t p18)]),
  o p13 (.p (.mv (.t p19))),
  o p20 (.p (.ext 0 (.t p13))),
  o p21 (.p (.ext 1 (.t p13))),
  o p1 (.p (.mv (.t p20))),
  o p2 (.p (.mv (.t p21)))])
  (.seq (.reg [o p23 (.p (.mv (.t p0))),
  o p24 (.p (.mv (.t p2))),
  o p25 (.p (.mv (.t p3))),
  o p26 (.p (.mv (.t p4))),
  o p27 (.p (.mv (.t p5))),
  o p28 (.call 382 [(.t p23), (.t p24), (.t p25), (.t p26), (.t p27)]),
  o p22 (.p (.mv (.t p28))),
  o p29 (.p (.ext 0 (.t p22))),
  o p30 (.p (.ext 1 (.t p22))),
  o p2 (.p (.mv (.t p29))),
  o p3 (.p (.mv (.t p30)))])
  (.seq (.reg [o p32 (.p (.mv (.t p0))),
  o p33 (.p (.mv (.t p1))),
  o p34 (.p (.mv (.t p2))),
  o p35 (.p (.mv (.t p4))),
  o p36 (.p (.mv (.t p5))),
  o p37 (.call 382 [(.t p32), (.t p33), (.t p34), (.t p35), (.t p36)]),
  o p31 (.p (.mv (.t p37))),
  o p38 (.p (.ext 0 (.t p31))),
  o p39 (.p (.ext 1 (.t p31))),
  o p1 (.p (.mv (.t p38))),
  o p2 (.p (.mv (.t p39)))])
  (.seq (.reg [o p40 (.p (.mv (.t p2))),
  o p12 (.p (.mv (.t p40)))])
  (.ret)))))⟩
def c351 : CFunc := ⟨[.t p2], .seq (.reg [o p2 (.p (.mv (.c (.slice none 0 0))))])
  (.seq (.seq (.reg [o p3 (.p (.mv (.t p0))),
  o p4 (.p (.bin .l .eql (.t p3) (.c (.slice none 0 0))))])
  (.cond (.t p4) (.seq (.reg [o p2 (.p (.mv (.c (.slice none 0 0))))])
  (.ret))
  (.skip)))
  (.seq (.reg [o p5 (.a (.bsl 2 0 [(.int .u32 0), (.int .i64 0)] [])),
  o p6 (.p (.mv (.t p0))),
  o p7 (.w (.app 2 16 (.t p5) (.t p6))),
  o p2 (.p (.mv (.t p7)))])
  (.ret)))⟩
def c352 : CFunc := ⟨[.t p6], .seq (.reg [o p6 (.p (.mv (.c (.slice none 0 0))))])
  (.seq (.reg [o p8 (.p (.mv (.t p0))),
  o p9 (.p (.mv (.t p1))),
  o p10 (.p (.mv (.t p2))),
  o p11 (.p (.mv (.t p0))),
  o p12 (.p (.lenP false (.t p11))),
  o p13 (.r (.slL 2 (.t p8) (some (.t p9)) (some (.t p10)) (some (.t p12))))])
  (.seq (.seq (.reg [o p14 (.p (.mv (.t p1))),
  o p15 (.p (.mv (.t p2))),
  o p16 (.p (.bin .i .eql (.t p14) (.t p15)))])
  (.cond (.t p16) (.seq (.reg [o p17 (.p (.mv (.t p0))),
  o p6 (.p (.mv (.t p17)))])
  (.ret))
  (.skip)))
  (.seq (.reg [o p18 (.p (.mv (.t p0))),
  o p19 (.p (.lenP false (.t p18))),
  o p7 (.p (.mv (.t p19)))])
  (.seq (.dreg [o p20 (.p (.mv (.t p0))),
  o p21 (.p (.mv (.t p1))),
  o p22 (.r (.slL 2 (.t p20) none (some (.t p21)) none)),
  o p23 (.p (.mv (.t p0))),
  o p24 (.p (.mv (.t p2))),
  o p25 (.r (.slL 2 (.t p23) (some (.t p24)) none none)),
  o p26 (.w (.app 2 16 (.t p22) (.t p25))),
  o p0 (.p (.mv (.t p26)))] [[], [], [], [], [], [], [], []])
  (.seq (.reg [o p27 (.p (.mv (.t p0))),
  o p28 (.p (.mv (.t p0))),
  o p29 (.p (.lenP false (.t p28))),
  o p30 (.p (.mv (.t p7))),
  o p31 (.r (.slL 2 (.t p27) (some (.t p29)) (some (.t p30)) none)),
  n (.w (.clr 2 [(.int .u32 0), (.int .i64 0)] (.t p31)))])
  (.seq (.reg [o p32 (.p (.mv (.t p0))),
  o p6 (.p (.mv (.t p32)))])
  (.ret)))))))⟩
def c353 : CFunc := ⟨[.t p6], .seq (.reg [o p6 (.p (.mv (.c (.slice none 0 0))))])
  (.seq (.reg [o p10 (.p (.mv (.t p0))),
  o p11 (.p (.mv (.t p1))),
  o p12 (.r (.slL 2 (.t p10) (some (.t p11)) none none))])
  (.seq (.reg [o p13 (.p (.mv (.t p2))),
  o p14 (.p (.lenP false (.t p13))),
  o p7 (.p (.mv (.t p14)))])
  (.seq (.seq (.reg [o p15 (.p (.mv (.t p7))),
  o p16 (.p (.bin .i .eql (.t p15) (.c (.int .i64 0))))])
  (.cond (.t p16) (.seq (.reg [o p17 (.p (.mv (.t p0))),
  o p6 (.p (.mv (.t p17)))])
  (.ret))
  (.skip)))
  (.seq (.reg [o p18 (.p (.mv (.t p0))),
  o p19 (.p (.lenP false (.t p18))),
  o p8 (.p (.mv (.t p19)))])
  (.seq (.seq (.reg [o p20 (.p (.mv (.t p1))),
  o p21 (.p (.mv (.t p8))),
  o p22 (.p (.bin .i .eql (.t p20) (.t p21)))])
  (.cond (.t p22) (.seq (.reg [o p23 (.p (.mv (.t p0))),
  o p24 (.p (.mv (.t p2))),
  o p25 (.w (.app 2 16 (.t p23) (.t p24))),
  o p6 (.p (.mv (.t p25)))])
  (.ret))
  (.skip)))
  (.seq (.seq (.bad)
  (.cond (.t p31) (.seq (.bad)
  (.seq (.reg [o p41 (.p (.mv (.t p9))),
  o p42 (.p (.mv (.t p1))),
  o p43 (.r (.slL 2 (.t p41) (some (.t p42)) none none)),
  o p44 (.p (.mv (.t p2))),
  o p45 (.w (.cpy 2 (.t p43) (.t p44)))])
  (.seq (.dreg [o p46 (.p (.mv (.t p9))),
  o p47 (.p (.mv (.t p1))),
  o p48 (.p (.mv (.t p7))),
  o p49 (.p (.bin .i .add (.t p47) (.t p48))),
  o p50 (.r (.slL 2 (.t p46) (some (.t p49)) none none)),
  o p51 (.p (.mv (.t p0))),
  o p52 (.p (.mv (.t p1))),
  o p53 (.r (.slL 2 (.t p51) (some (.t p52)) none none)),
  o p54 (.w (.cpy 2 (.t p50) (.t p53)))] [[], [], [], [], [], [], [], [], []])
  (.seq (.reg [o p55 (.p (.mv (.t p9))),
  o p6 (.p (.mv (.t p55)))])
  (.ret)))))
  (.skip)))
  (.seq (.reg [o p56 (.p (.mv (.t p0))),
  o p57 (.p (.mv (.t p8))),
  o p58 (.p (.mv (.t p7))),
  o p59 (.p (.bin .i .add (.t p57) (.t p58))),
  o p60 (.r (.slL 2 (.t p56) none (some (.t p59)) none)),
  o p0 (.p (.mv (.t p60)))])
  (.seq (.seq (.reg [o p61 (.p (.mv (.t p2))),
  o p62 (.p (.mv (.t p0))),
  o p63 (.p (.mv (.t p1))),
  o p64 (.p (.mv (.t p7))),
  o p65 (.p (.bin .i .add (.t p63) (.t p64))),
  o p66 (.r (.slL 2 (.t p62) (some (.t p65)) none none)),
  o p67 (.call 383 [(.t p61), (.t p66)]),
  o p68 (.p (.un .not (.t p67)))])
  (.cond (.t p68) (.seq (.dreg [o p69 (.p (.mv (.t p0))),
  o p70 (.p (.mv (.t p1))),
  o p71 (.p (.mv (.t p7))),
  o p72 (.p (.bin .i .add (.t p70) (.t p71))),
  o p73 (.r (.slL 2 (.t p69) (some (.t p72)) none none)),
  o p74 (.p (.mv (.t p0))),
  o p75 (.p (.mv (.t p1))),
  o p76 (.r (.slL 2 (.t p74) (some (.t p75)) none none)),
  o p77 (.w (.cpy 2 (.t p73) (.t p76)))] [[], [], [], [], [], [], [], [], []])
  (.seq (.reg [o p78 (.p (.mv (.t p0))),
  o p79 (.p (.mv (.t p1))),
  o p80 (.r (.slL 2 (.t p78) (some (.t p79)) none none)),
  o p81 (.p (.mv (.t p2))),
  o p82 (.w (.cpy 2 (.t p80) (.t p81)))])
  (.seq (.reg [o p83 (.p (.mv (.t p0))),
  o p6 (.p (.mv (.t p83)))])
  (.ret))))
  (.skip)))
  (.seq (.reg [o p84 (.p (.mv (.t p0))),
  o p85 (.p (.mv (.t p8))),
  o p86 (.r (.slL 2 (.t p84) (some (.t p85)) none none)),
  o p87 (.p (.mv (.t p2))),
  o p88 (.w (.cpy 2 (.t p86) (.t p87)))])
  (.seq (.reg [o p89 (.p (.mv (.t p0))),
  o p90 (.p (.mv (.t p1))),
  o p91 (.r (.slL 2 (.t p89) (some (.t p90)) none none)),
  o p92 (.p (.mv (.t p7))),
  o p93 (.call 384 [(.t p91), (.t p92)])])
  (.seq (.reg [o p94 (.p (.mv (.t p0))),
  o p6 (.p (.mv (.t p94)))])
  (.ret))))))))))))⟩
def c354 : CFunc := ⟨[.t p6, .t p7], .seq (.reg [o p6 (.p (.mv (.c (.int .i64 0)))),
  o p7 (.p (.mv (.c (.bool false))))])
  (.seq (.reg [o p12 (.p (.mv (.t p0))),
  o p13 (.p (.lenP false (.t p12))),
  o p8 (.p (.mv (.t p13)))])
  (.seq (.reg [o p14 (.p (.mv (.t p8))),
  o p9 (.p (.mv (.c (.int .i64 0)))),
  o p10 (.p (.mv (.t p14)))])
  (.seq (.block 0 (.loop (.seq (.seq (.reg [o p15 (.p (.mv (.t p9))),
  o p16 (.p (.mv (.t p10))),
  o p17 (.p (.bin .i .lss (.t p15) (.t p16)))])
  (.cond (.t p17) (.skip)
  (.exit 0)))
  (.block 1 (.seq (.reg [o p18 (.p (.mv (.t p9))),
  o p19 (.p (.mv (.t p10))),
  o p20 (.p (.bin .i .add (.t p18) (.t p19))),
  o p21 (.p (.conv .u64 (.t p20))),
  o p22 (.p (.bin .i .shr (.t p21) (.c (.int .u64 1)))),
  o p23 (.p (.conv .i64 (.t p22))),
  o p11 (.p (.mv (.t p23)))])
  (.seq (.reg [o p24 (.p (.mv (.t p2))),
  o p25 (.p (.mv (.t p0))),
  o p26 (.p (.mv (.t p11))),
  o p27 (.p (.iaL 2 (.t p25) (.t p26))),
  o p28 (.r (.ld 2 true (.t p27))),
  o p29 (.p (.mv (.t p1))),
  o p30 (.callv (.t p24) [(.t p28), (.t p29)]),
  o p31 (.p (.bin .i .lss (.t p30) (.c (.int .i64 0))))])
  (.cond (.t p31) (.reg [o p32 (.p (.mv (.t p11))),
  o p33 (.p (.bin .i .add (.t p32) (.c (.int .i64 1)))),
  o p9 (.p (.mv (.t p33)))])
  (.reg [o p34 (.p (.mv (.t p11))),
  o p10 (.p (.mv (.t p34)))]))))))))
  (.seq (.reg [o p35 (.p (.mv (.t p9))),
  o p36 (.p (.mv (.t p9))),
  o p37 (.p (.mv (.t p8))),
  o p38 (.p (.bin .i .lss (.t p36) (.t p37))),
  o p39 (.p (.mv (.t p38))),
  g (some p40) p39 true (.p (.mv (.t p2))),
  g (some p41) p39 true (.p (.mv (.t p0))),
  g (some p42) p39 true (.p (.mv (.t p9))),
  g (some p43) p39 true (.p (.iaL 2 (.t p41) (.t p42))),
  g (some p44) p39 true (.r (.ld 2 true (.t p43))),
  g (some p45) p39 true (.p (.mv (.t p1))),
  g (some p46) p39 true (.callv (.t p40) [(.t p44), (.t p45)]),
  g (some p47) p39 true (.p (.bin .i .eql (.t p46) (.c (.int .i64 0)))),
  o p48 (.p (.pick (.t p39) (.t p47) (.c (.bool false)))),
  o p6 (.p (.mv (.t p35))),
  o p7 (.p (.mv (.t p48)))])
  (.ret)))))⟩
def c355 : CFunc := ⟨[.t p4], .seq (.reg [o p2 (.a (.box 2 (.t p0))),
  o p4 (.p (.mv (.c (.int .i64 0))))])
  (.seq (.reg [o p5 (.p (.fa 0 (.t p2))),
  o p6 (.r (.ld 1 false (.t p5))),
  o p7 (.p (.mv (.t p1))),
  o p8 (.call 356 [(.t p6), (.t p7)]),
  o p4 (.p (.mv (.t p8)))])
  (.ret))⟩
def c356 : CFunc := ⟨[.t p4], .seq (.reg [o p4 (.p (.mv (.c (.int .i64 0))))])
  (.seq (.reg [o p7 (.p (.mv (.t p0))),
  o p8 (.call 290 [(.t p7)]),
  o p5 (.p (.mv (.t p8)))])
  (.seq (.reg [o p9 (.p (.mv (.t p1))),
  o p10 (.call 290 [(.t p9)]),
  o p6 (.p (.mv (.t p10)))])
  (.seq (.seq (.reg [o p11 (.p (.mv (.t p5)))])
  (.cond (.t p11) (.seq (.seq (.reg [o p12 (.p (.mv (.t p6)))])
  (.cond (.t p12) (.seq (.reg [o p4 (.p (.mv (.c (.int .i64 0))))])
  (.ret))
  (.skip)))
  (.seq (.reg [o p4 (.p (.mv (.c (.int .i64 (-1)))))])
  (.ret)))
  (.skip)))
  (.seq (.seq (.reg [o p13 (.p (.mv (.t p6)))])
  (.cond (.t p13) (.seq (.reg [o p4 (.p (.mv (.c (.int .i64 1))))])
  (.ret))
  (.skip)))
  (.seq (.seq (.reg [o p14 (.p (.mv (.t p0))),
  o p15 (.p (.mv (.t p1))),
  o p16 (.p (.bin .i .lss (.t p14) (.t p15)))])
  (.cond (.t p16) (.seq (.reg [o p4 (.p (.mv (.c (.int .i64 (-1)))))])
  (.ret))
  (.skip)))
  (.seq (.seq (.reg [o p17 (.p (.mv (.t p0))),
  o p18 (.p (.mv (.t p1))),
  o p19 (.p (.bin .i .gtr (.t p17) (.t p18)))])
  (.cond (.t p19) (.seq (.reg [o p4 (.p (.mv (.c (.int .i64 1))))])
  (.ret))
  (.skip)))
  (.seq (.reg [o p4 (.p (.mv (.c (.int .i64 0))))])
  (.ret))))))))⟩
def c365 : CFunc := ⟨[.t p4], .seq (.reg [o p4 (.p (.mv (.c (.slice none 0 0))))])
  (.seq (.reg [o p5 (.p (.mv (.t p0))),
  o p6 (.p (.mv (.t p1))),
  o p7 (.call 393 [(.t p5), (.t p6), (.c (.int .i64 0)), (.c (.int .i64 (-1)))]),
  o p4 (.p (.mv (.t p7)))])
  (.ret))⟩
def c366 : CFunc := ⟨[.t p2, .t p3], .seq (.reg [o p2 (.p (.mv (.c (.int .u8 0)))),
  o p3 (.p (.mv (.c (.bool false))))])
  (.seq (.reg [o p4 (.p (.mv (.c (.int .i64 0))))])
  (.seq (.seq (.reg [o p6 (.p (.mv (.t p0))),
  o p7 (.p (.bin .s .eql (.t p6) (.c (.string ⟨⟨[]⟩⟩)))),
  o p8 (.p (.mv (.t p7))),
  g (some p9) p8 false (.p (.mv (.t p0))),
  g (some p10) p8 false (.p (.lenP true (.t p9))),
  g (some p11) p8 false (.p (.bin .i .gtr (.t p10) (.c (.int .i64 3)))),
  o p12 (.p (.pick (.t p8) (.c (.bool true)) (.t p11)))])
  (.cond (.t p12) (.seq (.reg [o p2 (.p (.mv (.c (.int .u8 0)))),
  o p3 (.p (.mv (.c (.bool false))))])
  (.ret))
  (.skip)))
  (.seq (.seq (.reg [o p13 (.p (.mv (.t p0))),
  o p14 (.p (.lenP true (.t p13))),
  o p15 (.p (.mv (.c (.int .i64 0))))])
  (.block 0 (.loop (.seq (.reg [o p16 (.p (.bin .i .lss (.t p15) (.t p14)))])
  (.seq (.cond (.t p16) (.skip)
  (.exit 0))
  (.seq (.block 1 (.seq (.reg [o p17 (.p (.mv (.t p15))),
  o p5 (.p (.mv (.t p17)))])
  (.seq (.seq (.reg [o p18 (.p (.mv (.t p0))),
  o p19 (.p (.mv (.t p5))),
  o p20 (.p (.ixS (.t p18) (.t p19))),
  o p21 (.p (.bin .i .lss (.t p20) (.c (.int .u8 48)))),
  o p22 (.p (.mv (.t p21))),
  g (some p23) p22 false (.p (.mv (.t p0))),
  g (some p24) p22 false (.p (.mv (.t p5))),
  g (some p25) p22 false (.p (.ixS (.t p23) (.t p24))),
  g (some p26) p22 false (.p (.bin .i .gtr (.t p25) (.c (.int .u8 57)))),
  o p27 (.p (.pick (.t p22) (.c (.bool true)) (.t p26)))])
  (.cond (.t p27) (.seq (.reg [o p2 (.p (.mv (.c (.int .u8 0)))),
  o p3 (.p (.mv (.c (.bool false))))])
  (.ret))
  (.skip)))
  (.reg [o p28 (.p (.mv (.t p4))),
  o p29 (.p (.bin .i .mul (.c (.int .i64 10)) (.t p28))),
  o p30 (.p (.mv (.t p0))),
  o p31 (.p (.mv (.t p5))),
  o p32 (.p (.ixS (.t p30) (.t p31))),
  o p33 (.p (.bin .i .sub (.t p32) (.c (.int .u8 48)))),
  o p34 (.p (.conv .i64 (.t p33))),
  o p35 (.p (.bin .i .add (.t p29) (.t p34))),
  o p4 (.p (.mv (.t p35)))]))))
  (.reg [o p36 (.p (.bin .i .add (.t p15) (.c (.int .i64 1)))),
  o p15 (.p (.mv (.t p36)))])))))))
  (.seq (.reg [o p37 (.p (.mv (.t p4))),
  o p38 (.p (.conv .u8 (.t p37))),
  o p39 (.p (.mv (.t p4))),
  o p40 (.p (.bin .i .lss (.t p39) (.c (.int .i64 256)))),
  o p41 (.p (.mv (.t p40))),
  g (some p42) p41 true (.p (.mv (.t p4))),
  g (some p43) p41 true (.p (.conv .u8 (.t p42))),
  g (some p44) p41 true (.call 378 [(.t p43)]),
  g (some p45) p41 true (.p (.mv (.t p0))),
  g (some p46) p41 true (.p (.bin .s .eql (.t p44) (.t p45))),
  o p47 (.p (.pick (.t p41) (.t p46) (.c (.bool false)))),
  o p2 (.p (.mv (.t p38))),
  o p3 (.p (.mv (.t p47)))])
  (.ret)))))⟩
def c367 : CFunc := ⟨[.t p2], .seq (.reg [o p1 (.a (.box 4 (.t p0))),
  o p2 (.p (.mv (.c (.int .u32 0))))])
  (.seq (.reg [o p3 (.p (.mv (.c (.int .u32 0))))])
  (.seq (.seq (.reg [o p6 (.r (.ld 4 true (.t p1))),
  o p7 (.p (.mv (.c (.int .i64 0))))])
  (.block 0 (.loop (.seq (.reg [o p8 (.p (.bin .i .lss (.t p7) (.c (.int .i64 4))))])
  (.seq (.cond (.t p8) (.skip)
  (.exit 0))
  (.seq (.block 1 (.seq (.reg [o p9 (.p (.ixA 4 1 false (.t p6) (.t p7))),
  o p5 (.p (.mv (.t p9)))])
  (.reg [o p10 (.p (.mv (.t p3))),
  o p11 (.p (.bin .i .shl (.t p10) (.c (.int .u64 8)))),
  o p12 (.p (.mv (.t p5))),
  o p13 (.p (.conv .u32 (.t p12))),
  o p14 (.p (.bin .i .or (.t p11) (.t p13))),
  o p3 (.p (.mv (.t p14)))])))
  (.reg [o p15 (.p (.bin .i .add (.t p7) (.c (.int .i64 1)))),
  o p7 (.p (.mv (.t p15)))])))))))
  (.seq (.reg [o p16 (.p (.mv (.t p3))),
  o p2 (.p (.mv (.t p16)))])
  (.ret))))⟩
def c368 : CFunc := ⟨[.t p4], .seq (.reg [o p4 (.p (.mv (.c (.int .i64 0))))])
  (.seq (.reg [o p5 (.p (.mv (.t p0))),
  o p6 (.p (.mv (.t p1))),
  o p7 (.call 394 [(.t p5), (.t p6)]),
  o p4 (.p (.mv (.t p7)))])
  (.ret))⟩
def c370 : CFunc := ⟨[.t p2], .seq (.reg [o p2 (.p (.mv (.c (.int .i64 0))))])
  (.seq (.reg [o p3 (.p (.mv (.t p0))),
  o p4 (.p (.bin .i .add (.t p3) (.c (.int .i64 16)))),
  o p5 (.p (.bin .i .quo (.t p4) (.c (.int .i64 8)))),
  o p2 (.p (.mv (.t p5)))])
  (.ret))⟩
def c371 : CFunc := ⟨[.t p4], .seq (.reg [o p4 (.p (.mv (.c (.int .i64 0))))])
  (.seq (.reg [o p12 (.p (.mv (.t p1))),
  o p13 (.call 395 [(.t p12)]),
  o p11 (.p (.mv (.t p13))),
  o p14 (.p (.ext 0 (.t p11))),
  o p15 (.p (.ext 1 (.t p11))),
  o p5 (.p (.mv (.t p14))),
  o p6 (.p (.mv (.t p15)))])
  (.seq (.reg [o p16 (.p (.mv (.t p1))),
  o p17 (.p (.lenP true (.t p16))),
  o p7 (.p (.mv (.t p17)))])
  (.seq (.reg [o p8 (.p (.mv (.c (.int .u32 0))))])
  (.seq (.seq (.reg [o p9 (.p (.mv (.c (.int .i64 0))))])
  (.block 0 (.loop (.seq (.seq (.reg [o p18 (.p (.mv (.t p9))),
  o p19 (.p (.mv (.t p7))),
  o p20 (.p (.bin .i .lss (.t p18) (.t p19)))])
  (.cond (.t p20) (.skip)
  (.exit 0)))
  (.seq (.block 1 (.reg [o p23 (.p (.mv (.t p8))),
  o p24 (.p (.bin .i .mul (.t p23) (.c (.int .u32 16777619)))),
  o p25 (.p (.mv (.t p0))),
  o p26 (.p (.mv (.t p9))),
  o p27 (.p (.ixS (.t p25) (.t p26))),
  o p28 (.p (.conv .u32 (.t p27))),
  o p29 (.p (.bin .i .add (.t p24) (.t p28))),
  o p8 (.p (.mv (.t p29)))]))
  (.reg [o p21 (.p (.mv (.t p9))),
  o p22 (.p (.bin .i .add (.t p21) (.c (.int .i64 1)))),
  o p9 (.p (.mv (.t p22)))]))))))
  (.seq (.seq (.reg [o p30 (.p (.mv (.t p8))),
  o p31 (.p (.mv (.t p5))),
  o p32 (.p (.bin .i .eql (.t p30) (.t p31))),
  o p33 (.p (.mv (.t p32))),
  g (some p34) p33 true (.p (.mv (.t p0))),
  g (some p35) p33 true (.p (.mv (.t p7))),
  g (some p36) p33 true (.p (.slS (.t p34) none (some (.t p35)))),
  g (some p37) p33 true (.p (.mv (.t p1))),
  g (some p38) p33 true (.p (.bin .s .eql (.t p36) (.t p37))),
  o p39 (.p (.pick (.t p33) (.t p38) (.c (.bool false))))])
  (.cond (.t p39) (.seq (.reg [o p4 (.p (.mv (.c (.int .i64 0))))])
  (.ret))
  (.skip)))
  (.seq (.seq (.reg [o p40 (.p (.mv (.t p7))),
  o p10 (.p (.mv (.t p40)))])
  (.block 2 (.loop (.seq (.seq (.reg [o p41 (.p (.mv (.t p10))),
  o p42 (.p (.mv (.t p0))),
  o p43 (.p (.lenP true (.t p42))),
  o p44 (.p (.bin .i .lss (.t p41) (.t p43)))])
  (.cond (.t p44) (.skip)
  (.exit 2)))
  (.block 3 (.seq (.reg [o p45 (.p (.mv (.t p8))),
  o p46 (.p (.bin .i .mul (.t p45) (.c (.int .u32 16777619)))),
  o p8 (.p (.mv (.t p46)))])
  (.seq (.reg [o p47 (.p (.mv (.t p8))),
  o p48 (.p (.mv (.t p0))),
  o p49 (.p (.mv (.t p10))),
  o p50 (.p (.ixS (.t p48) (.t p49))),
  o p51 (.p (.conv .u32 (.t p50))),
  o p52 (.p (.bin .i .add (.t p47) (.t p51))),
  o p8 (.p (.mv (.t p52)))])
  (.seq (.reg [o p53 (.p (.mv (.t p8))),
  o p54 (.p (.mv (.t p6))),
  o p55 (.p (.mv (.t p0))),
  o p56 (.p (.mv (.t p10))),
  o p57 (.p (.mv (.t p7))),
  o p58 (.p (.bin .i .sub (.t p56) (.t p57))),
  o p59 (.p (.ixS (.t p55) (.t p58))),
  o p60 (.p (.conv .u32 (.t p59))),
  o p61 (.p (.bin .i .mul (.t p54) (.t p60))),
  o p62 (.p (.bin .i .sub (.t p53) (.t p61))),
  o p8 (.p (.mv (.t p62)))])
  (.seq (.reg [o p63 (.p (.mv (.t p10))),
  o p64 (.p (.bin .i .add (.t p63) (.c (.int .i64 1)))),
  o p10 (.p (.mv (.t p64)))])
  (.seq (.reg [o p65 (.p (.mv (.t p8))),
  o p66 (.p (.mv (.t p5))),
  o p67 (.p (.bin .i .eql (.t p65) (.t p66))),
  o p68 (.p (.mv (.t p67))),
  g (some p69) p68 true (.p (.mv (.t p0))),
  g (some p70) p68 true (.p (.mv (.t p10))),
  g (some p71) p68 true (.p (.mv (.t p7))),
  g (some p72) p68 true (.p (.bin .i .sub (.t p70) (.t p71))),
  g (some p73) p68 true (.p (.mv (.t p10))),
  g (some p74) p68 true (.p (.slS (.t p69) (some (.t p72)) (some (.t p73)))),
  g (some p75) p68 true (.p (.mv (.t p1))),
  g (some p76) p68 true (.p (.bin .s .eql (.t p74) (.t p75))),
  o p77 (.p (.pick (.t p68) (.t p76) (.c (.bool false))))])
  (.cond (.t p77) (.seq (.reg [o p78 (.p (.mv (.t p10))),
  o p79 (.p (.mv (.t p7))),
  o p80 (.p (.bin .i .sub (.t p78) (.t p79))),
  o p4 (.p (.mv (.t p80)))])
  (.ret))
  (.skip))))))))))))
  (.seq (.reg [o p4 (.p (.mv (.c (.int .i64 (-1)))))])
  (.ret))))))))⟩
def c372 : CFunc := ⟨[.t p2], .seq (.reg [o p2 (.p (.mv (.c (.int .i64 0))))])
  (.seq (.seq (.reg [o p3 (.p (.mv (.t p0))),
  o p4 (.a (.rgS (.t p3)))])
  (.block 0 (.loop (.seq (.reg [o p5 (.w (.nxS (.t p4))),
  o p6 (.p (.ext 0 (.t p5)))])
  (.seq (.cond (.t p6) (.skip)
  (.exit 0))
  (.block 1 (.reg [o p7 (.p (.mv (.t p2))),
  o p8 (.p (.bin .i .add (.t p7) (.c (.int .i64 1)))),
  o p2 (.p (.mv (.t p8)))])))))))
  (.seq (.reg [o p9 (.p (.mv (.t p2))),
  o p2 (.p (.mv (.t p9)))])
  (.ret)))⟩
def c376 : CFunc := ⟨[.t p2, .t p3], .seq (.reg [o p2 (.p (.mv (.c (.int .i32 0)))),
  o p3 (.p (.mv (.c (.int .i64 0))))])
  (.seq (.reg [o p13 (.p (.mv (.t p0))),
  o p14 (.p (.lenP true (.t p13))),
  o p4 (.p (.mv (.t p14)))])
  (.seq (.seq (.reg [o p15 (.p (.mv (.t p4))),
  o p16 (.p (.bin .i .lss (.t p15) (.c (.int .i64 1))))])
  (.cond (.t p16) (.seq (.reg [o p2 (.p (.mv (.c (.int .i32 65533)))),
  o p3 (.p (.mv (.c (.int .i64 0))))])
  (.ret))
  (.skip)))
  (.seq (.reg [o p17 (.p (.mv (.t p0))),
  o p18 (.p (.ixS (.t p17) (.c (.int .i64 0)))),
  o p5 (.p (.mv (.t p18)))])
  (.seq (.bad)
  (.seq (.seq (.reg [o p22 (.p (.mv (.t p6))),
  o p23 (.p (.bin .i .geq (.t p22) (.c (.int .u8 240))))])
  (.cond (.t p23) (.seq (.reg [o p24 (.p (.mv (.t p6))),
  o p25 (.p (.conv .i32 (.t p24))),
  o p26 (.p (.bin .i .shl (.t p25) (.c (.int .u64 31)))),
  o p27 (.p (.bin .i .shr (.t p26) (.c (.int .u64 31)))),
  o p7 (.p (.mv (.t p27)))])
  (.seq (.reg [o p28 (.p (.mv (.t p0))),
  o p29 (.p (.ixS (.t p28) (.c (.int .i64 0)))),
  o p30 (.p (.conv .i32 (.t p29))),
  o p31 (.p (.mv (.t p7))),
  o p32 (.p (.bin .i .andNot (.t p30) (.t p31))),
  o p33 (.p (.mv (.t p7))),
  o p34 (.p (.bin .i .and (.c (.int .i32 65533)) (.t p33))),
  o p35 (.p (.bin .i .or (.t p32) (.t p34))),
  o p2 (.p (.mv (.t p35))),
  o p3 (.p (.mv (.c (.int .i64 1))))])
  (.ret)))
  (.skip)))
  (.seq (.reg [o p36 (.p (.mv (.t p6))),
  o p37 (.p (.bin .i .and (.t p36) (.c (.int .u8 7)))),
  o p38 (.p (.conv .i64 (.t p37))),
  o p8 (.p (.mv (.t p38)))])
  (.seq (.bad)
  (.seq (.seq (.reg [o p43 (.p (.mv (.t p4))),
  o p44 (.p (.mv (.t p8))),
  o p45 (.p (.bin .i .lss (.t p43) (.t p44)))])
  (.cond (.t p45) (.seq (.reg [o p2 (.p (.mv (.c (.int .i32 65533)))),
  o p3 (.p (.mv (.c (.int .i64 1))))])
  (.ret))
  (.skip)))
  (.seq (.reg [o p46 (.p (.mv (.t p0))),
  o p47 (.p (.ixS (.t p46) (.c (.int .i64 1)))),
  o p10 (.p (.mv (.t p47)))])
  (.seq (.seq (.reg [o p48 (.p (.mv (.t p10))),
  o p49 (.p (.fa 0 (.t p9))),
  o p50 (.r (.ld 1 false (.t p49))),
  o p51 (.p (.bin .i .lss (.t p48) (.t p50))),
  o p52 (.p (.mv (.t p51))),
  g (some p53) p52 false (.p (.fa 1 (.t p9))),
  g (some p54) p52 false (.r (.ld 1 false (.t p53))),
  g (some p55) p52 false (.p (.mv (.t p10))),
  g (some p56) p52 false (.p (.bin .i .lss (.t p54) (.t p55))),
  o p57 (.p (.pick (.t p52) (.c (.bool true)) (.t p56)))])
  (.cond (.t p57) (.seq (.reg [o p2 (.p (.mv (.c (.int .i32 65533)))),
  o p3 (.p (.mv (.c (.int .i64 1))))])
  (.ret))
  (.skip)))
  (.seq (.seq (.reg [o p58 (.p (.mv (.t p8))),
  o p59 (.p (.bin .i .leq (.t p58) (.c (.int .i64 2))))])
  (.cond (.t p59) (.seq (.reg [o p60 (.p (.mv (.t p5))),
  o p61 (.p (.bin .i .and (.t p60) (.c (.int .u8 31)))),
  o p62 (.p (.conv .i32 (.t p61))),
  o p63 (.p (.bin .i .shl (.t p62) (.c (.int .u64 6)))),
  o p64 (.p (.mv (.t p10))),
  o p65 (.p (.bin .i .and (.t p64) (.c (.int .u8 63)))),
  o p66 (.p (.conv .i32 (.t p65))),
  o p67 (.p (.bin .i .or (.t p63) (.t p66))),
  o p2 (.p (.mv (.t p67))),
  o p3 (.p (.mv (.c (.int .i64 2))))])
  (.ret))
  (.skip)))
  (.seq (.reg [o p68 (.p (.mv (.t p0))),
  o p69 (.p (.ixS (.t p68) (.c (.int .i64 2)))),
  o p11 (.p (.mv (.t p69)))])
  (.seq (.seq (.reg [o p70 (.p (.mv (.t p11))),
  o p71 (.p (.bin .i .lss (.t p70) (.c (.int .u8 128)))),
  o p72 (.p (.mv (.t p71))),
  g (some p73) p72 false (.p (.mv (.t p11))),
  g (some p74) p72 false (.p (.bin .i .lss (.c (.int .u8 191)) (.t p73))),
  o p75 (.p (.pick (.t p72) (.c (.bool true)) (.t p74)))])
  (.cond (.t p75) (.seq (.reg [o p2 (.p (.mv (.c (.int .i32 65533)))),
  o p3 (.p (.mv (.c (.int .i64 1))))])
  (.ret))
  (.skip)))
  (.seq (.seq (.reg [o p76 (.p (.mv (.t p8))),
  o p77 (.p (.bin .i .leq (.t p76) (.c (.int .i64 3))))])
  (.cond (.t p77) (.seq (.reg [o p78 (.p (.mv (.t p5))),
  o p79 (.p (.bin .i .and (.t p78) (.c (.int .u8 15)))),
  o p80 (.p (.conv .i32 (.t p79))),
  o p81 (.p (.bin .i .shl (.t p80) (.c (.int .u64 12)))),
  o p82 (.p (.mv (.t p10))),
  o p83 (.p (.bin .i .and (.t p82) (.c (.int .u8 63)))),
  o p84 (.p (.conv .i32 (.t p83))),
  o p85 (.p (.bin .i .shl (.t p84) (.c (.int .u64 6)))),
  o p86 (.p (.bin .i .or (.t p81) (.t p85))),
  o p87 (.p (.mv (.t p11))),
  o p88 (.p (.bin .i .and (.t p87) (.c (.int .u8 63)))),
  o p89 (.p (.conv .i32 (.t p88))),
  o p90 (.p (.bin .i .or (.t p86) (.t p89))),
  o p2 (.p (.mv (.t p90))),
  o p3 (.p (.mv (.c (.int .i64 3))))])
  (.ret))
  (.skip)))
  (.seq (.reg [o p91 (.p (.mv (.t p0))),
  o p92 (.p (.ixS (.t p91) (.c (.int .i64 3)))),
  o p12 (.p (.mv (.t p92)))])
  (.seq (.seq (.reg [o p93 (.p (.mv (.t p12))),
  o p94 (.p (.bin .i .lss (.t p93) (.c (.int .u8 128)))),
  o p95 (.p (.mv (.t p94))),
  g (some p96) p95 false (.p (.mv (.t p12))),
  g (some p97) p95 false (.p (.bin .i .lss (.c (.int .u8 191)) (.t p96))),
  o p98 (.p (.pick (.t p95) (.c (.bool true)) (.t p97)))])
  (.cond (.t p98) (.seq (.reg [o p2 (.p (.mv (.c (.int .i32 65533)))),
  o p3 (.p (.mv (.c (.int .i64 1))))])
  (.ret))
  (.skip)))
  (.seq (.reg [o p99 (.p (.mv (.t p5))),
  o p100 (.p (.bin .i .and (.t p99) (.c (.int .u8 7)))),
  o p101 (.p (.conv .i32 (.t p100))),
  o p102 (.p (.bin .i .shl (.t p101) (.c (.int .u64 18)))),
  o p103 (.p (.mv (.t p10))),
  o p104 (.p (.bin .i .and (.t p103) (.c (.int .u8 63)))),
  o p105 (.p (.conv .i32 (.t p104))),
  o p106 (.p (.bin .i .shl (.t p105) (.c (.int .u64 12)))),
  o p107 (.p (.bin .i .or (.t p102) (.t p106))),
  o p108 (.p (.mv (.t p11))),
  o p109 (.p (.bin .i .and (.t p108) (.c (.int .u8 63)))),
  o p110 (.p (.conv .i32 (.t p109))),
  o p111 (.p (.bin .i .shl (.t p110) (.c (.int .u64 6)))),
  o p112 (.p (.bin .i .or (.t p107) (.t p111))),
  o p113 (.p (.mv (.t p12))),
  o p114 (.p (.bin .i .and (.t p113) (.c (.int .u8 63)))),
  o p115 (.p (.conv .i32 (.t p114))),
  o p116 (.p (.bin .i .or (.t p112) (.t p115))),
  o p2 (.p (.mv (.t p116))),
  o p3 (.p (.mv (.c (.int .i64 4))))])
  (.ret))))))))))))))))))⟩
def c377 : CFunc := ⟨[.cell p2 4 true], .seq (.reg [o p2 (.a (.alc [(.int .u8 0), (.int .u8 0), (.int .u8 0), (.int .u8 0)]))])
  (.seq (.reg [o p3 (.a (.alc [(.int .u8 0), (.int .u8 0), (.int .u8 0), (.int .u8 0)]))])
  (.seq (.seq (.reg [o p5 (.p (.mv (.c (.int .i64 0))))])
  (.block 0 (.loop (.seq (.reg [o p6 (.p (.bin .i .lss (.t p5) (.c (.int .i64 4))))])
  (.seq (.cond (.t p6) (.skip)
  (.exit 0))
  (.seq (.block 1 (.seq (.reg [o p7 (.p (.mv (.t p5))),
  o p4 (.p (.mv (.t p7)))])
  (.reg [o p8 (.p (.mv (.t p4))),
  o p9 (.p (.mv (.t p0))),
  o p10 (.p (.mv (.t p4))),
  o p11 (.p (.bin .i .sub (.c (.int .i64 3)) (.t p10))),
  o p12 (.p (.bin .i .mul (.c (.int .i64 8)) (.t p11))),
  o p13 (.p (.bin .i .shr (.t p9) (.t p12))),
  o p14 (.p (.conv .u8 (.t p13))),
  o p15 (.p (.iaA 4 1 (.t p3) (.t p8))),
  n (.w (.st 1 (.t p15) (.t p14)))])))
  (.reg [o p16 (.p (.bin .i .add (.t p5) (.c (.int .i64 1)))),
  o p5 (.p (.mv (.t p16)))])))))))
  (.seq (.reg [o p17 (.r (.ld 4 true (.t p3))),
  n (.w (.st 4 (.t p2) (.t p17)))])
  (.ret))))⟩
def c378 : CFunc := ⟨[.t p2], .seq (.reg [o p2 (.p (.mv (.c (.string ⟨⟨[]⟩⟩))))])
  (.seq (.reg [o p3 (.p (.mv (.c (.string ⟨⟨[]⟩⟩))))])
  (.seq (.seq (.reg [o p4 (.p (.mv (.c (.bool true))))])
  (.block 0 (.loop (.seq (.seq (.reg [o p5 (.p (.mv (.t p4)))])
  (.cond (.t p5) (.skip)
  (.exit 0)))
  (.seq (.block 1 (.seq (.reg [o p8 (.p (.mv (.t p0))),
  o p9 (.p (.bin .i .rem (.t p8) (.c (.int .u8 10)))),
  o p10 (.p (.bin .i .add (.c (.int .u8 48)) (.t p9))),
  o p11 (.a (.bsl 1 1 [(.int .u8 0)] [(0, 1, (.t p10))])),
  o p12 (.r (.b2s (.t p11))),
  o p13 (.p (.mv (.t p3))),
  o p14 (.p (.bin .s .add (.t p12) (.t p13))),
  o p3 (.p (.mv (.t p14)))])
  (.reg [o p15 (.p (.mv (.t p0))),
  o p16 (.p (.bin .i .quo (.t p15) (.c (.int .u8 10)))),
  o p0 (.p (.mv (.t p16)))])))
  (.reg [o p6 (.p (.mv (.t p0))),
  o p7 (.p (.bin .i .gtr (.t p6) (.c (.int .u8 0)))),
  o p4 (.p (.mv (.t p7)))]))))))
  (.seq (.reg [o p17 (.p (.mv (.t p3))),
  o p2 (.p (.mv (.t p17)))])
  (.ret))))⟩
def c382 : CFunc := ⟨[.t p10, .t p11], .seq (.reg [o p10 (.p (.mv (.c (.int .i64 0)))),
  o p11 (.p (.mv (.c (.int .i64 0))))])
  (.seq (.seq (.dreg [o p12 (.p (.mv (.t p4))),
  o p13 (.p (.mv (.t p0))),
  o p14 (.p (.mv (.t p2))),
  o p15 (.p (.iaL 2 (.t p13) (.t p14))),
  o p16 (.r (.ld 2 true (.t p15))),
  o p17 (.p (.mv (.t p0))),
  o p18 (.p (.mv (.t p1))),
  o p19 (.p (.iaL 2 (.t p17) (.t p18))),
  o p20 (.r (.ld 2 true (.t p19))),
  o p21 (.callv (.t p12) [(.t p16), (.t p20)]),
  o p22 (.p (.bin .i .lss (.t p21) (.c (.int .i64 0))))] [[], [], [], [], [], [], [], [], [], [], []])
  (.cond (.t p22) (.seq (.reg [o p23 (.p (.mv (.t p3))),
  o p24 (.p (.nck (.t p23))),
  o p25 (.r (.ld 1 false (.t p24))),
  o p26 (.p (.bin .i .add (.t p25) (.c (.int .i64 1)))),
  o p27 (.p (.nck (.t p23))),
  n (.w (.st 1 (.t p27) (.t p26)))])
  (.seq (.reg [o p28 (.p (.mv (.t p2))),
  o p29 (.p (.mv (.t p1))),
  o p10 (.p (.mv (.t p28))),
  o p11 (.p (.mv (.t p29)))])
  (.ret)))
  (.skip)))
  (.seq (.reg [o p30 (.p (.mv (.t p1))),
  o p31 (.p (.mv (.t p2))),
  o p10 (.p (.mv (.t p30))),
  o p11 (.p (.mv (.t p31)))])
  (.ret)))⟩
def c384 : CFunc := ⟨[], .reg [o p4 (.p (.mv (.t p0))),
  o p5 (.p (.mv (.t p0))),
  o p6 (.p (.lenP false (.t p5))),
  o p7 (.p (.mv (.t p1))),
  o p8 (.p (.bin .i .sub (.t p6) (.t p7))),
  o p9 (.call 407 [(.t p4), (.t p8)])]⟩
def c393 : CFunc := ⟨[.t p8], .seq (.reg [o p8 (.p (.mv (.c (.slice none 0 0))))])
  (.seq (.seq (.reg [o p12 (.p (.mv (.t p3))),
  o p13 (.p (.bin .i .eql (.t p12) (.c (.int .i64 0))))])
  (.cond (.t p13) (.seq (.reg [o p8 (.p (.mv (.c (.slice none 0 0))))])
  (.ret))
  (.skip)))
  (.seq (.seq (.reg [o p14 (.p (.mv (.t p1))),
  o p15 (.p (.bin .s .eql (.t p14) (.c (.string ⟨⟨[]⟩⟩))))])
  (.cond (.t p15) (.seq (.reg [o p16 (.p (.mv (.t p0))),
  o p17 (.p (.mv (.t p3))),
  o p18 (.call 411 [(.t p16), (.t p17)]),
  o p8 (.p (.mv (.t p18)))])
  (.ret))
  (.skip)))
  (.seq (.seq (.reg [o p19 (.p (.mv (.t p3))),
  o p20 (.p (.bin .i .lss (.t p19) (.c (.int .i64 0))))])
  (.cond (.t p20) (.reg [o p21 (.p (.mv (.t p0))),
  o p22 (.p (.mv (.t p1))),
  o p23 (.call 337 [(.t p21), (.t p22)]),
  o p24 (.p (.bin .i .add (.t p23) (.c (.int .i64 1)))),
  o p3 (.p (.mv (.t p24)))])
  (.skip)))
  (.seq (.reg [o p25 (.p (.mv (.t p3))),
  o p26 (.p (.mv (.t p0))),
  o p27 (.p (.lenP true (.t p26))),
  o p28 (.p (.bin .i .add (.t p27) (.c (.int .i64 1)))),
  o p29 (.p (.mm false (.t p25) (.t p28))),
  o p3 (.p (.mv (.t p29)))])
  (.seq (.reg [o p30 (.p (.mv (.t p3))),
  o p31 (.a (.mks 1 16 [(.string ⟨⟨[]⟩⟩)] (.t p30) (.t p30))),
  o p9 (.p (.mv (.t p31)))])
  (.seq (.reg [o p32 (.p (.mv (.t p3))),
  o p33 (.p (.bin .i .sub (.t p32) (.c (.int .i64 1)))),
  o p3 (.p (.mv (.t p33)))])
  (.seq (.reg [o p10 (.p (.mv (.c (.int .i64 0))))])
  (.seq (.block 0 (.loop (.seq (.seq (.reg [o p34 (.p (.mv (.t p10))),
  o p35 (.p (.mv (.t p3))),
  o p36 (.p (.bin .i .lss (.t p34) (.t p35)))])
  (.cond (.t p36) (.skip)
  (.exit 0)))
  (.block 1 (.seq (.reg [o p37 (.p (.mv (.t p0))),
  o p38 (.p (.mv (.t p1))),
  o p39 (.call 339 [(.t p37), (.t p38)]),
  o p11 (.p (.mv (.t p39)))])
  (.seq (.seq (.reg [o p40 (.p (.mv (.t p11))),
  o p41 (.p (.bin .i .lss (.t p40) (.c (.int .i64 0))))])
  (.cond (.t p41) (.exit 0)
  (.skip)))
  (.seq (.reg [o p42 (.p (.mv (.t p9))),
  o p43 (.p (.mv (.t p10))),
  o p44 (.p (.mv (.t p0))),
  o p45 (.p (.mv (.t p11))),
  o p46 (.p (.mv (.t p2))),
  o p47 (.p (.bin .i .add (.t p45) (.t p46))),
  o p48 (.p (.slS (.t p44) none (some (.t p47)))),
  o p49 (.p (.iaL 1 (.t p42) (.t p43))),
  n (.w (.st 1 (.t p49) (.t p48)))])
  (.seq (.reg [o p50 (.p (.mv (.t p0))),
  o p51 (.p (.mv (.t p11))),
  o p52 (.p (.mv (.t p1))),
  o p53 (.p (.lenP true (.t p52))),
  o p54 (.p (.bin .i .add (.t p51) (.t p53))),
  o p55 (.p (.slS (.t p50) (some (.t p54)) none)),
  o p0 (.p (.mv (.t p55)))])
  (.reg [o p56 (.p (.mv (.t p10))),
  o p57 (.p (.bin .i .add (.t p56) (.c (.int .i64 1)))),
  o p10 (.p (.mv (.t p57)))])))))))))
  (.seq (.reg [o p58 (.p (.mv (.t p9))),
  o p59 (.p (.mv (.t p10))),
  o p60 (.p (.mv (.t p0))),
  o p61 (.p (.iaL 1 (.t p58) (.t p59))),
  n (.w (.st 1 (.t p61) (.t p60)))])
  (.seq (.reg [o p62 (.p (.mv (.t p9))),
  o p63 (.p (.mv (.t p10))),
  o p64 (.p (.bin .i .add (.t p63) (.c (.int .i64 1)))),
  o p65 (.r (.slL 1 (.t p62) none (some (.t p64)) none)),
  o p8 (.p (.mv (.t p65)))])
  (.ret)))))))))))⟩
def c395 : CFunc := ⟨[.t p2, .t p3], .seq (.reg [o p2 (.p (.mv (.c (.int .u32 0)))),
  o p3 (.p (.mv (.c (.int .u32 0))))])
  (.seq (.reg [o p4 (.p (.mv (.c (.int .u32 0))))])
  (.seq (.seq (.reg [o p5 (.p (.mv (.c (.int .i64 0))))])
  (.block 0 (.loop (.seq (.seq (.reg [o p9 (.p (.mv (.t p5))),
  o p10 (.p (.mv (.t p0))),
  o p11 (.p (.lenP true (.t p10))),
  o p12 (.p (.bin .i .lss (.t p9) (.t p11)))])
  (.cond (.t p12) (.skip)
  (.exit 0)))
  (.seq (.block 1 (.reg [o p15 (.p (.mv (.t p4))),
  o p16 (.p (.bin .i .mul (.t p15) (.c (.int .u32 16777619)))),
  o p17 (.p (.mv (.t p0))),
  o p18 (.p (.mv (.t p5))),
  o p19 (.p (.ixS (.t p17) (.t p18))),
  o p20 (.p (.conv .u32 (.t p19))),
  o p21 (.p (.bin .i .add (.t p16) (.t p20))),
  o p4 (.p (.mv (.t p21)))]))
  (.reg [o p13 (.p (.mv (.t p5))),
  o p14 (.p (.bin .i .add (.t p13) (.c (.int .i64 1)))),
  o p5 (.p (.mv (.t p14)))]))))))
  (.seq (.reg [o p6 (.p (.mv (.c (.int .u32 1)))),
  o p7 (.p (.mv (.c (.int .u32 16777619))))])
  (.seq (.seq (.reg [o p22 (.p (.mv (.t p0))),
  o p23 (.p (.lenP true (.t p22))),
  o p8 (.p (.mv (.t p23)))])
  (.block 2 (.loop (.seq (.seq (.reg [o p24 (.p (.mv (.t p8))),
  o p25 (.p (.bin .i .gtr (.t p24) (.c (.int .i64 0))))])
  (.cond (.t p25) (.skip)
  (.exit 2)))
  (.seq (.block 3 (.seq (.seq (.reg [o p28 (.p (.mv (.t p8))),
  o p29 (.p (.bin .i .and (.t p28) (.c (.int .i64 1)))),
  o p30 (.p (.bin .i .neq (.t p29) (.c (.int .i64 0))))])
  (.cond (.t p30) (.reg [o p31 (.p (.mv (.t p6))),
  o p32 (.p (.mv (.t p7))),
  o p33 (.p (.bin .i .mul (.t p31) (.t p32))),
  o p6 (.p (.mv (.t p33)))])
  (.skip)))
  (.reg [o p34 (.p (.mv (.t p7))),
  o p35 (.p (.mv (.t p7))),
  o p36 (.p (.bin .i .mul (.t p34) (.t p35))),
  o p7 (.p (.mv (.t p36)))])))
  (.reg [o p26 (.p (.mv (.t p8))),
  o p27 (.p (.bin .i .shr (.t p26) (.c (.int .u64 1)))),
  o p8 (.p (.mv (.t p27)))]))))))
  (.seq (.reg [o p37 (.p (.mv (.t p4))),
  o p38 (.p (.mv (.t p6))),
  o p2 (.p (.mv (.t p37))),
  o p3 (.p (.mv (.t p38)))])
  (.ret))))))⟩
def c407 : CFunc := ⟨[], .seq (.reg [o p4 (.p (.mv (.t p0))),
  o p5 (.p (.mv (.t p1))),
  o p6 (.r (.slL 2 (.t p4) none (some (.t p5)) none)),
  o p7 (.call 415 [(.t p6)])])
  (.seq (.reg [o p8 (.p (.mv (.t p0))),
  o p9 (.p (.mv (.t p1))),
  o p10 (.r (.slL 2 (.t p8) (some (.t p9)) none none)),
  o p11 (.call 415 [(.t p10)])])
  (.reg [o p12 (.p (.mv (.t p0))),
  o p13 (.call 415 [(.t p12)])]))⟩
def c411 : CFunc := ⟨[.t p4], .seq (.reg [o p4 (.p (.mv (.c (.slice none 0 0))))])
  (.seq (.reg [o p10 (.p (.mv (.t p0))),
  o p11 (.call 372 [(.t p10)]),
  o p5 (.p (.mv (.t p11)))])
  (.seq (.seq (.reg [o p12 (.p (.mv (.t p1))),
  o p13 (.p (.bin .i .lss (.t p12) (.c (.int .i64 0)))),
  o p14 (.p (.mv (.t p13))),
  g (some p15) p14 false (.p (.mv (.t p1))),
  g (some p16) p14 false (.p (.mv (.t p5))),
  g (some p17) p14 false (.p (.bin .i .gtr (.t p15) (.t p16))),
  o p18 (.p (.pick (.t p14) (.c (.bool true)) (.t p17)))])
  (.cond (.t p18) (.reg [o p19 (.p (.mv (.t p5))),
  o p1 (.p (.mv (.t p19)))])
  (.skip)))
  (.seq (.reg [o p20 (.p (.mv (.t p1))),
  o p21 (.a (.mks 1 16 [(.string ⟨⟨[]⟩⟩)] (.t p20) (.t p20))),
  o p6 (.p (.mv (.t p21)))])
  (.seq (.seq (.reg [o p7 (.p (.mv (.c (.int .i64 0))))])
  (.block 0 (.loop (.seq (.seq (.reg [o p22 (.p (.mv (.t p7))),
  o p23 (.p (.mv (.t p1))),
  o p24 (.p (.bin .i .sub (.t p23) (.c (.int .i64 1)))),
  o p25 (.p (.bin .i .lss (.t p22) (.t p24)))])
  (.cond (.t p25) (.skip)
  (.exit 0)))
  (.seq (.block 1 (.seq (.reg [o p29 (.p (.mv (.t p0))),
  o p30 (.call 341 [(.t p29)]),
  o p28 (.p (.mv (.t p30))),
  o p31 (.p (.ext 0 (.t p28))),
  o p32 (.p (.ext 1 (.t p28))),
  o p8 (.p (.mv (.t p31))),
  o p9 (.p (.mv (.t p32)))])
  (.seq (.reg [o p33 (.p (.mv (.t p6))),
  o p34 (.p (.mv (.t p7))),
  o p35 (.p (.mv (.t p0))),
  o p36 (.p (.mv (.t p9))),
  o p37 (.p (.slS (.t p35) none (some (.t p36)))),
  o p38 (.p (.iaL 1 (.t p33) (.t p34))),
  n (.w (.st 1 (.t p38) (.t p37)))])
  (.reg [o p39 (.p (.mv (.t p0))),
  o p40 (.p (.mv (.t p9))),
  o p41 (.p (.slS (.t p39) (some (.t p40)) none)),
  o p0 (.p (.mv (.t p41)))]))))
  (.reg [o p26 (.p (.mv (.t p7))),
  o p27 (.p (.bin .i .add (.t p26) (.c (.int .i64 1)))),
  o p7 (.p (.mv (.t p27)))]))))))
  (.seq (.seq (.reg [o p42 (.p (.mv (.t p1))),
  o p43 (.p (.bin .i .gtr (.t p42) (.c (.int .i64 0))))])
  (.cond (.t p43) (.reg [o p44 (.p (.mv (.t p6))),
  o p45 (.p (.mv (.t p1))),
  o p46 (.p (.bin .i .sub (.t p45) (.c (.int .i64 1)))),
  o p47 (.p (.mv (.t p0))),
  o p48 (.p (.iaL 1 (.t p44) (.t p46))),
  n (.w (.st 1 (.t p48) (.t p47)))])
  (.skip)))
  (.seq (.reg [o p49 (.p (.mv (.t p6))),
  o p4 (.p (.mv (.t p49)))])
  (.ret)))))))⟩
def c415 : CFunc := ⟨[], .seq (.reg [o p4 (.p (.mv (.t p0))),
  o p5 (.p (.lenP false (.t p4))),
  o p6 (.p (.bin .i .sub (.t p5) (.c (.int .i64 1)))),
  o p2 (.p (.mv (.c (.int .i64 0)))),
  o p3 (.p (.mv (.t p6)))])
  (.block 0 (.loop (.seq (.seq (.reg [o p7 (.p (.mv (.t p2))),
  o p8 (.p (.mv (.t p3))),
  o p9 (.p (.bin .i .lss (.t p7) (.t p8)))])
  (.cond (.t p9) (.skip)
  (.exit 0)))
  (.seq (.block 1 (.dreg [o p14 (.p (.mv (.t p0))),
  o p15 (.p (.mv (.t p2))),
  o p16 (.p (.mv (.t p0))),
  o p17 (.p (.mv (.t p3))),
  o p18 (.p (.mv (.t p0))),
  o p19 (.p (.mv (.t p3))),
  o p20 (.p (.iaL 2 (.t p18) (.t p19))),
  o p21 (.r (.ld 2 true (.t p20))),
  o p22 (.p (.mv (.t p0))),
  o p23 (.p (.mv (.t p2))),
  o p24 (.p (.iaL 2 (.t p22) (.t p23))),
  o p25 (.r (.ld 2 true (.t p24))),
  o p26 (.p (.iaL 2 (.t p14) (.t p15))),
  n (.w (.st 2 (.t p26) (.t p21))),
  o p27 (.p (.iaL 2 (.t p16) (.t p17))),
  n (.w (.st 2 (.t p27) (.t p25)))] [[], [], [], [], [], [], [], [], [], [], [], [], [], [], [], []]))
  (.reg [o p10 (.p (.mv (.t p2))),
  o p11 (.p (.bin .i .add (.t p10) (.c (.int .i64 1)))),
  o p12 (.p (.mv (.t p3))),
  o p13 (.p (.bin .i .sub (.t p12) (.c (.int .i64 1)))),
  o p2 (.p (.mv (.t p11))),
  o p3 (.p (.mv (.t p13)))])))))⟩
def prog : T CFunc := (.node (.node (.node (.node (.node (.node (.node (.node .leaf (some c127) .leaf) none (.node (.node .leaf (some c319) .leaf) (some c191) .leaf)) none (.node (.node (.node .leaf (some c287) .leaf) none (.node .leaf (some c415) .leaf)) none (.node (.node .leaf (some c351) .leaf) (some c223) .leaf))) none (.node (.node (.node (.node .leaf (some c271) .leaf) (some c143) .leaf) none (.node .leaf (some c207) .leaf)) none (.node (.node .leaf (some c175) .leaf) none (.node (.node .leaf (some c367) .leaf) (some c239) .leaf)))) none (.node (.node (.node (.node (.node .leaf (some c263) .leaf) (some c135) .leaf) (some c71) (.node (.node .leaf (some c327) .leaf) (some c199) .leaf)) none .leaf) none (.node (.node (.node (.node .leaf (some c279) .leaf) none (.node .leaf (some c407) .leaf)) none (.node (.node .leaf (some c343) .leaf) (some c215) .leaf)) none (.node (.node (.node .leaf (some c311) .leaf) none .leaf) none .leaf)))) none (.node (.node (.node (.node .leaf none (.node .leaf (some c195) .leaf)) none (.node (.node .leaf (some c163) .leaf) none (.node (.node .leaf (some c355) .leaf) (some c227) .leaf))) none (.node (.node (.node (.node .leaf (some c275) .leaf) none .leaf) none (.node (.node .leaf (some c339) .leaf) (some c211) .leaf)) none (.node (.node (.node .leaf (some c307) .leaf) none .leaf) none (.node (.node .leaf (some c371) .leaf) none .leaf)))) none (.node (.node (.node (.node (.node .leaf (some c267) .leaf) (some c139) (.node .leaf (some c395) .leaf)) (some c75) (.node .leaf (some c203) .leaf)) none .leaf) none (.node (.node (.node (.node .leaf (some c283) .leaf) none (.node .leaf (some c411) .leaf)) none (.node .leaf (some c219) .leaf)) none (.node (.node (.node .leaf (some c315) .leaf) none .leaf) (some c123) (.node .leaf (some c251) .leaf)))))) none (.node (.node (.node (.node (.node (.node .leaf (some c129) .leaf) none (.node .leaf (some c193) .leaf)) none (.node .leaf none (.node (.node .leaf (some c353) .leaf) (some c225) .leaf))) none (.node (.node .leaf none (.node (.node .leaf (some c337) .leaf) none .leaf)) none (.node (.node .leaf (some c177) .leaf) none .leaf))) none (.node (.node (.node (.node (.node .leaf (some c265) .leaf) (some c137) (.node .leaf (some c393) .leaf)) (some c73) (.node .leaf (some c201) .leaf)) none (.node (.node (.node .leaf (some c297) .leaf) none .leaf) none .leaf)) none (.node (.node (.node (.node .leaf (some c281) .leaf) none .leaf) none (.node .leaf (some c217) .leaf)) none (.node (.node (.node .leaf (some c313) .leaf) none .leaf) none (.node (.node .leaf (some c377) .leaf) (some c249) .leaf))))) none (.node (.node (.node (.node (.node (.node .leaf (some c261) .leaf) none .leaf) none (.node (.node .leaf (some c325) .leaf) (some c197) .leaf)) none .leaf) (some c21) (.node (.node (.node (.node .leaf (some c277) .leaf) none .leaf) none (.node (.node .leaf (some c341) .leaf) (some c213) .leaf)) none (.node (.node (.node .leaf (some c309) .leaf) none .leaf) none .leaf))) none (.node (.node (.node (.node (.node .leaf (some c269) .leaf) (some c141) .leaf) none (.node .leaf (some c205) .leaf)) none (.node .leaf none (.node (.node .leaf (some c365) .leaf) none .leaf))) none (.node (.node .leaf none (.node (.node .leaf (some c349) .leaf) (some c221) .leaf)) (some c61) (.node (.node (.node .leaf (some c317) .leaf) none .leaf) (some c125) .leaf)))))) none (.node (.node (.node (.node (.node (.node (.node .leaf (some c128) (.node .leaf (some c384) .leaf)) (some c64) (.node .leaf (some c192) .leaf)) (some c32) (.node .leaf none (.node (.node .leaf (some c352) .leaf) (some c224) .leaf))) none (.node (.node (.node (.node .leaf (some c272) .leaf) (some c144) .leaf) none .leaf) none (.node .leaf (some c112) (.node (.node .leaf (some c368) .leaf) none .leaf)))) none (.node (.node (.node (.node (.node .leaf (some c264) .leaf) (some c136) .leaf) (some c72) (.node (.node .leaf (some c328) .leaf) (some c200) .leaf)) none .leaf) none (.node (.node (.node (.node .leaf (some c280) .leaf) none .leaf) none (.node (.node .leaf (some c344) .leaf) (some c216) .leaf)) none (.node (.node (.node .leaf (some c312) .leaf) none .leaf) none (.node (.node .leaf (some c376) .leaf) none .leaf))))) none (.node (.node (.node (.node (.node (.node .leaf (some c260) .leaf) none .leaf) none (.node (.node .leaf (some c324) .leaf) (some c196) .leaf)) none (.node .leaf none (.node (.node .leaf (some c356) .leaf) (some c228) .leaf))) none (.node (.node (.node (.node .leaf (some c276) .leaf) none .leaf) none (.node .leaf (some c212) .leaf)) none (.node (.node (.node .leaf (some c308) .leaf) none .leaf) none (.node (.node .leaf (some c372) .leaf) none .leaf)))) none (.node (.node (.node (.node (.node .leaf (some c268) .leaf) (some c140) .leaf) none (.node .leaf (some c204) .leaf)) none .leaf) none (.node (.node (.node (.node .leaf (some c284) .leaf) none .leaf) none (.node (.node .leaf (some c348) .leaf) (some c220) .leaf)) none (.node (.node (.node .leaf (some c316) .leaf) none .leaf) (some c124) .leaf))))) none (.node (.node (.node (.node (.node .leaf none (.node .leaf (some c194) .leaf)) none (.node (.node (.node .leaf (some c290) .leaf) (some c162) .leaf) none (.node (.node .leaf (some c354) .leaf) (some c226) .leaf))) none (.node .leaf none (.node .leaf none (.node (.node .leaf (some c370) .leaf) none .leaf)))) none (.node (.node (.node (.node (.node .leaf (some c266) .leaf) (some c138) .leaf) (some c74) (.node .leaf (some c202) .leaf)) none .leaf) none (.node (.node (.node (.node .leaf (some c282) .leaf) none .leaf) none (.node .leaf (some c218) .leaf)) none (.node (.node (.node .leaf (some c314) .leaf) none .leaf) none (.node (.node .leaf (some c378) .leaf) (some c250) .leaf))))) none (.node (.node (.node (.node (.node (.node .leaf (some c262) .leaf) none .leaf) (some c70) (.node (.node .leaf (some c326) .leaf) (some c198) .leaf)) none .leaf) none (.node (.node (.node (.node .leaf (some c278) .leaf) (some c150) .leaf) none (.node .leaf (some c214) .leaf)) none (.node (.node (.node .leaf (some c310) .leaf) none .leaf) none .leaf))) none (.node (.node (.node (.node (.node .leaf (some c270) .leaf) (some c142) .leaf) none (.node .leaf (some c206) .leaf)) none (.node (.node .leaf (some c174) .leaf) none (.node (.node .leaf (some c366) .leaf) (some c238) .leaf))) none (.node (.node (.node (.node .leaf (some c286) .leaf) none .leaf) none (.node (.node .leaf (some c350) .leaf) (some c222) .leaf)) none (.node (.node (.node .leaf (some c318) .leaf) none .leaf) (some c126) (.node (.node .leaf (some c382) .leaf) none .leaf))))))))
end Am
end Go.Proofs.YtbfbaofhnnnohaaGreatDoor
