import Derived.Test.YtbfbaofhnnnohaaGreatDoorL26N
set_option maxRecDepth 100000
namespace Go.Proofs.YtbfbaofhnnnohaaGreatDoor
namespace Am
open Go
def c7 : CFunc := ⟨[.t p2], .seq (.reg [o p2 (.p (.mv (.c (.bool false))))])
  (.seq (.reg [o p7 (.p (.mv (.t p0))),
  o p8 (.call 24 [(.t p7)]),
  o p0 (.p (.mv (.t p8)))])
  (.seq (.reg [o p9 (.p (.mv (.t p0))),
  o p10 (.call 25 [(.t p9)]),
  o p3 (.p (.mv (.t p10)))])
  (.seq (.reg [o p11 (.p (.mv (.t p0))),
  o p12 (.call 26 [(.t p11)]),
  o p4 (.p (.mv (.t p12)))])
  (.seq (.seq (.reg [o p13 (.p (.mv (.t p3))),
  o p14 (.r (.lenM (.t p13))),
  o p15 (.p (.mv (.t p4))),
  o p16 (.p (.lenP false (.t p15))),
  o p17 (.p (.bin .i .neq (.t p14) (.t p16)))])
  (.cond (.t p17) (.seq (.reg [o p2 (.p (.mv (.c (.bool false))))])
  (.ret))
  (.skip)))
  (.seq (.seq (.reg [o p18 (.p (.mv (.t p4))),
  o p19 (.p (.lenP false (.t p18))),
  o p20 (.p (.mv (.c (.int .i64 0))))])
  (.block 0 (.loop (.seq (.reg [o p21 (.p (.bin .i .lss (.t p20) (.t p19)))])
  (.seq (.cond (.t p21) (.skip)
  (.exit 0))
  (.seq (.block 1 (.seq (.reg [o p22 (.p (.iaL 1 (.t p18) (.t p20))),
  o p23 (.r (.ld 1 false (.t p22))),
  o p6 (.p (.mv (.t p23)))])
  (.seq (.dreg [o p24 (.p (.mv (.t p3))),
  o p25 (.p (.mv (.t p6))),
  o p26 (.r (.look (.slice none 0 0) false (.one 0) (.t p24) (.t p25))),
  o p27 (.p (.mv (.t p0))),
  o p28 (.p (.mv (.t p6))),
  o p29 (.call 28 [(.t p27), (.t p28)]),
  o p30 (.call 27 [(.t p26), (.t p29)]),
  o p31 (.p (.un .not (.t p30)))] [[], [], [], [], [], [2], [], []])
  (.cond (.t p31) (.seq (.reg [o p2 (.p (.mv (.c (.bool false))))])
  (.ret))
  (.skip)))))
  (.reg [o p32 (.p (.bin .i .add (.t p20) (.c (.int .i64 1)))),
  o p20 (.p (.mv (.t p32)))])))))))
  (.seq (.reg [o p33 (.call 29 []),
  o p2 (.p (.mv (.t p33)))])
  (.ret)))))))⟩
def c8 : CFunc := ⟨[.t p2], .seq (.reg [o p2 (.p (.mv (.c (.bool false))))])
  (.seq (.reg [o p6 (.p (.bld [(.slice none 0 0), (.int .i64 0), (.int .i64 0)] [])),
  o p7 (.a (.box 3 (.t p6))),
  o p8 (.p (.bld [(.slice none 0 0), (.int .i64 0), (.int .i64 0)] [])),
  o p9 (.a (.box 3 (.t p8))),
  o p10 (.p (.bld [(.slice none 0 0), (.int .i64 0), (.int .i64 0)] [])),
  o p11 (.a (.box 3 (.t p10))),
  o p3 (.p (.mv (.t p7))),
  o p4 (.p (.mv (.t p9))),
  o p5 (.p (.mv (.t p11)))])
  (.seq (.reg [o p12 (.a (.mks 1 4 [(.int .u32 0)] (.c (.int .i64 4097)) (.c (.int .i64 4097)))),
  o p13 (.p (.mv (.t p3))),
  o p14 (.p (.mkf 31 [(.t p13)] [])),
  o p15 (.call 30 [(.c (.pointer none)), (.t p12), (.t p14)])])
  (.seq (.reg [o p16 (.p (.mv (.t p4))),
  o p17 (.p (.mkf 31 [(.t p16)] [])),
  o p18 (.call 30 [(.c (.pointer none)), (.c (.slice none 0 0)), (.t p17)])])
  (.seq (.reg [o p19 (.p (.mv (.t p0))),
  o p20 (.a (.bsl 1 1 [(.int .u32 0)] [(0, 1, (.t p19))])),
  o p21 (.p (.mv (.t p5))),
  o p22 (.p (.mkf 31 [(.t p21)] [])),
  o p23 (.call 30 [(.c (.pointer none)), (.t p20), (.t p22)])])
  (.seq (.reg [o p24 (.p (.mv (.t p3))),
  o p25 (.p (.nck (.t p24))),
  o p26 (.p (.fa 1 (.t p25))),
  o p27 (.r (.ld 1 false (.t p26))),
  o p28 (.p (.bin .i .eql (.t p27) (.c (.int .i64 1)))),
  o p29 (.p (.mv (.t p28))),
  g (some p30) p29 true (.p (.mv (.t p3))),
  g (some p31) p29 true (.p (.nck (.t p30))),
  g (some p32) p29 true (.p (.fa 2 (.t p31))),
  g (some p33) p29 true (.r (.ld 1 false (.t p32))),
  g (some p34) p29 true (.p (.bin .i .eql (.t p33) (.c (.int .i64 1)))),
  o p35 (.p (.pick (.t p29) (.t p34) (.c (.bool false)))),
  o p36 (.p (.mv (.t p35))),
  g (some p37) p36 true (.p (.mv (.t p4))),
  g (some p38) p36 true (.p (.nck (.t p37))),
  g (some p39) p36 true (.p (.fa 1 (.t p38))),
  g (some p40) p36 true (.r (.ld 1 false (.t p39))),
  g (some p41) p36 true (.p (.bin .i .eql (.t p40) (.c (.int .i64 0)))),
  o p42 (.p (.pick (.t p36) (.t p41) (.c (.bool false)))),
  o p43 (.p (.mv (.t p42))),
  g (some p44) p43 true (.p (.mv (.t p4))),
  g (some p45) p43 true (.p (.nck (.t p44))),
  g (some p46) p43 true (.p (.fa 2 (.t p45))),
  g (some p47) p43 true (.r (.ld 1 false (.t p46))),
  g (some p48) p43 true (.p (.bin .i .eql (.t p47) (.c (.int .i64 1)))),
  o p49 (.p (.pick (.t p43) (.t p48) (.c (.bool false)))),
  o p50 (.p (.mv (.t p49))),
  g (some p51) p50 true (.p (.mv (.t p5))),
  g (some p52) p50 true (.p (.nck (.t p51))),
  g (some p53) p50 true (.p (.fa 2 (.t p52))),
  g (some p54) p50 true (.r (.ld 1 false (.t p53))),
  g (some p55) p50 true (.p (.bin .i .eql (.t p54) (.c (.int .i64 0)))),
  o p56 (.p (.pick (.t p50) (.t p55) (.c (.bool false)))),
  o p57 (.p (.mv (.t p56))),
  g (some p58) p57 true (.call 29 []),
  o p59 (.p (.pick (.t p57) (.t p58) (.c (.bool false)))),
  o p2 (.p (.mv (.t p59)))])
  (.ret))))))⟩
def c22 : CFunc := ⟨[.t p2], .seq (.reg [o p2 (.p (.mv (.c (.string ⟨⟨[]⟩⟩))))])
  (.seq (.reg [o p3 (.p (.mv (.t p0))),
  o p4 (.call 62 [(.t p3)]),
  o p2 (.p (.mv (.t p4)))])
  (.ret))⟩
def c24 : CFunc := ⟨[.t p2], .seq (.reg [o p2 (.p (.mv (.c (.slice none 0 0))))])
  (.seq (.seq (.reg [o p3 (.p (.mv (.t p0))),
  o p4 (.p (.lenP false (.t p3))),
  o p5 (.p (.bin .i .gtr (.t p4) (.c (.int .i64 60))))])
  (.cond (.t p5) (.seq (.reg [o p6 (.p (.mv (.t p0))),
  o p7 (.r (.slL 1 (.t p6) none (some (.c (.int .i64 60))) none)),
  o p2 (.p (.mv (.t p7)))])
  (.ret))
  (.skip)))
  (.seq (.reg [o p8 (.p (.mv (.t p0))),
  o p2 (.p (.mv (.t p8)))])
  (.ret)))⟩
def c25 : CFunc := ⟨[.t p2], .seq (.reg [o p2 (.p (.mv (.c (.map none))))])
  (.seq (.reg [o p8 (.a (.mkm)),
  o p3 (.p (.mv (.t p8)))])
  (.seq (.seq (.reg [o p9 (.p (.mv (.t p0))),
  o p10 (.p (.lenP false (.t p9))),
  o p11 (.p (.mv (.c (.int .i64 0))))])
  (.block 0 (.loop (.seq (.reg [o p12 (.p (.bin .i .lss (.t p11) (.t p10)))])
  (.seq (.cond (.t p12) (.skip)
  (.exit 0))
  (.seq (.block 1 (.seq (.reg [o p13 (.p (.iaL 1 (.t p9) (.t p11))),
  o p14 (.r (.ld 1 false (.t p13))),
  o p5 (.p (.mv (.t p14)))])
  (.seq (.reg [o p16 (.p (.mv (.t p5))),
  o p17 (.call 64 [(.t p16), (.c (.int .i64 26))]),
  o p15 (.p (.mv (.t p17))),
  o p18 (.p (.ext 0 (.t p15))),
  o p19 (.p (.ext 1 (.t p15))),
  o p6 (.a (.alc [(.int .u32 0), (.int .i64 0)])),
  n (.w (.st 2 (.t p6) (.t p18))),
  o p7 (.p (.mv (.t p19)))])
  (.dreg [o p20 (.p (.mv (.t p3))),
  o p21 (.p (.fa 0 (.t p6))),
  o p22 (.r (.ld 1 false (.t p21))),
  o p23 (.p (.mv (.t p3))),
  o p24 (.p (.fa 0 (.t p6))),
  o p25 (.r (.ld 1 false (.t p24))),
  o p26 (.r (.look (.slice none 0 0) false (.one 0) (.t p23) (.t p25))),
  o p27 (.p (.mv (.t p5))),
  o p28 (.a (.bsl 1 1 [(.int .u32 0)] [(0, 1, (.t p27))])),
  o p29 (.w (.app 1 4 (.t p26) (.t p28))),
  n (.w (.mup (.one 0) (.t p20) (.t p22) (.t p29)))] [[], [], [], [], [], [], [], [], [], [2], []]))))
  (.reg [o p30 (.p (.bin .i .add (.t p11) (.c (.int .i64 1)))),
  o p11 (.p (.mv (.t p30)))])))))))
  (.seq (.reg [o p31 (.p (.mv (.t p3))),
  o p2 (.p (.mv (.t p31)))])
  (.ret))))⟩
def c26 : CFunc := ⟨[.t p2], .seq (.reg [o p2 (.p (.mv (.c (.slice none 0 0))))])
  (.seq (.reg [o p3 (.p (.mv (.c (.slice none 0 0))))])
  (.seq (.seq (.reg [o p9 (.p (.mv (.t p0))),
  o p10 (.p (.lenP false (.t p9))),
  o p11 (.p (.mv (.c (.int .i64 0))))])
  (.block 0 (.loop (.seq (.reg [o p12 (.p (.bin .i .lss (.t p11) (.t p10)))])
  (.seq (.cond (.t p12) (.skip)
  (.exit 0))
  (.seq (.block 1 (.seq (.reg [o p13 (.p (.iaL 1 (.t p9) (.t p11))),
  o p14 (.r (.ld 1 false (.t p13))),
  o p5 (.p (.mv (.t p14)))])
  (.seq (.reg [o p15 (.p (.mv (.t p5))),
  o p16 (.p (.mv (.t p5))),
  o p17 (.p (.bin .i .rem (.t p16) (.c (.int .u32 64)))),
  o p18 (.p (.bin .i .sub (.t p15) (.t p17))),
  o p6 (.p (.mv (.t p18)))])
  (.seq (.reg [o p7 (.p (.mv (.c (.int .i64 0))))])
  (.seq (.block 2 (.loop (.seq (.seq (.reg [o p19 (.p (.mv (.t p7))),
  o p20 (.p (.mv (.t p3))),
  o p21 (.p (.lenP false (.t p20))),
  o p22 (.p (.bin .i .lss (.t p19) (.t p21))),
  o p23 (.p (.mv (.t p22))),
  g (some p24) p23 true (.p (.mv (.t p3))),
  g (some p25) p23 true (.p (.mv (.t p7))),
  g (some p26) p23 true (.p (.iaL 1 (.t p24) (.t p25))),
  g (some p27) p23 true (.r (.ld 1 false (.t p26))),
  g (some p28) p23 true (.p (.mv (.t p6))),
  g (some p29) p23 true (.p (.bin .i .lss (.t p27) (.t p28))),
  o p30 (.p (.pick (.t p23) (.t p29) (.c (.bool false))))])
  (.cond (.t p30) (.skip)
  (.exit 2)))
  (.block 3 (.reg [o p31 (.p (.mv (.t p7))),
  o p32 (.p (.bin .i .add (.t p31) (.c (.int .i64 1)))),
  o p7 (.p (.mv (.t p32)))])))))
  (.seq (.seq (.reg [o p33 (.p (.mv (.t p7))),
  o p34 (.p (.mv (.t p3))),
  o p35 (.p (.lenP false (.t p34))),
  o p36 (.p (.bin .i .lss (.t p33) (.t p35))),
  o p37 (.p (.mv (.t p36))),
  g (some p38) p37 true (.p (.mv (.t p3))),
  g (some p39) p37 true (.p (.mv (.t p7))),
  g (some p40) p37 true (.p (.iaL 1 (.t p38) (.t p39))),
  g (some p41) p37 true (.r (.ld 1 false (.t p40))),
  g (some p42) p37 true (.p (.mv (.t p6))),
  g (some p43) p37 true (.p (.bin .i .eql (.t p41) (.t p42))),
  o p44 (.p (.pick (.t p37) (.t p43) (.c (.bool false))))])
  (.cond (.t p44) (.exit 1)
  (.skip)))
  (.seq (.reg [o p45 (.a (.bsl 1 0 [(.int .u32 0)] [])),
  o p46 (.p (.mv (.t p3))),
  o p47 (.p (.mv (.t p7))),
  o p48 (.r (.slL 1 (.t p46) none (some (.t p47)) none)),
  o p49 (.w (.app 1 4 (.t p45) (.t p48))),
  o p8 (.p (.mv (.t p49)))])
  (.seq (.reg [o p50 (.p (.mv (.t p8))),
  o p51 (.p (.mv (.t p6))),
  o p52 (.a (.bsl 1 1 [(.int .u32 0)] [(0, 1, (.t p51))])),
  o p53 (.w (.app 1 4 (.t p50) (.t p52))),
  o p8 (.p (.mv (.t p53)))])
  (.seq (.reg [o p54 (.p (.mv (.t p8))),
  o p55 (.p (.mv (.t p3))),
  o p56 (.p (.mv (.t p7))),
  o p57 (.r (.slL 1 (.t p55) (some (.t p56)) none none)),
  o p58 (.w (.app 1 4 (.t p54) (.t p57))),
  o p8 (.p (.mv (.t p58)))])
  (.reg [o p59 (.p (.mv (.t p8))),
  o p3 (.p (.mv (.t p59)))]))))))))))
  (.reg [o p60 (.p (.bin .i .add (.t p11) (.c (.int .i64 1)))),
  o p11 (.p (.mv (.t p60)))])))))))
  (.seq (.reg [o p61 (.p (.mv (.t p3))),
  o p2 (.p (.mv (.t p61)))])
  (.ret))))⟩
def c27 : CFunc := ⟨[.t p4], .seq (.reg [o p4 (.p (.mv (.c (.bool false))))])
  (.seq (.seq (.reg [o p6 (.p (.mv (.t p0))),
  o p7 (.p (.lenP false (.t p6))),
  o p8 (.p (.mv (.t p1))),
  o p9 (.p (.lenP false (.t p8))),
  o p10 (.p (.bin .i .neq (.t p7) (.t p9)))])
  (.cond (.t p10) (.seq (.reg [o p4 (.p (.mv (.c (.bool false))))])
  (.ret))
  (.skip)))
  (.seq (.seq (.reg [o p11 (.p (.mv (.t p1))),
  o p12 (.p (.lenP false (.t p11))),
  o p13 (.p (.mv (.c (.int .i64 0))))])
  (.block 0 (.loop (.seq (.reg [o p14 (.p (.bin .i .lss (.t p13) (.t p12)))])
  (.seq (.cond (.t p14) (.skip)
  (.exit 0))
  (.seq (.block 1 (.seq (.reg [o p15 (.p (.mv (.t p13))),
  o p5 (.p (.mv (.t p15)))])
  (.seq (.dreg [o p16 (.p (.mv (.t p0))),
  o p17 (.p (.mv (.t p5))),
  o p18 (.p (.iaL 1 (.t p16) (.t p17))),
  o p19 (.r (.ld 1 false (.t p18))),
  o p20 (.p (.mv (.t p1))),
  o p21 (.p (.mv (.t p5))),
  o p22 (.p (.iaL 1 (.t p20) (.t p21))),
  o p23 (.r (.ld 1 false (.t p22))),
  o p24 (.p (.bin .i .neq (.t p19) (.t p23)))] [[], [], [], [], [], [], [], [], []])
  (.cond (.t p24) (.seq (.reg [o p4 (.p (.mv (.c (.bool false))))])
  (.ret))
  (.skip)))))
  (.reg [o p25 (.p (.bin .i .add (.t p13) (.c (.int .i64 1)))),
  o p13 (.p (.mv (.t p25)))])))))))
  (.seq (.reg [o p4 (.p (.mv (.c (.bool true))))])
  (.ret))))⟩
def c28 : CFunc := ⟨[.t p4], .seq (.reg [o p4 (.p (.mv (.c (.slice none 0 0))))])
  (.seq (.reg [o p5 (.p (.mv (.c (.slice none 0 0))))])
  (.seq (.seq (.reg [o p8 (.p (.mv (.t p0))),
  o p9 (.p (.lenP false (.t p8))),
  o p10 (.p (.mv (.c (.int .i64 0))))])
  (.block 0 (.loop (.seq (.reg [o p11 (.p (.bin .i .lss (.t p10) (.t p9)))])
  (.seq (.cond (.t p11) (.skip)
  (.exit 0))
  (.seq (.block 1 (.seq (.reg [o p12 (.p (.iaL 1 (.t p8) (.t p10))),
  o p13 (.r (.ld 1 false (.t p12))),
  o p7 (.p (.mv (.t p13)))])
  (.seq (.reg [o p14 (.p (.mv (.t p7))),
  o p15 (.p (.mv (.t p7))),
  o p16 (.p (.bin .i .rem (.t p15) (.c (.int .u32 64)))),
  o p17 (.p (.bin .i .sub (.t p14) (.t p16))),
  o p18 (.p (.mv (.t p1))),
  o p19 (.p (.bin .i .eql (.t p17) (.t p18)))])
  (.cond (.t p19) (.reg [o p20 (.p (.mv (.t p5))),
  o p21 (.p (.mv (.t p7))),
  o p22 (.a (.bsl 1 1 [(.int .u32 0)] [(0, 1, (.t p21))])),
  o p23 (.w (.app 1 4 (.t p20) (.t p22))),
  o p5 (.p (.mv (.t p23)))])
  (.skip)))))
  (.reg [o p24 (.p (.bin .i .add (.t p10) (.c (.int .i64 1)))),
  o p10 (.p (.mv (.t p24)))])))))))
  (.seq (.reg [o p25 (.p (.mv (.t p5))),
  o p4 (.p (.mv (.t p25)))])
  (.ret))))⟩
def c29 : CFunc := ⟨[.t p0], .seq (.reg [o p0 (.p (.mv (.c (.bool false))))])
  (.seq (.reg [o p7 (.a (.bsl 1 3 [(.int .u32 0)] [(0, 1, (.c (.int .u32 70))), (1, 1, (.c (.int .u32 1))), (2, 1, (.c (.int .u32 2)))])),
  o p8 (.call 25 [(.t p7)]),
  o p1 (.p (.mv (.t p8)))])
  (.seq (.reg [o p9 (.p (.bld [(.bool false), (.int .i64 0), (.int .i64 0), (.slice none 0 0), (.int .i64 0), (.int .i64 0), (.slice none 0 0), (.int .i64 0), (.int .i64 0), (.slice none 0 0), (.int .i64 0), (.int .i64 0), (.slice none 0 0)] [(0, 1, (.c (.bool true)))])),
  o p2 (.a (.alc [(.bool false), (.int .i64 0), (.int .i64 0), (.slice none 0 0), (.int .i64 0), (.int .i64 0), (.slice none 0 0), (.int .i64 0), (.int .i64 0), (.slice none 0 0), (.int .i64 0), (.int .i64 0), (.slice none 0 0)])),
  n (.w (.st 13 (.t p2) (.t p9)))])
  (.seq (.reg [o p10 (.p (.bld [(.int .i64 0), (.int .i64 0), (.int .i64 0)] [(2, 1, (.c (.int .i64 2)))])),
  o p11 (.a (.bsl 3 1 [(.int .i64 0), (.int .i64 0), (.int .i64 0)] [(0, 3, (.t p10))])),
  o p12 (.p (.bld [(.int .i64 0), (.int .i64 0), (.slice none 0 0)] [(0, 1, (.c (.int .i64 1))), (2, 1, (.t p11))])),
  o p13 (.p (.fa 1 (.t p2))),
  o p14 (.p (.iaA 4 3 (.t p13) (.c (.int .i64 0)))),
  n (.w (.st 3 (.t p14) (.t p12)))])
  (.seq (.reg [o p15 (.r (.ld 13 true (.t p2))),
  o p16 (.call 48 [(.t p15)]),
  o p3 (.p (.mv (.t p16)))])
  (.seq (.reg [o p17 (.call 49 []),
  o p18 (.p (.bld [(.slice none 0 0), (.int .i64 0), (.int .i64 0)] [])),
  o p19 (.a (.box 3 (.t p18))),
  o p4 (.p (.mv (.t p17))),
  o p5 (.p (.mv (.t p19)))])
  (.seq (.reg [o p20 (.p (.mv (.t p4))),
  o p21 (.call 42 [(.c (.int .i64 0))]),
  o p22 (.call 42 [(.c (.int .i64 0))]),
  o p23 (.p (.bin .i .add (.t p22) (.c (.int .u32 1)))),
  o p24 (.a (.bsl 1 2 [(.int .u32 0)] [(0, 1, (.t p21)), (1, 1, (.t p23))])),
  o p25 (.p (.mv (.t p5))),
  o p26 (.p (.mkf 31 [(.t p25)] [])),
  o p27 (.call 30 [(.t p20), (.t p24), (.t p26)])])
  (.seq (.reg [o p28 (.p (.mv (.t p4))),
  o p29 (.p (.mv (.t p3))),
  o p30 (.p (.mkf 51 [(.t p29)] [])),
  o p31 (.call 50 [(.t p28), (.t p30), (.c (.int .i64 20))]),
  o p6 (.p (.mv (.t p31)))])
  (.seq (.reg [o p32 (.p (.mv (.t p1))),
  o p33 (.r (.lenM (.t p32))),
  o p34 (.p (.bin .i .eql (.t p33) (.c (.int .i64 2)))),
  o p35 (.p (.mv (.t p34))),
  g (some p36) p35 true (.p (.mv (.t p1))),
  g (some p37) p35 true (.r (.look (.slice none 0 0) false (.one 0) (.t p36) (.c (.int .u32 0)))),
  g (some p38) p35 true (.p (.lenP false (.t p37))),
  g (some p39) p35 true (.p (.bin .i .eql (.t p38) (.c (.int .i64 2)))),
  o p40 (.p (.pick (.t p35) (.t p39) (.c (.bool false)))),
  o p41 (.p (.mv (.t p40))),
  g (some p42) p41 true (.p (.mv (.t p1))),
  g (some p43) p41 true (.r (.look (.slice none 0 0) false (.one 0) (.t p42) (.c (.int .u32 0)))),
  g (some p44) p41 true (.p (.iaL 1 (.t p43) (.c (.int .i64 1)))),
  g (some p45) p41 true (.r (.ld 1 false (.t p44))),
  g (some p46) p41 true (.p (.bin .i .eql (.t p45) (.c (.int .u32 2)))),
  o p47 (.p (.pick (.t p41) (.t p46) (.c (.bool false)))),
  o p48 (.p (.mv (.t p47))),
  g (some p49) p48 true (.p (.mv (.t p1))),
  g (some p50) p48 true (.r (.look (.slice none 0 0) false (.one 0) (.t p49) (.c (.int .u32 64)))),
  g (some p51) p48 true (.p (.lenP false (.t p50))),
  g (some p52) p48 true (.p (.bin .i .eql (.t p51) (.c (.int .i64 1)))),
  o p53 (.p (.pick (.t p48) (.t p52) (.c (.bool false)))),
  o p54 (.p (.mv (.t p53))),
  g (some p55) p54 true (.p (.mv (.t p6))),
  o p56 (.p (.pick (.t p54) (.t p55) (.c (.bool false)))),
  o p57 (.p (.mv (.t p56))),
  g (some p58) p57 true (.p (.mv (.t p5))),
  g (some p59) p57 true (.p (.nck (.t p58))),
  g (some p60) p57 true (.p (.fa 0 (.t p59))),
  g (some p61) p57 true (.r (.ld 1 false (.t p60))),
  g (some p62) p57 true (.p (.lenP false (.t p61))),
  g (some p63) p57 true (.p (.bin .i .eql (.t p62) (.c (.int .i64 2)))),
  o p64 (.p (.pick (.t p57) (.t p63) (.c (.bool false)))),
  o p65 (.p (.mv (.t p64))),
  g (some p66) p65 true (.p (.mv (.t p5))),
  g (some p67) p65 true (.p (.nck (.t p66))),
  g (some p68) p65 true (.p (.fa 1 (.t p67))),
  g (some p69) p65 true (.r (.ld 1 false (.t p68))),
  g (some p70) p65 true (.p (.bin .i .eql (.t p69) (.c (.int .i64 0)))),
  o p71 (.p (.pick (.t p65) (.t p70) (.c (.bool false)))),
  o p0 (.p (.mv (.t p71)))])
  (.ret)))))))))⟩
def c30 : CFunc := ⟨[], .seq (.reg [o p7 (.p (.mv (.t p0))),
  o p8 (.p (.mv (.t p2))),
  o p9 (.p (.bld [(.pointer none), (.map none), (.slice none 0 0), (.slice none 0 0), (.int .i64 0), .nilFunc] [(0, 1, (.t p7)), (5, 1, (.t p8))])),
  o p10 (.a (.box 6 (.t p9))),
  o p6 (.p (.mv (.t p10)))])
  (.seq (.seq (.reg [o p11 (.p (.mv (.t p1))),
  o p12 (.p (.lenP false (.t p11))),
  o p13 (.p (.bin .i .gtr (.t p12) (.c (.int .i64 4096))))])
  (.cond (.t p13) (.seq (.reg [o p14 (.p (.mv (.t p6))),
  o p15 (.call 65 [(.t p14), (.c (.slice none 0 0)), (.c (.int .i64 1))])])
  (.ret))
  (.skip)))
  (.seq (.reg [o p16 (.p (.mv (.t p6))),
  o p17 (.p (.mv (.t p1))),
  o p18 (.call 25 [(.t p17)]),
  o p19 (.p (.nck (.t p16))),
  o p20 (.p (.fa 1 (.t p19))),
  n (.w (.st 1 (.t p20) (.t p18)))])
  (.seq (.reg [o p21 (.p (.mv (.t p6))),
  o p22 (.p (.mv (.t p6))),
  o p23 (.p (.nck (.t p22))),
  o p24 (.p (.fa 1 (.t p23))),
  o p25 (.r (.ld 1 false (.t p24))),
  o p26 (.call 68 [(.t p25)]),
  o p27 (.call 67 [(.t p26)]),
  o p28 (.call 66 [(.t p27)]),
  o p29 (.p (.nck (.t p21))),
  o p30 (.p (.fa 2 (.t p29))),
  n (.w (.st 1 (.t p30) (.t p28)))])
  (.reg [o p31 (.p (.mv (.t p6))),
  o p32 (.call 69 [(.t p31)])]))))⟩
def c31 : CFunc := ⟨[], .seq (.reg [o p6 (.p (.mv (.t p0))),
  o p7 (.p (.mv (.t p1))),
  o p8 (.p (.nck (.t p6))),
  o p9 (.p (.fa 0 (.t p8))),
  n (.w (.st 1 (.t p9) (.t p7)))])
  (.seq (.reg [o p10 (.p (.mv (.t p0))),
  o p11 (.p (.mv (.t p2))),
  o p12 (.p (.nck (.t p10))),
  o p13 (.p (.fa 1 (.t p12))),
  n (.w (.st 1 (.t p13) (.t p11)))])
  (.reg [o p14 (.p (.mv (.t p0))),
  o p15 (.p (.nck (.t p14))),
  o p16 (.p (.fa 2 (.t p15))),
  o p17 (.r (.ld 1 false (.t p16))),
  o p18 (.p (.bin .i .add (.t p17) (.c (.int .i64 1)))),
  o p19 (.p (.nck (.t p14))),
  o p20 (.p (.fa 2 (.t p19))),
  n (.w (.st 1 (.t p20) (.t p18)))]))⟩
def c36 : CFunc := ⟨[.t p2], .seq (.reg [o p2 (.p (.mv (.c (.slice none 0 0))))])
  (.seq (.seq (.reg [o p3 (.p (.mv (.t p0))),
  o p4 (.p (.bin .l .eql (.t p3) (.c (.slice none 0 0))))])
  (.cond (.t p4) (.seq (.reg [o p2 (.p (.mv (.c (.slice none 0 0))))])
  (.ret))
  (.skip)))
  (.seq (.reg [o p5 (.a (.bsl 1 0 [(.int .u32 0)] [])),
  o p6 (.p (.mv (.t p0))),
  o p7 (.w (.app 1 4 (.t p5) (.t p6))),
  o p2 (.p (.mv (.t p7)))])
  (.ret)))⟩
def c42 : CFunc := ⟨[.t p2], .seq (.reg [o p2 (.p (.mv (.c (.int .u32 0))))])
  (.seq (.reg [o p3 (.p (.mv (.t p0))),
  o p4 (.call 85 [(.t p3), (.c (.int .i64 4))]),
  o p5 (.p (.bin .i .mul (.c (.int .i64 64)) (.t p4))),
  o p6 (.p (.conv .u32 (.t p5))),
  o p7 (.p (.bin .i .add (.c (.int .u32 167772160)) (.t p6))),
  o p2 (.p (.mv (.t p7)))])
  (.ret))⟩
def c48 : CFunc := ⟨[.t p2], .seq (.reg [o p1 (.a (.box 13 (.t p0))),
  o p2 (.p (.mv (.c (.pointer none))))])
  (.seq (.reg [o p6 (.r (.ld 13 true (.t p1))),
  o p7 (.call 83 [(.t p6)]),
  o p3 (.a (.alc [(.int .i64 0), (.slice none 0 0)])),
  n (.w (.st 2 (.t p3) (.t p7)))])
  (.seq (.dreg [o p9 (.p (.fa 0 (.t p3))),
  o p10 (.r (.ld 1 false (.t p9))),
  o p11 (.p (.fa 1 (.t p3))),
  o p12 (.r (.ld 1 false (.t p11))),
  o p13 (.call 84 [(.t p12)]),
  o p14 (.call 113 [(.t p10), (.t p13)]),
  o p8 (.p (.mv (.t p14))),
  o p15 (.p (.ext 0 (.t p8))),
  o p16 (.p (.ext 1 (.t p8))),
  o p4 (.p (.mv (.t p15))),
  o p5 (.p (.mv (.t p16)))] [[], [], [], [], [1], [], [], [], [], [], []])
  (.seq (.reg [o p17 (.p (.mv (.t p4))),
  o p2 (.p (.mv (.t p17)))])
  (.ret))))⟩
def c49 : CFunc := ⟨[.t p0], .seq (.reg [o p0 (.p (.mv (.c (.pointer none))))])
  (.seq (.reg [o p1 (.p (.bld [(.int .i64 0), (.string ⟨⟨[]⟩⟩), (.string ⟨⟨[]⟩⟩), (.int .i64 0), (.string ⟨⟨[]⟩⟩), (.int .i64 0), .nilFunc, (.bool false), (.int .i64 0)] [])),
  o p2 (.a (.box 9 (.t p1))),
  o p0 (.p (.mv (.t p2)))])
  (.ret))⟩
def c50 : CFunc := ⟨[.t p6], .seq (.reg [o p6 (.p (.mv (.c (.bool false))))])
  (.seq (.seq (.reg [o p7 (.p (.mv (.c (.int .i64 0))))])
  (.block 0 (.loop (.seq (.seq (.reg [o p12 (.p (.mv (.t p7))),
  o p13 (.p (.mv (.t p2))),
  o p14 (.p (.bin .i .lss (.t p12) (.t p13))),
  o p15 (.p (.mv (.t p14))),
  g (some p16) p15 true (.p (.mv (.t p1))),
  g (some p17) p15 true (.p (.bin .f .neq (.t p16) (.c .nilFunc))),
  o p18 (.p (.pick (.t p15) (.t p17) (.c (.bool false))))])
  (.cond (.t p18) (.skip)
  (.exit 0)))
  (.seq (.block 1 (.seq (.reg [o p22 (.p (.mv (.t p0))),
  o p23 (.call 114 [(.t p22)]),
  o p21 (.p (.mv (.t p23))),
  o p24 (.p (.ext 0 (.t p21))),
  o p25 (.p (.ext 1 (.t p21))),
  o p8 (.a (.alc [(.int .i64 0), (.string ⟨⟨[]⟩⟩), (.string ⟨⟨[]⟩⟩), (.int .i64 0), (.string ⟨⟨[]⟩⟩), (.int .i64 0)])),
  n (.w (.st 6 (.t p8) (.t p24))),
  o p9 (.p (.mv (.t p25)))])
  (.seq (.seq (.reg [o p26 (.p (.mv (.t p9))),
  o p27 (.p (.un .not (.t p26)))])
  (.cond (.t p27) (.exit 0)
  (.skip)))
  (.reg [o p28 (.p (.mv (.t p0))),
  o p29 (.p (.mv (.t p1))),
  o p30 (.r (.ld 6 true (.t p8))),
  o p31 (.callv (.t p29) [(.t p30)]),
  o p32 (.call 115 [(.t p28), (.t p31)])]))))
  (.reg [o p19 (.p (.mv (.t p7))),
  o p20 (.p (.bin .i .add (.t p19) (.c (.int .i64 1)))),
  o p7 (.p (.mv (.t p20)))]))))))
  (.seq (.reg [o p34 (.p (.mv (.t p0))),
  o p35 (.call 114 [(.t p34)]),
  o p33 (.p (.mv (.t p35))),
  o p36 (.p (.ext 0 (.t p33))),
  o p37 (.p (.ext 1 (.t p33))),
  o p10 (.a (.alc [(.int .i64 0), (.string ⟨⟨[]⟩⟩), (.string ⟨⟨[]⟩⟩), (.int .i64 0), (.string ⟨⟨[]⟩⟩), (.int .i64 0)])),
  n (.w (.st 6 (.t p10) (.t p36))),
  o p11 (.p (.mv (.t p37)))])
  (.seq (.reg [o p38 (.p (.mv (.t p11))),
  o p39 (.p (.un .not (.t p38))),
  o p6 (.p (.mv (.t p39)))])
  (.ret))))⟩
def c51 : CFunc := ⟨[.cell p4 4 true], .seq (.reg [o p3 (.a (.box 6 (.t p1))),
  o p4 (.a (.alc [(.int .i64 0), (.int .i64 0), (.string ⟨⟨[]⟩⟩), (.slice none 0 0)]))])
  (.seq (.reg [o p9 (.p (.mv (.t p0))),
  o p10 (.r (.ld 6 true (.t p3))),
  o p11 (.call 116 [(.t p9), (.t p10)]),
  o p8 (.p (.mv (.t p11))),
  o p12 (.p (.ext 0 (.t p8))),
  o p13 (.p (.ext 1 (.t p8))),
  o p14 (.p (.ext 2 (.t p8))),
  o p5 (.a (.alc [(.int .i64 0), (.int .i64 0), (.string ⟨⟨[]⟩⟩), (.slice none 0 0)])),
  o p6 (.a (.alc [(.string ⟨⟨[]⟩⟩), (.string ⟨⟨[]⟩⟩), (.int .i64 0), (.bool false)])),
  n (.w (.st 4 (.t p5) (.t p12))),
  n (.w (.st 4 (.t p6) (.t p13))),
  o p7 (.p (.mv (.t p14)))])
  (.seq (.seq (.reg [o p15 (.p (.mv (.t p7)))])
  (.cond (.t p15) (.reg [o p16 (.p (.mv (.t p0))),
  o p17 (.r (.ld 4 true (.t p6))),
  o p18 (.call 117 [(.t p16), (.t p17)])])
  (.skip)))
  (.seq (.reg [o p19 (.r (.ld 4 true (.t p5))),
  n (.w (.st 4 (.t p4) (.t p19)))])
  (.ret))))⟩
def c62 : CFunc := ⟨[.t p2], .seq (.reg [o p2 (.p (.mv (.c (.string ⟨⟨[]⟩⟩))))])
  (.seq (.seq (.reg [o p3 (.p (.mv (.t p0))),
  o p4 (.p (.bin .i .lss (.t p3) (.c (.int .i64 10))))])
  (.cond (.t p4) (.seq (.reg [o p5 (.p (.mv (.t p0))),
  o p6 (.p (.bin .i .add (.c (.int .i64 48)) (.t p5))),
  o p7 (.p (.conv .u8 (.t p6))),
  o p8 (.a (.bsl 1 1 [(.int .u8 0)] [(0, 1, (.t p7))])),
  o p9 (.r (.b2s (.t p8))),
  o p2 (.p (.mv (.t p9)))])
  (.ret))
  (.skip)))
  (.seq (.reg [o p10 (.p (.mv (.t p0))),
  o p11 (.p (.bin .i .quo (.t p10) (.c (.int .i64 10)))),
  o p12 (.call 62 [(.t p11)]),
  o p13 (.p (.mv (.t p0))),
  o p14 (.p (.bin .i .rem (.t p13) (.c (.int .i64 10)))),
  o p15 (.call 62 [(.t p14)]),
  o p16 (.p (.bin .s .add (.t p12) (.t p15))),
  o p2 (.p (.mv (.t p16)))])
  (.ret)))⟩
def c64 : CFunc := ⟨[.cell p4 2 true, .t p5], .seq (.reg [o p4 (.a (.alc [(.int .u32 0), (.int .i64 0)])),
  o p5 (.p (.mv (.c (.int .i64 0))))])
  (.seq (.seq (.reg [o p6 (.p (.mv (.t p1))),
  o p7 (.p (.bin .i .lss (.t p6) (.c (.int .i64 0)))),
  o p8 (.p (.mv (.t p7))),
  g (some p9) p8 false (.p (.mv (.t p1))),
  g (some p10) p8 false (.p (.bin .i .gtr (.t p9) (.c (.int .i64 32)))),
  o p11 (.p (.pick (.t p8) (.c (.bool true)) (.t p10)))])
  (.cond (.t p11) (.seq (.reg [o p12 (.p (.bld [(.int .u32 0), (.int .i64 0)] [])),
  n (.w (.st 2 (.t p4) (.t p12))),
  o p5 (.p (.mv (.c (.int .i64 1))))])
  (.ret))
  (.skip)))
  (.seq (.reg [o p13 (.p (.mv (.t p0))),
  o p14 (.p (.mv (.t p1))),
  o p15 (.call 129 [(.t p14)]),
  o p16 (.p (.bin .i .and (.t p13) (.t p15))),
  o p17 (.p (.mv (.t p1))),
  o p18 (.p (.bld [(.int .u32 0), (.int .i64 0)] [(0, 1, (.t p16)), (1, 1, (.t p17))])),
  n (.w (.st 2 (.t p4) (.t p18))),
  o p5 (.p (.mv (.c (.int .i64 0))))])
  (.ret)))⟩
def c65 : CFunc := ⟨[], .seq (.reg [o p6 (.p (.mv (.t p0))),
  o p7 (.p (.nck (.t p6))),
  o p8 (.p (.fa 5 (.t p7))),
  o p9 (.r (.ld 1 false (.t p8))),
  o p10 (.p (.bin .f .neq (.t p9) (.c .nilFunc)))])
  (.cond (.t p10) (.reg [o p11 (.p (.mv (.t p0))),
  o p12 (.p (.nck (.t p11))),
  o p13 (.p (.fa 5 (.t p12))),
  o p14 (.r (.ld 1 false (.t p13))),
  o p15 (.p (.mv (.t p1))),
  o p16 (.p (.mv (.t p2))),
  o p17 (.callv (.t p14) [(.t p15), (.t p16)])])
  (.skip))⟩
def c66 : CFunc := ⟨[.cell p2 1 true], .seq (.reg [o p2 (.a (.alc [(.slice none 0 0)]))])
  (.seq (.reg [o p3 (.p (.mv (.t p0))),
  o p4 (.call 36 [(.t p3)]),
  o p5 (.p (.bld [(.slice none 0 0)] [(0, 1, (.t p4))])),
  n (.w (.st 1 (.t p2) (.t p5)))])
  (.ret))⟩
def c67 : CFunc := ⟨[.t p2], .seq (.reg [o p2 (.p (.mv (.c (.slice none 0 0))))])
  (.seq (.reg [o p4 (.p (.mv (.t p0))),
  o p5 (.call 130 [(.t p4)]),
  o p3 (.p (.mv (.t p5)))])
  (.seq (.reg [o p6 (.p (.mv (.t p3))),
  o p7 (.call 80 [(.t p6)])])
  (.seq (.reg [o p8 (.p (.mv (.t p3))),
  o p2 (.p (.mv (.t p8)))])
  (.ret))))⟩
def c68 : CFunc := ⟨[.t p2], .seq (.reg [o p1 (.a (.box 1 (.t p0))),
  o p2 (.p (.mv (.c .nilFunc)))])
  (.seq (.reg [o p3 (.p (.mkf 131 [] [(.t p1)])),
  o p2 (.p (.mv (.t p3)))])
  (.ret))⟩
def c69 : CFunc := ⟨[], .seq (.reg [o p6 (.p (.mv (.t p0))),
  o p7 (.p (.nck (.t p6))),
  o p8 (.p (.fa 2 (.t p7))),
  o p9 (.call 132 [(.t p8)]),
  o p5 (.p (.mv (.t p9))),
  o p10 (.p (.ext 0 (.t p5))),
  o p11 (.p (.ext 1 (.t p5))),
  o p2 (.p (.mv (.t p10))),
  o p3 (.p (.mv (.t p11)))])
  (.seq (.seq (.reg [o p12 (.p (.mv (.t p3))),
  o p13 (.p (.un .not (.t p12)))])
  (.cond (.t p13) (.seq (.reg [o p14 (.p (.mv (.t p0))),
  o p15 (.p (.nck (.t p14))),
  o p16 (.p (.fa 4 (.t p15))),
  o p17 (.r (.ld 1 false (.t p16))),
  o p4 (.p (.mv (.t p17)))])
  (.seq (.seq (.reg [o p18 (.p (.mv (.t p0))),
  o p19 (.p (.nck (.t p18))),
  o p20 (.p (.fa 3 (.t p19))),
  o p21 (.r (.ld 1 false (.t p20))),
  o p22 (.p (.lenP false (.t p21))),
  o p23 (.p (.bin .i .gtr (.t p22) (.c (.int .i64 0))))])
  (.cond (.t p23) (.reg [o p4 (.p (.mv (.c (.int .i64 0))))])
  (.skip)))
  (.seq (.reg [o p24 (.p (.mv (.t p0))),
  o p25 (.p (.mv (.t p0))),
  o p26 (.p (.nck (.t p25))),
  o p27 (.p (.fa 3 (.t p26))),
  o p28 (.r (.ld 1 false (.t p27))),
  o p29 (.p (.mv (.t p4))),
  o p30 (.call 65 [(.t p24), (.t p28), (.t p29)])])
  (.ret))))
  (.skip)))
  (.dreg [o p31 (.p (.mv (.t p0))),
  o p32 (.p (.nck (.t p31))),
  o p33 (.p (.fa 0 (.t p32))),
  o p34 (.r (.ld 1 false (.t p33))),
  o p35 (.p (.mv (.t p2))),
  o p36 (.p (.mv (.t p0))),
  o p37 (.p (.nck (.t p36))),
  o p38 (.p (.fa 1 (.t p37))),
  o p39 (.r (.ld 1 false (.t p38))),
  o p40 (.p (.mv (.t p2))),
  o p41 (.r (.look (.slice none 0 0) false (.one 0) (.t p39) (.t p40))),
  o p42 (.p (.bld [(.int .i64 0), (.slice none 0 0), (.string ⟨⟨[]⟩⟩), (.slice none 0 0)] [(0, 1, (.c (.int .i64 1))), (1, 1, (.t p41))])),
  o p43 (.p (.mv (.t p0))),
  o p44 (.p (.mkf 134 [(.t p43)] [])),
  o p45 (.call 133 [(.t p34), (.t p35), (.t p42), (.t p44)])] [[], [], [], [], [], [], [], [], [], [], [], [], [], [], []]))⟩
def c77 : CFunc := ⟨[.cell p4 2 true, .t p5], .seq (.reg [o p2 (.a (.box 68 (.t p0))),
  o p4 (.a (.alc [(.string ⟨⟨[]⟩⟩), (.string ⟨⟨[]⟩⟩)])),
  o p5 (.p (.mv (.c (.bool false))))])
  (.seq (.reg [o p9 (.r (.ld 68 true (.t p2))),
  o p10 (.p (.mv (.t p1))),
  o p11 (.call 147 [(.t p9), (.t p10)]),
  o p8 (.p (.mv (.t p11))),
  o p12 (.p (.ext 0 (.t p8))),
  o p13 (.p (.ext 1 (.t p8))),
  o p6 (.p (.mv (.t p12))),
  o p7 (.p (.mv (.t p13)))])
  (.seq (.seq (.reg [o p14 (.p (.mv (.t p7))),
  o p15 (.p (.un .not (.t p14))),
  o p16 (.p (.mv (.t p15))),
  g (some p17) p16 false (.r (.ld 68 true (.t p2))),
  g (some p18) p16 false (.call 144 [(.t p17)]),
  g (some p19) p16 false (.p (.un .not (.t p18))),
  o p20 (.p (.pick (.t p16) (.c (.bool true)) (.t p19))),
  o p21 (.p (.mv (.t p20))),
  g (some p22) p21 false (.p (.mv (.t p6))),
  g (some p23) p21 false (.p (.fa 2 (.t p2))),
  g (some p24) p21 false (.p (.iaA 64 1 (.t p23) (.t p22))),
  g (some p25) p21 false (.r (.ld 1 false (.t p24))),
  g (some p26) p21 false (.p (.bin .i .eql (.t p25) (.c (.int .u8 0)))),
  o p27 (.p (.pick (.t p21) (.c (.bool true)) (.t p26)))])
  (.cond (.t p27) (.seq (.reg [o p28 (.p (.bld [(.string ⟨⟨[]⟩⟩), (.string ⟨⟨[]⟩⟩)] [])),
  n (.w (.st 2 (.t p4) (.t p28))),
  o p5 (.p (.mv (.c (.bool false))))])
  (.ret))
  (.skip)))
  (.seq (.dreg [o p29 (.p (.fa 67 (.t p2))),
  o p30 (.r (.ld 1 false (.t p29))),
  o p31 (.p (.mv (.t p6))),
  o p32 (.p (.fa 2 (.t p2))),
  o p33 (.p (.iaA 64 1 (.t p32) (.t p31))),
  o p34 (.r (.ld 1 false (.t p33))),
  o p35 (.p (.bin .i .sub (.t p34) (.c (.int .u8 1)))),
  o p36 (.p (.iaL 2 (.t p30) (.t p35))),
  o p37 (.r (.ld 2 true (.t p36))),
  n (.w (.st 2 (.t p4) (.t p37))),
  o p5 (.p (.mv (.c (.bool true))))] [[], [], [], [], [], [], [], [], [], [], []])
  (.ret))))⟩
def c80 : CFunc := ⟨[], .seq (.reg [o p3 (.p (.mv (.t p0))),
  o p4 (.p (.lenP false (.t p3))),
  o p2 (.p (.mv (.t p4)))])
  (.reg [o p5 (.p (.mv (.t p0))),
  o p6 (.p (.mv (.t p2))),
  o p7 (.p (.mv (.t p2))),
  o p8 (.p (.conv .u64 (.t p7))),
  o p9 (.call 150 [(.t p8)]),
  o p10 (.call 149 [(.t p5), (.c (.int .i64 0)), (.t p6), (.t p9)])])⟩
def c83 : CFunc := ⟨[.cell p2 2 true], .seq (.reg [o p1 (.a (.box 13 (.t p0))),
  o p2 (.a (.alc [(.int .i64 0), (.slice none 0 0)]))])
  (.seq (.reg [o p13 (.p (.bld [(.int .i64 0), (.slice none 0 0)] [])),
  o p3 (.a (.alc [(.int .i64 0), (.slice none 0 0)])),
  n (.w (.st 2 (.t p3) (.t p13)))])
  (.seq (.reg [o p14 (.p (.fa 0 (.t p1))),
  o p15 (.r (.ld 1 false (.t p14))),
  o p16 (.p (.bld [(.int .u32 0), (.int .i64 0), (.bool false)] [(2, 1, (.t p15))])),
  o p4 (.a (.alc [(.int .u32 0), (.int .i64 0), (.bool false)])),
  n (.w (.st 3 (.t p4) (.t p16)))])
  (.seq (.reg [o p17 (.call 42 [(.c (.int .i64 0))]),
  o p18 (.p (.fa 0 (.t p4))),
  o p19 (.p (.fa 0 (.t p18))),
  n (.w (.st 1 (.t p19) (.t p17)))])
  (.seq (.reg [o p20 (.p (.fa 0 (.t p4))),
  o p21 (.p (.fa 1 (.t p20))),
  n (.w (.st 1 (.t p21) (.c (.int .i64 24))))])
  (.seq (.dreg [o p22 (.r (.ld 2 true (.t p3))),
  o p23 (.r (.ld 3 true (.t p4))),
  o p24 (.call 152 [(.t p23)]),
  o p25 (.call 151 [(.t p22), (.c (.string ⟨⟨[112, 111, 111, 108, 47, 49, 48, 46, 48, 46, 48, 46, 48, 45, 50, 52]⟩⟩)), (.t p24)]),
  n (.w (.st 2 (.t p3) (.t p25)))] [[], [], [0], [], []])
  (.seq (.seq (.reg [o p5 (.p (.mv (.c (.int .i64 0))))])
  (.block 0 (.loop (.seq (.seq (.reg [o p26 (.p (.mv (.t p5))),
  o p27 (.p (.bin .i .lss (.t p26) (.c (.int .i64 3))))])
  (.cond (.t p27) (.skip)
  (.exit 0)))
  (.seq (.block 1 (.dreg [o p30 (.r (.ld 2 true (.t p3))),
  o p31 (.p (.mv (.t p5))),
  o p34 (.p (.mv (.t p5))),
  o p35 (.p (.bin .i .eql (.t p34) (.c (.int .i64 2)))),
  o p32 (.call 153 [(.t p31)]),
  o p33 (.p (.bin .s .add (.c (.string ⟨⟨[110, 111, 100, 101, 47]⟩⟩)) (.t p32))),
  o p36 (.call 154 [(.t p35)]),
  o p37 (.call 151 [(.t p30), (.t p33), (.t p36)]),
  n (.w (.st 2 (.t p3) (.t p37)))] [[], [], [], [], [0], [], [0], [], []]))
  (.reg [o p28 (.p (.mv (.t p5))),
  o p29 (.p (.bin .i .add (.t p28) (.c (.int .i64 1)))),
  o p5 (.p (.mv (.t p29)))]))))))
  (.seq (.reg [o p6 (.p (.mv (.c (.slice none 0 0))))])
  (.seq (.seq (.reg [o p38 (.p (.fa 1 (.t p1))),
  o p39 (.r (.ld 12 true (.t p38))),
  o p40 (.p (.mv (.c (.int .i64 0))))])
  (.block 2 (.loop (.seq (.reg [o p41 (.p (.bin .i .lss (.t p40) (.c (.int .i64 4))))])
  (.seq (.cond (.t p41) (.skip)
  (.exit 2))
  (.seq (.block 3 (.seq (.reg [o p42 (.p (.mv (.t p40))),
  o p43 (.p (.ixA 4 3 true (.t p39) (.t p40))),
  o p8 (.a (.alc [(.int .i64 0), (.int .i64 0), (.slice none 0 0)])),
  o p7 (.p (.mv (.t p42))),
  n (.w (.st 3 (.t p8) (.t p43)))])
  (.seq (.reg [o p44 (.p (.fa 0 (.t p8))),
  o p45 (.r (.ld 1 false (.t p44))),
  o p46 (.call 85 [(.t p45), (.c (.int .i64 8))]),
  o p9 (.p (.mv (.t p46)))])
  (.seq (.seq (.reg [o p47 (.p (.mv (.t p9))),
  o p48 (.p (.bin .i .eql (.t p47) (.c (.int .i64 1)))),
  o p49 (.p (.mv (.t p48))),
  g (some p50) p49 false (.p (.mv (.t p9))),
  g (some p51) p49 false (.p (.bin .i .eql (.t p50) (.c (.int .i64 2)))),
  o p52 (.p (.pick (.t p49) (.c (.bool true)) (.t p51))),
  o p53 (.p (.mv (.t p52))),
  g (some p54) p53 false (.p (.mv (.t p9))),
  g (some p55) p53 false (.p (.bin .i .eql (.t p54) (.c (.int .i64 3)))),
  o p56 (.p (.pick (.t p53) (.c (.bool true)) (.t p55))),
  o p57 (.p (.mv (.t p56))),
  g (some p58) p57 false (.p (.mv (.t p9))),
  g (some p59) p57 false (.p (.bin .i .eql (.t p58) (.c (.int .i64 7)))),
  o p60 (.p (.pick (.t p57) (.c (.bool true)) (.t p59)))])
  (.cond (.t p60) (.seq (.reg [o p10 (.p (.mv (.c (.int .i64 2))))])
  (.seq (.seq (.reg [o p61 (.p (.mv (.t p9))),
  o p62 (.p (.bin .i .eql (.t p61) (.c (.int .i64 2))))])
  (.cond (.t p62) (.reg [o p10 (.p (.mv (.c (.int .i64 1))))])
  (.skip)))
  (.seq (.seq (.reg [o p63 (.p (.mv (.t p9))),
  o p64 (.p (.bin .i .eql (.t p63) (.c (.int .i64 3))))])
  (.cond (.t p64) (.reg [o p10 (.p (.mv (.c (.int .i64 3))))])
  (.skip)))
  (.reg [o p65 (.r (.ld 2 true (.t p3))),
  o p66 (.p (.fa 1 (.t p8))),
  o p67 (.r (.ld 1 false (.t p66))),
  o p68 (.p (.mv (.t p7))),
  o p69 (.p (.mv (.t p10))),
  o p70 (.call 155 [(.t p65), (.t p67), (.t p68), (.t p69)]),
  n (.w (.st 2 (.t p3) (.t p70)))]))))
  (.skip)))
  (.seq (.seq (.reg [o p71 (.p (.mv (.t p9))),
  o p72 (.p (.bin .i .eql (.t p71) (.c (.int .i64 5)))),
  o p73 (.p (.mv (.t p72))),
  g (some p74) p73 false (.p (.mv (.t p9))),
  g (some p75) p73 false (.p (.bin .i .eql (.t p74) (.c (.int .i64 6)))),
  o p76 (.p (.pick (.t p73) (.c (.bool true)) (.t p75)))])
  (.cond (.t p76) (.reg [o p77 (.r (.ld 2 true (.t p3))),
  o p78 (.p (.fa 1 (.t p8))),
  o p79 (.r (.ld 1 false (.t p78))),
  o p80 (.p (.mv (.t p7))),
  o p81 (.p (.mv (.t p9))),
  o p82 (.p (.bin .i .mul (.c (.int .i64 2)) (.t p81))),
  o p83 (.p (.bin .i .sub (.t p82) (.c (.int .i64 9)))),
  o p84 (.call 155 [(.t p77), (.t p79), (.t p80), (.t p83)]),
  n (.w (.st 2 (.t p3) (.t p84)))])
  (.skip)))
  (.seq (.seq (.reg [o p85 (.p (.mv (.t p9))),
  o p86 (.p (.bin .i .eql (.t p85) (.c (.int .i64 7))))])
  (.cond (.t p86) (.reg [o p87 (.r (.ld 2 true (.t p3))),
  o p88 (.p (.fa 1 (.t p8))),
  o p89 (.r (.ld 1 false (.t p88))),
  o p90 (.p (.bin .i .add (.t p89) (.c (.int .i64 1)))),
  o p91 (.p (.mv (.t p7))),
  o p92 (.call 155 [(.t p87), (.t p90), (.t p91), (.c (.int .i64 1))]),
  n (.w (.st 2 (.t p3) (.t p92)))])
  (.skip)))
  (.seq (.reg [o p93 (.p (.mv (.t p9))),
  o p94 (.p (.bin .i .gtr (.t p93) (.c (.int .i64 0)))),
  o p95 (.p (.mv (.t p94))),
  g (some p96) p95 true (.p (.mv (.t p9))),
  g (some p97) p95 true (.p (.bin .i .lss (.t p96) (.c (.int .i64 5)))),
  o p98 (.p (.pick (.t p95) (.t p97) (.c (.bool false)))),
  o p99 (.p (.mv (.t p98))),
  g (some p100) p99 false (.p (.mv (.t p9))),
  g (some p101) p99 false (.p (.bin .i .eql (.t p100) (.c (.int .i64 7)))),
  o p102 (.p (.pick (.t p99) (.c (.bool true)) (.t p101)))])
  (.cond (.t p102) (.seq (.reg [o p103 (.p (.mv (.t p6))),
  o p104 (.r (.ld 3 true (.t p8))),
  o p105 (.p (.mv (.t p7))),
  o p106 (.call 156 [(.t p104), (.t p105)]),
  o p107 (.a (.bsl 5 1 [(.int .u32 0), (.string ⟨⟨[]⟩⟩), (.slice none 0 0), (.slice none 0 0), (.slice none 0 0)] [(0, 5, (.t p106))])),
  o p108 (.w (.app 5 96 (.t p103) (.t p107))),
  o p6 (.p (.mv (.t p108)))])
  (.dreg [o p109 (.r (.ld 2 true (.t p3))),
  o p110 (.p (.mv (.t p7))),
  o p113 (.r (.ld 3 true (.t p8))),
  o p114 (.p (.mv (.t p7))),
  o p111 (.call 42 [(.t p110)]),
  o p112 (.call 157 [(.t p111)]),
  o p115 (.call 156 [(.t p113), (.t p114)]),
  o p116 (.call 158 [(.t p115)]),
  o p117 (.call 151 [(.t p109), (.t p112), (.t p116)]),
  n (.w (.st 2 (.t p3) (.t p117)))] [[], [], [], [], [0, 2], [0, 2], [0], [0], [], []]))
  (.skip)))))))))
  (.reg [o p118 (.p (.bin .i .add (.t p40) (.c (.int .i64 1)))),
  o p40 (.p (.mv (.t p118)))])))))))
  (.seq (.seq (.reg [o p11 (.p (.mv (.c (.int .i64 0))))])
  (.block 4 (.loop (.seq (.seq (.reg [o p119 (.p (.mv (.t p11))),
  o p120 (.p (.bin .i .lss (.t p119) (.c (.int .i64 3))))])
  (.cond (.t p120) (.skip)
  (.exit 4)))
  (.seq (.block 5 (.seq (.reg [o p123 (.p (.mv (.t p6))),
  o p124 (.p (.mv (.t p11))),
  o p125 (.call 160 [(.t p124)]),
  o p126 (.call 159 [(.t p123), (.t p125)]),
  o p12 (.p (.mv (.t p126)))])
  (.seq (.reg [o p127 (.p (.mv (.t p12))),
  o p128 (.p (.lenP false (.t p127))),
  o p129 (.p (.bin .i .gtr (.t p128) (.c (.int .i64 0))))])
  (.cond (.t p129) (.dreg [o p130 (.r (.ld 2 true (.t p3))),
  o p131 (.p (.mv (.t p11))),
  o p134 (.p (.mv (.t p12))),
  o p132 (.call 160 [(.t p131)]),
  o p133 (.p (.bin .s .add (.c (.string ⟨⟨[104, 97, 110, 100, 108, 101, 47]⟩⟩)) (.t p132))),
  o p135 (.call 161 [(.t p134)]),
  o p136 (.call 151 [(.t p130), (.t p133), (.t p135)]),
  n (.w (.st 2 (.t p3) (.t p136)))] [[], [], [], [0], [], [0], [], []])
  (.skip)))))
  (.reg [o p121 (.p (.mv (.t p11))),
  o p122 (.p (.bin .i .add (.t p121) (.c (.int .i64 1)))),
  o p11 (.p (.mv (.t p122)))]))))))
  (.seq (.reg [o p137 (.r (.ld 2 true (.t p3))),
  n (.w (.st 2 (.t p2) (.t p137)))])
  (.ret)))))))))))⟩
def c84 : CFunc := ⟨[.t p2], .seq (.reg [o p2 (.p (.mv (.c (.slice none 0 0))))])
  (.seq (.reg [o p3 (.p (.mv (.c (.slice none 0 0))))])
  (.seq (.seq (.reg [o p6 (.p (.mv (.t p0))),
  o p7 (.p (.lenP false (.t p6))),
  o p8 (.p (.mv (.c (.int .i64 0))))])
  (.block 0 (.loop (.seq (.reg [o p9 (.p (.bin .i .lss (.t p8) (.t p7)))])
  (.seq (.cond (.t p9) (.skip)
  (.exit 0))
  (.seq (.block 1 (.seq (.reg [o p10 (.p (.iaL 3 (.t p6) (.t p8))),
  o p11 (.r (.ld 3 true (.t p10))),
  o p5 (.a (.alc [(.string ⟨⟨[]⟩⟩), (.string ⟨⟨[]⟩⟩), (.int .i64 0)])),
  n (.w (.st 3 (.t p5) (.t p11)))])
  (.reg [o p12 (.p (.mv (.t p3))),
  o p13 (.p (.fa 0 (.t p5))),
  o p14 (.r (.ld 1 false (.t p13))),
  o p15 (.p (.fa 1 (.t p5))),
  o p16 (.r (.ld 1 false (.t p15))),
  o p17 (.p (.fa 2 (.t p5))),
  o p18 (.r (.ld 1 false (.t p17))),
  o p19 (.p (.bld [(.string ⟨⟨[]⟩⟩), (.string ⟨⟨[]⟩⟩), (.int .i64 0)] [(0, 1, (.t p14)), (1, 1, (.t p16)), (2, 1, (.t p18))])),
  o p20 (.a (.bsl 3 1 [(.string ⟨⟨[]⟩⟩), (.string ⟨⟨[]⟩⟩), (.int .i64 0)] [(0, 3, (.t p19))])),
  o p21 (.w (.app 3 40 (.t p12) (.t p20))),
  o p3 (.p (.mv (.t p21)))])))
  (.reg [o p22 (.p (.bin .i .add (.t p8) (.c (.int .i64 1)))),
  o p8 (.p (.mv (.t p22)))])))))))
  (.seq (.reg [o p23 (.p (.mv (.t p3))),
  o p2 (.p (.mv (.t p23)))])
  (.ret))))⟩
def c85 : CFunc := ⟨[.t p4], .seq (.reg [o p4 (.p (.mv (.c (.int .i64 0))))])
  (.seq (.reg [o p5 (.p (.mv (.t p0))),
  o p6 (.p (.mv (.t p1))),
  o p7 (.p (.bin .i .rem (.t p5) (.t p6))),
  o p0 (.p (.mv (.t p7)))])
  (.seq (.seq (.reg [o p8 (.p (.mv (.t p0))),
  o p9 (.p (.bin .i .lss (.t p8) (.c (.int .i64 0))))])
  (.cond (.t p9) (.reg [o p10 (.p (.mv (.t p0))),
  o p11 (.p (.mv (.t p1))),
  o p12 (.p (.bin .i .add (.t p10) (.t p11))),
  o p0 (.p (.mv (.t p12)))])
  (.skip)))
  (.seq (.reg [o p13 (.p (.mv (.t p0))),
  o p4 (.p (.mv (.t p13)))])
  (.ret))))⟩
def c113 : CFunc := ⟨[.t p4, .t p5], .seq (.reg [o p4 (.p (.mv (.c (.pointer none)))),
  o p5 (.p (.mv (.c (.int .i64 0))))])
  (.seq (.reg [o p9 (.call 178 []),
  o p6 (.p (.mv (.t p9)))])
  (.seq (.seq (.reg [o p10 (.p (.mv (.t p0))),
  o p11 (.p (.bin .i .lss (.t p10) (.c (.int .i64 0))))])
  (.cond (.t p11) (.seq (.reg [o p4 (.p (.mv (.c (.pointer none)))),
  o p5 (.p (.mv (.c (.int .i64 1))))])
  (.ret))
  (.skip)))
  (.seq (.reg [o p12 (.p (.mv (.t p6))),
  o p13 (.p (.mv (.t p0))),
  o p14 (.p (.nck (.t p12))),
  o p15 (.p (.fa 0 (.t p14))),
  n (.w (.st 1 (.t p15) (.t p13)))])
  (.seq (.seq (.reg [o p16 (.p (.mv (.t p1))),
  o p17 (.p (.lenP false (.t p16))),
  o p18 (.p (.mv (.c (.int .i64 0))))])
  (.block 0 (.loop (.seq (.reg [o p19 (.p (.bin .i .lss (.t p18) (.t p17)))])
  (.seq (.cond (.t p19) (.skip)
  (.exit 0))
  (.seq (.block 1 (.seq (.reg [o p20 (.p (.mv (.t p18))),
  o p21 (.p (.iaL 3 (.t p16) (.t p18))),
  o p22 (.r (.ld 3 true (.t p21))),
  o p8 (.a (.alc [(.string ⟨⟨[]⟩⟩), (.string ⟨⟨[]⟩⟩), (.int .i64 0)])),
  o p7 (.p (.mv (.t p20))),
  n (.w (.st 3 (.t p8) (.t p22)))])
  (.seq (.seq (.dreg [o p23 (.p (.fa 0 (.t p8))),
  o p24 (.r (.ld 1 false (.t p23))),
  o p25 (.call 179 [(.t p24)]),
  o p26 (.p (.un .not (.t p25))),
  o p27 (.p (.mv (.t p26))),
  g (some p28) p27 false (.p (.fa 1 (.t p8))),
  g (some p29) p27 false (.r (.ld 1 false (.t p28))),
  g (some p30) p27 false (.call 180 [(.t p29)]),
  g (some p31) p27 false (.p (.un .not (.t p30))),
  o p32 (.p (.pick (.t p27) (.c (.bool true)) (.t p31))),
  o p33 (.p (.mv (.t p32))),
  g (some p34) p33 false (.p (.fa 2 (.t p8))),
  g (some p35) p33 false (.r (.ld 1 false (.t p34))),
  g (some p36) p33 false (.p (.bin .i .lss (.t p35) (.c (.int .i64 1)))),
  o p37 (.p (.pick (.t p33) (.c (.bool true)) (.t p36))),
  o p38 (.p (.mv (.t p37))),
  g (some p39) p38 false (.p (.fa 2 (.t p8))),
  g (some p40) p38 false (.r (.ld 1 false (.t p39))),
  g (some p41) p38 false (.p (.mv (.t p0))),
  g (some p42) p38 false (.p (.bin .i .gtr (.t p40) (.t p41))),
  o p43 (.p (.pick (.t p38) (.c (.bool true)) (.t p42))),
  o p44 (.p (.mv (.t p43))),
  g (some p45) p44 false (.p (.mv (.t p7))),
  g (some p46) p44 false (.p (.bin .i .gtr (.t p45) (.c (.int .i64 0)))),
  g (some p47) p44 false (.p (.mv (.t p46))),
  g (some p48) p47 true (.p (.mv (.t p1))),
  g (some p49) p47 true (.p (.mv (.t p7))),
  g (some p50) p47 true (.p (.bin .i .sub (.t p49) (.c (.int .i64 1)))),
  g (some p51) p47 true (.p (.iaL 3 (.t p48) (.t p50))),
  g (some p52) p47 true (.p (.fa 0 (.t p51))),
  g (some p53) p47 true (.r (.ld 1 false (.t p52))),
  g (some p54) p47 true (.p (.fa 0 (.t p8))),
  g (some p55) p47 true (.r (.ld 1 false (.t p54))),
  g (some p56) p47 true (.p (.bin .s .geq (.t p53) (.t p55))),
  g (some p57) p44 false (.p (.pick (.t p47) (.t p56) (.c (.bool false)))),
  o p58 (.p (.pick (.t p44) (.c (.bool true)) (.t p57)))] [[], [], [], [], [], [], [], [], [], [], [], [], [], [], [], [], [], [], [], [], [], [], [], [], [], [], [], [], [], [], [], [], [], [], [], []])
  (.cond (.t p58) (.seq (.reg [o p4 (.p (.mv (.c (.pointer none)))),
  o p5 (.p (.mv (.c (.int .i64 1))))])
  (.ret))
  (.skip)))
  (.dreg [o p59 (.p (.mv (.t p6))),
  o p60 (.p (.nck (.t p59))),
  o p61 (.p (.fa 1 (.t p60))),
  o p62 (.r (.ld 1 false (.t p61))),
  o p63 (.p (.fa 0 (.t p8))),
  o p64 (.r (.ld 1 false (.t p63))),
  o p65 (.r (.ld 3 true (.t p8))),
  n (.w (.mup (.one 1) (.t p62) (.t p64) (.t p65)))] [[], [], [], [], [], [], [], []]))))
  (.reg [o p66 (.p (.bin .i .add (.t p18) (.c (.int .i64 1)))),
  o p18 (.p (.mv (.t p66)))])))))))
  (.seq (.reg [o p67 (.p (.mv (.t p6))),
  o p4 (.p (.mv (.t p67))),
  o p5 (.p (.mv (.c (.int .i64 0))))])
  (.ret))))))⟩
def c114 : CFunc := ⟨[.cell p2 6 true, .t p3], .seq (.reg [o p2 (.a (.alc [(.int .i64 0), (.string ⟨⟨[]⟩⟩), (.string ⟨⟨[]⟩⟩), (.int .i64 0), (.string ⟨⟨[]⟩⟩), (.int .i64 0)])),
  o p3 (.p (.mv (.c (.bool false))))])
  (.seq (.seq (.reg [o p4 (.p (.mv (.t p0))),
  o p5 (.p (.bin .p .eql (.t p4) (.c (.pointer none)))),
  o p6 (.p (.mv (.t p5))),
  g (some p7) p6 false (.p (.mv (.t p0))),
  g (some p8) p6 false (.p (.nck (.t p7))),
  g (some p9) p6 false (.p (.fa 7 (.t p8))),
  g (some p10) p6 false (.r (.ld 1 false (.t p9))),
  g (some p11) p6 false (.p (.un .not (.t p10))),
  o p12 (.p (.pick (.t p6) (.c (.bool true)) (.t p11)))])
  (.cond (.t p12) (.seq (.reg [o p13 (.p (.bld [(.int .i64 0), (.string ⟨⟨[]⟩⟩), (.string ⟨⟨[]⟩⟩), (.int .i64 0), (.string ⟨⟨[]⟩⟩), (.int .i64 0)] [])),
  n (.w (.st 6 (.t p2) (.t p13))),
  o p3 (.p (.mv (.c (.bool false))))])
  (.ret))
  (.skip)))
  (.seq (.reg [o p14 (.p (.mv (.t p0))),
  o p15 (.p (.nck (.t p14))),
  o p16 (.p (.fa 0 (.t p15))),
  o p17 (.r (.ld 6 true (.t p16))),
  n (.w (.st 6 (.t p2) (.t p17))),
  o p3 (.p (.mv (.c (.bool true))))])
  (.ret)))⟩
def c115 : CFunc := ⟨[.t p4], .seq (.reg [o p3 (.a (.box 4 (.t p1))),
  o p4 (.p (.mv (.c (.bool false))))])
  (.seq (.seq (.reg [o p6 (.p (.mv (.t p0))),
  o p7 (.p (.bin .p .eql (.t p6) (.c (.pointer none)))),
  o p8 (.p (.mv (.t p7))),
  g (some p9) p8 false (.p (.mv (.t p0))),
  g (some p10) p8 false (.p (.nck (.t p9))),
  g (some p11) p8 false (.p (.fa 7 (.t p10))),
  g (some p12) p8 false (.r (.ld 1 false (.t p11))),
  g (some p13) p8 false (.p (.un .not (.t p12))),
  o p14 (.p (.pick (.t p8) (.c (.bool true)) (.t p13)))])
  (.cond (.t p14) (.seq (.reg [o p4 (.p (.mv (.c (.bool false))))])
  (.ret))
  (.skip)))
  (.seq (.reg [o p15 (.p (.mv (.t p0))),
  o p16 (.p (.nck (.t p15))),
  o p17 (.p (.fa 6 (.t p16))),
  o p18 (.r (.ld 1 false (.t p17))),
  o p5 (.p (.mv (.t p18)))])
  (.seq (.reg [o p19 (.p (.mv (.t p0))),
  o p20 (.p (.mv (.t p0))),
  o p21 (.p (.mv (.t p0))),
  o p22 (.p (.bld [(.int .i64 0), (.string ⟨⟨[]⟩⟩), (.string ⟨⟨[]⟩⟩), (.int .i64 0), (.string ⟨⟨[]⟩⟩), (.int .i64 0)] [])),
  o p23 (.p (.nck (.t p19))),
  o p24 (.p (.fa 0 (.t p23))),
  n (.w (.st 6 (.t p24) (.t p22))),
  o p25 (.p (.nck (.t p20))),
  o p26 (.p (.fa 6 (.t p25))),
  n (.w (.st 1 (.t p26) (.c .nilFunc))),
  o p27 (.p (.nck (.t p21))),
  o p28 (.p (.fa 7 (.t p27))),
  n (.w (.st 1 (.t p28) (.c (.bool false))))])
  (.seq (.reg [o p29 (.p (.mv (.t p0))),
  o p30 (.p (.nck (.t p29))),
  o p31 (.p (.fa 8 (.t p30))),
  o p32 (.r (.ld 1 false (.t p31))),
  o p33 (.p (.bin .i .add (.t p32) (.c (.int .i64 1)))),
  o p34 (.p (.nck (.t p29))),
  o p35 (.p (.fa 8 (.t p34))),
  n (.w (.st 1 (.t p35) (.t p33)))])
  (.seq (.seq (.reg [o p36 (.p (.mv (.t p5))),
  o p37 (.p (.bin .f .neq (.t p36) (.c .nilFunc)))])
  (.cond (.t p37) (.reg [o p38 (.p (.mv (.t p5))),
  o p39 (.r (.ld 4 true (.t p3))),
  o p40 (.callv (.t p38) [(.t p39)])])
  (.skip)))
  (.seq (.reg [o p4 (.p (.mv (.c (.bool true))))])
  (.ret)))))))⟩
def c116 : CFunc := ⟨[.cell p4 4 true, .cell p5 4 true, .t p6], .seq (.reg [o p3 (.a (.box 6 (.t p1))),
  o p4 (.a (.alc [(.int .i64 0), (.int .i64 0), (.string ⟨⟨[]⟩⟩), (.slice none 0 0)])),
  o p5 (.a (.alc [(.string ⟨⟨[]⟩⟩), (.string ⟨⟨[]⟩⟩), (.int .i64 0), (.bool false)])),
  o p6 (.p (.mv (.c (.bool false))))])
  (.seq (.block 0 (.seq (.reg [o p10 (.p (.mv (.t p0))),
  o p11 (.p (.bin .p .eql (.t p10) (.c (.pointer none)))),
  o p9 (.p (.mv (.t p11)))])
  (.cond (.t p9) (.seq (.reg [o p12 (.p (.bld [(.int .i64 0), (.int .i64 0), (.string ⟨⟨[]⟩⟩), (.slice none 0 0)] [(0, 1, (.c (.int .i64 2)))])),
  o p13 (.p (.bld [(.string ⟨⟨[]⟩⟩), (.string ⟨⟨[]⟩⟩), (.int .i64 0), (.bool false)] [])),
  n (.w (.st 4 (.t p4) (.t p12))),
  n (.w (.st 4 (.t p5) (.t p13))),
  o p6 (.p (.mv (.c (.bool false))))])
  (.ret))
  (.seq (.reg [o p15 (.p (.fa 0 (.t p3))),
  o p16 (.r (.ld 1 false (.t p15))),
  o p17 (.p (.bin .i .eql (.t p16) (.c (.int .i64 1)))),
  o p18 (.p (.mv (.t p17))),
  g (some p19) p18 false (.p (.fa 0 (.t p3))),
  g (some p20) p18 false (.r (.ld 1 false (.t p19))),
  g (some p21) p18 false (.p (.bin .i .eql (.t p20) (.c (.int .i64 2)))),
  o p22 (.p (.pick (.t p18) (.c (.bool true)) (.t p21))),
  o p14 (.p (.mv (.t p22)))])
  (.cond (.t p14) (.seq (.reg [o p23 (.p (.mv (.t p0))),
  o p24 (.r (.ld 6 true (.t p3))),
  o p25 (.call 181 [(.t p23), (.t p24)]),
  o p26 (.p (.bld [(.string ⟨⟨[]⟩⟩), (.string ⟨⟨[]⟩⟩), (.int .i64 0), (.bool false)] [])),
  n (.w (.st 4 (.t p4) (.t p25))),
  n (.w (.st 4 (.t p5) (.t p26))),
  o p6 (.p (.mv (.c (.bool false))))])
  (.ret))
  (.seq (.reg [o p28 (.p (.fa 0 (.t p3))),
  o p29 (.r (.ld 1 false (.t p28))),
  o p30 (.p (.bin .i .lss (.t p29) (.c (.int .i64 3)))),
  o p31 (.p (.mv (.t p30))),
  g (some p32) p31 false (.p (.fa 0 (.t p3))),
  g (some p33) p31 false (.r (.ld 1 false (.t p32))),
  g (some p34) p31 false (.p (.bin .i .gtr (.t p33) (.c (.int .i64 5)))),
  o p35 (.p (.pick (.t p31) (.c (.bool true)) (.t p34))),
  o p27 (.p (.mv (.t p35)))])
  (.cond (.t p27) (.seq (.reg [o p36 (.p (.bld [(.int .i64 0), (.int .i64 0), (.string ⟨⟨[]⟩⟩), (.slice none 0 0)] [(0, 1, (.c (.int .i64 1)))])),
  o p37 (.p (.bld [(.string ⟨⟨[]⟩⟩), (.string ⟨⟨[]⟩⟩), (.int .i64 0), (.bool false)] [])),
  n (.w (.st 4 (.t p4) (.t p36))),
  n (.w (.st 4 (.t p5) (.t p37))),
  o p6 (.p (.mv (.c (.bool false))))])
  (.ret))
  (.skip))))))))
  (.seq (.seq (.reg [o p38 (.p (.mv (.t p0))),
  o p39 (.r (.ld 6 true (.t p3))),
  o p40 (.call 182 [(.t p38), (.t p39)]),
  o p7 (.p (.mv (.t p40)))])
  (.seq (.reg [o p41 (.p (.mv (.t p7))),
  o p42 (.p (.bin .i .neq (.t p41) (.c (.int .i64 0))))])
  (.cond (.t p42) (.seq (.reg [o p43 (.p (.mv (.t p7))),
  o p44 (.p (.bld [(.int .i64 0), (.int .i64 0), (.string ⟨⟨[]⟩⟩), (.slice none 0 0)] [(0, 1, (.t p43))])),
  o p45 (.p (.bld [(.string ⟨⟨[]⟩⟩), (.string ⟨⟨[]⟩⟩), (.int .i64 0), (.bool false)] [])),
  n (.w (.st 4 (.t p4) (.t p44))),
  n (.w (.st 4 (.t p5) (.t p45))),
  o p6 (.p (.mv (.c (.bool false))))])
  (.ret))
  (.skip))))
  (.seq (.dreg [o p46 (.p (.fa 1 (.t p3))),
  o p47 (.r (.ld 1 false (.t p46))),
  o p48 (.p (.fa 2 (.t p3))),
  o p49 (.r (.ld 1 false (.t p48))),
  o p50 (.p (.mv (.t p0))),
  o p51 (.p (.nck (.t p50))),
  o p52 (.p (.fa 0 (.t p51))),
  o p53 (.r (.ld 1 false (.t p52))),
  o p54 (.p (.bin .i .add (.t p53) (.c (.int .i64 1)))),
  o p55 (.p (.fa 0 (.t p3))),
  o p56 (.r (.ld 1 false (.t p55))),
  o p57 (.p (.bin .i .eql (.t p56) (.c (.int .i64 5)))),
  o p58 (.p (.bld [(.string ⟨⟨[]⟩⟩), (.string ⟨⟨[]⟩⟩), (.int .i64 0), (.bool false)] [(0, 1, (.t p47)), (1, 1, (.t p49)), (2, 1, (.t p54)), (3, 1, (.t p57))])),
  o p8 (.a (.alc [(.string ⟨⟨[]⟩⟩), (.string ⟨⟨[]⟩⟩), (.int .i64 0), (.bool false)])),
  n (.w (.st 4 (.t p8) (.t p58)))] [[], [], [], [], [], [], [], [], [], [], [], [], [], [], []])
  (.seq (.seq (.reg [o p59 (.p (.fa 3 (.t p8))),
  o p60 (.r (.ld 1 false (.t p59)))])
  (.cond (.t p60) (.reg [o p61 (.p (.fa 1 (.t p8))),
  n (.w (.st 1 (.t p61) (.c (.string ⟨⟨[]⟩⟩))))])
  (.skip)))
  (.seq (.dreg [o p62 (.p (.fa 2 (.t p8))),
  o p63 (.r (.ld 1 false (.t p62))),
  o p64 (.p (.bld [(.int .i64 0), (.int .i64 0), (.string ⟨⟨[]⟩⟩), (.slice none 0 0)] [(1, 1, (.t p63))])),
  o p65 (.r (.ld 4 true (.t p8))),
  n (.w (.st 4 (.t p4) (.t p64))),
  n (.w (.st 4 (.t p5) (.t p65))),
  o p6 (.p (.mv (.c (.bool true))))] [[], [], [], [], [3], [], []])
  (.ret))))))⟩
def c117 : CFunc := ⟨[.t p4], .seq (.reg [o p3 (.a (.box 4 (.t p1))),
  o p4 (.p (.mv (.c (.int .i64 0))))])
  (.seq (.seq (.reg [o p7 (.p (.mv (.t p0))),
  o p8 (.p (.bin .p .eql (.t p7) (.c (.pointer none))))])
  (.cond (.t p8) (.seq (.reg [o p4 (.p (.mv (.c (.int .i64 2))))])
  (.ret))
  (.skip)))
  (.seq (.dreg [o p10 (.p (.mv (.t p0))),
  o p11 (.p (.nck (.t p10))),
  o p12 (.p (.fa 1 (.t p11))),
  o p13 (.r (.ld 1 false (.t p12))),
  o p14 (.p (.fa 0 (.t p3))),
  o p15 (.r (.ld 1 false (.t p14))),
  o p16 (.r (.look (.agg ⟨[(.string ⟨⟨[]⟩⟩), (.string ⟨⟨[]⟩⟩), (.int .i64 0)]⟩) true (.one 1) (.t p13) (.t p15))),
  o p9 (.p (.mv (.t p16))),
  o p17 (.p (.ext 0 (.t p9))),
  o p18 (.p (.ext 1 (.t p9))),
  o p5 (.a (.alc [(.string ⟨⟨[]⟩⟩), (.string ⟨⟨[]⟩⟩), (.int .i64 0)])),
  n (.w (.st 3 (.t p5) (.t p17))),
  o p6 (.p (.mv (.t p18)))] [[], [], [], [], [], [], [], [], [], [], [], [], []])
  (.seq (.seq (.dreg [o p19 (.p (.fa 0 (.t p3))),
  o p20 (.r (.ld 1 false (.t p19))),
  o p21 (.call 179 [(.t p20)]),
  o p22 (.p (.un .not (.t p21))),
  o p23 (.p (.mv (.t p22))),
  g (some p24) p23 false (.p (.fa 1 (.t p3))),
  g (some p25) p23 false (.r (.ld 1 false (.t p24))),
  g (some p26) p23 false (.call 180 [(.t p25)]),
  g (some p27) p23 false (.p (.un .not (.t p26))),
  o p28 (.p (.pick (.t p23) (.c (.bool true)) (.t p27))),
  o p29 (.p (.mv (.t p28))),
  g (some p30) p29 false (.p (.mv (.t p0))),
  g (some p31) p29 false (.p (.nck (.t p30))),
  g (some p32) p29 false (.p (.fa 0 (.t p31))),
  g (some p33) p29 false (.r (.ld 1 false (.t p32))),
  g (some p34) p29 false (.p (.bin .i .eql (.t p33) (.c (.int .i64 9223372036854775807)))),
  o p35 (.p (.pick (.t p29) (.c (.bool true)) (.t p34))),
  o p36 (.p (.mv (.t p35))),
  g (some p37) p36 false (.p (.fa 2 (.t p3))),
  g (some p38) p36 false (.r (.ld 1 false (.t p37))),
  g (some p39) p36 false (.p (.mv (.t p0))),
  g (some p40) p36 false (.p (.nck (.t p39))),
  g (some p41) p36 false (.p (.fa 0 (.t p40))),
  g (some p42) p36 false (.r (.ld 1 false (.t p41))),
  g (some p43) p36 false (.p (.bin .i .add (.t p42) (.c (.int .i64 1)))),
  g (some p44) p36 false (.p (.bin .i .neq (.t p38) (.t p43))),
  o p45 (.p (.pick (.t p36) (.c (.bool true)) (.t p44))),
  o p46 (.p (.mv (.t p45))),
  g (some p47) p46 false (.p (.fa 3 (.t p3))),
  g (some p48) p46 false (.r (.ld 1 false (.t p47))),
  g (some p49) p46 false (.p (.mv (.t p48))),
  g (some p50) p49 true (.p (.fa 1 (.t p3))),
  g (some p51) p49 true (.r (.ld 1 false (.t p50))),
  g (some p52) p49 true (.p (.bin .s .neq (.t p51) (.c (.string ⟨⟨[]⟩⟩)))),
  g (some p53) p49 true (.p (.mv (.t p52))),
  g (some p54) p53 false (.p (.mv (.t p6))),
  g (some p55) p53 false (.p (.un .not (.t p54))),
  g (some p56) p49 true (.p (.pick (.t p53) (.c (.bool true)) (.t p55))),
  g (some p57) p46 false (.p (.pick (.t p49) (.t p56) (.c (.bool false)))),
  o p58 (.p (.pick (.t p46) (.c (.bool true)) (.t p57)))] [[], [], [], [], [], [], [], [], [], [], [], [], [], [], [], [], [], [], [], [], [], [], [], [], [], [], [], [], [], [], [], [], [], [], [], [], [], [], [], []])
  (.cond (.t p58) (.seq (.reg [o p4 (.p (.mv (.c (.int .i64 1))))])
  (.ret))
  (.skip)))
  (.seq (.reg [o p59 (.p (.mv (.t p0))),
  o p60 (.p (.fa 2 (.t p3))),
  o p61 (.r (.ld 1 false (.t p60))),
  o p62 (.p (.nck (.t p59))),
  o p63 (.p (.fa 0 (.t p62))),
  n (.w (.st 1 (.t p63) (.t p61)))])
  (.seq (.seq (.reg [o p64 (.p (.fa 3 (.t p3))),
  o p65 (.r (.ld 1 false (.t p64)))])
  (.cond (.t p65) (.seq (.dreg [o p66 (.p (.mv (.t p0))),
  o p67 (.p (.nck (.t p66))),
  o p68 (.p (.fa 1 (.t p67))),
  o p69 (.r (.ld 1 false (.t p68))),
  o p70 (.p (.fa 0 (.t p3))),
  o p71 (.r (.ld 1 false (.t p70))),
  n (.w (.del (.one 1) (.t p69) (.t p71)))] [[], [], [], [], [], [], []])
  (.seq (.reg [o p4 (.p (.mv (.c (.int .i64 0))))])
  (.ret)))
  (.skip)))
  (.seq (.dreg [o p72 (.p (.mv (.t p0))),
  o p73 (.p (.nck (.t p72))),
  o p74 (.p (.fa 1 (.t p73))),
  o p75 (.r (.ld 1 false (.t p74))),
  o p76 (.p (.fa 0 (.t p3))),
  o p77 (.r (.ld 1 false (.t p76))),
  o p78 (.p (.fa 0 (.t p3))),
  o p79 (.r (.ld 1 false (.t p78))),
  o p80 (.p (.fa 1 (.t p3))),
  o p81 (.r (.ld 1 false (.t p80))),
  o p82 (.p (.fa 2 (.t p3))),
  o p83 (.r (.ld 1 false (.t p82))),
  o p84 (.p (.bld [(.string ⟨⟨[]⟩⟩), (.string ⟨⟨[]⟩⟩), (.int .i64 0)] [(0, 1, (.t p79)), (1, 1, (.t p81)), (2, 1, (.t p83))])),
  n (.w (.mup (.one 1) (.t p75) (.t p77) (.t p84)))] [[], [], [], [], [], [], [], [], [], [], [], [], [], []])
  (.seq (.reg [o p4 (.p (.mv (.c (.int .i64 0))))])
  (.ret))))))))⟩
def c129 : CFunc := ⟨[.t p2], .seq (.reg [o p2 (.p (.mv (.c (.int .u32 0))))])
  (.seq (.reg [o p3 (.p (.mv (.t p0))),
  o p4 (.p (.mm true (.t p3) (.c (.int .i64 0)))),
  o p5 (.p (.mm false (.t p4) (.c (.int .i64 32)))),
  o p0 (.p (.mv (.t p5)))])
  (.seq (.reg [o p6 (.p (.mv (.t p0))),
  o p7 (.p (.bin .i .sub (.c (.int .i64 32)) (.t p6))),
  o p8 (.p (.bin .i .shl (.c (.int .u64 1)) (.t p7))),
  o p9 (.p (.bin .i .sub (.c (.int .u64 4294967296)) (.t p8))),
  o p10 (.p (.conv .u32 (.t p9))),
  o p2 (.p (.mv (.t p10)))])
  (.ret)))⟩
def c130 : CFunc := ⟨[.t p2], .seq (.reg [o p2 (.p (.mv (.c (.slice none 0 0))))])
  (.seq (.reg [o p3 (.p (.mv (.t p0))),
  o p4 (.call 208 [(.c (.slice none 0 0)), (.t p3)]),
  o p2 (.p (.mv (.t p4)))])
  (.ret))⟩
def c131 : CFunc := ⟨[], .seq (.reg [o p4 (.r (.ld 1 false (.t p1))),
  o p5 (.w (.rgM (.t p4)))])
  (.block 0 (.loop (.seq (.reg [o p6 (.nxM (.t p5)),
  o p7 (.p (.ext 0 (.t p6)))])
  (.seq (.cond (.t p7) (.skip)
  (.exit 0))
  (.block 1 (.seq (.reg [o p8 (.r (.ent (.t p5))),
  o p9 (.p (.ext 0 (.t p8))),
  o p3 (.p (.mv (.t p9)))])
  (.seq (.reg [o p10 (.p (.mv (.t p0))),
  o p11 (.p (.mv (.t p3))),
  o p12 (.callv (.t p10) [(.t p11)]),
  o p13 (.p (.un .not (.t p12)))])
  (.cond (.t p13) (.ret)
  (.skip)))))))))⟩
def c132 : CFunc := ⟨[.t p2, .t p3], .seq (.reg [o p2 (.p (.mv (.c (.int .u32 0)))),
  o p3 (.p (.mv (.c (.bool false))))])
  (.seq (.seq (.reg [o p6 (.p (.mv (.t p0))),
  o p7 (.p (.nck (.t p6))),
  o p8 (.p (.fa 0 (.t p7))),
  o p9 (.r (.ld 1 false (.t p8))),
  o p10 (.p (.lenP false (.t p9))),
  o p11 (.p (.bin .i .eql (.t p10) (.c (.int .i64 0))))])
  (.cond (.t p11) (.seq (.reg [o p4 (.p (.mv (.c (.int .u32 0))))])
  (.seq (.reg [o p12 (.p (.mv (.t p4))),
  o p2 (.p (.mv (.t p12))),
  o p3 (.p (.mv (.c (.bool false))))])
  (.ret)))
  (.skip)))
  (.seq (.reg [o p13 (.p (.mv (.t p0))),
  o p14 (.p (.nck (.t p13))),
  o p15 (.p (.fa 0 (.t p14))),
  o p16 (.r (.ld 1 false (.t p15))),
  o p17 (.p (.iaL 1 (.t p16) (.c (.int .i64 0)))),
  o p18 (.r (.ld 1 false (.t p17))),
  o p5 (.p (.mv (.t p18)))])
  (.seq (.reg [o p19 (.p (.mv (.t p0))),
  o p20 (.p (.mv (.t p0))),
  o p21 (.p (.nck (.t p20))),
  o p22 (.p (.fa 0 (.t p21))),
  o p23 (.r (.ld 1 false (.t p22))),
  o p24 (.r (.slL 1 (.t p23) (some (.c (.int .i64 1))) none none)),
  o p25 (.p (.nck (.t p19))),
  o p26 (.p (.fa 0 (.t p25))),
  n (.w (.st 1 (.t p26) (.t p24)))])
  (.seq (.reg [o p27 (.p (.mv (.t p5))),
  o p2 (.p (.mv (.t p27))),
  o p3 (.p (.mv (.c (.bool true))))])
  (.ret)))))⟩
def c133 : CFunc := ⟨[], .seq (.reg [o p6 (.a (.box 4 (.t p2)))])
  (.seq (.dreg [o p9 (.p (.fa 1 (.t p6))),
  o p10 (.r (.ld 1 false (.t p9))),
  o p12 (.p (.fa 3 (.t p6))),
  o p13 (.r (.ld 1 false (.t p12))),
  o p11 (.call 36 [(.t p10)]),
  o p15 (.p (.fa 1 (.t p6))),
  o p14 (.call 209 [(.t p13)]),
  n (.w (.st 1 (.t p15) (.t p11))),
  o p16 (.p (.fa 3 (.t p6))),
  n (.w (.st 1 (.t p16) (.t p14)))] [[], [], [], [], [3], [], [], [], [], []])
  (.seq (.reg [o p17 (.p (.mv (.t p0))),
  o p18 (.p (.mv (.t p1))),
  o p19 (.r (.ld 4 true (.t p6))),
  o p20 (.p (.mv (.t p3))),
  o p21 (.p (.bld [(.pointer none), (.int .u32 0), (.int .i64 0), (.slice none 0 0), (.string ⟨⟨[]⟩⟩), (.slice none 0 0), (.int .i64 0), (.slice none 0 0), (.int .u32 0), (.string ⟨⟨[]⟩⟩), (.int .u8 0), (.int .u8 0), (.int .u8 0), (.int .u8 0), (.int .u8 0), (.int .u8 0), (.int .u8 0), (.int .u8 0), (.int .u8 0), (.int .u8 0), (.int .u8 0), (.int .u8 0), (.int .u8 0), (.int .u8 0), (.int .u8 0), (.int .u8 0), (.int .u8 0), (.int .u8 0), (.int .u8 0), (.int .u8 0), (.int .u8 0), (.int .u8 0), (.int .u8 0), (.int .u8 0), (.int .u8 0), (.int .u8 0), (.int .u8 0), (.int .u8 0), (.int .u8 0), (.int .u8 0), (.int .u8 0), (.int .u8 0), (.int .u8 0), (.int .u8 0), (.int .u8 0), (.int .u8 0), (.int .u8 0), (.int .u8 0), (.int .u8 0), (.int .u8 0), (.int .u8 0), (.int .u8 0), (.int .u8 0), (.int .u8 0), (.int .u8 0), (.int .u8 0), (.int .u8 0), (.int .u8 0), (.int .u8 0), (.int .u8 0), (.int .u8 0), (.int .u8 0), (.int .u8 0), (.int .u8 0), (.int .u8 0), (.int .u8 0), (.int .u8 0), (.int .u8 0), (.int .u8 0), (.int .u8 0), (.int .u8 0), (.int .u8 0), (.int .u8 0), (.int .u8 0), (.slice none 0 0), (.slice none 0 0), (.map none), (.slice none 0 0), .nilFunc] [(0, 1, (.t p17)), (1, 1, (.t p18)), (2, 4, (.t p19)), (6, 1, (.c (.int .i64 6))), (78, 1, (.t p20))])),
  o p22 (.a (.box 79 (.t p21))),
  o p8 (.p (.mv (.t p22)))])
  (.reg [o p23 (.p (.mv (.t p8))),
  o p24 (.call 210 [(.t p23)])])))⟩
def c134 : CFunc := ⟨[], .seq (.seq (.reg [o p6 (.p (.mv (.t p2))),
  o p7 (.p (.bin .i .eql (.t p6) (.c (.int .i64 12))))])
  (.cond (.t p7) (.seq (.reg [o p8 (.p (.mv (.t p0))),
  o p9 (.p (.mv (.t p2))),
  o p10 (.call 65 [(.t p8), (.c (.slice none 0 0)), (.t p9)])])
  (.ret))
  (.skip)))
  (.seq (.seq (.reg [o p11 (.p (.mv (.t p2))),
  o p12 (.p (.bin .i .neq (.t p11) (.c (.int .i64 0)))),
  o p13 (.p (.mv (.t p12))),
  g (some p14) p13 true (.p (.mv (.t p0))),
  g (some p15) p13 true (.p (.nck (.t p14))),
  g (some p16) p13 true (.p (.fa 4 (.t p15))),
  g (some p17) p13 true (.r (.ld 1 false (.t p16))),
  g (some p18) p13 true (.p (.bin .i .eql (.t p17) (.c (.int .i64 0)))),
  o p19 (.p (.pick (.t p13) (.t p18) (.c (.bool false))))])
  (.cond (.t p19) (.reg [o p20 (.p (.mv (.t p0))),
  o p21 (.p (.mv (.t p2))),
  o p22 (.p (.nck (.t p20))),
  o p23 (.p (.fa 4 (.t p22))),
  n (.w (.st 1 (.t p23) (.t p21)))])
  (.skip)))
  (.seq (.reg [o p24 (.p (.mv (.t p0))),
  o p25 (.p (.mv (.t p0))),
  o p26 (.p (.nck (.t p25))),
  o p27 (.p (.fa 3 (.t p26))),
  o p28 (.r (.ld 1 false (.t p27))),
  o p29 (.p (.mv (.t p1))),
  o p30 (.w (.app 1 4 (.t p28) (.t p29))),
  o p31 (.p (.nck (.t p24))),
  o p32 (.p (.fa 3 (.t p31))),
  n (.w (.st 1 (.t p32) (.t p30)))])
  (.reg [o p33 (.p (.mv (.t p0))),
  o p34 (.call 69 [(.t p33)])])))⟩
def c138 : CFunc := ⟨[.cell p2 68 true, .t p3], .seq (.reg [o p2 (.a (.alc [(.int .u32 0), (.string ⟨⟨[]⟩⟩), (.int .u8 0), (.int .u8 0), (.int .u8 0), (.int .u8 0), (.int .u8 0), (.int .u8 0), (.int .u8 0), (.int .u8 0), (.int .u8 0), (.int .u8 0), (.int .u8 0), (.int .u8 0), (.int .u8 0), (.int .u8 0), (.int .u8 0), (.int .u8 0), (.int .u8 0), (.int .u8 0), (.int .u8 0), (.int .u8 0), (.int .u8 0), (.int .u8 0), (.int .u8 0), (.int .u8 0), (.int .u8 0), (.int .u8 0), (.int .u8 0), (.int .u8 0), (.int .u8 0), (.int .u8 0), (.int .u8 0), (.int .u8 0), (.int .u8 0), (.int .u8 0), (.int .u8 0), (.int .u8 0), (.int .u8 0), (.int .u8 0), (.int .u8 0), (.int .u8 0), (.int .u8 0), (.int .u8 0), (.int .u8 0), (.int .u8 0), (.int .u8 0), (.int .u8 0), (.int .u8 0), (.int .u8 0), (.int .u8 0), (.int .u8 0), (.int .u8 0), (.int .u8 0), (.int .u8 0), (.int .u8 0), (.int .u8 0), (.int .u8 0), (.int .u8 0), (.int .u8 0), (.int .u8 0), (.int .u8 0), (.int .u8 0), (.int .u8 0), (.int .u8 0), (.int .u8 0), (.slice none 0 0), (.slice none 0 0)])),
  o p3 (.p (.mv (.c (.int .i64 0))))])
  (.seq (.reg [o p7 (.p (.mv (.t p0))),
  o p8 (.a (.s2b (.t p7))),
  o p9 (.call 213 [(.t p8)]),
  o p4 (.p (.mv (.t p9)))])
  (.seq (.reg [o p10 (.p (.mv (.t p4))),
  o p11 (.call 214 [(.t p10), (.c (.int .i64 1))]),
  o p5 (.p (.mv (.t p11)))])
  (.seq (.reg [o p12 (.p (.mv (.t p4))),
  o p13 (.call 214 [(.t p12), (.c (.int .i64 4))]),
  o p14 (.p (.conv .u32 (.t p13))),
  o p15 (.p (.bld [(.int .u32 0), (.string ⟨⟨[]⟩⟩), (.int .u8 0), (.int .u8 0), (.int .u8 0), (.int .u8 0), (.int .u8 0), (.int .u8 0), (.int .u8 0), (.int .u8 0), (.int .u8 0), (.int .u8 0), (.int .u8 0), (.int .u8 0), (.int .u8 0), (.int .u8 0), (.int .u8 0), (.int .u8 0), (.int .u8 0), (.int .u8 0), (.int .u8 0), (.int .u8 0), (.int .u8 0), (.int .u8 0), (.int .u8 0), (.int .u8 0), (.int .u8 0), (.int .u8 0), (.int .u8 0), (.int .u8 0), (.int .u8 0), (.int .u8 0), (.int .u8 0), (.int .u8 0), (.int .u8 0), (.int .u8 0), (.int .u8 0), (.int .u8 0), (.int .u8 0), (.int .u8 0), (.int .u8 0), (.int .u8 0), (.int .u8 0), (.int .u8 0), (.int .u8 0), (.int .u8 0), (.int .u8 0), (.int .u8 0), (.int .u8 0), (.int .u8 0), (.int .u8 0), (.int .u8 0), (.int .u8 0), (.int .u8 0), (.int .u8 0), (.int .u8 0), (.int .u8 0), (.int .u8 0), (.int .u8 0), (.int .u8 0), (.int .u8 0), (.int .u8 0), (.int .u8 0), (.int .u8 0), (.int .u8 0), (.int .u8 0), (.slice none 0 0), (.slice none 0 0)] [(0, 1, (.t p14))])),
  o p6 (.a (.alc [(.int .u32 0), (.string ⟨⟨[]⟩⟩), (.int .u8 0), (.int .u8 0), (.int .u8 0), (.int .u8 0), (.int .u8 0), (.int .u8 0), (.int .u8 0), (.int .u8 0), (.int .u8 0), (.int .u8 0), (.int .u8 0), (.int .u8 0), (.int .u8 0), (.int .u8 0), (.int .u8 0), (.int .u8 0), (.int .u8 0), (.int .u8 0), (.int .u8 0), (.int .u8 0), (.int .u8 0), (.int .u8 0), (.int .u8 0), (.int .u8 0), (.int .u8 0), (.int .u8 0), (.int .u8 0), (.int .u8 0), (.int .u8 0), (.int .u8 0), (.int .u8 0), (.int .u8 0), (.int .u8 0), (.int .u8 0), (.int .u8 0), (.int .u8 0), (.int .u8 0), (.int .u8 0), (.int .u8 0), (.int .u8 0), (.int .u8 0), (.int .u8 0), (.int .u8 0), (.int .u8 0), (.int .u8 0), (.int .u8 0), (.int .u8 0), (.int .u8 0), (.int .u8 0), (.int .u8 0), (.int .u8 0), (.int .u8 0), (.int .u8 0), (.int .u8 0), (.int .u8 0), (.int .u8 0), (.int .u8 0), (.int .u8 0), (.int .u8 0), (.int .u8 0), (.int .u8 0), (.int .u8 0), (.int .u8 0), (.int .u8 0), (.slice none 0 0), (.slice none 0 0)])),
  n (.w (.st 68 (.t p6) (.t p15)))])
  (.seq (.reg [o p16 (.p (.mv (.t p4))),
  o p17 (.call 217 [(.t p16)]),
  o p18 (.p (.fa 1 (.t p6))),
  n (.w (.st 1 (.t p18) (.t p17)))])
  (.seq (.reg [o p19 (.p (.mv (.t p4))),
  o p20 (.call 218 [(.t p19)]),
  o p21 (.p (.fa 67 (.t p6))),
  n (.w (.st 1 (.t p21) (.t p20)))])
  (.seq (.dreg [o p22 (.p (.fa 2 (.t p6))),
  o p23 (.p (.slA 64 1 (.t p22) none none)),
  o p24 (.p (.mv (.t p4))),
  o p25 (.call 219 [(.t p24), (.c (.int .i64 64))]),
  o p26 (.w (.cpy 1 (.t p23) (.t p25)))] [[], [], [], [], []])
  (.seq (.reg [o p27 (.p (.mv (.t p4))),
  o p28 (.p (.mv (.t p4))),
  o p29 (.call 214 [(.t p28), (.c (.int .i64 1))]),
  o p30 (.p (.conv .i64 (.t p29))),
  o p31 (.call 219 [(.t p27), (.t p30)]),
  o p32 (.p (.fa 66 (.t p6))),
  n (.w (.st 1 (.t p32) (.t p31)))])
  (.seq (.seq (.reg [o p33 (.p (.mv (.t p4))),
  o p34 (.call 215 [(.t p33)]),
  o p35 (.p (.un .not (.t p34))),
  o p36 (.p (.mv (.t p35))),
  g (some p37) p36 false (.p (.mv (.t p5))),
  g (some p38) p36 false (.p (.bin .i .neq (.t p37) (.c (.int .u64 66)))),
  o p39 (.p (.pick (.t p36) (.c (.bool true)) (.t p38))),
  o p40 (.p (.mv (.t p39))),
  g (some p41) p40 false (.r (.ld 68 true (.t p6))),
  g (some p42) p40 false (.call 144 [(.t p41)]),
  g (some p43) p40 false (.p (.un .not (.t p42))),
  o p44 (.p (.pick (.t p40) (.c (.bool true)) (.t p43)))])
  (.cond (.t p44) (.seq (.reg [o p45 (.p (.bld [(.int .u32 0), (.string ⟨⟨[]⟩⟩), (.int .u8 0), (.int .u8 0), (.int .u8 0), (.int .u8 0), (.int .u8 0), (.int .u8 0), (.int .u8 0), (.int .u8 0), (.int .u8 0), (.int .u8 0), (.int .u8 0), (.int .u8 0), (.int .u8 0), (.int .u8 0), (.int .u8 0), (.int .u8 0), (.int .u8 0), (.int .u8 0), (.int .u8 0), (.int .u8 0), (.int .u8 0), (.int .u8 0), (.int .u8 0), (.int .u8 0), (.int .u8 0), (.int .u8 0), (.int .u8 0), (.int .u8 0), (.int .u8 0), (.int .u8 0), (.int .u8 0), (.int .u8 0), (.int .u8 0), (.int .u8 0), (.int .u8 0), (.int .u8 0), (.int .u8 0), (.int .u8 0), (.int .u8 0), (.int .u8 0), (.int .u8 0), (.int .u8 0), (.int .u8 0), (.int .u8 0), (.int .u8 0), (.int .u8 0), (.int .u8 0), (.int .u8 0), (.int .u8 0), (.int .u8 0), (.int .u8 0), (.int .u8 0), (.int .u8 0), (.int .u8 0), (.int .u8 0), (.int .u8 0), (.int .u8 0), (.int .u8 0), (.int .u8 0), (.int .u8 0), (.int .u8 0), (.int .u8 0), (.int .u8 0), (.int .u8 0), (.slice none 0 0), (.slice none 0 0)] [])),
  n (.w (.st 68 (.t p2) (.t p45))),
  o p3 (.p (.mv (.c (.int .i64 3))))])
  (.ret))
  (.skip)))
  (.seq (.reg [o p46 (.r (.ld 68 true (.t p6))),
  n (.w (.st 68 (.t p2) (.t p46))),
  o p3 (.p (.mv (.c (.int .i64 0))))])
  (.ret))))))))))⟩
def c142 : CFunc := ⟨[.cell p2 1 true, .t p3], .seq (.reg [o p2 (.a (.alc [(.slice none 0 0)])),
  o p3 (.p (.mv (.c (.int .i64 0))))])
  (.seq (.reg [o p4 (.a (.alc [(.slice none 0 0)]))])
  (.seq (.reg [o p9 (.p (.mv (.t p0))),
  o p10 (.a (.s2b (.t p9))),
  o p11 (.call 213 [(.t p10)]),
  o p5 (.p (.mv (.t p11)))])
  (.seq (.reg [o p12 (.p (.mv (.t p5))),
  o p13 (.call 214 [(.t p12), (.c (.int .i64 1))]),
  o p6 (.p (.mv (.t p13)))])
  (.seq (.seq (.reg [o p14 (.p (.mv (.t p5))),
  o p15 (.call 214 [(.t p14), (.c (.int .i64 2))]),
  o p7 (.p (.mv (.t p15)))])
  (.block 0 (.loop (.seq (.seq (.reg [o p16 (.p (.mv (.t p7))),
  o p17 (.p (.bin .i .gtr (.t p16) (.c (.int .u64 0)))),
  o p18 (.p (.mv (.t p17))),
  g (some p19) p18 true (.p (.mv (.t p5))),
  g (some p20) p18 true (.call 223 [(.t p19)]),
  g (some p21) p18 true (.p (.un .not (.t p20))),
  o p22 (.p (.pick (.t p18) (.t p21) (.c (.bool false))))])
  (.cond (.t p22) (.skip)
  (.exit 0)))
  (.seq (.block 1 (.seq (.reg [o p25 (.p (.mv (.t p5))),
  o p26 (.call 214 [(.t p25), (.c (.int .i64 4))]),
  o p27 (.p (.conv .u32 (.t p26))),
  o p28 (.p (.bld [(.int .u32 0), (.int .i64 0)] [(0, 1, (.t p27))])),
  o p8 (.a (.alc [(.int .u32 0), (.int .i64 0)])),
  n (.w (.st 2 (.t p8) (.t p28)))])
  (.seq (.reg [o p29 (.p (.mv (.t p5))),
  o p30 (.call 214 [(.t p29), (.c (.int .i64 2))]),
  o p31 (.p (.conv .i64 (.t p30))),
  o p32 (.p (.fa 1 (.t p8))),
  n (.w (.st 1 (.t p32) (.t p31)))])
  (.reg [o p33 (.p (.fa 0 (.t p4))),
  o p34 (.r (.ld 1 false (.t p33))),
  o p35 (.r (.ld 2 true (.t p8))),
  o p36 (.a (.bsl 2 1 [(.int .u32 0), (.int .i64 0)] [(0, 2, (.t p35))])),
  o p37 (.w (.app 2 16 (.t p34) (.t p36))),
  o p38 (.p (.fa 0 (.t p4))),
  n (.w (.st 1 (.t p38) (.t p37)))]))))
  (.reg [o p23 (.p (.mv (.t p7))),
  o p24 (.p (.bin .i .sub (.t p23) (.c (.int .u64 1)))),
  o p7 (.p (.mv (.t p24)))]))))))
  (.seq (.seq (.reg [o p39 (.p (.mv (.t p5))),
  o p40 (.call 215 [(.t p39)]),
  o p41 (.p (.un .not (.t p40))),
  o p42 (.p (.mv (.t p41))),
  g (some p43) p42 false (.p (.mv (.t p6))),
  g (some p44) p42 false (.p (.bin .i .neq (.t p43) (.c (.int .u64 72)))),
  o p45 (.p (.pick (.t p42) (.c (.bool true)) (.t p44))),
  o p46 (.p (.mv (.t p45))),
  g (some p47) p46 false (.r (.ld 1 true (.t p4))),
  g (some p48) p46 false (.call 224 [(.t p47)]),
  g (some p49) p46 false (.p (.un .not (.t p48))),
  o p50 (.p (.pick (.t p46) (.c (.bool true)) (.t p49)))])
  (.cond (.t p50) (.seq (.reg [o p51 (.p (.bld [(.slice none 0 0)] [])),
  n (.w (.st 1 (.t p2) (.t p51))),
  o p3 (.p (.mv (.c (.int .i64 3))))])
  (.ret))
  (.skip)))
  (.seq (.reg [o p52 (.r (.ld 1 true (.t p4))),
  n (.w (.st 1 (.t p2) (.t p52))),
  o p3 (.p (.mv (.c (.int .i64 0))))])
  (.ret)))))))⟩
def c144 : CFunc := ⟨[.t p2], .seq (.reg [o p1 (.a (.box 68 (.t p0))),
  o p2 (.p (.mv (.c (.bool false))))])
  (.seq (.dreg [o p3 (.p (.fa 0 (.t p1))),
  o p4 (.r (.ld 1 false (.t p3))),
  o p6 (.p (.fa 0 (.t p1))),
  o p7 (.r (.ld 1 false (.t p6))),
  o p5 (.call 225 [(.t p4)]),
  o p8 (.p (.bin .i .eql (.t p5) (.t p7))),
  o p9 (.p (.mv (.t p8))),
  g (some p10) p9 true (.p (.fa 1 (.t p1))),
  g (some p11) p9 true (.r (.ld 1 false (.t p10))),
  g (some p12) p9 true (.call 226 [(.t p11)]),
  o p13 (.p (.pick (.t p9) (.t p12) (.c (.bool false)))),
  o p14 (.p (.mv (.t p13))),
  g (some p15) p14 true (.p (.fa 67 (.t p1))),
  g (some p16) p14 true (.r (.ld 1 false (.t p15))),
  g (some p17) p14 true (.p (.lenP false (.t p16))),
  g (some p18) p14 true (.p (.bin .i .leq (.t p17) (.c (.int .i64 64)))),
  o p19 (.p (.pick (.t p14) (.t p18) (.c (.bool false)))),
  o p20 (.p (.mv (.t p19))),
  g (some p21) p20 true (.r (.ld 68 true (.t p1))),
  g (some p22) p20 true (.call 227 [(.t p21)]),
  o p23 (.p (.pick (.t p20) (.t p22) (.c (.bool false)))),
  o p24 (.p (.mv (.t p23))),
  g (some p25) p24 true (.r (.ld 68 true (.t p1))),
  g (some p26) p24 true (.call 228 [(.t p25)]),
  o p27 (.p (.pick (.t p24) (.t p26) (.c (.bool false)))),
  o p2 (.p (.mv (.t p27)))] [[], [], [], [], [3], [], [], [], [], [], [], [], [], [], [], [], [], [], [], [], [], [], [], [], [], []])
  (.ret))⟩
def c145 : CFunc := ⟨[.t p4], .seq (.reg [o p2 (.a (.box 68 (.t p0))),
  o p4 (.p (.mv (.c (.slice none 0 0))))])
  (.seq (.reg [o p5 (.p (.mv (.c (.slice none 0 0))))])
  (.seq (.seq (.reg [o p8 (.p (.fa 2 (.t p2))),
  o p9 (.r (.ld 64 true (.t p8))),
  o p10 (.p (.mv (.c (.int .i64 0))))])
  (.block 0 (.loop (.seq (.reg [o p11 (.p (.bin .i .lss (.t p10) (.c (.int .i64 64))))])
  (.seq (.cond (.t p11) (.skip)
  (.exit 0))
  (.seq (.block 1 (.seq (.reg [o p12 (.p (.mv (.t p10))),
  o p13 (.p (.ixA 64 1 false (.t p9) (.t p10))),
  o p6 (.p (.mv (.t p12))),
  o p7 (.p (.mv (.t p13)))])
  (.seq (.reg [o p14 (.p (.mv (.t p7))),
  o p15 (.p (.bin .i .neq (.t p14) (.c (.int .u8 0)))),
  o p16 (.p (.mv (.t p15))),
  g (some p17) p16 true (.p (.mv (.t p1))),
  g (some p18) p16 true (.p (.fa 67 (.t p2))),
  g (some p19) p16 true (.r (.ld 1 false (.t p18))),
  g (some p20) p16 true (.p (.mv (.t p7))),
  g (some p21) p16 true (.p (.bin .i .sub (.t p20) (.c (.int .u8 1)))),
  g (some p22) p16 true (.p (.iaL 2 (.t p19) (.t p21))),
  g (some p23) p16 true (.r (.ld 2 true (.t p22))),
  g (some p24) p16 true (.callv (.t p17) [(.t p23)]),
  o p25 (.p (.pick (.t p16) (.t p24) (.c (.bool false))))])
  (.cond (.t p25) (.reg [o p26 (.p (.mv (.t p5))),
  o p27 (.p (.fa 0 (.t p2))),
  o p28 (.r (.ld 1 false (.t p27))),
  o p29 (.p (.mv (.t p6))),
  o p30 (.p (.conv .u32 (.t p29))),
  o p31 (.p (.bin .i .add (.t p28) (.t p30))),
  o p32 (.a (.bsl 1 1 [(.int .u32 0)] [(0, 1, (.t p31))])),
  o p33 (.w (.app 1 4 (.t p26) (.t p32))),
  o p5 (.p (.mv (.t p33)))])
  (.skip)))))
  (.reg [o p34 (.p (.bin .i .add (.t p10) (.c (.int .i64 1)))),
  o p10 (.p (.mv (.t p34)))])))))))
  (.seq (.reg [o p35 (.p (.mv (.t p5))),
  o p4 (.p (.mv (.t p35)))])
  (.ret))))⟩
def c147 : CFunc := ⟨[.t p4, .t p5], .seq (.reg [o p2 (.a (.box 68 (.t p0))),
  o p4 (.p (.mv (.c (.int .i64 0)))),
  o p5 (.p (.mv (.c (.bool false))))])
  (.seq (.seq (.dreg [o p6 (.p (.mv (.t p1))),
  o p8 (.p (.fa 0 (.t p2))),
  o p9 (.r (.ld 1 false (.t p8))),
  o p7 (.call 225 [(.t p6)]),
  o p10 (.p (.bin .i .neq (.t p7) (.t p9)))] [[], [], [], [2], []])
  (.cond (.t p10) (.seq (.reg [o p4 (.p (.mv (.c (.int .i64 0)))),
  o p5 (.p (.mv (.c (.bool false))))])
  (.ret))
  (.skip)))
  (.seq (.reg [o p11 (.p (.mv (.t p1))),
  o p12 (.p (.fa 0 (.t p2))),
  o p13 (.r (.ld 1 false (.t p12))),
  o p14 (.p (.bin .i .sub (.t p11) (.t p13))),
  o p15 (.p (.conv .i64 (.t p14))),
  o p4 (.p (.mv (.t p15))),
  o p5 (.p (.mv (.c (.bool true))))])
  (.ret)))⟩
def c149 : CFunc := ⟨[], .seq (.reg [o p8 (.p (.mv (.c (.bool true))))])
  (.seq (.reg [o p9 (.p (.mv (.c (.bool true))))])
  (.block 0 (.loop (.block 1 (.seq (.reg [o p19 (.p (.mv (.t p2))),
  o p20 (.p (.mv (.t p1))),
  o p21 (.p (.bin .i .sub (.t p19) (.t p20))),
  o p10 (.p (.mv (.t p21)))])
  (.seq (.seq (.reg [o p22 (.p (.mv (.t p10))),
  o p23 (.p (.bin .i .leq (.t p22) (.c (.int .i64 12))))])
  (.cond (.t p23) (.seq (.reg [o p24 (.p (.mv (.t p0))),
  o p25 (.p (.mv (.t p1))),
  o p26 (.p (.mv (.t p2))),
  o p27 (.call 229 [(.t p24), (.t p25), (.t p26)])])
  (.ret))
  (.skip)))
  (.seq (.seq (.reg [o p28 (.p (.mv (.t p3))),
  o p29 (.p (.bin .i .eql (.t p28) (.c (.int .i64 0))))])
  (.cond (.t p29) (.seq (.reg [o p30 (.p (.mv (.t p0))),
  o p31 (.p (.mv (.t p1))),
  o p32 (.p (.mv (.t p2))),
  o p33 (.call 230 [(.t p30), (.t p31), (.t p32)])])
  (.ret))
  (.skip)))
  (.seq (.seq (.reg [o p34 (.p (.mv (.t p8))),
  o p35 (.p (.un .not (.t p34)))])
  (.cond (.t p35) (.seq (.reg [o p36 (.p (.mv (.t p0))),
  o p37 (.p (.mv (.t p1))),
  o p38 (.p (.mv (.t p2))),
  o p39 (.call 231 [(.t p36), (.t p37), (.t p38)])])
  (.reg [o p40 (.p (.mv (.t p3))),
  o p41 (.p (.bin .i .sub (.t p40) (.c (.int .i64 1)))),
  o p3 (.p (.mv (.t p41)))]))
  (.skip)))
  (.seq (.reg [o p43 (.p (.mv (.t p0))),
  o p44 (.p (.mv (.t p1))),
  o p45 (.p (.mv (.t p2))),
  o p46 (.call 232 [(.t p43), (.t p44), (.t p45)]),
  o p42 (.p (.mv (.t p46))),
  o p47 (.p (.ext 0 (.t p42))),
  o p48 (.p (.ext 1 (.t p42))),
  o p11 (.p (.mv (.t p47))),
  o p12 (.p (.mv (.t p48)))])
  (.seq (.seq (.reg [o p49 (.p (.mv (.t p12))),
  o p50 (.p (.bin .i .eql (.t p49) (.c (.int .i64 2))))])
  (.cond (.t p50) (.seq (.reg [o p51 (.p (.mv (.t p0))),
  o p52 (.p (.mv (.t p1))),
  o p53 (.p (.mv (.t p2))),
  o p54 (.call 233 [(.t p51), (.t p52), (.t p53)])])
  (.seq (.reg [o p55 (.p (.mv (.t p2))),
  o p56 (.p (.bin .i .sub (.t p55) (.c (.int .i64 1)))),
  o p57 (.p (.mv (.t p11))),
  o p58 (.p (.mv (.t p1))),
  o p59 (.p (.bin .i .sub (.t p57) (.t p58))),
  o p60 (.p (.bin .i .sub (.t p56) (.t p59))),
  o p11 (.p (.mv (.t p60)))])
  (.reg [o p12 (.p (.mv (.c (.int .i64 1))))])))
  (.skip)))
  (.seq (.seq (.reg [o p61 (.p (.mv (.t p8))),
  o p62 (.p (.mv (.t p61))),
  g (some p63) p62 true (.p (.mv (.t p9))),
  o p64 (.p (.pick (.t p62) (.t p63) (.c (.bool false)))),
  o p65 (.p (.mv (.t p64))),
  g (some p66) p65 true (.p (.mv (.t p12))),
  g (some p67) p65 true (.p (.bin .i .eql (.t p66) (.c (.int .i64 1)))),
  o p68 (.p (.pick (.t p65) (.t p67) (.c (.bool false))))])
  (.cond (.t p68) (.seq (.reg [o p69 (.p (.mv (.t p0))),
  o p70 (.p (.mv (.t p1))),
  o p71 (.p (.mv (.t p2))),
  o p72 (.call 234 [(.t p69), (.t p70), (.t p71)])])
  (.cond (.t p72) (.ret)
  (.skip)))
  (.skip)))
  (.seq (.seq (.dreg [o p73 (.p (.mv (.t p1))),
  o p74 (.p (.bin .i .gtr (.t p73) (.c (.int .i64 0)))),
  o p75 (.p (.mv (.t p74))),
  g (some p76) p75 true (.p (.mv (.t p0))),
  g (some p77) p75 true (.p (.mv (.t p1))),
  g (some p78) p75 true (.p (.bin .i .sub (.t p77) (.c (.int .i64 1)))),
  g (some p79) p75 true (.p (.iaL 1 (.t p76) (.t p78))),
  g (some p80) p75 true (.r (.ld 1 false (.t p79))),
  g (some p81) p75 true (.p (.mv (.t p0))),
  g (some p82) p75 true (.p (.mv (.t p11))),
  g (some p83) p75 true (.p (.iaL 1 (.t p81) (.t p82))),
  g (some p84) p75 true (.r (.ld 1 false (.t p83))),
  g (some p85) p75 true (.call 235 [(.t p80), (.t p84)]),
  g (some p86) p75 true (.p (.un .not (.t p85))),
  o p87 (.p (.pick (.t p75) (.t p86) (.c (.bool false))))] [[], [], [], [], [], [], [], [], [], [], [], [], [], [], []])
  (.cond (.t p87) (.seq (.reg [o p88 (.p (.mv (.t p0))),
  o p89 (.p (.mv (.t p1))),
  o p90 (.p (.mv (.t p2))),
  o p91 (.p (.mv (.t p11))),
  o p92 (.call 236 [(.t p88), (.t p89), (.t p90), (.t p91)]),
  o p13 (.p (.mv (.t p92)))])
  (.seq (.reg [o p93 (.p (.mv (.t p13))),
  o p1 (.p (.mv (.t p93)))])
  (.exit 1)))
  (.skip)))
  (.seq (.reg [o p95 (.p (.mv (.t p0))),
  o p96 (.p (.mv (.t p1))),
  o p97 (.p (.mv (.t p2))),
  o p98 (.p (.mv (.t p11))),
  o p99 (.call 237 [(.t p95), (.t p96), (.t p97), (.t p98)]),
  o p94 (.p (.mv (.t p99))),
  o p100 (.p (.ext 0 (.t p94))),
  o p101 (.p (.ext 1 (.t p94))),
  o p14 (.p (.mv (.t p100))),
  o p15 (.p (.mv (.t p101)))])
  (.seq (.reg [o p102 (.p (.mv (.t p15))),
  o p9 (.p (.mv (.t p102)))])
  (.seq (.reg [o p103 (.p (.mv (.t p14))),
  o p104 (.p (.mv (.t p1))),
  o p105 (.p (.bin .i .sub (.t p103) (.t p104))),
  o p106 (.p (.mv (.t p2))),
  o p107 (.p (.mv (.t p14))),
  o p108 (.p (.bin .i .sub (.t p106) (.t p107))),
  o p16 (.p (.mv (.t p105))),
  o p17 (.p (.mv (.t p108)))])
  (.seq (.reg [o p109 (.p (.mv (.t p10))),
  o p110 (.p (.bin .i .quo (.t p109) (.c (.int .i64 8)))),
  o p18 (.p (.mv (.t p110)))])
  (.seq (.reg [o p111 (.p (.mv (.t p16))),
  o p112 (.p (.mv (.t p17))),
  o p113 (.p (.bin .i .lss (.t p111) (.t p112)))])
  (.cond (.t p113) (.seq (.reg [o p114 (.p (.mv (.t p16))),
  o p115 (.p (.mv (.t p18))),
  o p116 (.p (.bin .i .geq (.t p114) (.t p115))),
  o p8 (.p (.mv (.t p116)))])
  (.seq (.reg [o p117 (.p (.mv (.t p0))),
  o p118 (.p (.mv (.t p1))),
  o p119 (.p (.mv (.t p14))),
  o p120 (.p (.mv (.t p3))),
  o p121 (.call 149 [(.t p117), (.t p118), (.t p119), (.t p120)])])
  (.reg [o p122 (.p (.mv (.t p14))),
  o p123 (.p (.bin .i .add (.t p122) (.c (.int .i64 1)))),
  o p1 (.p (.mv (.t p123)))])))
  (.seq (.reg [o p124 (.p (.mv (.t p17))),
  o p125 (.p (.mv (.t p18))),
  o p126 (.p (.bin .i .geq (.t p124) (.t p125))),
  o p8 (.p (.mv (.t p126)))])
  (.seq (.reg [o p127 (.p (.mv (.t p0))),
  o p128 (.p (.mv (.t p14))),
  o p129 (.p (.bin .i .add (.t p128) (.c (.int .i64 1)))),
  o p130 (.p (.mv (.t p2))),
  o p131 (.p (.mv (.t p3))),
  o p132 (.call 149 [(.t p127), (.t p129), (.t p130), (.t p131)])])
  (.reg [o p133 (.p (.mv (.t p14))),
  o p2 (.p (.mv (.t p133)))])))))))))))))))))))))⟩
def c150 : CFunc := ⟨[.t p2], .seq (.reg [o p2 (.p (.mv (.c (.int .i64 0))))])
  (.seq (.cond (.c (.bool false)) (.seq (.reg [o p3 (.p (.mv (.t p0))),
  o p4 (.p (.conv .u32 (.t p3))),
  o p5 (.call 238 [(.t p4)]),
  o p2 (.p (.mv (.t p5)))])
  (.ret))
  (.skip))
  (.seq (.reg [o p6 (.p (.mv (.t p0))),
  o p7 (.call 239 [(.t p6)]),
  o p2 (.p (.mv (.t p7)))])
  (.ret)))⟩
def c151 : CFunc := ⟨[.cell p6 2 true], .seq (.reg [o p3 (.a (.box 2 (.t p0))),
  o p6 (.a (.alc [(.int .i64 0), (.slice none 0 0)]))])
  (.seq (.reg [o p10 (.r (.ld 2 true (.t p3))),
  o p11 (.p (.mv (.t p1))),
  o p12 (.p (.mv (.t p2))),
  o p13 (.p (.bld [(.int .i64 0), (.string ⟨⟨[]⟩⟩), (.string ⟨⟨[]⟩⟩), (.int .i64 0), (.string ⟨⟨[]⟩⟩), (.int .i64 0)] [(0, 1, (.c (.int .i64 3))), (1, 1, (.t p11)), (2, 1, (.t p12))])),
  o p14 (.call 240 [(.t p10), (.t p13)]),
  o p9 (.p (.mv (.t p14))),
  o p15 (.p (.ext 0 (.t p9))),
  o p16 (.p (.ext 1 (.t p9))),
  o p7 (.a (.alc [(.int .i64 0), (.slice none 0 0)])),
  o p8 (.a (.alc [(.int .i64 0), (.int .i64 0), (.string ⟨⟨[]⟩⟩), (.slice none 0 0)])),
  n (.w (.st 2 (.t p7) (.t p15))),
  n (.w (.st 4 (.t p8) (.t p16)))])
  (.seq (.reg [o p17 (.r (.ld 2 true (.t p7))),
  n (.w (.st 2 (.t p6) (.t p17)))])
  (.ret)))⟩
def c152 : CFunc := ⟨[.t p2], .seq (.reg [o p1 (.a (.box 3 (.t p0))),
  o p2 (.p (.mv (.c (.string ⟨⟨[]⟩⟩))))])
  (.seq (.reg [o p3 (.p (.mv (.c (.string ⟨⟨[0]⟩⟩))))])
  (.seq (.seq (.reg [o p4 (.p (.fa 2 (.t p1))),
  o p5 (.r (.ld 1 false (.t p4)))])
  (.cond (.t p5) (.reg [o p3 (.p (.mv (.c (.string ⟨⟨[1]⟩⟩))))])
  (.skip)))
  (.seq (.dreg [o p6 (.p (.fa 0 (.t p1))),
  o p7 (.p (.fa 0 (.t p6))),
  o p8 (.r (.ld 1 false (.t p7))),
  o p9 (.p (.conv .u64 (.t p8))),
  o p13 (.p (.fa 0 (.t p1))),
  o p14 (.p (.fa 1 (.t p13))),
  o p15 (.r (.ld 1 false (.t p14))),
  o p16 (.p (.conv .u8 (.t p15))),
  o p17 (.a (.bsl 1 1 [(.int .u8 0)] [(0, 1, (.t p16))])),
  o p18 (.r (.b2s (.t p17))),
  o p20 (.p (.mv (.t p3))),
  o p10 (.call 241 [(.t p9), (.c (.int .i64 4))]),
  o p11 (.r (.b2s (.t p10))),
  o p12 (.p (.bin .s .add (.c (.string ⟨⟨[80]⟩⟩)) (.t p11))),
  o p19 (.p (.bin .s .add (.t p12) (.t p18))),
  o p21 (.p (.bin .s .add (.t p19) (.t p20))),
  o p2 (.p (.mv (.t p21)))] [[], [], [], [], [], [], [], [], [], [], [], [6, 8, 9], [], [], [], [], []])
  (.ret))))⟩
def c153 : CFunc := ⟨[.t p2], .seq (.reg [o p2 (.p (.mv (.c (.string ⟨⟨[]⟩⟩))))])
  (.seq (.reg [o p3 (.a (.bsl 1 3 [(.string ⟨⟨[]⟩⟩)] [(0, 1, (.c (.string ⟨⟨[110, 49]⟩⟩))), (1, 1, (.c (.string ⟨⟨[110, 50]⟩⟩))), (2, 1, (.c (.string ⟨⟨[110, 51]⟩⟩)))])),
  o p4 (.p (.mv (.t p0))),
  o p5 (.call 85 [(.t p4), (.c (.int .i64 3))]),
  o p6 (.p (.iaL 1 (.t p3) (.t p5))),
  o p7 (.r (.ld 1 false (.t p6))),
  o p2 (.p (.mv (.t p7)))])
  (.ret))⟩
def c154 : CFunc := ⟨[.t p2], .seq (.reg [o p2 (.p (.mv (.c (.string ⟨⟨[]⟩⟩))))])
  (.seq (.seq (.reg [o p3 (.p (.mv (.t p0)))])
  (.cond (.t p3) (.seq (.reg [o p2 (.p (.mv (.c (.string ⟨⟨[78, 1]⟩⟩))))])
  (.ret))
  (.skip)))
  (.seq (.reg [o p2 (.p (.mv (.c (.string ⟨⟨[78, 0]⟩⟩))))])
  (.ret)))⟩
def c155 : CFunc := ⟨[.cell p8 2 true], .seq (.reg [o p4 (.a (.box 2 (.t p0))),
  o p8 (.a (.alc [(.int .i64 0), (.slice none 0 0)]))])
  (.seq (.dreg [o p9 (.r (.ld 2 true (.t p4))),
  o p10 (.p (.mv (.t p1))),
  o p12 (.p (.mv (.t p2))),
  o p15 (.p (.mv (.t p3))),
  o p16 (.p (.conv .u8 (.t p15))),
  o p17 (.a (.bsl 1 1 [(.int .u8 0)] [(0, 1, (.t p16))])),
  o p18 (.r (.b2s (.t p17))),
  o p19 (.p (.bin .s .add (.c (.string ⟨⟨[65]⟩⟩)) (.t p18))),
  o p11 (.call 153 [(.t p10)]),
  o p13 (.call 42 [(.t p12)]),
  o p14 (.call 242 [(.t p11), (.t p13)]),
  o p20 (.call 151 [(.t p9), (.t p14), (.t p19)]),
  n (.w (.st 2 (.t p8) (.t p20)))] [[], [], [], [], [], [], [], [], [0, 5, 6], [0, 5, 6], [0, 5, 6], [], []])
  (.ret))⟩
def c156 : CFunc := ⟨[.cell p4 5 true], .seq (.reg [o p2 (.a (.box 3 (.t p0))),
  o p4 (.a (.alc [(.int .u32 0), (.string ⟨⟨[]⟩⟩), (.slice none 0 0), (.slice none 0 0), (.slice none 0 0)]))])
  (.seq (.reg [o p9 (.p (.fa 1 (.t p2))),
  o p10 (.r (.ld 1 false (.t p9))),
  o p11 (.call 153 [(.t p10)]),
  o p5 (.p (.mv (.t p11)))])
  (.seq (.seq (.reg [o p12 (.p (.fa 0 (.t p2))),
  o p13 (.r (.ld 1 false (.t p12))),
  o p14 (.call 85 [(.t p13), (.c (.int .i64 8))]),
  o p15 (.p (.bin .i .eql (.t p14) (.c (.int .i64 4))))])
  (.cond (.t p15) (.reg [o p5 (.p (.mv (.c (.string ⟨⟨[]⟩⟩))))])
  (.skip)))
  (.seq (.reg [o p16 (.p (.mv (.t p1))),
  o p17 (.call 42 [(.t p16)]),
  o p18 (.p (.mv (.t p5))),
  o p19 (.call 243 [(.t p17), (.t p18)]),
  o p6 (.a (.alc [(.int .u32 0), (.string ⟨⟨[]⟩⟩), (.slice none 0 0), (.slice none 0 0), (.slice none 0 0)])),
  n (.w (.st 5 (.t p6) (.t p19)))])
  (.seq (.seq (.reg [o p20 (.p (.fa 2 (.t p2))),
  o p21 (.r (.ld 1 false (.t p20))),
  o p22 (.p (.lenP false (.t p21))),
  o p23 (.p (.mv (.c (.int .i64 0))))])
  (.block 0 (.loop (.seq (.reg [o p24 (.p (.bin .i .lss (.t p23) (.t p22)))])
  (.seq (.cond (.t p24) (.skip)
  (.exit 0))
  (.seq (.block 1 (.seq (.reg [o p25 (.p (.mv (.t p23))),
  o p26 (.p (.iaL 3 (.t p21) (.t p23))),
  o p27 (.r (.ld 3 true (.t p26))),
  o p8 (.a (.alc [(.int .i64 0), (.int .i64 0), (.int .i64 0)])),
  o p7 (.p (.mv (.t p25))),
  n (.w (.st 3 (.t p8) (.t p27)))])
  (.seq (.reg [o p28 (.p (.mv (.t p7))),
  o p29 (.p (.bin .i .lss (.t p28) (.c (.int .i64 4))))])
  (.cond (.t p29) (.dreg [o p31 (.r (.ld 5 true (.t p6))),
  o p32 (.p (.fa 2 (.t p8))),
  o p33 (.r (.ld 1 false (.t p32))),
  o p35 (.p (.fa 0 (.t p8))),
  o p36 (.r (.ld 1 false (.t p35))),
  o p38 (.p (.fa 1 (.t p8))),
  o p39 (.r (.ld 1 false (.t p38))),
  o p34 (.call 85 [(.t p33), (.c (.int .i64 30))]),
  o p37 (.call 160 [(.t p36)]),
  o p40 (.call 153 [(.t p39)]),
  o p41 (.p (.bld [(.string ⟨⟨[]⟩⟩), (.string ⟨⟨[]⟩⟩)] [(0, 1, (.t p37)), (1, 1, (.t p40))])),
  o p42 (.call 244 [(.t p31), (.t p34), (.t p41)]),
  o p30 (.p (.mv (.t p42))),
  o p43 (.p (.ext 0 (.t p30))),
  o p44 (.p (.ext 1 (.t p30))),
  n (.w (.st 5 (.t p6) (.t p43)))] [[], [], [], [], [], [], [], [0, 4, 6], [0, 6], [0], [], [], [], [], [], []])
  (.skip)))))
  (.reg [o p45 (.p (.bin .i .add (.t p23) (.c (.int .i64 1)))),
  o p23 (.p (.mv (.t p45)))])))))))
  (.seq (.reg [o p46 (.r (.ld 5 true (.t p6))),
  n (.w (.st 5 (.t p4) (.t p46)))])
  (.ret))))))⟩
def c157 : CFunc := ⟨[.t p2], .seq (.reg [o p2 (.p (.mv (.c (.string ⟨⟨[]⟩⟩))))])
  (.seq (.reg [o p3 (.p (.mv (.t p0))),
  o p4 (.call 246 [(.t p3)]),
  o p5 (.p (.bld [(.int .u32 0), (.int .i64 0)] [(0, 1, (.t p4)), (1, 1, (.c (.int .i64 26)))])),
  o p6 (.call 245 [(.t p5)]),
  o p7 (.p (.bin .s .add (.c (.string ⟨⟨[98, 108, 111, 99, 107, 47]⟩⟩)) (.t p6))),
  o p2 (.p (.mv (.t p7)))])
  (.ret))⟩
def c158 : CFunc := ⟨[.t p2], .seq (.reg [o p1 (.a (.box 5 (.t p0))),
  o p2 (.p (.mv (.c (.string ⟨⟨[]⟩⟩))))])
  (.seq (.reg [o p10 (.a (.bsl 1 1 [(.int .u8 0)] [(0, 1, (.c (.int .u8 66)))])),
  o p11 (.w (.mrk (.t p10))),
  o p12 (.p (.fa 0 (.t p1))),
  o p13 (.r (.ld 1 false (.t p12))),
  o p14 (.p (.conv .u64 (.t p13))),
  o p15 (.call 241 [(.t p14), (.c (.int .i64 4))]),
  o p16 (.w (.app 1 1 (.t p11) (.t p15))),
  o p3 (.p (.mv (.t p16)))])
  (.seq (.reg [o p17 (.p (.mv (.t p3))),
  o p18 (.p (.fa 1 (.t p1))),
  o p19 (.r (.ld 1 false (.t p18))),
  o p20 (.call 247 [(.t p19)]),
  o p21 (.w (.app 1 1 (.t p17) (.t p20))),
  o p3 (.p (.mv (.t p21)))])
  (.seq (.reg [o p22 (.p (.mv (.t p3))),
  o p23 (.p (.fa 4 (.t p1))),
  o p24 (.r (.ld 1 false (.t p23))),
  o p25 (.p (.lenP false (.t p24))),
  o p26 (.p (.conv .u8 (.t p25))),
  o p27 (.a (.bsl 1 1 [(.int .u8 0)] [(0, 1, (.t p26))])),
  o p28 (.w (.app 1 1 (.t p22) (.t p27))),
  o p3 (.p (.mv (.t p28)))])
  (.seq (.seq (.reg [o p29 (.p (.fa 4 (.t p1))),
  o p30 (.r (.ld 1 false (.t p29))),
  o p31 (.p (.lenP false (.t p30))),
  o p32 (.p (.mv (.c (.int .i64 0))))])
  (.block 0 (.loop (.seq (.reg [o p33 (.p (.bin .i .lss (.t p32) (.t p31)))])
  (.seq (.cond (.t p33) (.skip)
  (.exit 0))
  (.seq (.block 1 (.seq (.reg [o p34 (.p (.iaL 2 (.t p30) (.t p32))),
  o p35 (.r (.ld 2 true (.t p34))),
  o p5 (.a (.alc [(.string ⟨⟨[]⟩⟩), (.string ⟨⟨[]⟩⟩)])),
  n (.w (.st 2 (.t p5) (.t p35)))])
  (.seq (.reg [o p36 (.p (.mv (.t p3))),
  o p37 (.p (.fa 0 (.t p5))),
  o p38 (.r (.ld 1 false (.t p37))),
  o p39 (.call 247 [(.t p38)]),
  o p40 (.w (.app 1 1 (.t p36) (.t p39))),
  o p3 (.p (.mv (.t p40)))])
  (.reg [o p41 (.p (.mv (.t p3))),
  o p42 (.p (.fa 1 (.t p5))),
  o p43 (.r (.ld 1 false (.t p42))),
  o p44 (.call 247 [(.t p43)]),
  o p45 (.w (.app 1 1 (.t p41) (.t p44))),
  o p3 (.p (.mv (.t p45)))]))))
  (.reg [o p46 (.p (.bin .i .add (.t p32) (.c (.int .i64 1)))),
  o p32 (.p (.mv (.t p46)))])))))))
  (.seq (.seq (.reg [o p47 (.p (.fa 2 (.t p1))),
  o p48 (.r (.ld 1 false (.t p47))),
  o p49 (.p (.lenP false (.t p48))),
  o p50 (.p (.mv (.c (.int .i64 0))))])
  (.block 2 (.loop (.seq (.reg [o p51 (.p (.bin .i .lss (.t p50) (.t p49)))])
  (.seq (.cond (.t p51) (.skip)
  (.exit 2))
  (.seq (.block 3 (.seq (.reg [o p52 (.p (.iaL 1 (.t p48) (.t p50))),
  o p53 (.r (.ld 1 false (.t p52))),
  o p7 (.p (.mv (.t p53)))])
  (.reg [o p54 (.p (.mv (.t p3))),
  o p55 (.p (.mv (.t p7))),
  o p56 (.p (.conv .u8 (.t p55))),
  o p57 (.a (.bsl 1 1 [(.int .u8 0)] [(0, 1, (.t p56))])),
  o p58 (.w (.app 1 1 (.t p54) (.t p57))),
  o p3 (.p (.mv (.t p58)))])))
  (.reg [o p59 (.p (.bin .i .add (.t p50) (.c (.int .i64 1)))),
  o p50 (.p (.mv (.t p59)))])))))))
  (.seq (.reg [o p60 (.p (.mv (.t p3))),
  o p61 (.p (.fa 3 (.t p1))),
  o p62 (.r (.ld 1 false (.t p61))),
  o p63 (.p (.lenP false (.t p62))),
  o p64 (.p (.conv .u8 (.t p63))),
  o p65 (.a (.bsl 1 1 [(.int .u8 0)] [(0, 1, (.t p64))])),
  o p66 (.w (.app 1 1 (.t p60) (.t p65))),
  o p3 (.p (.mv (.t p66)))])
  (.seq (.seq (.reg [o p67 (.p (.fa 3 (.t p1))),
  o p68 (.r (.ld 1 false (.t p67))),
  o p69 (.p (.lenP false (.t p68))),
  o p70 (.p (.mv (.c (.int .i64 0))))])
  (.block 4 (.loop (.seq (.reg [o p71 (.p (.bin .i .lss (.t p70) (.t p69)))])
  (.seq (.cond (.t p71) (.skip)
  (.exit 4))
  (.seq (.block 5 (.seq (.reg [o p72 (.p (.iaL 1 (.t p68) (.t p70))),
  o p73 (.r (.ld 1 false (.t p72))),
  o p9 (.p (.mv (.t p73)))])
  (.reg [o p74 (.p (.mv (.t p3))),
  o p75 (.p (.mv (.t p9))),
  o p76 (.p (.conv .u8 (.t p75))),
  o p77 (.a (.bsl 1 1 [(.int .u8 0)] [(0, 1, (.t p76))])),
  o p78 (.w (.app 1 1 (.t p74) (.t p77))),
  o p3 (.p (.mv (.t p78)))])))
  (.reg [o p79 (.p (.bin .i .add (.t p70) (.c (.int .i64 1)))),
  o p70 (.p (.mv (.t p79)))])))))))
  (.seq (.reg [o p80 (.p (.mv (.t p3))),
  o p81 (.r (.b2s (.t p80))),
  o p2 (.p (.mv (.t p81)))])
  (.ret)))))))))⟩
def c159 : CFunc := ⟨[.t p4], .seq (.reg [o p4 (.p (.mv (.c (.slice none 0 0))))])
  (.seq (.reg [o p5 (.p (.mv (.c (.slice none 0 0))))])
  (.seq (.seq (.reg [o p9 (.p (.mv (.t p0))),
  o p10 (.p (.lenP false (.t p9))),
  o p11 (.p (.mv (.c (.int .i64 0))))])
  (.block 0 (.loop (.seq (.reg [o p12 (.p (.bin .i .lss (.t p11) (.t p10)))])
  (.seq (.cond (.t p12) (.skip)
  (.exit 0))
  (.seq (.block 1 (.seq (.reg [o p13 (.p (.iaL 5 (.t p9) (.t p11))),
  o p14 (.r (.ld 5 true (.t p13))),
  o p7 (.a (.alc [(.int .u32 0), (.string ⟨⟨[]⟩⟩), (.slice none 0 0), (.slice none 0 0), (.slice none 0 0)])),
  n (.w (.st 5 (.t p7) (.t p14)))])
  (.seq (.reg [o p15 (.r (.ld 5 true (.t p7))),
  o p16 (.p (.mv (.t p1))),
  o p17 (.call 248 [(.t p15), (.t p16), (.c (.string ⟨⟨[]⟩⟩))]),
  o p18 (.p (.lenP false (.t p17))),
  o p8 (.p (.mv (.t p18)))])
  (.seq (.reg [o p19 (.p (.mv (.t p8))),
  o p20 (.p (.bin .i .gtr (.t p19) (.c (.int .i64 0))))])
  (.cond (.t p20) (.reg [o p21 (.p (.mv (.t p5))),
  o p22 (.p (.fa 0 (.t p7))),
  o p23 (.r (.ld 1 false (.t p22))),
  o p24 (.p (.mv (.t p8))),
  o p25 (.p (.bld [(.int .u32 0), (.int .i64 0)] [(0, 1, (.t p23)), (1, 1, (.t p24))])),
  o p26 (.a (.bsl 2 1 [(.int .u32 0), (.int .i64 0)] [(0, 2, (.t p25))])),
  o p27 (.w (.app 2 16 (.t p21) (.t p26))),
  o p5 (.p (.mv (.t p27)))])
  (.skip))))))
  (.reg [o p28 (.p (.bin .i .add (.t p11) (.c (.int .i64 1)))),
  o p11 (.p (.mv (.t p28)))])))))))
  (.seq (.reg [o p29 (.p (.mv (.t p5))),
  o p4 (.p (.mv (.t p29)))])
  (.ret))))⟩
def c160 : CFunc := ⟨[.t p2], .seq (.reg [o p2 (.p (.mv (.c (.string ⟨⟨[]⟩⟩))))])
  (.seq (.reg [o p3 (.a (.bsl 1 3 [(.string ⟨⟨[]⟩⟩)] [(0, 1, (.c (.string ⟨⟨[104, 49]⟩⟩))), (1, 1, (.c (.string ⟨⟨[104, 50]⟩⟩))), (2, 1, (.c (.string ⟨⟨[104, 51]⟩⟩)))])),
  o p4 (.p (.mv (.t p0))),
  o p5 (.call 85 [(.t p4), (.c (.int .i64 3))]),
  o p6 (.p (.iaL 1 (.t p3) (.t p5))),
  o p7 (.r (.ld 1 false (.t p6))),
  o p2 (.p (.mv (.t p7)))])
  (.ret))⟩
def c161 : CFunc := ⟨[.t p2], .seq (.reg [o p2 (.p (.mv (.c (.string ⟨⟨[]⟩⟩))))])
  (.seq (.reg [o p6 (.p (.mv (.t p0))),
  o p7 (.p (.lenP false (.t p6))),
  o p8 (.p (.conv .u64 (.t p7))),
  o p9 (.call 241 [(.t p8), (.c (.int .i64 2))]),
  o p10 (.r (.b2s (.t p9))),
  o p11 (.p (.bin .s .add (.c (.string ⟨⟨[72]⟩⟩)) (.t p10))),
  o p3 (.p (.mv (.t p11)))])
  (.seq (.seq (.reg [o p12 (.p (.mv (.t p0))),
  o p13 (.p (.lenP false (.t p12))),
  o p14 (.p (.mv (.c (.int .i64 0))))])
  (.block 0 (.loop (.seq (.reg [o p15 (.p (.bin .i .lss (.t p14) (.t p13)))])
  (.seq (.cond (.t p15) (.skip)
  (.exit 0))
  (.seq (.block 1 (.seq (.reg [o p16 (.p (.iaL 2 (.t p12) (.t p14))),
  o p17 (.r (.ld 2 true (.t p16))),
  o p5 (.a (.alc [(.int .u32 0), (.int .i64 0)])),
  n (.w (.st 2 (.t p5) (.t p17)))])
  (.dreg [o p18 (.p (.mv (.t p3))),
  o p19 (.p (.fa 0 (.t p5))),
  o p20 (.r (.ld 1 false (.t p19))),
  o p21 (.p (.conv .u64 (.t p20))),
  o p25 (.p (.fa 1 (.t p5))),
  o p26 (.r (.ld 1 false (.t p25))),
  o p27 (.p (.conv .u64 (.t p26))),
  o p22 (.call 241 [(.t p21), (.c (.int .i64 4))]),
  o p23 (.r (.b2s (.t p22))),
  o p24 (.p (.bin .s .add (.t p18) (.t p23))),
  o p28 (.call 241 [(.t p27), (.c (.int .i64 2))]),
  o p29 (.r (.b2s (.t p28))),
  o p30 (.p (.bin .s .add (.t p24) (.t p29))),
  o p3 (.p (.mv (.t p30)))] [[], [], [], [], [], [], [], [5], [], [], [8], [], [], []])))
  (.reg [o p31 (.p (.bin .i .add (.t p14) (.c (.int .i64 1)))),
  o p14 (.p (.mv (.t p31)))])))))))
  (.seq (.reg [o p32 (.p (.mv (.t p3))),
  o p2 (.p (.mv (.t p32)))])
  (.ret))))⟩
def c165 : CFunc := ⟨[], .seq (.reg [o p4 (.a (.box 6 (.t p1)))])
  (.seq (.reg [o p6 (.p (.mv (.t p0))),
  o p7 (.p (.bin .p .neq (.t p6) (.c (.pointer none))))])
  (.cond (.t p7) (.reg [o p8 (.p (.mv (.t p0))),
  o p9 (.p (.mv (.t p0))),
  o p10 (.p (.mv (.t p0))),
  o p11 (.r (.ld 6 true (.t p4))),
  o p12 (.p (.mv (.t p2))),
  o p13 (.p (.nck (.t p8))),
  o p14 (.p (.fa 0 (.t p13))),
  n (.w (.st 6 (.t p14) (.t p11))),
  o p15 (.p (.nck (.t p9))),
  o p16 (.p (.fa 6 (.t p15))),
  n (.w (.st 1 (.t p16) (.t p12))),
  o p17 (.p (.nck (.t p10))),
  o p18 (.p (.fa 7 (.t p17))),
  n (.w (.st 1 (.t p18) (.c (.bool true))))])
  (.skip)))⟩
def c170 : CFunc := ⟨[.t p6], .seq (.reg [o p6 (.p (.mv (.c (.slice none 0 0))))])
  (.seq (.reg [o p9 (.p (.mv (.t p0))),
  o p10 (.call 251 [(.t p9)]),
  o p7 (.p (.mv (.t p10)))])
  (.seq (.seq (.reg [o p11 (.p (.mv (.t p2))),
  o p12 (.p (.bin .i .lss (.t p11) (.c (.int .i64 1)))),
  o p13 (.p (.mv (.t p12))),
  g (some p14) p13 false (.p (.mv (.t p2))),
  g (some p15) p13 false (.p (.bin .i .gtr (.t p14) (.c (.int .i64 8)))),
  o p16 (.p (.pick (.t p13) (.c (.bool true)) (.t p15)))])
  (.cond (.t p16) (.seq (.reg [o p17 (.p (.mv (.t p7))),
  o p6 (.p (.mv (.t p17)))])
  (.ret))
  (.skip)))
  (.seq (.seq (.reg [o p18 (.p (.mv (.t p2))),
  o p19 (.p (.bin .i .sub (.t p18) (.c (.int .i64 1)))),
  o p8 (.p (.mv (.t p19)))])
  (.block 0 (.loop (.seq (.seq (.reg [o p20 (.p (.mv (.t p8))),
  o p21 (.p (.bin .i .geq (.t p20) (.c (.int .i64 0))))])
  (.cond (.t p21) (.skip)
  (.exit 0)))
  (.seq (.block 1 (.reg [o p24 (.p (.mv (.t p7))),
  o p25 (.p (.mv (.t p1))),
  o p26 (.p (.mv (.t p8))),
  o p27 (.p (.bin .i .mul (.c (.int .i64 8)) (.t p26))),
  o p28 (.p (.bin .i .shr (.t p25) (.t p27))),
  o p29 (.p (.conv .u8 (.t p28))),
  o p30 (.a (.bsl 1 1 [(.int .u8 0)] [(0, 1, (.t p29))])),
  o p31 (.w (.app 1 1 (.t p24) (.t p30))),
  o p7 (.p (.mv (.t p31)))]))
  (.reg [o p22 (.p (.mv (.t p8))),
  o p23 (.p (.bin .i .sub (.t p22) (.c (.int .i64 1)))),
  o p8 (.p (.mv (.t p23)))]))))))
  (.seq (.reg [o p32 (.p (.mv (.t p7))),
  o p6 (.p (.mv (.t p32)))])
  (.ret)))))⟩
def c175 : CFunc := ⟨[.t p4, .t p5], .seq (.reg [o p4 (.p (.mv (.c (.string ⟨⟨[]⟩⟩)))),
  o p5 (.p (.mv (.c (.int .i64 0))))])
  (.seq (.seq (.reg [o p6 (.p (.mv (.t p1))),
  o p7 (.call 221 [(.t p6)]),
  o p8 (.p (.un .not (.t p7)))])
  (.cond (.t p8) (.seq (.reg [o p4 (.p (.mv (.c (.string ⟨⟨[]⟩⟩)))),
  o p5 (.p (.mv (.c (.int .i64 1))))])
  (.ret))
  (.skip)))
  (.seq (.reg [o p9 (.p (.mv (.t p0))),
  o p10 (.p (.mv (.t p1))),
  o p11 (.p (.bin .s .add (.t p9) (.t p10))),
  o p4 (.p (.mv (.t p11))),
  o p5 (.p (.mv (.c (.int .i64 0))))])
  (.ret)))⟩
def c178 : CFunc := ⟨[.t p0], .seq (.reg [o p0 (.p (.mv (.c (.pointer none))))])
  (.seq (.reg [o p1 (.a (.mkm)),
  o p2 (.p (.bld [(.int .i64 0), (.map none)] [(1, 1, (.t p1))])),
  o p3 (.a (.box 2 (.t p2))),
  o p0 (.p (.mv (.t p3)))])
  (.ret))⟩
def c179 : CFunc := ⟨[.t p2], .seq (.reg [o p2 (.p (.mv (.c (.bool false))))])
  (.seq (.reg [o p3 (.p (.mv (.t p0))),
  o p4 (.p (.bin .s .neq (.t p3) (.c (.string ⟨⟨[]⟩⟩)))),
  o p5 (.p (.mv (.t p4))),
  g (some p6) p5 true (.p (.mv (.t p0))),
  g (some p7) p5 true (.p (.lenP true (.t p6))),
  g (some p8) p5 true (.p (.bin .i .leq (.t p7) (.c (.int .i64 128)))),
  o p9 (.p (.pick (.t p5) (.t p8) (.c (.bool false)))),
  o p2 (.p (.mv (.t p9)))])
  (.ret))⟩
def c180 : CFunc := ⟨[.t p2], .seq (.reg [o p2 (.p (.mv (.c (.bool false))))])
  (.seq (.reg [o p3 (.p (.mv (.t p0))),
  o p4 (.p (.lenP true (.t p3))),
  o p5 (.p (.bin .i .leq (.t p4) (.c (.int .i64 65536)))),
  o p2 (.p (.mv (.t p5)))])
  (.ret))⟩
def c181 : CFunc := ⟨[.cell p4 4 true], .seq (.reg [o p3 (.a (.box 6 (.t p1))),
  o p4 (.a (.alc [(.int .i64 0), (.int .i64 0), (.string ⟨⟨[]⟩⟩), (.slice none 0 0)]))])
  (.seq (.seq (.reg [o p7 (.p (.fa 0 (.t p3))),
  o p8 (.r (.ld 1 false (.t p7))),
  o p9 (.p (.bin .i .eql (.t p8) (.c (.int .i64 2))))])
  (.cond (.t p9) (.seq (.dreg [o p10 (.p (.mv (.t p0))),
  o p11 (.p (.nck (.t p10))),
  o p12 (.p (.fa 0 (.t p11))),
  o p13 (.r (.ld 1 false (.t p12))),
  o p14 (.p (.mv (.t p0))),
  o p15 (.p (.fa 1 (.t p3))),
  o p16 (.r (.ld 1 false (.t p15))),
  o p17 (.call 252 [(.t p14), (.t p16)]),
  o p18 (.p (.bld [(.int .i64 0), (.int .i64 0), (.string ⟨⟨[]⟩⟩), (.slice none 0 0)] [(1, 1, (.t p13)), (3, 1, (.t p17))])),
  n (.w (.st 4 (.t p4) (.t p18)))] [[], [], [], [], [], [], [], [3], [], []])
  (.ret))
  (.skip)))
  (.seq (.dreg [o p20 (.p (.mv (.t p0))),
  o p21 (.p (.nck (.t p20))),
  o p22 (.p (.fa 1 (.t p21))),
  o p23 (.r (.ld 1 false (.t p22))),
  o p24 (.p (.fa 1 (.t p3))),
  o p25 (.r (.ld 1 false (.t p24))),
  o p26 (.r (.look (.agg ⟨[(.string ⟨⟨[]⟩⟩), (.string ⟨⟨[]⟩⟩), (.int .i64 0)]⟩) true (.one 1) (.t p23) (.t p25))),
  o p19 (.p (.mv (.t p26))),
  o p27 (.p (.ext 0 (.t p19))),
  o p28 (.p (.ext 1 (.t p19))),
  o p5 (.a (.alc [(.string ⟨⟨[]⟩⟩), (.string ⟨⟨[]⟩⟩), (.int .i64 0)])),
  n (.w (.st 3 (.t p5) (.t p27))),
  o p6 (.p (.mv (.t p28)))] [[], [], [], [], [], [], [], [], [], [], [], [], []])
  (.seq (.seq (.reg [o p29 (.p (.mv (.t p6))),
  o p30 (.p (.un .not (.t p29)))])
  (.cond (.t p30) (.seq (.reg [o p31 (.p (.bld [(.int .i64 0), (.int .i64 0), (.string ⟨⟨[]⟩⟩), (.slice none 0 0)] [(0, 1, (.c (.int .i64 6)))])),
  n (.w (.st 4 (.t p4) (.t p31)))])
  (.ret))
  (.skip)))
  (.seq (.reg [o p32 (.p (.fa 2 (.t p5))),
  o p33 (.r (.ld 1 false (.t p32))),
  o p34 (.p (.fa 1 (.t p5))),
  o p35 (.r (.ld 1 false (.t p34))),
  o p36 (.p (.bld [(.int .i64 0), (.int .i64 0), (.string ⟨⟨[]⟩⟩), (.slice none 0 0)] [(1, 1, (.t p33)), (2, 1, (.t p35))])),
  n (.w (.st 4 (.t p4) (.t p36)))])
  (.ret)))))⟩
def c182 : CFunc := ⟨[.t p4], .seq (.reg [o p3 (.a (.box 6 (.t p1))),
  o p4 (.p (.mv (.c (.int .i64 0))))])
  (.seq (.dreg [o p10 (.p (.mv (.t p0))),
  o p11 (.p (.nck (.t p10))),
  o p12 (.p (.fa 1 (.t p11))),
  o p13 (.r (.ld 1 false (.t p12))),
  o p14 (.p (.fa 1 (.t p3))),
  o p15 (.r (.ld 1 false (.t p14))),
  o p16 (.r (.look (.agg ⟨[(.string ⟨⟨[]⟩⟩), (.string ⟨⟨[]⟩⟩), (.int .i64 0)]⟩) true (.one 1) (.t p13) (.t p15))),
  o p9 (.p (.mv (.t p16))),
  o p17 (.p (.ext 0 (.t p9))),
  o p18 (.p (.ext 1 (.t p9))),
  o p5 (.a (.alc [(.string ⟨⟨[]⟩⟩), (.string ⟨⟨[]⟩⟩), (.int .i64 0)])),
  n (.w (.st 3 (.t p5) (.t p17))),
  o p6 (.p (.mv (.t p18)))] [[], [], [], [], [], [], [], [], [], [], [], [], []])
  (.seq (.block 0 (.seq (.reg [o p20 (.p (.fa 1 (.t p3))),
  o p21 (.r (.ld 1 false (.t p20))),
  o p22 (.call 179 [(.t p21)]),
  o p23 (.p (.un .not (.t p22))),
  o p24 (.p (.mv (.t p23))),
  g (some p25) p24 false (.p (.fa 0 (.t p3))),
  g (some p26) p24 false (.r (.ld 1 false (.t p25))),
  g (some p27) p24 false (.p (.bin .i .neq (.t p26) (.c (.int .i64 5)))),
  g (some p28) p24 false (.p (.mv (.t p27))),
  g (some p29) p28 true (.p (.fa 2 (.t p3))),
  g (some p30) p28 true (.r (.ld 1 false (.t p29))),
  g (some p31) p28 true (.call 180 [(.t p30)]),
  g (some p32) p28 true (.p (.un .not (.t p31))),
  g (some p33) p24 false (.p (.pick (.t p28) (.t p32) (.c (.bool false)))),
  o p34 (.p (.pick (.t p24) (.c (.bool true)) (.t p33))),
  o p19 (.p (.mv (.t p34)))])
  (.cond (.t p19) (.seq (.reg [o p4 (.p (.mv (.c (.int .i64 1))))])
  (.ret))
  (.seq (.reg [o p36 (.p (.fa 0 (.t p3))),
  o p37 (.r (.ld 1 false (.t p36))),
  o p38 (.p (.bin .i .eql (.t p37) (.c (.int .i64 3)))),
  o p39 (.p (.mv (.t p38))),
  g (some p40) p39 true (.p (.mv (.t p6))),
  o p41 (.p (.pick (.t p39) (.t p40) (.c (.bool false)))),
  o p35 (.p (.mv (.t p41)))])
  (.cond (.t p35) (.seq (.reg [o p4 (.p (.mv (.c (.int .i64 7))))])
  (.ret))
  (.seq (.reg [o p43 (.p (.fa 0 (.t p3))),
  o p44 (.r (.ld 1 false (.t p43))),
  o p45 (.p (.bin .i .neq (.t p44) (.c (.int .i64 3)))),
  o p46 (.p (.mv (.t p45))),
  g (some p47) p46 true (.p (.mv (.t p6))),
  g (some p48) p46 true (.p (.un .not (.t p47))),
  o p49 (.p (.pick (.t p46) (.t p48) (.c (.bool false)))),
  o p42 (.p (.mv (.t p49)))])
  (.cond (.t p42) (.seq (.reg [o p4 (.p (.mv (.c (.int .i64 6))))])
  (.ret))
  (.seq (.reg [o p51 (.p (.fa 0 (.t p3))),
  o p52 (.r (.ld 1 false (.t p51))),
  o p53 (.p (.bin .i .neq (.t p52) (.c (.int .i64 3)))),
  o p54 (.p (.mv (.t p53))),
  g (some p55) p54 true (.p (.fa 2 (.t p5))),
  g (some p56) p54 true (.r (.ld 1 false (.t p55))),
  g (some p57) p54 true (.p (.fa 3 (.t p3))),
  g (some p58) p54 true (.r (.ld 1 false (.t p57))),
  g (some p59) p54 true (.p (.bin .i .neq (.t p56) (.t p58))),
  o p60 (.p (.pick (.t p54) (.t p59) (.c (.bool false)))),
  o p50 (.p (.mv (.t p60)))])
  (.cond (.t p50) (.seq (.reg [o p4 (.p (.mv (.c (.int .i64 8))))])
  (.ret))
  (.skip))))))))))
  (.seq (.seq (.dreg [o p62 (.p (.mv (.t p0))),
  o p63 (.p (.nck (.t p62))),
  o p64 (.p (.fa 1 (.t p63))),
  o p65 (.r (.ld 1 false (.t p64))),
  o p66 (.p (.fa 4 (.t p3))),
  o p67 (.r (.ld 1 false (.t p66))),
  o p68 (.r (.look (.agg ⟨[(.string ⟨⟨[]⟩⟩), (.string ⟨⟨[]⟩⟩), (.int .i64 0)]⟩) true (.one 1) (.t p65) (.t p67))),
  o p61 (.p (.mv (.t p68))),
  o p69 (.p (.ext 0 (.t p61))),
  o p70 (.p (.ext 1 (.t p61))),
  o p7 (.a (.alc [(.string ⟨⟨[]⟩⟩), (.string ⟨⟨[]⟩⟩), (.int .i64 0)])),
  n (.w (.st 3 (.t p7) (.t p69))),
  o p8 (.p (.mv (.t p70)))] [[], [], [], [], [], [], [], [], [], [], [], [], []])
  (.seq (.reg [o p71 (.p (.fa 4 (.t p3))),
  o p72 (.r (.ld 1 false (.t p71))),
  o p73 (.p (.bin .s .neq (.t p72) (.c (.string ⟨⟨[]⟩⟩)))),
  o p74 (.p (.mv (.t p73))),
  g (some p75) p74 true (.p (.mv (.t p8))),
  g (some p76) p74 true (.p (.un .not (.t p75))),
  g (some p77) p74 true (.p (.mv (.t p76))),
  g (some p78) p77 false (.p (.fa 2 (.t p7))),
  g (some p79) p77 false (.r (.ld 1 false (.t p78))),
  g (some p80) p77 false (.p (.fa 5 (.t p3))),
  g (some p81) p77 false (.r (.ld 1 false (.t p80))),
  g (some p82) p77 false (.p (.bin .i .neq (.t p79) (.t p81))),
  g (some p83) p74 true (.p (.pick (.t p77) (.c (.bool true)) (.t p82))),
  o p84 (.p (.pick (.t p74) (.t p83) (.c (.bool false))))])
  (.cond (.t p84) (.seq (.reg [o p4 (.p (.mv (.c (.int .i64 8))))])
  (.ret))
  (.skip))))
  (.seq (.reg [o p4 (.p (.mv (.c (.int .i64 0))))])
  (.ret)))))⟩
def c199 : CFunc := ⟨[.t p2], .seq (.reg [o p2 (.p (.mv (.c (.string ⟨⟨[]⟩⟩))))])
  (.seq (.reg [o p3 (.p (.mv (.t p0))),
  o p4 (.call 264 [(.t p3)]),
  o p5 (.call 250 [(.t p4)]),
  o p6 (.p (.bin .s .add (.c (.string ⟨⟨[98, 108, 111, 99, 107, 47]⟩⟩)) (.t p5))),
  o p2 (.p (.mv (.t p6)))])
  (.ret))⟩
def c202 : CFunc := ⟨[.t p2], .seq (.reg [o p1 (.a (.box 68 (.t p0))),
  o p2 (.p (.mv (.c (.bool false))))])
  (.seq (.reg [o p3 (.r (.ld 68 true (.t p1))),
  o p4 (.call 144 [(.t p3)]),
  o p5 (.p (.mv (.t p4))),
  g (some p6) p5 true (.p (.fa 66 (.t p1))),
  g (some p7) p5 true (.r (.ld 1 false (.t p6))),
  g (some p8) p5 true (.p (.lenP false (.t p7))),
  g (some p9) p5 true (.p (.bin .i .eql (.t p8) (.c (.int .i64 64)))),
  o p10 (.p (.pick (.t p5) (.t p9) (.c (.bool false)))),
  o p2 (.p (.mv (.t p10)))])
  (.ret))⟩
def c206 : CFunc := ⟨[.t p2, .t p3], .seq (.reg [o p2 (.p (.mv (.c (.string ⟨⟨[]⟩⟩)))),
  o p3 (.p (.mv (.c (.int .i64 0))))])
  (.seq (.reg [o p4 (.p (.mv (.t p0))),
  o p5 (.call 175 [(.c (.string ⟨⟨[104, 97, 110, 100, 108, 101, 47]⟩⟩)), (.t p4)]),
  o p6 (.p (.ext 0 (.t p5))),
  o p7 (.p (.ext 1 (.t p5))),
  o p2 (.p (.mv (.t p6))),
  o p3 (.p (.mv (.t p7)))])
  (.ret))⟩
def c209 : CFunc := ⟨[.t p2], .seq (.reg [o p2 (.p (.mv (.c (.slice none 0 0))))])
  (.seq (.seq (.reg [o p3 (.p (.mv (.t p0))),
  o p4 (.p (.bin .l .eql (.t p3) (.c (.slice none 0 0))))])
  (.cond (.t p4) (.seq (.reg [o p2 (.p (.mv (.c (.slice none 0 0))))])
  (.ret))
  (.skip)))
  (.seq (.reg [o p5 (.a (.bsl 1 0 [(.string ⟨⟨[]⟩⟩)] [])),
  o p6 (.p (.mv (.t p0))),
  o p7 (.w (.app 1 16 (.t p5) (.t p6))),
  o p2 (.p (.mv (.t p7)))])
  (.ret)))⟩
def c210 : CFunc := ⟨[], .seq (.seq (.reg [o p2 (.p (.mv (.t p0))),
  o p3 (.p (.nck (.t p2))),
  o p4 (.p (.fa 6 (.t p3))),
  o p5 (.r (.ld 1 false (.t p4))),
  o p6 (.p (.bin .i .eql (.t p5) (.c (.int .i64 0))))])
  (.cond (.t p6) (.seq (.reg [o p7 (.p (.mv (.t p0))),
  o p8 (.call 273 [(.t p7), (.c (.slice none 0 0)), (.c (.int .i64 13))])])
  (.ret))
  (.skip)))
  (.seq (.reg [o p9 (.p (.mv (.t p0))),
  o p10 (.p (.nck (.t p9))),
  o p11 (.p (.fa 6 (.t p10))),
  o p12 (.r (.ld 1 false (.t p11))),
  o p13 (.p (.bin .i .sub (.t p12) (.c (.int .i64 1)))),
  o p14 (.p (.nck (.t p9))),
  o p15 (.p (.fa 6 (.t p14))),
  n (.w (.st 1 (.t p15) (.t p13)))])
  (.dreg [o p16 (.p (.mv (.t p0))),
  o p17 (.p (.nck (.t p16))),
  o p18 (.p (.fa 0 (.t p17))),
  o p19 (.r (.ld 1 false (.t p18))),
  o p20 (.p (.mv (.t p0))),
  o p21 (.p (.nck (.t p20))),
  o p22 (.p (.fa 1 (.t p21))),
  o p23 (.r (.ld 1 false (.t p22))),
  o p26 (.p (.mv (.t p0))),
  o p27 (.p (.mkf 274 [(.t p26)] [])),
  o p24 (.call 199 [(.t p23)]),
  o p25 (.p (.bld [(.int .i64 0), (.string ⟨⟨[]⟩⟩), (.string ⟨⟨[]⟩⟩), (.int .i64 0), (.string ⟨⟨[]⟩⟩), (.int .i64 0)] [(0, 1, (.c (.int .i64 1))), (1, 1, (.t p24))])),
  o p28 (.call 165 [(.t p19), (.t p25), (.t p27)])] [[], [], [], [], [], [], [], [], [], [], [3], [], []]))⟩
def c213 : CFunc := ⟨[.t p2], .seq (.reg [o p2 (.p (.mv (.c (.pointer none))))])
  (.seq (.reg [o p3 (.p (.mv (.t p0))),
  o p4 (.call 251 [(.t p3)]),
  o p5 (.p (.bld [(.slice none 0 0), (.bool false)] [(0, 1, (.t p4))])),
  o p6 (.a (.box 2 (.t p5))),
  o p2 (.p (.mv (.t p6)))])
  (.ret))⟩
def c214 : CFunc := ⟨[.t p4], .seq (.reg [o p4 (.p (.mv (.c (.int .u64 0))))])
  (.seq (.seq (.reg [o p8 (.p (.mv (.t p1))),
  o p9 (.p (.bin .i .lss (.t p8) (.c (.int .i64 1)))),
  o p10 (.p (.mv (.t p9))),
  g (some p11) p10 false (.p (.mv (.t p1))),
  g (some p12) p10 false (.p (.bin .i .gtr (.t p11) (.c (.int .i64 8)))),
  o p13 (.p (.pick (.t p10) (.c (.bool true)) (.t p12)))])
  (.cond (.t p13) (.seq (.reg [o p14 (.p (.mv (.t p0))),
  o p15 (.call 277 [(.t p14)])])
  (.seq (.reg [o p4 (.p (.mv (.c (.int .u64 0))))])
  (.ret)))
  (.skip)))
  (.seq (.reg [o p5 (.p (.mv (.c (.int .u64 0))))])
  (.seq (.seq (.reg [o p16 (.p (.mv (.t p0))),
  o p17 (.p (.mv (.t p1))),
  o p18 (.call 219 [(.t p16), (.t p17)]),
  o p19 (.p (.lenP false (.t p18))),
  o p20 (.p (.mv (.c (.int .i64 0))))])
  (.block 0 (.loop (.seq (.reg [o p21 (.p (.bin .i .lss (.t p20) (.t p19)))])
  (.seq (.cond (.t p21) (.skip)
  (.exit 0))
  (.seq (.block 1 (.seq (.reg [o p22 (.p (.iaL 1 (.t p18) (.t p20))),
  o p23 (.r (.ld 1 false (.t p22))),
  o p7 (.p (.mv (.t p23)))])
  (.reg [o p24 (.p (.mv (.t p5))),
  o p25 (.p (.bin .i .shl (.t p24) (.c (.int .u64 8)))),
  o p26 (.p (.mv (.t p7))),
  o p27 (.p (.conv .u64 (.t p26))),
  o p28 (.p (.bin .i .or (.t p25) (.t p27))),
  o p5 (.p (.mv (.t p28)))])))
  (.reg [o p29 (.p (.bin .i .add (.t p20) (.c (.int .i64 1)))),
  o p20 (.p (.mv (.t p29)))])))))))
  (.seq (.reg [o p30 (.p (.mv (.t p5))),
  o p4 (.p (.mv (.t p30)))])
  (.ret)))))⟩
def c215 : CFunc := ⟨[.t p2], .seq (.reg [o p2 (.p (.mv (.c (.bool false))))])
  (.seq (.reg [o p3 (.p (.mv (.t p0))),
  o p4 (.call 223 [(.t p3)]),
  o p5 (.p (.un .not (.t p4))),
  o p6 (.p (.mv (.t p5))),
  g (some p7) p6 true (.p (.mv (.t p0))),
  g (some p8) p6 true (.p (.nck (.t p7))),
  g (some p9) p6 true (.p (.fa 0 (.t p8))),
  g (some p10) p6 true (.r (.ld 1 false (.t p9))),
  g (some p11) p6 true (.p (.lenP false (.t p10))),
  g (some p12) p6 true (.p (.bin .i .eql (.t p11) (.c (.int .i64 0)))),
  o p13 (.p (.pick (.t p6) (.t p12) (.c (.bool false)))),
  o p2 (.p (.mv (.t p13)))])
  (.ret))⟩
def c217 : CFunc := ⟨[.t p2], .seq (.reg [o p2 (.p (.mv (.c (.string ⟨⟨[]⟩⟩))))])
  (.seq (.reg [o p4 (.p (.mv (.t p0))),
  o p5 (.call 214 [(.t p4), (.c (.int .i64 1))]),
  o p6 (.p (.conv .i64 (.t p5))),
  o p3 (.p (.mv (.t p6)))])
  (.seq (.seq (.reg [o p7 (.p (.mv (.t p3))),
  o p8 (.p (.bin .i .gtr (.t p7) (.c (.int .i64 64))))])
  (.cond (.t p8) (.reg [o p9 (.p (.mv (.t p0))),
  o p10 (.call 277 [(.t p9)])])
  (.skip)))
  (.seq (.reg [o p11 (.p (.mv (.t p0))),
  o p12 (.p (.mv (.t p3))),
  o p13 (.call 219 [(.t p11), (.t p12)]),
  o p14 (.r (.b2s (.t p13))),
  o p2 (.p (.mv (.t p14)))])
  (.ret))))⟩
def c218 : CFunc := ⟨[.t p2], .seq (.reg [o p2 (.p (.mv (.c (.slice none 0 0))))])
  (.seq (.reg [o p3 (.p (.mv (.c (.slice none 0 0))))])
  (.seq (.seq (.reg [o p6 (.p (.mv (.t p0))),
  o p7 (.call 214 [(.t p6), (.c (.int .i64 1))]),
  o p4 (.p (.mv (.t p7)))])
  (.block 0 (.loop (.seq (.seq (.reg [o p8 (.p (.mv (.t p4))),
  o p9 (.p (.bin .i .gtr (.t p8) (.c (.int .u64 0)))),
  o p10 (.p (.mv (.t p9))),
  g (some p11) p10 true (.p (.mv (.t p0))),
  g (some p12) p10 true (.call 223 [(.t p11)]),
  g (some p13) p10 true (.p (.un .not (.t p12))),
  o p14 (.p (.pick (.t p10) (.t p13) (.c (.bool false))))])
  (.cond (.t p14) (.skip)
  (.exit 0)))
  (.seq (.block 1 (.seq (.reg [o p17 (.p (.mv (.t p0))),
  o p18 (.call 217 [(.t p17)]),
  o p19 (.p (.bld [(.string ⟨⟨[]⟩⟩), (.string ⟨⟨[]⟩⟩)] [(0, 1, (.t p18))])),
  o p5 (.a (.alc [(.string ⟨⟨[]⟩⟩), (.string ⟨⟨[]⟩⟩)])),
  n (.w (.st 2 (.t p5) (.t p19)))])
  (.seq (.reg [o p20 (.p (.mv (.t p0))),
  o p21 (.call 217 [(.t p20)]),
  o p22 (.p (.fa 1 (.t p5))),
  n (.w (.st 1 (.t p22) (.t p21)))])
  (.reg [o p23 (.p (.mv (.t p3))),
  o p24 (.r (.ld 2 true (.t p5))),
  o p25 (.a (.bsl 2 1 [(.string ⟨⟨[]⟩⟩), (.string ⟨⟨[]⟩⟩)] [(0, 2, (.t p24))])),
  o p26 (.w (.app 2 32 (.t p23) (.t p25))),
  o p3 (.p (.mv (.t p26)))]))))
  (.reg [o p15 (.p (.mv (.t p4))),
  o p16 (.p (.bin .i .sub (.t p15) (.c (.int .u64 1)))),
  o p4 (.p (.mv (.t p16)))]))))))
  (.seq (.reg [o p27 (.p (.mv (.t p3))),
  o p2 (.p (.mv (.t p27)))])
  (.ret))))⟩
def c219 : CFunc := ⟨[.t p4], .seq (.reg [o p4 (.p (.mv (.c (.slice none 0 0))))])
  (.seq (.seq (.reg [o p6 (.p (.mv (.t p0))),
  o p7 (.call 223 [(.t p6)]),
  o p8 (.p (.mv (.t p7))),
  g (some p9) p8 false (.p (.mv (.t p1))),
  g (some p10) p8 false (.p (.bin .i .lss (.t p9) (.c (.int .i64 0)))),
  o p11 (.p (.pick (.t p8) (.c (.bool true)) (.t p10))),
  o p12 (.p (.mv (.t p11))),
  g (some p13) p12 false (.p (.mv (.t p1))),
  g (some p14) p12 false (.p (.mv (.t p0))),
  g (some p15) p12 false (.p (.nck (.t p14))),
  g (some p16) p12 false (.p (.fa 0 (.t p15))),
  g (some p17) p12 false (.r (.ld 1 false (.t p16))),
  g (some p18) p12 false (.p (.lenP false (.t p17))),
  g (some p19) p12 false (.p (.bin .i .gtr (.t p13) (.t p18))),
  o p20 (.p (.pick (.t p12) (.c (.bool true)) (.t p19)))])
  (.cond (.t p20) (.seq (.reg [o p21 (.p (.mv (.t p0))),
  o p22 (.call 277 [(.t p21)])])
  (.seq (.reg [o p4 (.p (.mv (.c (.slice none 0 0))))])
  (.ret)))
  (.skip)))
  (.seq (.reg [o p23 (.p (.mv (.t p0))),
  o p24 (.p (.nck (.t p23))),
  o p25 (.p (.fa 0 (.t p24))),
  o p26 (.r (.ld 1 false (.t p25))),
  o p27 (.p (.mv (.t p1))),
  o p28 (.p (.mv (.t p1))),
  o p29 (.r (.slL 1 (.t p26) none (some (.t p27)) (some (.t p28)))),
  o p5 (.p (.mv (.t p29)))])
  (.seq (.reg [o p30 (.p (.mv (.t p0))),
  o p31 (.p (.mv (.t p0))),
  o p32 (.p (.nck (.t p31))),
  o p33 (.p (.fa 0 (.t p32))),
  o p34 (.r (.ld 1 false (.t p33))),
  o p35 (.p (.mv (.t p1))),
  o p36 (.r (.slL 1 (.t p34) (some (.t p35)) none none)),
  o p37 (.p (.nck (.t p30))),
  o p38 (.p (.fa 0 (.t p37))),
  n (.w (.st 1 (.t p38) (.t p36)))])
  (.seq (.reg [o p39 (.p (.mv (.t p5))),
  o p4 (.p (.mv (.t p39)))])
  (.ret)))))⟩
def c221 : CFunc := ⟨[.t p2], .seq (.reg [o p2 (.p (.mv (.c (.bool false))))])
  (.seq (.seq (.reg [o p5 (.p (.mv (.t p0))),
  o p6 (.a (.rgS (.t p5)))])
  (.block 0 (.loop (.seq (.reg [o p7 (.w (.nxS (.t p6))),
  o p8 (.p (.ext 0 (.t p7)))])
  (.seq (.cond (.t p8) (.skip)
  (.exit 0))
  (.block 1 (.seq (.reg [o p9 (.p (.ext 2 (.t p7))),
  o p4 (.p (.mv (.t p9)))])
  (.seq (.reg [o p10 (.p (.mv (.t p4))),
  o p11 (.call 279 [(.t p10)]),
  o p12 (.p (.un .not (.t p11)))])
  (.cond (.t p12) (.seq (.reg [o p2 (.p (.mv (.c (.bool false))))])
  (.ret))
  (.skip))))))))))
  (.seq (.reg [o p13 (.p (.mv (.t p0))),
  o p14 (.p (.bin .s .neq (.t p13) (.c (.string ⟨⟨[]⟩⟩)))),
  o p15 (.p (.mv (.t p14))),
  g (some p16) p15 true (.p (.mv (.t p0))),
  g (some p17) p15 true (.p (.lenP true (.t p16))),
  g (some p18) p15 true (.p (.bin .i .leq (.t p17) (.c (.int .i64 64)))),
  o p19 (.p (.pick (.t p15) (.t p18) (.c (.bool false)))),
  o p2 (.p (.mv (.t p19)))])
  (.ret)))⟩
def c223 : CFunc := ⟨[.t p2], .seq (.reg [o p2 (.p (.mv (.c (.bool false))))])
  (.seq (.reg [o p3 (.p (.mv (.t p0))),
  o p4 (.p (.bin .p .eql (.t p3) (.c (.pointer none)))),
  o p5 (.p (.mv (.t p4))),
  g (some p6) p5 false (.p (.mv (.t p0))),
  g (some p7) p5 false (.p (.nck (.t p6))),
  g (some p8) p5 false (.p (.fa 1 (.t p7))),
  g (some p9) p5 false (.r (.ld 1 false (.t p8))),
  o p10 (.p (.pick (.t p5) (.c (.bool true)) (.t p9))),
  o p2 (.p (.mv (.t p10)))])
  (.ret))⟩
def c224 : CFunc := ⟨[.t p2], .seq (.reg [o p1 (.a (.box 1 (.t p0))),
  o p2 (.p (.mv (.c (.bool false))))])
  (.seq (.seq (.reg [o p5 (.p (.fa 0 (.t p1))),
  o p6 (.r (.ld 1 false (.t p5))),
  o p7 (.p (.lenP false (.t p6))),
  o p8 (.p (.mv (.c (.int .i64 0))))])
  (.block 0 (.loop (.seq (.reg [o p9 (.p (.bin .i .lss (.t p8) (.t p7)))])
  (.seq (.cond (.t p9) (.skip)
  (.exit 0))
  (.seq (.block 1 (.seq (.reg [o p10 (.p (.mv (.t p8))),
  o p11 (.p (.iaL 2 (.t p6) (.t p8))),
  o p12 (.r (.ld 2 true (.t p11))),
  o p4 (.a (.alc [(.int .u32 0), (.int .i64 0)])),
  o p3 (.p (.mv (.t p10))),
  n (.w (.st 2 (.t p4) (.t p12)))])
  (.seq (.dreg [o p13 (.p (.fa 0 (.t p4))),
  o p14 (.r (.ld 1 false (.t p13))),
  o p16 (.p (.fa 0 (.t p4))),
  o p17 (.r (.ld 1 false (.t p16))),
  o p15 (.call 280 [(.t p14)]),
  o p18 (.p (.bin .i .neq (.t p15) (.t p17))),
  o p19 (.p (.mv (.t p18))),
  g (some p20) p19 false (.p (.fa 1 (.t p4))),
  g (some p21) p19 false (.r (.ld 1 false (.t p20))),
  g (some p22) p19 false (.p (.bin .i .lss (.t p21) (.c (.int .i64 1)))),
  o p23 (.p (.pick (.t p19) (.c (.bool true)) (.t p22))),
  o p24 (.p (.mv (.t p23))),
  g (some p25) p24 false (.p (.fa 1 (.t p4))),
  g (some p26) p24 false (.r (.ld 1 false (.t p25))),
  g (some p27) p24 false (.p (.bin .i .gtr (.t p26) (.c (.int .i64 65535)))),
  o p28 (.p (.pick (.t p24) (.c (.bool true)) (.t p27))),
  o p29 (.p (.mv (.t p28))),
  g (some p30) p29 false (.p (.mv (.t p3))),
  g (some p31) p29 false (.p (.bin .i .gtr (.t p30) (.c (.int .i64 0)))),
  g (some p32) p29 false (.p (.mv (.t p31))),
  g (some p33) p32 true (.p (.fa 0 (.t p1))),
  g (some p34) p32 true (.r (.ld 1 false (.t p33))),
  g (some p35) p32 true (.p (.mv (.t p3))),
  g (some p36) p32 true (.p (.bin .i .sub (.t p35) (.c (.int .i64 1)))),
  g (some p37) p32 true (.p (.iaL 2 (.t p34) (.t p36))),
  g (some p38) p32 true (.p (.fa 0 (.t p37))),
  g (some p39) p32 true (.r (.ld 1 false (.t p38))),
  g (some p40) p32 true (.p (.fa 0 (.t p4))),
  g (some p41) p32 true (.r (.ld 1 false (.t p40))),
  g (some p42) p32 true (.p (.bin .i .geq (.t p39) (.t p41))),
  g (some p43) p29 false (.p (.pick (.t p32) (.t p42) (.c (.bool false)))),
  o p44 (.p (.pick (.t p29) (.c (.bool true)) (.t p43)))] [[], [], [], [], [3], [], [], [], [], [], [], [], [], [], [], [], [], [], [], [], [], [], [], [], [], [], [], [], [], [], [], []])
  (.cond (.t p44) (.seq (.reg [o p2 (.p (.mv (.c (.bool false))))])
  (.ret))
  (.skip)))))
  (.reg [o p45 (.p (.bin .i .add (.t p8) (.c (.int .i64 1)))),
  o p8 (.p (.mv (.t p45)))])))))))
  (.seq (.reg [o p46 (.p (.fa 0 (.t p1))),
  o p47 (.r (.ld 1 false (.t p46))),
  o p48 (.p (.lenP false (.t p47))),
  o p49 (.p (.bin .i .leq (.t p48) (.c (.int .i64 4096)))),
  o p2 (.p (.mv (.t p49)))])
  (.ret)))⟩
def c225 : CFunc := ⟨[.t p2], .seq (.reg [o p2 (.p (.mv (.c (.int .u32 0))))])
  (.seq (.reg [o p3 (.p (.mv (.t p0))),
  o p4 (.call 129 [(.c (.int .i64 26))]),
  o p5 (.p (.bin .i .and (.t p3) (.t p4))),
  o p2 (.p (.mv (.t p5)))])
  (.ret))⟩
def c226 : CFunc := ⟨[.t p2], .seq (.reg [o p2 (.p (.mv (.c (.bool false))))])
  (.seq (.reg [o p3 (.p (.mv (.t p0))),
  o p4 (.p (.bin .s .eql (.t p3) (.c (.string ⟨⟨[]⟩⟩)))),
  o p5 (.p (.mv (.t p4))),
  g (some p6) p5 false (.p (.mv (.t p0))),
  g (some p7) p5 false (.call 221 [(.t p6)]),
  o p8 (.p (.pick (.t p5) (.c (.bool true)) (.t p7))),
  o p2 (.p (.mv (.t p8)))])
  (.ret))⟩
def c227 : CFunc := ⟨[.t p2], .seq (.reg [o p1 (.a (.box 68 (.t p0))),
  o p2 (.p (.mv (.c (.bool false))))])
  (.seq (.reg [o p9 (.a (.mkm)),
  o p3 (.p (.mv (.t p9)))])
  (.seq (.reg [o p4 (.p (.mv (.c (.int .u64 0))))])
  (.seq (.seq (.reg [o p10 (.p (.fa 2 (.t p1))),
  o p11 (.r (.ld 64 true (.t p10))),
  o p12 (.p (.mv (.c (.int .i64 0))))])
  (.block 0 (.loop (.seq (.reg [o p13 (.p (.bin .i .lss (.t p12) (.c (.int .i64 64))))])
  (.seq (.cond (.t p13) (.skip)
  (.exit 0))
  (.seq (.block 1 (.seq (.reg [o p14 (.p (.ixA 64 1 false (.t p11) (.t p12))),
  o p6 (.p (.mv (.t p14)))])
  (.seq (.seq (.reg [o p15 (.p (.mv (.t p6))),
  o p16 (.p (.conv .i64 (.t p15))),
  o p17 (.p (.fa 67 (.t p1))),
  o p18 (.r (.ld 1 false (.t p17))),
  o p19 (.p (.lenP false (.t p18))),
  o p20 (.p (.bin .i .gtr (.t p16) (.t p19)))])
  (.cond (.t p20) (.seq (.reg [o p2 (.p (.mv (.c (.bool false))))])
  (.ret))
  (.skip)))
  (.reg [o p21 (.p (.mv (.t p4))),
  o p22 (.p (.mv (.t p6))),
  o p23 (.p (.conv .i64 (.t p22))),
  o p24 (.p (.bin .i .sub (.t p23) (.c (.int .i64 1)))),
  o p25 (.call 281 [(.t p21), (.t p24)]),
  o p4 (.p (.mv (.t p25)))]))))
  (.reg [o p26 (.p (.bin .i .add (.t p12) (.c (.int .i64 1)))),
  o p12 (.p (.mv (.t p26)))])))))))
  (.seq (.seq (.reg [o p27 (.p (.fa 67 (.t p1))),
  o p28 (.r (.ld 1 false (.t p27))),
  o p29 (.p (.lenP false (.t p28))),
  o p30 (.p (.mv (.c (.int .i64 0))))])
  (.block 2 (.loop (.seq (.reg [o p31 (.p (.bin .i .lss (.t p30) (.t p29)))])
  (.seq (.cond (.t p31) (.skip)
  (.exit 2))
  (.seq (.block 3 (.seq (.reg [o p32 (.p (.iaL 2 (.t p28) (.t p30))),
  o p33 (.r (.ld 2 true (.t p32))),
  o p8 (.a (.alc [(.string ⟨⟨[]⟩⟩), (.string ⟨⟨[]⟩⟩)])),
  n (.w (.st 2 (.t p8) (.t p33)))])
  (.seq (.dreg [o p34 (.p (.mv (.t p3))),
  o p35 (.r (.ld 2 true (.t p8))),
  o p36 (.r (.look (.int .i64 0) false (.str [1, 1]) (.t p34) (.t p35))),
  o p37 (.p (.bin .i .add (.t p36) (.c (.int .i64 1)))),
  o p38 (.w (.men (.int .i64 0) (.str [1, 1]) (.t p34) (.t p35))),
  o p39 (.p (.ext 1 (.t p38))),
  n (.w (.est (.t p34) (.t p39) (.t p37)))] [[], [], [], [], [2], [], []])
  (.seq (.reg [o p40 (.r (.ld 2 true (.t p8))),
  o p41 (.call 282 [(.t p40)]),
  o p42 (.p (.un .not (.t p41))),
  o p43 (.p (.mv (.t p42))),
  g (some p44) p43 false (.p (.mv (.t p3))),
  g (some p45) p43 false (.r (.ld 2 true (.t p8))),
  g (some p46) p43 false (.r (.look (.int .i64 0) false (.str [1, 1]) (.t p44) (.t p45))),
  g (some p47) p43 false (.p (.bin .i .gtr (.t p46) (.c (.int .i64 1)))),
  o p48 (.p (.pick (.t p43) (.c (.bool true)) (.t p47)))])
  (.cond (.t p48) (.seq (.reg [o p2 (.p (.mv (.c (.bool false))))])
  (.ret))
  (.skip))))))
  (.reg [o p49 (.p (.bin .i .add (.t p30) (.c (.int .i64 1)))),
  o p30 (.p (.mv (.t p49)))])))))))
  (.seq (.dreg [o p50 (.p (.mv (.t p4))),
  o p52 (.p (.fa 67 (.t p1))),
  o p53 (.r (.ld 1 false (.t p52))),
  o p54 (.p (.lenP false (.t p53))),
  o p51 (.call 283 [(.t p50)]),
  o p55 (.p (.bin .i .eql (.t p51) (.t p54))),
  o p2 (.p (.mv (.t p55)))] [[], [], [], [], [2], [], []])
  (.ret))))))⟩
def c228 : CFunc := ⟨[.t p2], .seq (.reg [o p1 (.a (.box 68 (.t p0))),
  o p2 (.p (.mv (.c (.bool false))))])
  (.seq (.reg [o p3 (.p (.mv (.c (.int .u64 0))))])
  (.seq (.seq (.reg [o p9 (.p (.fa 66 (.t p1))),
  o p10 (.r (.ld 1 false (.t p9))),
  o p11 (.p (.lenP false (.t p10))),
  o p12 (.p (.mv (.c (.int .i64 0))))])
  (.block 0 (.loop (.seq (.reg [o p13 (.p (.bin .i .lss (.t p12) (.t p11)))])
  (.seq (.cond (.t p13) (.skip)
  (.exit 0))
  (.seq (.block 1 (.seq (.reg [o p14 (.p (.iaL 1 (.t p10) (.t p12))),
  o p15 (.r (.ld 1 false (.t p14))),
  o p5 (.p (.mv (.t p15)))])
  (.seq (.seq (.reg [o p16 (.p (.mv (.t p5))),
  o p17 (.p (.conv .i64 (.t p16))),
  o p18 (.p (.bin .i .geq (.t p17) (.c (.int .i64 64)))),
  o p19 (.p (.mv (.t p18))),
  g (some p20) p19 false (.p (.mv (.t p3))),
  g (some p21) p19 false (.p (.mv (.t p5))),
  g (some p22) p19 false (.p (.conv .i64 (.t p21))),
  g (some p23) p19 false (.call 284 [(.t p20), (.t p22)]),
  o p24 (.p (.pick (.t p19) (.c (.bool true)) (.t p23))),
  o p25 (.p (.mv (.t p24))),
  g (some p26) p25 false (.p (.mv (.t p5))),
  g (some p27) p25 false (.p (.fa 2 (.t p1))),
  g (some p28) p25 false (.p (.iaA 64 1 (.t p27) (.t p26))),
  g (some p29) p25 false (.r (.ld 1 false (.t p28))),
  g (some p30) p25 false (.p (.bin .i .neq (.t p29) (.c (.int .u8 0)))),
  o p31 (.p (.pick (.t p25) (.c (.bool true)) (.t p30)))])
  (.cond (.t p31) (.seq (.reg [o p2 (.p (.mv (.c (.bool false))))])
  (.ret))
  (.skip)))
  (.reg [o p32 (.p (.mv (.t p3))),
  o p33 (.p (.mv (.t p5))),
  o p34 (.p (.conv .i64 (.t p33))),
  o p35 (.call 281 [(.t p32), (.t p34)]),
  o p3 (.p (.mv (.t p35)))]))))
  (.reg [o p36 (.p (.bin .i .add (.t p12) (.c (.int .i64 1)))),
  o p12 (.p (.mv (.t p36)))])))))))
  (.seq (.reg [o p6 (.p (.mv (.c (.int .i64 0))))])
  (.seq (.seq (.reg [o p37 (.p (.fa 2 (.t p1))),
  o p38 (.r (.ld 64 true (.t p37))),
  o p39 (.p (.mv (.c (.int .i64 0))))])
  (.block 2 (.loop (.seq (.reg [o p40 (.p (.bin .i .lss (.t p39) (.c (.int .i64 64))))])
  (.seq (.cond (.t p40) (.skip)
  (.exit 2))
  (.seq (.block 3 (.seq (.reg [o p41 (.p (.ixA 64 1 false (.t p38) (.t p39))),
  o p8 (.p (.mv (.t p41)))])
  (.seq (.reg [o p42 (.p (.mv (.t p8))),
  o p43 (.p (.bin .i .eql (.t p42) (.c (.int .u8 0))))])
  (.cond (.t p43) (.reg [o p44 (.p (.mv (.t p6))),
  o p45 (.p (.bin .i .add (.t p44) (.c (.int .i64 1)))),
  o p6 (.p (.mv (.t p45)))])
  (.skip)))))
  (.reg [o p46 (.p (.bin .i .add (.t p39) (.c (.int .i64 1)))),
  o p39 (.p (.mv (.t p46)))])))))))
  (.seq (.reg [o p47 (.p (.mv (.t p6))),
  o p48 (.p (.fa 66 (.t p1))),
  o p49 (.r (.ld 1 false (.t p48))),
  o p50 (.p (.lenP false (.t p49))),
  o p51 (.p (.bin .i .eql (.t p47) (.t p50))),
  o p2 (.p (.mv (.t p51)))])
  (.ret))))))⟩
def c229 : CFunc := ⟨[], .seq (.reg [o p8 (.p (.mv (.t p1))),
  o p9 (.p (.bin .i .add (.t p8) (.c (.int .i64 1)))),
  o p6 (.p (.mv (.t p9)))])
  (.block 0 (.loop (.seq (.seq (.reg [o p10 (.p (.mv (.t p6))),
  o p11 (.p (.mv (.t p2))),
  o p12 (.p (.bin .i .lss (.t p10) (.t p11)))])
  (.cond (.t p12) (.skip)
  (.exit 0)))
  (.seq (.block 1 (.seq (.reg [o p15 (.p (.mv (.t p6))),
  o p7 (.p (.mv (.t p15)))])
  (.block 2 (.loop (.seq (.seq (.dreg [o p16 (.p (.mv (.t p7))),
  o p17 (.p (.mv (.t p1))),
  o p18 (.p (.bin .i .gtr (.t p16) (.t p17))),
  o p19 (.p (.mv (.t p18))),
  g (some p20) p19 true (.p (.mv (.t p0))),
  g (some p21) p19 true (.p (.mv (.t p7))),
  g (some p22) p19 true (.p (.iaL 1 (.t p20) (.t p21))),
  g (some p23) p19 true (.r (.ld 1 false (.t p22))),
  g (some p24) p19 true (.p (.mv (.t p0))),
  g (some p25) p19 true (.p (.mv (.t p7))),
  g (some p26) p19 true (.p (.bin .i .sub (.t p25) (.c (.int .i64 1)))),
  g (some p27) p19 true (.p (.iaL 1 (.t p24) (.t p26))),
  g (some p28) p19 true (.r (.ld 1 false (.t p27))),
  g (some p29) p19 true (.call 235 [(.t p23), (.t p28)]),
  o p30 (.p (.pick (.t p19) (.t p29) (.c (.bool false))))] [[], [], [], [], [], [], [], [], [], [], [], [], [], [], []])
  (.cond (.t p30) (.skip)
  (.exit 2)))
  (.seq (.block 3 (.dreg [o p33 (.p (.mv (.t p0))),
  o p34 (.p (.mv (.t p7))),
  o p35 (.p (.mv (.t p0))),
  o p36 (.p (.mv (.t p7))),
  o p37 (.p (.bin .i .sub (.t p36) (.c (.int .i64 1)))),
  o p38 (.p (.mv (.t p0))),
  o p39 (.p (.mv (.t p7))),
  o p40 (.p (.bin .i .sub (.t p39) (.c (.int .i64 1)))),
  o p41 (.p (.iaL 1 (.t p38) (.t p40))),
  o p42 (.r (.ld 1 false (.t p41))),
  o p43 (.p (.mv (.t p0))),
  o p44 (.p (.mv (.t p7))),
  o p45 (.p (.iaL 1 (.t p43) (.t p44))),
  o p46 (.r (.ld 1 false (.t p45))),
  o p47 (.p (.iaL 1 (.t p33) (.t p34))),
  n (.w (.st 1 (.t p47) (.t p42))),
  o p48 (.p (.iaL 1 (.t p35) (.t p37))),
  n (.w (.st 1 (.t p48) (.t p46)))] [[], [], [], [], [], [], [], [], [], [], [], [], [], [], [], [], [], []]))
  (.reg [o p31 (.p (.mv (.t p7))),
  o p32 (.p (.bin .i .sub (.t p31) (.c (.int .i64 1)))),
  o p7 (.p (.mv (.t p32)))])))))))
  (.reg [o p13 (.p (.mv (.t p6))),
  o p14 (.p (.bin .i .add (.t p13) (.c (.int .i64 1)))),
  o p6 (.p (.mv (.t p14)))])))))⟩
def c230 : CFunc := ⟨[], .seq (.reg [o p11 (.p (.mv (.t p1))),
  o p6 (.p (.mv (.t p11)))])
  (.seq (.reg [o p7 (.p (.mv (.c (.int .i64 0))))])
  (.seq (.reg [o p12 (.p (.mv (.t p2))),
  o p13 (.p (.mv (.t p1))),
  o p14 (.p (.bin .i .sub (.t p12) (.t p13))),
  o p8 (.p (.mv (.t p14)))])
  (.seq (.seq (.reg [o p15 (.p (.mv (.t p8))),
  o p16 (.p (.bin .i .sub (.t p15) (.c (.int .i64 1)))),
  o p17 (.p (.bin .i .quo (.t p16) (.c (.int .i64 2)))),
  o p9 (.p (.mv (.t p17)))])
  (.block 0 (.loop (.seq (.seq (.reg [o p18 (.p (.mv (.t p9))),
  o p19 (.p (.bin .i .geq (.t p18) (.c (.int .i64 0))))])
  (.cond (.t p19) (.skip)
  (.exit 0)))
  (.seq (.block 1 (.reg [o p22 (.p (.mv (.t p0))),
  o p23 (.p (.mv (.t p9))),
  o p24 (.p (.mv (.t p8))),
  o p25 (.p (.mv (.t p6))),
  o p26 (.call 285 [(.t p22), (.t p23), (.t p24), (.t p25)])]))
  (.reg [o p20 (.p (.mv (.t p9))),
  o p21 (.p (.bin .i .sub (.t p20) (.c (.int .i64 1)))),
  o p9 (.p (.mv (.t p21)))]))))))
  (.seq (.reg [o p27 (.p (.mv (.t p8))),
  o p28 (.p (.bin .i .sub (.t p27) (.c (.int .i64 1)))),
  o p10 (.p (.mv (.t p28)))])
  (.block 2 (.loop (.seq (.seq (.reg [o p29 (.p (.mv (.t p10))),
  o p30 (.p (.bin .i .geq (.t p29) (.c (.int .i64 0))))])
  (.cond (.t p30) (.skip)
  (.exit 2)))
  (.seq (.block 3 (.seq (.dreg [o p33 (.p (.mv (.t p0))),
  o p34 (.p (.mv (.t p6))),
  o p35 (.p (.mv (.t p0))),
  o p36 (.p (.mv (.t p6))),
  o p37 (.p (.mv (.t p10))),
  o p38 (.p (.bin .i .add (.t p36) (.t p37))),
  o p39 (.p (.mv (.t p0))),
  o p40 (.p (.mv (.t p6))),
  o p41 (.p (.mv (.t p10))),
  o p42 (.p (.bin .i .add (.t p40) (.t p41))),
  o p43 (.p (.iaL 1 (.t p39) (.t p42))),
  o p44 (.r (.ld 1 false (.t p43))),
  o p45 (.p (.mv (.t p0))),
  o p46 (.p (.mv (.t p6))),
  o p47 (.p (.iaL 1 (.t p45) (.t p46))),
  o p48 (.r (.ld 1 false (.t p47))),
  o p49 (.p (.iaL 1 (.t p33) (.t p34))),
  n (.w (.st 1 (.t p49) (.t p44))),
  o p50 (.p (.iaL 1 (.t p35) (.t p38))),
  n (.w (.st 1 (.t p50) (.t p48)))] [[], [], [], [], [], [], [], [], [], [], [], [], [], [], [], [], [], [], [], []])
  (.reg [o p51 (.p (.mv (.t p0))),
  o p52 (.p (.mv (.t p7))),
  o p53 (.p (.mv (.t p10))),
  o p54 (.p (.mv (.t p6))),
  o p55 (.call 285 [(.t p51), (.t p52), (.t p53), (.t p54)])])))
  (.reg [o p31 (.p (.mv (.t p10))),
  o p32 (.p (.bin .i .sub (.t p31) (.c (.int .i64 1)))),
  o p10 (.p (.mv (.t p32)))])))))))))⟩
def c231 : CFunc := ⟨[], .seq (.reg [o p11 (.p (.mv (.t p2))),
  o p12 (.p (.mv (.t p1))),
  o p13 (.p (.bin .i .sub (.t p11) (.t p12))),
  o p6 (.p (.mv (.t p13)))])
  (.seq (.reg [o p14 (.p (.mv (.t p6))),
  o p15 (.p (.bin .i .geq (.t p14) (.c (.int .i64 8))))])
  (.cond (.t p15) (.seq (.reg [o p16 (.p (.mv (.t p6))),
  o p17 (.p (.conv .u64 (.t p16))),
  o p7 (.a (.alc [(.int .u64 0)])),
  n (.w (.st 1 (.t p7) (.t p17)))])
  (.seq (.reg [o p18 (.p (.mv (.t p6))),
  o p19 (.call 286 [(.t p18)]),
  o p8 (.p (.mv (.t p19)))])
  (.seq (.reg [o p20 (.p (.mv (.t p1))),
  o p21 (.p (.mv (.t p6))),
  o p22 (.p (.bin .i .quo (.t p21) (.c (.int .i64 4)))),
  o p23 (.p (.bin .i .mul (.t p22) (.c (.int .i64 2)))),
  o p24 (.p (.bin .i .add (.t p20) (.t p23))),
  o p25 (.p (.bin .i .sub (.t p24) (.c (.int .i64 1)))),
  o p9 (.p (.mv (.t p25)))])
  (.block 0 (.loop (.seq (.seq (.reg [o p26 (.p (.mv (.t p9))),
  o p27 (.p (.mv (.t p1))),
  o p28 (.p (.mv (.t p6))),
  o p29 (.p (.bin .i .quo (.t p28) (.c (.int .i64 4)))),
  o p30 (.p (.bin .i .mul (.t p29) (.c (.int .i64 2)))),
  o p31 (.p (.bin .i .add (.t p27) (.t p30))),
  o p32 (.p (.bin .i .add (.t p31) (.c (.int .i64 1)))),
  o p33 (.p (.bin .i .leq (.t p26) (.t p32)))])
  (.cond (.t p33) (.skip)
  (.exit 0)))
  (.seq (.block 1 (.seq (.reg [o p36 (.call 287 [(.t p7)]),
  o p37 (.p (.mv (.t p8))),
  o p38 (.p (.bin .i .sub (.t p37) (.c (.int .u64 1)))),
  o p39 (.p (.bin .i .and (.t p36) (.t p38))),
  o p40 (.p (.conv .i64 (.t p39))),
  o p10 (.p (.mv (.t p40)))])
  (.seq (.seq (.reg [o p41 (.p (.mv (.t p10))),
  o p42 (.p (.mv (.t p6))),
  o p43 (.p (.bin .i .geq (.t p41) (.t p42)))])
  (.cond (.t p43) (.reg [o p44 (.p (.mv (.t p10))),
  o p45 (.p (.mv (.t p6))),
  o p46 (.p (.bin .i .sub (.t p44) (.t p45))),
  o p10 (.p (.mv (.t p46)))])
  (.skip)))
  (.dreg [o p47 (.p (.mv (.t p0))),
  o p48 (.p (.mv (.t p9))),
  o p49 (.p (.mv (.t p0))),
  o p50 (.p (.mv (.t p1))),
  o p51 (.p (.mv (.t p10))),
  o p52 (.p (.bin .i .add (.t p50) (.t p51))),
  o p53 (.p (.mv (.t p0))),
  o p54 (.p (.mv (.t p1))),
  o p55 (.p (.mv (.t p10))),
  o p56 (.p (.bin .i .add (.t p54) (.t p55))),
  o p57 (.p (.iaL 1 (.t p53) (.t p56))),
  o p58 (.r (.ld 1 false (.t p57))),
  o p59 (.p (.mv (.t p0))),
  o p60 (.p (.mv (.t p9))),
  o p61 (.p (.iaL 1 (.t p59) (.t p60))),
  o p62 (.r (.ld 1 false (.t p61))),
  o p63 (.p (.iaL 1 (.t p47) (.t p48))),
  n (.w (.st 1 (.t p63) (.t p58))),
  o p64 (.p (.iaL 1 (.t p49) (.t p52))),
  n (.w (.st 1 (.t p64) (.t p62)))] [[], [], [], [], [], [], [], [], [], [], [], [], [], [], [], [], [], [], [], []]))))
  (.reg [o p34 (.p (.mv (.t p9))),
  o p35 (.p (.bin .i .add (.t p34) (.c (.int .i64 1)))),
  o p9 (.p (.mv (.t p35)))]))))))))
  (.skip)))⟩
def c232 : CFunc := ⟨[.t p6, .t p7], .seq (.reg [o p6 (.p (.mv (.c (.int .i64 0)))),
  o p7 (.p (.mv (.c (.int .i64 0))))])
  (.seq (.reg [o p13 (.p (.mv (.t p2))),
  o p14 (.p (.mv (.t p1))),
  o p15 (.p (.bin .i .sub (.t p13) (.t p14))),
  o p8 (.p (.mv (.t p15)))])
  (.seq (.reg [o p9 (.a (.alc [(.int .i64 0)]))])
  (.seq (.reg [o p16 (.p (.mv (.t p1))),
  o p17 (.p (.mv (.t p8))),
  o p18 (.p (.bin .i .quo (.t p17) (.c (.int .i64 4)))),
  o p19 (.p (.bin .i .mul (.t p18) (.c (.int .i64 1)))),
  o p20 (.p (.bin .i .add (.t p16) (.t p19))),
  o p10 (.p (.mv (.t p20)))])
  (.seq (.reg [o p21 (.p (.mv (.t p1))),
  o p22 (.p (.mv (.t p8))),
  o p23 (.p (.bin .i .quo (.t p22) (.c (.int .i64 4)))),
  o p24 (.p (.bin .i .mul (.t p23) (.c (.int .i64 2)))),
  o p25 (.p (.bin .i .add (.t p21) (.t p24))),
  o p11 (.p (.mv (.t p25)))])
  (.seq (.reg [o p26 (.p (.mv (.t p1))),
  o p27 (.p (.mv (.t p8))),
  o p28 (.p (.bin .i .quo (.t p27) (.c (.int .i64 4)))),
  o p29 (.p (.bin .i .mul (.t p28) (.c (.int .i64 3)))),
  o p30 (.p (.bin .i .add (.t p26) (.t p29))),
  o p12 (.p (.mv (.t p30)))])
  (.seq (.seq (.reg [o p31 (.p (.mv (.t p8))),
  o p32 (.p (.bin .i .geq (.t p31) (.c (.int .i64 8))))])
  (.cond (.t p32) (.seq (.seq (.reg [o p33 (.p (.mv (.t p8))),
  o p34 (.p (.bin .i .geq (.t p33) (.c (.int .i64 50))))])
  (.cond (.t p34) (.seq (.reg [o p35 (.p (.mv (.t p0))),
  o p36 (.p (.mv (.t p10))),
  o p37 (.call 288 [(.t p35), (.t p36), (.t p9)]),
  o p10 (.p (.mv (.t p37)))])
  (.seq (.reg [o p38 (.p (.mv (.t p0))),
  o p39 (.p (.mv (.t p11))),
  o p40 (.call 288 [(.t p38), (.t p39), (.t p9)]),
  o p11 (.p (.mv (.t p40)))])
  (.reg [o p41 (.p (.mv (.t p0))),
  o p42 (.p (.mv (.t p12))),
  o p43 (.call 288 [(.t p41), (.t p42), (.t p9)]),
  o p12 (.p (.mv (.t p43)))])))
  (.skip)))
  (.reg [o p44 (.p (.mv (.t p0))),
  o p45 (.p (.mv (.t p10))),
  o p46 (.p (.mv (.t p11))),
  o p47 (.p (.mv (.t p12))),
  o p48 (.call 289 [(.t p44), (.t p45), (.t p46), (.t p47), (.t p9)]),
  o p11 (.p (.mv (.t p48)))]))
  (.skip)))
  (.seq (.reg [o p49 (.r (.ld 1 false (.t p9)))])
  (.block 0 (.seq (.reg [o p52 (.p (.bin .i .eql (.t p49) (.c (.int .i64 0)))),
  o p51 (.p (.mv (.t p52)))])
  (.cond (.t p51) (.seq (.reg [o p53 (.p (.mv (.t p11))),
  o p6 (.p (.mv (.t p53))),
  o p7 (.p (.mv (.c (.int .i64 1))))])
  (.ret))
  (.seq (.reg [o p55 (.p (.bin .i .eql (.t p49) (.c (.int .i64 12)))),
  o p54 (.p (.mv (.t p55)))])
  (.cond (.t p54) (.seq (.reg [o p56 (.p (.mv (.t p11))),
  o p6 (.p (.mv (.t p56))),
  o p7 (.p (.mv (.c (.int .i64 2))))])
  (.ret))
  (.seq (.reg [o p50 (.p (.mv (.t p11))),
  o p6 (.p (.mv (.t p50))),
  o p7 (.p (.mv (.c (.int .i64 0))))])
  (.ret))))))))))))))⟩
def c233 : CFunc := ⟨[], .seq (.reg [o p8 (.p (.mv (.t p1))),
  o p6 (.p (.mv (.t p8)))])
  (.seq (.reg [o p9 (.p (.mv (.t p2))),
  o p10 (.p (.bin .i .sub (.t p9) (.c (.int .i64 1)))),
  o p7 (.p (.mv (.t p10)))])
  (.block 0 (.loop (.seq (.seq (.reg [o p11 (.p (.mv (.t p6))),
  o p12 (.p (.mv (.t p7))),
  o p13 (.p (.bin .i .lss (.t p11) (.t p12)))])
  (.cond (.t p13) (.skip)
  (.exit 0)))
  (.block 1 (.seq (.dreg [o p14 (.p (.mv (.t p0))),
  o p15 (.p (.mv (.t p6))),
  o p16 (.p (.mv (.t p0))),
  o p17 (.p (.mv (.t p7))),
  o p18 (.p (.mv (.t p0))),
  o p19 (.p (.mv (.t p7))),
  o p20 (.p (.iaL 1 (.t p18) (.t p19))),
  o p21 (.r (.ld 1 false (.t p20))),
  o p22 (.p (.mv (.t p0))),
  o p23 (.p (.mv (.t p6))),
  o p24 (.p (.iaL 1 (.t p22) (.t p23))),
  o p25 (.r (.ld 1 false (.t p24))),
  o p26 (.p (.iaL 1 (.t p14) (.t p15))),
  n (.w (.st 1 (.t p26) (.t p21))),
  o p27 (.p (.iaL 1 (.t p16) (.t p17))),
  n (.w (.st 1 (.t p27) (.t p25)))] [[], [], [], [], [], [], [], [], [], [], [], [], [], [], [], []])
  (.seq (.reg [o p28 (.p (.mv (.t p6))),
  o p29 (.p (.bin .i .add (.t p28) (.c (.int .i64 1)))),
  o p6 (.p (.mv (.t p29)))])
  (.reg [o p30 (.p (.mv (.t p7))),
  o p31 (.p (.bin .i .sub (.t p30) (.c (.int .i64 1)))),
  o p7 (.p (.mv (.t p31)))]))))))))⟩
def c234 : CFunc := ⟨[.t p6], .seq (.reg [o p6 (.p (.mv (.c (.bool false))))])
  (.seq (.reg [o p11 (.p (.mv (.t p1))),
  o p12 (.p (.bin .i .add (.t p11) (.c (.int .i64 1)))),
  o p7 (.p (.mv (.t p12)))])
  (.seq (.seq (.reg [o p8 (.p (.mv (.c (.int .i64 0))))])
  (.block 0 (.loop (.seq (.seq (.reg [o p13 (.p (.mv (.t p8))),
  o p14 (.p (.bin .i .lss (.t p13) (.c (.int .i64 5))))])
  (.cond (.t p14) (.skip)
  (.exit 0)))
  (.seq (.block 1 (.seq (.block 2 (.loop (.seq (.seq (.dreg [o p17 (.p (.mv (.t p7))),
  o p18 (.p (.mv (.t p2))),
  o p19 (.p (.bin .i .lss (.t p17) (.t p18))),
  o p20 (.p (.mv (.t p19))),
  g (some p21) p20 true (.p (.mv (.t p0))),
  g (some p22) p20 true (.p (.mv (.t p7))),
  g (some p23) p20 true (.p (.iaL 1 (.t p21) (.t p22))),
  g (some p24) p20 true (.r (.ld 1 false (.t p23))),
  g (some p25) p20 true (.p (.mv (.t p0))),
  g (some p26) p20 true (.p (.mv (.t p7))),
  g (some p27) p20 true (.p (.bin .i .sub (.t p26) (.c (.int .i64 1)))),
  g (some p28) p20 true (.p (.iaL 1 (.t p25) (.t p27))),
  g (some p29) p20 true (.r (.ld 1 false (.t p28))),
  g (some p30) p20 true (.call 235 [(.t p24), (.t p29)]),
  g (some p31) p20 true (.p (.un .not (.t p30))),
  o p32 (.p (.pick (.t p20) (.t p31) (.c (.bool false))))] [[], [], [], [], [], [], [], [], [], [], [], [], [], [], [], []])
  (.cond (.t p32) (.skip)
  (.exit 2)))
  (.block 3 (.reg [o p33 (.p (.mv (.t p7))),
  o p34 (.p (.bin .i .add (.t p33) (.c (.int .i64 1)))),
  o p7 (.p (.mv (.t p34)))])))))
  (.seq (.seq (.reg [o p35 (.p (.mv (.t p7))),
  o p36 (.p (.mv (.t p2))),
  o p37 (.p (.bin .i .eql (.t p35) (.t p36)))])
  (.cond (.t p37) (.seq (.reg [o p6 (.p (.mv (.c (.bool true))))])
  (.ret))
  (.skip)))
  (.seq (.seq (.reg [o p38 (.p (.mv (.t p2))),
  o p39 (.p (.mv (.t p1))),
  o p40 (.p (.bin .i .sub (.t p38) (.t p39))),
  o p41 (.p (.bin .i .lss (.t p40) (.c (.int .i64 50))))])
  (.cond (.t p41) (.seq (.reg [o p6 (.p (.mv (.c (.bool false))))])
  (.ret))
  (.skip)))
  (.seq (.dreg [o p42 (.p (.mv (.t p0))),
  o p43 (.p (.mv (.t p7))),
  o p44 (.p (.mv (.t p0))),
  o p45 (.p (.mv (.t p7))),
  o p46 (.p (.bin .i .sub (.t p45) (.c (.int .i64 1)))),
  o p47 (.p (.mv (.t p0))),
  o p48 (.p (.mv (.t p7))),
  o p49 (.p (.bin .i .sub (.t p48) (.c (.int .i64 1)))),
  o p50 (.p (.iaL 1 (.t p47) (.t p49))),
  o p51 (.r (.ld 1 false (.t p50))),
  o p52 (.p (.mv (.t p0))),
  o p53 (.p (.mv (.t p7))),
  o p54 (.p (.iaL 1 (.t p52) (.t p53))),
  o p55 (.r (.ld 1 false (.t p54))),
  o p56 (.p (.iaL 1 (.t p42) (.t p43))),
  n (.w (.st 1 (.t p56) (.t p51))),
  o p57 (.p (.iaL 1 (.t p44) (.t p46))),
  n (.w (.st 1 (.t p57) (.t p55)))] [[], [], [], [], [], [], [], [], [], [], [], [], [], [], [], [], [], []])
  (.seq (.seq (.reg [o p58 (.p (.mv (.t p7))),
  o p59 (.p (.mv (.t p1))),
  o p60 (.p (.bin .i .sub (.t p58) (.t p59))),
  o p61 (.p (.bin .i .geq (.t p60) (.c (.int .i64 2))))])
  (.cond (.t p61) (.seq (.reg [o p62 (.p (.mv (.t p7))),
  o p63 (.p (.bin .i .sub (.t p62) (.c (.int .i64 1)))),
  o p9 (.p (.mv (.t p63)))])
  (.block 4 (.loop (.seq (.seq (.reg [o p64 (.p (.mv (.t p9))),
  o p65 (.p (.bin .i .geq (.t p64) (.c (.int .i64 1))))])
  (.cond (.t p65) (.skip)
  (.exit 4)))
  (.seq (.block 5 (.seq (.seq (.dreg [o p68 (.p (.mv (.t p0))),
  o p69 (.p (.mv (.t p9))),
  o p70 (.p (.iaL 1 (.t p68) (.t p69))),
  o p71 (.r (.ld 1 false (.t p70))),
  o p72 (.p (.mv (.t p0))),
  o p73 (.p (.mv (.t p9))),
  o p74 (.p (.bin .i .sub (.t p73) (.c (.int .i64 1)))),
  o p75 (.p (.iaL 1 (.t p72) (.t p74))),
  o p76 (.r (.ld 1 false (.t p75))),
  o p77 (.call 235 [(.t p71), (.t p76)]),
  o p78 (.p (.un .not (.t p77)))] [[], [], [], [], [], [], [], [], [], [], []])
  (.cond (.t p78) (.exit 4)
  (.skip)))
  (.dreg [o p79 (.p (.mv (.t p0))),
  o p80 (.p (.mv (.t p9))),
  o p81 (.p (.mv (.t p0))),
  o p82 (.p (.mv (.t p9))),
  o p83 (.p (.bin .i .sub (.t p82) (.c (.int .i64 1)))),
  o p84 (.p (.mv (.t p0))),
  o p85 (.p (.mv (.t p9))),
  o p86 (.p (.bin .i .sub (.t p85) (.c (.int .i64 1)))),
  o p87 (.p (.iaL 1 (.t p84) (.t p86))),
  o p88 (.r (.ld 1 false (.t p87))),
  o p89 (.p (.mv (.t p0))),
  o p90 (.p (.mv (.t p9))),
  o p91 (.p (.iaL 1 (.t p89) (.t p90))),
  o p92 (.r (.ld 1 false (.t p91))),
  o p93 (.p (.iaL 1 (.t p79) (.t p80))),
  n (.w (.st 1 (.t p93) (.t p88))),
  o p94 (.p (.iaL 1 (.t p81) (.t p83))),
  n (.w (.st 1 (.t p94) (.t p92)))] [[], [], [], [], [], [], [], [], [], [], [], [], [], [], [], [], [], []])))
  (.reg [o p66 (.p (.mv (.t p9))),
  o p67 (.p (.bin .i .sub (.t p66) (.c (.int .i64 1)))),
  o p9 (.p (.mv (.t p67)))]))))))
  (.skip)))
  (.seq (.reg [o p95 (.p (.mv (.t p2))),
  o p96 (.p (.mv (.t p7))),
  o p97 (.p (.bin .i .sub (.t p95) (.t p96))),
  o p98 (.p (.bin .i .geq (.t p97) (.c (.int .i64 2))))])
  (.cond (.t p98) (.seq (.reg [o p99 (.p (.mv (.t p7))),
  o p100 (.p (.bin .i .add (.t p99) (.c (.int .i64 1)))),
  o p10 (.p (.mv (.t p100)))])
  (.block 6 (.loop (.seq (.seq (.reg [o p101 (.p (.mv (.t p10))),
  o p102 (.p (.mv (.t p2))),
  o p103 (.p (.bin .i .lss (.t p101) (.t p102)))])
  (.cond (.t p103) (.skip)
  (.exit 6)))
  (.seq (.block 7 (.seq (.seq (.dreg [o p106 (.p (.mv (.t p0))),
  o p107 (.p (.mv (.t p10))),
  o p108 (.p (.iaL 1 (.t p106) (.t p107))),
  o p109 (.r (.ld 1 false (.t p108))),
  o p110 (.p (.mv (.t p0))),
  o p111 (.p (.mv (.t p10))),
  o p112 (.p (.bin .i .sub (.t p111) (.c (.int .i64 1)))),
  o p113 (.p (.iaL 1 (.t p110) (.t p112))),
  o p114 (.r (.ld 1 false (.t p113))),
  o p115 (.call 235 [(.t p109), (.t p114)]),
  o p116 (.p (.un .not (.t p115)))] [[], [], [], [], [], [], [], [], [], [], []])
  (.cond (.t p116) (.exit 6)
  (.skip)))
  (.dreg [o p117 (.p (.mv (.t p0))),
  o p118 (.p (.mv (.t p10))),
  o p119 (.p (.mv (.t p0))),
  o p120 (.p (.mv (.t p10))),
  o p121 (.p (.bin .i .sub (.t p120) (.c (.int .i64 1)))),
  o p122 (.p (.mv (.t p0))),
  o p123 (.p (.mv (.t p10))),
  o p124 (.p (.bin .i .sub (.t p123) (.c (.int .i64 1)))),
  o p125 (.p (.iaL 1 (.t p122) (.t p124))),
  o p126 (.r (.ld 1 false (.t p125))),
  o p127 (.p (.mv (.t p0))),
  o p128 (.p (.mv (.t p10))),
  o p129 (.p (.iaL 1 (.t p127) (.t p128))),
  o p130 (.r (.ld 1 false (.t p129))),
  o p131 (.p (.iaL 1 (.t p117) (.t p118))),
  n (.w (.st 1 (.t p131) (.t p126))),
  o p132 (.p (.iaL 1 (.t p119) (.t p121))),
  n (.w (.st 1 (.t p132) (.t p130)))] [[], [], [], [], [], [], [], [], [], [], [], [], [], [], [], [], [], []])))
  (.reg [o p104 (.p (.mv (.t p10))),
  o p105 (.p (.bin .i .add (.t p104) (.c (.int .i64 1)))),
  o p10 (.p (.mv (.t p105)))]))))))
  (.skip)))))))))
  (.reg [o p15 (.p (.mv (.t p8))),
  o p16 (.p (.bin .i .add (.t p15) (.c (.int .i64 1)))),
  o p8 (.p (.mv (.t p16)))]))))))
  (.seq (.reg [o p6 (.p (.mv (.c (.bool false))))])
  (.ret))))⟩
def c235 : CFunc := ⟨[.t p4], .seq (.reg [o p4 (.p (.mv (.c (.bool false))))])
  (.seq (.reg [o p5 (.p (.mv (.t p0))),
  o p6 (.call 290 [(.t p5)]),
  o p7 (.p (.mv (.t p6))),
  g (some p8) p7 true (.p (.mv (.t p1))),
  g (some p9) p7 true (.call 290 [(.t p8)]),
  g (some p10) p7 true (.p (.un .not (.t p9))),
  o p11 (.p (.pick (.t p7) (.t p10) (.c (.bool false)))),
  o p12 (.p (.mv (.t p11))),
  g (some p13) p12 false (.p (.mv (.t p0))),
  g (some p14) p12 false (.p (.mv (.t p1))),
  g (some p15) p12 false (.p (.bin .i .lss (.t p13) (.t p14))),
  o p16 (.p (.pick (.t p12) (.c (.bool true)) (.t p15))),
  o p4 (.p (.mv (.t p16)))])
  (.ret))⟩
def c236 : CFunc := ⟨[.t p8], .seq (.reg [o p8 (.p (.mv (.c (.int .i64 0))))])
  (.seq (.dreg [o p11 (.p (.mv (.t p0))),
  o p12 (.p (.mv (.t p1))),
  o p13 (.p (.mv (.t p0))),
  o p14 (.p (.mv (.t p3))),
  o p15 (.p (.mv (.t p0))),
  o p16 (.p (.mv (.t p3))),
  o p17 (.p (.iaL 1 (.t p15) (.t p16))),
  o p18 (.r (.ld 1 false (.t p17))),
  o p19 (.p (.mv (.t p0))),
  o p20 (.p (.mv (.t p1))),
  o p21 (.p (.iaL 1 (.t p19) (.t p20))),
  o p22 (.r (.ld 1 false (.t p21))),
  o p23 (.p (.iaL 1 (.t p11) (.t p12))),
  n (.w (.st 1 (.t p23) (.t p18))),
  o p24 (.p (.iaL 1 (.t p13) (.t p14))),
  n (.w (.st 1 (.t p24) (.t p22)))] [[], [], [], [], [], [], [], [], [], [], [], [], [], [], [], []])
  (.seq (.reg [o p25 (.p (.mv (.t p1))),
  o p26 (.p (.bin .i .add (.t p25) (.c (.int .i64 1)))),
  o p27 (.p (.mv (.t p2))),
  o p28 (.p (.bin .i .sub (.t p27) (.c (.int .i64 1)))),
  o p9 (.p (.mv (.t p26))),
  o p10 (.p (.mv (.t p28)))])
  (.seq (.block 0 (.loop (.block 1 (.seq (.block 2 (.loop (.seq (.seq (.dreg [o p29 (.p (.mv (.t p9))),
  o p30 (.p (.mv (.t p10))),
  o p31 (.p (.bin .i .leq (.t p29) (.t p30))),
  o p32 (.p (.mv (.t p31))),
  g (some p33) p32 true (.p (.mv (.t p0))),
  g (some p34) p32 true (.p (.mv (.t p1))),
  g (some p35) p32 true (.p (.iaL 1 (.t p33) (.t p34))),
  g (some p36) p32 true (.r (.ld 1 false (.t p35))),
  g (some p37) p32 true (.p (.mv (.t p0))),
  g (some p38) p32 true (.p (.mv (.t p9))),
  g (some p39) p32 true (.p (.iaL 1 (.t p37) (.t p38))),
  g (some p40) p32 true (.r (.ld 1 false (.t p39))),
  g (some p41) p32 true (.call 235 [(.t p36), (.t p40)]),
  g (some p42) p32 true (.p (.un .not (.t p41))),
  o p43 (.p (.pick (.t p32) (.t p42) (.c (.bool false))))] [[], [], [], [], [], [], [], [], [], [], [], [], [], [], []])
  (.cond (.t p43) (.skip)
  (.exit 2)))
  (.block 3 (.reg [o p44 (.p (.mv (.t p9))),
  o p45 (.p (.bin .i .add (.t p44) (.c (.int .i64 1)))),
  o p9 (.p (.mv (.t p45)))])))))
  (.seq (.block 4 (.loop (.seq (.seq (.dreg [o p46 (.p (.mv (.t p9))),
  o p47 (.p (.mv (.t p10))),
  o p48 (.p (.bin .i .leq (.t p46) (.t p47))),
  o p49 (.p (.mv (.t p48))),
  g (some p50) p49 true (.p (.mv (.t p0))),
  g (some p51) p49 true (.p (.mv (.t p1))),
  g (some p52) p49 true (.p (.iaL 1 (.t p50) (.t p51))),
  g (some p53) p49 true (.r (.ld 1 false (.t p52))),
  g (some p54) p49 true (.p (.mv (.t p0))),
  g (some p55) p49 true (.p (.mv (.t p10))),
  g (some p56) p49 true (.p (.iaL 1 (.t p54) (.t p55))),
  g (some p57) p49 true (.r (.ld 1 false (.t p56))),
  g (some p58) p49 true (.call 235 [(.t p53), (.t p57)]),
  o p59 (.p (.pick (.t p49) (.t p58) (.c (.bool false))))] [[], [], [], [], [], [], [], [], [], [], [], [], [], []])
  (.cond (.t p59) (.skip)
  (.exit 4)))
  (.block 5 (.reg [o p60 (.p (.mv (.t p10))),
  o p61 (.p (.bin .i .sub (.t p60) (.c (.int .i64 1)))),
  o p10 (.p (.mv (.t p61)))])))))
  (.seq (.seq (.reg [o p62 (.p (.mv (.t p9))),
  o p63 (.p (.mv (.t p10))),
  o p64 (.p (.bin .i .gtr (.t p62) (.t p63)))])
  (.cond (.t p64) (.exit 0)
  (.skip)))
  (.seq (.dreg [o p65 (.p (.mv (.t p0))),
  o p66 (.p (.mv (.t p9))),
  o p67 (.p (.mv (.t p0))),
  o p68 (.p (.mv (.t p10))),
  o p69 (.p (.mv (.t p0))),
  o p70 (.p (.mv (.t p10))),
  o p71 (.p (.iaL 1 (.t p69) (.t p70))),
  o p72 (.r (.ld 1 false (.t p71))),
  o p73 (.p (.mv (.t p0))),
  o p74 (.p (.mv (.t p9))),
  o p75 (.p (.iaL 1 (.t p73) (.t p74))),
  o p76 (.r (.ld 1 false (.t p75))),
  o p77 (.p (.iaL 1 (.t p65) (.t p66))),
  n (.w (.st 1 (.t p77) (.t p72))),
  o p78 (.p (.iaL 1 (.t p67) (.t p68))),
  n (.w (.st 1 (.t p78) (.t p76)))] [[], [], [], [], [], [], [], [], [], [], [], [], [], [], [], []])
  (.seq (.reg [o p79 (.p (.mv (.t p9))),
  o p80 (.p (.bin .i .add (.t p79) (.c (.int .i64 1)))),
  o p9 (.p (.mv (.t p80)))])
  (.reg [o p81 (.p (.mv (.t p10))),
  o p82 (.p (.bin .i .sub (.t p81) (.c (.int .i64 1)))),
  o p10 (.p (.mv (.t p82)))])))))))))
  (.seq (.reg [o p83 (.p (.mv (.t p9))),
  o p8 (.p (.mv (.t p83)))])
  (.ret)))))⟩
def c237 : CFunc := ⟨[.t p8, .t p9], .seq (.reg [o p8 (.p (.mv (.c (.int .i64 0)))),
  o p9 (.p (.mv (.c (.bool false))))])
  (.seq (.dreg [o p12 (.p (.mv (.t p0))),
  o p13 (.p (.mv (.t p1))),
  o p14 (.p (.mv (.t p0))),
  o p15 (.p (.mv (.t p3))),
  o p16 (.p (.mv (.t p0))),
  o p17 (.p (.mv (.t p3))),
  o p18 (.p (.iaL 1 (.t p16) (.t p17))),
  o p19 (.r (.ld 1 false (.t p18))),
  o p20 (.p (.mv (.t p0))),
  o p21 (.p (.mv (.t p1))),
  o p22 (.p (.iaL 1 (.t p20) (.t p21))),
  o p23 (.r (.ld 1 false (.t p22))),
  o p24 (.p (.iaL 1 (.t p12) (.t p13))),
  n (.w (.st 1 (.t p24) (.t p19))),
  o p25 (.p (.iaL 1 (.t p14) (.t p15))),
  n (.w (.st 1 (.t p25) (.t p23)))] [[], [], [], [], [], [], [], [], [], [], [], [], [], [], [], []])
  (.seq (.reg [o p26 (.p (.mv (.t p1))),
  o p27 (.p (.bin .i .add (.t p26) (.c (.int .i64 1)))),
  o p28 (.p (.mv (.t p2))),
  o p29 (.p (.bin .i .sub (.t p28) (.c (.int .i64 1)))),
  o p10 (.p (.mv (.t p27))),
  o p11 (.p (.mv (.t p29)))])
  (.seq (.block 0 (.loop (.seq (.seq (.dreg [o p30 (.p (.mv (.t p10))),
  o p31 (.p (.mv (.t p11))),
  o p32 (.p (.bin .i .leq (.t p30) (.t p31))),
  o p33 (.p (.mv (.t p32))),
  g (some p34) p33 true (.p (.mv (.t p0))),
  g (some p35) p33 true (.p (.mv (.t p10))),
  g (some p36) p33 true (.p (.iaL 1 (.t p34) (.t p35))),
  g (some p37) p33 true (.r (.ld 1 false (.t p36))),
  g (some p38) p33 true (.p (.mv (.t p0))),
  g (some p39) p33 true (.p (.mv (.t p1))),
  g (some p40) p33 true (.p (.iaL 1 (.t p38) (.t p39))),
  g (some p41) p33 true (.r (.ld 1 false (.t p40))),
  g (some p42) p33 true (.call 235 [(.t p37), (.t p41)]),
  o p43 (.p (.pick (.t p33) (.t p42) (.c (.bool false))))] [[], [], [], [], [], [], [], [], [], [], [], [], [], []])
  (.cond (.t p43) (.skip)
  (.exit 0)))
  (.block 1 (.reg [o p44 (.p (.mv (.t p10))),
  o p45 (.p (.bin .i .add (.t p44) (.c (.int .i64 1)))),
  o p10 (.p (.mv (.t p45)))])))))
  (.seq (.block 2 (.loop (.seq (.seq (.dreg [o p46 (.p (.mv (.t p10))),
  o p47 (.p (.mv (.t p11))),
  o p48 (.p (.bin .i .leq (.t p46) (.t p47))),
  o p49 (.p (.mv (.t p48))),
  g (some p50) p49 true (.p (.mv (.t p0))),
  g (some p51) p49 true (.p (.mv (.t p11))),
  g (some p52) p49 true (.p (.iaL 1 (.t p50) (.t p51))),
  g (some p53) p49 true (.r (.ld 1 false (.t p52))),
  g (some p54) p49 true (.p (.mv (.t p0))),
  g (some p55) p49 true (.p (.mv (.t p1))),
  g (some p56) p49 true (.p (.iaL 1 (.t p54) (.t p55))),
  g (some p57) p49 true (.r (.ld 1 false (.t p56))),
  g (some p58) p49 true (.call 235 [(.t p53), (.t p57)]),
  g (some p59) p49 true (.p (.un .not (.t p58))),
  o p60 (.p (.pick (.t p49) (.t p59) (.c (.bool false))))] [[], [], [], [], [], [], [], [], [], [], [], [], [], [], []])
  (.cond (.t p60) (.skip)
  (.exit 2)))
  (.block 3 (.reg [o p61 (.p (.mv (.t p11))),
  o p62 (.p (.bin .i .sub (.t p61) (.c (.int .i64 1)))),
  o p11 (.p (.mv (.t p62)))])))))
  (.seq (.seq (.reg [o p63 (.p (.mv (.t p10))),
  o p64 (.p (.mv (.t p11))),
  o p65 (.p (.bin .i .gtr (.t p63) (.t p64)))])
  (.cond (.t p65) (.seq (.dreg [o p66 (.p (.mv (.t p0))),
  o p67 (.p (.mv (.t p11))),
  o p68 (.p (.mv (.t p0))),
  o p69 (.p (.mv (.t p1))),
  o p70 (.p (.mv (.t p0))),
  o p71 (.p (.mv (.t p1))),
  o p72 (.p (.iaL 1 (.t p70) (.t p71))),
  o p73 (.r (.ld 1 false (.t p72))),
  o p74 (.p (.mv (.t p0))),
  o p75 (.p (.mv (.t p11))),
  o p76 (.p (.iaL 1 (.t p74) (.t p75))),
  o p77 (.r (.ld 1 false (.t p76))),
  o p78 (.p (.iaL 1 (.t p66) (.t p67))),
  n (.w (.st 1 (.t p78) (.t p73))),
  o p79 (.p (.iaL 1 (.t p68) (.t p69))),
  n (.w (.st 1 (.t p79) (.t p77)))] [[], [], [], [], [], [], [], [], [], [], [], [], [], [], [], []])
  (.seq (.reg [o p80 (.p (.mv (.t p11))),
  o p8 (.p (.mv (.t p80))),
  o p9 (.p (.mv (.c (.bool true))))])
  (.ret)))
  (.skip)))
  (.seq (.dreg [o p81 (.p (.mv (.t p0))),
  o p82 (.p (.mv (.t p10))),
  o p83 (.p (.mv (.t p0))),
  o p84 (.p (.mv (.t p11))),
  o p85 (.p (.mv (.t p0))),
  o p86 (.p (.mv (.t p11))),
  o p87 (.p (.iaL 1 (.t p85) (.t p86))),
  o p88 (.r (.ld 1 false (.t p87))),
  o p89 (.p (.mv (.t p0))),
  o p90 (.p (.mv (.t p10))),
  o p91 (.p (.iaL 1 (.t p89) (.t p90))),
  o p92 (.r (.ld 1 false (.t p91))),
  o p93 (.p (.iaL 1 (.t p81) (.t p82))),
  n (.w (.st 1 (.t p93) (.t p88))),
  o p94 (.p (.iaL 1 (.t p83) (.t p84))),
  n (.w (.st 1 (.t p94) (.t p92)))] [[], [], [], [], [], [], [], [], [], [], [], [], [], [], [], []])
  (.seq (.reg [o p95 (.p (.mv (.t p10))),
  o p96 (.p (.bin .i .add (.t p95) (.c (.int .i64 1)))),
  o p10 (.p (.mv (.t p96)))])
  (.seq (.reg [o p97 (.p (.mv (.t p11))),
  o p98 (.p (.bin .i .sub (.t p97) (.c (.int .i64 1)))),
  o p11 (.p (.mv (.t p98)))])
  (.seq (.block 4 (.loop (.block 5 (.seq (.block 6 (.loop (.seq (.seq (.dreg [o p99 (.p (.mv (.t p10))),
  o p100 (.p (.mv (.t p11))),
  o p101 (.p (.bin .i .leq (.t p99) (.t p100))),
  o p102 (.p (.mv (.t p101))),
  g (some p103) p102 true (.p (.mv (.t p0))),
  g (some p104) p102 true (.p (.mv (.t p10))),
  g (some p105) p102 true (.p (.iaL 1 (.t p103) (.t p104))),
  g (some p106) p102 true (.r (.ld 1 false (.t p105))),
  g (some p107) p102 true (.p (.mv (.t p0))),
  g (some p108) p102 true (.p (.mv (.t p1))),
  g (some p109) p102 true (.p (.iaL 1 (.t p107) (.t p108))),
  g (some p110) p102 true (.r (.ld 1 false (.t p109))),
  g (some p111) p102 true (.call 235 [(.t p106), (.t p110)]),
  o p112 (.p (.pick (.t p102) (.t p111) (.c (.bool false))))] [[], [], [], [], [], [], [], [], [], [], [], [], [], []])
  (.cond (.t p112) (.skip)
  (.exit 6)))
  (.block 7 (.reg [o p113 (.p (.mv (.t p10))),
  o p114 (.p (.bin .i .add (.t p113) (.c (.int .i64 1)))),
  o p10 (.p (.mv (.t p114)))])))))
  (.seq (.block 8 (.loop (.seq (.seq (.dreg [o p115 (.p (.mv (.t p10))),
  o p116 (.p (.mv (.t p11))),
  o p117 (.p (.bin .i .leq (.t p115) (.t p116))),
  o p118 (.p (.mv (.t p117))),
  g (some p119) p118 true (.p (.mv (.t p0))),
  g (some p120) p118 true (.p (.mv (.t p11))),
  g (some p121) p118 true (.p (.iaL 1 (.t p119) (.t p120))),
  g (some p122) p118 true (.r (.ld 1 false (.t p121))),
  g (some p123) p118 true (.p (.mv (.t p0))),
  g (some p124) p118 true (.p (.mv (.t p1))),
  g (some p125) p118 true (.p (.iaL 1 (.t p123) (.t p124))),
  g (some p126) p118 true (.r (.ld 1 false (.t p125))),
  g (some p127) p118 true (.call 235 [(.t p122), (.t p126)]),
  g (some p128) p118 true (.p (.un .not (.t p127))),
  o p129 (.p (.pick (.t p118) (.t p128) (.c (.bool false))))] [[], [], [], [], [], [], [], [], [], [], [], [], [], [], []])
  (.cond (.t p129) (.skip)
  (.exit 8)))
  (.block 9 (.reg [o p130 (.p (.mv (.t p11))),
  o p131 (.p (.bin .i .sub (.t p130) (.c (.int .i64 1)))),
  o p11 (.p (.mv (.t p131)))])))))
  (.seq (.seq (.reg [o p132 (.p (.mv (.t p10))),
  o p133 (.p (.mv (.t p11))),
  o p134 (.p (.bin .i .gtr (.t p132) (.t p133)))])
  (.cond (.t p134) (.exit 4)
  (.skip)))
  (.seq (.dreg [o p135 (.p (.mv (.t p0))),
  o p136 (.p (.mv (.t p10))),
  o p137 (.p (.mv (.t p0))),
  o p138 (.p (.mv (.t p11))),
  o p139 (.p (.mv (.t p0))),
  o p140 (.p (.mv (.t p11))),
  o p141 (.p (.iaL 1 (.t p139) (.t p140))),
  o p142 (.r (.ld 1 false (.t p141))),
  o p143 (.p (.mv (.t p0))),
  o p144 (.p (.mv (.t p10))),
  o p145 (.p (.iaL 1 (.t p143) (.t p144))),
  o p146 (.r (.ld 1 false (.t p145))),
  o p147 (.p (.iaL 1 (.t p135) (.t p136))),
  n (.w (.st 1 (.t p147) (.t p142))),
  o p148 (.p (.iaL 1 (.t p137) (.t p138))),
  n (.w (.st 1 (.t p148) (.t p146)))] [[], [], [], [], [], [], [], [], [], [], [], [], [], [], [], []])
  (.seq (.reg [o p149 (.p (.mv (.t p10))),
  o p150 (.p (.bin .i .add (.t p149) (.c (.int .i64 1)))),
  o p10 (.p (.mv (.t p150)))])
  (.reg [o p151 (.p (.mv (.t p11))),
  o p152 (.p (.bin .i .sub (.t p151) (.c (.int .i64 1)))),
  o p11 (.p (.mv (.t p152)))])))))))))
  (.seq (.dreg [o p153 (.p (.mv (.t p0))),
  o p154 (.p (.mv (.t p11))),
  o p155 (.p (.mv (.t p0))),
  o p156 (.p (.mv (.t p1))),
  o p157 (.p (.mv (.t p0))),
  o p158 (.p (.mv (.t p1))),
  o p159 (.p (.iaL 1 (.t p157) (.t p158))),
  o p160 (.r (.ld 1 false (.t p159))),
  o p161 (.p (.mv (.t p0))),
  o p162 (.p (.mv (.t p11))),
  o p163 (.p (.iaL 1 (.t p161) (.t p162))),
  o p164 (.r (.ld 1 false (.t p163))),
  o p165 (.p (.iaL 1 (.t p153) (.t p154))),
  n (.w (.st 1 (.t p165) (.t p160))),
  o p166 (.p (.iaL 1 (.t p155) (.t p156))),
  n (.w (.st 1 (.t p166) (.t p164)))] [[], [], [], [], [], [], [], [], [], [], [], [], [], [], [], []])
  (.seq (.reg [o p167 (.p (.mv (.t p11))),
  o p8 (.p (.mv (.t p167))),
  o p9 (.p (.mv (.c (.bool false))))])
  (.ret))))))))))))⟩
def c238 : CFunc := ⟨[.t p2], .seq (.reg [o p2 (.p (.mv (.c (.int .i64 0))))])
  (.seq (.seq (.reg [o p3 (.p (.mv (.t p0))),
  o p4 (.p (.bin .i .geq (.t p3) (.c (.int .u32 65536))))])
  (.cond (.t p4) (.seq (.reg [o p5 (.p (.mv (.t p0))),
  o p6 (.p (.bin .i .shr (.t p5) (.c (.int .u64 16)))),
  o p0 (.p (.mv (.t p6)))])
  (.reg [o p2 (.p (.mv (.c (.int .i64 16))))]))
  (.skip)))
  (.seq (.seq (.reg [o p7 (.p (.mv (.t p0))),
  o p8 (.p (.bin .i .geq (.t p7) (.c (.int .u32 256))))])
  (.cond (.t p8) (.seq (.reg [o p9 (.p (.mv (.t p0))),
  o p10 (.p (.bin .i .shr (.t p9) (.c (.int .u64 8)))),
  o p0 (.p (.mv (.t p10)))])
  (.reg [o p11 (.p (.mv (.t p2))),
  o p12 (.p (.bin .i .add (.t p11) (.c (.int .i64 8)))),
  o p2 (.p (.mv (.t p12)))]))
  (.skip)))
  (.seq (.reg [o p13 (.p (.mv (.t p2))),
  o p14 (.p (.mv (.t p0))),
  o p15 (.p (.conv .u8 (.t p14))),
  o p16 (.p (.ixS (.c (.string ⟨⟨[0, 1, 2, 2, 3, 3, 3, 3, 4, 4, 4, 4, 4, 4, 4, 4, 5, 5, 5, 5, 5, 5, 5, 5, 5, 5, 5, 5, 5, 5, 5, 5, 6, 6, 6, 6, 6, 6, 6, 6, 6, 6, 6, 6, 6, 6, 6, 6, 6, 6, 6, 6, 6, 6, 6, 6, 6, 6, 6, 6, 6, 6, 6, 6, 7, 7, 7, 7, 7, 7, 7, 7, 7, 7, 7, 7, 7, 7, 7, 7, 7, 7, 7, 7, 7, 7, 7, 7, 7, 7, 7, 7, 7, 7, 7, 7, 7, 7, 7, 7, 7, 7, 7, 7, 7, 7, 7, 7, 7, 7, 7, 7, 7, 7, 7, 7, 7, 7, 7, 7, 7, 7, 7, 7, 7, 7, 7, 7, 8, 8, 8, 8, 8, 8, 8, 8, 8, 8, 8, 8, 8, 8, 8, 8, 8, 8, 8, 8, 8, 8, 8, 8, 8, 8, 8, 8, 8, 8, 8, 8, 8, 8, 8, 8, 8, 8, 8, 8, 8, 8, 8, 8, 8, 8, 8, 8, 8, 8, 8, 8, 8, 8, 8, 8, 8, 8, 8, 8, 8, 8, 8, 8, 8, 8, 8, 8, 8, 8, 8, 8, 8, 8, 8, 8, 8, 8, 8, 8, 8, 8, 8, 8, 8, 8, 8, 8, 8, 8, 8, 8, 8, 8, 8, 8, 8, 8, 8, 8, 8, 8, 8, 8, 8, 8, 8, 8, 8, 8, 8, 8, 8, 8, 8, 8, 8, 8, 8, 8, 8, 8, 8, 8, 8, 8, 8, 8]⟩⟩)) (.t p15))),
  o p17 (.p (.conv .i64 (.t p16))),
  o p18 (.p (.bin .i .add (.t p13) (.t p17))),
  o p2 (.p (.mv (.t p18)))])
  (.ret))))⟩
def c239 : CFunc := ⟨[.t p2], .seq (.reg [o p2 (.p (.mv (.c (.int .i64 0))))])
  (.seq (.seq (.reg [o p3 (.p (.mv (.t p0))),
  o p4 (.p (.bin .i .geq (.t p3) (.c (.int .u64 4294967296))))])
  (.cond (.t p4) (.seq (.reg [o p5 (.p (.mv (.t p0))),
  o p6 (.p (.bin .i .shr (.t p5) (.c (.int .u64 32)))),
  o p0 (.p (.mv (.t p6)))])
  (.reg [o p2 (.p (.mv (.c (.int .i64 32))))]))
  (.skip)))
  (.seq (.seq (.reg [o p7 (.p (.mv (.t p0))),
  o p8 (.p (.bin .i .geq (.t p7) (.c (.int .u64 65536))))])
  (.cond (.t p8) (.seq (.reg [o p9 (.p (.mv (.t p0))),
  o p10 (.p (.bin .i .shr (.t p9) (.c (.int .u64 16)))),
  o p0 (.p (.mv (.t p10)))])
  (.reg [o p11 (.p (.mv (.t p2))),
  o p12 (.p (.bin .i .add (.t p11) (.c (.int .i64 16)))),
  o p2 (.p (.mv (.t p12)))]))
  (.skip)))
  (.seq (.seq (.reg [o p13 (.p (.mv (.t p0))),
  o p14 (.p (.bin .i .geq (.t p13) (.c (.int .u64 256))))])
  (.cond (.t p14) (.seq (.reg [o p15 (.p (.mv (.t p0))),
  o p16 (.p (.bin .i .shr (.t p15) (.c (.int .u64 8)))),
  o p0 (.p (.mv (.t p16)))])
  (.reg [o p17 (.p (.mv (.t p2))),
  o p18 (.p (.bin .i .add (.t p17) (.c (.int .i64 8)))),
  o p2 (.p (.mv (.t p18)))]))
  (.skip)))
  (.seq (.reg [o p19 (.p (.mv (.t p2))),
  o p20 (.p (.mv (.t p0))),
  o p21 (.p (.conv .u8 (.t p20))),
  o p22 (.p (.ixS (.c (.string ⟨⟨[0, 1, 2, 2, 3, 3, 3, 3, 4, 4, 4, 4, 4, 4, 4, 4, 5, 5, 5, 5, 5, 5, 5, 5, 5, 5, 5, 5, 5, 5, 5, 5, 6, 6, 6, 6, 6, 6, 6, 6, 6, 6, 6, 6, 6, 6, 6, 6, 6, 6, 6, 6, 6, 6, 6, 6, 6, 6, 6, 6, 6, 6, 6, 6, 7, 7, 7, 7, 7, 7, 7, 7, 7, 7, 7, 7, 7, 7, 7, 7, 7, 7, 7, 7, 7, 7, 7, 7, 7, 7, 7, 7, 7, 7, 7, 7, 7, 7, 7, 7, 7, 7, 7, 7, 7, 7, 7, 7, 7, 7, 7, 7, 7, 7, 7, 7, 7, 7, 7, 7, 7, 7, 7, 7, 7, 7, 7, 7, 8, 8, 8, 8, 8, 8, 8, 8, 8, 8, 8, 8, 8, 8, 8, 8, 8, 8, 8, 8, 8, 8, 8, 8, 8, 8, 8, 8, 8, 8, 8, 8, 8, 8, 8, 8, 8, 8, 8, 8, 8, 8, 8, 8, 8, 8, 8, 8, 8, 8, 8, 8, 8, 8, 8, 8, 8, 8, 8, 8, 8, 8, 8, 8, 8, 8, 8, 8, 8, 8, 8, 8, 8, 8, 8, 8, 8, 8, 8, 8, 8, 8, 8, 8, 8, 8, 8, 8, 8, 8, 8, 8, 8, 8, 8, 8, 8, 8, 8, 8, 8, 8, 8, 8, 8, 8, 8, 8, 8, 8, 8, 8, 8, 8, 8, 8, 8, 8, 8, 8, 8, 8, 8, 8, 8, 8, 8, 8]⟩⟩)) (.t p21))),
  o p23 (.p (.conv .i64 (.t p22))),
  o p24 (.p (.bin .i .add (.t p19) (.t p23))),
  o p2 (.p (.mv (.t p24)))])
  (.ret)))))⟩
def c240 : CFunc := ⟨[.cell p4 2 true, .cell p5 4 true], .seq (.reg [o p2 (.a (.box 2 (.t p0))),
  o p3 (.a (.box 6 (.t p1))),
  o p4 (.a (.alc [(.int .i64 0), (.slice none 0 0)])),
  o p5 (.a (.alc [(.int .i64 0), (.int .i64 0), (.string ⟨⟨[]⟩⟩), (.slice none 0 0)]))])
  (.seq (.reg [o p10 (.r (.ld 2 true (.t p2))),
  o p11 (.r (.ld 6 true (.t p3))),
  o p12 (.call 291 [(.t p10), (.t p11)]),
  o p9 (.p (.mv (.t p12))),
  o p13 (.p (.ext 0 (.t p9))),
  o p14 (.p (.ext 1 (.t p9))),
  o p15 (.p (.ext 2 (.t p9))),
  o p6 (.a (.alc [(.int .i64 0), (.int .i64 0), (.string ⟨⟨[]⟩⟩), (.slice none 0 0)])),
  o p7 (.a (.alc [(.string ⟨⟨[]⟩⟩), (.string ⟨⟨[]⟩⟩), (.int .i64 0), (.bool false)])),
  n (.w (.st 4 (.t p6) (.t p13))),
  n (.w (.st 4 (.t p7) (.t p14))),
  o p8 (.p (.mv (.t p15)))])
  (.seq (.seq (.reg [o p16 (.p (.mv (.t p8)))])
  (.cond (.t p16) (.seq (.dreg [o p17 (.r (.ld 2 true (.t p2))),
  o p18 (.r (.ld 4 true (.t p7))),
  o p20 (.r (.ld 4 true (.t p6))),
  o p19 (.call 292 [(.t p17), (.t p18)]),
  n (.w (.st 2 (.t p4) (.t p19))),
  n (.w (.st 4 (.t p5) (.t p20)))] [[], [], [], [2], [2], []])
  (.ret))
  (.skip)))
  (.seq (.dreg [o p21 (.r (.ld 2 true (.t p2))),
  o p22 (.r (.ld 4 true (.t p6))),
  n (.w (.st 2 (.t p4) (.t p21))),
  n (.w (.st 4 (.t p5) (.t p22)))] [[], [], [1], []])
  (.ret))))⟩
def c241 : CFunc := ⟨[.t p4], .seq (.reg [o p4 (.p (.mv (.c (.slice none 0 0))))])
  (.seq (.seq (.reg [o p7 (.p (.mv (.t p1))),
  o p8 (.p (.bin .i .lss (.t p7) (.c (.int .i64 1)))),
  o p9 (.p (.mv (.t p8))),
  g (some p10) p9 false (.p (.mv (.t p1))),
  g (some p11) p9 false (.p (.bin .i .gtr (.t p10) (.c (.int .i64 8)))),
  o p12 (.p (.pick (.t p9) (.c (.bool true)) (.t p11)))])
  (.cond (.t p12) (.seq (.reg [o p4 (.p (.mv (.c (.slice none 0 0))))])
  (.ret))
  (.skip)))
  (.seq (.reg [o p13 (.p (.mv (.t p1))),
  o p14 (.a (.mks 1 1 [(.int .u8 0)] (.t p13) (.t p13))),
  o p5 (.p (.mv (.t p14)))])
  (.seq (.seq (.reg [o p15 (.p (.mv (.t p1))),
  o p16 (.p (.bin .i .sub (.t p15) (.c (.int .i64 1)))),
  o p6 (.p (.mv (.t p16)))])
  (.block 0 (.loop (.seq (.seq (.reg [o p17 (.p (.mv (.t p6))),
  o p18 (.p (.bin .i .geq (.t p17) (.c (.int .i64 0))))])
  (.cond (.t p18) (.skip)
  (.exit 0)))
  (.seq (.block 1 (.seq (.reg [o p21 (.p (.mv (.t p5))),
  o p22 (.p (.mv (.t p6))),
  o p23 (.p (.mv (.t p0))),
  o p24 (.p (.bin .i .rem (.t p23) (.c (.int .u64 256)))),
  o p25 (.p (.conv .u8 (.t p24))),
  o p26 (.p (.iaL 1 (.t p21) (.t p22))),
  n (.w (.st 1 (.t p26) (.t p25)))])
  (.reg [o p27 (.p (.mv (.t p0))),
  o p28 (.p (.bin .i .quo (.t p27) (.c (.int .u64 256)))),
  o p0 (.p (.mv (.t p28)))])))
  (.reg [o p19 (.p (.mv (.t p6))),
  o p20 (.p (.bin .i .sub (.t p19) (.c (.int .i64 1)))),
  o p6 (.p (.mv (.t p20)))]))))))
  (.seq (.reg [o p29 (.p (.mv (.t p5))),
  o p4 (.p (.mv (.t p29)))])
  (.ret)))))⟩
def c242 : CFunc := ⟨[.t p4], .seq (.reg [o p4 (.p (.mv (.c (.string ⟨⟨[]⟩⟩))))])
  (.seq (.reg [o p5 (.p (.mv (.t p0))),
  o p6 (.p (.bin .s .add (.c (.string ⟨⟨[97, 102, 102, 47]⟩⟩)) (.t p5))),
  o p7 (.p (.bin .s .add (.t p6) (.c (.string ⟨⟨[47]⟩⟩)))),
  o p8 (.p (.mv (.t p1))),
  o p9 (.call 246 [(.t p8)]),
  o p10 (.p (.bld [(.int .u32 0), (.int .i64 0)] [(0, 1, (.t p9)), (1, 1, (.c (.int .i64 26)))])),
  o p11 (.call 245 [(.t p10)]),
  o p12 (.p (.bin .s .add (.t p7) (.t p11))),
  o p4 (.p (.mv (.t p12)))])
  (.ret))⟩
def c243 : CFunc := ⟨[.cell p4 5 true], .seq (.reg [o p4 (.a (.alc [(.int .u32 0), (.string ⟨⟨[]⟩⟩), (.slice none 0 0), (.slice none 0 0), (.slice none 0 0)]))])
  (.seq (.reg [o p7 (.p (.mv (.t p0))),
  o p8 (.p (.mv (.t p0))),
  o p9 (.p (.bin .i .rem (.t p8) (.c (.int .u32 64)))),
  o p10 (.p (.bin .i .sub (.t p7) (.t p9))),
  o p11 (.p (.mv (.t p1))),
  o p12 (.p (.bld [(.int .u32 0), (.string ⟨⟨[]⟩⟩), (.slice none 0 0), (.slice none 0 0), (.slice none 0 0)] [(0, 1, (.t p10)), (1, 1, (.t p11))])),
  o p5 (.a (.alc [(.int .u32 0), (.string ⟨⟨[]⟩⟩), (.slice none 0 0), (.slice none 0 0), (.slice none 0 0)])),
  n (.w (.st 5 (.t p5) (.t p12)))])
  (.seq (.seq (.reg [o p6 (.p (.mv (.c (.int .i64 0))))])
  (.block 0 (.loop (.seq (.seq (.reg [o p13 (.p (.mv (.t p6))),
  o p14 (.p (.bin .i .lss (.t p13) (.c (.int .i64 64))))])
  (.cond (.t p14) (.skip)
  (.exit 0)))
  (.seq (.block 1 (.seq (.reg [o p17 (.p (.fa 2 (.t p5))),
  o p18 (.r (.ld 1 false (.t p17))),
  o p19 (.a (.bsl 1 1 [(.int .i64 0)] [(0, 1, (.c (.int .i64 0)))])),
  o p20 (.w (.app 1 8 (.t p18) (.t p19))),
  o p21 (.p (.fa 2 (.t p5))),
  n (.w (.st 1 (.t p21) (.t p20)))])
  (.reg [o p22 (.p (.fa 3 (.t p5))),
  o p23 (.r (.ld 1 false (.t p22))),
  o p24 (.p (.mv (.t p6))),
  o p25 (.a (.bsl 1 1 [(.int .i64 0)] [(0, 1, (.t p24))])),
  o p26 (.w (.app 1 8 (.t p23) (.t p25))),
  o p27 (.p (.fa 3 (.t p5))),
  n (.w (.st 1 (.t p27) (.t p26)))])))
  (.reg [o p15 (.p (.mv (.t p6))),
  o p16 (.p (.bin .i .add (.t p15) (.c (.int .i64 1)))),
  o p6 (.p (.mv (.t p16)))]))))))
  (.seq (.reg [o p28 (.r (.ld 5 true (.t p5))),
  n (.w (.st 5 (.t p4) (.t p28)))])
  (.ret))))⟩
def c244 : CFunc := ⟨[.cell p6 5 true, .t p7], .seq (.reg [o p3 (.a (.box 5 (.t p0))),
  o p5 (.a (.box 2 (.t p2))),
  o p6 (.a (.alc [(.int .u32 0), (.string ⟨⟨[]⟩⟩), (.slice none 0 0), (.slice none 0 0), (.slice none 0 0)])),
  o p7 (.p (.mv (.c (.slice none 0 0))))])
  (.seq (.reg [o p8 (.p (.mv (.c (.slice none 0 0))))])
  (.seq (.seq (.reg [o p9 (.p (.mv (.c (.int .i64 0))))])
  (.block 0 (.loop (.seq (.seq (.reg [o p11 (.p (.mv (.t p9))),
  o p12 (.p (.mv (.t p1))),
  o p13 (.p (.bin .i .lss (.t p11) (.t p12))),
  o p14 (.p (.mv (.t p13))),
  g (some p15) p14 true (.p (.fa 3 (.t p3))),
  g (some p16) p14 true (.r (.ld 1 false (.t p15))),
  g (some p17) p14 true (.p (.lenP false (.t p16))),
  g (some p18) p14 true (.p (.bin .i .gtr (.t p17) (.c (.int .i64 0)))),
  o p19 (.p (.pick (.t p14) (.t p18) (.c (.bool false))))])
  (.cond (.t p19) (.skip)
  (.exit 0)))
  (.seq (.block 1 (.seq (.reg [o p22 (.p (.fa 3 (.t p3))),
  o p23 (.r (.ld 1 false (.t p22))),
  o p24 (.p (.iaL 1 (.t p23) (.c (.int .i64 0)))),
  o p25 (.r (.ld 1 false (.t p24))),
  o p10 (.p (.mv (.t p25)))])
  (.seq (.reg [o p26 (.r (.ld 5 true (.t p3))),
  o p27 (.p (.mv (.t p10))),
  o p28 (.r (.ld 2 true (.t p5))),
  o p29 (.call 293 [(.t p26), (.t p27), (.t p28)]),
  n (.w (.st 5 (.t p3) (.t p29)))])
  (.reg [o p30 (.p (.mv (.t p8))),
  o p31 (.p (.fa 0 (.t p3))),
  o p32 (.r (.ld 1 false (.t p31))),
  o p33 (.p (.mv (.t p10))),
  o p34 (.p (.conv .u32 (.t p33))),
  o p35 (.p (.bin .i .add (.t p32) (.t p34))),
  o p36 (.a (.bsl 1 1 [(.int .u32 0)] [(0, 1, (.t p35))])),
  o p37 (.w (.app 1 4 (.t p30) (.t p36))),
  o p8 (.p (.mv (.t p37)))]))))
  (.reg [o p20 (.p (.mv (.t p9))),
  o p21 (.p (.bin .i .add (.t p20) (.c (.int .i64 1)))),
  o p9 (.p (.mv (.t p21)))]))))))
  (.seq (.reg [o p38 (.r (.ld 5 true (.t p3))),
  o p39 (.p (.mv (.t p8))),
  n (.w (.st 5 (.t p6) (.t p38))),
  o p7 (.p (.mv (.t p39)))])
  (.ret))))⟩
def c245 : CFunc := ⟨[.t p2], .seq (.reg [o p1 (.a (.box 2 (.t p0))),
  o p2 (.p (.mv (.c (.string ⟨⟨[]⟩⟩))))])
  (.seq (.dreg [o p3 (.p (.fa 0 (.t p1))),
  o p4 (.r (.ld 1 false (.t p3))),
  o p7 (.p (.fa 1 (.t p1))),
  o p8 (.r (.ld 1 false (.t p7))),
  o p5 (.call 294 [(.t p4)]),
  o p6 (.p (.bin .s .add (.t p5) (.c (.string ⟨⟨[45]⟩⟩)))),
  o p9 (.call 22 [(.t p8)]),
  o p10 (.p (.bin .s .add (.t p6) (.t p9))),
  o p2 (.p (.mv (.t p10)))] [[], [], [], [], [3], [], [], [], []])
  (.ret))⟩
def c246 : CFunc := ⟨[.t p2], .seq (.reg [o p2 (.p (.mv (.c (.int .u32 0))))])
  (.seq (.reg [o p3 (.p (.mv (.t p0))),
  o p4 (.p (.mv (.t p0))),
  o p5 (.p (.bin .i .rem (.t p4) (.c (.int .u32 64)))),
  o p6 (.p (.bin .i .sub (.t p3) (.t p5))),
  o p2 (.p (.mv (.t p6)))])
  (.ret))⟩
def c247 : CFunc := ⟨[.t p2], .seq (.reg [o p2 (.p (.mv (.c (.slice none 0 0))))])
  (.seq (.reg [o p3 (.p (.mv (.t p0))),
  o p4 (.p (.lenP true (.t p3))),
  o p5 (.p (.conv .u8 (.t p4))),
  o p6 (.a (.bsl 1 1 [(.int .u8 0)] [(0, 1, (.t p5))])),
  o p7 (.p (.mv (.t p0))),
  o p8 (.w (.app 1 1 (.t p6) (.t p7))),
  o p2 (.p (.mv (.t p8)))])
  (.ret))⟩
def c248 : CFunc := ⟨[.t p6], .seq (.reg [o p3 (.a (.box 5 (.t p0))),
  o p6 (.p (.mv (.c (.slice none 0 0))))])
  (.seq (.reg [o p7 (.p (.mv (.c (.slice none 0 0))))])
  (.seq (.seq (.reg [o p8 (.p (.mv (.c (.int .i64 0))))])
  (.block 0 (.loop (.seq (.seq (.reg [o p11 (.p (.mv (.t p8))),
  o p12 (.p (.bin .i .lss (.t p11) (.c (.int .i64 64))))])
  (.cond (.t p12) (.skip)
  (.exit 0)))
  (.seq (.block 1 (.seq (.reg [o p16 (.r (.ld 5 true (.t p3))),
  o p17 (.p (.fa 0 (.t p3))),
  o p18 (.r (.ld 1 false (.t p17))),
  o p19 (.p (.mv (.t p8))),
  o p20 (.p (.conv .u32 (.t p19))),
  o p21 (.p (.bin .i .add (.t p18) (.t p20))),
  o p22 (.call 295 [(.t p16), (.t p21)]),
  o p15 (.p (.mv (.t p22))),
  o p23 (.p (.ext 0 (.t p15))),
  o p24 (.p (.ext 1 (.t p15))),
  o p9 (.a (.alc [(.string ⟨⟨[]⟩⟩), (.string ⟨⟨[]⟩⟩)])),
  n (.w (.st 2 (.t p9) (.t p23))),
  o p10 (.p (.mv (.t p24)))])
  (.seq (.reg [o p25 (.p (.mv (.t p10))),
  o p26 (.p (.mv (.t p25))),
  g (some p27) p26 true (.p (.mv (.t p1))),
  g (some p28) p26 true (.p (.bin .s .eql (.t p27) (.c (.string ⟨⟨[]⟩⟩)))),
  g (some p29) p26 true (.p (.mv (.t p28))),
  g (some p30) p29 false (.p (.fa 0 (.t p9))),
  g (some p31) p29 false (.r (.ld 1 false (.t p30))),
  g (some p32) p29 false (.p (.mv (.t p1))),
  g (some p33) p29 false (.p (.bin .s .eql (.t p31) (.t p32))),
  g (some p34) p26 true (.p (.pick (.t p29) (.c (.bool true)) (.t p33))),
  o p35 (.p (.pick (.t p26) (.t p34) (.c (.bool false)))),
  o p36 (.p (.mv (.t p35))),
  g (some p37) p36 true (.p (.mv (.t p2))),
  g (some p38) p36 true (.p (.bin .s .eql (.t p37) (.c (.string ⟨⟨[]⟩⟩)))),
  g (some p39) p36 true (.p (.mv (.t p38))),
  g (some p40) p39 false (.p (.fa 1 (.t p9))),
  g (some p41) p39 false (.r (.ld 1 false (.t p40))),
  g (some p42) p39 false (.p (.mv (.t p2))),
  g (some p43) p39 false (.p (.bin .s .eql (.t p41) (.t p42))),
  g (some p44) p36 true (.p (.pick (.t p39) (.c (.bool true)) (.t p43))),
  o p45 (.p (.pick (.t p36) (.t p44) (.c (.bool false))))])
  (.cond (.t p45) (.reg [o p46 (.p (.mv (.t p7))),
  o p47 (.p (.fa 0 (.t p3))),
  o p48 (.r (.ld 1 false (.t p47))),
  o p49 (.p (.mv (.t p8))),
  o p50 (.p (.conv .u32 (.t p49))),
  o p51 (.p (.bin .i .add (.t p48) (.t p50))),
  o p52 (.a (.bsl 1 1 [(.int .u32 0)] [(0, 1, (.t p51))])),
  o p53 (.w (.app 1 4 (.t p46) (.t p52))),
  o p7 (.p (.mv (.t p53)))])
  (.skip)))))
  (.reg [o p13 (.p (.mv (.t p8))),
  o p14 (.p (.bin .i .add (.t p13) (.c (.int .i64 1)))),
  o p8 (.p (.mv (.t p14)))]))))))
  (.seq (.reg [o p54 (.p (.mv (.t p7))),
  o p6 (.p (.mv (.t p54)))])
  (.ret))))⟩
def c249 : CFunc := ⟨[.t p2], .seq (.reg [o p1 (.a (.box 2 (.t p0))),
  o p2 (.p (.mv (.c (.bool false))))])
  (.seq (.dreg [o p3 (.p (.fa 1 (.t p1))),
  o p4 (.r (.ld 1 false (.t p3))),
  o p5 (.p (.bin .i .geq (.t p4) (.c (.int .i64 0)))),
  o p6 (.p (.mv (.t p5))),
  g (some p7) p6 true (.p (.fa 1 (.t p1))),
  g (some p8) p6 true (.r (.ld 1 false (.t p7))),
  g (some p9) p6 true (.p (.bin .i .leq (.t p8) (.c (.int .i64 32)))),
  o p10 (.p (.pick (.t p6) (.t p9) (.c (.bool false)))),
  o p11 (.p (.mv (.t p10))),
  g (some p12) p11 true (.p (.fa 0 (.t p1))),
  g (some p13) p11 true (.r (.ld 1 false (.t p12))),
  g (some p14) p11 true (.p (.fa 1 (.t p1))),
  g (some p15) p11 true (.r (.ld 1 false (.t p14))),
  g (some p16) p11 true (.call 129 [(.t p15)]),
  g (some p17) p11 true (.p (.bin .i .andNot (.t p13) (.t p16))),
  g (some p18) p11 true (.p (.bin .i .eql (.t p17) (.c (.int .u32 0)))),
  o p19 (.p (.pick (.t p11) (.t p18) (.c (.bool false)))),
  o p2 (.p (.mv (.t p19)))] [[], [], [], [], [], [], [], [], [], [], [], [], [], [10], [], [], [], []])
  (.ret))⟩
def c250 : CFunc := ⟨[.t p2], .seq (.reg [o p1 (.a (.box 2 (.t p0))),
  o p2 (.p (.mv (.c (.string ⟨⟨[]⟩⟩))))])
  (.seq (.reg [o p3 (.r (.ld 2 true (.t p1))),
  o p4 (.call 297 [(.t p3)]),
  o p5 (.call 296 [(.t p4), (.c (.string ⟨⟨[47]⟩⟩)), (.c (.string ⟨⟨[45]⟩⟩)), (.c (.int .i64 1))]),
  o p2 (.p (.mv (.t p5)))])
  (.ret))⟩
def c251 : CFunc := ⟨[.t p2], .seq (.reg [o p2 (.p (.mv (.c (.slice none 0 0))))])
  (.seq (.seq (.reg [o p3 (.p (.mv (.t p0))),
  o p4 (.p (.bin .l .eql (.t p3) (.c (.slice none 0 0))))])
  (.cond (.t p4) (.seq (.reg [o p2 (.p (.mv (.c (.slice none 0 0))))])
  (.ret))
  (.skip)))
  (.seq (.reg [o p5 (.a (.bsl 1 0 [(.int .u8 0)] [])),
  o p6 (.p (.mv (.t p0))),
  o p7 (.w (.app 1 1 (.t p5) (.t p6))),
  o p2 (.p (.mv (.t p7)))])
  (.ret)))⟩
def c252 : CFunc := ⟨[.t p4], .seq (.reg [o p4 (.p (.mv (.c (.slice none 0 0))))])
  (.seq (.reg [o p5 (.p (.mv (.c (.slice none 0 0))))])
  (.seq (.seq (.reg [o p8 (.p (.mv (.t p0))),
  o p9 (.p (.bin .p .eql (.t p8) (.c (.pointer none))))])
  (.cond (.t p9) (.seq (.reg [o p4 (.p (.mv (.c (.slice none 0 0))))])
  (.ret))
  (.skip)))
  (.seq (.seq (.reg [o p10 (.p (.mv (.t p0))),
  o p11 (.p (.nck (.t p10))),
  o p12 (.p (.fa 1 (.t p11))),
  o p13 (.r (.ld 1 false (.t p12))),
  o p14 (.call 299 [(.t p13)]),
  o p15 (.call 298 [(.t p14)]),
  o p16 (.p (.lenP false (.t p15))),
  o p17 (.p (.mv (.c (.int .i64 0))))])
  (.block 0 (.loop (.seq (.reg [o p18 (.p (.bin .i .lss (.t p17) (.t p16)))])
  (.seq (.cond (.t p18) (.skip)
  (.exit 0))
  (.seq (.block 1 (.seq (.reg [o p19 (.p (.iaL 1 (.t p15) (.t p17))),
  o p20 (.r (.ld 1 false (.t p19))),
  o p7 (.p (.mv (.t p20)))])
  (.seq (.reg [o p21 (.p (.mv (.t p7))),
  o p22 (.p (.mv (.t p1))),
  o p23 (.call 300 [(.t p21), (.t p22)])])
  (.cond (.t p23) (.reg [o p24 (.p (.mv (.t p5))),
  o p25 (.p (.mv (.t p0))),
  o p26 (.p (.nck (.t p25))),
  o p27 (.p (.fa 1 (.t p26))),
  o p28 (.r (.ld 1 false (.t p27))),
  o p29 (.p (.mv (.t p7))),
  o p30 (.r (.look (.agg ⟨[(.string ⟨⟨[]⟩⟩), (.string ⟨⟨[]⟩⟩), (.int .i64 0)]⟩) false (.one 1) (.t p28) (.t p29))),
  o p31 (.a (.bsl 3 1 [(.string ⟨⟨[]⟩⟩), (.string ⟨⟨[]⟩⟩), (.int .i64 0)] [(0, 3, (.t p30))])),
  o p32 (.w (.app 3 40 (.t p24) (.t p31))),
  o p5 (.p (.mv (.t p32)))])
  (.skip)))))
  (.reg [o p33 (.p (.bin .i .add (.t p17) (.c (.int .i64 1)))),
  o p17 (.p (.mv (.t p33)))])))))))
  (.seq (.reg [o p34 (.p (.mv (.t p5))),
  o p4 (.p (.mv (.t p34)))])
  (.ret)))))⟩
def c264 : CFunc := ⟨[.cell p2 2 true], .seq (.reg [o p2 (.a (.alc [(.int .u32 0), (.int .i64 0)]))])
  (.seq (.reg [o p6 (.p (.mv (.t p0))),
  o p7 (.call 64 [(.t p6), (.c (.int .i64 26))]),
  o p5 (.p (.mv (.t p7))),
  o p8 (.p (.ext 0 (.t p5))),
  o p9 (.p (.ext 1 (.t p5))),
  o p3 (.a (.alc [(.int .u32 0), (.int .i64 0)])),
  n (.w (.st 2 (.t p3) (.t p8))),
  o p4 (.p (.mv (.t p9)))])
  (.seq (.reg [o p10 (.r (.ld 2 true (.t p3))),
  n (.w (.st 2 (.t p2) (.t p10)))])
  (.ret)))⟩
def c272 : CFunc := ⟨[.t p4], .seq (.reg [o p2 (.a (.box 1 (.t p0))),
  o p4 (.p (.mv (.c (.int .i64 0))))])
  (.seq (.reg [o p8 (.r (.ld 1 true (.t p2))),
  o p9 (.p (.mv (.t p1))),
  o p10 (.call 319 [(.t p8), (.t p9)]),
  o p7 (.p (.mv (.t p10))),
  o p11 (.p (.ext 0 (.t p7))),
  o p12 (.p (.ext 1 (.t p7))),
  o p5 (.p (.mv (.t p11))),
  o p6 (.p (.mv (.t p12)))])
  (.seq (.seq (.reg [o p13 (.p (.mv (.t p6))),
  o p14 (.p (.un .not (.t p13)))])
  (.cond (.t p14) (.seq (.reg [o p4 (.p (.mv (.c (.int .i64 0))))])
  (.ret))
  (.skip)))
  (.seq (.reg [o p15 (.p (.fa 0 (.t p2))),
  o p16 (.r (.ld 1 false (.t p15))),
  o p17 (.p (.mv (.t p5))),
  o p18 (.p (.iaL 2 (.t p16) (.t p17))),
  o p19 (.p (.fa 1 (.t p18))),
  o p20 (.r (.ld 1 false (.t p19))),
  o p4 (.p (.mv (.t p20)))])
  (.ret))))⟩
def c273 : CFunc := ⟨[], .seq (.reg [o p6 (.p (.mv (.t p0))),
  o p7 (.p (.nck (.t p6))),
  o p8 (.p (.fa 78 (.t p7))),
  o p9 (.r (.ld 1 false (.t p8))),
  o p10 (.p (.bin .f .neq (.t p9) (.c .nilFunc)))])
  (.cond (.t p10) (.reg [o p11 (.p (.mv (.t p0))),
  o p12 (.p (.nck (.t p11))),
  o p13 (.p (.fa 78 (.t p12))),
  o p14 (.r (.ld 1 false (.t p13))),
  o p15 (.p (.mv (.t p1))),
  o p16 (.p (.mv (.t p2))),
  o p17 (.callv (.t p14) [(.t p15), (.t p16)])])
  (.skip))⟩
def c274 : CFunc := ⟨[], .seq (.reg [o p3 (.a (.box 4 (.t p1)))])
  (.seq (.seq (.reg [o p14 (.p (.mv (.t p0))),
  o p15 (.r (.ld 4 true (.t p3))),
  o p16 (.call 320 [(.t p14), (.t p15)])])
  (.cond (.t p16) (.ret)
  (.skip)))
  (.seq (.seq (.reg [o p17 (.p (.fa 0 (.t p3))),
  o p18 (.r (.ld 1 false (.t p17))),
  o p19 (.p (.bin .i .neq (.t p18) (.c (.int .i64 0))))])
  (.cond (.t p19) (.seq (.reg [o p20 (.p (.mv (.t p0))),
  o p21 (.call 273 [(.t p20), (.c (.slice none 0 0)), (.c (.int .i64 0))])])
  (.ret))
  (.skip)))
  (.seq (.reg [o p23 (.p (.fa 2 (.t p3))),
  o p24 (.r (.ld 1 false (.t p23))),
  o p25 (.call 138 [(.t p24)]),
  o p22 (.p (.mv (.t p25))),
  o p26 (.p (.ext 0 (.t p22))),
  o p27 (.p (.ext 1 (.t p22))),
  o p4 (.a (.alc [(.int .u32 0), (.string ⟨⟨[]⟩⟩), (.int .u8 0), (.int .u8 0), (.int .u8 0), (.int .u8 0), (.int .u8 0), (.int .u8 0), (.int .u8 0), (.int .u8 0), (.int .u8 0), (.int .u8 0), (.int .u8 0), (.int .u8 0), (.int .u8 0), (.int .u8 0), (.int .u8 0), (.int .u8 0), (.int .u8 0), (.int .u8 0), (.int .u8 0), (.int .u8 0), (.int .u8 0), (.int .u8 0), (.int .u8 0), (.int .u8 0), (.int .u8 0), (.int .u8 0), (.int .u8 0), (.int .u8 0), (.int .u8 0), (.int .u8 0), (.int .u8 0), (.int .u8 0), (.int .u8 0), (.int .u8 0), (.int .u8 0), (.int .u8 0), (.int .u8 0), (.int .u8 0), (.int .u8 0), (.int .u8 0), (.int .u8 0), (.int .u8 0), (.int .u8 0), (.int .u8 0), (.int .u8 0), (.int .u8 0), (.int .u8 0), (.int .u8 0), (.int .u8 0), (.int .u8 0), (.int .u8 0), (.int .u8 0), (.int .u8 0), (.int .u8 0), (.int .u8 0), (.int .u8 0), (.int .u8 0), (.int .u8 0), (.int .u8 0), (.int .u8 0), (.int .u8 0), (.int .u8 0), (.int .u8 0), (.int .u8 0), (.slice none 0 0), (.slice none 0 0)])),
  n (.w (.st 68 (.t p4) (.t p26))),
  o p5 (.p (.mv (.t p27)))])
  (.seq (.seq (.reg [o p28 (.p (.mv (.t p5))),
  o p29 (.p (.bin .i .neq (.t p28) (.c (.int .i64 0))))])
  (.cond (.t p29) (.seq (.reg [o p30 (.p (.mv (.t p0))),
  o p31 (.p (.mv (.t p5))),
  o p32 (.call 273 [(.t p30), (.c (.slice none 0 0)), (.t p31)])])
  (.ret))
  (.skip)))
  (.seq (.dreg [o p34 (.p (.mv (.t p0))),
  o p35 (.p (.nck (.t p34))),
  o p36 (.p (.fa 2 (.t p35))),
  o p37 (.r (.ld 4 true (.t p36))),
  o p38 (.r (.ld 68 true (.t p4))),
  o p6 (.a (.alc [(.int .u32 0), (.string ⟨⟨[]⟩⟩), (.int .u8 0), (.int .u8 0), (.int .u8 0), (.int .u8 0), (.int .u8 0), (.int .u8 0), (.int .u8 0), (.int .u8 0), (.int .u8 0), (.int .u8 0), (.int .u8 0), (.int .u8 0), (.int .u8 0), (.int .u8 0), (.int .u8 0), (.int .u8 0), (.int .u8 0), (.int .u8 0), (.int .u8 0), (.int .u8 0), (.int .u8 0), (.int .u8 0), (.int .u8 0), (.int .u8 0), (.int .u8 0), (.int .u8 0), (.int .u8 0), (.int .u8 0), (.int .u8 0), (.int .u8 0), (.int .u8 0), (.int .u8 0), (.int .u8 0), (.int .u8 0), (.int .u8 0), (.int .u8 0), (.int .u8 0), (.int .u8 0), (.int .u8 0), (.int .u8 0), (.int .u8 0), (.int .u8 0), (.int .u8 0), (.int .u8 0), (.int .u8 0), (.int .u8 0), (.int .u8 0), (.int .u8 0), (.int .u8 0), (.int .u8 0), (.int .u8 0), (.int .u8 0), (.int .u8 0), (.int .u8 0), (.int .u8 0), (.int .u8 0), (.int .u8 0), (.int .u8 0), (.int .u8 0), (.int .u8 0), (.int .u8 0), (.int .u8 0), (.int .u8 0), (.int .u8 0), (.slice none 0 0), (.slice none 0 0)])),
  o p39 (.call 321 [(.t p37), (.t p38)]),
  o p33 (.p (.mv (.t p39))),
  o p40 (.p (.ext 0 (.t p33))),
  o p41 (.p (.ext 1 (.t p33))),
  n (.w (.st 68 (.t p6) (.t p40))),
  o p7 (.p (.mv (.t p41)))] [[], [], [], [], [], [], [5], [], [], [], [], []])
  (.seq (.seq (.reg [o p42 (.p (.mv (.t p7))),
  o p43 (.p (.lenP false (.t p42))),
  o p44 (.p (.bin .i .eql (.t p43) (.c (.int .i64 0))))])
  (.cond (.t p44) (.seq (.reg [o p45 (.p (.mv (.t p0))),
  o p46 (.call 273 [(.t p45), (.c (.slice none 0 0)), (.c (.int .i64 0))])])
  (.ret))
  (.skip)))
  (.seq (.dreg [o p47 (.p (.mv (.t p0))),
  o p48 (.p (.mv (.t p0))),
  o p49 (.p (.mv (.t p0))),
  o p50 (.p (.mv (.t p7))),
  o p51 (.r (.ld 68 true (.t p6))),
  o p52 (.a (.mkm)),
  o p53 (.p (.nck (.t p47))),
  o p54 (.p (.fa 7 (.t p53))),
  n (.w (.st 1 (.t p54) (.t p50))),
  o p55 (.p (.nck (.t p48))),
  o p56 (.p (.fa 8 (.t p55))),
  n (.w (.st 68 (.t p56) (.t p51))),
  o p57 (.p (.nck (.t p49))),
  o p58 (.p (.fa 76 (.t p57))),
  n (.w (.st 1 (.t p58) (.t p52)))] [[], [], [], [], [], [], [], [], [4, 5], [], [], [5], [], [], []])
  (.seq (.seq (.reg [o p59 (.p (.mv (.t p7))),
  o p60 (.p (.lenP false (.t p59))),
  o p61 (.p (.mv (.c (.int .i64 0))))])
  (.block 0 (.loop (.seq (.reg [o p62 (.p (.bin .i .lss (.t p61) (.t p60)))])
  (.seq (.cond (.t p62) (.skip)
  (.exit 0))
  (.seq (.block 1 (.seq (.reg [o p63 (.p (.iaL 1 (.t p59) (.t p61))),
  o p64 (.r (.ld 1 false (.t p63))),
  o p9 (.p (.mv (.t p64)))])
  (.seq (.reg [o p66 (.r (.ld 68 true (.t p4))),
  o p67 (.p (.mv (.t p9))),
  o p68 (.call 77 [(.t p66), (.t p67)]),
  o p65 (.p (.mv (.t p68))),
  o p69 (.p (.ext 0 (.t p65))),
  o p70 (.p (.ext 1 (.t p65))),
  o p10 (.a (.alc [(.string ⟨⟨[]⟩⟩), (.string ⟨⟨[]⟩⟩)])),
  n (.w (.st 2 (.t p10) (.t p69))),
  o p11 (.p (.mv (.t p70)))])
  (.dreg [o p71 (.p (.mv (.t p0))),
  o p72 (.p (.nck (.t p71))),
  o p73 (.p (.fa 76 (.t p72))),
  o p74 (.r (.ld 1 false (.t p73))),
  o p75 (.p (.fa 0 (.t p10))),
  o p76 (.r (.ld 1 false (.t p75))),
  o p77 (.r (.look (.int .i64 0) false (.one 1) (.t p74) (.t p76))),
  o p78 (.p (.bin .i .add (.t p77) (.c (.int .i64 1)))),
  n (.w (.mup (.one 1) (.t p74) (.t p76) (.t p78)))] [[], [], [], [], [], [], [], [], []]))))
  (.reg [o p79 (.p (.bin .i .add (.t p61) (.c (.int .i64 1)))),
  o p61 (.p (.mv (.t p79)))])))))))
  (.seq (.reg [o p81 (.r (.ld 68 true (.t p6))),
  o p82 (.call 322 [(.t p81)]),
  o p80 (.p (.mv (.t p82))),
  o p83 (.p (.ext 0 (.t p80))),
  o p84 (.p (.ext 1 (.t p80))),
  o p12 (.p (.mv (.t p83))),
  o p13 (.p (.mv (.t p84)))])
  (.dreg [o p85 (.p (.mv (.t p0))),
  o p86 (.p (.nck (.t p85))),
  o p87 (.p (.fa 0 (.t p86))),
  o p88 (.r (.ld 1 false (.t p87))),
  o p89 (.p (.mv (.t p0))),
  o p90 (.p (.nck (.t p89))),
  o p91 (.p (.fa 1 (.t p90))),
  o p92 (.r (.ld 1 false (.t p91))),
  o p94 (.p (.mv (.t p12))),
  o p95 (.p (.fa 1 (.t p3))),
  o p96 (.r (.ld 1 false (.t p95))),
  o p98 (.p (.mv (.t p0))),
  o p99 (.p (.mkf 323 [(.t p98)] [])),
  o p93 (.call 199 [(.t p92)]),
  o p97 (.p (.bld [(.int .i64 0), (.string ⟨⟨[]⟩⟩), (.string ⟨⟨[]⟩⟩), (.int .i64 0), (.string ⟨⟨[]⟩⟩), (.int .i64 0)] [(0, 1, (.c (.int .i64 4))), (1, 1, (.t p93)), (2, 1, (.t p94)), (3, 1, (.t p96))])),
  o p100 (.call 165 [(.t p88), (.t p97), (.t p99)])] [[], [], [], [], [], [], [], [], [], [], [], [], [], [3, 10], [], []]))))))))))⟩
def c277 : CFunc := ⟨[], .seq (.reg [o p2 (.p (.mv (.t p0))),
  o p3 (.p (.bin .p .neq (.t p2) (.c (.pointer none))))])
  (.cond (.t p3) (.reg [o p4 (.p (.mv (.t p0))),
  o p5 (.p (.nck (.t p4))),
  o p6 (.p (.fa 1 (.t p5))),
  n (.w (.st 1 (.t p6) (.c (.bool true))))])
  (.skip))⟩
def c279 : CFunc := ⟨[.t p2], .seq (.reg [o p2 (.p (.mv (.c (.bool false))))])
  (.seq (.block 0 (.seq (.seq (.reg [o p4 (.p (.mv (.t p0))),
  o p5 (.p (.bin .i .geq (.t p4) (.c (.int .i32 97)))),
  o p6 (.p (.mv (.t p5))),
  g (some p7) p6 true (.p (.mv (.t p0))),
  g (some p8) p6 true (.p (.bin .i .leq (.t p7) (.c (.int .i32 122)))),
  o p9 (.p (.pick (.t p6) (.t p8) (.c (.bool false)))),
  o p3 (.p (.mv (.t p9)))])
  (.cond (.t p3) (.skip)
  (.seq (.reg [o p10 (.p (.mv (.t p0))),
  o p11 (.p (.bin .i .geq (.t p10) (.c (.int .i32 65)))),
  o p12 (.p (.mv (.t p11))),
  g (some p13) p12 true (.p (.mv (.t p0))),
  g (some p14) p12 true (.p (.bin .i .leq (.t p13) (.c (.int .i32 90)))),
  o p15 (.p (.pick (.t p12) (.t p14) (.c (.bool false)))),
  o p3 (.p (.mv (.t p15)))])
  (.cond (.t p3) (.skip)
  (.reg [o p16 (.p (.mv (.t p0))),
  o p17 (.p (.bin .i .geq (.t p16) (.c (.int .i32 48)))),
  o p18 (.p (.mv (.t p17))),
  g (some p19) p18 true (.p (.mv (.t p0))),
  g (some p20) p18 true (.p (.bin .i .leq (.t p19) (.c (.int .i32 57)))),
  o p21 (.p (.pick (.t p18) (.t p20) (.c (.bool false)))),
  o p3 (.p (.mv (.t p21)))])))))
  (.cond (.t p3) (.seq (.reg [o p2 (.p (.mv (.c (.bool true))))])
  (.ret))
  (.seq (.seq (.reg [o p23 (.p (.mv (.t p0))),
  o p24 (.p (.bin .i .eql (.t p23) (.c (.int .i32 46)))),
  o p22 (.p (.mv (.t p24)))])
  (.cond (.t p22) (.skip)
  (.seq (.reg [o p25 (.p (.mv (.t p0))),
  o p26 (.p (.bin .i .eql (.t p25) (.c (.int .i32 45)))),
  o p22 (.p (.mv (.t p26)))])
  (.cond (.t p22) (.skip)
  (.reg [o p27 (.p (.mv (.t p0))),
  o p28 (.p (.bin .i .eql (.t p27) (.c (.int .i32 95)))),
  o p22 (.p (.mv (.t p28)))])))))
  (.cond (.t p22) (.seq (.reg [o p2 (.p (.mv (.c (.bool true))))])
  (.ret))
  (.skip))))))
  (.seq (.reg [o p2 (.p (.mv (.c (.bool false))))])
  (.ret)))⟩
def c280 : CFunc := ⟨[.t p2], .seq (.reg [o p2 (.p (.mv (.c (.int .u32 0))))])
  (.seq (.reg [o p3 (.p (.mv (.t p0))),
  o p4 (.call 129 [(.c (.int .i64 26))]),
  o p5 (.p (.bin .i .and (.t p3) (.t p4))),
  o p2 (.p (.mv (.t p5)))])
  (.ret))⟩
def c281 : CFunc := ⟨[.t p4], .seq (.reg [o p4 (.p (.mv (.c (.int .u64 0))))])
  (.seq (.seq (.reg [o p5 (.p (.mv (.t p1))),
  o p6 (.call 327 [(.t p5)]),
  o p7 (.p (.un .not (.t p6)))])
  (.cond (.t p7) (.seq (.reg [o p8 (.p (.mv (.t p0))),
  o p4 (.p (.mv (.t p8)))])
  (.ret))
  (.skip)))
  (.seq (.reg [o p9 (.p (.mv (.t p0))),
  o p10 (.p (.mv (.t p1))),
  o p11 (.call 328 [(.t p10)]),
  o p12 (.p (.bin .i .or (.t p9) (.t p11))),
  o p4 (.p (.mv (.t p12)))])
  (.ret)))⟩
def c282 : CFunc := ⟨[.t p2], .seq (.reg [o p1 (.a (.box 2 (.t p0))),
  o p2 (.p (.mv (.c (.bool false))))])
  (.seq (.reg [o p3 (.p (.fa 0 (.t p1))),
  o p4 (.r (.ld 1 false (.t p3))),
  o p5 (.call 221 [(.t p4)]),
  o p6 (.p (.mv (.t p5))),
  g (some p7) p6 true (.p (.fa 1 (.t p1))),
  g (some p8) p6 true (.r (.ld 1 false (.t p7))),
  g (some p9) p6 true (.call 221 [(.t p8)]),
  o p10 (.p (.pick (.t p6) (.t p9) (.c (.bool false)))),
  o p2 (.p (.mv (.t p10)))])
  (.ret))⟩
def c283 : CFunc := ⟨[.t p2], .seq (.reg [o p2 (.p (.mv (.c (.int .i64 0))))])
  (.seq (.reg [o p3 (.p (.mv (.c (.int .i64 0))))])
  (.seq (.block 0 (.loop (.seq (.seq (.reg [o p4 (.p (.mv (.t p0))),
  o p5 (.p (.bin .i .neq (.t p4) (.c (.int .u64 0))))])
  (.cond (.t p5) (.skip)
  (.exit 0)))
  (.seq (.block 1 (.reg [o p10 (.p (.mv (.t p3))),
  o p11 (.p (.bin .i .add (.t p10) (.c (.int .i64 1)))),
  o p3 (.p (.mv (.t p11)))]))
  (.reg [o p6 (.p (.mv (.t p0))),
  o p7 (.p (.mv (.t p0))),
  o p8 (.p (.bin .i .sub (.t p7) (.c (.int .u64 1)))),
  o p9 (.p (.bin .i .and (.t p6) (.t p8))),
  o p0 (.p (.mv (.t p9)))])))))
  (.seq (.reg [o p12 (.p (.mv (.t p3))),
  o p2 (.p (.mv (.t p12)))])
  (.ret))))⟩
def c284 : CFunc := ⟨[.t p4], .seq (.reg [o p4 (.p (.mv (.c (.bool false))))])
  (.seq (.reg [o p5 (.p (.mv (.t p1))),
  o p6 (.call 327 [(.t p5)]),
  o p7 (.p (.mv (.t p6))),
  g (some p8) p7 true (.p (.mv (.t p0))),
  g (some p9) p7 true (.p (.mv (.t p1))),
  g (some p10) p7 true (.p (.bin .i .shr (.t p8) (.t p9))),
  g (some p11) p7 true (.p (.bin .i .and (.t p10) (.c (.int .u64 1)))),
  g (some p12) p7 true (.p (.bin .i .eql (.t p11) (.c (.int .u64 1)))),
  o p13 (.p (.pick (.t p7) (.t p12) (.c (.bool false)))),
  o p4 (.p (.mv (.t p13)))])
  (.ret))⟩
def c285 : CFunc := ⟨[], .seq (.reg [o p10 (.p (.mv (.t p1))),
  o p8 (.p (.mv (.t p10)))])
  (.block 0 (.loop (.block 1 (.seq (.reg [o p11 (.p (.mv (.t p8))),
  o p12 (.p (.bin .i .mul (.c (.int .i64 2)) (.t p11))),
  o p13 (.p (.bin .i .add (.t p12) (.c (.int .i64 1)))),
  o p9 (.p (.mv (.t p13)))])
  (.seq (.seq (.reg [o p14 (.p (.mv (.t p9))),
  o p15 (.p (.mv (.t p2))),
  o p16 (.p (.bin .i .geq (.t p14) (.t p15)))])
  (.cond (.t p16) (.exit 0)
  (.skip)))
  (.seq (.seq (.dreg [o p17 (.p (.mv (.t p9))),
  o p18 (.p (.bin .i .add (.t p17) (.c (.int .i64 1)))),
  o p19 (.p (.mv (.t p2))),
  o p20 (.p (.bin .i .lss (.t p18) (.t p19))),
  o p21 (.p (.mv (.t p20))),
  g (some p22) p21 true (.p (.mv (.t p0))),
  g (some p23) p21 true (.p (.mv (.t p3))),
  g (some p24) p21 true (.p (.mv (.t p9))),
  g (some p25) p21 true (.p (.bin .i .add (.t p23) (.t p24))),
  g (some p26) p21 true (.p (.iaL 1 (.t p22) (.t p25))),
  g (some p27) p21 true (.r (.ld 1 false (.t p26))),
  g (some p28) p21 true (.p (.mv (.t p0))),
  g (some p29) p21 true (.p (.mv (.t p3))),
  g (some p30) p21 true (.p (.mv (.t p9))),
  g (some p31) p21 true (.p (.bin .i .add (.t p29) (.t p30))),
  g (some p32) p21 true (.p (.bin .i .add (.t p31) (.c (.int .i64 1)))),
  g (some p33) p21 true (.p (.iaL 1 (.t p28) (.t p32))),
  g (some p34) p21 true (.r (.ld 1 false (.t p33))),
  g (some p35) p21 true (.call 235 [(.t p27), (.t p34)]),
  o p36 (.p (.pick (.t p21) (.t p35) (.c (.bool false))))] [[], [], [], [], [], [], [], [], [], [], [], [], [], [], [], [], [], [], [], []])
  (.cond (.t p36) (.reg [o p37 (.p (.mv (.t p9))),
  o p38 (.p (.bin .i .add (.t p37) (.c (.int .i64 1)))),
  o p9 (.p (.mv (.t p38)))])
  (.skip)))
  (.seq (.seq (.dreg [o p39 (.p (.mv (.t p0))),
  o p40 (.p (.mv (.t p3))),
  o p41 (.p (.mv (.t p8))),
  o p42 (.p (.bin .i .add (.t p40) (.t p41))),
  o p43 (.p (.iaL 1 (.t p39) (.t p42))),
  o p44 (.r (.ld 1 false (.t p43))),
  o p45 (.p (.mv (.t p0))),
  o p46 (.p (.mv (.t p3))),
  o p47 (.p (.mv (.t p9))),
  o p48 (.p (.bin .i .add (.t p46) (.t p47))),
  o p49 (.p (.iaL 1 (.t p45) (.t p48))),
  o p50 (.r (.ld 1 false (.t p49))),
  o p51 (.call 235 [(.t p44), (.t p50)]),
  o p52 (.p (.un .not (.t p51)))] [[], [], [], [], [], [], [], [], [], [], [], [], [], []])
  (.cond (.t p52) (.ret)
  (.skip)))
  (.seq (.dreg [o p53 (.p (.mv (.t p0))),
  o p54 (.p (.mv (.t p3))),
  o p55 (.p (.mv (.t p8))),
  o p56 (.p (.bin .i .add (.t p54) (.t p55))),
  o p57 (.p (.mv (.t p0))),
  o p58 (.p (.mv (.t p3))),
  o p59 (.p (.mv (.t p9))),
  o p60 (.p (.bin .i .add (.t p58) (.t p59))),
  o p61 (.p (.mv (.t p0))),
  o p62 (.p (.mv (.t p3))),
  o p63 (.p (.mv (.t p9))),
  o p64 (.p (.bin .i .add (.t p62) (.t p63))),
  o p65 (.p (.iaL 1 (.t p61) (.t p64))),
  o p66 (.r (.ld 1 false (.t p65))),
  o p67 (.p (.mv (.t p0))),
  o p68 (.p (.mv (.t p3))),
  o p69 (.p (.mv (.t p8))),
  o p70 (.p (.bin .i .add (.t p68) (.t p69))),
  o p71 (.p (.iaL 1 (.t p67) (.t p70))),
  o p72 (.r (.ld 1 false (.t p71))),
  o p73 (.p (.iaL 1 (.t p53) (.t p56))),
  n (.w (.st 1 (.t p73) (.t p66))),
  o p74 (.p (.iaL 1 (.t p57) (.t p60))),
  n (.w (.st 1 (.t p74) (.t p72)))] [[], [], [], [], [], [], [], [], [], [], [], [], [], [], [], [], [], [], [], [], [], [], [], []])
  (.reg [o p75 (.p (.mv (.t p9))),
  o p8 (.p (.mv (.t p75)))])))))))))⟩
def c286 : CFunc := ⟨[.t p2], .seq (.reg [o p2 (.p (.mv (.c (.int .u64 0))))])
  (.seq (.reg [o p3 (.p (.mv (.t p0))),
  o p4 (.p (.conv .u64 (.t p3))),
  o p5 (.call 150 [(.t p4)]),
  o p6 (.p (.bin .i .shl (.c (.int .u64 1)) (.t p5))),
  o p2 (.p (.mv (.t p6)))])
  (.ret))⟩
def c287 : CFunc := ⟨[.t p2], .seq (.reg [o p2 (.p (.mv (.c (.int .u64 0))))])
  (.seq (.dreg [o p3 (.p (.mv (.t p0))),
  o p4 (.p (.nck (.t p3))),
  o p5 (.r (.ld 1 false (.t p4))),
  o p6 (.p (.mv (.t p0))),
  o p7 (.p (.nck (.t p6))),
  o p8 (.r (.ld 1 false (.t p7))),
  o p9 (.p (.bin .i .shl (.t p8) (.c (.int .u64 13)))),
  o p10 (.p (.bin .i .xor (.t p5) (.t p9))),
  o p11 (.p (.nck (.t p3))),
  n (.w (.st 1 (.t p11) (.t p10)))] [[], [], [], [], [], [], [], [], [], []])
  (.seq (.dreg [o p12 (.p (.mv (.t p0))),
  o p13 (.p (.nck (.t p12))),
  o p14 (.r (.ld 1 false (.t p13))),
  o p15 (.p (.mv (.t p0))),
  o p16 (.p (.nck (.t p15))),
  o p17 (.r (.ld 1 false (.t p16))),
  o p18 (.p (.bin .i .shr (.t p17) (.c (.int .u64 7)))),
  o p19 (.p (.bin .i .xor (.t p14) (.t p18))),
  o p20 (.p (.nck (.t p12))),
  n (.w (.st 1 (.t p20) (.t p19)))] [[], [], [], [], [], [], [], [], [], []])
  (.seq (.dreg [o p21 (.p (.mv (.t p0))),
  o p22 (.p (.nck (.t p21))),
  o p23 (.r (.ld 1 false (.t p22))),
  o p24 (.p (.mv (.t p0))),
  o p25 (.p (.nck (.t p24))),
  o p26 (.r (.ld 1 false (.t p25))),
  o p27 (.p (.bin .i .shl (.t p26) (.c (.int .u64 17)))),
  o p28 (.p (.bin .i .xor (.t p23) (.t p27))),
  o p29 (.p (.nck (.t p21))),
  n (.w (.st 1 (.t p29) (.t p28)))] [[], [], [], [], [], [], [], [], [], []])
  (.seq (.reg [o p30 (.p (.mv (.t p0))),
  o p31 (.p (.nck (.t p30))),
  o p32 (.r (.ld 1 false (.t p31))),
  o p2 (.p (.mv (.t p32)))])
  (.ret)))))⟩
def c288 : CFunc := ⟨[.t p6], .seq (.reg [o p6 (.p (.mv (.c (.int .i64 0))))])
  (.seq (.reg [o p7 (.p (.mv (.t p0))),
  o p8 (.p (.mv (.t p1))),
  o p9 (.p (.bin .i .sub (.t p8) (.c (.int .i64 1)))),
  o p10 (.p (.mv (.t p1))),
  o p11 (.p (.mv (.t p1))),
  o p12 (.p (.bin .i .add (.t p11) (.c (.int .i64 1)))),
  o p13 (.p (.mv (.t p2))),
  o p14 (.call 289 [(.t p7), (.t p9), (.t p10), (.t p12), (.t p13)]),
  o p6 (.p (.mv (.t p14)))])
  (.ret))⟩
def c289 : CFunc := ⟨[.t p10], .seq (.reg [o p10 (.p (.mv (.c (.int .i64 0))))])
  (.seq (.reg [o p12 (.p (.mv (.t p0))),
  o p13 (.p (.mv (.t p1))),
  o p14 (.p (.mv (.t p2))),
  o p15 (.p (.mv (.t p4))),
  o p16 (.call 329 [(.t p12), (.t p13), (.t p14), (.t p15)]),
  o p11 (.p (.mv (.t p16))),
  o p17 (.p (.ext 0 (.t p11))),
  o p18 (.p (.ext 1 (.t p11))),
  o p1 (.p (.mv (.t p17))),
  o p2 (.p (.mv (.t p18)))])
  (.seq (.reg [o p20 (.p (.mv (.t p0))),
  o p21 (.p (.mv (.t p2))),
  o p22 (.p (.mv (.t p3))),
  o p23 (.p (.mv (.t p4))),
  o p24 (.call 329 [(.t p20), (.t p21), (.t p22), (.t p23)]),
  o p19 (.p (.mv (.t p24))),
  o p25 (.p (.ext 0 (.t p19))),
  o p26 (.p (.ext 1 (.t p19))),
  o p2 (.p (.mv (.t p25))),
  o p3 (.p (.mv (.t p26)))])
  (.seq (.reg [o p28 (.p (.mv (.t p0))),
  o p29 (.p (.mv (.t p1))),
  o p30 (.p (.mv (.t p2))),
  o p31 (.p (.mv (.t p4))),
  o p32 (.call 329 [(.t p28), (.t p29), (.t p30), (.t p31)]),
  o p27 (.p (.mv (.t p32))),
  o p33 (.p (.ext 0 (.t p27))),
  o p34 (.p (.ext 1 (.t p27))),
  o p1 (.p (.mv (.t p33))),
  o p2 (.p (.mv (.t p34)))])
  (.seq (.reg [o p35 (.p (.mv (.t p2))),
  o p10 (.p (.mv (.t p35)))])
  (.ret)))))⟩
def c290 : CFunc := ⟨[.t p2], .seq (.reg [o p2 (.p (.mv (.c (.bool false))))])
  (.seq (.reg [o p3 (.p (.mv (.t p0))),
  o p4 (.p (.mv (.t p0))),
  o p5 (.p (.bin .i .neq (.t p3) (.t p4))),
  o p2 (.p (.mv (.t p5)))])
  (.ret))⟩
def c291 : CFunc := ⟨[.cell p4 4 true, .cell p5 4 true, .t p6], .seq (.reg [o p2 (.a (.box 2 (.t p0))),
  o p3 (.a (.box 6 (.t p1))),
  o p4 (.a (.alc [(.int .i64 0), (.int .i64 0), (.string ⟨⟨[]⟩⟩), (.slice none 0 0)])),
  o p5 (.a (.alc [(.string ⟨⟨[]⟩⟩), (.string ⟨⟨[]⟩⟩), (.int .i64 0), (.bool false)])),
  o p6 (.p (.mv (.c (.bool false))))])
  (.seq (.reg [o p11 (.r (.ld 2 true (.t p2))),
  o p12 (.p (.fa 1 (.t p3))),
  o p13 (.r (.ld 1 false (.t p12))),
  o p14 (.call 330 [(.t p11), (.t p13)]),
  o p10 (.p (.mv (.t p14))),
  o p15 (.p (.ext 0 (.t p10))),
  o p16 (.p (.ext 1 (.t p10))),
  o p7 (.a (.alc [(.string ⟨⟨[]⟩⟩), (.string ⟨⟨[]⟩⟩), (.int .i64 0)])),
  n (.w (.st 3 (.t p7) (.t p15))),
  o p8 (.p (.mv (.t p16)))])
  (.seq (.seq (.reg [o p17 (.p (.fa 0 (.t p3))),
  o p18 (.r (.ld 1 false (.t p17))),
  o p19 (.p (.bin .i .eql (.t p18) (.c (.int .i64 1)))),
  o p20 (.p (.mv (.t p19))),
  g (some p21) p20 true (.p (.mv (.t p8))),
  o p22 (.p (.pick (.t p20) (.t p21) (.c (.bool false))))])
  (.cond (.t p22) (.seq (.reg [o p23 (.p (.fa 2 (.t p7))),
  o p24 (.r (.ld 1 false (.t p23))),
  o p25 (.p (.fa 1 (.t p7))),
  o p26 (.r (.ld 1 false (.t p25))),
  o p27 (.p (.bld [(.int .i64 0), (.int .i64 0), (.string ⟨⟨[]⟩⟩), (.slice none 0 0)] [(1, 1, (.t p24)), (2, 1, (.t p26))])),
  o p28 (.p (.bld [(.string ⟨⟨[]⟩⟩), (.string ⟨⟨[]⟩⟩), (.int .i64 0), (.bool false)] [])),
  n (.w (.st 4 (.t p4) (.t p27))),
  n (.w (.st 4 (.t p5) (.t p28))),
  o p6 (.p (.mv (.c (.bool false))))])
  (.ret))
  (.skip)))
  (.seq (.seq (.reg [o p29 (.p (.fa 0 (.t p3))),
  o p30 (.r (.ld 1 false (.t p29))),
  o p31 (.p (.bin .i .eql (.t p30) (.c (.int .i64 1))))])
  (.cond (.t p31) (.seq (.reg [o p32 (.p (.bld [(.int .i64 0), (.int .i64 0), (.string ⟨⟨[]⟩⟩), (.slice none 0 0)] [(0, 1, (.c (.int .i64 6)))])),
  o p33 (.p (.bld [(.string ⟨⟨[]⟩⟩), (.string ⟨⟨[]⟩⟩), (.int .i64 0), (.bool false)] [])),
  n (.w (.st 4 (.t p4) (.t p32))),
  n (.w (.st 4 (.t p5) (.t p33))),
  o p6 (.p (.mv (.c (.bool false))))])
  (.ret))
  (.skip)))
  (.seq (.seq (.reg [o p34 (.p (.fa 0 (.t p3))),
  o p35 (.r (.ld 1 false (.t p34))),
  o p36 (.p (.bin .i .eql (.t p35) (.c (.int .i64 2))))])
  (.cond (.t p36) (.seq (.dreg [o p37 (.p (.fa 0 (.t p2))),
  o p38 (.r (.ld 1 false (.t p37))),
  o p39 (.r (.ld 2 true (.t p2))),
  o p40 (.p (.fa 1 (.t p3))),
  o p41 (.r (.ld 1 false (.t p40))),
  o p44 (.p (.bld [(.string ⟨⟨[]⟩⟩), (.string ⟨⟨[]⟩⟩), (.int .i64 0), (.bool false)] [])),
  o p42 (.call 331 [(.t p39), (.t p41)]),
  o p43 (.p (.bld [(.int .i64 0), (.int .i64 0), (.string ⟨⟨[]⟩⟩), (.slice none 0 0)] [(1, 1, (.t p38)), (3, 1, (.t p42))])),
  n (.w (.st 4 (.t p4) (.t p43))),
  n (.w (.st 4 (.t p5) (.t p44))),
  o p6 (.p (.mv (.c (.bool false))))] [[], [], [], [], [], [], [1], [], [], [], []])
  (.ret))
  (.skip)))
  (.seq (.reg [o p9 (.p (.mv (.c (.int .i64 0))))])
  (.seq (.block 0 (.seq (.reg [o p46 (.p (.fa 0 (.t p3))),
  o p47 (.r (.ld 1 false (.t p46))),
  o p48 (.p (.bin .i .lss (.t p47) (.c (.int .i64 3)))),
  o p49 (.p (.mv (.t p48))),
  g (some p50) p49 false (.p (.fa 0 (.t p3))),
  g (some p51) p49 false (.r (.ld 1 false (.t p50))),
  g (some p52) p49 false (.p (.bin .i .gtr (.t p51) (.c (.int .i64 5)))),
  o p53 (.p (.pick (.t p49) (.c (.bool true)) (.t p52))),
  o p45 (.p (.mv (.t p53)))])
  (.cond (.t p45) (.reg [o p9 (.p (.mv (.c (.int .i64 1))))])
  (.seq (.reg [o p55 (.p (.fa 1 (.t p3))),
  o p56 (.r (.ld 1 false (.t p55))),
  o p57 (.call 332 [(.t p56)]),
  o p58 (.p (.un .not (.t p57))),
  o p54 (.p (.mv (.t p58)))])
  (.cond (.t p54) (.reg [o p9 (.p (.mv (.c (.int .i64 1))))])
  (.seq (.reg [o p60 (.p (.fa 0 (.t p3))),
  o p61 (.r (.ld 1 false (.t p60))),
  o p62 (.p (.bin .i .lss (.t p61) (.c (.int .i64 5)))),
  o p63 (.p (.mv (.t p62))),
  g (some p64) p63 true (.p (.fa 2 (.t p3))),
  g (some p65) p63 true (.r (.ld 1 false (.t p64))),
  g (some p66) p63 true (.p (.lenP true (.t p65))),
  g (some p67) p63 true (.p (.bin .i .gtr (.t p66) (.c (.int .i64 65536)))),
  o p68 (.p (.pick (.t p63) (.t p67) (.c (.bool false)))),
  o p59 (.p (.mv (.t p68)))])
  (.cond (.t p59) (.reg [o p9 (.p (.mv (.c (.int .i64 1))))])
  (.seq (.reg [o p70 (.p (.fa 0 (.t p3))),
  o p71 (.r (.ld 1 false (.t p70))),
  o p72 (.p (.bin .i .eql (.t p71) (.c (.int .i64 3)))),
  o p73 (.p (.mv (.t p72))),
  g (some p74) p73 true (.p (.mv (.t p8))),
  o p75 (.p (.pick (.t p73) (.t p74) (.c (.bool false)))),
  o p69 (.p (.mv (.t p75)))])
  (.cond (.t p69) (.reg [o p9 (.p (.mv (.c (.int .i64 7))))])
  (.seq (.reg [o p77 (.p (.fa 0 (.t p3))),
  o p78 (.r (.ld 1 false (.t p77))),
  o p79 (.p (.bin .i .gtr (.t p78) (.c (.int .i64 3)))),
  o p80 (.p (.mv (.t p79))),
  g (some p81) p80 true (.p (.mv (.t p8))),
  g (some p82) p80 true (.p (.un .not (.t p81))),
  o p83 (.p (.pick (.t p80) (.t p82) (.c (.bool false)))),
  o p76 (.p (.mv (.t p83)))])
  (.cond (.t p76) (.reg [o p9 (.p (.mv (.c (.int .i64 6))))])
  (.seq (.reg [o p85 (.p (.fa 0 (.t p3))),
  o p86 (.r (.ld 1 false (.t p85))),
  o p87 (.p (.bin .i .gtr (.t p86) (.c (.int .i64 3)))),
  o p88 (.p (.mv (.t p87))),
  g (some p89) p88 true (.p (.fa 2 (.t p7))),
  g (some p90) p88 true (.r (.ld 1 false (.t p89))),
  g (some p91) p88 true (.p (.fa 3 (.t p3))),
  g (some p92) p88 true (.r (.ld 1 false (.t p91))),
  g (some p93) p88 true (.p (.bin .i .neq (.t p90) (.t p92))),
  o p94 (.p (.pick (.t p88) (.t p93) (.c (.bool false)))),
  o p84 (.p (.mv (.t p94)))])
  (.cond (.t p84) (.reg [o p9 (.p (.mv (.c (.int .i64 8))))])
  (.seq (.reg [o p96 (.p (.fa 4 (.t p3))),
  o p97 (.r (.ld 1 false (.t p96))),
  o p98 (.p (.bin .s .neq (.t p97) (.c (.string ⟨⟨[]⟩⟩)))),
  o p99 (.p (.mv (.t p98))),
  g (some p100) p99 true (.r (.ld 2 true (.t p2))),
  g (some p101) p99 true (.p (.fa 4 (.t p3))),
  g (some p102) p99 true (.r (.ld 1 false (.t p101))),
  g (some p103) p99 true (.p (.fa 5 (.t p3))),
  g (some p104) p99 true (.r (.ld 1 false (.t p103))),
  g (some p105) p99 true (.call 333 [(.t p100), (.t p102), (.t p104)]),
  g (some p106) p99 true (.p (.un .not (.t p105))),
  o p107 (.p (.pick (.t p99) (.t p106) (.c (.bool false)))),
  o p95 (.p (.mv (.t p107)))])
  (.cond (.t p95) (.reg [o p9 (.p (.mv (.c (.int .i64 8))))])
  (.skip))))))))))))))))
  (.seq (.seq (.reg [o p108 (.p (.mv (.t p9))),
  o p109 (.p (.bin .i .neq (.t p108) (.c (.int .i64 0))))])
  (.cond (.t p109) (.seq (.reg [o p110 (.p (.mv (.t p9))),
  o p111 (.p (.bld [(.int .i64 0), (.int .i64 0), (.string ⟨⟨[]⟩⟩), (.slice none 0 0)] [(0, 1, (.t p110))])),
  o p112 (.p (.bld [(.string ⟨⟨[]⟩⟩), (.string ⟨⟨[]⟩⟩), (.int .i64 0), (.bool false)] [])),
  n (.w (.st 4 (.t p4) (.t p111))),
  n (.w (.st 4 (.t p5) (.t p112))),
  o p6 (.p (.mv (.c (.bool false))))])
  (.ret))
  (.skip)))
  (.seq (.seq (.reg [o p113 (.p (.fa 0 (.t p3))),
  o p114 (.r (.ld 1 false (.t p113))),
  o p115 (.p (.bin .i .eql (.t p114) (.c (.int .i64 5))))])
  (.cond (.t p115) (.seq (.dreg [o p116 (.p (.fa 0 (.t p2))),
  o p117 (.r (.ld 1 false (.t p116))),
  o p118 (.p (.bin .i .add (.t p117) (.c (.int .i64 1)))),
  o p119 (.p (.bld [(.int .i64 0), (.int .i64 0), (.string ⟨⟨[]⟩⟩), (.slice none 0 0)] [(1, 1, (.t p118))])),
  o p120 (.p (.fa 1 (.t p3))),
  o p121 (.r (.ld 1 false (.t p120))),
  o p122 (.p (.fa 0 (.t p2))),
  o p123 (.r (.ld 1 false (.t p122))),
  o p124 (.p (.bin .i .add (.t p123) (.c (.int .i64 1)))),
  o p125 (.p (.bld [(.string ⟨⟨[]⟩⟩), (.string ⟨⟨[]⟩⟩), (.int .i64 0), (.bool false)] [(0, 1, (.t p121)), (2, 1, (.t p124)), (3, 1, (.c (.bool true)))])),
  n (.w (.st 4 (.t p4) (.t p119))),
  n (.w (.st 4 (.t p5) (.t p125))),
  o p6 (.p (.mv (.c (.bool true))))] [[], [], [], [], [], [], [], [], [], [], [5, 7], [], []])
  (.ret))
  (.skip)))
  (.seq (.dreg [o p126 (.p (.fa 0 (.t p2))),
  o p127 (.r (.ld 1 false (.t p126))),
  o p128 (.p (.bin .i .add (.t p127) (.c (.int .i64 1)))),
  o p129 (.p (.bld [(.int .i64 0), (.int .i64 0), (.string ⟨⟨[]⟩⟩), (.slice none 0 0)] [(1, 1, (.t p128))])),
  o p130 (.p (.fa 1 (.t p3))),
  o p131 (.r (.ld 1 false (.t p130))),
  o p132 (.p (.fa 2 (.t p3))),
  o p133 (.r (.ld 1 false (.t p132))),
  o p134 (.p (.fa 0 (.t p2))),
  o p135 (.r (.ld 1 false (.t p134))),
  o p136 (.p (.bin .i .add (.t p135) (.c (.int .i64 1)))),
  o p137 (.p (.bld [(.string ⟨⟨[]⟩⟩), (.string ⟨⟨[]⟩⟩), (.int .i64 0), (.bool false)] [(0, 1, (.t p131)), (1, 1, (.t p133)), (2, 1, (.t p136))])),
  n (.w (.st 4 (.t p4) (.t p129))),
  n (.w (.st 4 (.t p5) (.t p137))),
  o p6 (.p (.mv (.c (.bool true))))] [[], [], [], [], [], [], [], [], [], [], [], [], [5, 7, 9], [], []])
  (.ret))))))))))⟩
def c292 : CFunc := ⟨[.cell p4 2 true], .seq (.reg [o p2 (.a (.box 2 (.t p0))),
  o p3 (.a (.box 4 (.t p1))),
  o p4 (.a (.alc [(.int .i64 0), (.slice none 0 0)]))])
  (.seq (.reg [o p9 (.p (.fa 2 (.t p3))),
  o p10 (.r (.ld 1 false (.t p9))),
  o p11 (.p (.bld [(.int .i64 0), (.slice none 0 0)] [(0, 1, (.t p10))])),
  o p5 (.a (.alc [(.int .i64 0), (.slice none 0 0)])),
  n (.w (.st 2 (.t p5) (.t p11)))])
  (.seq (.reg [o p12 (.p (.fa 3 (.t p3))),
  o p13 (.r (.ld 1 false (.t p12))),
  o p6 (.p (.mv (.t p13)))])
  (.seq (.seq (.reg [o p14 (.p (.fa 1 (.t p2))),
  o p15 (.r (.ld 1 false (.t p14))),
  o p16 (.p (.lenP false (.t p15))),
  o p17 (.p (.mv (.c (.int .i64 0))))])
  (.block 0 (.loop (.seq (.reg [o p18 (.p (.bin .i .lss (.t p17) (.t p16)))])
  (.seq (.cond (.t p18) (.skip)
  (.exit 0))
  (.seq (.block 1 (.seq (.reg [o p19 (.p (.iaL 3 (.t p15) (.t p17))),
  o p20 (.r (.ld 3 true (.t p19))),
  o p8 (.a (.alc [(.string ⟨⟨[]⟩⟩), (.string ⟨⟨[]⟩⟩), (.int .i64 0)])),
  n (.w (.st 3 (.t p8) (.t p20)))])
  (.seq (.seq (.reg [o p21 (.p (.mv (.t p6))),
  o p22 (.p (.un .not (.t p21))),
  o p23 (.p (.mv (.t p22))),
  g (some p24) p23 true (.p (.fa 0 (.t p8))),
  g (some p25) p23 true (.r (.ld 1 false (.t p24))),
  g (some p26) p23 true (.p (.fa 0 (.t p3))),
  g (some p27) p23 true (.r (.ld 1 false (.t p26))),
  g (some p28) p23 true (.p (.bin .s .gtr (.t p25) (.t p27))),
  o p29 (.p (.pick (.t p23) (.t p28) (.c (.bool false))))])
  (.cond (.t p29) (.seq (.reg [o p30 (.p (.fa 1 (.t p5))),
  o p31 (.r (.ld 1 false (.t p30))),
  o p32 (.p (.fa 0 (.t p3))),
  o p33 (.r (.ld 1 false (.t p32))),
  o p34 (.p (.fa 1 (.t p3))),
  o p35 (.r (.ld 1 false (.t p34))),
  o p36 (.p (.fa 2 (.t p3))),
  o p37 (.r (.ld 1 false (.t p36))),
  o p38 (.p (.bld [(.string ⟨⟨[]⟩⟩), (.string ⟨⟨[]⟩⟩), (.int .i64 0)] [(0, 1, (.t p33)), (1, 1, (.t p35)), (2, 1, (.t p37))])),
  o p39 (.a (.bsl 3 1 [(.string ⟨⟨[]⟩⟩), (.string ⟨⟨[]⟩⟩), (.int .i64 0)] [(0, 3, (.t p38))])),
  o p40 (.w (.app 3 40 (.t p31) (.t p39))),
  o p41 (.p (.fa 1 (.t p5))),
  n (.w (.st 1 (.t p41) (.t p40)))])
  (.reg [o p6 (.p (.mv (.c (.bool true))))]))
  (.skip)))
  (.seq (.reg [o p42 (.p (.fa 0 (.t p8))),
  o p43 (.r (.ld 1 false (.t p42))),
  o p44 (.p (.fa 0 (.t p3))),
  o p45 (.r (.ld 1 false (.t p44))),
  o p46 (.p (.bin .s .neq (.t p43) (.t p45)))])
  (.cond (.t p46) (.reg [o p47 (.p (.fa 1 (.t p5))),
  o p48 (.r (.ld 1 false (.t p47))),
  o p49 (.r (.ld 3 true (.t p8))),
  o p50 (.a (.bsl 3 1 [(.string ⟨⟨[]⟩⟩), (.string ⟨⟨[]⟩⟩), (.int .i64 0)] [(0, 3, (.t p49))])),
  o p51 (.w (.app 3 40 (.t p48) (.t p50))),
  o p52 (.p (.fa 1 (.t p5))),
  n (.w (.st 1 (.t p52) (.t p51)))])
  (.skip))))))
  (.reg [o p53 (.p (.bin .i .add (.t p17) (.c (.int .i64 1)))),
  o p17 (.p (.mv (.t p53)))])))))))
  (.seq (.seq (.reg [o p54 (.p (.mv (.t p6))),
  o p55 (.p (.un .not (.t p54)))])
  (.cond (.t p55) (.reg [o p56 (.p (.fa 1 (.t p5))),
  o p57 (.r (.ld 1 false (.t p56))),
  o p58 (.p (.fa 0 (.t p3))),
  o p59 (.r (.ld 1 false (.t p58))),
  o p60 (.p (.fa 1 (.t p3))),
  o p61 (.r (.ld 1 false (.t p60))),
  o p62 (.p (.fa 2 (.t p3))),
  o p63 (.r (.ld 1 false (.t p62))),
  o p64 (.p (.bld [(.string ⟨⟨[]⟩⟩), (.string ⟨⟨[]⟩⟩), (.int .i64 0)] [(0, 1, (.t p59)), (1, 1, (.t p61)), (2, 1, (.t p63))])),
  o p65 (.a (.bsl 3 1 [(.string ⟨⟨[]⟩⟩), (.string ⟨⟨[]⟩⟩), (.int .i64 0)] [(0, 3, (.t p64))])),
  o p66 (.w (.app 3 40 (.t p57) (.t p65))),
  o p67 (.p (.fa 1 (.t p5))),
  n (.w (.st 1 (.t p67) (.t p66)))])
  (.skip)))
  (.seq (.reg [o p68 (.r (.ld 2 true (.t p5))),
  n (.w (.st 2 (.t p4) (.t p68)))])
  (.ret))))))⟩
def c293 : CFunc := ⟨[.cell p6 5 true], .seq (.reg [o p3 (.a (.box 5 (.t p0))),
  o p5 (.a (.box 2 (.t p2))),
  o p6 (.a (.alc [(.int .u32 0), (.string ⟨⟨[]⟩⟩), (.slice none 0 0), (.slice none 0 0), (.slice none 0 0)]))])
  (.seq (.reg [o p13 (.r (.ld 5 true (.t p3))),
  o p14 (.call 334 [(.t p13)]),
  n (.w (.st 5 (.t p3) (.t p14)))])
  (.seq (.reg [o p7 (.p (.mv (.c (.int .i64 (-1)))))])
  (.seq (.seq (.reg [o p15 (.p (.fa 4 (.t p3))),
  o p16 (.r (.ld 1 false (.t p15))),
  o p17 (.p (.lenP false (.t p16))),
  o p18 (.p (.mv (.c (.int .i64 0))))])
  (.block 0 (.loop (.seq (.reg [o p19 (.p (.bin .i .lss (.t p18) (.t p17)))])
  (.seq (.cond (.t p19) (.skip)
  (.exit 0))
  (.seq (.block 1 (.seq (.reg [o p20 (.p (.mv (.t p18))),
  o p21 (.p (.iaL 2 (.t p16) (.t p18))),
  o p22 (.r (.ld 2 true (.t p21))),
  o p9 (.a (.alc [(.string ⟨⟨[]⟩⟩), (.string ⟨⟨[]⟩⟩)])),
  o p8 (.p (.mv (.t p20))),
  n (.w (.st 2 (.t p9) (.t p22)))])
  (.seq (.reg [o p23 (.r (.ld 2 true (.t p9))),
  o p24 (.r (.ld 2 true (.t p5))),
  o p25 (.p (.eqA [1, 1] false (.t p23) (.t p24)))])
  (.cond (.t p25) (.reg [o p26 (.p (.mv (.t p8))),
  o p7 (.p (.mv (.t p26)))])
  (.skip)))))
  (.reg [o p27 (.p (.bin .i .add (.t p18) (.c (.int .i64 1)))),
  o p18 (.p (.mv (.t p27)))])))))))
  (.seq (.seq (.reg [o p28 (.p (.mv (.t p7))),
  o p29 (.p (.bin .i .lss (.t p28) (.c (.int .i64 0))))])
  (.cond (.t p29) (.seq (.reg [o p30 (.p (.fa 4 (.t p3))),
  o p31 (.r (.ld 1 false (.t p30))),
  o p32 (.p (.lenP false (.t p31))),
  o p7 (.p (.mv (.t p32)))])
  (.reg [o p33 (.p (.fa 4 (.t p3))),
  o p34 (.r (.ld 1 false (.t p33))),
  o p35 (.r (.ld 2 true (.t p5))),
  o p36 (.a (.bsl 2 1 [(.string ⟨⟨[]⟩⟩), (.string ⟨⟨[]⟩⟩)] [(0, 2, (.t p35))])),
  o p37 (.w (.app 2 32 (.t p34) (.t p36))),
  o p38 (.p (.fa 4 (.t p3))),
  n (.w (.st 1 (.t p38) (.t p37)))]))
  (.skip)))
  (.seq (.reg [o p39 (.p (.fa 2 (.t p3))),
  o p40 (.r (.ld 1 false (.t p39))),
  o p41 (.p (.mv (.t p1))),
  o p42 (.p (.mv (.t p7))),
  o p43 (.p (.bin .i .add (.t p42) (.c (.int .i64 1)))),
  o p44 (.p (.iaL 1 (.t p40) (.t p41))),
  n (.w (.st 1 (.t p44) (.t p43)))])
  (.seq (.reg [o p10 (.p (.mv (.c (.slice none 0 0))))])
  (.seq (.seq (.reg [o p45 (.p (.fa 3 (.t p3))),
  o p46 (.r (.ld 1 false (.t p45))),
  o p47 (.p (.lenP false (.t p46))),
  o p48 (.p (.mv (.c (.int .i64 0))))])
  (.block 2 (.loop (.seq (.reg [o p49 (.p (.bin .i .lss (.t p48) (.t p47)))])
  (.seq (.cond (.t p49) (.skip)
  (.exit 2))
  (.seq (.block 3 (.seq (.reg [o p50 (.p (.iaL 1 (.t p46) (.t p48))),
  o p51 (.r (.ld 1 false (.t p50))),
  o p12 (.p (.mv (.t p51)))])
  (.seq (.reg [o p52 (.p (.mv (.t p12))),
  o p53 (.p (.mv (.t p1))),
  o p54 (.p (.bin .i .neq (.t p52) (.t p53)))])
  (.cond (.t p54) (.reg [o p55 (.p (.mv (.t p10))),
  o p56 (.p (.mv (.t p12))),
  o p57 (.a (.bsl 1 1 [(.int .i64 0)] [(0, 1, (.t p56))])),
  o p58 (.w (.app 1 8 (.t p55) (.t p57))),
  o p10 (.p (.mv (.t p58)))])
  (.skip)))))
  (.reg [o p59 (.p (.bin .i .add (.t p48) (.c (.int .i64 1)))),
  o p48 (.p (.mv (.t p59)))])))))))
  (.seq (.reg [o p60 (.p (.mv (.t p10))),
  o p61 (.p (.fa 3 (.t p3))),
  n (.w (.st 1 (.t p61) (.t p60)))])
  (.seq (.reg [o p62 (.r (.ld 5 true (.t p3))),
  n (.w (.st 5 (.t p6) (.t p62)))])
  (.ret))))))))))⟩
def c294 : CFunc := ⟨[.t p2], .seq (.reg [o p2 (.p (.mv (.c (.string ⟨⟨[]⟩⟩))))])
  (.seq (.reg [o p3 (.p (.mv (.t p0))),
  o p4 (.call 335 [(.t p3), (.c (.int .i64 0))]),
  o p5 (.call 62 [(.t p4)]),
  o p6 (.p (.bin .s .add (.t p5) (.c (.string ⟨⟨[46]⟩⟩)))),
  o p7 (.p (.mv (.t p0))),
  o p8 (.call 335 [(.t p7), (.c (.int .i64 1))]),
  o p9 (.call 62 [(.t p8)]),
  o p10 (.p (.bin .s .add (.t p6) (.t p9))),
  o p11 (.p (.bin .s .add (.t p10) (.c (.string ⟨⟨[46]⟩⟩)))),
  o p12 (.p (.mv (.t p0))),
  o p13 (.call 335 [(.t p12), (.c (.int .i64 2))]),
  o p14 (.call 62 [(.t p13)]),
  o p15 (.p (.bin .s .add (.t p11) (.t p14))),
  o p16 (.p (.bin .s .add (.t p15) (.c (.string ⟨⟨[46]⟩⟩)))),
  o p17 (.p (.mv (.t p0))),
  o p18 (.call 335 [(.t p17), (.c (.int .i64 3))]),
  o p19 (.call 62 [(.t p18)]),
  o p20 (.p (.bin .s .add (.t p16) (.t p19))),
  o p2 (.p (.mv (.t p20)))])
  (.ret))⟩
def c295 : CFunc := ⟨[.cell p4 2 true, .t p5], .seq (.reg [o p2 (.a (.box 5 (.t p0))),
  o p4 (.a (.alc [(.string ⟨⟨[]⟩⟩), (.string ⟨⟨[]⟩⟩)])),
  o p5 (.p (.mv (.c (.bool false))))])
  (.seq (.seq (.reg [o p6 (.r (.ld 5 true (.t p2))),
  o p7 (.p (.mv (.t p1))),
  o p8 (.call 336 [(.t p6), (.t p7)]),
  o p9 (.p (.un .not (.t p8))),
  o p10 (.p (.mv (.t p9))),
  g (some p11) p10 false (.p (.fa 2 (.t p2))),
  g (some p12) p10 false (.r (.ld 1 false (.t p11))),
  g (some p13) p10 false (.p (.mv (.t p1))),
  g (some p14) p10 false (.p (.bin .i .rem (.t p13) (.c (.int .u32 64)))),
  g (some p15) p10 false (.p (.iaL 1 (.t p12) (.t p14))),
  g (some p16) p10 false (.r (.ld 1 false (.t p15))),
  g (some p17) p10 false (.p (.bin .i .eql (.t p16) (.c (.int .i64 0)))),
  o p18 (.p (.pick (.t p10) (.c (.bool true)) (.t p17)))])
  (.cond (.t p18) (.seq (.reg [o p19 (.p (.bld [(.string ⟨⟨[]⟩⟩), (.string ⟨⟨[]⟩⟩)] [])),
  n (.w (.st 2 (.t p4) (.t p19))),
  o p5 (.p (.mv (.c (.bool false))))])
  (.ret))
  (.skip)))
  (.seq (.dreg [o p20 (.p (.fa 4 (.t p2))),
  o p21 (.r (.ld 1 false (.t p20))),
  o p22 (.p (.fa 2 (.t p2))),
  o p23 (.r (.ld 1 false (.t p22))),
  o p24 (.p (.mv (.t p1))),
  o p25 (.p (.bin .i .rem (.t p24) (.c (.int .u32 64)))),
  o p26 (.p (.iaL 1 (.t p23) (.t p25))),
  o p27 (.r (.ld 1 false (.t p26))),
  o p28 (.p (.bin .i .sub (.t p27) (.c (.int .i64 1)))),
  o p29 (.p (.iaL 2 (.t p21) (.t p28))),
  o p30 (.r (.ld 2 true (.t p29))),
  n (.w (.st 2 (.t p4) (.t p30))),
  o p5 (.p (.mv (.c (.bool true))))] [[], [], [], [], [], [], [], [], [], [], [], [], []])
  (.ret)))⟩
def c297 : CFunc := ⟨[.t p2], .seq (.reg [o p1 (.a (.box 2 (.t p0))),
  o p2 (.p (.mv (.c (.string ⟨⟨[]⟩⟩))))])
  (.seq (.seq (.reg [o p3 (.r (.ld 2 true (.t p1))),
  o p4 (.call 249 [(.t p3)]),
  o p5 (.p (.un .not (.t p4)))])
  (.cond (.t p5) (.seq (.reg [o p2 (.p (.mv (.c (.string ⟨⟨[]⟩⟩))))])
  (.ret))
  (.skip)))
  (.seq (.dreg [o p6 (.p (.fa 0 (.t p1))),
  o p7 (.r (.ld 1 false (.t p6))),
  o p10 (.p (.fa 1 (.t p1))),
  o p11 (.r (.ld 1 false (.t p10))),
  o p8 (.call 343 [(.t p7)]),
  o p9 (.p (.bin .s .add (.t p8) (.c (.string ⟨⟨[47]⟩⟩)))),
  o p12 (.call 344 [(.t p11)]),
  o p13 (.p (.bin .s .add (.t p9) (.t p12))),
  o p2 (.p (.mv (.t p13)))] [[], [], [], [], [3], [], [], [], []])
  (.ret)))⟩
def c299 : CFunc := ⟨[.t p2], .seq (.reg [o p1 (.a (.box 1 (.t p0))),
  o p2 (.p (.mv (.c .nilFunc)))])
  (.seq (.reg [o p3 (.p (.mkf 347 [] [(.t p1)])),
  o p2 (.p (.mv (.t p3)))])
  (.ret))⟩
def c300 : CFunc := ⟨[.t p4], .seq (.reg [o p4 (.p (.mv (.c (.bool false))))])
  (.seq (.reg [o p5 (.p (.mv (.t p0))),
  o p6 (.p (.mv (.t p1))),
  o p7 (.call 324 [(.t p5), (.t p6)]),
  o p4 (.p (.mv (.t p7)))])
  (.ret))⟩
def c316 : CFunc := ⟨[.t p4], .seq (.reg [o p2 (.a (.box 1 (.t p0))),
  o p4 (.p (.mv (.c (.bool false))))])
  (.seq (.reg [o p5 (.r (.ld 1 true (.t p2))),
  o p6 (.call 224 [(.t p5)]),
  o p7 (.p (.mv (.t p6))),
  g (some p8) p7 true (.p (.mv (.t p1))),
  g (some p9) p7 true (.p (.bin .i .geq (.t p8) (.c (.int .i64 0)))),
  o p10 (.p (.pick (.t p7) (.t p9) (.c (.bool false)))),
  o p11 (.p (.mv (.t p10))),
  g (some p12) p11 true (.p (.mv (.t p1))),
  g (some p13) p11 true (.p (.bin .i .leq (.t p12) (.c (.int .i64 65535)))),
  o p14 (.p (.pick (.t p11) (.t p13) (.c (.bool false)))),
  o p4 (.p (.mv (.t p14)))])
  (.ret))⟩
def c317 : CFunc := ⟨[.cell p6 1 true, .t p7], .seq (.reg [o p3 (.a (.box 1 (.t p0))),
  o p6 (.a (.alc [(.slice none 0 0)])),
  o p7 (.p (.mv (.c (.int .i64 0))))])
  (.seq (.seq (.reg [o p11 (.r (.ld 1 true (.t p3))),
  o p12 (.p (.mv (.t p2))),
  o p13 (.call 316 [(.t p11), (.t p12)]),
  o p14 (.p (.un .not (.t p13)))])
  (.cond (.t p14) (.seq (.reg [o p15 (.p (.bld [(.slice none 0 0)] [])),
  n (.w (.st 1 (.t p6) (.t p15))),
  o p7 (.p (.mv (.c (.int .i64 1))))])
  (.ret))
  (.skip)))
  (.seq (.reg [o p17 (.r (.ld 1 true (.t p3))),
  o p18 (.p (.mv (.t p1))),
  o p19 (.call 319 [(.t p17), (.t p18)]),
  o p16 (.p (.mv (.t p19))),
  o p20 (.p (.ext 0 (.t p16))),
  o p21 (.p (.ext 1 (.t p16))),
  o p8 (.p (.mv (.t p20))),
  o p9 (.p (.mv (.t p21)))])
  (.seq (.reg [o p22 (.p (.fa 0 (.t p3))),
  o p23 (.r (.ld 1 false (.t p22))),
  o p24 (.call 351 [(.t p23)]),
  o p10 (.p (.mv (.t p24)))])
  (.seq (.block 0 (.seq (.reg [o p26 (.p (.mv (.t p9))),
  o p27 (.p (.mv (.t p26))),
  g (some p28) p27 true (.p (.mv (.t p2))),
  g (some p29) p27 true (.p (.bin .i .eql (.t p28) (.c (.int .i64 0)))),
  o p30 (.p (.pick (.t p27) (.t p29) (.c (.bool false)))),
  o p25 (.p (.mv (.t p30)))])
  (.cond (.t p25) (.reg [o p31 (.p (.mv (.t p10))),
  o p32 (.p (.mv (.t p8))),
  o p33 (.p (.mv (.t p8))),
  o p34 (.p (.bin .i .add (.t p33) (.c (.int .i64 1)))),
  o p35 (.call 352 [(.t p31), (.t p32), (.t p34)]),
  o p10 (.p (.mv (.t p35)))])
  (.seq (.reg [o p37 (.p (.mv (.t p9))),
  o p36 (.p (.mv (.t p37)))])
  (.cond (.t p36) (.reg [o p38 (.p (.mv (.t p10))),
  o p39 (.p (.mv (.t p8))),
  o p40 (.p (.mv (.t p2))),
  o p41 (.p (.iaL 2 (.t p38) (.t p39))),
  o p42 (.p (.fa 1 (.t p41))),
  n (.w (.st 1 (.t p42) (.t p40)))])
  (.seq (.reg [o p44 (.p (.mv (.t p2))),
  o p45 (.p (.bin .i .gtr (.t p44) (.c (.int .i64 0)))),
  o p46 (.p (.mv (.t p45))),
  g (some p47) p46 true (.p (.mv (.t p10))),
  g (some p48) p46 true (.p (.lenP false (.t p47))),
  g (some p49) p46 true (.p (.bin .i .eql (.t p48) (.c (.int .i64 4096)))),
  o p50 (.p (.pick (.t p46) (.t p49) (.c (.bool false)))),
  o p43 (.p (.mv (.t p50)))])
  (.cond (.t p43) (.seq (.reg [o p51 (.p (.bld [(.slice none 0 0)] [])),
  n (.w (.st 1 (.t p6) (.t p51))),
  o p7 (.p (.mv (.c (.int .i64 9))))])
  (.ret))
  (.seq (.reg [o p53 (.p (.mv (.t p2))),
  o p54 (.p (.bin .i .gtr (.t p53) (.c (.int .i64 0)))),
  o p52 (.p (.mv (.t p54)))])
  (.cond (.t p52) (.reg [o p55 (.p (.mv (.t p10))),
  o p56 (.p (.mv (.t p8))),
  o p57 (.p (.mv (.t p1))),
  o p58 (.call 280 [(.t p57)]),
  o p59 (.p (.mv (.t p2))),
  o p60 (.p (.bld [(.int .u32 0), (.int .i64 0)] [(0, 1, (.t p58)), (1, 1, (.t p59))])),
  o p61 (.a (.bsl 2 1 [(.int .u32 0), (.int .i64 0)] [(0, 2, (.t p60))])),
  o p62 (.call 353 [(.t p55), (.t p56), (.t p61)]),
  o p10 (.p (.mv (.t p62)))])
  (.skip))))))))))
  (.seq (.reg [o p63 (.p (.mv (.t p10))),
  o p64 (.p (.bld [(.slice none 0 0)] [(0, 1, (.t p63))])),
  n (.w (.st 1 (.t p6) (.t p64))),
  o p7 (.p (.mv (.c (.int .i64 0))))])
  (.ret))))))⟩
def c319 : CFunc := ⟨[.t p4, .t p5], .seq (.reg [o p2 (.a (.box 1 (.t p0))),
  o p4 (.p (.mv (.c (.int .i64 0)))),
  o p5 (.p (.mv (.c (.bool false))))])
  (.seq (.dreg [o p6 (.p (.fa 0 (.t p2))),
  o p7 (.r (.ld 1 false (.t p6))),
  o p8 (.p (.mv (.t p1))),
  o p9 (.call 280 [(.t p8)]),
  o p10 (.call 354 [(.t p7), (.t p9), (.c (.func (.func 355) ⟨[]⟩ ⟨[]⟩))]),
  o p11 (.p (.ext 0 (.t p10))),
  o p12 (.p (.ext 1 (.t p10))),
  o p4 (.p (.mv (.t p11))),
  o p5 (.p (.mv (.t p12)))] [[], [], [], [1], [], [], [], [], []])
  (.ret))⟩
def c320 : CFunc := ⟨[.t p4], .seq (.reg [o p3 (.a (.box 4 (.t p1))),
  o p4 (.p (.mv (.c (.bool false))))])
  (.seq (.seq (.reg [o p5 (.p (.fa 0 (.t p3))),
  o p6 (.r (.ld 1 false (.t p5))),
  o p7 (.p (.bin .i .eql (.t p6) (.c (.int .i64 12))))])
  (.cond (.t p7) (.seq (.reg [o p8 (.p (.mv (.t p0))),
  o p9 (.p (.fa 0 (.t p3))),
  o p10 (.r (.ld 1 false (.t p9))),
  o p11 (.call 273 [(.t p8), (.c (.slice none 0 0)), (.t p10)])])
  (.seq (.reg [o p4 (.p (.mv (.c (.bool true))))])
  (.ret)))
  (.skip)))
  (.seq (.reg [o p4 (.p (.mv (.c (.bool false))))])
  (.ret)))⟩
def c321 : CFunc := ⟨[.cell p4 68 true, .t p5], .seq (.reg [o p2 (.a (.box 4 (.t p0))),
  o p3 (.a (.box 68 (.t p1))),
  o p4 (.a (.alc [(.int .u32 0), (.string ⟨⟨[]⟩⟩), (.int .u8 0), (.int .u8 0), (.int .u8 0), (.int .u8 0), (.int .u8 0), (.int .u8 0), (.int .u8 0), (.int .u8 0), (.int .u8 0), (.int .u8 0), (.int .u8 0), (.int .u8 0), (.int .u8 0), (.int .u8 0), (.int .u8 0), (.int .u8 0), (.int .u8 0), (.int .u8 0), (.int .u8 0), (.int .u8 0), (.int .u8 0), (.int .u8 0), (.int .u8 0), (.int .u8 0), (.int .u8 0), (.int .u8 0), (.int .u8 0), (.int .u8 0), (.int .u8 0), (.int .u8 0), (.int .u8 0), (.int .u8 0), (.int .u8 0), (.int .u8 0), (.int .u8 0), (.int .u8 0), (.int .u8 0), (.int .u8 0), (.int .u8 0), (.int .u8 0), (.int .u8 0), (.int .u8 0), (.int .u8 0), (.int .u8 0), (.int .u8 0), (.int .u8 0), (.int .u8 0), (.int .u8 0), (.int .u8 0), (.int .u8 0), (.int .u8 0), (.int .u8 0), (.int .u8 0), (.int .u8 0), (.int .u8 0), (.int .u8 0), (.int .u8 0), (.int .u8 0), (.int .u8 0), (.int .u8 0), (.int .u8 0), (.int .u8 0), (.int .u8 0), (.int .u8 0), (.slice none 0 0), (.slice none 0 0)])),
  o p5 (.p (.mv (.c (.slice none 0 0))))])
  (.seq (.reg [o p6 (.p (.mv (.c (.slice none 0 0))))])
  (.seq (.seq (.reg [o p12 (.p (.fa 0 (.t p2))),
  o p13 (.r (.ld 1 false (.t p12)))])
  (.block 0 (.seq (.reg [o p15 (.p (.bin .i .eql (.t p13) (.c (.int .i64 1)))),
  o p14 (.p (.mv (.t p15)))])
  (.cond (.t p14) (.reg [o p17 (.r (.ld 68 true (.t p3))),
  o p18 (.p (.fa 1 (.t p2))),
  o p19 (.r (.ld 1 false (.t p18))),
  o p20 (.call 357 [(.t p17), (.t p19)]),
  o p16 (.p (.mv (.t p20))),
  o p21 (.p (.ext 0 (.t p16))),
  o p22 (.p (.ext 1 (.t p16))),
  o p23 (.p (.ext 2 (.t p16))),
  n (.w (.st 68 (.t p3) (.t p21))),
  o p6 (.p (.mv (.t p22)))])
  (.seq (.reg [o p25 (.p (.bin .i .eql (.t p13) (.c (.int .i64 2)))),
  o p24 (.p (.mv (.t p25)))])
  (.cond (.t p24) (.reg [o p27 (.r (.ld 68 true (.t p3))),
  o p28 (.p (.fa 2 (.t p2))),
  o p29 (.r (.ld 1 false (.t p28))),
  o p30 (.call 358 [(.t p27), (.t p29)]),
  o p26 (.p (.mv (.t p30))),
  o p31 (.p (.ext 0 (.t p26))),
  o p32 (.p (.ext 1 (.t p26))),
  o p33 (.p (.ext 2 (.t p26))),
  n (.w (.st 68 (.t p3) (.t p31))),
  o p6 (.p (.mv (.t p32)))])
  (.seq (.reg [o p35 (.p (.bin .i .eql (.t p13) (.c (.int .i64 3)))),
  o p34 (.p (.mv (.t p35)))])
  (.cond (.t p34) (.seq (.reg [o p36 (.p (.fa 3 (.t p2))),
  o p37 (.r (.ld 1 false (.t p36))),
  o p38 (.p (.lenP false (.t p37))),
  o p39 (.p (.mv (.c (.int .i64 0))))])
  (.block 1 (.loop (.seq (.reg [o p40 (.p (.bin .i .lss (.t p39) (.t p38)))])
  (.seq (.cond (.t p40) (.skip)
  (.exit 1))
  (.seq (.block 2 (.seq (.reg [o p41 (.p (.iaL 1 (.t p37) (.t p39))),
  o p42 (.r (.ld 1 false (.t p41))),
  o p8 (.p (.mv (.t p42)))])
  (.seq (.reg [o p44 (.r (.ld 68 true (.t p3))),
  o p45 (.p (.mv (.t p8))),
  o p46 (.call 359 [(.t p44), (.t p45)]),
  o p43 (.p (.mv (.t p46))),
  o p47 (.p (.ext 0 (.t p43))),
  o p48 (.p (.ext 1 (.t p43))),
  o p49 (.p (.ext 2 (.t p43))),
  o p9 (.a (.alc [(.int .u32 0), (.string ⟨⟨[]⟩⟩), (.int .u8 0), (.int .u8 0), (.int .u8 0), (.int .u8 0), (.int .u8 0), (.int .u8 0), (.int .u8 0), (.int .u8 0), (.int .u8 0), (.int .u8 0), (.int .u8 0), (.int .u8 0), (.int .u8 0), (.int .u8 0), (.int .u8 0), (.int .u8 0), (.int .u8 0), (.int .u8 0), (.int .u8 0), (.int .u8 0), (.int .u8 0), (.int .u8 0), (.int .u8 0), (.int .u8 0), (.int .u8 0), (.int .u8 0), (.int .u8 0), (.int .u8 0), (.int .u8 0), (.int .u8 0), (.int .u8 0), (.int .u8 0), (.int .u8 0), (.int .u8 0), (.int .u8 0), (.int .u8 0), (.int .u8 0), (.int .u8 0), (.int .u8 0), (.int .u8 0), (.int .u8 0), (.int .u8 0), (.int .u8 0), (.int .u8 0), (.int .u8 0), (.int .u8 0), (.int .u8 0), (.int .u8 0), (.int .u8 0), (.int .u8 0), (.int .u8 0), (.int .u8 0), (.int .u8 0), (.int .u8 0), (.int .u8 0), (.int .u8 0), (.int .u8 0), (.int .u8 0), (.int .u8 0), (.int .u8 0), (.int .u8 0), (.int .u8 0), (.int .u8 0), (.int .u8 0), (.slice none 0 0), (.slice none 0 0)])),
  n (.w (.st 68 (.t p9) (.t p47))),
  o p10 (.p (.mv (.t p48))),
  o p11 (.p (.mv (.t p49)))])
  (.seq (.reg [o p50 (.r (.ld 68 true (.t p9))),
  n (.w (.st 68 (.t p3) (.t p50)))])
  (.reg [o p51 (.p (.mv (.t p6))),
  o p52 (.p (.mv (.t p10))),
  o p53 (.w (.app 1 4 (.t p51) (.t p52))),
  o p6 (.p (.mv (.t p53)))])))))
  (.reg [o p54 (.p (.bin .i .add (.t p39) (.c (.int .i64 1)))),
  o p39 (.p (.mv (.t p54)))])))))))
  (.skip)))))))))
  (.seq (.reg [o p55 (.r (.ld 68 true (.t p3))),
  o p56 (.p (.mv (.t p6))),
  n (.w (.st 68 (.t p4) (.t p55))),
  o p5 (.p (.mv (.t p56)))])
  (.ret))))⟩
def c322 : CFunc := ⟨[.t p2, .t p3], .seq (.reg [o p1 (.a (.box 68 (.t p0))),
  o p2 (.p (.mv (.c (.string ⟨⟨[]⟩⟩)))),
  o p3 (.p (.mv (.c (.int .i64 0))))])
  (.seq (.seq (.reg [o p7 (.r (.ld 68 true (.t p1))),
  o p8 (.call 144 [(.t p7)]),
  o p9 (.p (.un .not (.t p8)))])
  (.cond (.t p9) (.seq (.reg [o p2 (.p (.mv (.c (.string ⟨⟨[]⟩⟩)))),
  o p3 (.p (.mv (.c (.int .i64 1))))])
  (.ret))
  (.skip)))
  (.seq (.reg [o p10 (.a (.bsl 1 1 [(.int .u8 0)] [(0, 1, (.c (.int .u8 66)))])),
  o p11 (.p (.fa 0 (.t p1))),
  o p12 (.r (.ld 1 false (.t p11))),
  o p13 (.p (.conv .u64 (.t p12))),
  o p14 (.call 170 [(.t p10), (.t p13), (.c (.int .i64 4))]),
  o p4 (.p (.mv (.t p14)))])
  (.seq (.reg [o p15 (.p (.mv (.t p4))),
  o p16 (.p (.fa 1 (.t p1))),
  o p17 (.r (.ld 1 false (.t p16))),
  o p18 (.call 360 [(.t p15), (.t p17)]),
  o p4 (.p (.mv (.t p18)))])
  (.seq (.reg [o p19 (.p (.mv (.t p4))),
  o p20 (.p (.fa 67 (.t p1))),
  o p21 (.r (.ld 1 false (.t p20))),
  o p22 (.p (.lenP false (.t p21))),
  o p23 (.p (.conv .u64 (.t p22))),
  o p24 (.call 170 [(.t p19), (.t p23), (.c (.int .i64 1))]),
  o p4 (.p (.mv (.t p24)))])
  (.seq (.seq (.reg [o p25 (.p (.fa 67 (.t p1))),
  o p26 (.r (.ld 1 false (.t p25))),
  o p27 (.p (.lenP false (.t p26))),
  o p28 (.p (.mv (.c (.int .i64 0))))])
  (.block 0 (.loop (.seq (.reg [o p29 (.p (.bin .i .lss (.t p28) (.t p27)))])
  (.seq (.cond (.t p29) (.skip)
  (.exit 0))
  (.seq (.block 1 (.seq (.reg [o p30 (.p (.iaL 2 (.t p26) (.t p28))),
  o p31 (.r (.ld 2 true (.t p30))),
  o p6 (.a (.alc [(.string ⟨⟨[]⟩⟩), (.string ⟨⟨[]⟩⟩)])),
  n (.w (.st 2 (.t p6) (.t p31)))])
  (.dreg [o p32 (.p (.mv (.t p4))),
  o p33 (.p (.fa 0 (.t p6))),
  o p34 (.r (.ld 1 false (.t p33))),
  o p36 (.p (.fa 1 (.t p6))),
  o p37 (.r (.ld 1 false (.t p36))),
  o p35 (.call 360 [(.t p32), (.t p34)]),
  o p38 (.call 360 [(.t p35), (.t p37)]),
  o p4 (.p (.mv (.t p38)))] [[], [], [], [], [], [4], [], []])))
  (.reg [o p39 (.p (.bin .i .add (.t p28) (.c (.int .i64 1)))),
  o p28 (.p (.mv (.t p39)))])))))))
  (.seq (.reg [o p40 (.p (.mv (.t p4))),
  o p41 (.p (.fa 2 (.t p1))),
  o p42 (.p (.slA 64 1 (.t p41) none none)),
  o p43 (.w (.app 1 1 (.t p40) (.t p42))),
  o p4 (.p (.mv (.t p43)))])
  (.seq (.reg [o p44 (.p (.mv (.t p4))),
  o p45 (.p (.fa 66 (.t p1))),
  o p46 (.r (.ld 1 false (.t p45))),
  o p47 (.p (.lenP false (.t p46))),
  o p48 (.p (.conv .u64 (.t p47))),
  o p49 (.call 170 [(.t p44), (.t p48), (.c (.int .i64 1))]),
  o p4 (.p (.mv (.t p49)))])
  (.seq (.reg [o p50 (.p (.mv (.t p4))),
  o p51 (.p (.fa 66 (.t p1))),
  o p52 (.r (.ld 1 false (.t p51))),
  o p53 (.w (.app 1 1 (.t p50) (.t p52))),
  o p54 (.r (.b2s (.t p53))),
  o p2 (.p (.mv (.t p54))),
  o p3 (.p (.mv (.c (.int .i64 0))))])
  (.ret)))))))))⟩
def c323 : CFunc := ⟨[], .seq (.reg [o p3 (.a (.box 4 (.t p1)))])
  (.seq (.seq (.reg [o p4 (.p (.mv (.t p0))),
  o p5 (.r (.ld 4 true (.t p3))),
  o p6 (.call 320 [(.t p4), (.t p5)])])
  (.cond (.t p6) (.ret)
  (.skip)))
  (.seq (.seq (.reg [o p7 (.p (.fa 0 (.t p3))),
  o p8 (.r (.ld 1 false (.t p7))),
  o p9 (.p (.bin .i .neq (.t p8) (.c (.int .i64 0))))])
  (.cond (.t p9) (.seq (.reg [o p10 (.p (.mv (.t p0))),
  o p11 (.call 210 [(.t p10)])])
  (.ret))
  (.skip)))
  (.seq (.reg [o p12 (.p (.mv (.t p0))),
  o p13 (.p (.mv (.t p0))),
  o p14 (.p (.nck (.t p13))),
  o p15 (.p (.fa 76 (.t p14))),
  o p16 (.r (.ld 1 false (.t p15))),
  o p17 (.call 362 [(.t p16)]),
  o p18 (.call 298 [(.t p17)]),
  o p19 (.call 361 [(.t p18)]),
  o p20 (.p (.nck (.t p12))),
  o p21 (.p (.fa 77 (.t p20))),
  n (.w (.st 1 (.t p21) (.t p19)))])
  (.seq (.seq (.reg [o p22 (.p (.mv (.t p0))),
  o p23 (.p (.nck (.t p22))),
  o p24 (.p (.fa 8 (.t p23))),
  o p25 (.r (.ld 68 true (.t p24))),
  o p26 (.call 202 [(.t p25)]),
  o p27 (.p (.mv (.t p26))),
  g (some p28) p27 true (.p (.mv (.t p0))),
  g (some p29) p27 true (.p (.nck (.t p28))),
  g (some p30) p27 true (.p (.fa 8 (.t p29))),
  g (some p31) p27 true (.p (.fa 1 (.t p30))),
  g (some p32) p27 true (.r (.ld 1 false (.t p31))),
  g (some p33) p27 true (.p (.bin .s .eql (.t p32) (.c (.string ⟨⟨[]⟩⟩)))),
  o p34 (.p (.pick (.t p27) (.t p33) (.c (.bool false))))])
  (.cond (.t p34) (.seq (.dreg [o p35 (.p (.mv (.t p0))),
  o p36 (.p (.nck (.t p35))),
  o p37 (.p (.fa 0 (.t p36))),
  o p38 (.r (.ld 1 false (.t p37))),
  o p39 (.p (.mv (.t p0))),
  o p40 (.p (.nck (.t p39))),
  o p41 (.p (.fa 1 (.t p40))),
  o p42 (.r (.ld 1 false (.t p41))),
  o p44 (.p (.fa 1 (.t p3))),
  o p45 (.r (.ld 1 false (.t p44))),
  o p47 (.p (.mv (.t p0))),
  o p48 (.p (.mkf 363 [(.t p47)] [])),
  o p43 (.call 199 [(.t p42)]),
  o p46 (.p (.bld [(.int .i64 0), (.string ⟨⟨[]⟩⟩), (.string ⟨⟨[]⟩⟩), (.int .i64 0), (.string ⟨⟨[]⟩⟩), (.int .i64 0)] [(0, 1, (.c (.int .i64 5))), (1, 1, (.t p43)), (3, 1, (.t p45))])),
  o p49 (.call 165 [(.t p38), (.t p46), (.t p48)])] [[], [], [], [], [], [], [], [], [], [], [], [], [3, 9], [], []])
  (.ret))
  (.skip)))
  (.reg [o p50 (.p (.mv (.t p0))),
  o p51 (.call 364 [(.t p50), (.c (.int .i64 0))])])))))⟩
def c324 : CFunc := ⟨[.t p4], .seq (.reg [o p4 (.p (.mv (.c (.bool false))))])
  (.seq (.reg [o p5 (.p (.mv (.t p0))),
  o p6 (.p (.lenP true (.t p5))),
  o p7 (.p (.mv (.t p1))),
  o p8 (.p (.lenP true (.t p7))),
  o p9 (.p (.bin .i .geq (.t p6) (.t p8))),
  o p10 (.p (.mv (.t p9))),
  g (some p11) p10 true (.p (.mv (.t p0))),
  g (some p12) p10 true (.p (.mv (.t p1))),
  g (some p13) p10 true (.p (.lenP true (.t p12))),
  g (some p14) p10 true (.p (.slS (.t p11) none (some (.t p13)))),
  g (some p15) p10 true (.p (.mv (.t p1))),
  g (some p16) p10 true (.p (.bin .s .eql (.t p14) (.t p15))),
  o p17 (.p (.pick (.t p10) (.t p16) (.c (.bool false)))),
  o p4 (.p (.mv (.t p17)))])
  (.ret))⟩
def c327 : CFunc := ⟨[.t p2], .seq (.reg [o p2 (.p (.mv (.c (.bool false))))])
  (.seq (.reg [o p3 (.p (.mv (.t p0))),
  o p4 (.p (.bin .i .geq (.t p3) (.c (.int .i64 0)))),
  o p5 (.p (.mv (.t p4))),
  g (some p6) p5 true (.p (.mv (.t p0))),
  g (some p7) p5 true (.p (.bin .i .lss (.t p6) (.c (.int .i64 64)))),
  o p8 (.p (.pick (.t p5) (.t p7) (.c (.bool false)))),
  o p2 (.p (.mv (.t p8)))])
  (.ret))⟩
def c328 : CFunc := ⟨[.t p2], .seq (.reg [o p2 (.p (.mv (.c (.int .u64 0))))])
  (.seq (.reg [o p3 (.p (.mv (.t p0))),
  o p4 (.p (.bin .i .shl (.c (.int .u64 1)) (.t p3))),
  o p2 (.p (.mv (.t p4)))])
  (.ret))⟩
def c329 : CFunc := ⟨[.t p8, .t p9], .seq (.reg [o p8 (.p (.mv (.c (.int .i64 0)))),
  o p9 (.p (.mv (.c (.int .i64 0))))])
  (.seq (.seq (.dreg [o p10 (.p (.mv (.t p0))),
  o p11 (.p (.mv (.t p2))),
  o p12 (.p (.iaL 1 (.t p10) (.t p11))),
  o p13 (.r (.ld 1 false (.t p12))),
  o p14 (.p (.mv (.t p0))),
  o p15 (.p (.mv (.t p1))),
  o p16 (.p (.iaL 1 (.t p14) (.t p15))),
  o p17 (.r (.ld 1 false (.t p16))),
  o p18 (.call 235 [(.t p13), (.t p17)])] [[], [], [], [], [], [], [], [], []])
  (.cond (.t p18) (.seq (.reg [o p19 (.p (.mv (.t p3))),
  o p20 (.p (.nck (.t p19))),
  o p21 (.r (.ld 1 false (.t p20))),
  o p22 (.p (.bin .i .add (.t p21) (.c (.int .i64 1)))),
  o p23 (.p (.nck (.t p19))),
  n (.w (.st 1 (.t p23) (.t p22)))])
  (.seq (.reg [o p24 (.p (.mv (.t p2))),
  o p25 (.p (.mv (.t p1))),
  o p8 (.p (.mv (.t p24))),
  o p9 (.p (.mv (.t p25)))])
  (.ret)))
  (.skip)))
  (.seq (.reg [o p26 (.p (.mv (.t p1))),
  o p27 (.p (.mv (.t p2))),
  o p8 (.p (.mv (.t p26))),
  o p9 (.p (.mv (.t p27)))])
  (.ret)))⟩
def c330 : CFunc := ⟨[.cell p4 3 true, .t p5], .seq (.reg [o p2 (.a (.box 2 (.t p0))),
  o p4 (.a (.alc [(.string ⟨⟨[]⟩⟩), (.string ⟨⟨[]⟩⟩), (.int .i64 0)])),
  o p5 (.p (.mv (.c (.bool false))))])
  (.seq (.seq (.reg [o p8 (.p (.fa 1 (.t p2))),
  o p9 (.r (.ld 1 false (.t p8))),
  o p10 (.p (.lenP false (.t p9))),
  o p11 (.p (.mv (.c (.int .i64 0))))])
  (.block 0 (.loop (.seq (.reg [o p12 (.p (.bin .i .lss (.t p11) (.t p10)))])
  (.seq (.cond (.t p12) (.skip)
  (.exit 0))
  (.seq (.block 1 (.seq (.reg [o p13 (.p (.iaL 3 (.t p9) (.t p11))),
  o p14 (.r (.ld 3 true (.t p13))),
  o p7 (.a (.alc [(.string ⟨⟨[]⟩⟩), (.string ⟨⟨[]⟩⟩), (.int .i64 0)])),
  n (.w (.st 3 (.t p7) (.t p14)))])
  (.seq (.reg [o p15 (.p (.fa 0 (.t p7))),
  o p16 (.r (.ld 1 false (.t p15))),
  o p17 (.p (.mv (.t p1))),
  o p18 (.p (.bin .s .eql (.t p16) (.t p17)))])
  (.cond (.t p18) (.seq (.reg [o p19 (.r (.ld 3 true (.t p7))),
  n (.w (.st 3 (.t p4) (.t p19))),
  o p5 (.p (.mv (.c (.bool true))))])
  (.ret))
  (.skip)))))
  (.reg [o p20 (.p (.bin .i .add (.t p11) (.c (.int .i64 1)))),
  o p11 (.p (.mv (.t p20)))])))))))
  (.seq (.reg [o p21 (.p (.bld [(.string ⟨⟨[]⟩⟩), (.string ⟨⟨[]⟩⟩), (.int .i64 0)] [])),
  n (.w (.st 3 (.t p4) (.t p21))),
  o p5 (.p (.mv (.c (.bool false))))])
  (.ret)))⟩
def c331 : CFunc := ⟨[.t p4], .seq (.reg [o p2 (.a (.box 2 (.t p0))),
  o p4 (.p (.mv (.c (.slice none 0 0))))])
  (.seq (.reg [o p5 (.p (.mv (.c (.slice none 0 0))))])
  (.seq (.seq (.reg [o p8 (.p (.fa 1 (.t p2))),
  o p9 (.r (.ld 1 false (.t p8))),
  o p10 (.p (.lenP false (.t p9))),
  o p11 (.p (.mv (.c (.int .i64 0))))])
  (.block 0 (.loop (.seq (.reg [o p12 (.p (.bin .i .lss (.t p11) (.t p10)))])
  (.seq (.cond (.t p12) (.skip)
  (.exit 0))
  (.seq (.block 1 (.seq (.reg [o p13 (.p (.iaL 3 (.t p9) (.t p11))),
  o p14 (.r (.ld 3 true (.t p13))),
  o p7 (.a (.alc [(.string ⟨⟨[]⟩⟩), (.string ⟨⟨[]⟩⟩), (.int .i64 0)])),
  n (.w (.st 3 (.t p7) (.t p14)))])
  (.seq (.reg [o p15 (.p (.fa 0 (.t p7))),
  o p16 (.r (.ld 1 false (.t p15))),
  o p17 (.p (.lenP true (.t p16))),
  o p18 (.p (.mv (.t p1))),
  o p19 (.p (.lenP true (.t p18))),
  o p20 (.p (.bin .i .geq (.t p17) (.t p19))),
  o p21 (.p (.mv (.t p20))),
  g (some p22) p21 true (.p (.fa 0 (.t p7))),
  g (some p23) p21 true (.r (.ld 1 false (.t p22))),
  g (some p24) p21 true (.p (.mv (.t p1))),
  g (some p25) p21 true (.p (.lenP true (.t p24))),
  g (some p26) p21 true (.p (.slS (.t p23) none (some (.t p25)))),
  g (some p27) p21 true (.p (.mv (.t p1))),
  g (some p28) p21 true (.p (.bin .s .eql (.t p26) (.t p27))),
  o p29 (.p (.pick (.t p21) (.t p28) (.c (.bool false))))])
  (.cond (.t p29) (.reg [o p30 (.p (.mv (.t p5))),
  o p31 (.r (.ld 3 true (.t p7))),
  o p32 (.a (.bsl 3 1 [(.string ⟨⟨[]⟩⟩), (.string ⟨⟨[]⟩⟩), (.int .i64 0)] [(0, 3, (.t p31))])),
  o p33 (.w (.app 3 40 (.t p30) (.t p32))),
  o p5 (.p (.mv (.t p33)))])
  (.skip)))))
  (.reg [o p34 (.p (.bin .i .add (.t p11) (.c (.int .i64 1)))),
  o p11 (.p (.mv (.t p34)))])))))))
  (.seq (.reg [o p35 (.p (.mv (.t p5))),
  o p4 (.p (.mv (.t p35)))])
  (.ret))))⟩
def c332 : CFunc := ⟨[.t p2], .seq (.reg [o p2 (.p (.mv (.c (.bool false))))])
  (.seq (.reg [o p3 (.p (.mv (.t p0))),
  o p4 (.p (.lenP true (.t p3))),
  o p5 (.p (.bin .i .geq (.t p4) (.c (.int .i64 1)))),
  o p6 (.p (.mv (.t p5))),
  g (some p7) p6 true (.p (.mv (.t p0))),
  g (some p8) p6 true (.p (.lenP true (.t p7))),
  g (some p9) p6 true (.p (.bin .i .leq (.t p8) (.c (.int .i64 128)))),
  o p10 (.p (.pick (.t p6) (.t p9) (.c (.bool false)))),
  o p2 (.p (.mv (.t p10)))])
  (.ret))⟩
def c333 : CFunc := ⟨[.t p6], .seq (.reg [o p3 (.a (.box 2 (.t p0))),
  o p6 (.p (.mv (.c (.bool false))))])
  (.seq (.reg [o p10 (.r (.ld 2 true (.t p3))),
  o p11 (.p (.mv (.t p1))),
  o p12 (.call 330 [(.t p10), (.t p11)]),
  o p9 (.p (.mv (.t p12))),
  o p13 (.p (.ext 0 (.t p9))),
  o p14 (.p (.ext 1 (.t p9))),
  o p7 (.a (.alc [(.string ⟨⟨[]⟩⟩), (.string ⟨⟨[]⟩⟩), (.int .i64 0)])),
  n (.w (.st 3 (.t p7) (.t p13))),
  o p8 (.p (.mv (.t p14)))])
  (.seq (.reg [o p15 (.p (.mv (.t p8))),
  o p16 (.p (.mv (.t p15))),
  g (some p17) p16 true (.p (.fa 2 (.t p7))),
  g (some p18) p16 true (.r (.ld 1 false (.t p17))),
  g (some p19) p16 true (.p (.mv (.t p2))),
  g (some p20) p16 true (.p (.bin .i .eql (.t p18) (.t p19))),
  o p21 (.p (.pick (.t p16) (.t p20) (.c (.bool false)))),
  o p6 (.p (.mv (.t p21)))])
  (.ret)))⟩
def c334 : CFunc := ⟨[.cell p2 5 true], .seq (.reg [o p1 (.a (.box 5 (.t p0))),
  o p2 (.a (.alc [(.int .u32 0), (.string ⟨⟨[]⟩⟩), (.slice none 0 0), (.slice none 0 0), (.slice none 0 0)]))])
  (.seq (.reg [o p3 (.a (.bsl 1 0 [(.int .i64 0)] [])),
  o p4 (.p (.fa 2 (.t p1))),
  o p5 (.r (.ld 1 false (.t p4))),
  o p6 (.w (.app 1 8 (.t p3) (.t p5))),
  o p7 (.p (.fa 2 (.t p1))),
  n (.w (.st 1 (.t p7) (.t p6)))])
  (.seq (.reg [o p8 (.a (.bsl 1 0 [(.int .i64 0)] [])),
  o p9 (.p (.fa 3 (.t p1))),
  o p10 (.r (.ld 1 false (.t p9))),
  o p11 (.w (.app 1 8 (.t p8) (.t p10))),
  o p12 (.p (.fa 3 (.t p1))),
  n (.w (.st 1 (.t p12) (.t p11)))])
  (.seq (.reg [o p13 (.a (.bsl 2 0 [(.string ⟨⟨[]⟩⟩), (.string ⟨⟨[]⟩⟩)] [])),
  o p14 (.p (.fa 4 (.t p1))),
  o p15 (.r (.ld 1 false (.t p14))),
  o p16 (.w (.app 2 32 (.t p13) (.t p15))),
  o p17 (.p (.fa 4 (.t p1))),
  n (.w (.st 1 (.t p17) (.t p16)))])
  (.seq (.reg [o p18 (.r (.ld 5 true (.t p1))),
  n (.w (.st 5 (.t p2) (.t p18)))])
  (.ret)))))⟩
def c335 : CFunc := ⟨[.t p4], .seq (.reg [o p4 (.p (.mv (.c (.int .i64 0))))])
  (.seq (.reg [o p7 (.p (.mv (.t p0))),
  o p8 (.p (.conv .i64 (.t p7))),
  o p5 (.p (.mv (.t p8)))])
  (.seq (.seq (.reg [o p9 (.p (.mv (.t p1))),
  o p6 (.p (.mv (.t p9)))])
  (.block 0 (.loop (.seq (.seq (.reg [o p10 (.p (.mv (.t p6))),
  o p11 (.p (.bin .i .lss (.t p10) (.c (.int .i64 3))))])
  (.cond (.t p11) (.skip)
  (.exit 0)))
  (.seq (.block 1 (.reg [o p14 (.p (.mv (.t p5))),
  o p15 (.p (.bin .i .quo (.t p14) (.c (.int .i64 256)))),
  o p5 (.p (.mv (.t p15)))]))
  (.reg [o p12 (.p (.mv (.t p6))),
  o p13 (.p (.bin .i .add (.t p12) (.c (.int .i64 1)))),
  o p6 (.p (.mv (.t p13)))]))))))
  (.seq (.reg [o p16 (.p (.mv (.t p5))),
  o p17 (.p (.bin .i .rem (.t p16) (.c (.int .i64 256)))),
  o p4 (.p (.mv (.t p17)))])
  (.ret))))⟩
def c336 : CFunc := ⟨[.t p4], .seq (.reg [o p2 (.a (.box 5 (.t p0))),
  o p4 (.p (.mv (.c (.bool false))))])
  (.seq (.reg [o p5 (.p (.mv (.t p1))),
  o p6 (.p (.mv (.t p1))),
  o p7 (.p (.bin .i .rem (.t p6) (.c (.int .u32 64)))),
  o p8 (.p (.bin .i .sub (.t p5) (.t p7))),
  o p9 (.p (.fa 0 (.t p2))),
  o p10 (.r (.ld 1 false (.t p9))),
  o p11 (.p (.bin .i .eql (.t p8) (.t p10))),
  o p4 (.p (.mv (.t p11)))])
  (.ret))⟩
def c343 : CFunc := ⟨[.t p2], .seq (.reg [o p2 (.p (.mv (.c (.string ⟨⟨[]⟩⟩))))])
  (.seq (.reg [o p3 (.p (.mv (.c (.slice none 0 0))))])
  (.seq (.seq (.reg [o p6 (.p (.mv (.t p0))),
  o p7 (.call 377 [(.t p6)]),
  o p8 (.p (.mv (.c (.int .i64 0))))])
  (.block 0 (.loop (.seq (.reg [o p9 (.p (.bin .i .lss (.t p8) (.c (.int .i64 4))))])
  (.seq (.cond (.t p9) (.skip)
  (.exit 0))
  (.seq (.block 1 (.seq (.reg [o p10 (.p (.ixA 4 1 false (.t p7) (.t p8))),
  o p5 (.p (.mv (.t p10)))])
  (.reg [o p11 (.p (.mv (.t p3))),
  o p12 (.p (.mv (.t p5))),
  o p13 (.call 378 [(.t p12)]),
  o p14 (.a (.bsl 1 1 [(.string ⟨⟨[]⟩⟩)] [(0, 1, (.t p13))])),
  o p15 (.w (.app 1 16 (.t p11) (.t p14))),
  o p3 (.p (.mv (.t p15)))])))
  (.reg [o p16 (.p (.bin .i .add (.t p8) (.c (.int .i64 1)))),
  o p8 (.p (.mv (.t p16)))])))))))
  (.seq (.reg [o p17 (.p (.mv (.t p3))),
  o p18 (.call 379 [(.t p17), (.c (.string ⟨⟨[46]⟩⟩))]),
  o p2 (.p (.mv (.t p18)))])
  (.ret))))⟩
def c344 : CFunc := ⟨[.t p2], .seq (.reg [o p2 (.p (.mv (.c (.string ⟨⟨[]⟩⟩))))])
  (.seq (.seq (.reg [o p3 (.p (.mv (.t p0))),
  o p4 (.p (.bin .i .lss (.t p3) (.c (.int .i64 10))))])
  (.cond (.t p4) (.seq (.reg [o p5 (.p (.mv (.t p0))),
  o p6 (.p (.bin .i .add (.c (.int .i64 48)) (.t p5))),
  o p7 (.p (.conv .u8 (.t p6))),
  o p8 (.a (.bsl 1 1 [(.int .u8 0)] [(0, 1, (.t p7))])),
  o p9 (.r (.b2s (.t p8))),
  o p2 (.p (.mv (.t p9)))])
  (.ret))
  (.skip)))
  (.seq (.reg [o p10 (.p (.mv (.t p0))),
  o p11 (.p (.bin .i .quo (.t p10) (.c (.int .i64 10)))),
  o p12 (.call 344 [(.t p11)]),
  o p13 (.p (.mv (.t p0))),
  o p14 (.p (.bin .i .rem (.t p13) (.c (.int .i64 10)))),
  o p15 (.call 344 [(.t p14)]),
  o p16 (.p (.bin .s .add (.t p12) (.t p15))),
  o p2 (.p (.mv (.t p16)))])
  (.ret)))⟩
def c347 : CFunc := ⟨[], .seq (.reg [o p4 (.r (.ld 1 false (.t p1))),
  o p5 (.w (.rgM (.t p4)))])
  (.block 0 (.loop (.seq (.reg [o p6 (.nxM (.t p5)),
  o p7 (.p (.ext 0 (.t p6)))])
  (.seq (.cond (.t p7) (.skip)
  (.exit 0))
  (.block 1 (.seq (.reg [o p8 (.r (.ent (.t p5))),
  o p9 (.p (.ext 0 (.t p8))),
  o p3 (.p (.mv (.t p9)))])
  (.seq (.reg [o p10 (.p (.mv (.t p0))),
  o p11 (.p (.mv (.t p3))),
  o p12 (.callv (.t p10) [(.t p11)]),
  o p13 (.p (.un .not (.t p12)))])
  (.cond (.t p13) (.ret)
  (.skip)))))))))⟩
def c351 : CFunc := ⟨[.t p2], .seq (.reg [o p2 (.p (.mv (.c (.slice none 0 0))))])
  (.seq (.seq (.reg [o p3 (.p (.mv (.t p0))),
  o p4 (.p (.bin .l .eql (.t p3) (.c (.slice none 0 0))))])
  (.cond (.t p4) (.seq (.reg [o p2 (.p (.mv (.c (.slice none 0 0))))])
  (.ret))
  (.skip)))
  (.seq (.reg [o p5 (.a (.bsl 2 0 [(.int .u32 0), (.int .i64 0)] [])),
  o p6 (.p (.mv (.t p0))),
  o p7 (.w (.app 2 16 (.t p5) (.t p6))),
  o p2 (.p (.mv (.t p7)))])
  (.ret)))⟩
def c352 : CFunc := ⟨[.t p6], .seq (.reg [o p6 (.p (.mv (.c (.slice none 0 0))))])
  (.seq (.reg [o p8 (.p (.mv (.t p0))),
  o p9 (.p (.mv (.t p1))),
  o p10 (.p (.mv (.t p2))),
  o p11 (.p (.mv (.t p0))),
  o p12 (.p (.lenP false (.t p11))),
  o p13 (.r (.slL 2 (.t p8) (some (.t p9)) (some (.t p10)) (some (.t p12))))])
  (.seq (.seq (.reg [o p14 (.p (.mv (.t p1))),
  o p15 (.p (.mv (.t p2))),
  o p16 (.p (.bin .i .eql (.t p14) (.t p15)))])
  (.cond (.t p16) (.seq (.reg [o p17 (.p (.mv (.t p0))),
  o p6 (.p (.mv (.t p17)))])
  (.ret))
  (.skip)))
  (.seq (.reg [o p18 (.p (.mv (.t p0))),
  o p19 (.p (.lenP false (.t p18))),
  o p7 (.p (.mv (.t p19)))])
  (.seq (.dreg [o p20 (.p (.mv (.t p0))),
  o p21 (.p (.mv (.t p1))),
  o p22 (.r (.slL 2 (.t p20) none (some (.t p21)) none)),
  o p23 (.p (.mv (.t p0))),
  o p24 (.p (.mv (.t p2))),
  o p25 (.r (.slL 2 (.t p23) (some (.t p24)) none none)),
  o p26 (.w (.app 2 16 (.t p22) (.t p25))),
  o p0 (.p (.mv (.t p26)))] [[], [], [], [], [], [], [], []])
  (.seq (.reg [o p27 (.p (.mv (.t p0))),
  o p28 (.p (.mv (.t p0))),
  o p29 (.p (.lenP false (.t p28))),
  o p30 (.p (.mv (.t p7))),
  o p31 (.r (.slL 2 (.t p27) (some (.t p29)) (some (.t p30)) none)),
  n (.w (.clr 2 [(.int .u32 0), (.int .i64 0)] (.t p31)))])
  (.seq (.reg [o p32 (.p (.mv (.t p0))),
  o p6 (.p (.mv (.t p32)))])
  (.ret)))))))⟩
def c353 : CFunc := ⟨[.t p6], .seq (.reg [o p6 (.p (.mv (.c (.slice none 0 0))))])
  (.seq (.reg [o p10 (.p (.mv (.t p0))),
  o p11 (.p (.mv (.t p1))),
  o p12 (.r (.slL 2 (.t p10) (some (.t p11)) none none))])
  (.seq (.reg [o p13 (.p (.mv (.t p2))),
  o p14 (.p (.lenP false (.t p13))),
  o p7 (.p (.mv (.t p14)))])
  (.seq (.seq (.reg [o p15 (.p (.mv (.t p7))),
  o p16 (.p (.bin .i .eql (.t p15) (.c (.int .i64 0))))])
  (.cond (.t p16) (.seq (.reg [o p17 (.p (.mv (.t p0))),
  o p6 (.p (.mv (.t p17)))])
  (.ret))
  (.skip)))
  (.seq (.reg [o p18 (.p (.mv (.t p0))),
  o p19 (.p (.lenP false (.t p18))),
  o p8 (.p (.mv (.t p19)))])
  (.seq (.seq (.reg [o p20 (.p (.mv (.t p1))),
  o p21 (.p (.mv (.t p8))),
  o p22 (.p (.bin .i .eql (.t p20) (.t p21)))])
  (.cond (.t p22) (.seq (.reg [o p23 (.p (.mv (.t p0))),
  o p24 (.p (.mv (.t p2))),
  o p25 (.w (.app 2 16 (.t p23) (.t p24))),
  o p6 (.p (.mv (.t p25)))])
  (.ret))
  (.skip)))
  (.seq (.seq (.bad)
  (.cond (.t p31) (.seq (.bad)
  (.seq (.reg [o p41 (.p (.mv (.t p9))),
  o p42 (.p (.mv (.t p1))),
  o p43 (.r (.slL 2 (.t p41) (some (.t p42)) none none)),
  o p44 (.p (.mv (.t p2))),
  o p45 (.w (.cpy 2 (.t p43) (.t p44)))])
  (.seq (.dreg [o p46 (.p (.mv (.t p9))),
  o p47 (.p (.mv (.t p1))),
  o p48 (.p (.mv (.t p7))),
  o p49 (.p (.bin .i .add (.t p47) (.t p48))),
  o p50 (.r (.slL 2 (.t p46) (some (.t p49)) none none)),
  o p51 (.p (.mv (.t p0))),
  o p52 (.p (.mv (.t p1))),
  o p53 (.r (.slL 2 (.t p51) (some (.t p52)) none none)),
  o p54 (.w (.cpy 2 (.t p50) (.t p53)))] [[], [], [], [], [], [], [], [], []])
  (.seq (.reg [o p55 (.p (.mv (.t p9))),
  o p6 (.p (.mv (.t p55)))])
  (.ret)))))
  (.skip)))
  (.seq (.reg [o p56 (.p (.mv (.t p0))),
  o p57 (.p (.mv (.t p8))),
  o p58 (.p (.mv (.t p7))),
  o p59 (.p (.bin .i .add (.t p57) (.t p58))),
  o p60 (.r (.slL 2 (.t p56) none (some (.t p59)) none)),
  o p0 (.p (.mv (.t p60)))])
  (.seq (.seq (.reg [o p61 (.p (.mv (.t p2))),
  o p62 (.p (.mv (.t p0))),
  o p63 (.p (.mv (.t p1))),
  o p64 (.p (.mv (.t p7))),
  o p65 (.p (.bin .i .add (.t p63) (.t p64))),
  o p66 (.r (.slL 2 (.t p62) (some (.t p65)) none none)),
  o p67 (.call 383 [(.t p61), (.t p66)]),
  o p68 (.p (.un .not (.t p67)))])
  (.cond (.t p68) (.seq (.dreg [o p69 (.p (.mv (.t p0))),
  o p70 (.p (.mv (.t p1))),
  o p71 (.p (.mv (.t p7))),
  o p72 (.p (.bin .i .add (.t p70) (.t p71))),
  o p73 (.r (.slL 2 (.t p69) (some (.t p72)) none none)),
  o p74 (.p (.mv (.t p0))),
  o p75 (.p (.mv (.t p1))),
  o p76 (.r (.slL 2 (.t p74) (some (.t p75)) none none)),
  o p77 (.w (.cpy 2 (.t p73) (.t p76)))] [[], [], [], [], [], [], [], [], []])
  (.seq (.reg [o p78 (.p (.mv (.t p0))),
  o p79 (.p (.mv (.t p1))),
  o p80 (.r (.slL 2 (.t p78) (some (.t p79)) none none)),
  o p81 (.p (.mv (.t p2))),
  o p82 (.w (.cpy 2 (.t p80) (.t p81)))])
  (.seq (.reg [o p83 (.p (.mv (.t p0))),
  o p6 (.p (.mv (.t p83)))])
  (.ret))))
  (.skip)))
  (.seq (.reg [o p84 (.p (.mv (.t p0))),
  o p85 (.p (.mv (.t p8))),
  o p86 (.r (.slL 2 (.t p84) (some (.t p85)) none none)),
  o p87 (.p (.mv (.t p2))),
  o p88 (.w (.cpy 2 (.t p86) (.t p87)))])
  (.seq (.reg [o p89 (.p (.mv (.t p0))),
  o p90 (.p (.mv (.t p1))),
  o p91 (.r (.slL 2 (.t p89) (some (.t p90)) none none)),
  o p92 (.p (.mv (.t p7))),
  o p93 (.call 384 [(.t p91), (.t p92)])])
  (.seq (.reg [o p94 (.p (.mv (.t p0))),
  o p6 (.p (.mv (.t p94)))])
  (.ret))))))))))))⟩
def c354 : CFunc := ⟨[.t p6, .t p7], .seq (.reg [o p6 (.p (.mv (.c (.int .i64 0)))),
  o p7 (.p (.mv (.c (.bool false))))])
  (.seq (.reg [o p12 (.p (.mv (.t p0))),
  o p13 (.p (.lenP false (.t p12))),
  o p8 (.p (.mv (.t p13)))])
  (.seq (.reg [o p14 (.p (.mv (.t p8))),
  o p9 (.p (.mv (.c (.int .i64 0)))),
  o p10 (.p (.mv (.t p14)))])
  (.seq (.block 0 (.loop (.seq (.seq (.reg [o p15 (.p (.mv (.t p9))),
  o p16 (.p (.mv (.t p10))),
  o p17 (.p (.bin .i .lss (.t p15) (.t p16)))])
  (.cond (.t p17) (.skip)
  (.exit 0)))
  (.block 1 (.seq (.reg [o p18 (.p (.mv (.t p9))),
  o p19 (.p (.mv (.t p10))),
  o p20 (.p (.bin .i .add (.t p18) (.t p19))),
  o p21 (.p (.conv .u64 (.t p20))),
  o p22 (.p (.bin .i .shr (.t p21) (.c (.int .u64 1)))),
  o p23 (.p (.conv .i64 (.t p22))),
  o p11 (.p (.mv (.t p23)))])
  (.seq (.reg [o p24 (.p (.mv (.t p2))),
  o p25 (.p (.mv (.t p0))),
  o p26 (.p (.mv (.t p11))),
  o p27 (.p (.iaL 2 (.t p25) (.t p26))),
  o p28 (.r (.ld 2 true (.t p27))),
  o p29 (.p (.mv (.t p1))),
  o p30 (.callv (.t p24) [(.t p28), (.t p29)]),
  o p31 (.p (.bin .i .lss (.t p30) (.c (.int .i64 0))))])
  (.cond (.t p31) (.reg [o p32 (.p (.mv (.t p11))),
  o p33 (.p (.bin .i .add (.t p32) (.c (.int .i64 1)))),
  o p9 (.p (.mv (.t p33)))])
  (.reg [o p34 (.p (.mv (.t p11))),
  o p10 (.p (.mv (.t p34)))]))))))))
  (.seq (.reg [o p35 (.p (.mv (.t p9))),
  o p36 (.p (.mv (.t p9))),
  o p37 (.p (.mv (.t p8))),
  o p38 (.p (.bin .i .lss (.t p36) (.t p37))),
  o p39 (.p (.mv (.t p38))),
  g (some p40) p39 true (.p (.mv (.t p2))),
  g (some p41) p39 true (.p (.mv (.t p0))),
  g (some p42) p39 true (.p (.mv (.t p9))),
  g (some p43) p39 true (.p (.iaL 2 (.t p41) (.t p42))),
  g (some p44) p39 true (.r (.ld 2 true (.t p43))),
  g (some p45) p39 true (.p (.mv (.t p1))),
  g (some p46) p39 true (.callv (.t p40) [(.t p44), (.t p45)]),
  g (some p47) p39 true (.p (.bin .i .eql (.t p46) (.c (.int .i64 0)))),
  o p48 (.p (.pick (.t p39) (.t p47) (.c (.bool false)))),
  o p6 (.p (.mv (.t p35))),
  o p7 (.p (.mv (.t p48)))])
  (.ret)))))⟩
def c355 : CFunc := ⟨[.t p4], .seq (.reg [o p2 (.a (.box 2 (.t p0))),
  o p4 (.p (.mv (.c (.int .i64 0))))])
  (.seq (.reg [o p5 (.p (.fa 0 (.t p2))),
  o p6 (.r (.ld 1 false (.t p5))),
  o p7 (.p (.mv (.t p1))),
  o p8 (.call 356 [(.t p6), (.t p7)]),
  o p4 (.p (.mv (.t p8)))])
  (.ret))⟩
def c356 : CFunc := ⟨[.t p4], .seq (.reg [o p4 (.p (.mv (.c (.int .i64 0))))])
  (.seq (.reg [o p7 (.p (.mv (.t p0))),
  o p8 (.call 290 [(.t p7)]),
  o p5 (.p (.mv (.t p8)))])
  (.seq (.reg [o p9 (.p (.mv (.t p1))),
  o p10 (.call 290 [(.t p9)]),
  o p6 (.p (.mv (.t p10)))])
  (.seq (.seq (.reg [o p11 (.p (.mv (.t p5)))])
  (.cond (.t p11) (.seq (.seq (.reg [o p12 (.p (.mv (.t p6)))])
  (.cond (.t p12) (.seq (.reg [o p4 (.p (.mv (.c (.int .i64 0))))])
  (.ret))
  (.skip)))
  (.seq (.reg [o p4 (.p (.mv (.c (.int .i64 (-1)))))])
  (.ret)))
  (.skip)))
  (.seq (.seq (.reg [o p13 (.p (.mv (.t p6)))])
  (.cond (.t p13) (.seq (.reg [o p4 (.p (.mv (.c (.int .i64 1))))])
  (.ret))
  (.skip)))
  (.seq (.seq (.reg [o p14 (.p (.mv (.t p0))),
  o p15 (.p (.mv (.t p1))),
  o p16 (.p (.bin .i .lss (.t p14) (.t p15)))])
  (.cond (.t p16) (.seq (.reg [o p4 (.p (.mv (.c (.int .i64 (-1)))))])
  (.ret))
  (.skip)))
  (.seq (.seq (.reg [o p17 (.p (.mv (.t p0))),
  o p18 (.p (.mv (.t p1))),
  o p19 (.p (.bin .i .gtr (.t p17) (.t p18)))])
  (.cond (.t p19) (.seq (.reg [o p4 (.p (.mv (.c (.int .i64 1))))])
  (.ret))
  (.skip)))
  (.seq (.reg [o p4 (.p (.mv (.c (.int .i64 0))))])
  (.ret))))))))⟩
def c357 : CFunc := ⟨[.cell p4 68 true, .t p5, .t p6], .seq (.reg [o p2 (.a (.box 68 (.t p0))),
  o p4 (.a (.alc [(.int .u32 0), (.string ⟨⟨[]⟩⟩), (.int .u8 0), (.int .u8 0), (.int .u8 0), (.int .u8 0), (.int .u8 0), (.int .u8 0), (.int .u8 0), (.int .u8 0), (.int .u8 0), (.int .u8 0), (.int .u8 0), (.int .u8 0), (.int .u8 0), (.int .u8 0), (.int .u8 0), (.int .u8 0), (.int .u8 0), (.int .u8 0), (.int .u8 0), (.int .u8 0), (.int .u8 0), (.int .u8 0), (.int .u8 0), (.int .u8 0), (.int .u8 0), (.int .u8 0), (.int .u8 0), (.int .u8 0), (.int .u8 0), (.int .u8 0), (.int .u8 0), (.int .u8 0), (.int .u8 0), (.int .u8 0), (.int .u8 0), (.int .u8 0), (.int .u8 0), (.int .u8 0), (.int .u8 0), (.int .u8 0), (.int .u8 0), (.int .u8 0), (.int .u8 0), (.int .u8 0), (.int .u8 0), (.int .u8 0), (.int .u8 0), (.int .u8 0), (.int .u8 0), (.int .u8 0), (.int .u8 0), (.int .u8 0), (.int .u8 0), (.int .u8 0), (.int .u8 0), (.int .u8 0), (.int .u8 0), (.int .u8 0), (.int .u8 0), (.int .u8 0), (.int .u8 0), (.int .u8 0), (.int .u8 0), (.int .u8 0), (.slice none 0 0), (.slice none 0 0)])),
  o p5 (.p (.mv (.c (.slice none 0 0)))),
  o p6 (.p (.mv (.c (.int .i64 0))))])
  (.seq (.seq (.reg [o p12 (.r (.ld 68 true (.t p2))),
  o p13 (.call 144 [(.t p12)]),
  o p14 (.p (.un .not (.t p13)))])
  (.cond (.t p14) (.seq (.reg [o p15 (.p (.bld [(.int .u32 0), (.string ⟨⟨[]⟩⟩), (.int .u8 0), (.int .u8 0), (.int .u8 0), (.int .u8 0), (.int .u8 0), (.int .u8 0), (.int .u8 0), (.int .u8 0), (.int .u8 0), (.int .u8 0), (.int .u8 0), (.int .u8 0), (.int .u8 0), (.int .u8 0), (.int .u8 0), (.int .u8 0), (.int .u8 0), (.int .u8 0), (.int .u8 0), (.int .u8 0), (.int .u8 0), (.int .u8 0), (.int .u8 0), (.int .u8 0), (.int .u8 0), (.int .u8 0), (.int .u8 0), (.int .u8 0), (.int .u8 0), (.int .u8 0), (.int .u8 0), (.int .u8 0), (.int .u8 0), (.int .u8 0), (.int .u8 0), (.int .u8 0), (.int .u8 0), (.int .u8 0), (.int .u8 0), (.int .u8 0), (.int .u8 0), (.int .u8 0), (.int .u8 0), (.int .u8 0), (.int .u8 0), (.int .u8 0), (.int .u8 0), (.int .u8 0), (.int .u8 0), (.int .u8 0), (.int .u8 0), (.int .u8 0), (.int .u8 0), (.int .u8 0), (.int .u8 0), (.int .u8 0), (.int .u8 0), (.int .u8 0), (.int .u8 0), (.int .u8 0), (.int .u8 0), (.int .u8 0), (.int .u8 0), (.int .u8 0), (.slice none 0 0), (.slice none 0 0)] [])),
  n (.w (.st 68 (.t p4) (.t p15))),
  o p5 (.p (.mv (.c (.slice none 0 0)))),
  o p6 (.p (.mv (.c (.int .i64 1))))])
  (.ret))
  (.skip)))
  (.seq (.reg [o p7 (.p (.mv (.c (.slice none 0 0))))])
  (.seq (.reg [o p16 (.r (.ld 68 true (.t p2))),
  o p17 (.call 385 [(.t p16)]),
  n (.w (.st 68 (.t p2) (.t p17)))])
  (.seq (.seq (.reg [o p18 (.p (.mv (.t p1))),
  o p19 (.p (.lenP false (.t p18))),
  o p20 (.p (.mv (.c (.int .i64 0))))])
  (.block 0 (.loop (.seq (.reg [o p21 (.p (.bin .i .lss (.t p20) (.t p19)))])
  (.seq (.cond (.t p21) (.skip)
  (.exit 0))
  (.seq (.block 1 (.seq (.reg [o p22 (.p (.iaL 1 (.t p18) (.t p20))),
  o p23 (.r (.ld 1 false (.t p22))),
  o p9 (.p (.mv (.t p23)))])
  (.seq (.reg [o p25 (.r (.ld 68 true (.t p2))),
  o p26 (.p (.mv (.t p9))),
  o p27 (.call 147 [(.t p25), (.t p26)]),
  o p24 (.p (.mv (.t p27))),
  o p28 (.p (.ext 0 (.t p24))),
  o p29 (.p (.ext 1 (.t p24))),
  o p10 (.p (.mv (.t p28))),
  o p11 (.p (.mv (.t p29)))])
  (.seq (.seq (.reg [o p30 (.p (.mv (.t p11))),
  o p31 (.p (.un .not (.t p30))),
  o p32 (.p (.mv (.t p31))),
  g (some p33) p32 false (.p (.mv (.t p10))),
  g (some p34) p32 false (.p (.fa 2 (.t p2))),
  g (some p35) p32 false (.p (.iaA 64 1 (.t p34) (.t p33))),
  g (some p36) p32 false (.r (.ld 1 false (.t p35))),
  g (some p37) p32 false (.p (.bin .i .eql (.t p36) (.c (.int .u8 0)))),
  o p38 (.p (.pick (.t p32) (.c (.bool true)) (.t p37)))])
  (.cond (.t p38) (.exit 1)
  (.skip)))
  (.seq (.reg [o p39 (.p (.mv (.t p10))),
  o p40 (.p (.fa 2 (.t p2))),
  o p41 (.p (.iaA 64 1 (.t p40) (.t p39))),
  n (.w (.st 1 (.t p41) (.c (.int .u8 0))))])
  (.seq (.reg [o p42 (.p (.fa 66 (.t p2))),
  o p43 (.r (.ld 1 false (.t p42))),
  o p44 (.p (.mv (.t p10))),
  o p45 (.p (.conv .u8 (.t p44))),
  o p46 (.a (.bsl 1 1 [(.int .u8 0)] [(0, 1, (.t p45))])),
  o p47 (.w (.app 1 1 (.t p43) (.t p46))),
  o p48 (.p (.fa 66 (.t p2))),
  n (.w (.st 1 (.t p48) (.t p47)))])
  (.reg [o p49 (.p (.mv (.t p7))),
  o p50 (.p (.mv (.t p9))),
  o p51 (.a (.bsl 1 1 [(.int .u32 0)] [(0, 1, (.t p50))])),
  o p52 (.w (.app 1 4 (.t p49) (.t p51))),
  o p7 (.p (.mv (.t p52)))])))))))
  (.reg [o p53 (.p (.bin .i .add (.t p20) (.c (.int .i64 1)))),
  o p20 (.p (.mv (.t p53)))])))))))
  (.seq (.reg [o p54 (.r (.ld 68 true (.t p2))),
  o p55 (.call 386 [(.t p54)]),
  o p56 (.p (.mv (.t p7))),
  n (.w (.st 68 (.t p4) (.t p55))),
  o p5 (.p (.mv (.t p56))),
  o p6 (.p (.mv (.c (.int .i64 0))))])
  (.ret))))))⟩
def c358 : CFunc := ⟨[.cell p4 68 true, .t p5, .t p6], .seq (.reg [o p2 (.a (.box 68 (.t p0))),
  o p3 (.a (.box 1 (.t p1))),
  o p4 (.a (.alc [(.int .u32 0), (.string ⟨⟨[]⟩⟩), (.int .u8 0), (.int .u8 0), (.int .u8 0), (.int .u8 0), (.int .u8 0), (.int .u8 0), (.int .u8 0), (.int .u8 0), (.int .u8 0), (.int .u8 0), (.int .u8 0), (.int .u8 0), (.int .u8 0), (.int .u8 0), (.int .u8 0), (.int .u8 0), (.int .u8 0), (.int .u8 0), (.int .u8 0), (.int .u8 0), (.int .u8 0), (.int .u8 0), (.int .u8 0), (.int .u8 0), (.int .u8 0), (.int .u8 0), (.int .u8 0), (.int .u8 0), (.int .u8 0), (.int .u8 0), (.int .u8 0), (.int .u8 0), (.int .u8 0), (.int .u8 0), (.int .u8 0), (.int .u8 0), (.int .u8 0), (.int .u8 0), (.int .u8 0), (.int .u8 0), (.int .u8 0), (.int .u8 0), (.int .u8 0), (.int .u8 0), (.int .u8 0), (.int .u8 0), (.int .u8 0), (.int .u8 0), (.int .u8 0), (.int .u8 0), (.int .u8 0), (.int .u8 0), (.int .u8 0), (.int .u8 0), (.int .u8 0), (.int .u8 0), (.int .u8 0), (.int .u8 0), (.int .u8 0), (.int .u8 0), (.int .u8 0), (.int .u8 0), (.int .u8 0), (.int .u8 0), (.slice none 0 0), (.slice none 0 0)])),
  o p5 (.p (.mv (.c (.slice none 0 0)))),
  o p6 (.p (.mv (.c (.int .i64 0))))])
  (.seq (.seq (.reg [o p7 (.r (.ld 68 true (.t p2))),
  o p8 (.call 144 [(.t p7)]),
  o p9 (.p (.un .not (.t p8)))])
  (.cond (.t p9) (.seq (.reg [o p10 (.p (.bld [(.int .u32 0), (.string ⟨⟨[]⟩⟩), (.int .u8 0), (.int .u8 0), (.int .u8 0), (.int .u8 0), (.int .u8 0), (.int .u8 0), (.int .u8 0), (.int .u8 0), (.int .u8 0), (.int .u8 0), (.int .u8 0), (.int .u8 0), (.int .u8 0), (.int .u8 0), (.int .u8 0), (.int .u8 0), (.int .u8 0), (.int .u8 0), (.int .u8 0), (.int .u8 0), (.int .u8 0), (.int .u8 0), (.int .u8 0), (.int .u8 0), (.int .u8 0), (.int .u8 0), (.int .u8 0), (.int .u8 0), (.int .u8 0), (.int .u8 0), (.int .u8 0), (.int .u8 0), (.int .u8 0), (.int .u8 0), (.int .u8 0), (.int .u8 0), (.int .u8 0), (.int .u8 0), (.int .u8 0), (.int .u8 0), (.int .u8 0), (.int .u8 0), (.int .u8 0), (.int .u8 0), (.int .u8 0), (.int .u8 0), (.int .u8 0), (.int .u8 0), (.int .u8 0), (.int .u8 0), (.int .u8 0), (.int .u8 0), (.int .u8 0), (.int .u8 0), (.int .u8 0), (.int .u8 0), (.int .u8 0), (.int .u8 0), (.int .u8 0), (.int .u8 0), (.int .u8 0), (.int .u8 0), (.int .u8 0), (.int .u8 0), (.slice none 0 0), (.slice none 0 0)] [])),
  n (.w (.st 68 (.t p4) (.t p10))),
  o p5 (.p (.mv (.c (.slice none 0 0)))),
  o p6 (.p (.mv (.c (.int .i64 1))))])
  (.ret))
  (.skip)))
  (.seq (.dreg [o p11 (.r (.ld 68 true (.t p2))),
  o p12 (.r (.ld 68 true (.t p2))),
  o p13 (.p (.mkf 387 [] [(.t p3)])),
  o p14 (.call 145 [(.t p12), (.t p13)]),
  o p15 (.call 357 [(.t p11), (.t p14)]),
  o p16 (.p (.ext 0 (.t p15))),
  o p17 (.p (.ext 1 (.t p15))),
  o p18 (.p (.ext 2 (.t p15))),
  n (.w (.st 68 (.t p4) (.t p16))),
  o p5 (.p (.mv (.t p17))),
  o p6 (.p (.mv (.t p18)))] [[], [], [], [0], [], [], [], [], [], [], []])
  (.ret)))⟩
def c359 : CFunc := ⟨[.cell p4 68 true, .t p5, .t p6], .seq (.reg [o p2 (.a (.box 68 (.t p0))),
  o p3 (.a (.box 1 (.t p1))),
  o p4 (.a (.alc [(.int .u32 0), (.string ⟨⟨[]⟩⟩), (.int .u8 0), (.int .u8 0), (.int .u8 0), (.int .u8 0), (.int .u8 0), (.int .u8 0), (.int .u8 0), (.int .u8 0), (.int .u8 0), (.int .u8 0), (.int .u8 0), (.int .u8 0), (.int .u8 0), (.int .u8 0), (.int .u8 0), (.int .u8 0), (.int .u8 0), (.int .u8 0), (.int .u8 0), (.int .u8 0), (.int .u8 0), (.int .u8 0), (.int .u8 0), (.int .u8 0), (.int .u8 0), (.int .u8 0), (.int .u8 0), (.int .u8 0), (.int .u8 0), (.int .u8 0), (.int .u8 0), (.int .u8 0), (.int .u8 0), (.int .u8 0), (.int .u8 0), (.int .u8 0), (.int .u8 0), (.int .u8 0), (.int .u8 0), (.int .u8 0), (.int .u8 0), (.int .u8 0), (.int .u8 0), (.int .u8 0), (.int .u8 0), (.int .u8 0), (.int .u8 0), (.int .u8 0), (.int .u8 0), (.int .u8 0), (.int .u8 0), (.int .u8 0), (.int .u8 0), (.int .u8 0), (.int .u8 0), (.int .u8 0), (.int .u8 0), (.int .u8 0), (.int .u8 0), (.int .u8 0), (.int .u8 0), (.int .u8 0), (.int .u8 0), (.int .u8 0), (.slice none 0 0), (.slice none 0 0)])),
  o p5 (.p (.mv (.c (.slice none 0 0)))),
  o p6 (.p (.mv (.c (.int .i64 0))))])
  (.seq (.seq (.reg [o p7 (.r (.ld 68 true (.t p2))),
  o p8 (.call 144 [(.t p7)]),
  o p9 (.p (.un .not (.t p8)))])
  (.cond (.t p9) (.seq (.reg [o p10 (.p (.bld [(.int .u32 0), (.string ⟨⟨[]⟩⟩), (.int .u8 0), (.int .u8 0), (.int .u8 0), (.int .u8 0), (.int .u8 0), (.int .u8 0), (.int .u8 0), (.int .u8 0), (.int .u8 0), (.int .u8 0), (.int .u8 0), (.int .u8 0), (.int .u8 0), (.int .u8 0), (.int .u8 0), (.int .u8 0), (.int .u8 0), (.int .u8 0), (.int .u8 0), (.int .u8 0), (.int .u8 0), (.int .u8 0), (.int .u8 0), (.int .u8 0), (.int .u8 0), (.int .u8 0), (.int .u8 0), (.int .u8 0), (.int .u8 0), (.int .u8 0), (.int .u8 0), (.int .u8 0), (.int .u8 0), (.int .u8 0), (.int .u8 0), (.int .u8 0), (.int .u8 0), (.int .u8 0), (.int .u8 0), (.int .u8 0), (.int .u8 0), (.int .u8 0), (.int .u8 0), (.int .u8 0), (.int .u8 0), (.int .u8 0), (.int .u8 0), (.int .u8 0), (.int .u8 0), (.int .u8 0), (.int .u8 0), (.int .u8 0), (.int .u8 0), (.int .u8 0), (.int .u8 0), (.int .u8 0), (.int .u8 0), (.int .u8 0), (.int .u8 0), (.int .u8 0), (.int .u8 0), (.int .u8 0), (.int .u8 0), (.int .u8 0), (.slice none 0 0), (.slice none 0 0)] [])),
  n (.w (.st 68 (.t p4) (.t p10))),
  o p5 (.p (.mv (.c (.slice none 0 0)))),
  o p6 (.p (.mv (.c (.int .i64 1))))])
  (.ret))
  (.skip)))
  (.seq (.dreg [o p11 (.r (.ld 68 true (.t p2))),
  o p12 (.r (.ld 68 true (.t p2))),
  o p13 (.p (.mkf 388 [] [(.t p3)])),
  o p14 (.call 145 [(.t p12), (.t p13)]),
  o p15 (.call 357 [(.t p11), (.t p14)]),
  o p16 (.p (.ext 0 (.t p15))),
  o p17 (.p (.ext 1 (.t p15))),
  o p18 (.p (.ext 2 (.t p15))),
  n (.w (.st 68 (.t p4) (.t p16))),
  o p5 (.p (.mv (.t p17))),
  o p6 (.p (.mv (.t p18)))] [[], [], [], [0], [], [], [], [], [], [], []])
  (.ret)))⟩
def c360 : CFunc := ⟨[.t p4], .seq (.reg [o p4 (.p (.mv (.c (.slice none 0 0))))])
  (.seq (.reg [o p8 (.p (.mv (.t p0))),
  o p9 (.p (.mv (.t p1))),
  o p10 (.call 389 [(.t p8), (.t p9)]),
  o p7 (.p (.mv (.t p10))),
  o p11 (.p (.ext 0 (.t p7))),
  o p12 (.p (.ext 1 (.t p7))),
  o p5 (.p (.mv (.t p11))),
  o p6 (.p (.mv (.t p12)))])
  (.seq (.reg [o p13 (.p (.mv (.t p5))),
  o p4 (.p (.mv (.t p13)))])
  (.ret)))⟩
def c361 : CFunc := ⟨[.cell p2 1 true], .seq (.reg [o p2 (.a (.alc [(.slice none 0 0)]))])
  (.seq (.reg [o p3 (.p (.mv (.t p0))),
  o p4 (.call 209 [(.t p3)]),
  o p5 (.p (.bld [(.slice none 0 0)] [(0, 1, (.t p4))])),
  n (.w (.st 1 (.t p2) (.t p5)))])
  (.ret))⟩
def c362 : CFunc := ⟨[.t p2], .seq (.reg [o p1 (.a (.box 1 (.t p0))),
  o p2 (.p (.mv (.c .nilFunc)))])
  (.seq (.reg [o p3 (.p (.mkf 390 [] [(.t p1)])),
  o p2 (.p (.mv (.t p3)))])
  (.ret))⟩
def c363 : CFunc := ⟨[], .seq (.reg [o p3 (.a (.box 4 (.t p1)))])
  (.seq (.reg [o p4 (.p (.mv (.t p0))),
  o p5 (.r (.ld 4 true (.t p3))),
  o p6 (.call 320 [(.t p4), (.t p5)]),
  o p7 (.p (.un .not (.t p6)))])
  (.cond (.t p7) (.reg [o p8 (.p (.mv (.t p0))),
  o p9 (.call 364 [(.t p8), (.c (.int .i64 0))])])
  (.skip)))⟩
def c364 : CFunc := ⟨[], .seq (.seq (.reg [o p6 (.p (.mv (.t p1))),
  o p7 (.p (.bin .i .eql (.t p6) (.c (.int .i64 12))))])
  (.cond (.t p7) (.seq (.reg [o p8 (.p (.mv (.t p0))),
  o p9 (.p (.mv (.t p1))),
  o p10 (.call 273 [(.t p8), (.c (.slice none 0 0)), (.t p9)])])
  (.ret))
  (.skip)))
  (.seq (.reg [o p12 (.p (.mv (.t p0))),
  o p13 (.p (.nck (.t p12))),
  o p14 (.p (.fa 77 (.t p13))),
  o p15 (.call 391 [(.t p14)]),
  o p11 (.p (.mv (.t p15))),
  o p16 (.p (.ext 0 (.t p11))),
  o p17 (.p (.ext 1 (.t p11))),
  o p4 (.p (.mv (.t p16))),
  o p5 (.p (.mv (.t p17)))])
  (.seq (.seq (.reg [o p18 (.p (.mv (.t p5))),
  o p19 (.p (.un .not (.t p18)))])
  (.cond (.t p19) (.seq (.reg [o p20 (.p (.mv (.t p0))),
  o p21 (.p (.mv (.t p0))),
  o p22 (.p (.nck (.t p21))),
  o p23 (.p (.fa 7 (.t p22))),
  o p24 (.r (.ld 1 false (.t p23))),
  o p25 (.call 273 [(.t p20), (.t p24), (.c (.int .i64 0))])])
  (.ret))
  (.skip)))
  (.dreg [o p26 (.p (.mv (.t p0))),
  o p27 (.p (.nck (.t p26))),
  o p28 (.p (.fa 0 (.t p27))),
  o p29 (.r (.ld 1 false (.t p28))),
  o p30 (.p (.mv (.t p4))),
  o p31 (.p (.mv (.t p0))),
  o p32 (.p (.nck (.t p31))),
  o p33 (.p (.fa 1 (.t p32))),
  o p34 (.r (.ld 1 false (.t p33))),
  o p35 (.p (.mv (.t p0))),
  o p36 (.p (.nck (.t p35))),
  o p37 (.p (.fa 76 (.t p36))),
  o p38 (.r (.ld 1 false (.t p37))),
  o p39 (.p (.mv (.t p4))),
  o p40 (.r (.look (.int .i64 0) false (.one 1) (.t p38) (.t p39))),
  o p41 (.p (.mv (.t p0))),
  o p42 (.p (.mkf 364 [(.t p41)] [])),
  o p43 (.call 392 [(.t p29), (.t p30), (.t p34), (.t p40), (.t p42)])] [[], [], [], [], [], [], [], [], [], [], [], [], [], [], [], [], [], []])))⟩
def c377 : CFunc := ⟨[.cell p2 4 true], .seq (.reg [o p2 (.a (.alc [(.int .u8 0), (.int .u8 0), (.int .u8 0), (.int .u8 0)]))])
  (.seq (.reg [o p3 (.a (.alc [(.int .u8 0), (.int .u8 0), (.int .u8 0), (.int .u8 0)]))])
  (.seq (.seq (.reg [o p5 (.p (.mv (.c (.int .i64 0))))])
  (.block 0 (.loop (.seq (.reg [o p6 (.p (.bin .i .lss (.t p5) (.c (.int .i64 4))))])
  (.seq (.cond (.t p6) (.skip)
  (.exit 0))
  (.seq (.block 1 (.seq (.reg [o p7 (.p (.mv (.t p5))),
  o p4 (.p (.mv (.t p7)))])
  (.reg [o p8 (.p (.mv (.t p4))),
  o p9 (.p (.mv (.t p0))),
  o p10 (.p (.mv (.t p4))),
  o p11 (.p (.bin .i .sub (.c (.int .i64 3)) (.t p10))),
  o p12 (.p (.bin .i .mul (.c (.int .i64 8)) (.t p11))),
  o p13 (.p (.bin .i .shr (.t p9) (.t p12))),
  o p14 (.p (.conv .u8 (.t p13))),
  o p15 (.p (.iaA 4 1 (.t p3) (.t p8))),
  n (.w (.st 1 (.t p15) (.t p14)))])))
  (.reg [o p16 (.p (.bin .i .add (.t p5) (.c (.int .i64 1)))),
  o p5 (.p (.mv (.t p16)))])))))))
  (.seq (.reg [o p17 (.r (.ld 4 true (.t p3))),
  n (.w (.st 4 (.t p2) (.t p17)))])
  (.ret))))⟩
def c378 : CFunc := ⟨[.t p2], .seq (.reg [o p2 (.p (.mv (.c (.string ⟨⟨[]⟩⟩))))])
  (.seq (.reg [o p3 (.p (.mv (.c (.string ⟨⟨[]⟩⟩))))])
  (.seq (.seq (.reg [o p4 (.p (.mv (.c (.bool true))))])
  (.block 0 (.loop (.seq (.seq (.reg [o p5 (.p (.mv (.t p4)))])
  (.cond (.t p5) (.skip)
  (.exit 0)))
  (.seq (.block 1 (.seq (.reg [o p8 (.p (.mv (.t p0))),
  o p9 (.p (.bin .i .rem (.t p8) (.c (.int .u8 10)))),
  o p10 (.p (.bin .i .add (.c (.int .u8 48)) (.t p9))),
  o p11 (.a (.bsl 1 1 [(.int .u8 0)] [(0, 1, (.t p10))])),
  o p12 (.r (.b2s (.t p11))),
  o p13 (.p (.mv (.t p3))),
  o p14 (.p (.bin .s .add (.t p12) (.t p13))),
  o p3 (.p (.mv (.t p14)))])
  (.reg [o p15 (.p (.mv (.t p0))),
  o p16 (.p (.bin .i .quo (.t p15) (.c (.int .u8 10)))),
  o p0 (.p (.mv (.t p16)))])))
  (.reg [o p6 (.p (.mv (.t p0))),
  o p7 (.p (.bin .i .gtr (.t p6) (.c (.int .u8 0)))),
  o p4 (.p (.mv (.t p7)))]))))))
  (.seq (.reg [o p17 (.p (.mv (.t p3))),
  o p2 (.p (.mv (.t p17)))])
  (.ret))))⟩
def c384 : CFunc := ⟨[], .reg [o p4 (.p (.mv (.t p0))),
  o p5 (.p (.mv (.t p0))),
  o p6 (.p (.lenP false (.t p5))),
  o p7 (.p (.mv (.t p1))),
  o p8 (.p (.bin .i .sub (.t p6) (.t p7))),
  o p9 (.call 407 [(.t p4), (.t p8)])]⟩
def c385 : CFunc := ⟨[.cell p2 68 true], .seq (.reg [o p1 (.a (.box 68 (.t p0))),
  o p2 (.a (.alc [(.int .u32 0), (.string ⟨⟨[]⟩⟩), (.int .u8 0), (.int .u8 0), (.int .u8 0), (.int .u8 0), (.int .u8 0), (.int .u8 0), (.int .u8 0), (.int .u8 0), (.int .u8 0), (.int .u8 0), (.int .u8 0), (.int .u8 0), (.int .u8 0), (.int .u8 0), (.int .u8 0), (.int .u8 0), (.int .u8 0), (.int .u8 0), (.int .u8 0), (.int .u8 0), (.int .u8 0), (.int .u8 0), (.int .u8 0), (.int .u8 0), (.int .u8 0), (.int .u8 0), (.int .u8 0), (.int .u8 0), (.int .u8 0), (.int .u8 0), (.int .u8 0), (.int .u8 0), (.int .u8 0), (.int .u8 0), (.int .u8 0), (.int .u8 0), (.int .u8 0), (.int .u8 0), (.int .u8 0), (.int .u8 0), (.int .u8 0), (.int .u8 0), (.int .u8 0), (.int .u8 0), (.int .u8 0), (.int .u8 0), (.int .u8 0), (.int .u8 0), (.int .u8 0), (.int .u8 0), (.int .u8 0), (.int .u8 0), (.int .u8 0), (.int .u8 0), (.int .u8 0), (.int .u8 0), (.int .u8 0), (.int .u8 0), (.int .u8 0), (.int .u8 0), (.int .u8 0), (.int .u8 0), (.int .u8 0), (.int .u8 0), (.slice none 0 0), (.slice none 0 0)]))])
  (.seq (.dreg [o p3 (.p (.fa 66 (.t p1))),
  o p4 (.r (.ld 1 false (.t p3))),
  o p6 (.p (.fa 67 (.t p1))),
  o p7 (.r (.ld 1 false (.t p6))),
  o p5 (.call 251 [(.t p4)]),
  o p9 (.p (.fa 66 (.t p1))),
  o p8 (.call 408 [(.t p7)]),
  n (.w (.st 1 (.t p9) (.t p5))),
  o p10 (.p (.fa 67 (.t p1))),
  n (.w (.st 1 (.t p10) (.t p8)))] [[], [], [], [], [3], [], [], [], [], []])
  (.seq (.reg [o p11 (.r (.ld 68 true (.t p1))),
  n (.w (.st 68 (.t p2) (.t p11)))])
  (.ret)))⟩
def c386 : CFunc := ⟨[.cell p2 68 true], .seq (.reg [o p1 (.a (.box 68 (.t p0))),
  o p2 (.a (.alc [(.int .u32 0), (.string ⟨⟨[]⟩⟩), (.int .u8 0), (.int .u8 0), (.int .u8 0), (.int .u8 0), (.int .u8 0), (.int .u8 0), (.int .u8 0), (.int .u8 0), (.int .u8 0), (.int .u8 0), (.int .u8 0), (.int .u8 0), (.int .u8 0), (.int .u8 0), (.int .u8 0), (.int .u8 0), (.int .u8 0), (.int .u8 0), (.int .u8 0), (.int .u8 0), (.int .u8 0), (.int .u8 0), (.int .u8 0), (.int .u8 0), (.int .u8 0), (.int .u8 0), (.int .u8 0), (.int .u8 0), (.int .u8 0), (.int .u8 0), (.int .u8 0), (.int .u8 0), (.int .u8 0), (.int .u8 0), (.int .u8 0), (.int .u8 0), (.int .u8 0), (.int .u8 0), (.int .u8 0), (.int .u8 0), (.int .u8 0), (.int .u8 0), (.int .u8 0), (.int .u8 0), (.int .u8 0), (.int .u8 0), (.int .u8 0), (.int .u8 0), (.int .u8 0), (.int .u8 0), (.int .u8 0), (.int .u8 0), (.int .u8 0), (.int .u8 0), (.int .u8 0), (.int .u8 0), (.int .u8 0), (.int .u8 0), (.int .u8 0), (.int .u8 0), (.int .u8 0), (.int .u8 0), (.int .u8 0), (.int .u8 0), (.slice none 0 0), (.slice none 0 0)]))])
  (.seq (.reg [o p3 (.a (.alc [(.int .u8 0), (.int .u8 0), (.int .u8 0), (.int .u8 0), (.int .u8 0), (.int .u8 0), (.int .u8 0), (.int .u8 0), (.int .u8 0), (.int .u8 0), (.int .u8 0), (.int .u8 0), (.int .u8 0), (.int .u8 0), (.int .u8 0), (.int .u8 0), (.int .u8 0), (.int .u8 0), (.int .u8 0), (.int .u8 0), (.int .u8 0), (.int .u8 0), (.int .u8 0), (.int .u8 0), (.int .u8 0), (.int .u8 0), (.int .u8 0), (.int .u8 0), (.int .u8 0), (.int .u8 0), (.int .u8 0), (.int .u8 0), (.int .u8 0), (.int .u8 0), (.int .u8 0), (.int .u8 0), (.int .u8 0), (.int .u8 0), (.int .u8 0), (.int .u8 0), (.int .u8 0), (.int .u8 0), (.int .u8 0), (.int .u8 0), (.int .u8 0), (.int .u8 0), (.int .u8 0), (.int .u8 0), (.int .u8 0), (.int .u8 0), (.int .u8 0), (.int .u8 0), (.int .u8 0), (.int .u8 0), (.int .u8 0), (.int .u8 0), (.int .u8 0), (.int .u8 0), (.int .u8 0), (.int .u8 0), (.int .u8 0), (.int .u8 0), (.int .u8 0), (.int .u8 0), (.int .u8 0)]))])
  (.seq (.reg [o p4 (.p (.mv (.c (.slice none 0 0))))])
  (.seq (.reg [o p5 (.p (.mv (.c (.int .u64 0))))])
  (.seq (.seq (.reg [o p12 (.p (.fa 2 (.t p1))),
  o p13 (.r (.ld 64 true (.t p12))),
  o p14 (.p (.mv (.c (.int .i64 0))))])
  (.block 0 (.loop (.seq (.reg [o p15 (.p (.bin .i .lss (.t p14) (.c (.int .i64 64))))])
  (.seq (.cond (.t p15) (.skip)
  (.exit 0))
  (.seq (.block 1 (.seq (.reg [o p16 (.p (.ixA 64 1 false (.t p13) (.t p14))),
  o p7 (.p (.mv (.t p16)))])
  (.reg [o p17 (.p (.mv (.t p5))),
  o p18 (.p (.mv (.t p7))),
  o p19 (.p (.conv .i64 (.t p18))),
  o p20 (.p (.bin .i .sub (.t p19) (.c (.int .i64 1)))),
  o p21 (.call 281 [(.t p17), (.t p20)]),
  o p5 (.p (.mv (.t p21)))])))
  (.reg [o p22 (.p (.bin .i .add (.t p14) (.c (.int .i64 1)))),
  o p14 (.p (.mv (.t p22)))])))))))
  (.seq (.seq (.reg [o p23 (.p (.fa 67 (.t p1))),
  o p24 (.r (.ld 1 false (.t p23))),
  o p25 (.p (.lenP false (.t p24))),
  o p26 (.p (.mv (.c (.int .i64 0))))])
  (.block 2 (.loop (.seq (.reg [o p27 (.p (.bin .i .lss (.t p26) (.t p25)))])
  (.seq (.cond (.t p27) (.skip)
  (.exit 2))
  (.seq (.block 3 (.seq (.reg [o p28 (.p (.mv (.t p26))),
  o p29 (.p (.iaL 2 (.t p24) (.t p26))),
  o p30 (.r (.ld 2 true (.t p29))),
  o p9 (.a (.alc [(.string ⟨⟨[]⟩⟩), (.string ⟨⟨[]⟩⟩)])),
  o p8 (.p (.mv (.t p28))),
  n (.w (.st 2 (.t p9) (.t p30)))])
  (.seq (.reg [o p31 (.p (.mv (.t p5))),
  o p32 (.p (.mv (.t p8))),
  o p33 (.call 284 [(.t p31), (.t p32)])])
  (.cond (.t p33) (.seq (.reg [o p34 (.p (.mv (.t p4))),
  o p35 (.r (.ld 2 true (.t p9))),
  o p36 (.a (.bsl 2 1 [(.string ⟨⟨[]⟩⟩), (.string ⟨⟨[]⟩⟩)] [(0, 2, (.t p35))])),
  o p37 (.w (.app 2 32 (.t p34) (.t p36))),
  o p4 (.p (.mv (.t p37)))])
  (.reg [o p38 (.p (.mv (.t p8))),
  o p39 (.p (.bin .i .add (.t p38) (.c (.int .i64 1)))),
  o p40 (.p (.mv (.t p4))),
  o p41 (.p (.lenP false (.t p40))),
  o p42 (.p (.conv .u8 (.t p41))),
  o p43 (.p (.iaA 65 1 (.t p3) (.t p39))),
  n (.w (.st 1 (.t p43) (.t p42)))]))
  (.skip)))))
  (.reg [o p44 (.p (.bin .i .add (.t p26) (.c (.int .i64 1)))),
  o p26 (.p (.mv (.t p44)))])))))))
  (.seq (.seq (.reg [o p45 (.p (.fa 2 (.t p1))),
  o p46 (.r (.ld 64 true (.t p45))),
  o p47 (.p (.mv (.c (.int .i64 0))))])
  (.block 4 (.loop (.seq (.reg [o p48 (.p (.bin .i .lss (.t p47) (.c (.int .i64 64))))])
  (.seq (.cond (.t p48) (.skip)
  (.exit 4))
  (.seq (.block 5 (.seq (.reg [o p49 (.p (.mv (.t p47))),
  o p50 (.p (.ixA 64 1 false (.t p46) (.t p47))),
  o p10 (.p (.mv (.t p49))),
  o p11 (.p (.mv (.t p50)))])
  (.reg [o p51 (.p (.mv (.t p10))),
  o p52 (.p (.mv (.t p11))),
  o p53 (.p (.iaA 65 1 (.t p3) (.t p52))),
  o p54 (.r (.ld 1 false (.t p53))),
  o p55 (.p (.fa 2 (.t p1))),
  o p56 (.p (.iaA 64 1 (.t p55) (.t p51))),
  n (.w (.st 1 (.t p56) (.t p54)))])))
  (.reg [o p57 (.p (.bin .i .add (.t p47) (.c (.int .i64 1)))),
  o p47 (.p (.mv (.t p57)))])))))))
  (.seq (.reg [o p58 (.p (.mv (.t p4))),
  o p59 (.p (.fa 67 (.t p1))),
  n (.w (.st 1 (.t p59) (.t p58)))])
  (.seq (.reg [o p60 (.r (.ld 68 true (.t p1))),
  n (.w (.st 68 (.t p2) (.t p60)))])
  (.ret)))))))))⟩
def c387 : CFunc := ⟨[.t p3], .seq (.reg [o p2 (.a (.box 2 (.t p0))),
  o p3 (.p (.mv (.c (.bool false))))])
  (.seq (.reg [o p4 (.p (.fa 0 (.t p2))),
  o p5 (.r (.ld 1 false (.t p4))),
  o p6 (.r (.ld 1 false (.t p1))),
  o p7 (.p (.bin .s .eql (.t p5) (.t p6))),
  o p3 (.p (.mv (.t p7)))])
  (.ret))⟩
def c388 : CFunc := ⟨[.t p3], .seq (.reg [o p2 (.a (.box 2 (.t p0))),
  o p3 (.p (.mv (.c (.bool false))))])
  (.seq (.reg [o p4 (.p (.fa 1 (.t p2))),
  o p5 (.r (.ld 1 false (.t p4))),
  o p6 (.r (.ld 1 false (.t p1))),
  o p7 (.p (.bin .s .eql (.t p5) (.t p6))),
  o p3 (.p (.mv (.t p7)))])
  (.ret))⟩
def c389 : CFunc := ⟨[.t p4, .t p5], .seq (.reg [o p4 (.p (.mv (.c (.slice none 0 0)))),
  o p5 (.p (.mv (.c (.int .i64 0))))])
  (.seq (.seq (.reg [o p6 (.p (.mv (.t p1))),
  o p7 (.p (.lenP true (.t p6))),
  o p8 (.p (.bin .i .gtr (.t p7) (.c (.int .i64 64))))])
  (.cond (.t p8) (.seq (.reg [o p4 (.p (.mv (.c (.slice none 0 0)))),
  o p5 (.p (.mv (.c (.int .i64 1))))])
  (.ret))
  (.skip)))
  (.seq (.reg [o p9 (.p (.mv (.t p0))),
  o p10 (.p (.mv (.t p1))),
  o p11 (.p (.lenP true (.t p10))),
  o p12 (.p (.conv .u64 (.t p11))),
  o p13 (.call 170 [(.t p9), (.t p12), (.c (.int .i64 1))]),
  o p14 (.p (.mv (.t p1))),
  o p15 (.w (.app 1 1 (.t p13) (.t p14))),
  o p4 (.p (.mv (.t p15))),
  o p5 (.p (.mv (.c (.int .i64 0))))])
  (.ret)))⟩
def c390 : CFunc := ⟨[], .seq (.reg [o p4 (.r (.ld 1 false (.t p1))),
  o p5 (.w (.rgM (.t p4)))])
  (.block 0 (.loop (.seq (.reg [o p6 (.nxM (.t p5)),
  o p7 (.p (.ext 0 (.t p6)))])
  (.seq (.cond (.t p7) (.skip)
  (.exit 0))
  (.block 1 (.seq (.reg [o p8 (.r (.ent (.t p5))),
  o p9 (.p (.ext 0 (.t p8))),
  o p3 (.p (.mv (.t p9)))])
  (.seq (.reg [o p10 (.p (.mv (.t p0))),
  o p11 (.p (.mv (.t p3))),
  o p12 (.callv (.t p10) [(.t p11)]),
  o p13 (.p (.un .not (.t p12)))])
  (.cond (.t p13) (.ret)
  (.skip)))))))))⟩
def c391 : CFunc := ⟨[.t p2, .t p3], .seq (.reg [o p2 (.p (.mv (.c (.string ⟨⟨[]⟩⟩)))),
  o p3 (.p (.mv (.c (.bool false))))])
  (.seq (.seq (.reg [o p6 (.p (.mv (.t p0))),
  o p7 (.p (.nck (.t p6))),
  o p8 (.p (.fa 0 (.t p7))),
  o p9 (.r (.ld 1 false (.t p8))),
  o p10 (.p (.lenP false (.t p9))),
  o p11 (.p (.bin .i .eql (.t p10) (.c (.int .i64 0))))])
  (.cond (.t p11) (.seq (.reg [o p4 (.p (.mv (.c (.string ⟨⟨[]⟩⟩))))])
  (.seq (.reg [o p12 (.p (.mv (.t p4))),
  o p2 (.p (.mv (.t p12))),
  o p3 (.p (.mv (.c (.bool false))))])
  (.ret)))
  (.skip)))
  (.seq (.reg [o p13 (.p (.mv (.t p0))),
  o p14 (.p (.nck (.t p13))),
  o p15 (.p (.fa 0 (.t p14))),
  o p16 (.r (.ld 1 false (.t p15))),
  o p17 (.p (.iaL 1 (.t p16) (.c (.int .i64 0)))),
  o p18 (.r (.ld 1 false (.t p17))),
  o p5 (.p (.mv (.t p18)))])
  (.seq (.reg [o p19 (.p (.mv (.t p0))),
  o p20 (.p (.mv (.t p0))),
  o p21 (.p (.nck (.t p20))),
  o p22 (.p (.fa 0 (.t p21))),
  o p23 (.r (.ld 1 false (.t p22))),
  o p24 (.r (.slL 1 (.t p23) (some (.c (.int .i64 1))) none none)),
  o p25 (.p (.nck (.t p19))),
  o p26 (.p (.fa 0 (.t p25))),
  n (.w (.st 1 (.t p26) (.t p24)))])
  (.seq (.reg [o p27 (.p (.mv (.t p5))),
  o p2 (.p (.mv (.t p27))),
  o p3 (.p (.mv (.c (.bool true))))])
  (.ret)))))⟩
def c392 : CFunc := ⟨[], .seq (.reg [o p13 (.p (.mv (.t p0))),
  o p14 (.p (.mv (.t p2))),
  o p15 (.p (.mv (.t p3))),
  o p16 (.p (.mv (.t p4))),
  o p17 (.p (.bld [(.pointer none), (.string ⟨⟨[]⟩⟩), (.int .u32 0), (.int .i64 0), (.int .i64 0), .nilFunc] [(0, 1, (.t p13)), (2, 1, (.t p14)), (3, 1, (.t p15)), (4, 1, (.c (.int .i64 6))), (5, 1, (.t p16))])),
  o p18 (.a (.box 6 (.t p17))),
  o p10 (.p (.mv (.t p18)))])
  (.seq (.reg [o p20 (.p (.mv (.t p1))),
  o p21 (.call 206 [(.t p20)]),
  o p19 (.p (.mv (.t p21))),
  o p22 (.p (.ext 0 (.t p19))),
  o p23 (.p (.ext 1 (.t p19))),
  o p11 (.p (.mv (.t p22))),
  o p12 (.p (.mv (.t p23)))])
  (.seq (.reg [o p24 (.p (.mv (.t p10))),
  o p25 (.p (.mv (.t p11))),
  o p26 (.p (.nck (.t p24))),
  o p27 (.p (.fa 1 (.t p26))),
  n (.w (.st 1 (.t p27) (.t p25)))])
  (.seq (.seq (.reg [o p28 (.p (.mv (.t p12))),
  o p29 (.p (.bin .i .neq (.t p28) (.c (.int .i64 0)))),
  o p30 (.p (.mv (.t p29))),
  g (some p31) p30 false (.p (.mv (.t p3))),
  g (some p32) p30 false (.p (.bin .i .lss (.t p31) (.c (.int .i64 0)))),
  o p33 (.p (.pick (.t p30) (.c (.bool true)) (.t p32))),
  o p34 (.p (.mv (.t p33))),
  g (some p35) p34 false (.p (.mv (.t p3))),
  g (some p36) p34 false (.p (.bin .i .gtr (.t p35) (.c (.int .i64 65535)))),
  o p37 (.p (.pick (.t p34) (.c (.bool true)) (.t p36)))])
  (.cond (.t p37) (.seq (.reg [o p38 (.p (.mv (.t p10))),
  o p39 (.call 409 [(.t p38), (.c (.int .i64 1))])])
  (.ret))
  (.skip)))
  (.reg [o p40 (.p (.mv (.t p10))),
  o p41 (.call 410 [(.t p40)])]))))⟩
def c407 : CFunc := ⟨[], .seq (.reg [o p4 (.p (.mv (.t p0))),
  o p5 (.p (.mv (.t p1))),
  o p6 (.r (.slL 2 (.t p4) none (some (.t p5)) none)),
  o p7 (.call 415 [(.t p6)])])
  (.seq (.reg [o p8 (.p (.mv (.t p0))),
  o p9 (.p (.mv (.t p1))),
  o p10 (.r (.slL 2 (.t p8) (some (.t p9)) none none)),
  o p11 (.call 415 [(.t p10)])])
  (.reg [o p12 (.p (.mv (.t p0))),
  o p13 (.call 415 [(.t p12)])]))⟩
def c408 : CFunc := ⟨[.t p2], .seq (.reg [o p2 (.p (.mv (.c (.slice none 0 0))))])
  (.seq (.seq (.reg [o p3 (.p (.mv (.t p0))),
  o p4 (.p (.bin .l .eql (.t p3) (.c (.slice none 0 0))))])
  (.cond (.t p4) (.seq (.reg [o p2 (.p (.mv (.c (.slice none 0 0))))])
  (.ret))
  (.skip)))
  (.seq (.reg [o p5 (.a (.bsl 2 0 [(.string ⟨⟨[]⟩⟩), (.string ⟨⟨[]⟩⟩)] [])),
  o p6 (.p (.mv (.t p0))),
  o p7 (.w (.app 2 32 (.t p5) (.t p6))),
  o p2 (.p (.mv (.t p7)))])
  (.ret)))⟩
def c409 : CFunc := ⟨[], .seq (.reg [o p4 (.p (.mv (.t p0))),
  o p5 (.p (.nck (.t p4))),
  o p6 (.p (.fa 5 (.t p5))),
  o p7 (.r (.ld 1 false (.t p6))),
  o p8 (.p (.bin .f .neq (.t p7) (.c .nilFunc)))])
  (.cond (.t p8) (.reg [o p9 (.p (.mv (.t p0))),
  o p10 (.p (.nck (.t p9))),
  o p11 (.p (.fa 5 (.t p10))),
  o p12 (.r (.ld 1 false (.t p11))),
  o p13 (.p (.mv (.t p1))),
  o p14 (.callv (.t p12) [(.t p13)])])
  (.skip))⟩
def c410 : CFunc := ⟨[], .seq (.seq (.reg [o p2 (.p (.mv (.t p0))),
  o p3 (.p (.nck (.t p2))),
  o p4 (.p (.fa 4 (.t p3))),
  o p5 (.r (.ld 1 false (.t p4))),
  o p6 (.p (.bin .i .eql (.t p5) (.c (.int .i64 0))))])
  (.cond (.t p6) (.seq (.reg [o p7 (.p (.mv (.t p0))),
  o p8 (.call 409 [(.t p7), (.c (.int .i64 13))])])
  (.ret))
  (.skip)))
  (.seq (.reg [o p9 (.p (.mv (.t p0))),
  o p10 (.p (.nck (.t p9))),
  o p11 (.p (.fa 4 (.t p10))),
  o p12 (.r (.ld 1 false (.t p11))),
  o p13 (.p (.bin .i .sub (.t p12) (.c (.int .i64 1)))),
  o p14 (.p (.nck (.t p9))),
  o p15 (.p (.fa 4 (.t p14))),
  n (.w (.st 1 (.t p15) (.t p13)))])
  (.dreg [o p16 (.p (.mv (.t p0))),
  o p17 (.p (.nck (.t p16))),
  o p18 (.p (.fa 0 (.t p17))),
  o p19 (.r (.ld 1 false (.t p18))),
  o p20 (.p (.mv (.t p0))),
  o p21 (.p (.nck (.t p20))),
  o p22 (.p (.fa 1 (.t p21))),
  o p23 (.r (.ld 1 false (.t p22))),
  o p24 (.p (.bld [(.int .i64 0), (.string ⟨⟨[]⟩⟩), (.string ⟨⟨[]⟩⟩), (.int .i64 0), (.string ⟨⟨[]⟩⟩), (.int .i64 0)] [(0, 1, (.c (.int .i64 1))), (1, 1, (.t p23))])),
  o p25 (.p (.mv (.t p0))),
  o p26 (.p (.mkf 416 [(.t p25)] [])),
  o p27 (.call 165 [(.t p19), (.t p24), (.t p26)])] [[], [], [], [], [], [], [], [], [], [], [], []]))⟩
def c415 : CFunc := ⟨[], .seq (.reg [o p4 (.p (.mv (.t p0))),
  o p5 (.p (.lenP false (.t p4))),
  o p6 (.p (.bin .i .sub (.t p5) (.c (.int .i64 1)))),
  o p2 (.p (.mv (.c (.int .i64 0)))),
  o p3 (.p (.mv (.t p6)))])
  (.block 0 (.loop (.seq (.seq (.reg [o p7 (.p (.mv (.t p2))),
  o p8 (.p (.mv (.t p3))),
  o p9 (.p (.bin .i .lss (.t p7) (.t p8)))])
  (.cond (.t p9) (.skip)
  (.exit 0)))
  (.seq (.block 1 (.dreg [o p14 (.p (.mv (.t p0))),
  o p15 (.p (.mv (.t p2))),
  o p16 (.p (.mv (.t p0))),
  o p17 (.p (.mv (.t p3))),
  o p18 (.p (.mv (.t p0))),
  o p19 (.p (.mv (.t p3))),
  o p20 (.p (.iaL 2 (.t p18) (.t p19))),
  o p21 (.r (.ld 2 true (.t p20))),
  o p22 (.p (.mv (.t p0))),
  o p23 (.p (.mv (.t p2))),
  o p24 (.p (.iaL 2 (.t p22) (.t p23))),
  o p25 (.r (.ld 2 true (.t p24))),
  o p26 (.p (.iaL 2 (.t p14) (.t p15))),
  n (.w (.st 2 (.t p26) (.t p21))),
  o p27 (.p (.iaL 2 (.t p16) (.t p17))),
  n (.w (.st 2 (.t p27) (.t p25)))] [[], [], [], [], [], [], [], [], [], [], [], [], [], [], [], []]))
  (.reg [o p10 (.p (.mv (.t p2))),
  o p11 (.p (.bin .i .add (.t p10) (.c (.int .i64 1)))),
  o p12 (.p (.mv (.t p3))),
  o p13 (.p (.bin .i .sub (.t p12) (.c (.int .i64 1)))),
  o p2 (.p (.mv (.t p11))),
  o p3 (.p (.mv (.t p13)))])))))⟩
def c416 : CFunc := ⟨[], .seq (.reg [o p3 (.a (.box 4 (.t p1)))])
  (.seq (.seq (.reg [o p7 (.p (.fa 0 (.t p3))),
  o p8 (.r (.ld 1 false (.t p7))),
  o p9 (.p (.bin .i .eql (.t p8) (.c (.int .i64 12))))])
  (.cond (.t p9) (.seq (.reg [o p10 (.p (.mv (.t p0))),
  o p11 (.p (.fa 0 (.t p3))),
  o p12 (.r (.ld 1 false (.t p11))),
  o p13 (.call 409 [(.t p10), (.t p12)])])
  (.ret))
  (.skip)))
  (.seq (.seq (.reg [o p14 (.p (.fa 0 (.t p3))),
  o p15 (.r (.ld 1 false (.t p14))),
  o p16 (.p (.bin .i .neq (.t p15) (.c (.int .i64 0))))])
  (.cond (.t p16) (.seq (.reg [o p17 (.p (.mv (.t p0))),
  o p18 (.call 409 [(.t p17), (.c (.int .i64 0))])])
  (.ret))
  (.skip)))
  (.seq (.reg [o p20 (.p (.fa 2 (.t p3))),
  o p21 (.r (.ld 1 false (.t p20))),
  o p22 (.call 142 [(.t p21)]),
  o p19 (.p (.mv (.t p22))),
  o p23 (.p (.ext 0 (.t p19))),
  o p24 (.p (.ext 1 (.t p19))),
  o p4 (.a (.alc [(.slice none 0 0)])),
  n (.w (.st 1 (.t p4) (.t p23))),
  o p5 (.p (.mv (.t p24)))])
  (.seq (.seq (.reg [o p25 (.p (.mv (.t p5))),
  o p26 (.p (.bin .i .neq (.t p25) (.c (.int .i64 0))))])
  (.cond (.t p26) (.seq (.reg [o p27 (.p (.mv (.t p0))),
  o p28 (.p (.mv (.t p5))),
  o p29 (.call 409 [(.t p27), (.t p28)])])
  (.ret))
  (.skip)))
  (.seq (.dreg [o p31 (.r (.ld 1 true (.t p4))),
  o p32 (.p (.mv (.t p0))),
  o p33 (.p (.nck (.t p32))),
  o p34 (.p (.fa 2 (.t p33))),
  o p35 (.r (.ld 1 false (.t p34))),
  o p36 (.p (.mv (.t p0))),
  o p37 (.p (.nck (.t p36))),
  o p38 (.p (.fa 3 (.t p37))),
  o p39 (.r (.ld 1 false (.t p38))),
  o p40 (.call 418 [(.t p31), (.t p35), (.t p39)]),
  o p30 (.p (.mv (.t p40))),
  o p41 (.p (.ext 0 (.t p30))),
  o p42 (.p (.ext 1 (.t p30))),
  n (.w (.st 1 (.t p4) (.t p41)))] [[], [], [], [], [], [], [], [], [], [], [], [], [], []])
  (.seq (.dreg [o p43 (.p (.mv (.t p0))),
  o p44 (.p (.nck (.t p43))),
  o p45 (.p (.fa 1 (.t p44))),
  o p46 (.r (.ld 1 false (.t p45))),
  o p47 (.p (.fa 1 (.t p3))),
  o p48 (.r (.ld 1 false (.t p47))),
  o p49 (.p (.bld [(.int .i64 0), (.string ⟨⟨[]⟩⟩), (.string ⟨⟨[]⟩⟩), (.int .i64 0), (.string ⟨⟨[]⟩⟩), (.int .i64 0)] [(0, 1, (.c (.int .i64 5))), (1, 1, (.t p46)), (3, 1, (.t p48))])),
  o p6 (.a (.alc [(.int .i64 0), (.string ⟨⟨[]⟩⟩), (.string ⟨⟨[]⟩⟩), (.int .i64 0), (.string ⟨⟨[]⟩⟩), (.int .i64 0)])),
  n (.w (.st 6 (.t p6) (.t p49)))] [[], [], [], [], [], [], [], [], []])
  (.seq (.seq (.reg [o p50 (.p (.fa 0 (.t p4))),
  o p51 (.r (.ld 1 false (.t p50))),
  o p52 (.p (.lenP false (.t p51))),
  o p53 (.p (.bin .i .gtr (.t p52) (.c (.int .i64 0))))])
  (.cond (.t p53) (.seq (.reg [o p54 (.p (.fa 0 (.t p6))),
  n (.w (.st 1 (.t p54) (.c (.int .i64 4))))])
  (.reg [o p56 (.r (.ld 1 true (.t p4))),
  o p57 (.call 419 [(.t p56)]),
  o p55 (.p (.mv (.t p57))),
  o p58 (.p (.ext 0 (.t p55))),
  o p59 (.p (.ext 1 (.t p55))),
  o p60 (.p (.fa 2 (.t p6))),
  n (.w (.st 1 (.t p60) (.t p58)))]))
  (.skip)))
  (.dreg [o p61 (.p (.mv (.t p0))),
  o p62 (.p (.nck (.t p61))),
  o p63 (.p (.fa 0 (.t p62))),
  o p64 (.r (.ld 1 false (.t p63))),
  o p65 (.r (.ld 6 true (.t p6))),
  o p66 (.p (.mv (.t p0))),
  o p67 (.p (.mkf 420 [(.t p66)] [])),
  o p68 (.call 165 [(.t p64), (.t p65), (.t p67)])] [[], [], [], [], [], [], [], []]))))))))⟩
def c418 : CFunc := ⟨[.cell p6 1 true, .t p7], .seq (.reg [o p3 (.a (.box 1 (.t p0))),
  o p6 (.a (.alc [(.slice none 0 0)])),
  o p7 (.p (.mv (.c (.int .i64 0))))])
  (.seq (.seq (.reg [o p8 (.r (.ld 1 true (.t p3))),
  o p9 (.p (.mv (.t p2))),
  o p10 (.call 316 [(.t p8), (.t p9)]),
  o p11 (.p (.un .not (.t p10)))])
  (.cond (.t p11) (.seq (.reg [o p12 (.p (.bld [(.slice none 0 0)] [])),
  n (.w (.st 1 (.t p6) (.t p12))),
  o p7 (.p (.mv (.c (.int .i64 1))))])
  (.ret))
  (.skip)))
  (.seq (.dreg [o p13 (.r (.ld 1 true (.t p3))),
  o p14 (.p (.mv (.t p1))),
  o p15 (.r (.ld 1 true (.t p3))),
  o p16 (.p (.mv (.t p1))),
  o p18 (.p (.mv (.t p2))),
  o p17 (.call 272 [(.t p15), (.t p16)]),
  o p19 (.p (.bin .i .sub (.t p17) (.t p18))),
  o p20 (.p (.mm true (.t p19) (.c (.int .i64 0)))),
  o p21 (.call 317 [(.t p13), (.t p14), (.t p20)]),
  o p22 (.p (.ext 0 (.t p21))),
  o p23 (.p (.ext 1 (.t p21))),
  n (.w (.st 1 (.t p6) (.t p22))),
  o p7 (.p (.mv (.t p23)))] [[], [], [], [], [], [0], [], [], [], [], [], [], []])
  (.ret)))⟩
def c419 : CFunc := ⟨[.t p2, .t p3], .seq (.reg [o p1 (.a (.box 1 (.t p0))),
  o p2 (.p (.mv (.c (.string ⟨⟨[]⟩⟩)))),
  o p3 (.p (.mv (.c (.int .i64 0))))])
  (.seq (.seq (.reg [o p7 (.r (.ld 1 true (.t p1))),
  o p8 (.call 224 [(.t p7)]),
  o p9 (.p (.un .not (.t p8)))])
  (.cond (.t p9) (.seq (.reg [o p2 (.p (.mv (.c (.string ⟨⟨[]⟩⟩)))),
  o p3 (.p (.mv (.c (.int .i64 1))))])
  (.ret))
  (.skip)))
  (.seq (.reg [o p10 (.a (.bsl 1 1 [(.int .u8 0)] [(0, 1, (.c (.int .u8 72)))])),
  o p11 (.p (.fa 0 (.t p1))),
  o p12 (.r (.ld 1 false (.t p11))),
  o p13 (.p (.lenP false (.t p12))),
  o p14 (.p (.conv .u64 (.t p13))),
  o p15 (.call 170 [(.t p10), (.t p14), (.c (.int .i64 2))]),
  o p4 (.p (.mv (.t p15)))])
  (.seq (.seq (.reg [o p16 (.p (.fa 0 (.t p1))),
  o p17 (.r (.ld 1 false (.t p16))),
  o p18 (.p (.lenP false (.t p17))),
  o p19 (.p (.mv (.c (.int .i64 0))))])
  (.block 0 (.loop (.seq (.reg [o p20 (.p (.bin .i .lss (.t p19) (.t p18)))])
  (.seq (.cond (.t p20) (.skip)
  (.exit 0))
  (.seq (.block 1 (.seq (.reg [o p21 (.p (.iaL 2 (.t p17) (.t p19))),
  o p22 (.r (.ld 2 true (.t p21))),
  o p6 (.a (.alc [(.int .u32 0), (.int .i64 0)])),
  n (.w (.st 2 (.t p6) (.t p22)))])
  (.seq (.reg [o p23 (.p (.mv (.t p4))),
  o p24 (.p (.fa 0 (.t p6))),
  o p25 (.r (.ld 1 false (.t p24))),
  o p26 (.p (.conv .u64 (.t p25))),
  o p27 (.call 170 [(.t p23), (.t p26), (.c (.int .i64 4))]),
  o p4 (.p (.mv (.t p27)))])
  (.reg [o p28 (.p (.mv (.t p4))),
  o p29 (.p (.fa 1 (.t p6))),
  o p30 (.r (.ld 1 false (.t p29))),
  o p31 (.p (.conv .u64 (.t p30))),
  o p32 (.call 170 [(.t p28), (.t p31), (.c (.int .i64 2))]),
  o p4 (.p (.mv (.t p32)))]))))
  (.reg [o p33 (.p (.bin .i .add (.t p19) (.c (.int .i64 1)))),
  o p19 (.p (.mv (.t p33)))])))))))
  (.seq (.reg [o p34 (.p (.mv (.t p4))),
  o p35 (.r (.b2s (.t p34))),
  o p2 (.p (.mv (.t p35))),
  o p3 (.p (.mv (.c (.int .i64 0))))])
  (.ret)))))⟩
def c420 : CFunc := ⟨[], .seq (.reg [o p3 (.a (.box 4 (.t p1)))])
  (.seq (.reg [o p4 (.p (.fa 0 (.t p3))),
  o p5 (.r (.ld 1 false (.t p4)))])
  (.block 0 (.seq (.seq (.reg [o p9 (.p (.bin .i .eql (.t p5) (.c (.int .i64 0)))),
  o p8 (.p (.mv (.t p9)))])
  (.cond (.t p8) (.skip)
  (.reg [o p10 (.p (.bin .i .eql (.t p5) (.c (.int .i64 12)))),
  o p8 (.p (.mv (.t p10)))])))
  (.cond (.t p8) (.reg [o p11 (.p (.mv (.t p0))),
  o p12 (.p (.fa 0 (.t p3))),
  o p13 (.r (.ld 1 false (.t p12))),
  o p14 (.call 409 [(.t p11), (.t p13)])])
  (.reg [o p6 (.p (.mv (.t p0))),
  o p7 (.call 410 [(.t p6)])])))))⟩
def prog : T CFunc := (.node (.node (.node (.node (.node (.node (.node .leaf none (.node (.node .leaf (some c319) .leaf) none .leaf)) (some c31) (.node (.node (.node .leaf (some c287) .leaf) (some c159) (.node .leaf (some c415) .leaf)) none (.node (.node .leaf (some c351) .leaf) (some c223) .leaf))) none (.node (.node .leaf none (.node (.node .leaf (some c335) .leaf) none .leaf)) none (.node (.node .leaf (some c175) .leaf) none (.node .leaf (some c239) .leaf)))) (some c7) (.node (.node (.node (.node .leaf none (.node .leaf (some c391) .leaf)) none (.node (.node .leaf (some c327) .leaf) (some c199) .leaf)) none (.node (.node (.node .leaf (some c295) .leaf) none .leaf) none (.node (.node .leaf (some c359) .leaf) (some c231) .leaf))) none (.node (.node (.node (.node .leaf (some c279) .leaf) (some c151) (.node .leaf (some c407) .leaf)) none (.node (.node .leaf (some c343) .leaf) (some c215) .leaf)) none (.node .leaf none (.node .leaf (some c247) .leaf))))) none (.node (.node (.node (.node (.node .leaf (some c131) (.node .leaf (some c387) .leaf)) (some c67) (.node (.node .leaf (some c323) .leaf) none .leaf)) none (.node (.node (.node .leaf (some c291) .leaf) none (.node .leaf (some c419) .leaf)) none (.node (.node .leaf (some c355) .leaf) (some c227) .leaf))) none (.node (.node (.node .leaf (some c147) .leaf) (some c83) .leaf) (some c51) (.node (.node .leaf (some c179) .leaf) (some c115) (.node .leaf (some c243) .leaf)))) none (.node (.node (.node .leaf none (.node (.node .leaf (some c331) .leaf) none .leaf)) none (.node (.node (.node .leaf (some c299) .leaf) none .leaf) none (.node (.node .leaf (some c363) .leaf) (some c235) .leaf))) (some c27) (.node (.node (.node (.node .leaf (some c283) .leaf) (some c155) .leaf) none (.node (.node .leaf (some c347) .leaf) (some c219) .leaf)) none (.node .leaf none (.node .leaf (some c251) .leaf)))))) none (.node (.node (.node (.node (.node (.node .leaf (some c129) (.node .leaf (some c385) .leaf)) (some c65) (.node (.node .leaf (some c321) .leaf) none .leaf)) none (.node (.node (.node .leaf (some c289) .leaf) (some c161) .leaf) none (.node (.node .leaf (some c353) .leaf) (some c225) .leaf))) none (.node (.node (.node (.node .leaf (some c273) .leaf) (some c145) .leaf) none (.node .leaf (some c209) .leaf)) (some c49) (.node .leaf (some c113) (.node .leaf (some c241) .leaf)))) none (.node (.node (.node .leaf none (.node (.node .leaf (some c329) .leaf) none .leaf)) none (.node (.node (.node .leaf (some c297) .leaf) none .leaf) none (.node (.node .leaf (some c361) .leaf) (some c233) .leaf))) (some c25) (.node (.node (.node (.node .leaf (some c281) .leaf) (some c153) (.node .leaf (some c409) .leaf)) none (.node .leaf (some c217) .leaf)) none (.node .leaf none (.node (.node .leaf (some c377) .leaf) (some c249) .leaf))))) none (.node (.node (.node (.node (.node .leaf (some c133) (.node .leaf (some c389) .leaf)) (some c69) .leaf) none (.node (.node (.node .leaf (some c293) .leaf) (some c165) .leaf) none (.node (.node .leaf (some c357) .leaf) (some c229) .leaf))) none (.node (.node (.node (.node .leaf (some c277) .leaf) (some c149) .leaf) (some c85) (.node .leaf (some c213) .leaf)) none (.node (.node .leaf (some c181) .leaf) (some c117) (.node .leaf (some c245) .leaf)))) none (.node (.node (.node .leaf (some c77) (.node (.node .leaf (some c333) .leaf) none .leaf)) none (.node .leaf none (.node .leaf (some c237) .leaf))) (some c29) (.node (.node (.node (.node .leaf (some c285) .leaf) (some c157) .leaf) none (.node .leaf (some c221) .leaf)) none (.node (.node (.node .leaf (some c317) .leaf) none .leaf) none .leaf)))))) none (.node (.node (.node (.node (.node (.node (.node .leaf none (.node .leaf (some c384) .leaf)) (some c64) (.node (.node .leaf (some c320) .leaf) none .leaf)) none (.node (.node (.node .leaf (some c288) .leaf) (some c160) (.node .leaf (some c416) .leaf)) none (.node (.node .leaf (some c352) .leaf) (some c224) .leaf))) none (.node (.node (.node (.node .leaf (some c272) .leaf) (some c144) .leaf) (some c80) (.node (.node .leaf (some c336) .leaf) none .leaf)) (some c48) (.node .leaf none (.node .leaf (some c240) .leaf)))) (some c8) (.node (.node (.node (.node (.node .leaf (some c264) .leaf) none (.node .leaf (some c392) .leaf)) none (.node (.node .leaf (some c328) .leaf) none .leaf)) none (.node .leaf none (.node (.node .leaf (some c360) .leaf) (some c232) .leaf))) (some c24) (.node (.node (.node (.node .leaf (some c280) .leaf) (some c152) (.node .leaf (some c408) .leaf)) none (.node (.node .leaf (some c344) .leaf) none .leaf)) none (.node .leaf none (.node .leaf (some c248) .leaf))))) none (.node (.node (.node (.node (.node .leaf (some c132) (.node .leaf (some c388) .leaf)) (some c68) (.node (.node .leaf (some c324) .leaf) none .leaf)) (some c36) (.node (.node (.node .leaf (some c292) .leaf) none (.node .leaf (some c420) .leaf)) none (.node (.node .leaf (some c356) .leaf) (some c228) .leaf))) none (.node (.node .leaf (some c84) .leaf) none (.node (.node .leaf (some c180) .leaf) (some c116) (.node .leaf (some c244) .leaf)))) none (.node (.node (.node .leaf none (.node (.node .leaf (some c332) .leaf) none .leaf)) none (.node (.node (.node .leaf (some c300) .leaf) none .leaf) none (.node (.node .leaf (some c364) .leaf) (some c236) .leaf))) (some c28) (.node (.node (.node (.node .leaf (some c284) .leaf) (some c156) .leaf) none .leaf) none (.node (.node (.node .leaf (some c316) .leaf) none .leaf) none (.node .leaf (some c252) .leaf)))))) none (.node (.node (.node (.node (.node (.node .leaf (some c130) (.node .leaf (some c386) .leaf)) (some c66) (.node (.node .leaf (some c322) .leaf) none .leaf)) none (.node (.node (.node .leaf (some c290) .leaf) none (.node .leaf (some c418) .leaf)) none (.node (.node .leaf (some c354) .leaf) (some c226) .leaf))) none (.node (.node (.node (.node .leaf (some c274) .leaf) none .leaf) none (.node .leaf (some c210) .leaf)) (some c50) (.node (.node .leaf (some c178) .leaf) (some c114) (.node .leaf (some c242) .leaf)))) none (.node (.node (.node (.node .leaf (some c138) .leaf) none (.node (.node .leaf (some c330) .leaf) (some c202) .leaf)) (some c42) (.node (.node .leaf (some c170) .leaf) none (.node (.node .leaf (some c362) .leaf) (some c234) .leaf))) (some c26) (.node (.node (.node (.node .leaf (some c282) .leaf) (some c154) (.node .leaf (some c410) .leaf)) none (.node .leaf (some c218) .leaf)) none (.node .leaf none (.node (.node .leaf (some c378) .leaf) (some c250) .leaf))))) none (.node (.node (.node (.node (.node .leaf (some c134) (.node .leaf (some c390) .leaf)) none .leaf) none (.node (.node (.node .leaf (some c294) .leaf) none .leaf) none (.node (.node .leaf (some c358) .leaf) (some c230) .leaf))) (some c22) (.node (.node (.node .leaf (some c150) .leaf) none (.node .leaf (some c214) .leaf)) none (.node (.node .leaf (some c182) .leaf) none (.node .leaf (some c246) .leaf)))) none (.node (.node (.node (.node .leaf (some c142) .leaf) none (.node (.node .leaf (some c334) .leaf) (some c206) .leaf)) none (.node .leaf none (.node .leaf (some c238) .leaf))) (some c30) (.node (.node (.node (.node .leaf (some c286) .leaf) (some c158) .leaf) none .leaf) (some c62) .leaf))))))
end Am
end Go.Proofs.YtbfbaofhnnnohaaGreatDoor
