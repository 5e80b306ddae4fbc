import Derived.Test.YtkjkjpmahgeneaaGreatDoorIrA
import Derived.Test.YtkjkjpmahgeneaaGreatDoorEvC
import Derived.Test.YtkjkjpmahgeneaaGreatDoorProg
import Derived.KernelRfl
set_option linter.unusedSimpArgs false
set_option linter.unusedVariables false
namespace Go.Ev
open Go Go.Proofs
set_option maxRecDepth 100000
noncomputable section

abbrev F92.fr:=fr20
def F92.b5:IR:=(iSr [iQo 8 (.mv eX)] (.reg [iWl 9 (.alloc [.zi,(.bool false)]),.w .none none (.store 2 aT9 aO)]))
def F92.b7:IR:=(.seq (.yw [] [(iSm 8,0,[]),(.s (.bin .gtr .int aS0 aC0),0,[]),(.s (.mv aS0),0,[]),(iPt 0 (.load aT2),0,[]),(iPt 1 (.mv aT8),0,[]),(iPt 2 (.bin .sub .int aS0 aC1),0,[]),(iPt 3 (.zx 2 aS2 aS0),0,[]),(iPt 4 (.zh 2 aS0),0,[]),(iPt 5 (.zh 2 aT9),0,[]),(.w .push (some (aS6,true)) (.call (.c (.fn 162 (.of 162) [])) [aS1,aS0]),0,[]),(iPt 7 (.bin .geq .int aS0 aC0),0,[]),(iQo 18 (.pick aS8 aS0 (.c (.bool false))),0,[])]) (.cond aT18 (iSr [.w .none none (.store 1 aT3 (.c .gy)),.w .none none (.store 1 aT4 (.c .zi)),.w .none none (.store 1 aT5 aC11)] .ret) .skip))
def F92.g6 (X7:IR):IR:=(.block 1 X7)
def F92.b6:IR:=F92.g6 F92.b7
def F92.g4 (X5 X6:IR):IR:=(.rf oW [(.of 16),(.of 17)] X5 X6)
def F92.b4:IR:=F92.g4 F92.b5 F92.b6
def F92.g3 (X4:IR):IR:=(.block 0 X4)
def F92.b3:IR:=F92.g3 F92.b4
def F92.b9:IR:=(iSr [iSm 10,iSm 11,.w .none none (.store 1 aT3 aS1),.w .none none (.store 1 aT4 aS0),.w .none none (.store 1 aT5 aC0)] .ret)
def F92.g8 (X9:IR):IR:=(iSr [.s (.load aT2),iSm 1,.s (.load aT2),.s (.len aS0),iCa 98 [aS3,aS2,aS0],.s (.mv aS0),.s (.ext 0 aS0),.s (.ext 1 aS1),.s (.ext 2 aS2),iQm 10 2,iQm 11 1,iQm 12 0] (.seq (iSr [iSm 12,.s (.not aS0),.s (.mv aS0),iPf 0 (.mv bI),iPf 1 (.mlen aS0),iPf 2 (.load aT2),iPf 3 (.len aS0),iPf 4 (.bin .neq .int aS2 aS0),iQo 19 (.pick aS5 (.c (.bool true)) aS0)] (.cond aT19 (iSr [.w .none none (.store 1 aT3 (.c .gy)),.w .none none (.store 1 aT4 (.c .zi)),.w .none none (.store 1 aT5 aC28)] .ret) .skip)) X9))
def F92.b8:IR:=F92.g8 F92.b9
def F92.g2 (X3 X8:IR):IR:=(.seq (iSr [.s (.load aT2),iWl 15 (.call (.c (.fn 90 (.of 90) [])) [aS0])] X3) X8)
def F92.b2:IR:=F92.g2 F92.b3 F92.b8
def F92.g1 (X2:IR):IR:=(.seq (iSr [.s (.load aT2),iSm 1,iCa 97 [aS1,aS0],iQm 7 0] (iSr [iSm 7,iQo 14 (.bin .neq .int aS0 aC0)] (.cond aj (iSr [iSm 7,.w .none none (.store 1 aT3 (.c .gy)),.w .none none (.store 1 aT4 (.c .zi)),.w .none none (.store 1 aT5 aS0)] .ret) .skip))) X2)
def F92.b1:IR:=F92.g1 F92.b2
def F92.g0 (X1:IR):IR:=(iSr [iWl 2 (.box aT0),iWl 3 (.alloc [.gy]),iWl 4 (.alloc [.zi]),iWl 5 (.alloc [(I 0)])] (.seq (.seq (.yw [] [(iSm 1,0,[]),(.s (.load aT2),1,[]),(.s (.len aS0),1,[]),(.s (.bin .eql .int aS0 aC0),1,[]),(.s (.load aT2),2,[]),(.s (.len aS0),2,[]),(.s (.bin .gtr .int aS0 zh1),2,[]),(iCa 95 [aS6],0,[]),(iCa 96 [aS4,aC12],0,[]),(iCa 96 [aS2,aC5],0,[]),(.w .push none (.yg 1 3 [(I 0)] [(0,1,aS2),(1,1,aS1),(2,1,aS0)]),0,[]),(iCa 94 [aS0],0,[]),(iQm 6 0,0,[])]) (iSr [iSm 6,iQo 13 (.bin .neq .int aS0 aC0)] (.cond fK (iSr [iSm 6,.w .none none (.store 1 aT3 (.c .gy)),.w .none none (.store 1 aT4 (.c .zi)),.w .none none (.store 1 aT5 aS0)] .ret) .skip))) X1))
def F92.b0:IR:=F92.g0 F92.b1
def F92.res:List RV:=[.cell (.of 3) none,.cell (.of 4) none,.cell (.of 5) none]
def F92:Fn:={ params:=[(.of 0),(.of 1)],res:=F92.res,body:=F92.b0,init:=in20 }
theorem F92.ok:fnA Tryz.prog Tryz.f92 [0,1,2,4,5,6,7,8,9,10,11,12,13,27,33,36,37,38,50,68]=some F92:=by kernel_rfl
abbrev F93.fr:=fr7
def F93.b8:IR:=(.reg [iSm 2,iSm 0,iSm 3,.s (.zx 1 aS1 aS0),.s (.load aS0),.s (.zx 1 aS4 aS0),.w .none none (.store 1 aS0 (.c (.bool true)))])
def F93.g7 (X8:IR):IR:=(.seq (iSr [iSm 0,iSm 3,.s (.zx 1 aS1 aS0),.s (.load aS0),.s (.bin .lss .int aS0 aC0),.s (.mv aS0),iPf 0 (.mv aT0),iPf 1 (.mv aT3),iPf 2 (.zx 1 aS1 aS0),iPf 3 (.load aS0),iPf 4 (.mv aT0),iPf 5 (.len aS0),iPf 6 (.bin .geq .int aS2 aS0),.s (.pick aS7 (.c (.bool true)) aS0),.s (.mv aS0),iPf 0 (.mv aT2),iPf 1 (.mv aT0),iPf 2 (.mv aT3),iPf 3 (.zx 1 aS1 aS0),iPf 4 (.load aS0),iPf 5 (.zx 1 aS4 aS0),iPf 6 (.load aS0),iQo 6 (.pick aS7 (.c (.bool true)) aS0)] (.cond aT6 (iSr [iQo 1 (.mv aC14)] .ret) .skip)) X8)
def F93.b7:IR:=F93.g7 F93.b8
def F93.g6 (X7:IR):IR:=(.block 1 X7)
def F93.b6:IR:=F93.g6 F93.b7
def F93.b9:IR:=(.reg [iSm 3,.s (.bin .add .int aS0 aC1),iQm 3 0])
def F93.g5 (X6 X9:IR):IR:=(.seq X6 X9)
def F93.b5:IR:=F93.g5 F93.b6 F93.b9
def F93.g4 (X5:IR):IR:=(.seq (iSr [iSm 3,iSm 0,.s (.len aS0),iQo 5 (.bin .lss .int aS2 aS0)] (.cond aT5 .skip (.exit 0))) X5)
def F93.b4:IR:=F93.g4 F93.b5
def F93.g3 (X4:IR):IR:=(.loop X4)
def F93.b3:IR:=F93.g3 F93.b4
def F93.g2 (X3:IR):IR:=(.block 0 X3)
def F93.b2:IR:=F93.g2 F93.b3
def F93.b10:IR:=(iSr [iQo 1 (.mv aC0)] .ret)
def F93.g1 (X2 X10:IR):IR:=(iSr [iSm 0,.s (.len aS0),.w .push none (.jk 1 1 [(.bool false)] aS0 aS0),iQm 2 0] (.seq (iSr [iQo 3 (.mv aC0)] X2) X10))
def F93.b1:IR:=F93.g1 F93.b2 F93.b10
def F93.g0 (X1:IR):IR:=(iSr [iQo 1 (.mv aC0)] (.seq (iSr [iSm 0,.s (.len aS0),iQo 4 (.bin .gtr .int aS0 mU)] (.cond aT4 (iSr [iQo 1 (.mv aC5)] .ret) .skip)) X1))
def F93.b0:IR:=F93.g0 F93.b1
def F93.res:List RV:=[.t (.of 1)]
def F93:Fn:={ params:=[(.of 0)],res:=F93.res,body:=F93.b0,init:=in7 }
theorem F93.ok:fnA Tryz.prog Tryz.f93 [0,2,3,4,7,14,39]=some F93:=by kernel_rfl
abbrev F94.fr:=fr8
def F94.b6:IR:=(iSr [.s (.zx 1 aT3 aT5),.s (.load aS0),iQm 2 0] (iSr [iSm 2,iQo 7 (.bin .neq .int aS0 aC0)] (.cond aT7 (iSr [iSm 2,iQm 1 0] .ret) .skip)))
def F94.g5 (X6:IR):IR:=(.block 1 X6)
def F94.b5:IR:=F94.g5 F94.b6
def F94.b7:IR:=(.reg [.s (.bin .add .int aT5 aC1),iQm 5 0])
def F94.g4 (X5 X7:IR):IR:=(.seq X5 X7)
def F94.b4:IR:=F94.g4 F94.b5 F94.b7
def F94.g3 (X4:IR):IR:=(iSr [iQo 6 (.bin .lss .int aT5 aT4)] (.seq (.cond aT6 .skip (.exit 0)) X4))
def F94.b3:IR:=F94.g3 F94.b4
def F94.g2 (X3:IR):IR:=(.loop X3)
def F94.b2:IR:=F94.g2 F94.b3
def F94.g1 (X2:IR):IR:=(.block 0 X2)
def F94.b1:IR:=F94.g1 F94.b2
def F94.b8:IR:=(iSr [iQo 1 (.mv aC0)] .ret)
def F94.g0 (X1 X8:IR):IR:=(iSr [iQo 1 (.mv aC0)] (.seq (iSr [iQo 3 (.mv aT0),iQo 4 (.len aT3),iQo 5 (.mv aC0)] X1) X8))
def F94.b0:IR:=F94.g0 F94.b1 F94.b8
def F94.res:List RV:=[.t (.of 1)]
def F94:Fn:={ params:=[(.of 0)],res:=F94.res,body:=F94.b0,init:=in8 }
theorem F94.ok:fnA Tryz.prog Tryz.f94 [0,2,4,5,6,7,8,12]=some F94:=by kernel_rfl
abbrev F95.fr:=fr2
def F95.b0:IR:=(iSr [iQo 1 (.mv aC0)] (iSr [iSm 0,.s (.bin .lss .int aS0 aC0),.s (.mv aS0),iPf 0 (.mv aT0),iPf 1 (.bin .gtr .int aS0 mU),.s (.pick aS2 (.c (.bool true)) aS0),iCa 96 [aS0,aC3],iQm 1 0] .ret))
def F95.res:List RV:=[.t (.of 1)]
def F95:Fn:={ params:=[(.of 0)],res:=F95.res,body:=F95.b0,init:=in2 }
theorem F95.ok:fnA Tryz.prog Tryz.f95 [0,2]=some F95:=by kernel_rfl
abbrev F96.fr:=fr4
def F96.b1:IR:=(iSr [iQo 2 (.mv aC0)] .ret)
def F96.g0 (X1:IR):IR:=(iSr [iQo 2 (.mv aC0)] (.seq (iSr [iQo 3 (.mv aT0)] (.cond aT3 (iSr [iSm 1,iQm 2 0] .ret) .skip)) X1))
def F96.b0:IR:=F96.g0 F96.b1
def F96.res:List RV:=[.t (.of 2)]
def F96:Fn:={ params:=[(.of 0),(.of 1)],res:=F96.res,body:=F96.b0,init:=in4 }
theorem F96.ok:fnA Tryz.prog Tryz.f96 [0,1,4,5]=some F96:=by kernel_rfl
abbrev F97.fr:=fr10
def F97.b6:IR:=(iSr [.s (.zx 2 aT5 aT7),.s (.zh 2 aS0),iWl 3 (.alloc [.zi,(.bool false)]),.w .none none (.store 2 aT3 aS0)] (iSr [.s (.zh 2 aT3),iSm 1,iCa 56 [aS1,aS0],iQm 4 0] (iSr [iSm 4,iQo 9 (.bin .neq .int aS0 aC0)] (.cond aT9 (iSr [iSm 4,iQm 2 0] .ret) .skip))))
def F97.g5 (X6:IR):IR:=(.block 1 X6)
def F97.b5:IR:=F97.g5 F97.b6
def F97.b7:IR:=(.reg [.s (.bin .add .int aT7 aC1),iQm 7 0])
def F97.g4 (X5 X7:IR):IR:=(.seq X5 X7)
def F97.b4:IR:=F97.g4 F97.b5 F97.b7
def F97.g3 (X4:IR):IR:=(iSr [iQo 8 (.bin .lss .int aT7 aT6)] (.seq (.cond aT8 .skip (.exit 0)) X4))
def F97.b3:IR:=F97.g3 F97.b4
def F97.g2 (X3:IR):IR:=(.loop X3)
def F97.b2:IR:=F97.g2 F97.b3
def F97.g1 (X2:IR):IR:=(.block 0 X2)
def F97.b1:IR:=F97.g1 F97.b2
def F97.b8:IR:=(iSr [iQo 2 (.mv aC0)] .ret)
def F97.g0 (X1 X8:IR):IR:=(iSr [iQo 2 (.mv aC0)] (.seq (iSr [iQo 5 (.mv aT0),iQo 6 (.len aT5),iQo 7 (.mv aC0)] X1) X8))
def F97.b0:IR:=F97.g0 F97.b1 F97.b8
def F97.res:List RV:=[.t (.of 2)]
def F97:Fn:={ params:=[(.of 0),(.of 1)],res:=F97.res,body:=F97.b0,init:=in10 }
theorem F97.ok:fnA Tryz.prog Tryz.f97 [0,1,4,6,7,8,9,10,11,18]=some F97:=by kernel_rfl
abbrev F98.fr:=fr25
def F98.b3:IR:=(.reg [iWl 10 (.alloc [.zi,(.bool false)]),.w .none none (.store 2 bI eX)])
def F98.b20:IR:=(.seq (.yw [] [(.s (.load aT8),1,[]),(.s (.zh 2 fK),0,[]),(.s (.zh 2 fK),1,[]),(iCa 123 [aS1],0,[]),(.w .none none (.oz .str aS3 aS0 aS1),0,[])]) (.reg [iSm 11,.s (.zh 2 fK),.w .push none (.yg 2 1 [.zi,(.bool false)] [(0,2,aS0)]),.w .push none (.appq 2 32 aS2 aS0),iQm 11 0]))
def F98.g19 (X20:IR):IR:=(.seq (iSr [.s (.load aT8),.s (.mlen aS0),.s (.load aT3),iQo 24 (.bin .eql .int aS1 aS0)] (.cond aT24 (iSr [.w .none none (.store 1 aT4 (.c .gy)),.w .none none (.store 1 aT5 (.c .zi)),.w .none none (.store 1 aT6 (.c (.bool false)))] .ret) .skip)) X20)
def F98.b19:IR:=F98.g19 F98.b20
def F98.g18 (X19:IR):IR:=(iSr [.s (.zx 2 aT19 aT21),.s (.zh 2 aS0),iWl 12 (.alloc [.zi,(.bool false)]),.w .none none (.store 2 rZ aS0)] (.seq (.yw [(.alloc [.zi,(.bool false)])] [(.s (.zh 2 rZ),2,[]),(iSm 11,2,[]),(.s (.zx 2 aS0 aC0),2,[]),(.s (.zh 2 aS0),2,[]),(iCa 122 [aS3,aS0],0,[]),(iWl 13 (.alloc [.zi,(.bool false)]),0,[]),(.w .none none (.store 2 fK aS0),0,[])]) (.seq (iSr [.s (.load aT8),.s (.zh 2 fK),iWl 23 (.call (.c (.fn 121 (.of 121) [])) [aS1,aS0])] (.cond aT23 (.exit 5) .skip)) X19)))
def F98.b18:IR:=F98.g18 F98.b19
def F98.g17 (X18:IR):IR:=(.block 5 X18)
def F98.b17:IR:=F98.g17 F98.b18
def F98.b21:IR:=(.reg [.s (.bin .add .int aT21 aC1),iQm 21 0])
def F98.g16 (X17 X21:IR):IR:=(.seq X17 X21)
def F98.b16:IR:=F98.g16 F98.b17 F98.b21
def F98.g15 (X16:IR):IR:=(iSr [iQo 22 (.bin .lss .int aT21 aT20)] (.seq (.cond aT22 .skip (.exit 4)) X16))
def F98.b15:IR:=F98.g15 F98.b16
def F98.g14 (X15:IR):IR:=(.loop X15)
def F98.b14:IR:=F98.g14 F98.b15
def F98.g13 (X14:IR):IR:=(.block 4 X14)
def F98.b13:IR:=F98.g13 F98.b14
def F98.g12 (X13:IR):IR:=(iSr [iQo 19 (.load aT9),iQo 20 (.len aT19),iQo 21 (.mv aC0)] X13)
def F98.b12:IR:=F98.g12 F98.b13
def F98.g11 (X12:IR):IR:=(.block 3 X12)
def F98.b11:IR:=F98.g11 F98.b12
def F98.b22:IR:=(.reg [iSm 11,.s (.slice 2 aS0 (some aC1) none none),iQm 11 0])
def F98.g10 (X11 X22:IR):IR:=(.seq X11 X22)
def F98.b10:IR:=F98.g10 F98.b11 F98.b22
def F98.g9 (X10:IR):IR:=(.seq (iSr [iSm 11,.s (.len aS0),iQo 18 (.bin .gtr .int aS0 aC0)] (.cond aT18 .skip (.exit 2))) X10)
def F98.b9:IR:=F98.g9 F98.b10
def F98.g8 (X9:IR):IR:=(.loop X9)
def F98.b8:IR:=F98.g8 F98.b9
def F98.g7 (X8:IR):IR:=(.block 2 X8)
def F98.b7:IR:=F98.g7 F98.b8
def F98.g6 (X7:IR):IR:=(iSr [.s (.load aT9),.s (.zh 2 bI),.w .push none (.yg 2 1 [.zi,(.bool false)] [(0,2,aS0)]),.w .push none (.appq 2 32 aS2 aS0),.w .none none (.store 1 aT9 aS0)] (.seq (.yw [.fO] [(.s (.zh 2 aT7),2,[]),(.s (.zh 2 aT7),2,[]),(iCa 123 [aS1],0,[]),(.w .push none .fO,0,[]),(.w .none none (.oz .str aS0 aS1 aS2),0,[]),(.s (.mv aS0),0,[]),(.w .none none (.store 1 aT8 aS0),0,[])]) (iSr [.s (.zh 2 aT7),.w .push none (.yg 2 1 [.zi,(.bool false)] [(0,2,aS0)]),iQm 11 0] X7)))
def F98.b6:IR:=F98.g6 F98.b7
def F98.g5 (X6:IR):IR:=(.seq (iSr [.s (.load aT8),.s (.zh 2 bI),iWl 17 (.call (.c (.fn 121 (.of 121) [])) [aS1,aS0])] (.cond aO (.exit 1) .skip)) X6)
def F98.b5:IR:=F98.g5 F98.b6
def F98.g4 (X5:IR):IR:=(.block 1 X5)
def F98.b4:IR:=F98.g4 F98.b5
def F98.g2 (X3 X4:IR):IR:=(.rf aj [(.of 15),(.of 16)] X3 X4)
def F98.b2:IR:=F98.g2 F98.b3 F98.b4
def F98.g1 (X2:IR):IR:=(.block 0 X2)
def F98.b1:IR:=F98.g1 F98.b2
def F98.b23:IR:=(.seq (.yw [] [(.s (.load aT8),0,[]),(.s (.load aT9),1,[]),(.w .none none (.store 1 aT4 aS1),0,[]),(.w .none none (.store 1 aT5 aS0),0,[]),(.w .none none (.store 1 aT6 (.c (.bool true))),0,[])]) .ret)
def F98.g0 (X1 X23:IR):IR:=(iSr [iWl 3 (.box aT2),iWl 4 (.alloc [.gy]),iWl 5 (.alloc [.zi]),iWl 6 (.alloc [(.bool false)])] (iSr [iSm 1,iCa 163 [aS0],iWl 7 (.alloc [.zi,(.bool false)]),.w .none none (.store 2 aT7 aS0)] (.seq (.yw [.fO,(.alloc [.gy])] [(.s (.zh 2 aT7),4,[]),(.s (.zh 2 aT7),4,[]),(iCa 123 [aS1],0,[]),(.w .push none .fO,0,[]),(.w .none none (.oz .str aS0 aS1 aS2),0,[]),(.s (.mv aS0),1,[]),(iWl 8 (.alloc [.gy]),0,[]),(.w .none none (.store 1 aT8 aS0),0,[])]) (iSr [iWl 9 (.alloc [.zi])] (.seq (iSr [iSm 0,iWl 14 (.call (.c (.fn 90 (.of 90) [])) [aS0])] X1) X23)))))
def F98.b0:IR:=F98.g0 F98.b1 F98.b23
def F98.res:List RV:=[.cell (.of 4) none,.cell (.of 5) none,.cell (.of 6) none]
def F98:Fn:={ params:=[(.of 0),(.of 1),(.of 2)],res:=F98.res,body:=F98.b0,init:=in25 }
theorem F98.ok:fnA Tryz.prog Tryz.f98 [0,1,2,5,6,7,8,9,10,11,13,14,16,17,26,27,28,31,45,48,49,50,51,61,65]=some F98:=by kernel_rfl
abbrev F99.fr:=fr12
def F99.b5:IR:=(iSr [.s (.entry aT6),.s (.ext 1 aS0),iWl 3 (.alloc [.zi,(.bool false)]),.w .none none (.store 2 aT3 aS0)] (.reg [iSm 2,.s (.zh 2 aT3),.w .push none (.yg 2 1 [.zi,(.bool false)] [(0,2,aS0)]),.w .push none (.appq 2 32 aS2 aS0),iQm 2 0]))
def F99.g4 (X5:IR):IR:=(.block 1 X5)
def F99.b4:IR:=F99.g4 F99.b5
def F99.g3 (X4:IR):IR:=(iSr [.w .push none (.next aT6),iQo 7 (.ext 0 aS0)] (.seq (.cond aT7 .skip (.exit 0)) X4))
def F99.b3:IR:=F99.g3 F99.b4
def F99.g2 (X3:IR):IR:=(.loop X3)
def F99.b2:IR:=F99.g2 F99.b3
def F99.g1 (X2:IR):IR:=(.block 0 X2)
def F99.b1:IR:=F99.g1 F99.b2
def F99.b12:IR:=(iSr [.s (.zx 2 aT8 bI),.s (.zh 2 aS0),iWl 5 (.alloc [.zi,(.bool false)]),.w .none none (.store 2 aT5 aS0)] (.reg [iSm 4,.s (.zh 2 aT5),.w .push none (.yg 2 1 [.zi,(.bool false)] [(0,2,aS0)]),.w .push none (.appq 2 32 aS2 aS0),iQm 4 0]))
def F99.g11 (X12:IR):IR:=(.block 3 X12)
def F99.b11:IR:=F99.g11 F99.b12
def F99.b13:IR:=(.reg [.s (.bin .add .int bI aC1),iQm 10 0])
def F99.g10 (X11 X13:IR):IR:=(.seq X11 X13)
def F99.b10:IR:=F99.g10 F99.b11 F99.b13
def F99.g9 (X10:IR):IR:=(iSr [iQo 11 (.bin .lss .int bI aT9)] (.seq (.cond ru .skip (.exit 2)) X10))
def F99.b9:IR:=F99.g9 F99.b10
def F99.g8 (X9:IR):IR:=(.loop X9)
def F99.b8:IR:=F99.g8 F99.b9
def F99.g7 (X8:IR):IR:=(.block 2 X8)
def F99.b7:IR:=F99.g7 F99.b8
def F99.b14:IR:=(iSr [iSm 4,iQm 1 0] .ret)
def F99.g6 (X7 X14:IR):IR:=(iSr [iSm 2,.w .push none (.call (.c (.fn 164 (.of 164) [])) [aS0,(.c (.fn 162 (.of 162) []))])] (iSr [iQo 4 (.mv (.c .zi))] (.seq (iSr [iQo 8 (.mv aT2),iQo 9 (.len aT8),iQo 10 (.mv aC0)] X7) X14)))
def F99.b6:IR:=F99.g6 F99.b7 F99.b14
def F99.g0 (X1 X6:IR):IR:=(iSr [iQo 1 (.mv (.c .zi))] (iSr [iQo 2 (.mv (.c .zi))] (.seq (iSr [iSm 0,iWl 6 (.range aS0)] X1) X6)))
def F99.b0:IR:=F99.g0 F99.b1 F99.b6
def F99.res:List RV:=[.t (.of 1)]
def F99:Fn:={ params:=[(.of 0)],res:=F99.res,body:=F99.b0,init:=in12 }
theorem F99.ok:fnA Tryz.prog Tryz.f99 [0,2,3,5,6,8,10,12,21,22,23,24]=some F99:=by kernel_rfl
abbrev dw.fr:=fr11
def dw.b7:IR:=(iSr [iSm 8,iQm 4 0] (iSr [.s (.zh 2 aT1),iSm 4,iCa 168 [aS1,aS0],iQm 5 0] (iSr [iSm 5,iQo 10 (.bin .neq .int aS0 aC0)] (.cond bI (iSr [iSm 5,iQm 2 0] .ret) .skip))))
def dw.g6 (X7:IR):IR:=(.block 1 X7)
def dw.b6:IR:=dw.g6 dw.b7
def dw.b8:IR:=(.reg [.s (.bin .add .int aT8 aC1),iQm 8 0])
def dw.g5 (X6 X8:IR):IR:=(.seq X6 X8)
def dw.b5:IR:=dw.g5 dw.b6 dw.b8
def dw.g4 (X5:IR):IR:=(iSr [iQo 9 (.bin .lss .int aT8 aT7)] (.seq (.cond aT9 .skip (.exit 0)) X5))
def dw.b4:IR:=dw.g4 dw.b5
def dw.g3 (X4:IR):IR:=(.loop X4)
def dw.b3:IR:=dw.g3 dw.b4
def dw.g2 (X3:IR):IR:=(.block 0 X3)
def dw.b2:IR:=dw.g2 dw.b3
def dw.b9:IR:=(iSr [iQo 2 (.mv aC0)] .ret)
def dw.g1 (X2 X9:IR):IR:=(.seq (iSr [.s (.zu 1 aT1),.s (.load aS0),iQo 7 (.len aS0),iQo 8 (.mv aC0)] X2) X9)
def dw.b1:IR:=dw.g1 dw.b2 dw.b9
def dw.g0 (X1:IR):IR:=(iSr [iWl 1 (.box aT0),iQo 2 (.mv aC0)] (.seq (.seq (.yw [] [(.s (.zu 0 aT1),0,[]),(.s (.load aS0),0,[]),(.s (.zu 1 aT1),2,[]),(.s (.load aS0),2,[]),(.s (.len aS0),2,[]),(.s (.bin .gtr .int aS0 zv6),2,[]),(.w .push none (.yg 1 1 [(I 0)] [(0,1,aS4)]),0,[]),(iCa 166 [aC1,mU,aS0],0,[]),(iCa 167 [aS2,aC5],0,[]),(.w .push none (.yg 1 2 [(I 0)] [(0,1,aS1),(1,1,aS0)]),0,[]),(iCa 165 [aS0],0,[]),(iQm 3 0,0,[])]) (iSr [iSm 3,iQo 6 (.bin .neq .int aS0 aC0)] (.cond aT6 (iSr [iSm 3,iQm 2 0] .ret) .skip))) X1))
def dw.b0:IR:=dw.g0 dw.b1
def dw.res:List RV:=[.t (.of 2)]
def dw:Fn:={ params:=[(.of 0)],res:=dw.res,body:=dw.b0,init:=in11 }
theorem dw.ok:fnA Tryz.prog Tryz.f103 [0,1,2,3,4,5,18,22,23,24,30]=some dw:=by kernel_rfl
abbrev bJ.fr:=fr9
def bJ.b6:IR:=(iSr [.s (.zx 1 aT5 aT7),.s (.load aS0),iQm 4 0] (.yw [] [(.s (.load aT3),1,[]),(iSm 4,0,[]),(.s (.build [.zi,(.bool false)] [(0,1,aS0)]),0,[]),(iCa 123 [aS0],0,[]),(.w .none none (.oz .str aS3 aS0 (.c (.bool true))),0,[])]))
def bJ.g5 (X6:IR):IR:=(.block 1 X6)
def bJ.b5:IR:=bJ.g5 bJ.b6
def bJ.b7:IR:=(.reg [.s (.bin .add .int aT7 aC1),iQm 7 0])
def bJ.g4 (X5 X7:IR):IR:=(.seq X5 X7)
def bJ.b4:IR:=bJ.g4 bJ.b5 bJ.b7
def bJ.g3 (X4:IR):IR:=(iSr [iQo 8 (.bin .lss .int aT7 aT6)] (.seq (.cond aT8 .skip (.exit 0)) X4))
def bJ.b3:IR:=bJ.g3 bJ.b4
def bJ.g2 (X3:IR):IR:=(.loop X3)
def bJ.b2:IR:=bJ.g2 bJ.b3
def bJ.g1 (X2:IR):IR:=(.block 0 X2)
def bJ.b1:IR:=bJ.g1 bJ.b2
def bJ.b8:IR:=(iSr [.s (.fn 169 (.of 169) [aT3]),iQm 2 0] .ret)
def bJ.g0 (X1 X8:IR):IR:=(iSr [iWl 1 (.box aT0),iQo 2 (.mv (.c .fZ))] (iSr [.w .push none .fO,iWl 3 (.alloc [.gy]),.w .none none (.store 1 aT3 aS0)] (.seq (iSr [.s (.zu 1 aT1),iQo 5 (.load aS0),iQo 6 (.len aT5),iQo 7 (.mv aC0)] X1) X8)))
def bJ.b0:IR:=bJ.g0 bJ.b1 bJ.b8
def bJ.res:List RV:=[.t (.of 2)]
def bJ:Fn:={ params:=[(.of 0)],res:=bJ.res,body:=bJ.b0,init:=in9 }
theorem bJ.ok:fnA Tryz.prog Tryz.f104 [0,1,2,3,5,8,9,10,11]=some bJ:=by kernel_rfl
abbrev gu.fr:=fr23
def gu.b14:IR:=(iSr [.s (.zx 1 aO aT19),.s (.load aS0),iQm 10 0] (iSr [.s (.load aT6),.s (.load aT3),iSm 10,.w .push none (.call aS2 [aS1,aS0]),iQo 21 (.not aS0)] (.cond aT21 (.exit 1) .skip)))
def gu.g13 (X14:IR):IR:=(.block 3 X14)
def gu.b13:IR:=gu.g13 gu.b14
def gu.b15:IR:=(.reg [.s (.bin .add .int aT19 aC1),iQm 19 0])
def gu.g12 (X13 X15:IR):IR:=(.seq X13 X15)
def gu.b12:IR:=gu.g12 gu.b13 gu.b15
def gu.g11 (X12:IR):IR:=(iSr [iQo 20 (.bin .lss .int aT19 aT18)] (.seq (.cond aT20 .skip (.exit 2)) X12))
def gu.b11:IR:=gu.g11 gu.b12
def gu.g10 (X11:IR):IR:=(.loop X11)
def gu.b10:IR:=gu.g10 gu.b11
def gu.g9 (X10:IR):IR:=(.block 2 X10)
def gu.b9:IR:=gu.g9 gu.b10
def gu.b16:IR:=(iSr [.s (.load aT4),iSm 9,.s (.zx 1 aS1 aS0),.w .none none (.store 1 aS0 (.c (.bool true)))] (iSr [.s (.load aT7),iSm 0,.s (.bin .add .int aS0 aC1),.w .push none (.call aS2 [aS0]),iQm 11 0] (iSr [.s (.load aT4),iSm 9,.s (.zx 1 aS1 aS0),.w .none none (.store 1 aS0 (.c (.bool false)))] (iSr [iSm 11,iQo 22 (.not aS0)] (.cond aT22 (iSr [iQo 8 (.mv (.c (.bool false)))] .ret) .skip)))))
def gu.g8 (X9 X16:IR):IR:=(iSr [.s (.load aT3),iSm 0,iSm 9,.s (.zx 1 aS2 aS1),.w .none none (.store 1 aS0 aS1)] (.seq (iSr [.s (.load aT5),iSm 0,.s (.zx 1 aS1 aS0),iQo 17 (.load aS0),iQo 18 (.len aO),iQo 19 (.mv aC0)] X9) X16))
def gu.b8:IR:=gu.g8 gu.b9 gu.b16
def gu.g7 (X8:IR):IR:=(iSr [iSm 14,iQm 9 0] (.seq (iSr [.s (.load aT4),iSm 9,.s (.zx 1 aS1 aS0),iQo 16 (.load aS0)] (.cond eX (.exit 1) .skip)) X8))
def gu.b7:IR:=gu.g7 gu.b8
def gu.g6 (X7:IR):IR:=(.block 1 X7)
def gu.b6:IR:=gu.g6 gu.b7
def gu.b17:IR:=(.reg [.s (.bin .add .int aj aC1),iQm 14 0])
def gu.g5 (X6 X17:IR):IR:=(.seq X6 X17)
def gu.b5:IR:=gu.g5 gu.b6 gu.b17
def gu.g4 (X5:IR):IR:=(iSr [iQo 15 (.bin .lss .int aj fK)] (.seq (.cond oW .skip (.exit 0)) X5))
def gu.b4:IR:=gu.g4 gu.b5
def gu.g3 (X4:IR):IR:=(.loop X4)
def gu.b3:IR:=gu.g3 gu.b4
def gu.g2 (X3:IR):IR:=(.block 0 X3)
def gu.b2:IR:=gu.g2 gu.b3
def gu.b18:IR:=(iSr [iQo 8 (.mv (.c (.bool true)))] .ret)
def gu.g1 (X2 X18:IR):IR:=(.seq .skip (.seq (iSr [.s (.zu 0 aT1),iQo 13 (.load aS0),iQo 14 (.mv aC0)] X2) X18))
def gu.b1:IR:=gu.g1 gu.b2 gu.b18
def gu.g0 (X1:IR):IR:=(iSr [iQo 8 (.mv (.c (.bool false)))] (.seq (iSr [iSm 0,.s (.zu 0 aT1),.s (.load aS0),iQo 12 (.bin .eql .int aS2 aS0)] (.cond rZ (.seq (.yw [] [(.s (.load aT2),2,[]),(.s (.load aT3),0,[]),(iCa 106 [aS0],0,[]),(.s (.build [.zi,(.bool false)] [(0,1,aS0)]),0,[]),(.w .push none (.yg 2 1 [.zi,(.bool false)] [(0,2,aS0)]),0,[]),(.w .push none (.appq 2 32 aS4 aS0),0,[]),(.w .none none (.store 1 aT2 aS0),0,[])]) (iSr [.s (.load aT2),.s (.len aS0),.s (.bin .leq .int aS0 zh1),iQm 8 0] .ret)) .skip)) X1))
def gu.b0:IR:=gu.g0 gu.b1
def gu.res:List RV:=[.t (.of 8)]
def gu:Fn:={ params:=[(.of 0),(.of 1),(.of 2),(.of 3),(.of 4),(.of 5),(.of 6),(.of 7)],res:=gu.res,body:=gu.b0,init:=in23 }
theorem gu.ok:fnA Tryz.prog Tryz.f105 [0,1,2,3,4,5,6,7,9,10,12,13,17,28,29,30,35,43,44,45,46,53,66]=some gu:=by kernel_rfl
abbrev sV.fr:=fr3
def sV.b1:IR:=(iSr [.w .push none (.yg 1 0 [(I 0)] []),iSm 0,.w .push none (.app 1 8 aS1 aS0),iQm 1 0] .ret)
def sV.g0 (X1:IR):IR:=(iSr [iQo 1 (.mv (.c .zi))] (.seq (iSr [iSm 0,iQo 2 (.bin .eql (.nil .sl) aS0 (.c .zi))] (.cond aT2 (iSr [iQo 1 (.mv (.c .zi))] .ret) .skip)) X1))
def sV.b0:IR:=sV.g0 sV.b1
def sV.res:List RV:=[.t (.of 1)]
def sV:Fn:={ params:=[(.of 0)],res:=sV.res,body:=sV.b0,init:=in3 }
theorem sV.ok:fnA Tryz.prog Tryz.f106 [0,2,4]=some sV:=by kernel_rfl
abbrev F110.fr:=fr2
def F110.b0:IR:=(iSr [iWl 1 (.alloc [(I 0),.zi])] (iSr [iSm 0,.s (.build [(I 0),.zi] [(0,1,aS0)]),.w .none none (.store 2 aT1 aS0)] .ret))
def F110.res:List RV:=[.cell (.of 1) (some 2)]
def F110:Fn:={ params:=[(.of 0)],res:=F110.res,body:=F110.b0,init:=in2 }
theorem F110.ok:fnA Tryz.prog Tryz.f110 [0,2]=some F110:=by kernel_rfl
abbrev rJ.fr:=fr14
def rJ.b3:IR:=(iSr [iSm 6,iSm 8,.s (.bin .eql .bool aS1 aS0),iQm 12 0] (.cond rZ (iSr [iSm 6,iSm 7,iSm 9,iCa 176 [aS1,aS0],iCa 175 [aS3,aS0],.w .none none (.store 2 aT4 aS0)] .ret) (iSr [iSm 7,iSm 9,iCa 177 [aS1,aS0],.s (.bin .geq .int aS0 aC0),iQm 13 0] (.cond fK (iSr [iSm 6,iSm 7,iSm 9,iCa 178 [aS1,aS0],iCa 175 [aS3,aS0],.w .none none (.store 2 aT4 aS0)] .ret) .skip))))
def rJ.g2 (X3:IR):IR:=(.block 0 X3)
def rJ.b2:IR:=rJ.g2 rJ.b3
def rJ.b4:IR:=(iSr [iSm 8,iSm 9,iSm 7,iCa 178 [aS1,aS0],iCa 175 [aS3,aS0],.w .none none (.store 2 aT4 aS0)] .ret)
def rJ.g1 (X2 X4:IR):IR:=(iSr [.s (.zh 2 aT2),iCa 174 [aS0],.s (.mv aS0),.s (.ext 0 aS0),.s (.ext 1 aS1),iQm 6 1,iQm 7 0] (iSr [.s (.zh 2 aT3),iCa 174 [aS0],.s (.mv aS0),.s (.ext 0 aS0),.s (.ext 1 aS1),iQm 8 1,iQm 9 0] (.seq X2 X4)))
def rJ.b1:IR:=rJ.g1 rJ.b2 rJ.b4
def rJ.g0 (X1:IR):IR:=(iSr [iWl 2 (.box aT0),iWl 3 (.box aT1),iWl 4 (.alloc [(I 0),.zi])] (.seq (iSr [.s (.zu 1 aT2),.s (.load aS0),.s (.bin .eql (.nil .sl) aS0 (.c .zi)),.s (.mv aS0),iPt 0 (.zu 1 aT3),iPt 1 (.load aS0),iPt 2 (.bin .eql (.nil .sl) aS0 (.c .zi)),iQo 10 (.pick aS3 aS0 (.c (.bool false)))] (.cond bI (iSr [.s (.zu 0 aT2),.s (.load aS0),.s (.zu 0 aT3),.s (.load aS0),.s (.bin .add .int aS2 aS0),iQm 5 0] (iSr [iSm 5,.s (.zu 0 aT2),.s (.load aS0),.s (.bin .gtr .int aS2 aS0),.s (.zu 0 aT3),.s (.load aS0),.s (.bin .gtr .int aS0 aC0),iQo 11 (.bin .eql .bool aS3 aS0)] (.cond ru (iSr [iSm 5,.s (.build [(I 0),.zi] [(0,1,aS0)]),.w .none none (.store 2 aT4 aS0)] .ret) .skip))) .skip)) X1))
def rJ.b0:IR:=rJ.g0 rJ.b1
def rJ.res:List RV:=[.cell (.of 4) (some 2)]
def rJ:Fn:={ params:=[(.of 0),(.of 1)],res:=rJ.res,body:=rJ.b0,init:=in14 }
theorem rJ.ok:fnA Tryz.prog Tryz.f111 [0,1,2,3,4,5,6,7,8,9,17,30,43,52]=some rJ:=by kernel_rfl
abbrev pq.fr:=fr12
def pq.b7:IR:=(.yw [] [(.s (.zh 2 aT4),1,[]),(iSm 6,0,[]),(iCa 110 [aS0],0,[]),(iCa 179 [aS2,aS0],0,[]),(.w .none none (.store 2 aT4 aS0),0,[])])
def pq.g6 (X7:IR):IR:=(iSr [.s (.zx 1 aT7 aT9),.s (.load aS0),iQm 5 0] (iSr [iSm 1,iQm 6 0] (.seq (iSr [.s (.zu 1 aT2),.s (.load aS0),.s (.mv aS0),iPt 0 (.mv aT5),iPt 1 (.bin .rem .int aS0 aC2),iPt 2 (.bin .eql .int aS0 aC1),iQo 11 (.pick aS3 aS0 (.c (.bool false)))] (.cond ru (.reg [iSm 1,.s (.bin .rem .int aS0 aC2),iQm 6 0]) .skip)) X7)))
def pq.b6:IR:=pq.g6 pq.b7
def pq.g5 (X6:IR):IR:=(.block 1 X6)
def pq.b5:IR:=pq.g5 pq.b6
def pq.b8:IR:=(.reg [.s (.bin .add .int aT9 aC1),iQm 9 0])
def pq.g4 (X5 X8:IR):IR:=(.seq X5 X8)
def pq.b4:IR:=pq.g4 pq.b5 pq.b8
def pq.g3 (X4:IR):IR:=(iSr [iQo 10 (.bin .lss .int aT9 aT8)] (.seq (.cond bI .skip (.exit 0)) X4))
def pq.b3:IR:=pq.g3 pq.b4
def pq.g2 (X3:IR):IR:=(.loop X3)
def pq.b2:IR:=pq.g2 pq.b3
def pq.g1 (X2:IR):IR:=(.block 0 X2)
def pq.b1:IR:=pq.g1 pq.b2
def pq.b9:IR:=(iSr [.s (.zh 2 aT4),.w .none none (.store 2 aT3 aS0)] .ret)
def pq.g0 (X1 X9:IR):IR:=(iSr [iWl 2 (.box aT0),iWl 3 (.alloc [(I 0),.zi])] (iSr [iCa 110 [aC1],iWl 4 (.alloc [(I 0),.zi]),.w .none none (.store 2 aT4 aS0)] (.seq (iSr [.s (.zh 2 aT2),iWl 7 (.call (.c (.fn 138 (.of 138) [])) [aS0]),iQo 8 (.len aT7),iQo 9 (.mv aC0)] X1) X9)))
def pq.b0:IR:=pq.g0 pq.b1 pq.b9
def pq.res:List RV:=[.cell (.of 3) (some 2)]
def pq:Fn:={ params:=[(.of 0),(.of 1)],res:=pq.res,body:=pq.b0,init:=in12 }
theorem pq.ok:fnA Tryz.prog Tryz.f112 [0,1,2,4,5,7,8,11,12,13,14,24]=some pq:=by kernel_rfl
abbrev F113.fr:=fr3
def F113.b0:IR:=(iSr [iWl 1 (.box aT0),iWl 2 (.alloc [(I 0),.zi,(I 0),.zi])] (.seq (.yw [] [(.s (.zh 2 aT1),1,[]),(iCa 110 [aC1],0,[]),(.s (.build [(I 0),.zi,(I 0),.zi] [(0,2,aS1),(2,2,aS0)]),0,[]),(.w .none none (.store 4 aT2 aS0),0,[])]) .ret))
def F113.res:List RV:=[.cell (.of 2) (some 4)]
def F113:Fn:={ params:=[(.of 0)],res:=F113.res,body:=F113.b0,init:=in3 }
theorem F113.ok:fnA Tryz.prog Tryz.f113 [0,1,2]=some F113:=by kernel_rfl
abbrev oH.fr:=fr7
def oH.b1:IR:=(iSr [.s (.zh 2 aT2),.s (.zh 2 aT3),iCa 182 [aS1,aS0],.s (.mv aS0),.s (.ext 0 aS0),.s (.ext 1 aS1),iWl 5 (.alloc [(I 0),.zi]),.w .push none (.alloc [(I 0),.zi]),.w .none none (.store 2 aT5 aS2),.w .none none (.store 2 aS0 aS1)] (iSr [.s (.zh 2 aT5),.w .none none (.store 2 aT4 aS0)] .ret))
def oH.g0 (X1:IR):IR:=(iSr [iWl 2 (.box aT0),iWl 3 (.box aT1),iWl 4 (.alloc [(I 0),.zi])] (.seq (iSr [.s (.zh 2 aT3),iCa 180 [aS0],iQo 6 (.bin .lss .int aS0 aC0)] (.cond aT6 (.yw [] [(.s (.zh 2 aT2),0,[]),(.s (.zh 2 aT3),1,[]),(iCa 181 [aS1],0,[]),(iCa 181 [aS1],0,[]),(.w .none none (.store 2 aT2 aS1),0,[]),(.w .none none (.store 2 aT3 aS0),0,[])]) .skip)) X1))
def oH.b0:IR:=oH.g0 oH.b1
def oH.res:List RV:=[.cell (.of 4) (some 2)]
def oH:Fn:={ params:=[(.of 0),(.of 1)],res:=oH.res,body:=oH.b0,init:=in7 }
theorem oH.ok:fnA Tryz.prog Tryz.f114 [0,1,2,3,4,5,9]=some oH:=by kernel_rfl
abbrev F115.fr:=fr3
def F115.b0:IR:=(iSr [iWl 1 (.box aT0),iQo 2 (.mv (.c (.bool false)))] (iSr [.s (.zu 0 aT1),.s (.zh 2 aS0),iCa 183 [aS0],.s (.mv aS0),iPf 0 (.zu 2 aT1),iPf 1 (.zh 2 aS0),.w .push (some (aS2,false)) (.call (.c (.fn 183 (.of 183) [])) [aS0]),.s (.pick aS3 (.c (.bool true)) aS0),iQm 2 0] .ret))
def F115.res:List RV:=[.t (.of 2)]
def F115:Fn:={ params:=[(.of 0)],res:=F115.res,body:=F115.b0,init:=in3 }
theorem F115.ok:fnA Tryz.prog Tryz.f115 [0,1,2]=some F115:=by kernel_rfl
abbrev oI.fr:=fr4
def oI.b1:IR:=(.seq (.yw [] [(.s (.zu 0 aT1),0,[]),(.s (.zh 2 aS0),0,[]),(.s (.zu 2 aT1),1,[]),(.s (.zh 2 aS0),1,[]),(iCa 185 [aS2],0,[]),(.s (.bin .add .str aS0 (.c (.str [47]))),1,[]),(iCa 185 [aS2],0,[]),(.s (.bin .add .str aS1 aS0),0,[]),(iQm 2 0,0,[])]) .ret)
def oI.g0 (X1:IR):IR:=(iSr [iWl 1 (.box aT0),iQo 2 (.mv (.c (.str [])))] (.seq (iSr [.s (.zh 4 aT1),iWl 3 (.call (.c (.fn 184 (.of 184) [])) [aS0])] (.cond aT3 (iSr [.s (.zu 0 aT1),.s (.zh 2 aS0),iCa 185 [aS0],iQm 2 0] .ret) .skip)) X1))
def oI.b0:IR:=oI.g0 oI.b1
def oI.res:List RV:=[.t (.of 2)]
def oI:Fn:={ params:=[(.of 0)],res:=oI.res,body:=oI.b0,init:=in4 }
theorem oI.ok:fnA Tryz.prog Tryz.f116 [0,1,2,4]=some oI:=by kernel_rfl
abbrev zo.fr:=fr18
def zo.b7:IR:=(iSr [.s (.entry oW),.s (.ext 1 aS0),iWl 12 (.alloc [.zi,(.bool false)]),.w .none none (.store 2 rZ aS0)] (iSr [iSm 7,.s (.zh 2 rZ),iCa 121 [aS1,aS0],iQo 17 (.not aS0)] (.cond aO (.seq (.yw [] [(.s (.zh 2 aT6),0,[]),(iQo 3 (.mv (.c .gy)),0,[]),(.w .none none (.store 2 aT4 aS0),0,[]),(iQo 5 (.mv aC28),0,[])]) .ret) .skip)))
def zo.g6 (X7:IR):IR:=(.block 1 X7)
def zo.b6:IR:=zo.g6 zo.b7
def zo.g5 (X6:IR):IR:=(iSr [.w .push none (.next oW),iQo 16 (.ext 0 aS0)] (.seq (.cond eX .skip (.exit 0)) X6))
def zo.b5:IR:=zo.g5 zo.b6
def zo.g4 (X5:IR):IR:=(.loop X5)
def zo.b4:IR:=zo.g4 zo.b5
def zo.g3 (X4:IR):IR:=(.block 0 X4)
def zo.b3:IR:=zo.g3 zo.b4
def zo.b8:IR:=(iSr [iSm 8,iSm 11,.s (.tK 1 2 aT6 aC0),.w .none none (.store 1 aS0 aS2),.s (.tK 1 2 aT6 aC1),.w .none none (.store 1 aS0 aS2)] (.seq (.yw [] [(iSm 10,0,[]),(.s (.zh 2 aT6),0,[]),(iQm 3 1,0,[]),(.w .none none (.store 2 aT4 aS0),0,[]),(iQo 5 (.mv aC0),0,[])]) .ret))
def zo.g2 (X3 X8:IR):IR:=(.seq (iSr [iSm 10,iWl 15 (.range aS0)] X3) X8)
def zo.b2:IR:=zo.g2 zo.b3 zo.b8
def zo.g1 (X2:IR):IR:=(iSr [iSm 1,iSm 2,iCa 92 [aS1,aS0],.s (.mv aS0),.s (.ext 0 aS0),.s (.ext 1 aS1),.s (.ext 2 aS2),iQm 10 2,iQm 11 1,iQm 9 0] (.seq (iSr [iSm 9,iQo 14 (.bin .neq .int aS0 aC0)] (.cond aj (.seq (.yw [] [(.s (.zh 2 aT6),0,[]),(iSm 9,1,[]),(iQo 3 (.mv (.c .gy)),0,[]),(.w .none none (.store 2 aT4 aS1),0,[]),(iQm 5 0,0,[])]) .ret) .skip)) X2))
def zo.b1:IR:=zo.g1 zo.b2
def zo.g0 (X1:IR):IR:=(iSr [iQo 3 (.mv (.c .gy)),iWl 4 (.alloc [.zi,.zi]),iQo 5 (.mv aC0)] (iSr [iWl 6 (.alloc [.zi,.zi])] (iSr [iSm 0,iSm 2,iCa 92 [aS1,aS0],.s (.mv aS0),.s (.ext 0 aS0),.s (.ext 1 aS1),.s (.ext 2 aS2),iQm 7 2,iQm 8 1,iQm 9 0] (.seq (iSr [iSm 9,iQo 13 (.bin .neq .int aS0 aC0)] (.cond fK (.seq (.yw [] [(.s (.zh 2 aT6),0,[]),(iSm 9,1,[]),(iQo 3 (.mv (.c .gy)),0,[]),(.w .none none (.store 2 aT4 aS1),0,[]),(iQm 5 0,0,[])]) .ret) .skip)) X1))))
def zo.b0:IR:=zo.g0 zo.b1
def zo.res:List RV:=[.t (.of 3),.cell (.of 4) (some 2),.t (.of 5)]
def zo:Fn:={ params:=[(.of 0),(.of 1),(.of 2)],res:=zo.res,body:=zo.b0,init:=in18 }
theorem zo.ok:fnA Tryz.prog Tryz.f120 [0,1,2,6,7,8,9,10,11,12,13,14,16,25,36,40,42,48]=some zo:=by kernel_rfl
abbrev aW.fr:=fr5
def aW.b0:IR:=(iSr [iWl 2 (.box aT1),iQo 3 (.mv (.c (.bool false)))] (iSr [iSm 0,.s (.zh 2 aT2),iCa 123 [aS0],.s (.look .str (.agg [.zi,(.bool false)]) true aS2 aS0),.s (.mv aS0),.s (.ext 0 aS0),.s (.ext 1 aS1),.w .push none (.alloc [.zi,(.bool false)]),.w .none none (.store 2 aS0 aS2),iQm 4 1] (iSr [iSm 4,iQm 3 0] .ret)))
def aW.res:List RV:=[.t (.of 3)]
def aW:Fn:={ params:=[(.of 0),(.of 1)],res:=aW.res,body:=aW.b0,init:=in5 }
theorem aW.ok:fnA Tryz.prog Tryz.f121 [0,1,3,4,6]=some aW:=by kernel_rfl
abbrev uq.fr:=fr12
def uq.b6:IR:=(iSr [iSm 10,.s (.zx 1 aT8 bI),.s (.load aS0),iQm 6 2,iQm 7 0] (.yw [] [(.s (.zu 0 aT5),0,[]),(.s (.load aS0),0,[]),(iSm 6,0,[]),(.s (.zu 0 aT2),0,[]),(.s (.load aS0),0,[]),(iSm 7,0,[]),(.s (.zx 1 aS1 aS0),0,[]),(.s (.load aS0),0,[]),(.s (.zx 1 aS6 aS5),0,[]),(.w .none none (.store 1 aS0 aS1),0,[])]))
def uq.g5 (X6:IR):IR:=(.block 1 X6)
def uq.b5:IR:=uq.g5 uq.b6
def uq.b7:IR:=(.reg [.s (.bin .add .int bI aC1),iQm 10 0])
def uq.g4 (X5 X7:IR):IR:=(.seq X5 X7)
def uq.b4:IR:=uq.g4 uq.b5 uq.b7
def uq.g3 (X4:IR):IR:=(iSr [iQo 11 (.bin .lss .int bI aT9)] (.seq (.cond ru .skip (.exit 0)) X4))
def uq.b3:IR:=uq.g3 uq.b4
def uq.g2 (X3:IR):IR:=(.loop X3)
def uq.b2:IR:=uq.g2 uq.b3
def uq.g1 (X2:IR):IR:=(.block 0 X2)
def uq.b1:IR:=uq.g1 uq.b2
def uq.b8:IR:=(iSr [.s (.zh 2 aT5),.w .none none (.store 2 aT4 aS0)] .ret)
def uq.g0 (X1 X8:IR):IR:=(iSr [iWl 2 (.box aT0),iWl 3 (.box aT1),iWl 4 (.alloc [.zi,(.bool false)])] (.seq (.yw [(.alloc [.zi,(.bool false)])] [(.s (.zu 0 aT3),2,[]),(.s (.load aS0),2,[]),(.s (.len aS0),2,[(.jk 1 8 [(I 0)] aS0 aS0)]),(.s (.zu 1 aT2),2,[]),(.s (.load aS0),2,[]),(.s (.zu 1 aT3),2,[]),(.s (.load aS0),2,[]),(.s (.bin .neq .bool aS2 aS0),2,[]),(.w .push none (.jk 1 8 [(I 0)] aS5 aS5),0,[]),(.s (.build [.zi,(.bool false)] [(0,1,aS0),(1,1,aS1)]),1,[]),(iWl 5 (.alloc [.zi,(.bool false)]),0,[]),(.w .none none (.store 2 aT5 aS0),0,[])]) (.seq (iSr [.s (.zu 0 aT3),iQo 8 (.load aS0),iQo 9 (.len aT8),iQo 10 (.mv aC0)] X1) X8)))
def uq.b0:IR:=uq.g0 uq.b1 uq.b8
def uq.res:List RV:=[.cell (.of 4) (some 2)]
def uq:Fn:={ params:=[(.of 0),(.of 1)],res:=uq.res,body:=uq.b0,init:=in12 }
theorem uq.ok:fnA Tryz.prog Tryz.f122 [0,1,2,3,4,5,6,7,19,20,21,22]=some uq:=by kernel_rfl
abbrev uf.fr:=fr10
def uf.b6:IR:=(iSr [.s (.zx 1 aT5 aT7),.s (.load aS0),iQm 4 0] (.reg [iSm 3,iSm 4,.s (.conv .u8 aS0),.w .push none (.yg 1 1 [(.int .u8 0)] [(0,1,aS0)]),.w .push none (.app 1 1 aS3 aS0),iQm 3 0]))
def uf.g5 (X6:IR):IR:=(.block 1 X6)
def uf.b5:IR:=uf.g5 uf.b6
def uf.b7:IR:=(.reg [.s (.bin .add .int aT7 aC1),iQm 7 0])
def uf.g4 (X5 X7:IR):IR:=(.seq X5 X7)
def uf.b4:IR:=uf.g4 uf.b5 uf.b7
def uf.g3 (X4:IR):IR:=(iSr [iQo 8 (.bin .lss .int aT7 aT6)] (.seq (.cond aT8 .skip (.exit 0)) X4))
def uf.b3:IR:=uf.g3 uf.b4
def uf.g2 (X3:IR):IR:=(.loop X3)
def uf.b2:IR:=uf.g2 uf.b3
def uf.g1 (X2:IR):IR:=(.block 0 X2)
def uf.b1:IR:=uf.g1 uf.b2
def uf.b9:IR:=(iSr [iSm 3,.s (.b2s aS0),iQm 2 0] .ret)
def uf.g8 (X9:IR):IR:=(.seq (iSr [.s (.zu 1 aT1),iQo 9 (.load aS0)] (.cond aT9 (.reg [iSm 3,.w .push none (.yg 1 1 [(.int .u8 0)] [(0,1,(.c (.int .u8 1)))]),.w .push none (.app 1 1 aS1 aS0),iQm 3 0]) .skip)) X9)
def uf.b8:IR:=uf.g8 uf.b9
def uf.g0 (X1 X8:IR):IR:=(iSr [iWl 1 (.box aT0),iQo 2 (.mv (.c (.str [])))] (iSr [.s (.zu 0 aT1),.s (.load aS0),.s (.len aS0),.s (.bin .add .int aS0 aC1),.w .push none (.jk 1 1 [(.int .u8 0)] aC0 aS0),iQm 3 0] (.seq (iSr [.s (.zu 0 aT1),iQo 5 (.load aS0),iQo 6 (.len aT5),iQo 7 (.mv aC0)] X1) X8)))
def uf.b0:IR:=uf.g0 uf.b1 uf.b8
def uf.res:List RV:=[.t (.of 2)]
def uf:Fn:={ params:=[(.of 0)],res:=uf.res,body:=uf.b0,init:=in10 }
theorem uf.ok:fnA Tryz.prog Tryz.f123 [0,1,2,3,5,12,13,14,15,25]=some uf:=by kernel_rfl
abbrev yt.fr:=fr10
def yt.b6:IR:=(iSr [iSm 8,.s (.zx 1 aT6 aT8),.s (.load aS0),iQm 4 2,iQm 5 0] (.reg [.s (.zu 0 aT3),.s (.load aS0),iSm 5,iSm 4,.s (.zx 1 aS2 aS1),.w .none none (.store 1 aS0 aS1)]))
def yt.g5 (X6:IR):IR:=(.block 1 X6)
def yt.b5:IR:=yt.g5 yt.b6
def yt.b7:IR:=(.reg [.s (.bin .add .int aT8 aC1),iQm 8 0])
def yt.g4 (X5 X7:IR):IR:=(.seq X5 X7)
def yt.b4:IR:=yt.g4 yt.b5 yt.b7
def yt.g3 (X4:IR):IR:=(iSr [iQo 9 (.bin .lss .int aT8 aT7)] (.seq (.cond aT9 .skip (.exit 0)) X4))
def yt.b3:IR:=yt.g3 yt.b4
def yt.g2 (X3:IR):IR:=(.loop X3)
def yt.b2:IR:=yt.g2 yt.b3
def yt.g1 (X2:IR):IR:=(.block 0 X2)
def yt.b1:IR:=yt.g1 yt.b2
def yt.b8:IR:=(iSr [.s (.zh 2 aT3),.w .none none (.store 2 aT2 aS0)] .ret)
def yt.g0 (X1 X8:IR):IR:=(iSr [iWl 1 (.box aT0),iWl 2 (.alloc [.zi,(.bool false)])] (.seq (.yw [(.alloc [.zi,(.bool false)])] [(.s (.zu 0 aT1),2,[]),(.s (.load aS0),2,[]),(.s (.len aS0),2,[(.jk 1 8 [(I 0)] aS0 aS0)]),(.s (.zu 1 aT1),2,[]),(.s (.load aS0),2,[]),(.w .push none (.jk 1 8 [(I 0)] aS2 aS2),0,[]),(.s (.build [.zi,(.bool false)] [(0,1,aS0),(1,1,aS1)]),1,[]),(iWl 3 (.alloc [.zi,(.bool false)]),0,[]),(.w .none none (.store 2 aT3 aS0),0,[])]) (.seq (iSr [.s (.zu 0 aT1),iQo 6 (.load aS0),iQo 7 (.len aT6),iQo 8 (.mv aC0)] X1) X8)))
def yt.b0:IR:=yt.g0 yt.b1 yt.b8
def yt.res:List RV:=[.cell (.of 2) (some 2)]
def yt:Fn:={ params:=[(.of 0)],res:=yt.res,body:=yt.b0,init:=in10 }
theorem yt.ok:fnA Tryz.prog Tryz.f124 [0,1,2,3,4,5,14,15,16,17]=some yt:=by kernel_rfl
abbrev wu.fr:=fr2
def wu.b0:IR:=(iSr [iQo 1 (.mv aC0)] (iSr [iSm 0,.s (.len aS0),.s (.bin .gtr .int aS0 mU),iCa 96 [aS0,aC5],iSm 0,.w .push none (.call (.c (.fn 136 (.of 136) [])) [aS0,(.c (.fn 137 (.of 137) []))]),iCa 96 [aS0,aC3],.w .push none (.yg 1 2 [(I 0)] [(0,1,aS3),(1,1,aS0)]),iCa 94 [aS0],iQm 1 0] .ret))
def wu.res:List RV:=[.t (.of 1)]
def wu:Fn:={ params:=[(.of 0)],res:=wu.res,body:=wu.b0,init:=in2 }
theorem wu.ok:fnA Tryz.prog Tryz.f134 [0,2]=some wu:=by kernel_rfl
abbrev zy.fr:=fr12
def zy.b7:IR:=(.reg [iSm 4,.s (.zu 0 aT2),.s (.load aS0),iSm 5,.s (.zx 1 aS1 aS0),.s (.load aS0),iSm 6,.s (.zx 1 aS6 aS1),.w .none none (.store 1 aS0 aS1)])
def zy.g6 (X7:IR):IR:=(iSr [iSm 9,.s (.zx 1 aT7 aT9),.s (.load aS0),iQm 5 2,iQm 6 0] (.seq (iSr [.s (.zu 1 aT2),iQo 11 (.load aS0)] (.cond ru (.reg [iSm 1,.s (.len aS0),.s (.bin .add .int aS0 aC1),iSm 6,.s (.bin .sub .int aS1 aS0),iQm 6 0]) .skip)) X7))
def zy.b6:IR:=zy.g6 zy.b7
def zy.g5 (X6:IR):IR:=(.block 1 X6)
def zy.b5:IR:=zy.g5 zy.b6
def zy.b8:IR:=(.reg [.s (.bin .add .int aT9 aC1),iQm 9 0])
def zy.g4 (X5 X8:IR):IR:=(.seq X5 X8)
def zy.b4:IR:=zy.g4 zy.b5 zy.b8
def zy.g3 (X4:IR):IR:=(iSr [iQo 10 (.bin .lss .int aT9 aT8)] (.seq (.cond bI .skip (.exit 0)) X4))
def zy.b3:IR:=zy.g3 zy.b4
def zy.g2 (X3:IR):IR:=(.loop X3)
def zy.b2:IR:=zy.g2 zy.b3
def zy.g1 (X2:IR):IR:=(.block 0 X2)
def zy.b1:IR:=zy.g1 zy.b2
def zy.b9:IR:=(iSr [iSm 4,iQm 3 0] .ret)
def zy.g0 (X1 X9:IR):IR:=(iSr [iWl 2 (.box aT0),iQo 3 (.mv (.c .zi))] (iSr [iSm 1,.s (.len aS0),.w .push none (.jk 1 8 [(I 0)] aS0 aS0),iQm 4 0] (.seq (iSr [iQo 7 (.mv aT1),iQo 8 (.len aT7),iQo 9 (.mv aC0)] X1) X9)))
def zy.b0:IR:=zy.g0 zy.b1 zy.b9
def zy.res:List RV:=[.t (.of 3)]
def zy:Fn:={ params:=[(.of 0),(.of 1)],res:=zy.res,body:=zy.b0,init:=in12 }
theorem zy.ok:fnA Tryz.prog Tryz.f135 [0,1,2,4,5,6,7,11,12,13,14,19]=some zy:=by kernel_rfl
abbrev aT.fr:=fr3
def aT.b0:IR:=(iSr [iQo 2 (.mv (.c (.bool false)))] (iSr [iSm 0,iSm 1,iCa 197 [aS1,aS0],.s (.bin .geq .int aS0 aC0),iQm 2 0] .ret))
def aT.res:List RV:=[.t (.of 2)]
def aT:Fn:={ params:=[(.of 0),(.of 1)],res:=aT.res,body:=aT.b0,init:=in3 }
theorem aT.ok:fnA Tryz.prog Tryz.f136 [0,1,4]=some aT:=by kernel_rfl
abbrev wo.fr:=fr2
def wo.b0:IR:=(iSr [iQo 1 (.mv (.c (.bool false)))] (iSr [iSm 0,.s (.bin .lss .int aS0 (.c (I (-999999999)))),.s (.mv aS0),iPf 0 (.mv aT0),iPf 1 (.bin .gtr .int aS0 xZ),.s (.pick aS2 (.c (.bool true)) aS0),iQm 1 0] .ret))
def wo.res:List RV:=[.t (.of 1)]
def wo:Fn:={ params:=[(.of 0)],res:=wo.res,body:=wo.b0,init:=in2 }
theorem wo.ok:fnA Tryz.prog Tryz.f137 [0,2]=some wo:=by kernel_rfl
abbrev zk.fr:=fr13
def zk.b12:IR:=(iSr [iSm 4,iSm 7,.s (.zx 1 aS1 aS0),.w .none none (.store 1 aS0 (.c (.bool true)))] (.reg [iSm 6,.s (.bin .add .int aS0 aC1),iQm 6 0]))
def zk.g11 (X12:IR):IR:=(.block 3 X12)
def zk.b11:IR:=zk.g11 zk.b12
def zk.b13:IR:=(.reg [.s (.zu 0 aT1),.s (.load aS0),iSm 7,.s (.zx 1 aS1 aS0),.s (.load aS0),iQm 7 0])
def zk.g10 (X11 X13:IR):IR:=(.seq X11 X13)
def zk.b10:IR:=zk.g10 zk.b11 zk.b13
def zk.g9 (X10:IR):IR:=(.seq (iSr [iSm 4,iSm 7,.s (.zx 1 aS1 aS0),.s (.load aS0),iQo 11 (.not aS0)] (.cond ru .skip (.exit 2))) X10)
def zk.b9:IR:=zk.g9 zk.b10
def zk.g8 (X9:IR):IR:=(.loop X9)
def zk.b8:IR:=zk.g8 zk.b9
def zk.g7 (X8:IR):IR:=(.block 2 X8)
def zk.b7:IR:=zk.g7 zk.b8
def zk.b14:IR:=(iSr [iSm 6,iQo 12 (.bin .gtr .int aS0 aC0)] (.cond rZ (.reg [iSm 3,iSm 6,.w .push none (.yg 1 1 [(I 0)] [(0,1,aS0)]),.w .push none (.app 1 8 aS2 aS0),iQm 3 0]) .skip))
def zk.g6 (X7 X14:IR):IR:=(iSr [iSm 9,iQm 5 0] (iSr [iQo 6 (.mv aC0)] (.seq (iSr [iSm 5,iQm 7 0] X7) X14)))
def zk.b6:IR:=zk.g6 zk.b7 zk.b14
def zk.g5 (X6:IR):IR:=(.block 1 X6)
def zk.b5:IR:=zk.g5 zk.b6
def zk.b15:IR:=(.reg [.s (.bin .add .int aT9 aC1),iQm 9 0])
def zk.g4 (X5 X15:IR):IR:=(.seq X5 X15)
def zk.b4:IR:=zk.g4 zk.b5 zk.b15
def zk.g3 (X4:IR):IR:=(iSr [iQo 10 (.bin .lss .int aT9 aT8)] (.seq (.cond bI .skip (.exit 0)) X4))
def zk.b3:IR:=zk.g3 zk.b4
def zk.g2 (X3:IR):IR:=(.loop X3)
def zk.b2:IR:=zk.g2 zk.b3
def zk.g1 (X2:IR):IR:=(.block 0 X2)
def zk.b1:IR:=zk.g1 zk.b2
def zk.b16:IR:=(iSr [iSm 3,iQm 2 0] .ret)
def zk.g0 (X1 X16:IR):IR:=(iSr [iWl 1 (.box aT0),iQo 2 (.mv (.c .zi))] (iSr [iQo 3 (.mv (.c .zi))] (iSr [.s (.zu 0 aT1),.s (.load aS0),.s (.len aS0),.w .push none (.jk 1 1 [(.bool false)] aS0 aS0),iQm 4 0] (.seq (iSr [.s (.zu 0 aT1),.s (.load aS0),iQo 8 (.len aS0),iQo 9 (.mv aC0)] X1) X16))))
def zk.b0:IR:=zk.g0 zk.b1 zk.b16
def zk.res:List RV:=[.t (.of 2)]
def zk:Fn:={ params:=[(.of 0)],res:=zk.res,body:=zk.b0,init:=in13 }
theorem zk.ok:fnA Tryz.prog Tryz.f138 [0,1,2,3,4,5,6,7,14,15,16,23,35]=some zk:=by kernel_rfl
abbrev jc.fr:=fr4
def jc.b5:IR:=(.yw [] [(iSm 1,0,[]),(iSm 0,0,[]),(iSm 1,0,[]),(.s (.bin .rem .int aS1 aS0),0,[]),(iQm 0 3,0,[]),(iQm 1 0,0,[])])
def jc.g4 (X5:IR):IR:=(.block 1 X5)
def jc.b4:IR:=jc.g4 jc.b5
def jc.g3 (X4:IR):IR:=(.seq (iSr [iSm 1,iQo 3 (.bin .neq .int aS0 aC0)] (.cond aT3 .skip (.exit 0))) X4)
def jc.b3:IR:=jc.g3 jc.b4
def jc.g2 (X3:IR):IR:=(.loop X3)
def jc.b2:IR:=jc.g2 jc.b3
def jc.g1 (X2:IR):IR:=(.block 0 X2)
def jc.b1:IR:=jc.g1 jc.b2
def jc.b6:IR:=(iSr [iSm 0,iQm 2 0] .ret)
def jc.g0 (X1 X6:IR):IR:=(iSr [iQo 2 (.mv aC0)] (.seq X1 X6))
def jc.b0:IR:=jc.g0 jc.b1 jc.b6
def jc.res:List RV:=[.t (.of 2)]
def jc:Fn:={ params:=[(.of 0),(.of 1)],res:=jc.res,body:=jc.b0,init:=in4 }
theorem jc.ok:fnA Tryz.prog Tryz.f139 [0,1,4,6]=some jc:=by kernel_rfl
abbrev aX.fr:=fr2
def aX.b0:IR:=(iSr [iQo 1 (.mv (.c (.bool false)))] (iSr [iSm 0,iCa 198 [aS0],.s (.bin .eql .int aS0 aC0),iQm 1 0] .ret))
def aX.res:List RV:=[.t (.of 1)]
def aX:Fn:={ params:=[(.of 0)],res:=aX.res,body:=aX.b0,init:=in2 }
theorem aX.ok:fnA Tryz.prog Tryz.f140 [0,2]=some aX:=by kernel_rfl
abbrev yu.fr:=fr5
def yu.b6:IR:=(.reg [iSm 2,iSm 0,iSm 3,.s (.zx 1 aS1 aS0),.s (.load aS0),iSm 3,.s (.zx 1 aS5 aS1),.w .none none (.store 1 aS0 aS1)])
def yu.g5 (X6:IR):IR:=(.block 1 X6)
def yu.b5:IR:=yu.g5 yu.b6
def yu.b7:IR:=(.reg [iSm 3,.s (.bin .add .int aS0 aC1),iQm 3 0])
def yu.g4 (X5 X7:IR):IR:=(.seq X5 X7)
def yu.b4:IR:=yu.g4 yu.b5 yu.b7
def yu.g3 (X4:IR):IR:=(.seq (iSr [iSm 3,iSm 0,.s (.len aS0),iQo 4 (.bin .lss .int aS2 aS0)] (.cond aT4 .skip (.exit 0))) X4)
def yu.b3:IR:=yu.g3 yu.b4
def yu.g2 (X3:IR):IR:=(.loop X3)
def yu.b2:IR:=yu.g2 yu.b3
def yu.g1 (X2:IR):IR:=(.block 0 X2)
def yu.b1:IR:=yu.g1 yu.b2
def yu.b8:IR:=(iSr [iSm 2,iQm 1 0] .ret)
def yu.g0 (X1 X8:IR):IR:=(iSr [iQo 1 (.mv (.c .zi))] (iSr [iSm 0,.s (.len aS0),.w .push none (.jk 1 8 [(I 0)] aS0 aS0),iQm 2 0] (.seq (iSr [iQo 3 (.mv aC0)] X1) X8)))
def yu.b0:IR:=yu.g0 yu.b1 yu.b8
def yu.res:List RV:=[.t (.of 1)]
def yu:Fn:={ params:=[(.of 0)],res:=yu.res,body:=yu.b0,init:=in5 }
theorem yu.ok:fnA Tryz.prog Tryz.f141 [0,2,3,4,11]=some yu:=by kernel_rfl
abbrev zn.fr:=fr10
def zn.b12:IR:=(iSr [iSm 3,iSm 6,.s (.zx 1 aS1 aS0),.w .none none (.store 1 aS0 (.c (.bool true)))] (.reg [iSm 5,iSm 6,.w .push none (.yg 1 1 [(I 0)] [(0,1,aS0)]),.w .push none (.app 1 8 aS2 aS0),iQm 5 0]))
def zn.g11 (X12:IR):IR:=(.block 3 X12)
def zn.b11:IR:=zn.g11 zn.b12
def zn.b13:IR:=(.reg [iSm 0,iSm 6,.s (.zx 1 aS1 aS0),.s (.load aS0),iQm 6 0])
def zn.g10 (X11 X13:IR):IR:=(.seq X11 X13)
def zn.b10:IR:=zn.g10 zn.b11 zn.b13
def zn.g9 (X10:IR):IR:=(.seq (iSr [iSm 3,iSm 6,.s (.zx 1 aS1 aS0),.s (.load aS0),iQo 8 (.not aS0)] (.cond aT8 .skip (.exit 2))) X10)
def zn.b9:IR:=zn.g9 zn.b10
def zn.g8 (X9:IR):IR:=(.loop X9)
def zn.b8:IR:=zn.g8 zn.b9
def zn.g7 (X8:IR):IR:=(.block 2 X8)
def zn.b7:IR:=zn.g7 zn.b8
def zn.b14:IR:=(iSr [iSm 5,.s (.len aS0),iQo 9 (.bin .gtr .int aS0 aC0)] (.cond aT9 (.reg [iSm 2,iSm 5,.w .push none (.yg 1 1 [.zi] [(0,1,aS0)]),.w .push none (.app 1 24 aS2 aS0),iQm 2 0]) .skip))
def zn.g6 (X7 X14:IR):IR:=(iSr [iQo 5 (.mv (.c .zi))] (.seq (iSr [iSm 4,iQm 6 0] X7) X14))
def zn.b6:IR:=zn.g6 zn.b7 zn.b14
def zn.g5 (X6:IR):IR:=(.block 1 X6)
def zn.b5:IR:=zn.g5 zn.b6
def zn.b15:IR:=(.reg [iSm 4,.s (.bin .add .int aS0 aC1),iQm 4 0])
def zn.g4 (X5 X15:IR):IR:=(.seq X5 X15)
def zn.b4:IR:=zn.g4 zn.b5 zn.b15
def zn.g3 (X4:IR):IR:=(.seq (iSr [iSm 4,iSm 0,.s (.len aS0),iQo 7 (.bin .lss .int aS2 aS0)] (.cond aT7 .skip (.exit 0))) X4)
def zn.b3:IR:=zn.g3 zn.b4
def zn.g2 (X3:IR):IR:=(.loop X3)
def zn.b2:IR:=zn.g2 zn.b3
def zn.g1 (X2:IR):IR:=(.block 0 X2)
def zn.b1:IR:=zn.g1 zn.b2
def zn.b16:IR:=(iSr [iSm 2,iQm 1 0] .ret)
def zn.g0 (X1 X16:IR):IR:=(iSr [iQo 1 (.mv (.c .zi))] (iSr [iQo 2 (.mv (.c .zi))] (iSr [iSm 0,.s (.len aS0),.w .push none (.jk 1 1 [(.bool false)] aS0 aS0),iQm 3 0] (.seq (iSr [iQo 4 (.mv aC0)] X1) X16))))
def zn.b0:IR:=zn.g0 zn.b1 zn.b16
def zn.res:List RV:=[.t (.of 1)]
def zn:Fn:={ params:=[(.of 0)],res:=zn.res,body:=zn.b0,init:=in10 }
theorem zn.ok:fnA Tryz.prog Tryz.f142 [0,2,3,4,5,6,7,14,22,36]=some zn:=by kernel_rfl
abbrev wz.fr:=fr3
def wz.b0:IR:=(iSr [iQo 2 (.mv aC0)] (iSr [iSm 0,iSm 0,.s (.bin .sub .int aC0 aS0),.s (.sF true aS2 [aS0]),iSm 1,iSm 1,.s (.bin .sub .int aC0 aS0),.s (.sF true aS2 [aS0]),iCa 199 [aS4,aS0],iQm 2 0] .ret))
def wz.res:List RV:=[.t (.of 2)]
def wz:Fn:={ params:=[(.of 0),(.of 1)],res:=wz.res,body:=wz.b0,init:=in3 }
theorem wz.ok:fnA Tryz.prog Tryz.f143 [0,1,4]=some wz:=by kernel_rfl
abbrev uj.fr:=fr6
def uj.b6:IR:=(.reg [iSm 3,iSm 0,iSm 1,iSm 4,.s (.zx 1 aS1 aS0),.s (.load aS0),.s (.zx 1 aS4 aS0),.s (.load aS0),.w .push none (.yg 1 1 [(I 0)] [(0,1,aS0)]),.w .push none (.app 1 8 aS8 aS0),iQm 3 0])
def uj.g5 (X6:IR):IR:=(.block 1 X6)
def uj.b5:IR:=uj.g5 uj.b6
def uj.b7:IR:=(.reg [iSm 4,.s (.bin .add .int aS0 aC1),iQm 4 0])
def uj.g4 (X5 X7:IR):IR:=(.seq X5 X7)
def uj.b4:IR:=uj.g4 uj.b5 uj.b7
def uj.g3 (X4:IR):IR:=(.seq (iSr [iSm 4,iSm 1,.s (.len aS0),iQo 5 (.bin .lss .int aS2 aS0)] (.cond aT5 .skip (.exit 0))) X4)
def uj.b3:IR:=uj.g3 uj.b4
def uj.g2 (X3:IR):IR:=(.loop X3)
def uj.b2:IR:=uj.g2 uj.b3
def uj.g1 (X2:IR):IR:=(.block 0 X2)
def uj.b1:IR:=uj.g1 uj.b2
def uj.b8:IR:=(iSr [iSm 3,iQm 2 0] .ret)
def uj.g0 (X1 X8:IR):IR:=(iSr [iQo 2 (.mv (.c .zi))] (iSr [iQo 3 (.mv (.c .zi))] (.seq (iSr [iQo 4 (.mv aC0)] X1) X8)))
def uj.b0:IR:=uj.g0 uj.b1 uj.b8
def uj.res:List RV:=[.t (.of 2)]
def uj:Fn:={ params:=[(.of 0),(.of 1)],res:=uj.res,body:=uj.b0,init:=in6 }
theorem uj.ok:fnA Tryz.prog Tryz.f144 [0,1,4,5,6,10]=some uj:=by kernel_rfl
abbrev F145.fr:=fr2
def F145.b0:IR:=(iSr [iQo 1 (.mv aC0)] (iSr [iSm 0,.s (.bin .lss .int aS0 aC1),.s (.mv aS0),iPf 0 (.mv aT0),iPf 1 (.bin .gtr .int aS0 aC16),.s (.pick aS2 (.c (.bool true)) aS0),iCa 96 [aS0,aC3],iQm 1 0] .ret))
def F145.res:List RV:=[.t (.of 1)]
def F145:Fn:={ params:=[(.of 0)],res:=F145.res,body:=F145.b0,init:=in2 }
theorem F145.ok:fnA Tryz.prog Tryz.f145 [0,2]=some F145:=by kernel_rfl
abbrev bK.fr:=fr10
def bK.b6:IR:=(iSr [iSm 8,iQm 4 0] (.seq (.yw [] [(iSm 2,0,[]),(iSm 4,0,[]),(iSm 1,0,[]),(.s (.bin .quo .int aS1 aS0),0,[]),(iSm 4,0,[]),(iSm 1,0,[]),(.s (.bin .rem .int aS1 aS0),0,[]),(.w .push none (.call aS6 [aS3,aS0]),0,[]),(.s (.mv aS0),0,[]),(.s (.ext 0 aS0),0,[]),(.s (.ext 1 aS1),0,[]),(iQm 5 1,0,[]),(iQm 6 0,0,[])]) (.reg [.s (.zu 0 aT3),.s (.load aS0),iSm 4,iSm 1,iSm 5,.s (.bin .mul .int aS1 aS0),iSm 6,.s (.bin .add .int aS1 aS0),.s (.zx 1 aS6 aS5),.w .none none (.store 1 aS0 aS1)])))
def bK.g5 (X6:IR):IR:=(.block 1 X6)
def bK.b5:IR:=bK.g5 bK.b6
def bK.b7:IR:=(.reg [.s (.bin .add .int aT8 aC1),iQm 8 0])
def bK.g4 (X5 X7:IR):IR:=(.seq X5 X7)
def bK.b4:IR:=bK.g4 bK.b5 bK.b7
def bK.g3 (X4:IR):IR:=(iSr [iQo 9 (.bin .lss .int aT8 aT7)] (.seq (.cond aT9 .skip (.exit 0)) X4))
def bK.b3:IR:=bK.g3 bK.b4
def bK.g2 (X3:IR):IR:=(.loop X3)
def bK.b2:IR:=bK.g2 bK.b3
def bK.g1 (X2:IR):IR:=(.block 0 X2)
def bK.b1:IR:=bK.g1 bK.b2
def bK.b8:IR:=(.yw [] [(iSm 0,1,[]),(.s (.zh 2 aT3),0,[]),(.s (.zh 2 aT3),1,[]),(iCa 123 [aS1],0,[]),(.w .none none (.oz .str aS3 aS0 aS1),0,[])])
def bK.g0 (X1 X8:IR):IR:=(iSr [iSm 1,iSm 1,.s (.bin .mul .int aS1 aS0),.w .push none (.jk 1 8 [(I 0)] aS0 aS0),.s (.build [.zi,(.bool false)] [(0,1,aS0)]),iWl 3 (.alloc [.zi,(.bool false)]),.w .none none (.store 2 aT3 aS0)] (.seq (iSr [.s (.zu 0 aT3),.s (.load aS0),iQo 7 (.len aS0),iQo 8 (.mv aC0)] X1) X8))
def bK.b0:IR:=bK.g0 bK.b1 bK.b8
def bK.res:List RV:=[]
def bK:Fn:={ params:=[(.of 0),(.of 1),(.of 2)],res:=bK.res,body:=bK.b0,init:=in10 }
theorem bK.ok:fnA Tryz.prog Tryz.f146 [0,1,2,6,7,8,9,17,18,19]=some bK:=by kernel_rfl
abbrev su.fr:=fr9
def su.b3:IR:=(iSr [iSm 0,iSm 1,iQm 4 1,iQm 5 0] .ret)
def su.g2 (X3:IR):IR:=(.seq (iSr [.s (.load aT2),.s (.bin .and .int aS0 aC4),iQo 8 (.bin .neq .int aS0 aC0)] (.cond aT8 (iSr [iSm 1,iSm 0,iQm 4 1,iQm 5 0] .ret) .skip)) X3)
def su.b2:IR:=su.g2 su.b3
def su.g1 (X2:IR):IR:=(.seq (iSr [.s (.load aT2),.s (.bin .and .int aS0 aC2),iQo 7 (.bin .neq .int aS0 aC0)] (.cond aT7 (.reg [.s (.load aT3),.s (.bin .sub .int aS0 aC1),iSm 1,.s (.bin .sub .int aS1 aS0),iQm 1 0]) .skip)) X2)
def su.b1:IR:=su.g1 su.b2
def su.g0 (X1:IR):IR:=(iSr [iQo 4 (.mv aC0),iQo 5 (.mv aC0)] (.seq (iSr [.s (.load aT2),.s (.bin .and .int aS0 aC1),iQo 6 (.bin .neq .int aS0 aC0)] (.cond aT6 (.reg [.s (.load aT3),.s (.bin .sub .int aS0 aC1),iSm 0,.s (.bin .sub .int aS1 aS0),iQm 0 0]) .skip)) X1))
def su.b0:IR:=su.g0 su.b1
def su.res:List RV:=[.t (.of 4),.t (.of 5)]
def su:Fn:={ params:=[(.of 0),(.of 1),(.of 2),(.of 3)],res:=su.res,body:=su.b0,init:=in9 }
theorem su.ok:fnA Tryz.prog Tryz.f147 [0,1,2,3,6,7,10,17,24]=some su:=by kernel_rfl
abbrev dh.fr:=fr12
def dh.b8:IR:=(.seq (.yw [] [(.s (.load aT3),0,[]),(iSm 0,0,[]),(.s (.load aT3),1,[]),(.s (.load aT1),1,[]),(.s (.bin .sub .int aS0 aC1),1,[]),(iSm 0,1,[]),(.s (.bin .sub .int aS1 aS0),1,[]),(iSm 6,0,[]),(.s (.load aT1),1,[]),(.s (.bin .sub .int aS0 aC1),1,[]),(iSm 6,1,[]),(.s (.bin .sub .int aS1 aS0),1,[]),(.s (.zx 1 aS11 aS10),0,[]),(.w .none none (.store 1 aS0 aS5),0,[]),(.s (.zx 1 aS10 aS6),0,[]),(.w .none none (.store 1 aS0 aS2),0,[])]) (.seq (.yw [] [(.s (.load aT4),0,[]),(iSm 6,0,[]),(.s (.load aT4),1,[]),(.s (.load aT1),1,[]),(.s (.bin .sub .int aS0 aC1),1,[]),(iSm 6,1,[]),(.s (.bin .sub .int aS1 aS0),1,[]),(.s (.zx 1 aS6 aS5),0,[]),(.w .none none (.store 1 aS0 (.c (.bool true))),0,[]),(.s (.zx 1 aS5 aS1),0,[]),(.w .none none (.store 1 aS0 (.c (.bool true))),0,[])]) (iSr [.s (.load aT5),iSm 0,.s (.bin .add .int aS0 aC1),.w .push none (.call aS2 [aS0])] (.yw [] [(.s (.load aT4),0,[]),(iSm 6,0,[]),(.s (.load aT4),1,[]),(.s (.load aT1),1,[]),(.s (.bin .sub .int aS0 aC1),1,[]),(iSm 6,1,[]),(.s (.bin .sub .int aS1 aS0),1,[]),(.s (.zx 1 aS6 aS5),0,[]),(.w .none none (.store 1 aS0 (.c (.bool false))),0,[]),(.s (.zx 1 aS5 aS1),0,[]),(.w .none none (.store 1 aS0 (.c (.bool false))),0,[])]))))
def dh.g7 (X8:IR):IR:=(iSr [iSm 9,iQm 6 0] (.seq (iSr [.s (.load aT4),iSm 6,.s (.zx 1 aS1 aS0),.s (.load aS0),.s (.mv aS0),iPf 0 (.mv aT0),iPf 1 (.bin .mul .int aC2 aS0),iPf 2 (.load aT1),iPf 3 (.bin .sub .int aS0 aC1),iPf 4 (.bin .eql .int aS2 aS0),iPf 5 (.mv aT6),iPf 6 (.bin .mul .int aC2 aS0),iPf 7 (.load aT1),iPf 8 (.bin .sub .int aS0 aC1),iPf 9 (.bin .eql .int aS2 aS0),iPf 10 (.bin .neq .bool aS5 aS0),iQo 11 (.pick aS11 (.c (.bool true)) aS0)] (.cond ru (.exit 1) .skip)) X8))
def dh.b7:IR:=dh.g7 dh.b8
def dh.g6 (X7:IR):IR:=(.block 1 X7)
def dh.b6:IR:=dh.g6 dh.b7
def dh.b9:IR:=(.reg [.s (.bin .add .int aT9 aC1),iQm 9 0])
def dh.g5 (X6 X9:IR):IR:=(.seq X6 X9)
def dh.b5:IR:=dh.g5 dh.b6 dh.b9
def dh.g4 (X5:IR):IR:=(iSr [iQo 10 (.bin .lss .int aT9 aT8)] (.seq (.cond bI .skip (.exit 0)) X5))
def dh.b4:IR:=dh.g4 dh.b5
def dh.g3 (X4:IR):IR:=(.loop X4)
def dh.b3:IR:=dh.g3 dh.b4
def dh.g2 (X3:IR):IR:=(.block 0 X3)
def dh.b2:IR:=dh.g2 dh.b3
def dh.g1 (X2:IR):IR:=(iSr [iQo 8 (.load aT1),iQo 9 (.mv aC0)] X2)
def dh.b1:IR:=dh.g1 dh.b2
def dh.g0 (X1:IR):IR:=(.seq (iSr [iSm 0,.s (.load aT1),.s (.bin .add .int aS0 aC1),.s (.bin .quo .int aS0 aC2),iQo 7 (.bin .eql .int aS3 aS0)] (.cond aT7 (iSr [.s (.load aT2),.s (.load aT1),.s (.fn 150 (.of 150) [aT3]),iCa 146 [aS2,aS1,aS0]] .ret) .skip)) X1)
def dh.b0:IR:=dh.g0 dh.b1
def dh.res:List RV:=[]
def dh:Fn:={ params:=[(.of 0),(.of 1),(.of 2),(.of 3),(.of 4),(.of 5)],res:=dh.res,body:=dh.b0,init:=in12 }
theorem dh.ok:fnA Tryz.prog Tryz.f149 [0,1,2,3,4,5,7,12,17,18,19,37]=some dh:=by kernel_rfl
abbrev F150.fr:=fr5
def F150.b0:IR:=(iSr [iQo 3 (.mv aC0),iQo 4 (.mv aC0)] (.seq (.yw [] [(.s (.load aT2),0,[]),(iSm 0,0,[]),(.s (.zx 1 aS1 aS0),0,[]),(.s (.load aS0),0,[]),(.s (.load aT2),0,[]),(iSm 1,0,[]),(.s (.zx 1 aS1 aS0),0,[]),(.s (.load aS0),0,[]),(iQm 3 4,0,[]),(iQm 4 0,0,[])]) .ret))
def F150.res:List RV:=[.t (.of 3),.t (.of 4)]
def F150:Fn:={ params:=[(.of 0),(.of 1),(.of 2)],res:=F150.res,body:=F150.b0,init:=in5 }
theorem F150.ok:fnA Tryz.prog Tryz.f150 [0,1,2,5,6]=some F150:=by kernel_rfl
abbrev oJ.fr:=fr5
def oJ.b1:IR:=(iSr [iSm 0,iSm 1,.s (.len aS0),iCa 22 [aS2,aS0],iQm 2 0] .ret)
def oJ.g0 (X1:IR):IR:=(iSr [iQo 2 (.mv aC0)] (.seq (iSr [iSm 1,iCa 134 [aS0],iQm 3 0] (iSr [iSm 3,iQo 4 (.bin .neq .int aS0 aC0)] (.cond aT4 (iSr [iSm 3,iQm 2 0] .ret) .skip))) X1))
def oJ.b0:IR:=oJ.g0 oJ.b1
def oJ.res:List RV:=[.t (.of 2)]
def oJ:Fn:={ params:=[(.of 0),(.of 1)],res:=oJ.res,body:=oJ.b0,init:=in5 }
theorem oJ.ok:fnA Tryz.prog Tryz.f156 [0,1,4,5,9]=some oJ:=by kernel_rfl
end
end Go.Ev
