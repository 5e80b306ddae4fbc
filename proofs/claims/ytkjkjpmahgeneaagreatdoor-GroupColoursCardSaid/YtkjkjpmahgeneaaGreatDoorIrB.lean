import Derived.Test.YtkjkjpmahgeneaaGreatDoorIrA
import Derived.Test.YtkjkjpmahgeneaaGreatDoorEvC
import Derived.Test.YtkjkjpmahgeneaaGreatDoorProg
import Derived.KernelRfl
set_option linter.unusedSimpArgs false
set_option linter.unusedVariables false
namespace Go.Ev
open Go Go.Proofs
set_option maxRecDepth 100000
noncomputable section

abbrev F98.fr:=fr25
def F98.b3:IR:=(.reg [iWl 10 (.alloc [.zf,(.bool false)]),.w .none none (.store 2 fA aT16)])
def F98.b20:IR:=(.seq (.yw [] [(.s (.load aT8),1,[]),(.s (.zh 2 sQ),0,[]),(.s (.zh 2 sQ),1,[]),(iCa 123 [aS1],0,[]),(.w .none none (.zal .str aS3 aS0 aS1),0,[])]) (.reg [iSm 11,.s (.zh 2 sQ),.w .push none (.zy 2 1 [.zf,(.bool false)] [(0,2,aS0)]),.w .push none (.appq 2 32 aS2 aS0),iQm 11 0]))
def F98.g19 (X20:IR):IR:=(.seq (iSr [.s (.load aT8),.s (.mlen aS0),.s (.load aT3),iQo 24 (.bin .eql .int aS1 aS0)] (.cond aT24 (iSr [.w .none none (.store 1 aT4 (.c .ug)),.w .none none (.store 1 aT5 (.c .zf)),.w .none none (.store 1 aT6 (.c (.bool false)))] .ret) .skip)) X20)
def F98.b19:IR:=F98.g19 F98.b20
def F98.g18 (X19:IR):IR:=(iSr [.s (.zo 2 aT19 aT21),.s (.zh 2 aS0),iWl 12 (.alloc [.zf,(.bool false)]),.w .none none (.store 2 tZ aS0)] (.seq (.yw [(.alloc [.zf,(.bool false)])] [(.s (.zh 2 tZ),2,[]),(iSm 11,2,[]),(.s (.zo 2 aS0 aC0),2,[]),(.s (.zh 2 aS0),2,[]),(iCa 122 [aS3,aS0],0,[]),(iWl 13 (.alloc [.zf,(.bool false)]),0,[]),(.w .none none (.store 2 sQ aS0),0,[])]) (.seq (iSr [.s (.load aT8),.s (.zh 2 sQ),iWl 23 (.call (.c (.fn 121 (.of 121) [])) [aS1,aS0])] (.cond aT23 (.exit 5) .skip)) X19)))
def F98.b18:IR:=F98.g18 F98.b19
def F98.g17 (X18:IR):IR:=(.block 5 X18)
def F98.b17:IR:=F98.g17 F98.b18
def F98.b21:IR:=(.reg [.s (.bin .add .int aT21 aC1),iQm 21 0])
def F98.g16 (X17 X21:IR):IR:=(.seq X17 X21)
def F98.b16:IR:=F98.g16 F98.b17 F98.b21
def F98.g15 (X16:IR):IR:=(iSr [iQo 22 (.bin .lss .int aT21 aT20)] (.seq (.cond aT22 .skip (.exit 4)) X16))
def F98.b15:IR:=F98.g15 F98.b16
def F98.g14 (X15:IR):IR:=(.loop X15)
def F98.b14:IR:=F98.g14 F98.b15
def F98.g13 (X14:IR):IR:=(.block 4 X14)
def F98.b13:IR:=F98.g13 F98.b14
def F98.g12 (X13:IR):IR:=(iSr [iQo 19 (.load aT9),iQo 20 (.len aT19),iQo 21 (.mv aC0)] X13)
def F98.b12:IR:=F98.g12 F98.b13
def F98.g11 (X12:IR):IR:=(.block 3 X12)
def F98.b11:IR:=F98.g11 F98.b12
def F98.b22:IR:=(.reg [iSm 11,.s (.slice 2 aS0 (some aC1) none none),iQm 11 0])
def F98.g10 (X11 X22:IR):IR:=(.seq X11 X22)
def F98.b10:IR:=F98.g10 F98.b11 F98.b22
def F98.g9 (X10:IR):IR:=(.seq (iSr [iSm 11,.s (.len aS0),iQo 18 (.bin .gtr .int aS0 aC0)] (.cond aT18 .skip (.exit 2))) X10)
def F98.b9:IR:=F98.g9 F98.b10
def F98.g8 (X9:IR):IR:=(.loop X9)
def F98.b8:IR:=F98.g8 F98.b9
def F98.g7 (X8:IR):IR:=(.block 2 X8)
def F98.b7:IR:=F98.g7 F98.b8
def F98.g6 (X7:IR):IR:=(iSr [.s (.load aT9),.s (.zh 2 fA),.w .push none (.zy 2 1 [.zf,(.bool false)] [(0,2,aS0)]),.w .push none (.appq 2 32 aS2 aS0),.w .none none (.store 1 aT9 aS0)] (.seq (.yw [.tC] [(.s (.zh 2 aT7),2,[]),(.s (.zh 2 aT7),2,[]),(iCa 123 [aS1],0,[]),(.w .push none .tC,0,[]),(.w .none none (.zal .str aS0 aS1 aS2),0,[]),(.s (.mv aS0),0,[]),(.w .none none (.store 1 aT8 aS0),0,[])]) (iSr [.s (.zh 2 aT7),.w .push none (.zy 2 1 [.zf,(.bool false)] [(0,2,aS0)]),iQm 11 0] X7)))
def F98.b6:IR:=F98.g6 F98.b7
def F98.g5 (X6:IR):IR:=(.seq (iSr [.s (.load aT8),.s (.zh 2 fA),iWl 17 (.call (.c (.fn 121 (.of 121) [])) [aS1,aS0])] (.cond aT17 (.exit 1) .skip)) X6)
def F98.b5:IR:=F98.g5 F98.b6
def F98.g4 (X5:IR):IR:=(.block 1 X5)
def F98.b4:IR:=F98.g4 F98.b5
def F98.g2 (X3 X4:IR):IR:=(.rf oW [(.of 15),(.of 16)] X3 X4)
def F98.b2:IR:=F98.g2 F98.b3 F98.b4
def F98.g1 (X2:IR):IR:=(.block 0 X2)
def F98.b1:IR:=F98.g1 F98.b2
def F98.b23:IR:=(.seq (.yw [] [(.s (.load aT8),0,[]),(.s (.load aT9),1,[]),(.w .none none (.store 1 aT4 aS1),0,[]),(.w .none none (.store 1 aT5 aS0),0,[]),(.w .none none (.store 1 aT6 (.c (.bool true))),0,[])]) .ret)
def F98.g0 (X1 X23:IR):IR:=(iSr [iWl 3 (.box aT2),iWl 4 (.alloc [.ug]),iWl 5 (.alloc [.zf]),iWl 6 (.alloc [(.bool false)])] (iSr [iSm 1,iCa 163 [aS0],iWl 7 (.alloc [.zf,(.bool false)]),.w .none none (.store 2 aT7 aS0)] (.seq (.yw [.tC,(.alloc [.ug])] [(.s (.zh 2 aT7),4,[]),(.s (.zh 2 aT7),4,[]),(iCa 123 [aS1],0,[]),(.w .push none .tC,0,[]),(.w .none none (.zal .str aS0 aS1 aS2),0,[]),(.s (.mv aS0),1,[]),(iWl 8 (.alloc [.ug]),0,[]),(.w .none none (.store 1 aT8 aS0),0,[])]) (iSr [iWl 9 (.alloc [.zf])] (.seq (iSr [iSm 0,iWl 14 (.call (.c (.fn 90 (.of 90) [])) [aS0])] X1) X23)))))
def F98.b0:IR:=F98.g0 F98.b1 F98.b23
def F98.res:List RV:=[.cell (.of 4) none,.cell (.of 5) none,.cell (.of 6) none]
def F98:Fn:={ params:=[(.of 0),(.of 1),(.of 2)],res:=F98.res,body:=F98.b0,init:=in25 }
theorem F98.ok:fnA Tryz.prog Tryz.f98 [0,1,2,5,6,7,8,9,10,11,13,14,16,17,26,27,28,31,45,48,49,50,51,61,65]=some F98:=by kernel_rfl
abbrev F99.fr:=fr12
def F99.b5:IR:=(iSr [.s (.entry aT6),.s (.ext 1 aS0),iWl 3 (.alloc [.zf,(.bool false)]),.w .none none (.store 2 aT3 aS0)] (.reg [iSm 2,.s (.zh 2 aT3),.w .push none (.zy 2 1 [.zf,(.bool false)] [(0,2,aS0)]),.w .push none (.appq 2 32 aS2 aS0),iQm 2 0]))
def F99.g4 (X5:IR):IR:=(.block 1 X5)
def F99.b4:IR:=F99.g4 F99.b5
def F99.g3 (X4:IR):IR:=(iSr [.w .push none (.next aT6),iQo 7 (.ext 0 aS0)] (.seq (.cond aT7 .skip (.exit 0)) X4))
def F99.b3:IR:=F99.g3 F99.b4
def F99.g2 (X3:IR):IR:=(.loop X3)
def F99.b2:IR:=F99.g2 F99.b3
def F99.g1 (X2:IR):IR:=(.block 0 X2)
def F99.b1:IR:=F99.g1 F99.b2
def F99.b12:IR:=(iSr [.s (.zo 2 aT8 fA),.s (.zh 2 aS0),iWl 5 (.alloc [.zf,(.bool false)]),.w .none none (.store 2 aT5 aS0)] (.reg [iSm 4,.s (.zh 2 aT5),.w .push none (.zy 2 1 [.zf,(.bool false)] [(0,2,aS0)]),.w .push none (.appq 2 32 aS2 aS0),iQm 4 0]))
def F99.g11 (X12:IR):IR:=(.block 3 X12)
def F99.b11:IR:=F99.g11 F99.b12
def F99.b13:IR:=(.reg [.s (.bin .add .int fA aC1),iQm 10 0])
def F99.g10 (X11 X13:IR):IR:=(.seq X11 X13)
def F99.b10:IR:=F99.g10 F99.b11 F99.b13
def F99.g9 (X10:IR):IR:=(iSr [iQo 11 (.bin .lss .int fA aT9)] (.seq (.cond sV .skip (.exit 2)) X10))
def F99.b9:IR:=F99.g9 F99.b10
def F99.g8 (X9:IR):IR:=(.loop X9)
def F99.b8:IR:=F99.g8 F99.b9
def F99.g7 (X8:IR):IR:=(.block 2 X8)
def F99.b7:IR:=F99.g7 F99.b8
def F99.b14:IR:=(iSr [iSm 4,iQm 1 0] .ret)
def F99.g6 (X7 X14:IR):IR:=(iSr [iSm 2,.w .push none (.call (.c (.fn 164 (.of 164) [])) [aS0,(.c (.fn 162 (.of 162) []))])] (iSr [iQo 4 (.mv (.c .zf))] (.seq (iSr [iQo 8 (.mv aT2),iQo 9 (.len aT8),iQo 10 (.mv aC0)] X7) X14)))
def F99.b6:IR:=F99.g6 F99.b7 F99.b14
def F99.g0 (X1 X6:IR):IR:=(iSr [iQo 1 (.mv (.c .zf))] (iSr [iQo 2 (.mv (.c .zf))] (.seq (iSr [iSm 0,iWl 6 (.range aS0)] X1) X6)))
def F99.b0:IR:=F99.g0 F99.b1 F99.b6
def F99.res:List RV:=[.t (.of 1)]
def F99:Fn:={ params:=[(.of 0)],res:=F99.res,body:=F99.b0,init:=in12 }
theorem F99.ok:fnA Tryz.prog Tryz.f99 [0,2,3,5,6,8,10,12,21,22,23,24]=some F99:=by kernel_rfl
abbrev yx.fr:=fr5
def yx.b6:IR:=(.reg [iSm 2,iSm 3,.w .push none (.zy 1 1 [(I 0)] [(0,1,aS0)]),.w .push none (.app 1 8 aS2 aS0),iQm 2 0])
def yx.g5 (X6:IR):IR:=(.block 1 X6)
def yx.b5:IR:=yx.g5 yx.b6
def yx.b7:IR:=(.reg [iSm 3,.s (.bin .add .int aS0 aC1),iQm 3 0])
def yx.g4 (X5 X7:IR):IR:=(.seq X5 X7)
def yx.b4:IR:=yx.g4 yx.b5 yx.b7
def yx.g3 (X4:IR):IR:=(.seq (iSr [iSm 3,iSm 0,iQo 4 (.bin .lss .int aS1 aS0)] (.cond aT4 .skip (.exit 0))) X4)
def yx.b3:IR:=yx.g3 yx.b4
def yx.g2 (X3:IR):IR:=(.loop X3)
def yx.b2:IR:=yx.g2 yx.b3
def yx.g1 (X2:IR):IR:=(.block 0 X2)
def yx.b1:IR:=yx.g1 yx.b2
def yx.b8:IR:=(iSr [iSm 2,iQm 1 0] .ret)
def yx.g0 (X1 X8:IR):IR:=(iSr [iQo 1 (.mv (.c .zf))] (iSr [iQo 2 (.mv (.c .zf))] (.seq (iSr [iQo 3 (.mv aC0)] X1) X8)))
def yx.b0:IR:=yx.g0 yx.b1 yx.b8
def yx.res:List RV:=[.t (.of 1)]
def yx:Fn:={ params:=[(.of 0)],res:=yx.res,body:=yx.b0,init:=in5 }
theorem yx.ok:fnA Tryz.prog Tryz.f101 [0,2,3,4,7]=some yx:=by kernel_rfl
abbrev fB.fr:=fr11
def fB.b7:IR:=(iSr [iSm 8,iQm 4 0] (iSr [.s (.zh 2 aT1),iSm 4,iCa 168 [aS1,aS0],iQm 5 0] (iSr [iSm 5,iQo 10 (.bin .neq .int aS0 aC0)] (.cond fA (iSr [iSm 5,iQm 2 0] .ret) .skip))))
def fB.g6 (X7:IR):IR:=(.block 1 X7)
def fB.b6:IR:=fB.g6 fB.b7
def fB.b8:IR:=(.reg [.s (.bin .add .int aT8 aC1),iQm 8 0])
def fB.g5 (X6 X8:IR):IR:=(.seq X6 X8)
def fB.b5:IR:=fB.g5 fB.b6 fB.b8
def fB.g4 (X5:IR):IR:=(iSr [iQo 9 (.bin .lss .int aT8 aT7)] (.seq (.cond aT9 .skip (.exit 0)) X5))
def fB.b4:IR:=fB.g4 fB.b5
def fB.g3 (X4:IR):IR:=(.loop X4)
def fB.b3:IR:=fB.g3 fB.b4
def fB.g2 (X3:IR):IR:=(.block 0 X3)
def fB.b2:IR:=fB.g2 fB.b3
def fB.b9:IR:=(iSr [iQo 2 (.mv aC0)] .ret)
def fB.g1 (X2 X9:IR):IR:=(.seq (iSr [.s (.zu 1 aT1),.s (.load aS0),iQo 7 (.len aS0),iQo 8 (.mv aC0)] X2) X9)
def fB.b1:IR:=fB.g1 fB.b2 fB.b9
def fB.g0 (X1:IR):IR:=(iSr [iWl 1 (.box aT0),iQo 2 (.mv aC0)] (.seq (.seq (.yw [] [(.s (.zu 0 aT1),0,[]),(.s (.load aS0),0,[]),(.s (.zu 1 aT1),2,[]),(.s (.load aS0),2,[]),(.s (.len aS0),2,[]),(.s (.bin .gtr .int aS0 zy1),2,[]),(.w .push none (.zy 1 1 [(I 0)] [(0,1,aS4)]),0,[]),(iCa 166 [aC1,zb9,aS0],0,[]),(iCa 167 [aS2,aC5],0,[]),(.w .push none (.zy 1 2 [(I 0)] [(0,1,aS1),(1,1,aS0)]),0,[]),(iCa 165 [aS0],0,[]),(iQm 3 0,0,[])]) (iSr [iSm 3,iQo 6 (.bin .neq .int aS0 aC0)] (.cond aT6 (iSr [iSm 3,iQm 2 0] .ret) .skip))) X1))
def fB.b0:IR:=fB.g0 fB.b1
def fB.res:List RV:=[.t (.of 2)]
def fB:Fn:={ params:=[(.of 0)],res:=fB.res,body:=fB.b0,init:=in11 }
theorem fB.ok:fnA Tryz.prog Tryz.f103 [0,1,2,3,4,5,18,22,23,24,30]=some fB:=by kernel_rfl
abbrev fV.fr:=fr9
def fV.b6:IR:=(iSr [.s (.zo 1 aT5 aT7),.s (.load aS0),iQm 4 0] (.yw [] [(.s (.load aT3),1,[]),(iSm 4,0,[]),(.s (.build [.zf,(.bool false)] [(0,1,aS0)]),0,[]),(iCa 123 [aS0],0,[]),(.w .none none (.zal .str aS3 aS0 (.c (.bool true))),0,[])]))
def fV.g5 (X6:IR):IR:=(.block 1 X6)
def fV.b5:IR:=fV.g5 fV.b6
def fV.b7:IR:=(.reg [.s (.bin .add .int aT7 aC1),iQm 7 0])
def fV.g4 (X5 X7:IR):IR:=(.seq X5 X7)
def fV.b4:IR:=fV.g4 fV.b5 fV.b7
def fV.g3 (X4:IR):IR:=(iSr [iQo 8 (.bin .lss .int aT7 aT6)] (.seq (.cond aT8 .skip (.exit 0)) X4))
def fV.b3:IR:=fV.g3 fV.b4
def fV.g2 (X3:IR):IR:=(.loop X3)
def fV.b2:IR:=fV.g2 fV.b3
def fV.g1 (X2:IR):IR:=(.block 0 X2)
def fV.b1:IR:=fV.g1 fV.b2
def fV.b8:IR:=(iSr [.s (.fn 169 (.of 169) [aT3]),iQm 2 0] .ret)
def fV.g0 (X1 X8:IR):IR:=(iSr [iWl 1 (.box aT0),iQo 2 (.mv (.c .tq))] (iSr [.w .push none .tC,iWl 3 (.alloc [.ug]),.w .none none (.store 1 aT3 aS0)] (.seq (iSr [.s (.zu 1 aT1),iQo 5 (.load aS0),iQo 6 (.len aT5),iQo 7 (.mv aC0)] X1) X8)))
def fV.b0:IR:=fV.g0 fV.b1 fV.b8
def fV.res:List RV:=[.t (.of 2)]
def fV:Fn:={ params:=[(.of 0)],res:=fV.res,body:=fV.b0,init:=in9 }
theorem fV.ok:fnA Tryz.prog Tryz.f104 [0,1,2,3,5,8,9,10,11]=some fV:=by kernel_rfl
abbrev uo.fr:=fr23
def uo.b14:IR:=(iSr [.s (.zo 1 aT17 aT19),.s (.load aS0),iQm 10 0] (iSr [.s (.load aT6),.s (.load aT3),iSm 10,.w .push none (.call aS2 [aS1,aS0]),iQo 21 (.not aS0)] (.cond aT21 (.exit 1) .skip)))
def uo.g13 (X14:IR):IR:=(.block 3 X14)
def uo.b13:IR:=uo.g13 uo.b14
def uo.b15:IR:=(.reg [.s (.bin .add .int aT19 aC1),iQm 19 0])
def uo.g12 (X13 X15:IR):IR:=(.seq X13 X15)
def uo.b12:IR:=uo.g12 uo.b13 uo.b15
def uo.g11 (X12:IR):IR:=(iSr [iQo 20 (.bin .lss .int aT19 aT18)] (.seq (.cond aT20 .skip (.exit 2)) X12))
def uo.b11:IR:=uo.g11 uo.b12
def uo.g10 (X11:IR):IR:=(.loop X11)
def uo.b10:IR:=uo.g10 uo.b11
def uo.g9 (X10:IR):IR:=(.block 2 X10)
def uo.b9:IR:=uo.g9 uo.b10
def uo.b16:IR:=(iSr [.s (.load aT4),iSm 9,.s (.zo 1 aS1 aS0),.w .none none (.store 1 aS0 (.c (.bool true)))] (iSr [.s (.load aT7),iSm 0,.s (.bin .add .int aS0 aC1),.w .push none (.call aS2 [aS0]),iQm 11 0] (iSr [.s (.load aT4),iSm 9,.s (.zo 1 aS1 aS0),.w .none none (.store 1 aS0 (.c (.bool false)))] (iSr [iSm 11,iQo 22 (.not aS0)] (.cond aT22 (iSr [iQo 8 (.mv (.c (.bool false)))] .ret) .skip)))))
def uo.g8 (X9 X16:IR):IR:=(iSr [.s (.load aT3),iSm 0,iSm 9,.s (.zo 1 aS2 aS1),.w .none none (.store 1 aS0 aS1)] (.seq (iSr [.s (.load aT5),iSm 0,.s (.zo 1 aS1 aS0),iQo 17 (.load aS0),iQo 18 (.len aT17),iQo 19 (.mv aC0)] X9) X16))
def uo.b8:IR:=uo.g8 uo.b9 uo.b16
def uo.g7 (X8:IR):IR:=(iSr [iSm 14,iQm 9 0] (.seq (iSr [.s (.load aT4),iSm 9,.s (.zo 1 aS1 aS0),iQo 16 (.load aS0)] (.cond aT16 (.exit 1) .skip)) X8))
def uo.b7:IR:=uo.g7 uo.b8
def uo.g6 (X7:IR):IR:=(.block 1 X7)
def uo.b6:IR:=uo.g6 uo.b7
def uo.b17:IR:=(.reg [.s (.bin .add .int oW aC1),iQm 14 0])
def uo.g5 (X6 X17:IR):IR:=(.seq X6 X17)
def uo.b5:IR:=uo.g5 uo.b6 uo.b17
def uo.g4 (X5:IR):IR:=(iSr [iQo 15 (.bin .lss .int oW sQ)] (.seq (.cond aT15 .skip (.exit 0)) X5))
def uo.b4:IR:=uo.g4 uo.b5
def uo.g3 (X4:IR):IR:=(.loop X4)
def uo.b3:IR:=uo.g3 uo.b4
def uo.g2 (X3:IR):IR:=(.block 0 X3)
def uo.b2:IR:=uo.g2 uo.b3
def uo.b18:IR:=(iSr [iQo 8 (.mv (.c (.bool true)))] .ret)
def uo.g1 (X2 X18:IR):IR:=(.seq .skip (.seq (iSr [.s (.zu 0 aT1),iQo 13 (.load aS0),iQo 14 (.mv aC0)] X2) X18))
def uo.b1:IR:=uo.g1 uo.b2 uo.b18
def uo.g0 (X1:IR):IR:=(iSr [iQo 8 (.mv (.c (.bool false)))] (.seq (iSr [iSm 0,.s (.zu 0 aT1),.s (.load aS0),iQo 12 (.bin .eql .int aS2 aS0)] (.cond tZ (.seq (.yw [] [(.s (.load aT2),2,[]),(.s (.load aT3),0,[]),(iCa 106 [aS0],0,[]),(.s (.build [.zf,(.bool false)] [(0,1,aS0)]),0,[]),(.w .push none (.zy 2 1 [.zf,(.bool false)] [(0,2,aS0)]),0,[]),(.w .push none (.appq 2 32 aS4 aS0),0,[]),(.w .none none (.store 1 aT2 aS0),0,[])]) (iSr [.s (.load aT2),.s (.len aS0),.s (.bin .leq .int aS0 ze9),iQm 8 0] .ret)) .skip)) X1))
def uo.b0:IR:=uo.g0 uo.b1
def uo.res:List RV:=[.t (.of 8)]
def uo:Fn:={ params:=[(.of 0),(.of 1),(.of 2),(.of 3),(.of 4),(.of 5),(.of 6),(.of 7)],res:=uo.res,body:=uo.b0,init:=in23 }
theorem uo.ok:fnA Tryz.prog Tryz.f105 [0,1,2,3,4,5,6,7,9,10,12,13,17,28,29,30,35,43,44,45,46,53,66]=some uo:=by kernel_rfl
abbrev eU.fr:=fr3
def eU.b1:IR:=(iSr [.w .push none (.zy 1 0 [(I 0)] []),iSm 0,.w .push none (.app 1 8 aS1 aS0),iQm 1 0] .ret)
def eU.g0 (X1:IR):IR:=(iSr [iQo 1 (.mv (.c .zf))] (.seq (iSr [iSm 0,iQo 2 (.bin .eql (.nil .sl) aS0 (.c .zf))] (.cond aT2 (iSr [iQo 1 (.mv (.c .zf))] .ret) .skip)) X1))
def eU.b0:IR:=eU.g0 eU.b1
def eU.res:List RV:=[.t (.of 1)]
def eU:Fn:={ params:=[(.of 0)],res:=eU.res,body:=eU.b0,init:=in3 }
theorem eU.ok:fnA Tryz.prog Tryz.f106 [0,2,4]=some eU:=by kernel_rfl
abbrev vg.fr:=fr2
def vg.b0:IR:=(iSr [iWl 1 (.alloc [(I 0),.zf])] (iSr [iSm 0,.s (.build [(I 0),.zf] [(0,1,aS0)]),.w .none none (.store 2 aT1 aS0)] .ret))
def vg.res:List RV:=[.cell (.of 1) (some 2)]
def vg:Fn:={ params:=[(.of 0)],res:=vg.res,body:=vg.b0,init:=in2 }
theorem vg.ok:fnA Tryz.prog Tryz.f110 [0,2]=some vg:=by kernel_rfl
abbrev jd.fr:=fr14
def jd.b3:IR:=(iSr [iSm 6,iSm 8,.s (.bin .eql .bool aS1 aS0),iQm 12 0] (.cond tZ (iSr [iSm 6,iSm 7,iSm 9,iCa 176 [aS1,aS0],iCa 175 [aS3,aS0],.w .none none (.store 2 aT4 aS0)] .ret) (iSr [iSm 7,iSm 9,iCa 177 [aS1,aS0],.s (.bin .geq .int aS0 aC0),iQm 13 0] (.cond sQ (iSr [iSm 6,iSm 7,iSm 9,iCa 178 [aS1,aS0],iCa 175 [aS3,aS0],.w .none none (.store 2 aT4 aS0)] .ret) .skip))))
def jd.g2 (X3:IR):IR:=(.block 0 X3)
def jd.b2:IR:=jd.g2 jd.b3
def jd.b4:IR:=(iSr [iSm 8,iSm 9,iSm 7,iCa 178 [aS1,aS0],iCa 175 [aS3,aS0],.w .none none (.store 2 aT4 aS0)] .ret)
def jd.g1 (X2 X4:IR):IR:=(iSr [.s (.zh 2 aT2),iCa 174 [aS0],.s (.mv aS0),.s (.ext 0 aS0),.s (.ext 1 aS1),iQm 6 1,iQm 7 0] (iSr [.s (.zh 2 aT3),iCa 174 [aS0],.s (.mv aS0),.s (.ext 0 aS0),.s (.ext 1 aS1),iQm 8 1,iQm 9 0] (.seq X2 X4)))
def jd.b1:IR:=jd.g1 jd.b2 jd.b4
def jd.g0 (X1:IR):IR:=(iSr [iWl 2 (.box aT0),iWl 3 (.box aT1),iWl 4 (.alloc [(I 0),.zf])] (.seq (iSr [.s (.zu 1 aT2),.s (.load aS0),.s (.bin .eql (.nil .sl) aS0 (.c .zf)),.s (.mv aS0),iPt 0 (.zu 1 aT3),iPt 1 (.load aS0),iPt 2 (.bin .eql (.nil .sl) aS0 (.c .zf)),iQo 10 (.pick aS3 aS0 (.c (.bool false)))] (.cond fA (iSr [.s (.zu 0 aT2),.s (.load aS0),.s (.zu 0 aT3),.s (.load aS0),.s (.bin .add .int aS2 aS0),iQm 5 0] (iSr [iSm 5,.s (.zu 0 aT2),.s (.load aS0),.s (.bin .gtr .int aS2 aS0),.s (.zu 0 aT3),.s (.load aS0),.s (.bin .gtr .int aS0 aC0),iQo 11 (.bin .eql .bool aS3 aS0)] (.cond sV (iSr [iSm 5,.s (.build [(I 0),.zf] [(0,1,aS0)]),.w .none none (.store 2 aT4 aS0)] .ret) .skip))) .skip)) X1))
def jd.b0:IR:=jd.g0 jd.b1
def jd.res:List RV:=[.cell (.of 4) (some 2)]
def jd:Fn:={ params:=[(.of 0),(.of 1)],res:=jd.res,body:=jd.b0,init:=in14 }
theorem jd.ok:fnA Tryz.prog Tryz.f111 [0,1,2,3,4,5,6,7,8,9,17,30,43,52]=some jd:=by kernel_rfl
abbrev yc.fr:=fr12
def yc.b7:IR:=(.yw [] [(.s (.zh 2 aT4),1,[]),(iSm 6,0,[]),(iCa 110 [aS0],0,[]),(iCa 179 [aS2,aS0],0,[]),(.w .none none (.store 2 aT4 aS0),0,[])])
def yc.g6 (X7:IR):IR:=(iSr [.s (.zo 1 aT7 aT9),.s (.load aS0),iQm 5 0] (iSr [iSm 1,iQm 6 0] (.seq (iSr [.s (.zu 1 aT2),.s (.load aS0),.s (.mv aS0),iPt 0 (.mv aT5),iPt 1 (.bin .rem .int aS0 aC2),iPt 2 (.bin .eql .int aS0 aC1),iQo 11 (.pick aS3 aS0 (.c (.bool false)))] (.cond sV (.reg [iSm 1,.s (.bin .rem .int aS0 aC2),iQm 6 0]) .skip)) X7)))
def yc.b6:IR:=yc.g6 yc.b7
def yc.g5 (X6:IR):IR:=(.block 1 X6)
def yc.b5:IR:=yc.g5 yc.b6
def yc.b8:IR:=(.reg [.s (.bin .add .int aT9 aC1),iQm 9 0])
def yc.g4 (X5 X8:IR):IR:=(.seq X5 X8)
def yc.b4:IR:=yc.g4 yc.b5 yc.b8
def yc.g3 (X4:IR):IR:=(iSr [iQo 10 (.bin .lss .int aT9 aT8)] (.seq (.cond fA .skip (.exit 0)) X4))
def yc.b3:IR:=yc.g3 yc.b4
def yc.g2 (X3:IR):IR:=(.loop X3)
def yc.b2:IR:=yc.g2 yc.b3
def yc.g1 (X2:IR):IR:=(.block 0 X2)
def yc.b1:IR:=yc.g1 yc.b2
def yc.b9:IR:=(iSr [.s (.zh 2 aT4),.w .none none (.store 2 aT3 aS0)] .ret)
def yc.g0 (X1 X9:IR):IR:=(iSr [iWl 2 (.box aT0),iWl 3 (.alloc [(I 0),.zf])] (iSr [iCa 110 [aC1],iWl 4 (.alloc [(I 0),.zf]),.w .none none (.store 2 aT4 aS0)] (.seq (iSr [.s (.zh 2 aT2),iWl 7 (.call (.c (.fn 138 (.of 138) [])) [aS0]),iQo 8 (.len aT7),iQo 9 (.mv aC0)] X1) X9)))
def yc.b0:IR:=yc.g0 yc.b1 yc.b9
def yc.res:List RV:=[.cell (.of 3) (some 2)]
def yc:Fn:={ params:=[(.of 0),(.of 1)],res:=yc.res,body:=yc.b0,init:=in12 }
theorem yc.ok:fnA Tryz.prog Tryz.f112 [0,1,2,4,5,7,8,11,12,13,14,24]=some yc:=by kernel_rfl
abbrev F113.fr:=fr3
def F113.b0:IR:=(iSr [iWl 1 (.box aT0),iWl 2 (.alloc [(I 0),.zf,(I 0),.zf])] (.seq (.yw [] [(.s (.zh 2 aT1),1,[]),(iCa 110 [aC1],0,[]),(.s (.build [(I 0),.zf,(I 0),.zf] [(0,2,aS1),(2,2,aS0)]),0,[]),(.w .none none (.store 4 aT2 aS0),0,[])]) .ret))
def F113.res:List RV:=[.cell (.of 2) (some 4)]
def F113:Fn:={ params:=[(.of 0)],res:=F113.res,body:=F113.b0,init:=in3 }
theorem F113.ok:fnA Tryz.prog Tryz.f113 [0,1,2]=some F113:=by kernel_rfl
abbrev jv.fr:=fr7
def jv.b1:IR:=(iSr [.s (.zh 2 aT2),.s (.zh 2 aT3),iCa 182 [aS1,aS0],.s (.mv aS0),.s (.ext 0 aS0),.s (.ext 1 aS1),iWl 5 (.alloc [(I 0),.zf]),.w .push none (.alloc [(I 0),.zf]),.w .none none (.store 2 aT5 aS2),.w .none none (.store 2 aS0 aS1)] (iSr [.s (.zh 2 aT5),.w .none none (.store 2 aT4 aS0)] .ret))
def jv.g0 (X1:IR):IR:=(iSr [iWl 2 (.box aT0),iWl 3 (.box aT1),iWl 4 (.alloc [(I 0),.zf])] (.seq (iSr [.s (.zh 2 aT3),iCa 180 [aS0],iQo 6 (.bin .lss .int aS0 aC0)] (.cond aT6 (.yw [] [(.s (.zh 2 aT2),0,[]),(.s (.zh 2 aT3),1,[]),(iCa 181 [aS1],0,[]),(iCa 181 [aS1],0,[]),(.w .none none (.store 2 aT2 aS1),0,[]),(.w .none none (.store 2 aT3 aS0),0,[])]) .skip)) X1))
def jv.b0:IR:=jv.g0 jv.b1
def jv.res:List RV:=[.cell (.of 4) (some 2)]
def jv:Fn:={ params:=[(.of 0),(.of 1)],res:=jv.res,body:=jv.b0,init:=in7 }
theorem jv.ok:fnA Tryz.prog Tryz.f114 [0,1,2,3,4,5,9]=some jv:=by kernel_rfl
abbrev F115.fr:=fr3
def F115.b0:IR:=(iSr [iWl 1 (.box aT0),iQo 2 (.mv (.c (.bool false)))] (iSr [.s (.zu 0 aT1),.s (.zh 2 aS0),iCa 183 [aS0],.s (.mv aS0),iPf 0 (.zu 2 aT1),iPf 1 (.zh 2 aS0),.w .push (some (aS2,false)) (.call (.c (.fn 183 (.of 183) [])) [aS0]),.s (.pick aS3 (.c (.bool true)) aS0),iQm 2 0] .ret))
def F115.res:List RV:=[.t (.of 2)]
def F115:Fn:={ params:=[(.of 0)],res:=F115.res,body:=F115.b0,init:=in3 }
theorem F115.ok:fnA Tryz.prog Tryz.f115 [0,1,2]=some F115:=by kernel_rfl
abbrev F116.fr:=fr4
def F116.b1:IR:=(.seq (.yw [] [(.s (.zu 0 aT1),0,[]),(.s (.zh 2 aS0),0,[]),(.s (.zu 2 aT1),1,[]),(.s (.zh 2 aS0),1,[]),(iCa 185 [aS2],0,[]),(.s (.bin .add .str aS0 (.c (.str [47]))),1,[]),(iCa 185 [aS2],0,[]),(.s (.bin .add .str aS1 aS0),0,[]),(iQm 2 0,0,[])]) .ret)
def F116.g0 (X1:IR):IR:=(iSr [iWl 1 (.box aT0),iQo 2 (.mv (.c (.str [])))] (.seq (iSr [.s (.zh 4 aT1),iWl 3 (.call (.c (.fn 184 (.of 184) [])) [aS0])] (.cond aT3 (iSr [.s (.zu 0 aT1),.s (.zh 2 aS0),iCa 185 [aS0],iQm 2 0] .ret) .skip)) X1))
def F116.b0:IR:=F116.g0 F116.b1
def F116.res:List RV:=[.t (.of 2)]
def F116:Fn:={ params:=[(.of 0)],res:=F116.res,body:=F116.b0,init:=in4 }
theorem F116.ok:fnA Tryz.prog Tryz.f116 [0,1,2,4]=some F116:=by kernel_rfl
abbrev F117.fr:=fr14
def F117.b1:IR:=(iSr [iSm 0,iCa 128 [aS0],.s (.mv aS0),.s (.ext 0 aS0),.s (.ext 1 aS1),iWl 9 (.alloc [(.bool false),.zf]),iWl 10 (.alloc [(.bool false),.zf]),.w .none none (.store 2 aT9 aS1),.w .none none (.store 2 fA aS0)] (iSr [iSm 1,iCa 128 [aS0],.s (.mv aS0),.s (.ext 0 aS0),.s (.ext 1 aS1),iWl 11 (.alloc [(.bool false),.zf]),iWl 12 (.alloc [(.bool false),.zf]),.w .none none (.store 2 sV aS1),.w .none none (.store 2 tZ aS0)] (.seq (.yw [] [(.s (.zh 2 aT9),0,[]),(.s (.zh 2 tZ),0,[]),(.s (.zh 2 sV),1,[]),(.s (.zh 2 fA),1,[]),(.s (.zh 2 fA),3,[]),(.s (.zh 2 tZ),3,[]),(iCa 190 [aS5,aS4],0,[]),(iCa 190 [aS4,aS3],0,[]),(iCa 189 [aS1,aS0],0,[]),(iCa 190 [aS4,aS3],0,[]),(iCa 188 [aS1,aS0],0,[]),(iQm 2 0,0,[])]) .ret)))
def F117.g0 (X1:IR):IR:=(iSr [iQo 2 (.mv (.c (.str [])))] (iSr [iSm 0,iCa 186 [aS0],.s (.mv aS0),.s (.ext 0 aS0),.s (.ext 1 aS1),.s (.ext 2 aS2),iQm 3 2,iQm 4 1,iQm 5 0] (iSr [iSm 1,iCa 186 [aS0],.s (.mv aS0),.s (.ext 0 aS0),.s (.ext 1 aS1),.s (.ext 2 aS2),iQm 6 2,iQm 7 1,iQm 8 0] (.seq (iSr [iSm 5,.s (.mv aS0),iPt 0 (.mv aT8),iQo 13 (.pick aS1 aS0 (.c (.bool false)))] (.cond sQ (iSr [iSm 3,iSm 7,.s (.bin .mul .int aS1 aS0),iSm 6,iSm 4,.s (.bin .mul .int aS1 aS0),.s (.bin .add .int aS3 aS0),iSm 4,iSm 7,.s (.bin .mul .int aS1 aS0),iCa 187 [aS3,aS0],iQm 2 0] .ret) .skip)) X1))))
def F117.b0:IR:=F117.g0 F117.b1
def F117.res:List RV:=[.t (.of 2)]
def F117:Fn:={ params:=[(.of 0),(.of 1)],res:=F117.res,body:=F117.b0,init:=in14 }
theorem F117.ok:fnA Tryz.prog Tryz.f117 [0,1,4,5,6,7,8,9,10,11,12,13,14,30]=some F117:=by kernel_rfl
abbrev zn.fr:=fr18
def zn.b7:IR:=(iSr [.s (.entry aT15),.s (.ext 1 aS0),iWl 12 (.alloc [.zf,(.bool false)]),.w .none none (.store 2 tZ aS0)] (iSr [iSm 7,.s (.zh 2 tZ),iCa 121 [aS1,aS0],iQo 17 (.not aS0)] (.cond aT17 (.seq (.yw [] [(.s (.zh 2 aT6),0,[]),(iQo 3 (.mv (.c .ug)),0,[]),(.w .none none (.store 2 aT4 aS0),0,[]),(iQo 5 (.mv aC28),0,[])]) .ret) .skip)))
def zn.g6 (X7:IR):IR:=(.block 1 X7)
def zn.b6:IR:=zn.g6 zn.b7
def zn.g5 (X6:IR):IR:=(iSr [.w .push none (.next aT15),iQo 16 (.ext 0 aS0)] (.seq (.cond aT16 .skip (.exit 0)) X6))
def zn.b5:IR:=zn.g5 zn.b6
def zn.g4 (X5:IR):IR:=(.loop X5)
def zn.b4:IR:=zn.g4 zn.b5
def zn.g3 (X4:IR):IR:=(.block 0 X4)
def zn.b3:IR:=zn.g3 zn.b4
def zn.b8:IR:=(iSr [iSm 8,iSm 11,.s (.oz 1 2 aT6 aC0),.w .none none (.store 1 aS0 aS2),.s (.oz 1 2 aT6 aC1),.w .none none (.store 1 aS0 aS2)] (.seq (.yw [] [(iSm 10,0,[]),(.s (.zh 2 aT6),0,[]),(iQm 3 1,0,[]),(.w .none none (.store 2 aT4 aS0),0,[]),(iQo 5 (.mv aC0),0,[])]) .ret))
def zn.g2 (X3 X8:IR):IR:=(.seq (iSr [iSm 10,iWl 15 (.range aS0)] X3) X8)
def zn.b2:IR:=zn.g2 zn.b3 zn.b8
def zn.g1 (X2:IR):IR:=(iSr [iSm 1,iSm 2,iCa 92 [aS1,aS0],.s (.mv aS0),.s (.ext 0 aS0),.s (.ext 1 aS1),.s (.ext 2 aS2),iQm 10 2,iQm 11 1,iQm 9 0] (.seq (iSr [iSm 9,iQo 14 (.bin .neq .int aS0 aC0)] (.cond oW (.seq (.yw [] [(.s (.zh 2 aT6),0,[]),(iSm 9,1,[]),(iQo 3 (.mv (.c .ug)),0,[]),(.w .none none (.store 2 aT4 aS1),0,[]),(iQm 5 0,0,[])]) .ret) .skip)) X2))
def zn.b1:IR:=zn.g1 zn.b2
def zn.g0 (X1:IR):IR:=(iSr [iQo 3 (.mv (.c .ug)),iWl 4 (.alloc [.zf,.zf]),iQo 5 (.mv aC0)] (iSr [iWl 6 (.alloc [.zf,.zf])] (iSr [iSm 0,iSm 2,iCa 92 [aS1,aS0],.s (.mv aS0),.s (.ext 0 aS0),.s (.ext 1 aS1),.s (.ext 2 aS2),iQm 7 2,iQm 8 1,iQm 9 0] (.seq (iSr [iSm 9,iQo 13 (.bin .neq .int aS0 aC0)] (.cond sQ (.seq (.yw [] [(.s (.zh 2 aT6),0,[]),(iSm 9,1,[]),(iQo 3 (.mv (.c .ug)),0,[]),(.w .none none (.store 2 aT4 aS1),0,[]),(iQm 5 0,0,[])]) .ret) .skip)) X1))))
def zn.b0:IR:=zn.g0 zn.b1
def zn.res:List RV:=[.t (.of 3),.cell (.of 4) (some 2),.t (.of 5)]
def zn:Fn:={ params:=[(.of 0),(.of 1),(.of 2)],res:=zn.res,body:=zn.b0,init:=in18 }
theorem zn.ok:fnA Tryz.prog Tryz.f120 [0,1,2,6,7,8,9,10,11,12,13,14,16,25,36,40,42,48]=some zn:=by kernel_rfl
abbrev F121.fr:=fr5
def F121.b0:IR:=(iSr [iWl 2 (.box aT1),iQo 3 (.mv (.c (.bool false)))] (iSr [iSm 0,.s (.zh 2 aT2),iCa 123 [aS0],.s (.look .str (.agg [.zf,(.bool false)]) true aS2 aS0),.s (.mv aS0),.s (.ext 0 aS0),.s (.ext 1 aS1),.w .push none (.alloc [.zf,(.bool false)]),.w .none none (.store 2 aS0 aS2),iQm 4 1] (iSr [iSm 4,iQm 3 0] .ret)))
def F121.res:List RV:=[.t (.of 3)]
def F121:Fn:={ params:=[(.of 0),(.of 1)],res:=F121.res,body:=F121.b0,init:=in5 }
theorem F121.ok:fnA Tryz.prog Tryz.f121 [0,1,3,4,6]=some F121:=by kernel_rfl
abbrev qg.fr:=fr12
def qg.b6:IR:=(iSr [iSm 10,.s (.zo 1 aT8 fA),.s (.load aS0),iQm 6 2,iQm 7 0] (.yw [] [(.s (.zu 0 aT5),0,[]),(.s (.load aS0),0,[]),(iSm 6,0,[]),(.s (.zu 0 aT2),0,[]),(.s (.load aS0),0,[]),(iSm 7,0,[]),(.s (.zo 1 aS1 aS0),0,[]),(.s (.load aS0),0,[]),(.s (.zo 1 aS6 aS5),0,[]),(.w .none none (.store 1 aS0 aS1),0,[])]))
def qg.g5 (X6:IR):IR:=(.block 1 X6)
def qg.b5:IR:=qg.g5 qg.b6
def qg.b7:IR:=(.reg [.s (.bin .add .int fA aC1),iQm 10 0])
def qg.g4 (X5 X7:IR):IR:=(.seq X5 X7)
def qg.b4:IR:=qg.g4 qg.b5 qg.b7
def qg.g3 (X4:IR):IR:=(iSr [iQo 11 (.bin .lss .int fA aT9)] (.seq (.cond sV .skip (.exit 0)) X4))
def qg.b3:IR:=qg.g3 qg.b4
def qg.g2 (X3:IR):IR:=(.loop X3)
def qg.b2:IR:=qg.g2 qg.b3
def qg.g1 (X2:IR):IR:=(.block 0 X2)
def qg.b1:IR:=qg.g1 qg.b2
def qg.b8:IR:=(iSr [.s (.zh 2 aT5),.w .none none (.store 2 aT4 aS0)] .ret)
def qg.g0 (X1 X8:IR):IR:=(iSr [iWl 2 (.box aT0),iWl 3 (.box aT1),iWl 4 (.alloc [.zf,(.bool false)])] (.seq (.yw [(.alloc [.zf,(.bool false)])] [(.s (.zu 0 aT3),2,[]),(.s (.load aS0),2,[]),(.s (.len aS0),2,[(.gy 1 8 [(I 0)] aS0 aS0)]),(.s (.zu 1 aT2),2,[]),(.s (.load aS0),2,[]),(.s (.zu 1 aT3),2,[]),(.s (.load aS0),2,[]),(.s (.bin .neq .bool aS2 aS0),2,[]),(.w .push none (.gy 1 8 [(I 0)] aS5 aS5),0,[]),(.s (.build [.zf,(.bool false)] [(0,1,aS0),(1,1,aS1)]),1,[]),(iWl 5 (.alloc [.zf,(.bool false)]),0,[]),(.w .none none (.store 2 aT5 aS0),0,[])]) (.seq (iSr [.s (.zu 0 aT3),iQo 8 (.load aS0),iQo 9 (.len aT8),iQo 10 (.mv aC0)] X1) X8)))
def qg.b0:IR:=qg.g0 qg.b1 qg.b8
def qg.res:List RV:=[.cell (.of 4) (some 2)]
def qg:Fn:={ params:=[(.of 0),(.of 1)],res:=qg.res,body:=qg.b0,init:=in12 }
theorem qg.ok:fnA Tryz.prog Tryz.f122 [0,1,2,3,4,5,6,7,19,20,21,22]=some qg:=by kernel_rfl
abbrev uy.fr:=fr10
def uy.b6:IR:=(iSr [.s (.zo 1 aT5 aT7),.s (.load aS0),iQm 4 0] (.reg [iSm 3,iSm 4,.s (.conv .u8 aS0),.w .push none (.zy 1 1 [(.int .u8 0)] [(0,1,aS0)]),.w .push none (.app 1 1 aS3 aS0),iQm 3 0]))
def uy.g5 (X6:IR):IR:=(.block 1 X6)
def uy.b5:IR:=uy.g5 uy.b6
def uy.b7:IR:=(.reg [.s (.bin .add .int aT7 aC1),iQm 7 0])
def uy.g4 (X5 X7:IR):IR:=(.seq X5 X7)
def uy.b4:IR:=uy.g4 uy.b5 uy.b7
def uy.g3 (X4:IR):IR:=(iSr [iQo 8 (.bin .lss .int aT7 aT6)] (.seq (.cond aT8 .skip (.exit 0)) X4))
def uy.b3:IR:=uy.g3 uy.b4
def uy.g2 (X3:IR):IR:=(.loop X3)
def uy.b2:IR:=uy.g2 uy.b3
def uy.g1 (X2:IR):IR:=(.block 0 X2)
def uy.b1:IR:=uy.g1 uy.b2
def uy.b9:IR:=(iSr [iSm 3,.s (.b2s aS0),iQm 2 0] .ret)
def uy.g8 (X9:IR):IR:=(.seq (iSr [.s (.zu 1 aT1),iQo 9 (.load aS0)] (.cond aT9 (.reg [iSm 3,.w .push none (.zy 1 1 [(.int .u8 0)] [(0,1,(.c (.int .u8 1)))]),.w .push none (.app 1 1 aS1 aS0),iQm 3 0]) .skip)) X9)
def uy.b8:IR:=uy.g8 uy.b9
def uy.g0 (X1 X8:IR):IR:=(iSr [iWl 1 (.box aT0),iQo 2 (.mv (.c (.str [])))] (iSr [.s (.zu 0 aT1),.s (.load aS0),.s (.len aS0),.s (.bin .add .int aS0 aC1),.w .push none (.gy 1 1 [(.int .u8 0)] aC0 aS0),iQm 3 0] (.seq (iSr [.s (.zu 0 aT1),iQo 5 (.load aS0),iQo 6 (.len aT5),iQo 7 (.mv aC0)] X1) X8)))
def uy.b0:IR:=uy.g0 uy.b1 uy.b8
def uy.res:List RV:=[.t (.of 2)]
def uy:Fn:={ params:=[(.of 0)],res:=uy.res,body:=uy.b0,init:=in10 }
theorem uy.ok:fnA Tryz.prog Tryz.f123 [0,1,2,3,5,12,13,14,15,25]=some uy:=by kernel_rfl
abbrev yu.fr:=fr10
def yu.b6:IR:=(iSr [iSm 8,.s (.zo 1 aT6 aT8),.s (.load aS0),iQm 4 2,iQm 5 0] (.reg [.s (.zu 0 aT3),.s (.load aS0),iSm 5,iSm 4,.s (.zo 1 aS2 aS1),.w .none none (.store 1 aS0 aS1)]))
def yu.g5 (X6:IR):IR:=(.block 1 X6)
def yu.b5:IR:=yu.g5 yu.b6
def yu.b7:IR:=(.reg [.s (.bin .add .int aT8 aC1),iQm 8 0])
def yu.g4 (X5 X7:IR):IR:=(.seq X5 X7)
def yu.b4:IR:=yu.g4 yu.b5 yu.b7
def yu.g3 (X4:IR):IR:=(iSr [iQo 9 (.bin .lss .int aT8 aT7)] (.seq (.cond aT9 .skip (.exit 0)) X4))
def yu.b3:IR:=yu.g3 yu.b4
def yu.g2 (X3:IR):IR:=(.loop X3)
def yu.b2:IR:=yu.g2 yu.b3
def yu.g1 (X2:IR):IR:=(.block 0 X2)
def yu.b1:IR:=yu.g1 yu.b2
def yu.b8:IR:=(iSr [.s (.zh 2 aT3),.w .none none (.store 2 aT2 aS0)] .ret)
def yu.g0 (X1 X8:IR):IR:=(iSr [iWl 1 (.box aT0),iWl 2 (.alloc [.zf,(.bool false)])] (.seq (.yw [(.alloc [.zf,(.bool false)])] [(.s (.zu 0 aT1),2,[]),(.s (.load aS0),2,[]),(.s (.len aS0),2,[(.gy 1 8 [(I 0)] aS0 aS0)]),(.s (.zu 1 aT1),2,[]),(.s (.load aS0),2,[]),(.w .push none (.gy 1 8 [(I 0)] aS2 aS2),0,[]),(.s (.build [.zf,(.bool false)] [(0,1,aS0),(1,1,aS1)]),1,[]),(iWl 3 (.alloc [.zf,(.bool false)]),0,[]),(.w .none none (.store 2 aT3 aS0),0,[])]) (.seq (iSr [.s (.zu 0 aT1),iQo 6 (.load aS0),iQo 7 (.len aT6),iQo 8 (.mv aC0)] X1) X8)))
def yu.b0:IR:=yu.g0 yu.b1 yu.b8
def yu.res:List RV:=[.cell (.of 2) (some 2)]
def yu:Fn:={ params:=[(.of 0)],res:=yu.res,body:=yu.b0,init:=in10 }
theorem yu.ok:fnA Tryz.prog Tryz.f124 [0,1,2,3,4,5,14,15,16,17]=some yu:=by kernel_rfl
abbrev fZ.fr:=fr5
def fZ.b6:IR:=(iSr [iSm 0,iSm 2,.s (.sidx aS1 aS0),iQo 4 (.bin .eql .int aS0 (.c (.int .u8 47)))] (.cond aT4 (iSr [iSm 2,iQm 1 0] .ret) .skip))
def fZ.g5 (X6:IR):IR:=(.block 1 X6)
def fZ.b5:IR:=fZ.g5 fZ.b6
def fZ.b7:IR:=(.reg [iSm 2,.s (.bin .add .int aS0 aC1),iQm 2 0])
def fZ.g4 (X5 X7:IR):IR:=(.seq X5 X7)
def fZ.b4:IR:=fZ.g4 fZ.b5 fZ.b7
def fZ.g3 (X4:IR):IR:=(.seq (iSr [iSm 2,iSm 0,.s (.slen aS0),iQo 3 (.bin .lss .int aS2 aS0)] (.cond aT3 .skip (.exit 0))) X4)
def fZ.b3:IR:=fZ.g3 fZ.b4
def fZ.g2 (X3:IR):IR:=(.loop X3)
def fZ.b2:IR:=fZ.g2 fZ.b3
def fZ.g1 (X2:IR):IR:=(.block 0 X2)
def fZ.b1:IR:=fZ.g1 fZ.b2
def fZ.b8:IR:=(iSr [iSm 0,.s (.slen aS0),iQm 1 0] .ret)
def fZ.g0 (X1 X8:IR):IR:=(iSr [iQo 1 (.mv aC0)] (.seq (iSr [iQo 2 (.mv aC0)] X1) X8))
def fZ.b0:IR:=fZ.g0 fZ.b1 fZ.b8
def fZ.res:List RV:=[.t (.of 1)]
def fZ:Fn:={ params:=[(.of 0)],res:=fZ.res,body:=fZ.b0,init:=in5 }
theorem fZ.ok:fnA Tryz.prog Tryz.f126 [0,2,3,7,13]=some fZ:=by kernel_rfl
abbrev F127.fr:=fr3
def F127.b1:IR:=(iSr [iSm 0,iCa 192 [aS0],iQm 1 0] .ret)
def F127.g0 (X1:IR):IR:=(iSr [iQo 1 (.mv (.c (.bool false)))] (.seq (iSr [iSm 0,.s (.slen aS0),.s (.bin .eql .int aS0 aC0),.s (.mv aS0),iPf 0 (.mv aT0),iPf 1 (.slen aS0),iPf 2 (.bin .gtr .int aS0 aC1),iPf 3 (.mv aS0),iPt 0 (.mv aT0),iPt 1 (.sidx aS0 aC0),iPt 2 (.bin .eql .int aS0 (.c (.int .u8 48))),iPf 7 (.pick aS3 aS0 (.c (.bool false))),iQo 2 (.pick aS8 (.c (.bool true)) aS0)] (.cond aT2 (iSr [iQo 1 (.mv (.c (.bool false)))] .ret) .skip)) X1))
def F127.b0:IR:=F127.g0 F127.b1
def F127.res:List RV:=[.t (.of 1)]
def F127:Fn:={ params:=[(.of 0)],res:=F127.res,body:=F127.b0,init:=in3 }
theorem F127.ok:fnA Tryz.prog Tryz.f127 [0,2,15]=some F127:=by kernel_rfl
abbrev F128.fr:=fr6
def F128.b1:IR:=(.seq (.yw [] [(iSm 3,0,[]),(iSm 4,0,[]),(.s (.cZ aS1 none (some aS0)),0,[]),(iSm 3,1,[]),(iSm 4,1,[]),(.s (.bin .add .int aS0 aC1),1,[]),(.s (.cZ aS2 (some aS0) none),1,[]),(iCa 171 [aS4],0,[]),(iCa 171 [aS1],0,[]),(.w .none none (.store 2 aT1 aS1),0,[]),(.w .none none (.store 2 aT2 aS0),0,[])]) .ret)
def F128.g0 (X1:IR):IR:=(iSr [iWl 1 (.alloc [(.bool false),.zf]),iWl 2 (.alloc [(.bool false),.zf])] (iSr [iSm 0,iQm 3 0] (iSr [iSm 3,iCa 126 [aS0],iQm 4 0] (.seq (iSr [iSm 4,iSm 3,.s (.slen aS0),iQo 5 (.bin .eql .int aS2 aS0)] (.cond aT5 (iSr [iSm 3,iCa 171 [aS0],iCa 131 [aC1],.w .none none (.store 2 aT1 aS1),.w .none none (.store 2 aT2 aS0)] .ret) .skip)) X1))))
def F128.b0:IR:=F128.g0 F128.b1
def F128.res:List RV:=[.cell (.of 1) (some 2),.cell (.of 2) (some 2)]
def F128:Fn:={ params:=[(.of 0)],res:=F128.res,body:=F128.b0,init:=in6 }
theorem F128.ok:fnA Tryz.prog Tryz.f128 [0,2,3,4,5,12]=some F128:=by kernel_rfl
abbrev rZ.fr:=fr5
def rZ.b5:IR:=(iSr [iSm 0,iSm 1,iCa 193 [aS1,aS0],.s (.mv aS0),.s (.ext 0 aS0),.s (.ext 1 aS1),.s (.mv aS1),iQm 3 1] (.reg [iSm 1,iSm 3,iQm 0 1,iQm 1 0]))
def rZ.g4 (X5:IR):IR:=(.block 1 X5)
def rZ.b4:IR:=rZ.g4 rZ.b5
def rZ.g3 (X4:IR):IR:=(.seq (iSr [iSm 1,.s (.len aS0),iQo 4 (.bin .gtr .int aS0 aC0)] (.cond aT4 .skip (.exit 0))) X4)
def rZ.b3:IR:=rZ.g3 rZ.b4
def rZ.g2 (X3:IR):IR:=(.loop X3)
def rZ.b2:IR:=rZ.g2 rZ.b3
def rZ.g1 (X2:IR):IR:=(.block 0 X2)
def rZ.b1:IR:=rZ.g1 rZ.b2
def rZ.b6:IR:=(iSr [iSm 0,iQm 2 0] .ret)
def rZ.g0 (X1 X6:IR):IR:=(iSr [iQo 2 (.mv (.c .zf))] (.seq X1 X6))
def rZ.b0:IR:=rZ.g0 rZ.b1 rZ.b6
def rZ.res:List RV:=[.t (.of 2)]
def rZ:Fn:={ params:=[(.of 0),(.of 1)],res:=rZ.res,body:=rZ.b0,init:=in5 }
theorem rZ.ok:fnA Tryz.prog Tryz.f129 [0,1,4,6,9]=some rZ:=by kernel_rfl
abbrev bf.fr:=fr8
def bf.b7:IR:=(.reg [iSm 3,.s (.zu 1 aT1),.s (.load aS0),iSm 4,.s (.zo 1 aS1 aS0),.s (.load aS0),iCa 194 [aS0,aC9],.s (.bin .add .str aS6 aS0),iQm 3 0])
def bf.g6 (X7:IR):IR:=(.block 1 X7)
def bf.b6:IR:=bf.g6 bf.b7
def bf.b8:IR:=(.reg [iSm 4,.s (.bin .sub .int aS0 aC1),iQm 4 0])
def bf.g5 (X6 X8:IR):IR:=(.seq X6 X8)
def bf.b5:IR:=bf.g5 bf.b6 bf.b8
def bf.g4 (X5:IR):IR:=(.seq (iSr [iSm 4,iQo 6 (.bin .geq .int aS0 aC0)] (.cond aT6 .skip (.exit 0))) X5)
def bf.b4:IR:=bf.g4 bf.b5
def bf.g3 (X4:IR):IR:=(.loop X4)
def bf.b3:IR:=bf.g3 bf.b4
def bf.g2 (X3:IR):IR:=(.block 0 X3)
def bf.b2:IR:=bf.g2 bf.b3
def bf.b10:IR:=(iSr [iSm 3,iQm 2 0] .ret)
def bf.g9 (X10:IR):IR:=(.seq (iSr [.s (.zu 0 aT1),iQo 7 (.load aS0)] (.cond aT7 (iSr [iSm 3,.s (.bin .add .str (.c (.str [45])) aS0),iQm 2 0] .ret) .skip)) X10)
def bf.b9:IR:=bf.g9 bf.b10
def bf.g1 (X2 X9:IR):IR:=(iSr [.s (.zu 1 aT1),.s (.load aS0),.s (.zu 1 aT1),.s (.load aS0),.s (.len aS0),.s (.bin .sub .int aS0 aC1),.s (.zo 1 aS4 aS0),.s (.load aS0),iCa 194 [aS0,aC1],iQm 3 0] (.seq (iSr [.s (.zu 1 aT1),.s (.load aS0),.s (.len aS0),.s (.bin .sub .int aS0 aC2),iQm 4 0] X2) X9))
def bf.b1:IR:=bf.g1 bf.b2 bf.b9
def bf.g0 (X1:IR):IR:=(iSr [iWl 1 (.box aT0),iQo 2 (.mv (.c (.str [])))] (.seq (iSr [.s (.zu 1 aT1),.s (.load aS0),.s (.len aS0),iQo 5 (.bin .eql .int aS0 aC0)] (.cond aT5 (iSr [iQo 2 (.mv (.c (.str [48])))] .ret) .skip)) X1))
def bf.b0:IR:=bf.g0 bf.b1
def bf.res:List RV:=[.t (.of 2)]
def bf:Fn:={ params:=[(.of 0)],res:=bf.res,body:=bf.b0,init:=in8 }
theorem bf.ok:fnA Tryz.prog Tryz.f130 [0,1,2,3,4,8,23,35]=some bf:=by kernel_rfl
abbrev rJ.fr:=fr7
def rJ.b6:IR:=(iSr [iSm 2,iSm 4,.w .push none (.zy 1 1 [(I 0)] [(0,1,aS0)]),.w .push none (.app 1 8 aS2 aS0),iQm 2 0] (.reg [iSm 0,.s (.bin .quo .int aS0 jR),iQm 0 0]))
def rJ.g5 (X6:IR):IR:=(iSr [iSm 0,.s (.bin .rem .int aS0 jR),iQm 4 0] (.seq (iSr [iSm 4,iQo 6 (.bin .lss .int aS0 aC0)] (.cond aT6 (.reg [iSm 4,.s (.bin .sub .int aC0 aS0),iQm 4 0]) .skip)) X6))
def rJ.b5:IR:=rJ.g5 rJ.b6
def rJ.g4 (X5:IR):IR:=(.block 1 X5)
def rJ.b4:IR:=rJ.g4 rJ.b5
def rJ.g3 (X4:IR):IR:=(.seq (iSr [iSm 0,iQo 5 (.bin .neq .int aS0 aC0)] (.cond aT5 .skip (.exit 0))) X4)
def rJ.b3:IR:=rJ.g3 rJ.b4
def rJ.g2 (X3:IR):IR:=(.loop X3)
def rJ.b2:IR:=rJ.g2 rJ.b3
def rJ.g1 (X2:IR):IR:=(.block 0 X2)
def rJ.b1:IR:=rJ.g1 rJ.b2
def rJ.b7:IR:=(iSr [iSm 3,iSm 2,iCa 195 [aS1,aS0],.w .none none (.store 2 aT1 aS0)] .ret)
def rJ.g0 (X1 X7:IR):IR:=(iSr [iWl 1 (.alloc [(.bool false),.zf])] (iSr [iQo 2 (.mv (.c .zf))] (iSr [iSm 0,.s (.bin .lss .int aS0 aC0),iQm 3 0] (.seq X1 X7))))
def rJ.b0:IR:=rJ.g0 rJ.b1 rJ.b7
def rJ.res:List RV:=[.cell (.of 1) (some 2)]
def rJ:Fn:={ params:=[(.of 0)],res:=rJ.res,body:=rJ.b0,init:=in7 }
theorem rJ.ok:fnA Tryz.prog Tryz.f131 [0,2,3,4,5,9,13]=some rJ:=by kernel_rfl
abbrev oJ.fr:=fr4
def oJ.b2:IR:=(iSr [iQo 1 (.mv aC1)] .ret)
def oJ.g1 (X2:IR):IR:=(.seq (iSr [iSm 0,.s (.slen aS0),.s (.bin .gtr .int aS0 aC0),.s (.mv aS0),iPt 0 (.mv aT0),iPt 1 (.sidx aS0 aC0),iPt 2 (.bin .eql .int aS0 (.c (.int .u8 45))),iQo 3 (.pick aS3 aS0 (.c (.bool false)))] (.cond aT3 (iSr [iQo 1 (.mv (.c (I (-1))))] .ret) .skip)) X2)
def oJ.b1:IR:=oJ.g1 oJ.b2
def oJ.g0 (X1:IR):IR:=(iSr [iQo 1 (.mv aC0)] (.seq (iSr [iSm 0,iQo 2 (.bin .eql .str aS0 (.c (.str [48])))] (.cond aT2 (iSr [iQo 1 (.mv aC0)] .ret) .skip)) X1))
def oJ.b0:IR:=oJ.g0 oJ.b1
def oJ.res:List RV:=[.t (.of 1)]
def oJ:Fn:={ params:=[(.of 0)],res:=oJ.res,body:=oJ.b0,init:=in4 }
theorem oJ.ok:fnA Tryz.prog Tryz.f132 [0,2,4,12]=some oJ:=by kernel_rfl
abbrev F133.fr:=fr3
def F133.b0:IR:=(iSr [iQo 2 (.mv (.c (.str [])))] (iSr [iSm 0,iSm 1,iCa 196 [aS0],iCa 117 [aS2,aS0],iQm 2 0] .ret))
def F133.res:List RV:=[.t (.of 2)]
def F133:Fn:={ params:=[(.of 0),(.of 1)],res:=F133.res,body:=F133.b0,init:=in3 }
theorem F133.ok:fnA Tryz.prog Tryz.f133 [0,1,4]=some F133:=by kernel_rfl
abbrev xw.fr:=fr2
def xw.b0:IR:=(iSr [iQo 1 (.mv aC0)] (iSr [iSm 0,.s (.len aS0),.s (.bin .gtr .int aS0 zb9),iCa 96 [aS0,aC5],iSm 0,.w .push none (.call (.c (.fn 136 (.of 136) [])) [aS0,(.c (.fn 137 (.of 137) []))]),iCa 96 [aS0,aC3],.w .push none (.zy 1 2 [(I 0)] [(0,1,aS3),(1,1,aS0)]),iCa 94 [aS0],iQm 1 0] .ret))
def xw.res:List RV:=[.t (.of 1)]
def xw:Fn:={ params:=[(.of 0)],res:=xw.res,body:=xw.b0,init:=in2 }
theorem xw.ok:fnA Tryz.prog Tryz.f134 [0,2]=some xw:=by kernel_rfl
abbrev yg.fr:=fr12
def yg.b7:IR:=(.reg [iSm 4,.s (.zu 0 aT2),.s (.load aS0),iSm 5,.s (.zo 1 aS1 aS0),.s (.load aS0),iSm 6,.s (.zo 1 aS6 aS1),.w .none none (.store 1 aS0 aS1)])
def yg.g6 (X7:IR):IR:=(iSr [iSm 9,.s (.zo 1 aT7 aT9),.s (.load aS0),iQm 5 2,iQm 6 0] (.seq (iSr [.s (.zu 1 aT2),iQo 11 (.load aS0)] (.cond sV (.reg [iSm 1,.s (.len aS0),.s (.bin .add .int aS0 aC1),iSm 6,.s (.bin .sub .int aS1 aS0),iQm 6 0]) .skip)) X7))
def yg.b6:IR:=yg.g6 yg.b7
def yg.g5 (X6:IR):IR:=(.block 1 X6)
def yg.b5:IR:=yg.g5 yg.b6
def yg.b8:IR:=(.reg [.s (.bin .add .int aT9 aC1),iQm 9 0])
def yg.g4 (X5 X8:IR):IR:=(.seq X5 X8)
def yg.b4:IR:=yg.g4 yg.b5 yg.b8
def yg.g3 (X4:IR):IR:=(iSr [iQo 10 (.bin .lss .int aT9 aT8)] (.seq (.cond fA .skip (.exit 0)) X4))
def yg.b3:IR:=yg.g3 yg.b4
def yg.g2 (X3:IR):IR:=(.loop X3)
def yg.b2:IR:=yg.g2 yg.b3
def yg.g1 (X2:IR):IR:=(.block 0 X2)
def yg.b1:IR:=yg.g1 yg.b2
def yg.b9:IR:=(iSr [iSm 4,iQm 3 0] .ret)
def yg.g0 (X1 X9:IR):IR:=(iSr [iWl 2 (.box aT0),iQo 3 (.mv (.c .zf))] (iSr [iSm 1,.s (.len aS0),.w .push none (.gy 1 8 [(I 0)] aS0 aS0),iQm 4 0] (.seq (iSr [iQo 7 (.mv aT1),iQo 8 (.len aT7),iQo 9 (.mv aC0)] X1) X9)))
def yg.b0:IR:=yg.g0 yg.b1 yg.b9
def yg.res:List RV:=[.t (.of 3)]
def yg:Fn:={ params:=[(.of 0),(.of 1)],res:=yg.res,body:=yg.b0,init:=in12 }
theorem yg.ok:fnA Tryz.prog Tryz.f135 [0,1,2,4,5,6,7,11,12,13,14,19]=some yg:=by kernel_rfl
abbrev F136.fr:=fr3
def F136.b0:IR:=(iSr [iQo 2 (.mv (.c (.bool false)))] (iSr [iSm 0,iSm 1,iCa 197 [aS1,aS0],.s (.bin .geq .int aS0 aC0),iQm 2 0] .ret))
def F136.res:List RV:=[.t (.of 2)]
def F136:Fn:={ params:=[(.of 0),(.of 1)],res:=F136.res,body:=F136.b0,init:=in3 }
theorem F136.ok:fnA Tryz.prog Tryz.f136 [0,1,4]=some F136:=by kernel_rfl
abbrev xk.fr:=fr2
def xk.b0:IR:=(iSr [iQo 1 (.mv (.c (.bool false)))] (iSr [iSm 0,.s (.bin .lss .int aS0 (.c (I (-999999999)))),.s (.mv aS0),iPf 0 (.mv aT0),iPf 1 (.bin .gtr .int aS0 bO),.s (.pick aS2 (.c (.bool true)) aS0),iQm 1 0] .ret))
def xk.res:List RV:=[.t (.of 1)]
def xk:Fn:={ params:=[(.of 0)],res:=xk.res,body:=xk.b0,init:=in2 }
theorem xk.ok:fnA Tryz.prog Tryz.f137 [0,2]=some xk:=by kernel_rfl
abbrev zk.fr:=fr13
def zk.b12:IR:=(iSr [iSm 4,iSm 7,.s (.zo 1 aS1 aS0),.w .none none (.store 1 aS0 (.c (.bool true)))] (.reg [iSm 6,.s (.bin .add .int aS0 aC1),iQm 6 0]))
def zk.g11 (X12:IR):IR:=(.block 3 X12)
def zk.b11:IR:=zk.g11 zk.b12
def zk.b13:IR:=(.reg [.s (.zu 0 aT1),.s (.load aS0),iSm 7,.s (.zo 1 aS1 aS0),.s (.load aS0),iQm 7 0])
def zk.g10 (X11 X13:IR):IR:=(.seq X11 X13)
def zk.b10:IR:=zk.g10 zk.b11 zk.b13
def zk.g9 (X10:IR):IR:=(.seq (iSr [iSm 4,iSm 7,.s (.zo 1 aS1 aS0),.s (.load aS0),iQo 11 (.not aS0)] (.cond sV .skip (.exit 2))) X10)
def zk.b9:IR:=zk.g9 zk.b10
def zk.g8 (X9:IR):IR:=(.loop X9)
def zk.b8:IR:=zk.g8 zk.b9
def zk.g7 (X8:IR):IR:=(.block 2 X8)
def zk.b7:IR:=zk.g7 zk.b8
def zk.b14:IR:=(iSr [iSm 6,iQo 12 (.bin .gtr .int aS0 aC0)] (.cond tZ (.reg [iSm 3,iSm 6,.w .push none (.zy 1 1 [(I 0)] [(0,1,aS0)]),.w .push none (.app 1 8 aS2 aS0),iQm 3 0]) .skip))
def zk.g6 (X7 X14:IR):IR:=(iSr [iSm 9,iQm 5 0] (iSr [iQo 6 (.mv aC0)] (.seq (iSr [iSm 5,iQm 7 0] X7) X14)))
def zk.b6:IR:=zk.g6 zk.b7 zk.b14
def zk.g5 (X6:IR):IR:=(.block 1 X6)
def zk.b5:IR:=zk.g5 zk.b6
def zk.b15:IR:=(.reg [.s (.bin .add .int aT9 aC1),iQm 9 0])
def zk.g4 (X5 X15:IR):IR:=(.seq X5 X15)
def zk.b4:IR:=zk.g4 zk.b5 zk.b15
def zk.g3 (X4:IR):IR:=(iSr [iQo 10 (.bin .lss .int aT9 aT8)] (.seq (.cond fA .skip (.exit 0)) X4))
def zk.b3:IR:=zk.g3 zk.b4
def zk.g2 (X3:IR):IR:=(.loop X3)
def zk.b2:IR:=zk.g2 zk.b3
def zk.g1 (X2:IR):IR:=(.block 0 X2)
def zk.b1:IR:=zk.g1 zk.b2
def zk.b16:IR:=(iSr [iSm 3,iQm 2 0] .ret)
def zk.g0 (X1 X16:IR):IR:=(iSr [iWl 1 (.box aT0),iQo 2 (.mv (.c .zf))] (iSr [iQo 3 (.mv (.c .zf))] (iSr [.s (.zu 0 aT1),.s (.load aS0),.s (.len aS0),.w .push none (.gy 1 1 [(.bool false)] aS0 aS0),iQm 4 0] (.seq (iSr [.s (.zu 0 aT1),.s (.load aS0),iQo 8 (.len aS0),iQo 9 (.mv aC0)] X1) X16))))
def zk.b0:IR:=zk.g0 zk.b1 zk.b16
def zk.res:List RV:=[.t (.of 2)]
def zk:Fn:={ params:=[(.of 0)],res:=zk.res,body:=zk.b0,init:=in13 }
theorem zk.ok:fnA Tryz.prog Tryz.f138 [0,1,2,3,4,5,6,7,14,15,16,23,35]=some zk:=by kernel_rfl
abbrev su.fr:=fr4
def su.b5:IR:=(.yw [] [(iSm 1,0,[]),(iSm 0,0,[]),(iSm 1,0,[]),(.s (.bin .rem .int aS1 aS0),0,[]),(iQm 0 3,0,[]),(iQm 1 0,0,[])])
def su.g4 (X5:IR):IR:=(.block 1 X5)
def su.b4:IR:=su.g4 su.b5
def su.g3 (X4:IR):IR:=(.seq (iSr [iSm 1,iQo 3 (.bin .neq .int aS0 aC0)] (.cond aT3 .skip (.exit 0))) X4)
def su.b3:IR:=su.g3 su.b4
def su.g2 (X3:IR):IR:=(.loop X3)
def su.b2:IR:=su.g2 su.b3
def su.g1 (X2:IR):IR:=(.block 0 X2)
def su.b1:IR:=su.g1 su.b2
def su.b6:IR:=(iSr [iSm 0,iQm 2 0] .ret)
def su.g0 (X1 X6:IR):IR:=(iSr [iQo 2 (.mv aC0)] (.seq X1 X6))
def su.b0:IR:=su.g0 su.b1 su.b6
def su.res:List RV:=[.t (.of 2)]
def su:Fn:={ params:=[(.of 0),(.of 1)],res:=su.res,body:=su.b0,init:=in4 }
theorem su.ok:fnA Tryz.prog Tryz.f139 [0,1,4,6]=some su:=by kernel_rfl
abbrev F140.fr:=fr2
def F140.b0:IR:=(iSr [iQo 1 (.mv (.c (.bool false)))] (iSr [iSm 0,iCa 198 [aS0],.s (.bin .eql .int aS0 aC0),iQm 1 0] .ret))
def F140.res:List RV:=[.t (.of 1)]
def F140:Fn:={ params:=[(.of 0)],res:=F140.res,body:=F140.b0,init:=in2 }
theorem F140.ok:fnA Tryz.prog Tryz.f140 [0,2]=some F140:=by kernel_rfl
abbrev ku.fr:=fr6
def ku.b6:IR:=(.reg [iSm 3,iSm 0,iSm 1,iSm 4,.s (.zo 1 aS1 aS0),.s (.load aS0),.s (.zo 1 aS4 aS0),.s (.load aS0),.w .push none (.zy 1 1 [(I 0)] [(0,1,aS0)]),.w .push none (.app 1 8 aS8 aS0),iQm 3 0])
def ku.g5 (X6:IR):IR:=(.block 1 X6)
def ku.b5:IR:=ku.g5 ku.b6
def ku.b7:IR:=(.reg [iSm 4,.s (.bin .add .int aS0 aC1),iQm 4 0])
def ku.g4 (X5 X7:IR):IR:=(.seq X5 X7)
def ku.b4:IR:=ku.g4 ku.b5 ku.b7
def ku.g3 (X4:IR):IR:=(.seq (iSr [iSm 4,iSm 1,.s (.len aS0),iQo 5 (.bin .lss .int aS2 aS0)] (.cond aT5 .skip (.exit 0))) X4)
def ku.b3:IR:=ku.g3 ku.b4
def ku.g2 (X3:IR):IR:=(.loop X3)
def ku.b2:IR:=ku.g2 ku.b3
def ku.g1 (X2:IR):IR:=(.block 0 X2)
def ku.b1:IR:=ku.g1 ku.b2
def ku.b8:IR:=(iSr [iSm 3,iQm 2 0] .ret)
def ku.g0 (X1 X8:IR):IR:=(iSr [iQo 2 (.mv (.c .zf))] (iSr [iQo 3 (.mv (.c .zf))] (.seq (iSr [iQo 4 (.mv aC0)] X1) X8)))
def ku.b0:IR:=ku.g0 ku.b1 ku.b8
def ku.res:List RV:=[.t (.of 2)]
def ku:Fn:={ params:=[(.of 0),(.of 1)],res:=ku.res,body:=ku.b0,init:=in6 }
theorem ku.ok:fnA Tryz.prog Tryz.f144 [0,1,4,5,6,10]=some ku:=by kernel_rfl
abbrev F145.fr:=fr2
def F145.b0:IR:=(iSr [iQo 1 (.mv aC0)] (iSr [iSm 0,.s (.bin .lss .int aS0 aC1),.s (.mv aS0),iPf 0 (.mv aT0),iPf 1 (.bin .gtr .int aS0 aC16),.s (.pick aS2 (.c (.bool true)) aS0),iCa 96 [aS0,aC3],iQm 1 0] .ret))
def F145.res:List RV:=[.t (.of 1)]
def F145:Fn:={ params:=[(.of 0)],res:=F145.res,body:=F145.b0,init:=in2 }
theorem F145.ok:fnA Tryz.prog Tryz.f145 [0,2]=some F145:=by kernel_rfl
abbrev ng.fr:=fr10
def ng.b6:IR:=(iSr [iSm 8,iQm 4 0] (.seq (.yw [] [(iSm 2,0,[]),(iSm 4,0,[]),(iSm 1,0,[]),(.s (.bin .quo .int aS1 aS0),0,[]),(iSm 4,0,[]),(iSm 1,0,[]),(.s (.bin .rem .int aS1 aS0),0,[]),(.w .push none (.call aS6 [aS3,aS0]),0,[]),(.s (.mv aS0),0,[]),(.s (.ext 0 aS0),0,[]),(.s (.ext 1 aS1),0,[]),(iQm 5 1,0,[]),(iQm 6 0,0,[])]) (.reg [.s (.zu 0 aT3),.s (.load aS0),iSm 4,iSm 1,iSm 5,.s (.bin .mul .int aS1 aS0),iSm 6,.s (.bin .add .int aS1 aS0),.s (.zo 1 aS6 aS5),.w .none none (.store 1 aS0 aS1)])))
def ng.g5 (X6:IR):IR:=(.block 1 X6)
def ng.b5:IR:=ng.g5 ng.b6
def ng.b7:IR:=(.reg [.s (.bin .add .int aT8 aC1),iQm 8 0])
def ng.g4 (X5 X7:IR):IR:=(.seq X5 X7)
def ng.b4:IR:=ng.g4 ng.b5 ng.b7
def ng.g3 (X4:IR):IR:=(iSr [iQo 9 (.bin .lss .int aT8 aT7)] (.seq (.cond aT9 .skip (.exit 0)) X4))
def ng.b3:IR:=ng.g3 ng.b4
def ng.g2 (X3:IR):IR:=(.loop X3)
def ng.b2:IR:=ng.g2 ng.b3
def ng.g1 (X2:IR):IR:=(.block 0 X2)
def ng.b1:IR:=ng.g1 ng.b2
def ng.b8:IR:=(.yw [] [(iSm 0,1,[]),(.s (.zh 2 aT3),0,[]),(.s (.zh 2 aT3),1,[]),(iCa 123 [aS1],0,[]),(.w .none none (.zal .str aS3 aS0 aS1),0,[])])
def ng.g0 (X1 X8:IR):IR:=(iSr [iSm 1,iSm 1,.s (.bin .mul .int aS1 aS0),.w .push none (.gy 1 8 [(I 0)] aS0 aS0),.s (.build [.zf,(.bool false)] [(0,1,aS0)]),iWl 3 (.alloc [.zf,(.bool false)]),.w .none none (.store 2 aT3 aS0)] (.seq (iSr [.s (.zu 0 aT3),.s (.load aS0),iQo 7 (.len aS0),iQo 8 (.mv aC0)] X1) X8))
def ng.b0:IR:=ng.g0 ng.b1 ng.b8
def ng.res:List RV:=[]
def ng:Fn:={ params:=[(.of 0),(.of 1),(.of 2)],res:=ng.res,body:=ng.b0,init:=in10 }
theorem ng.ok:fnA Tryz.prog Tryz.f146 [0,1,2,6,7,8,9,17,18,19]=some ng:=by kernel_rfl
abbrev aS.fr:=fr9
def aS.b3:IR:=(iSr [iSm 0,iSm 1,iQm 4 1,iQm 5 0] .ret)
def aS.g2 (X3:IR):IR:=(.seq (iSr [.s (.load aT2),.s (.bin .and .int aS0 aC4),iQo 8 (.bin .neq .int aS0 aC0)] (.cond aT8 (iSr [iSm 1,iSm 0,iQm 4 1,iQm 5 0] .ret) .skip)) X3)
def aS.b2:IR:=aS.g2 aS.b3
def aS.g1 (X2:IR):IR:=(.seq (iSr [.s (.load aT2),.s (.bin .and .int aS0 aC2),iQo 7 (.bin .neq .int aS0 aC0)] (.cond aT7 (.reg [.s (.load aT3),.s (.bin .sub .int aS0 aC1),iSm 1,.s (.bin .sub .int aS1 aS0),iQm 1 0]) .skip)) X2)
def aS.b1:IR:=aS.g1 aS.b2
def aS.g0 (X1:IR):IR:=(iSr [iQo 4 (.mv aC0),iQo 5 (.mv aC0)] (.seq (iSr [.s (.load aT2),.s (.bin .and .int aS0 aC1),iQo 6 (.bin .neq .int aS0 aC0)] (.cond aT6 (.reg [.s (.load aT3),.s (.bin .sub .int aS0 aC1),iSm 0,.s (.bin .sub .int aS1 aS0),iQm 0 0]) .skip)) X1))
def aS.b0:IR:=aS.g0 aS.b1
def aS.res:List RV:=[.t (.of 4),.t (.of 5)]
def aS:Fn:={ params:=[(.of 0),(.of 1),(.of 2),(.of 3)],res:=aS.res,body:=aS.b0,init:=in9 }
theorem aS.ok:fnA Tryz.prog Tryz.f147 [0,1,2,3,6,7,10,17,24]=some aS:=by kernel_rfl
abbrev cu.fr:=fr12
def cu.b8:IR:=(.seq (.yw [] [(.s (.load aT3),0,[]),(iSm 0,0,[]),(.s (.load aT3),1,[]),(.s (.load aT1),1,[]),(.s (.bin .sub .int aS0 aC1),1,[]),(iSm 0,1,[]),(.s (.bin .sub .int aS1 aS0),1,[]),(iSm 6,0,[]),(.s (.load aT1),1,[]),(.s (.bin .sub .int aS0 aC1),1,[]),(iSm 6,1,[]),(.s (.bin .sub .int aS1 aS0),1,[]),(.s (.zo 1 aS11 aS10),0,[]),(.w .none none (.store 1 aS0 aS5),0,[]),(.s (.zo 1 aS10 aS6),0,[]),(.w .none none (.store 1 aS0 aS2),0,[])]) (.seq (.yw [] [(.s (.load aT4),0,[]),(iSm 6,0,[]),(.s (.load aT4),1,[]),(.s (.load aT1),1,[]),(.s (.bin .sub .int aS0 aC1),1,[]),(iSm 6,1,[]),(.s (.bin .sub .int aS1 aS0),1,[]),(.s (.zo 1 aS6 aS5),0,[]),(.w .none none (.store 1 aS0 (.c (.bool true))),0,[]),(.s (.zo 1 aS5 aS1),0,[]),(.w .none none (.store 1 aS0 (.c (.bool true))),0,[])]) (iSr [.s (.load aT5),iSm 0,.s (.bin .add .int aS0 aC1),.w .push none (.call aS2 [aS0])] (.yw [] [(.s (.load aT4),0,[]),(iSm 6,0,[]),(.s (.load aT4),1,[]),(.s (.load aT1),1,[]),(.s (.bin .sub .int aS0 aC1),1,[]),(iSm 6,1,[]),(.s (.bin .sub .int aS1 aS0),1,[]),(.s (.zo 1 aS6 aS5),0,[]),(.w .none none (.store 1 aS0 (.c (.bool false))),0,[]),(.s (.zo 1 aS5 aS1),0,[]),(.w .none none (.store 1 aS0 (.c (.bool false))),0,[])]))))
def cu.g7 (X8:IR):IR:=(iSr [iSm 9,iQm 6 0] (.seq (iSr [.s (.load aT4),iSm 6,.s (.zo 1 aS1 aS0),.s (.load aS0),.s (.mv aS0),iPf 0 (.mv aT0),iPf 1 (.bin .mul .int aC2 aS0),iPf 2 (.load aT1),iPf 3 (.bin .sub .int aS0 aC1),iPf 4 (.bin .eql .int aS2 aS0),iPf 5 (.mv aT6),iPf 6 (.bin .mul .int aC2 aS0),iPf 7 (.load aT1),iPf 8 (.bin .sub .int aS0 aC1),iPf 9 (.bin .eql .int aS2 aS0),iPf 10 (.bin .neq .bool aS5 aS0),iQo 11 (.pick aS11 (.c (.bool true)) aS0)] (.cond sV (.exit 1) .skip)) X8))
def cu.b7:IR:=cu.g7 cu.b8
def cu.g6 (X7:IR):IR:=(.block 1 X7)
def cu.b6:IR:=cu.g6 cu.b7
def cu.b9:IR:=(.reg [.s (.bin .add .int aT9 aC1),iQm 9 0])
def cu.g5 (X6 X9:IR):IR:=(.seq X6 X9)
def cu.b5:IR:=cu.g5 cu.b6 cu.b9
def cu.g4 (X5:IR):IR:=(iSr [iQo 10 (.bin .lss .int aT9 aT8)] (.seq (.cond fA .skip (.exit 0)) X5))
def cu.b4:IR:=cu.g4 cu.b5
def cu.g3 (X4:IR):IR:=(.loop X4)
def cu.b3:IR:=cu.g3 cu.b4
def cu.g2 (X3:IR):IR:=(.block 0 X3)
def cu.b2:IR:=cu.g2 cu.b3
def cu.g1 (X2:IR):IR:=(iSr [iQo 8 (.load aT1),iQo 9 (.mv aC0)] X2)
def cu.b1:IR:=cu.g1 cu.b2
def cu.g0 (X1:IR):IR:=(.seq (iSr [iSm 0,.s (.load aT1),.s (.bin .add .int aS0 aC1),.s (.bin .quo .int aS0 aC2),iQo 7 (.bin .eql .int aS3 aS0)] (.cond aT7 (iSr [.s (.load aT2),.s (.load aT1),.s (.fn 150 (.of 150) [aT3]),iCa 146 [aS2,aS1,aS0]] .ret) .skip)) X1)
def cu.b0:IR:=cu.g0 cu.b1
def cu.res:List RV:=[]
def cu:Fn:={ params:=[(.of 0),(.of 1),(.of 2),(.of 3),(.of 4),(.of 5)],res:=cu.res,body:=cu.b0,init:=in12 }
theorem cu.ok:fnA Tryz.prog Tryz.f149 [0,1,2,3,4,5,7,12,17,18,19,37]=some cu:=by kernel_rfl
abbrev F150.fr:=fr5
def F150.b0:IR:=(iSr [iQo 3 (.mv aC0),iQo 4 (.mv aC0)] (.seq (.yw [] [(.s (.load aT2),0,[]),(iSm 0,0,[]),(.s (.zo 1 aS1 aS0),0,[]),(.s (.load aS0),0,[]),(.s (.load aT2),0,[]),(iSm 1,0,[]),(.s (.zo 1 aS1 aS0),0,[]),(.s (.load aS0),0,[]),(iQm 3 4,0,[]),(iQm 4 0,0,[])]) .ret))
def F150.res:List RV:=[.t (.of 3),.t (.of 4)]
def F150:Fn:={ params:=[(.of 0),(.of 1),(.of 2)],res:=F150.res,body:=F150.b0,init:=in5 }
theorem F150.ok:fnA Tryz.prog Tryz.f150 [0,1,2,5,6]=some F150:=by kernel_rfl
abbrev jm.fr:=fr5
def jm.b1:IR:=(iSr [iSm 0,iSm 1,.s (.len aS0),iCa 22 [aS2,aS0],iQm 2 0] .ret)
def jm.g0 (X1:IR):IR:=(iSr [iQo 2 (.mv aC0)] (.seq (iSr [iSm 1,iCa 134 [aS0],iQm 3 0] (iSr [iSm 3,iQo 4 (.bin .neq .int aS0 aC0)] (.cond aT4 (iSr [iSm 3,iQm 2 0] .ret) .skip))) X1))
def jm.b0:IR:=jm.g0 jm.b1
def jm.res:List RV:=[.t (.of 2)]
def jm:Fn:={ params:=[(.of 0),(.of 1)],res:=jm.res,body:=jm.b0,init:=in5 }
theorem jm.ok:fnA Tryz.prog Tryz.f156 [0,1,4,5,9]=some jm:=by kernel_rfl
abbrev yj.fr:=fr12
def yj.b3:IR:=(.reg [iWl 6 (.alloc [.zf,(.bool false)]),.w .none none (.store 2 aT6 fA)])
def yj.b6:IR:=(.reg [.s (.load aT5),iSm 7,.w .push none (.zy 1 1 [.zf] [(0,1,aS0)]),.w .push none (.app 1 24 aS2 aS0),.w .none none (.store 1 aT5 aS0)])
def yj.g5 (X6:IR):IR:=(iSr [.s (.zh 2 aT6),.s (.load aT2),iCa 135 [aS1,aS0],iQm 7 0] (.seq (iSr [iSm 7,iWl 11 (.call (.c (.fn 136 (.of 136) [])) [aS0,(.c (.fn 137 (.of 137) []))])] (.cond sV (iSr [.w .none none (.store 1 aT3 (.c .zf)),.w .none none (.store 1 aT4 aC3)] .ret) .skip)) X6))
def yj.b5:IR:=yj.g5 yj.b6
def yj.g4 (X5:IR):IR:=(.block 1 X5)
def yj.b4:IR:=yj.g4 yj.b5
def yj.g2 (X3 X4:IR):IR:=(.rf aT8 [(.of 9),(.of 10)] X3 X4)
def yj.b2:IR:=yj.g2 yj.b3 yj.b4
def yj.g1 (X2:IR):IR:=(.block 0 X2)
def yj.b1:IR:=yj.g1 yj.b2
def yj.b7:IR:=(iSr [.s (.load aT5),.w .push none (.call (.c (.fn 200 (.of 200) [])) [aS0,(.c (.fn 201 (.of 201) []))])] (iSr [.s (.load aT5),.w .push none (.call (.c (.fn 202 (.of 202) [])) [aS0,(.c (.fn 158 (.of 158) []))]),.w .none none (.store 1 aT3 aS0),.w .none none (.store 1 aT4 aC0)] .ret))
def yj.g0 (X1 X7:IR):IR:=(iSr [iWl 2 (.box aT1),iWl 3 (.alloc [.zf]),iWl 4 (.alloc [(I 0)])] (iSr [iWl 5 (.alloc [.zf])] (.seq (iSr [iSm 0,iWl 8 (.call (.c (.fn 90 (.of 90) [])) [aS0])] X1) X7)))
def yj.b0:IR:=yj.g0 yj.b1 yj.b7
def yj.res:List RV:=[.cell (.of 3) none,.cell (.of 4) none]
def yj:Fn:={ params:=[(.of 0),(.of 1)],res:=yj.res,body:=yj.b0,init:=in12 }
theorem yj.ok:fnA Tryz.prog Tryz.f157 [0,1,3,4,5,6,8,9,11,12,13,18]=some yj:=by kernel_rfl
abbrev uw.fr:=fr9
def uw.b7:IR:=(iSr [iSm 6,iQm 3 0] (.seq (.yw [] [(iSm 0,0,[]),(iSm 3,0,[]),(.s (.zo 1 aS1 aS0),0,[]),(.s (.load aS0),0,[]),(iSm 1,0,[]),(iSm 3,0,[]),(.s (.zo 1 aS1 aS0),0,[]),(.s (.load aS0),0,[]),(iQo 8 (.bin .neq .int aS4 aS0),0,[])]) (.cond aT8 (iSr [iQo 2 (.mv (.c (.bool false)))] .ret) .skip)))
def uw.g6 (X7:IR):IR:=(.block 1 X7)
def uw.b6:IR:=uw.g6 uw.b7
def uw.b8:IR:=(.reg [.s (.bin .add .int aT6 aC1),iQm 6 0])
def uw.g5 (X6 X8:IR):IR:=(.seq X6 X8)
def uw.b5:IR:=uw.g5 uw.b6 uw.b8
def uw.g4 (X5:IR):IR:=(iSr [iQo 7 (.bin .lss .int aT6 aT5)] (.seq (.cond aT7 .skip (.exit 0)) X5))
def uw.b4:IR:=uw.g4 uw.b5
def uw.g3 (X4:IR):IR:=(.loop X4)
def uw.b3:IR:=uw.g3 uw.b4
def uw.g2 (X3:IR):IR:=(.block 0 X3)
def uw.b2:IR:=uw.g2 uw.b3
def uw.b9:IR:=(iSr [iQo 2 (.mv (.c (.bool true)))] .ret)
def uw.g1 (X2 X9:IR):IR:=(.seq (iSr [iSm 0,iQo 5 (.len aS0),iQo 6 (.mv aC0)] X2) X9)
def uw.b1:IR:=uw.g1 uw.b2 uw.b9
def uw.g0 (X1:IR):IR:=(iSr [iQo 2 (.mv (.c (.bool false)))] (.seq (iSr [iSm 0,.s (.len aS0),iSm 1,.s (.len aS0),iQo 4 (.bin .neq .int aS2 aS0)] (.cond aT4 (iSr [iQo 2 (.mv (.c (.bool false)))] .ret) .skip)) X1))
def uw.b0:IR:=uw.g0 uw.b1
def uw.res:List RV:=[.t (.of 2)]
def uw:Fn:={ params:=[(.of 0),(.of 1)],res:=uw.res,body:=uw.b0,init:=in9 }
theorem uw.ok:fnA Tryz.prog Tryz.f158 [0,1,4,5,10,12,13,14,24]=some uw:=by kernel_rfl
abbrev qy.fr:=fr9
def qy.b6:IR:=(iSr [iSm 6,.s (.zo 2 aT4 aT6),.s (.zh 2 aS0),iWl 3 (.alloc [.zf,(.bool false)]),iQm 2 2,.w .none none (.store 2 aT3 aS0)] (iSr [iSm 0,iSm 2,.s (.zh 2 aT3),.w .push none (.call aS2 [aS1,aS0]),iQo 8 (.not aS0)] (.cond aT8 .ret .skip)))
def qy.g5 (X6:IR):IR:=(.block 1 X6)
def qy.b5:IR:=qy.g5 qy.b6
def qy.b7:IR:=(.reg [.s (.bin .add .int aT6 aC1),iQm 6 0])
def qy.g4 (X5 X7:IR):IR:=(.seq X5 X7)
def qy.b4:IR:=qy.g4 qy.b5 qy.b7
def qy.g3 (X4:IR):IR:=(iSr [iQo 7 (.bin .lss .int aT6 aT5)] (.seq (.cond aT7 .skip (.exit 0)) X4))
def qy.b3:IR:=qy.g3 qy.b4
def qy.g2 (X3:IR):IR:=(.loop X3)
def qy.b2:IR:=qy.g2 qy.b3
def qy.g1 (X2:IR):IR:=(.block 0 X2)
def qy.b1:IR:=qy.g1 qy.b2
def qy.g0 (X1:IR):IR:=(iSr [iQo 4 (.load aT1),iQo 5 (.len aT4),iQo 6 (.mv aC0)] X1)
def qy.b0:IR:=qy.g0 qy.b1
def qy.res:List RV:=[]
def qy:Fn:={ params:=[(.of 0),(.of 1)],res:=qy.res,body:=qy.b0,init:=in9 }
theorem qy.ok:fnA Tryz.prog Tryz.f159 [0,1,3,4,5,6,7,8,16]=some qy:=by kernel_rfl
abbrev dh.fr:=fr23
def dh.b10:IR:=(iSr [iSm 0,iSm 1,iSm 2,iSm 7,iCa 211 [aS3,aS2,aS1,aS0],.s (.mv aS0),.s (.ext 0 aS0),.s (.ext 1 aS1),iQm 10 1,iQm 11 0] (iSr [iSm 11,iQm 5 0] (iSr [iSm 10,iSm 1,.s (.bin .sub .int aS1 aS0),iSm 2,iSm 10,.s (.bin .sub .int aS1 aS0),iQm 12 3,iQm 13 0] (iSr [iSm 6,.s (.bin .quo .int aS0 aC8),iQm 14 0] (iSr [iSm 12,iSm 13,iQo 22 (.bin .lss .int aS1 aS0)] (.cond aT22 (iSr [iSm 12,iSm 14,.s (.bin .geq .int aS1 aS0),iQm 4 0] (iSr [iSm 0,iSm 1,iSm 10,iSm 3,iCa 160 [aS3,aS2,aS1,aS0]] (.reg [iSm 10,.s (.bin .add .int aS0 aC1),iQm 1 0]))) (iSr [iSm 13,iSm 14,.s (.bin .geq .int aS1 aS0),iQm 4 0] (iSr [iSm 0,iSm 10,.s (.bin .add .int aS0 aC1),iSm 2,iSm 3,iCa 160 [aS4,aS2,aS1,aS0]] (.reg [iSm 10,iQm 2 0])))))))))
def dh.g9 (X10:IR):IR:=(.seq (.seq (.yw [] [(iSm 1,0,[]),(.s (.bin .gtr .int aS0 aC0),0,[]),(.s (.mv aS0),0,[]),(iPt 0 (.mv aT0),0,[]),(iPt 1 (.mv aT1),0,[]),(iPt 2 (.bin .sub .int aS0 aC1),0,[]),(iPt 3 (.zo 1 aS2 aS0),0,[]),(iPt 4 (.load aS0),0,[]),(iPt 5 (.mv aT0),0,[]),(iPt 6 (.mv aT7),0,[]),(iPt 7 (.zo 1 aS1 aS0),0,[]),(iPt 8 (.load aS0),0,[]),(.w .push (some (aS9,true)) (.call (.c (.fn 209 (.of 209) [])) [aS4,aS0]),0,[]),(iPt 10 (.not aS0),0,[]),(iQo 21 (.pick aS11 aS0 (.c (.bool false))),0,[])]) (.cond aT21 (iSr [iSm 0,iSm 1,iSm 2,iSm 7,iCa 210 [aS3,aS2,aS1,aS0],iQm 9 0] (iSr [iSm 9,iQm 1 0] (.exit 1))) .skip)) X10)
def dh.b9:IR:=dh.g9 dh.b10
def dh.g8 (X9:IR):IR:=(.seq (iSr [iSm 4,.s (.mv aS0),iPt 0 (.mv aT5),.s (.pick aS1 aS0 (.c (.bool false))),.s (.mv aS0),iPt 0 (.mv aT8),iPt 1 (.bin .eql .int aS0 aC1),iQo 19 (.pick aS2 aS0 (.c (.bool false)))] (.cond aT19 (iSr [iSm 0,iSm 1,iSm 2,iWl 20 (.call (.c (.fn 208 (.of 208) [])) [aS2,aS1,aS0])] (.cond aT20 .ret .skip)) .skip)) X9)
def dh.b8:IR:=dh.g8 dh.b9
def dh.g7 (X8:IR):IR:=(iSr [iSm 0,iSm 1,iSm 2,iCa 206 [aS2,aS1,aS0],.s (.mv aS0),.s (.ext 0 aS0),.s (.ext 1 aS1),iQm 7 1,iQm 8 0] (.seq (iSr [iSm 8,iQo 18 (.bin .eql .int aS0 aC2)] (.cond aT18 (iSr [iSm 0,iSm 1,iSm 2,iCa 207 [aS2,aS1,aS0]] (iSr [iSm 2,.s (.bin .sub .int aS0 aC1),iSm 7,iSm 1,.s (.bin .sub .int aS1 aS0),.s (.bin .sub .int aS3 aS0),iQm 7 0] (.reg [iQo 8 (.mv aC1)]))) .skip)) X8))
def dh.b7:IR:=dh.g7 dh.b8
def dh.g6 (X7:IR):IR:=(.seq (iSr [iSm 4,iQo 17 (.not aS0)] (.cond aT17 (iSr [iSm 0,iSm 1,iSm 2,iCa 205 [aS2,aS1,aS0]] (.reg [iSm 3,.s (.bin .sub .int aS0 aC1),iQm 3 0])) .skip)) X7)
def dh.b6:IR:=dh.g6 dh.b7
def dh.g5 (X6:IR):IR:=(.seq (iSr [iSm 3,iQo 16 (.bin .eql .int aS0 aC0)] (.cond aT16 (iSr [iSm 0,iSm 1,iSm 2,iCa 204 [aS2,aS1,aS0]] .ret) .skip)) X6)
def dh.b5:IR:=dh.g5 dh.b6
def dh.g4 (X5:IR):IR:=(iSr [iSm 2,iSm 1,.s (.bin .sub .int aS1 aS0),iQm 6 0] (.seq (iSr [iSm 6,iQo 15 (.bin .leq .int aS0 aC12)] (.cond aT15 (iSr [iSm 0,iSm 1,iSm 2,iCa 203 [aS2,aS1,aS0]] .ret) .skip)) X5))
def dh.b4:IR:=dh.g4 dh.b5
def dh.g3 (X4:IR):IR:=(.block 1 X4)
def dh.b3:IR:=dh.g3 dh.b4
def dh.g2 (X3:IR):IR:=(.loop X3)
def dh.b2:IR:=dh.g2 dh.b3
def dh.g1 (X2:IR):IR:=(.block 0 X2)
def dh.b1:IR:=dh.g1 dh.b2
def dh.g0 (X1:IR):IR:=(iSr [iQo 4 (.mv (.c (.bool true)))] (iSr [iQo 5 (.mv (.c (.bool true)))] X1))
def dh.b0:IR:=dh.g0 dh.b1
def dh.res:List RV:=[]
def dh:Fn:={ params:=[(.of 0),(.of 1),(.of 2),(.of 3)],res:=dh.res,body:=dh.b0,init:=in23 }
theorem dh.ok:fnA Tryz.prog Tryz.f160 [0,1,2,3,8,9,10,11,12,13,14,15,16,17,18,23,29,35,50,68,72,87,113]=some dh:=by kernel_rfl
abbrev F161.fr:=fr2
def F161.b1:IR:=(iSr [iSm 0,iCa 213 [aS0],iQm 1 0] .ret)
def F161.g0 (X1:IR):IR:=(iSr [iQo 1 (.mv aC0)] (.seq (.cond (.c (.bool false)) (iSr [iSm 0,.s (.conv .u32 aS0),iCa 212 [aS0],iQm 1 0] .ret) .skip) X1))
def F161.b0:IR:=F161.g0 F161.b1
def F161.res:List RV:=[.t (.of 1)]
def F161:Fn:={ params:=[(.of 0)],res:=F161.res,body:=F161.b0,init:=in2 }
theorem F161.ok:fnA Tryz.prog Tryz.f161 [0,2]=some F161:=by kernel_rfl
abbrev rX.fr:=fr8
def rX.b2:IR:=(iSr [iQo 4 (.mv (.c (I (-1))))] .ret)
def rX.g1 (X2:IR):IR:=(.seq (iSr [.s (.zu 1 aT2),iQo 7 (.load aS0)] (.cond aT7 (iSr [iQo 4 (.mv aC1)] .ret) .skip)) X2)
def rX.b1:IR:=rX.g1 rX.b2
def rX.g0 (X1:IR):IR:=(iSr [iWl 2 (.box aT0),iWl 3 (.box aT1),iQo 4 (.mv aC0)] (.seq (iSr [.s (.zu 0 aT2),.s (.load aS0),.s (.zu 0 aT3),.s (.load aS0),iCa 201 [aS2,aS0],iQm 5 0] (iSr [iSm 5,.s (.bin .neq .int aS0 aC0),.s (.mv aS0),iPf 0 (.zu 1 aT2),iPf 1 (.load aS0),iPf 2 (.zu 1 aT3),iPf 3 (.load aS0),iPf 4 (.bin .eql .bool aS2 aS0),iQo 6 (.pick aS5 (.c (.bool true)) aS0)] (.cond aT6 (iSr [iSm 5,iQm 4 0] .ret) .skip))) X1))
def rX.b0:IR:=rX.g0 rX.b1
def rX.res:List RV:=[.t (.of 4)]
def rX:Fn:={ params:=[(.of 0),(.of 1)],res:=rX.res,body:=rX.b0,init:=in8 }
theorem rX.ok:fnA Tryz.prog Tryz.f162 [0,1,2,3,4,5,19,22]=some rX:=by kernel_rfl
abbrev qc.fr:=fr7
def qc.b6:IR:=(iSr [iSm 5,iQm 3 0] (.reg [.s (.zu 0 aT2),.s (.load aS0),iSm 3,iSm 3,.s (.zo 1 aS2 aS1),.w .none none (.store 1 aS0 aS1)]))
def qc.g5 (X6:IR):IR:=(.block 1 X6)
def qc.b5:IR:=qc.g5 qc.b6
def qc.b7:IR:=(.reg [.s (.bin .add .int aT5 aC1),iQm 5 0])
def qc.g4 (X5 X7:IR):IR:=(.seq X5 X7)
def qc.b4:IR:=qc.g4 qc.b5 qc.b7
def qc.g3 (X4:IR):IR:=(iSr [iQo 6 (.bin .lss .int aT5 aT4)] (.seq (.cond aT6 .skip (.exit 0)) X4))
def qc.b3:IR:=qc.g3 qc.b4
def qc.g2 (X3:IR):IR:=(.loop X3)
def qc.b2:IR:=qc.g2 qc.b3
def qc.g1 (X2:IR):IR:=(.block 0 X2)
def qc.b1:IR:=qc.g1 qc.b2
def qc.b8:IR:=(iSr [.s (.zh 2 aT2),.w .none none (.store 2 aT1 aS0)] .ret)
def qc.g0 (X1 X8:IR):IR:=(iSr [iWl 1 (.alloc [.zf,(.bool false)])] (iSr [iSm 0,.w .push none (.gy 1 8 [(I 0)] aS0 aS0),.s (.build [.zf,(.bool false)] [(0,1,aS0)]),iWl 2 (.alloc [.zf,(.bool false)]),.w .none none (.store 2 aT2 aS0)] (.seq (iSr [.s (.zu 0 aT2),.s (.load aS0),iQo 4 (.len aS0),iQo 5 (.mv aC0)] X1) X8)))
def qc.b0:IR:=qc.g0 qc.b1 qc.b8
def qc.res:List RV:=[.cell (.of 1) (some 2)]
def qc:Fn:={ params:=[(.of 0)],res:=qc.res,body:=qc.b0,init:=in7 }
theorem qc.ok:fnA Tryz.prog Tryz.f163 [0,2,3,4,10,11,12]=some qc:=by kernel_rfl
abbrev ni.fr:=fr8
def ni.b6:IR:=(iSr [.s (.zo 1 aT3 aT5),.s (.load aS0),iQm 2 0] (iSr [iSm 2,iQo 7 (.bin .neq .int aS0 aC0)] (.cond aT7 (iSr [iSm 2,iQm 1 0] .ret) .skip)))
def ni.g5 (X6:IR):IR:=(.block 1 X6)
def ni.b5:IR:=ni.g5 ni.b6
def ni.b7:IR:=(.reg [.s (.bin .add .int aT5 aC1),iQm 5 0])
def ni.g4 (X5 X7:IR):IR:=(.seq X5 X7)
def ni.b4:IR:=ni.g4 ni.b5 ni.b7
def ni.g3 (X4:IR):IR:=(iSr [iQo 6 (.bin .lss .int aT5 aT4)] (.seq (.cond aT6 .skip (.exit 0)) X4))
def ni.b3:IR:=ni.g3 ni.b4
def ni.g2 (X3:IR):IR:=(.loop X3)
def ni.b2:IR:=ni.g2 ni.b3
def ni.g1 (X2:IR):IR:=(.block 0 X2)
def ni.b1:IR:=ni.g1 ni.b2
def ni.b8:IR:=(iSr [iQo 1 (.mv aC0)] .ret)
def ni.g0 (X1 X8:IR):IR:=(iSr [iQo 1 (.mv aC0)] (.seq (iSr [iQo 3 (.mv aT0),iQo 4 (.len aT3),iQo 5 (.mv aC0)] X1) X8))
def ni.b0:IR:=ni.g0 ni.b1 ni.b8
def ni.res:List RV:=[.t (.of 1)]
def ni:Fn:={ params:=[(.of 0)],res:=ni.res,body:=ni.b0,init:=in8 }
theorem ni.ok:fnA Tryz.prog Tryz.f165 [0,2,4,5,6,7,8,12]=some ni:=by kernel_rfl
abbrev F166.fr:=fr6
def F166.b0:IR:=(iSr [iWl 3 (.box aT0),iWl 4 (.box aT1),iQo 5 (.mv aC0)] (iSr [iSm 2,.s (.fn 215 (.of 215) [aT3,aT4]),iCa 136 [aS1,aS0],iCa 167 [aS0,aC3],iQm 5 0] .ret))
def F166.res:List RV:=[.t (.of 5)]
def F166:Fn:={ params:=[(.of 0),(.of 1),(.of 2)],res:=F166.res,body:=F166.b0,init:=in6 }
theorem F166.ok:fnA Tryz.prog Tryz.f166 [0,1,2,3,4,6]=some F166:=by kernel_rfl
abbrev F167.fr:=fr4
def F167.b1:IR:=(iSr [iQo 2 (.mv aC0)] .ret)
def F167.g0 (X1:IR):IR:=(iSr [iQo 2 (.mv aC0)] (.seq (iSr [iQo 3 (.mv aT0)] (.cond aT3 (iSr [iSm 1,iQm 2 0] .ret) .skip)) X1))
def F167.b0:IR:=F167.g0 F167.b1
def F167.res:List RV:=[.t (.of 2)]
def F167:Fn:={ params:=[(.of 0),(.of 1)],res:=F167.res,body:=F167.b0,init:=in4 }
theorem F167.ok:fnA Tryz.prog Tryz.f167 [0,1,4,5]=some F167:=by kernel_rfl
end
end Go.Ev
