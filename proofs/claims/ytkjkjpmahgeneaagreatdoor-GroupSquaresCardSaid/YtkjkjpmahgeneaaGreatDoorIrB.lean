import Derived.Test.YtkjkjpmahgeneaaGreatDoorIrA
import Derived.Test.YtkjkjpmahgeneaaGreatDoorEvC
import Derived.Test.YtkjkjpmahgeneaaGreatDoorProg
import Derived.KernelRfl
set_option linter.unusedSimpArgs false
set_option linter.unusedVariables false
namespace Go.Ev
open Go Go.Proofs
set_option maxRecDepth 100000
noncomputable section

abbrev fO.fr:=fr9
def fO.b6:IR:=(iSr [.s (.zo 1 aT5 aT7),.s (.load aS0),iQm 4 0] (.yw [] [(.s (.load aT3),1,[]),(iSm 4,0,[]),(.s (.build [.zf,(.bool false)] [(0,1,aS0)]),0,[]),(iCa 123 [aS0],0,[]),(.w .none none (.zaa .str aS3 aS0 (.c (.bool true))),0,[])]))
def fO.g5 (X6:IR):IR:=(.block 1 X6)
def fO.b5:IR:=fO.g5 fO.b6
def fO.b7:IR:=(.reg [.s (.bin .add .int aT7 aC1),iQm 7 0])
def fO.g4 (X5 X7:IR):IR:=(.seq X5 X7)
def fO.b4:IR:=fO.g4 fO.b5 fO.b7
def fO.g3 (X4:IR):IR:=(iSr [iQo 8 (.bin .lss .int aT7 aT6)] (.seq (.cond aT8 .skip (.exit 0)) X4))
def fO.b3:IR:=fO.g3 fO.b4
def fO.g2 (X3:IR):IR:=(.loop X3)
def fO.b2:IR:=fO.g2 fO.b3
def fO.g1 (X2:IR):IR:=(.block 0 X2)
def fO.b1:IR:=fO.g1 fO.b2
def fO.b8:IR:=(iSr [.s (.fn 169 (.of 169) [aT3]),iQm 2 0] .ret)
def fO.g0 (X1 X8:IR):IR:=(iSr [iWl 1 (.box aT0),iQo 2 (.mv (.c .sF))] (iSr [.w .push none .fH,iWl 3 (.alloc [.gq]),.w .none none (.store 1 aT3 aS0)] (.seq (iSr [.s (.zy 1 aT1),iQo 5 (.load aS0),iQo 6 (.len aT5),iQo 7 (.mv aC0)] X1) X8)))
def fO.b0:IR:=fO.g0 fO.b1 fO.b8
def fO.res:List RV:=[.t (.of 2)]
def fO:Fn:={ params:=[(.of 0)],res:=fO.res,body:=fO.b0,init:=in9 }
theorem fO.ok:fnA Tryz.prog Tryz.f104 [0,1,2,3,5,8,9,10,11]=some fO:=by kernel_rfl
abbrev uh.fr:=fr23
def uh.b14:IR:=(iSr [.s (.zo 1 aT17 aT19),.s (.load aS0),iQm 10 0] (iSr [.s (.load aT6),.s (.load aT3),iSm 10,.w .push none (.call aS2 [aS1,aS0]),iQo 21 (.not aS0)] (.cond aT21 (.exit 1) .skip)))
def uh.g13 (X14:IR):IR:=(.block 3 X14)
def uh.b13:IR:=uh.g13 uh.b14
def uh.b15:IR:=(.reg [.s (.bin .add .int aT19 aC1),iQm 19 0])
def uh.g12 (X13 X15:IR):IR:=(.seq X13 X15)
def uh.b12:IR:=uh.g12 uh.b13 uh.b15
def uh.g11 (X12:IR):IR:=(iSr [iQo 20 (.bin .lss .int aT19 aT18)] (.seq (.cond aT20 .skip (.exit 2)) X12))
def uh.b11:IR:=uh.g11 uh.b12
def uh.g10 (X11:IR):IR:=(.loop X11)
def uh.b10:IR:=uh.g10 uh.b11
def uh.g9 (X10:IR):IR:=(.block 2 X10)
def uh.b9:IR:=uh.g9 uh.b10
def uh.b16:IR:=(iSr [.s (.load aT4),iSm 9,.s (.zo 1 aS1 aS0),.w .none none (.store 1 aS0 (.c (.bool true)))] (iSr [.s (.load aT7),iSm 0,.s (.bin .add .int aS0 aC1),.w .push none (.call aS2 [aS0]),iQm 11 0] (iSr [.s (.load aT4),iSm 9,.s (.zo 1 aS1 aS0),.w .none none (.store 1 aS0 (.c (.bool false)))] (iSr [iSm 11,iQo 22 (.not aS0)] (.cond aT22 (iSr [iQo 8 (.mv (.c (.bool false)))] .ret) .skip)))))
def uh.g8 (X9 X16:IR):IR:=(iSr [.s (.load aT3),iSm 0,iSm 9,.s (.zo 1 aS2 aS1),.w .none none (.store 1 aS0 aS1)] (.seq (iSr [.s (.load aT5),iSm 0,.s (.zo 1 aS1 aS0),iQo 17 (.load aS0),iQo 18 (.len aT17),iQo 19 (.mv aC0)] X9) X16))
def uh.b8:IR:=uh.g8 uh.b9 uh.b16
def uh.g7 (X8:IR):IR:=(iSr [iSm 14,iQm 9 0] (.seq (iSr [.s (.load aT4),iSm 9,.s (.zo 1 aS1 aS0),iQo 16 (.load aS0)] (.cond aT16 (.exit 1) .skip)) X8))
def uh.b7:IR:=uh.g7 uh.b8
def uh.g6 (X7:IR):IR:=(.block 1 X7)
def uh.b6:IR:=uh.g6 uh.b7
def uh.b17:IR:=(.reg [.s (.bin .add .int oJ aC1),iQm 14 0])
def uh.g5 (X6 X17:IR):IR:=(.seq X6 X17)
def uh.b5:IR:=uh.g5 uh.b6 uh.b17
def uh.g4 (X5:IR):IR:=(iSr [iQo 15 (.bin .lss .int oJ rJ)] (.seq (.cond aT15 .skip (.exit 0)) X5))
def uh.b4:IR:=uh.g4 uh.b5
def uh.g3 (X4:IR):IR:=(.loop X4)
def uh.b3:IR:=uh.g3 uh.b4
def uh.g2 (X3:IR):IR:=(.block 0 X3)
def uh.b2:IR:=uh.g2 uh.b3
def uh.b18:IR:=(iSr [iQo 8 (.mv (.c (.bool true)))] .ret)
def uh.g1 (X2 X18:IR):IR:=(.seq .skip (.seq (iSr [.s (.zy 0 aT1),iQo 13 (.load aS0),iQo 14 (.mv aC0)] X2) X18))
def uh.b1:IR:=uh.g1 uh.b2 uh.b18
def uh.g0 (X1:IR):IR:=(iSr [iQo 8 (.mv (.c (.bool false)))] (.seq (iSr [iSm 0,.s (.zy 0 aT1),.s (.load aS0),iQo 12 (.bin .eql .int aS2 aS0)] (.cond sN (.seq (.yw [] [(.s (.load aT2),2,[]),(.s (.load aT3),0,[]),(iCa 106 [aS0],0,[]),(.s (.build [.zf,(.bool false)] [(0,1,aS0)]),0,[]),(.w .push none (.zx 2 1 [.zf,(.bool false)] [(0,2,aS0)]),0,[]),(.w .push none (.aO 2 32 aS4 aS0),0,[]),(.w .none none (.store 1 aT2 aS0),0,[])]) (iSr [.s (.load aT2),.s (.len aS0),.s (.bin .leq .int aS0 zb7),iQm 8 0] .ret)) .skip)) X1))
def uh.b0:IR:=uh.g0 uh.b1
def uh.res:List RV:=[.t (.of 8)]
def uh:Fn:={ params:=[(.of 0),(.of 1),(.of 2),(.of 3),(.of 4),(.of 5),(.of 6),(.of 7)],res:=uh.res,body:=uh.b0,init:=in23 }
theorem uh.ok:fnA Tryz.prog Tryz.f105 [0,1,2,3,4,5,6,7,9,10,12,13,17,28,29,30,35,43,44,45,46,53,66]=some uh:=by kernel_rfl
abbrev eX.fr:=fr3
def eX.b1:IR:=(iSr [.w .push none (.zx 1 0 [(I 0)] []),iSm 0,.w .push none (.app 1 8 aS1 aS0),iQm 1 0] .ret)
def eX.g0 (X1:IR):IR:=(iSr [iQo 1 (.mv (.c .zf))] (.seq (iSr [iSm 0,iQo 2 (.bin .eql (.nil .sl) aS0 (.c .zf))] (.cond aT2 (iSr [iQo 1 (.mv (.c .zf))] .ret) .skip)) X1))
def eX.b0:IR:=eX.g0 eX.b1
def eX.res:List RV:=[.t (.of 1)]
def eX:Fn:={ params:=[(.of 0)],res:=eX.res,body:=eX.b0,init:=in3 }
theorem eX.ok:fnA Tryz.prog Tryz.f106 [0,2,4]=some eX:=by kernel_rfl
abbrev vg.fr:=fr11
def vg.b9:IR:=(.reg [iSm 4,.s (.bin .mul .int aS0 jF),iSm 6,.s (.bin .add .int aS1 aS0),iQm 4 0])
def vg.g8 (X9:IR):IR:=(.seq (iSr [iSm 4,.s (.bin .gtr .int aS0 mH),.s (.mv aS0),iPf 0 (.mv aT4),iPf 1 (.bin .lss .int aS0 (.c (I (-9223372036)))),.s (.pick aS2 (.c (.bool true)) aS0),.s (.mv aS0),iPf 0 (.mv aT4),iPf 1 (.bin .eql .int aS0 mH),iPf 2 (.mv aS0),iPt 0 (.mv aT6),iPt 1 (.bin .gtr .int aS0 zfz),iPf 5 (.pick aS2 aS0 (.c (.bool false))),.s (.pick aS6 (.c (.bool true)) aS0),.s (.mv aS0),iPf 0 (.mv aT4),iPf 1 (.bin .eql .int aS0 (.c (I (-9223372036)))),iPf 2 (.mv aS0),iPt 0 (.mv aT6),iPt 1 (.bin .lss .int aS0 (.c (I (-854775808)))),iPf 5 (.pick aS2 aS0 (.c (.bool false))),iQo 10 (.pick aS6 (.c (.bool true)) aS0)] (.cond bf (iSr [iQo 1 (.mv aC0),iQo 2 (.mv (.c (.bool false)))] .ret) .skip)) X9)
def vg.b8:IR:=vg.g8 vg.b9
def vg.g7 (X8:IR):IR:=(iSr [.s (.zy 1 aT3),.s (.load aS0),iSm 5,.s (.zo 1 aS1 aS0),.s (.load aS0),iQm 6 0] (.seq (iSr [.s (.zy 0 aT3),iQo 9 (.load aS0)] (.cond aT9 (.reg [iSm 6,.s (.bin .sub .int aC0 aS0),iQm 6 0]) .skip)) X8))
def vg.b7:IR:=vg.g7 vg.b8
def vg.g6 (X7:IR):IR:=(.block 1 X7)
def vg.b6:IR:=vg.g6 vg.b7
def vg.b10:IR:=(.reg [iSm 5,.s (.bin .sub .int aS0 aC1),iQm 5 0])
def vg.g5 (X6 X10:IR):IR:=(.seq X6 X10)
def vg.b5:IR:=vg.g5 vg.b6 vg.b10
def vg.g4 (X5:IR):IR:=(.seq (iSr [iSm 5,iQo 8 (.bin .geq .int aS0 aC0)] (.cond aT8 .skip (.exit 0))) X5)
def vg.b4:IR:=vg.g4 vg.b5
def vg.g3 (X4:IR):IR:=(.loop X4)
def vg.b3:IR:=vg.g3 vg.b4
def vg.g2 (X3:IR):IR:=(.block 0 X3)
def vg.b2:IR:=vg.g2 vg.b3
def vg.b11:IR:=(iSr [iSm 4,iQm 1 0,iQo 2 (.mv (.c (.bool true)))] .ret)
def vg.g1 (X2 X11:IR):IR:=(iSr [iSm 0,iCa 171 [aS0],iWl 3 (.alloc [(.bool false),.zf]),.w .none none (.store 2 aT3 aS0)] (iSr [iQo 4 (.mv aC0)] (.seq (iSr [.s (.zy 1 aT3),.s (.load aS0),.s (.len aS0),.s (.bin .sub .int aS0 aC1),iQm 5 0] X2) X11)))
def vg.b1:IR:=vg.g1 vg.b2 vg.b11
def vg.g0 (X1:IR):IR:=(iSr [iQo 1 (.mv aC0),iQo 2 (.mv (.c (.bool false)))] (.seq (iSr [iSm 0,iCa 170 [aS0],.s (.not aS0),.s (.mv aS0),iPf 0 (.mv aT0),iPf 1 (.slen aS0),iPf 2 (.bin .gtr .int aS0 aC20),iQo 7 (.pick aS3 (.c (.bool true)) aS0)] (.cond aT7 (iSr [iQo 1 (.mv aC0),iQo 2 (.mv (.c (.bool false)))] .ret) .skip)) X1))
def vg.b0:IR:=vg.g0 vg.b1
def vg.res:List RV:=[.t (.of 1),.t (.of 2)]
def vg:Fn:={ params:=[(.of 0)],res:=vg.res,body:=vg.b0,init:=in11 }
theorem vg.ok:fnA Tryz.prog Tryz.f107 [0,2,3,4,5,6,7,15,23,32,56]=some vg:=by kernel_rfl
abbrev fP.fr:=fr5
def fP.b6:IR:=(.reg [iSm 2,iSm 3,iCa 49 [aS0],iCa 172 [aS2,aS0],iQm 2 0])
def fP.g5 (X6:IR):IR:=(.block 1 X6)
def fP.b5:IR:=fP.g5 fP.b6
def fP.b7:IR:=(.reg [iSm 3,.s (.bin .add .int aS0 aC1),iQm 3 0])
def fP.g4 (X5 X7:IR):IR:=(.seq X5 X7)
def fP.b4:IR:=fP.g4 fP.b5 fP.b7
def fP.g3 (X4:IR):IR:=(.seq (iSr [iSm 3,iSm 0,iQo 4 (.bin .leq .int aS1 aS0)] (.cond aT4 .skip (.exit 0))) X4)
def fP.b3:IR:=fP.g3 fP.b4
def fP.g2 (X3:IR):IR:=(.loop X3)
def fP.b2:IR:=fP.g2 fP.b3
def fP.g1 (X2:IR):IR:=(.block 0 X2)
def fP.b1:IR:=fP.g1 fP.b2
def fP.b8:IR:=(iSr [iSm 2,iQm 1 0] .ret)
def fP.g0 (X1 X8:IR):IR:=(iSr [iQo 1 (.mv (.c (.str [])))] (iSr [iQo 2 (.mv (.c (.str [49])))] (.seq (iSr [iQo 3 (.mv aC2)] X1) X8)))
def fP.b0:IR:=fP.g0 fP.b1 fP.b8
def fP.res:List RV:=[.t (.of 1)]
def fP:Fn:={ params:=[(.of 0)],res:=fP.res,body:=fP.b0,init:=in5 }
theorem fP.ok:fnA Tryz.prog Tryz.f108 [0,2,3,4,7]=some fP:=by kernel_rfl
abbrev fQ.fr:=fr9
def fQ.b6:IR:=(iSr [iSm 5,.s (.bin .sub .int aS0 aC1),iCa 108 [aS0],iQm 6 0] (iSr [iSm 1,iSm 6,iCa 119 [aS1,aS0],iCa 173 [aS0],iCa 107 [aS0],.s (.mv aS0),.s (.ext 0 aS0),.s (.ext 1 aS1),iQm 7 1,.s (.mv aS0)] (iSr [iSm 1,iSm 7,iCa 49 [aS0],iSm 6,iCa 172 [aS1,aS0],iCa 133 [aS4,aS0],iQm 1 0] (iSr [iSm 4,iSm 3,iSm 7,.s (.zo 1 aS1 aS0),.s (.load aS0),.w .push none (.zx 1 1 [(I 0)] [(0,1,aS0)]),.w .push none (.app 1 8 aS5 aS0),iQm 4 0] (.yw [] [(iSm 3,1,[]),(iSm 7,1,[]),(.s (.slice 1 aS1 none (some aS0) none),1,[]),(iSm 3,2,[]),(iSm 7,2,[]),(.s (.bin .add .int aS0 aC1),2,[]),(.s (.slice 1 aS2 (some aS0) none none),2,[]),(.w .push none (.zx 1 0 [(I 0)] []),0,[]),(.w .push none (.app 1 8 aS0 aS5),0,[]),(.w .push none (.app 1 8 aS0 aS2),0,[]),(iQm 3 0,0,[])])))))
def fQ.g5 (X6:IR):IR:=(.block 1 X6)
def fQ.b5:IR:=fQ.g5 fQ.b6
def fQ.b7:IR:=(.reg [iSm 5,.s (.bin .sub .int aS0 aC1),iQm 5 0])
def fQ.g4 (X5 X7:IR):IR:=(.seq X5 X7)
def fQ.b4:IR:=fQ.g4 fQ.b5 fQ.b7
def fQ.g3 (X4:IR):IR:=(.seq (iSr [iSm 5,iQo 8 (.bin .gtr .int aS0 aC0)] (.cond aT8 .skip (.exit 0))) X4)
def fQ.b3:IR:=fQ.g3 fQ.b4
def fQ.g2 (X3:IR):IR:=(.loop X3)
def fQ.b2:IR:=fQ.g2 fQ.b3
def fQ.g1 (X2:IR):IR:=(.block 0 X2)
def fQ.b1:IR:=fQ.g1 fQ.b2
def fQ.b8:IR:=(iSr [iSm 4,iQm 2 0] .ret)
def fQ.g0 (X1 X8:IR):IR:=(iSr [iQo 2 (.mv (.c .zf))] (iSr [iSm 0,iCa 101 [aS0],iQm 3 0] (iSr [iQo 4 (.mv (.c .zf))] (.seq (iSr [iSm 0,iQm 5 0] X1) X8))))
def fQ.b0:IR:=fQ.g0 fQ.b1 fQ.b8
def fQ.res:List RV:=[.t (.of 2)]
def fQ:Fn:={ params:=[(.of 0),(.of 1)],res:=fQ.res,body:=fQ.b0,init:=in9 }
theorem fQ.ok:fnA Tryz.prog Tryz.f109 [0,1,4,5,6,7,8,9,15]=some fQ:=by kernel_rfl
abbrev F110.fr:=fr2
def F110.b0:IR:=(iSr [iWl 1 (.alloc [(I 0),.zf])] (iSr [iSm 0,.s (.build [(I 0),.zf] [(0,1,aS0)]),.w .none none (.store 2 aT1 aS0)] .ret))
def F110.res:List RV:=[.cell (.of 1) (some 2)]
def F110:Fn:={ params:=[(.of 0)],res:=F110.res,body:=F110.b0,init:=in2 }
theorem F110.ok:fnA Tryz.prog Tryz.f110 [0,2]=some F110:=by kernel_rfl
abbrev aF.fr:=fr14
def aF.b3:IR:=(iSr [iSm 6,iSm 8,.s (.bin .eql .bool aS1 aS0),iQm 12 0] (.cond sN (iSr [iSm 6,iSm 7,iSm 9,iCa 176 [aS1,aS0],iCa 175 [aS3,aS0],.w .none none (.store 2 aT4 aS0)] .ret) (iSr [iSm 7,iSm 9,iCa 177 [aS1,aS0],.s (.bin .geq .int aS0 aC0),iQm 13 0] (.cond rJ (iSr [iSm 6,iSm 7,iSm 9,iCa 178 [aS1,aS0],iCa 175 [aS3,aS0],.w .none none (.store 2 aT4 aS0)] .ret) .skip))))
def aF.g2 (X3:IR):IR:=(.block 0 X3)
def aF.b2:IR:=aF.g2 aF.b3
def aF.b4:IR:=(iSr [iSm 8,iSm 9,iSm 7,iCa 178 [aS1,aS0],iCa 175 [aS3,aS0],.w .none none (.store 2 aT4 aS0)] .ret)
def aF.g1 (X2 X4:IR):IR:=(iSr [.s (.zh 2 aT2),iCa 174 [aS0],.s (.mv aS0),.s (.ext 0 aS0),.s (.ext 1 aS1),iQm 6 1,iQm 7 0] (iSr [.s (.zh 2 aT3),iCa 174 [aS0],.s (.mv aS0),.s (.ext 0 aS0),.s (.ext 1 aS1),iQm 8 1,iQm 9 0] (.seq X2 X4)))
def aF.b1:IR:=aF.g1 aF.b2 aF.b4
def aF.g0 (X1:IR):IR:=(iSr [iWl 2 (.box aT0),iWl 3 (.box aT1),iWl 4 (.alloc [(I 0),.zf])] (.seq (iSr [.s (.zy 1 aT2),.s (.load aS0),.s (.bin .eql (.nil .sl) aS0 (.c .zf)),.s (.mv aS0),iPt 0 (.zy 1 aT3),iPt 1 (.load aS0),iPt 2 (.bin .eql (.nil .sl) aS0 (.c .zf)),iQo 10 (.pick aS3 aS0 (.c (.bool false)))] (.cond bf (iSr [.s (.zy 0 aT2),.s (.load aS0),.s (.zy 0 aT3),.s (.load aS0),.s (.bin .add .int aS2 aS0),iQm 5 0] (iSr [iSm 5,.s (.zy 0 aT2),.s (.load aS0),.s (.bin .gtr .int aS2 aS0),.s (.zy 0 aT3),.s (.load aS0),.s (.bin .gtr .int aS0 aC0),iQo 11 (.bin .eql .bool aS3 aS0)] (.cond rQ (iSr [iSm 5,.s (.build [(I 0),.zf] [(0,1,aS0)]),.w .none none (.store 2 aT4 aS0)] .ret) .skip))) .skip)) X1))
def aF.b0:IR:=aF.g0 aF.b1
def aF.res:List RV:=[.cell (.of 4) (some 2)]
def aF:Fn:={ params:=[(.of 0),(.of 1)],res:=aF.res,body:=aF.b0,init:=in14 }
theorem aF.ok:fnA Tryz.prog Tryz.f111 [0,1,2,3,4,5,6,7,8,9,17,30,43,52]=some aF:=by kernel_rfl
abbrev cu.fr:=fr12
def cu.b7:IR:=(.yw [] [(.s (.zh 2 aT4),1,[]),(iSm 6,0,[]),(iCa 110 [aS0],0,[]),(iCa 179 [aS2,aS0],0,[]),(.w .none none (.store 2 aT4 aS0),0,[])])
def cu.g6 (X7:IR):IR:=(iSr [.s (.zo 1 aT7 aT9),.s (.load aS0),iQm 5 0] (iSr [iSm 1,iQm 6 0] (.seq (iSr [.s (.zy 1 aT2),.s (.load aS0),.s (.mv aS0),iPt 0 (.mv aT5),iPt 1 (.bin .rem .int aS0 aC2),iPt 2 (.bin .eql .int aS0 aC1),iQo 11 (.pick aS3 aS0 (.c (.bool false)))] (.cond rQ (.reg [iSm 1,.s (.bin .rem .int aS0 aC2),iQm 6 0]) .skip)) X7)))
def cu.b6:IR:=cu.g6 cu.b7
def cu.g5 (X6:IR):IR:=(.block 1 X6)
def cu.b5:IR:=cu.g5 cu.b6
def cu.b8:IR:=(.reg [.s (.bin .add .int aT9 aC1),iQm 9 0])
def cu.g4 (X5 X8:IR):IR:=(.seq X5 X8)
def cu.b4:IR:=cu.g4 cu.b5 cu.b8
def cu.g3 (X4:IR):IR:=(iSr [iQo 10 (.bin .lss .int aT9 aT8)] (.seq (.cond bf .skip (.exit 0)) X4))
def cu.b3:IR:=cu.g3 cu.b4
def cu.g2 (X3:IR):IR:=(.loop X3)
def cu.b2:IR:=cu.g2 cu.b3
def cu.g1 (X2:IR):IR:=(.block 0 X2)
def cu.b1:IR:=cu.g1 cu.b2
def cu.b9:IR:=(iSr [.s (.zh 2 aT4),.w .none none (.store 2 aT3 aS0)] .ret)
def cu.g0 (X1 X9:IR):IR:=(iSr [iWl 2 (.box aT0),iWl 3 (.alloc [(I 0),.zf])] (iSr [iCa 110 [aC1],iWl 4 (.alloc [(I 0),.zf]),.w .none none (.store 2 aT4 aS0)] (.seq (iSr [.s (.zh 2 aT2),iWl 7 (.call (.c (.fn 138 (.of 138) [])) [aS0]),iQo 8 (.len aT7),iQo 9 (.mv aC0)] X1) X9)))
def cu.b0:IR:=cu.g0 cu.b1 cu.b9
def cu.res:List RV:=[.cell (.of 3) (some 2)]
def cu:Fn:={ params:=[(.of 0),(.of 1)],res:=cu.res,body:=cu.b0,init:=in12 }
theorem cu.ok:fnA Tryz.prog Tryz.f112 [0,1,2,4,5,7,8,11,12,13,14,24]=some cu:=by kernel_rfl
abbrev F113.fr:=fr3
def F113.b0:IR:=(iSr [iWl 1 (.box aT0),iWl 2 (.alloc [(I 0),.zf,(I 0),.zf])] (.seq (.yw [] [(.s (.zh 2 aT1),1,[]),(iCa 110 [aC1],0,[]),(.s (.build [(I 0),.zf,(I 0),.zf] [(0,2,aS1),(2,2,aS0)]),0,[]),(.w .none none (.store 4 aT2 aS0),0,[])]) .ret))
def F113.res:List RV:=[.cell (.of 2) (some 4)]
def F113:Fn:={ params:=[(.of 0)],res:=F113.res,body:=F113.b0,init:=in3 }
theorem F113.ok:fnA Tryz.prog Tryz.f113 [0,1,2]=some F113:=by kernel_rfl
abbrev F114.fr:=fr7
def F114.b1:IR:=(iSr [.s (.zh 2 aT2),.s (.zh 2 aT3),iCa 182 [aS1,aS0],.s (.mv aS0),.s (.ext 0 aS0),.s (.ext 1 aS1),iWl 5 (.alloc [(I 0),.zf]),.w .push none (.alloc [(I 0),.zf]),.w .none none (.store 2 aT5 aS2),.w .none none (.store 2 aS0 aS1)] (iSr [.s (.zh 2 aT5),.w .none none (.store 2 aT4 aS0)] .ret))
def F114.g0 (X1:IR):IR:=(iSr [iWl 2 (.box aT0),iWl 3 (.box aT1),iWl 4 (.alloc [(I 0),.zf])] (.seq (iSr [.s (.zh 2 aT3),iCa 180 [aS0],iQo 6 (.bin .lss .int aS0 aC0)] (.cond aT6 (.yw [] [(.s (.zh 2 aT2),0,[]),(.s (.zh 2 aT3),1,[]),(iCa 181 [aS1],0,[]),(iCa 181 [aS1],0,[]),(.w .none none (.store 2 aT2 aS1),0,[]),(.w .none none (.store 2 aT3 aS0),0,[])]) .skip)) X1))
def F114.b0:IR:=F114.g0 F114.b1
def F114.res:List RV:=[.cell (.of 4) (some 2)]
def F114:Fn:={ params:=[(.of 0),(.of 1)],res:=F114.res,body:=F114.b0,init:=in7 }
theorem F114.ok:fnA Tryz.prog Tryz.f114 [0,1,2,3,4,5,9]=some F114:=by kernel_rfl
abbrev F115.fr:=fr3
def F115.b0:IR:=(iSr [iWl 1 (.box aT0),iQo 2 (.mv (.c (.bool false)))] (iSr [.s (.zy 0 aT1),.s (.zh 2 aS0),iCa 183 [aS0],.s (.mv aS0),iPf 0 (.zy 2 aT1),iPf 1 (.zh 2 aS0),.w .push (some (aS2,false)) (.call (.c (.fn 183 (.of 183) [])) [aS0]),.s (.pick aS3 (.c (.bool true)) aS0),iQm 2 0] .ret))
def F115.res:List RV:=[.t (.of 2)]
def F115:Fn:={ params:=[(.of 0)],res:=F115.res,body:=F115.b0,init:=in3 }
theorem F115.ok:fnA Tryz.prog Tryz.f115 [0,1,2]=some F115:=by kernel_rfl
abbrev F116.fr:=fr4
def F116.b1:IR:=(.seq (.yw [] [(.s (.zy 0 aT1),0,[]),(.s (.zh 2 aS0),0,[]),(.s (.zy 2 aT1),1,[]),(.s (.zh 2 aS0),1,[]),(iCa 185 [aS2],0,[]),(.s (.bin .add .str aS0 (.c (.str [47]))),1,[]),(iCa 185 [aS2],0,[]),(.s (.bin .add .str aS1 aS0),0,[]),(iQm 2 0,0,[])]) .ret)
def F116.g0 (X1:IR):IR:=(iSr [iWl 1 (.box aT0),iQo 2 (.mv (.c (.str [])))] (.seq (iSr [.s (.zh 4 aT1),iWl 3 (.call (.c (.fn 184 (.of 184) [])) [aS0])] (.cond aT3 (iSr [.s (.zy 0 aT1),.s (.zh 2 aS0),iCa 185 [aS0],iQm 2 0] .ret) .skip)) X1))
def F116.b0:IR:=F116.g0 F116.b1
def F116.res:List RV:=[.t (.of 2)]
def F116:Fn:={ params:=[(.of 0)],res:=F116.res,body:=F116.b0,init:=in4 }
theorem F116.ok:fnA Tryz.prog Tryz.f116 [0,1,2,4]=some F116:=by kernel_rfl
abbrev F117.fr:=fr14
def F117.b1:IR:=(iSr [iSm 0,iCa 128 [aS0],.s (.mv aS0),.s (.ext 0 aS0),.s (.ext 1 aS1),iWl 9 (.alloc [(.bool false),.zf]),iWl 10 (.alloc [(.bool false),.zf]),.w .none none (.store 2 aT9 aS1),.w .none none (.store 2 bf aS0)] (iSr [iSm 1,iCa 128 [aS0],.s (.mv aS0),.s (.ext 0 aS0),.s (.ext 1 aS1),iWl 11 (.alloc [(.bool false),.zf]),iWl 12 (.alloc [(.bool false),.zf]),.w .none none (.store 2 rQ aS1),.w .none none (.store 2 sN aS0)] (.seq (.yw [] [(.s (.zh 2 aT9),0,[]),(.s (.zh 2 sN),0,[]),(.s (.zh 2 rQ),1,[]),(.s (.zh 2 bf),1,[]),(.s (.zh 2 bf),3,[]),(.s (.zh 2 sN),3,[]),(iCa 190 [aS5,aS4],0,[]),(iCa 190 [aS4,aS3],0,[]),(iCa 189 [aS1,aS0],0,[]),(iCa 190 [aS4,aS3],0,[]),(iCa 188 [aS1,aS0],0,[]),(iQm 2 0,0,[])]) .ret)))
def F117.g0 (X1:IR):IR:=(iSr [iQo 2 (.mv (.c (.str [])))] (iSr [iSm 0,iCa 186 [aS0],.s (.mv aS0),.s (.ext 0 aS0),.s (.ext 1 aS1),.s (.ext 2 aS2),iQm 3 2,iQm 4 1,iQm 5 0] (iSr [iSm 1,iCa 186 [aS0],.s (.mv aS0),.s (.ext 0 aS0),.s (.ext 1 aS1),.s (.ext 2 aS2),iQm 6 2,iQm 7 1,iQm 8 0] (.seq (iSr [iSm 5,.s (.mv aS0),iPt 0 (.mv aT8),iQo 13 (.pick aS1 aS0 (.c (.bool false)))] (.cond rJ (iSr [iSm 3,iSm 7,.s (.bin .mul .int aS1 aS0),iSm 6,iSm 4,.s (.bin .mul .int aS1 aS0),.s (.bin .add .int aS3 aS0),iSm 4,iSm 7,.s (.bin .mul .int aS1 aS0),iCa 187 [aS3,aS0],iQm 2 0] .ret) .skip)) X1))))
def F117.b0:IR:=F117.g0 F117.b1
def F117.res:List RV:=[.t (.of 2)]
def F117:Fn:={ params:=[(.of 0),(.of 1)],res:=F117.res,body:=F117.b0,init:=in14 }
theorem F117.ok:fnA Tryz.prog Tryz.f117 [0,1,4,5,6,7,8,9,10,11,12,13,14,30]=some F117:=by kernel_rfl
abbrev F119.fr:=fr3
def F119.b0:IR:=(iSr [iQo 2 (.mv (.c (.str [])))] (iSr [iSm 0,iSm 1,iCa 191 [aS0],iCa 172 [aS2,aS0],iQm 2 0] .ret))
def F119.res:List RV:=[.t (.of 2)]
def F119:Fn:={ params:=[(.of 0),(.of 1)],res:=F119.res,body:=F119.b0,init:=in3 }
theorem F119.ok:fnA Tryz.prog Tryz.f119 [0,1,4]=some F119:=by kernel_rfl
abbrev zk.fr:=fr18
def zk.b7:IR:=(iSr [.s (.entry aT15),.s (.ext 1 aS0),iWl 12 (.alloc [.zf,(.bool false)]),.w .none none (.store 2 sN aS0)] (iSr [iSm 7,.s (.zh 2 sN),iCa 121 [aS1,aS0],iQo 17 (.not aS0)] (.cond aT17 (.seq (.yw [] [(.s (.zh 2 aT6),0,[]),(iQo 3 (.mv (.c .gq)),0,[]),(.w .none none (.store 2 aT4 aS0),0,[]),(iQo 5 (.mv aC28),0,[])]) .ret) .skip)))
def zk.g6 (X7:IR):IR:=(.block 1 X7)
def zk.b6:IR:=zk.g6 zk.b7
def zk.g5 (X6:IR):IR:=(iSr [.w .push none (.next aT15),iQo 16 (.ext 0 aS0)] (.seq (.cond aT16 .skip (.exit 0)) X6))
def zk.b5:IR:=zk.g5 zk.b6
def zk.g4 (X5:IR):IR:=(.loop X5)
def zk.b4:IR:=zk.g4 zk.b5
def zk.g3 (X4:IR):IR:=(.block 0 X4)
def zk.b3:IR:=zk.g3 zk.b4
def zk.b8:IR:=(iSr [iSm 8,iSm 11,.s (.oC 1 2 aT6 aC0),.w .none none (.store 1 aS0 aS2),.s (.oC 1 2 aT6 aC1),.w .none none (.store 1 aS0 aS2)] (.seq (.yw [] [(iSm 10,0,[]),(.s (.zh 2 aT6),0,[]),(iQm 3 1,0,[]),(.w .none none (.store 2 aT4 aS0),0,[]),(iQo 5 (.mv aC0),0,[])]) .ret))
def zk.g2 (X3 X8:IR):IR:=(.seq (iSr [iSm 10,iWl 15 (.range aS0)] X3) X8)
def zk.b2:IR:=zk.g2 zk.b3 zk.b8
def zk.g1 (X2:IR):IR:=(iSr [iSm 1,iSm 2,iCa 92 [aS1,aS0],.s (.mv aS0),.s (.ext 0 aS0),.s (.ext 1 aS1),.s (.ext 2 aS2),iQm 10 2,iQm 11 1,iQm 9 0] (.seq (iSr [iSm 9,iQo 14 (.bin .neq .int aS0 aC0)] (.cond oJ (.seq (.yw [] [(.s (.zh 2 aT6),0,[]),(iSm 9,1,[]),(iQo 3 (.mv (.c .gq)),0,[]),(.w .none none (.store 2 aT4 aS1),0,[]),(iQm 5 0,0,[])]) .ret) .skip)) X2))
def zk.b1:IR:=zk.g1 zk.b2
def zk.g0 (X1:IR):IR:=(iSr [iQo 3 (.mv (.c .gq)),iWl 4 (.alloc [.zf,.zf]),iQo 5 (.mv aC0)] (iSr [iWl 6 (.alloc [.zf,.zf])] (iSr [iSm 0,iSm 2,iCa 92 [aS1,aS0],.s (.mv aS0),.s (.ext 0 aS0),.s (.ext 1 aS1),.s (.ext 2 aS2),iQm 7 2,iQm 8 1,iQm 9 0] (.seq (iSr [iSm 9,iQo 13 (.bin .neq .int aS0 aC0)] (.cond rJ (.seq (.yw [] [(.s (.zh 2 aT6),0,[]),(iSm 9,1,[]),(iQo 3 (.mv (.c .gq)),0,[]),(.w .none none (.store 2 aT4 aS1),0,[]),(iQm 5 0,0,[])]) .ret) .skip)) X1))))
def zk.b0:IR:=zk.g0 zk.b1
def zk.res:List RV:=[.t (.of 3),.cell (.of 4) (some 2),.t (.of 5)]
def zk:Fn:={ params:=[(.of 0),(.of 1),(.of 2)],res:=zk.res,body:=zk.b0,init:=in18 }
theorem zk.ok:fnA Tryz.prog Tryz.f120 [0,1,2,6,7,8,9,10,11,12,13,14,16,25,36,40,42,48]=some zk:=by kernel_rfl
abbrev F121.fr:=fr5
def F121.b0:IR:=(iSr [iWl 2 (.box aT1),iQo 3 (.mv (.c (.bool false)))] (iSr [iSm 0,.s (.zh 2 aT2),iCa 123 [aS0],.s (.look .str (.agg [.zf,(.bool false)]) true aS2 aS0),.s (.mv aS0),.s (.ext 0 aS0),.s (.ext 1 aS1),.w .push none (.alloc [.zf,(.bool false)]),.w .none none (.store 2 aS0 aS2),iQm 4 1] (iSr [iSm 4,iQm 3 0] .ret)))
def F121.res:List RV:=[.t (.of 3)]
def F121:Fn:={ params:=[(.of 0),(.of 1)],res:=F121.res,body:=F121.b0,init:=in5 }
theorem F121.ok:fnA Tryz.prog Tryz.f121 [0,1,3,4,6]=some F121:=by kernel_rfl
abbrev uy.fr:=fr12
def uy.b6:IR:=(iSr [iSm 10,.s (.zo 1 aT8 bf),.s (.load aS0),iQm 6 2,iQm 7 0] (.yw [] [(.s (.zy 0 aT5),0,[]),(.s (.load aS0),0,[]),(iSm 6,0,[]),(.s (.zy 0 aT2),0,[]),(.s (.load aS0),0,[]),(iSm 7,0,[]),(.s (.zo 1 aS1 aS0),0,[]),(.s (.load aS0),0,[]),(.s (.zo 1 aS6 aS5),0,[]),(.w .none none (.store 1 aS0 aS1),0,[])]))
def uy.g5 (X6:IR):IR:=(.block 1 X6)
def uy.b5:IR:=uy.g5 uy.b6
def uy.b7:IR:=(.reg [.s (.bin .add .int bf aC1),iQm 10 0])
def uy.g4 (X5 X7:IR):IR:=(.seq X5 X7)
def uy.b4:IR:=uy.g4 uy.b5 uy.b7
def uy.g3 (X4:IR):IR:=(iSr [iQo 11 (.bin .lss .int bf aT9)] (.seq (.cond rQ .skip (.exit 0)) X4))
def uy.b3:IR:=uy.g3 uy.b4
def uy.g2 (X3:IR):IR:=(.loop X3)
def uy.b2:IR:=uy.g2 uy.b3
def uy.g1 (X2:IR):IR:=(.block 0 X2)
def uy.b1:IR:=uy.g1 uy.b2
def uy.b8:IR:=(iSr [.s (.zh 2 aT5),.w .none none (.store 2 aT4 aS0)] .ret)
def uy.g0 (X1 X8:IR):IR:=(iSr [iWl 2 (.box aT0),iWl 3 (.box aT1),iWl 4 (.alloc [.zf,(.bool false)])] (.seq (.yw [(.alloc [.zf,(.bool false)])] [(.s (.zy 0 aT3),2,[]),(.s (.load aS0),2,[]),(.s (.len aS0),2,[(.uf 1 8 [(I 0)] aS0 aS0)]),(.s (.zy 1 aT2),2,[]),(.s (.load aS0),2,[]),(.s (.zy 1 aT3),2,[]),(.s (.load aS0),2,[]),(.s (.bin .neq .bool aS2 aS0),2,[]),(.w .push none (.uf 1 8 [(I 0)] aS5 aS5),0,[]),(.s (.build [.zf,(.bool false)] [(0,1,aS0),(1,1,aS1)]),1,[]),(iWl 5 (.alloc [.zf,(.bool false)]),0,[]),(.w .none none (.store 2 aT5 aS0),0,[])]) (.seq (iSr [.s (.zy 0 aT3),iQo 8 (.load aS0),iQo 9 (.len aT8),iQo 10 (.mv aC0)] X1) X8)))
def uy.b0:IR:=uy.g0 uy.b1 uy.b8
def uy.res:List RV:=[.cell (.of 4) (some 2)]
def uy:Fn:={ params:=[(.of 0),(.of 1)],res:=uy.res,body:=uy.b0,init:=in12 }
theorem uy.ok:fnA Tryz.prog Tryz.f122 [0,1,2,3,4,5,6,7,19,20,21,22]=some uy:=by kernel_rfl
abbrev uj.fr:=fr10
def uj.b6:IR:=(iSr [.s (.zo 1 aT5 aT7),.s (.load aS0),iQm 4 0] (.reg [iSm 3,iSm 4,.s (.conv .u8 aS0),.w .push none (.zx 1 1 [(.int .u8 0)] [(0,1,aS0)]),.w .push none (.app 1 1 aS3 aS0),iQm 3 0]))
def uj.g5 (X6:IR):IR:=(.block 1 X6)
def uj.b5:IR:=uj.g5 uj.b6
def uj.b7:IR:=(.reg [.s (.bin .add .int aT7 aC1),iQm 7 0])
def uj.g4 (X5 X7:IR):IR:=(.seq X5 X7)
def uj.b4:IR:=uj.g4 uj.b5 uj.b7
def uj.g3 (X4:IR):IR:=(iSr [iQo 8 (.bin .lss .int aT7 aT6)] (.seq (.cond aT8 .skip (.exit 0)) X4))
def uj.b3:IR:=uj.g3 uj.b4
def uj.g2 (X3:IR):IR:=(.loop X3)
def uj.b2:IR:=uj.g2 uj.b3
def uj.g1 (X2:IR):IR:=(.block 0 X2)
def uj.b1:IR:=uj.g1 uj.b2
def uj.b9:IR:=(iSr [iSm 3,.s (.b2s aS0),iQm 2 0] .ret)
def uj.g8 (X9:IR):IR:=(.seq (iSr [.s (.zy 1 aT1),iQo 9 (.load aS0)] (.cond aT9 (.reg [iSm 3,.w .push none (.zx 1 1 [(.int .u8 0)] [(0,1,(.c (.int .u8 1)))]),.w .push none (.app 1 1 aS1 aS0),iQm 3 0]) .skip)) X9)
def uj.b8:IR:=uj.g8 uj.b9
def uj.g0 (X1 X8:IR):IR:=(iSr [iWl 1 (.box aT0),iQo 2 (.mv (.c (.str [])))] (iSr [.s (.zy 0 aT1),.s (.load aS0),.s (.len aS0),.s (.bin .add .int aS0 aC1),.w .push none (.uf 1 1 [(.int .u8 0)] aC0 aS0),iQm 3 0] (.seq (iSr [.s (.zy 0 aT1),iQo 5 (.load aS0),iQo 6 (.len aT5),iQo 7 (.mv aC0)] X1) X8)))
def uj.b0:IR:=uj.g0 uj.b1 uj.b8
def uj.res:List RV:=[.t (.of 2)]
def uj:Fn:={ params:=[(.of 0)],res:=uj.res,body:=uj.b0,init:=in10 }
theorem uj.ok:fnA Tryz.prog Tryz.f123 [0,1,2,3,5,12,13,14,15,25]=some uj:=by kernel_rfl
abbrev yt.fr:=fr10
def yt.b6:IR:=(iSr [iSm 8,.s (.zo 1 aT6 aT8),.s (.load aS0),iQm 4 2,iQm 5 0] (.reg [.s (.zy 0 aT3),.s (.load aS0),iSm 5,iSm 4,.s (.zo 1 aS2 aS1),.w .none none (.store 1 aS0 aS1)]))
def yt.g5 (X6:IR):IR:=(.block 1 X6)
def yt.b5:IR:=yt.g5 yt.b6
def yt.b7:IR:=(.reg [.s (.bin .add .int aT8 aC1),iQm 8 0])
def yt.g4 (X5 X7:IR):IR:=(.seq X5 X7)
def yt.b4:IR:=yt.g4 yt.b5 yt.b7
def yt.g3 (X4:IR):IR:=(iSr [iQo 9 (.bin .lss .int aT8 aT7)] (.seq (.cond aT9 .skip (.exit 0)) X4))
def yt.b3:IR:=yt.g3 yt.b4
def yt.g2 (X3:IR):IR:=(.loop X3)
def yt.b2:IR:=yt.g2 yt.b3
def yt.g1 (X2:IR):IR:=(.block 0 X2)
def yt.b1:IR:=yt.g1 yt.b2
def yt.b8:IR:=(iSr [.s (.zh 2 aT3),.w .none none (.store 2 aT2 aS0)] .ret)
def yt.g0 (X1 X8:IR):IR:=(iSr [iWl 1 (.box aT0),iWl 2 (.alloc [.zf,(.bool false)])] (.seq (.yw [(.alloc [.zf,(.bool false)])] [(.s (.zy 0 aT1),2,[]),(.s (.load aS0),2,[]),(.s (.len aS0),2,[(.uf 1 8 [(I 0)] aS0 aS0)]),(.s (.zy 1 aT1),2,[]),(.s (.load aS0),2,[]),(.w .push none (.uf 1 8 [(I 0)] aS2 aS2),0,[]),(.s (.build [.zf,(.bool false)] [(0,1,aS0),(1,1,aS1)]),1,[]),(iWl 3 (.alloc [.zf,(.bool false)]),0,[]),(.w .none none (.store 2 aT3 aS0),0,[])]) (.seq (iSr [.s (.zy 0 aT1),iQo 6 (.load aS0),iQo 7 (.len aT6),iQo 8 (.mv aC0)] X1) X8)))
def yt.b0:IR:=yt.g0 yt.b1 yt.b8
def yt.res:List RV:=[.cell (.of 2) (some 2)]
def yt:Fn:={ params:=[(.of 0)],res:=yt.res,body:=yt.b0,init:=in10 }
theorem yt.ok:fnA Tryz.prog Tryz.f124 [0,1,2,3,4,5,14,15,16,17]=some yt:=by kernel_rfl
abbrev yj.fr:=fr7
def yj.b6:IR:=(.reg [iSm 4,.s (.bin .add .int aS0 aC1),iQm 4 0])
def yj.g5 (X6:IR):IR:=(.block 1 X6)
def yj.b5:IR:=yj.g5 yj.b6
def yj.g4 (X5:IR):IR:=(.seq (.seq (.yw [] [(iSm 4,0,[]),(iSm 0,0,[]),(.s (.len aS0),0,[]),(.s (.bin .lss .int aS2 aS0),0,[]),(.s (.mv aS0),0,[]),(iPt 0 (.mv aT0),0,[]),(iPt 1 (.mv aT4),0,[]),(iPt 2 (.zo 2 aS1 aS0),0,[]),(iPt 3 (.zh 2 aS0),0,[]),(iPt 4 (.zh 2 aT2),0,[]),(.w .push (some (aS5,true)) (.call (.c (.fn 85 (.of 85) [])) [aS1,aS0]),0,[]),(iQo 6 (.pick aS6 aS0 (.c (.bool false))),0,[])]) (.cond aT6 .skip (.exit 0))) X5)
def yj.b4:IR:=yj.g4 yj.b5
def yj.g3 (X4:IR):IR:=(.loop X4)
def yj.b3:IR:=yj.g3 yj.b4
def yj.g2 (X3:IR):IR:=(.block 0 X3)
def yj.b2:IR:=yj.g2 yj.b3
def yj.b7:IR:=(.seq (.yw [(.zx 2 0 [.zf,(.bool false)] [])] [(iSm 0,3,[]),(iSm 4,3,[]),(.s (.slice 2 aS1 none (some aS0) none),3,[]),(.s (.zh 2 aT2),2,[(.zx 2 1 [.zf,(.bool false)] [(0,2,aS0)])]),(iSm 0,4,[]),(iSm 4,4,[]),(.s (.slice 2 aS1 (some aS0) none none),4,[]),(.w .push none (.zx 2 0 [.zf,(.bool false)] []),0,[]),(.w .push none (.aO 2 32 aS0 aS5),0,[]),(.w .push none (.zx 2 1 [.zf,(.bool false)] [(0,2,aS5)]),0,[]),(.w .push none (.aO 2 32 aS1 aS0),0,[]),(.w .push none (.aO 2 32 aS0 aS4),0,[]),(iQm 3 0,0,[])]) .ret)
def yj.g1 (X2 X7:IR):IR:=(iSr [iQo 4 (.mv aC0)] (.seq X2 X7))
def yj.b1:IR:=yj.g1 yj.b2 yj.b7
def yj.g0 (X1:IR):IR:=(iSr [iWl 2 (.box aT1),iQo 3 (.mv (.c .zf))] (.seq (iSr [iSm 0,.s (.zh 2 aT2),iCa 84 [aS1,aS0],iQo 5 (.bin .geq .int aS0 aC0)] (.cond aT5 (iSr [iSm 0,iQm 3 0] .ret) .skip)) X1))
def yj.b0:IR:=yj.g0 yj.b1
def yj.res:List RV:=[.t (.of 3)]
def yj:Fn:={ params:=[(.of 0),(.of 1)],res:=yj.res,body:=yj.b0,init:=in7 }
theorem yj.ok:fnA Tryz.prog Tryz.f125 [0,1,3,4,5,9,22]=some yj:=by kernel_rfl
abbrev fU.fr:=fr5
def fU.b6:IR:=(iSr [iSm 0,iSm 2,.s (.sidx aS1 aS0),iQo 4 (.bin .eql .int aS0 (.c (.int .u8 47)))] (.cond aT4 (iSr [iSm 2,iQm 1 0] .ret) .skip))
def fU.g5 (X6:IR):IR:=(.block 1 X6)
def fU.b5:IR:=fU.g5 fU.b6
def fU.b7:IR:=(.reg [iSm 2,.s (.bin .add .int aS0 aC1),iQm 2 0])
def fU.g4 (X5 X7:IR):IR:=(.seq X5 X7)
def fU.b4:IR:=fU.g4 fU.b5 fU.b7
def fU.g3 (X4:IR):IR:=(.seq (iSr [iSm 2,iSm 0,.s (.slen aS0),iQo 3 (.bin .lss .int aS2 aS0)] (.cond aT3 .skip (.exit 0))) X4)
def fU.b3:IR:=fU.g3 fU.b4
def fU.g2 (X3:IR):IR:=(.loop X3)
def fU.b2:IR:=fU.g2 fU.b3
def fU.g1 (X2:IR):IR:=(.block 0 X2)
def fU.b1:IR:=fU.g1 fU.b2
def fU.b8:IR:=(iSr [iSm 0,.s (.slen aS0),iQm 1 0] .ret)
def fU.g0 (X1 X8:IR):IR:=(iSr [iQo 1 (.mv aC0)] (.seq (iSr [iQo 2 (.mv aC0)] X1) X8))
def fU.b0:IR:=fU.g0 fU.b1 fU.b8
def fU.res:List RV:=[.t (.of 1)]
def fU:Fn:={ params:=[(.of 0)],res:=fU.res,body:=fU.b0,init:=in5 }
theorem fU.ok:fnA Tryz.prog Tryz.f126 [0,2,3,7,13]=some fU:=by kernel_rfl
abbrev F128.fr:=fr6
def F128.b1:IR:=(.seq (.yw [] [(iSm 3,0,[]),(iSm 4,0,[]),(.s (.rZ aS1 none (some aS0)),0,[]),(iSm 3,1,[]),(iSm 4,1,[]),(.s (.bin .add .int aS0 aC1),1,[]),(.s (.rZ aS2 (some aS0) none),1,[]),(iCa 171 [aS4],0,[]),(iCa 171 [aS1],0,[]),(.w .none none (.store 2 aT1 aS1),0,[]),(.w .none none (.store 2 aT2 aS0),0,[])]) .ret)
def F128.g0 (X1:IR):IR:=(iSr [iWl 1 (.alloc [(.bool false),.zf]),iWl 2 (.alloc [(.bool false),.zf])] (iSr [iSm 0,iQm 3 0] (iSr [iSm 3,iCa 126 [aS0],iQm 4 0] (.seq (iSr [iSm 4,iSm 3,.s (.slen aS0),iQo 5 (.bin .eql .int aS2 aS0)] (.cond aT5 (iSr [iSm 3,iCa 171 [aS0],iCa 131 [aC1],.w .none none (.store 2 aT1 aS1),.w .none none (.store 2 aT2 aS0)] .ret) .skip)) X1))))
def F128.b0:IR:=F128.g0 F128.b1
def F128.res:List RV:=[.cell (.of 1) (some 2),.cell (.of 2) (some 2)]
def F128:Fn:={ params:=[(.of 0)],res:=F128.res,body:=F128.b0,init:=in6 }
theorem F128.ok:fnA Tryz.prog Tryz.f128 [0,2,3,4,5,12]=some F128:=by kernel_rfl
abbrev rU.fr:=fr5
def rU.b5:IR:=(iSr [iSm 0,iSm 1,iCa 193 [aS1,aS0],.s (.mv aS0),.s (.ext 0 aS0),.s (.ext 1 aS1),.s (.mv aS1),iQm 3 1] (.reg [iSm 1,iSm 3,iQm 0 1,iQm 1 0]))
def rU.g4 (X5:IR):IR:=(.block 1 X5)
def rU.b4:IR:=rU.g4 rU.b5
def rU.g3 (X4:IR):IR:=(.seq (iSr [iSm 1,.s (.len aS0),iQo 4 (.bin .gtr .int aS0 aC0)] (.cond aT4 .skip (.exit 0))) X4)
def rU.b3:IR:=rU.g3 rU.b4
def rU.g2 (X3:IR):IR:=(.loop X3)
def rU.b2:IR:=rU.g2 rU.b3
def rU.g1 (X2:IR):IR:=(.block 0 X2)
def rU.b1:IR:=rU.g1 rU.b2
def rU.b6:IR:=(iSr [iSm 0,iQm 2 0] .ret)
def rU.g0 (X1 X6:IR):IR:=(iSr [iQo 2 (.mv (.c .zf))] (.seq X1 X6))
def rU.b0:IR:=rU.g0 rU.b1 rU.b6
def rU.res:List RV:=[.t (.of 2)]
def rU:Fn:={ params:=[(.of 0),(.of 1)],res:=rU.res,body:=rU.b0,init:=in5 }
theorem rU.ok:fnA Tryz.prog Tryz.f129 [0,1,4,6,9]=some rU:=by kernel_rfl
abbrev bg.fr:=fr8
def bg.b7:IR:=(.reg [iSm 3,.s (.zy 1 aT1),.s (.load aS0),iSm 4,.s (.zo 1 aS1 aS0),.s (.load aS0),iCa 194 [aS0,aC9],.s (.bin .add .str aS6 aS0),iQm 3 0])
def bg.g6 (X7:IR):IR:=(.block 1 X7)
def bg.b6:IR:=bg.g6 bg.b7
def bg.b8:IR:=(.reg [iSm 4,.s (.bin .sub .int aS0 aC1),iQm 4 0])
def bg.g5 (X6 X8:IR):IR:=(.seq X6 X8)
def bg.b5:IR:=bg.g5 bg.b6 bg.b8
def bg.g4 (X5:IR):IR:=(.seq (iSr [iSm 4,iQo 6 (.bin .geq .int aS0 aC0)] (.cond aT6 .skip (.exit 0))) X5)
def bg.b4:IR:=bg.g4 bg.b5
def bg.g3 (X4:IR):IR:=(.loop X4)
def bg.b3:IR:=bg.g3 bg.b4
def bg.g2 (X3:IR):IR:=(.block 0 X3)
def bg.b2:IR:=bg.g2 bg.b3
def bg.b10:IR:=(iSr [iSm 3,iQm 2 0] .ret)
def bg.g9 (X10:IR):IR:=(.seq (iSr [.s (.zy 0 aT1),iQo 7 (.load aS0)] (.cond aT7 (iSr [iSm 3,.s (.bin .add .str (.c (.str [45])) aS0),iQm 2 0] .ret) .skip)) X10)
def bg.b9:IR:=bg.g9 bg.b10
def bg.g1 (X2 X9:IR):IR:=(iSr [.s (.zy 1 aT1),.s (.load aS0),.s (.zy 1 aT1),.s (.load aS0),.s (.len aS0),.s (.bin .sub .int aS0 aC1),.s (.zo 1 aS4 aS0),.s (.load aS0),iCa 194 [aS0,aC1],iQm 3 0] (.seq (iSr [.s (.zy 1 aT1),.s (.load aS0),.s (.len aS0),.s (.bin .sub .int aS0 aC2),iQm 4 0] X2) X9))
def bg.b1:IR:=bg.g1 bg.b2 bg.b9
def bg.g0 (X1:IR):IR:=(iSr [iWl 1 (.box aT0),iQo 2 (.mv (.c (.str [])))] (.seq (iSr [.s (.zy 1 aT1),.s (.load aS0),.s (.len aS0),iQo 5 (.bin .eql .int aS0 aC0)] (.cond aT5 (iSr [iQo 2 (.mv (.c (.str [48])))] .ret) .skip)) X1))
def bg.b0:IR:=bg.g0 bg.b1
def bg.res:List RV:=[.t (.of 2)]
def bg:Fn:={ params:=[(.of 0)],res:=bg.res,body:=bg.b0,init:=in8 }
theorem bg.ok:fnA Tryz.prog Tryz.f130 [0,1,2,3,4,8,23,35]=some bg:=by kernel_rfl
abbrev rD.fr:=fr7
def rD.b6:IR:=(iSr [iSm 2,iSm 4,.w .push none (.zx 1 1 [(I 0)] [(0,1,aS0)]),.w .push none (.app 1 8 aS2 aS0),iQm 2 0] (.reg [iSm 0,.s (.bin .quo .int aS0 jF),iQm 0 0]))
def rD.g5 (X6:IR):IR:=(iSr [iSm 0,.s (.bin .rem .int aS0 jF),iQm 4 0] (.seq (iSr [iSm 4,iQo 6 (.bin .lss .int aS0 aC0)] (.cond aT6 (.reg [iSm 4,.s (.bin .sub .int aC0 aS0),iQm 4 0]) .skip)) X6))
def rD.b5:IR:=rD.g5 rD.b6
def rD.g4 (X5:IR):IR:=(.block 1 X5)
def rD.b4:IR:=rD.g4 rD.b5
def rD.g3 (X4:IR):IR:=(.seq (iSr [iSm 0,iQo 5 (.bin .neq .int aS0 aC0)] (.cond aT5 .skip (.exit 0))) X4)
def rD.b3:IR:=rD.g3 rD.b4
def rD.g2 (X3:IR):IR:=(.loop X3)
def rD.b2:IR:=rD.g2 rD.b3
def rD.g1 (X2:IR):IR:=(.block 0 X2)
def rD.b1:IR:=rD.g1 rD.b2
def rD.b7:IR:=(iSr [iSm 3,iSm 2,iCa 195 [aS1,aS0],.w .none none (.store 2 aT1 aS0)] .ret)
def rD.g0 (X1 X7:IR):IR:=(iSr [iWl 1 (.alloc [(.bool false),.zf])] (iSr [iQo 2 (.mv (.c .zf))] (iSr [iSm 0,.s (.bin .lss .int aS0 aC0),iQm 3 0] (.seq X1 X7))))
def rD.b0:IR:=rD.g0 rD.b1 rD.b7
def rD.res:List RV:=[.cell (.of 1) (some 2)]
def rD:Fn:={ params:=[(.of 0)],res:=rD.res,body:=rD.b0,init:=in7 }
theorem rD.ok:fnA Tryz.prog Tryz.f131 [0,2,3,4,5,9,13]=some rD:=by kernel_rfl
abbrev oK.fr:=fr4
def oK.b2:IR:=(iSr [iQo 1 (.mv aC1)] .ret)
def oK.g1 (X2:IR):IR:=(.seq (iSr [iSm 0,.s (.slen aS0),.s (.bin .gtr .int aS0 aC0),.s (.mv aS0),iPt 0 (.mv aT0),iPt 1 (.sidx aS0 aC0),iPt 2 (.bin .eql .int aS0 (.c (.int .u8 45))),iQo 3 (.pick aS3 aS0 (.c (.bool false)))] (.cond aT3 (iSr [iQo 1 (.mv (.c (I (-1))))] .ret) .skip)) X2)
def oK.b1:IR:=oK.g1 oK.b2
def oK.g0 (X1:IR):IR:=(iSr [iQo 1 (.mv aC0)] (.seq (iSr [iSm 0,iQo 2 (.bin .eql .str aS0 (.c (.str [48])))] (.cond aT2 (iSr [iQo 1 (.mv aC0)] .ret) .skip)) X1))
def oK.b0:IR:=oK.g0 oK.b1
def oK.res:List RV:=[.t (.of 1)]
def oK:Fn:={ params:=[(.of 0)],res:=oK.res,body:=oK.b0,init:=in4 }
theorem oK.ok:fnA Tryz.prog Tryz.f132 [0,2,4,12]=some oK:=by kernel_rfl
abbrev F133.fr:=fr3
def F133.b0:IR:=(iSr [iQo 2 (.mv (.c (.str [])))] (iSr [iSm 0,iSm 1,iCa 196 [aS0],iCa 117 [aS2,aS0],iQm 2 0] .ret))
def F133.res:List RV:=[.t (.of 2)]
def F133:Fn:={ params:=[(.of 0),(.of 1)],res:=F133.res,body:=F133.b0,init:=in3 }
theorem F133.ok:fnA Tryz.prog Tryz.f133 [0,1,4]=some F133:=by kernel_rfl
abbrev F134.fr:=fr2
def F134.b0:IR:=(iSr [iQo 1 (.mv aC0)] (iSr [iSm 0,.s (.len aS0),.s (.bin .gtr .int aS0 zfy),iCa 96 [aS0,aC5],iSm 0,.w .push none (.call (.c (.fn 136 (.of 136) [])) [aS0,(.c (.fn 137 (.of 137) []))]),iCa 96 [aS0,aC3],.w .push none (.zx 1 2 [(I 0)] [(0,1,aS3),(1,1,aS0)]),iCa 94 [aS0],iQm 1 0] .ret))
def F134.res:List RV:=[.t (.of 1)]
def F134:Fn:={ params:=[(.of 0)],res:=F134.res,body:=F134.b0,init:=in2 }
theorem F134.ok:fnA Tryz.prog Tryz.f134 [0,2]=some F134:=by kernel_rfl
abbrev cO.fr:=fr12
def cO.b7:IR:=(.reg [iSm 4,.s (.zy 0 aT2),.s (.load aS0),iSm 5,.s (.zo 1 aS1 aS0),.s (.load aS0),iSm 6,.s (.zo 1 aS6 aS1),.w .none none (.store 1 aS0 aS1)])
def cO.g6 (X7:IR):IR:=(iSr [iSm 9,.s (.zo 1 aT7 aT9),.s (.load aS0),iQm 5 2,iQm 6 0] (.seq (iSr [.s (.zy 1 aT2),iQo 11 (.load aS0)] (.cond rQ (.reg [iSm 1,.s (.len aS0),.s (.bin .add .int aS0 aC1),iSm 6,.s (.bin .sub .int aS1 aS0),iQm 6 0]) .skip)) X7))
def cO.b6:IR:=cO.g6 cO.b7
def cO.g5 (X6:IR):IR:=(.block 1 X6)
def cO.b5:IR:=cO.g5 cO.b6
def cO.b8:IR:=(.reg [.s (.bin .add .int aT9 aC1),iQm 9 0])
def cO.g4 (X5 X8:IR):IR:=(.seq X5 X8)
def cO.b4:IR:=cO.g4 cO.b5 cO.b8
def cO.g3 (X4:IR):IR:=(iSr [iQo 10 (.bin .lss .int aT9 aT8)] (.seq (.cond bf .skip (.exit 0)) X4))
def cO.b3:IR:=cO.g3 cO.b4
def cO.g2 (X3:IR):IR:=(.loop X3)
def cO.b2:IR:=cO.g2 cO.b3
def cO.g1 (X2:IR):IR:=(.block 0 X2)
def cO.b1:IR:=cO.g1 cO.b2
def cO.b9:IR:=(iSr [iSm 4,iQm 3 0] .ret)
def cO.g0 (X1 X9:IR):IR:=(iSr [iWl 2 (.box aT0),iQo 3 (.mv (.c .zf))] (iSr [iSm 1,.s (.len aS0),.w .push none (.uf 1 8 [(I 0)] aS0 aS0),iQm 4 0] (.seq (iSr [iQo 7 (.mv aT1),iQo 8 (.len aT7),iQo 9 (.mv aC0)] X1) X9)))
def cO.b0:IR:=cO.g0 cO.b1 cO.b9
def cO.res:List RV:=[.t (.of 3)]
def cO:Fn:={ params:=[(.of 0),(.of 1)],res:=cO.res,body:=cO.b0,init:=in12 }
theorem cO.ok:fnA Tryz.prog Tryz.f135 [0,1,2,4,5,6,7,11,12,13,14,19]=some cO:=by kernel_rfl
abbrev F136.fr:=fr3
def F136.b0:IR:=(iSr [iQo 2 (.mv (.c (.bool false)))] (iSr [iSm 0,iSm 1,iCa 197 [aS1,aS0],.s (.bin .geq .int aS0 aC0),iQm 2 0] .ret))
def F136.res:List RV:=[.t (.of 2)]
def F136:Fn:={ params:=[(.of 0),(.of 1)],res:=F136.res,body:=F136.b0,init:=in3 }
theorem F136.ok:fnA Tryz.prog Tryz.f136 [0,1,4]=some F136:=by kernel_rfl
abbrev F137.fr:=fr2
def F137.b0:IR:=(iSr [iQo 1 (.mv (.c (.bool false)))] (iSr [iSm 0,.s (.bin .lss .int aS0 (.c (I (-999999999)))),.s (.mv aS0),iPf 0 (.mv aT0),iPf 1 (.bin .gtr .int aS0 bH),.s (.pick aS2 (.c (.bool true)) aS0),iQm 1 0] .ret))
def F137.res:List RV:=[.t (.of 1)]
def F137:Fn:={ params:=[(.of 0)],res:=F137.res,body:=F137.b0,init:=in2 }
theorem F137.ok:fnA Tryz.prog Tryz.f137 [0,2]=some F137:=by kernel_rfl
abbrev qc.fr:=fr13
def qc.b12:IR:=(iSr [iSm 4,iSm 7,.s (.zo 1 aS1 aS0),.w .none none (.store 1 aS0 (.c (.bool true)))] (.reg [iSm 6,.s (.bin .add .int aS0 aC1),iQm 6 0]))
def qc.g11 (X12:IR):IR:=(.block 3 X12)
def qc.b11:IR:=qc.g11 qc.b12
def qc.b13:IR:=(.reg [.s (.zy 0 aT1),.s (.load aS0),iSm 7,.s (.zo 1 aS1 aS0),.s (.load aS0),iQm 7 0])
def qc.g10 (X11 X13:IR):IR:=(.seq X11 X13)
def qc.b10:IR:=qc.g10 qc.b11 qc.b13
def qc.g9 (X10:IR):IR:=(.seq (iSr [iSm 4,iSm 7,.s (.zo 1 aS1 aS0),.s (.load aS0),iQo 11 (.not aS0)] (.cond rQ .skip (.exit 2))) X10)
def qc.b9:IR:=qc.g9 qc.b10
def qc.g8 (X9:IR):IR:=(.loop X9)
def qc.b8:IR:=qc.g8 qc.b9
def qc.g7 (X8:IR):IR:=(.block 2 X8)
def qc.b7:IR:=qc.g7 qc.b8
def qc.b14:IR:=(iSr [iSm 6,iQo 12 (.bin .gtr .int aS0 aC0)] (.cond sN (.reg [iSm 3,iSm 6,.w .push none (.zx 1 1 [(I 0)] [(0,1,aS0)]),.w .push none (.app 1 8 aS2 aS0),iQm 3 0]) .skip))
def qc.g6 (X7 X14:IR):IR:=(iSr [iSm 9,iQm 5 0] (iSr [iQo 6 (.mv aC0)] (.seq (iSr [iSm 5,iQm 7 0] X7) X14)))
def qc.b6:IR:=qc.g6 qc.b7 qc.b14
def qc.g5 (X6:IR):IR:=(.block 1 X6)
def qc.b5:IR:=qc.g5 qc.b6
def qc.b15:IR:=(.reg [.s (.bin .add .int aT9 aC1),iQm 9 0])
def qc.g4 (X5 X15:IR):IR:=(.seq X5 X15)
def qc.b4:IR:=qc.g4 qc.b5 qc.b15
def qc.g3 (X4:IR):IR:=(iSr [iQo 10 (.bin .lss .int aT9 aT8)] (.seq (.cond bf .skip (.exit 0)) X4))
def qc.b3:IR:=qc.g3 qc.b4
def qc.g2 (X3:IR):IR:=(.loop X3)
def qc.b2:IR:=qc.g2 qc.b3
def qc.g1 (X2:IR):IR:=(.block 0 X2)
def qc.b1:IR:=qc.g1 qc.b2
def qc.b16:IR:=(iSr [iSm 3,iQm 2 0] .ret)
def qc.g0 (X1 X16:IR):IR:=(iSr [iWl 1 (.box aT0),iQo 2 (.mv (.c .zf))] (iSr [iQo 3 (.mv (.c .zf))] (iSr [.s (.zy 0 aT1),.s (.load aS0),.s (.len aS0),.w .push none (.uf 1 1 [(.bool false)] aS0 aS0),iQm 4 0] (.seq (iSr [.s (.zy 0 aT1),.s (.load aS0),iQo 8 (.len aS0),iQo 9 (.mv aC0)] X1) X16))))
def qc.b0:IR:=qc.g0 qc.b1 qc.b16
def qc.res:List RV:=[.t (.of 2)]
def qc:Fn:={ params:=[(.of 0)],res:=qc.res,body:=qc.b0,init:=in13 }
theorem qc.ok:fnA Tryz.prog Tryz.f138 [0,1,2,3,4,5,6,7,14,15,16,23,35]=some qc:=by kernel_rfl
abbrev rV.fr:=fr4
def rV.b5:IR:=(.yw [] [(iSm 1,0,[]),(iSm 0,0,[]),(iSm 1,0,[]),(.s (.bin .rem .int aS1 aS0),0,[]),(iQm 0 3,0,[]),(iQm 1 0,0,[])])
def rV.g4 (X5:IR):IR:=(.block 1 X5)
def rV.b4:IR:=rV.g4 rV.b5
def rV.g3 (X4:IR):IR:=(.seq (iSr [iSm 1,iQo 3 (.bin .neq .int aS0 aC0)] (.cond aT3 .skip (.exit 0))) X4)
def rV.b3:IR:=rV.g3 rV.b4
def rV.g2 (X3:IR):IR:=(.loop X3)
def rV.b2:IR:=rV.g2 rV.b3
def rV.g1 (X2:IR):IR:=(.block 0 X2)
def rV.b1:IR:=rV.g1 rV.b2
def rV.b6:IR:=(iSr [iSm 0,iQm 2 0] .ret)
def rV.g0 (X1 X6:IR):IR:=(iSr [iQo 2 (.mv aC0)] (.seq X1 X6))
def rV.b0:IR:=rV.g0 rV.b1 rV.b6
def rV.res:List RV:=[.t (.of 2)]
def rV:Fn:={ params:=[(.of 0),(.of 1)],res:=rV.res,body:=rV.b0,init:=in4 }
theorem rV.ok:fnA Tryz.prog Tryz.f139 [0,1,4,6]=some rV:=by kernel_rfl
abbrev F140.fr:=fr2
def F140.b0:IR:=(iSr [iQo 1 (.mv (.c (.bool false)))] (iSr [iSm 0,iCa 198 [aS0],.s (.bin .eql .int aS0 aC0),iQm 1 0] .ret))
def F140.res:List RV:=[.t (.of 1)]
def F140:Fn:={ params:=[(.of 0)],res:=F140.res,body:=F140.b0,init:=in2 }
theorem F140.ok:fnA Tryz.prog Tryz.f140 [0,2]=some F140:=by kernel_rfl
abbrev xk.fr:=fr2
def xk.b0:IR:=(iSr [iQo 1 (.mv aC0)] (iSr [iSm 0,.s (.bin .lss .int aS0 aC1),.s (.mv aS0),iPf 0 (.mv aT0),iPf 1 (.bin .gtr .int aS0 aC16),.s (.pick aS2 (.c (.bool true)) aS0),iCa 96 [aS0,aC3],iQm 1 0] .ret))
def xk.res:List RV:=[.t (.of 1)]
def xk:Fn:={ params:=[(.of 0)],res:=xk.res,body:=xk.b0,init:=in2 }
theorem xk.ok:fnA Tryz.prog Tryz.f145 [0,2]=some xk:=by kernel_rfl
abbrev yu.fr:=fr10
def yu.b6:IR:=(iSr [iSm 8,iQm 4 0] (.seq (.yw [] [(iSm 2,0,[]),(iSm 4,0,[]),(iSm 1,0,[]),(.s (.bin .quo .int aS1 aS0),0,[]),(iSm 4,0,[]),(iSm 1,0,[]),(.s (.bin .rem .int aS1 aS0),0,[]),(.w .push none (.call aS6 [aS3,aS0]),0,[]),(.s (.mv aS0),0,[]),(.s (.ext 0 aS0),0,[]),(.s (.ext 1 aS1),0,[]),(iQm 5 1,0,[]),(iQm 6 0,0,[])]) (.reg [.s (.zy 0 aT3),.s (.load aS0),iSm 4,iSm 1,iSm 5,.s (.bin .mul .int aS1 aS0),iSm 6,.s (.bin .add .int aS1 aS0),.s (.zo 1 aS6 aS5),.w .none none (.store 1 aS0 aS1)])))
def yu.g5 (X6:IR):IR:=(.block 1 X6)
def yu.b5:IR:=yu.g5 yu.b6
def yu.b7:IR:=(.reg [.s (.bin .add .int aT8 aC1),iQm 8 0])
def yu.g4 (X5 X7:IR):IR:=(.seq X5 X7)
def yu.b4:IR:=yu.g4 yu.b5 yu.b7
def yu.g3 (X4:IR):IR:=(iSr [iQo 9 (.bin .lss .int aT8 aT7)] (.seq (.cond aT9 .skip (.exit 0)) X4))
def yu.b3:IR:=yu.g3 yu.b4
def yu.g2 (X3:IR):IR:=(.loop X3)
def yu.b2:IR:=yu.g2 yu.b3
def yu.g1 (X2:IR):IR:=(.block 0 X2)
def yu.b1:IR:=yu.g1 yu.b2
def yu.b8:IR:=(.yw [] [(iSm 0,1,[]),(.s (.zh 2 aT3),0,[]),(.s (.zh 2 aT3),1,[]),(iCa 123 [aS1],0,[]),(.w .none none (.zaa .str aS3 aS0 aS1),0,[])])
def yu.g0 (X1 X8:IR):IR:=(iSr [iSm 1,iSm 1,.s (.bin .mul .int aS1 aS0),.w .push none (.uf 1 8 [(I 0)] aS0 aS0),.s (.build [.zf,(.bool false)] [(0,1,aS0)]),iWl 3 (.alloc [.zf,(.bool false)]),.w .none none (.store 2 aT3 aS0)] (.seq (iSr [.s (.zy 0 aT3),.s (.load aS0),iQo 7 (.len aS0),iQo 8 (.mv aC0)] X1) X8))
def yu.b0:IR:=yu.g0 yu.b1 yu.b8
def yu.res:List RV:=[]
def yu:Fn:={ params:=[(.of 0),(.of 1),(.of 2)],res:=yu.res,body:=yu.b0,init:=in10 }
theorem yu.ok:fnA Tryz.prog Tryz.f146 [0,1,2,6,7,8,9,17,18,19]=some yu:=by kernel_rfl
abbrev yx.fr:=fr9
def yx.b3:IR:=(iSr [iSm 0,iSm 1,iQm 4 1,iQm 5 0] .ret)
def yx.g2 (X3:IR):IR:=(.seq (iSr [.s (.load aT2),.s (.bin .and .int aS0 aC4),iQo 8 (.bin .neq .int aS0 aC0)] (.cond aT8 (iSr [iSm 1,iSm 0,iQm 4 1,iQm 5 0] .ret) .skip)) X3)
def yx.b2:IR:=yx.g2 yx.b3
def yx.g1 (X2:IR):IR:=(.seq (iSr [.s (.load aT2),.s (.bin .and .int aS0 aC2),iQo 7 (.bin .neq .int aS0 aC0)] (.cond aT7 (.reg [.s (.load aT3),.s (.bin .sub .int aS0 aC1),iSm 1,.s (.bin .sub .int aS1 aS0),iQm 1 0]) .skip)) X2)
def yx.b1:IR:=yx.g1 yx.b2
def yx.g0 (X1:IR):IR:=(iSr [iQo 4 (.mv aC0),iQo 5 (.mv aC0)] (.seq (iSr [.s (.load aT2),.s (.bin .and .int aS0 aC1),iQo 6 (.bin .neq .int aS0 aC0)] (.cond aT6 (.reg [.s (.load aT3),.s (.bin .sub .int aS0 aC1),iSm 0,.s (.bin .sub .int aS1 aS0),iQm 0 0]) .skip)) X1))
def yx.b0:IR:=yx.g0 yx.b1
def yx.res:List RV:=[.t (.of 4),.t (.of 5)]
def yx:Fn:={ params:=[(.of 0),(.of 1),(.of 2),(.of 3)],res:=yx.res,body:=yx.b0,init:=in9 }
theorem yx.ok:fnA Tryz.prog Tryz.f147 [0,1,2,3,6,7,10,17,24]=some yx:=by kernel_rfl
abbrev xu.fr:=fr7
def xu.b0:IR:=(iSr [iQo 5 (.mv aC0),iQo 6 (.mv aC0)] (.seq (.yw [] [(iSm 0,0,[]),(.s (.load aT2),0,[]),(.s (.bin .add .int aS1 aS0),0,[]),(.s (.load aT3),0,[]),(.s (.bin .rem .int aS1 aS0),0,[]),(iSm 1,0,[]),(.s (.load aT4),0,[]),(.s (.bin .add .int aS1 aS0),0,[]),(.s (.load aT3),0,[]),(.s (.bin .rem .int aS1 aS0),0,[]),(iQm 5 5,0,[]),(iQm 6 0,0,[])]) .ret))
def xu.res:List RV:=[.t (.of 5),.t (.of 6)]
def xu:Fn:={ params:=[(.of 0),(.of 1),(.of 2),(.of 3),(.of 4)],res:=xu.res,body:=xu.b0,init:=in7 }
theorem xu.ok:fnA Tryz.prog Tryz.f148 [0,1,2,3,4,7,8]=some xu:=by kernel_rfl
abbrev zn.fr:=fr12
def zn.b8:IR:=(.seq (.yw [] [(.s (.load aT3),0,[]),(iSm 0,0,[]),(.s (.load aT3),1,[]),(.s (.load aT1),1,[]),(.s (.bin .sub .int aS0 aC1),1,[]),(iSm 0,1,[]),(.s (.bin .sub .int aS1 aS0),1,[]),(iSm 6,0,[]),(.s (.load aT1),1,[]),(.s (.bin .sub .int aS0 aC1),1,[]),(iSm 6,1,[]),(.s (.bin .sub .int aS1 aS0),1,[]),(.s (.zo 1 aS11 aS10),0,[]),(.w .none none (.store 1 aS0 aS5),0,[]),(.s (.zo 1 aS10 aS6),0,[]),(.w .none none (.store 1 aS0 aS2),0,[])]) (.seq (.yw [] [(.s (.load aT4),0,[]),(iSm 6,0,[]),(.s (.load aT4),1,[]),(.s (.load aT1),1,[]),(.s (.bin .sub .int aS0 aC1),1,[]),(iSm 6,1,[]),(.s (.bin .sub .int aS1 aS0),1,[]),(.s (.zo 1 aS6 aS5),0,[]),(.w .none none (.store 1 aS0 (.c (.bool true))),0,[]),(.s (.zo 1 aS5 aS1),0,[]),(.w .none none (.store 1 aS0 (.c (.bool true))),0,[])]) (iSr [.s (.load aT5),iSm 0,.s (.bin .add .int aS0 aC1),.w .push none (.call aS2 [aS0])] (.yw [] [(.s (.load aT4),0,[]),(iSm 6,0,[]),(.s (.load aT4),1,[]),(.s (.load aT1),1,[]),(.s (.bin .sub .int aS0 aC1),1,[]),(iSm 6,1,[]),(.s (.bin .sub .int aS1 aS0),1,[]),(.s (.zo 1 aS6 aS5),0,[]),(.w .none none (.store 1 aS0 (.c (.bool false))),0,[]),(.s (.zo 1 aS5 aS1),0,[]),(.w .none none (.store 1 aS0 (.c (.bool false))),0,[])]))))
def zn.g7 (X8:IR):IR:=(iSr [iSm 9,iQm 6 0] (.seq (iSr [.s (.load aT4),iSm 6,.s (.zo 1 aS1 aS0),.s (.load aS0),.s (.mv aS0),iPf 0 (.mv aT0),iPf 1 (.bin .mul .int aC2 aS0),iPf 2 (.load aT1),iPf 3 (.bin .sub .int aS0 aC1),iPf 4 (.bin .eql .int aS2 aS0),iPf 5 (.mv aT6),iPf 6 (.bin .mul .int aC2 aS0),iPf 7 (.load aT1),iPf 8 (.bin .sub .int aS0 aC1),iPf 9 (.bin .eql .int aS2 aS0),iPf 10 (.bin .neq .bool aS5 aS0),iQo 11 (.pick aS11 (.c (.bool true)) aS0)] (.cond rQ (.exit 1) .skip)) X8))
def zn.b7:IR:=zn.g7 zn.b8
def zn.g6 (X7:IR):IR:=(.block 1 X7)
def zn.b6:IR:=zn.g6 zn.b7
def zn.b9:IR:=(.reg [.s (.bin .add .int aT9 aC1),iQm 9 0])
def zn.g5 (X6 X9:IR):IR:=(.seq X6 X9)
def zn.b5:IR:=zn.g5 zn.b6 zn.b9
def zn.g4 (X5:IR):IR:=(iSr [iQo 10 (.bin .lss .int aT9 aT8)] (.seq (.cond bf .skip (.exit 0)) X5))
def zn.b4:IR:=zn.g4 zn.b5
def zn.g3 (X4:IR):IR:=(.loop X4)
def zn.b3:IR:=zn.g3 zn.b4
def zn.g2 (X3:IR):IR:=(.block 0 X3)
def zn.b2:IR:=zn.g2 zn.b3
def zn.g1 (X2:IR):IR:=(iSr [iQo 8 (.load aT1),iQo 9 (.mv aC0)] X2)
def zn.b1:IR:=zn.g1 zn.b2
def zn.g0 (X1:IR):IR:=(.seq (iSr [iSm 0,.s (.load aT1),.s (.bin .add .int aS0 aC1),.s (.bin .quo .int aS0 aC2),iQo 7 (.bin .eql .int aS3 aS0)] (.cond aT7 (iSr [.s (.load aT2),.s (.load aT1),.s (.fn 150 (.of 150) [aT3]),iCa 146 [aS2,aS1,aS0]] .ret) .skip)) X1)
def zn.b0:IR:=zn.g0 zn.b1
def zn.res:List RV:=[]
def zn:Fn:={ params:=[(.of 0),(.of 1),(.of 2),(.of 3),(.of 4),(.of 5)],res:=zn.res,body:=zn.b0,init:=in12 }
theorem zn.ok:fnA Tryz.prog Tryz.f149 [0,1,2,3,4,5,7,12,17,18,19,37]=some zn:=by kernel_rfl
abbrev xw.fr:=fr5
def xw.b0:IR:=(iSr [iQo 3 (.mv aC0),iQo 4 (.mv aC0)] (.seq (.yw [] [(.s (.load aT2),0,[]),(iSm 0,0,[]),(.s (.zo 1 aS1 aS0),0,[]),(.s (.load aS0),0,[]),(.s (.load aT2),0,[]),(iSm 1,0,[]),(.s (.zo 1 aS1 aS0),0,[]),(.s (.load aS0),0,[]),(iQm 3 4,0,[]),(iQm 4 0,0,[])]) .ret))
def xw.res:List RV:=[.t (.of 3),.t (.of 4)]
def xw:Fn:={ params:=[(.of 0),(.of 1),(.of 2)],res:=xw.res,body:=xw.b0,init:=in5 }
theorem xw.ok:fnA Tryz.prog Tryz.f150 [0,1,2,5,6]=some xw:=by kernel_rfl
abbrev je.fr:=fr5
def je.b6:IR:=(.reg [iSm 2,iSm 0,.s (.bin .sub .int aS0 aC1),iSm 3,.s (.bin .sub .int aS1 aS0),.w .push none (.zx 1 1 [(I 0)] [(0,1,aS0)]),.w .push none (.app 1 8 aS5 aS0),iQm 2 0])
def je.g5 (X6:IR):IR:=(.block 1 X6)
def je.b5:IR:=je.g5 je.b6
def je.b7:IR:=(.reg [iSm 3,.s (.bin .add .int aS0 aC1),iQm 3 0])
def je.g4 (X5 X7:IR):IR:=(.seq X5 X7)
def je.b4:IR:=je.g4 je.b5 je.b7
def je.g3 (X4:IR):IR:=(.seq (iSr [iSm 3,iSm 0,iQo 4 (.bin .lss .int aS1 aS0)] (.cond aT4 .skip (.exit 0))) X4)
def je.b3:IR:=je.g3 je.b4
def je.g2 (X3:IR):IR:=(.loop X3)
def je.b2:IR:=je.g2 je.b3
def je.g1 (X2:IR):IR:=(.block 0 X2)
def je.b1:IR:=je.g1 je.b2
def je.b8:IR:=(iSr [iSm 2,iQm 1 0] .ret)
def je.g0 (X1 X8:IR):IR:=(iSr [iQo 1 (.mv (.c .zf))] (iSr [iQo 2 (.mv (.c .zf))] (.seq (iSr [iQo 3 (.mv aC0)] X1) X8)))
def je.b0:IR:=je.g0 je.b1 je.b8
def je.res:List RV:=[.t (.of 1)]
def je:Fn:={ params:=[(.of 0)],res:=je.res,body:=je.b0,init:=in5 }
theorem je.ok:fnA Tryz.prog Tryz.f151 [0,2,3,4,7]=some je:=by kernel_rfl
abbrev zi.fr:=fr13
def zi.b13:IR:=(.reg [.s (.zy 0 aT5),.s (.load aS0),iSm 8,iSm 4,.s (.bin .mul .int aS1 aS0),iSm 9,.s (.bin .add .int aS1 aS0),.w .push none (.zx 1 1 [(I 0)] [(0,1,aS0)]),.w .push none (.app 1 8 aS6 aS0),.s (.zy 0 aT5),.w .none none (.store 1 aS0 aS1)])
def zi.g12 (X13:IR):IR:=(.seq (.yw [] [(iSm 0,0,[]),(iSm 6,0,[]),(.s (.zo 1 aS1 aS0),0,[]),(.s (.load aS0),0,[]),(iSm 1,0,[]),(iSm 7,0,[]),(.s (.zo 1 aS1 aS0),0,[]),(.s (.load aS0),0,[]),(iQm 8 4,0,[]),(iQm 9 0,0,[])]) (.seq (iSr [iQo 12 (.mv aT2)] (.cond sN (.reg [iSm 9,iSm 8,iQm 8 1,iQm 9 0]) .skip)) X13))
def zi.b12:IR:=zi.g12 zi.b13
def zi.g11 (X12:IR):IR:=(.block 3 X12)
def zi.b11:IR:=zi.g11 zi.b12
def zi.b14:IR:=(.reg [iSm 7,.s (.bin .add .int aS0 aC1),iQm 7 0])
def zi.g10 (X11 X14:IR):IR:=(.seq X11 X14)
def zi.b10:IR:=zi.g10 zi.b11 zi.b14
def zi.g9 (X10:IR):IR:=(.seq (iSr [iSm 7,iSm 4,iQo 11 (.bin .lss .int aS1 aS0)] (.cond rQ .skip (.exit 2))) X10)
def zi.b9:IR:=zi.g9 zi.b10
def zi.g8 (X9:IR):IR:=(.loop X9)
def zi.b8:IR:=zi.g8 zi.b9
def zi.g7 (X8:IR):IR:=(.block 2 X8)
def zi.b7:IR:=zi.g7 zi.b8
def zi.g6 (X7:IR):IR:=(iSr [iQo 7 (.mv aC0)] X7)
def zi.b6:IR:=zi.g6 zi.b7
def zi.g5 (X6:IR):IR:=(.block 1 X6)
def zi.b5:IR:=zi.g5 zi.b6
def zi.b15:IR:=(.reg [iSm 6,.s (.bin .add .int aS0 aC1),iQm 6 0])
def zi.g4 (X5 X15:IR):IR:=(.seq X5 X15)
def zi.b4:IR:=zi.g4 zi.b5 zi.b15
def zi.g3 (X4:IR):IR:=(.seq (iSr [iSm 6,iSm 4,iQo 10 (.bin .lss .int aS1 aS0)] (.cond bf .skip (.exit 0))) X4)
def zi.b3:IR:=zi.g3 zi.b4
def zi.g2 (X3:IR):IR:=(.loop X3)
def zi.b2:IR:=zi.g2 zi.b3
def zi.g1 (X2:IR):IR:=(.block 0 X2)
def zi.b1:IR:=zi.g1 zi.b2
def zi.b16:IR:=(iSr [.s (.zh 2 aT5),.w .none none (.store 2 aT3 aS0)] .ret)
def zi.g0 (X1 X16:IR):IR:=(iSr [iWl 3 (.alloc [.zf,(.bool false)])] (iSr [iSm 0,.s (.len aS0),iQm 4 0] (iSr [iWl 5 (.alloc [.zf,(.bool false)])] (.seq (iSr [iQo 6 (.mv aC0)] X1) X16))))
def zi.b0:IR:=zi.g0 zi.b1 zi.b16
def zi.res:List RV:=[.cell (.of 3) (some 2)]
def zi:Fn:={ params:=[(.of 0),(.of 1),(.of 2)],res:=zi.res,body:=zi.b0,init:=in13 }
theorem zi.ok:fnA Tryz.prog Tryz.f152 [0,1,2,6,7,8,9,10,11,12,17,22,33]=some zi:=by kernel_rfl
abbrev jf.fr:=fr6
def jf.b6:IR:=(.reg [iSm 3,iSm 4,iSm 1,.s (.bin .add .int aS1 aS0),iSm 0,.s (.bin .rem .int aS1 aS0),.w .push none (.zx 1 1 [(I 0)] [(0,1,aS0)]),.w .push none (.app 1 8 aS6 aS0),iQm 3 0])
def jf.g5 (X6:IR):IR:=(.block 1 X6)
def jf.b5:IR:=jf.g5 jf.b6
def jf.b7:IR:=(.reg [iSm 4,.s (.bin .add .int aS0 aC1),iQm 4 0])
def jf.g4 (X5 X7:IR):IR:=(.seq X5 X7)
def jf.b4:IR:=jf.g4 jf.b5 jf.b7
def jf.g3 (X4:IR):IR:=(.seq (iSr [iSm 4,iSm 0,iQo 5 (.bin .lss .int aS1 aS0)] (.cond aT5 .skip (.exit 0))) X4)
def jf.b3:IR:=jf.g3 jf.b4
def jf.g2 (X3:IR):IR:=(.loop X3)
def jf.b2:IR:=jf.g2 jf.b3
def jf.g1 (X2:IR):IR:=(.block 0 X2)
def jf.b1:IR:=jf.g1 jf.b2
def jf.b8:IR:=(iSr [iSm 3,iQm 2 0] .ret)
def jf.g0 (X1 X8:IR):IR:=(iSr [iQo 2 (.mv (.c .zf))] (iSr [iQo 3 (.mv (.c .zf))] (.seq (iSr [iQo 4 (.mv aC0)] X1) X8)))
def jf.b0:IR:=jf.g0 jf.b1 jf.b8
def jf.res:List RV:=[.t (.of 2)]
def jf:Fn:={ params:=[(.of 0),(.of 1)],res:=jf.res,body:=jf.b0,init:=in6 }
theorem jf.ok:fnA Tryz.prog Tryz.f153 [0,1,4,5,6,9]=some jf:=by kernel_rfl
abbrev yg.fr:=fr6
def yg.b6:IR:=(.seq (.yw [] [(iSm 0,0,[]),(iSm 2,0,[]),(.s (.bin .sub .int aS0 aC1),0,[]),(iSm 3,0,[]),(.s (.bin .sub .int aS1 aS0),0,[]),(.s (.zo 1 aS4 aS0),0,[]),(.s (.load aS0),0,[]),(iSm 2,0,[]),(.s (.bin .sub .int aS0 aC1),0,[]),(iSm 0,0,[]),(iSm 3,0,[]),(.s (.zo 1 aS1 aS0),0,[]),(.s (.load aS0),0,[]),(.s (.bin .sub .int aS4 aS0),0,[]),(iQo 5 (.bin .neq .int aS7 aS0),0,[])]) (.cond aT5 (iSr [iQo 1 (.mv (.c (.bool false)))] .ret) .skip))
def yg.g5 (X6:IR):IR:=(.block 1 X6)
def yg.b5:IR:=yg.g5 yg.b6
def yg.b7:IR:=(.reg [iSm 3,.s (.bin .add .int aS0 aC1),iQm 3 0])
def yg.g4 (X5 X7:IR):IR:=(.seq X5 X7)
def yg.b4:IR:=yg.g4 yg.b5 yg.b7
def yg.g3 (X4:IR):IR:=(.seq (iSr [iSm 3,iSm 2,iQo 4 (.bin .lss .int aS1 aS0)] (.cond aT4 .skip (.exit 0))) X4)
def yg.b3:IR:=yg.g3 yg.b4
def yg.g2 (X3:IR):IR:=(.loop X3)
def yg.b2:IR:=yg.g2 yg.b3
def yg.g1 (X2:IR):IR:=(.block 0 X2)
def yg.b1:IR:=yg.g1 yg.b2
def yg.b8:IR:=(iSr [iQo 1 (.mv (.c (.bool true)))] .ret)
def yg.g0 (X1 X8:IR):IR:=(iSr [iQo 1 (.mv (.c (.bool false)))] (iSr [iSm 0,.s (.len aS0),iQm 2 0] (.seq (iSr [iQo 3 (.mv aC0)] X1) X8)))
def yg.b0:IR:=yg.g0 yg.b1 yg.b8
def yg.res:List RV:=[.t (.of 1)]
def yg:Fn:={ params:=[(.of 0)],res:=yg.res,body:=yg.b0,init:=in6 }
theorem yg.ok:fnA Tryz.prog Tryz.f154 [0,2,3,4,9,26]=some yg:=by kernel_rfl
abbrev F156.fr:=fr5
def F156.b1:IR:=(iSr [iSm 0,iSm 1,.s (.len aS0),iCa 22 [aS2,aS0],iQm 2 0] .ret)
def F156.g0 (X1:IR):IR:=(iSr [iQo 2 (.mv aC0)] (.seq (iSr [iSm 1,iCa 134 [aS0],iQm 3 0] (iSr [iSm 3,iQo 4 (.bin .neq .int aS0 aC0)] (.cond aT4 (iSr [iSm 3,iQm 2 0] .ret) .skip))) X1))
def F156.b0:IR:=F156.g0 F156.b1
def F156.res:List RV:=[.t (.of 2)]
def F156:Fn:={ params:=[(.of 0),(.of 1)],res:=F156.res,body:=F156.b0,init:=in5 }
theorem F156.ok:fnA Tryz.prog Tryz.f156 [0,1,4,5,9]=some F156:=by kernel_rfl
abbrev rG.fr:=fr12
def rG.b3:IR:=(.reg [iWl 6 (.alloc [.zf,(.bool false)]),.w .none none (.store 2 aT6 bf)])
def rG.b6:IR:=(.reg [.s (.load aT5),iSm 7,.w .push none (.zx 1 1 [.zf] [(0,1,aS0)]),.w .push none (.app 1 24 aS2 aS0),.w .none none (.store 1 aT5 aS0)])
def rG.g5 (X6:IR):IR:=(iSr [.s (.zh 2 aT6),.s (.load aT2),iCa 135 [aS1,aS0],iQm 7 0] (.seq (iSr [iSm 7,iWl 11 (.call (.c (.fn 136 (.of 136) [])) [aS0,(.c (.fn 137 (.of 137) []))])] (.cond rQ (iSr [.w .none none (.store 1 aT3 (.c .zf)),.w .none none (.store 1 aT4 aC3)] .ret) .skip)) X6))
def rG.b5:IR:=rG.g5 rG.b6
def rG.g4 (X5:IR):IR:=(.block 1 X5)
def rG.b4:IR:=rG.g4 rG.b5
def rG.g2 (X3 X4:IR):IR:=(.rf aT8 [(.of 9),(.of 10)] X3 X4)
def rG.b2:IR:=rG.g2 rG.b3 rG.b4
def rG.g1 (X2:IR):IR:=(.block 0 X2)
def rG.b1:IR:=rG.g1 rG.b2
def rG.b7:IR:=(iSr [.s (.load aT5),.w .push none (.call (.c (.fn 200 (.of 200) [])) [aS0,(.c (.fn 201 (.of 201) []))])] (iSr [.s (.load aT5),.w .push none (.call (.c (.fn 202 (.of 202) [])) [aS0,(.c (.fn 158 (.of 158) []))]),.w .none none (.store 1 aT3 aS0),.w .none none (.store 1 aT4 aC0)] .ret))
def rG.g0 (X1 X7:IR):IR:=(iSr [iWl 2 (.box aT1),iWl 3 (.alloc [.zf]),iWl 4 (.alloc [(I 0)])] (iSr [iWl 5 (.alloc [.zf])] (.seq (iSr [iSm 0,iWl 8 (.call (.c (.fn 90 (.of 90) [])) [aS0])] X1) X7)))
def rG.b0:IR:=rG.g0 rG.b1 rG.b7
def rG.res:List RV:=[.cell (.of 3) none,.cell (.of 4) none]
def rG:Fn:={ params:=[(.of 0),(.of 1)],res:=rG.res,body:=rG.b0,init:=in12 }
theorem rG.ok:fnA Tryz.prog Tryz.f157 [0,1,3,4,5,6,8,9,11,12,13,18]=some rG:=by kernel_rfl
abbrev cZ.fr:=fr9
def cZ.b7:IR:=(iSr [iSm 6,iQm 3 0] (.seq (.yw [] [(iSm 0,0,[]),(iSm 3,0,[]),(.s (.zo 1 aS1 aS0),0,[]),(.s (.load aS0),0,[]),(iSm 1,0,[]),(iSm 3,0,[]),(.s (.zo 1 aS1 aS0),0,[]),(.s (.load aS0),0,[]),(iQo 8 (.bin .neq .int aS4 aS0),0,[])]) (.cond aT8 (iSr [iQo 2 (.mv (.c (.bool false)))] .ret) .skip)))
def cZ.g6 (X7:IR):IR:=(.block 1 X7)
def cZ.b6:IR:=cZ.g6 cZ.b7
def cZ.b8:IR:=(.reg [.s (.bin .add .int aT6 aC1),iQm 6 0])
def cZ.g5 (X6 X8:IR):IR:=(.seq X6 X8)
def cZ.b5:IR:=cZ.g5 cZ.b6 cZ.b8
def cZ.g4 (X5:IR):IR:=(iSr [iQo 7 (.bin .lss .int aT6 aT5)] (.seq (.cond aT7 .skip (.exit 0)) X5))
def cZ.b4:IR:=cZ.g4 cZ.b5
def cZ.g3 (X4:IR):IR:=(.loop X4)
def cZ.b3:IR:=cZ.g3 cZ.b4
def cZ.g2 (X3:IR):IR:=(.block 0 X3)
def cZ.b2:IR:=cZ.g2 cZ.b3
def cZ.b9:IR:=(iSr [iQo 2 (.mv (.c (.bool true)))] .ret)
def cZ.g1 (X2 X9:IR):IR:=(.seq (iSr [iSm 0,iQo 5 (.len aS0),iQo 6 (.mv aC0)] X2) X9)
def cZ.b1:IR:=cZ.g1 cZ.b2 cZ.b9
def cZ.g0 (X1:IR):IR:=(iSr [iQo 2 (.mv (.c (.bool false)))] (.seq (iSr [iSm 0,.s (.len aS0),iSm 1,.s (.len aS0),iQo 4 (.bin .neq .int aS2 aS0)] (.cond aT4 (iSr [iQo 2 (.mv (.c (.bool false)))] .ret) .skip)) X1))
def cZ.b0:IR:=cZ.g0 cZ.b1
def cZ.res:List RV:=[.t (.of 2)]
def cZ:Fn:={ params:=[(.of 0),(.of 1)],res:=cZ.res,body:=cZ.b0,init:=in9 }
theorem cZ.ok:fnA Tryz.prog Tryz.f158 [0,1,4,5,10,12,13,14,24]=some cZ:=by kernel_rfl
abbrev qw.fr:=fr9
def qw.b6:IR:=(iSr [iSm 6,.s (.zo 2 aT4 aT6),.s (.zh 2 aS0),iWl 3 (.alloc [.zf,(.bool false)]),iQm 2 2,.w .none none (.store 2 aT3 aS0)] (iSr [iSm 0,iSm 2,.s (.zh 2 aT3),.w .push none (.call aS2 [aS1,aS0]),iQo 8 (.not aS0)] (.cond aT8 .ret .skip)))
def qw.g5 (X6:IR):IR:=(.block 1 X6)
def qw.b5:IR:=qw.g5 qw.b6
def qw.b7:IR:=(.reg [.s (.bin .add .int aT6 aC1),iQm 6 0])
def qw.g4 (X5 X7:IR):IR:=(.seq X5 X7)
def qw.b4:IR:=qw.g4 qw.b5 qw.b7
def qw.g3 (X4:IR):IR:=(iSr [iQo 7 (.bin .lss .int aT6 aT5)] (.seq (.cond aT7 .skip (.exit 0)) X4))
def qw.b3:IR:=qw.g3 qw.b4
def qw.g2 (X3:IR):IR:=(.loop X3)
def qw.b2:IR:=qw.g2 qw.b3
def qw.g1 (X2:IR):IR:=(.block 0 X2)
def qw.b1:IR:=qw.g1 qw.b2
def qw.g0 (X1:IR):IR:=(iSr [iQo 4 (.load aT1),iQo 5 (.len aT4),iQo 6 (.mv aC0)] X1)
def qw.b0:IR:=qw.g0 qw.b1
def qw.res:List RV:=[]
def qw:Fn:={ params:=[(.of 0),(.of 1)],res:=qw.res,body:=qw.b0,init:=in9 }
theorem qw.ok:fnA Tryz.prog Tryz.f159 [0,1,3,4,5,6,7,8,16]=some qw:=by kernel_rfl
abbrev vk.fr:=fr23
def vk.b10:IR:=(iSr [iSm 0,iSm 1,iSm 2,iSm 7,iCa 211 [aS3,aS2,aS1,aS0],.s (.mv aS0),.s (.ext 0 aS0),.s (.ext 1 aS1),iQm 10 1,iQm 11 0] (iSr [iSm 11,iQm 5 0] (iSr [iSm 10,iSm 1,.s (.bin .sub .int aS1 aS0),iSm 2,iSm 10,.s (.bin .sub .int aS1 aS0),iQm 12 3,iQm 13 0] (iSr [iSm 6,.s (.bin .quo .int aS0 aC8),iQm 14 0] (iSr [iSm 12,iSm 13,iQo 22 (.bin .lss .int aS1 aS0)] (.cond aT22 (iSr [iSm 12,iSm 14,.s (.bin .geq .int aS1 aS0),iQm 4 0] (iSr [iSm 0,iSm 1,iSm 10,iSm 3,iCa 160 [aS3,aS2,aS1,aS0]] (.reg [iSm 10,.s (.bin .add .int aS0 aC1),iQm 1 0]))) (iSr [iSm 13,iSm 14,.s (.bin .geq .int aS1 aS0),iQm 4 0] (iSr [iSm 0,iSm 10,.s (.bin .add .int aS0 aC1),iSm 2,iSm 3,iCa 160 [aS4,aS2,aS1,aS0]] (.reg [iSm 10,iQm 2 0])))))))))
def vk.g9 (X10:IR):IR:=(.seq (.seq (.yw [] [(iSm 1,0,[]),(.s (.bin .gtr .int aS0 aC0),0,[]),(.s (.mv aS0),0,[]),(iPt 0 (.mv aT0),0,[]),(iPt 1 (.mv aT1),0,[]),(iPt 2 (.bin .sub .int aS0 aC1),0,[]),(iPt 3 (.zo 1 aS2 aS0),0,[]),(iPt 4 (.load aS0),0,[]),(iPt 5 (.mv aT0),0,[]),(iPt 6 (.mv aT7),0,[]),(iPt 7 (.zo 1 aS1 aS0),0,[]),(iPt 8 (.load aS0),0,[]),(.w .push (some (aS9,true)) (.call (.c (.fn 209 (.of 209) [])) [aS4,aS0]),0,[]),(iPt 10 (.not aS0),0,[]),(iQo 21 (.pick aS11 aS0 (.c (.bool false))),0,[])]) (.cond aT21 (iSr [iSm 0,iSm 1,iSm 2,iSm 7,iCa 210 [aS3,aS2,aS1,aS0],iQm 9 0] (iSr [iSm 9,iQm 1 0] (.exit 1))) .skip)) X10)
def vk.b9:IR:=vk.g9 vk.b10
def vk.g8 (X9:IR):IR:=(.seq (iSr [iSm 4,.s (.mv aS0),iPt 0 (.mv aT5),.s (.pick aS1 aS0 (.c (.bool false))),.s (.mv aS0),iPt 0 (.mv aT8),iPt 1 (.bin .eql .int aS0 aC1),iQo 19 (.pick aS2 aS0 (.c (.bool false)))] (.cond aT19 (iSr [iSm 0,iSm 1,iSm 2,iWl 20 (.call (.c (.fn 208 (.of 208) [])) [aS2,aS1,aS0])] (.cond aT20 .ret .skip)) .skip)) X9)
def vk.b8:IR:=vk.g8 vk.b9
def vk.g7 (X8:IR):IR:=(iSr [iSm 0,iSm 1,iSm 2,iCa 206 [aS2,aS1,aS0],.s (.mv aS0),.s (.ext 0 aS0),.s (.ext 1 aS1),iQm 7 1,iQm 8 0] (.seq (iSr [iSm 8,iQo 18 (.bin .eql .int aS0 aC2)] (.cond aT18 (iSr [iSm 0,iSm 1,iSm 2,iCa 207 [aS2,aS1,aS0]] (iSr [iSm 2,.s (.bin .sub .int aS0 aC1),iSm 7,iSm 1,.s (.bin .sub .int aS1 aS0),.s (.bin .sub .int aS3 aS0),iQm 7 0] (.reg [iQo 8 (.mv aC1)]))) .skip)) X8))
def vk.b7:IR:=vk.g7 vk.b8
def vk.g6 (X7:IR):IR:=(.seq (iSr [iSm 4,iQo 17 (.not aS0)] (.cond aT17 (iSr [iSm 0,iSm 1,iSm 2,iCa 205 [aS2,aS1,aS0]] (.reg [iSm 3,.s (.bin .sub .int aS0 aC1),iQm 3 0])) .skip)) X7)
def vk.b6:IR:=vk.g6 vk.b7
def vk.g5 (X6:IR):IR:=(.seq (iSr [iSm 3,iQo 16 (.bin .eql .int aS0 aC0)] (.cond aT16 (iSr [iSm 0,iSm 1,iSm 2,iCa 204 [aS2,aS1,aS0]] .ret) .skip)) X6)
def vk.b5:IR:=vk.g5 vk.b6
def vk.g4 (X5:IR):IR:=(iSr [iSm 2,iSm 1,.s (.bin .sub .int aS1 aS0),iQm 6 0] (.seq (iSr [iSm 6,iQo 15 (.bin .leq .int aS0 aC12)] (.cond aT15 (iSr [iSm 0,iSm 1,iSm 2,iCa 203 [aS2,aS1,aS0]] .ret) .skip)) X5))
def vk.b4:IR:=vk.g4 vk.b5
def vk.g3 (X4:IR):IR:=(.block 1 X4)
def vk.b3:IR:=vk.g3 vk.b4
def vk.g2 (X3:IR):IR:=(.loop X3)
def vk.b2:IR:=vk.g2 vk.b3
def vk.g1 (X2:IR):IR:=(.block 0 X2)
def vk.b1:IR:=vk.g1 vk.b2
def vk.g0 (X1:IR):IR:=(iSr [iQo 4 (.mv (.c (.bool true)))] (iSr [iQo 5 (.mv (.c (.bool true)))] X1))
def vk.b0:IR:=vk.g0 vk.b1
def vk.res:List RV:=[]
def vk:Fn:={ params:=[(.of 0),(.of 1),(.of 2),(.of 3)],res:=vk.res,body:=vk.b0,init:=in23 }
theorem vk.ok:fnA Tryz.prog Tryz.f160 [0,1,2,3,8,9,10,11,12,13,14,15,16,17,18,23,29,35,50,68,72,87,113]=some vk:=by kernel_rfl
abbrev F161.fr:=fr2
def F161.b1:IR:=(iSr [iSm 0,iCa 213 [aS0],iQm 1 0] .ret)
def F161.g0 (X1:IR):IR:=(iSr [iQo 1 (.mv aC0)] (.seq (.cond (.c (.bool false)) (iSr [iSm 0,.s (.conv .u32 aS0),iCa 212 [aS0],iQm 1 0] .ret) .skip) X1))
def F161.b0:IR:=F161.g0 F161.b1
def F161.res:List RV:=[.t (.of 1)]
def F161:Fn:={ params:=[(.of 0)],res:=F161.res,body:=F161.b0,init:=in2 }
theorem F161.ok:fnA Tryz.prog Tryz.f161 [0,2]=some F161:=by kernel_rfl
abbrev rM.fr:=fr8
def rM.b2:IR:=(iSr [iQo 4 (.mv (.c (I (-1))))] .ret)
def rM.g1 (X2:IR):IR:=(.seq (iSr [.s (.zy 1 aT2),iQo 7 (.load aS0)] (.cond aT7 (iSr [iQo 4 (.mv aC1)] .ret) .skip)) X2)
def rM.b1:IR:=rM.g1 rM.b2
def rM.g0 (X1:IR):IR:=(iSr [iWl 2 (.box aT0),iWl 3 (.box aT1),iQo 4 (.mv aC0)] (.seq (iSr [.s (.zy 0 aT2),.s (.load aS0),.s (.zy 0 aT3),.s (.load aS0),iCa 201 [aS2,aS0],iQm 5 0] (iSr [iSm 5,.s (.bin .neq .int aS0 aC0),.s (.mv aS0),iPf 0 (.zy 1 aT2),iPf 1 (.load aS0),iPf 2 (.zy 1 aT3),iPf 3 (.load aS0),iPf 4 (.bin .eql .bool aS2 aS0),iQo 6 (.pick aS5 (.c (.bool true)) aS0)] (.cond aT6 (iSr [iSm 5,iQm 4 0] .ret) .skip))) X1))
def rM.b0:IR:=rM.g0 rM.b1
def rM.res:List RV:=[.t (.of 4)]
def rM:Fn:={ params:=[(.of 0),(.of 1)],res:=rM.res,body:=rM.b0,init:=in8 }
theorem rM.ok:fnA Tryz.prog Tryz.f162 [0,1,2,3,4,5,19,22]=some rM:=by kernel_rfl
abbrev uw.fr:=fr7
def uw.b6:IR:=(iSr [iSm 5,iQm 3 0] (.reg [.s (.zy 0 aT2),.s (.load aS0),iSm 3,iSm 3,.s (.zo 1 aS2 aS1),.w .none none (.store 1 aS0 aS1)]))
def uw.g5 (X6:IR):IR:=(.block 1 X6)
def uw.b5:IR:=uw.g5 uw.b6
def uw.b7:IR:=(.reg [.s (.bin .add .int aT5 aC1),iQm 5 0])
def uw.g4 (X5 X7:IR):IR:=(.seq X5 X7)
def uw.b4:IR:=uw.g4 uw.b5 uw.b7
def uw.g3 (X4:IR):IR:=(iSr [iQo 6 (.bin .lss .int aT5 aT4)] (.seq (.cond aT6 .skip (.exit 0)) X4))
def uw.b3:IR:=uw.g3 uw.b4
def uw.g2 (X3:IR):IR:=(.loop X3)
def uw.b2:IR:=uw.g2 uw.b3
def uw.g1 (X2:IR):IR:=(.block 0 X2)
def uw.b1:IR:=uw.g1 uw.b2
def uw.b8:IR:=(iSr [.s (.zh 2 aT2),.w .none none (.store 2 aT1 aS0)] .ret)
def uw.g0 (X1 X8:IR):IR:=(iSr [iWl 1 (.alloc [.zf,(.bool false)])] (iSr [iSm 0,.w .push none (.uf 1 8 [(I 0)] aS0 aS0),.s (.build [.zf,(.bool false)] [(0,1,aS0)]),iWl 2 (.alloc [.zf,(.bool false)]),.w .none none (.store 2 aT2 aS0)] (.seq (iSr [.s (.zy 0 aT2),.s (.load aS0),iQo 4 (.len aS0),iQo 5 (.mv aC0)] X1) X8)))
def uw.b0:IR:=uw.g0 uw.b1 uw.b8
def uw.res:List RV:=[.cell (.of 1) (some 2)]
def uw:Fn:={ params:=[(.of 0)],res:=uw.res,body:=uw.b0,init:=in7 }
theorem uw.ok:fnA Tryz.prog Tryz.f163 [0,2,3,4,10,11,12]=some uw:=by kernel_rfl
abbrev fV.fr:=fr8
def fV.b6:IR:=(iSr [.s (.zo 1 aT3 aT5),.s (.load aS0),iQm 2 0] (iSr [iSm 2,iQo 7 (.bin .neq .int aS0 aC0)] (.cond aT7 (iSr [iSm 2,iQm 1 0] .ret) .skip)))
def fV.g5 (X6:IR):IR:=(.block 1 X6)
def fV.b5:IR:=fV.g5 fV.b6
def fV.b7:IR:=(.reg [.s (.bin .add .int aT5 aC1),iQm 5 0])
def fV.g4 (X5 X7:IR):IR:=(.seq X5 X7)
def fV.b4:IR:=fV.g4 fV.b5 fV.b7
def fV.g3 (X4:IR):IR:=(iSr [iQo 6 (.bin .lss .int aT5 aT4)] (.seq (.cond aT6 .skip (.exit 0)) X4))
def fV.b3:IR:=fV.g3 fV.b4
def fV.g2 (X3:IR):IR:=(.loop X3)
def fV.b2:IR:=fV.g2 fV.b3
def fV.g1 (X2:IR):IR:=(.block 0 X2)
def fV.b1:IR:=fV.g1 fV.b2
def fV.b8:IR:=(iSr [iQo 1 (.mv aC0)] .ret)
def fV.g0 (X1 X8:IR):IR:=(iSr [iQo 1 (.mv aC0)] (.seq (iSr [iQo 3 (.mv aT0),iQo 4 (.len aT3),iQo 5 (.mv aC0)] X1) X8))
def fV.b0:IR:=fV.g0 fV.b1 fV.b8
def fV.res:List RV:=[.t (.of 1)]
def fV:Fn:={ params:=[(.of 0)],res:=fV.res,body:=fV.b0,init:=in8 }
theorem fV.ok:fnA Tryz.prog Tryz.f165 [0,2,4,5,6,7,8,12]=some fV:=by kernel_rfl
abbrev F166.fr:=fr6
def F166.b0:IR:=(iSr [iWl 3 (.box aT0),iWl 4 (.box aT1),iQo 5 (.mv aC0)] (iSr [iSm 2,.s (.fn 215 (.of 215) [aT3,aT4]),iCa 136 [aS1,aS0],iCa 167 [aS0,aC3],iQm 5 0] .ret))
def F166.res:List RV:=[.t (.of 5)]
def F166:Fn:={ params:=[(.of 0),(.of 1),(.of 2)],res:=F166.res,body:=F166.b0,init:=in6 }
theorem F166.ok:fnA Tryz.prog Tryz.f166 [0,1,2,3,4,6]=some F166:=by kernel_rfl
abbrev F167.fr:=fr4
def F167.b1:IR:=(iSr [iQo 2 (.mv aC0)] .ret)
def F167.g0 (X1:IR):IR:=(iSr [iQo 2 (.mv aC0)] (.seq (iSr [iQo 3 (.mv aT0)] (.cond aT3 (iSr [iSm 1,iQm 2 0] .ret) .skip)) X1))
def F167.b0:IR:=F167.g0 F167.b1
def F167.res:List RV:=[.t (.of 2)]
def F167:Fn:={ params:=[(.of 0),(.of 1)],res:=F167.res,body:=F167.b0,init:=in4 }
theorem F167.ok:fnA Tryz.prog Tryz.f167 [0,1,4,5]=some F167:=by kernel_rfl
end
end Go.Ev
