import Derived.Test.YtkjkjpmahgeneaaGreatDoorIrA
import Derived.Test.YtkjkjpmahgeneaaGreatDoorEvC
import Derived.Test.YtkjkjpmahgeneaaGreatDoorProg
import Derived.KernelRfl
set_option linter.unusedSimpArgs false
set_option linter.unusedVariables false
namespace Go.Ev
open Go Go.Proofs
set_option maxRecDepth 100000
noncomputable section

abbrev zh.fr:=fr23
def zh.b14:IR:=(iSr [.s (.zo 1 aT17 aT19),.s (.load aS0),iQm 10 0] (iSr [.s (.load aT6),.s (.load aT3),iSm 10,.w .push none (.call aS2 [aS1,aS0]),iQo 21 (.not aS0)] (.cond aT21 (.exit 1) .skip)))
def zh.g13 (X14:IR):IR:=(.block 3 X14)
def zh.b13:IR:=zh.g13 zh.b14
def zh.b15:IR:=(.reg [.s (.bin .add .int aT19 aC1),iQm 19 0])
def zh.g12 (X13 X15:IR):IR:=(.seq X13 X15)
def zh.b12:IR:=zh.g12 zh.b13 zh.b15
def zh.g11 (X12:IR):IR:=(iSr [iQo 20 (.bin .lss .int aT19 aT18)] (.seq (.cond aT20 .skip (.exit 2)) X12))
def zh.b11:IR:=zh.g11 zh.b12
def zh.g10 (X11:IR):IR:=(.loop X11)
def zh.b10:IR:=zh.g10 zh.b11
def zh.g9 (X10:IR):IR:=(.block 2 X10)
def zh.b9:IR:=zh.g9 zh.b10
def zh.b16:IR:=(iSr [.s (.load aT4),iSm 9,.s (.zo 1 aS1 aS0),.w .none none (.store 1 aS0 (.c (.bool true)))] (iSr [.s (.load aT7),iSm 0,.s (.bin .add .int aS0 aC1),.w .push none (.call aS2 [aS0]),iQm 11 0] (iSr [.s (.load aT4),iSm 9,.s (.zo 1 aS1 aS0),.w .none none (.store 1 aS0 (.c (.bool false)))] (iSr [iSm 11,iQo 22 (.not aS0)] (.cond aT22 (iSr [iQo 8 (.mv (.c (.bool false)))] .ret) .skip)))))
def zh.g8 (X9 X16:IR):IR:=(iSr [.s (.load aT3),iSm 0,iSm 9,.s (.zo 1 aS2 aS1),.w .none none (.store 1 aS0 aS1)] (.seq (iSr [.s (.load aT5),iSm 0,.s (.zo 1 aS1 aS0),iQo 17 (.load aS0),iQo 18 (.len aT17),iQo 19 (.mv aC0)] X9) X16))
def zh.b8:IR:=zh.g8 zh.b9 zh.b16
def zh.g7 (X8:IR):IR:=(iSr [iSm 14,iQm 9 0] (.seq (iSr [.s (.load aT4),iSm 9,.s (.zo 1 aS1 aS0),iQo 16 (.load aS0)] (.cond aT16 (.exit 1) .skip)) X8))
def zh.b7:IR:=zh.g7 zh.b8
def zh.g6 (X7:IR):IR:=(.block 1 X7)
def zh.b6:IR:=zh.g6 zh.b7
def zh.b17:IR:=(.reg [.s (.bin .add .int oH aC1),iQm 14 0])
def zh.g5 (X6 X17:IR):IR:=(.seq X6 X17)
def zh.b5:IR:=zh.g5 zh.b6 zh.b17
def zh.g4 (X5:IR):IR:=(iSr [iQo 15 (.bin .lss .int oH rF)] (.seq (.cond aT15 .skip (.exit 0)) X5))
def zh.b4:IR:=zh.g4 zh.b5
def zh.g3 (X4:IR):IR:=(.loop X4)
def zh.b3:IR:=zh.g3 zh.b4
def zh.g2 (X3:IR):IR:=(.block 0 X3)
def zh.b2:IR:=zh.g2 zh.b3
def zh.b18:IR:=(iSr [iQo 8 (.mv (.c (.bool true)))] .ret)
def zh.g1 (X2 X18:IR):IR:=(.seq .skip (.seq (iSr [.s (.zu 0 aT1),iQo 13 (.load aS0),iQo 14 (.mv aC0)] X2) X18))
def zh.b1:IR:=zh.g1 zh.b2 zh.b18
def zh.g0 (X1:IR):IR:=(iSr [iQo 8 (.mv (.c (.bool false)))] (.seq (iSr [iSm 0,.s (.zu 0 aT1),.s (.load aS0),iQo 12 (.bin .eql .int aS2 aS0)] (.cond sD (.seq (.yu [] [(.s (.load aT2),2,[]),(.s (.load aT3),0,[]),(iCa 106 [aS0],0,[]),(.s (.build [.zf,(.bool false)] [(0,1,aS0)]),0,[]),(.w .push none (.zx 2 1 [.zf,(.bool false)] [(0,2,aS0)]),0,[]),(.w .push none (.appq 2 32 aS4 aS0),0,[]),(.w .none none (.store 1 aT2 aS0),0,[])]) (iSr [.s (.load aT2),.s (.len aS0),.s (.bin .leq .int aS0 zhp),iQm 8 0] .ret)) .skip)) X1))
def zh.b0:IR:=zh.g0 zh.b1
def zh.res:List RV:=[.t (.of 8)]
def zh:Fn:={ params:=[(.of 0),(.of 1),(.of 2),(.of 3),(.of 4),(.of 5),(.of 6),(.of 7)],res:=zh.res,body:=zh.b0,init:=in23 }
theorem zh.ok:fnA Tryz.prog Tryz.f105 [0,1,2,3,4,5,6,7,9,10,12,13,17,28,29,30,35,43,44,45,46,53,66]=some zh:=by kernel_rfl
abbrev ak.fr:=fr3
def ak.b1:IR:=(iSr [.w .push none (.zx 1 0 [(I 0)] []),iSm 0,.w .push none (.app 1 8 aS1 aS0),iQm 1 0] .ret)
def ak.g0 (X1:IR):IR:=(iSr [iQo 1 (.mv (.c .zf))] (.seq (iSr [iSm 0,iQo 2 (.bin .eql (.nil .sl) aS0 (.c .zf))] (.cond aT2 (iSr [iQo 1 (.mv (.c .zf))] .ret) .skip)) X1))
def ak.b0:IR:=ak.g0 ak.b1
def ak.res:List RV:=[.t (.of 1)]
def ak:Fn:={ params:=[(.of 0)],res:=ak.res,body:=ak.b0,init:=in3 }
theorem ak.ok:fnA Tryz.prog Tryz.f106 [0,2,4]=some ak:=by kernel_rfl
abbrev xw.fr:=fr11
def xw.b9:IR:=(.reg [iSm 4,.s (.bin .mul .int aS0 jS),iSm 6,.s (.bin .add .int aS1 aS0),iQm 4 0])
def xw.g8 (X9:IR):IR:=(.seq (iSr [iSm 4,.s (.bin .gtr .int aS0 pW),.s (.mv aS0),iPf 0 (.mv aT4),iPf 1 (.bin .lss .int aS0 (.c (I (-9223372036)))),.s (.pick aS2 (.c (.bool true)) aS0),.s (.mv aS0),iPf 0 (.mv aT4),iPf 1 (.bin .eql .int aS0 pW),iPf 2 (.mv aS0),iPt 0 (.mv aT6),iPt 1 (.bin .gtr .int aS0 zfq),iPf 5 (.pick aS2 aS0 (.c (.bool false))),.s (.pick aS6 (.c (.bool true)) aS0),.s (.mv aS0),iPf 0 (.mv aT4),iPf 1 (.bin .eql .int aS0 (.c (I (-9223372036)))),iPf 2 (.mv aS0),iPt 0 (.mv aT6),iPt 1 (.bin .lss .int aS0 (.c (I (-854775808)))),iPf 5 (.pick aS2 aS0 (.c (.bool false))),iQo 10 (.pick aS6 (.c (.bool true)) aS0)] (.cond bg (iSr [iQo 1 (.mv aC0),iQo 2 (.mv (.c (.bool false)))] .ret) .skip)) X9)
def xw.b8:IR:=xw.g8 xw.b9
def xw.g7 (X8:IR):IR:=(iSr [.s (.zu 1 aT3),.s (.load aS0),iSm 5,.s (.zo 1 aS1 aS0),.s (.load aS0),iQm 6 0] (.seq (iSr [.s (.zu 0 aT3),iQo 9 (.load aS0)] (.cond aT9 (.reg [iSm 6,.s (.bin .sub .int aC0 aS0),iQm 6 0]) .skip)) X8))
def xw.b7:IR:=xw.g7 xw.b8
def xw.g6 (X7:IR):IR:=(.block 1 X7)
def xw.b6:IR:=xw.g6 xw.b7
def xw.b10:IR:=(.reg [iSm 5,.s (.bin .sub .int aS0 aC1),iQm 5 0])
def xw.g5 (X6 X10:IR):IR:=(.seq X6 X10)
def xw.b5:IR:=xw.g5 xw.b6 xw.b10
def xw.g4 (X5:IR):IR:=(.seq (iSr [iSm 5,iQo 8 (.bin .geq .int aS0 aC0)] (.cond aT8 .skip (.exit 0))) X5)
def xw.b4:IR:=xw.g4 xw.b5
def xw.g3 (X4:IR):IR:=(.loop X4)
def xw.b3:IR:=xw.g3 xw.b4
def xw.g2 (X3:IR):IR:=(.block 0 X3)
def xw.b2:IR:=xw.g2 xw.b3
def xw.b11:IR:=(iSr [iSm 4,iQm 1 0,iQo 2 (.mv (.c (.bool true)))] .ret)
def xw.g1 (X2 X11:IR):IR:=(iSr [iSm 0,iCa 171 [aS0],iWl 3 (.alloc [(.bool false),.zf]),.w .none none (.store 2 aT3 aS0)] (iSr [iQo 4 (.mv aC0)] (.seq (iSr [.s (.zu 1 aT3),.s (.load aS0),.s (.len aS0),.s (.bin .sub .int aS0 aC1),iQm 5 0] X2) X11)))
def xw.b1:IR:=xw.g1 xw.b2 xw.b11
def xw.g0 (X1:IR):IR:=(iSr [iQo 1 (.mv aC0),iQo 2 (.mv (.c (.bool false)))] (.seq (iSr [iSm 0,iCa 170 [aS0],.s (.not aS0),.s (.mv aS0),iPf 0 (.mv aT0),iPf 1 (.slen aS0),iPf 2 (.bin .gtr .int aS0 aC20),iQo 7 (.pick aS3 (.c (.bool true)) aS0)] (.cond aT7 (iSr [iQo 1 (.mv aC0),iQo 2 (.mv (.c (.bool false)))] .ret) .skip)) X1))
def xw.b0:IR:=xw.g0 xw.b1
def xw.res:List RV:=[.t (.of 1),.t (.of 2)]
def xw:Fn:={ params:=[(.of 0)],res:=xw.res,body:=xw.b0,init:=in11 }
theorem xw.ok:fnA Tryz.prog Tryz.f107 [0,2,3,4,5,6,7,15,23,32,56]=some xw:=by kernel_rfl
abbrev bZ.fr:=fr5
def bZ.b6:IR:=(.reg [iSm 2,iSm 3,iCa 49 [aS0],iCa 172 [aS2,aS0],iQm 2 0])
def bZ.g5 (X6:IR):IR:=(.block 1 X6)
def bZ.b5:IR:=bZ.g5 bZ.b6
def bZ.b7:IR:=(.reg [iSm 3,.s (.bin .add .int aS0 aC1),iQm 3 0])
def bZ.g4 (X5 X7:IR):IR:=(.seq X5 X7)
def bZ.b4:IR:=bZ.g4 bZ.b5 bZ.b7
def bZ.g3 (X4:IR):IR:=(.seq (iSr [iSm 3,iSm 0,iQo 4 (.bin .leq .int aS1 aS0)] (.cond aT4 .skip (.exit 0))) X4)
def bZ.b3:IR:=bZ.g3 bZ.b4
def bZ.g2 (X3:IR):IR:=(.loop X3)
def bZ.b2:IR:=bZ.g2 bZ.b3
def bZ.g1 (X2:IR):IR:=(.block 0 X2)
def bZ.b1:IR:=bZ.g1 bZ.b2
def bZ.b8:IR:=(iSr [iSm 2,iQm 1 0] .ret)
def bZ.g0 (X1 X8:IR):IR:=(iSr [iQo 1 (.mv (.c (.str [])))] (iSr [iQo 2 (.mv (.c (.str [49])))] (.seq (iSr [iQo 3 (.mv aC2)] X1) X8)))
def bZ.b0:IR:=bZ.g0 bZ.b1 bZ.b8
def bZ.res:List RV:=[.t (.of 1)]
def bZ:Fn:={ params:=[(.of 0)],res:=bZ.res,body:=bZ.b0,init:=in5 }
theorem bZ.ok:fnA Tryz.prog Tryz.f108 [0,2,3,4,7]=some bZ:=by kernel_rfl
abbrev cu.fr:=fr9
def cu.b6:IR:=(iSr [iSm 5,.s (.bin .sub .int aS0 aC1),iCa 108 [aS0],iQm 6 0] (iSr [iSm 1,iSm 6,iCa 119 [aS1,aS0],iCa 173 [aS0],iCa 107 [aS0],.s (.mv aS0),.s (.ext 0 aS0),.s (.ext 1 aS1),iQm 7 1,.s (.mv aS0)] (iSr [iSm 1,iSm 7,iCa 49 [aS0],iSm 6,iCa 172 [aS1,aS0],iCa 133 [aS4,aS0],iQm 1 0] (iSr [iSm 4,iSm 3,iSm 7,.s (.zo 1 aS1 aS0),.s (.load aS0),.w .push none (.zx 1 1 [(I 0)] [(0,1,aS0)]),.w .push none (.app 1 8 aS5 aS0),iQm 4 0] (.yu [] [(iSm 3,1,[]),(iSm 7,1,[]),(.s (.slice 1 aS1 none (some aS0) none),1,[]),(iSm 3,2,[]),(iSm 7,2,[]),(.s (.bin .add .int aS0 aC1),2,[]),(.s (.slice 1 aS2 (some aS0) none none),2,[]),(.w .push none (.zx 1 0 [(I 0)] []),0,[]),(.w .push none (.app 1 8 aS0 aS5),0,[]),(.w .push none (.app 1 8 aS0 aS2),0,[]),(iQm 3 0,0,[])])))))
def cu.g5 (X6:IR):IR:=(.block 1 X6)
def cu.b5:IR:=cu.g5 cu.b6
def cu.b7:IR:=(.reg [iSm 5,.s (.bin .sub .int aS0 aC1),iQm 5 0])
def cu.g4 (X5 X7:IR):IR:=(.seq X5 X7)
def cu.b4:IR:=cu.g4 cu.b5 cu.b7
def cu.g3 (X4:IR):IR:=(.seq (iSr [iSm 5,iQo 8 (.bin .gtr .int aS0 aC0)] (.cond aT8 .skip (.exit 0))) X4)
def cu.b3:IR:=cu.g3 cu.b4
def cu.g2 (X3:IR):IR:=(.loop X3)
def cu.b2:IR:=cu.g2 cu.b3
def cu.g1 (X2:IR):IR:=(.block 0 X2)
def cu.b1:IR:=cu.g1 cu.b2
def cu.b8:IR:=(iSr [iSm 4,iQm 2 0] .ret)
def cu.g0 (X1 X8:IR):IR:=(iSr [iQo 2 (.mv (.c .zf))] (iSr [iSm 0,iCa 101 [aS0],iQm 3 0] (iSr [iQo 4 (.mv (.c .zf))] (.seq (iSr [iSm 0,iQm 5 0] X1) X8))))
def cu.b0:IR:=cu.g0 cu.b1 cu.b8
def cu.res:List RV:=[.t (.of 2)]
def cu:Fn:={ params:=[(.of 0),(.of 1)],res:=cu.res,body:=cu.b0,init:=in9 }
theorem cu.ok:fnA Tryz.prog Tryz.f109 [0,1,4,5,6,7,8,9,15]=some cu:=by kernel_rfl
abbrev F110.fr:=fr2
def F110.b0:IR:=(iSr [iWl 1 (.alloc [(I 0),.zf])] (iSr [iSm 0,.s (.build [(I 0),.zf] [(0,1,aS0)]),.w .none none (.store 2 aT1 aS0)] .ret))
def F110.res:List RV:=[.cell (.of 1) (some 2)]
def F110:Fn:={ params:=[(.of 0)],res:=F110.res,body:=F110.b0,init:=in2 }
theorem F110.ok:fnA Tryz.prog Tryz.f110 [0,2]=some F110:=by kernel_rfl
abbrev tq.fr:=fr14
def tq.b3:IR:=(iSr [iSm 6,iSm 8,.s (.bin .eql .bool aS1 aS0),iQm 12 0] (.cond sD (iSr [iSm 6,iSm 7,iSm 9,iCa 176 [aS1,aS0],iCa 175 [aS3,aS0],.w .none none (.store 2 aT4 aS0)] .ret) (iSr [iSm 7,iSm 9,iCa 177 [aS1,aS0],.s (.bin .geq .int aS0 aC0),iQm 13 0] (.cond rF (iSr [iSm 6,iSm 7,iSm 9,iCa 178 [aS1,aS0],iCa 175 [aS3,aS0],.w .none none (.store 2 aT4 aS0)] .ret) .skip))))
def tq.g2 (X3:IR):IR:=(.block 0 X3)
def tq.b2:IR:=tq.g2 tq.b3
def tq.b4:IR:=(iSr [iSm 8,iSm 9,iSm 7,iCa 178 [aS1,aS0],iCa 175 [aS3,aS0],.w .none none (.store 2 aT4 aS0)] .ret)
def tq.g1 (X2 X4:IR):IR:=(iSr [.s (.zi 2 aT2),iCa 174 [aS0],.s (.mv aS0),.s (.ext 0 aS0),.s (.ext 1 aS1),iQm 6 1,iQm 7 0] (iSr [.s (.zi 2 aT3),iCa 174 [aS0],.s (.mv aS0),.s (.ext 0 aS0),.s (.ext 1 aS1),iQm 8 1,iQm 9 0] (.seq X2 X4)))
def tq.b1:IR:=tq.g1 tq.b2 tq.b4
def tq.g0 (X1:IR):IR:=(iSr [iWl 2 (.box aT0),iWl 3 (.box aT1),iWl 4 (.alloc [(I 0),.zf])] (.seq (iSr [.s (.zu 1 aT2),.s (.load aS0),.s (.bin .eql (.nil .sl) aS0 (.c .zf)),.s (.mv aS0),iPt 0 (.zu 1 aT3),iPt 1 (.load aS0),iPt 2 (.bin .eql (.nil .sl) aS0 (.c .zf)),iQo 10 (.pick aS3 aS0 (.c (.bool false)))] (.cond bg (iSr [.s (.zu 0 aT2),.s (.load aS0),.s (.zu 0 aT3),.s (.load aS0),.s (.bin .add .int aS2 aS0),iQm 5 0] (iSr [iSm 5,.s (.zu 0 aT2),.s (.load aS0),.s (.bin .gtr .int aS2 aS0),.s (.zu 0 aT3),.s (.load aS0),.s (.bin .gtr .int aS0 aC0),iQo 11 (.bin .eql .bool aS3 aS0)] (.cond rJ (iSr [iSm 5,.s (.build [(I 0),.zf] [(0,1,aS0)]),.w .none none (.store 2 aT4 aS0)] .ret) .skip))) .skip)) X1))
def tq.b0:IR:=tq.g0 tq.b1
def tq.res:List RV:=[.cell (.of 4) (some 2)]
def tq:Fn:={ params:=[(.of 0),(.of 1)],res:=tq.res,body:=tq.b0,init:=in14 }
theorem tq.ok:fnA Tryz.prog Tryz.f111 [0,1,2,3,4,5,6,7,8,9,17,30,43,52]=some tq:=by kernel_rfl
abbrev bJ.fr:=fr12
def bJ.b7:IR:=(.yu [] [(.s (.zi 2 aT4),1,[]),(iSm 6,0,[]),(iCa 110 [aS0],0,[]),(iCa 179 [aS2,aS0],0,[]),(.w .none none (.store 2 aT4 aS0),0,[])])
def bJ.g6 (X7:IR):IR:=(iSr [.s (.zo 1 aT7 aT9),.s (.load aS0),iQm 5 0] (iSr [iSm 1,iQm 6 0] (.seq (iSr [.s (.zu 1 aT2),.s (.load aS0),.s (.mv aS0),iPt 0 (.mv aT5),iPt 1 (.bin .rem .int aS0 aC2),iPt 2 (.bin .eql .int aS0 aC1),iQo 11 (.pick aS3 aS0 (.c (.bool false)))] (.cond rJ (.reg [iSm 1,.s (.bin .rem .int aS0 aC2),iQm 6 0]) .skip)) X7)))
def bJ.b6:IR:=bJ.g6 bJ.b7
def bJ.g5 (X6:IR):IR:=(.block 1 X6)
def bJ.b5:IR:=bJ.g5 bJ.b6
def bJ.b8:IR:=(.reg [.s (.bin .add .int aT9 aC1),iQm 9 0])
def bJ.g4 (X5 X8:IR):IR:=(.seq X5 X8)
def bJ.b4:IR:=bJ.g4 bJ.b5 bJ.b8
def bJ.g3 (X4:IR):IR:=(iSr [iQo 10 (.bin .lss .int aT9 aT8)] (.seq (.cond bg .skip (.exit 0)) X4))
def bJ.b3:IR:=bJ.g3 bJ.b4
def bJ.g2 (X3:IR):IR:=(.loop X3)
def bJ.b2:IR:=bJ.g2 bJ.b3
def bJ.g1 (X2:IR):IR:=(.block 0 X2)
def bJ.b1:IR:=bJ.g1 bJ.b2
def bJ.b9:IR:=(iSr [.s (.zi 2 aT4),.w .none none (.store 2 aT3 aS0)] .ret)
def bJ.g0 (X1 X9:IR):IR:=(iSr [iWl 2 (.box aT0),iWl 3 (.alloc [(I 0),.zf])] (iSr [iCa 110 [aC1],iWl 4 (.alloc [(I 0),.zf]),.w .none none (.store 2 aT4 aS0)] (.seq (iSr [.s (.zi 2 aT2),iWl 7 (.call (.c (.fn 138 (.of 138) [])) [aS0]),iQo 8 (.len aT7),iQo 9 (.mv aC0)] X1) X9)))
def bJ.b0:IR:=bJ.g0 bJ.b1 bJ.b9
def bJ.res:List RV:=[.cell (.of 3) (some 2)]
def bJ:Fn:={ params:=[(.of 0),(.of 1)],res:=bJ.res,body:=bJ.b0,init:=in12 }
theorem bJ.ok:fnA Tryz.prog Tryz.f112 [0,1,2,4,5,7,8,11,12,13,14,24]=some bJ:=by kernel_rfl
abbrev F113.fr:=fr3
def F113.b0:IR:=(iSr [iWl 1 (.box aT0),iWl 2 (.alloc [(I 0),.zf,(I 0),.zf])] (.seq (.yu [] [(.s (.zi 2 aT1),1,[]),(iCa 110 [aC1],0,[]),(.s (.build [(I 0),.zf,(I 0),.zf] [(0,2,aS1),(2,2,aS0)]),0,[]),(.w .none none (.store 4 aT2 aS0),0,[])]) .ret))
def F113.res:List RV:=[.cell (.of 2) (some 4)]
def F113:Fn:={ params:=[(.of 0)],res:=F113.res,body:=F113.b0,init:=in3 }
theorem F113.ok:fnA Tryz.prog Tryz.f113 [0,1,2]=some F113:=by kernel_rfl
abbrev F114.fr:=fr7
def F114.b1:IR:=(iSr [.s (.zi 2 aT2),.s (.zi 2 aT3),iCa 182 [aS1,aS0],.s (.mv aS0),.s (.ext 0 aS0),.s (.ext 1 aS1),iWl 5 (.alloc [(I 0),.zf]),.w .push none (.alloc [(I 0),.zf]),.w .none none (.store 2 aT5 aS2),.w .none none (.store 2 aS0 aS1)] (iSr [.s (.zi 2 aT5),.w .none none (.store 2 aT4 aS0)] .ret))
def F114.g0 (X1:IR):IR:=(iSr [iWl 2 (.box aT0),iWl 3 (.box aT1),iWl 4 (.alloc [(I 0),.zf])] (.seq (iSr [.s (.zi 2 aT3),iCa 180 [aS0],iQo 6 (.bin .lss .int aS0 aC0)] (.cond aT6 (.yu [] [(.s (.zi 2 aT2),0,[]),(.s (.zi 2 aT3),1,[]),(iCa 181 [aS1],0,[]),(iCa 181 [aS1],0,[]),(.w .none none (.store 2 aT2 aS1),0,[]),(.w .none none (.store 2 aT3 aS0),0,[])]) .skip)) X1))
def F114.b0:IR:=F114.g0 F114.b1
def F114.res:List RV:=[.cell (.of 4) (some 2)]
def F114:Fn:={ params:=[(.of 0),(.of 1)],res:=F114.res,body:=F114.b0,init:=in7 }
theorem F114.ok:fnA Tryz.prog Tryz.f114 [0,1,2,3,4,5,9]=some F114:=by kernel_rfl
abbrev F115.fr:=fr3
def F115.b0:IR:=(iSr [iWl 1 (.box aT0),iQo 2 (.mv (.c (.bool false)))] (iSr [.s (.zu 0 aT1),.s (.zi 2 aS0),iCa 183 [aS0],.s (.mv aS0),iPf 0 (.zu 2 aT1),iPf 1 (.zi 2 aS0),.w .push (some (aS2,false)) (.call (.c (.fn 183 (.of 183) [])) [aS0]),.s (.pick aS3 (.c (.bool true)) aS0),iQm 2 0] .ret))
def F115.res:List RV:=[.t (.of 2)]
def F115:Fn:={ params:=[(.of 0)],res:=F115.res,body:=F115.b0,init:=in3 }
theorem F115.ok:fnA Tryz.prog Tryz.f115 [0,1,2]=some F115:=by kernel_rfl
abbrev F116.fr:=fr4
def F116.b1:IR:=(.seq (.yu [] [(.s (.zu 0 aT1),0,[]),(.s (.zi 2 aS0),0,[]),(.s (.zu 2 aT1),1,[]),(.s (.zi 2 aS0),1,[]),(iCa 185 [aS2],0,[]),(.s (.bin .add .str aS0 (.c (.str [47]))),1,[]),(iCa 185 [aS2],0,[]),(.s (.bin .add .str aS1 aS0),0,[]),(iQm 2 0,0,[])]) .ret)
def F116.g0 (X1:IR):IR:=(iSr [iWl 1 (.box aT0),iQo 2 (.mv (.c (.str [])))] (.seq (iSr [.s (.zi 4 aT1),iWl 3 (.call (.c (.fn 184 (.of 184) [])) [aS0])] (.cond aT3 (iSr [.s (.zu 0 aT1),.s (.zi 2 aS0),iCa 185 [aS0],iQm 2 0] .ret) .skip)) X1))
def F116.b0:IR:=F116.g0 F116.b1
def F116.res:List RV:=[.t (.of 2)]
def F116:Fn:={ params:=[(.of 0)],res:=F116.res,body:=F116.b0,init:=in4 }
theorem F116.ok:fnA Tryz.prog Tryz.f116 [0,1,2,4]=some F116:=by kernel_rfl
abbrev F117.fr:=fr14
def F117.b1:IR:=(iSr [iSm 0,iCa 128 [aS0],.s (.mv aS0),.s (.ext 0 aS0),.s (.ext 1 aS1),iWl 9 (.alloc [(.bool false),.zf]),iWl 10 (.alloc [(.bool false),.zf]),.w .none none (.store 2 aT9 aS1),.w .none none (.store 2 bg aS0)] (iSr [iSm 1,iCa 128 [aS0],.s (.mv aS0),.s (.ext 0 aS0),.s (.ext 1 aS1),iWl 11 (.alloc [(.bool false),.zf]),iWl 12 (.alloc [(.bool false),.zf]),.w .none none (.store 2 rJ aS1),.w .none none (.store 2 sD aS0)] (.seq (.yu [] [(.s (.zi 2 aT9),0,[]),(.s (.zi 2 sD),0,[]),(.s (.zi 2 rJ),1,[]),(.s (.zi 2 bg),1,[]),(.s (.zi 2 bg),3,[]),(.s (.zi 2 sD),3,[]),(iCa 190 [aS5,aS4],0,[]),(iCa 190 [aS4,aS3],0,[]),(iCa 189 [aS1,aS0],0,[]),(iCa 190 [aS4,aS3],0,[]),(iCa 188 [aS1,aS0],0,[]),(iQm 2 0,0,[])]) .ret)))
def F117.g0 (X1:IR):IR:=(iSr [iQo 2 (.mv (.c (.str [])))] (iSr [iSm 0,iCa 186 [aS0],.s (.mv aS0),.s (.ext 0 aS0),.s (.ext 1 aS1),.s (.ext 2 aS2),iQm 3 2,iQm 4 1,iQm 5 0] (iSr [iSm 1,iCa 186 [aS0],.s (.mv aS0),.s (.ext 0 aS0),.s (.ext 1 aS1),.s (.ext 2 aS2),iQm 6 2,iQm 7 1,iQm 8 0] (.seq (iSr [iSm 5,.s (.mv aS0),iPt 0 (.mv aT8),iQo 13 (.pick aS1 aS0 (.c (.bool false)))] (.cond rF (iSr [iSm 3,iSm 7,.s (.bin .mul .int aS1 aS0),iSm 6,iSm 4,.s (.bin .mul .int aS1 aS0),.s (.bin .add .int aS3 aS0),iSm 4,iSm 7,.s (.bin .mul .int aS1 aS0),iCa 187 [aS3,aS0],iQm 2 0] .ret) .skip)) X1))))
def F117.b0:IR:=F117.g0 F117.b1
def F117.res:List RV:=[.t (.of 2)]
def F117:Fn:={ params:=[(.of 0),(.of 1)],res:=F117.res,body:=F117.b0,init:=in14 }
theorem F117.ok:fnA Tryz.prog Tryz.f117 [0,1,4,5,6,7,8,9,10,11,12,13,14,30]=some F117:=by kernel_rfl
abbrev F119.fr:=fr3
def F119.b0:IR:=(iSr [iQo 2 (.mv (.c (.str [])))] (iSr [iSm 0,iSm 1,iCa 191 [aS0],iCa 172 [aS2,aS0],iQm 2 0] .ret))
def F119.res:List RV:=[.t (.of 2)]
def F119:Fn:={ params:=[(.of 0),(.of 1)],res:=F119.res,body:=F119.b0,init:=in3 }
theorem F119.ok:fnA Tryz.prog Tryz.f119 [0,1,4]=some F119:=by kernel_rfl
abbrev zk.fr:=fr18
def zk.b7:IR:=(iSr [.s (.entry aT15),.s (.ext 1 aS0),iWl 12 (.alloc [.zf,(.bool false)]),.w .none none (.store 2 sD aS0)] (iSr [iSm 7,.s (.zi 2 sD),iCa 121 [aS1,aS0],iQo 17 (.not aS0)] (.cond aT17 (.seq (.yu [] [(.s (.zi 2 aT6),0,[]),(iQo 3 (.mv (.c .jk)),0,[]),(.w .none none (.store 2 aT4 aS0),0,[]),(iQo 5 (.mv aC28),0,[])]) .ret) .skip)))
def zk.g6 (X7:IR):IR:=(.block 1 X7)
def zk.b6:IR:=zk.g6 zk.b7
def zk.g5 (X6:IR):IR:=(iSr [.w .push none (.next aT15),iQo 16 (.ext 0 aS0)] (.seq (.cond aT16 .skip (.exit 0)) X6))
def zk.b5:IR:=zk.g5 zk.b6
def zk.g4 (X5:IR):IR:=(.loop X5)
def zk.b4:IR:=zk.g4 zk.b5
def zk.g3 (X4:IR):IR:=(.block 0 X4)
def zk.b3:IR:=zk.g3 zk.b4
def zk.b8:IR:=(iSr [iSm 8,iSm 11,.s (.aN 1 2 aT6 aC0),.w .none none (.store 1 aS0 aS2),.s (.aN 1 2 aT6 aC1),.w .none none (.store 1 aS0 aS2)] (.seq (.yu [] [(iSm 10,0,[]),(.s (.zi 2 aT6),0,[]),(iQm 3 1,0,[]),(.w .none none (.store 2 aT4 aS0),0,[]),(iQo 5 (.mv aC0),0,[])]) .ret))
def zk.g2 (X3 X8:IR):IR:=(.seq (iSr [iSm 10,iWl 15 (.range aS0)] X3) X8)
def zk.b2:IR:=zk.g2 zk.b3 zk.b8
def zk.g1 (X2:IR):IR:=(iSr [iSm 1,iSm 2,iCa 92 [aS1,aS0],.s (.mv aS0),.s (.ext 0 aS0),.s (.ext 1 aS1),.s (.ext 2 aS2),iQm 10 2,iQm 11 1,iQm 9 0] (.seq (iSr [iSm 9,iQo 14 (.bin .neq .int aS0 aC0)] (.cond oH (.seq (.yu [] [(.s (.zi 2 aT6),0,[]),(iSm 9,1,[]),(iQo 3 (.mv (.c .jk)),0,[]),(.w .none none (.store 2 aT4 aS1),0,[]),(iQm 5 0,0,[])]) .ret) .skip)) X2))
def zk.b1:IR:=zk.g1 zk.b2
def zk.g0 (X1:IR):IR:=(iSr [iQo 3 (.mv (.c .jk)),iWl 4 (.alloc [.zf,.zf]),iQo 5 (.mv aC0)] (iSr [iWl 6 (.alloc [.zf,.zf])] (iSr [iSm 0,iSm 2,iCa 92 [aS1,aS0],.s (.mv aS0),.s (.ext 0 aS0),.s (.ext 1 aS1),.s (.ext 2 aS2),iQm 7 2,iQm 8 1,iQm 9 0] (.seq (iSr [iSm 9,iQo 13 (.bin .neq .int aS0 aC0)] (.cond rF (.seq (.yu [] [(.s (.zi 2 aT6),0,[]),(iSm 9,1,[]),(iQo 3 (.mv (.c .jk)),0,[]),(.w .none none (.store 2 aT4 aS1),0,[]),(iQm 5 0,0,[])]) .ret) .skip)) X1))))
def zk.b0:IR:=zk.g0 zk.b1
def zk.res:List RV:=[.t (.of 3),.cell (.of 4) (some 2),.t (.of 5)]
def zk:Fn:={ params:=[(.of 0),(.of 1),(.of 2)],res:=zk.res,body:=zk.b0,init:=in18 }
theorem zk.ok:fnA Tryz.prog Tryz.f120 [0,1,2,6,7,8,9,10,11,12,13,14,16,25,36,40,42,48]=some zk:=by kernel_rfl
abbrev oU.fr:=fr5
def oU.b0:IR:=(iSr [iWl 2 (.box aT1),iQo 3 (.mv (.c (.bool false)))] (iSr [iSm 0,.s (.zi 2 aT2),iCa 123 [aS0],.s (.look .str (.agg [.zf,(.bool false)]) true aS2 aS0),.s (.mv aS0),.s (.ext 0 aS0),.s (.ext 1 aS1),.w .push none (.alloc [.zf,(.bool false)]),.w .none none (.store 2 aS0 aS2),iQm 4 1] (iSr [iSm 4,iQm 3 0] .ret)))
def oU.res:List RV:=[.t (.of 3)]
def oU:Fn:={ params:=[(.of 0),(.of 1)],res:=oU.res,body:=oU.b0,init:=in5 }
theorem oU.ok:fnA Tryz.prog Tryz.f121 [0,1,3,4,6]=some oU:=by kernel_rfl
abbrev uz.fr:=fr12
def uz.b6:IR:=(iSr [iSm 10,.s (.zo 1 aT8 bg),.s (.load aS0),iQm 6 2,iQm 7 0] (.yu [] [(.s (.zu 0 aT5),0,[]),(.s (.load aS0),0,[]),(iSm 6,0,[]),(.s (.zu 0 aT2),0,[]),(.s (.load aS0),0,[]),(iSm 7,0,[]),(.s (.zo 1 aS1 aS0),0,[]),(.s (.load aS0),0,[]),(.s (.zo 1 aS6 aS5),0,[]),(.w .none none (.store 1 aS0 aS1),0,[])]))
def uz.g5 (X6:IR):IR:=(.block 1 X6)
def uz.b5:IR:=uz.g5 uz.b6
def uz.b7:IR:=(.reg [.s (.bin .add .int bg aC1),iQm 10 0])
def uz.g4 (X5 X7:IR):IR:=(.seq X5 X7)
def uz.b4:IR:=uz.g4 uz.b5 uz.b7
def uz.g3 (X4:IR):IR:=(iSr [iQo 11 (.bin .lss .int bg aT9)] (.seq (.cond rJ .skip (.exit 0)) X4))
def uz.b3:IR:=uz.g3 uz.b4
def uz.g2 (X3:IR):IR:=(.loop X3)
def uz.b2:IR:=uz.g2 uz.b3
def uz.g1 (X2:IR):IR:=(.block 0 X2)
def uz.b1:IR:=uz.g1 uz.b2
def uz.b8:IR:=(iSr [.s (.zi 2 aT5),.w .none none (.store 2 aT4 aS0)] .ret)
def uz.g0 (X1 X8:IR):IR:=(iSr [iWl 2 (.box aT0),iWl 3 (.box aT1),iWl 4 (.alloc [.zf,(.bool false)])] (.seq (.yu [(.alloc [.zf,(.bool false)])] [(.s (.zu 0 aT3),2,[]),(.s (.load aS0),2,[]),(.s (.len aS0),2,[(.jr 1 8 [(I 0)] aS0 aS0)]),(.s (.zu 1 aT2),2,[]),(.s (.load aS0),2,[]),(.s (.zu 1 aT3),2,[]),(.s (.load aS0),2,[]),(.s (.bin .neq .bool aS2 aS0),2,[]),(.w .push none (.jr 1 8 [(I 0)] aS5 aS5),0,[]),(.s (.build [.zf,(.bool false)] [(0,1,aS0),(1,1,aS1)]),1,[]),(iWl 5 (.alloc [.zf,(.bool false)]),0,[]),(.w .none none (.store 2 aT5 aS0),0,[])]) (.seq (iSr [.s (.zu 0 aT3),iQo 8 (.load aS0),iQo 9 (.len aT8),iQo 10 (.mv aC0)] X1) X8)))
def uz.b0:IR:=uz.g0 uz.b1 uz.b8
def uz.res:List RV:=[.cell (.of 4) (some 2)]
def uz:Fn:={ params:=[(.of 0),(.of 1)],res:=uz.res,body:=uz.b0,init:=in12 }
theorem uz.ok:fnA Tryz.prog Tryz.f122 [0,1,2,3,4,5,6,7,19,20,21,22]=some uz:=by kernel_rfl
abbrev gy.fr:=fr10
def gy.b6:IR:=(iSr [.s (.zo 1 aT5 aT7),.s (.load aS0),iQm 4 0] (.reg [iSm 3,iSm 4,.s (.conv .u8 aS0),.w .push none (.zx 1 1 [(.int .u8 0)] [(0,1,aS0)]),.w .push none (.app 1 1 aS3 aS0),iQm 3 0]))
def gy.g5 (X6:IR):IR:=(.block 1 X6)
def gy.b5:IR:=gy.g5 gy.b6
def gy.b7:IR:=(.reg [.s (.bin .add .int aT7 aC1),iQm 7 0])
def gy.g4 (X5 X7:IR):IR:=(.seq X5 X7)
def gy.b4:IR:=gy.g4 gy.b5 gy.b7
def gy.g3 (X4:IR):IR:=(iSr [iQo 8 (.bin .lss .int aT7 aT6)] (.seq (.cond aT8 .skip (.exit 0)) X4))
def gy.b3:IR:=gy.g3 gy.b4
def gy.g2 (X3:IR):IR:=(.loop X3)
def gy.b2:IR:=gy.g2 gy.b3
def gy.g1 (X2:IR):IR:=(.block 0 X2)
def gy.b1:IR:=gy.g1 gy.b2
def gy.b9:IR:=(iSr [iSm 3,.s (.b2s aS0),iQm 2 0] .ret)
def gy.g8 (X9:IR):IR:=(.seq (iSr [.s (.zu 1 aT1),iQo 9 (.load aS0)] (.cond aT9 (.reg [iSm 3,.w .push none (.zx 1 1 [(.int .u8 0)] [(0,1,(.c (.int .u8 1)))]),.w .push none (.app 1 1 aS1 aS0),iQm 3 0]) .skip)) X9)
def gy.b8:IR:=gy.g8 gy.b9
def gy.g0 (X1 X8:IR):IR:=(iSr [iWl 1 (.box aT0),iQo 2 (.mv (.c (.str [])))] (iSr [.s (.zu 0 aT1),.s (.load aS0),.s (.len aS0),.s (.bin .add .int aS0 aC1),.w .push none (.jr 1 1 [(.int .u8 0)] aC0 aS0),iQm 3 0] (.seq (iSr [.s (.zu 0 aT1),iQo 5 (.load aS0),iQo 6 (.len aT5),iQo 7 (.mv aC0)] X1) X8)))
def gy.b0:IR:=gy.g0 gy.b1 gy.b8
def gy.res:List RV:=[.t (.of 2)]
def gy:Fn:={ params:=[(.of 0)],res:=gy.res,body:=gy.b0,init:=in10 }
theorem gy.ok:fnA Tryz.prog Tryz.f123 [0,1,2,3,5,12,13,14,15,25]=some gy:=by kernel_rfl
abbrev yj.fr:=fr10
def yj.b6:IR:=(iSr [iSm 8,.s (.zo 1 aT6 aT8),.s (.load aS0),iQm 4 2,iQm 5 0] (.reg [.s (.zu 0 aT3),.s (.load aS0),iSm 5,iSm 4,.s (.zo 1 aS2 aS1),.w .none none (.store 1 aS0 aS1)]))
def yj.g5 (X6:IR):IR:=(.block 1 X6)
def yj.b5:IR:=yj.g5 yj.b6
def yj.b7:IR:=(.reg [.s (.bin .add .int aT8 aC1),iQm 8 0])
def yj.g4 (X5 X7:IR):IR:=(.seq X5 X7)
def yj.b4:IR:=yj.g4 yj.b5 yj.b7
def yj.g3 (X4:IR):IR:=(iSr [iQo 9 (.bin .lss .int aT8 aT7)] (.seq (.cond aT9 .skip (.exit 0)) X4))
def yj.b3:IR:=yj.g3 yj.b4
def yj.g2 (X3:IR):IR:=(.loop X3)
def yj.b2:IR:=yj.g2 yj.b3
def yj.g1 (X2:IR):IR:=(.block 0 X2)
def yj.b1:IR:=yj.g1 yj.b2
def yj.b8:IR:=(iSr [.s (.zi 2 aT3),.w .none none (.store 2 aT2 aS0)] .ret)
def yj.g0 (X1 X8:IR):IR:=(iSr [iWl 1 (.box aT0),iWl 2 (.alloc [.zf,(.bool false)])] (.seq (.yu [(.alloc [.zf,(.bool false)])] [(.s (.zu 0 aT1),2,[]),(.s (.load aS0),2,[]),(.s (.len aS0),2,[(.jr 1 8 [(I 0)] aS0 aS0)]),(.s (.zu 1 aT1),2,[]),(.s (.load aS0),2,[]),(.w .push none (.jr 1 8 [(I 0)] aS2 aS2),0,[]),(.s (.build [.zf,(.bool false)] [(0,1,aS0),(1,1,aS1)]),1,[]),(iWl 3 (.alloc [.zf,(.bool false)]),0,[]),(.w .none none (.store 2 aT3 aS0),0,[])]) (.seq (iSr [.s (.zu 0 aT1),iQo 6 (.load aS0),iQo 7 (.len aT6),iQo 8 (.mv aC0)] X1) X8)))
def yj.b0:IR:=yj.g0 yj.b1 yj.b8
def yj.res:List RV:=[.cell (.of 2) (some 2)]
def yj:Fn:={ params:=[(.of 0)],res:=yj.res,body:=yj.b0,init:=in10 }
theorem yj.ok:fnA Tryz.prog Tryz.f124 [0,1,2,3,4,5,14,15,16,17]=some yj:=by kernel_rfl
abbrev cO.fr:=fr5
def cO.b6:IR:=(iSr [iSm 0,iSm 2,.s (.sidx aS1 aS0),iQo 4 (.bin .eql .int aS0 (.c (.int .u8 47)))] (.cond aT4 (iSr [iSm 2,iQm 1 0] .ret) .skip))
def cO.g5 (X6:IR):IR:=(.block 1 X6)
def cO.b5:IR:=cO.g5 cO.b6
def cO.b7:IR:=(.reg [iSm 2,.s (.bin .add .int aS0 aC1),iQm 2 0])
def cO.g4 (X5 X7:IR):IR:=(.seq X5 X7)
def cO.b4:IR:=cO.g4 cO.b5 cO.b7
def cO.g3 (X4:IR):IR:=(.seq (iSr [iSm 2,iSm 0,.s (.slen aS0),iQo 3 (.bin .lss .int aS2 aS0)] (.cond aT3 .skip (.exit 0))) X4)
def cO.b3:IR:=cO.g3 cO.b4
def cO.g2 (X3:IR):IR:=(.loop X3)
def cO.b2:IR:=cO.g2 cO.b3
def cO.g1 (X2:IR):IR:=(.block 0 X2)
def cO.b1:IR:=cO.g1 cO.b2
def cO.b8:IR:=(iSr [iSm 0,.s (.slen aS0),iQm 1 0] .ret)
def cO.g0 (X1 X8:IR):IR:=(iSr [iQo 1 (.mv aC0)] (.seq (iSr [iQo 2 (.mv aC0)] X1) X8))
def cO.b0:IR:=cO.g0 cO.b1 cO.b8
def cO.res:List RV:=[.t (.of 1)]
def cO:Fn:={ params:=[(.of 0)],res:=cO.res,body:=cO.b0,init:=in5 }
theorem cO.ok:fnA Tryz.prog Tryz.f126 [0,2,3,7,13]=some cO:=by kernel_rfl
abbrev F128.fr:=fr6
def F128.b1:IR:=(.seq (.yu [] [(iSm 3,0,[]),(iSm 4,0,[]),(.s (.rD aS1 none (some aS0)),0,[]),(iSm 3,1,[]),(iSm 4,1,[]),(.s (.bin .add .int aS0 aC1),1,[]),(.s (.rD aS2 (some aS0) none),1,[]),(iCa 171 [aS4],0,[]),(iCa 171 [aS1],0,[]),(.w .none none (.store 2 aT1 aS1),0,[]),(.w .none none (.store 2 aT2 aS0),0,[])]) .ret)
def F128.g0 (X1:IR):IR:=(iSr [iWl 1 (.alloc [(.bool false),.zf]),iWl 2 (.alloc [(.bool false),.zf])] (iSr [iSm 0,iQm 3 0] (iSr [iSm 3,iCa 126 [aS0],iQm 4 0] (.seq (iSr [iSm 4,iSm 3,.s (.slen aS0),iQo 5 (.bin .eql .int aS2 aS0)] (.cond aT5 (iSr [iSm 3,iCa 171 [aS0],iCa 131 [aC1],.w .none none (.store 2 aT1 aS1),.w .none none (.store 2 aT2 aS0)] .ret) .skip)) X1))))
def F128.b0:IR:=F128.g0 F128.b1
def F128.res:List RV:=[.cell (.of 1) (some 2),.cell (.of 2) (some 2)]
def F128:Fn:={ params:=[(.of 0)],res:=F128.res,body:=F128.b0,init:=in6 }
theorem F128.ok:fnA Tryz.prog Tryz.f128 [0,2,3,4,5,12]=some F128:=by kernel_rfl
abbrev ng.fr:=fr5
def ng.b5:IR:=(iSr [iSm 0,iSm 1,iCa 193 [aS1,aS0],.s (.mv aS0),.s (.ext 0 aS0),.s (.ext 1 aS1),.s (.mv aS1),iQm 3 1] (.reg [iSm 1,iSm 3,iQm 0 1,iQm 1 0]))
def ng.g4 (X5:IR):IR:=(.block 1 X5)
def ng.b4:IR:=ng.g4 ng.b5
def ng.g3 (X4:IR):IR:=(.seq (iSr [iSm 1,.s (.len aS0),iQo 4 (.bin .gtr .int aS0 aC0)] (.cond aT4 .skip (.exit 0))) X4)
def ng.b3:IR:=ng.g3 ng.b4
def ng.g2 (X3:IR):IR:=(.loop X3)
def ng.b2:IR:=ng.g2 ng.b3
def ng.g1 (X2:IR):IR:=(.block 0 X2)
def ng.b1:IR:=ng.g1 ng.b2
def ng.b6:IR:=(iSr [iSm 0,iQm 2 0] .ret)
def ng.g0 (X1 X6:IR):IR:=(iSr [iQo 2 (.mv (.c .zf))] (.seq X1 X6))
def ng.b0:IR:=ng.g0 ng.b1 ng.b6
def ng.res:List RV:=[.t (.of 2)]
def ng:Fn:={ params:=[(.of 0),(.of 1)],res:=ng.res,body:=ng.b0,init:=in5 }
theorem ng.ok:fnA Tryz.prog Tryz.f129 [0,1,4,6,9]=some ng:=by kernel_rfl
abbrev mg.fr:=fr8
def mg.b7:IR:=(.reg [iSm 3,.s (.zu 1 aT1),.s (.load aS0),iSm 4,.s (.zo 1 aS1 aS0),.s (.load aS0),iCa 194 [aS0,aC9],.s (.bin .add .str aS6 aS0),iQm 3 0])
def mg.g6 (X7:IR):IR:=(.block 1 X7)
def mg.b6:IR:=mg.g6 mg.b7
def mg.b8:IR:=(.reg [iSm 4,.s (.bin .sub .int aS0 aC1),iQm 4 0])
def mg.g5 (X6 X8:IR):IR:=(.seq X6 X8)
def mg.b5:IR:=mg.g5 mg.b6 mg.b8
def mg.g4 (X5:IR):IR:=(.seq (iSr [iSm 4,iQo 6 (.bin .geq .int aS0 aC0)] (.cond aT6 .skip (.exit 0))) X5)
def mg.b4:IR:=mg.g4 mg.b5
def mg.g3 (X4:IR):IR:=(.loop X4)
def mg.b3:IR:=mg.g3 mg.b4
def mg.g2 (X3:IR):IR:=(.block 0 X3)
def mg.b2:IR:=mg.g2 mg.b3
def mg.b10:IR:=(iSr [iSm 3,iQm 2 0] .ret)
def mg.g9 (X10:IR):IR:=(.seq (iSr [.s (.zu 0 aT1),iQo 7 (.load aS0)] (.cond aT7 (iSr [iSm 3,.s (.bin .add .str (.c (.str [45])) aS0),iQm 2 0] .ret) .skip)) X10)
def mg.b9:IR:=mg.g9 mg.b10
def mg.g1 (X2 X9:IR):IR:=(iSr [.s (.zu 1 aT1),.s (.load aS0),.s (.zu 1 aT1),.s (.load aS0),.s (.len aS0),.s (.bin .sub .int aS0 aC1),.s (.zo 1 aS4 aS0),.s (.load aS0),iCa 194 [aS0,aC1],iQm 3 0] (.seq (iSr [.s (.zu 1 aT1),.s (.load aS0),.s (.len aS0),.s (.bin .sub .int aS0 aC2),iQm 4 0] X2) X9))
def mg.b1:IR:=mg.g1 mg.b2 mg.b9
def mg.g0 (X1:IR):IR:=(iSr [iWl 1 (.box aT0),iQo 2 (.mv (.c (.str [])))] (.seq (iSr [.s (.zu 1 aT1),.s (.load aS0),.s (.len aS0),iQo 5 (.bin .eql .int aS0 aC0)] (.cond aT5 (iSr [iQo 2 (.mv (.c (.str [48])))] .ret) .skip)) X1))
def mg.b0:IR:=mg.g0 mg.b1
def mg.res:List RV:=[.t (.of 2)]
def mg:Fn:={ params:=[(.of 0)],res:=mg.res,body:=mg.b0,init:=in8 }
theorem mg.ok:fnA Tryz.prog Tryz.f130 [0,1,2,3,4,8,23,35]=some mg:=by kernel_rfl
abbrev fG.fr:=fr7
def fG.b6:IR:=(iSr [iSm 2,iSm 4,.w .push none (.zx 1 1 [(I 0)] [(0,1,aS0)]),.w .push none (.app 1 8 aS2 aS0),iQm 2 0] (.reg [iSm 0,.s (.bin .quo .int aS0 jS),iQm 0 0]))
def fG.g5 (X6:IR):IR:=(iSr [iSm 0,.s (.bin .rem .int aS0 jS),iQm 4 0] (.seq (iSr [iSm 4,iQo 6 (.bin .lss .int aS0 aC0)] (.cond aT6 (.reg [iSm 4,.s (.bin .sub .int aC0 aS0),iQm 4 0]) .skip)) X6))
def fG.b5:IR:=fG.g5 fG.b6
def fG.g4 (X5:IR):IR:=(.block 1 X5)
def fG.b4:IR:=fG.g4 fG.b5
def fG.g3 (X4:IR):IR:=(.seq (iSr [iSm 0,iQo 5 (.bin .neq .int aS0 aC0)] (.cond aT5 .skip (.exit 0))) X4)
def fG.b3:IR:=fG.g3 fG.b4
def fG.g2 (X3:IR):IR:=(.loop X3)
def fG.b2:IR:=fG.g2 fG.b3
def fG.g1 (X2:IR):IR:=(.block 0 X2)
def fG.b1:IR:=fG.g1 fG.b2
def fG.b7:IR:=(iSr [iSm 3,iSm 2,iCa 195 [aS1,aS0],.w .none none (.store 2 aT1 aS0)] .ret)
def fG.g0 (X1 X7:IR):IR:=(iSr [iWl 1 (.alloc [(.bool false),.zf])] (iSr [iQo 2 (.mv (.c .zf))] (iSr [iSm 0,.s (.bin .lss .int aS0 aC0),iQm 3 0] (.seq X1 X7))))
def fG.b0:IR:=fG.g0 fG.b1 fG.b7
def fG.res:List RV:=[.cell (.of 1) (some 2)]
def fG:Fn:={ params:=[(.of 0)],res:=fG.res,body:=fG.b0,init:=in7 }
theorem fG.ok:fnA Tryz.prog Tryz.f131 [0,2,3,4,5,9,13]=some fG:=by kernel_rfl
abbrev aV.fr:=fr4
def aV.b2:IR:=(iSr [iQo 1 (.mv aC1)] .ret)
def aV.g1 (X2:IR):IR:=(.seq (iSr [iSm 0,.s (.slen aS0),.s (.bin .gtr .int aS0 aC0),.s (.mv aS0),iPt 0 (.mv aT0),iPt 1 (.sidx aS0 aC0),iPt 2 (.bin .eql .int aS0 (.c (.int .u8 45))),iQo 3 (.pick aS3 aS0 (.c (.bool false)))] (.cond aT3 (iSr [iQo 1 (.mv (.c (I (-1))))] .ret) .skip)) X2)
def aV.b1:IR:=aV.g1 aV.b2
def aV.g0 (X1:IR):IR:=(iSr [iQo 1 (.mv aC0)] (.seq (iSr [iSm 0,iQo 2 (.bin .eql .str aS0 (.c (.str [48])))] (.cond aT2 (iSr [iQo 1 (.mv aC0)] .ret) .skip)) X1))
def aV.b0:IR:=aV.g0 aV.b1
def aV.res:List RV:=[.t (.of 1)]
def aV:Fn:={ params:=[(.of 0)],res:=aV.res,body:=aV.b0,init:=in4 }
theorem aV.ok:fnA Tryz.prog Tryz.f132 [0,2,4,12]=some aV:=by kernel_rfl
abbrev F133.fr:=fr3
def F133.b0:IR:=(iSr [iQo 2 (.mv (.c (.str [])))] (iSr [iSm 0,iSm 1,iCa 196 [aS0],iCa 117 [aS2,aS0],iQm 2 0] .ret))
def F133.res:List RV:=[.t (.of 2)]
def F133:Fn:={ params:=[(.of 0),(.of 1)],res:=F133.res,body:=F133.b0,init:=in3 }
theorem F133.ok:fnA Tryz.prog Tryz.f133 [0,1,4]=some F133:=by kernel_rfl
abbrev F134.fr:=fr2
def F134.b0:IR:=(iSr [iQo 1 (.mv aC0)] (iSr [iSm 0,.s (.len aS0),.s (.bin .gtr .int aS0 zc3),iCa 96 [aS0,aC5],iSm 0,.w .push none (.call (.c (.fn 136 (.of 136) [])) [aS0,(.c (.fn 137 (.of 137) []))]),iCa 96 [aS0,aC3],.w .push none (.zx 1 2 [(I 0)] [(0,1,aS3),(1,1,aS0)]),iCa 94 [aS0],iQm 1 0] .ret))
def F134.res:List RV:=[.t (.of 1)]
def F134:Fn:={ params:=[(.of 0)],res:=F134.res,body:=F134.b0,init:=in2 }
theorem F134.ok:fnA Tryz.prog Tryz.f134 [0,2]=some F134:=by kernel_rfl
abbrev bK.fr:=fr12
def bK.b7:IR:=(.reg [iSm 4,.s (.zu 0 aT2),.s (.load aS0),iSm 5,.s (.zo 1 aS1 aS0),.s (.load aS0),iSm 6,.s (.zo 1 aS6 aS1),.w .none none (.store 1 aS0 aS1)])
def bK.g6 (X7:IR):IR:=(iSr [iSm 9,.s (.zo 1 aT7 aT9),.s (.load aS0),iQm 5 2,iQm 6 0] (.seq (iSr [.s (.zu 1 aT2),iQo 11 (.load aS0)] (.cond rJ (.reg [iSm 1,.s (.len aS0),.s (.bin .add .int aS0 aC1),iSm 6,.s (.bin .sub .int aS1 aS0),iQm 6 0]) .skip)) X7))
def bK.b6:IR:=bK.g6 bK.b7
def bK.g5 (X6:IR):IR:=(.block 1 X6)
def bK.b5:IR:=bK.g5 bK.b6
def bK.b8:IR:=(.reg [.s (.bin .add .int aT9 aC1),iQm 9 0])
def bK.g4 (X5 X8:IR):IR:=(.seq X5 X8)
def bK.b4:IR:=bK.g4 bK.b5 bK.b8
def bK.g3 (X4:IR):IR:=(iSr [iQo 10 (.bin .lss .int aT9 aT8)] (.seq (.cond bg .skip (.exit 0)) X4))
def bK.b3:IR:=bK.g3 bK.b4
def bK.g2 (X3:IR):IR:=(.loop X3)
def bK.b2:IR:=bK.g2 bK.b3
def bK.g1 (X2:IR):IR:=(.block 0 X2)
def bK.b1:IR:=bK.g1 bK.b2
def bK.b9:IR:=(iSr [iSm 4,iQm 3 0] .ret)
def bK.g0 (X1 X9:IR):IR:=(iSr [iWl 2 (.box aT0),iQo 3 (.mv (.c .zf))] (iSr [iSm 1,.s (.len aS0),.w .push none (.jr 1 8 [(I 0)] aS0 aS0),iQm 4 0] (.seq (iSr [iQo 7 (.mv aT1),iQo 8 (.len aT7),iQo 9 (.mv aC0)] X1) X9)))
def bK.b0:IR:=bK.g0 bK.b1 bK.b9
def bK.res:List RV:=[.t (.of 3)]
def bK:Fn:={ params:=[(.of 0),(.of 1)],res:=bK.res,body:=bK.b0,init:=in12 }
theorem bK.ok:fnA Tryz.prog Tryz.f135 [0,1,2,4,5,6,7,11,12,13,14,19]=some bK:=by kernel_rfl
abbrev oO.fr:=fr3
def oO.b0:IR:=(iSr [iQo 2 (.mv (.c (.bool false)))] (iSr [iSm 0,iSm 1,iCa 197 [aS1,aS0],.s (.bin .geq .int aS0 aC0),iQm 2 0] .ret))
def oO.res:List RV:=[.t (.of 2)]
def oO:Fn:={ params:=[(.of 0),(.of 1)],res:=oO.res,body:=oO.b0,init:=in3 }
theorem oO.ok:fnA Tryz.prog Tryz.f136 [0,1,4]=some oO:=by kernel_rfl
abbrev F137.fr:=fr2
def F137.b0:IR:=(iSr [iQo 1 (.mv (.c (.bool false)))] (iSr [iSm 0,.s (.bin .lss .int aS0 (.c (I (-999999999)))),.s (.mv aS0),iPf 0 (.mv aT0),iPf 1 (.bin .gtr .int aS0 m8),.s (.pick aS2 (.c (.bool true)) aS0),iQm 1 0] .ret))
def F137.res:List RV:=[.t (.of 1)]
def F137:Fn:={ params:=[(.of 0)],res:=F137.res,body:=F137.b0,init:=in2 }
theorem F137.ok:fnA Tryz.prog Tryz.f137 [0,2]=some F137:=by kernel_rfl
abbrev qj.fr:=fr13
def qj.b12:IR:=(iSr [iSm 4,iSm 7,.s (.zo 1 aS1 aS0),.w .none none (.store 1 aS0 (.c (.bool true)))] (.reg [iSm 6,.s (.bin .add .int aS0 aC1),iQm 6 0]))
def qj.g11 (X12:IR):IR:=(.block 3 X12)
def qj.b11:IR:=qj.g11 qj.b12
def qj.b13:IR:=(.reg [.s (.zu 0 aT1),.s (.load aS0),iSm 7,.s (.zo 1 aS1 aS0),.s (.load aS0),iQm 7 0])
def qj.g10 (X11 X13:IR):IR:=(.seq X11 X13)
def qj.b10:IR:=qj.g10 qj.b11 qj.b13
def qj.g9 (X10:IR):IR:=(.seq (iSr [iSm 4,iSm 7,.s (.zo 1 aS1 aS0),.s (.load aS0),iQo 11 (.not aS0)] (.cond rJ .skip (.exit 2))) X10)
def qj.b9:IR:=qj.g9 qj.b10
def qj.g8 (X9:IR):IR:=(.loop X9)
def qj.b8:IR:=qj.g8 qj.b9
def qj.g7 (X8:IR):IR:=(.block 2 X8)
def qj.b7:IR:=qj.g7 qj.b8
def qj.b14:IR:=(iSr [iSm 6,iQo 12 (.bin .gtr .int aS0 aC0)] (.cond sD (.reg [iSm 3,iSm 6,.w .push none (.zx 1 1 [(I 0)] [(0,1,aS0)]),.w .push none (.app 1 8 aS2 aS0),iQm 3 0]) .skip))
def qj.g6 (X7 X14:IR):IR:=(iSr [iSm 9,iQm 5 0] (iSr [iQo 6 (.mv aC0)] (.seq (iSr [iSm 5,iQm 7 0] X7) X14)))
def qj.b6:IR:=qj.g6 qj.b7 qj.b14
def qj.g5 (X6:IR):IR:=(.block 1 X6)
def qj.b5:IR:=qj.g5 qj.b6
def qj.b15:IR:=(.reg [.s (.bin .add .int aT9 aC1),iQm 9 0])
def qj.g4 (X5 X15:IR):IR:=(.seq X5 X15)
def qj.b4:IR:=qj.g4 qj.b5 qj.b15
def qj.g3 (X4:IR):IR:=(iSr [iQo 10 (.bin .lss .int aT9 aT8)] (.seq (.cond bg .skip (.exit 0)) X4))
def qj.b3:IR:=qj.g3 qj.b4
def qj.g2 (X3:IR):IR:=(.loop X3)
def qj.b2:IR:=qj.g2 qj.b3
def qj.g1 (X2:IR):IR:=(.block 0 X2)
def qj.b1:IR:=qj.g1 qj.b2
def qj.b16:IR:=(iSr [iSm 3,iQm 2 0] .ret)
def qj.g0 (X1 X16:IR):IR:=(iSr [iWl 1 (.box aT0),iQo 2 (.mv (.c .zf))] (iSr [iQo 3 (.mv (.c .zf))] (iSr [.s (.zu 0 aT1),.s (.load aS0),.s (.len aS0),.w .push none (.jr 1 1 [(.bool false)] aS0 aS0),iQm 4 0] (.seq (iSr [.s (.zu 0 aT1),.s (.load aS0),iQo 8 (.len aS0),iQo 9 (.mv aC0)] X1) X16))))
def qj.b0:IR:=qj.g0 qj.b1 qj.b16
def qj.res:List RV:=[.t (.of 2)]
def qj:Fn:={ params:=[(.of 0)],res:=qj.res,body:=qj.b0,init:=in13 }
theorem qj.ok:fnA Tryz.prog Tryz.f138 [0,1,2,3,4,5,6,7,14,15,16,23,35]=some qj:=by kernel_rfl
abbrev ni.fr:=fr4
def ni.b5:IR:=(.yu [] [(iSm 1,0,[]),(iSm 0,0,[]),(iSm 1,0,[]),(.s (.bin .rem .int aS1 aS0),0,[]),(iQm 0 3,0,[]),(iQm 1 0,0,[])])
def ni.g4 (X5:IR):IR:=(.block 1 X5)
def ni.b4:IR:=ni.g4 ni.b5
def ni.g3 (X4:IR):IR:=(.seq (iSr [iSm 1,iQo 3 (.bin .neq .int aS0 aC0)] (.cond aT3 .skip (.exit 0))) X4)
def ni.b3:IR:=ni.g3 ni.b4
def ni.g2 (X3:IR):IR:=(.loop X3)
def ni.b2:IR:=ni.g2 ni.b3
def ni.g1 (X2:IR):IR:=(.block 0 X2)
def ni.b1:IR:=ni.g1 ni.b2
def ni.b6:IR:=(iSr [iSm 0,iQm 2 0] .ret)
def ni.g0 (X1 X6:IR):IR:=(iSr [iQo 2 (.mv aC0)] (.seq X1 X6))
def ni.b0:IR:=ni.g0 ni.b1 ni.b6
def ni.res:List RV:=[.t (.of 2)]
def ni:Fn:={ params:=[(.of 0),(.of 1)],res:=ni.res,body:=ni.b0,init:=in4 }
theorem ni.ok:fnA Tryz.prog Tryz.f139 [0,1,4,6]=some ni:=by kernel_rfl
abbrev oV.fr:=fr2
def oV.b0:IR:=(iSr [iQo 1 (.mv (.c (.bool false)))] (iSr [iSm 0,iCa 198 [aS0],.s (.bin .eql .int aS0 aC0),iQm 1 0] .ret))
def oV.res:List RV:=[.t (.of 1)]
def oV:Fn:={ params:=[(.of 0)],res:=oV.res,body:=oV.b0,init:=in2 }
theorem oV.ok:fnA Tryz.prog Tryz.f140 [0,2]=some oV:=by kernel_rfl
abbrev F145.fr:=fr2
def F145.b0:IR:=(iSr [iQo 1 (.mv aC0)] (iSr [iSm 0,.s (.bin .lss .int aS0 aC1),.s (.mv aS0),iPf 0 (.mv aT0),iPf 1 (.bin .gtr .int aS0 aC16),.s (.pick aS2 (.c (.bool true)) aS0),iCa 96 [aS0,aC3],iQm 1 0] .ret))
def F145.res:List RV:=[.t (.of 1)]
def F145:Fn:={ params:=[(.of 0)],res:=F145.res,body:=F145.b0,init:=in2 }
theorem F145.ok:fnA Tryz.prog Tryz.f145 [0,2]=some F145:=by kernel_rfl
abbrev cZ.fr:=fr10
def cZ.b6:IR:=(iSr [iSm 8,iQm 4 0] (.seq (.yu [] [(iSm 2,0,[]),(iSm 4,0,[]),(iSm 1,0,[]),(.s (.bin .quo .int aS1 aS0),0,[]),(iSm 4,0,[]),(iSm 1,0,[]),(.s (.bin .rem .int aS1 aS0),0,[]),(.w .push none (.call aS6 [aS3,aS0]),0,[]),(.s (.mv aS0),0,[]),(.s (.ext 0 aS0),0,[]),(.s (.ext 1 aS1),0,[]),(iQm 5 1,0,[]),(iQm 6 0,0,[])]) (.reg [.s (.zu 0 aT3),.s (.load aS0),iSm 4,iSm 1,iSm 5,.s (.bin .mul .int aS1 aS0),iSm 6,.s (.bin .add .int aS1 aS0),.s (.zo 1 aS6 aS5),.w .none none (.store 1 aS0 aS1)])))
def cZ.g5 (X6:IR):IR:=(.block 1 X6)
def cZ.b5:IR:=cZ.g5 cZ.b6
def cZ.b7:IR:=(.reg [.s (.bin .add .int aT8 aC1),iQm 8 0])
def cZ.g4 (X5 X7:IR):IR:=(.seq X5 X7)
def cZ.b4:IR:=cZ.g4 cZ.b5 cZ.b7
def cZ.g3 (X4:IR):IR:=(iSr [iQo 9 (.bin .lss .int aT8 aT7)] (.seq (.cond aT9 .skip (.exit 0)) X4))
def cZ.b3:IR:=cZ.g3 cZ.b4
def cZ.g2 (X3:IR):IR:=(.loop X3)
def cZ.b2:IR:=cZ.g2 cZ.b3
def cZ.g1 (X2:IR):IR:=(.block 0 X2)
def cZ.b1:IR:=cZ.g1 cZ.b2
def cZ.b8:IR:=(.yu [] [(iSm 0,1,[]),(.s (.zi 2 aT3),0,[]),(.s (.zi 2 aT3),1,[]),(iCa 123 [aS1],0,[]),(.w .none none (.oJ .str aS3 aS0 aS1),0,[])])
def cZ.g0 (X1 X8:IR):IR:=(iSr [iSm 1,iSm 1,.s (.bin .mul .int aS1 aS0),.w .push none (.jr 1 8 [(I 0)] aS0 aS0),.s (.build [.zf,(.bool false)] [(0,1,aS0)]),iWl 3 (.alloc [.zf,(.bool false)]),.w .none none (.store 2 aT3 aS0)] (.seq (iSr [.s (.zu 0 aT3),.s (.load aS0),iQo 7 (.len aS0),iQo 8 (.mv aC0)] X1) X8))
def cZ.b0:IR:=cZ.g0 cZ.b1 cZ.b8
def cZ.res:List RV:=[]
def cZ:Fn:={ params:=[(.of 0),(.of 1),(.of 2)],res:=cZ.res,body:=cZ.b0,init:=in10 }
theorem cZ.ok:fnA Tryz.prog Tryz.f146 [0,1,2,6,7,8,9,17,18,19]=some cZ:=by kernel_rfl
abbrev tN.fr:=fr9
def tN.b3:IR:=(iSr [iSm 0,iSm 1,iQm 4 1,iQm 5 0] .ret)
def tN.g2 (X3:IR):IR:=(.seq (iSr [.s (.load aT2),.s (.bin .and .int aS0 aC4),iQo 8 (.bin .neq .int aS0 aC0)] (.cond aT8 (iSr [iSm 1,iSm 0,iQm 4 1,iQm 5 0] .ret) .skip)) X3)
def tN.b2:IR:=tN.g2 tN.b3
def tN.g1 (X2:IR):IR:=(.seq (iSr [.s (.load aT2),.s (.bin .and .int aS0 aC2),iQo 7 (.bin .neq .int aS0 aC0)] (.cond aT7 (.reg [.s (.load aT3),.s (.bin .sub .int aS0 aC1),iSm 1,.s (.bin .sub .int aS1 aS0),iQm 1 0]) .skip)) X2)
def tN.b1:IR:=tN.g1 tN.b2
def tN.g0 (X1:IR):IR:=(iSr [iQo 4 (.mv aC0),iQo 5 (.mv aC0)] (.seq (iSr [.s (.load aT2),.s (.bin .and .int aS0 aC1),iQo 6 (.bin .neq .int aS0 aC0)] (.cond aT6 (.reg [.s (.load aT3),.s (.bin .sub .int aS0 aC1),iSm 0,.s (.bin .sub .int aS1 aS0),iQm 0 0]) .skip)) X1))
def tN.b0:IR:=tN.g0 tN.b1
def tN.res:List RV:=[.t (.of 4),.t (.of 5)]
def tN:Fn:={ params:=[(.of 0),(.of 1),(.of 2),(.of 3)],res:=tN.res,body:=tN.b0,init:=in9 }
theorem tN.ok:fnA Tryz.prog Tryz.f147 [0,1,2,3,6,7,10,17,24]=some tN:=by kernel_rfl
abbrev bI.fr:=fr12
def bI.b8:IR:=(.seq (.yu [] [(.s (.load aT3),0,[]),(iSm 0,0,[]),(.s (.load aT3),1,[]),(.s (.load aT1),1,[]),(.s (.bin .sub .int aS0 aC1),1,[]),(iSm 0,1,[]),(.s (.bin .sub .int aS1 aS0),1,[]),(iSm 6,0,[]),(.s (.load aT1),1,[]),(.s (.bin .sub .int aS0 aC1),1,[]),(iSm 6,1,[]),(.s (.bin .sub .int aS1 aS0),1,[]),(.s (.zo 1 aS11 aS10),0,[]),(.w .none none (.store 1 aS0 aS5),0,[]),(.s (.zo 1 aS10 aS6),0,[]),(.w .none none (.store 1 aS0 aS2),0,[])]) (.seq (.yu [] [(.s (.load aT4),0,[]),(iSm 6,0,[]),(.s (.load aT4),1,[]),(.s (.load aT1),1,[]),(.s (.bin .sub .int aS0 aC1),1,[]),(iSm 6,1,[]),(.s (.bin .sub .int aS1 aS0),1,[]),(.s (.zo 1 aS6 aS5),0,[]),(.w .none none (.store 1 aS0 (.c (.bool true))),0,[]),(.s (.zo 1 aS5 aS1),0,[]),(.w .none none (.store 1 aS0 (.c (.bool true))),0,[])]) (iSr [.s (.load aT5),iSm 0,.s (.bin .add .int aS0 aC1),.w .push none (.call aS2 [aS0])] (.yu [] [(.s (.load aT4),0,[]),(iSm 6,0,[]),(.s (.load aT4),1,[]),(.s (.load aT1),1,[]),(.s (.bin .sub .int aS0 aC1),1,[]),(iSm 6,1,[]),(.s (.bin .sub .int aS1 aS0),1,[]),(.s (.zo 1 aS6 aS5),0,[]),(.w .none none (.store 1 aS0 (.c (.bool false))),0,[]),(.s (.zo 1 aS5 aS1),0,[]),(.w .none none (.store 1 aS0 (.c (.bool false))),0,[])]))))
def bI.g7 (X8:IR):IR:=(iSr [iSm 9,iQm 6 0] (.seq (iSr [.s (.load aT4),iSm 6,.s (.zo 1 aS1 aS0),.s (.load aS0),.s (.mv aS0),iPf 0 (.mv aT0),iPf 1 (.bin .mul .int aC2 aS0),iPf 2 (.load aT1),iPf 3 (.bin .sub .int aS0 aC1),iPf 4 (.bin .eql .int aS2 aS0),iPf 5 (.mv aT6),iPf 6 (.bin .mul .int aC2 aS0),iPf 7 (.load aT1),iPf 8 (.bin .sub .int aS0 aC1),iPf 9 (.bin .eql .int aS2 aS0),iPf 10 (.bin .neq .bool aS5 aS0),iQo 11 (.pick aS11 (.c (.bool true)) aS0)] (.cond rJ (.exit 1) .skip)) X8))
def bI.b7:IR:=bI.g7 bI.b8
def bI.g6 (X7:IR):IR:=(.block 1 X7)
def bI.b6:IR:=bI.g6 bI.b7
def bI.b9:IR:=(.reg [.s (.bin .add .int aT9 aC1),iQm 9 0])
def bI.g5 (X6 X9:IR):IR:=(.seq X6 X9)
def bI.b5:IR:=bI.g5 bI.b6 bI.b9
def bI.g4 (X5:IR):IR:=(iSr [iQo 10 (.bin .lss .int aT9 aT8)] (.seq (.cond bg .skip (.exit 0)) X5))
def bI.b4:IR:=bI.g4 bI.b5
def bI.g3 (X4:IR):IR:=(.loop X4)
def bI.b3:IR:=bI.g3 bI.b4
def bI.g2 (X3:IR):IR:=(.block 0 X3)
def bI.b2:IR:=bI.g2 bI.b3
def bI.g1 (X2:IR):IR:=(iSr [iQo 8 (.load aT1),iQo 9 (.mv aC0)] X2)
def bI.b1:IR:=bI.g1 bI.b2
def bI.g0 (X1:IR):IR:=(.seq (iSr [iSm 0,.s (.load aT1),.s (.bin .add .int aS0 aC1),.s (.bin .quo .int aS0 aC2),iQo 7 (.bin .eql .int aS3 aS0)] (.cond aT7 (iSr [.s (.load aT2),.s (.load aT1),.s (.fn 150 (.of 150) [aT3]),iCa 146 [aS2,aS1,aS0]] .ret) .skip)) X1)
def bI.b0:IR:=bI.g0 bI.b1
def bI.res:List RV:=[]
def bI:Fn:={ params:=[(.of 0),(.of 1),(.of 2),(.of 3),(.of 4),(.of 5)],res:=bI.res,body:=bI.b0,init:=in12 }
theorem bI.ok:fnA Tryz.prog Tryz.f149 [0,1,2,3,4,5,7,12,17,18,19,37]=some bI:=by kernel_rfl
abbrev F150.fr:=fr5
def F150.b0:IR:=(iSr [iQo 3 (.mv aC0),iQo 4 (.mv aC0)] (.seq (.yu [] [(.s (.load aT2),0,[]),(iSm 0,0,[]),(.s (.zo 1 aS1 aS0),0,[]),(.s (.load aS0),0,[]),(.s (.load aT2),0,[]),(iSm 1,0,[]),(.s (.zo 1 aS1 aS0),0,[]),(.s (.load aS0),0,[]),(iQm 3 4,0,[]),(iQm 4 0,0,[])]) .ret))
def F150.res:List RV:=[.t (.of 3),.t (.of 4)]
def F150:Fn:={ params:=[(.of 0),(.of 1),(.of 2)],res:=F150.res,body:=F150.b0,init:=in5 }
theorem F150.ok:fnA Tryz.prog Tryz.f150 [0,1,2,5,6]=some F150:=by kernel_rfl
abbrev zn.fr:=fr9
def zn.b11:IR:=(.reg [iSm 6,.s (.bin .add .int aS0 aC1),iQm 6 0])
def zn.g10 (X11:IR):IR:=(.block 3 X11)
def zn.b10:IR:=zn.g10 zn.b11
def zn.g9 (X10:IR):IR:=(.seq (iSr [iSm 6,iSm 3,.s (.len aS0),.s (.bin .lss .int aS2 aS0),.s (.mv aS0),iPt 0 (.mv aT3),iPt 1 (.mv aT6),iPt 2 (.zo 1 aS1 aS0),iPt 3 (.load aS0),iPt 4 (.mv aT5),iPt 5 (.bin .lss .int aS1 aS0),iQo 8 (.pick aS6 aS0 (.c (.bool false)))] (.cond aT8 .skip (.exit 2))) X10)
def zn.b9:IR:=zn.g9 zn.b10
def zn.g8 (X9:IR):IR:=(.loop X9)
def zn.b8:IR:=zn.g8 zn.b9
def zn.g7 (X8:IR):IR:=(.block 2 X8)
def zn.b7:IR:=zn.g7 zn.b8
def zn.b12:IR:=(.yu [(.zx 1 0 [(I 0)] [])] [(iSm 3,3,[]),(iSm 6,3,[]),(.s (.slice 1 aS1 none (some aS0) none),3,[]),(iSm 5,2,[(.zx 1 1 [(I 0)] [(0,1,aS0)])]),(iSm 3,4,[]),(iSm 6,4,[]),(.s (.slice 1 aS1 (some aS0) none none),4,[]),(.w .push none (.zx 1 0 [(I 0)] []),0,[]),(.w .push none (.app 1 8 aS0 aS5),0,[]),(.w .push none (.zx 1 1 [(I 0)] [(0,1,aS5)]),0,[]),(.w .push none (.app 1 8 aS1 aS0),0,[]),(.w .push none (.app 1 8 aS0 aS4),0,[]),(iQm 3 0,0,[])])
def zn.g6 (X7 X12:IR):IR:=(iSr [iSm 0,iSm 1,iSm 4,.s (.zo 1 aS1 aS0),.s (.load aS0),.s (.zo 1 aS4 aS0),.s (.load aS0),iQm 5 0] (iSr [iQo 6 (.mv aC0)] (.seq X7 X12)))
def zn.b6:IR:=zn.g6 zn.b7 zn.b12
def zn.g5 (X6:IR):IR:=(.block 1 X6)
def zn.b5:IR:=zn.g5 zn.b6
def zn.b13:IR:=(.reg [iSm 4,.s (.bin .add .int aS0 aC1),iQm 4 0])
def zn.g4 (X5 X13:IR):IR:=(.seq X5 X13)
def zn.b4:IR:=zn.g4 zn.b5 zn.b13
def zn.g3 (X4:IR):IR:=(.seq (iSr [iSm 4,iSm 1,.s (.len aS0),iQo 7 (.bin .lss .int aS2 aS0)] (.cond aT7 .skip (.exit 0))) X4)
def zn.b3:IR:=zn.g3 zn.b4
def zn.g2 (X3:IR):IR:=(.loop X3)
def zn.b2:IR:=zn.g2 zn.b3
def zn.g1 (X2:IR):IR:=(.block 0 X2)
def zn.b1:IR:=zn.g1 zn.b2
def zn.b14:IR:=(iSr [iSm 3,iQm 2 0] .ret)
def zn.g0 (X1 X14:IR):IR:=(iSr [iQo 2 (.mv (.c .zf))] (iSr [iQo 3 (.mv (.c .zf))] (.seq (iSr [iQo 4 (.mv aC0)] X1) X14)))
def zn.b0:IR:=zn.g0 zn.b1 zn.b14
def zn.res:List RV:=[.t (.of 2)]
def zn:Fn:={ params:=[(.of 0),(.of 1)],res:=zn.res,body:=zn.b0,init:=in9 }
theorem zn.ok:fnA Tryz.prog Tryz.f155 [0,1,4,5,6,7,8,12,33]=some zn:=by kernel_rfl
abbrev F156.fr:=fr5
def F156.b1:IR:=(iSr [iSm 0,iSm 1,.s (.len aS0),iCa 22 [aS2,aS0],iQm 2 0] .ret)
def F156.g0 (X1:IR):IR:=(iSr [iQo 2 (.mv aC0)] (.seq (iSr [iSm 1,iCa 134 [aS0],iQm 3 0] (iSr [iSm 3,iQo 4 (.bin .neq .int aS0 aC0)] (.cond aT4 (iSr [iSm 3,iQm 2 0] .ret) .skip))) X1))
def F156.b0:IR:=F156.g0 F156.b1
def F156.res:List RV:=[.t (.of 2)]
def F156:Fn:={ params:=[(.of 0),(.of 1)],res:=F156.res,body:=F156.b0,init:=in5 }
theorem F156.ok:fnA Tryz.prog Tryz.f156 [0,1,4,5,9]=some F156:=by kernel_rfl
abbrev fO.fr:=fr12
def fO.b3:IR:=(.reg [iWl 6 (.alloc [.zf,(.bool false)]),.w .none none (.store 2 aT6 bg)])
def fO.b6:IR:=(.reg [.s (.load aT5),iSm 7,.w .push none (.zx 1 1 [.zf] [(0,1,aS0)]),.w .push none (.app 1 24 aS2 aS0),.w .none none (.store 1 aT5 aS0)])
def fO.g5 (X6:IR):IR:=(iSr [.s (.zi 2 aT6),.s (.load aT2),iCa 135 [aS1,aS0],iQm 7 0] (.seq (iSr [iSm 7,iWl 11 (.call (.c (.fn 136 (.of 136) [])) [aS0,(.c (.fn 137 (.of 137) []))])] (.cond rJ (iSr [.w .none none (.store 1 aT3 (.c .zf)),.w .none none (.store 1 aT4 aC3)] .ret) .skip)) X6))
def fO.b5:IR:=fO.g5 fO.b6
def fO.g4 (X5:IR):IR:=(.block 1 X5)
def fO.b4:IR:=fO.g4 fO.b5
def fO.g2 (X3 X4:IR):IR:=(.rf aT8 [(.of 9),(.of 10)] X3 X4)
def fO.b2:IR:=fO.g2 fO.b3 fO.b4
def fO.g1 (X2:IR):IR:=(.block 0 X2)
def fO.b1:IR:=fO.g1 fO.b2
def fO.b7:IR:=(iSr [.s (.load aT5),.w .push none (.call (.c (.fn 200 (.of 200) [])) [aS0,(.c (.fn 201 (.of 201) []))])] (iSr [.s (.load aT5),.w .push none (.call (.c (.fn 202 (.of 202) [])) [aS0,(.c (.fn 158 (.of 158) []))]),.w .none none (.store 1 aT3 aS0),.w .none none (.store 1 aT4 aC0)] .ret))
def fO.g0 (X1 X7:IR):IR:=(iSr [iWl 2 (.box aT1),iWl 3 (.alloc [.zf]),iWl 4 (.alloc [(I 0)])] (iSr [iWl 5 (.alloc [.zf])] (.seq (iSr [iSm 0,iWl 8 (.call (.c (.fn 90 (.of 90) [])) [aS0])] X1) X7)))
def fO.b0:IR:=fO.g0 fO.b1 fO.b7
def fO.res:List RV:=[.cell (.of 3) none,.cell (.of 4) none]
def fO:Fn:={ params:=[(.of 0),(.of 1)],res:=fO.res,body:=fO.b0,init:=in12 }
theorem fO.ok:fnA Tryz.prog Tryz.f157 [0,1,3,4,5,6,8,9,11,12,13,18]=some fO:=by kernel_rfl
abbrev gq.fr:=fr9
def gq.b7:IR:=(iSr [iSm 6,iQm 3 0] (.seq (.yu [] [(iSm 0,0,[]),(iSm 3,0,[]),(.s (.zo 1 aS1 aS0),0,[]),(.s (.load aS0),0,[]),(iSm 1,0,[]),(iSm 3,0,[]),(.s (.zo 1 aS1 aS0),0,[]),(.s (.load aS0),0,[]),(iQo 8 (.bin .neq .int aS4 aS0),0,[])]) (.cond aT8 (iSr [iQo 2 (.mv (.c (.bool false)))] .ret) .skip)))
def gq.g6 (X7:IR):IR:=(.block 1 X7)
def gq.b6:IR:=gq.g6 gq.b7
def gq.b8:IR:=(.reg [.s (.bin .add .int aT6 aC1),iQm 6 0])
def gq.g5 (X6 X8:IR):IR:=(.seq X6 X8)
def gq.b5:IR:=gq.g5 gq.b6 gq.b8
def gq.g4 (X5:IR):IR:=(iSr [iQo 7 (.bin .lss .int aT6 aT5)] (.seq (.cond aT7 .skip (.exit 0)) X5))
def gq.b4:IR:=gq.g4 gq.b5
def gq.g3 (X4:IR):IR:=(.loop X4)
def gq.b3:IR:=gq.g3 gq.b4
def gq.g2 (X3:IR):IR:=(.block 0 X3)
def gq.b2:IR:=gq.g2 gq.b3
def gq.b9:IR:=(iSr [iQo 2 (.mv (.c (.bool true)))] .ret)
def gq.g1 (X2 X9:IR):IR:=(.seq (iSr [iSm 0,iQo 5 (.len aS0),iQo 6 (.mv aC0)] X2) X9)
def gq.b1:IR:=gq.g1 gq.b2 gq.b9
def gq.g0 (X1:IR):IR:=(iSr [iQo 2 (.mv (.c (.bool false)))] (.seq (iSr [iSm 0,.s (.len aS0),iSm 1,.s (.len aS0),iQo 4 (.bin .neq .int aS2 aS0)] (.cond aT4 (iSr [iQo 2 (.mv (.c (.bool false)))] .ret) .skip)) X1))
def gq.b0:IR:=gq.g0 gq.b1
def gq.res:List RV:=[.t (.of 2)]
def gq:Fn:={ params:=[(.of 0),(.of 1)],res:=gq.res,body:=gq.b0,init:=in9 }
theorem gq.ok:fnA Tryz.prog Tryz.f158 [0,1,4,5,10,12,13,14,24]=some gq:=by kernel_rfl
abbrev wu.fr:=fr9
def wu.b6:IR:=(iSr [iSm 6,.s (.zo 2 aT4 aT6),.s (.zi 2 aS0),iWl 3 (.alloc [.zf,(.bool false)]),iQm 2 2,.w .none none (.store 2 aT3 aS0)] (iSr [iSm 0,iSm 2,.s (.zi 2 aT3),.w .push none (.call aS2 [aS1,aS0]),iQo 8 (.not aS0)] (.cond aT8 .ret .skip)))
def wu.g5 (X6:IR):IR:=(.block 1 X6)
def wu.b5:IR:=wu.g5 wu.b6
def wu.b7:IR:=(.reg [.s (.bin .add .int aT6 aC1),iQm 6 0])
def wu.g4 (X5 X7:IR):IR:=(.seq X5 X7)
def wu.b4:IR:=wu.g4 wu.b5 wu.b7
def wu.g3 (X4:IR):IR:=(iSr [iQo 7 (.bin .lss .int aT6 aT5)] (.seq (.cond aT7 .skip (.exit 0)) X4))
def wu.b3:IR:=wu.g3 wu.b4
def wu.g2 (X3:IR):IR:=(.loop X3)
def wu.b2:IR:=wu.g2 wu.b3
def wu.g1 (X2:IR):IR:=(.block 0 X2)
def wu.b1:IR:=wu.g1 wu.b2
def wu.g0 (X1:IR):IR:=(iSr [iQo 4 (.load aT1),iQo 5 (.len aT4),iQo 6 (.mv aC0)] X1)
def wu.b0:IR:=wu.g0 wu.b1
def wu.res:List RV:=[]
def wu:Fn:={ params:=[(.of 0),(.of 1)],res:=wu.res,body:=wu.b0,init:=in9 }
theorem wu.ok:fnA Tryz.prog Tryz.f159 [0,1,3,4,5,6,7,8,16]=some wu:=by kernel_rfl
abbrev vg.fr:=fr23
def vg.b10:IR:=(iSr [iSm 0,iSm 1,iSm 2,iSm 7,iCa 211 [aS3,aS2,aS1,aS0],.s (.mv aS0),.s (.ext 0 aS0),.s (.ext 1 aS1),iQm 10 1,iQm 11 0] (iSr [iSm 11,iQm 5 0] (iSr [iSm 10,iSm 1,.s (.bin .sub .int aS1 aS0),iSm 2,iSm 10,.s (.bin .sub .int aS1 aS0),iQm 12 3,iQm 13 0] (iSr [iSm 6,.s (.bin .quo .int aS0 aC8),iQm 14 0] (iSr [iSm 12,iSm 13,iQo 22 (.bin .lss .int aS1 aS0)] (.cond aT22 (iSr [iSm 12,iSm 14,.s (.bin .geq .int aS1 aS0),iQm 4 0] (iSr [iSm 0,iSm 1,iSm 10,iSm 3,iCa 160 [aS3,aS2,aS1,aS0]] (.reg [iSm 10,.s (.bin .add .int aS0 aC1),iQm 1 0]))) (iSr [iSm 13,iSm 14,.s (.bin .geq .int aS1 aS0),iQm 4 0] (iSr [iSm 0,iSm 10,.s (.bin .add .int aS0 aC1),iSm 2,iSm 3,iCa 160 [aS4,aS2,aS1,aS0]] (.reg [iSm 10,iQm 2 0])))))))))
def vg.g9 (X10:IR):IR:=(.seq (.seq (.yu [] [(iSm 1,0,[]),(.s (.bin .gtr .int aS0 aC0),0,[]),(.s (.mv aS0),0,[]),(iPt 0 (.mv aT0),0,[]),(iPt 1 (.mv aT1),0,[]),(iPt 2 (.bin .sub .int aS0 aC1),0,[]),(iPt 3 (.zo 1 aS2 aS0),0,[]),(iPt 4 (.load aS0),0,[]),(iPt 5 (.mv aT0),0,[]),(iPt 6 (.mv aT7),0,[]),(iPt 7 (.zo 1 aS1 aS0),0,[]),(iPt 8 (.load aS0),0,[]),(.w .push (some (aS9,true)) (.call (.c (.fn 209 (.of 209) [])) [aS4,aS0]),0,[]),(iPt 10 (.not aS0),0,[]),(iQo 21 (.pick aS11 aS0 (.c (.bool false))),0,[])]) (.cond aT21 (iSr [iSm 0,iSm 1,iSm 2,iSm 7,iCa 210 [aS3,aS2,aS1,aS0],iQm 9 0] (iSr [iSm 9,iQm 1 0] (.exit 1))) .skip)) X10)
def vg.b9:IR:=vg.g9 vg.b10
def vg.g8 (X9:IR):IR:=(.seq (iSr [iSm 4,.s (.mv aS0),iPt 0 (.mv aT5),.s (.pick aS1 aS0 (.c (.bool false))),.s (.mv aS0),iPt 0 (.mv aT8),iPt 1 (.bin .eql .int aS0 aC1),iQo 19 (.pick aS2 aS0 (.c (.bool false)))] (.cond aT19 (iSr [iSm 0,iSm 1,iSm 2,iWl 20 (.call (.c (.fn 208 (.of 208) [])) [aS2,aS1,aS0])] (.cond aT20 .ret .skip)) .skip)) X9)
def vg.b8:IR:=vg.g8 vg.b9
def vg.g7 (X8:IR):IR:=(iSr [iSm 0,iSm 1,iSm 2,iCa 206 [aS2,aS1,aS0],.s (.mv aS0),.s (.ext 0 aS0),.s (.ext 1 aS1),iQm 7 1,iQm 8 0] (.seq (iSr [iSm 8,iQo 18 (.bin .eql .int aS0 aC2)] (.cond aT18 (iSr [iSm 0,iSm 1,iSm 2,iCa 207 [aS2,aS1,aS0]] (iSr [iSm 2,.s (.bin .sub .int aS0 aC1),iSm 7,iSm 1,.s (.bin .sub .int aS1 aS0),.s (.bin .sub .int aS3 aS0),iQm 7 0] (.reg [iQo 8 (.mv aC1)]))) .skip)) X8))
def vg.b7:IR:=vg.g7 vg.b8
def vg.g6 (X7:IR):IR:=(.seq (iSr [iSm 4,iQo 17 (.not aS0)] (.cond aT17 (iSr [iSm 0,iSm 1,iSm 2,iCa 205 [aS2,aS1,aS0]] (.reg [iSm 3,.s (.bin .sub .int aS0 aC1),iQm 3 0])) .skip)) X7)
def vg.b6:IR:=vg.g6 vg.b7
def vg.g5 (X6:IR):IR:=(.seq (iSr [iSm 3,iQo 16 (.bin .eql .int aS0 aC0)] (.cond aT16 (iSr [iSm 0,iSm 1,iSm 2,iCa 204 [aS2,aS1,aS0]] .ret) .skip)) X6)
def vg.b5:IR:=vg.g5 vg.b6
def vg.g4 (X5:IR):IR:=(iSr [iSm 2,iSm 1,.s (.bin .sub .int aS1 aS0),iQm 6 0] (.seq (iSr [iSm 6,iQo 15 (.bin .leq .int aS0 aC12)] (.cond aT15 (iSr [iSm 0,iSm 1,iSm 2,iCa 203 [aS2,aS1,aS0]] .ret) .skip)) X5))
def vg.b4:IR:=vg.g4 vg.b5
def vg.g3 (X4:IR):IR:=(.block 1 X4)
def vg.b3:IR:=vg.g3 vg.b4
def vg.g2 (X3:IR):IR:=(.loop X3)
def vg.b2:IR:=vg.g2 vg.b3
def vg.g1 (X2:IR):IR:=(.block 0 X2)
def vg.b1:IR:=vg.g1 vg.b2
def vg.g0 (X1:IR):IR:=(iSr [iQo 4 (.mv (.c (.bool true)))] (iSr [iQo 5 (.mv (.c (.bool true)))] X1))
def vg.b0:IR:=vg.g0 vg.b1
def vg.res:List RV:=[]
def vg:Fn:={ params:=[(.of 0),(.of 1),(.of 2),(.of 3)],res:=vg.res,body:=vg.b0,init:=in23 }
theorem vg.ok:fnA Tryz.prog Tryz.f160 [0,1,2,3,8,9,10,11,12,13,14,15,16,17,18,23,29,35,50,68,72,87,113]=some vg:=by kernel_rfl
abbrev F161.fr:=fr2
def F161.b1:IR:=(iSr [iSm 0,iCa 213 [aS0],iQm 1 0] .ret)
def F161.g0 (X1:IR):IR:=(iSr [iQo 1 (.mv aC0)] (.seq (.cond (.c (.bool false)) (iSr [iSm 0,.s (.conv .u32 aS0),iCa 212 [aS0],iQm 1 0] .ret) .skip) X1))
def F161.b0:IR:=F161.g0 F161.b1
def F161.res:List RV:=[.t (.of 1)]
def F161:Fn:={ params:=[(.of 0)],res:=F161.res,body:=F161.b0,init:=in2 }
theorem F161.ok:fnA Tryz.prog Tryz.f161 [0,2]=some F161:=by kernel_rfl
abbrev fQ.fr:=fr8
def fQ.b2:IR:=(iSr [iQo 4 (.mv (.c (I (-1))))] .ret)
def fQ.g1 (X2:IR):IR:=(.seq (iSr [.s (.zu 1 aT2),iQo 7 (.load aS0)] (.cond aT7 (iSr [iQo 4 (.mv aC1)] .ret) .skip)) X2)
def fQ.b1:IR:=fQ.g1 fQ.b2
def fQ.g0 (X1:IR):IR:=(iSr [iWl 2 (.box aT0),iWl 3 (.box aT1),iQo 4 (.mv aC0)] (.seq (iSr [.s (.zu 0 aT2),.s (.load aS0),.s (.zu 0 aT3),.s (.load aS0),iCa 201 [aS2,aS0],iQm 5 0] (iSr [iSm 5,.s (.bin .neq .int aS0 aC0),.s (.mv aS0),iPf 0 (.zu 1 aT2),iPf 1 (.load aS0),iPf 2 (.zu 1 aT3),iPf 3 (.load aS0),iPf 4 (.bin .eql .bool aS2 aS0),iQo 6 (.pick aS5 (.c (.bool true)) aS0)] (.cond aT6 (iSr [iSm 5,iQm 4 0] .ret) .skip))) X1))
def fQ.b0:IR:=fQ.g0 fQ.b1
def fQ.res:List RV:=[.t (.of 4)]
def fQ:Fn:={ params:=[(.of 0),(.of 1)],res:=fQ.res,body:=fQ.b0,init:=in8 }
theorem fQ.ok:fnA Tryz.prog Tryz.f162 [0,1,2,3,4,5,19,22]=some fQ:=by kernel_rfl
abbrev uy.fr:=fr7
def uy.b6:IR:=(iSr [iSm 5,iQm 3 0] (.reg [.s (.zu 0 aT2),.s (.load aS0),iSm 3,iSm 3,.s (.zo 1 aS2 aS1),.w .none none (.store 1 aS0 aS1)]))
def uy.g5 (X6:IR):IR:=(.block 1 X6)
def uy.b5:IR:=uy.g5 uy.b6
def uy.b7:IR:=(.reg [.s (.bin .add .int aT5 aC1),iQm 5 0])
def uy.g4 (X5 X7:IR):IR:=(.seq X5 X7)
def uy.b4:IR:=uy.g4 uy.b5 uy.b7
def uy.g3 (X4:IR):IR:=(iSr [iQo 6 (.bin .lss .int aT5 aT4)] (.seq (.cond aT6 .skip (.exit 0)) X4))
def uy.b3:IR:=uy.g3 uy.b4
def uy.g2 (X3:IR):IR:=(.loop X3)
def uy.b2:IR:=uy.g2 uy.b3
def uy.g1 (X2:IR):IR:=(.block 0 X2)
def uy.b1:IR:=uy.g1 uy.b2
def uy.b8:IR:=(iSr [.s (.zi 2 aT2),.w .none none (.store 2 aT1 aS0)] .ret)
def uy.g0 (X1 X8:IR):IR:=(iSr [iWl 1 (.alloc [.zf,(.bool false)])] (iSr [iSm 0,.w .push none (.jr 1 8 [(I 0)] aS0 aS0),.s (.build [.zf,(.bool false)] [(0,1,aS0)]),iWl 2 (.alloc [.zf,(.bool false)]),.w .none none (.store 2 aT2 aS0)] (.seq (iSr [.s (.zu 0 aT2),.s (.load aS0),iQo 4 (.len aS0),iQo 5 (.mv aC0)] X1) X8)))
def uy.b0:IR:=uy.g0 uy.b1 uy.b8
def uy.res:List RV:=[.cell (.of 1) (some 2)]
def uy:Fn:={ params:=[(.of 0)],res:=uy.res,body:=uy.b0,init:=in7 }
theorem uy.ok:fnA Tryz.prog Tryz.f163 [0,2,3,4,10,11,12]=some uy:=by kernel_rfl
abbrev uq.fr:=fr8
def uq.b6:IR:=(iSr [.s (.zo 1 aT3 aT5),.s (.load aS0),iQm 2 0] (iSr [iSm 2,iQo 7 (.bin .neq .int aS0 aC0)] (.cond aT7 (iSr [iSm 2,iQm 1 0] .ret) .skip)))
def uq.g5 (X6:IR):IR:=(.block 1 X6)
def uq.b5:IR:=uq.g5 uq.b6
def uq.b7:IR:=(.reg [.s (.bin .add .int aT5 aC1),iQm 5 0])
def uq.g4 (X5 X7:IR):IR:=(.seq X5 X7)
def uq.b4:IR:=uq.g4 uq.b5 uq.b7
def uq.g3 (X4:IR):IR:=(iSr [iQo 6 (.bin .lss .int aT5 aT4)] (.seq (.cond aT6 .skip (.exit 0)) X4))
def uq.b3:IR:=uq.g3 uq.b4
def uq.g2 (X3:IR):IR:=(.loop X3)
def uq.b2:IR:=uq.g2 uq.b3
def uq.g1 (X2:IR):IR:=(.block 0 X2)
def uq.b1:IR:=uq.g1 uq.b2
def uq.b8:IR:=(iSr [iQo 1 (.mv aC0)] .ret)
def uq.g0 (X1 X8:IR):IR:=(iSr [iQo 1 (.mv aC0)] (.seq (iSr [iQo 3 (.mv aT0),iQo 4 (.len aT3),iQo 5 (.mv aC0)] X1) X8))
def uq.b0:IR:=uq.g0 uq.b1 uq.b8
def uq.res:List RV:=[.t (.of 1)]
def uq:Fn:={ params:=[(.of 0)],res:=uq.res,body:=uq.b0,init:=in8 }
theorem uq.ok:fnA Tryz.prog Tryz.f165 [0,2,4,5,6,7,8,12]=some uq:=by kernel_rfl
abbrev oM.fr:=fr6
def oM.b0:IR:=(iSr [iWl 3 (.box aT0),iWl 4 (.box aT1),iQo 5 (.mv aC0)] (iSr [iSm 2,.s (.fn 215 (.of 215) [aT3,aT4]),iCa 136 [aS1,aS0],iCa 167 [aS0,aC3],iQm 5 0] .ret))
def oM.res:List RV:=[.t (.of 5)]
def oM:Fn:={ params:=[(.of 0),(.of 1),(.of 2)],res:=oM.res,body:=oM.b0,init:=in6 }
theorem oM.ok:fnA Tryz.prog Tryz.f166 [0,1,2,3,4,6]=some oM:=by kernel_rfl
abbrev aF.fr:=fr4
def aF.b1:IR:=(iSr [iQo 2 (.mv aC0)] .ret)
def aF.g0 (X1:IR):IR:=(iSr [iQo 2 (.mv aC0)] (.seq (iSr [iQo 3 (.mv aT0)] (.cond aT3 (iSr [iSm 1,iQm 2 0] .ret) .skip)) X1))
def aF.b0:IR:=aF.g0 aF.b1
def aF.res:List RV:=[.t (.of 2)]
def aF:Fn:={ params:=[(.of 0),(.of 1)],res:=aF.res,body:=aF.b0,init:=in4 }
theorem aF.ok:fnA Tryz.prog Tryz.f167 [0,1,4,5]=some aF:=by kernel_rfl
abbrev jo.fr:=fr14
def jo.b7:IR:=(iSr [iSm 11,.s (.zo 1 aT9 rJ),.s (.load aS0),iQm 5 2,iQm 6 0] (iSr [iSm 6,.s (.bin .lss .int aS0 aC0),.s (.mv aS0),iPf 0 (.mv aT6),iPf 1 (.zu 0 aT2),iPf 2 (.load aS0),iPf 3 (.bin .geq .int aS2 aS0),.s (.pick aS4 (.c (.bool true)) aS0),iCa 167 [aS0,aC10],iSm 5,.s (.bin .gtr .int aS0 aC0),.s (.mv aS0),iPt 0 (.load aT4),iPt 1 (.mv aT5),iPt 2 (.bin .sub .int aS0 aC1),iPt 3 (.zo 1 aS2 aS0),iPt 4 (.load aS0),iPt 5 (.mv aT6),iPt 6 (.bin .geq .int aS1 aS0),.s (.pick aS7 aS0 (.c (.bool false))),iCa 167 [aS0,aC11],.w .push none (.zx 1 2 [(I 0)] [(0,1,aS12),(1,1,aS0)]),iCa 165 [aS0],iQm 7 0] (iSr [iSm 7,iQo 13 (.bin .neq .int aS0 aC0)] (.cond rF (iSr [iSm 7,iQm 3 0] .ret) .skip))))
def jo.g6 (X7:IR):IR:=(.block 1 X7)
def jo.b6:IR:=jo.g6 jo.b7
def jo.b8:IR:=(.reg [.s (.bin .add .int rJ aC1),iQm 11 0])
def jo.g5 (X6 X8:IR):IR:=(.seq X6 X8)
def jo.b5:IR:=jo.g5 jo.b6 jo.b8
def jo.g4 (X5:IR):IR:=(iSr [iQo 12 (.bin .lss .int rJ bg)] (.seq (.cond sD .skip (.exit 0)) X5))
def jo.b4:IR:=jo.g4 jo.b5
def jo.g3 (X4:IR):IR:=(.loop X4)
def jo.b3:IR:=jo.g3 jo.b4
def jo.g2 (X3:IR):IR:=(.block 0 X3)
def jo.b2:IR:=jo.g2 jo.b3
def jo.b9:IR:=(iSr [.s (.zu 1 aT2),.s (.load aS0),iSm 1,.s (.slice 1 aS1 none (some aS0) none),.s (.fn 217 (.of 217) [aT4]),iCa 216 [aS1,aS0],iCa 167 [aS0,aC9],iQm 3 0] .ret)
def jo.g1 (X2 X9:IR):IR:=(.seq (iSr [iQo 9 (.load aT4),iQo 10 (.len aT9),iQo 11 (.mv aC0)] X2) X9)
def jo.b1:IR:=jo.g1 jo.b2 jo.b9
def jo.g0 (X1:IR):IR:=(iSr [iWl 2 (.box aT0),iQo 3 (.mv aC0)] (iSr [.s (.zu 1 aT2),.s (.load aS0),iSm 1,.s (.zo 1 aS1 aS0),.s (.load aS0),iWl 4 (.alloc [.zf]),.w .none none (.store 1 aT4 aS0)] (.seq (iSr [.s (.load aT4),.s (.len aS0),iQo 8 (.bin .eql .int aS0 aC0)] (.cond aT8 (iSr [iQo 3 (.mv aC12)] .ret) .skip)) X1)))
def jo.b0:IR:=jo.g0 jo.b1
def jo.res:List RV:=[.t (.of 3)]
def jo:Fn:={ params:=[(.of 0),(.of 1)],res:=jo.res,body:=jo.b0,init:=in14 }
theorem jo.ok:fnA Tryz.prog Tryz.f168 [0,1,2,4,5,6,7,8,16,17,18,19,20,48]=some jo:=by kernel_rfl
abbrev yg.fr:=fr10
def yg.b6:IR:=(iSr [.s (.zo 1 aT6 aT8),.s (.load aS0),iQm 5 0] (.reg [iSm 4,iSm 0,iSm 5,.s (.zo 1 aS1 aS0),.s (.load aS0),.w .push none (.zx 1 1 [(I 0)] [(0,1,aS0)]),.w .push none (.app 1 8 aS5 aS0),iQm 4 0]))
def yg.g5 (X6:IR):IR:=(.block 1 X6)
def yg.b5:IR:=yg.g5 yg.b6
def yg.b7:IR:=(.reg [.s (.bin .add .int aT8 aC1),iQm 8 0])
def yg.g4 (X5 X7:IR):IR:=(.seq X5 X7)
def yg.b4:IR:=yg.g4 yg.b5 yg.b7
def yg.g3 (X4:IR):IR:=(iSr [iQo 9 (.bin .lss .int aT8 aT7)] (.seq (.cond aT9 .skip (.exit 0)) X4))
def yg.b3:IR:=yg.g3 yg.b4
def yg.g2 (X3:IR):IR:=(.loop X3)
def yg.b2:IR:=yg.g2 yg.b3
def yg.g1 (X2:IR):IR:=(.block 0 X2)
def yg.b1:IR:=yg.g1 yg.b2
def yg.b8:IR:=(iSr [iSm 4,iCa 91 [aS0]] (.seq (.yu [] [(.s (.load aT2),1,[]),(iSm 4,0,[]),(.s (.build [.zf,(.bool false)] [(0,1,aS0)]),0,[]),(iCa 123 [aS0],0,[]),(.s (.look .str (.bool false) false aS3 aS0),0,[]),(iQm 3 0,0,[])]) .ret))
def yg.g0 (X1 X8:IR):IR:=(iSr [iQo 3 (.mv (.c (.bool false)))] (iSr [iQo 4 (.mv (.c .zf))] (.seq (iSr [iQo 6 (.mv aT1),iQo 7 (.len aT6),iQo 8 (.mv aC0)] X1) X8)))
def yg.b0:IR:=yg.g0 yg.b1 yg.b8
def yg.res:List RV:=[.t (.of 3)]
def yg:Fn:={ params:=[(.of 0),(.of 1),(.of 2)],res:=yg.res,body:=yg.b0,init:=in10 }
theorem yg.ok:fnA Tryz.prog Tryz.f169 [0,1,2,5,6,8,9,10,11,12]=some yg:=by kernel_rfl
abbrev F170.fr:=fr2
def F170.b0:IR:=(iSr [iQo 1 (.mv (.c (.bool false)))] (iSr [iSm 0,iCa 126 [aS0],iSm 0,.s (.slen aS0),.s (.bin .eql .int aS2 aS0),iQm 1 0] .ret))
def F170.res:List RV:=[.t (.of 1)]
def F170:Fn:={ params:=[(.of 0)],res:=F170.res,body:=F170.b0,init:=in2 }
theorem F170.ok:fnA Tryz.prog Tryz.f170 [0,2]=some F170:=by kernel_rfl
end
end Go.Ev
