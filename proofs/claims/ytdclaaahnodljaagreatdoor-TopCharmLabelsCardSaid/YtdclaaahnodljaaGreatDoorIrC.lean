import Derived.Test.YtdclaaahnodljaaGreatDoorIrA
import Derived.Test.YtdclaaahnodljaaGreatDoorEvC
import Derived.Test.YtdclaaahnodljaaGreatDoorProg
import Derived.KernelRfl
set_option linter.unusedSimpArgs false
set_option linter.unusedVariables false
namespace Go.Ev
open Go Go.Proofs
set_option maxRecDepth 100000
noncomputable section

abbrev fD.fr:=fr12
def fD.b7:IR:=(.reg [iSm 4,.s (.zx 0 aT2),.s (.load aS0),iSm 5,.s (.zk 1 aS1 aS0),.s (.load aS0),iSm 6,.s (.zk 1 aS6 aS1),.w .none none (.store 1 aS0 aS1)])
def fD.g6 (X7:IR):IR:=(iSr [iSm 9,.s (.zk 1 aT7 aT9),.s (.load aS0),iQm 5 2,iQm 6 0] (.seq (iSr [.s (.zx 1 aT2),iQo 11 (.load aS0)] (.cond su (.reg [iSm 1,.s (.len aS0),.s (.bin .add .int aS0 aC1),iSm 6,.s (.bin .sub .int aS1 aS0),iQm 6 0]) .skip)) X7))
def fD.b6:IR:=fD.g6 fD.b7
def fD.g5 (X6:IR):IR:=(.block 1 X6)
def fD.b5:IR:=fD.g5 fD.b6
def fD.b8:IR:=(.reg [.s (.bin .add .int aT9 aC1),iQm 9 0])
def fD.g4 (X5 X8:IR):IR:=(.seq X5 X8)
def fD.b4:IR:=fD.g4 fD.b5 fD.b8
def fD.g3 (X4:IR):IR:=(iSr [iQo 10 (.bin .lss .int aT9 aT8)] (.seq (.cond rC .skip (.exit 0)) X4))
def fD.b3:IR:=fD.g3 fD.b4
def fD.g2 (X3:IR):IR:=(.loop X3)
def fD.b2:IR:=fD.g2 fD.b3
def fD.g1 (X2:IR):IR:=(.block 0 X2)
def fD.b1:IR:=fD.g1 fD.b2
def fD.b9:IR:=(iSr [iSm 4,iQm 3 0] .ret)
def fD.g0 (X1 X9:IR):IR:=(iSr [iWl 2 (.box aT0),iQo 3 (.mv (.c .zh))] (iSr [iSm 1,.s (.len aS0),.w .push none (.xg 1 8 [(I 0)] aS0 aS0),iQm 4 0] (.seq (iSr [iQo 7 (.mv aT1),iQo 8 (.len aT7),iQo 9 (.mv aC0)] X1) X9)))
def fD.b0:IR:=fD.g0 fD.b1 fD.b9
def fD.res:List RV:=[.t (.of 3)]
def fD:Fn:={ params:=[(.of 0),(.of 1)],res:=fD.res,body:=fD.b0,init:=in12 }
theorem fD.ok:fnA Tryz.prog Tryz.f163 [0,1,2,4,5,6,7,11,12,13,14,19]=some fD:=by kernel_rfl
abbrev fV.fr:=fr10
def fV.b6:IR:=(iSr [.s (.zk 1 aT6 aT8),.s (.load aS0),iQm 5 0] (.reg [iSm 4,iSm 5,iSm 1,iCa 219 [aS1,aS0],.w .push none (.zu 1 1 [(I 0)] [(0,1,aS0)]),.w .push none (.app 1 8 aS4 aS0),iQm 4 0]))
def fV.g5 (X6:IR):IR:=(.block 1 X6)
def fV.b5:IR:=fV.g5 fV.b6
def fV.b7:IR:=(.reg [.s (.bin .add .int aT8 aC1),iQm 8 0])
def fV.g4 (X5 X7:IR):IR:=(.seq X5 X7)
def fV.b4:IR:=fV.g4 fV.b5 fV.b7
def fV.g3 (X4:IR):IR:=(iSr [iQo 9 (.bin .lss .int aT8 aT7)] (.seq (.cond aT9 .skip (.exit 0)) X4))
def fV.b3:IR:=fV.g3 fV.b4
def fV.g2 (X3:IR):IR:=(.loop X3)
def fV.b2:IR:=fV.g2 fV.b3
def fV.g1 (X2:IR):IR:=(.block 0 X2)
def fV.b1:IR:=fV.g1 fV.b2
def fV.b8:IR:=(iSr [iSm 4,iQm 3 0] .ret)
def fV.g0 (X1 X8:IR):IR:=(iSr [iWl 2 (.box aT0),iQo 3 (.mv (.c .zh))] (iSr [iQo 4 (.mv (.c .zh))] (.seq (iSr [.s (.zx 1 aT2),iQo 6 (.load aS0),iQo 7 (.len aT6),iQo 8 (.mv aC0)] X1) X8)))
def fV.b0:IR:=fV.g0 fV.b1 fV.b8
def fV.res:List RV:=[.t (.of 3)]
def fV:Fn:={ params:=[(.of 0),(.of 1)],res:=fV.res,body:=fV.b0,init:=in10 }
theorem fV.ok:fnA Tryz.prog Tryz.f164 [0,1,2,4,5,7,9,10,11,12]=some fV:=by kernel_rfl
abbrev F165.fr:=fr3
def F165.b0:IR:=(iSr [iQo 2 (.mv (.c (.bool false)))] (iSr [iSm 0,.s (.load aT1),.s (.zk 1 aS0 aC0),.s (.load aS0),.s (.bin .neq .int aS3 aS0),iQm 2 0] .ret))
def F165.res:List RV:=[.t (.of 2)]
def F165:Fn:={ params:=[(.of 0),(.of 1)],res:=F165.res,body:=F165.b0,init:=in3 }
theorem F165.ok:fnA Tryz.prog Tryz.f165 [0,1,3]=some F165:=by kernel_rfl
abbrev yh.fr:=fr12
def yh.b9:IR:=.skip
def yh.b11:IR:=(.reg [.s (.load aT7),.s (.bin .add .int aS0 aC1),.w .none none (.store 1 aT7 aS0)])
def yh.g10 (X11:IR):IR:=(.block 3 X11)
def yh.b10:IR:=yh.g10 yh.b11
def yh.g8 (X9 X10:IR):IR:=(.rf aT9 [(.of 10)] X9 X10)
def yh.b8:IR:=yh.g8 yh.b9 yh.b10
def yh.g7 (X8:IR):IR:=(.block 2 X8)
def yh.b7:IR:=yh.g7 yh.b8
def yh.b12:IR:=(iSr [.s (.load aT7),iQo 11 (.bin .gtr .int aS0 aC0)] (.cond su (.reg [iSm 3,iSm 6,.s (.load aT7),.s (.build [(I 0),(I 0)] [(0,1,aS1),(1,1,aS0)]),.w .push none (.zu 2 1 [(I 0),(I 0)] [(0,2,aS0)]),.w .push none (.app 2 16 aS4 aS0),iQm 3 0]) .skip))
def yh.g6 (X7 X12:IR):IR:=(iSr [iWl 7 (.alloc [(I 0)]),.w .none none (.store 1 aT7 aC0)] (.seq (iSr [.s (.zi 2 aT1),iSm 6,iWl 9 (.call (.c (.fn 47 (.of 47) [])) [aS1,aS0])] X7) X12))
def yh.b6:IR:=yh.g6 yh.b7 yh.b12
def yh.g5 (X6:IR):IR:=(.block 1 X6)
def yh.b5:IR:=yh.g5 yh.b6
def yh.b13:IR:=(.reg [iSm 6,.s (.bin .add .int aS0 aC1),iQm 6 0])
def yh.g4 (X5 X13:IR):IR:=(.seq X5 X13)
def yh.b4:IR:=yh.g4 yh.b5 yh.b13
def yh.g3 (X4:IR):IR:=(.seq (iSr [iSm 6,iSm 5,iQo 8 (.bin .leq .int aS1 aS0)] (.cond aT8 .skip (.exit 0))) X4)
def yh.b3:IR:=yh.g3 yh.b4
def yh.g2 (X3:IR):IR:=(.loop X3)
def yh.b2:IR:=yh.g2 yh.b3
def yh.g1 (X2:IR):IR:=(.block 0 X2)
def yh.b1:IR:=yh.g1 yh.b2
def yh.b14:IR:=(iSr [iSm 3,iQm 2 0] .ret)
def yh.g0 (X1 X14:IR):IR:=(iSr [iWl 1 (.box aT0),iQo 2 (.mv (.c .zh))] (iSr [iQo 3 (.mv (.c .zh))] (iSr [.s (.zi 2 aT1),iCa 220 [aS0],.s (.mv aS0),.s (.ext 0 aS0),.s (.ext 1 aS1),iQm 4 1,iQm 5 0] (.seq (iSr [iSm 4,iQm 6 0] X1) X14))))
def yh.b0:IR:=yh.g0 yh.b1 yh.b14
def yh.res:List RV:=[.t (.of 2)]
def yh:Fn:={ params:=[(.of 0)],res:=yh.res,body:=yh.b0,init:=in12 }
theorem yh.ok:fnA Tryz.prog Tryz.f166 [0,1,2,3,4,5,6,7,16,21,22,26]=some yh:=by kernel_rfl
abbrev uz.fr:=fr9
def uz.b6:IR:=(iSr [iSm 6,iQm 4 0] (.seq (.yj [] [(.s (.zi 2 aT2),0,[]),(iSm 0,0,[]),(iSm 4,0,[]),(.s (.zk 2 aS1 aS0),0,[]),(.s (.zi 2 aS0),0,[]),(iQo 8 (.bin .eql (.agg 2) aS4 aS0),0,[])]) (.cond aT8 (iSr [iSm 4,iQm 3 0] .ret) .skip)))
def uz.g5 (X6:IR):IR:=(.block 1 X6)
def uz.b5:IR:=uz.g5 uz.b6
def uz.b7:IR:=(.reg [.s (.bin .add .int aT6 aC1),iQm 6 0])
def uz.g4 (X5 X7:IR):IR:=(.seq X5 X7)
def uz.b4:IR:=uz.g4 uz.b5 uz.b7
def uz.g3 (X4:IR):IR:=(iSr [iQo 7 (.bin .lss .int aT6 aT5)] (.seq (.cond aT7 .skip (.exit 0)) X4))
def uz.b3:IR:=uz.g3 uz.b4
def uz.g2 (X3:IR):IR:=(.loop X3)
def uz.b2:IR:=uz.g2 uz.b3
def uz.g1 (X2:IR):IR:=(.block 0 X2)
def uz.b1:IR:=uz.g1 uz.b2
def uz.b8:IR:=(iSr [iQo 3 (.mv (.c (I (-1))))] .ret)
def uz.g0 (X1 X8:IR):IR:=(iSr [iWl 2 (.box aT1),iQo 3 (.mv aC0)] (.seq (iSr [iSm 0,iQo 5 (.len aS0),iQo 6 (.mv aC0)] X1) X8))
def uz.b0:IR:=uz.g0 uz.b1 uz.b8
def uz.res:List RV:=[.t (.of 3)]
def uz:Fn:={ params:=[(.of 0),(.of 1)],res:=uz.res,body:=uz.b0,init:=in9 }
theorem uz.ok:fnA Tryz.prog Tryz.f167 [0,1,3,4,5,7,8,9,16]=some uz:=by kernel_rfl
abbrev eX.fr:=fr2
def eX.b0:IR:=(iSr [iQo 1 (.mv (.c .zh))] (iSr [iSm 0,iCa 221 [(.c .zh),aS0],iQm 1 0] .ret))
def eX.res:List RV:=[.t (.of 1)]
def eX:Fn:={ params:=[(.of 0)],res:=eX.res,body:=eX.b0,init:=in2 }
theorem eX.ok:fnA Tryz.prog Tryz.f168 [0,2]=some eX:=by kernel_rfl
abbrev wu.fr:=fr8
def wu.b6:IR:=(iSr [.s (.zk 1 aT3 aT5),.s (.load aS0),iQm 2 0] (iSr [iSm 0,iSm 2,.w .push none (.call aS1 [aS0]),iQo 7 (.not aS0)] (.cond aT7 .ret .skip)))
def wu.g5 (X6:IR):IR:=(.block 1 X6)
def wu.b5:IR:=wu.g5 wu.b6
def wu.b7:IR:=(.reg [.s (.bin .add .int aT5 aC1),iQm 5 0])
def wu.g4 (X5 X7:IR):IR:=(.seq X5 X7)
def wu.b4:IR:=wu.g4 wu.b5 wu.b7
def wu.g3 (X4:IR):IR:=(iSr [iQo 6 (.bin .lss .int aT5 aT4)] (.seq (.cond aT6 .skip (.exit 0)) X4))
def wu.b3:IR:=wu.g3 wu.b4
def wu.g2 (X3:IR):IR:=(.loop X3)
def wu.b2:IR:=wu.g2 wu.b3
def wu.g1 (X2:IR):IR:=(.block 0 X2)
def wu.b1:IR:=wu.g1 wu.b2
def wu.g0 (X1:IR):IR:=(iSr [iQo 3 (.load aT1),iQo 4 (.len aT3),iQo 5 (.mv aC0)] X1)
def wu.b0:IR:=wu.g0 wu.b1
def wu.res:List RV:=[]
def wu:Fn:={ params:=[(.of 0),(.of 1)],res:=wu.res,body:=wu.b0,init:=in8 }
theorem wu.ok:fnA Tryz.prog Tryz.f169 [0,1,4,5,6,7,8,14]=some wu:=by kernel_rfl
abbrev og.fr:=fr2
def og.b0:IR:=(iSr [iQo 1 (.mv (.c (.str [])))] (iSr [iSm 0,iCa 222 [aS0],iQm 1 0] .ret))
def og.res:List RV:=[.t (.of 1)]
def og:Fn:={ params:=[(.of 0)],res:=og.res,body:=og.b0,init:=in2 }
theorem og.ok:fnA Tryz.prog Tryz.f170 [0,2]=some og:=by kernel_rfl
abbrev o9.fr:=fr2
def o9.b1:IR:=(iSr [iSm 0,iCa 236 [aS0],iQm 1 0] .ret)
def o9.g0 (X1:IR):IR:=(iSr [iQo 1 (.mv aC0)] (.seq (.cond (.c (.bool false)) (iSr [iSm 0,.s (.conv .u32 aS0),iCa 235 [aS0],iQm 1 0] .ret) .skip) X1))
def o9.b0:IR:=o9.g0 o9.b1
def o9.res:List RV:=[.t (.of 1)]
def o9:Fn:={ params:=[(.of 0)],res:=o9.res,body:=o9.b0,init:=in2 }
theorem o9.ok:fnA Tryz.prog Tryz.f178 [0,2]=some o9:=by kernel_rfl
abbrev jh.fr:=fr10
def jh.b8:IR:=(.reg [iSm 2,iSm 3,.s (.zk 1 aS1 aS0),.w .none none (.store 1 aS0 (.c (.bool true)))])
def jh.g7 (X8:IR):IR:=(iSr [.s (.zk 1 aT5 aT7),.s (.load aS0),iQm 3 0] (.seq (iSr [iSm 3,.s (.bin .lss .int aS0 aC0),.s (.mv aS0),iPf 0 (.mv aT3),iPf 1 (.mv aT0),iPf 2 (.len aS0),iPf 3 (.bin .geq .int aS2 aS0),.s (.pick aS4 (.c (.bool true)) aS0),.s (.mv aS0),iPf 0 (.mv aT2),iPf 1 (.mv aT3),iPf 2 (.zk 1 aS1 aS0),iPf 3 (.load aS0),iQo 9 (.pick aS4 (.c (.bool true)) aS0)] (.cond aT9 (iSr [iQo 1 (.mv aC14)] .ret) .skip)) X8))
def jh.b7:IR:=jh.g7 jh.b8
def jh.g6 (X7:IR):IR:=(.block 1 X7)
def jh.b6:IR:=jh.g6 jh.b7
def jh.b9:IR:=(.reg [.s (.bin .add .int aT7 aC1),iQm 7 0])
def jh.g5 (X6 X9:IR):IR:=(.seq X6 X9)
def jh.b5:IR:=jh.g5 jh.b6 jh.b9
def jh.g4 (X5:IR):IR:=(iSr [iQo 8 (.bin .lss .int aT7 aT6)] (.seq (.cond aT8 .skip (.exit 0)) X5))
def jh.b4:IR:=jh.g4 jh.b5
def jh.g3 (X4:IR):IR:=(.loop X4)
def jh.b3:IR:=jh.g3 jh.b4
def jh.g2 (X3:IR):IR:=(.block 0 X3)
def jh.b2:IR:=jh.g2 jh.b3
def jh.b10:IR:=(iSr [iQo 1 (.mv aC0)] .ret)
def jh.g1 (X2 X10:IR):IR:=(iSr [iSm 0,.s (.len aS0),.w .push none (.xg 1 1 [(.bool false)] aS0 aS0),iQm 2 0] (.seq (iSr [iQo 5 (.mv aT0),iQo 6 (.len aT5),iQo 7 (.mv aC0)] X2) X10))
def jh.b1:IR:=jh.g1 jh.b2 jh.b10
def jh.g0 (X1:IR):IR:=(iSr [iQo 1 (.mv aC0)] (.seq (iSr [iSm 0,.s (.len aS0),iQo 4 (.bin .gtr .int aS0 zfx)] (.cond aT4 (iSr [iQo 1 (.mv aC5)] .ret) .skip)) X1))
def jh.b0:IR:=jh.g0 jh.b1
def jh.res:List RV:=[.t (.of 1)]
def jh:Fn:={ params:=[(.of 0)],res:=jh.res,body:=jh.b0,init:=in10 }
theorem jh.ok:fnA Tryz.prog Tryz.f187 [0,2,3,5,8,12,13,14,15,31]=some jh:=by kernel_rfl
abbrev F188.fr:=fr3
def F188.b0:IR:=(iSr [iSm 0,.s (.len aS0),iQm 2 0] (.reg [iSm 0,iSm 2,iSm 2,.s (.conv .u64 aS0),iCa 178 [aS0],iSm 1,iCa 237 [aS5,aC0,aS4,aS1,aS0]]))
def F188.res:List RV:=[]
def F188:Fn:={ params:=[(.of 0),(.of 1)],res:=F188.res,body:=F188.b0,init:=in3 }
theorem F188.ok:fnA Tryz.prog Tryz.f188 [0,1,4]=some F188:=by kernel_rfl
abbrev gq.fr:=fr11
def gq.b13:IR:=(.seq (.yj [] [(iSm 1,0,[]),(iSm 4,0,[]),(iSm 5,0,[]),(.s (.zk 1 aS1 aS0),0,[]),(.s (.load aS0),0,[]),(iSm 4,0,[]),(iSm 5,0,[]),(.s (.bin .sub .int aS0 aC1),0,[]),(.s (.zk 1 aS2 aS0),0,[]),(.s (.load aS0),0,[]),(.w .push none (.call aS9 [aS5,aS0]),0,[]),(iQo 10 (.not aS0),0,[])]) (.cond rC (iSr [iSm 0,iSm 3,iSm 4,iSm 5,.s (.zk 1 aS1 aS0),.s (.load aS0),.s (.zk 1 aS5 aS4),.w .none none (.store 1 aS0 aS1)] (.reg [iSm 3,.s (.bin .add .int aS0 aC1),iQm 3 0])) .skip))
def gq.g12 (X13:IR):IR:=(.block 3 X13)
def gq.b12:IR:=gq.g12 gq.b13
def gq.b14:IR:=(.reg [iSm 5,.s (.bin .add .int aS0 aC1),iQm 5 0])
def gq.g11 (X12 X14:IR):IR:=(.seq X12 X14)
def gq.b11:IR:=gq.g11 gq.b12 gq.b14
def gq.g10 (X11:IR):IR:=(.seq (iSr [iSm 5,iSm 4,.s (.len aS0),iQo 9 (.bin .lss .int aS2 aS0)] (.cond aT9 .skip (.exit 2))) X11)
def gq.b10:IR:=gq.g10 gq.b11
def gq.g9 (X10:IR):IR:=(.loop X10)
def gq.b9:IR:=gq.g9 gq.b10
def gq.g8 (X9:IR):IR:=(.block 2 X9)
def gq.b8:IR:=gq.g8 gq.b9
def gq.b15:IR:=(iSr [iSm 0,iSm 3,.s (.slice 1 aS1 (some aS0) none none),.w .none none (.clr 1 [.zh] aS0)] (iSr [iSm 0,iSm 3,.s (.slice 1 aS1 none (some aS0) none),iQm 2 0] .ret))
def gq.g7 (X8 X15:IR):IR:=(.seq (.yj [] [(iSm 1,0,[]),(iSm 0,0,[]),(iSm 3,0,[]),(.s (.zk 1 aS1 aS0),0,[]),(.s (.load aS0),0,[]),(iSm 0,0,[]),(iSm 3,0,[]),(.s (.bin .sub .int aS0 aC1),0,[]),(.s (.zk 1 aS2 aS0),0,[]),(.s (.load aS0),0,[]),(iWl 8 (.call aS9 [aS5,aS0]),0,[])]) (.cond aT8 (iSr [iSm 0,iSm 3,.s (.slice 1 aS1 (some aS0) none none),iQm 4 0] (.seq (iSr [iQo 5 (.mv aC1)] X8) X15)) .skip))
def gq.b7:IR:=gq.g7 gq.b8 gq.b15
def gq.g6 (X7:IR):IR:=(.block 1 X7)
def gq.b6:IR:=gq.g6 gq.b7
def gq.b16:IR:=(.reg [iSm 3,.s (.bin .add .int aS0 aC1),iQm 3 0])
def gq.g5 (X6 X16:IR):IR:=(.seq X6 X16)
def gq.b5:IR:=gq.g5 gq.b6 gq.b16
def gq.g4 (X5:IR):IR:=(.seq (iSr [iSm 3,iSm 0,.s (.len aS0),iQo 7 (.bin .lss .int aS2 aS0)] (.cond aT7 .skip (.exit 0))) X5)
def gq.b4:IR:=gq.g4 gq.b5
def gq.g3 (X4:IR):IR:=(.loop X4)
def gq.b3:IR:=gq.g3 gq.b4
def gq.g2 (X3:IR):IR:=(.block 0 X3)
def gq.b2:IR:=gq.g2 gq.b3
def gq.b17:IR:=(iSr [iSm 0,iQm 2 0] .ret)
def gq.g1 (X2 X17:IR):IR:=(.seq (iSr [iQo 3 (.mv aC1)] X2) X17)
def gq.b1:IR:=gq.g1 gq.b2 gq.b17
def gq.g0 (X1:IR):IR:=(iSr [iQo 2 (.mv (.c .zh))] (.seq (iSr [iSm 0,.s (.len aS0),iQo 6 (.bin .lss .int aS0 aC2)] (.cond aT6 (iSr [iSm 0,iQm 2 0] .ret) .skip)) X1))
def gq.b0:IR:=gq.g0 gq.b1
def gq.res:List RV:=[.t (.of 2)]
def gq:Fn:={ params:=[(.of 0),(.of 1)],res:=gq.res,body:=gq.b0,init:=in11 }
theorem gq.ok:fnA Tryz.prog Tryz.f189 [0,1,4,5,6,7,10,15,28,35,49]=some gq:=by kernel_rfl
abbrev jv.fr:=fr9
def jv.b7:IR:=(iSr [iSm 6,iQm 3 0] (.seq (.yj [] [(iSm 0,0,[]),(iSm 3,0,[]),(.s (.zk 1 aS1 aS0),0,[]),(.s (.load aS0),0,[]),(iSm 1,0,[]),(iSm 3,0,[]),(.s (.zk 1 aS1 aS0),0,[]),(.s (.load aS0),0,[]),(iQo 8 (.bin .neq .int aS4 aS0),0,[])]) (.cond aT8 (iSr [iQo 2 (.mv (.c (.bool false)))] .ret) .skip)))
def jv.g6 (X7:IR):IR:=(.block 1 X7)
def jv.b6:IR:=jv.g6 jv.b7
def jv.b8:IR:=(.reg [.s (.bin .add .int aT6 aC1),iQm 6 0])
def jv.g5 (X6 X8:IR):IR:=(.seq X6 X8)
def jv.b5:IR:=jv.g5 jv.b6 jv.b8
def jv.g4 (X5:IR):IR:=(iSr [iQo 7 (.bin .lss .int aT6 aT5)] (.seq (.cond aT7 .skip (.exit 0)) X5))
def jv.b4:IR:=jv.g4 jv.b5
def jv.g3 (X4:IR):IR:=(.loop X4)
def jv.b3:IR:=jv.g3 jv.b4
def jv.g2 (X3:IR):IR:=(.block 0 X3)
def jv.b2:IR:=jv.g2 jv.b3
def jv.b9:IR:=(iSr [iQo 2 (.mv (.c (.bool true)))] .ret)
def jv.g1 (X2 X9:IR):IR:=(.seq (iSr [iSm 0,iQo 5 (.len aS0),iQo 6 (.mv aC0)] X2) X9)
def jv.b1:IR:=jv.g1 jv.b2 jv.b9
def jv.g0 (X1:IR):IR:=(iSr [iQo 2 (.mv (.c (.bool false)))] (.seq (iSr [iSm 0,.s (.len aS0),iSm 1,.s (.len aS0),iQo 4 (.bin .neq .int aS2 aS0)] (.cond aT4 (iSr [iQo 2 (.mv (.c (.bool false)))] .ret) .skip)) X1))
def jv.b0:IR:=jv.g0 jv.b1
def jv.res:List RV:=[.t (.of 2)]
def jv:Fn:={ params:=[(.of 0),(.of 1)],res:=jv.res,body:=jv.b0,init:=in9 }
theorem jv.ok:fnA Tryz.prog Tryz.f190 [0,1,4,5,10,12,13,14,24]=some jv:=by kernel_rfl
abbrev eG.fr:=fr3
def eG.b0:IR:=(iSr [iQo 2 (.mv (.c (.bool false)))] (iSr [iSm 0,iSm 1,iCa 238 [aS1,aS0],.s (.bin .geq .int aS0 aC0),iQm 2 0] .ret))
def eG.res:List RV:=[.t (.of 2)]
def eG:Fn:={ params:=[(.of 0),(.of 1)],res:=eG.res,body:=eG.b0,init:=in3 }
theorem eG.ok:fnA Tryz.prog Tryz.f196 [0,1,4]=some eG:=by kernel_rfl
abbrev eF.fr:=fr3
def eF.b0:IR:=(iSr [iQo 2 (.mv (.c (.bool false)))] (iSr [iSm 0,.s (.load aT1),iCa 190 [aS1,aS0],iQm 2 0] .ret))
def eF.res:List RV:=[.t (.of 2)]
def eF:Fn:={ params:=[(.of 0),(.of 1)],res:=eF.res,body:=eF.b0,init:=in3 }
theorem eF.ok:fnA Tryz.prog Tryz.f197 [0,1,3]=some eF:=by kernel_rfl
abbrev pq.fr:=fr23
def pq.b10:IR:=(iSr [iSm 0,iSm 1,iSm 2,iSm 7,iCa 247 [aS3,aS2,aS1,aS0],.s (.mv aS0),.s (.ext 0 aS0),.s (.ext 1 aS1),iQm 10 1,iQm 11 0] (iSr [iSm 11,iQm 5 0] (iSr [iSm 10,iSm 1,.s (.bin .sub .int aS1 aS0),iSm 2,iSm 10,.s (.bin .sub .int aS1 aS0),iQm 12 3,iQm 13 0] (iSr [iSm 6,.s (.bin .quo .int aS0 aC8),iQm 14 0] (iSr [iSm 12,iSm 13,iQo 22 (.bin .lss .int aS1 aS0)] (.cond aT22 (iSr [iSm 12,iSm 14,.s (.bin .geq .int aS1 aS0),iQm 4 0] (iSr [iSm 0,iSm 1,iSm 10,iSm 3,iCa 198 [aS3,aS2,aS1,aS0]] (.reg [iSm 10,.s (.bin .add .int aS0 aC1),iQm 1 0]))) (iSr [iSm 13,iSm 14,.s (.bin .geq .int aS1 aS0),iQm 4 0] (iSr [iSm 0,iSm 10,.s (.bin .add .int aS0 aC1),iSm 2,iSm 3,iCa 198 [aS4,aS2,aS1,aS0]] (.reg [iSm 10,iQm 2 0])))))))))
def pq.g9 (X10:IR):IR:=(.seq (.seq (.yj [] [(iSm 1,0,[]),(.s (.bin .gtr .int aS0 aC0),0,[]),(.s (.mv aS0),0,[]),(iPt 0 (.mv aT0),0,[]),(iPt 1 (.mv aT1),0,[]),(iPt 2 (.bin .sub .int aS0 aC1),0,[]),(iPt 3 (.zk 1 aS2 aS0),0,[]),(iPt 4 (.load aS0),0,[]),(iPt 5 (.mv aT0),0,[]),(iPt 6 (.mv aT7),0,[]),(iPt 7 (.zk 1 aS1 aS0),0,[]),(iPt 8 (.load aS0),0,[]),(.w .push (some (aS9,true)) (.call (.c (.fn 245 (.of 245) [])) [aS4,aS0]),0,[]),(iPt 10 (.not aS0),0,[]),(iQo 21 (.pick aS11 aS0 (.c (.bool false))),0,[])]) (.cond aT21 (iSr [iSm 0,iSm 1,iSm 2,iSm 7,iCa 246 [aS3,aS2,aS1,aS0],iQm 9 0] (iSr [iSm 9,iQm 1 0] (.exit 1))) .skip)) X10)
def pq.b9:IR:=pq.g9 pq.b10
def pq.g8 (X9:IR):IR:=(.seq (iSr [iSm 4,.s (.mv aS0),iPt 0 (.mv aT5),.s (.pick aS1 aS0 (.c (.bool false))),.s (.mv aS0),iPt 0 (.mv aT8),iPt 1 (.bin .eql .int aS0 aC1),iQo 19 (.pick aS2 aS0 (.c (.bool false)))] (.cond aJ (iSr [iSm 0,iSm 1,iSm 2,iWl 20 (.call (.c (.fn 244 (.of 244) [])) [aS2,aS1,aS0])] (.cond aT20 .ret .skip)) .skip)) X9)
def pq.b8:IR:=pq.g8 pq.b9
def pq.g7 (X8:IR):IR:=(iSr [iSm 0,iSm 1,iSm 2,iCa 242 [aS2,aS1,aS0],.s (.mv aS0),.s (.ext 0 aS0),.s (.ext 1 aS1),iQm 7 1,iQm 8 0] (.seq (iSr [iSm 8,iQo 18 (.bin .eql .int aS0 aC2)] (.cond aT18 (iSr [iSm 0,iSm 1,iSm 2,iCa 243 [aS2,aS1,aS0]] (iSr [iSm 2,.s (.bin .sub .int aS0 aC1),iSm 7,iSm 1,.s (.bin .sub .int aS1 aS0),.s (.bin .sub .int aS3 aS0),iQm 7 0] (.reg [iQo 8 (.mv aC1)]))) .skip)) X8))
def pq.b7:IR:=pq.g7 pq.b8
def pq.g6 (X7:IR):IR:=(.seq (iSr [iSm 4,iQo 17 (.not aS0)] (.cond aI (iSr [iSm 0,iSm 1,iSm 2,iCa 241 [aS2,aS1,aS0]] (.reg [iSm 3,.s (.bin .sub .int aS0 aC1),iQm 3 0])) .skip)) X7)
def pq.b6:IR:=pq.g6 pq.b7
def pq.g5 (X6:IR):IR:=(.seq (iSr [iSm 3,iQo 16 (.bin .eql .int aS0 aC0)] (.cond oP (iSr [iSm 0,iSm 1,iSm 2,iCa 240 [aS2,aS1,aS0]] .ret) .skip)) X6)
def pq.b5:IR:=pq.g5 pq.b6
def pq.g4 (X5:IR):IR:=(iSr [iSm 2,iSm 1,.s (.bin .sub .int aS1 aS0),iQm 6 0] (.seq (iSr [iSm 6,iQo 15 (.bin .leq .int aS0 aC12)] (.cond aT15 (iSr [iSm 0,iSm 1,iSm 2,iCa 239 [aS2,aS1,aS0]] .ret) .skip)) X5))
def pq.b4:IR:=pq.g4 pq.b5
def pq.g3 (X4:IR):IR:=(.block 1 X4)
def pq.b3:IR:=pq.g3 pq.b4
def pq.g2 (X3:IR):IR:=(.loop X3)
def pq.b2:IR:=pq.g2 pq.b3
def pq.g1 (X2:IR):IR:=(.block 0 X2)
def pq.b1:IR:=pq.g1 pq.b2
def pq.g0 (X1:IR):IR:=(iSr [iQo 4 (.mv (.c (.bool true)))] (iSr [iQo 5 (.mv (.c (.bool true)))] X1))
def pq.b0:IR:=pq.g0 pq.b1
def pq.res:List RV:=[]
def pq:Fn:={ params:=[(.of 0),(.of 1),(.of 2),(.of 3)],res:=pq.res,body:=pq.b0,init:=in23 }
theorem pq.ok:fnA Tryz.prog Tryz.f198 [0,1,2,3,8,9,10,11,12,13,14,15,16,17,18,23,29,35,50,68,72,87,113]=some pq:=by kernel_rfl
abbrev uq.fr:=fr10
def uq.b6:IR:=(iSr [.s (.zk 2 aT5 aT7),.s (.zi 2 aS0),iWl 3 (.alloc [.zh,(.bool false)]),.w .none none (.store 2 aT3 aS0)] (iSr [.s (.zi 2 aT3),iSm 1,iCa 64 [aS1,aS0],iQm 4 0] (iSr [iSm 4,iQo 9 (.bin .neq .int aS0 aC0)] (.cond aT9 (iSr [iSm 4,iQm 2 0] .ret) .skip))))
def uq.g5 (X6:IR):IR:=(.block 1 X6)
def uq.b5:IR:=uq.g5 uq.b6
def uq.b7:IR:=(.reg [.s (.bin .add .int aT7 aC1),iQm 7 0])
def uq.g4 (X5 X7:IR):IR:=(.seq X5 X7)
def uq.b4:IR:=uq.g4 uq.b5 uq.b7
def uq.g3 (X4:IR):IR:=(iSr [iQo 8 (.bin .lss .int aT7 aT6)] (.seq (.cond aT8 .skip (.exit 0)) X4))
def uq.b3:IR:=uq.g3 uq.b4
def uq.g2 (X3:IR):IR:=(.loop X3)
def uq.b2:IR:=uq.g2 uq.b3
def uq.g1 (X2:IR):IR:=(.block 0 X2)
def uq.b1:IR:=uq.g1 uq.b2
def uq.b8:IR:=(iSr [iQo 2 (.mv aC0)] .ret)
def uq.g0 (X1 X8:IR):IR:=(iSr [iQo 2 (.mv aC0)] (.seq (iSr [iQo 5 (.mv aT0),iQo 6 (.len aT5),iQo 7 (.mv aC0)] X1) X8))
def uq.b0:IR:=uq.g0 uq.b1 uq.b8
def uq.res:List RV:=[.t (.of 2)]
def uq:Fn:={ params:=[(.of 0),(.of 1)],res:=uq.res,body:=uq.b0,init:=in10 }
theorem uq.ok:fnA Tryz.prog Tryz.f199 [0,1,4,6,7,8,9,10,11,18]=some uq:=by kernel_rfl
abbrev zo.fr:=fr25
def zo.b3:IR:=(.reg [iWl 10 (.alloc [.zh,(.bool false)]),.w .none none (.store 2 rC oP)])
def zo.b20:IR:=(.seq (.yj [] [(.s (.load aT8),1,[]),(.s (.zi 2 tu),0,[]),(.s (.zi 2 tu),1,[]),(iCa 112 [aS1],0,[]),(.w .none none (.zaq .str aS3 aS0 aS1),0,[])]) (.reg [iSm 11,.s (.zi 2 tu),.w .push none (.zu 2 1 [.zh,(.bool false)] [(0,2,aS0)]),.w .push none (.appq 2 32 aS2 aS0),iQm 11 0]))
def zo.g19 (X20:IR):IR:=(.seq (iSr [.s (.load aT8),.s (.mlen aS0),.s (.load aT3),iQo 24 (.bin .eql .int aS1 aS0)] (.cond aT24 (iSr [.w .none none (.store 1 aT4 (.c .xk)),.w .none none (.store 1 aT5 (.c .zh)),.w .none none (.store 1 aT6 (.c (.bool false)))] .ret) .skip)) X20)
def zo.b19:IR:=zo.g19 zo.b20
def zo.g18 (X19:IR):IR:=(iSr [.s (.zk 2 aJ aT21),.s (.zi 2 aS0),iWl 12 (.alloc [.zh,(.bool false)]),.w .none none (.store 2 aA aS0)] (.seq (.yj [(.alloc [.zh,(.bool false)])] [(.s (.zi 2 aA),2,[]),(iSm 11,2,[]),(.s (.zk 2 aS0 aC0),2,[]),(.s (.zi 2 aS0),2,[]),(iCa 250 [aS3,aS0],0,[]),(iWl 13 (.alloc [.zh,(.bool false)]),0,[]),(.w .none none (.store 2 tu aS0),0,[])]) (.seq (iSr [.s (.load aT8),.s (.zi 2 tu),iWl 23 (.call (.c (.fn 249 (.of 249) [])) [aS1,aS0])] (.cond aT23 (.exit 5) .skip)) X19)))
def zo.b18:IR:=zo.g18 zo.b19
def zo.g17 (X18:IR):IR:=(.block 5 X18)
def zo.b17:IR:=zo.g17 zo.b18
def zo.b21:IR:=(.reg [.s (.bin .add .int aT21 aC1),iQm 21 0])
def zo.g16 (X17 X21:IR):IR:=(.seq X17 X21)
def zo.b16:IR:=zo.g16 zo.b17 zo.b21
def zo.g15 (X16:IR):IR:=(iSr [iQo 22 (.bin .lss .int aT21 aT20)] (.seq (.cond aT22 .skip (.exit 4)) X16))
def zo.b15:IR:=zo.g15 zo.b16
def zo.g14 (X15:IR):IR:=(.loop X15)
def zo.b14:IR:=zo.g14 zo.b15
def zo.g13 (X14:IR):IR:=(.block 4 X14)
def zo.b13:IR:=zo.g13 zo.b14
def zo.g12 (X13:IR):IR:=(iSr [iQo 19 (.load aT9),iQo 20 (.len aJ),iQo 21 (.mv aC0)] X13)
def zo.b12:IR:=zo.g12 zo.b13
def zo.g11 (X12:IR):IR:=(.block 3 X12)
def zo.b11:IR:=zo.g11 zo.b12
def zo.b22:IR:=(.reg [iSm 11,.s (.slice 2 aS0 (some aC1) none none),iQm 11 0])
def zo.g10 (X11 X22:IR):IR:=(.seq X11 X22)
def zo.b10:IR:=zo.g10 zo.b11 zo.b22
def zo.g9 (X10:IR):IR:=(.seq (iSr [iSm 11,.s (.len aS0),iQo 18 (.bin .gtr .int aS0 aC0)] (.cond aT18 .skip (.exit 2))) X10)
def zo.b9:IR:=zo.g9 zo.b10
def zo.g8 (X9:IR):IR:=(.loop X9)
def zo.b8:IR:=zo.g8 zo.b9
def zo.g7 (X8:IR):IR:=(.block 2 X8)
def zo.b7:IR:=zo.g7 zo.b8
def zo.g6 (X7:IR):IR:=(iSr [.s (.load aT9),.s (.zi 2 rC),.w .push none (.zu 2 1 [.zh,(.bool false)] [(0,2,aS0)]),.w .push none (.appq 2 32 aS2 aS0),.w .none none (.store 1 aT9 aS0)] (.seq (.yj [.sU] [(.s (.zi 2 aT7),2,[]),(.s (.zi 2 aT7),2,[]),(iCa 112 [aS1],0,[]),(.w .push none .sU,0,[]),(.w .none none (.zaq .str aS0 aS1 aS2),0,[]),(.s (.mv aS0),0,[]),(.w .none none (.store 1 aT8 aS0),0,[])]) (iSr [.s (.zi 2 aT7),.w .push none (.zu 2 1 [.zh,(.bool false)] [(0,2,aS0)]),iQm 11 0] X7)))
def zo.b6:IR:=zo.g6 zo.b7
def zo.g5 (X6:IR):IR:=(.seq (iSr [.s (.load aT8),.s (.zi 2 rC),iWl 17 (.call (.c (.fn 249 (.of 249) [])) [aS1,aS0])] (.cond aI (.exit 1) .skip)) X6)
def zo.b5:IR:=zo.g5 zo.b6
def zo.g4 (X5:IR):IR:=(.block 1 X5)
def zo.b4:IR:=zo.g4 zo.b5
def zo.g2 (X3 X4:IR):IR:=(.rf aT14 [(.of 15),(.of 16)] X3 X4)
def zo.b2:IR:=zo.g2 zo.b3 zo.b4
def zo.g1 (X2:IR):IR:=(.block 0 X2)
def zo.b1:IR:=zo.g1 zo.b2
def zo.b23:IR:=(.seq (.yj [] [(.s (.load aT8),0,[]),(.s (.load aT9),1,[]),(.w .none none (.store 1 aT4 aS1),0,[]),(.w .none none (.store 1 aT5 aS0),0,[]),(.w .none none (.store 1 aT6 (.c (.bool true))),0,[])]) .ret)
def zo.g0 (X1 X23:IR):IR:=(iSr [iWl 3 (.box aT2),iWl 4 (.alloc [.xk]),iWl 5 (.alloc [.zh]),iWl 6 (.alloc [(.bool false)])] (iSr [iSm 1,iCa 248 [aS0],iWl 7 (.alloc [.zh,(.bool false)]),.w .none none (.store 2 aT7 aS0)] (.seq (.yj [.sU,(.alloc [.xk])] [(.s (.zi 2 aT7),4,[]),(.s (.zi 2 aT7),4,[]),(iCa 112 [aS1],0,[]),(.w .push none .sU,0,[]),(.w .none none (.zaq .str aS0 aS1 aS2),0,[]),(.s (.mv aS0),1,[]),(iWl 8 (.alloc [.xk]),0,[]),(.w .none none (.store 1 aT8 aS0),0,[])]) (iSr [iWl 9 (.alloc [.zh])] (.seq (iSr [iSm 0,iWl 14 (.call (.c (.fn 86 (.of 86) [])) [aS0])] X1) X23)))))
def zo.b0:IR:=zo.g0 zo.b1 zo.b23
def zo.res:List RV:=[.cell (.of 4) none,.cell (.of 5) none,.cell (.of 6) none]
def zo:Fn:={ params:=[(.of 0),(.of 1),(.of 2)],res:=zo.res,body:=zo.b0,init:=in25 }
theorem zo.ok:fnA Tryz.prog Tryz.f200 [0,1,2,5,6,7,8,9,10,11,13,14,16,17,26,27,28,31,45,48,49,50,51,61,65]=some zo:=by kernel_rfl
abbrev F216.fr:=fr2
def F216.b0:IR:=(iSr [iQo 1 (.mv (.c (.bool false)))] (iSr [iSm 0,.s (.bin .lss .int aS0 (.c (I (-999999999)))),.s (.mv aS0),iPf 0 (.mv aT0),iPf 1 (.bin .gtr .int aS0 dB),.s (.pick aS2 (.c (.bool true)) aS0),iQm 1 0] .ret))
def F216.res:List RV:=[.t (.of 1)]
def F216:Fn:={ params:=[(.of 0)],res:=F216.res,body:=F216.b0,init:=in2 }
theorem F216.ok:fnA Tryz.prog Tryz.f216 [0,2]=some F216:=by kernel_rfl
abbrev rE.fr:=fr10
def rE.b1:IR:=(iSr [iQo 2 (.mv (.c (I (-1))))] .ret)
def rE.b5:IR:=(iSr [iQo 2 (.mv aC0)] .ret)
def rE.g4 (X5:IR):IR:=(.seq (iSr [iSm 0,iSm 1,iQo 9 (.bin .gtr .int aS1 aS0)] (.cond aT9 (iSr [iQo 2 (.mv aC1)] .ret) .skip)) X5)
def rE.b4:IR:=rE.g4 rE.b5
def rE.g3 (X4:IR):IR:=(.seq (iSr [iSm 0,iSm 1,iQo 8 (.bin .lss .int aS1 aS0)] (.cond aT8 (iSr [iQo 2 (.mv (.c (I (-1))))] .ret) .skip)) X4)
def rE.b3:IR:=rE.g3 rE.b4
def rE.g2 (X3:IR):IR:=(.seq (iSr [iQo 7 (.mv aT4)] (.cond aT7 (iSr [iQo 2 (.mv aC1)] .ret) .skip)) X3)
def rE.b2:IR:=rE.g2 rE.b3
def rE.g0 (X1 X2:IR):IR:=(iSr [iQo 2 (.mv aC0)] (iSr [iSm 0,iCa 261 [aS0],iQm 3 0] (iSr [iSm 1,iCa 261 [aS0],iQm 4 0] (.seq (iSr [iQo 5 (.mv aT3)] (.cond aT5 (.seq (iSr [iQo 6 (.mv aT4)] (.cond aT6 (iSr [iQo 2 (.mv aC0)] .ret) .skip)) X1) .skip)) X2))))
def rE.b0:IR:=rE.g0 rE.b1 rE.b2
def rE.res:List RV:=[.t (.of 2)]
def rE:Fn:={ params:=[(.of 0),(.of 1)],res:=rE.res,body:=rE.b0,init:=in10 }
theorem rE.ok:fnA Tryz.prog Tryz.f217 [0,1,4,5,6,11,12,13,16,19]=some rE:=by kernel_rfl
abbrev rG.fr:=fr11
def rG.b5:IR:=(iSr [iSm 6,iSm 7,.s (.bin .add .int aS1 aS0),.s (.conv .u64 aS0),.s (.bin .shr .int aS0 (.c (.int .u64 1))),.s (.conv .i64 aS0),iQm 8 0] (iSr [iSm 2,iSm 0,iSm 8,.s (.zk 1 aS1 aS0),.s (.load aS0),iSm 1,.w .push none (.call aS5 [aS1,aS0]),iQo 10 (.bin .lss .int aS0 aC0)] (.cond rC (.reg [iSm 8,.s (.bin .add .int aS0 aC1),iQm 6 0]) (.reg [iSm 8,iQm 7 0]))))
def rG.g4 (X5:IR):IR:=(.block 1 X5)
def rG.b4:IR:=rG.g4 rG.b5
def rG.g3 (X4:IR):IR:=(.seq (iSr [iSm 6,iSm 7,iQo 9 (.bin .lss .int aS1 aS0)] (.cond aT9 .skip (.exit 0))) X4)
def rG.b3:IR:=rG.g3 rG.b4
def rG.g2 (X3:IR):IR:=(.loop X3)
def rG.b2:IR:=rG.g2 rG.b3
def rG.g1 (X2:IR):IR:=(.block 0 X2)
def rG.b1:IR:=rG.g1 rG.b2
def rG.b6:IR:=(iSr [iSm 6,iSm 6,iSm 5,.s (.bin .lss .int aS1 aS0),.s (.mv aS0),iPt 0 (.mv aT2),iPt 1 (.mv aT0),iPt 2 (.mv aT6),iPt 3 (.zk 1 aS1 aS0),iPt 4 (.load aS0),iPt 5 (.mv aT1),.w .push (some (aS6,true)) (.call aS5 [aS1,aS0]),iPt 7 (.bin .eql .int aS0 aC0),.s (.pick aS8 aS0 (.c (.bool false))),iQm 3 13,iQm 4 0] .ret)
def rG.g0 (X1 X6:IR):IR:=(iSr [iQo 3 (.mv aC0),iQo 4 (.mv (.c (.bool false)))] (iSr [iSm 0,.s (.len aS0),iQm 5 0] (iSr [iSm 5,iQo 6 (.mv aC0),iQm 7 0] (.seq X1 X6))))
def rG.b0:IR:=rG.g0 rG.b1 rG.b6
def rG.res:List RV:=[.t (.of 3),.t (.of 4)]
def rG:Fn:={ params:=[(.of 0),(.of 1),(.of 2)],res:=rG.res,body:=rG.b0,init:=in11 }
theorem rG.ok:fnA Tryz.prog Tryz.f218 [0,1,2,6,7,8,9,10,11,17,31]=some rG:=by kernel_rfl
abbrev fZ.fr:=fr9
def fZ.b6:IR:=(iSr [.s (.zk 1 aT5 aT7),.s (.load aS0),iQm 4 0] (.reg [iSm 3,iSm 1,iSm 4,.s (.zk 1 aS1 aS0),.s (.load aS0),.s (.bin .add .int aS4 aS0),iQm 3 0]))
def fZ.g5 (X6:IR):IR:=(.block 1 X6)
def fZ.b5:IR:=fZ.g5 fZ.b6
def fZ.b7:IR:=(.reg [.s (.bin .add .int aT7 aC1),iQm 7 0])
def fZ.g4 (X5 X7:IR):IR:=(.seq X5 X7)
def fZ.b4:IR:=fZ.g4 fZ.b5 fZ.b7
def fZ.g3 (X4:IR):IR:=(iSr [iQo 8 (.bin .lss .int aT7 aT6)] (.seq (.cond aT8 .skip (.exit 0)) X4))
def fZ.b3:IR:=fZ.g3 fZ.b4
def fZ.g2 (X3:IR):IR:=(.loop X3)
def fZ.b2:IR:=fZ.g2 fZ.b3
def fZ.g1 (X2:IR):IR:=(.block 0 X2)
def fZ.b1:IR:=fZ.g1 fZ.b2
def fZ.b8:IR:=(iSr [iSm 3,iQm 2 0] .ret)
def fZ.g0 (X1 X8:IR):IR:=(iSr [iQo 2 (.mv aC0)] (iSr [iQo 3 (.mv aC0)] (.seq (iSr [iQo 5 (.mv aT0),iQo 6 (.len aT5),iQo 7 (.mv aC0)] X1) X8)))
def fZ.b0:IR:=fZ.g0 fZ.b1 fZ.b8
def fZ.res:List RV:=[.t (.of 2)]
def fZ:Fn:={ params:=[(.of 0),(.of 1)],res:=fZ.res,body:=fZ.b0,init:=in9 }
theorem fZ.ok:fnA Tryz.prog Tryz.f219 [0,1,4,5,7,8,9,10,11]=some fZ:=by kernel_rfl
abbrev uj.fr:=fr14
def uj.b6:IR:=(iSr [iSm 12,.s (.zk 1 rC aA),.s (.load aS0),iQm 7 2,iQm 8 0] (iSr [iSm 6,iSm 8,iSm 7,.s (.bin .add .int aS0 aC1),.s (.bin .mul .int aS2 aS0),.s (.bin .add .int aS4 aS0),iQm 6 0] (.reg [iSm 5,iSm 8,iSm 4,.s (.len aS0),iSm 7,.s (.bin .sub .int aS1 aS0),.s (.bin .mul .int aS4 aS0),.s (.bin .add .int aS6 aS0),iQm 5 0])))
def uj.g5 (X6:IR):IR:=(.block 1 X6)
def uj.b5:IR:=uj.g5 uj.b6
def uj.b7:IR:=(.reg [.s (.bin .add .int aA aC1),iQm 12 0])
def uj.g4 (X5 X7:IR):IR:=(.seq X5 X7)
def uj.b4:IR:=uj.g4 uj.b5 uj.b7
def uj.g3 (X4:IR):IR:=(iSr [iQo 13 (.bin .lss .int aA su)] (.seq (.cond tu .skip (.exit 0)) X4))
def uj.b3:IR:=uj.g3 uj.b4
def uj.g2 (X3:IR):IR:=(.loop X3)
def uj.b2:IR:=uj.g2 uj.b3
def uj.g1 (X2:IR):IR:=(.block 0 X2)
def uj.b1:IR:=uj.g1 uj.b2
def uj.b8:IR:=(iSr [.s (.zx 1 aT1),.s (.load aS0),.s (.len aS0),iQm 9 0] (.seq (.yj [] [(iSm 5,0,[]),(iSm 9,0,[]),(.s (.bin .add .int aS1 aS0),0,[]),(.s (.bin .sub .int aS0 aC1),0,[]),(iSm 9,0,[]),(.s (.bin .quo .int aS1 aS0),0,[]),(iSm 6,0,[]),(iSm 9,0,[]),(.s (.bin .quo .int aS1 aS0),0,[]),(iQm 2 3,0,[]),(iQm 3 0,0,[])]) .ret))
def uj.g0 (X1 X8:IR):IR:=(iSr [iWl 1 (.box aT0),iQo 2 (.mv aC0),iQo 3 (.mv aC0)] (iSr [.s (.zi 2 aT1),iCa 262 [aS0],iCa 102 [aS0],iCa 101 [aS0],iQm 4 0] (iSr [iQo 5 (.mv aC0),iQo 6 (.mv aC0)] (.seq (iSr [iQo 10 (.mv aT4),iQo 11 (.len rC),iQo 12 (.mv aC0)] X1) X8))))
def uj.b0:IR:=uj.g0 uj.b1 uj.b8
def uj.res:List RV:=[.t (.of 2),.t (.of 3)]
def uj:Fn:={ params:=[(.of 0)],res:=uj.res,body:=uj.b0,init:=in14 }
theorem uj.ok:fnA Tryz.prog Tryz.f220 [0,1,2,3,4,5,6,7,8,9,14,15,16,17]=some uj:=by kernel_rfl
abbrev qj.fr:=fr7
def qj.b3:IR:=(.reg [iQo 4 (.mv aT6)])
def qj.b5:IR:=(.reg [.s (.load aT2),iSm 4,.w .push none (.zu 1 1 [(I 0)] [(0,1,aS0)]),.w .push none (.app 1 8 aS2 aS0),.w .none none (.store 1 aT2 aS0)])
def qj.g4 (X5:IR):IR:=(.block 1 X5)
def qj.b4:IR:=qj.g4 qj.b5
def qj.g2 (X3 X4:IR):IR:=(.rf aT5 [(.of 6)] X3 X4)
def qj.b2:IR:=qj.g2 qj.b3 qj.b4
def qj.g1 (X2:IR):IR:=(.block 0 X2)
def qj.b1:IR:=qj.g1 qj.b2
def qj.b6:IR:=(iSr [.s (.load aT2),iQm 3 0] .ret)
def qj.g0 (X1 X6:IR):IR:=(iSr [iWl 2 (.box aT0),iQo 3 (.mv (.c .zh))] (.seq (iSr [iQo 5 (.mv aT1)] X1) X6))
def qj.b0:IR:=qj.g0 qj.b1 qj.b6
def qj.res:List RV:=[.t (.of 3)]
def qj:Fn:={ params:=[(.of 0),(.of 1)],res:=qj.res,body:=qj.b0,init:=in7 }
theorem qj.ok:fnA Tryz.prog Tryz.f221 [0,1,2,4,5,6,7]=some qj:=by kernel_rfl
abbrev oh.fr:=fr2
def oh.b0:IR:=(iSr [iQo 1 (.mv (.c (.str [])))] (iSr [iSm 0,iCa 263 [aS0,aC10],iQm 1 0] .ret))
def oh.res:List RV:=[.t (.of 1)]
def oh:Fn:={ params:=[(.of 0)],res:=oh.res,body:=oh.b0,init:=in2 }
theorem oh.ok:fnA Tryz.prog Tryz.f222 [0,2]=some oh:=by kernel_rfl
abbrev tC.fr:=fr5
def tC.b3:IR:=(iSr [iSm 1,iSm 0,.s (.conv .u8 aS0),.s (.sidx (.c (.str [0,1,2,2,3,3,3,3,4,4,4,4,4,4,4,4,5,5,5,5,5,5,5,5,5,5,5,5,5,5,5,5,6,6,6,6,6,6,6,6,6,6,6,6,6,6,6,6,6,6,6,6,6,6,6,6,6,6,6,6,6,6,6,6,7,7,7,7,7,7,7,7,7,7,7,7,7,7,7,7,7,7,7,7,7,7,7,7,7,7,7,7,7,7,7,7,7,7,7,7,7,7,7,7,7,7,7,7,7,7,7,7,7,7,7,7,7,7,7,7,7,7,7,7,7,7,7,7,8,8,8,8,8,8,8,8,8,8,8,8,8,8,8,8,8,8,8,8,8,8,8,8,8,8,8,8,8,8,8,8,8,8,8,8,8,8,8,8,8,8,8,8,8,8,8,8,8,8,8,8,8,8,8,8,8,8,8,8,8,8,8,8,8,8,8,8,8,8,8,8,8,8,8,8,8,8,8,8,8,8,8,8,8,8,8,8,8,8,8,8,8,8,8,8,8,8,8,8,8,8,8,8,8,8,8,8,8,8,8,8,8,8,8,8,8,8,8,8,8,8,8,8,8,8,8,8])) aS0),.s (.conv .i64 aS0),.s (.bin .add .int aS4 aS0),iQm 1 0] .ret)
def tC.g2 (X3:IR):IR:=(.seq (iSr [iSm 0,iQo 4 (.bin .geq .int aS0 (.c (.int .u64 256)))] (.cond aT4 (iSr [iSm 0,.s (.bin .shr .int aS0 (.c (.int .u64 8))),iQm 0 0] (.reg [iSm 1,.s (.bin .add .int aS0 aC8),iQm 1 0])) .skip)) X3)
def tC.b2:IR:=tC.g2 tC.b3
def tC.g1 (X2:IR):IR:=(.seq (iSr [iSm 0,iQo 3 (.bin .geq .int aS0 (.c (.int .u64 65536)))] (.cond aT3 (iSr [iSm 0,.s (.bin .shr .int aS0 (.c (.int .u64 16))),iQm 0 0] (.reg [iSm 1,.s (.bin .add .int aS0 aC16),iQm 1 0])) .skip)) X2)
def tC.b1:IR:=tC.g1 tC.b2
def tC.g0 (X1:IR):IR:=(iSr [iQo 1 (.mv aC0)] (.seq (iSr [iSm 0,iQo 2 (.bin .geq .int aS0 (.c (.int .u64 4294967296)))] (.cond aT2 (iSr [iSm 0,.s (.bin .shr .int aS0 (.c (.int .u64 32))),iQm 0 0] (.reg [iQo 1 (.mv aC32)])) .skip)) X1))
def tC.b0:IR:=tC.g0 tC.b1
def tC.res:List RV:=[.t (.of 1)]
def tC:Fn:={ params:=[(.of 0)],res:=tC.res,body:=tC.b0,init:=in5 }
theorem tC.ok:fnA Tryz.prog Tryz.f236 [0,2,4,8,14]=some tC:=by kernel_rfl
abbrev pz.fr:=fr24
def pz.b10:IR:=(iSr [iSm 0,iSm 1,iSm 2,iSm 8,iSm 4,iCa 277 [aS4,aS3,aS2,aS1,aS0],.s (.mv aS0),.s (.ext 0 aS0),.s (.ext 1 aS1),iQm 11 1,iQm 12 0] (iSr [iSm 12,iQm 6 0] (iSr [iSm 11,iSm 1,.s (.bin .sub .int aS1 aS0),iSm 2,iSm 11,.s (.bin .sub .int aS1 aS0),iQm 13 3,iQm 14 0] (iSr [iSm 7,.s (.bin .quo .int aS0 aC8),iQm 15 0] (iSr [iSm 13,iSm 14,iQo 23 (.bin .lss .int aS1 aS0)] (.cond aT23 (iSr [iSm 13,iSm 15,.s (.bin .geq .int aS1 aS0),iQm 5 0] (iSr [iSm 0,iSm 1,iSm 11,iSm 3,iSm 4,iCa 237 [aS4,aS3,aS2,aS1,aS0]] (.reg [iSm 11,.s (.bin .add .int aS0 aC1),iQm 1 0]))) (iSr [iSm 14,iSm 15,.s (.bin .geq .int aS1 aS0),iQm 5 0] (iSr [iSm 0,iSm 11,.s (.bin .add .int aS0 aC1),iSm 2,iSm 3,iSm 4,iCa 237 [aS5,aS3,aS2,aS1,aS0]] (.reg [iSm 11,iQm 2 0])))))))))
def pz.g9 (X10:IR):IR:=(.seq (.seq (.yj [] [(iSm 1,0,[]),(.s (.bin .gtr .int aS0 aC0),0,[]),(.s (.mv aS0),0,[]),(iPt 0 (.mv aT4),0,[]),(iPt 1 (.mv aT0),0,[]),(iPt 2 (.mv aT1),0,[]),(iPt 3 (.bin .sub .int aS0 aC1),0,[]),(iPt 4 (.zk 1 aS2 aS0),0,[]),(iPt 5 (.load aS0),0,[]),(iPt 6 (.mv aT0),0,[]),(iPt 7 (.mv aT8),0,[]),(iPt 8 (.zk 1 aS1 aS0),0,[]),(iPt 9 (.load aS0),0,[]),(.w .push (some (aS10,true)) (.call aS9 [aS4,aS0]),0,[]),(iPt 11 (.bin .lss .int aS0 aC0),0,[]),(iPt 12 (.not aS0),0,[]),(iQo 22 (.pick aS13 aS0 (.c (.bool false))),0,[])]) (.cond aT22 (iSr [iSm 0,iSm 1,iSm 2,iSm 8,iSm 4,iCa 276 [aS4,aS3,aS2,aS1,aS0],iQm 10 0] (iSr [iSm 10,iQm 1 0] (.exit 1))) .skip)) X10)
def pz.b9:IR:=pz.g9 pz.b10
def pz.g8 (X9:IR):IR:=(.seq (iSr [iSm 5,.s (.mv aS0),iPt 0 (.mv aT6),.s (.pick aS1 aS0 (.c (.bool false))),.s (.mv aS0),iPt 0 (.mv aT9),iPt 1 (.bin .eql .int aS0 aC1),iQo 20 (.pick aS2 aS0 (.c (.bool false)))] (.cond aT20 (iSr [iSm 0,iSm 1,iSm 2,iSm 4,iWl 21 (.call (.c (.fn 275 (.of 275) [])) [aS3,aS2,aS1,aS0])] (.cond aT21 .ret .skip)) .skip)) X9)
def pz.b8:IR:=pz.g8 pz.b9
def pz.g7 (X8:IR):IR:=(iSr [iSm 0,iSm 1,iSm 2,iSm 4,iCa 273 [aS3,aS2,aS1,aS0],.s (.mv aS0),.s (.ext 0 aS0),.s (.ext 1 aS1),iQm 8 1,iQm 9 0] (.seq (iSr [iSm 9,iQo 19 (.bin .eql .int aS0 aC2)] (.cond aJ (iSr [iSm 0,iSm 1,iSm 2,iSm 4,iCa 274 [aS3,aS2,aS1,aS0]] (iSr [iSm 2,.s (.bin .sub .int aS0 aC1),iSm 8,iSm 1,.s (.bin .sub .int aS1 aS0),.s (.bin .sub .int aS3 aS0),iQm 8 0] (.reg [iQo 9 (.mv aC1)]))) .skip)) X8))
def pz.b7:IR:=pz.g7 pz.b8
def pz.g6 (X7:IR):IR:=(.seq (iSr [iSm 5,iQo 18 (.not aS0)] (.cond aT18 (iSr [iSm 0,iSm 1,iSm 2,iSm 4,iCa 272 [aS3,aS2,aS1,aS0]] (.reg [iSm 3,.s (.bin .sub .int aS0 aC1),iQm 3 0])) .skip)) X7)
def pz.b6:IR:=pz.g6 pz.b7
def pz.g5 (X6:IR):IR:=(.seq (iSr [iSm 3,iQo 17 (.bin .eql .int aS0 aC0)] (.cond aI (iSr [iSm 0,iSm 1,iSm 2,iSm 4,iCa 271 [aS3,aS2,aS1,aS0]] .ret) .skip)) X6)
def pz.b5:IR:=pz.g5 pz.b6
def pz.g4 (X5:IR):IR:=(iSr [iSm 2,iSm 1,.s (.bin .sub .int aS1 aS0),iQm 7 0] (.seq (iSr [iSm 7,iQo 16 (.bin .leq .int aS0 aC12)] (.cond oP (iSr [iSm 0,iSm 1,iSm 2,iSm 4,iCa 270 [aS3,aS2,aS1,aS0]] .ret) .skip)) X5))
def pz.b4:IR:=pz.g4 pz.b5
def pz.g3 (X4:IR):IR:=(.block 1 X4)
def pz.b3:IR:=pz.g3 pz.b4
def pz.g2 (X3:IR):IR:=(.loop X3)
def pz.b2:IR:=pz.g2 pz.b3
def pz.g1 (X2:IR):IR:=(.block 0 X2)
def pz.b1:IR:=pz.g1 pz.b2
def pz.g0 (X1:IR):IR:=(iSr [iQo 5 (.mv (.c (.bool true)))] (iSr [iQo 6 (.mv (.c (.bool true)))] X1))
def pz.b0:IR:=pz.g0 pz.b1
def pz.res:List RV:=[]
def pz:Fn:={ params:=[(.of 0),(.of 1),(.of 2),(.of 3),(.of 4)],res:=pz.res,body:=pz.b0,init:=in24 }
theorem pz.ok:fnA Tryz.prog Tryz.f237 [0,1,2,3,4,10,11,12,13,14,15,16,17,18,19,20,25,32,39,56,75,80,97,125]=some pz:=by kernel_rfl
abbrev gy.fr:=fr8
def gy.b6:IR:=(iSr [iSm 5,iQm 3 0] (iSr [iSm 1,iSm 0,iSm 3,.s (.zk 1 aS1 aS0),.s (.load aS0),iWl 7 (.call aS4 [aS0])] (.cond aT7 (iSr [iSm 3,iQm 2 0] .ret) .skip)))
def gy.g5 (X6:IR):IR:=(.block 1 X6)
def gy.b5:IR:=gy.g5 gy.b6
def gy.b7:IR:=(.reg [.s (.bin .add .int aT5 aC1),iQm 5 0])
def gy.g4 (X5 X7:IR):IR:=(.seq X5 X7)
def gy.b4:IR:=gy.g4 gy.b5 gy.b7
def gy.g3 (X4:IR):IR:=(iSr [iQo 6 (.bin .lss .int aT5 aT4)] (.seq (.cond aT6 .skip (.exit 0)) X4))
def gy.b3:IR:=gy.g3 gy.b4
def gy.g2 (X3:IR):IR:=(.loop X3)
def gy.b2:IR:=gy.g2 gy.b3
def gy.g1 (X2:IR):IR:=(.block 0 X2)
def gy.b1:IR:=gy.g1 gy.b2
def gy.b8:IR:=(iSr [iQo 2 (.mv (.c (I (-1))))] .ret)
def gy.g0 (X1 X8:IR):IR:=(iSr [iQo 2 (.mv aC0)] (.seq (iSr [iSm 0,iQo 4 (.len aS0),iQo 5 (.mv aC0)] X1) X8))
def gy.b0:IR:=gy.g0 gy.b1 gy.b8
def gy.res:List RV:=[.t (.of 2)]
def gy:Fn:={ params:=[(.of 0),(.of 1)],res:=gy.res,body:=gy.b0,init:=in8 }
theorem gy.ok:fnA Tryz.prog Tryz.f238 [0,1,4,5,7,8,9,16]=some gy:=by kernel_rfl
abbrev qw.fr:=fr7
def qw.b12:IR:=(.yj [] [(iSm 0,0,[]),(iSm 4,0,[]),(iSm 0,1,[]),(iSm 4,1,[]),(.s (.bin .sub .int aS0 aC1),1,[]),(iSm 0,0,[]),(iSm 4,0,[]),(.s (.bin .sub .int aS0 aC1),0,[]),(.s (.zk 1 aS2 aS0),0,[]),(.s (.load aS0),0,[]),(iSm 0,0,[]),(iSm 4,0,[]),(.s (.zk 1 aS1 aS0),0,[]),(.s (.load aS0),0,[]),(.s (.zk 1 aS13 aS12),0,[]),(.w .none none (.store 1 aS0 aS5),0,[]),(.s (.zk 1 aS12 aS10),0,[]),(.w .none none (.store 1 aS0 aS2),0,[])])
def qw.g11 (X12:IR):IR:=(.block 3 X12)
def qw.b11:IR:=qw.g11 qw.b12
def qw.b13:IR:=(.reg [iSm 4,.s (.bin .sub .int aS0 aC1),iQm 4 0])
def qw.g10 (X11 X13:IR):IR:=(.seq X11 X13)
def qw.b10:IR:=qw.g10 qw.b11 qw.b13
def qw.g9 (X10:IR):IR:=(.seq (.seq (.yj [] [(iSm 4,0,[]),(iSm 1,0,[]),(.s (.bin .gtr .int aS1 aS0),0,[]),(.s (.mv aS0),0,[]),(iPt 0 (.mv aT0),0,[]),(iPt 1 (.mv aT4),0,[]),(iPt 2 (.zk 1 aS1 aS0),0,[]),(iPt 3 (.load aS0),0,[]),(iPt 4 (.mv aT0),0,[]),(iPt 5 (.mv aT4),0,[]),(iPt 6 (.bin .sub .int aS0 aC1),0,[]),(iPt 7 (.zk 1 aS2 aS0),0,[]),(iPt 8 (.load aS0),0,[]),(.w .push (some (aS9,true)) (.call (.c (.fn 245 (.of 245) [])) [aS5,aS0]),0,[]),(iQo 6 (.pick aS10 aS0 (.c (.bool false))),0,[])]) (.cond aT6 .skip (.exit 2))) X10)
def qw.b9:IR:=qw.g9 qw.b10
def qw.g8 (X9:IR):IR:=(.loop X9)
def qw.b8:IR:=qw.g8 qw.b9
def qw.g7 (X8:IR):IR:=(.block 2 X8)
def qw.b7:IR:=qw.g7 qw.b8
def qw.g6 (X7:IR):IR:=(iSr [iSm 3,iQm 4 0] X7)
def qw.b6:IR:=qw.g6 qw.b7
def qw.g5 (X6:IR):IR:=(.block 1 X6)
def qw.b5:IR:=qw.g5 qw.b6
def qw.b14:IR:=(.reg [iSm 3,.s (.bin .add .int aS0 aC1),iQm 3 0])
def qw.g4 (X5 X14:IR):IR:=(.seq X5 X14)
def qw.b4:IR:=qw.g4 qw.b5 qw.b14
def qw.g3 (X4:IR):IR:=(.seq (iSr [iSm 3,iSm 2,iQo 5 (.bin .lss .int aS1 aS0)] (.cond aT5 .skip (.exit 0))) X4)
def qw.b3:IR:=qw.g3 qw.b4
def qw.g2 (X3:IR):IR:=(.loop X3)
def qw.b2:IR:=qw.g2 qw.b3
def qw.g1 (X2:IR):IR:=(.block 0 X2)
def qw.b1:IR:=qw.g1 qw.b2
def qw.g0 (X1:IR):IR:=(iSr [iSm 1,.s (.bin .add .int aS0 aC1),iQm 3 0] X1)
def qw.b0:IR:=qw.g0 qw.b1
def qw.res:List RV:=[]
def qw:Fn:={ params:=[(.of 0),(.of 1),(.of 2)],res:=qw.res,body:=qw.b0,init:=in7 }
theorem qw.ok:fnA Tryz.prog Tryz.f239 [0,1,2,6,7,12,30]=some qw:=by kernel_rfl
abbrev F245.fr:=fr3
def F245.b0:IR:=(iSr [iQo 2 (.mv (.c (.bool false)))] (iSr [iSm 0,iCa 261 [aS0],.s (.mv aS0),iPt 0 (.mv aT1),.w .push (some (aS1,true)) (.call (.c (.fn 261 (.of 261) [])) [aS0]),iPt 2 (.not aS0),.s (.pick aS3 aS0 (.c (.bool false))),.s (.mv aS0),iPf 0 (.mv aT0),iPf 1 (.mv aT1),iPf 2 (.bin .lss .int aS1 aS0),.s (.pick aS3 (.c (.bool true)) aS0),iQm 2 0] .ret))
def F245.res:List RV:=[.t (.of 2)]
def F245:Fn:={ params:=[(.of 0),(.of 1)],res:=F245.res,body:=F245.b0,init:=in3 }
theorem F245.ok:fnA Tryz.prog Tryz.f245 [0,1,4]=some F245:=by kernel_rfl
abbrev uw.fr:=fr7
def uw.b6:IR:=(iSr [iSm 5,iQm 3 0] (.reg [.s (.zx 0 aT2),.s (.load aS0),iSm 3,iSm 3,.s (.zk 1 aS2 aS1),.w .none none (.store 1 aS0 aS1)]))
def uw.g5 (X6:IR):IR:=(.block 1 X6)
def uw.b5:IR:=uw.g5 uw.b6
def uw.b7:IR:=(.reg [.s (.bin .add .int aT5 aC1),iQm 5 0])
def uw.g4 (X5 X7:IR):IR:=(.seq X5 X7)
def uw.b4:IR:=uw.g4 uw.b5 uw.b7
def uw.g3 (X4:IR):IR:=(iSr [iQo 6 (.bin .lss .int aT5 aT4)] (.seq (.cond aT6 .skip (.exit 0)) X4))
def uw.b3:IR:=uw.g3 uw.b4
def uw.g2 (X3:IR):IR:=(.loop X3)
def uw.b2:IR:=uw.g2 uw.b3
def uw.g1 (X2:IR):IR:=(.block 0 X2)
def uw.b1:IR:=uw.g1 uw.b2
def uw.b8:IR:=(iSr [.s (.zi 2 aT2),.w .none none (.store 2 aT1 aS0)] .ret)
def uw.g0 (X1 X8:IR):IR:=(iSr [iWl 1 (.alloc [.zh,(.bool false)])] (iSr [iSm 0,.w .push none (.xg 1 8 [(I 0)] aS0 aS0),.s (.build [.zh,(.bool false)] [(0,1,aS0)]),iWl 2 (.alloc [.zh,(.bool false)]),.w .none none (.store 2 aT2 aS0)] (.seq (iSr [.s (.zx 0 aT2),.s (.load aS0),iQo 4 (.len aS0),iQo 5 (.mv aC0)] X1) X8)))
def uw.b0:IR:=uw.g0 uw.b1 uw.b8
def uw.res:List RV:=[.cell (.of 1) (some 2)]
def uw:Fn:={ params:=[(.of 0)],res:=uw.res,body:=uw.b0,init:=in7 }
theorem uw.ok:fnA Tryz.prog Tryz.f248 [0,2,3,4,10,11,12]=some uw:=by kernel_rfl
abbrev oz.fr:=fr5
def oz.b0:IR:=(iSr [iWl 2 (.box aT1),iQo 3 (.mv (.c (.bool false)))] (iSr [iSm 0,.s (.zi 2 aT2),iCa 112 [aS0],.s (.look .str (.agg [.zh,(.bool false)]) true aS2 aS0),.s (.mv aS0),.s (.ext 0 aS0),.s (.ext 1 aS1),.w .push none (.alloc [.zh,(.bool false)]),.w .none none (.store 2 aS0 aS2),iQm 4 1] (iSr [iSm 4,iQm 3 0] .ret)))
def oz.res:List RV:=[.t (.of 3)]
def oz:Fn:={ params:=[(.of 0),(.of 1)],res:=oz.res,body:=oz.b0,init:=in5 }
theorem oz.ok:fnA Tryz.prog Tryz.f249 [0,1,3,4,6]=some oz:=by kernel_rfl
abbrev uy.fr:=fr12
def uy.b6:IR:=(iSr [iSm 10,.s (.zk 1 aT8 rC),.s (.load aS0),iQm 6 2,iQm 7 0] (.yj [] [(.s (.zx 0 aT5),0,[]),(.s (.load aS0),0,[]),(iSm 6,0,[]),(.s (.zx 0 aT2),0,[]),(.s (.load aS0),0,[]),(iSm 7,0,[]),(.s (.zk 1 aS1 aS0),0,[]),(.s (.load aS0),0,[]),(.s (.zk 1 aS6 aS5),0,[]),(.w .none none (.store 1 aS0 aS1),0,[])]))
def uy.g5 (X6:IR):IR:=(.block 1 X6)
def uy.b5:IR:=uy.g5 uy.b6
def uy.b7:IR:=(.reg [.s (.bin .add .int rC aC1),iQm 10 0])
def uy.g4 (X5 X7:IR):IR:=(.seq X5 X7)
def uy.b4:IR:=uy.g4 uy.b5 uy.b7
def uy.g3 (X4:IR):IR:=(iSr [iQo 11 (.bin .lss .int rC aT9)] (.seq (.cond su .skip (.exit 0)) X4))
def uy.b3:IR:=uy.g3 uy.b4
def uy.g2 (X3:IR):IR:=(.loop X3)
def uy.b2:IR:=uy.g2 uy.b3
def uy.g1 (X2:IR):IR:=(.block 0 X2)
def uy.b1:IR:=uy.g1 uy.b2
def uy.b8:IR:=(iSr [.s (.zi 2 aT5),.w .none none (.store 2 aT4 aS0)] .ret)
def uy.g0 (X1 X8:IR):IR:=(iSr [iWl 2 (.box aT0),iWl 3 (.box aT1),iWl 4 (.alloc [.zh,(.bool false)])] (.seq (.yj [(.alloc [.zh,(.bool false)])] [(.s (.zx 0 aT3),2,[]),(.s (.load aS0),2,[]),(.s (.len aS0),2,[(.xg 1 8 [(I 0)] aS0 aS0)]),(.s (.zx 1 aT2),2,[]),(.s (.load aS0),2,[]),(.s (.zx 1 aT3),2,[]),(.s (.load aS0),2,[]),(.s (.bin .neq .bool aS2 aS0),2,[]),(.w .push none (.xg 1 8 [(I 0)] aS5 aS5),0,[]),(.s (.build [.zh,(.bool false)] [(0,1,aS0),(1,1,aS1)]),1,[]),(iWl 5 (.alloc [.zh,(.bool false)]),0,[]),(.w .none none (.store 2 aT5 aS0),0,[])]) (.seq (iSr [.s (.zx 0 aT3),iQo 8 (.load aS0),iQo 9 (.len aT8),iQo 10 (.mv aC0)] X1) X8)))
def uy.b0:IR:=uy.g0 uy.b1 uy.b8
def uy.res:List RV:=[.cell (.of 4) (some 2)]
def uy:Fn:={ params:=[(.of 0),(.of 1)],res:=uy.res,body:=uy.b0,init:=in12 }
theorem uy.ok:fnA Tryz.prog Tryz.f250 [0,1,2,3,4,5,6,7,19,20,21,22]=some uy:=by kernel_rfl
abbrev eY.fr:=fr2
def eY.b0:IR:=(iSr [iQo 1 (.mv (.c (.bool false)))] (iSr [iSm 0,iSm 0,.s (.bin .neq .int aS1 aS0),iQm 1 0] .ret))
def eY.res:List RV:=[.t (.of 1)]
def eY:Fn:={ params:=[(.of 0)],res:=eY.res,body:=eY.b0,init:=in2 }
theorem eY.ok:fnA Tryz.prog Tryz.f261 [0,2]=some eY:=by kernel_rfl
abbrev yw.fr:=fr14
def yw.b12:IR:=(iSr [.s (.zk 1 rC aA),.s (.load aS0),iQm 5 0] (.reg [iSm 3,iSm 5,.s (.zk 1 aS1 aS0),.s (.load aS0),.s (.bin .add .int aS0 aC1),.s (.zk 1 aS4 aS3),.w .none none (.store 1 aS0 aS1)]))
def yw.g11 (X12:IR):IR:=(.block 3 X12)
def yw.b11:IR:=yw.g11 yw.b12
def yw.b13:IR:=(.reg [.s (.bin .add .int aA aC1),iQm 12 0])
def yw.g10 (X11 X13:IR):IR:=(.seq X11 X13)
def yw.b10:IR:=yw.g10 yw.b11 yw.b13
def yw.g9 (X10:IR):IR:=(iSr [iQo 13 (.bin .lss .int aA su)] (.seq (.cond tu .skip (.exit 2)) X10))
def yw.b9:IR:=yw.g9 yw.b10
def yw.g8 (X9:IR):IR:=(.loop X9)
def yw.b8:IR:=yw.g8 yw.b9
def yw.g7 (X8:IR):IR:=(.block 2 X8)
def yw.b7:IR:=yw.g7 yw.b8
def yw.g6 (X7:IR):IR:=(iSr [.s (.zk 1 aT6 aT8),.s (.load aS0),iQm 4 0] (iSr [iQo 10 (.mv aT4),iQo 11 (.len rC),iQo 12 (.mv aC0)] X7))
def yw.b6:IR:=yw.g6 yw.b7
def yw.g5 (X6:IR):IR:=(.block 1 X6)
def yw.b5:IR:=yw.g5 yw.b6
def yw.b14:IR:=(.reg [.s (.bin .add .int aT8 aC1),iQm 8 0])
def yw.g4 (X5 X14:IR):IR:=(.seq X5 X14)
def yw.b4:IR:=yw.g4 yw.b5 yw.b14
def yw.g3 (X4:IR):IR:=(iSr [iQo 9 (.bin .lss .int aT8 aT7)] (.seq (.cond aT9 .skip (.exit 0)) X4))
def yw.b3:IR:=yw.g3 yw.b4
def yw.g2 (X3:IR):IR:=(.loop X3)
def yw.b2:IR:=yw.g2 yw.b3
def yw.g1 (X2:IR):IR:=(.block 0 X2)
def yw.b1:IR:=yw.g1 yw.b2
def yw.b15:IR:=(iSr [iSm 3,iQm 2 0] .ret)
def yw.g0 (X1 X15:IR):IR:=(iSr [iWl 1 (.box aT0),iQo 2 (.mv (.c .zh))] (iSr [.s (.zx 0 aT1),.s (.load aS0),.w .push none (.xg 1 8 [(I 0)] aS0 aS0),iQm 3 0] (.seq (iSr [.s (.zx 1 aT1),iQo 6 (.load aS0),iQo 7 (.len aT6),iQo 8 (.mv aC0)] X1) X15)))
def yw.b0:IR:=yw.g0 yw.b1 yw.b15
def yw.res:List RV:=[.t (.of 2)]
def yw:Fn:={ params:=[(.of 0)],res:=yw.res,body:=yw.b0,init:=in14 }
theorem yw.ok:fnA Tryz.prog Tryz.f262 [0,1,2,3,5,7,12,13,14,15,18,19,20,21]=some yw:=by kernel_rfl
abbrev fF.fr:=fr11
def fF.b3:IR:=(iSr [iSm 5,.s (.bin .add .int aC1 aS0),.s (.aslice 1 24 aT3 (some aC1) (some aS0) none),.s (.b2s aS0),iQm 2 0] .ret)
def fF.g2 (X3:IR):IR:=(iSr [iSm 4,iCa 283 [aS0],iQm 5 0] (iSr [iSm 5,.s (.bin .add .int aC1 aS0),.s (.aslice 1 24 aT3 (some aC1) (some aS0) none),iSm 4,iCa 284 [aS1,aS0]] (.seq (iSr [iSm 0,iQo 10 (.bin .lss .int aS0 aC0)] (.cond rC (iSr [.s (.jg 1 24 aT3 aC0),.w .none none (.store 1 aS0 (.c (.int .u8 45)))] (iSr [iSm 5,.s (.bin .add .int aC1 aS0),.s (.aslice 1 24 aT3 none (some aS0) none),.s (.b2s aS0),iQm 2 0] .ret)) .skip)) X3)))
def fF.b2:IR:=fF.g2 fF.b3
def fF.g1 (X2:IR):IR:=(iSr [iWl 3 (.alloc [(.int .u8 0),(.int .u8 0),(.int .u8 0),(.int .u8 0),(.int .u8 0),(.int .u8 0),(.int .u8 0),(.int .u8 0),(.int .u8 0),(.int .u8 0),(.int .u8 0),(.int .u8 0),(.int .u8 0),(.int .u8 0),(.int .u8 0),(.int .u8 0),(.int .u8 0),(.int .u8 0),(.int .u8 0),(.int .u8 0),(.int .u8 0),(.int .u8 0),(.int .u8 0),(.int .u8 0)])] (iSr [iSm 0,.s (.conv .u64 aS0),iQm 4 0] (.seq (iSr [iSm 0,iQo 9 (.bin .lss .int aS0 aC0)] (.cond aT9 (.reg [iSm 4,.s (.neg aS0),iQm 4 0]) .skip)) X2)))
def fF.b1:IR:=fF.g1 fF.b2
def fF.b4:IR:=(iSr [iSm 0,.s (.conv .u64 aS0),iSm 1,iSm 0,.s (.bin .lss .int aS0 aC0),iCa 285 [(.c .zh),aS3,aS2,aS0,(.c (.bool false))],.s (.mv aS0),.s (.ext 0 aS0),.s (.ext 1 aS1),.s (.mv aS1),iQm 6 1] (iSr [iSm 6,iQm 2 0] .ret))
def fF.g0 (X1 X4:IR):IR:=(iSr [iQo 2 (.mv (.c (.str [])))] (.seq (iSr [iSm 1,iQo 7 (.bin .eql .int aS0 aC10)] (.cond aT7 (.seq (iSr [iSm 0,.s (.bin .leq .int aC0 aS0),.s (.mv aS0),iPt 0 (.mv aT0),iPt 1 (.bin .lss .int aS0 zy5),iQo 8 (.pick aS2 aS0 (.c (.bool false)))] (.cond aT8 (iSr [iSm 0,iCa 282 [aS0],iQm 2 0] .ret) .skip)) X1) .skip)) X4))
def fF.b0:IR:=fF.g0 fF.b1 fF.b4
def fF.res:List RV:=[.t (.of 2)]
def fF:Fn:={ params:=[(.of 0),(.of 1)],res:=fF.res,body:=fF.b0,init:=in11 }
theorem fF.ok:fnA Tryz.prog Tryz.f263 [0,1,4,5,6,7,9,11,17,23,34]=some fF:=by kernel_rfl
end
end Go.Ev
