import Derived.Test.YtdclaaahnodljaaGreatDoorIrA
import Derived.Test.YtdclaaahnodljaaGreatDoorEvC
import Derived.Test.YtdclaaahnodljaaGreatDoorProg
import Derived.KernelRfl
set_option linter.unusedSimpArgs false
set_option linter.unusedVariables false
namespace Go.Ev
open Go Go.Proofs
set_option maxRecDepth 100000
noncomputable section

abbrev jl.fr:=fr18
def jl.b8:IR:=(iSr [iSm 6,iSm 9,.w .push none (.yg 1 1 [(.str [])] [(0,1,aS0)]),.w .push none (.app 1 16 aS2 aS0),iQm 6 0] (.reg [iSm 7,iQm 4 0]))
def jl.g7 (X8:IR):IR:=(.seq (iSr [iSm 7,.s (.len aS0),iQo 15 (.bin .gtr .int aS0 aC0)] (.cond oO (.reg [iSm 9,.s (.slen aS0),.s (.bin .sub .int aC18 aS0),.w .push none (.call (.c (.fn 212 (.of 212) [])) [(.c (.str [48])),aS0]),iSm 9,.s (.bin .add .str aS1 aS0),iQm 9 0]) .skip)) X8)
def jl.b7:IR:=jl.g7 jl.b8
def jl.g6 (X7:IR):IR:=(iSr [iSm 4,iSm 5,iCa 207 [aS1,aS0],.s (.mv aS0),.s (.ext 0 aS0),.s (.ext 1 aS1),iQm 7 1,iQm 8 0] (iSr [iQo 9 (.mv (.c (.str [48])))] (.seq (iSr [iSm 8,.s (.len aS0),iQo 14 (.bin .gtr .int aS0 aC0)] (.cond tJ (.reg [iSm 8,.s (.zo 1 aS0 aC0),.s (.load aS0),iCa 211 [aS0,aC10],iQm 9 0]) .skip)) X7)))
def jl.b6:IR:=jl.g6 jl.b7
def jl.g5 (X6:IR):IR:=(.block 1 X6)
def jl.b5:IR:=jl.g5 jl.b6
def jl.g4 (X5:IR):IR:=(.seq (iSr [iSm 4,.s (.len aS0),iQo 13 (.bin .gtr .int aS0 aC0)] (.cond rD .skip (.exit 0))) X5)
def jl.b4:IR:=jl.g4 jl.b5
def jl.g3 (X4:IR):IR:=(.loop X4)
def jl.b3:IR:=jl.g3 jl.b4
def jl.g2 (X3:IR):IR:=(.block 0 X3)
def jl.b2:IR:=jl.g2 jl.b3
def jl.b16:IR:=(.reg [iSm 6,iSm 11,.s (.zo 1 aS1 aS0),.s (.load aS0),iCa 213 [bP,aS0]])
def jl.g15 (X16:IR):IR:=(.block 3 X16)
def jl.b15:IR:=jl.g15 jl.b16
def jl.b17:IR:=(.reg [iSm 11,.s (.bin .sub .int aS0 aC1),iQm 11 0])
def jl.g14 (X15 X17:IR):IR:=(.seq X15 X17)
def jl.b14:IR:=jl.g14 jl.b15 jl.b17
def jl.g13 (X14:IR):IR:=(.seq (iSr [iSm 11,iQo 17 (.bin .geq .int aS0 aC0)] (.cond aC .skip (.exit 2))) X14)
def jl.b13:IR:=jl.g13 jl.b14
def jl.g12 (X13:IR):IR:=(.loop X13)
def jl.b12:IR:=jl.g12 jl.b13
def jl.g11 (X12:IR):IR:=(.block 2 X12)
def jl.b11:IR:=jl.g11 jl.b12
def jl.b18:IR:=(iSr [iCa 214 [bP],iQm 2 0] .ret)
def jl.g10 (X11 X18:IR):IR:=(.seq (iSr [iSm 6,.s (.len aS0),.s (.bin .sub .int aS0 aC1),iQm 11 0] X11) X18)
def jl.b10:IR:=jl.g10 jl.b11 jl.b18
def jl.g9 (X10:IR):IR:=(iSr [iWl 10 (.alloc [.fZ,.zf])] (.seq (iSr [iQo 16 (.mv aT3)] (.cond aW (.reg [.w .push none (.call (.c (.fn 213 (.of 213) [])) [bP,(.c (.str [45]))])]) .skip)) X10))
def jl.b9:IR:=jl.g9 jl.b10
def jl.g1 (X2 X9:IR):IR:=(iSr [.s (.zi 2 aT1),iCa 145 [aS0],.s (.mv aS0),.s (.ext 0 aS0),.s (.ext 1 aS1),iQm 3 1,iQm 4 0] (iSr [.w .push none (.yg 1 1 [(.int .u64 0)] [(0,1,(.c (.int .u64 1000000000000000000)))]),iQm 5 0] (iSr [iQo 6 (.mv (.c .zf))] (.seq X2 X9))))
def jl.b1:IR:=jl.g1 jl.b2 jl.b9
def jl.g0 (X1:IR):IR:=(iSr [iWl 1 (.box aT0),iQo 2 (.mv (.c (.str [])))] (.seq (iSr [.s (.zn 1 aT1),.s (.load aS0),iQo 12 (.bin .eql (.nil .sl) aS0 (.c .zf))] (.cond eX (iSr [.s (.zn 0 aT1),.s (.load aS0),iCa 170 [aS0],iQm 2 0] .ret) .skip)) X1))
def jl.b0:IR:=jl.g0 jl.b1
def jl.res:List RV:=[.t (.of 2)]
def jl:Fn:={ params:=[(.of 0)],res:=jl.res,body:=jl.b0,init:=in18 }
theorem jl.ok:fnA Tryz.prog Tryz.f157 [0,1,2,3,4,5,6,7,8,9,10,11,14,26,35,42,54,60]=some jl:=by kernel_rfl
abbrev bW.fr:=fr5
def bW.b5:IR:=(iSr [iSm 0,.s (.bin .rem .int aS0 aC10),iSm 0,.s (.bin .rem .int aS0 aC10),.s (.bin .add .int aS0 aC1),.s (.oD (.c (.str [48,49,50,51,52,53,54,55,56,57])) (some aS3) (some aS0)),iSm 3,.s (.bin .add .str aS1 aS0),iQm 3 0] (.reg [iSm 0,.s (.bin .quo .int aS0 aC10),iQm 0 0]))
def bW.g4 (X5:IR):IR:=(.block 1 X5)
def bW.b4:IR:=bW.g4 bW.b5
def bW.g3 (X4:IR):IR:=(.seq (iSr [iSm 0,.s (.bin .gtr .int aS0 aC0),.s (.mv aS0),iPf 0 (.mv aT3),iPf 1 (.slen aS0),iPf 2 (.mv aT1),iPf 3 (.bin .lss .int aS1 aS0),iQo 4 (.pick aS4 (.c (.bool true)) aS0)] (.cond aT4 .skip (.exit 0))) X4)
def bW.b3:IR:=bW.g3 bW.b4
def bW.g2 (X3:IR):IR:=(.loop X3)
def bW.b2:IR:=bW.g2 bW.b3
def bW.g1 (X2:IR):IR:=(.block 0 X2)
def bW.b1:IR:=bW.g1 bW.b2
def bW.b6:IR:=(iSr [iSm 3,iQm 2 0] .ret)
def bW.g0 (X1 X6:IR):IR:=(iSr [iQo 2 (.mv (.c (.str [])))] (iSr [iQo 3 (.mv (.c (.str [])))] (.seq X1 X6)))
def bW.b0:IR:=bW.g0 bW.b1 bW.b6
def bW.res:List RV:=[.t (.of 2)]
def bW:Fn:={ params:=[(.of 0),(.of 1)],res:=bW.res,body:=bW.b0,init:=in5 }
theorem bW.ok:fnA Tryz.prog Tryz.f158 [0,1,4,5,13]=some bW:=by kernel_rfl
abbrev F159.fr:=fr3
def F159.b0:IR:=(iSr [iWl 2 (.alloc [(.bool false),.zf])] (iSr [iSm 1,iCa 215 [aS0],iQm 1 0] (iSr [iSm 0,.s (.mv aS0),iPt 0 (.mv aT1),iPt 1 (.len aS0),iPt 2 (.bin .gtr .int aS0 aC0),.s (.pick aS3 aS0 (.c (.bool false))),iSm 1,.s (.build [(.bool false),.zf] [(0,1,aS1),(1,1,aS0)]),.w .none none (.store 2 aT2 aS0)] .ret)))
def F159.res:List RV:=[.cell (.of 2) (some 2)]
def F159:Fn:={ params:=[(.of 0),(.of 1)],res:=F159.res,body:=F159.b0,init:=in3 }
theorem F159.ok:fnA Tryz.prog Tryz.f159 [0,1,4]=some F159:=by kernel_rfl
abbrev aG.fr:=fr2
def aG.b0:IR:=(iSr [iQo 1 (.mv (.c (.bool false)))] (iSr [iSm 0,.w .push none (.call (.c (.fn 66 (.of 66) [])) [aS0,(.c (.fn 216 (.of 216) []))]),iQm 1 0] .ret))
def aG.res:List RV:=[.t (.of 1)]
def aG:Fn:={ params:=[(.of 0)],res:=aG.res,body:=aG.b0,init:=in2 }
theorem aG.ok:fnA Tryz.prog Tryz.f160 [0,2]=some aG:=by kernel_rfl
abbrev jk.fr:=fr14
def jk.b7:IR:=(iSr [iSm 1,iSm 3,.s (.zo 1 aS1 aS0),.s (.load aS0),iQm 5 0] (iSr [iSm 4,iSm 5,iCa 217 [aS1,aS0],iQm 6 0] (iSr [iSm 6,iQo 12 (.bin .neq .int aS0 aC0)] (.cond eX (iSr [iSm 6,iQm 2 0] .ret) .skip))))
def jk.g6 (X7:IR):IR:=(iSr [iSm 9,.s (.zo 1 aT7 aT9),.s (.load aS0),iQm 3 2,iQm 4 0] (.seq (iSr [iSm 3,iSm 1,.s (.len aS0),iQo 11 (.bin .geq .int aS2 aS0)] (.cond rV (iSr [iQo 2 (.mv aC1)] .ret) .skip)) X7))
def jk.b6:IR:=jk.g6 jk.b7
def jk.g5 (X6:IR):IR:=(.block 1 X6)
def jk.b5:IR:=jk.g5 jk.b6
def jk.b8:IR:=(.reg [.s (.bin .add .int aT9 aC1),iQm 9 0])
def jk.g4 (X5 X8:IR):IR:=(.seq X5 X8)
def jk.b4:IR:=jk.g4 jk.b5 jk.b8
def jk.g3 (X4:IR):IR:=(iSr [iQo 10 (.bin .lss .int aT9 aT8)] (.seq (.cond bP .skip (.exit 0)) X4))
def jk.b3:IR:=jk.g3 jk.b4
def jk.g2 (X3:IR):IR:=(.loop X3)
def jk.b2:IR:=jk.g2 jk.b3
def jk.g1 (X2:IR):IR:=(.block 0 X2)
def jk.b1:IR:=jk.g1 jk.b2
def jk.b10:IR:=(iSr [iQo 2 (.mv aC0)] .ret)
def jk.g9 (X10:IR):IR:=(.seq (iSr [iSm 0,.s (.len aS0),iSm 1,.s (.len aS0),iQo 13 (.bin .lss .int aS2 aS0)] (.cond rD (iSr [iQo 2 (.mv (.c (I (-1))))] .ret) .skip)) X10)
def jk.b9:IR:=jk.g9 jk.b10
def jk.g0 (X1 X9:IR):IR:=(iSr [iQo 2 (.mv aC0)] (.seq (iSr [iQo 7 (.mv aT0),iQo 8 (.len aT7),iQo 9 (.mv aC0)] X1) X9))
def jk.b0:IR:=jk.g0 jk.b1 jk.b9
def jk.res:List RV:=[.t (.of 2)]
def jk:Fn:={ params:=[(.of 0),(.of 1)],res:=jk.res,body:=jk.b0,init:=in14 }
theorem jk.ok:fnA Tryz.prog Tryz.f161 [0,1,4,5,6,7,8,9,10,11,12,19,28,35]=some jk:=by kernel_rfl
abbrev aK.fr:=fr5
def aK.b0:IR:=(iSr [iQo 3 (.mv aC0),iQo 4 (.mv (.c (.bool false)))] (iSr [iSm 0,iSm 1,iSm 2,iCa 218 [aS2,aS1,aS0],.s (.ext 0 aS0),.s (.ext 1 aS1),iQm 3 1,iQm 4 0] .ret))
def aK.res:List RV:=[.t (.of 3),.t (.of 4)]
def aK:Fn:={ params:=[(.of 0),(.of 1),(.of 2)],res:=aK.res,body:=aK.b0,init:=in5 }
theorem aK.ok:fnA Tryz.prog Tryz.f162 [0,1,2,6,7]=some aK:=by kernel_rfl
abbrev jo.fr:=fr12
def jo.b7:IR:=(.reg [iSm 4,.s (.zn 0 aT2),.s (.load aS0),iSm 5,.s (.zo 1 aS1 aS0),.s (.load aS0),iSm 6,.s (.zo 1 aS6 aS1),.w .none none (.store 1 aS0 aS1)])
def jo.g6 (X7:IR):IR:=(iSr [iSm 9,.s (.zo 1 aT7 aT9),.s (.load aS0),iQm 5 2,iQm 6 0] (.seq (iSr [.s (.zn 1 aT2),iQo 11 (.load aS0)] (.cond rV (.reg [iSm 1,.s (.len aS0),.s (.bin .add .int aS0 aC1),iSm 6,.s (.bin .sub .int aS1 aS0),iQm 6 0]) .skip)) X7))
def jo.b6:IR:=jo.g6 jo.b7
def jo.g5 (X6:IR):IR:=(.block 1 X6)
def jo.b5:IR:=jo.g5 jo.b6
def jo.b8:IR:=(.reg [.s (.bin .add .int aT9 aC1),iQm 9 0])
def jo.g4 (X5 X8:IR):IR:=(.seq X5 X8)
def jo.b4:IR:=jo.g4 jo.b5 jo.b8
def jo.g3 (X4:IR):IR:=(iSr [iQo 10 (.bin .lss .int aT9 aT8)] (.seq (.cond bP .skip (.exit 0)) X4))
def jo.b3:IR:=jo.g3 jo.b4
def jo.g2 (X3:IR):IR:=(.loop X3)
def jo.b2:IR:=jo.g2 jo.b3
def jo.g1 (X2:IR):IR:=(.block 0 X2)
def jo.b1:IR:=jo.g1 jo.b2
def jo.b9:IR:=(iSr [iSm 4,iQm 3 0] .ret)
def jo.g0 (X1 X9:IR):IR:=(iSr [iWl 2 (.box aT0),iQo 3 (.mv (.c .zf))] (iSr [iSm 1,.s (.len aS0),.w .push none (.ql 1 8 [(I 0)] aS0 aS0),iQm 4 0] (.seq (iSr [iQo 7 (.mv aT1),iQo 8 (.len aT7),iQo 9 (.mv aC0)] X1) X9)))
def jo.b0:IR:=jo.g0 jo.b1 jo.b9
def jo.res:List RV:=[.t (.of 3)]
def jo:Fn:={ params:=[(.of 0),(.of 1)],res:=jo.res,body:=jo.b0,init:=in12 }
theorem jo.ok:fnA Tryz.prog Tryz.f163 [0,1,2,4,5,6,7,11,12,13,14,19]=some jo:=by kernel_rfl
abbrev bG.fr:=fr10
def bG.b6:IR:=(iSr [.s (.zo 1 aT6 aT8),.s (.load aS0),iQm 5 0] (.reg [iSm 4,iSm 5,iSm 1,iCa 219 [aS1,aS0],.w .push none (.yg 1 1 [(I 0)] [(0,1,aS0)]),.w .push none (.app 1 8 aS4 aS0),iQm 4 0]))
def bG.g5 (X6:IR):IR:=(.block 1 X6)
def bG.b5:IR:=bG.g5 bG.b6
def bG.b7:IR:=(.reg [.s (.bin .add .int aT8 aC1),iQm 8 0])
def bG.g4 (X5 X7:IR):IR:=(.seq X5 X7)
def bG.b4:IR:=bG.g4 bG.b5 bG.b7
def bG.g3 (X4:IR):IR:=(iSr [iQo 9 (.bin .lss .int aT8 aT7)] (.seq (.cond aT9 .skip (.exit 0)) X4))
def bG.b3:IR:=bG.g3 bG.b4
def bG.g2 (X3:IR):IR:=(.loop X3)
def bG.b2:IR:=bG.g2 bG.b3
def bG.g1 (X2:IR):IR:=(.block 0 X2)
def bG.b1:IR:=bG.g1 bG.b2
def bG.b8:IR:=(iSr [iSm 4,iQm 3 0] .ret)
def bG.g0 (X1 X8:IR):IR:=(iSr [iWl 2 (.box aT0),iQo 3 (.mv (.c .zf))] (iSr [iQo 4 (.mv (.c .zf))] (.seq (iSr [.s (.zn 1 aT2),iQo 6 (.load aS0),iQo 7 (.len aT6),iQo 8 (.mv aC0)] X1) X8)))
def bG.b0:IR:=bG.g0 bG.b1 bG.b8
def bG.res:List RV:=[.t (.of 3)]
def bG:Fn:={ params:=[(.of 0),(.of 1)],res:=bG.res,body:=bG.b0,init:=in10 }
theorem bG.ok:fnA Tryz.prog Tryz.f164 [0,1,2,4,5,7,9,10,11,12]=some bG:=by kernel_rfl
abbrev F165.fr:=fr3
def F165.b0:IR:=(iSr [iQo 2 (.mv (.c (.bool false)))] (iSr [iSm 0,.s (.load aT1),.s (.zo 1 aS0 aC0),.s (.load aS0),.s (.bin .neq .int aS3 aS0),iQm 2 0] .ret))
def F165.res:List RV:=[.t (.of 2)]
def F165:Fn:={ params:=[(.of 0),(.of 1)],res:=F165.res,body:=F165.b0,init:=in3 }
theorem F165.ok:fnA Tryz.prog Tryz.f165 [0,1,3]=some F165:=by kernel_rfl
abbrev F170.fr:=fr2
def F170.b0:IR:=(iSr [iQo 1 (.mv (.c (.str [])))] (iSr [iSm 0,iCa 222 [aS0],iQm 1 0] .ret))
def F170.res:List RV:=[.t (.of 1)]
def F170:Fn:={ params:=[(.of 0)],res:=F170.res,body:=F170.b0,init:=in2 }
theorem F170.ok:fnA Tryz.prog Tryz.f170 [0,2]=some F170:=by kernel_rfl
abbrev og.fr:=fr2
def og.b1:IR:=(iSr [iSm 0,iCa 236 [aS0],iQm 1 0] .ret)
def og.g0 (X1:IR):IR:=(iSr [iQo 1 (.mv aC0)] (.seq (.cond (.c (.bool false)) (iSr [iSm 0,.s (.conv .u32 aS0),iCa 235 [aS0],iQm 1 0] .ret) .skip) X1))
def og.b0:IR:=og.g0 og.b1
def og.res:List RV:=[.t (.of 1)]
def og:Fn:={ params:=[(.of 0)],res:=og.res,body:=og.b0,init:=in2 }
theorem og.ok:fnA Tryz.prog Tryz.f178 [0,2]=some og:=by kernel_rfl
abbrev jc.fr:=fr10
def jc.b8:IR:=(.reg [iSm 2,iSm 3,.s (.zo 1 aS1 aS0),.w .none none (.store 1 aS0 (.c (.bool true)))])
def jc.g7 (X8:IR):IR:=(iSr [.s (.zo 1 aT5 aT7),.s (.load aS0),iQm 3 0] (.seq (iSr [iSm 3,.s (.bin .lss .int aS0 aC0),.s (.mv aS0),iPf 0 (.mv aT3),iPf 1 (.mv aT0),iPf 2 (.len aS0),iPf 3 (.bin .geq .int aS2 aS0),.s (.pick aS4 (.c (.bool true)) aS0),.s (.mv aS0),iPf 0 (.mv aT2),iPf 1 (.mv aT3),iPf 2 (.zo 1 aS1 aS0),iPf 3 (.load aS0),iQo 9 (.pick aS4 (.c (.bool true)) aS0)] (.cond aT9 (iSr [iQo 1 (.mv aC14)] .ret) .skip)) X8))
def jc.b7:IR:=jc.g7 jc.b8
def jc.g6 (X7:IR):IR:=(.block 1 X7)
def jc.b6:IR:=jc.g6 jc.b7
def jc.b9:IR:=(.reg [.s (.bin .add .int aT7 aC1),iQm 7 0])
def jc.g5 (X6 X9:IR):IR:=(.seq X6 X9)
def jc.b5:IR:=jc.g5 jc.b6 jc.b9
def jc.g4 (X5:IR):IR:=(iSr [iQo 8 (.bin .lss .int aT7 aT6)] (.seq (.cond aT8 .skip (.exit 0)) X5))
def jc.b4:IR:=jc.g4 jc.b5
def jc.g3 (X4:IR):IR:=(.loop X4)
def jc.b3:IR:=jc.g3 jc.b4
def jc.g2 (X3:IR):IR:=(.block 0 X3)
def jc.b2:IR:=jc.g2 jc.b3
def jc.b10:IR:=(iSr [iQo 1 (.mv aC0)] .ret)
def jc.g1 (X2 X10:IR):IR:=(iSr [iSm 0,.s (.len aS0),.w .push none (.ql 1 1 [(.bool false)] aS0 aS0),iQm 2 0] (.seq (iSr [iQo 5 (.mv aT0),iQo 6 (.len aT5),iQo 7 (.mv aC0)] X2) X10))
def jc.b1:IR:=jc.g1 jc.b2 jc.b10
def jc.g0 (X1:IR):IR:=(iSr [iQo 1 (.mv aC0)] (.seq (iSr [iSm 0,.s (.len aS0),iQo 4 (.bin .gtr .int aS0 zcf)] (.cond aT4 (iSr [iQo 1 (.mv aC5)] .ret) .skip)) X1))
def jc.b0:IR:=jc.g0 jc.b1
def jc.res:List RV:=[.t (.of 1)]
def jc:Fn:={ params:=[(.of 0)],res:=jc.res,body:=jc.b0,init:=in10 }
theorem jc.ok:fnA Tryz.prog Tryz.f187 [0,2,3,5,8,12,13,14,15,31]=some jc:=by kernel_rfl
abbrev F188.fr:=fr3
def F188.b0:IR:=(iSr [iSm 0,.s (.len aS0),iQm 2 0] (.reg [iSm 0,iSm 2,iSm 2,.s (.conv .u64 aS0),iCa 178 [aS0],iSm 1,iCa 237 [aS5,aC0,aS4,aS1,aS0]]))
def F188.res:List RV:=[]
def F188:Fn:={ params:=[(.of 0),(.of 1)],res:=F188.res,body:=F188.b0,init:=in3 }
theorem F188.ok:fnA Tryz.prog Tryz.f188 [0,1,4]=some F188:=by kernel_rfl
abbrev jr.fr:=fr11
def jr.b13:IR:=(.seq (.yh [] [(iSm 1,0,[]),(iSm 4,0,[]),(iSm 5,0,[]),(.s (.zo 1 aS1 aS0),0,[]),(.s (.load aS0),0,[]),(iSm 4,0,[]),(iSm 5,0,[]),(.s (.bin .sub .int aS0 aC1),0,[]),(.s (.zo 1 aS2 aS0),0,[]),(.s (.load aS0),0,[]),(.w .push none (.call aS9 [aS5,aS0]),0,[]),(iQo 10 (.not aS0),0,[])]) (.cond bP (iSr [iSm 0,iSm 3,iSm 4,iSm 5,.s (.zo 1 aS1 aS0),.s (.load aS0),.s (.zo 1 aS5 aS4),.w .none none (.store 1 aS0 aS1)] (.reg [iSm 3,.s (.bin .add .int aS0 aC1),iQm 3 0])) .skip))
def jr.g12 (X13:IR):IR:=(.block 3 X13)
def jr.b12:IR:=jr.g12 jr.b13
def jr.b14:IR:=(.reg [iSm 5,.s (.bin .add .int aS0 aC1),iQm 5 0])
def jr.g11 (X12 X14:IR):IR:=(.seq X12 X14)
def jr.b11:IR:=jr.g11 jr.b12 jr.b14
def jr.g10 (X11:IR):IR:=(.seq (iSr [iSm 5,iSm 4,.s (.len aS0),iQo 9 (.bin .lss .int aS2 aS0)] (.cond aT9 .skip (.exit 2))) X11)
def jr.b10:IR:=jr.g10 jr.b11
def jr.g9 (X10:IR):IR:=(.loop X10)
def jr.b9:IR:=jr.g9 jr.b10
def jr.g8 (X9:IR):IR:=(.block 2 X9)
def jr.b8:IR:=jr.g8 jr.b9
def jr.b15:IR:=(iSr [iSm 0,iSm 3,.s (.slice 1 aS1 (some aS0) none none),.w .none none (.clr 1 [.zf] aS0)] (iSr [iSm 0,iSm 3,.s (.slice 1 aS1 none (some aS0) none),iQm 2 0] .ret))
def jr.g7 (X8 X15:IR):IR:=(.seq (.yh [] [(iSm 1,0,[]),(iSm 0,0,[]),(iSm 3,0,[]),(.s (.zo 1 aS1 aS0),0,[]),(.s (.load aS0),0,[]),(iSm 0,0,[]),(iSm 3,0,[]),(.s (.bin .sub .int aS0 aC1),0,[]),(.s (.zo 1 aS2 aS0),0,[]),(.s (.load aS0),0,[]),(iWl 8 (.call aS9 [aS5,aS0]),0,[])]) (.cond aT8 (iSr [iSm 0,iSm 3,.s (.slice 1 aS1 (some aS0) none none),iQm 4 0] (.seq (iSr [iQo 5 (.mv aC1)] X8) X15)) .skip))
def jr.b7:IR:=jr.g7 jr.b8 jr.b15
def jr.g6 (X7:IR):IR:=(.block 1 X7)
def jr.b6:IR:=jr.g6 jr.b7
def jr.b16:IR:=(.reg [iSm 3,.s (.bin .add .int aS0 aC1),iQm 3 0])
def jr.g5 (X6 X16:IR):IR:=(.seq X6 X16)
def jr.b5:IR:=jr.g5 jr.b6 jr.b16
def jr.g4 (X5:IR):IR:=(.seq (iSr [iSm 3,iSm 0,.s (.len aS0),iQo 7 (.bin .lss .int aS2 aS0)] (.cond aT7 .skip (.exit 0))) X5)
def jr.b4:IR:=jr.g4 jr.b5
def jr.g3 (X4:IR):IR:=(.loop X4)
def jr.b3:IR:=jr.g3 jr.b4
def jr.g2 (X3:IR):IR:=(.block 0 X3)
def jr.b2:IR:=jr.g2 jr.b3
def jr.b17:IR:=(iSr [iSm 0,iQm 2 0] .ret)
def jr.g1 (X2 X17:IR):IR:=(.seq (iSr [iQo 3 (.mv aC1)] X2) X17)
def jr.b1:IR:=jr.g1 jr.b2 jr.b17
def jr.g0 (X1:IR):IR:=(iSr [iQo 2 (.mv (.c .zf))] (.seq (iSr [iSm 0,.s (.len aS0),iQo 6 (.bin .lss .int aS0 aC2)] (.cond aT6 (iSr [iSm 0,iQm 2 0] .ret) .skip)) X1))
def jr.b0:IR:=jr.g0 jr.b1
def jr.res:List RV:=[.t (.of 2)]
def jr:Fn:={ params:=[(.of 0),(.of 1)],res:=jr.res,body:=jr.b0,init:=in11 }
theorem jr.ok:fnA Tryz.prog Tryz.f189 [0,1,4,5,6,7,10,15,28,35,49]=some jr:=by kernel_rfl
abbrev dh.fr:=fr9
def dh.b7:IR:=(iSr [iSm 6,iQm 3 0] (.seq (.yh [] [(iSm 0,0,[]),(iSm 3,0,[]),(.s (.zo 1 aS1 aS0),0,[]),(.s (.load aS0),0,[]),(iSm 1,0,[]),(iSm 3,0,[]),(.s (.zo 1 aS1 aS0),0,[]),(.s (.load aS0),0,[]),(iQo 8 (.bin .neq .int aS4 aS0),0,[])]) (.cond aT8 (iSr [iQo 2 (.mv (.c (.bool false)))] .ret) .skip)))
def dh.g6 (X7:IR):IR:=(.block 1 X7)
def dh.b6:IR:=dh.g6 dh.b7
def dh.b8:IR:=(.reg [.s (.bin .add .int aT6 aC1),iQm 6 0])
def dh.g5 (X6 X8:IR):IR:=(.seq X6 X8)
def dh.b5:IR:=dh.g5 dh.b6 dh.b8
def dh.g4 (X5:IR):IR:=(iSr [iQo 7 (.bin .lss .int aT6 aT5)] (.seq (.cond aT7 .skip (.exit 0)) X5))
def dh.b4:IR:=dh.g4 dh.b5
def dh.g3 (X4:IR):IR:=(.loop X4)
def dh.b3:IR:=dh.g3 dh.b4
def dh.g2 (X3:IR):IR:=(.block 0 X3)
def dh.b2:IR:=dh.g2 dh.b3
def dh.b9:IR:=(iSr [iQo 2 (.mv (.c (.bool true)))] .ret)
def dh.g1 (X2 X9:IR):IR:=(.seq (iSr [iSm 0,iQo 5 (.len aS0),iQo 6 (.mv aC0)] X2) X9)
def dh.b1:IR:=dh.g1 dh.b2 dh.b9
def dh.g0 (X1:IR):IR:=(iSr [iQo 2 (.mv (.c (.bool false)))] (.seq (iSr [iSm 0,.s (.len aS0),iSm 1,.s (.len aS0),iQo 4 (.bin .neq .int aS2 aS0)] (.cond aT4 (iSr [iQo 2 (.mv (.c (.bool false)))] .ret) .skip)) X1))
def dh.b0:IR:=dh.g0 dh.b1
def dh.res:List RV:=[.t (.of 2)]
def dh:Fn:={ params:=[(.of 0),(.of 1)],res:=dh.res,body:=dh.b0,init:=in9 }
theorem dh.ok:fnA Tryz.prog Tryz.f190 [0,1,4,5,10,12,13,14,24]=some dh:=by kernel_rfl
abbrev F196.fr:=fr3
def F196.b0:IR:=(iSr [iQo 2 (.mv (.c (.bool false)))] (iSr [iSm 0,iSm 1,iCa 238 [aS1,aS0],.s (.bin .geq .int aS0 aC0),iQm 2 0] .ret))
def F196.res:List RV:=[.t (.of 2)]
def F196:Fn:={ params:=[(.of 0),(.of 1)],res:=F196.res,body:=F196.b0,init:=in3 }
theorem F196.ok:fnA Tryz.prog Tryz.f196 [0,1,4]=some F196:=by kernel_rfl
abbrev F197.fr:=fr3
def F197.b0:IR:=(iSr [iQo 2 (.mv (.c (.bool false)))] (iSr [iSm 0,.s (.load aT1),iCa 190 [aS1,aS0],iQm 2 0] .ret))
def F197.res:List RV:=[.t (.of 2)]
def F197:Fn:={ params:=[(.of 0),(.of 1)],res:=F197.res,body:=F197.b0,init:=in3 }
theorem F197.ok:fnA Tryz.prog Tryz.f197 [0,1,3]=some F197:=by kernel_rfl
abbrev wo.fr:=fr23
def wo.b10:IR:=(iSr [iSm 0,iSm 1,iSm 2,iSm 7,iCa 247 [aS3,aS2,aS1,aS0],.s (.mv aS0),.s (.ext 0 aS0),.s (.ext 1 aS1),iQm 10 1,iQm 11 0] (iSr [iSm 11,iQm 5 0] (iSr [iSm 10,iSm 1,.s (.bin .sub .int aS1 aS0),iSm 2,iSm 10,.s (.bin .sub .int aS1 aS0),iQm 12 3,iQm 13 0] (iSr [iSm 6,.s (.bin .quo .int aS0 aC8),iQm 14 0] (iSr [iSm 12,iSm 13,iQo 22 (.bin .lss .int aS1 aS0)] (.cond aT22 (iSr [iSm 12,iSm 14,.s (.bin .geq .int aS1 aS0),iQm 4 0] (iSr [iSm 0,iSm 1,iSm 10,iSm 3,iCa 198 [aS3,aS2,aS1,aS0]] (.reg [iSm 10,.s (.bin .add .int aS0 aC1),iQm 1 0]))) (iSr [iSm 13,iSm 14,.s (.bin .geq .int aS1 aS0),iQm 4 0] (iSr [iSm 0,iSm 10,.s (.bin .add .int aS0 aC1),iSm 2,iSm 3,iCa 198 [aS4,aS2,aS1,aS0]] (.reg [iSm 10,iQm 2 0])))))))))
def wo.g9 (X10:IR):IR:=(.seq (.seq (.yh [] [(iSm 1,0,[]),(.s (.bin .gtr .int aS0 aC0),0,[]),(.s (.mv aS0),0,[]),(iPt 0 (.mv aT0),0,[]),(iPt 1 (.mv aT1),0,[]),(iPt 2 (.bin .sub .int aS0 aC1),0,[]),(iPt 3 (.zo 1 aS2 aS0),0,[]),(iPt 4 (.load aS0),0,[]),(iPt 5 (.mv aT0),0,[]),(iPt 6 (.mv aT7),0,[]),(iPt 7 (.zo 1 aS1 aS0),0,[]),(iPt 8 (.load aS0),0,[]),(.w .push (some (aS9,true)) (.call (.c (.fn 245 (.of 245) [])) [aS4,aS0]),0,[]),(iPt 10 (.not aS0),0,[]),(iQo 21 (.pick aS11 aS0 (.c (.bool false))),0,[])]) (.cond aT21 (iSr [iSm 0,iSm 1,iSm 2,iSm 7,iCa 246 [aS3,aS2,aS1,aS0],iQm 9 0] (iSr [iSm 9,iQm 1 0] (.exit 1))) .skip)) X10)
def wo.b9:IR:=wo.g9 wo.b10
def wo.g8 (X9:IR):IR:=(.seq (iSr [iSm 4,.s (.mv aS0),iPt 0 (.mv aT5),.s (.pick aS1 aS0 (.c (.bool false))),.s (.mv aS0),iPt 0 (.mv aT8),iPt 1 (.bin .eql .int aS0 aC1),iQo 19 (.pick aS2 aS0 (.c (.bool false)))] (.cond tK (iSr [iSm 0,iSm 1,iSm 2,iWl 20 (.call (.c (.fn 244 (.of 244) [])) [aS2,aS1,aS0])] (.cond aT20 .ret .skip)) .skip)) X9)
def wo.b8:IR:=wo.g8 wo.b9
def wo.g7 (X8:IR):IR:=(iSr [iSm 0,iSm 1,iSm 2,iCa 242 [aS2,aS1,aS0],.s (.mv aS0),.s (.ext 0 aS0),.s (.ext 1 aS1),iQm 7 1,iQm 8 0] (.seq (iSr [iSm 8,iQo 18 (.bin .eql .int aS0 aC2)] (.cond aT18 (iSr [iSm 0,iSm 1,iSm 2,iCa 243 [aS2,aS1,aS0]] (iSr [iSm 2,.s (.bin .sub .int aS0 aC1),iSm 7,iSm 1,.s (.bin .sub .int aS1 aS0),.s (.bin .sub .int aS3 aS0),iQm 7 0] (.reg [iQo 8 (.mv aC1)]))) .skip)) X8))
def wo.b7:IR:=wo.g7 wo.b8
def wo.g6 (X7:IR):IR:=(.seq (iSr [iSm 4,iQo 17 (.not aS0)] (.cond aC (iSr [iSm 0,iSm 1,iSm 2,iCa 241 [aS2,aS1,aS0]] (.reg [iSm 3,.s (.bin .sub .int aS0 aC1),iQm 3 0])) .skip)) X7)
def wo.b6:IR:=wo.g6 wo.b7
def wo.g5 (X6:IR):IR:=(.seq (iSr [iSm 3,iQo 16 (.bin .eql .int aS0 aC0)] (.cond aW (iSr [iSm 0,iSm 1,iSm 2,iCa 240 [aS2,aS1,aS0]] .ret) .skip)) X6)
def wo.b5:IR:=wo.g5 wo.b6
def wo.g4 (X5:IR):IR:=(iSr [iSm 2,iSm 1,.s (.bin .sub .int aS1 aS0),iQm 6 0] (.seq (iSr [iSm 6,iQo 15 (.bin .leq .int aS0 aC12)] (.cond oO (iSr [iSm 0,iSm 1,iSm 2,iCa 239 [aS2,aS1,aS0]] .ret) .skip)) X5))
def wo.b4:IR:=wo.g4 wo.b5
def wo.g3 (X4:IR):IR:=(.block 1 X4)
def wo.b3:IR:=wo.g3 wo.b4
def wo.g2 (X3:IR):IR:=(.loop X3)
def wo.b2:IR:=wo.g2 wo.b3
def wo.g1 (X2:IR):IR:=(.block 0 X2)
def wo.b1:IR:=wo.g1 wo.b2
def wo.g0 (X1:IR):IR:=(iSr [iQo 4 (.mv (.c (.bool true)))] (iSr [iQo 5 (.mv (.c (.bool true)))] X1))
def wo.b0:IR:=wo.g0 wo.b1
def wo.res:List RV:=[]
def wo:Fn:={ params:=[(.of 0),(.of 1),(.of 2),(.of 3)],res:=wo.res,body:=wo.b0,init:=in23 }
theorem wo.ok:fnA Tryz.prog Tryz.f198 [0,1,2,3,8,9,10,11,12,13,14,15,16,17,18,23,29,35,50,68,72,87,113]=some wo:=by kernel_rfl
abbrev gu.fr:=fr10
def gu.b6:IR:=(iSr [.s (.zo 2 aT5 aT7),.s (.zi 2 aS0),iWl 3 (.alloc [.zf,(.bool false)]),.w .none none (.store 2 aT3 aS0)] (iSr [.s (.zi 2 aT3),iSm 1,iCa 64 [aS1,aS0],iQm 4 0] (iSr [iSm 4,iQo 9 (.bin .neq .int aS0 aC0)] (.cond aT9 (iSr [iSm 4,iQm 2 0] .ret) .skip))))
def gu.g5 (X6:IR):IR:=(.block 1 X6)
def gu.b5:IR:=gu.g5 gu.b6
def gu.b7:IR:=(.reg [.s (.bin .add .int aT7 aC1),iQm 7 0])
def gu.g4 (X5 X7:IR):IR:=(.seq X5 X7)
def gu.b4:IR:=gu.g4 gu.b5 gu.b7
def gu.g3 (X4:IR):IR:=(iSr [iQo 8 (.bin .lss .int aT7 aT6)] (.seq (.cond aT8 .skip (.exit 0)) X4))
def gu.b3:IR:=gu.g3 gu.b4
def gu.g2 (X3:IR):IR:=(.loop X3)
def gu.b2:IR:=gu.g2 gu.b3
def gu.g1 (X2:IR):IR:=(.block 0 X2)
def gu.b1:IR:=gu.g1 gu.b2
def gu.b8:IR:=(iSr [iQo 2 (.mv aC0)] .ret)
def gu.g0 (X1 X8:IR):IR:=(iSr [iQo 2 (.mv aC0)] (.seq (iSr [iQo 5 (.mv aT0),iQo 6 (.len aT5),iQo 7 (.mv aC0)] X1) X8))
def gu.b0:IR:=gu.g0 gu.b1 gu.b8
def gu.res:List RV:=[.t (.of 2)]
def gu:Fn:={ params:=[(.of 0),(.of 1)],res:=gu.res,body:=gu.b0,init:=in10 }
theorem gu.ok:fnA Tryz.prog Tryz.f199 [0,1,4,6,7,8,9,10,11,18]=some gu:=by kernel_rfl
abbrev zu.fr:=fr25
def zu.b3:IR:=(.reg [iWl 10 (.alloc [.zf,(.bool false)]),.w .none none (.store 2 bP aW)])
def zu.b20:IR:=(.seq (.yh [] [(.s (.load aT8),1,[]),(.s (.zi 2 rD),0,[]),(.s (.zi 2 rD),1,[]),(iCa 112 [aS1],0,[]),(.w .none none (.zb2 .str aS3 aS0 aS1),0,[])]) (.reg [iSm 11,.s (.zi 2 rD),.w .push none (.yg 2 1 [.zf,(.bool false)] [(0,2,aS0)]),.w .push none (.appq 2 32 aS2 aS0),iQm 11 0]))
def zu.g19 (X20:IR):IR:=(.seq (iSr [.s (.load aT8),.s (.mlen aS0),.s (.load aT3),iQo 24 (.bin .eql .int aS1 aS0)] (.cond aT24 (iSr [.w .none none (.store 1 aT4 (.c .qc)),.w .none none (.store 1 aT5 (.c .zf)),.w .none none (.store 1 aT6 (.c (.bool false)))] .ret) .skip)) X20)
def zu.b19:IR:=zu.g19 zu.b20
def zu.g18 (X19:IR):IR:=(iSr [.s (.zo 2 tK aT21),.s (.zi 2 aS0),iWl 12 (.alloc [.zf,(.bool false)]),.w .none none (.store 2 eX aS0)] (.seq (.yh [(.alloc [.zf,(.bool false)])] [(.s (.zi 2 eX),2,[]),(iSm 11,2,[]),(.s (.zo 2 aS0 aC0),2,[]),(.s (.zi 2 aS0),2,[]),(iCa 250 [aS3,aS0],0,[]),(iWl 13 (.alloc [.zf,(.bool false)]),0,[]),(.w .none none (.store 2 rD aS0),0,[])]) (.seq (iSr [.s (.load aT8),.s (.zi 2 rD),iWl 23 (.call (.c (.fn 249 (.of 249) [])) [aS1,aS0])] (.cond aT23 (.exit 5) .skip)) X19)))
def zu.b18:IR:=zu.g18 zu.b19
def zu.g17 (X18:IR):IR:=(.block 5 X18)
def zu.b17:IR:=zu.g17 zu.b18
def zu.b21:IR:=(.reg [.s (.bin .add .int aT21 aC1),iQm 21 0])
def zu.g16 (X17 X21:IR):IR:=(.seq X17 X21)
def zu.b16:IR:=zu.g16 zu.b17 zu.b21
def zu.g15 (X16:IR):IR:=(iSr [iQo 22 (.bin .lss .int aT21 aT20)] (.seq (.cond aT22 .skip (.exit 4)) X16))
def zu.b15:IR:=zu.g15 zu.b16
def zu.g14 (X15:IR):IR:=(.loop X15)
def zu.b14:IR:=zu.g14 zu.b15
def zu.g13 (X14:IR):IR:=(.block 4 X14)
def zu.b13:IR:=zu.g13 zu.b14
def zu.g12 (X13:IR):IR:=(iSr [iQo 19 (.load aT9),iQo 20 (.len tK),iQo 21 (.mv aC0)] X13)
def zu.b12:IR:=zu.g12 zu.b13
def zu.g11 (X12:IR):IR:=(.block 3 X12)
def zu.b11:IR:=zu.g11 zu.b12
def zu.b22:IR:=(.reg [iSm 11,.s (.slice 2 aS0 (some aC1) none none),iQm 11 0])
def zu.g10 (X11 X22:IR):IR:=(.seq X11 X22)
def zu.b10:IR:=zu.g10 zu.b11 zu.b22
def zu.g9 (X10:IR):IR:=(.seq (iSr [iSm 11,.s (.len aS0),iQo 18 (.bin .gtr .int aS0 aC0)] (.cond aT18 .skip (.exit 2))) X10)
def zu.b9:IR:=zu.g9 zu.b10
def zu.g8 (X9:IR):IR:=(.loop X9)
def zu.b8:IR:=zu.g8 zu.b9
def zu.g7 (X8:IR):IR:=(.block 2 X8)
def zu.b7:IR:=zu.g7 zu.b8
def zu.g6 (X7:IR):IR:=(iSr [.s (.load aT9),.s (.zi 2 bP),.w .push none (.yg 2 1 [.zf,(.bool false)] [(0,2,aS0)]),.w .push none (.appq 2 32 aS2 aS0),.w .none none (.store 1 aT9 aS0)] (.seq (.yh [.rQ] [(.s (.zi 2 aT7),2,[]),(.s (.zi 2 aT7),2,[]),(iCa 112 [aS1],0,[]),(.w .push none .rQ,0,[]),(.w .none none (.zb2 .str aS0 aS1 aS2),0,[]),(.s (.mv aS0),0,[]),(.w .none none (.store 1 aT8 aS0),0,[])]) (iSr [.s (.zi 2 aT7),.w .push none (.yg 2 1 [.zf,(.bool false)] [(0,2,aS0)]),iQm 11 0] X7)))
def zu.b6:IR:=zu.g6 zu.b7
def zu.g5 (X6:IR):IR:=(.seq (iSr [.s (.load aT8),.s (.zi 2 bP),iWl 17 (.call (.c (.fn 249 (.of 249) [])) [aS1,aS0])] (.cond aC (.exit 1) .skip)) X6)
def zu.b5:IR:=zu.g5 zu.b6
def zu.g4 (X5:IR):IR:=(.block 1 X5)
def zu.b4:IR:=zu.g4 zu.b5
def zu.g2 (X3 X4:IR):IR:=(.rf tJ [(.of 15),(.of 16)] X3 X4)
def zu.b2:IR:=zu.g2 zu.b3 zu.b4
def zu.g1 (X2:IR):IR:=(.block 0 X2)
def zu.b1:IR:=zu.g1 zu.b2
def zu.b23:IR:=(.seq (.yh [] [(.s (.load aT8),0,[]),(.s (.load aT9),1,[]),(.w .none none (.store 1 aT4 aS1),0,[]),(.w .none none (.store 1 aT5 aS0),0,[]),(.w .none none (.store 1 aT6 (.c (.bool true))),0,[])]) .ret)
def zu.g0 (X1 X23:IR):IR:=(iSr [iWl 3 (.box aT2),iWl 4 (.alloc [.qc]),iWl 5 (.alloc [.zf]),iWl 6 (.alloc [(.bool false)])] (iSr [iSm 1,iCa 248 [aS0],iWl 7 (.alloc [.zf,(.bool false)]),.w .none none (.store 2 aT7 aS0)] (.seq (.yh [.rQ,(.alloc [.qc])] [(.s (.zi 2 aT7),4,[]),(.s (.zi 2 aT7),4,[]),(iCa 112 [aS1],0,[]),(.w .push none .rQ,0,[]),(.w .none none (.zb2 .str aS0 aS1 aS2),0,[]),(.s (.mv aS0),1,[]),(iWl 8 (.alloc [.qc]),0,[]),(.w .none none (.store 1 aT8 aS0),0,[])]) (iSr [iWl 9 (.alloc [.zf])] (.seq (iSr [iSm 0,iWl 14 (.call (.c (.fn 86 (.of 86) [])) [aS0])] X1) X23)))))
def zu.b0:IR:=zu.g0 zu.b1 zu.b23
def zu.res:List RV:=[.cell (.of 4) none,.cell (.of 5) none,.cell (.of 6) none]
def zu:Fn:={ params:=[(.of 0),(.of 1),(.of 2)],res:=zu.res,body:=zu.b0,init:=in25 }
theorem zu.ok:fnA Tryz.prog Tryz.f200 [0,1,2,5,6,7,8,9,10,11,13,14,16,17,26,27,28,31,45,48,49,50,51,61,65]=some zu:=by kernel_rfl
abbrev oh.fr:=fr3
def oh.b1:IR:=(iSr [iSm 0,.s (.conv .u64 aS0),iQm 1 0] .ret)
def oh.g0 (X1:IR):IR:=(iSr [iQo 1 (.mv (.c (.int .u64 0)))] (.seq (iSr [iSm 0,iQo 2 (.bin .lss .int aS0 aC0)] (.cond aT2 (iSr [iSm 0,.s (.neg aS0),.s (.conv .u64 aS0),iQm 1 0] .ret) .skip)) X1))
def oh.b0:IR:=oh.g0 oh.b1
def oh.res:List RV:=[.t (.of 1)]
def oh:Fn:={ params:=[(.of 0)],res:=oh.res,body:=oh.b0,init:=in3 }
theorem oh.ok:fnA Tryz.prog Tryz.f201 [0,2,4]=some oh:=by kernel_rfl
abbrev F205.fr:=fr12
def F205.b0:IR:=(iSr [iQo 2 (.mv (.c (.int .u64 0))),iQo 3 (.mv (.c (.int .u64 0)))] (iSr [iSm 0,.s (.bin .and .int aS0 (.c (.int .u64 4294967295))),iQm 4 0] (iSr [iSm 0,.s (.bin .shr .int aS0 (.c (.int .u64 32))),iQm 5 0] (iSr [iSm 1,.s (.bin .and .int aS0 (.c (.int .u64 4294967295))),iQm 6 0] (iSr [iSm 1,.s (.bin .shr .int aS0 (.c (.int .u64 32))),iQm 7 0] (iSr [iSm 4,iSm 6,.s (.bin .mul .int aS1 aS0),iQm 8 0] (iSr [iSm 5,iSm 6,.s (.bin .mul .int aS1 aS0),iSm 8,.s (.bin .shr .int aS0 (.c (.int .u64 32))),.s (.bin .add .int aS2 aS0),iQm 9 0] (iSr [iSm 9,.s (.bin .and .int aS0 (.c (.int .u64 4294967295))),iQm 10 0] (iSr [iSm 9,.s (.bin .shr .int aS0 (.c (.int .u64 32))),iQm 11 0] (iSr [iSm 10,iSm 4,iSm 7,.s (.bin .mul .int aS1 aS0),.s (.bin .add .int aS3 aS0),iQm 10 0] (iSr [iSm 5,iSm 7,.s (.bin .mul .int aS1 aS0),iSm 11,.s (.bin .add .int aS1 aS0),iSm 10,.s (.bin .shr .int aS0 (.c (.int .u64 32))),.s (.bin .add .int aS2 aS0),iQm 2 0] (iSr [iSm 0,iSm 1,.s (.bin .mul .int aS1 aS0),iQm 3 0] .ret))))))))))))
def F205.res:List RV:=[.t (.of 2),.t (.of 3)]
def F205:Fn:={ params:=[(.of 0),(.of 1)],res:=F205.res,body:=F205.b0,init:=in12 }
theorem F205.ok:fnA Tryz.prog Tryz.f205 [0,1,4,5,6,7,8,9,10,11,12,13]=some F205:=by kernel_rfl
abbrev oz.fr:=fr5
def oz.b1:IR:=(iSr [iSm 3,.s (.len aS0),.s (.bin .sub .int aS0 aC1),.s (.bin .mul .int aC64 aS0),iSm 3,iSm 3,.s (.len aS0),.s (.bin .sub .int aS0 aC1),.s (.zo 1 aS3 aS0),.s (.load aS0),iCa 236 [aS0],.s (.bin .add .int aS7 aS0),iQm 2 0] .ret)
def oz.g0 (X1:IR):IR:=(iSr [iWl 1 (.box aT0),iQo 2 (.mv aC0)] (iSr [.s (.zi 2 aT1),iCa 145 [aS0],.s (.mv aS0),.s (.ext 0 aS0),.s (.ext 1 aS1),.s (.mv aS1),iQm 3 1] (.seq (iSr [iSm 3,.s (.len aS0),iQo 4 (.bin .eql .int aS0 aC0)] (.cond aT4 (iSr [iQo 2 (.mv aC0)] .ret) .skip)) X1)))
def oz.b0:IR:=oz.g0 oz.b1
def oz.res:List RV:=[.t (.of 2)]
def oz:Fn:={ params:=[(.of 0)],res:=oz.res,body:=oz.b0,init:=in5 }
theorem oz.ok:fnA Tryz.prog Tryz.f209 [0,1,2,4,12]=some oz:=by kernel_rfl
abbrev bY.fr:=fr3
def bY.b5:IR:=(.reg [iSm 0,iSm 0,.s (.len aS0),.s (.bin .sub .int aS0 aC1),.s (.slice 1 aS3 none (some aS0) none),iQm 0 0])
def bY.g4 (X5:IR):IR:=(.block 1 X5)
def bY.b4:IR:=bY.g4 bY.b5
def bY.g3 (X4:IR):IR:=(.seq (iSr [iSm 0,.s (.len aS0),.s (.bin .gtr .int aS0 aC0),.s (.mv aS0),iPt 0 (.mv aT0),iPt 1 (.mv aT0),iPt 2 (.len aS0),iPt 3 (.bin .sub .int aS0 aC1),iPt 4 (.zo 1 aS3 aS0),iPt 5 (.load aS0),iPt 6 (.bin .eql .int aS0 aC0),iQo 2 (.pick aS7 aS0 (.c (.bool false)))] (.cond aT2 .skip (.exit 0))) X4)
def bY.b3:IR:=bY.g3 bY.b4
def bY.g2 (X3:IR):IR:=(.loop X3)
def bY.b2:IR:=bY.g2 bY.b3
def bY.g1 (X2:IR):IR:=(.block 0 X2)
def bY.b1:IR:=bY.g1 bY.b2
def bY.b6:IR:=(iSr [iSm 0,iQm 1 0] .ret)
def bY.g0 (X1 X6:IR):IR:=(iSr [iQo 1 (.mv (.c .zf))] (.seq X1 X6))
def bY.b0:IR:=bY.g0 bY.b1 bY.b6
def bY.res:List RV:=[.t (.of 1)]
def bY:Fn:={ params:=[(.of 0)],res:=bY.res,body:=bY.b0,init:=in3 }
theorem bY.ok:fnA Tryz.prog Tryz.f215 [0,2,14]=some bY:=by kernel_rfl
abbrev aH.fr:=fr2
def aH.b0:IR:=(iSr [iQo 1 (.mv (.c (.bool false)))] (iSr [iSm 0,.s (.bin .lss .int aS0 (.c (I (-999999999)))),.s (.mv aS0),iPf 0 (.mv aT0),iPf 1 (.bin .gtr .int aS0 qX),.s (.pick aS2 (.c (.bool true)) aS0),iQm 1 0] .ret))
def aH.res:List RV:=[.t (.of 1)]
def aH:Fn:={ params:=[(.of 0)],res:=aH.res,body:=aH.b0,init:=in2 }
theorem aH.ok:fnA Tryz.prog Tryz.f216 [0,2]=some aH:=by kernel_rfl
abbrev bT.fr:=fr10
def bT.b1:IR:=(iSr [iQo 2 (.mv (.c (I (-1))))] .ret)
def bT.b5:IR:=(iSr [iQo 2 (.mv aC0)] .ret)
def bT.g4 (X5:IR):IR:=(.seq (iSr [iSm 0,iSm 1,iQo 9 (.bin .gtr .int aS1 aS0)] (.cond aT9 (iSr [iQo 2 (.mv aC1)] .ret) .skip)) X5)
def bT.b4:IR:=bT.g4 bT.b5
def bT.g3 (X4:IR):IR:=(.seq (iSr [iSm 0,iSm 1,iQo 8 (.bin .lss .int aS1 aS0)] (.cond aT8 (iSr [iQo 2 (.mv (.c (I (-1))))] .ret) .skip)) X4)
def bT.b3:IR:=bT.g3 bT.b4
def bT.g2 (X3:IR):IR:=(.seq (iSr [iQo 7 (.mv aT4)] (.cond aT7 (iSr [iQo 2 (.mv aC1)] .ret) .skip)) X3)
def bT.b2:IR:=bT.g2 bT.b3
def bT.g0 (X1 X2:IR):IR:=(iSr [iQo 2 (.mv aC0)] (iSr [iSm 0,iCa 261 [aS0],iQm 3 0] (iSr [iSm 1,iCa 261 [aS0],iQm 4 0] (.seq (iSr [iQo 5 (.mv aT3)] (.cond aT5 (.seq (iSr [iQo 6 (.mv aT4)] (.cond aT6 (iSr [iQo 2 (.mv aC0)] .ret) .skip)) X1) .skip)) X2))))
def bT.b0:IR:=bT.g0 bT.b1 bT.b2
def bT.res:List RV:=[.t (.of 2)]
def bT:Fn:={ params:=[(.of 0),(.of 1)],res:=bT.res,body:=bT.b0,init:=in10 }
theorem bT.ok:fnA Tryz.prog Tryz.f217 [0,1,4,5,6,11,12,13,16,19]=some bT:=by kernel_rfl
abbrev uo.fr:=fr11
def uo.b5:IR:=(iSr [iSm 6,iSm 7,.s (.bin .add .int aS1 aS0),.s (.conv .u64 aS0),.s (.bin .shr .int aS0 (.c (.int .u64 1))),.s (.conv .i64 aS0),iQm 8 0] (iSr [iSm 2,iSm 0,iSm 8,.s (.zo 1 aS1 aS0),.s (.load aS0),iSm 1,.w .push none (.call aS5 [aS1,aS0]),iQo 10 (.bin .lss .int aS0 aC0)] (.cond bP (.reg [iSm 8,.s (.bin .add .int aS0 aC1),iQm 6 0]) (.reg [iSm 8,iQm 7 0]))))
def uo.g4 (X5:IR):IR:=(.block 1 X5)
def uo.b4:IR:=uo.g4 uo.b5
def uo.g3 (X4:IR):IR:=(.seq (iSr [iSm 6,iSm 7,iQo 9 (.bin .lss .int aS1 aS0)] (.cond aT9 .skip (.exit 0))) X4)
def uo.b3:IR:=uo.g3 uo.b4
def uo.g2 (X3:IR):IR:=(.loop X3)
def uo.b2:IR:=uo.g2 uo.b3
def uo.g1 (X2:IR):IR:=(.block 0 X2)
def uo.b1:IR:=uo.g1 uo.b2
def uo.b6:IR:=(iSr [iSm 6,iSm 6,iSm 5,.s (.bin .lss .int aS1 aS0),.s (.mv aS0),iPt 0 (.mv aT2),iPt 1 (.mv aT0),iPt 2 (.mv aT6),iPt 3 (.zo 1 aS1 aS0),iPt 4 (.load aS0),iPt 5 (.mv aT1),.w .push (some (aS6,true)) (.call aS5 [aS1,aS0]),iPt 7 (.bin .eql .int aS0 aC0),.s (.pick aS8 aS0 (.c (.bool false))),iQm 3 13,iQm 4 0] .ret)
def uo.g0 (X1 X6:IR):IR:=(iSr [iQo 3 (.mv aC0),iQo 4 (.mv (.c (.bool false)))] (iSr [iSm 0,.s (.len aS0),iQm 5 0] (iSr [iSm 5,iQo 6 (.mv aC0),iQm 7 0] (.seq X1 X6))))
def uo.b0:IR:=uo.g0 uo.b1 uo.b6
def uo.res:List RV:=[.t (.of 3),.t (.of 4)]
def uo:Fn:={ params:=[(.of 0),(.of 1),(.of 2)],res:=uo.res,body:=uo.b0,init:=in11 }
theorem uo.ok:fnA Tryz.prog Tryz.f218 [0,1,2,6,7,8,9,10,11,17,31]=some uo:=by kernel_rfl
abbrev bH.fr:=fr9
def bH.b6:IR:=(iSr [.s (.zo 1 aT5 aT7),.s (.load aS0),iQm 4 0] (.reg [iSm 3,iSm 1,iSm 4,.s (.zo 1 aS1 aS0),.s (.load aS0),.s (.bin .add .int aS4 aS0),iQm 3 0]))
def bH.g5 (X6:IR):IR:=(.block 1 X6)
def bH.b5:IR:=bH.g5 bH.b6
def bH.b7:IR:=(.reg [.s (.bin .add .int aT7 aC1),iQm 7 0])
def bH.g4 (X5 X7:IR):IR:=(.seq X5 X7)
def bH.b4:IR:=bH.g4 bH.b5 bH.b7
def bH.g3 (X4:IR):IR:=(iSr [iQo 8 (.bin .lss .int aT7 aT6)] (.seq (.cond aT8 .skip (.exit 0)) X4))
def bH.b3:IR:=bH.g3 bH.b4
def bH.g2 (X3:IR):IR:=(.loop X3)
def bH.b2:IR:=bH.g2 bH.b3
def bH.g1 (X2:IR):IR:=(.block 0 X2)
def bH.b1:IR:=bH.g1 bH.b2
def bH.b8:IR:=(iSr [iSm 3,iQm 2 0] .ret)
def bH.g0 (X1 X8:IR):IR:=(iSr [iQo 2 (.mv aC0)] (iSr [iQo 3 (.mv aC0)] (.seq (iSr [iQo 5 (.mv aT0),iQo 6 (.len aT5),iQo 7 (.mv aC0)] X1) X8)))
def bH.b0:IR:=bH.g0 bH.b1 bH.b8
def bH.res:List RV:=[.t (.of 2)]
def bH:Fn:={ params:=[(.of 0),(.of 1)],res:=bH.res,body:=bH.b0,init:=in9 }
theorem bH.ok:fnA Tryz.prog Tryz.f219 [0,1,4,5,7,8,9,10,11]=some bH:=by kernel_rfl
abbrev F222.fr:=fr2
def F222.b0:IR:=(iSr [iQo 1 (.mv (.c (.str [])))] (iSr [iSm 0,iCa 263 [aS0,aC10],iQm 1 0] .ret))
def F222.res:List RV:=[.t (.of 1)]
def F222:Fn:={ params:=[(.of 0)],res:=F222.res,body:=F222.b0,init:=in2 }
theorem F222.ok:fnA Tryz.prog Tryz.f222 [0,2]=some F222:=by kernel_rfl
abbrev rH.fr:=fr5
def rH.b3:IR:=(iSr [iSm 1,iSm 0,.s (.conv .u8 aS0),.s (.sidx (.c (.str [0,1,2,2,3,3,3,3,4,4,4,4,4,4,4,4,5,5,5,5,5,5,5,5,5,5,5,5,5,5,5,5,6,6,6,6,6,6,6,6,6,6,6,6,6,6,6,6,6,6,6,6,6,6,6,6,6,6,6,6,6,6,6,6,7,7,7,7,7,7,7,7,7,7,7,7,7,7,7,7,7,7,7,7,7,7,7,7,7,7,7,7,7,7,7,7,7,7,7,7,7,7,7,7,7,7,7,7,7,7,7,7,7,7,7,7,7,7,7,7,7,7,7,7,7,7,7,7,8,8,8,8,8,8,8,8,8,8,8,8,8,8,8,8,8,8,8,8,8,8,8,8,8,8,8,8,8,8,8,8,8,8,8,8,8,8,8,8,8,8,8,8,8,8,8,8,8,8,8,8,8,8,8,8,8,8,8,8,8,8,8,8,8,8,8,8,8,8,8,8,8,8,8,8,8,8,8,8,8,8,8,8,8,8,8,8,8,8,8,8,8,8,8,8,8,8,8,8,8,8,8,8,8,8,8,8,8,8,8,8,8,8,8,8,8,8,8,8,8,8,8,8,8,8,8,8])) aS0),.s (.conv .i64 aS0),.s (.bin .add .int aS4 aS0),iQm 1 0] .ret)
def rH.g2 (X3:IR):IR:=(.seq (iSr [iSm 0,iQo 4 (.bin .geq .int aS0 (.c (.int .u64 256)))] (.cond aT4 (iSr [iSm 0,.s (.bin .shr .int aS0 (.c (.int .u64 8))),iQm 0 0] (.reg [iSm 1,.s (.bin .add .int aS0 aC8),iQm 1 0])) .skip)) X3)
def rH.b2:IR:=rH.g2 rH.b3
def rH.g1 (X2:IR):IR:=(.seq (iSr [iSm 0,iQo 3 (.bin .geq .int aS0 (.c (.int .u64 65536)))] (.cond aT3 (iSr [iSm 0,.s (.bin .shr .int aS0 (.c (.int .u64 16))),iQm 0 0] (.reg [iSm 1,.s (.bin .add .int aS0 aC16),iQm 1 0])) .skip)) X2)
def rH.b1:IR:=rH.g1 rH.b2
def rH.g0 (X1:IR):IR:=(iSr [iQo 1 (.mv aC0)] (.seq (iSr [iSm 0,iQo 2 (.bin .geq .int aS0 (.c (.int .u64 4294967296)))] (.cond aT2 (iSr [iSm 0,.s (.bin .shr .int aS0 (.c (.int .u64 32))),iQm 0 0] (.reg [iQo 1 (.mv aC32)])) .skip)) X1))
def rH.b0:IR:=rH.g0 rH.b1
def rH.res:List RV:=[.t (.of 1)]
def rH:Fn:={ params:=[(.of 0)],res:=rH.res,body:=rH.b0,init:=in5 }
theorem rH.ok:fnA Tryz.prog Tryz.f236 [0,2,4,8,14]=some rH:=by kernel_rfl
abbrev wu.fr:=fr24
def wu.b10:IR:=(iSr [iSm 0,iSm 1,iSm 2,iSm 8,iSm 4,iCa 277 [aS4,aS3,aS2,aS1,aS0],.s (.mv aS0),.s (.ext 0 aS0),.s (.ext 1 aS1),iQm 11 1,iQm 12 0] (iSr [iSm 12,iQm 6 0] (iSr [iSm 11,iSm 1,.s (.bin .sub .int aS1 aS0),iSm 2,iSm 11,.s (.bin .sub .int aS1 aS0),iQm 13 3,iQm 14 0] (iSr [iSm 7,.s (.bin .quo .int aS0 aC8),iQm 15 0] (iSr [iSm 13,iSm 14,iQo 23 (.bin .lss .int aS1 aS0)] (.cond aT23 (iSr [iSm 13,iSm 15,.s (.bin .geq .int aS1 aS0),iQm 5 0] (iSr [iSm 0,iSm 1,iSm 11,iSm 3,iSm 4,iCa 237 [aS4,aS3,aS2,aS1,aS0]] (.reg [iSm 11,.s (.bin .add .int aS0 aC1),iQm 1 0]))) (iSr [iSm 14,iSm 15,.s (.bin .geq .int aS1 aS0),iQm 5 0] (iSr [iSm 0,iSm 11,.s (.bin .add .int aS0 aC1),iSm 2,iSm 3,iSm 4,iCa 237 [aS5,aS3,aS2,aS1,aS0]] (.reg [iSm 11,iQm 2 0])))))))))
def wu.g9 (X10:IR):IR:=(.seq (.seq (.yh [] [(iSm 1,0,[]),(.s (.bin .gtr .int aS0 aC0),0,[]),(.s (.mv aS0),0,[]),(iPt 0 (.mv aT4),0,[]),(iPt 1 (.mv aT0),0,[]),(iPt 2 (.mv aT1),0,[]),(iPt 3 (.bin .sub .int aS0 aC1),0,[]),(iPt 4 (.zo 1 aS2 aS0),0,[]),(iPt 5 (.load aS0),0,[]),(iPt 6 (.mv aT0),0,[]),(iPt 7 (.mv aT8),0,[]),(iPt 8 (.zo 1 aS1 aS0),0,[]),(iPt 9 (.load aS0),0,[]),(.w .push (some (aS10,true)) (.call aS9 [aS4,aS0]),0,[]),(iPt 11 (.bin .lss .int aS0 aC0),0,[]),(iPt 12 (.not aS0),0,[]),(iQo 22 (.pick aS13 aS0 (.c (.bool false))),0,[])]) (.cond aT22 (iSr [iSm 0,iSm 1,iSm 2,iSm 8,iSm 4,iCa 276 [aS4,aS3,aS2,aS1,aS0],iQm 10 0] (iSr [iSm 10,iQm 1 0] (.exit 1))) .skip)) X10)
def wu.b9:IR:=wu.g9 wu.b10
def wu.g8 (X9:IR):IR:=(.seq (iSr [iSm 5,.s (.mv aS0),iPt 0 (.mv aT6),.s (.pick aS1 aS0 (.c (.bool false))),.s (.mv aS0),iPt 0 (.mv aT9),iPt 1 (.bin .eql .int aS0 aC1),iQo 20 (.pick aS2 aS0 (.c (.bool false)))] (.cond aT20 (iSr [iSm 0,iSm 1,iSm 2,iSm 4,iWl 21 (.call (.c (.fn 275 (.of 275) [])) [aS3,aS2,aS1,aS0])] (.cond aT21 .ret .skip)) .skip)) X9)
def wu.b8:IR:=wu.g8 wu.b9
def wu.g7 (X8:IR):IR:=(iSr [iSm 0,iSm 1,iSm 2,iSm 4,iCa 273 [aS3,aS2,aS1,aS0],.s (.mv aS0),.s (.ext 0 aS0),.s (.ext 1 aS1),iQm 8 1,iQm 9 0] (.seq (iSr [iSm 9,iQo 19 (.bin .eql .int aS0 aC2)] (.cond tK (iSr [iSm 0,iSm 1,iSm 2,iSm 4,iCa 274 [aS3,aS2,aS1,aS0]] (iSr [iSm 2,.s (.bin .sub .int aS0 aC1),iSm 8,iSm 1,.s (.bin .sub .int aS1 aS0),.s (.bin .sub .int aS3 aS0),iQm 8 0] (.reg [iQo 9 (.mv aC1)]))) .skip)) X8))
def wu.b7:IR:=wu.g7 wu.b8
def wu.g6 (X7:IR):IR:=(.seq (iSr [iSm 5,iQo 18 (.not aS0)] (.cond aT18 (iSr [iSm 0,iSm 1,iSm 2,iSm 4,iCa 272 [aS3,aS2,aS1,aS0]] (.reg [iSm 3,.s (.bin .sub .int aS0 aC1),iQm 3 0])) .skip)) X7)
def wu.b6:IR:=wu.g6 wu.b7
def wu.g5 (X6:IR):IR:=(.seq (iSr [iSm 3,iQo 17 (.bin .eql .int aS0 aC0)] (.cond aC (iSr [iSm 0,iSm 1,iSm 2,iSm 4,iCa 271 [aS3,aS2,aS1,aS0]] .ret) .skip)) X6)
def wu.b5:IR:=wu.g5 wu.b6
def wu.g4 (X5:IR):IR:=(iSr [iSm 2,iSm 1,.s (.bin .sub .int aS1 aS0),iQm 7 0] (.seq (iSr [iSm 7,iQo 16 (.bin .leq .int aS0 aC12)] (.cond aW (iSr [iSm 0,iSm 1,iSm 2,iSm 4,iCa 270 [aS3,aS2,aS1,aS0]] .ret) .skip)) X5))
def wu.b4:IR:=wu.g4 wu.b5
def wu.g3 (X4:IR):IR:=(.block 1 X4)
def wu.b3:IR:=wu.g3 wu.b4
def wu.g2 (X3:IR):IR:=(.loop X3)
def wu.b2:IR:=wu.g2 wu.b3
def wu.g1 (X2:IR):IR:=(.block 0 X2)
def wu.b1:IR:=wu.g1 wu.b2
def wu.g0 (X1:IR):IR:=(iSr [iQo 5 (.mv (.c (.bool true)))] (iSr [iQo 6 (.mv (.c (.bool true)))] X1))
def wu.b0:IR:=wu.g0 wu.b1
def wu.res:List RV:=[]
def wu:Fn:={ params:=[(.of 0),(.of 1),(.of 2),(.of 3),(.of 4)],res:=wu.res,body:=wu.b0,init:=in24 }
theorem wu.ok:fnA Tryz.prog Tryz.f237 [0,1,2,3,4,10,11,12,13,14,15,16,17,18,19,20,25,32,39,56,75,80,97,125]=some wu:=by kernel_rfl
abbrev bI.fr:=fr8
def bI.b6:IR:=(iSr [iSm 5,iQm 3 0] (iSr [iSm 1,iSm 0,iSm 3,.s (.zo 1 aS1 aS0),.s (.load aS0),iWl 7 (.call aS4 [aS0])] (.cond aT7 (iSr [iSm 3,iQm 2 0] .ret) .skip)))
def bI.g5 (X6:IR):IR:=(.block 1 X6)
def bI.b5:IR:=bI.g5 bI.b6
def bI.b7:IR:=(.reg [.s (.bin .add .int aT5 aC1),iQm 5 0])
def bI.g4 (X5 X7:IR):IR:=(.seq X5 X7)
def bI.b4:IR:=bI.g4 bI.b5 bI.b7
def bI.g3 (X4:IR):IR:=(iSr [iQo 6 (.bin .lss .int aT5 aT4)] (.seq (.cond aT6 .skip (.exit 0)) X4))
def bI.b3:IR:=bI.g3 bI.b4
def bI.g2 (X3:IR):IR:=(.loop X3)
def bI.b2:IR:=bI.g2 bI.b3
def bI.g1 (X2:IR):IR:=(.block 0 X2)
def bI.b1:IR:=bI.g1 bI.b2
def bI.b8:IR:=(iSr [iQo 2 (.mv (.c (I (-1))))] .ret)
def bI.g0 (X1 X8:IR):IR:=(iSr [iQo 2 (.mv aC0)] (.seq (iSr [iSm 0,iQo 4 (.len aS0),iQo 5 (.mv aC0)] X1) X8))
def bI.b0:IR:=bI.g0 bI.b1 bI.b8
def bI.res:List RV:=[.t (.of 2)]
def bI:Fn:={ params:=[(.of 0),(.of 1)],res:=bI.res,body:=bI.b0,init:=in8 }
theorem bI.ok:fnA Tryz.prog Tryz.f238 [0,1,4,5,7,8,9,16]=some bI:=by kernel_rfl
abbrev uy.fr:=fr7
def uy.b12:IR:=(.yh [] [(iSm 0,0,[]),(iSm 4,0,[]),(iSm 0,1,[]),(iSm 4,1,[]),(.s (.bin .sub .int aS0 aC1),1,[]),(iSm 0,0,[]),(iSm 4,0,[]),(.s (.bin .sub .int aS0 aC1),0,[]),(.s (.zo 1 aS2 aS0),0,[]),(.s (.load aS0),0,[]),(iSm 0,0,[]),(iSm 4,0,[]),(.s (.zo 1 aS1 aS0),0,[]),(.s (.load aS0),0,[]),(.s (.zo 1 aS13 aS12),0,[]),(.w .none none (.store 1 aS0 aS5),0,[]),(.s (.zo 1 aS12 aS10),0,[]),(.w .none none (.store 1 aS0 aS2),0,[])])
def uy.g11 (X12:IR):IR:=(.block 3 X12)
def uy.b11:IR:=uy.g11 uy.b12
def uy.b13:IR:=(.reg [iSm 4,.s (.bin .sub .int aS0 aC1),iQm 4 0])
def uy.g10 (X11 X13:IR):IR:=(.seq X11 X13)
def uy.b10:IR:=uy.g10 uy.b11 uy.b13
def uy.g9 (X10:IR):IR:=(.seq (.seq (.yh [] [(iSm 4,0,[]),(iSm 1,0,[]),(.s (.bin .gtr .int aS1 aS0),0,[]),(.s (.mv aS0),0,[]),(iPt 0 (.mv aT0),0,[]),(iPt 1 (.mv aT4),0,[]),(iPt 2 (.zo 1 aS1 aS0),0,[]),(iPt 3 (.load aS0),0,[]),(iPt 4 (.mv aT0),0,[]),(iPt 5 (.mv aT4),0,[]),(iPt 6 (.bin .sub .int aS0 aC1),0,[]),(iPt 7 (.zo 1 aS2 aS0),0,[]),(iPt 8 (.load aS0),0,[]),(.w .push (some (aS9,true)) (.call (.c (.fn 245 (.of 245) [])) [aS5,aS0]),0,[]),(iQo 6 (.pick aS10 aS0 (.c (.bool false))),0,[])]) (.cond aT6 .skip (.exit 2))) X10)
def uy.b9:IR:=uy.g9 uy.b10
def uy.g8 (X9:IR):IR:=(.loop X9)
def uy.b8:IR:=uy.g8 uy.b9
def uy.g7 (X8:IR):IR:=(.block 2 X8)
def uy.b7:IR:=uy.g7 uy.b8
def uy.g6 (X7:IR):IR:=(iSr [iSm 3,iQm 4 0] X7)
def uy.b6:IR:=uy.g6 uy.b7
def uy.g5 (X6:IR):IR:=(.block 1 X6)
def uy.b5:IR:=uy.g5 uy.b6
def uy.b14:IR:=(.reg [iSm 3,.s (.bin .add .int aS0 aC1),iQm 3 0])
def uy.g4 (X5 X14:IR):IR:=(.seq X5 X14)
def uy.b4:IR:=uy.g4 uy.b5 uy.b14
def uy.g3 (X4:IR):IR:=(.seq (iSr [iSm 3,iSm 2,iQo 5 (.bin .lss .int aS1 aS0)] (.cond aT5 .skip (.exit 0))) X4)
def uy.b3:IR:=uy.g3 uy.b4
def uy.g2 (X3:IR):IR:=(.loop X3)
def uy.b2:IR:=uy.g2 uy.b3
def uy.g1 (X2:IR):IR:=(.block 0 X2)
def uy.b1:IR:=uy.g1 uy.b2
def uy.g0 (X1:IR):IR:=(iSr [iSm 1,.s (.bin .add .int aS0 aC1),iQm 3 0] X1)
def uy.b0:IR:=uy.g0 uy.b1
def uy.res:List RV:=[]
def uy:Fn:={ params:=[(.of 0),(.of 1),(.of 2)],res:=uy.res,body:=uy.b0,init:=in7 }
theorem uy.ok:fnA Tryz.prog Tryz.f239 [0,1,2,6,7,12,30]=some uy:=by kernel_rfl
abbrev F245.fr:=fr3
def F245.b0:IR:=(iSr [iQo 2 (.mv (.c (.bool false)))] (iSr [iSm 0,iCa 261 [aS0],.s (.mv aS0),iPt 0 (.mv aT1),.w .push (some (aS1,true)) (.call (.c (.fn 261 (.of 261) [])) [aS0]),iPt 2 (.not aS0),.s (.pick aS3 aS0 (.c (.bool false))),.s (.mv aS0),iPf 0 (.mv aT0),iPf 1 (.mv aT1),iPf 2 (.bin .lss .int aS1 aS0),.s (.pick aS3 (.c (.bool true)) aS0),iQm 2 0] .ret))
def F245.res:List RV:=[.t (.of 2)]
def F245:Fn:={ params:=[(.of 0),(.of 1)],res:=F245.res,body:=F245.b0,init:=in3 }
theorem F245.ok:fnA Tryz.prog Tryz.f245 [0,1,4]=some F245:=by kernel_rfl
abbrev gy.fr:=fr7
def gy.b6:IR:=(iSr [iSm 5,iQm 3 0] (.reg [.s (.zn 0 aT2),.s (.load aS0),iSm 3,iSm 3,.s (.zo 1 aS2 aS1),.w .none none (.store 1 aS0 aS1)]))
def gy.g5 (X6:IR):IR:=(.block 1 X6)
def gy.b5:IR:=gy.g5 gy.b6
def gy.b7:IR:=(.reg [.s (.bin .add .int aT5 aC1),iQm 5 0])
def gy.g4 (X5 X7:IR):IR:=(.seq X5 X7)
def gy.b4:IR:=gy.g4 gy.b5 gy.b7
def gy.g3 (X4:IR):IR:=(iSr [iQo 6 (.bin .lss .int aT5 aT4)] (.seq (.cond aT6 .skip (.exit 0)) X4))
def gy.b3:IR:=gy.g3 gy.b4
def gy.g2 (X3:IR):IR:=(.loop X3)
def gy.b2:IR:=gy.g2 gy.b3
def gy.g1 (X2:IR):IR:=(.block 0 X2)
def gy.b1:IR:=gy.g1 gy.b2
def gy.b8:IR:=(iSr [.s (.zi 2 aT2),.w .none none (.store 2 aT1 aS0)] .ret)
def gy.g0 (X1 X8:IR):IR:=(iSr [iWl 1 (.alloc [.zf,(.bool false)])] (iSr [iSm 0,.w .push none (.ql 1 8 [(I 0)] aS0 aS0),.s (.build [.zf,(.bool false)] [(0,1,aS0)]),iWl 2 (.alloc [.zf,(.bool false)]),.w .none none (.store 2 aT2 aS0)] (.seq (iSr [.s (.zn 0 aT2),.s (.load aS0),iQo 4 (.len aS0),iQo 5 (.mv aC0)] X1) X8)))
def gy.b0:IR:=gy.g0 gy.b1 gy.b8
def gy.res:List RV:=[.cell (.of 1) (some 2)]
def gy:Fn:={ params:=[(.of 0)],res:=gy.res,body:=gy.b0,init:=in7 }
theorem gy.ok:fnA Tryz.prog Tryz.f248 [0,2,3,4,10,11,12]=some gy:=by kernel_rfl
abbrev aN.fr:=fr5
def aN.b0:IR:=(iSr [iWl 2 (.box aT1),iQo 3 (.mv (.c (.bool false)))] (iSr [iSm 0,.s (.zi 2 aT2),iCa 112 [aS0],.s (.look .str (.agg [.zf,(.bool false)]) true aS2 aS0),.s (.mv aS0),.s (.ext 0 aS0),.s (.ext 1 aS1),.w .push none (.alloc [.zf,(.bool false)]),.w .none none (.store 2 aS0 aS2),iQm 4 1] (iSr [iSm 4,iQm 3 0] .ret)))
def aN.res:List RV:=[.t (.of 3)]
def aN:Fn:={ params:=[(.of 0),(.of 1)],res:=aN.res,body:=aN.b0,init:=in5 }
theorem aN.ok:fnA Tryz.prog Tryz.f249 [0,1,3,4,6]=some aN:=by kernel_rfl
abbrev uf.fr:=fr12
def uf.b6:IR:=(iSr [iSm 10,.s (.zo 1 aT8 bP),.s (.load aS0),iQm 6 2,iQm 7 0] (.yh [] [(.s (.zn 0 aT5),0,[]),(.s (.load aS0),0,[]),(iSm 6,0,[]),(.s (.zn 0 aT2),0,[]),(.s (.load aS0),0,[]),(iSm 7,0,[]),(.s (.zo 1 aS1 aS0),0,[]),(.s (.load aS0),0,[]),(.s (.zo 1 aS6 aS5),0,[]),(.w .none none (.store 1 aS0 aS1),0,[])]))
def uf.g5 (X6:IR):IR:=(.block 1 X6)
def uf.b5:IR:=uf.g5 uf.b6
def uf.b7:IR:=(.reg [.s (.bin .add .int bP aC1),iQm 10 0])
def uf.g4 (X5 X7:IR):IR:=(.seq X5 X7)
def uf.b4:IR:=uf.g4 uf.b5 uf.b7
def uf.g3 (X4:IR):IR:=(iSr [iQo 11 (.bin .lss .int bP aT9)] (.seq (.cond rV .skip (.exit 0)) X4))
def uf.b3:IR:=uf.g3 uf.b4
def uf.g2 (X3:IR):IR:=(.loop X3)
def uf.b2:IR:=uf.g2 uf.b3
def uf.g1 (X2:IR):IR:=(.block 0 X2)
def uf.b1:IR:=uf.g1 uf.b2
def uf.b8:IR:=(iSr [.s (.zi 2 aT5),.w .none none (.store 2 aT4 aS0)] .ret)
def uf.g0 (X1 X8:IR):IR:=(iSr [iWl 2 (.box aT0),iWl 3 (.box aT1),iWl 4 (.alloc [.zf,(.bool false)])] (.seq (.yh [(.alloc [.zf,(.bool false)])] [(.s (.zn 0 aT3),2,[]),(.s (.load aS0),2,[]),(.s (.len aS0),2,[(.ql 1 8 [(I 0)] aS0 aS0)]),(.s (.zn 1 aT2),2,[]),(.s (.load aS0),2,[]),(.s (.zn 1 aT3),2,[]),(.s (.load aS0),2,[]),(.s (.bin .neq .bool aS2 aS0),2,[]),(.w .push none (.ql 1 8 [(I 0)] aS5 aS5),0,[]),(.s (.build [.zf,(.bool false)] [(0,1,aS0),(1,1,aS1)]),1,[]),(iWl 5 (.alloc [.zf,(.bool false)]),0,[]),(.w .none none (.store 2 aT5 aS0),0,[])]) (.seq (iSr [.s (.zn 0 aT3),iQo 8 (.load aS0),iQo 9 (.len aT8),iQo 10 (.mv aC0)] X1) X8)))
def uf.b0:IR:=uf.g0 uf.b1 uf.b8
def uf.res:List RV:=[.cell (.of 4) (some 2)]
def uf:Fn:={ params:=[(.of 0),(.of 1)],res:=uf.res,body:=uf.b0,init:=in12 }
theorem uf.ok:fnA Tryz.prog Tryz.f250 [0,1,2,3,4,5,6,7,19,20,21,22]=some uf:=by kernel_rfl
abbrev aI.fr:=fr2
def aI.b0:IR:=(iSr [iQo 1 (.mv (.c (.bool false)))] (iSr [iSm 0,iSm 0,.s (.bin .neq .int aS1 aS0),iQm 1 0] .ret))
def aI.res:List RV:=[.t (.of 1)]
def aI:Fn:={ params:=[(.of 0)],res:=aI.res,body:=aI.b0,init:=in2 }
theorem aI.ok:fnA Tryz.prog Tryz.f261 [0,2]=some aI:=by kernel_rfl
abbrev ru.fr:=fr11
def ru.b3:IR:=(iSr [iSm 5,.s (.bin .add .int aC1 aS0),.s (.aslice 1 24 aT3 (some aC1) (some aS0) none),.s (.b2s aS0),iQm 2 0] .ret)
def ru.g2 (X3:IR):IR:=(iSr [iSm 4,iCa 283 [aS0],iQm 5 0] (iSr [iSm 5,.s (.bin .add .int aC1 aS0),.s (.aslice 1 24 aT3 (some aC1) (some aS0) none),iSm 4,iCa 284 [aS1,aS0]] (.seq (iSr [iSm 0,iQo 10 (.bin .lss .int aS0 aC0)] (.cond bP (iSr [.s (.zii 1 24 aT3 aC0),.w .none none (.store 1 aS0 (.c (.int .u8 45)))] (iSr [iSm 5,.s (.bin .add .int aC1 aS0),.s (.aslice 1 24 aT3 none (some aS0) none),.s (.b2s aS0),iQm 2 0] .ret)) .skip)) X3)))
def ru.b2:IR:=ru.g2 ru.b3
def ru.g1 (X2:IR):IR:=(iSr [iWl 3 (.alloc [(.int .u8 0),(.int .u8 0),(.int .u8 0),(.int .u8 0),(.int .u8 0),(.int .u8 0),(.int .u8 0),(.int .u8 0),(.int .u8 0),(.int .u8 0),(.int .u8 0),(.int .u8 0),(.int .u8 0),(.int .u8 0),(.int .u8 0),(.int .u8 0),(.int .u8 0),(.int .u8 0),(.int .u8 0),(.int .u8 0),(.int .u8 0),(.int .u8 0),(.int .u8 0),(.int .u8 0)])] (iSr [iSm 0,.s (.conv .u64 aS0),iQm 4 0] (.seq (iSr [iSm 0,iQo 9 (.bin .lss .int aS0 aC0)] (.cond aT9 (.reg [iSm 4,.s (.neg aS0),iQm 4 0]) .skip)) X2)))
def ru.b1:IR:=ru.g1 ru.b2
def ru.b4:IR:=(iSr [iSm 0,.s (.conv .u64 aS0),iSm 1,iSm 0,.s (.bin .lss .int aS0 aC0),iCa 285 [(.c .zf),aS3,aS2,aS0,(.c (.bool false))],.s (.mv aS0),.s (.ext 0 aS0),.s (.ext 1 aS1),.s (.mv aS1),iQm 6 1] (iSr [iSm 6,iQm 2 0] .ret))
def ru.g0 (X1 X4:IR):IR:=(iSr [iQo 2 (.mv (.c (.str [])))] (.seq (iSr [iSm 1,iQo 7 (.bin .eql .int aS0 aC10)] (.cond aT7 (.seq (iSr [iSm 0,.s (.bin .leq .int aC0 aS0),.s (.mv aS0),iPt 0 (.mv aT0),iPt 1 (.bin .lss .int aS0 zvu),iQo 8 (.pick aS2 aS0 (.c (.bool false)))] (.cond aT8 (iSr [iSm 0,iCa 282 [aS0],iQm 2 0] .ret) .skip)) X1) .skip)) X4))
def ru.b0:IR:=ru.g0 ru.b1 ru.b4
def ru.res:List RV:=[.t (.of 2)]
def ru:Fn:={ params:=[(.of 0),(.of 1)],res:=ru.res,body:=ru.b0,init:=in11 }
theorem ru.ok:fnA Tryz.prog Tryz.f263 [0,1,4,5,6,7,9,11,17,23,34]=some ru:=by kernel_rfl
end
end Go.Ev
