import Derived.Test.YtdclaaahnodljaaGreatDoorIrA
import Derived.Test.YtdclaaahnodljaaGreatDoorEvC
import Derived.Test.YtdclaaahnodljaaGreatDoorProg
import Derived.KernelRfl
set_option linter.unusedSimpArgs false
set_option linter.unusedVariables false
namespace Go.Ev
open Go Go.Proofs
set_option maxRecDepth 100000
noncomputable section

abbrev F60.fr:=fr12
def F60.b5:IR:=(iSr [.s (.entry aT6),.s (.ext 1 aS0),iWl 3 (.alloc [.zh,(.bool false)]),.w .none none (.store 2 aT3 aS0)] (.reg [iSm 2,.s (.zi 2 aT3),.w .push none (.zu 2 1 [.zh,(.bool false)] [(0,2,aS0)]),.w .push none (.appq 2 32 aS2 aS0),iQm 2 0]))
def F60.g4 (X5:IR):IR:=(.block 1 X5)
def F60.b4:IR:=F60.g4 F60.b5
def F60.g3 (X4:IR):IR:=(iSr [.w .push none (.next aT6),iQo 7 (.ext 0 aS0)] (.seq (.cond aT7 .skip (.exit 0)) X4))
def F60.b3:IR:=F60.g3 F60.b4
def F60.g2 (X3:IR):IR:=(.loop X3)
def F60.b2:IR:=F60.g2 F60.b3
def F60.g1 (X2:IR):IR:=(.block 0 X2)
def F60.b1:IR:=F60.g1 F60.b2
def F60.b12:IR:=(iSr [.s (.zk 2 aT8 rC),.s (.zi 2 aS0),iWl 5 (.alloc [.zh,(.bool false)]),.w .none none (.store 2 aT5 aS0)] (.reg [iSm 4,.s (.zi 2 aT5),.w .push none (.zu 2 1 [.zh,(.bool false)] [(0,2,aS0)]),.w .push none (.appq 2 32 aS2 aS0),iQm 4 0]))
def F60.g11 (X12:IR):IR:=(.block 3 X12)
def F60.b11:IR:=F60.g11 F60.b12
def F60.b13:IR:=(.reg [.s (.bin .add .int rC aC1),iQm 10 0])
def F60.g10 (X11 X13:IR):IR:=(.seq X11 X13)
def F60.b10:IR:=F60.g10 F60.b11 F60.b13
def F60.g9 (X10:IR):IR:=(iSr [iQo 11 (.bin .lss .int rC aT9)] (.seq (.cond su .skip (.exit 2)) X10))
def F60.b9:IR:=F60.g9 F60.b10
def F60.g8 (X9:IR):IR:=(.loop X9)
def F60.b8:IR:=F60.g8 F60.b9
def F60.g7 (X8:IR):IR:=(.block 2 X8)
def F60.b7:IR:=F60.g7 F60.b8
def F60.b14:IR:=(iSr [iSm 4,iQm 1 0] .ret)
def F60.g6 (X7 X14:IR):IR:=(iSr [iSm 2,.w .push none (.call (.c (.fn 113 (.of 113) [])) [aS0,(.c (.fn 114 (.of 114) []))])] (iSr [iQo 4 (.mv (.c .zh))] (.seq (iSr [iQo 8 (.mv aT2),iQo 9 (.len aT8),iQo 10 (.mv aC0)] X7) X14)))
def F60.b6:IR:=F60.g6 F60.b7 F60.b14
def F60.g0 (X1 X6:IR):IR:=(iSr [iQo 1 (.mv (.c .zh))] (iSr [iQo 2 (.mv (.c .zh))] (.seq (iSr [iSm 0,iWl 6 (.range aS0)] X1) X6)))
def F60.b0:IR:=F60.g0 F60.b1 F60.b6
def F60.res:List RV:=[.t (.of 1)]
def F60:Fn:={ params:=[(.of 0)],res:=F60.res,body:=F60.b0,init:=in12 }
theorem F60.ok:fnA Tryz.prog Tryz.f60 [0,2,3,5,6,8,10,12,21,22,23,24]=some F60:=by kernel_rfl
abbrev F63.fr:=fr2
def F63.b0:IR:=(iSr [iQo 1 (.mv aC0)] (iSr [iSm 0,.s (.len aS0),.s (.bin .gtr .int aS0 zfx),iCa 76 [aS0,aC5],iSm 0,.w .push none (.call (.c (.fn 66 (.of 66) [])) [aS0,(.c (.fn 67 (.of 67) []))]),iCa 76 [aS0,aC3],.w .push none (.zu 1 2 [(I 0)] [(0,1,aS3),(1,1,aS0)]),iCa 72 [aS0],iQm 1 0] .ret))
def F63.res:List RV:=[.t (.of 1)]
def F63:Fn:={ params:=[(.of 0)],res:=F63.res,body:=F63.b0,init:=in2 }
theorem F63.ok:fnA Tryz.prog Tryz.f63 [0,2]=some F63:=by kernel_rfl
abbrev F64.fr:=fr4
def F64.b0:IR:=(iSr [iWl 2 (.box aT0),iQo 3 (.mv aC0)] (.seq (.yj [] [(iSm 1,0,[]),(.s (.zx 0 aT2),1,[]),(.s (.load aS0),1,[]),(.s (.len aS0),1,[]),(iSm 1,1,[]),(.s (.bin .neq .int aS1 aS0),1,[]),(.s (.zx 0 aT2),2,[]),(.s (.load aS0),2,[]),(iCa 125 [aS7],0,[]),(iCa 76 [aS3,aC2],0,[]),(iCa 126 [aS2],0,[]),(.s (.not aS0),0,[]),(iCa 76 [aS0,aC14],0,[]),(.w .push none (.zu 1 3 [(I 0)] [(0,1,aS4),(1,1,aS3),(2,1,aS0)]),0,[]),(iCa 72 [aS0],0,[]),(iQm 3 0,0,[])]) .ret))
def F64.res:List RV:=[.t (.of 3)]
def F64:Fn:={ params:=[(.of 0),(.of 1)],res:=F64.res,body:=F64.b0,init:=in4 }
theorem F64.ok:fnA Tryz.prog Tryz.f64 [0,1,2,4]=some F64:=by kernel_rfl
abbrev F65.fr:=fr12
def F65.b7:IR:=(.reg [iSm 4,.s (.zx 0 aT2),.s (.load aS0),iSm 5,.s (.zk 1 aS1 aS0),.s (.load aS0),iSm 6,.s (.zk 1 aS6 aS1),.w .none none (.store 1 aS0 aS1)])
def F65.g6 (X7:IR):IR:=(iSr [iSm 9,.s (.zk 1 aT7 aT9),.s (.load aS0),iQm 5 2,iQm 6 0] (.seq (iSr [.s (.zx 1 aT2),iQo 11 (.load aS0)] (.cond su (.reg [iSm 1,.s (.len aS0),.s (.bin .add .int aS0 aC1),iSm 6,.s (.bin .sub .int aS1 aS0),iQm 6 0]) .skip)) X7))
def F65.b6:IR:=F65.g6 F65.b7
def F65.g5 (X6:IR):IR:=(.block 1 X6)
def F65.b5:IR:=F65.g5 F65.b6
def F65.b8:IR:=(.reg [.s (.bin .add .int aT9 aC1),iQm 9 0])
def F65.g4 (X5 X8:IR):IR:=(.seq X5 X8)
def F65.b4:IR:=F65.g4 F65.b5 F65.b8
def F65.g3 (X4:IR):IR:=(iSr [iQo 10 (.bin .lss .int aT9 aT8)] (.seq (.cond rC .skip (.exit 0)) X4))
def F65.b3:IR:=F65.g3 F65.b4
def F65.g2 (X3:IR):IR:=(.loop X3)
def F65.b2:IR:=F65.g2 F65.b3
def F65.g1 (X2:IR):IR:=(.block 0 X2)
def F65.b1:IR:=F65.g1 F65.b2
def F65.b9:IR:=(iSr [iSm 4,iQm 3 0] .ret)
def F65.g0 (X1 X9:IR):IR:=(iSr [iWl 2 (.box aT0),iQo 3 (.mv (.c .zh))] (iSr [iSm 1,.s (.len aS0),.w .push none (.xg 1 8 [(I 0)] aS0 aS0),iQm 4 0] (.seq (iSr [iQo 7 (.mv aT1),iQo 8 (.len aT7),iQo 9 (.mv aC0)] X1) X9)))
def F65.b0:IR:=F65.g0 F65.b1 F65.b9
def F65.res:List RV:=[.t (.of 3)]
def F65:Fn:={ params:=[(.of 0),(.of 1)],res:=F65.res,body:=F65.b0,init:=in12 }
theorem F65.ok:fnA Tryz.prog Tryz.f65 [0,1,2,4,5,6,7,11,12,13,14,19]=some F65:=by kernel_rfl
abbrev F66.fr:=fr3
def F66.b0:IR:=(iSr [iQo 2 (.mv (.c (.bool false)))] (iSr [iSm 0,iSm 1,iCa 127 [aS1,aS0],.s (.bin .geq .int aS0 aC0),iQm 2 0] .ret))
def F66.res:List RV:=[.t (.of 2)]
def F66:Fn:={ params:=[(.of 0),(.of 1)],res:=F66.res,body:=F66.b0,init:=in3 }
theorem F66.ok:fnA Tryz.prog Tryz.f66 [0,1,4]=some F66:=by kernel_rfl
abbrev F67.fr:=fr2
def F67.b0:IR:=(iSr [iQo 1 (.mv (.c (.bool false)))] (iSr [iSm 0,.s (.bin .lss .int aS0 (.c (I (-999999999)))),.s (.mv aS0),iPf 0 (.mv aT0),iPf 1 (.bin .gtr .int aS0 dB),.s (.pick aS2 (.c (.bool true)) aS0),iQm 1 0] .ret))
def F67.res:List RV:=[.t (.of 1)]
def F67:Fn:={ params:=[(.of 0)],res:=F67.res,body:=F67.b0,init:=in2 }
theorem F67.ok:fnA Tryz.prog Tryz.f67 [0,2]=some F67:=by kernel_rfl
abbrev F68.fr:=fr6
def F68.b1:IR:=(iSr [iSm 0,iSm 1,iCa 129 [aS1,aS0],.s (.ext 0 aS0),.s (.ext 1 aS1),iQm 2 1,iQm 3 0] .ret)
def F68.g0 (X1:IR):IR:=(iSr [iQo 2 (.mv (.c .zh)),iQo 3 (.mv aC0)] (.seq (iSr [iSm 0,iSm 1,iCa 128 [aS1,aS0],iQm 4 0] (iSr [iSm 4,iQo 5 (.bin .neq .int aS0 aC0)] (.cond aT5 (iSr [iSm 4,iQo 2 (.mv (.c .zh)),iQm 3 0] .ret) .skip))) X1))
def F68.b0:IR:=F68.g0 F68.b1
def F68.res:List RV:=[.t (.of 2),.t (.of 3)]
def F68:Fn:={ params:=[(.of 0),(.of 1)],res:=F68.res,body:=F68.b0,init:=in6 }
theorem F68.ok:fnA Tryz.prog Tryz.f68 [0,1,4,5,6,11]=some F68:=by kernel_rfl
abbrev F70.fr:=fr6
def F70.b0:IR:=(iSr [iWl 3 (.box aT0),iWl 4 (.box aT1),iQo 5 (.mv aC0)] (iSr [iSm 2,.s (.fn 131 (.of 131) [aT3,aT4]),iCa 66 [aS1,aS0],iCa 44 [aS0,aC3],iQm 5 0] .ret))
def F70.res:List RV:=[.t (.of 5)]
def F70:Fn:={ params:=[(.of 0),(.of 1),(.of 2)],res:=F70.res,body:=F70.b0,init:=in6 }
theorem F70.ok:fnA Tryz.prog Tryz.f70 [0,1,2,3,4,6]=some F70:=by kernel_rfl
abbrev F72.fr:=fr8
def F72.b6:IR:=(iSr [.s (.zk 1 aT3 aT5),.s (.load aS0),iQm 2 0] (iSr [iSm 2,iQo 7 (.bin .neq .int aS0 aC0)] (.cond aT7 (iSr [iSm 2,iQm 1 0] .ret) .skip)))
def F72.g5 (X6:IR):IR:=(.block 1 X6)
def F72.b5:IR:=F72.g5 F72.b6
def F72.b7:IR:=(.reg [.s (.bin .add .int aT5 aC1),iQm 5 0])
def F72.g4 (X5 X7:IR):IR:=(.seq X5 X7)
def F72.b4:IR:=F72.g4 F72.b5 F72.b7
def F72.g3 (X4:IR):IR:=(iSr [iQo 6 (.bin .lss .int aT5 aT4)] (.seq (.cond aT6 .skip (.exit 0)) X4))
def F72.b3:IR:=F72.g3 F72.b4
def F72.g2 (X3:IR):IR:=(.loop X3)
def F72.b2:IR:=F72.g2 F72.b3
def F72.g1 (X2:IR):IR:=(.block 0 X2)
def F72.b1:IR:=F72.g1 F72.b2
def F72.b8:IR:=(iSr [iQo 1 (.mv aC0)] .ret)
def F72.g0 (X1 X8:IR):IR:=(iSr [iQo 1 (.mv aC0)] (.seq (iSr [iQo 3 (.mv aT0),iQo 4 (.len aT3),iQo 5 (.mv aC0)] X1) X8))
def F72.b0:IR:=F72.g0 F72.b1 F72.b8
def F72.res:List RV:=[.t (.of 1)]
def F72:Fn:={ params:=[(.of 0)],res:=F72.res,body:=F72.b0,init:=in8 }
theorem F72.ok:fnA Tryz.prog Tryz.f72 [0,2,4,5,6,7,8,12]=some F72:=by kernel_rfl
abbrev F73.fr:=fr11
def F73.b7:IR:=(iSr [iSm 8,iQm 4 0] (iSr [.s (.zi 2 aT1),iSm 4,iCa 136 [aS1,aS0],iQm 5 0] (iSr [iSm 5,iQo 10 (.bin .neq .int aS0 aC0)] (.cond rC (iSr [iSm 5,iQm 2 0] .ret) .skip))))
def F73.g6 (X7:IR):IR:=(.block 1 X7)
def F73.b6:IR:=F73.g6 F73.b7
def F73.b8:IR:=(.reg [.s (.bin .add .int aT8 aC1),iQm 8 0])
def F73.g5 (X6 X8:IR):IR:=(.seq X6 X8)
def F73.b5:IR:=F73.g5 F73.b6 F73.b8
def F73.g4 (X5:IR):IR:=(iSr [iQo 9 (.bin .lss .int aT8 aT7)] (.seq (.cond aT9 .skip (.exit 0)) X5))
def F73.b4:IR:=F73.g4 F73.b5
def F73.g3 (X4:IR):IR:=(.loop X4)
def F73.b3:IR:=F73.g3 F73.b4
def F73.g2 (X3:IR):IR:=(.block 0 X3)
def F73.b2:IR:=F73.g2 F73.b3
def F73.b9:IR:=(iSr [iQo 2 (.mv aC0)] .ret)
def F73.g1 (X2 X9:IR):IR:=(.seq (iSr [.s (.zx 1 aT1),.s (.load aS0),iQo 7 (.len aS0),iQo 8 (.mv aC0)] X2) X9)
def F73.b1:IR:=F73.g1 F73.b2 F73.b9
def F73.g0 (X1:IR):IR:=(iSr [iWl 1 (.box aT0),iQo 2 (.mv aC0)] (.seq (.seq (.yj [] [(.s (.zx 0 aT1),0,[]),(.s (.load aS0),0,[]),(.s (.zx 1 aT1),2,[]),(.s (.load aS0),2,[]),(.s (.len aS0),2,[]),(.s (.bin .gtr .int aS0 zy6),2,[]),(.w .push none (.zu 1 1 [(I 0)] [(0,1,aS4)]),0,[]),(iCa 70 [aC1,zfx,aS0],0,[]),(iCa 44 [aS2,aC5],0,[]),(.w .push none (.zu 1 2 [(I 0)] [(0,1,aS1),(1,1,aS0)]),0,[]),(iCa 42 [aS0],0,[]),(iQm 3 0,0,[])]) (iSr [iSm 3,iQo 6 (.bin .neq .int aS0 aC0)] (.cond aT6 (iSr [iSm 3,iQm 2 0] .ret) .skip))) X1))
def F73.b0:IR:=F73.g0 F73.b1
def F73.res:List RV:=[.t (.of 2)]
def F73:Fn:={ params:=[(.of 0)],res:=F73.res,body:=F73.b0,init:=in11 }
theorem F73.ok:fnA Tryz.prog Tryz.f73 [0,1,2,3,4,5,18,22,23,24,30]=some F73:=by kernel_rfl
abbrev F74.fr:=fr9
def F74.b6:IR:=(iSr [.s (.zk 1 aT5 aT7),.s (.load aS0),iQm 4 0] (.yj [] [(.s (.load aT3),1,[]),(iSm 4,0,[]),(.s (.build [.zh,(.bool false)] [(0,1,aS0)]),0,[]),(iCa 112 [aS0],0,[]),(.w .none none (.zaq .str aS3 aS0 (.c (.bool true))),0,[])]))
def F74.g5 (X6:IR):IR:=(.block 1 X6)
def F74.b5:IR:=F74.g5 F74.b6
def F74.b7:IR:=(.reg [.s (.bin .add .int aT7 aC1),iQm 7 0])
def F74.g4 (X5 X7:IR):IR:=(.seq X5 X7)
def F74.b4:IR:=F74.g4 F74.b5 F74.b7
def F74.g3 (X4:IR):IR:=(iSr [iQo 8 (.bin .lss .int aT7 aT6)] (.seq (.cond aT8 .skip (.exit 0)) X4))
def F74.b3:IR:=F74.g3 F74.b4
def F74.g2 (X3:IR):IR:=(.loop X3)
def F74.b2:IR:=F74.g2 F74.b3
def F74.g1 (X2:IR):IR:=(.block 0 X2)
def F74.b1:IR:=F74.g1 F74.b2
def F74.b8:IR:=(iSr [.s (.fn 137 (.of 137) [aT3]),iQm 2 0] .ret)
def F74.g0 (X1 X8:IR):IR:=(iSr [iWl 1 (.box aT0),iQo 2 (.mv (.c .rY))] (iSr [.w .push none .sU,iWl 3 (.alloc [.xk]),.w .none none (.store 1 aT3 aS0)] (.seq (iSr [.s (.zx 1 aT1),iQo 5 (.load aS0),iQo 6 (.len aT5),iQo 7 (.mv aC0)] X1) X8)))
def F74.b0:IR:=F74.g0 F74.b1 F74.b8
def F74.res:List RV:=[.t (.of 2)]
def F74:Fn:={ params:=[(.of 0)],res:=F74.res,body:=F74.b0,init:=in9 }
theorem F74.ok:fnA Tryz.prog Tryz.f74 [0,1,2,3,5,8,9,10,11]=some F74:=by kernel_rfl
abbrev F76.fr:=fr4
def F76.b1:IR:=(iSr [iQo 2 (.mv aC0)] .ret)
def F76.g0 (X1:IR):IR:=(iSr [iQo 2 (.mv aC0)] (.seq (iSr [iQo 3 (.mv aT0)] (.cond aT3 (iSr [iSm 1,iQm 2 0] .ret) .skip)) X1))
def F76.b0:IR:=F76.g0 F76.b1
def F76.res:List RV:=[.t (.of 2)]
def F76:Fn:={ params:=[(.of 0),(.of 1)],res:=F76.res,body:=F76.b0,init:=in4 }
theorem F76.ok:fnA Tryz.prog Tryz.f76 [0,1,4,5]=some F76:=by kernel_rfl
abbrev F84.fr:=fr4
def F84.b0:IR:=(iSr [iQo 2 (.mv aC0)] (iSr [iSm 0,iSm 1,iCa 143 [aS1,aS0],.s (.mv aS0),.s (.ext 0 aS0),.s (.ext 1 aS1),.s (.ext 2 aS2),.s (.mv aS2),.s (.mv aS2),iQm 3 2] (iSr [iSm 3,iQm 2 0] .ret)))
def F84.res:List RV:=[.t (.of 2)]
def F84:Fn:={ params:=[(.of 0),(.of 1)],res:=F84.res,body:=F84.b0,init:=in4 }
theorem F84.ok:fnA Tryz.prog Tryz.f84 [0,1,4,7]=some F84:=by kernel_rfl
abbrev F86.fr:=fr3
def F86.b0:IR:=(iSr [iWl 1 (.box aT0),iQo 2 (.mv (.c .rY))] (iSr [.s (.fn 144 (.of 144) [aT1]),iQm 2 0] .ret))
def F86.res:List RV:=[.t (.of 2)]
def F86:Fn:={ params:=[(.of 0)],res:=F86.res,body:=F86.b0,init:=in3 }
theorem F86.ok:fnA Tryz.prog Tryz.f86 [0,1,2]=some F86:=by kernel_rfl
abbrev F95.fr:=fr23
def F95.b14:IR:=(iSr [.s (.zk 1 aI aJ),.s (.load aS0),iQm 10 0] (iSr [.s (.load aT6),.s (.load aT3),iSm 10,.w .push none (.call aS2 [aS1,aS0]),iQo 21 (.not aS0)] (.cond aT21 (.exit 1) .skip)))
def F95.g13 (X14:IR):IR:=(.block 3 X14)
def F95.b13:IR:=F95.g13 F95.b14
def F95.b15:IR:=(.reg [.s (.bin .add .int aJ aC1),iQm 19 0])
def F95.g12 (X13 X15:IR):IR:=(.seq X13 X15)
def F95.b12:IR:=F95.g12 F95.b13 F95.b15
def F95.g11 (X12:IR):IR:=(iSr [iQo 20 (.bin .lss .int aJ aT18)] (.seq (.cond aT20 .skip (.exit 2)) X12))
def F95.b11:IR:=F95.g11 F95.b12
def F95.g10 (X11:IR):IR:=(.loop X11)
def F95.b10:IR:=F95.g10 F95.b11
def F95.g9 (X10:IR):IR:=(.block 2 X10)
def F95.b9:IR:=F95.g9 F95.b10
def F95.b16:IR:=(iSr [.s (.load aT4),iSm 9,.s (.zk 1 aS1 aS0),.w .none none (.store 1 aS0 (.c (.bool true)))] (iSr [.s (.load aT7),iSm 0,.s (.bin .add .int aS0 aC1),.w .push none (.call aS2 [aS0]),iQm 11 0] (iSr [.s (.load aT4),iSm 9,.s (.zk 1 aS1 aS0),.w .none none (.store 1 aS0 (.c (.bool false)))] (iSr [iSm 11,iQo 22 (.not aS0)] (.cond aT22 (iSr [iQo 8 (.mv (.c (.bool false)))] .ret) .skip)))))
def F95.g8 (X9 X16:IR):IR:=(iSr [.s (.load aT3),iSm 0,iSm 9,.s (.zk 1 aS2 aS1),.w .none none (.store 1 aS0 aS1)] (.seq (iSr [.s (.load aT5),iSm 0,.s (.zk 1 aS1 aS0),iQo 17 (.load aS0),iQo 18 (.len aI),iQo 19 (.mv aC0)] X9) X16))
def F95.b8:IR:=F95.g8 F95.b9 F95.b16
def F95.g7 (X8:IR):IR:=(iSr [iSm 14,iQm 9 0] (.seq (iSr [.s (.load aT4),iSm 9,.s (.zk 1 aS1 aS0),iQo 16 (.load aS0)] (.cond oP (.exit 1) .skip)) X8))
def F95.b7:IR:=F95.g7 F95.b8
def F95.g6 (X7:IR):IR:=(.block 1 X7)
def F95.b6:IR:=F95.g6 F95.b7
def F95.b17:IR:=(.reg [.s (.bin .add .int aT14 aC1),iQm 14 0])
def F95.g5 (X6 X17:IR):IR:=(.seq X6 X17)
def F95.b5:IR:=F95.g5 F95.b6 F95.b17
def F95.g4 (X5:IR):IR:=(iSr [iQo 15 (.bin .lss .int aT14 tu)] (.seq (.cond aT15 .skip (.exit 0)) X5))
def F95.b4:IR:=F95.g4 F95.b5
def F95.g3 (X4:IR):IR:=(.loop X4)
def F95.b3:IR:=F95.g3 F95.b4
def F95.g2 (X3:IR):IR:=(.block 0 X3)
def F95.b2:IR:=F95.g2 F95.b3
def F95.b18:IR:=(iSr [iQo 8 (.mv (.c (.bool true)))] .ret)
def F95.g1 (X2 X18:IR):IR:=(.seq .skip (.seq (iSr [.s (.zx 0 aT1),iQo 13 (.load aS0),iQo 14 (.mv aC0)] X2) X18))
def F95.b1:IR:=F95.g1 F95.b2 F95.b18
def F95.g0 (X1:IR):IR:=(iSr [iQo 8 (.mv (.c (.bool false)))] (.seq (iSr [iSm 0,.s (.zx 0 aT1),.s (.load aS0),iQo 12 (.bin .eql .int aS2 aS0)] (.cond aA (.seq (.yj [] [(.s (.load aT2),2,[]),(.s (.load aT3),0,[]),(iCa 48 [aS0],0,[]),(.s (.build [.zh,(.bool false)] [(0,1,aS0)]),0,[]),(.w .push none (.zu 2 1 [.zh,(.bool false)] [(0,2,aS0)]),0,[]),(.w .push none (.appq 2 32 aS4 aS0),0,[]),(.w .none none (.store 1 aT2 aS0),0,[])]) (iSr [.s (.load aT2),.s (.len aS0),.s (.bin .leq .int aS0 zo8),iQm 8 0] .ret)) .skip)) X1))
def F95.b0:IR:=F95.g0 F95.b1
def F95.res:List RV:=[.t (.of 8)]
def F95:Fn:={ params:=[(.of 0),(.of 1),(.of 2),(.of 3),(.of 4),(.of 5),(.of 6),(.of 7)],res:=F95.res,body:=F95.b0,init:=in23 }
theorem F95.ok:fnA Tryz.prog Tryz.f95 [0,1,2,3,4,5,6,7,9,10,12,13,17,28,29,30,35,43,44,45,46,53,66]=some F95:=by kernel_rfl
abbrev F96.fr:=fr31
def F96.b8:IR:=(iSr [iSm 19,.s (.zk 1 aI aJ),.s (.load aS0),iQm 6 2,iQm 7 0] (iSr [iSm 7,.s (.len aS0),iSm 4,.s (.bin .neq .int aS1 aS0),iCa 105 [aS0,aC2],iSm 7,iCa 160 [aS0],iCa 105 [aS0,aC3],iSm 6,.s (.bin .gtr .int aS0 aC0),.s (.mv aS0),iPt 0 (.mv aT1),iPt 1 (.mv aT6),iPt 2 (.bin .sub .int aS0 aC1),iPt 3 (.zk 1 aS2 aS0),iPt 4 (.load aS0),iPt 5 (.mv aT7),.w .push (some (aS6,true)) (.call (.c (.fn 161 (.of 161) [])) [aS1,aS0]),iPt 7 (.bin .geq .int aS0 aC0),.s (.pick aS8 aS0 (.c (.bool false))),iCa 105 [aS0,aC11],.w .push none (.zu 1 3 [(I 0)] [(0,1,aS16),(1,1,aS13),(2,1,aS0)]),iCa 104 [aS0],iQm 8 0] (iSr [iSm 8,iQo 21 (.bin .neq .int aS0 aC0)] (.cond aT21 (iSr [iSm 8,iQo 2 (.mv (.c .zh)),iQm 3 0] .ret) .skip))))
def F96.g7 (X8:IR):IR:=(.block 1 X8)
def F96.b7:IR:=F96.g7 F96.b8
def F96.b9:IR:=(.reg [.s (.bin .add .int aJ aC1),iQm 19 0])
def F96.g6 (X7 X9:IR):IR:=(.seq X7 X9)
def F96.b6:IR:=F96.g6 F96.b7 F96.b9
def F96.g5 (X6:IR):IR:=(iSr [iQo 20 (.bin .lss .int aJ aT18)] (.seq (.cond aT20 .skip (.exit 0)) X6))
def F96.b5:IR:=F96.g5 F96.b6
def F96.g4 (X5:IR):IR:=(.loop X5)
def F96.b4:IR:=F96.g4 F96.b5
def F96.g3 (X4:IR):IR:=(.block 0 X4)
def F96.b3:IR:=F96.g3 F96.b4
def F96.b23:IR:=(.reg [iSm 11,iSm 13,.w .push none (.zu 1 1 [(I 0)] [(0,1,aS0)]),.w .push none (.app 1 8 aS2 aS0),iQm 11 0])
def F96.g22 (X23:IR):IR:=(iSr [.s (.zk 1 aT26 aT28),.s (.load aS0),iQm 12 0] (iSr [iSm 1,.s (.zi 2 rC),iSm 12,iCa 163 [aS1,aS0],.w .push none (.call (.c (.fn 162 (.of 162) [])) [aS3,aS0,(.c (.fn 161 (.of 161) []))]),.s (.mv aS0),.s (.ext 0 aS0),.s (.ext 1 aS1),iQm 13 1,iQm 14 0] (.seq (iSr [iSm 14,iQo 30 (.not aS0)] (.cond aT30 (iSr [iQo 2 (.mv (.c .zh)),iQo 3 (.mv aC7)] .ret) .skip)) X23)))
def F96.b22:IR:=F96.g22 F96.b23
def F96.g21 (X22:IR):IR:=(.block 5 X22)
def F96.b21:IR:=F96.g21 F96.b22
def F96.b24:IR:=(.reg [.s (.bin .add .int aT28 aC1),iQm 28 0])
def F96.g20 (X21 X24:IR):IR:=(.seq X21 X24)
def F96.b20:IR:=F96.g20 F96.b21 F96.b24
def F96.g19 (X20:IR):IR:=(iSr [iQo 29 (.bin .lss .int aT28 aT27)] (.seq (.cond aT29 .skip (.exit 4)) X20))
def F96.b19:IR:=F96.g19 F96.b20
def F96.g18 (X19:IR):IR:=(.loop X19)
def F96.b18:IR:=F96.g18 F96.b19
def F96.g17 (X18:IR):IR:=(.block 4 X18)
def F96.b17:IR:=F96.g17 F96.b18
def F96.b25:IR:=(.reg [iSm 9,iSm 11,.w .push none (.zu 1 1 [.zh] [(0,1,aS0)]),.w .push none (.app 1 24 aS2 aS0),iQm 9 0])
def F96.g16 (X17 X25:IR):IR:=(iSr [.s (.zk 2 aT22 aT24),.s (.zi 2 aS0),iWl 10 (.alloc [.zh,(.bool false)]),.w .none none (.store 2 rC aS0)] (iSr [iQo 11 (.mv (.c .zh))] (.seq (iSr [iQo 26 (.mv aT1),iQo 27 (.len aT26),iQo 28 (.mv aC0)] X17) X25)))
def F96.b16:IR:=F96.g16 F96.b17 F96.b25
def F96.g15 (X16:IR):IR:=(.block 3 X16)
def F96.b15:IR:=F96.g15 F96.b16
def F96.b26:IR:=(.reg [.s (.bin .add .int aT24 aC1),iQm 24 0])
def F96.g14 (X15 X26:IR):IR:=(.seq X15 X26)
def F96.b14:IR:=F96.g14 F96.b15 F96.b26
def F96.g13 (X14:IR):IR:=(iSr [iQo 25 (.bin .lss .int aT24 aT23)] (.seq (.cond aT25 .skip (.exit 2)) X14))
def F96.b13:IR:=F96.g13 F96.b14
def F96.g12 (X13:IR):IR:=(.loop X13)
def F96.b12:IR:=F96.g12 F96.b13
def F96.g11 (X12:IR):IR:=(.block 2 X12)
def F96.b11:IR:=F96.g11 F96.b12
def F96.b27:IR:=(iSr [iSm 9,iQm 2 0,iQo 3 (.mv aC0)] .ret)
def F96.g10 (X11 X27:IR):IR:=(iSr [iQo 9 (.mv (.c .zh))] (.seq (iSr [iQo 22 (.mv aT0),iQo 23 (.len aT22),iQo 24 (.mv aC0)] X11) X27))
def F96.b10:IR:=F96.g10 F96.b11 F96.b27
def F96.g2 (X3 X10:IR):IR:=(.seq (iSr [iQo 17 (.mv aT1),iQo 18 (.len aI),iQo 19 (.mv aC0)] X3) X10)
def F96.b2:IR:=F96.g2 F96.b3 F96.b10
def F96.g1 (X2:IR):IR:=(.seq (iSr [iSm 0,iSm 4,iCa 84 [aS1,aS0],iSm 1,.s (.len aS0),.s (.bin .gtr .int aS0 zo7),iCa 105 [aS0,aC5],.w .push none (.zu 1 2 [(I 0)] [(0,1,aS4),(1,1,aS0)]),iCa 104 [aS0],iQm 5 0] (iSr [iSm 5,iQo 16 (.bin .neq .int aS0 aC0)] (.cond oP (iSr [iSm 5,iQo 2 (.mv (.c .zh)),iQm 3 0] .ret) .skip))) X2)
def F96.b1:IR:=F96.g1 F96.b2
def F96.g0 (X1:IR):IR:=(iSr [iQo 2 (.mv (.c .zh)),iQo 3 (.mv aC0)] (iSr [iQo 4 (.mv aC0)] (.seq (iSr [iSm 0,.s (.len aS0),iQo 15 (.bin .gtr .int aS0 aC0)] (.cond aT15 (.reg [iSm 0,.s (.zk 2 aS0 aC0),.s (.zx 0 aS0),.s (.load aS0),.s (.len aS0),iQm 4 0]) .skip)) X1)))
def F96.b0:IR:=F96.g0 F96.b1
def F96.res:List RV:=[.t (.of 2),.t (.of 3)]
def F96:Fn:={ params:=[(.of 0),(.of 1)],res:=F96.res,body:=F96.b0,init:=in31 }
theorem F96.ok:fnA Tryz.prog Tryz.f96 [0,1,4,5,6,7,8,9,10,11,13,14,16,17,18,21,37,39,40,41,42,70,73,74,75,76,79,80,81,82,94]=some F96:=by kernel_rfl
abbrev F97.fr:=fr4
def F97.b0:IR:=(iSr [iWl 2 (.box aT0),iQo 3 (.mv aC0)] (.seq (.yj [] [(.s (.zi 2 aT2),0,[]),(iSm 1,1,[]),(.s (.len aS0),1,[]),(.s (.zx 0 aT2),1,[]),(.s (.load aS0),1,[]),(.s (.bin .neq .int aS2 aS0),1,[]),(iSm 1,2,[]),(iCa 73 [aS6],0,[]),(iCa 44 [aS2,aC2],0,[]),(iCa 109 [aS2],0,[]),(.w .push none (.zu 1 3 [(I 0)] [(0,1,aS2),(1,1,aS1),(2,1,aS0)]),0,[]),(iCa 42 [aS0],0,[]),(iQm 3 0,0,[])]) .ret))
def F97.res:List RV:=[.t (.of 3)]
def F97:Fn:={ params:=[(.of 0),(.of 1)],res:=F97.res,body:=F97.b0,init:=in4 }
theorem F97.ok:fnA Tryz.prog Tryz.f97 [0,1,2,4]=some F97:=by kernel_rfl
abbrev F98.fr:=fr5
def F98.b0:IR:=(iSr [iWl 2 (.box aT0),iQo 3 (.mv aC0)] (iSr [.s (.zi 2 aT2),iSm 1,iCa 164 [aS1,aS0],iWl 4 (.alloc [.zh]),.w .none none (.store 1 aT4 aS0)] (iSr [.s (.load aT4),.s (.fn 165 (.of 165) [aT4]),iCa 127 [aS1,aS0],iQm 3 0] .ret)))
def F98.res:List RV:=[.t (.of 3)]
def F98:Fn:={ params:=[(.of 0),(.of 1)],res:=F98.res,body:=F98.b0,init:=in5 }
theorem F98.ok:fnA Tryz.prog Tryz.f98 [0,1,2,4,5]=some F98:=by kernel_rfl
abbrev F99.fr:=fr6
def F99.b1:IR:=(iSr [.s (.zi 2 aT1),iCa 166 [aS0],iQm 2 0,iQo 3 (.mv aC0)] .ret)
def F99.g0 (X1:IR):IR:=(iSr [iWl 1 (.box aT0),iQo 2 (.mv (.c .zh)),iQo 3 (.mv aC0)] (.seq (.seq (.yj [] [(.s (.zi 2 aT1),0,[]),(.s (.zx 1 aT1),1,[]),(.s (.load aS0),1,[]),(.s (.len aS0),1,[]),(.s (.bin .eql .int aS0 aC0),1,[]),(iCa 46 [aS4],0,[]),(iCa 105 [aS1,aC12],0,[]),(.w .push none (.zu 1 2 [(I 0)] [(0,1,aS1),(1,1,aS0)]),0,[]),(iCa 104 [aS0],0,[]),(iQm 4 0,0,[])]) (iSr [iSm 4,iQo 5 (.bin .neq .int aS0 aC0)] (.cond aT5 (iSr [iSm 4,iQo 2 (.mv (.c .zh)),iQm 3 0] .ret) .skip))) X1))
def F99.b0:IR:=F99.g0 F99.b1
def F99.res:List RV:=[.t (.of 2),.t (.of 3)]
def F99:Fn:={ params:=[(.of 0)],res:=F99.res,body:=F99.b0,init:=in6 }
theorem F99.ok:fnA Tryz.prog Tryz.f99 [0,1,2,3,4,15]=some F99:=by kernel_rfl
abbrev oG.fr:=fr4
def oG.b0:IR:=(iSr [iWl 2 (.box aT1),iQo 3 (.mv (.c (.bool false)))] (iSr [iSm 0,.s (.zi 2 aT2),iCa 167 [aS1,aS0],.s (.bin .geq .int aS0 aC0),iQm 3 0] .ret))
def oG.res:List RV:=[.t (.of 3)]
def oG:Fn:={ params:=[(.of 0),(.of 1)],res:=oG.res,body:=oG.b0,init:=in4 }
theorem oG.ok:fnA Tryz.prog Tryz.f100 [0,1,3,4]=some oG:=by kernel_rfl
abbrev eU.fr:=fr3
def eU.b0:IR:=(iSr [iQo 1 (.mv (.c .zh))] (iSr [iSm 0,iCa 168 [aS0],iQm 2 0] (iSr [iSm 2,iCa 138 [aS0]] (iSr [iSm 2,iQm 1 0] .ret))))
def eU.res:List RV:=[.t (.of 1)]
def eU:Fn:={ params:=[(.of 0)],res:=eU.res,body:=eU.b0,init:=in3 }
theorem eU.ok:fnA Tryz.prog Tryz.f101 [0,2,3]=some eU:=by kernel_rfl
abbrev eP.fr:=fr3
def eP.b0:IR:=(iSr [iWl 1 (.box aT0),iQo 2 (.mv (.c .rY))] (iSr [.s (.fn 169 (.of 169) [aT1]),iQm 2 0] .ret))
def eP.res:List RV:=[.t (.of 2)]
def eP:Fn:={ params:=[(.of 0)],res:=eP.res,body:=eP.b0,init:=in3 }
theorem eP.ok:fnA Tryz.prog Tryz.f102 [0,1,2]=some eP:=by kernel_rfl
abbrev uo.fr:=fr8
def uo.b6:IR:=(iSr [.s (.zk 1 aT4 aT6),.s (.load aS0),iQm 3 0] (.reg [iSm 2,iSm 3,iCa 170 [aS0],.w .push none (.zu 1 1 [(.str [])] [(0,1,aS0)]),.w .push none (.app 1 16 aS3 aS0),iQm 2 0]))
def uo.g5 (X6:IR):IR:=(.block 1 X6)
def uo.b5:IR:=uo.g5 uo.b6
def uo.b7:IR:=(.reg [.s (.bin .add .int aT6 aC1),iQm 6 0])
def uo.g4 (X5 X7:IR):IR:=(.seq X5 X7)
def uo.b4:IR:=uo.g4 uo.b5 uo.b7
def uo.g3 (X4:IR):IR:=(iSr [iQo 7 (.bin .lss .int aT6 aT5)] (.seq (.cond aT7 .skip (.exit 0)) X4))
def uo.b3:IR:=uo.g3 uo.b4
def uo.g2 (X3:IR):IR:=(.loop X3)
def uo.b2:IR:=uo.g2 uo.b3
def uo.g1 (X2:IR):IR:=(.block 0 X2)
def uo.b1:IR:=uo.g1 uo.b2
def uo.b8:IR:=(iSr [iSm 2,.w .push none (.call (.c (.fn 171 (.of 171) [])) [aS0,(.c (.str [32]))]),iQm 1 0] .ret)
def uo.g0 (X1 X8:IR):IR:=(iSr [iQo 1 (.mv (.c (.str [])))] (iSr [iQo 2 (.mv (.c .zh))] (.seq (iSr [iQo 4 (.mv aT0),iQo 5 (.len aT4),iQo 6 (.mv aC0)] X1) X8)))
def uo.b0:IR:=uo.g0 uo.b1 uo.b8
def uo.res:List RV:=[.t (.of 1)]
def uo:Fn:={ params:=[(.of 0)],res:=uo.res,body:=uo.b0,init:=in8 }
theorem uo.ok:fnA Tryz.prog Tryz.f103 [0,2,3,5,6,7,8,9]=some uo:=by kernel_rfl
abbrev uh.fr:=fr8
def uh.b6:IR:=(iSr [.s (.zk 1 aT3 aT5),.s (.load aS0),iQm 2 0] (iSr [iSm 2,iQo 7 (.bin .neq .int aS0 aC0)] (.cond aT7 (iSr [iSm 2,iQm 1 0] .ret) .skip)))
def uh.g5 (X6:IR):IR:=(.block 1 X6)
def uh.b5:IR:=uh.g5 uh.b6
def uh.b7:IR:=(.reg [.s (.bin .add .int aT5 aC1),iQm 5 0])
def uh.g4 (X5 X7:IR):IR:=(.seq X5 X7)
def uh.b4:IR:=uh.g4 uh.b5 uh.b7
def uh.g3 (X4:IR):IR:=(iSr [iQo 6 (.bin .lss .int aT5 aT4)] (.seq (.cond aT6 .skip (.exit 0)) X4))
def uh.b3:IR:=uh.g3 uh.b4
def uh.g2 (X3:IR):IR:=(.loop X3)
def uh.b2:IR:=uh.g2 uh.b3
def uh.g1 (X2:IR):IR:=(.block 0 X2)
def uh.b1:IR:=uh.g1 uh.b2
def uh.b8:IR:=(iSr [iQo 1 (.mv aC0)] .ret)
def uh.g0 (X1 X8:IR):IR:=(iSr [iQo 1 (.mv aC0)] (.seq (iSr [iQo 3 (.mv aT0),iQo 4 (.len aT3),iQo 5 (.mv aC0)] X1) X8))
def uh.b0:IR:=uh.g0 uh.b1 uh.b8
def uh.res:List RV:=[.t (.of 1)]
def uh:Fn:={ params:=[(.of 0)],res:=uh.res,body:=uh.b0,init:=in8 }
theorem uh.ok:fnA Tryz.prog Tryz.f104 [0,2,4,5,6,7,8,12]=some uh:=by kernel_rfl
abbrev tY.fr:=fr4
def tY.b1:IR:=(iSr [iQo 2 (.mv aC0)] .ret)
def tY.g0 (X1:IR):IR:=(iSr [iQo 2 (.mv aC0)] (.seq (iSr [iQo 3 (.mv aT0)] (.cond aT3 (iSr [iSm 1,iQm 2 0] .ret) .skip)) X1))
def tY.b0:IR:=tY.g0 tY.b1
def tY.res:List RV:=[.t (.of 2)]
def tY:Fn:={ params:=[(.of 0),(.of 1)],res:=tY.res,body:=tY.b0,init:=in4 }
theorem tY.ok:fnA Tryz.prog Tryz.f105 [0,1,4,5]=some tY:=by kernel_rfl
abbrev oH.fr:=fr8
def oH.b0:IR:=(iSr [iWl 3 (.box aT0)] (iSr [.s (.zx 0 aT1),.s (.load aS0),.w .push none (.xg 1 8 [(I 0)] aS0 aS0),iWl 4 (.alloc [.zh]),.w .none none (.store 1 aT4 aS0)] (iSr [.s (.zi 2 aT1),iCa 107 [aS0],iWl 5 (.alloc [.zh]),.w .none none (.store 1 aT5 aS0)] (iSr [iWl 6 (.alloc [(.int .u64 0)])] (iSr [iWl 7 (.alloc [.rY])] (iSr [.s (.fn 108 (.of 108) [aT1,aT3,aT4,aT6,aT5,aT2,aT7]),.w .none none (.store 1 aT7 aS0)] (.reg [.s (.load aT7),.w .push none (.call aS0 [aC0])])))))))
def oH.res:List RV:=[]
def oH:Fn:={ params:=[(.of 0),(.of 1),(.of 2)],res:=oH.res,body:=oH.b0,init:=in8 }
theorem oH.ok:fnA Tryz.prog Tryz.f106 [0,1,2,3,4,5,6,7]=some oH:=by kernel_rfl
abbrev ku.fr:=fr10
def ku.b6:IR:=(iSr [.s (.zk 1 aT6 aT8),.s (.load aS0),iQm 4 0] (iSr [iSm 4,iSm 4,.s (.len aS0),.s (.bin .sub .int aS0 aC1),.s (.zk 1 aS3 aS0),.s (.load aS0),iQm 5 0] (.reg [iSm 3,iSm 5,iSm 3,iSm 5,.s (.zk 1 aS1 aS0),.s (.load aS0),iSm 4,.w .push none (.zu 1 1 [.zh] [(0,1,aS0)]),.w .push none (.app 1 24 aS2 aS0),.s (.zk 1 aS8 aS7),.w .none none (.store 1 aS0 aS1)])))
def ku.g5 (X6:IR):IR:=(.block 1 X6)
def ku.b5:IR:=ku.g5 ku.b6
def ku.b7:IR:=(.reg [.s (.bin .add .int aT8 aC1),iQm 8 0])
def ku.g4 (X5 X7:IR):IR:=(.seq X5 X7)
def ku.b4:IR:=ku.g4 ku.b5 ku.b7
def ku.g3 (X4:IR):IR:=(iSr [iQo 9 (.bin .lss .int aT8 aT7)] (.seq (.cond aT9 .skip (.exit 0)) X4))
def ku.b3:IR:=ku.g3 ku.b4
def ku.g2 (X3:IR):IR:=(.loop X3)
def ku.b2:IR:=ku.g2 ku.b3
def ku.g1 (X2:IR):IR:=(.block 0 X2)
def ku.b1:IR:=ku.g1 ku.b2
def ku.b8:IR:=(iSr [iSm 3,iQm 2 0] .ret)
def ku.g0 (X1 X8:IR):IR:=(iSr [iWl 1 (.box aT0),iQo 2 (.mv (.c .zh))] (iSr [.s (.zx 0 aT1),.s (.load aS0),.w .push none (.xg 1 24 [.zh] aS0 aS0),iQm 3 0] (.seq (iSr [.s (.zx 1 aT1),iQo 6 (.load aS0),iQo 7 (.len aT6),iQo 8 (.mv aC0)] X1) X8)))
def ku.b0:IR:=ku.g0 ku.b1 ku.b8
def ku.res:List RV:=[.t (.of 2)]
def ku:Fn:={ params:=[(.of 0)],res:=ku.res,body:=ku.b0,init:=in10 }
theorem ku.ok:fnA Tryz.prog Tryz.f107 [0,1,2,3,5,6,11,12,13,14]=some ku:=by kernel_rfl
abbrev zn.fr:=fr27
def zn.b20:IR:=(iSr [.s (.zk 1 aT21 aT23),.s (.load aS0),iQm 12 0] (.reg [iSm 11,.s (.load aT3),iSm 12,.s (.zk 1 aS1 aS0),.s (.load aS0),.s (.bin .sub .int aS4 aS0),iQm 11 0]))
def zn.g19 (X20:IR):IR:=(.block 5 X20)
def zn.b19:IR:=zn.g19 zn.b20
def zn.b21:IR:=(.reg [.s (.bin .add .int aT23 aC1),iQm 23 0])
def zn.g18 (X19 X21:IR):IR:=(.seq X19 X21)
def zn.b18:IR:=zn.g18 zn.b19 zn.b21
def zn.g17 (X18:IR):IR:=(iSr [iQo 24 (.bin .lss .int aT23 aT22)] (.seq (.cond aT24 .skip (.exit 4)) X18))
def zn.b17:IR:=zn.g17 zn.b18
def zn.g16 (X17:IR):IR:=(.loop X17)
def zn.b16:IR:=zn.g16 zn.b17
def zn.g15 (X16:IR):IR:=(.block 4 X16)
def zn.b15:IR:=zn.g15 zn.b16
def zn.b22:IR:=(iSr [iSm 11,iQo 25 (.bin .neq .int aS0 aC0)] (.cond aT25 (.exit 1) .skip))
def zn.g14 (X15 X22:IR):IR:=(iSr [.s (.zk 1 aI aJ),.s (.load aS0),iQm 10 0] (iSr [.s (.load aT6),iQm 11 0] (.seq (iSr [iQo 21 (.mv rC),iQo 22 (.len aT21),iQo 23 (.mv aC0)] X15) X22)))
def zn.b14:IR:=zn.g14 zn.b15 zn.b22
def zn.g13 (X14:IR):IR:=(.block 3 X14)
def zn.b13:IR:=zn.g13 zn.b14
def zn.b23:IR:=(.reg [.s (.bin .add .int aJ aC1),iQm 19 0])
def zn.g12 (X13 X23:IR):IR:=(.seq X13 X23)
def zn.b12:IR:=zn.g12 zn.b13 zn.b23
def zn.g11 (X12:IR):IR:=(iSr [iQo 20 (.bin .lss .int aJ aT18)] (.seq (.cond aT20 .skip (.exit 2)) X12))
def zn.b11:IR:=zn.g11 zn.b12
def zn.g10 (X11:IR):IR:=(.loop X11)
def zn.b10:IR:=zn.g10 zn.b11
def zn.g9 (X10:IR):IR:=(.block 2 X10)
def zn.b9:IR:=zn.g9 zn.b10
def zn.b24:IR:=(.seq (.yj [] [(.s (.load aT4),0,[]),(iSm 9,0,[]),(.s (.bin .shl .int (.c (.int .u64 1)) aS0),0,[]),(.s (.bin .or .int aS2 aS0),0,[]),(.w .none none (.store 1 aT4 aS0),0,[])]) (iSr [.s (.load aT7),iSm 0,.s (.bin .add .int aS0 aC1),.w .push none (.call aS2 [aS0]),iQm 13 0] (.seq (.yj [] [(.s (.load aT4),0,[]),(iSm 9,0,[]),(.s (.bin .shl .int (.c (.int .u64 1)) aS0),0,[]),(.s (.bin .andNot .int aS2 aS0),0,[]),(.w .none none (.store 1 aT4 aS0),0,[])]) (iSr [iSm 13,iQo 26 (.not aS0)] (.cond aT26 (iSr [iQo 8 (.mv (.c (.bool false)))] .ret) .skip)))))
def zn.g8 (X9 X24:IR):IR:=(iSr [.s (.load aT3),iSm 0,iSm 9,.s (.zk 1 aS2 aS1),.w .none none (.store 1 aS0 aS1)] (.seq (iSr [.s (.load aT5),iSm 0,.s (.zk 1 aS1 aS0),iQo 17 (.load aS0),iQo 18 (.len aI),iQo 19 (.mv aC0)] X9) X24))
def zn.b8:IR:=zn.g8 zn.b9 zn.b24
def zn.g7 (X8:IR):IR:=(.seq (iSr [.s (.load aT4),iSm 9,.s (.bin .shr .int aS1 aS0),.s (.bin .and .int aS0 (.c (.int .u64 1))),iQo 16 (.bin .eql .int aS0 (.c (.int .u64 1)))] (.cond oP (.exit 1) .skip)) X8)
def zn.b7:IR:=zn.g7 zn.b8
def zn.g6 (X7:IR):IR:=(.block 1 X7)
def zn.b6:IR:=zn.g6 zn.b7
def zn.b25:IR:=(.reg [iSm 9,.s (.bin .add .int aS0 aC1),iQm 9 0])
def zn.g5 (X6 X25:IR):IR:=(.seq X6 X25)
def zn.b5:IR:=zn.g5 zn.b6 zn.b25
def zn.g4 (X5:IR):IR:=(.seq (iSr [iSm 9,.s (.zx 0 aT1),.s (.load aS0),iQo 15 (.bin .leq .int aS2 aS0)] (.cond aT15 .skip (.exit 0))) X5)
def zn.b4:IR:=zn.g4 zn.b5
def zn.g3 (X4:IR):IR:=(.loop X4)
def zn.b3:IR:=zn.g3 zn.b4
def zn.g2 (X3:IR):IR:=(.block 0 X3)
def zn.b2:IR:=zn.g2 zn.b3
def zn.b26:IR:=(iSr [iQo 8 (.mv (.c (.bool true)))] .ret)
def zn.g1 (X2 X26:IR):IR:=(.seq .skip (.seq (iSr [iQo 9 (.mv aC1)] X2) X26))
def zn.b1:IR:=zn.g1 zn.b2 zn.b26
def zn.g0 (X1:IR):IR:=(iSr [iQo 8 (.mv (.c (.bool false)))] (.seq (iSr [iSm 0,.s (.zx 0 aT1),.s (.load aS0),iQo 14 (.bin .eql .int aS2 aS0)] (.cond aT14 (iSr [.s (.load aT2),.s (.load aT3),.w .push none (.call aS1 [aS0]),iQm 8 0] .ret) .skip)) X1))
def zn.b0:IR:=zn.g0 zn.b1
def zn.res:List RV:=[.t (.of 8)]
def zn:Fn:={ params:=[(.of 0),(.of 1),(.of 2),(.of 3),(.of 4),(.of 5),(.of 6),(.of 7)],res:=zn.res,body:=zn.b0,init:=in27 }
theorem zn.ok:fnA Tryz.prog Tryz.f108 [0,1,2,3,4,5,6,7,9,10,12,13,15,16,20,27,34,42,43,44,45,49,50,51,52,63,78]=some zn:=by kernel_rfl
abbrev oI.fr:=fr2
def oI.b0:IR:=(iSr [iQo 1 (.mv aC0)] (iSr [iSm 0,iCa 70 [(.c (I (-999999999))),dB,aS0],iQm 1 0] .ret))
def oI.res:List RV:=[.t (.of 1)]
def oI:Fn:={ params:=[(.of 0)],res:=oI.res,body:=oI.b0,init:=in2 }
theorem oI.ok:fnA Tryz.prog Tryz.f109 [0,2]=some oI:=by kernel_rfl
abbrev jy.fr:=fr10
def jy.b6:IR:=(iSr [.s (.zk 1 aT5 aT7),.s (.load aS0),iQm 4 0] (.reg [iSm 3,iSm 4,.s (.conv .u8 aS0),.w .push none (.zu 1 1 [(.int .u8 0)] [(0,1,aS0)]),.w .push none (.app 1 1 aS3 aS0),iQm 3 0]))
def jy.g5 (X6:IR):IR:=(.block 1 X6)
def jy.b5:IR:=jy.g5 jy.b6
def jy.b7:IR:=(.reg [.s (.bin .add .int aT7 aC1),iQm 7 0])
def jy.g4 (X5 X7:IR):IR:=(.seq X5 X7)
def jy.b4:IR:=jy.g4 jy.b5 jy.b7
def jy.g3 (X4:IR):IR:=(iSr [iQo 8 (.bin .lss .int aT7 aT6)] (.seq (.cond aT8 .skip (.exit 0)) X4))
def jy.b3:IR:=jy.g3 jy.b4
def jy.g2 (X3:IR):IR:=(.loop X3)
def jy.b2:IR:=jy.g2 jy.b3
def jy.g1 (X2:IR):IR:=(.block 0 X2)
def jy.b1:IR:=jy.g1 jy.b2
def jy.b9:IR:=(iSr [iSm 3,.s (.b2s aS0),iQm 2 0] .ret)
def jy.g8 (X9:IR):IR:=(.seq (iSr [.s (.zx 1 aT1),iQo 9 (.load aS0)] (.cond aT9 (.reg [iSm 3,.w .push none (.zu 1 1 [(.int .u8 0)] [(0,1,(.c (.int .u8 1)))]),.w .push none (.app 1 1 aS1 aS0),iQm 3 0]) .skip)) X9)
def jy.b8:IR:=jy.g8 jy.b9
def jy.g0 (X1 X8:IR):IR:=(iSr [iWl 1 (.box aT0),iQo 2 (.mv (.c (.str [])))] (iSr [.s (.zx 0 aT1),.s (.load aS0),.s (.len aS0),.s (.bin .add .int aS0 aC1),.w .push none (.xg 1 1 [(.int .u8 0)] aC0 aS0),iQm 3 0] (.seq (iSr [.s (.zx 0 aT1),iQo 5 (.load aS0),iQo 6 (.len aT5),iQo 7 (.mv aC0)] X1) X8)))
def jy.b0:IR:=jy.g0 jy.b1 jy.b8
def jy.res:List RV:=[.t (.of 2)]
def jy:Fn:={ params:=[(.of 0)],res:=jy.res,body:=jy.b0,init:=in10 }
theorem jy.ok:fnA Tryz.prog Tryz.f112 [0,1,2,3,5,12,13,14,15,25]=some jy:=by kernel_rfl
abbrev rF.fr:=fr8
def rF.b2:IR:=(iSr [iQo 4 (.mv (.c (I (-1))))] .ret)
def rF.g1 (X2:IR):IR:=(.seq (iSr [.s (.zx 1 aT2),iQo 7 (.load aS0)] (.cond aT7 (iSr [iQo 4 (.mv aC1)] .ret) .skip)) X2)
def rF.b1:IR:=rF.g1 rF.b2
def rF.g0 (X1:IR):IR:=(iSr [iWl 2 (.box aT0),iWl 3 (.box aT1),iQo 4 (.mv aC0)] (.seq (iSr [.s (.zx 0 aT2),.s (.load aS0),.s (.zx 0 aT3),.s (.load aS0),iCa 161 [aS2,aS0],iQm 5 0] (iSr [iSm 5,.s (.bin .neq .int aS0 aC0),.s (.mv aS0),iPf 0 (.zx 1 aT2),iPf 1 (.load aS0),iPf 2 (.zx 1 aT3),iPf 3 (.load aS0),iPf 4 (.bin .eql .bool aS2 aS0),iQo 6 (.pick aS5 (.c (.bool true)) aS0)] (.cond aT6 (iSr [iSm 5,iQm 4 0] .ret) .skip))) X1))
def rF.b0:IR:=rF.g0 rF.b1
def rF.res:List RV:=[.t (.of 4)]
def rF:Fn:={ params:=[(.of 0),(.of 1)],res:=rF.res,body:=rF.b0,init:=in8 }
theorem rF.ok:fnA Tryz.prog Tryz.f114 [0,1,2,3,4,5,19,22]=some rF:=by kernel_rfl
abbrev oD.fr:=fr2
def oD.b0:IR:=(iSr [iQo 1 (.mv aC0)] (iSr [iSm 0,.s (.bin .lss .int aS0 aC0),.s (.mv aS0),iPf 0 (.mv aT0),iPf 1 (.bin .gtr .int aS0 zfx),.s (.pick aS2 (.c (.bool true)) aS0),iCa 76 [aS0,aC3],iQm 1 0] .ret))
def oD.res:List RV:=[.t (.of 1)]
def oD:Fn:={ params:=[(.of 0)],res:=oD.res,body:=oD.b0,init:=in2 }
theorem oD.ok:fnA Tryz.prog Tryz.f125 [0,2]=some oD:=by kernel_rfl
abbrev oC.fr:=fr2
def oC.b0:IR:=(iSr [iQo 1 (.mv (.c (.bool false)))] (iSr [iSm 0,iCa 187 [aS0],.s (.bin .eql .int aS0 aC0),iQm 1 0] .ret))
def oC.res:List RV:=[.t (.of 1)]
def oC:Fn:={ params:=[(.of 0)],res:=oC.res,body:=oC.b0,init:=in2 }
theorem oC.ok:fnA Tryz.prog Tryz.f126 [0,2]=some oC:=by kernel_rfl
abbrev ug.fr:=fr8
def ug.b6:IR:=(iSr [iSm 5,iQm 3 0] (iSr [iSm 1,iSm 0,iSm 3,.s (.zk 1 aS1 aS0),.s (.load aS0),iWl 7 (.call aS4 [aS0])] (.cond aT7 (iSr [iSm 3,iQm 2 0] .ret) .skip)))
def ug.g5 (X6:IR):IR:=(.block 1 X6)
def ug.b5:IR:=ug.g5 ug.b6
def ug.b7:IR:=(.reg [.s (.bin .add .int aT5 aC1),iQm 5 0])
def ug.g4 (X5 X7:IR):IR:=(.seq X5 X7)
def ug.b4:IR:=ug.g4 ug.b5 ug.b7
def ug.g3 (X4:IR):IR:=(iSr [iQo 6 (.bin .lss .int aT5 aT4)] (.seq (.cond aT6 .skip (.exit 0)) X4))
def ug.b3:IR:=ug.g3 ug.b4
def ug.g2 (X3:IR):IR:=(.loop X3)
def ug.b2:IR:=ug.g2 ug.b3
def ug.g1 (X2:IR):IR:=(.block 0 X2)
def ug.b1:IR:=ug.g1 ug.b2
def ug.b8:IR:=(iSr [iQo 2 (.mv (.c (I (-1))))] .ret)
def ug.g0 (X1 X8:IR):IR:=(iSr [iQo 2 (.mv aC0)] (.seq (iSr [iSm 0,iQo 4 (.len aS0),iQo 5 (.mv aC0)] X1) X8))
def ug.b0:IR:=ug.g0 ug.b1 ug.b8
def ug.res:List RV:=[.t (.of 2)]
def ug:Fn:={ params:=[(.of 0),(.of 1)],res:=ug.res,body:=ug.b0,init:=in8 }
theorem ug.ok:fnA Tryz.prog Tryz.f127 [0,1,4,5,7,8,9,16]=some ug:=by kernel_rfl
abbrev o8.fr:=fr5
def o8.b1:IR:=(iSr [iSm 0,iSm 1,.s (.len aS0),iCa 84 [aS2,aS0],iQm 2 0] .ret)
def o8.g0 (X1:IR):IR:=(iSr [iQo 2 (.mv aC0)] (.seq (iSr [iSm 1,iCa 63 [aS0],iQm 3 0] (iSr [iSm 3,iQo 4 (.bin .neq .int aS0 aC0)] (.cond aT4 (iSr [iSm 3,iQm 2 0] .ret) .skip))) X1))
def o8.b0:IR:=o8.g0 o8.b1
def o8.res:List RV:=[.t (.of 2)]
def o8:Fn:={ params:=[(.of 0),(.of 1)],res:=o8.res,body:=o8.b0,init:=in5 }
theorem o8.ok:fnA Tryz.prog Tryz.f128 [0,1,4,5,9]=some o8:=by kernel_rfl
abbrev rD.fr:=fr12
def rD.b3:IR:=(.reg [iWl 6 (.alloc [.zh,(.bool false)]),.w .none none (.store 2 aT6 rC)])
def rD.b6:IR:=(.reg [.s (.load aT5),iSm 7,.w .push none (.zu 1 1 [.zh] [(0,1,aS0)]),.w .push none (.app 1 24 aS2 aS0),.w .none none (.store 1 aT5 aS0)])
def rD.g5 (X6:IR):IR:=(iSr [.s (.zi 2 aT6),.s (.load aT2),iCa 65 [aS1,aS0],iQm 7 0] (.seq (iSr [iSm 7,iWl 11 (.call (.c (.fn 66 (.of 66) [])) [aS0,(.c (.fn 67 (.of 67) []))])] (.cond su (iSr [.w .none none (.store 1 aT3 (.c .zh)),.w .none none (.store 1 aT4 aC3)] .ret) .skip)) X6))
def rD.b5:IR:=rD.g5 rD.b6
def rD.g4 (X5:IR):IR:=(.block 1 X5)
def rD.b4:IR:=rD.g4 rD.b5
def rD.g2 (X3 X4:IR):IR:=(.rf aT8 [(.of 9),(.of 10)] X3 X4)
def rD.b2:IR:=rD.g2 rD.b3 rD.b4
def rD.g1 (X2:IR):IR:=(.block 0 X2)
def rD.b1:IR:=rD.g1 rD.b2
def rD.b7:IR:=(iSr [.s (.load aT5),.w .push none (.call (.c (.fn 188 (.of 188) [])) [aS0,(.c (.fn 161 (.of 161) []))])] (iSr [.s (.load aT5),.w .push none (.call (.c (.fn 189 (.of 189) [])) [aS0,(.c (.fn 190 (.of 190) []))]),.w .none none (.store 1 aT3 aS0),.w .none none (.store 1 aT4 aC0)] .ret))
def rD.g0 (X1 X7:IR):IR:=(iSr [iWl 2 (.box aT1),iWl 3 (.alloc [.zh]),iWl 4 (.alloc [(I 0)])] (iSr [iWl 5 (.alloc [.zh])] (.seq (iSr [iSm 0,iWl 8 (.call (.c (.fn 86 (.of 86) [])) [aS0])] X1) X7)))
def rD.b0:IR:=rD.g0 rD.b1 rD.b7
def rD.res:List RV:=[.cell (.of 3) none,.cell (.of 4) none]
def rD:Fn:={ params:=[(.of 0),(.of 1)],res:=rD.res,body:=rD.b0,init:=in12 }
theorem rD.ok:fnA Tryz.prog Tryz.f129 [0,1,3,4,5,6,8,9,11,12,13,18]=some rD:=by kernel_rfl
abbrev eH.fr:=fr4
def eH.b0:IR:=(iSr [iQo 3 (.mv (.c (.bool false)))] (iSr [iSm 0,.s (.load aT1),.s (.bin .lss .int aS1 aS0),.s (.mv aS0),iPf 0 (.mv aT0),iPf 1 (.load aT2),iPf 2 (.bin .gtr .int aS1 aS0),.s (.pick aS3 (.c (.bool true)) aS0),iQm 3 0] .ret))
def eH.res:List RV:=[.t (.of 3)]
def eH:Fn:={ params:=[(.of 0),(.of 1),(.of 2)],res:=eH.res,body:=eH.b0,init:=in4 }
theorem eH.ok:fnA Tryz.prog Tryz.f131 [0,1,2,4]=some eH:=by kernel_rfl
abbrev jq.fr:=fr14
def jq.b7:IR:=(iSr [iSm 11,.s (.zk 1 aT9 su),.s (.load aS0),iQm 5 2,iQm 6 0] (iSr [iSm 6,.s (.bin .lss .int aS0 aC0),.s (.mv aS0),iPf 0 (.mv aT6),iPf 1 (.zx 0 aT2),iPf 2 (.load aS0),iPf 3 (.bin .geq .int aS2 aS0),.s (.pick aS4 (.c (.bool true)) aS0),iCa 44 [aS0,aC10],iSm 5,.s (.bin .gtr .int aS0 aC0),.s (.mv aS0),iPt 0 (.load aT4),iPt 1 (.mv aT5),iPt 2 (.bin .sub .int aS0 aC1),iPt 3 (.zk 1 aS2 aS0),iPt 4 (.load aS0),iPt 5 (.mv aT6),iPt 6 (.bin .geq .int aS1 aS0),.s (.pick aS7 aS0 (.c (.bool false))),iCa 44 [aS0,aC11],.w .push none (.zu 1 2 [(I 0)] [(0,1,aS12),(1,1,aS0)]),iCa 42 [aS0],iQm 7 0] (iSr [iSm 7,iQo 13 (.bin .neq .int aS0 aC0)] (.cond tu (iSr [iSm 7,iQm 3 0] .ret) .skip))))
def jq.g6 (X7:IR):IR:=(.block 1 X7)
def jq.b6:IR:=jq.g6 jq.b7
def jq.b8:IR:=(.reg [.s (.bin .add .int su aC1),iQm 11 0])
def jq.g5 (X6 X8:IR):IR:=(.seq X6 X8)
def jq.b5:IR:=jq.g5 jq.b6 jq.b8
def jq.g4 (X5:IR):IR:=(iSr [iQo 12 (.bin .lss .int su rC)] (.seq (.cond aA .skip (.exit 0)) X5))
def jq.b4:IR:=jq.g4 jq.b5
def jq.g3 (X4:IR):IR:=(.loop X4)
def jq.b3:IR:=jq.g3 jq.b4
def jq.g2 (X3:IR):IR:=(.block 0 X3)
def jq.b2:IR:=jq.g2 jq.b3
def jq.b9:IR:=(iSr [.s (.zx 1 aT2),.s (.load aS0),iSm 1,.s (.slice 1 aS1 none (some aS0) none),.s (.fn 197 (.of 197) [aT4]),iCa 196 [aS1,aS0],iCa 44 [aS0,aC9],iQm 3 0] .ret)
def jq.g1 (X2 X9:IR):IR:=(.seq (iSr [iQo 9 (.load aT4),iQo 10 (.len aT9),iQo 11 (.mv aC0)] X2) X9)
def jq.b1:IR:=jq.g1 jq.b2 jq.b9
def jq.g0 (X1:IR):IR:=(iSr [iWl 2 (.box aT0),iQo 3 (.mv aC0)] (iSr [.s (.zx 1 aT2),.s (.load aS0),iSm 1,.s (.zk 1 aS1 aS0),.s (.load aS0),iWl 4 (.alloc [.zh]),.w .none none (.store 1 aT4 aS0)] (.seq (iSr [.s (.load aT4),.s (.len aS0),iQo 8 (.bin .eql .int aS0 aC0)] (.cond aT8 (iSr [iQo 3 (.mv aC12)] .ret) .skip)) X1)))
def jq.b0:IR:=jq.g0 jq.b1
def jq.res:List RV:=[.t (.of 3)]
def jq:Fn:={ params:=[(.of 0),(.of 1)],res:=jq.res,body:=jq.b0,init:=in14 }
theorem jq.ok:fnA Tryz.prog Tryz.f136 [0,1,2,4,5,6,7,8,16,17,18,19,20,48]=some jq:=by kernel_rfl
abbrev fU.fr:=fr10
def fU.b6:IR:=(iSr [.s (.zk 1 aT6 aT8),.s (.load aS0),iQm 5 0] (.reg [iSm 4,iSm 0,iSm 5,.s (.zk 1 aS1 aS0),.s (.load aS0),.w .push none (.zu 1 1 [(I 0)] [(0,1,aS0)]),.w .push none (.app 1 8 aS5 aS0),iQm 4 0]))
def fU.g5 (X6:IR):IR:=(.block 1 X6)
def fU.b5:IR:=fU.g5 fU.b6
def fU.b7:IR:=(.reg [.s (.bin .add .int aT8 aC1),iQm 8 0])
def fU.g4 (X5 X7:IR):IR:=(.seq X5 X7)
def fU.b4:IR:=fU.g4 fU.b5 fU.b7
def fU.g3 (X4:IR):IR:=(iSr [iQo 9 (.bin .lss .int aT8 aT7)] (.seq (.cond aT9 .skip (.exit 0)) X4))
def fU.b3:IR:=fU.g3 fU.b4
def fU.g2 (X3:IR):IR:=(.loop X3)
def fU.b2:IR:=fU.g2 fU.b3
def fU.g1 (X2:IR):IR:=(.block 0 X2)
def fU.b1:IR:=fU.g1 fU.b2
def fU.b8:IR:=(iSr [iSm 4,iCa 138 [aS0]] (.seq (.yj [] [(.s (.load aT2),1,[]),(iSm 4,0,[]),(.s (.build [.zh,(.bool false)] [(0,1,aS0)]),0,[]),(iCa 112 [aS0],0,[]),(.s (.look .str (.bool false) false aS3 aS0),0,[]),(iQm 3 0,0,[])]) .ret))
def fU.g0 (X1 X8:IR):IR:=(iSr [iQo 3 (.mv (.c (.bool false)))] (iSr [iQo 4 (.mv (.c .zh))] (.seq (iSr [iQo 6 (.mv aT1),iQo 7 (.len aT6),iQo 8 (.mv aC0)] X1) X8)))
def fU.b0:IR:=fU.g0 fU.b1 fU.b8
def fU.res:List RV:=[.t (.of 3)]
def fU:Fn:={ params:=[(.of 0),(.of 1),(.of 2)],res:=fU.res,body:=fU.b0,init:=in10 }
theorem fU.ok:fnA Tryz.prog Tryz.f137 [0,1,2,5,6,8,9,10,11,12]=some fU:=by kernel_rfl
abbrev F138.fr:=fr2
def F138.b0:IR:=(iSr [iSm 0,.s (.len aS0),iQm 1 0] (.reg [iSm 0,iSm 1,iSm 1,.s (.conv .u64 aS0),iCa 178 [aS0],iCa 198 [aS4,aC0,aS3,aS0]]))
def F138.res:List RV:=[]
def F138:Fn:={ params:=[(.of 0)],res:=F138.res,body:=F138.b0,init:=in2 }
theorem F138.ok:fnA Tryz.prog Tryz.f138 [0,2]=some F138:=by kernel_rfl
abbrev je.fr:=fr20
def je.b5:IR:=(iSr [iQo 8 (.mv oP)] (.reg [iWl 9 (.alloc [.zh,(.bool false)]),.w .none none (.store 2 aT9 aI)]))
def je.b7:IR:=(.seq (.yj [] [(iSm 8,0,[]),(.s (.bin .gtr .int aS0 aC0),0,[]),(.s (.mv aS0),0,[]),(iPt 0 (.load aT2),0,[]),(iPt 1 (.mv aT8),0,[]),(iPt 2 (.bin .sub .int aS0 aC1),0,[]),(iPt 3 (.zk 2 aS2 aS0),0,[]),(iPt 4 (.zi 2 aS0),0,[]),(iPt 5 (.zi 2 aT9),0,[]),(.w .push (some (aS6,true)) (.call (.c (.fn 114 (.of 114) [])) [aS1,aS0]),0,[]),(iPt 7 (.bin .geq .int aS0 aC0),0,[]),(iQo 18 (.pick aS8 aS0 (.c (.bool false))),0,[])]) (.cond aT18 (iSr [.w .none none (.store 1 aT3 (.c .xk)),.w .none none (.store 1 aT4 (.c .zh)),.w .none none (.store 1 aT5 aC11)] .ret) .skip))
def je.g6 (X7:IR):IR:=(.block 1 X7)
def je.b6:IR:=je.g6 je.b7
def je.g4 (X5 X6:IR):IR:=(.rf aT15 [(.of 16),(.of 17)] X5 X6)
def je.b4:IR:=je.g4 je.b5 je.b6
def je.g3 (X4:IR):IR:=(.block 0 X4)
def je.b3:IR:=je.g3 je.b4
def je.b9:IR:=(iSr [iSm 10,iSm 11,.w .none none (.store 1 aT3 aS1),.w .none none (.store 1 aT4 aS0),.w .none none (.store 1 aT5 aC0)] .ret)
def je.g8 (X9:IR):IR:=(iSr [.s (.load aT2),iSm 1,.s (.load aT2),.s (.len aS0),iCa 200 [aS3,aS2,aS0],.s (.mv aS0),.s (.ext 0 aS0),.s (.ext 1 aS1),.s (.ext 2 aS2),iQm 10 2,iQm 11 1,iQm 12 0] (.seq (iSr [iSm 12,.s (.not aS0),.s (.mv aS0),iPf 0 (.mv rC),iPf 1 (.mlen aS0),iPf 2 (.load aT2),iPf 3 (.len aS0),iPf 4 (.bin .neq .int aS2 aS0),iQo 19 (.pick aS5 (.c (.bool true)) aS0)] (.cond aJ (iSr [.w .none none (.store 1 aT3 (.c .xk)),.w .none none (.store 1 aT4 (.c .zh)),.w .none none (.store 1 aT5 aC28)] .ret) .skip)) X9))
def je.b8:IR:=je.g8 je.b9
def je.g2 (X3 X8:IR):IR:=(.seq (iSr [.s (.load aT2),iWl 15 (.call (.c (.fn 86 (.of 86) [])) [aS0])] X3) X8)
def je.b2:IR:=je.g2 je.b3 je.b8
def je.g1 (X2:IR):IR:=(.seq (iSr [.s (.load aT2),iSm 1,iCa 199 [aS1,aS0],iQm 7 0] (iSr [iSm 7,iQo 14 (.bin .neq .int aS0 aC0)] (.cond aT14 (iSr [iSm 7,.w .none none (.store 1 aT3 (.c .xk)),.w .none none (.store 1 aT4 (.c .zh)),.w .none none (.store 1 aT5 aS0)] .ret) .skip))) X2)
def je.b1:IR:=je.g1 je.b2
def je.g0 (X1:IR):IR:=(iSr [iWl 2 (.box aT0),iWl 3 (.alloc [.xk]),iWl 4 (.alloc [.zh]),iWl 5 (.alloc [(I 0)])] (.seq (.seq (.yj [] [(iSm 1,0,[]),(.s (.load aT2),1,[]),(.s (.len aS0),1,[]),(.s (.bin .eql .int aS0 aC0),1,[]),(.s (.load aT2),2,[]),(.s (.len aS0),2,[]),(.s (.bin .gtr .int aS0 zo8),2,[]),(iCa 125 [aS6],0,[]),(iCa 76 [aS4,aC12],0,[]),(iCa 76 [aS2,aC5],0,[]),(.w .push none (.zu 1 3 [(I 0)] [(0,1,aS2),(1,1,aS1),(2,1,aS0)]),0,[]),(iCa 72 [aS0],0,[]),(iQm 6 0,0,[])]) (iSr [iSm 6,iQo 13 (.bin .neq .int aS0 aC0)] (.cond tu (iSr [iSm 6,.w .none none (.store 1 aT3 (.c .xk)),.w .none none (.store 1 aT4 (.c .zh)),.w .none none (.store 1 aT5 aS0)] .ret) .skip))) X1))
def je.b0:IR:=je.g0 je.b1
def je.res:List RV:=[.cell (.of 3) none,.cell (.of 4) none,.cell (.of 5) none]
def je:Fn:={ params:=[(.of 0),(.of 1)],res:=je.res,body:=je.b0,init:=in20 }
theorem je.ok:fnA Tryz.prog Tryz.f143 [0,1,2,4,5,6,7,8,9,10,11,12,13,27,33,36,37,38,50,68]=some je:=by kernel_rfl
abbrev wz.fr:=fr9
def wz.b6:IR:=(iSr [iSm 6,.s (.zk 2 aT4 aT6),.s (.zi 2 aS0),iWl 3 (.alloc [.zh,(.bool false)]),iQm 2 2,.w .none none (.store 2 aT3 aS0)] (iSr [iSm 0,iSm 2,.s (.zi 2 aT3),.w .push none (.call aS2 [aS1,aS0]),iQo 8 (.not aS0)] (.cond aT8 .ret .skip)))
def wz.g5 (X6:IR):IR:=(.block 1 X6)
def wz.b5:IR:=wz.g5 wz.b6
def wz.b7:IR:=(.reg [.s (.bin .add .int aT6 aC1),iQm 6 0])
def wz.g4 (X5 X7:IR):IR:=(.seq X5 X7)
def wz.b4:IR:=wz.g4 wz.b5 wz.b7
def wz.g3 (X4:IR):IR:=(iSr [iQo 7 (.bin .lss .int aT6 aT5)] (.seq (.cond aT7 .skip (.exit 0)) X4))
def wz.b3:IR:=wz.g3 wz.b4
def wz.g2 (X3:IR):IR:=(.loop X3)
def wz.b2:IR:=wz.g2 wz.b3
def wz.g1 (X2:IR):IR:=(.block 0 X2)
def wz.b1:IR:=wz.g1 wz.b2
def wz.g0 (X1:IR):IR:=(iSr [iQo 4 (.load aT1),iQo 5 (.len aT4),iQo 6 (.mv aC0)] X1)
def wz.b0:IR:=wz.g0 wz.b1
def wz.res:List RV:=[]
def wz:Fn:={ params:=[(.of 0),(.of 1)],res:=wz.res,body:=wz.b0,init:=in9 }
theorem wz.ok:fnA Tryz.prog Tryz.f144 [0,1,3,4,5,6,7,8,16]=some wz:=by kernel_rfl
abbrev F160.fr:=fr2
def F160.b0:IR:=(iSr [iQo 1 (.mv (.c (.bool false)))] (iSr [iSm 0,.w .push none (.call (.c (.fn 66 (.of 66) [])) [aS0,(.c (.fn 216 (.of 216) []))]),iQm 1 0] .ret))
def F160.res:List RV:=[.t (.of 1)]
def F160:Fn:={ params:=[(.of 0)],res:=F160.res,body:=F160.b0,init:=in2 }
theorem F160.ok:fnA Tryz.prog Tryz.f160 [0,2]=some F160:=by kernel_rfl
abbrev jo.fr:=fr14
def jo.b7:IR:=(iSr [iSm 1,iSm 3,.s (.zk 1 aS1 aS0),.s (.load aS0),iQm 5 0] (iSr [iSm 4,iSm 5,iCa 217 [aS1,aS0],iQm 6 0] (iSr [iSm 6,iQo 12 (.bin .neq .int aS0 aC0)] (.cond aA (iSr [iSm 6,iQm 2 0] .ret) .skip))))
def jo.g6 (X7:IR):IR:=(iSr [iSm 9,.s (.zk 1 aT7 aT9),.s (.load aS0),iQm 3 2,iQm 4 0] (.seq (iSr [iSm 3,iSm 1,.s (.len aS0),iQo 11 (.bin .geq .int aS2 aS0)] (.cond su (iSr [iQo 2 (.mv aC1)] .ret) .skip)) X7))
def jo.b6:IR:=jo.g6 jo.b7
def jo.g5 (X6:IR):IR:=(.block 1 X6)
def jo.b5:IR:=jo.g5 jo.b6
def jo.b8:IR:=(.reg [.s (.bin .add .int aT9 aC1),iQm 9 0])
def jo.g4 (X5 X8:IR):IR:=(.seq X5 X8)
def jo.b4:IR:=jo.g4 jo.b5 jo.b8
def jo.g3 (X4:IR):IR:=(iSr [iQo 10 (.bin .lss .int aT9 aT8)] (.seq (.cond rC .skip (.exit 0)) X4))
def jo.b3:IR:=jo.g3 jo.b4
def jo.g2 (X3:IR):IR:=(.loop X3)
def jo.b2:IR:=jo.g2 jo.b3
def jo.g1 (X2:IR):IR:=(.block 0 X2)
def jo.b1:IR:=jo.g1 jo.b2
def jo.b10:IR:=(iSr [iQo 2 (.mv aC0)] .ret)
def jo.g9 (X10:IR):IR:=(.seq (iSr [iSm 0,.s (.len aS0),iSm 1,.s (.len aS0),iQo 13 (.bin .lss .int aS2 aS0)] (.cond tu (iSr [iQo 2 (.mv (.c (I (-1))))] .ret) .skip)) X10)
def jo.b9:IR:=jo.g9 jo.b10
def jo.g0 (X1 X9:IR):IR:=(iSr [iQo 2 (.mv aC0)] (.seq (iSr [iQo 7 (.mv aT0),iQo 8 (.len aT7),iQo 9 (.mv aC0)] X1) X9))
def jo.b0:IR:=jo.g0 jo.b1 jo.b9
def jo.res:List RV:=[.t (.of 2)]
def jo:Fn:={ params:=[(.of 0),(.of 1)],res:=jo.res,body:=jo.b0,init:=in14 }
theorem jo.ok:fnA Tryz.prog Tryz.f161 [0,1,4,5,6,7,8,9,10,11,12,19,28,35]=some jo:=by kernel_rfl
abbrev F162.fr:=fr5
def F162.b0:IR:=(iSr [iQo 3 (.mv aC0),iQo 4 (.mv (.c (.bool false)))] (iSr [iSm 0,iSm 1,iSm 2,iCa 218 [aS2,aS1,aS0],.s (.ext 0 aS0),.s (.ext 1 aS1),iQm 3 1,iQm 4 0] .ret))
def F162.res:List RV:=[.t (.of 3),.t (.of 4)]
def F162:Fn:={ params:=[(.of 0),(.of 1),(.of 2)],res:=F162.res,body:=F162.b0,init:=in5 }
theorem F162.ok:fnA Tryz.prog Tryz.f162 [0,1,2,6,7]=some F162:=by kernel_rfl
end
end Go.Ev
