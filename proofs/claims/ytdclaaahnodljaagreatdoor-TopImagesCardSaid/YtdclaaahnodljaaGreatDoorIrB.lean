import Derived.Test.YtdclaaahnodljaaGreatDoorIrA
import Derived.Test.YtdclaaahnodljaaGreatDoorEvC
import Derived.Test.YtdclaaahnodljaaGreatDoorProg
import Derived.KernelRfl
set_option linter.unusedSimpArgs false
set_option linter.unusedVariables false
namespace Go.Ev
open Go Go.Proofs
set_option maxRecDepth 100000
noncomputable section

abbrev F73.fr:=fr11
def F73.b7:IR:=(iSr [iSm 8,iQm 4 0] (iSr [.s (.zn 2 aT1),iSm 4,iCa 136 [aS1,aS0],iQm 5 0] (iSr [iSm 5,iQo 10 (.bin .neq .int aS0 aC0)] (.cond sJ (iSr [iSm 5,iQm 2 0] .ret) .skip))))
def F73.g6 (X7:IR):IR:=(.block 1 X7)
def F73.b6:IR:=F73.g6 F73.b7
def F73.b8:IR:=(.reg [.s (.bin .add .int aT8 aC1),iQm 8 0])
def F73.g5 (X6 X8:IR):IR:=(.seq X6 X8)
def F73.b5:IR:=F73.g5 F73.b6 F73.b8
def F73.g4 (X5:IR):IR:=(iSr [iQo 9 (.bin .lss .int aT8 aT7)] (.seq (.cond aT9 .skip (.exit 0)) X5))
def F73.b4:IR:=F73.g4 F73.b5
def F73.g3 (X4:IR):IR:=(.loop X4)
def F73.b3:IR:=F73.g3 F73.b4
def F73.g2 (X3:IR):IR:=(.block 0 X3)
def F73.b2:IR:=F73.g2 F73.b3
def F73.b9:IR:=(iSr [iQo 2 (.mv aC0)] .ret)
def F73.g1 (X2 X9:IR):IR:=(.seq (iSr [.s (.zk 1 aT1),.s (.load aS0),iQo 7 (.len aS0),iQo 8 (.mv aC0)] X2) X9)
def F73.b1:IR:=F73.g1 F73.b2 F73.b9
def F73.g0 (X1:IR):IR:=(iSr [iWl 1 (.box aT0),iQo 2 (.mv aC0)] (.seq (.seq (.yh [] [(.s (.zk 0 aT1),0,[]),(.s (.load aS0),0,[]),(.s (.zk 1 aT1),2,[]),(.s (.load aS0),2,[]),(.s (.len aS0),2,[]),(.s (.bin .gtr .int aS0 qb9),2,[]),(.w .push none (.yj 1 1 [(I 0)] [(0,1,aS4)]),0,[]),(iCa 70 [aC1,zb2,aS0],0,[]),(iCa 44 [aS2,aC5],0,[]),(.w .push none (.yj 1 2 [(I 0)] [(0,1,aS1),(1,1,aS0)]),0,[]),(iCa 42 [aS0],0,[]),(iQm 3 0,0,[])]) (iSr [iSm 3,iQo 6 (.bin .neq .int aS0 aC0)] (.cond aT6 (iSr [iSm 3,iQm 2 0] .ret) .skip))) X1))
def F73.b0:IR:=F73.g0 F73.b1
def F73.res:List RV:=[.t (.of 2)]
def F73:Fn:={ params:=[(.of 0)],res:=F73.res,body:=F73.b0,init:=in11 }
theorem F73.ok:fnA Tryz.prog Tryz.f73 [0,1,2,3,4,5,18,22,23,24,30]=some F73:=by kernel_rfl
abbrev F74.fr:=fr9
def F74.b6:IR:=(iSr [.s (.zu 1 aT5 aT7),.s (.load aS0),iQm 4 0] (.yh [] [(.s (.load aT3),1,[]),(iSm 4,0,[]),(.s (.build [.zf,(.bool false)] [(0,1,aS0)]),0,[]),(iCa 112 [aS0],0,[]),(.w .none none (.zao .str aS3 aS0 (.c (.bool true))),0,[])]))
def F74.g5 (X6:IR):IR:=(.block 1 X6)
def F74.b5:IR:=F74.g5 F74.b6
def F74.b7:IR:=(.reg [.s (.bin .add .int aT7 aC1),iQm 7 0])
def F74.g4 (X5 X7:IR):IR:=(.seq X5 X7)
def F74.b4:IR:=F74.g4 F74.b5 F74.b7
def F74.g3 (X4:IR):IR:=(iSr [iQo 8 (.bin .lss .int aT7 aT6)] (.seq (.cond aT8 .skip (.exit 0)) X4))
def F74.b3:IR:=F74.g3 F74.b4
def F74.g2 (X3:IR):IR:=(.loop X3)
def F74.b2:IR:=F74.g2 F74.b3
def F74.g1 (X2:IR):IR:=(.block 0 X2)
def F74.b1:IR:=F74.g1 F74.b2
def F74.b8:IR:=(iSr [.s (.fn 137 (.of 137) [aT3]),iQm 2 0] .ret)
def F74.g0 (X1 X8:IR):IR:=(iSr [iWl 1 (.box aT0),iQo 2 (.mv (.c .dh))] (iSr [.w .push none .au,iWl 3 (.alloc [.wz]),.w .none none (.store 1 aT3 aS0)] (.seq (iSr [.s (.zk 1 aT1),iQo 5 (.load aS0),iQo 6 (.len aT5),iQo 7 (.mv aC0)] X1) X8)))
def F74.b0:IR:=F74.g0 F74.b1 F74.b8
def F74.res:List RV:=[.t (.of 2)]
def F74:Fn:={ params:=[(.of 0)],res:=F74.res,body:=F74.b0,init:=in9 }
theorem F74.ok:fnA Tryz.prog Tryz.f74 [0,1,2,3,5,8,9,10,11]=some F74:=by kernel_rfl
abbrev F76.fr:=fr4
def F76.b1:IR:=(iSr [iQo 2 (.mv aC0)] .ret)
def F76.g0 (X1:IR):IR:=(iSr [iQo 2 (.mv aC0)] (.seq (iSr [iQo 3 (.mv aT0)] (.cond aT3 (iSr [iSm 1,iQm 2 0] .ret) .skip)) X1))
def F76.b0:IR:=F76.g0 F76.b1
def F76.res:List RV:=[.t (.of 2)]
def F76:Fn:={ params:=[(.of 0),(.of 1)],res:=F76.res,body:=F76.b0,init:=in4 }
theorem F76.ok:fnA Tryz.prog Tryz.f76 [0,1,4,5]=some F76:=by kernel_rfl
abbrev F79.fr:=fr3
def F79.b1:IR:=(iSr [iQo 1 (.mv aC0)] .ret)
def F79.g0 (X1:IR):IR:=(iSr [iQo 1 (.mv aC0)] (.seq (iSr [iSm 0,.s (.bin .lss .int aS0 aC0),.s (.mv aS0),iPf 0 (.mv aT0),iPf 1 (.bin .gtr .int aS0 zb2),iQo 2 (.pick aS2 (.c (.bool true)) aS0)] (.cond aT2 (iSr [iQo 1 (.mv aC3)] .ret) .skip)) X1))
def F79.b0:IR:=F79.g0 F79.b1
def F79.res:List RV:=[.t (.of 1)]
def F79:Fn:={ params:=[(.of 0)],res:=F79.res,body:=F79.b0,init:=in3 }
theorem F79.ok:fnA Tryz.prog Tryz.f79 [0,2,8]=some F79:=by kernel_rfl
abbrev F80.fr:=fr6
def F80.b2:IR:=(iSr [.s (.zk 0 aT2),.s (.load aS0),iCa 139 [aS0],iQm 3 0] .ret)
def F80.g1 (X2:IR):IR:=(.seq (iSr [.s (.zk 0 aT2),.s (.load aS0),.s (.len aS0),iSm 1,iQo 5 (.bin .neq .int aS1 aS0)] (.cond aT5 (iSr [iQo 3 (.mv aC2)] .ret) .skip)) X2)
def F80.b1:IR:=F80.g1 F80.b2
def F80.g0 (X1:IR):IR:=(iSr [iWl 2 (.box aT0),iQo 3 (.mv aC0)] (.seq (iSr [iSm 1,iCa 79 [aS0],iQo 4 (.bin .neq .int aS0 aC0)] (.cond aT4 (iSr [iQo 3 (.mv aC3)] .ret) .skip)) X1))
def F80.b0:IR:=F80.g0 F80.b1
def F80.res:List RV:=[.t (.of 3)]
def F80:Fn:={ params:=[(.of 0),(.of 1)],res:=F80.res,body:=F80.b0,init:=in6 }
theorem F80.ok:fnA Tryz.prog Tryz.f80 [0,1,2,4,7,12]=some F80:=by kernel_rfl
abbrev F81.fr:=fr6
def F81.b1:IR:=(iSr [.s (.zk 0 aT2),.s (.load aS0),.s (.zk 0 aT3),.s (.load aS0),iCa 140 [aS2,aS0],iQm 4 0] .ret)
def F81.g0 (X1:IR):IR:=(iSr [iWl 2 (.box aT0),iWl 3 (.box aT1),iQo 4 (.mv (.c (.bool false)))] (.seq (iSr [.s (.zk 0 aT2),.s (.load aS0),.s (.zk 0 aT3),.s (.load aS0),iWl 5 (.call (.c (.fn 24 (.of 24) [])) [aS2,aS0])] (.cond aT5 (iSr [.s (.zk 1 aT2),.s (.load aS0),.s (.not aS0),.s (.mv aS0),iPt 0 (.zk 1 aT3),iPt 1 (.load aS0),.s (.pick aS2 aS0 (.c (.bool false))),iQm 4 0] .ret) .skip)) X1))
def F81.b0:IR:=F81.g0 F81.b1
def F81.res:List RV:=[.t (.of 4)]
def F81:Fn:={ params:=[(.of 0),(.of 1)],res:=F81.res,body:=F81.b0,init:=in6 }
theorem F81.ok:fnA Tryz.prog Tryz.f81 [0,1,2,3,4,9]=some F81:=by kernel_rfl
abbrev F82.fr:=fr7
def F82.b6:IR:=(.seq (.yh [] [(iSm 0,0,[]),(iSm 4,0,[]),(.s (.zu 2 aS1 aS0),0,[]),(.s (.zn 2 aS0),0,[]),(.s (.zn 2 aT2),0,[]),(iWl 6 (.call (.c (.fn 141 (.of 141) [])) [aS1,aS0]),0,[])]) (.cond aT6 (iSr [iSm 4,iQm 3 0] .ret) .skip))
def F82.g5 (X6:IR):IR:=(.block 1 X6)
def F82.b5:IR:=F82.g5 F82.b6
def F82.b7:IR:=(.reg [iSm 4,.s (.bin .add .int aS0 aC1),iQm 4 0])
def F82.g4 (X5 X7:IR):IR:=(.seq X5 X7)
def F82.b4:IR:=F82.g4 F82.b5 F82.b7
def F82.g3 (X4:IR):IR:=(.seq (iSr [iSm 4,iSm 0,.s (.len aS0),iQo 5 (.bin .lss .int aS2 aS0)] (.cond aT5 .skip (.exit 0))) X4)
def F82.b3:IR:=F82.g3 F82.b4
def F82.g2 (X3:IR):IR:=(.loop X3)
def F82.b2:IR:=F82.g2 F82.b3
def F82.g1 (X2:IR):IR:=(.block 0 X2)
def F82.b1:IR:=F82.g1 F82.b2
def F82.b8:IR:=(iSr [iQo 3 (.mv (.c (I (-1))))] .ret)
def F82.g0 (X1 X8:IR):IR:=(iSr [iWl 2 (.box aT1),iQo 3 (.mv aC0)] (.seq (iSr [iQo 4 (.mv aC0)] X1) X8))
def F82.b0:IR:=F82.g0 F82.b1 F82.b8
def F82.res:List RV:=[.t (.of 3)]
def F82:Fn:={ params:=[(.of 0),(.of 1)],res:=F82.res,body:=F82.b0,init:=in7 }
theorem F82.ok:fnA Tryz.prog Tryz.f82 [0,1,3,4,5,9,17]=some F82:=by kernel_rfl
abbrev F83.fr:=fr5
def F83.b0:IR:=(iSr [iWl 2 (.box aT0),iWl 3 (.box aT1),iWl 4 (.alloc [.zf,(.bool false)])] (.seq (.yh [] [(.s (.zk 0 aT2),0,[]),(.s (.load aS0),0,[]),(.s (.zk 0 aT3),0,[]),(.s (.load aS0),0,[]),(.s (.zk 1 aT2),1,[]),(.s (.load aS0),1,[]),(.s (.zk 1 aT3),1,[]),(.s (.load aS0),1,[]),(.s (.bin .neq .bool aS2 aS0),1,[]),(iCa 142 [aS7,aS5],0,[]),(.s (.build [.zf,(.bool false)] [(0,1,aS0),(1,1,aS1)]),0,[]),(.w .none none (.store 2 aT4 aS0),0,[])]) .ret))
def F83.res:List RV:=[.cell (.of 4) (some 2)]
def F83:Fn:={ params:=[(.of 0),(.of 1)],res:=F83.res,body:=F83.b0,init:=in5 }
theorem F83.ok:fnA Tryz.prog Tryz.f83 [0,1,2,3,4]=some F83:=by kernel_rfl
abbrev F84.fr:=fr4
def F84.b0:IR:=(iSr [iQo 2 (.mv aC0)] (iSr [iSm 0,iSm 1,iCa 143 [aS1,aS0],.s (.mv aS0),.s (.ext 0 aS0),.s (.ext 1 aS1),.s (.ext 2 aS2),.s (.mv aS2),.s (.mv aS2),iQm 3 2] (iSr [iSm 3,iQm 2 0] .ret)))
def F84.res:List RV:=[.t (.of 2)]
def F84:Fn:={ params:=[(.of 0),(.of 1)],res:=F84.res,body:=F84.b0,init:=in4 }
theorem F84.ok:fnA Tryz.prog Tryz.f84 [0,1,4,7]=some F84:=by kernel_rfl
abbrev F85.fr:=fr2
def F85.b0:IR:=(iSr [iWl 1 (.alloc [(I 0),.zf])] (iSr [iSm 0,.s (.build [(I 0),.zf] [(0,1,aS0)]),.w .none none (.store 2 aT1 aS0)] .ret))
def F85.res:List RV:=[.cell (.of 1) (some 2)]
def F85:Fn:={ params:=[(.of 0)],res:=F85.res,body:=F85.b0,init:=in2 }
theorem F85.ok:fnA Tryz.prog Tryz.f85 [0,2]=some F85:=by kernel_rfl
abbrev F86.fr:=fr3
def F86.b0:IR:=(iSr [iWl 1 (.box aT0),iQo 2 (.mv (.c .dh))] (iSr [.s (.fn 144 (.of 144) [aT1]),iQm 2 0] .ret))
def F86.res:List RV:=[.t (.of 2)]
def F86:Fn:={ params:=[(.of 0)],res:=F86.res,body:=F86.b0,init:=in3 }
theorem F86.ok:fnA Tryz.prog Tryz.f86 [0,1,2]=some F86:=by kernel_rfl
abbrev F87.fr:=fr14
def F87.b3:IR:=(iSr [iSm 6,iSm 8,.s (.bin .eql .bool aS1 aS0),iQm 12 0] (.cond oD (iSr [iSm 6,iSm 7,iSm 9,iCa 147 [aS1,aS0],iCa 146 [aS3,aS0],.w .none none (.store 2 aT4 aS0)] .ret) (iSr [iSm 7,iSm 9,iCa 148 [aS1,aS0],.s (.bin .geq .int aS0 aC0),iQm 13 0] (.cond eX (iSr [iSm 6,iSm 7,iSm 9,iCa 149 [aS1,aS0],iCa 146 [aS3,aS0],.w .none none (.store 2 aT4 aS0)] .ret) .skip))))
def F87.g2 (X3:IR):IR:=(.block 0 X3)
def F87.b2:IR:=F87.g2 F87.b3
def F87.b4:IR:=(iSr [iSm 8,iSm 9,iSm 7,iCa 149 [aS1,aS0],iCa 146 [aS3,aS0],.w .none none (.store 2 aT4 aS0)] .ret)
def F87.g1 (X2 X4:IR):IR:=(iSr [.s (.zn 2 aT2),iCa 145 [aS0],.s (.mv aS0),.s (.ext 0 aS0),.s (.ext 1 aS1),iQm 6 1,iQm 7 0] (iSr [.s (.zn 2 aT3),iCa 145 [aS0],.s (.mv aS0),.s (.ext 0 aS0),.s (.ext 1 aS1),iQm 8 1,iQm 9 0] (.seq X2 X4)))
def F87.b1:IR:=F87.g1 F87.b2 F87.b4
def F87.g0 (X1:IR):IR:=(iSr [iWl 2 (.box aT0),iWl 3 (.box aT1),iWl 4 (.alloc [(I 0),.zf])] (.seq (iSr [.s (.zk 1 aT2),.s (.load aS0),.s (.bin .eql (.nil .sl) aS0 (.c .zf)),.s (.mv aS0),iPt 0 (.zk 1 aT3),iPt 1 (.load aS0),iPt 2 (.bin .eql (.nil .sl) aS0 (.c .zf)),iQo 10 (.pick aS3 aS0 (.c (.bool false)))] (.cond sJ (iSr [.s (.zk 0 aT2),.s (.load aS0),.s (.zk 0 aT3),.s (.load aS0),.s (.bin .add .int aS2 aS0),iQm 5 0] (iSr [iSm 5,.s (.zk 0 aT2),.s (.load aS0),.s (.bin .gtr .int aS2 aS0),.s (.zk 0 aT3),.s (.load aS0),.s (.bin .gtr .int aS0 aC0),iQo 11 (.bin .eql .bool aS3 aS0)] (.cond aA (iSr [iSm 5,.s (.build [(I 0),.zf] [(0,1,aS0)]),.w .none none (.store 2 aT4 aS0)] .ret) .skip))) .skip)) X1))
def F87.b0:IR:=F87.g0 F87.b1
def F87.res:List RV:=[.cell (.of 4) (some 2)]
def F87:Fn:={ params:=[(.of 0),(.of 1)],res:=F87.res,body:=F87.b0,init:=in14 }
theorem F87.ok:fnA Tryz.prog Tryz.f87 [0,1,2,3,4,5,6,7,8,9,17,30,43,52]=some F87:=by kernel_rfl
abbrev F97.fr:=fr4
def F97.b0:IR:=(iSr [iWl 2 (.box aT0),iQo 3 (.mv aC0)] (.seq (.yh [] [(.s (.zn 2 aT2),0,[]),(iSm 1,1,[]),(.s (.len aS0),1,[]),(.s (.zk 0 aT2),1,[]),(.s (.load aS0),1,[]),(.s (.bin .neq .int aS2 aS0),1,[]),(iSm 1,2,[]),(iCa 73 [aS6],0,[]),(iCa 44 [aS2,aC2],0,[]),(iCa 109 [aS2],0,[]),(.w .push none (.yj 1 3 [(I 0)] [(0,1,aS2),(1,1,aS1),(2,1,aS0)]),0,[]),(iCa 42 [aS0],0,[]),(iQm 3 0,0,[])]) .ret))
def F97.res:List RV:=[.t (.of 3)]
def F97:Fn:={ params:=[(.of 0),(.of 1)],res:=F97.res,body:=F97.b0,init:=in4 }
theorem F97.ok:fnA Tryz.prog Tryz.f97 [0,1,2,4]=some F97:=by kernel_rfl
abbrev F98.fr:=fr5
def F98.b0:IR:=(iSr [iWl 2 (.box aT0),iQo 3 (.mv aC0)] (iSr [.s (.zn 2 aT2),iSm 1,iCa 164 [aS1,aS0],iWl 4 (.alloc [.zf]),.w .none none (.store 1 aT4 aS0)] (iSr [.s (.load aT4),.s (.fn 165 (.of 165) [aT4]),iCa 127 [aS1,aS0],iQm 3 0] .ret)))
def F98.res:List RV:=[.t (.of 3)]
def F98:Fn:={ params:=[(.of 0),(.of 1)],res:=F98.res,body:=F98.b0,init:=in5 }
theorem F98.ok:fnA Tryz.prog Tryz.f98 [0,1,2,4,5]=some F98:=by kernel_rfl
abbrev oV.fr:=fr3
def oV.b0:IR:=(iSr [iQo 1 (.mv (.c .zf))] (iSr [iSm 0,iCa 168 [aS0],iQm 2 0] (iSr [iSm 2,iCa 138 [aS0]] (iSr [iSm 2,iQm 1 0] .ret))))
def oV.res:List RV:=[.t (.of 1)]
def oV:Fn:={ params:=[(.of 0)],res:=oV.res,body:=oV.b0,init:=in3 }
theorem oV.ok:fnA Tryz.prog Tryz.f101 [0,2,3]=some oV:=by kernel_rfl
abbrev oU.fr:=fr3
def oU.b0:IR:=(iSr [iWl 1 (.box aT0),iQo 2 (.mv (.c .dh))] (iSr [.s (.fn 169 (.of 169) [aT1]),iQm 2 0] .ret))
def oU.res:List RV:=[.t (.of 2)]
def oU:Fn:={ params:=[(.of 0)],res:=oU.res,body:=oU.b0,init:=in3 }
theorem oU.ok:fnA Tryz.prog Tryz.f102 [0,1,2]=some oU:=by kernel_rfl
abbrev fQ.fr:=fr8
def fQ.b6:IR:=(iSr [.s (.zu 1 aT4 aT6),.s (.load aS0),iQm 3 0] (.reg [iSm 2,iSm 3,iCa 170 [aS0],.w .push none (.yj 1 1 [(.str [])] [(0,1,aS0)]),.w .push none (.app 1 16 aS3 aS0),iQm 2 0]))
def fQ.g5 (X6:IR):IR:=(.block 1 X6)
def fQ.b5:IR:=fQ.g5 fQ.b6
def fQ.b7:IR:=(.reg [.s (.bin .add .int aT6 aC1),iQm 6 0])
def fQ.g4 (X5 X7:IR):IR:=(.seq X5 X7)
def fQ.b4:IR:=fQ.g4 fQ.b5 fQ.b7
def fQ.g3 (X4:IR):IR:=(iSr [iQo 7 (.bin .lss .int aT6 aT5)] (.seq (.cond aT7 .skip (.exit 0)) X4))
def fQ.b3:IR:=fQ.g3 fQ.b4
def fQ.g2 (X3:IR):IR:=(.loop X3)
def fQ.b2:IR:=fQ.g2 fQ.b3
def fQ.g1 (X2:IR):IR:=(.block 0 X2)
def fQ.b1:IR:=fQ.g1 fQ.b2
def fQ.b8:IR:=(iSr [iSm 2,.w .push none (.call (.c (.fn 171 (.of 171) [])) [aS0,(.c (.str [32]))]),iQm 1 0] .ret)
def fQ.g0 (X1 X8:IR):IR:=(iSr [iQo 1 (.mv (.c (.str [])))] (iSr [iQo 2 (.mv (.c .zf))] (.seq (iSr [iQo 4 (.mv aT0),iQo 5 (.len aT4),iQo 6 (.mv aC0)] X1) X8)))
def fQ.b0:IR:=fQ.g0 fQ.b1 fQ.b8
def fQ.res:List RV:=[.t (.of 1)]
def fQ:Fn:={ params:=[(.of 0)],res:=fQ.res,body:=fQ.b0,init:=in8 }
theorem fQ.ok:fnA Tryz.prog Tryz.f103 [0,2,3,5,6,7,8,9]=some fQ:=by kernel_rfl
abbrev F109.fr:=fr2
def F109.b0:IR:=(iSr [iQo 1 (.mv aC0)] (iSr [iSm 0,iCa 70 [(.c (I (-999999999))),xI,aS0],iQm 1 0] .ret))
def F109.res:List RV:=[.t (.of 1)]
def F109:Fn:={ params:=[(.of 0)],res:=F109.res,body:=F109.b0,init:=in2 }
theorem F109.ok:fnA Tryz.prog Tryz.f109 [0,2]=some F109:=by kernel_rfl
abbrev F110.fr:=fr7
def F110.b1:IR:=(iSr [iSm 2,.w .push none (.call aS0 []),.w .none none (.store 3 aT3 aS0),iQo 4 (.mv aC0)] .ret)
def F110.g0 (X1:IR):IR:=(iSr [iWl 3 (.alloc [(I 0),(I 0),.zf]),iQo 4 (.mv aC0)] (.seq (iSr [iSm 0,iCa 173 [aS0],iSm 1,.s (.not aS0),iCa 174 [aS0,aC7],.w .push none (.yj 1 2 [(I 0)] [(0,1,aS3),(1,1,aS0)]),iCa 172 [aS0],iQm 5 0] (iSr [iSm 5,iQo 6 (.bin .neq .int aS0 aC0)] (.cond aT6 (iSr [.s (.build [(I 0),(I 0),.zf] []),iSm 5,.w .none none (.store 3 aT3 aS1),iQm 4 0] .ret) .skip))) X1))
def F110.b0:IR:=F110.g0 F110.b1
def F110.res:List RV:=[.cell (.of 3) (some 3),.t (.of 4)]
def F110:Fn:={ params:=[(.of 0),(.of 1),(.of 2)],res:=F110.res,body:=F110.b0,init:=in7 }
theorem F110.ok:fnA Tryz.prog Tryz.f110 [0,1,2,6,7,8,17]=some F110:=by kernel_rfl
abbrev F111.fr:=fr4
def F111.b0:IR:=(iSr [iWl 1 (.alloc [(I 0),(I 0),.zf])] (iSr [iSm 0,iQm 2 0] (iSr [iSm 2,iSm 2,.s (.bin .sub .int aS0 aC1),.s (.bin .quo .int aS0 aC2),.s (.build [(I 0),(I 0)] [(0,1,aC0),(1,1,aS0)]),.s (.build [(I 0),(I 0)] [(0,1,(.c (I (-1)))),(1,1,aC1)]),.s (.build [(I 0),(I 0)] [(0,1,aC2),(1,1,(.c (I (-1))))]),.s (.build [(I 0),(I 0),(I 0),(I 0),(I 0),(I 0),(I 0)] [(0,1,aS6),(1,2,aS2),(3,2,aS1),(5,2,aS0)]),iCa 175 [aS0],iCa 176 [aS0],.s (.mv aS0),.s (.ext 0 aS0),.s (.ext 1 aS1),.s (.ext 2 aS2),iWl 3 (.alloc [(I 0),(I 0),.zf]),.w .push none (.alloc [(I 0),(I 0)]),.w .none none (.store 3 aT3 aS3),.w .none none (.store 2 aS0 aS2),.s (.mv aS1)] (iSr [.s (.zn 3 aT3),.w .none none (.store 3 aT1 aS0)] .ret))))
def F111.res:List RV:=[.cell (.of 1) (some 3)]
def F111:Fn:={ params:=[(.of 0)],res:=F111.res,body:=F111.b0,init:=in4 }
theorem F111.ok:fnA Tryz.prog Tryz.f111 [0,2,3,4]=some F111:=by kernel_rfl
abbrev gy.fr:=fr10
def gy.b6:IR:=(iSr [.s (.zu 1 aT5 aT7),.s (.load aS0),iQm 4 0] (.reg [iSm 3,iSm 4,.s (.conv .u8 aS0),.w .push none (.yj 1 1 [(.int .u8 0)] [(0,1,aS0)]),.w .push none (.app 1 1 aS3 aS0),iQm 3 0]))
def gy.g5 (X6:IR):IR:=(.block 1 X6)
def gy.b5:IR:=gy.g5 gy.b6
def gy.b7:IR:=(.reg [.s (.bin .add .int aT7 aC1),iQm 7 0])
def gy.g4 (X5 X7:IR):IR:=(.seq X5 X7)
def gy.b4:IR:=gy.g4 gy.b5 gy.b7
def gy.g3 (X4:IR):IR:=(iSr [iQo 8 (.bin .lss .int aT7 aT6)] (.seq (.cond aT8 .skip (.exit 0)) X4))
def gy.b3:IR:=gy.g3 gy.b4
def gy.g2 (X3:IR):IR:=(.loop X3)
def gy.b2:IR:=gy.g2 gy.b3
def gy.g1 (X2:IR):IR:=(.block 0 X2)
def gy.b1:IR:=gy.g1 gy.b2
def gy.b9:IR:=(iSr [iSm 3,.s (.b2s aS0),iQm 2 0] .ret)
def gy.g8 (X9:IR):IR:=(.seq (iSr [.s (.zk 1 aT1),iQo 9 (.load aS0)] (.cond aT9 (.reg [iSm 3,.w .push none (.yj 1 1 [(.int .u8 0)] [(0,1,(.c (.int .u8 1)))]),.w .push none (.app 1 1 aS1 aS0),iQm 3 0]) .skip)) X9)
def gy.b8:IR:=gy.g8 gy.b9
def gy.g0 (X1 X8:IR):IR:=(iSr [iWl 1 (.box aT0),iQo 2 (.mv (.c (.str [])))] (iSr [.s (.zk 0 aT1),.s (.load aS0),.s (.len aS0),.s (.bin .add .int aS0 aC1),.w .push none (.pz 1 1 [(.int .u8 0)] aC0 aS0),iQm 3 0] (.seq (iSr [.s (.zk 0 aT1),iQo 5 (.load aS0),iQo 6 (.len aT5),iQo 7 (.mv aC0)] X1) X8)))
def gy.b0:IR:=gy.g0 gy.b1 gy.b8
def gy.res:List RV:=[.t (.of 2)]
def gy:Fn:={ params:=[(.of 0)],res:=gy.res,body:=gy.b0,init:=in10 }
theorem gy.ok:fnA Tryz.prog Tryz.f112 [0,1,2,3,5,12,13,14,15,25]=some gy:=by kernel_rfl
abbrev rV.fr:=fr8
def rV.b2:IR:=(iSr [iQo 4 (.mv (.c (I (-1))))] .ret)
def rV.g1 (X2:IR):IR:=(.seq (iSr [.s (.zk 1 aT2),iQo 7 (.load aS0)] (.cond aT7 (iSr [iQo 4 (.mv aC1)] .ret) .skip)) X2)
def rV.b1:IR:=rV.g1 rV.b2
def rV.g0 (X1:IR):IR:=(iSr [iWl 2 (.box aT0),iWl 3 (.box aT1),iQo 4 (.mv aC0)] (.seq (iSr [.s (.zk 0 aT2),.s (.load aS0),.s (.zk 0 aT3),.s (.load aS0),iCa 161 [aS2,aS0],iQm 5 0] (iSr [iSm 5,.s (.bin .neq .int aS0 aC0),.s (.mv aS0),iPf 0 (.zk 1 aT2),iPf 1 (.load aS0),iPf 2 (.zk 1 aT3),iPf 3 (.load aS0),iPf 4 (.bin .eql .bool aS2 aS0),iQo 6 (.pick aS5 (.c (.bool true)) aS0)] (.cond aT6 (iSr [iSm 5,iQm 4 0] .ret) .skip))) X1))
def rV.b0:IR:=rV.g0 rV.b1
def rV.res:List RV:=[.t (.of 4)]
def rV:Fn:={ params:=[(.of 0),(.of 1)],res:=rV.res,body:=rV.b0,init:=in8 }
theorem rV.ok:fnA Tryz.prog Tryz.f114 [0,1,2,3,4,5,19,22]=some rV:=by kernel_rfl
abbrev F115.fr:=fr3
def F115.b0:IR:=(iSr [iWl 1 (.box aT0),iQo 2 (.mv (.c (.bool false)))] (iSr [.s (.zk 1 aT1),.s (.load aS0),iCa 50 [aS0],iQm 2 0] .ret))
def F115.res:List RV:=[.t (.of 2)]
def F115:Fn:={ params:=[(.of 0)],res:=F115.res,body:=F115.b0,init:=in3 }
theorem F115.ok:fnA Tryz.prog Tryz.f115 [0,1,2]=some F115:=by kernel_rfl
abbrev F116.fr:=fr3
def F116.b0:IR:=(iSr [iWl 1 (.box aT0),iQo 2 (.mv (.c (.bool false)))] (iSr [.s (.zn 2 aT1),.w .push none (.call (.c (.fn 117 (.of 117) [])) [aS0,(.c (.str [115,101,109,105,109,97,103,105,99]))]),iQm 2 0] .ret))
def F116.res:List RV:=[.t (.of 2)]
def F116:Fn:={ params:=[(.of 0)],res:=F116.res,body:=F116.b0,init:=in3 }
theorem F116.ok:fnA Tryz.prog Tryz.f116 [0,1,2]=some F116:=by kernel_rfl
abbrev F117.fr:=fr4
def F117.b0:IR:=(iSr [iWl 2 (.box aT0),iQo 3 (.mv (.c (.bool false)))] (.seq (.yh [] [(iSm 1,0,[]),(.s (.zk 0 aT2),0,[]),(.s (.load aS0),0,[]),(.s (.zk 1 aT2),1,[]),(.s (.load aS0),1,[]),(iCa 71 [aS4,aS2],0,[]),(iCa 98 [aS0,aS1],0,[]),(.s (.bin .lss .int aS0 aC0),0,[]),(iQm 3 0,0,[])]) .ret))
def F117.res:List RV:=[.t (.of 3)]
def F117:Fn:={ params:=[(.of 0),(.of 1)],res:=F117.res,body:=F117.b0,init:=in4 }
theorem F117.ok:fnA Tryz.prog Tryz.f117 [0,1,2,4]=some F117:=by kernel_rfl
abbrev F118.fr:=fr3
def F118.b0:IR:=(iSr [iWl 1 (.box aT0),iQo 2 (.mv (.c (.bool false)))] (iSr [.s (.zn 2 aT1),.w .push none (.call (.c (.fn 117 (.of 117) [])) [aS0,(.c (.str [109,97,103,105,99]))]),iQm 2 0] .ret))
def F118.res:List RV:=[.t (.of 2)]
def F118:Fn:={ params:=[(.of 0)],res:=F118.res,body:=F118.b0,init:=in3 }
theorem F118.ok:fnA Tryz.prog Tryz.f118 [0,1,2]=some F118:=by kernel_rfl
abbrev F119.fr:=fr3
def F119.b0:IR:=(iSr [iWl 1 (.box aT0),iQo 2 (.mv (.c (.bool false)))] (iSr [.s (.zn 2 aT1),.w .push none (.call (.c (.fn 117 (.of 117) [])) [aS0,(.c (.str [112,97,110,100,105,97,103,111,110,97,108]))]),iQm 2 0] .ret))
def F119.res:List RV:=[.t (.of 2)]
def F119:Fn:={ params:=[(.of 0)],res:=F119.res,body:=F119.b0,init:=in3 }
theorem F119.ok:fnA Tryz.prog Tryz.f119 [0,1,2]=some F119:=by kernel_rfl
abbrev F120.fr:=fr3
def F120.b0:IR:=(iSr [iWl 1 (.box aT0),iQo 2 (.mv (.c (.bool false)))] (iSr [.s (.zn 2 aT1),.w .push none (.call (.c (.fn 117 (.of 117) [])) [aS0,(.c (.str [109,97,103,105,99]))]),.s (.mv aS0),iPt 0 (.zk 1 aT1),iPt 1 (.load aS0),iPt 2 (.len aS0),iPt 3 (.fn 180 (.of 180) [aT1]),.w .push (some (aS4,true)) (.call (.c (.fn 179 (.of 179) [])) [aS1,aS0]),.s (.pick aS5 aS0 (.c (.bool false))),iQm 2 0] .ret))
def F120.res:List RV:=[.t (.of 2)]
def F120:Fn:={ params:=[(.of 0)],res:=F120.res,body:=F120.b0,init:=in3 }
theorem F120.ok:fnA Tryz.prog Tryz.f120 [0,1,2]=some F120:=by kernel_rfl
abbrev aS.fr:=fr6
def aS.b1:IR:=(iSr [.s (.fn 181 (.of 181) [aT1]),iWl 3 (.alloc [.dh]),.w .none none (.store 1 aT3 aS0)] (iSr [.s (.zk 1 aT1),.s (.load aS0),.s (.len aS0),.s (.fn 182 (.of 182) [aT1,aT3]),iCa 179 [aS1,aS0],iQm 4 0] (iSr [iSm 4,.s (.mv aS0),iPt 0 (.zk 1 aT1),iPt 1 (.load aS0),iPt 2 (.len aS0),iPt 3 (.fn 183 (.of 183) [aT1,aT3]),.w .push (some (aS4,true)) (.call (.c (.fn 179 (.of 179) [])) [aS1,aS0]),.s (.pick aS5 aS0 (.c (.bool false))),iQm 2 0] .ret)))
def aS.g0 (X1:IR):IR:=(iSr [iWl 1 (.box aT0),iQo 2 (.mv (.c (.bool false)))] (.seq (iSr [.s (.zk 0 aT1),.s (.load aS0),.s (.bin .rem .int aS0 aC2),.s (.bin .eql .int aS0 aC1),.s (.mv aS0),iPf 0 (.zn 2 aT1),.w .push (some (aS1,false)) (.call (.c (.fn 117 (.of 117) [])) [aS0,(.c (.str [112,97,110,100,105,97,103,111,110,97,108]))]),iPf 2 (.not aS0),iQo 5 (.pick aS3 (.c (.bool true)) aS0)] (.cond aT5 (iSr [iQo 2 (.mv (.c (.bool false)))] .ret) .skip)) X1))
def aS.b0:IR:=aS.g0 aS.b1
def aS.res:List RV:=[.t (.of 2)]
def aS:Fn:={ params:=[(.of 0)],res:=aS.res,body:=aS.b0,init:=in6 }
theorem aS.ok:fnA Tryz.prog Tryz.f121 [0,1,2,3,4,13]=some aS:=by kernel_rfl
abbrev uf.fr:=fr6
def uf.b7:IR:=(iSr [.s (.zn 2 aT1),.w .push none (.call (.c (.fn 117 (.of 117) [])) [aS0,(.c (.str [109,97,103,105,99]))]),iQo 5 (.not aS0)] (.cond aT5 (iSr [iQo 2 (.mv (.c (.bool false)))] .ret) .skip))
def uf.g6 (X7:IR):IR:=(.block 1 X7)
def uf.b6:IR:=uf.g6 uf.b7
def uf.b8:IR:=(.reg [.s (.zn 2 aT1),iCa 184 [aS0],.w .none none (.store 2 aT1 aS0)])
def uf.g5 (X6 X8:IR):IR:=(.seq X6 X8)
def uf.b5:IR:=uf.g5 uf.b6 uf.b8
def uf.g4 (X5:IR):IR:=(.seq (iSr [.s (.zk 0 aT1),.s (.load aS0),iQo 4 (.bin .geq .int aS0 aC3)] (.cond aT4 .skip (.exit 0))) X5)
def uf.b4:IR:=uf.g4 uf.b5
def uf.g3 (X4:IR):IR:=(.loop X4)
def uf.b3:IR:=uf.g3 uf.b4
def uf.g2 (X3:IR):IR:=(.block 0 X3)
def uf.b2:IR:=uf.g2 uf.b3
def uf.b9:IR:=(iSr [iQo 2 (.mv (.c (.bool true)))] .ret)
def uf.g1 (X2 X9:IR):IR:=(.seq X2 X9)
def uf.b1:IR:=uf.g1 uf.b2 uf.b9
def uf.g0 (X1:IR):IR:=(iSr [iWl 1 (.box aT0),iQo 2 (.mv (.c (.bool false)))] (.seq (iSr [.s (.zk 0 aT1),.s (.load aS0),iQo 3 (.bin .lss .int aS0 aC5)] (.cond aT3 (iSr [iQo 2 (.mv (.c (.bool false)))] .ret) .skip)) X1))
def uf.b0:IR:=uf.g0 uf.b1
def uf.res:List RV:=[.t (.of 2)]
def uf:Fn:={ params:=[(.of 0)],res:=uf.res,body:=uf.b0,init:=in6 }
theorem uf.ok:fnA Tryz.prog Tryz.f122 [0,1,2,5,8,13]=some uf:=by kernel_rfl
abbrev F123.fr:=fr3
def F123.b0:IR:=(iSr [iWl 1 (.box aT0),iQo 2 (.mv (.c (.bool false)))] (iSr [.s (.zn 2 aT1),.w .push none (.call (.c (.fn 117 (.of 117) [])) [aS0,(.c (.str [109,97,103,105,99]))]),.s (.mv aS0),iPt 0 (.zn 2 aT1),.w .push (some (aS1,true)) (.call (.c (.fn 124 (.of 124) [])) [aS0,aC2]),.s (.pick aS2 aS0 (.c (.bool false))),iQm 2 0] .ret))
def F123.res:List RV:=[.t (.of 2)]
def F123:Fn:={ params:=[(.of 0)],res:=F123.res,body:=F123.b0,init:=in3 }
theorem F123.ok:fnA Tryz.prog Tryz.f123 [0,1,2]=some F123:=by kernel_rfl
abbrev yg.fr:=fr19
def yg.b12:IR:=(iSr [.s (.zu 1 eX aT15),.s (.load aS0),iQm 8 0] (.yh [] [(.s (.zn 2 aT7),2,[]),(.s (.zk 1 aT2),0,[]),(.s (.load aS0),0,[]),(iSm 8,0,[]),(.s (.zu 1 aS1 aS0),0,[]),(.s (.load aS0),0,[]),(iSm 1,1,[]),(iCa 85 [aS1],0,[]),(iCa 185 [aS0,aS1],0,[]),(iCa 87 [aS8,aS0],0,[]),(.w .none none (.store 2 aT7 aS0),0,[])]))
def yg.g11 (X12:IR):IR:=(.block 3 X12)
def yg.b11:IR:=yg.g11 yg.b12
def yg.b13:IR:=(.reg [.s (.bin .add .int aT15 aC1),iQm 15 0])
def yg.g10 (X11 X13:IR):IR:=(.seq X11 X13)
def yg.b10:IR:=yg.g10 yg.b11 yg.b13
def yg.g9 (X10:IR):IR:=(iSr [iQo 16 (.bin .lss .int aT15 aT14)] (.seq (.cond aT16 .skip (.exit 2)) X10))
def yg.b9:IR:=yg.g9 yg.b10
def yg.g8 (X9:IR):IR:=(.loop X9)
def yg.b8:IR:=yg.g8 yg.b9
def yg.g7 (X8:IR):IR:=(.block 2 X8)
def yg.b7:IR:=yg.g7 yg.b8
def yg.b15:IR:=(iSr [.s (.zn 2 aT7),.s (.zn 2 aT4),iCa 186 [aS1,aS0],iQo 18 (.bin .neq .int aS0 aC0)] (.cond aT18 (iSr [iQo 3 (.mv (.c (.bool false)))] .ret) .skip))
def yg.g14 (X15:IR):IR:=(.seq (iSr [iSm 5,iQo 17 (.bin .eql .int aS0 aC0)] (.cond aT17 (.reg [.s (.zn 2 aT7),.w .none none (.store 2 aT4 aS0)]) .skip)) X15)
def yg.b14:IR:=yg.g14 yg.b15
def yg.g6 (X7 X14:IR):IR:=(iSr [iSm 11,.s (.zu 1 aT9 aA),.s (.load aS0),iQm 5 2,iQm 6 0] (iSr [iCa 85 [aC0],iWl 7 (.alloc [(I 0),.zf]),.w .none none (.store 2 aT7 aS0)] (.seq (iSr [iQo 13 (.mv aT6),iQo 14 (.len eX),iQo 15 (.mv aC0)] X7) X14)))
def yg.b6:IR:=yg.g6 yg.b7 yg.b14
def yg.g5 (X6:IR):IR:=(.block 1 X6)
def yg.b5:IR:=yg.g5 yg.b6
def yg.b16:IR:=(.reg [.s (.bin .add .int aA aC1),iQm 11 0])
def yg.g4 (X5 X16:IR):IR:=(.seq X5 X16)
def yg.b4:IR:=yg.g4 yg.b5 yg.b16
def yg.g3 (X4:IR):IR:=(iSr [iQo 12 (.bin .lss .int aA sJ)] (.seq (.cond oD .skip (.exit 0)) X4))
def yg.b3:IR:=yg.g3 yg.b4
def yg.g2 (X3:IR):IR:=(.loop X3)
def yg.b2:IR:=yg.g2 yg.b3
def yg.g1 (X2:IR):IR:=(.block 0 X2)
def yg.b1:IR:=yg.g1 yg.b2
def yg.b17:IR:=(iSr [iQo 3 (.mv (.c (.bool true)))] .ret)
def yg.g0 (X1 X17:IR):IR:=(iSr [iWl 2 (.box aT0),iQo 3 (.mv (.c (.bool false)))] (iSr [iWl 4 (.alloc [(I 0),.zf])] (.seq (iSr [.s (.zk 0 aT2),.s (.load aS0),.w .push none (.call (.c (.fn 71 (.of 71) [])) [(.c (.str [109,97,103,105,99])),aS0]),iQo 9 (.part 1 none aS0),iQo 10 (.len aT9),iQo 11 (.mv aC0)] X1) X17)))
def yg.b0:IR:=yg.g0 yg.b1 yg.b17
def yg.res:List RV:=[.t (.of 3)]
def yg:Fn:={ params:=[(.of 0),(.of 1)],res:=yg.res,body:=yg.b0,init:=in19 }
theorem yg.ok:fnA Tryz.prog Tryz.f124 [0,1,2,4,5,6,7,8,10,14,15,16,17,22,23,24,25,40,45]=some yg:=by kernel_rfl
abbrev F125.fr:=fr2
def F125.b0:IR:=(iSr [iQo 1 (.mv aC0)] (iSr [iSm 0,.s (.bin .lss .int aS0 aC0),.s (.mv aS0),iPf 0 (.mv aT0),iPf 1 (.bin .gtr .int aS0 zb2),.s (.pick aS2 (.c (.bool true)) aS0),iCa 76 [aS0,aC3],iQm 1 0] .ret))
def F125.res:List RV:=[.t (.of 1)]
def F125:Fn:={ params:=[(.of 0)],res:=F125.res,body:=F125.b0,init:=in2 }
theorem F125.ok:fnA Tryz.prog Tryz.f125 [0,2]=some F125:=by kernel_rfl
abbrev o9.fr:=fr2
def o9.b0:IR:=(iSr [iQo 1 (.mv (.c (.bool false)))] (iSr [iSm 0,iCa 187 [aS0],.s (.bin .eql .int aS0 aC0),iQm 1 0] .ret))
def o9.res:List RV:=[.t (.of 1)]
def o9:Fn:={ params:=[(.of 0)],res:=o9.res,body:=o9.b0,init:=in2 }
theorem o9.ok:fnA Tryz.prog Tryz.f126 [0,2]=some o9:=by kernel_rfl
abbrev ug.fr:=fr8
def ug.b6:IR:=(iSr [iSm 5,iQm 3 0] (iSr [iSm 1,iSm 0,iSm 3,.s (.zu 1 aS1 aS0),.s (.load aS0),iWl 7 (.call aS4 [aS0])] (.cond aT7 (iSr [iSm 3,iQm 2 0] .ret) .skip)))
def ug.g5 (X6:IR):IR:=(.block 1 X6)
def ug.b5:IR:=ug.g5 ug.b6
def ug.b7:IR:=(.reg [.s (.bin .add .int aT5 aC1),iQm 5 0])
def ug.g4 (X5 X7:IR):IR:=(.seq X5 X7)
def ug.b4:IR:=ug.g4 ug.b5 ug.b7
def ug.g3 (X4:IR):IR:=(iSr [iQo 6 (.bin .lss .int aT5 aT4)] (.seq (.cond aT6 .skip (.exit 0)) X4))
def ug.b3:IR:=ug.g3 ug.b4
def ug.g2 (X3:IR):IR:=(.loop X3)
def ug.b2:IR:=ug.g2 ug.b3
def ug.g1 (X2:IR):IR:=(.block 0 X2)
def ug.b1:IR:=ug.g1 ug.b2
def ug.b8:IR:=(iSr [iQo 2 (.mv (.c (I (-1))))] .ret)
def ug.g0 (X1 X8:IR):IR:=(iSr [iQo 2 (.mv aC0)] (.seq (iSr [iSm 0,iQo 4 (.len aS0),iQo 5 (.mv aC0)] X1) X8))
def ug.b0:IR:=ug.g0 ug.b1 ug.b8
def ug.res:List RV:=[.t (.of 2)]
def ug:Fn:={ params:=[(.of 0),(.of 1)],res:=ug.res,body:=ug.b0,init:=in8 }
theorem ug.ok:fnA Tryz.prog Tryz.f127 [0,1,4,5,7,8,9,16]=some ug:=by kernel_rfl
abbrev jg.fr:=fr5
def jg.b1:IR:=(iSr [iSm 0,iSm 1,.s (.len aS0),iCa 84 [aS2,aS0],iQm 2 0] .ret)
def jg.g0 (X1:IR):IR:=(iSr [iQo 2 (.mv aC0)] (.seq (iSr [iSm 1,iCa 63 [aS0],iQm 3 0] (iSr [iSm 3,iQo 4 (.bin .neq .int aS0 aC0)] (.cond aT4 (iSr [iSm 3,iQm 2 0] .ret) .skip))) X1))
def jg.b0:IR:=jg.g0 jg.b1
def jg.res:List RV:=[.t (.of 2)]
def jg:Fn:={ params:=[(.of 0),(.of 1)],res:=jg.res,body:=jg.b0,init:=in5 }
theorem jg.ok:fnA Tryz.prog Tryz.f128 [0,1,4,5,9]=some jg:=by kernel_rfl
abbrev zx.fr:=fr12
def zx.b3:IR:=(.reg [iWl 6 (.alloc [.zf,(.bool false)]),.w .none none (.store 2 aT6 sJ)])
def zx.b6:IR:=(.reg [.s (.load aT5),iSm 7,.w .push none (.yj 1 1 [.zf] [(0,1,aS0)]),.w .push none (.app 1 24 aS2 aS0),.w .none none (.store 1 aT5 aS0)])
def zx.g5 (X6:IR):IR:=(iSr [.s (.zn 2 aT6),.s (.load aT2),iCa 65 [aS1,aS0],iQm 7 0] (.seq (iSr [iSm 7,iWl 11 (.call (.c (.fn 66 (.of 66) [])) [aS0,(.c (.fn 67 (.of 67) []))])] (.cond aA (iSr [.w .none none (.store 1 aT3 (.c .zf)),.w .none none (.store 1 aT4 aC3)] .ret) .skip)) X6))
def zx.b5:IR:=zx.g5 zx.b6
def zx.g4 (X5:IR):IR:=(.block 1 X5)
def zx.b4:IR:=zx.g4 zx.b5
def zx.g2 (X3 X4:IR):IR:=(.rf aT8 [(.of 9),(.of 10)] X3 X4)
def zx.b2:IR:=zx.g2 zx.b3 zx.b4
def zx.g1 (X2:IR):IR:=(.block 0 X2)
def zx.b1:IR:=zx.g1 zx.b2
def zx.b7:IR:=(iSr [.s (.load aT5),.w .push none (.call (.c (.fn 188 (.of 188) [])) [aS0,(.c (.fn 161 (.of 161) []))])] (iSr [.s (.load aT5),.w .push none (.call (.c (.fn 189 (.of 189) [])) [aS0,(.c (.fn 190 (.of 190) []))]),.w .none none (.store 1 aT3 aS0),.w .none none (.store 1 aT4 aC0)] .ret))
def zx.g0 (X1 X7:IR):IR:=(iSr [iWl 2 (.box aT1),iWl 3 (.alloc [.zf]),iWl 4 (.alloc [(I 0)])] (iSr [iWl 5 (.alloc [.zf])] (.seq (iSr [iSm 0,iWl 8 (.call (.c (.fn 86 (.of 86) [])) [aS0])] X1) X7)))
def zx.b0:IR:=zx.g0 zx.b1 zx.b7
def zx.res:List RV:=[.cell (.of 3) none,.cell (.of 4) none]
def zx:Fn:={ params:=[(.of 0),(.of 1)],res:=zx.res,body:=zx.b0,init:=in12 }
theorem zx.ok:fnA Tryz.prog Tryz.f129 [0,1,3,4,5,6,8,9,11,12,13,18]=some zx:=by kernel_rfl
abbrev fU.fr:=fr8
def fU.b6:IR:=(iSr [iSm 5,iQm 3 0] (iSr [iSm 1,iSm 0,iSm 3,.s (.zu 1 aS1 aS0),.s (.load aS0),iQo 7 (.bin .eql .str aS4 aS0)] (.cond aT7 (iSr [iSm 3,iQm 2 0] .ret) .skip)))
def fU.g5 (X6:IR):IR:=(.block 1 X6)
def fU.b5:IR:=fU.g5 fU.b6
def fU.b7:IR:=(.reg [.s (.bin .add .int aT5 aC1),iQm 5 0])
def fU.g4 (X5 X7:IR):IR:=(.seq X5 X7)
def fU.b4:IR:=fU.g4 fU.b5 fU.b7
def fU.g3 (X4:IR):IR:=(iSr [iQo 6 (.bin .lss .int aT5 aT4)] (.seq (.cond aT6 .skip (.exit 0)) X4))
def fU.b3:IR:=fU.g3 fU.b4
def fU.g2 (X3:IR):IR:=(.loop X3)
def fU.b2:IR:=fU.g2 fU.b3
def fU.g1 (X2:IR):IR:=(.block 0 X2)
def fU.b1:IR:=fU.g1 fU.b2
def fU.b8:IR:=(iSr [iQo 2 (.mv (.c (I (-1))))] .ret)
def fU.g0 (X1 X8:IR):IR:=(iSr [iQo 2 (.mv aC0)] (.seq (iSr [iSm 0,iQo 4 (.len aS0),iQo 5 (.mv aC0)] X1) X8))
def fU.b0:IR:=fU.g0 fU.b1 fU.b8
def fU.res:List RV:=[.t (.of 2)]
def fU:Fn:={ params:=[(.of 0),(.of 1)],res:=fU.res,body:=fU.b0,init:=in8 }
theorem fU.ok:fnA Tryz.prog Tryz.f130 [0,1,4,5,7,8,9,16]=some fU:=by kernel_rfl
abbrev oQ.fr:=fr4
def oQ.b0:IR:=(iSr [iQo 3 (.mv (.c (.bool false)))] (iSr [iSm 0,.s (.load aT1),.s (.bin .lss .int aS1 aS0),.s (.mv aS0),iPf 0 (.mv aT0),iPf 1 (.load aT2),iPf 2 (.bin .gtr .int aS1 aS0),.s (.pick aS3 (.c (.bool true)) aS0),iQm 3 0] .ret))
def oQ.res:List RV:=[.t (.of 3)]
def oQ:Fn:={ params:=[(.of 0),(.of 1),(.of 2)],res:=oQ.res,body:=oQ.b0,init:=in4 }
theorem oQ.ok:fnA Tryz.prog Tryz.f131 [0,1,2,4]=some oQ:=by kernel_rfl
abbrev qj.fr:=fr15
def qj.b6:IR:=(iSr [.s (.zu 1 aT6 aT8),.s (.load aS0),iQm 3 0] (iSr [iSm 2,iSm 3,.s (.len aS0),.s (.bin .add .int aS2 aS0),iQm 2 0] (iSr [iSm 2,iQo 10 (.bin .lss .int aS0 aC0)] (.cond sJ (.bad 7) .skip))))
def qj.g5 (X6:IR):IR:=(.block 1 X6)
def qj.b5:IR:=qj.g5 qj.b6
def qj.b7:IR:=(.reg [.s (.bin .add .int aT8 aC1),iQm 8 0])
def qj.g4 (X5 X7:IR):IR:=(.seq X5 X7)
def qj.b4:IR:=qj.g4 qj.b5 qj.b7
def qj.g3 (X4:IR):IR:=(iSr [iQo 9 (.bin .lss .int aT8 aT7)] (.seq (.cond aT9 .skip (.exit 0)) X4))
def qj.b3:IR:=qj.g3 qj.b4
def qj.g2 (X3:IR):IR:=(.loop X3)
def qj.b2:IR:=qj.g2 qj.b3
def qj.g1 (X2:IR):IR:=(.block 0 X2)
def qj.b1:IR:=qj.g1 qj.b2
def qj.b14:IR:=(iSr [.s (.zu 1 aA eX),.s (.load aS0),iQm 5 0] (.reg [iSm 4,iSm 5,.w .push none (.app 1 24 aS1 aS0),iQm 4 0]))
def qj.g13 (X14:IR):IR:=(.block 3 X14)
def qj.b13:IR:=qj.g13 qj.b14
def qj.b15:IR:=(.reg [.s (.bin .add .int eX aC1),iQm 13 0])
def qj.g12 (X13 X15:IR):IR:=(.seq X13 X15)
def qj.b12:IR:=qj.g12 qj.b13 qj.b15
def qj.g11 (X12:IR):IR:=(iSr [iQo 14 (.bin .lss .int eX oD)] (.seq (.cond aT14 .skip (.exit 2)) X12))
def qj.b11:IR:=qj.g11 qj.b12
def qj.g10 (X11:IR):IR:=(.loop X11)
def qj.b10:IR:=qj.g10 qj.b11
def qj.g9 (X10:IR):IR:=(.block 2 X10)
def qj.b9:IR:=qj.g9 qj.b10
def qj.b16:IR:=(iSr [iSm 4,iQm 1 0] .ret)
def qj.g8 (X9 X16:IR):IR:=(iSr [iSm 2,iCa 191 [(.c .zf),aS0],iQm 4 0] (.seq (iSr [iQo 11 (.mv aT0),iQo 12 (.len aA),iQo 13 (.mv aC0)] X9) X16))
def qj.b8:IR:=qj.g8 qj.b9 qj.b16
def qj.g0 (X1 X8:IR):IR:=(iSr [iQo 1 (.mv (.c .zf))] (iSr [iQo 2 (.mv aC0)] (.seq (iSr [iQo 6 (.mv aT0),iQo 7 (.len aT6),iQo 8 (.mv aC0)] X1) X8)))
def qj.b0:IR:=qj.g0 qj.b1 qj.b8
def qj.res:List RV:=[.t (.of 1)]
def qj:Fn:={ params:=[(.of 0)],res:=qj.res,body:=qj.b0,init:=in15 }
theorem qj.ok:fnA Tryz.prog Tryz.f132 [0,2,3,5,6,8,9,10,11,12,20,25,26,27,28]=some qj:=by kernel_rfl
abbrev fV.fr:=fr9
def fV.b6:IR:=(iSr [iSm 7,iWl 5 (.alloc [(I 0)]),.w .none none (.store 1 aT5 aS0)] (.reg [iSm 4,.s (.load aT2),.s (.fn 192 (.of 192) [aT2,aT5]),iCa 51 [aS1,aS0],.w .push none (.yj 1 1 [.zf] [(0,1,aS0)]),.w .push none (.app 1 24 aS4 aS0),iQm 4 0]))
def fV.g5 (X6:IR):IR:=(.block 1 X6)
def fV.b5:IR:=fV.g5 fV.b6
def fV.b7:IR:=(.reg [.s (.bin .add .int aT7 aC1),iQm 7 0])
def fV.g4 (X5 X7:IR):IR:=(.seq X5 X7)
def fV.b4:IR:=fV.g4 fV.b5 fV.b7
def fV.g3 (X4:IR):IR:=(iSr [iQo 8 (.bin .lss .int aT7 aT6)] (.seq (.cond aT8 .skip (.exit 0)) X4))
def fV.b3:IR:=fV.g3 fV.b4
def fV.g2 (X3:IR):IR:=(.loop X3)
def fV.b2:IR:=fV.g2 fV.b3
def fV.g1 (X2:IR):IR:=(.block 0 X2)
def fV.b1:IR:=fV.g1 fV.b2
def fV.b8:IR:=(iSr [iSm 4,iQm 3 0] .ret)
def fV.g0 (X1 X8:IR):IR:=(iSr [iWl 2 (.box aT1),iQo 3 (.mv (.c .zf))] (iSr [iQo 4 (.mv (.c .zf))] (.seq (iSr [iQo 6 (.mv aT0),iQo 7 (.mv aC0)] X1) X8)))
def fV.b0:IR:=fV.g0 fV.b1 fV.b8
def fV.res:List RV:=[.t (.of 3)]
def fV:Fn:={ params:=[(.of 0),(.of 1)],res:=fV.res,body:=fV.b0,init:=in9 }
theorem fV.ok:fnA Tryz.prog Tryz.f133 [0,1,3,4,5,6,7,8,9]=some fV:=by kernel_rfl
abbrev fZ.fr:=fr9
def fZ.b6:IR:=(iSr [iSm 7,iWl 5 (.alloc [(I 0)]),.w .none none (.store 1 aT5 aS0)] (.reg [iSm 4,iSm 0,.s (.fn 193 (.of 193) [aT2,aT5]),iCa 51 [aS1,aS0],.w .push none (.yj 1 1 [.zf] [(0,1,aS0)]),.w .push none (.app 1 24 aS4 aS0),iQm 4 0]))
def fZ.g5 (X6:IR):IR:=(.block 1 X6)
def fZ.b5:IR:=fZ.g5 fZ.b6
def fZ.b7:IR:=(.reg [.s (.bin .add .int aT7 aC1),iQm 7 0])
def fZ.g4 (X5 X7:IR):IR:=(.seq X5 X7)
def fZ.b4:IR:=fZ.g4 fZ.b5 fZ.b7
def fZ.g3 (X4:IR):IR:=(iSr [iQo 8 (.bin .lss .int aT7 aT6)] (.seq (.cond aT8 .skip (.exit 0)) X4))
def fZ.b3:IR:=fZ.g3 fZ.b4
def fZ.g2 (X3:IR):IR:=(.loop X3)
def fZ.b2:IR:=fZ.g2 fZ.b3
def fZ.g1 (X2:IR):IR:=(.block 0 X2)
def fZ.b1:IR:=fZ.g1 fZ.b2
def fZ.b8:IR:=(iSr [iSm 4,iQm 3 0] .ret)
def fZ.g0 (X1 X8:IR):IR:=(iSr [iWl 2 (.box aT1),iQo 3 (.mv (.c .zf))] (iSr [iQo 4 (.mv (.c .zf))] (.seq (iSr [iQo 6 (.load aT2),iQo 7 (.mv aC0)] X1) X8)))
def fZ.b0:IR:=fZ.g0 fZ.b1 fZ.b8
def fZ.res:List RV:=[.t (.of 3)]
def fZ:Fn:={ params:=[(.of 0),(.of 1)],res:=fZ.res,body:=fZ.b0,init:=in9 }
theorem fZ.ok:fnA Tryz.prog Tryz.f134 [0,1,3,4,5,6,7,8,9]=some fZ:=by kernel_rfl
abbrev F135.fr:=fr5
def F135.b0:IR:=(iSr [iWl 2 (.box aT0),iWl 3 (.box aT1),iQo 4 (.mv (.c .dh))] (iSr [.s (.fn 194 (.of 194) [aT2,aT3]),iQm 4 0] .ret))
def F135.res:List RV:=[.t (.of 4)]
def F135:Fn:={ params:=[(.of 0),(.of 1)],res:=F135.res,body:=F135.b0,init:=in5 }
theorem F135.ok:fnA Tryz.prog Tryz.f135 [0,1,2,3,4]=some F135:=by kernel_rfl
abbrev cZ.fr:=fr14
def cZ.b7:IR:=(iSr [iSm 11,.s (.zu 1 aT9 aA),.s (.load aS0),iQm 5 2,iQm 6 0] (iSr [iSm 6,.s (.bin .lss .int aS0 aC0),.s (.mv aS0),iPf 0 (.mv aT6),iPf 1 (.zk 0 aT2),iPf 2 (.load aS0),iPf 3 (.bin .geq .int aS2 aS0),.s (.pick aS4 (.c (.bool true)) aS0),iCa 44 [aS0,aC10],iSm 5,.s (.bin .gtr .int aS0 aC0),.s (.mv aS0),iPt 0 (.load aT4),iPt 1 (.mv aT5),iPt 2 (.bin .sub .int aS0 aC1),iPt 3 (.zu 1 aS2 aS0),iPt 4 (.load aS0),iPt 5 (.mv aT6),iPt 6 (.bin .geq .int aS1 aS0),.s (.pick aS7 aS0 (.c (.bool false))),iCa 44 [aS0,aC11],.w .push none (.yj 1 2 [(I 0)] [(0,1,aS12),(1,1,aS0)]),iCa 42 [aS0],iQm 7 0] (iSr [iSm 7,iQo 13 (.bin .neq .int aS0 aC0)] (.cond eX (iSr [iSm 7,iQm 3 0] .ret) .skip))))
def cZ.g6 (X7:IR):IR:=(.block 1 X7)
def cZ.b6:IR:=cZ.g6 cZ.b7
def cZ.b8:IR:=(.reg [.s (.bin .add .int aA aC1),iQm 11 0])
def cZ.g5 (X6 X8:IR):IR:=(.seq X6 X8)
def cZ.b5:IR:=cZ.g5 cZ.b6 cZ.b8
def cZ.g4 (X5:IR):IR:=(iSr [iQo 12 (.bin .lss .int aA sJ)] (.seq (.cond oD .skip (.exit 0)) X5))
def cZ.b4:IR:=cZ.g4 cZ.b5
def cZ.g3 (X4:IR):IR:=(.loop X4)
def cZ.b3:IR:=cZ.g3 cZ.b4
def cZ.g2 (X3:IR):IR:=(.block 0 X3)
def cZ.b2:IR:=cZ.g2 cZ.b3
def cZ.b9:IR:=(iSr [.s (.zk 1 aT2),.s (.load aS0),iSm 1,.s (.slice 1 aS1 none (some aS0) none),.s (.fn 197 (.of 197) [aT4]),iCa 196 [aS1,aS0],iCa 44 [aS0,aC9],iQm 3 0] .ret)
def cZ.g1 (X2 X9:IR):IR:=(.seq (iSr [iQo 9 (.load aT4),iQo 10 (.len aT9),iQo 11 (.mv aC0)] X2) X9)
def cZ.b1:IR:=cZ.g1 cZ.b2 cZ.b9
def cZ.g0 (X1:IR):IR:=(iSr [iWl 2 (.box aT0),iQo 3 (.mv aC0)] (iSr [.s (.zk 1 aT2),.s (.load aS0),iSm 1,.s (.zu 1 aS1 aS0),.s (.load aS0),iWl 4 (.alloc [.zf]),.w .none none (.store 1 aT4 aS0)] (.seq (iSr [.s (.load aT4),.s (.len aS0),iQo 8 (.bin .eql .int aS0 aC0)] (.cond aT8 (iSr [iQo 3 (.mv aC12)] .ret) .skip)) X1)))
def cZ.b0:IR:=cZ.g0 cZ.b1
def cZ.res:List RV:=[.t (.of 3)]
def cZ:Fn:={ params:=[(.of 0),(.of 1)],res:=cZ.res,body:=cZ.b0,init:=in14 }
theorem cZ.ok:fnA Tryz.prog Tryz.f136 [0,1,2,4,5,6,7,8,16,17,18,19,20,48]=some cZ:=by kernel_rfl
abbrev ng.fr:=fr10
def ng.b6:IR:=(iSr [.s (.zu 1 aT6 aT8),.s (.load aS0),iQm 5 0] (.reg [iSm 4,iSm 0,iSm 5,.s (.zu 1 aS1 aS0),.s (.load aS0),.w .push none (.yj 1 1 [(I 0)] [(0,1,aS0)]),.w .push none (.app 1 8 aS5 aS0),iQm 4 0]))
def ng.g5 (X6:IR):IR:=(.block 1 X6)
def ng.b5:IR:=ng.g5 ng.b6
def ng.b7:IR:=(.reg [.s (.bin .add .int aT8 aC1),iQm 8 0])
def ng.g4 (X5 X7:IR):IR:=(.seq X5 X7)
def ng.b4:IR:=ng.g4 ng.b5 ng.b7
def ng.g3 (X4:IR):IR:=(iSr [iQo 9 (.bin .lss .int aT8 aT7)] (.seq (.cond aT9 .skip (.exit 0)) X4))
def ng.b3:IR:=ng.g3 ng.b4
def ng.g2 (X3:IR):IR:=(.loop X3)
def ng.b2:IR:=ng.g2 ng.b3
def ng.g1 (X2:IR):IR:=(.block 0 X2)
def ng.b1:IR:=ng.g1 ng.b2
def ng.b8:IR:=(iSr [iSm 4,iCa 138 [aS0]] (.seq (.yh [] [(.s (.load aT2),1,[]),(iSm 4,0,[]),(.s (.build [.zf,(.bool false)] [(0,1,aS0)]),0,[]),(iCa 112 [aS0],0,[]),(.s (.look .str (.bool false) false aS3 aS0),0,[]),(iQm 3 0,0,[])]) .ret))
def ng.g0 (X1 X8:IR):IR:=(iSr [iQo 3 (.mv (.c (.bool false)))] (iSr [iQo 4 (.mv (.c .zf))] (.seq (iSr [iQo 6 (.mv aT1),iQo 7 (.len aT6),iQo 8 (.mv aC0)] X1) X8)))
def ng.b0:IR:=ng.g0 ng.b1 ng.b8
def ng.res:List RV:=[.t (.of 3)]
def ng:Fn:={ params:=[(.of 0),(.of 1),(.of 2)],res:=ng.res,body:=ng.b0,init:=in10 }
theorem ng.ok:fnA Tryz.prog Tryz.f137 [0,1,2,5,6,8,9,10,11,12]=some ng:=by kernel_rfl
abbrev F138.fr:=fr2
def F138.b0:IR:=(iSr [iSm 0,.s (.len aS0),iQm 1 0] (.reg [iSm 0,iSm 1,iSm 1,.s (.conv .u64 aS0),iCa 178 [aS0],iCa 198 [aS4,aC0,aS3,aS0]]))
def F138.res:List RV:=[]
def F138:Fn:={ params:=[(.of 0)],res:=F138.res,body:=F138.b0,init:=in2 }
theorem F138.ok:fnA Tryz.prog Tryz.f138 [0,2]=some F138:=by kernel_rfl
abbrev jh.fr:=fr7
def jh.b8:IR:=(.reg [iSm 2,iSm 0,iSm 3,.s (.zu 1 aS1 aS0),.s (.load aS0),.s (.zu 1 aS4 aS0),.w .none none (.store 1 aS0 (.c (.bool true)))])
def jh.g7 (X8:IR):IR:=(.seq (iSr [iSm 0,iSm 3,.s (.zu 1 aS1 aS0),.s (.load aS0),.s (.bin .lss .int aS0 aC0),.s (.mv aS0),iPf 0 (.mv aT0),iPf 1 (.mv aT3),iPf 2 (.zu 1 aS1 aS0),iPf 3 (.load aS0),iPf 4 (.mv aT0),iPf 5 (.len aS0),iPf 6 (.bin .geq .int aS2 aS0),.s (.pick aS7 (.c (.bool true)) aS0),.s (.mv aS0),iPf 0 (.mv aT2),iPf 1 (.mv aT0),iPf 2 (.mv aT3),iPf 3 (.zu 1 aS1 aS0),iPf 4 (.load aS0),iPf 5 (.zu 1 aS4 aS0),iPf 6 (.load aS0),iQo 6 (.pick aS7 (.c (.bool true)) aS0)] (.cond aT6 (iSr [iQo 1 (.mv aC14)] .ret) .skip)) X8)
def jh.b7:IR:=jh.g7 jh.b8
def jh.g6 (X7:IR):IR:=(.block 1 X7)
def jh.b6:IR:=jh.g6 jh.b7
def jh.b9:IR:=(.reg [iSm 3,.s (.bin .add .int aS0 aC1),iQm 3 0])
def jh.g5 (X6 X9:IR):IR:=(.seq X6 X9)
def jh.b5:IR:=jh.g5 jh.b6 jh.b9
def jh.g4 (X5:IR):IR:=(.seq (iSr [iSm 3,iSm 0,.s (.len aS0),iQo 5 (.bin .lss .int aS2 aS0)] (.cond aT5 .skip (.exit 0))) X5)
def jh.b4:IR:=jh.g4 jh.b5
def jh.g3 (X4:IR):IR:=(.loop X4)
def jh.b3:IR:=jh.g3 jh.b4
def jh.g2 (X3:IR):IR:=(.block 0 X3)
def jh.b2:IR:=jh.g2 jh.b3
def jh.b10:IR:=(iSr [iQo 1 (.mv aC0)] .ret)
def jh.g1 (X2 X10:IR):IR:=(iSr [iSm 0,.s (.len aS0),.w .push none (.pz 1 1 [(.bool false)] aS0 aS0),iQm 2 0] (.seq (iSr [iQo 3 (.mv aC0)] X2) X10))
def jh.b1:IR:=jh.g1 jh.b2 jh.b10
def jh.g0 (X1:IR):IR:=(iSr [iQo 1 (.mv aC0)] (.seq (iSr [iSm 0,.s (.len aS0),iQo 4 (.bin .gtr .int aS0 zb2)] (.cond aT4 (iSr [iQo 1 (.mv aC5)] .ret) .skip)) X1))
def jh.b0:IR:=jh.g0 jh.b1
def jh.res:List RV:=[.t (.of 1)]
def jh:Fn:={ params:=[(.of 0)],res:=jh.res,body:=jh.b0,init:=in7 }
theorem jh.ok:fnA Tryz.prog Tryz.f139 [0,2,3,4,7,14,39]=some jh:=by kernel_rfl
abbrev jr.fr:=fr6
def jr.b6:IR:=(.seq (.yh [] [(iSm 0,0,[]),(iSm 3,0,[]),(.s (.zu 1 aS1 aS0),0,[]),(.s (.load aS0),0,[]),(iSm 1,0,[]),(iSm 3,0,[]),(.s (.zu 1 aS1 aS0),0,[]),(.s (.load aS0),0,[]),(iQo 5 (.bin .neq .int aS4 aS0),0,[])]) (.cond aT5 (.seq (.yh [] [(iSm 0,0,[]),(iSm 3,0,[]),(.s (.zu 1 aS1 aS0),0,[]),(.s (.load aS0),0,[]),(iSm 1,0,[]),(iSm 3,0,[]),(.s (.zu 1 aS1 aS0),0,[]),(.s (.load aS0),0,[]),(.s (.bin .lss .int aS4 aS0),0,[]),(iQm 2 0,0,[])]) .ret) .skip))
def jr.g5 (X6:IR):IR:=(.block 1 X6)
def jr.b5:IR:=jr.g5 jr.b6
def jr.b7:IR:=(.reg [iSm 3,.s (.bin .add .int aS0 aC1),iQm 3 0])
def jr.g4 (X5 X7:IR):IR:=(.seq X5 X7)
def jr.b4:IR:=jr.g4 jr.b5 jr.b7
def jr.g3 (X4:IR):IR:=(.seq (iSr [iSm 3,iSm 0,.s (.len aS0),.s (.bin .lss .int aS2 aS0),.s (.mv aS0),iPt 0 (.mv aT3),iPt 1 (.mv aT1),iPt 2 (.len aS0),iPt 3 (.bin .lss .int aS2 aS0),iQo 4 (.pick aS4 aS0 (.c (.bool false)))] (.cond aT4 .skip (.exit 0))) X4)
def jr.b3:IR:=jr.g3 jr.b4
def jr.g2 (X3:IR):IR:=(.loop X3)
def jr.b2:IR:=jr.g2 jr.b3
def jr.g1 (X2:IR):IR:=(.block 0 X2)
def jr.b1:IR:=jr.g1 jr.b2
def jr.b8:IR:=(iSr [iSm 0,.s (.len aS0),iSm 1,.s (.len aS0),.s (.bin .lss .int aS2 aS0),iQm 2 0] .ret)
def jr.g0 (X1 X8:IR):IR:=(iSr [iQo 2 (.mv (.c (.bool false)))] (.seq (iSr [iQo 3 (.mv aC0)] X1) X8))
def jr.b0:IR:=jr.g0 jr.b1 jr.b8
def jr.res:List RV:=[.t (.of 2)]
def jr:Fn:={ params:=[(.of 0),(.of 1)],res:=jr.res,body:=jr.b0,init:=in6 }
theorem jr.ok:fnA Tryz.prog Tryz.f140 [0,1,4,5,15,26]=some jr:=by kernel_rfl
abbrev o7.fr:=fr5
def o7.b0:IR:=(iSr [iWl 2 (.box aT0),iWl 3 (.box aT1),iQo 4 (.mv (.c (.bool false)))] (iSr [.s (.zk 1 aT2),.s (.load aS0),.s (.zk 1 aT3),.s (.load aS0),.s (.bin .eql .bool aS2 aS0),.s (.mv aS0),iPt 0 (.zk 0 aT2),iPt 1 (.load aS0),iPt 2 (.zk 0 aT3),iPt 3 (.load aS0),.w .push (some (aS4,true)) (.call (.c (.fn 24 (.of 24) [])) [aS2,aS0]),.s (.pick aS5 aS0 (.c (.bool false))),iQm 4 0] .ret))
def o7.res:List RV:=[.t (.of 4)]
def o7:Fn:={ params:=[(.of 0),(.of 1)],res:=o7.res,body:=o7.b0,init:=in5 }
theorem o7.ok:fnA Tryz.prog Tryz.f141 [0,1,2,3,4]=some o7:=by kernel_rfl
abbrev uh.fr:=fr6
def uh.b6:IR:=(.reg [iSm 3,iSm 0,iSm 1,iSm 4,.s (.zu 1 aS1 aS0),.s (.load aS0),.s (.zu 1 aS4 aS0),.s (.load aS0),.w .push none (.yj 1 1 [(I 0)] [(0,1,aS0)]),.w .push none (.app 1 8 aS8 aS0),iQm 3 0])
def uh.g5 (X6:IR):IR:=(.block 1 X6)
def uh.b5:IR:=uh.g5 uh.b6
def uh.b7:IR:=(.reg [iSm 4,.s (.bin .add .int aS0 aC1),iQm 4 0])
def uh.g4 (X5 X7:IR):IR:=(.seq X5 X7)
def uh.b4:IR:=uh.g4 uh.b5 uh.b7
def uh.g3 (X4:IR):IR:=(.seq (iSr [iSm 4,iSm 1,.s (.len aS0),iQo 5 (.bin .lss .int aS2 aS0)] (.cond aT5 .skip (.exit 0))) X4)
def uh.b3:IR:=uh.g3 uh.b4
def uh.g2 (X3:IR):IR:=(.loop X3)
def uh.b2:IR:=uh.g2 uh.b3
def uh.g1 (X2:IR):IR:=(.block 0 X2)
def uh.b1:IR:=uh.g1 uh.b2
def uh.b8:IR:=(iSr [iSm 3,iQm 2 0] .ret)
def uh.g0 (X1 X8:IR):IR:=(iSr [iQo 2 (.mv (.c .zf))] (iSr [iQo 3 (.mv (.c .zf))] (.seq (iSr [iQo 4 (.mv aC0)] X1) X8)))
def uh.b0:IR:=uh.g0 uh.b1 uh.b8
def uh.res:List RV:=[.t (.of 2)]
def uh:Fn:={ params:=[(.of 0),(.of 1)],res:=uh.res,body:=uh.b0,init:=in6 }
theorem uh.ok:fnA Tryz.prog Tryz.f142 [0,1,4,5,6,10]=some uh:=by kernel_rfl
abbrev jd.fr:=fr20
def jd.b5:IR:=(iSr [iQo 8 (.mv aT16)] (.reg [iWl 9 (.alloc [.zf,(.bool false)]),.w .none none (.store 2 aT9 aT17)]))
def jd.b7:IR:=(.seq (.yh [] [(iSm 8,0,[]),(.s (.bin .gtr .int aS0 aC0),0,[]),(.s (.mv aS0),0,[]),(iPt 0 (.load aT2),0,[]),(iPt 1 (.mv aT8),0,[]),(iPt 2 (.bin .sub .int aS0 aC1),0,[]),(iPt 3 (.zu 2 aS2 aS0),0,[]),(iPt 4 (.zn 2 aS0),0,[]),(iPt 5 (.zn 2 aT9),0,[]),(.w .push (some (aS6,true)) (.call (.c (.fn 114 (.of 114) [])) [aS1,aS0]),0,[]),(iPt 7 (.bin .geq .int aS0 aC0),0,[]),(iQo 18 (.pick aS8 aS0 (.c (.bool false))),0,[])]) (.cond aT18 (iSr [.w .none none (.store 1 aT3 (.c .wz)),.w .none none (.store 1 aT4 (.c .zf)),.w .none none (.store 1 aT5 aC11)] .ret) .skip))
def jd.g6 (X7:IR):IR:=(.block 1 X7)
def jd.b6:IR:=jd.g6 jd.b7
def jd.g4 (X5 X6:IR):IR:=(.rf aT15 [(.of 16),(.of 17)] X5 X6)
def jd.b4:IR:=jd.g4 jd.b5 jd.b6
def jd.g3 (X4:IR):IR:=(.block 0 X4)
def jd.b3:IR:=jd.g3 jd.b4
def jd.b9:IR:=(iSr [iSm 10,iSm 11,.w .none none (.store 1 aT3 aS1),.w .none none (.store 1 aT4 aS0),.w .none none (.store 1 aT5 aC0)] .ret)
def jd.g8 (X9:IR):IR:=(iSr [.s (.load aT2),iSm 1,.s (.load aT2),.s (.len aS0),iCa 200 [aS3,aS2,aS0],.s (.mv aS0),.s (.ext 0 aS0),.s (.ext 1 aS1),.s (.ext 2 aS2),iQm 10 2,iQm 11 1,iQm 12 0] (.seq (iSr [iSm 12,.s (.not aS0),.s (.mv aS0),iPf 0 (.mv sJ),iPf 1 (.mlen aS0),iPf 2 (.load aT2),iPf 3 (.len aS0),iPf 4 (.bin .neq .int aS2 aS0),iQo 19 (.pick aS5 (.c (.bool true)) aS0)] (.cond aT19 (iSr [.w .none none (.store 1 aT3 (.c .wz)),.w .none none (.store 1 aT4 (.c .zf)),.w .none none (.store 1 aT5 aC28)] .ret) .skip)) X9))
def jd.b8:IR:=jd.g8 jd.b9
def jd.g2 (X3 X8:IR):IR:=(.seq (iSr [.s (.load aT2),iWl 15 (.call (.c (.fn 86 (.of 86) [])) [aS0])] X3) X8)
def jd.b2:IR:=jd.g2 jd.b3 jd.b8
def jd.g1 (X2:IR):IR:=(.seq (iSr [.s (.load aT2),iSm 1,iCa 199 [aS1,aS0],iQm 7 0] (iSr [iSm 7,iQo 14 (.bin .neq .int aS0 aC0)] (.cond aT14 (iSr [iSm 7,.w .none none (.store 1 aT3 (.c .wz)),.w .none none (.store 1 aT4 (.c .zf)),.w .none none (.store 1 aT5 aS0)] .ret) .skip))) X2)
def jd.b1:IR:=jd.g1 jd.b2
def jd.g0 (X1:IR):IR:=(iSr [iWl 2 (.box aT0),iWl 3 (.alloc [.wz]),iWl 4 (.alloc [.zf]),iWl 5 (.alloc [(I 0)])] (.seq (.seq (.yh [] [(iSm 1,0,[]),(.s (.load aT2),1,[]),(.s (.len aS0),1,[]),(.s (.bin .eql .int aS0 aC0),1,[]),(.s (.load aT2),2,[]),(.s (.len aS0),2,[]),(.s (.bin .gtr .int aS0 zpf),2,[]),(iCa 125 [aS6],0,[]),(iCa 76 [aS4,aC12],0,[]),(iCa 76 [aS2,aC5],0,[]),(.w .push none (.yj 1 3 [(I 0)] [(0,1,aS2),(1,1,aS1),(2,1,aS0)]),0,[]),(iCa 72 [aS0],0,[]),(iQm 6 0,0,[])]) (iSr [iSm 6,iQo 13 (.bin .neq .int aS0 aC0)] (.cond eX (iSr [iSm 6,.w .none none (.store 1 aT3 (.c .wz)),.w .none none (.store 1 aT4 (.c .zf)),.w .none none (.store 1 aT5 aS0)] .ret) .skip))) X1))
def jd.b0:IR:=jd.g0 jd.b1
def jd.res:List RV:=[.cell (.of 3) none,.cell (.of 4) none,.cell (.of 5) none]
def jd:Fn:={ params:=[(.of 0),(.of 1)],res:=jd.res,body:=jd.b0,init:=in20 }
theorem jd.ok:fnA Tryz.prog Tryz.f143 [0,1,2,4,5,6,7,8,9,10,11,12,13,27,33,36,37,38,50,68]=some jd:=by kernel_rfl
abbrev wu.fr:=fr9
def wu.b6:IR:=(iSr [iSm 6,.s (.zu 2 aT4 aT6),.s (.zn 2 aS0),iWl 3 (.alloc [.zf,(.bool false)]),iQm 2 2,.w .none none (.store 2 aT3 aS0)] (iSr [iSm 0,iSm 2,.s (.zn 2 aT3),.w .push none (.call aS2 [aS1,aS0]),iQo 8 (.not aS0)] (.cond aT8 .ret .skip)))
def wu.g5 (X6:IR):IR:=(.block 1 X6)
def wu.b5:IR:=wu.g5 wu.b6
def wu.b7:IR:=(.reg [.s (.bin .add .int aT6 aC1),iQm 6 0])
def wu.g4 (X5 X7:IR):IR:=(.seq X5 X7)
def wu.b4:IR:=wu.g4 wu.b5 wu.b7
def wu.g3 (X4:IR):IR:=(iSr [iQo 7 (.bin .lss .int aT6 aT5)] (.seq (.cond aT7 .skip (.exit 0)) X4))
def wu.b3:IR:=wu.g3 wu.b4
def wu.g2 (X3:IR):IR:=(.loop X3)
def wu.b2:IR:=wu.g2 wu.b3
def wu.g1 (X2:IR):IR:=(.block 0 X2)
def wu.b1:IR:=wu.g1 wu.b2
def wu.g0 (X1:IR):IR:=(iSr [iQo 4 (.load aT1),iQo 5 (.len aT4),iQo 6 (.mv aC0)] X1)
def wu.b0:IR:=wu.g0 wu.b1
def wu.res:List RV:=[]
def wu:Fn:={ params:=[(.of 0),(.of 1)],res:=wu.res,body:=wu.b0,init:=in9 }
theorem wu.ok:fnA Tryz.prog Tryz.f144 [0,1,3,4,5,6,7,8,16]=some wu:=by kernel_rfl
abbrev fG.fr:=fr14
def fG.b1:IR:=(iSr [iSm 6,.s (.conv .i64 aS0),.s (.build [(I 0),.zf] [(0,1,aS0)]),.w .none none (.store 2 aT4 aS0)] .ret)
def fG.b2:IR:=(iSr [.s (.zn 2 aT2),iCa 145 [aS0],.s (.mv aS0),.s (.ext 0 aS0),.s (.ext 1 aS1),iQm 7 1,iQm 8 0] (iSr [.s (.zn 2 aT3),iCa 145 [aS0],.s (.mv aS0),.s (.ext 0 aS0),.s (.ext 1 aS1),iQm 9 1,iQm 10 0] (iSr [iSm 7,iSm 9,.s (.bin .neq .bool aS1 aS0),iSm 8,iSm 10,iCa 206 [aS1,aS0],iCa 146 [aS3,aS0],.w .none none (.store 2 aT4 aS0)] .ret)))
def fG.g0 (X1 X2:IR):IR:=(iSr [iWl 2 (.box aT0),iWl 3 (.box aT1),iWl 4 (.alloc [(I 0),.zf])] (.seq (iSr [.s (.zk 1 aT2),.s (.load aS0),.s (.bin .eql (.nil .sl) aS0 (.c .zf)),.s (.mv aS0),iPt 0 (.zk 1 aT3),iPt 1 (.load aS0),iPt 2 (.bin .eql (.nil .sl) aS0 (.c .zf)),iQo 11 (.pick aS3 aS0 (.c (.bool false)))] (.cond aA (.seq (.yh [] [(.s (.zk 0 aT2),0,[]),(.s (.load aS0),0,[]),(.s (.zk 0 aT3),1,[]),(.s (.load aS0),1,[]),(iCa 201 [aS2],0,[]),(iCa 201 [aS1],0,[]),(iCa 205 [aS1,aS0],0,[]),(.s (.mv aS0),0,[]),(.s (.ext 0 aS0),0,[]),(.s (.ext 1 aS1),0,[]),(iQm 5 1,0,[]),(iQm 6 0,0,[])]) (iSr [iSm 5,.s (.bin .eql .int aS0 (.c (.int .u64 0))),.s (.mv aS0),iPt 0 (.mv aT6),iPt 1 (.bin .leq .int aS0 (.c (.int .u64 9223372036854775807))),iQo 12 (.pick aS2 aS0 (.c (.bool false)))] (.cond oD (.seq (iSr [.s (.zk 0 aT2),.s (.load aS0),.s (.bin .lss .int aS0 aC0),.s (.zk 0 aT3),.s (.load aS0),.s (.bin .lss .int aS0 aC0),iQo 13 (.bin .neq .bool aS3 aS0)] (.cond eX (iSr [iSm 6,.s (.conv .i64 aS0),.s (.neg aS0),.s (.build [(I 0),.zf] [(0,1,aS0)]),.w .none none (.store 2 aT4 aS0)] .ret) .skip)) X1) .skip))) .skip)) X2))
def fG.b0:IR:=fG.g0 fG.b1 fG.b2
def fG.res:List RV:=[.cell (.of 4) (some 2)]
def fG:Fn:={ params:=[(.of 0),(.of 1)],res:=fG.res,body:=fG.b0,init:=in14 }
theorem fG.ok:fnA Tryz.prog Tryz.f151 [0,1,2,3,4,5,6,7,8,9,10,18,34,41]=some fG:=by kernel_rfl
abbrev jy.fr:=fr14
def jy.b7:IR:=(iSr [iSm 1,iSm 3,.s (.zu 1 aS1 aS0),.s (.load aS0),iQm 5 0] (iSr [iSm 4,iSm 5,iCa 217 [aS1,aS0],iQm 6 0] (iSr [iSm 6,iQo 12 (.bin .neq .int aS0 aC0)] (.cond oD (iSr [iSm 6,iQm 2 0] .ret) .skip))))
def jy.g6 (X7:IR):IR:=(iSr [iSm 9,.s (.zu 1 aT7 aT9),.s (.load aS0),iQm 3 2,iQm 4 0] (.seq (iSr [iSm 3,iSm 1,.s (.len aS0),iQo 11 (.bin .geq .int aS2 aS0)] (.cond aA (iSr [iQo 2 (.mv aC1)] .ret) .skip)) X7))
def jy.b6:IR:=jy.g6 jy.b7
def jy.g5 (X6:IR):IR:=(.block 1 X6)
def jy.b5:IR:=jy.g5 jy.b6
def jy.b8:IR:=(.reg [.s (.bin .add .int aT9 aC1),iQm 9 0])
def jy.g4 (X5 X8:IR):IR:=(.seq X5 X8)
def jy.b4:IR:=jy.g4 jy.b5 jy.b8
def jy.g3 (X4:IR):IR:=(iSr [iQo 10 (.bin .lss .int aT9 aT8)] (.seq (.cond sJ .skip (.exit 0)) X4))
def jy.b3:IR:=jy.g3 jy.b4
def jy.g2 (X3:IR):IR:=(.loop X3)
def jy.b2:IR:=jy.g2 jy.b3
def jy.g1 (X2:IR):IR:=(.block 0 X2)
def jy.b1:IR:=jy.g1 jy.b2
def jy.b10:IR:=(iSr [iQo 2 (.mv aC0)] .ret)
def jy.g9 (X10:IR):IR:=(.seq (iSr [iSm 0,.s (.len aS0),iSm 1,.s (.len aS0),iQo 13 (.bin .lss .int aS2 aS0)] (.cond eX (iSr [iQo 2 (.mv (.c (I (-1))))] .ret) .skip)) X10)
def jy.b9:IR:=jy.g9 jy.b10
def jy.g0 (X1 X9:IR):IR:=(iSr [iQo 2 (.mv aC0)] (.seq (iSr [iQo 7 (.mv aT0),iQo 8 (.len aT7),iQo 9 (.mv aC0)] X1) X9))
def jy.b0:IR:=jy.g0 jy.b1 jy.b9
def jy.res:List RV:=[.t (.of 2)]
def jy:Fn:={ params:=[(.of 0),(.of 1)],res:=jy.res,body:=jy.b0,init:=in14 }
theorem jy.ok:fnA Tryz.prog Tryz.f161 [0,1,4,5,6,7,8,9,10,11,12,19,28,35]=some jy:=by kernel_rfl
abbrev uw.fr:=fr10
def uw.b6:IR:=(iSr [.s (.zu 1 aT6 aT8),.s (.load aS0),iQm 5 0] (.reg [iSm 4,iSm 5,iSm 1,iCa 219 [aS1,aS0],.w .push none (.yj 1 1 [(I 0)] [(0,1,aS0)]),.w .push none (.app 1 8 aS4 aS0),iQm 4 0]))
def uw.g5 (X6:IR):IR:=(.block 1 X6)
def uw.b5:IR:=uw.g5 uw.b6
def uw.b7:IR:=(.reg [.s (.bin .add .int aT8 aC1),iQm 8 0])
def uw.g4 (X5 X7:IR):IR:=(.seq X5 X7)
def uw.b4:IR:=uw.g4 uw.b5 uw.b7
def uw.g3 (X4:IR):IR:=(iSr [iQo 9 (.bin .lss .int aT8 aT7)] (.seq (.cond aT9 .skip (.exit 0)) X4))
def uw.b3:IR:=uw.g3 uw.b4
def uw.g2 (X3:IR):IR:=(.loop X3)
def uw.b2:IR:=uw.g2 uw.b3
def uw.g1 (X2:IR):IR:=(.block 0 X2)
def uw.b1:IR:=uw.g1 uw.b2
def uw.b8:IR:=(iSr [iSm 4,iQm 3 0] .ret)
def uw.g0 (X1 X8:IR):IR:=(iSr [iWl 2 (.box aT0),iQo 3 (.mv (.c .zf))] (iSr [iQo 4 (.mv (.c .zf))] (.seq (iSr [.s (.zk 1 aT2),iQo 6 (.load aS0),iQo 7 (.len aT6),iQo 8 (.mv aC0)] X1) X8)))
def uw.b0:IR:=uw.g0 uw.b1 uw.b8
def uw.res:List RV:=[.t (.of 3)]
def uw:Fn:={ params:=[(.of 0),(.of 1)],res:=uw.res,body:=uw.b0,init:=in10 }
theorem uw.ok:fnA Tryz.prog Tryz.f164 [0,1,2,4,5,7,9,10,11,12]=some uw:=by kernel_rfl
abbrev F165.fr:=fr3
def F165.b0:IR:=(iSr [iQo 2 (.mv (.c (.bool false)))] (iSr [iSm 0,.s (.load aT1),.s (.zu 1 aS0 aC0),.s (.load aS0),.s (.bin .neq .int aS3 aS0),iQm 2 0] .ret))
def F165.res:List RV:=[.t (.of 2)]
def F165:Fn:={ params:=[(.of 0),(.of 1)],res:=F165.res,body:=F165.b0,init:=in3 }
theorem F165.ok:fnA Tryz.prog Tryz.f165 [0,1,3]=some F165:=by kernel_rfl
end
end Go.Ev
