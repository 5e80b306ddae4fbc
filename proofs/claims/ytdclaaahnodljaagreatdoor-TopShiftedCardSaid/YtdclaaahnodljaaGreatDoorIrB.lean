import Derived.Test.YtdclaaahnodljaaGreatDoorIrA
import Derived.Test.YtdclaaahnodljaaGreatDoorEvC
import Derived.Test.YtdclaaahnodljaaGreatDoorProg
import Derived.KernelRfl
set_option linter.unusedSimpArgs false
set_option linter.unusedVariables false
namespace Go.Ev
open Go Go.Proofs
set_option maxRecDepth 100000
noncomputable section

abbrev F74.fr:=fr9
def F74.b6:IR:=(iSr [.s (.zn 1 aT5 aT7),.s (.load aS0),iQm 4 0] (.yh [] [(.s (.load aT3),1,[]),(iSm 4,0,[]),(.s (.build [.zh,(.bool false)] [(0,1,aS0)]),0,[]),(iCa 112 [aS0],0,[]),(.w .none none (.oO .str aS3 aS0 (.c (.bool true))),0,[])]))
def F74.g5 (X6:IR):IR:=(.block 1 X6)
def F74.b5:IR:=F74.g5 F74.b6
def F74.b7:IR:=(.reg [.s (.bin .add .int aT7 aC1),iQm 7 0])
def F74.g4 (X5 X7:IR):IR:=(.seq X5 X7)
def F74.b4:IR:=F74.g4 F74.b5 F74.b7
def F74.g3 (X4:IR):IR:=(iSr [iQo 8 (.bin .lss .int aT7 aT6)] (.seq (.cond aT8 .skip (.exit 0)) X4))
def F74.b3:IR:=F74.g3 F74.b4
def F74.g2 (X3:IR):IR:=(.loop X3)
def F74.b2:IR:=F74.g2 F74.b3
def F74.g1 (X2:IR):IR:=(.block 0 X2)
def F74.b1:IR:=F74.g1 F74.b2
def F74.b8:IR:=(iSr [.s (.fn 137 (.of 137) [aT3]),iQm 2 0] .ret)
def F74.g0 (X1 X8:IR):IR:=(iSr [iWl 1 (.box aT0),iQo 2 (.mv (.c .xw))] (iSr [.w .push none .rF,iWl 3 (.alloc [.qj]),.w .none none (.store 1 aT3 aS0)] (.seq (iSr [.s (.zi 1 aT1),iQo 5 (.load aS0),iQo 6 (.len aT5),iQo 7 (.mv aC0)] X1) X8)))
def F74.b0:IR:=F74.g0 F74.b1 F74.b8
def F74.res:List RV:=[.t (.of 2)]
def F74:Fn:={ params:=[(.of 0)],res:=F74.res,body:=F74.b0,init:=in9 }
theorem F74.ok:fnA Tryz.prog Tryz.f74 [0,1,2,3,5,8,9,10,11]=some F74:=by kernel_rfl
abbrev F75.fr:=fr7
def F75.b0:IR:=(iSr [iQo 5 (.mv aC0),iQo 6 (.mv aC0)] (.seq (.yh [] [(iSm 0,0,[]),(.s (.load aT2),0,[]),(.s (.bin .add .int aS1 aS0),0,[]),(.s (.load aT3),0,[]),(.s (.bin .rem .int aS1 aS0),0,[]),(iSm 1,0,[]),(.s (.load aT4),0,[]),(.s (.bin .add .int aS1 aS0),0,[]),(.s (.load aT3),0,[]),(.s (.bin .rem .int aS1 aS0),0,[]),(iQm 5 5,0,[]),(iQm 6 0,0,[])]) .ret))
def F75.res:List RV:=[.t (.of 5),.t (.of 6)]
def F75:Fn:={ params:=[(.of 0),(.of 1),(.of 2),(.of 3),(.of 4)],res:=F75.res,body:=F75.b0,init:=in7 }
theorem F75.ok:fnA Tryz.prog Tryz.f75 [0,1,2,3,4,7,8]=some F75:=by kernel_rfl
abbrev F76.fr:=fr4
def F76.b1:IR:=(iSr [iQo 2 (.mv aC0)] .ret)
def F76.g0 (X1:IR):IR:=(iSr [iQo 2 (.mv aC0)] (.seq (iSr [iQo 3 (.mv aT0)] (.cond aT3 (iSr [iSm 1,iQm 2 0] .ret) .skip)) X1))
def F76.b0:IR:=F76.g0 F76.b1
def F76.res:List RV:=[.t (.of 2)]
def F76:Fn:={ params:=[(.of 0),(.of 1)],res:=F76.res,body:=F76.b0,init:=in4 }
theorem F76.ok:fnA Tryz.prog Tryz.f76 [0,1,4,5]=some F76:=by kernel_rfl
abbrev F77.fr:=fr12
def F77.b8:IR:=(.seq (.yh [] [(.s (.load aT3),0,[]),(iSm 0,0,[]),(.s (.load aT3),1,[]),(.s (.load aT1),1,[]),(.s (.bin .sub .int aS0 aC1),1,[]),(iSm 0,1,[]),(.s (.bin .sub .int aS1 aS0),1,[]),(iSm 6,0,[]),(.s (.load aT1),1,[]),(.s (.bin .sub .int aS0 aC1),1,[]),(iSm 6,1,[]),(.s (.bin .sub .int aS1 aS0),1,[]),(.s (.zn 1 aS11 aS10),0,[]),(.w .none none (.store 1 aS0 aS5),0,[]),(.s (.zn 1 aS10 aS6),0,[]),(.w .none none (.store 1 aS0 aS2),0,[])]) (.seq (.yh [] [(.s (.load aT4),0,[]),(iSm 6,0,[]),(.s (.load aT4),1,[]),(.s (.load aT1),1,[]),(.s (.bin .sub .int aS0 aC1),1,[]),(iSm 6,1,[]),(.s (.bin .sub .int aS1 aS0),1,[]),(.s (.zn 1 aS6 aS5),0,[]),(.w .none none (.store 1 aS0 (.c (.bool true))),0,[]),(.s (.zn 1 aS5 aS1),0,[]),(.w .none none (.store 1 aS0 (.c (.bool true))),0,[])]) (iSr [.s (.load aT5),iSm 0,.s (.bin .add .int aS0 aC1),.w .push none (.call aS2 [aS0])] (.yh [] [(.s (.load aT4),0,[]),(iSm 6,0,[]),(.s (.load aT4),1,[]),(.s (.load aT1),1,[]),(.s (.bin .sub .int aS0 aC1),1,[]),(iSm 6,1,[]),(.s (.bin .sub .int aS1 aS0),1,[]),(.s (.zn 1 aS6 aS5),0,[]),(.w .none none (.store 1 aS0 (.c (.bool false))),0,[]),(.s (.zn 1 aS5 aS1),0,[]),(.w .none none (.store 1 aS0 (.c (.bool false))),0,[])]))))
def F77.g7 (X8:IR):IR:=(iSr [iSm 9,iQm 6 0] (.seq (iSr [.s (.load aT4),iSm 6,.s (.zn 1 aS1 aS0),.s (.load aS0),.s (.mv aS0),iPf 0 (.mv aT0),iPf 1 (.bin .mul .int aC2 aS0),iPf 2 (.load aT1),iPf 3 (.bin .sub .int aS0 aC1),iPf 4 (.bin .eql .int aS2 aS0),iPf 5 (.mv aT6),iPf 6 (.bin .mul .int aC2 aS0),iPf 7 (.load aT1),iPf 8 (.bin .sub .int aS0 aC1),iPf 9 (.bin .eql .int aS2 aS0),iPf 10 (.bin .neq .bool aS5 aS0),iQo 11 (.pick aS11 (.c (.bool true)) aS0)] (.cond sU (.exit 1) .skip)) X8))
def F77.b7:IR:=F77.g7 F77.b8
def F77.g6 (X7:IR):IR:=(.block 1 X7)
def F77.b6:IR:=F77.g6 F77.b7
def F77.b9:IR:=(.reg [.s (.bin .add .int aT9 aC1),iQm 9 0])
def F77.g5 (X6 X9:IR):IR:=(.seq X6 X9)
def F77.b5:IR:=F77.g5 F77.b6 F77.b9
def F77.g4 (X5:IR):IR:=(iSr [iQo 10 (.bin .lss .int aT9 aT8)] (.seq (.cond rX .skip (.exit 0)) X5))
def F77.b4:IR:=F77.g4 F77.b5
def F77.g3 (X4:IR):IR:=(.loop X4)
def F77.b3:IR:=F77.g3 F77.b4
def F77.g2 (X3:IR):IR:=(.block 0 X3)
def F77.b2:IR:=F77.g2 F77.b3
def F77.g1 (X2:IR):IR:=(iSr [iQo 8 (.load aT1),iQo 9 (.mv aC0)] X2)
def F77.b1:IR:=F77.g1 F77.b2
def F77.g0 (X1:IR):IR:=(.seq (iSr [iSm 0,.s (.load aT1),.s (.bin .add .int aS0 aC1),.s (.bin .quo .int aS0 aC2),iQo 7 (.bin .eql .int aS3 aS0)] (.cond aT7 (iSr [.s (.load aT2),.s (.load aT1),.s (.fn 78 (.of 78) [aT3]),iCa 58 [aS2,aS1,aS0]] .ret) .skip)) X1)
def F77.b0:IR:=F77.g0 F77.b1
def F77.res:List RV:=[]
def F77:Fn:={ params:=[(.of 0),(.of 1),(.of 2),(.of 3),(.of 4),(.of 5)],res:=F77.res,body:=F77.b0,init:=in12 }
theorem F77.ok:fnA Tryz.prog Tryz.f77 [0,1,2,3,4,5,7,12,17,18,19,37]=some F77:=by kernel_rfl
abbrev F78.fr:=fr5
def F78.b0:IR:=(iSr [iQo 3 (.mv aC0),iQo 4 (.mv aC0)] (.seq (.yh [] [(.s (.load aT2),0,[]),(iSm 0,0,[]),(.s (.zn 1 aS1 aS0),0,[]),(.s (.load aS0),0,[]),(.s (.load aT2),0,[]),(iSm 1,0,[]),(.s (.zn 1 aS1 aS0),0,[]),(.s (.load aS0),0,[]),(iQm 3 4,0,[]),(iQm 4 0,0,[])]) .ret))
def F78.res:List RV:=[.t (.of 3),.t (.of 4)]
def F78:Fn:={ params:=[(.of 0),(.of 1),(.of 2)],res:=F78.res,body:=F78.b0,init:=in5 }
theorem F78.ok:fnA Tryz.prog Tryz.f78 [0,1,2,5,6]=some F78:=by kernel_rfl
abbrev F84.fr:=fr4
def F84.b0:IR:=(iSr [iQo 2 (.mv aC0)] (iSr [iSm 0,iSm 1,iCa 143 [aS1,aS0],.s (.mv aS0),.s (.ext 0 aS0),.s (.ext 1 aS1),.s (.ext 2 aS2),.s (.mv aS2),.s (.mv aS2),iQm 3 2] (iSr [iSm 3,iQm 2 0] .ret)))
def F84.res:List RV:=[.t (.of 2)]
def F84:Fn:={ params:=[(.of 0),(.of 1)],res:=F84.res,body:=F84.b0,init:=in4 }
theorem F84.ok:fnA Tryz.prog Tryz.f84 [0,1,4,7]=some F84:=by kernel_rfl
abbrev F85.fr:=fr2
def F85.b0:IR:=(iSr [iWl 1 (.alloc [(I 0),.zh])] (iSr [iSm 0,.s (.build [(I 0),.zh] [(0,1,aS0)]),.w .none none (.store 2 aT1 aS0)] .ret))
def F85.res:List RV:=[.cell (.of 1) (some 2)]
def F85:Fn:={ params:=[(.of 0)],res:=F85.res,body:=F85.b0,init:=in2 }
theorem F85.ok:fnA Tryz.prog Tryz.f85 [0,2]=some F85:=by kernel_rfl
abbrev F86.fr:=fr3
def F86.b0:IR:=(iSr [iWl 1 (.box aT0),iQo 2 (.mv (.c .xw))] (iSr [.s (.fn 144 (.of 144) [aT1]),iQm 2 0] .ret))
def F86.res:List RV:=[.t (.of 2)]
def F86:Fn:={ params:=[(.of 0)],res:=F86.res,body:=F86.b0,init:=in3 }
theorem F86.ok:fnA Tryz.prog Tryz.f86 [0,1,2]=some F86:=by kernel_rfl
abbrev F87.fr:=fr14
def F87.b3:IR:=(iSr [iSm 6,iSm 8,.s (.bin .eql .bool aS1 aS0),iQm 12 0] (.cond aO (iSr [iSm 6,iSm 7,iSm 9,iCa 147 [aS1,aS0],iCa 146 [aS3,aS0],.w .none none (.store 2 aT4 aS0)] .ret) (iSr [iSm 7,iSm 9,iCa 148 [aS1,aS0],.s (.bin .geq .int aS0 aC0),iQm 13 0] (.cond aP (iSr [iSm 6,iSm 7,iSm 9,iCa 149 [aS1,aS0],iCa 146 [aS3,aS0],.w .none none (.store 2 aT4 aS0)] .ret) .skip))))
def F87.g2 (X3:IR):IR:=(.block 0 X3)
def F87.b2:IR:=F87.g2 F87.b3
def F87.b4:IR:=(iSr [iSm 8,iSm 9,iSm 7,iCa 149 [aS1,aS0],iCa 146 [aS3,aS0],.w .none none (.store 2 aT4 aS0)] .ret)
def F87.g1 (X2 X4:IR):IR:=(iSr [.s (.zk 2 aT2),iCa 145 [aS0],.s (.mv aS0),.s (.ext 0 aS0),.s (.ext 1 aS1),iQm 6 1,iQm 7 0] (iSr [.s (.zk 2 aT3),iCa 145 [aS0],.s (.mv aS0),.s (.ext 0 aS0),.s (.ext 1 aS1),iQm 8 1,iQm 9 0] (.seq X2 X4)))
def F87.b1:IR:=F87.g1 F87.b2 F87.b4
def F87.g0 (X1:IR):IR:=(iSr [iWl 2 (.box aT0),iWl 3 (.box aT1),iWl 4 (.alloc [(I 0),.zh])] (.seq (iSr [.s (.zi 1 aT2),.s (.load aS0),.s (.bin .eql (.nil .sl) aS0 (.c .zh)),.s (.mv aS0),iPt 0 (.zi 1 aT3),iPt 1 (.load aS0),iPt 2 (.bin .eql (.nil .sl) aS0 (.c .zh)),iQo 10 (.pick aS3 aS0 (.c (.bool false)))] (.cond rX (iSr [.s (.zi 0 aT2),.s (.load aS0),.s (.zi 0 aT3),.s (.load aS0),.s (.bin .add .int aS2 aS0),iQm 5 0] (iSr [iSm 5,.s (.zi 0 aT2),.s (.load aS0),.s (.bin .gtr .int aS2 aS0),.s (.zi 0 aT3),.s (.load aS0),.s (.bin .gtr .int aS0 aC0),iQo 11 (.bin .eql .bool aS3 aS0)] (.cond sU (iSr [iSm 5,.s (.build [(I 0),.zh] [(0,1,aS0)]),.w .none none (.store 2 aT4 aS0)] .ret) .skip))) .skip)) X1))
def F87.b0:IR:=F87.g0 F87.b1
def F87.res:List RV:=[.cell (.of 4) (some 2)]
def F87:Fn:={ params:=[(.of 0),(.of 1)],res:=F87.res,body:=F87.b0,init:=in14 }
theorem F87.ok:fnA Tryz.prog Tryz.f87 [0,1,2,3,4,5,6,7,8,9,17,30,43,52]=some F87:=by kernel_rfl
abbrev F97.fr:=fr4
def F97.b0:IR:=(iSr [iWl 2 (.box aT0),iQo 3 (.mv aC0)] (.seq (.yh [] [(.s (.zk 2 aT2),0,[]),(iSm 1,1,[]),(.s (.len aS0),1,[]),(.s (.zi 0 aT2),1,[]),(.s (.load aS0),1,[]),(.s (.bin .neq .int aS2 aS0),1,[]),(iSm 1,2,[]),(iCa 73 [aS6],0,[]),(iCa 44 [aS2,aC2],0,[]),(iCa 109 [aS2],0,[]),(.w .push none (.yc 1 3 [(I 0)] [(0,1,aS2),(1,1,aS1),(2,1,aS0)]),0,[]),(iCa 42 [aS0],0,[]),(iQm 3 0,0,[])]) .ret))
def F97.res:List RV:=[.t (.of 3)]
def F97:Fn:={ params:=[(.of 0),(.of 1)],res:=F97.res,body:=F97.b0,init:=in4 }
theorem F97.ok:fnA Tryz.prog Tryz.f97 [0,1,2,4]=some F97:=by kernel_rfl
abbrev F98.fr:=fr5
def F98.b0:IR:=(iSr [iWl 2 (.box aT0),iQo 3 (.mv aC0)] (iSr [.s (.zk 2 aT2),iSm 1,iCa 164 [aS1,aS0],iWl 4 (.alloc [.zh]),.w .none none (.store 1 aT4 aS0)] (iSr [.s (.load aT4),.s (.fn 165 (.of 165) [aT4]),iCa 127 [aS1,aS0],iQm 3 0] .ret)))
def F98.res:List RV:=[.t (.of 3)]
def F98:Fn:={ params:=[(.of 0),(.of 1)],res:=F98.res,body:=F98.b0,init:=in5 }
theorem F98.ok:fnA Tryz.prog Tryz.f98 [0,1,2,4,5]=some F98:=by kernel_rfl
abbrev oW.fr:=fr3
def oW.b0:IR:=(iSr [iQo 1 (.mv (.c .zh))] (iSr [iSm 0,iCa 168 [aS0],iQm 2 0] (iSr [iSm 2,iCa 138 [aS0]] (iSr [iSm 2,iQm 1 0] .ret))))
def oW.res:List RV:=[.t (.of 1)]
def oW:Fn:={ params:=[(.of 0)],res:=oW.res,body:=oW.b0,init:=in3 }
theorem oW.ok:fnA Tryz.prog Tryz.f101 [0,2,3]=some oW:=by kernel_rfl
abbrev oV.fr:=fr3
def oV.b0:IR:=(iSr [iWl 1 (.box aT0),iQo 2 (.mv (.c .xw))] (iSr [.s (.fn 169 (.of 169) [aT1]),iQm 2 0] .ret))
def oV.res:List RV:=[.t (.of 2)]
def oV:Fn:={ params:=[(.of 0)],res:=oV.res,body:=oV.b0,init:=in3 }
theorem oV.ok:fnA Tryz.prog Tryz.f102 [0,1,2]=some oV:=by kernel_rfl
abbrev fU.fr:=fr8
def fU.b6:IR:=(iSr [.s (.zn 1 aT4 aT6),.s (.load aS0),iQm 3 0] (.reg [iSm 2,iSm 3,iCa 170 [aS0],.w .push none (.yc 1 1 [(.str [])] [(0,1,aS0)]),.w .push none (.app 1 16 aS3 aS0),iQm 2 0]))
def fU.g5 (X6:IR):IR:=(.block 1 X6)
def fU.b5:IR:=fU.g5 fU.b6
def fU.b7:IR:=(.reg [.s (.bin .add .int aT6 aC1),iQm 6 0])
def fU.g4 (X5 X7:IR):IR:=(.seq X5 X7)
def fU.b4:IR:=fU.g4 fU.b5 fU.b7
def fU.g3 (X4:IR):IR:=(iSr [iQo 7 (.bin .lss .int aT6 aT5)] (.seq (.cond aT7 .skip (.exit 0)) X4))
def fU.b3:IR:=fU.g3 fU.b4
def fU.g2 (X3:IR):IR:=(.loop X3)
def fU.b2:IR:=fU.g2 fU.b3
def fU.g1 (X2:IR):IR:=(.block 0 X2)
def fU.b1:IR:=fU.g1 fU.b2
def fU.b8:IR:=(iSr [iSm 2,.w .push none (.call (.c (.fn 171 (.of 171) [])) [aS0,(.c (.str [32]))]),iQm 1 0] .ret)
def fU.g0 (X1 X8:IR):IR:=(iSr [iQo 1 (.mv (.c (.str [])))] (iSr [iQo 2 (.mv (.c .zh))] (.seq (iSr [iQo 4 (.mv aT0),iQo 5 (.len aT4),iQo 6 (.mv aC0)] X1) X8)))
def fU.b0:IR:=fU.g0 fU.b1 fU.b8
def fU.res:List RV:=[.t (.of 1)]
def fU:Fn:={ params:=[(.of 0)],res:=fU.res,body:=fU.b0,init:=in8 }
theorem fU.ok:fnA Tryz.prog Tryz.f103 [0,2,3,5,6,7,8,9]=some fU:=by kernel_rfl
abbrev F109.fr:=fr2
def F109.b0:IR:=(iSr [iQo 1 (.mv aC0)] (iSr [iSm 0,iCa 70 [(.c (I (-999999999))),wR,aS0],iQm 1 0] .ret))
def F109.res:List RV:=[.t (.of 1)]
def F109:Fn:={ params:=[(.of 0)],res:=F109.res,body:=F109.b0,init:=in2 }
theorem F109.ok:fnA Tryz.prog Tryz.f109 [0,2]=some F109:=by kernel_rfl
abbrev F110.fr:=fr7
def F110.b1:IR:=(iSr [iSm 2,.w .push none (.call aS0 []),.w .none none (.store 3 aT3 aS0),iQo 4 (.mv aC0)] .ret)
def F110.g0 (X1:IR):IR:=(iSr [iWl 3 (.alloc [(I 0),(I 0),.zh]),iQo 4 (.mv aC0)] (.seq (iSr [iSm 0,iCa 173 [aS0],iSm 1,.s (.not aS0),iCa 174 [aS0,aC7],.w .push none (.yc 1 2 [(I 0)] [(0,1,aS3),(1,1,aS0)]),iCa 172 [aS0],iQm 5 0] (iSr [iSm 5,iQo 6 (.bin .neq .int aS0 aC0)] (.cond aT6 (iSr [.s (.build [(I 0),(I 0),.zh] []),iSm 5,.w .none none (.store 3 aT3 aS1),iQm 4 0] .ret) .skip))) X1))
def F110.b0:IR:=F110.g0 F110.b1
def F110.res:List RV:=[.cell (.of 3) (some 3),.t (.of 4)]
def F110:Fn:={ params:=[(.of 0),(.of 1),(.of 2)],res:=F110.res,body:=F110.b0,init:=in7 }
theorem F110.ok:fnA Tryz.prog Tryz.f110 [0,1,2,6,7,8,17]=some F110:=by kernel_rfl
abbrev F111.fr:=fr4
def F111.b0:IR:=(iSr [iWl 1 (.alloc [(I 0),(I 0),.zh])] (iSr [iSm 0,iQm 2 0] (iSr [iSm 2,iSm 2,.s (.bin .sub .int aS0 aC1),.s (.bin .quo .int aS0 aC2),.s (.build [(I 0),(I 0)] [(0,1,aC0),(1,1,aS0)]),.s (.build [(I 0),(I 0)] [(0,1,(.c (I (-1)))),(1,1,aC1)]),.s (.build [(I 0),(I 0)] [(0,1,aC2),(1,1,(.c (I (-1))))]),.s (.build [(I 0),(I 0),(I 0),(I 0),(I 0),(I 0),(I 0)] [(0,1,aS6),(1,2,aS2),(3,2,aS1),(5,2,aS0)]),iCa 175 [aS0],iCa 176 [aS0],.s (.mv aS0),.s (.ext 0 aS0),.s (.ext 1 aS1),.s (.ext 2 aS2),iWl 3 (.alloc [(I 0),(I 0),.zh]),.w .push none (.alloc [(I 0),(I 0)]),.w .none none (.store 3 aT3 aS3),.w .none none (.store 2 aS0 aS2),.s (.mv aS1)] (iSr [.s (.zk 3 aT3),.w .none none (.store 3 aT1 aS0)] .ret))))
def F111.res:List RV:=[.cell (.of 1) (some 3)]
def F111:Fn:={ params:=[(.of 0)],res:=F111.res,body:=F111.b0,init:=in4 }
theorem F111.ok:fnA Tryz.prog Tryz.f111 [0,2,3,4]=some F111:=by kernel_rfl
abbrev jv.fr:=fr10
def jv.b6:IR:=(iSr [.s (.zn 1 aT5 aT7),.s (.load aS0),iQm 4 0] (.reg [iSm 3,iSm 4,.s (.conv .u8 aS0),.w .push none (.yc 1 1 [(.int .u8 0)] [(0,1,aS0)]),.w .push none (.app 1 1 aS3 aS0),iQm 3 0]))
def jv.g5 (X6:IR):IR:=(.block 1 X6)
def jv.b5:IR:=jv.g5 jv.b6
def jv.b7:IR:=(.reg [.s (.bin .add .int aT7 aC1),iQm 7 0])
def jv.g4 (X5 X7:IR):IR:=(.seq X5 X7)
def jv.b4:IR:=jv.g4 jv.b5 jv.b7
def jv.g3 (X4:IR):IR:=(iSr [iQo 8 (.bin .lss .int aT7 aT6)] (.seq (.cond aT8 .skip (.exit 0)) X4))
def jv.b3:IR:=jv.g3 jv.b4
def jv.g2 (X3:IR):IR:=(.loop X3)
def jv.b2:IR:=jv.g2 jv.b3
def jv.g1 (X2:IR):IR:=(.block 0 X2)
def jv.b1:IR:=jv.g1 jv.b2
def jv.b9:IR:=(iSr [iSm 3,.s (.b2s aS0),iQm 2 0] .ret)
def jv.g8 (X9:IR):IR:=(.seq (iSr [.s (.zi 1 aT1),iQo 9 (.load aS0)] (.cond aT9 (.reg [iSm 3,.w .push none (.yc 1 1 [(.int .u8 0)] [(0,1,(.c (.int .u8 1)))]),.w .push none (.app 1 1 aS1 aS0),iQm 3 0]) .skip)) X9)
def jv.b8:IR:=jv.g8 jv.b9
def jv.g0 (X1 X8:IR):IR:=(iSr [iWl 1 (.box aT0),iQo 2 (.mv (.c (.str [])))] (iSr [.s (.zi 0 aT1),.s (.load aS0),.s (.len aS0),.s (.bin .add .int aS0 aC1),.w .push none (.vk 1 1 [(.int .u8 0)] aC0 aS0),iQm 3 0] (.seq (iSr [.s (.zi 0 aT1),iQo 5 (.load aS0),iQo 6 (.len aT5),iQo 7 (.mv aC0)] X1) X8)))
def jv.b0:IR:=jv.g0 jv.b1 jv.b8
def jv.res:List RV:=[.t (.of 2)]
def jv:Fn:={ params:=[(.of 0)],res:=jv.res,body:=jv.b0,init:=in10 }
theorem jv.ok:fnA Tryz.prog Tryz.f112 [0,1,2,3,5,12,13,14,15,25]=some jv:=by kernel_rfl
abbrev rW.fr:=fr8
def rW.b2:IR:=(iSr [iQo 4 (.mv (.c (I (-1))))] .ret)
def rW.g1 (X2:IR):IR:=(.seq (iSr [.s (.zi 1 aT2),iQo 7 (.load aS0)] (.cond aT7 (iSr [iQo 4 (.mv aC1)] .ret) .skip)) X2)
def rW.b1:IR:=rW.g1 rW.b2
def rW.g0 (X1:IR):IR:=(iSr [iWl 2 (.box aT0),iWl 3 (.box aT1),iQo 4 (.mv aC0)] (.seq (iSr [.s (.zi 0 aT2),.s (.load aS0),.s (.zi 0 aT3),.s (.load aS0),iCa 161 [aS2,aS0],iQm 5 0] (iSr [iSm 5,.s (.bin .neq .int aS0 aC0),.s (.mv aS0),iPf 0 (.zi 1 aT2),iPf 1 (.load aS0),iPf 2 (.zi 1 aT3),iPf 3 (.load aS0),iPf 4 (.bin .eql .bool aS2 aS0),iQo 6 (.pick aS5 (.c (.bool true)) aS0)] (.cond aT6 (iSr [iSm 5,iQm 4 0] .ret) .skip))) X1))
def rW.b0:IR:=rW.g0 rW.b1
def rW.res:List RV:=[.t (.of 4)]
def rW:Fn:={ params:=[(.of 0),(.of 1)],res:=rW.res,body:=rW.b0,init:=in8 }
theorem rW.ok:fnA Tryz.prog Tryz.f114 [0,1,2,3,4,5,19,22]=some rW:=by kernel_rfl
abbrev F115.fr:=fr3
def F115.b0:IR:=(iSr [iWl 1 (.box aT0),iQo 2 (.mv (.c (.bool false)))] (iSr [.s (.zi 1 aT1),.s (.load aS0),iCa 50 [aS0],iQm 2 0] .ret))
def F115.res:List RV:=[.t (.of 2)]
def F115:Fn:={ params:=[(.of 0)],res:=F115.res,body:=F115.b0,init:=in3 }
theorem F115.ok:fnA Tryz.prog Tryz.f115 [0,1,2]=some F115:=by kernel_rfl
abbrev F116.fr:=fr3
def F116.b0:IR:=(iSr [iWl 1 (.box aT0),iQo 2 (.mv (.c (.bool false)))] (iSr [.s (.zk 2 aT1),.w .push none (.call (.c (.fn 117 (.of 117) [])) [aS0,(.c (.str [115,101,109,105,109,97,103,105,99]))]),iQm 2 0] .ret))
def F116.res:List RV:=[.t (.of 2)]
def F116:Fn:={ params:=[(.of 0)],res:=F116.res,body:=F116.b0,init:=in3 }
theorem F116.ok:fnA Tryz.prog Tryz.f116 [0,1,2]=some F116:=by kernel_rfl
abbrev F117.fr:=fr4
def F117.b0:IR:=(iSr [iWl 2 (.box aT0),iQo 3 (.mv (.c (.bool false)))] (.seq (.yh [] [(iSm 1,0,[]),(.s (.zi 0 aT2),0,[]),(.s (.load aS0),0,[]),(.s (.zi 1 aT2),1,[]),(.s (.load aS0),1,[]),(iCa 71 [aS4,aS2],0,[]),(iCa 98 [aS0,aS1],0,[]),(.s (.bin .lss .int aS0 aC0),0,[]),(iQm 3 0,0,[])]) .ret))
def F117.res:List RV:=[.t (.of 3)]
def F117:Fn:={ params:=[(.of 0),(.of 1)],res:=F117.res,body:=F117.b0,init:=in4 }
theorem F117.ok:fnA Tryz.prog Tryz.f117 [0,1,2,4]=some F117:=by kernel_rfl
abbrev F118.fr:=fr3
def F118.b0:IR:=(iSr [iWl 1 (.box aT0),iQo 2 (.mv (.c (.bool false)))] (iSr [.s (.zk 2 aT1),.w .push none (.call (.c (.fn 117 (.of 117) [])) [aS0,(.c (.str [109,97,103,105,99]))]),iQm 2 0] .ret))
def F118.res:List RV:=[.t (.of 2)]
def F118:Fn:={ params:=[(.of 0)],res:=F118.res,body:=F118.b0,init:=in3 }
theorem F118.ok:fnA Tryz.prog Tryz.f118 [0,1,2]=some F118:=by kernel_rfl
abbrev F119.fr:=fr3
def F119.b0:IR:=(iSr [iWl 1 (.box aT0),iQo 2 (.mv (.c (.bool false)))] (iSr [.s (.zk 2 aT1),.w .push none (.call (.c (.fn 117 (.of 117) [])) [aS0,(.c (.str [112,97,110,100,105,97,103,111,110,97,108]))]),iQm 2 0] .ret))
def F119.res:List RV:=[.t (.of 2)]
def F119:Fn:={ params:=[(.of 0)],res:=F119.res,body:=F119.b0,init:=in3 }
theorem F119.ok:fnA Tryz.prog Tryz.f119 [0,1,2]=some F119:=by kernel_rfl
abbrev F120.fr:=fr3
def F120.b0:IR:=(iSr [iWl 1 (.box aT0),iQo 2 (.mv (.c (.bool false)))] (iSr [.s (.zk 2 aT1),.w .push none (.call (.c (.fn 117 (.of 117) [])) [aS0,(.c (.str [109,97,103,105,99]))]),.s (.mv aS0),iPt 0 (.zi 1 aT1),iPt 1 (.load aS0),iPt 2 (.len aS0),iPt 3 (.fn 180 (.of 180) [aT1]),.w .push (some (aS4,true)) (.call (.c (.fn 179 (.of 179) [])) [aS1,aS0]),.s (.pick aS5 aS0 (.c (.bool false))),iQm 2 0] .ret))
def F120.res:List RV:=[.t (.of 2)]
def F120:Fn:={ params:=[(.of 0)],res:=F120.res,body:=F120.b0,init:=in3 }
theorem F120.ok:fnA Tryz.prog Tryz.f120 [0,1,2]=some F120:=by kernel_rfl
abbrev aH.fr:=fr6
def aH.b1:IR:=(iSr [.s (.fn 181 (.of 181) [aT1]),iWl 3 (.alloc [.xw]),.w .none none (.store 1 aT3 aS0)] (iSr [.s (.zi 1 aT1),.s (.load aS0),.s (.len aS0),.s (.fn 182 (.of 182) [aT1,aT3]),iCa 179 [aS1,aS0],iQm 4 0] (iSr [iSm 4,.s (.mv aS0),iPt 0 (.zi 1 aT1),iPt 1 (.load aS0),iPt 2 (.len aS0),iPt 3 (.fn 183 (.of 183) [aT1,aT3]),.w .push (some (aS4,true)) (.call (.c (.fn 179 (.of 179) [])) [aS1,aS0]),.s (.pick aS5 aS0 (.c (.bool false))),iQm 2 0] .ret)))
def aH.g0 (X1:IR):IR:=(iSr [iWl 1 (.box aT0),iQo 2 (.mv (.c (.bool false)))] (.seq (iSr [.s (.zi 0 aT1),.s (.load aS0),.s (.bin .rem .int aS0 aC2),.s (.bin .eql .int aS0 aC1),.s (.mv aS0),iPf 0 (.zk 2 aT1),.w .push (some (aS1,false)) (.call (.c (.fn 117 (.of 117) [])) [aS0,(.c (.str [112,97,110,100,105,97,103,111,110,97,108]))]),iPf 2 (.not aS0),iQo 5 (.pick aS3 (.c (.bool true)) aS0)] (.cond aT5 (iSr [iQo 2 (.mv (.c (.bool false)))] .ret) .skip)) X1))
def aH.b0:IR:=aH.g0 aH.b1
def aH.res:List RV:=[.t (.of 2)]
def aH:Fn:={ params:=[(.of 0)],res:=aH.res,body:=aH.b0,init:=in6 }
theorem aH.ok:fnA Tryz.prog Tryz.f121 [0,1,2,3,4,13]=some aH:=by kernel_rfl
abbrev jy.fr:=fr6
def jy.b7:IR:=(iSr [.s (.zk 2 aT1),.w .push none (.call (.c (.fn 117 (.of 117) [])) [aS0,(.c (.str [109,97,103,105,99]))]),iQo 5 (.not aS0)] (.cond aT5 (iSr [iQo 2 (.mv (.c (.bool false)))] .ret) .skip))
def jy.g6 (X7:IR):IR:=(.block 1 X7)
def jy.b6:IR:=jy.g6 jy.b7
def jy.b8:IR:=(.reg [.s (.zk 2 aT1),iCa 184 [aS0],.w .none none (.store 2 aT1 aS0)])
def jy.g5 (X6 X8:IR):IR:=(.seq X6 X8)
def jy.b5:IR:=jy.g5 jy.b6 jy.b8
def jy.g4 (X5:IR):IR:=(.seq (iSr [.s (.zi 0 aT1),.s (.load aS0),iQo 4 (.bin .geq .int aS0 aC3)] (.cond aT4 .skip (.exit 0))) X5)
def jy.b4:IR:=jy.g4 jy.b5
def jy.g3 (X4:IR):IR:=(.loop X4)
def jy.b3:IR:=jy.g3 jy.b4
def jy.g2 (X3:IR):IR:=(.block 0 X3)
def jy.b2:IR:=jy.g2 jy.b3
def jy.b9:IR:=(iSr [iQo 2 (.mv (.c (.bool true)))] .ret)
def jy.g1 (X2 X9:IR):IR:=(.seq X2 X9)
def jy.b1:IR:=jy.g1 jy.b2 jy.b9
def jy.g0 (X1:IR):IR:=(iSr [iWl 1 (.box aT0),iQo 2 (.mv (.c (.bool false)))] (.seq (iSr [.s (.zi 0 aT1),.s (.load aS0),iQo 3 (.bin .lss .int aS0 aC5)] (.cond aT3 (iSr [iQo 2 (.mv (.c (.bool false)))] .ret) .skip)) X1))
def jy.b0:IR:=jy.g0 jy.b1
def jy.res:List RV:=[.t (.of 2)]
def jy:Fn:={ params:=[(.of 0)],res:=jy.res,body:=jy.b0,init:=in6 }
theorem jy.ok:fnA Tryz.prog Tryz.f122 [0,1,2,5,8,13]=some jy:=by kernel_rfl
abbrev F123.fr:=fr3
def F123.b0:IR:=(iSr [iWl 1 (.box aT0),iQo 2 (.mv (.c (.bool false)))] (iSr [.s (.zk 2 aT1),.w .push none (.call (.c (.fn 117 (.of 117) [])) [aS0,(.c (.str [109,97,103,105,99]))]),.s (.mv aS0),iPt 0 (.zk 2 aT1),.w .push (some (aS1,true)) (.call (.c (.fn 124 (.of 124) [])) [aS0,aC2]),.s (.pick aS2 aS0 (.c (.bool false))),iQm 2 0] .ret))
def F123.res:List RV:=[.t (.of 2)]
def F123:Fn:={ params:=[(.of 0)],res:=F123.res,body:=F123.b0,init:=in3 }
theorem F123.ok:fnA Tryz.prog Tryz.f123 [0,1,2]=some F123:=by kernel_rfl
abbrev yg.fr:=fr19
def yg.b12:IR:=(iSr [.s (.zn 1 aP aT15),.s (.load aS0),iQm 8 0] (.yh [] [(.s (.zk 2 aT7),2,[]),(.s (.zi 1 aT2),0,[]),(.s (.load aS0),0,[]),(iSm 8,0,[]),(.s (.zn 1 aS1 aS0),0,[]),(.s (.load aS0),0,[]),(iSm 1,1,[]),(iCa 85 [aS1],0,[]),(iCa 185 [aS0,aS1],0,[]),(iCa 87 [aS8,aS0],0,[]),(.w .none none (.store 2 aT7 aS0),0,[])]))
def yg.g11 (X12:IR):IR:=(.block 3 X12)
def yg.b11:IR:=yg.g11 yg.b12
def yg.b13:IR:=(.reg [.s (.bin .add .int aT15 aC1),iQm 15 0])
def yg.g10 (X11 X13:IR):IR:=(.seq X11 X13)
def yg.b10:IR:=yg.g10 yg.b11 yg.b13
def yg.g9 (X10:IR):IR:=(iSr [iQo 16 (.bin .lss .int aT15 aT14)] (.seq (.cond aT16 .skip (.exit 2)) X10))
def yg.b9:IR:=yg.g9 yg.b10
def yg.g8 (X9:IR):IR:=(.loop X9)
def yg.b8:IR:=yg.g8 yg.b9
def yg.g7 (X8:IR):IR:=(.block 2 X8)
def yg.b7:IR:=yg.g7 yg.b8
def yg.b15:IR:=(iSr [.s (.zk 2 aT7),.s (.zk 2 aT4),iCa 186 [aS1,aS0],iQo 18 (.bin .neq .int aS0 aC0)] (.cond aT18 (iSr [iQo 3 (.mv (.c (.bool false)))] .ret) .skip))
def yg.g14 (X15:IR):IR:=(.seq (iSr [iSm 5,iQo 17 (.bin .eql .int aS0 aC0)] (.cond aT17 (.reg [.s (.zk 2 aT7),.w .none none (.store 2 aT4 aS0)]) .skip)) X15)
def yg.b14:IR:=yg.g14 yg.b15
def yg.g6 (X7 X14:IR):IR:=(iSr [iSm 11,.s (.zn 1 aT9 sU),.s (.load aS0),iQm 5 2,iQm 6 0] (iSr [iCa 85 [aC0],iWl 7 (.alloc [(I 0),.zh]),.w .none none (.store 2 aT7 aS0)] (.seq (iSr [iQo 13 (.mv aT6),iQo 14 (.len aP),iQo 15 (.mv aC0)] X7) X14)))
def yg.b6:IR:=yg.g6 yg.b7 yg.b14
def yg.g5 (X6:IR):IR:=(.block 1 X6)
def yg.b5:IR:=yg.g5 yg.b6
def yg.b16:IR:=(.reg [.s (.bin .add .int sU aC1),iQm 11 0])
def yg.g4 (X5 X16:IR):IR:=(.seq X5 X16)
def yg.b4:IR:=yg.g4 yg.b5 yg.b16
def yg.g3 (X4:IR):IR:=(iSr [iQo 12 (.bin .lss .int sU rX)] (.seq (.cond aO .skip (.exit 0)) X4))
def yg.b3:IR:=yg.g3 yg.b4
def yg.g2 (X3:IR):IR:=(.loop X3)
def yg.b2:IR:=yg.g2 yg.b3
def yg.g1 (X2:IR):IR:=(.block 0 X2)
def yg.b1:IR:=yg.g1 yg.b2
def yg.b17:IR:=(iSr [iQo 3 (.mv (.c (.bool true)))] .ret)
def yg.g0 (X1 X17:IR):IR:=(iSr [iWl 2 (.box aT0),iQo 3 (.mv (.c (.bool false)))] (iSr [iWl 4 (.alloc [(I 0),.zh])] (.seq (iSr [.s (.zi 0 aT2),.s (.load aS0),.w .push none (.call (.c (.fn 71 (.of 71) [])) [(.c (.str [109,97,103,105,99])),aS0]),iQo 9 (.part 1 none aS0),iQo 10 (.len aT9),iQo 11 (.mv aC0)] X1) X17)))
def yg.b0:IR:=yg.g0 yg.b1 yg.b17
def yg.res:List RV:=[.t (.of 3)]
def yg:Fn:={ params:=[(.of 0),(.of 1)],res:=yg.res,body:=yg.b0,init:=in19 }
theorem yg.ok:fnA Tryz.prog Tryz.f124 [0,1,2,4,5,6,7,8,10,14,15,16,17,22,23,24,25,40,45]=some yg:=by kernel_rfl
abbrev F125.fr:=fr2
def F125.b0:IR:=(iSr [iQo 1 (.mv aC0)] (iSr [iSm 0,.s (.bin .lss .int aS0 aC0),.s (.mv aS0),iPf 0 (.mv aT0),iPf 1 (.bin .gtr .int aS0 zfx),.s (.pick aS2 (.c (.bool true)) aS0),iCa 76 [aS0,aC3],iQm 1 0] .ret))
def F125.res:List RV:=[.t (.of 1)]
def F125:Fn:={ params:=[(.of 0)],res:=F125.res,body:=F125.b0,init:=in2 }
theorem F125.ok:fnA Tryz.prog Tryz.f125 [0,2]=some F125:=by kernel_rfl
abbrev o9.fr:=fr2
def o9.b0:IR:=(iSr [iQo 1 (.mv (.c (.bool false)))] (iSr [iSm 0,iCa 187 [aS0],.s (.bin .eql .int aS0 aC0),iQm 1 0] .ret))
def o9.res:List RV:=[.t (.of 1)]
def o9:Fn:={ params:=[(.of 0)],res:=o9.res,body:=o9.b0,init:=in2 }
theorem o9.ok:fnA Tryz.prog Tryz.f126 [0,2]=some o9:=by kernel_rfl
abbrev gq.fr:=fr8
def gq.b6:IR:=(iSr [iSm 5,iQm 3 0] (iSr [iSm 1,iSm 0,iSm 3,.s (.zn 1 aS1 aS0),.s (.load aS0),iWl 7 (.call aS4 [aS0])] (.cond aT7 (iSr [iSm 3,iQm 2 0] .ret) .skip)))
def gq.g5 (X6:IR):IR:=(.block 1 X6)
def gq.b5:IR:=gq.g5 gq.b6
def gq.b7:IR:=(.reg [.s (.bin .add .int aT5 aC1),iQm 5 0])
def gq.g4 (X5 X7:IR):IR:=(.seq X5 X7)
def gq.b4:IR:=gq.g4 gq.b5 gq.b7
def gq.g3 (X4:IR):IR:=(iSr [iQo 6 (.bin .lss .int aT5 aT4)] (.seq (.cond aT6 .skip (.exit 0)) X4))
def gq.b3:IR:=gq.g3 gq.b4
def gq.g2 (X3:IR):IR:=(.loop X3)
def gq.b2:IR:=gq.g2 gq.b3
def gq.g1 (X2:IR):IR:=(.block 0 X2)
def gq.b1:IR:=gq.g1 gq.b2
def gq.b8:IR:=(iSr [iQo 2 (.mv (.c (I (-1))))] .ret)
def gq.g0 (X1 X8:IR):IR:=(iSr [iQo 2 (.mv aC0)] (.seq (iSr [iSm 0,iQo 4 (.len aS0),iQo 5 (.mv aC0)] X1) X8))
def gq.b0:IR:=gq.g0 gq.b1 gq.b8
def gq.res:List RV:=[.t (.of 2)]
def gq:Fn:={ params:=[(.of 0),(.of 1)],res:=gq.res,body:=gq.b0,init:=in8 }
theorem gq.ok:fnA Tryz.prog Tryz.f127 [0,1,4,5,7,8,9,16]=some gq:=by kernel_rfl
abbrev F128.fr:=fr5
def F128.b1:IR:=(iSr [iSm 0,iSm 1,.s (.len aS0),iCa 84 [aS2,aS0],iQm 2 0] .ret)
def F128.g0 (X1:IR):IR:=(iSr [iQo 2 (.mv aC0)] (.seq (iSr [iSm 1,iCa 63 [aS0],iQm 3 0] (iSr [iSm 3,iQo 4 (.bin .neq .int aS0 aC0)] (.cond aT4 (iSr [iSm 3,iQm 2 0] .ret) .skip))) X1))
def F128.b0:IR:=F128.g0 F128.b1
def F128.res:List RV:=[.t (.of 2)]
def F128:Fn:={ params:=[(.of 0),(.of 1)],res:=F128.res,body:=F128.b0,init:=in5 }
theorem F128.ok:fnA Tryz.prog Tryz.f128 [0,1,4,5,9]=some F128:=by kernel_rfl
abbrev rP.fr:=fr12
def rP.b3:IR:=(.reg [iWl 6 (.alloc [.zh,(.bool false)]),.w .none none (.store 2 aT6 rX)])
def rP.b6:IR:=(.reg [.s (.load aT5),iSm 7,.w .push none (.yc 1 1 [.zh] [(0,1,aS0)]),.w .push none (.app 1 24 aS2 aS0),.w .none none (.store 1 aT5 aS0)])
def rP.g5 (X6:IR):IR:=(iSr [.s (.zk 2 aT6),.s (.load aT2),iCa 65 [aS1,aS0],iQm 7 0] (.seq (iSr [iSm 7,iWl 11 (.call (.c (.fn 66 (.of 66) [])) [aS0,(.c (.fn 67 (.of 67) []))])] (.cond sU (iSr [.w .none none (.store 1 aT3 (.c .zh)),.w .none none (.store 1 aT4 aC3)] .ret) .skip)) X6))
def rP.b5:IR:=rP.g5 rP.b6
def rP.g4 (X5:IR):IR:=(.block 1 X5)
def rP.b4:IR:=rP.g4 rP.b5
def rP.g2 (X3 X4:IR):IR:=(.rf aT8 [(.of 9),(.of 10)] X3 X4)
def rP.b2:IR:=rP.g2 rP.b3 rP.b4
def rP.g1 (X2:IR):IR:=(.block 0 X2)
def rP.b1:IR:=rP.g1 rP.b2
def rP.b7:IR:=(iSr [.s (.load aT5),.w .push none (.call (.c (.fn 188 (.of 188) [])) [aS0,(.c (.fn 161 (.of 161) []))])] (iSr [.s (.load aT5),.w .push none (.call (.c (.fn 189 (.of 189) [])) [aS0,(.c (.fn 190 (.of 190) []))]),.w .none none (.store 1 aT3 aS0),.w .none none (.store 1 aT4 aC0)] .ret))
def rP.g0 (X1 X7:IR):IR:=(iSr [iWl 2 (.box aT1),iWl 3 (.alloc [.zh]),iWl 4 (.alloc [(I 0)])] (iSr [iWl 5 (.alloc [.zh])] (.seq (iSr [iSm 0,iWl 8 (.call (.c (.fn 86 (.of 86) [])) [aS0])] X1) X7)))
def rP.b0:IR:=rP.g0 rP.b1 rP.b7
def rP.res:List RV:=[.cell (.of 3) none,.cell (.of 4) none]
def rP:Fn:={ params:=[(.of 0),(.of 1)],res:=rP.res,body:=rP.b0,init:=in12 }
theorem rP.ok:fnA Tryz.prog Tryz.f129 [0,1,3,4,5,6,8,9,11,12,13,18]=some rP:=by kernel_rfl
abbrev fV.fr:=fr8
def fV.b6:IR:=(iSr [iSm 5,iQm 3 0] (iSr [iSm 1,iSm 0,iSm 3,.s (.zn 1 aS1 aS0),.s (.load aS0),iQo 7 (.bin .eql .str aS4 aS0)] (.cond aT7 (iSr [iSm 3,iQm 2 0] .ret) .skip)))
def fV.g5 (X6:IR):IR:=(.block 1 X6)
def fV.b5:IR:=fV.g5 fV.b6
def fV.b7:IR:=(.reg [.s (.bin .add .int aT5 aC1),iQm 5 0])
def fV.g4 (X5 X7:IR):IR:=(.seq X5 X7)
def fV.b4:IR:=fV.g4 fV.b5 fV.b7
def fV.g3 (X4:IR):IR:=(iSr [iQo 6 (.bin .lss .int aT5 aT4)] (.seq (.cond aT6 .skip (.exit 0)) X4))
def fV.b3:IR:=fV.g3 fV.b4
def fV.g2 (X3:IR):IR:=(.loop X3)
def fV.b2:IR:=fV.g2 fV.b3
def fV.g1 (X2:IR):IR:=(.block 0 X2)
def fV.b1:IR:=fV.g1 fV.b2
def fV.b8:IR:=(iSr [iQo 2 (.mv (.c (I (-1))))] .ret)
def fV.g0 (X1 X8:IR):IR:=(iSr [iQo 2 (.mv aC0)] (.seq (iSr [iSm 0,iQo 4 (.len aS0),iQo 5 (.mv aC0)] X1) X8))
def fV.b0:IR:=fV.g0 fV.b1 fV.b8
def fV.res:List RV:=[.t (.of 2)]
def fV:Fn:={ params:=[(.of 0),(.of 1)],res:=fV.res,body:=fV.b0,init:=in8 }
theorem fV.ok:fnA Tryz.prog Tryz.f130 [0,1,4,5,7,8,9,16]=some fV:=by kernel_rfl
abbrev oU.fr:=fr4
def oU.b0:IR:=(iSr [iQo 3 (.mv (.c (.bool false)))] (iSr [iSm 0,.s (.load aT1),.s (.bin .lss .int aS1 aS0),.s (.mv aS0),iPf 0 (.mv aT0),iPf 1 (.load aT2),iPf 2 (.bin .gtr .int aS1 aS0),.s (.pick aS3 (.c (.bool true)) aS0),iQm 3 0] .ret))
def oU.res:List RV:=[.t (.of 3)]
def oU:Fn:={ params:=[(.of 0),(.of 1),(.of 2)],res:=oU.res,body:=oU.b0,init:=in4 }
theorem oU.ok:fnA Tryz.prog Tryz.f131 [0,1,2,4]=some oU:=by kernel_rfl
abbrev qg.fr:=fr15
def qg.b6:IR:=(iSr [.s (.zn 1 aT6 aT8),.s (.load aS0),iQm 3 0] (iSr [iSm 2,iSm 3,.s (.len aS0),.s (.bin .add .int aS2 aS0),iQm 2 0] (iSr [iSm 2,iQo 10 (.bin .lss .int aS0 aC0)] (.cond rX (.bad 7) .skip))))
def qg.g5 (X6:IR):IR:=(.block 1 X6)
def qg.b5:IR:=qg.g5 qg.b6
def qg.b7:IR:=(.reg [.s (.bin .add .int aT8 aC1),iQm 8 0])
def qg.g4 (X5 X7:IR):IR:=(.seq X5 X7)
def qg.b4:IR:=qg.g4 qg.b5 qg.b7
def qg.g3 (X4:IR):IR:=(iSr [iQo 9 (.bin .lss .int aT8 aT7)] (.seq (.cond aT9 .skip (.exit 0)) X4))
def qg.b3:IR:=qg.g3 qg.b4
def qg.g2 (X3:IR):IR:=(.loop X3)
def qg.b2:IR:=qg.g2 qg.b3
def qg.g1 (X2:IR):IR:=(.block 0 X2)
def qg.b1:IR:=qg.g1 qg.b2
def qg.b14:IR:=(iSr [.s (.zn 1 sU aP),.s (.load aS0),iQm 5 0] (.reg [iSm 4,iSm 5,.w .push none (.app 1 24 aS1 aS0),iQm 4 0]))
def qg.g13 (X14:IR):IR:=(.block 3 X14)
def qg.b13:IR:=qg.g13 qg.b14
def qg.b15:IR:=(.reg [.s (.bin .add .int aP aC1),iQm 13 0])
def qg.g12 (X13 X15:IR):IR:=(.seq X13 X15)
def qg.b12:IR:=qg.g12 qg.b13 qg.b15
def qg.g11 (X12:IR):IR:=(iSr [iQo 14 (.bin .lss .int aP aO)] (.seq (.cond aT14 .skip (.exit 2)) X12))
def qg.b11:IR:=qg.g11 qg.b12
def qg.g10 (X11:IR):IR:=(.loop X11)
def qg.b10:IR:=qg.g10 qg.b11
def qg.g9 (X10:IR):IR:=(.block 2 X10)
def qg.b9:IR:=qg.g9 qg.b10
def qg.b16:IR:=(iSr [iSm 4,iQm 1 0] .ret)
def qg.g8 (X9 X16:IR):IR:=(iSr [iSm 2,iCa 191 [(.c .zh),aS0],iQm 4 0] (.seq (iSr [iQo 11 (.mv aT0),iQo 12 (.len sU),iQo 13 (.mv aC0)] X9) X16))
def qg.b8:IR:=qg.g8 qg.b9 qg.b16
def qg.g0 (X1 X8:IR):IR:=(iSr [iQo 1 (.mv (.c .zh))] (iSr [iQo 2 (.mv aC0)] (.seq (iSr [iQo 6 (.mv aT0),iQo 7 (.len aT6),iQo 8 (.mv aC0)] X1) X8)))
def qg.b0:IR:=qg.g0 qg.b1 qg.b8
def qg.res:List RV:=[.t (.of 1)]
def qg:Fn:={ params:=[(.of 0)],res:=qg.res,body:=qg.b0,init:=in15 }
theorem qg.ok:fnA Tryz.prog Tryz.f132 [0,2,3,5,6,8,9,10,11,12,20,25,26,27,28]=some qg:=by kernel_rfl
abbrev fZ.fr:=fr9
def fZ.b6:IR:=(iSr [iSm 7,iWl 5 (.alloc [(I 0)]),.w .none none (.store 1 aT5 aS0)] (.reg [iSm 4,.s (.load aT2),.s (.fn 192 (.of 192) [aT2,aT5]),iCa 51 [aS1,aS0],.w .push none (.yc 1 1 [.zh] [(0,1,aS0)]),.w .push none (.app 1 24 aS4 aS0),iQm 4 0]))
def fZ.g5 (X6:IR):IR:=(.block 1 X6)
def fZ.b5:IR:=fZ.g5 fZ.b6
def fZ.b7:IR:=(.reg [.s (.bin .add .int aT7 aC1),iQm 7 0])
def fZ.g4 (X5 X7:IR):IR:=(.seq X5 X7)
def fZ.b4:IR:=fZ.g4 fZ.b5 fZ.b7
def fZ.g3 (X4:IR):IR:=(iSr [iQo 8 (.bin .lss .int aT7 aT6)] (.seq (.cond aT8 .skip (.exit 0)) X4))
def fZ.b3:IR:=fZ.g3 fZ.b4
def fZ.g2 (X3:IR):IR:=(.loop X3)
def fZ.b2:IR:=fZ.g2 fZ.b3
def fZ.g1 (X2:IR):IR:=(.block 0 X2)
def fZ.b1:IR:=fZ.g1 fZ.b2
def fZ.b8:IR:=(iSr [iSm 4,iQm 3 0] .ret)
def fZ.g0 (X1 X8:IR):IR:=(iSr [iWl 2 (.box aT1),iQo 3 (.mv (.c .zh))] (iSr [iQo 4 (.mv (.c .zh))] (.seq (iSr [iQo 6 (.mv aT0),iQo 7 (.mv aC0)] X1) X8)))
def fZ.b0:IR:=fZ.g0 fZ.b1 fZ.b8
def fZ.res:List RV:=[.t (.of 3)]
def fZ:Fn:={ params:=[(.of 0),(.of 1)],res:=fZ.res,body:=fZ.b0,init:=in9 }
theorem fZ.ok:fnA Tryz.prog Tryz.f133 [0,1,3,4,5,6,7,8,9]=some fZ:=by kernel_rfl
abbrev ng.fr:=fr9
def ng.b6:IR:=(iSr [iSm 7,iWl 5 (.alloc [(I 0)]),.w .none none (.store 1 aT5 aS0)] (.reg [iSm 4,iSm 0,.s (.fn 193 (.of 193) [aT2,aT5]),iCa 51 [aS1,aS0],.w .push none (.yc 1 1 [.zh] [(0,1,aS0)]),.w .push none (.app 1 24 aS4 aS0),iQm 4 0]))
def ng.g5 (X6:IR):IR:=(.block 1 X6)
def ng.b5:IR:=ng.g5 ng.b6
def ng.b7:IR:=(.reg [.s (.bin .add .int aT7 aC1),iQm 7 0])
def ng.g4 (X5 X7:IR):IR:=(.seq X5 X7)
def ng.b4:IR:=ng.g4 ng.b5 ng.b7
def ng.g3 (X4:IR):IR:=(iSr [iQo 8 (.bin .lss .int aT7 aT6)] (.seq (.cond aT8 .skip (.exit 0)) X4))
def ng.b3:IR:=ng.g3 ng.b4
def ng.g2 (X3:IR):IR:=(.loop X3)
def ng.b2:IR:=ng.g2 ng.b3
def ng.g1 (X2:IR):IR:=(.block 0 X2)
def ng.b1:IR:=ng.g1 ng.b2
def ng.b8:IR:=(iSr [iSm 4,iQm 3 0] .ret)
def ng.g0 (X1 X8:IR):IR:=(iSr [iWl 2 (.box aT1),iQo 3 (.mv (.c .zh))] (iSr [iQo 4 (.mv (.c .zh))] (.seq (iSr [iQo 6 (.load aT2),iQo 7 (.mv aC0)] X1) X8)))
def ng.b0:IR:=ng.g0 ng.b1 ng.b8
def ng.res:List RV:=[.t (.of 3)]
def ng:Fn:={ params:=[(.of 0),(.of 1)],res:=ng.res,body:=ng.b0,init:=in9 }
theorem ng.ok:fnA Tryz.prog Tryz.f134 [0,1,3,4,5,6,7,8,9]=some ng:=by kernel_rfl
abbrev F135.fr:=fr5
def F135.b0:IR:=(iSr [iWl 2 (.box aT0),iWl 3 (.box aT1),iQo 4 (.mv (.c .xw))] (iSr [.s (.fn 194 (.of 194) [aT2,aT3]),iQm 4 0] .ret))
def F135.res:List RV:=[.t (.of 4)]
def F135:Fn:={ params:=[(.of 0),(.of 1)],res:=F135.res,body:=F135.b0,init:=in5 }
theorem F135.ok:fnA Tryz.prog Tryz.f135 [0,1,2,3,4]=some F135:=by kernel_rfl
abbrev jo.fr:=fr14
def jo.b7:IR:=(iSr [iSm 11,.s (.zn 1 aT9 sU),.s (.load aS0),iQm 5 2,iQm 6 0] (iSr [iSm 6,.s (.bin .lss .int aS0 aC0),.s (.mv aS0),iPf 0 (.mv aT6),iPf 1 (.zi 0 aT2),iPf 2 (.load aS0),iPf 3 (.bin .geq .int aS2 aS0),.s (.pick aS4 (.c (.bool true)) aS0),iCa 44 [aS0,aC10],iSm 5,.s (.bin .gtr .int aS0 aC0),.s (.mv aS0),iPt 0 (.load aT4),iPt 1 (.mv aT5),iPt 2 (.bin .sub .int aS0 aC1),iPt 3 (.zn 1 aS2 aS0),iPt 4 (.load aS0),iPt 5 (.mv aT6),iPt 6 (.bin .geq .int aS1 aS0),.s (.pick aS7 aS0 (.c (.bool false))),iCa 44 [aS0,aC11],.w .push none (.yc 1 2 [(I 0)] [(0,1,aS12),(1,1,aS0)]),iCa 42 [aS0],iQm 7 0] (iSr [iSm 7,iQo 13 (.bin .neq .int aS0 aC0)] (.cond aP (iSr [iSm 7,iQm 3 0] .ret) .skip))))
def jo.g6 (X7:IR):IR:=(.block 1 X7)
def jo.b6:IR:=jo.g6 jo.b7
def jo.b8:IR:=(.reg [.s (.bin .add .int sU aC1),iQm 11 0])
def jo.g5 (X6 X8:IR):IR:=(.seq X6 X8)
def jo.b5:IR:=jo.g5 jo.b6 jo.b8
def jo.g4 (X5:IR):IR:=(iSr [iQo 12 (.bin .lss .int sU rX)] (.seq (.cond aO .skip (.exit 0)) X5))
def jo.b4:IR:=jo.g4 jo.b5
def jo.g3 (X4:IR):IR:=(.loop X4)
def jo.b3:IR:=jo.g3 jo.b4
def jo.g2 (X3:IR):IR:=(.block 0 X3)
def jo.b2:IR:=jo.g2 jo.b3
def jo.b9:IR:=(iSr [.s (.zi 1 aT2),.s (.load aS0),iSm 1,.s (.slice 1 aS1 none (some aS0) none),.s (.fn 197 (.of 197) [aT4]),iCa 196 [aS1,aS0],iCa 44 [aS0,aC9],iQm 3 0] .ret)
def jo.g1 (X2 X9:IR):IR:=(.seq (iSr [iQo 9 (.load aT4),iQo 10 (.len aT9),iQo 11 (.mv aC0)] X2) X9)
def jo.b1:IR:=jo.g1 jo.b2 jo.b9
def jo.g0 (X1:IR):IR:=(iSr [iWl 2 (.box aT0),iQo 3 (.mv aC0)] (iSr [.s (.zi 1 aT2),.s (.load aS0),iSm 1,.s (.zn 1 aS1 aS0),.s (.load aS0),iWl 4 (.alloc [.zh]),.w .none none (.store 1 aT4 aS0)] (.seq (iSr [.s (.load aT4),.s (.len aS0),iQo 8 (.bin .eql .int aS0 aC0)] (.cond aT8 (iSr [iQo 3 (.mv aC12)] .ret) .skip)) X1)))
def jo.b0:IR:=jo.g0 jo.b1
def jo.res:List RV:=[.t (.of 3)]
def jo:Fn:={ params:=[(.of 0),(.of 1)],res:=jo.res,body:=jo.b0,init:=in14 }
theorem jo.ok:fnA Tryz.prog Tryz.f136 [0,1,2,4,5,6,7,8,16,17,18,19,20,48]=some jo:=by kernel_rfl
abbrev zx.fr:=fr10
def zx.b6:IR:=(iSr [.s (.zn 1 aT6 aT8),.s (.load aS0),iQm 5 0] (.reg [iSm 4,iSm 0,iSm 5,.s (.zn 1 aS1 aS0),.s (.load aS0),.w .push none (.yc 1 1 [(I 0)] [(0,1,aS0)]),.w .push none (.app 1 8 aS5 aS0),iQm 4 0]))
def zx.g5 (X6:IR):IR:=(.block 1 X6)
def zx.b5:IR:=zx.g5 zx.b6
def zx.b7:IR:=(.reg [.s (.bin .add .int aT8 aC1),iQm 8 0])
def zx.g4 (X5 X7:IR):IR:=(.seq X5 X7)
def zx.b4:IR:=zx.g4 zx.b5 zx.b7
def zx.g3 (X4:IR):IR:=(iSr [iQo 9 (.bin .lss .int aT8 aT7)] (.seq (.cond aT9 .skip (.exit 0)) X4))
def zx.b3:IR:=zx.g3 zx.b4
def zx.g2 (X3:IR):IR:=(.loop X3)
def zx.b2:IR:=zx.g2 zx.b3
def zx.g1 (X2:IR):IR:=(.block 0 X2)
def zx.b1:IR:=zx.g1 zx.b2
def zx.b8:IR:=(iSr [iSm 4,iCa 138 [aS0]] (.seq (.yh [] [(.s (.load aT2),1,[]),(iSm 4,0,[]),(.s (.build [.zh,(.bool false)] [(0,1,aS0)]),0,[]),(iCa 112 [aS0],0,[]),(.s (.look .str (.bool false) false aS3 aS0),0,[]),(iQm 3 0,0,[])]) .ret))
def zx.g0 (X1 X8:IR):IR:=(iSr [iQo 3 (.mv (.c (.bool false)))] (iSr [iQo 4 (.mv (.c .zh))] (.seq (iSr [iQo 6 (.mv aT1),iQo 7 (.len aT6),iQo 8 (.mv aC0)] X1) X8)))
def zx.b0:IR:=zx.g0 zx.b1 zx.b8
def zx.res:List RV:=[.t (.of 3)]
def zx:Fn:={ params:=[(.of 0),(.of 1),(.of 2)],res:=zx.res,body:=zx.b0,init:=in10 }
theorem zx.ok:fnA Tryz.prog Tryz.f137 [0,1,2,5,6,8,9,10,11,12]=some zx:=by kernel_rfl
abbrev F138.fr:=fr2
def F138.b0:IR:=(iSr [iSm 0,.s (.len aS0),iQm 1 0] (.reg [iSm 0,iSm 1,iSm 1,.s (.conv .u64 aS0),iCa 178 [aS0],iCa 198 [aS4,aC0,aS3,aS0]]))
def F138.res:List RV:=[]
def F138:Fn:={ params:=[(.of 0)],res:=F138.res,body:=F138.b0,init:=in2 }
theorem F138.ok:fnA Tryz.prog Tryz.f138 [0,2]=some F138:=by kernel_rfl
abbrev yx.fr:=fr20
def yx.b5:IR:=(iSr [iQo 8 (.mv aT16)] (.reg [iWl 9 (.alloc [.zh,(.bool false)]),.w .none none (.store 2 aT9 aT17)]))
def yx.b7:IR:=(.seq (.yh [] [(iSm 8,0,[]),(.s (.bin .gtr .int aS0 aC0),0,[]),(.s (.mv aS0),0,[]),(iPt 0 (.load aT2),0,[]),(iPt 1 (.mv aT8),0,[]),(iPt 2 (.bin .sub .int aS0 aC1),0,[]),(iPt 3 (.zn 2 aS2 aS0),0,[]),(iPt 4 (.zk 2 aS0),0,[]),(iPt 5 (.zk 2 aT9),0,[]),(.w .push (some (aS6,true)) (.call (.c (.fn 114 (.of 114) [])) [aS1,aS0]),0,[]),(iPt 7 (.bin .geq .int aS0 aC0),0,[]),(iQo 18 (.pick aS8 aS0 (.c (.bool false))),0,[])]) (.cond aT18 (iSr [.w .none none (.store 1 aT3 (.c .qj)),.w .none none (.store 1 aT4 (.c .zh)),.w .none none (.store 1 aT5 aC11)] .ret) .skip))
def yx.g6 (X7:IR):IR:=(.block 1 X7)
def yx.b6:IR:=yx.g6 yx.b7
def yx.g4 (X5 X6:IR):IR:=(.rf aT15 [(.of 16),(.of 17)] X5 X6)
def yx.b4:IR:=yx.g4 yx.b5 yx.b6
def yx.g3 (X4:IR):IR:=(.block 0 X4)
def yx.b3:IR:=yx.g3 yx.b4
def yx.b9:IR:=(iSr [iSm 10,iSm 11,.w .none none (.store 1 aT3 aS1),.w .none none (.store 1 aT4 aS0),.w .none none (.store 1 aT5 aC0)] .ret)
def yx.g8 (X9:IR):IR:=(iSr [.s (.load aT2),iSm 1,.s (.load aT2),.s (.len aS0),iCa 200 [aS3,aS2,aS0],.s (.mv aS0),.s (.ext 0 aS0),.s (.ext 1 aS1),.s (.ext 2 aS2),iQm 10 2,iQm 11 1,iQm 12 0] (.seq (iSr [iSm 12,.s (.not aS0),.s (.mv aS0),iPf 0 (.mv rX),iPf 1 (.mlen aS0),iPf 2 (.load aT2),iPf 3 (.len aS0),iPf 4 (.bin .neq .int aS2 aS0),iQo 19 (.pick aS5 (.c (.bool true)) aS0)] (.cond aT19 (iSr [.w .none none (.store 1 aT3 (.c .qj)),.w .none none (.store 1 aT4 (.c .zh)),.w .none none (.store 1 aT5 aC28)] .ret) .skip)) X9))
def yx.b8:IR:=yx.g8 yx.b9
def yx.g2 (X3 X8:IR):IR:=(.seq (iSr [.s (.load aT2),iWl 15 (.call (.c (.fn 86 (.of 86) [])) [aS0])] X3) X8)
def yx.b2:IR:=yx.g2 yx.b3 yx.b8
def yx.g1 (X2:IR):IR:=(.seq (iSr [.s (.load aT2),iSm 1,iCa 199 [aS1,aS0],iQm 7 0] (iSr [iSm 7,iQo 14 (.bin .neq .int aS0 aC0)] (.cond aT14 (iSr [iSm 7,.w .none none (.store 1 aT3 (.c .qj)),.w .none none (.store 1 aT4 (.c .zh)),.w .none none (.store 1 aT5 aS0)] .ret) .skip))) X2)
def yx.b1:IR:=yx.g1 yx.b2
def yx.g0 (X1:IR):IR:=(iSr [iWl 2 (.box aT0),iWl 3 (.alloc [.qj]),iWl 4 (.alloc [.zh]),iWl 5 (.alloc [(I 0)])] (.seq (.seq (.yh [] [(iSm 1,0,[]),(.s (.load aT2),1,[]),(.s (.len aS0),1,[]),(.s (.bin .eql .int aS0 aC0),1,[]),(.s (.load aT2),2,[]),(.s (.len aS0),2,[]),(.s (.bin .gtr .int aS0 zwc),2,[]),(iCa 125 [aS6],0,[]),(iCa 76 [aS4,aC12],0,[]),(iCa 76 [aS2,aC5],0,[]),(.w .push none (.yc 1 3 [(I 0)] [(0,1,aS2),(1,1,aS1),(2,1,aS0)]),0,[]),(iCa 72 [aS0],0,[]),(iQm 6 0,0,[])]) (iSr [iSm 6,iQo 13 (.bin .neq .int aS0 aC0)] (.cond aP (iSr [iSm 6,.w .none none (.store 1 aT3 (.c .qj)),.w .none none (.store 1 aT4 (.c .zh)),.w .none none (.store 1 aT5 aS0)] .ret) .skip))) X1))
def yx.b0:IR:=yx.g0 yx.b1
def yx.res:List RV:=[.cell (.of 3) none,.cell (.of 4) none,.cell (.of 5) none]
def yx:Fn:={ params:=[(.of 0),(.of 1)],res:=yx.res,body:=yx.b0,init:=in20 }
theorem yx.ok:fnA Tryz.prog Tryz.f143 [0,1,2,4,5,6,7,8,9,10,11,12,13,27,33,36,37,38,50,68]=some yx:=by kernel_rfl
abbrev xg.fr:=fr9
def xg.b6:IR:=(iSr [iSm 6,.s (.zn 2 aT4 aT6),.s (.zk 2 aS0),iWl 3 (.alloc [.zh,(.bool false)]),iQm 2 2,.w .none none (.store 2 aT3 aS0)] (iSr [iSm 0,iSm 2,.s (.zk 2 aT3),.w .push none (.call aS2 [aS1,aS0]),iQo 8 (.not aS0)] (.cond aT8 .ret .skip)))
def xg.g5 (X6:IR):IR:=(.block 1 X6)
def xg.b5:IR:=xg.g5 xg.b6
def xg.b7:IR:=(.reg [.s (.bin .add .int aT6 aC1),iQm 6 0])
def xg.g4 (X5 X7:IR):IR:=(.seq X5 X7)
def xg.b4:IR:=xg.g4 xg.b5 xg.b7
def xg.g3 (X4:IR):IR:=(iSr [iQo 7 (.bin .lss .int aT6 aT5)] (.seq (.cond aT7 .skip (.exit 0)) X4))
def xg.b3:IR:=xg.g3 xg.b4
def xg.g2 (X3:IR):IR:=(.loop X3)
def xg.b2:IR:=xg.g2 xg.b3
def xg.g1 (X2:IR):IR:=(.block 0 X2)
def xg.b1:IR:=xg.g1 xg.b2
def xg.g0 (X1:IR):IR:=(iSr [iQo 4 (.load aT1),iQo 5 (.len aT4),iQo 6 (.mv aC0)] X1)
def xg.b0:IR:=xg.g0 xg.b1
def xg.res:List RV:=[]
def xg:Fn:={ params:=[(.of 0),(.of 1)],res:=xg.res,body:=xg.b0,init:=in9 }
theorem xg.ok:fnA Tryz.prog Tryz.f144 [0,1,3,4,5,6,7,8,16]=some xg:=by kernel_rfl
abbrev fF.fr:=fr14
def fF.b1:IR:=(iSr [iSm 6,.s (.conv .i64 aS0),.s (.build [(I 0),.zh] [(0,1,aS0)]),.w .none none (.store 2 aT4 aS0)] .ret)
def fF.b2:IR:=(iSr [.s (.zk 2 aT2),iCa 145 [aS0],.s (.mv aS0),.s (.ext 0 aS0),.s (.ext 1 aS1),iQm 7 1,iQm 8 0] (iSr [.s (.zk 2 aT3),iCa 145 [aS0],.s (.mv aS0),.s (.ext 0 aS0),.s (.ext 1 aS1),iQm 9 1,iQm 10 0] (iSr [iSm 7,iSm 9,.s (.bin .neq .bool aS1 aS0),iSm 8,iSm 10,iCa 206 [aS1,aS0],iCa 146 [aS3,aS0],.w .none none (.store 2 aT4 aS0)] .ret)))
def fF.g0 (X1 X2:IR):IR:=(iSr [iWl 2 (.box aT0),iWl 3 (.box aT1),iWl 4 (.alloc [(I 0),.zh])] (.seq (iSr [.s (.zi 1 aT2),.s (.load aS0),.s (.bin .eql (.nil .sl) aS0 (.c .zh)),.s (.mv aS0),iPt 0 (.zi 1 aT3),iPt 1 (.load aS0),iPt 2 (.bin .eql (.nil .sl) aS0 (.c .zh)),iQo 11 (.pick aS3 aS0 (.c (.bool false)))] (.cond sU (.seq (.yh [] [(.s (.zi 0 aT2),0,[]),(.s (.load aS0),0,[]),(.s (.zi 0 aT3),1,[]),(.s (.load aS0),1,[]),(iCa 201 [aS2],0,[]),(iCa 201 [aS1],0,[]),(iCa 205 [aS1,aS0],0,[]),(.s (.mv aS0),0,[]),(.s (.ext 0 aS0),0,[]),(.s (.ext 1 aS1),0,[]),(iQm 5 1,0,[]),(iQm 6 0,0,[])]) (iSr [iSm 5,.s (.bin .eql .int aS0 (.c (.int .u64 0))),.s (.mv aS0),iPt 0 (.mv aT6),iPt 1 (.bin .leq .int aS0 (.c (.int .u64 9223372036854775807))),iQo 12 (.pick aS2 aS0 (.c (.bool false)))] (.cond aO (.seq (iSr [.s (.zi 0 aT2),.s (.load aS0),.s (.bin .lss .int aS0 aC0),.s (.zi 0 aT3),.s (.load aS0),.s (.bin .lss .int aS0 aC0),iQo 13 (.bin .neq .bool aS3 aS0)] (.cond aP (iSr [iSm 6,.s (.conv .i64 aS0),.s (.neg aS0),.s (.build [(I 0),.zh] [(0,1,aS0)]),.w .none none (.store 2 aT4 aS0)] .ret) .skip)) X1) .skip))) .skip)) X2))
def fF.b0:IR:=fF.g0 fF.b1 fF.b2
def fF.res:List RV:=[.cell (.of 4) (some 2)]
def fF:Fn:={ params:=[(.of 0),(.of 1)],res:=fF.res,body:=fF.b0,init:=in14 }
theorem fF.ok:fnA Tryz.prog Tryz.f151 [0,1,2,3,4,5,6,7,8,9,10,18,34,41]=some fF:=by kernel_rfl
abbrev jm.fr:=fr14
def jm.b7:IR:=(iSr [iSm 1,iSm 3,.s (.zn 1 aS1 aS0),.s (.load aS0),iQm 5 0] (iSr [iSm 4,iSm 5,iCa 217 [aS1,aS0],iQm 6 0] (iSr [iSm 6,iQo 12 (.bin .neq .int aS0 aC0)] (.cond aO (iSr [iSm 6,iQm 2 0] .ret) .skip))))
def jm.g6 (X7:IR):IR:=(iSr [iSm 9,.s (.zn 1 aT7 aT9),.s (.load aS0),iQm 3 2,iQm 4 0] (.seq (iSr [iSm 3,iSm 1,.s (.len aS0),iQo 11 (.bin .geq .int aS2 aS0)] (.cond sU (iSr [iQo 2 (.mv aC1)] .ret) .skip)) X7))
def jm.b6:IR:=jm.g6 jm.b7
def jm.g5 (X6:IR):IR:=(.block 1 X6)
def jm.b5:IR:=jm.g5 jm.b6
def jm.b8:IR:=(.reg [.s (.bin .add .int aT9 aC1),iQm 9 0])
def jm.g4 (X5 X8:IR):IR:=(.seq X5 X8)
def jm.b4:IR:=jm.g4 jm.b5 jm.b8
def jm.g3 (X4:IR):IR:=(iSr [iQo 10 (.bin .lss .int aT9 aT8)] (.seq (.cond rX .skip (.exit 0)) X4))
def jm.b3:IR:=jm.g3 jm.b4
def jm.g2 (X3:IR):IR:=(.loop X3)
def jm.b2:IR:=jm.g2 jm.b3
def jm.g1 (X2:IR):IR:=(.block 0 X2)
def jm.b1:IR:=jm.g1 jm.b2
def jm.b10:IR:=(iSr [iQo 2 (.mv aC0)] .ret)
def jm.g9 (X10:IR):IR:=(.seq (iSr [iSm 0,.s (.len aS0),iSm 1,.s (.len aS0),iQo 13 (.bin .lss .int aS2 aS0)] (.cond aP (iSr [iQo 2 (.mv (.c (I (-1))))] .ret) .skip)) X10)
def jm.b9:IR:=jm.g9 jm.b10
def jm.g0 (X1 X9:IR):IR:=(iSr [iQo 2 (.mv aC0)] (.seq (iSr [iQo 7 (.mv aT0),iQo 8 (.len aT7),iQo 9 (.mv aC0)] X1) X9))
def jm.b0:IR:=jm.g0 jm.b1 jm.b9
def jm.res:List RV:=[.t (.of 2)]
def jm:Fn:={ params:=[(.of 0),(.of 1)],res:=jm.res,body:=jm.b0,init:=in14 }
theorem jm.ok:fnA Tryz.prog Tryz.f161 [0,1,4,5,6,7,8,9,10,11,12,19,28,35]=some jm:=by kernel_rfl
abbrev uo.fr:=fr10
def uo.b6:IR:=(iSr [.s (.zn 1 aT6 aT8),.s (.load aS0),iQm 5 0] (.reg [iSm 4,iSm 5,iSm 1,iCa 219 [aS1,aS0],.w .push none (.yc 1 1 [(I 0)] [(0,1,aS0)]),.w .push none (.app 1 8 aS4 aS0),iQm 4 0]))
def uo.g5 (X6:IR):IR:=(.block 1 X6)
def uo.b5:IR:=uo.g5 uo.b6
def uo.b7:IR:=(.reg [.s (.bin .add .int aT8 aC1),iQm 8 0])
def uo.g4 (X5 X7:IR):IR:=(.seq X5 X7)
def uo.b4:IR:=uo.g4 uo.b5 uo.b7
def uo.g3 (X4:IR):IR:=(iSr [iQo 9 (.bin .lss .int aT8 aT7)] (.seq (.cond aT9 .skip (.exit 0)) X4))
def uo.b3:IR:=uo.g3 uo.b4
def uo.g2 (X3:IR):IR:=(.loop X3)
def uo.b2:IR:=uo.g2 uo.b3
def uo.g1 (X2:IR):IR:=(.block 0 X2)
def uo.b1:IR:=uo.g1 uo.b2
def uo.b8:IR:=(iSr [iSm 4,iQm 3 0] .ret)
def uo.g0 (X1 X8:IR):IR:=(iSr [iWl 2 (.box aT0),iQo 3 (.mv (.c .zh))] (iSr [iQo 4 (.mv (.c .zh))] (.seq (iSr [.s (.zi 1 aT2),iQo 6 (.load aS0),iQo 7 (.len aT6),iQo 8 (.mv aC0)] X1) X8)))
def uo.b0:IR:=uo.g0 uo.b1 uo.b8
def uo.res:List RV:=[.t (.of 3)]
def uo:Fn:={ params:=[(.of 0),(.of 1)],res:=uo.res,body:=uo.b0,init:=in10 }
theorem uo.ok:fnA Tryz.prog Tryz.f164 [0,1,2,4,5,7,9,10,11,12]=some uo:=by kernel_rfl
abbrev F165.fr:=fr3
def F165.b0:IR:=(iSr [iQo 2 (.mv (.c (.bool false)))] (iSr [iSm 0,.s (.load aT1),.s (.zn 1 aS0 aC0),.s (.load aS0),.s (.bin .neq .int aS3 aS0),iQm 2 0] .ret))
def F165.res:List RV:=[.t (.of 2)]
def F165:Fn:={ params:=[(.of 0),(.of 1)],res:=F165.res,body:=F165.b0,init:=in3 }
theorem F165.ok:fnA Tryz.prog Tryz.f165 [0,1,3]=some F165:=by kernel_rfl
abbrev oZ.fr:=fr2
def oZ.b0:IR:=(iSr [iQo 1 (.mv (.c .zh))] (iSr [iSm 0,iCa 221 [(.c .zh),aS0],iQm 1 0] .ret))
def oZ.res:List RV:=[.t (.of 1)]
def oZ:Fn:={ params:=[(.of 0)],res:=oZ.res,body:=oZ.b0,init:=in2 }
theorem oZ.ok:fnA Tryz.prog Tryz.f168 [0,2]=some oZ:=by kernel_rfl
abbrev wz.fr:=fr8
def wz.b6:IR:=(iSr [.s (.zn 1 aT3 aT5),.s (.load aS0),iQm 2 0] (iSr [iSm 0,iSm 2,.w .push none (.call aS1 [aS0]),iQo 7 (.not aS0)] (.cond aT7 .ret .skip)))
def wz.g5 (X6:IR):IR:=(.block 1 X6)
def wz.b5:IR:=wz.g5 wz.b6
def wz.b7:IR:=(.reg [.s (.bin .add .int aT5 aC1),iQm 5 0])
def wz.g4 (X5 X7:IR):IR:=(.seq X5 X7)
def wz.b4:IR:=wz.g4 wz.b5 wz.b7
def wz.g3 (X4:IR):IR:=(iSr [iQo 6 (.bin .lss .int aT5 aT4)] (.seq (.cond aT6 .skip (.exit 0)) X4))
def wz.b3:IR:=wz.g3 wz.b4
def wz.g2 (X3:IR):IR:=(.loop X3)
def wz.b2:IR:=wz.g2 wz.b3
def wz.g1 (X2:IR):IR:=(.block 0 X2)
def wz.b1:IR:=wz.g1 wz.b2
def wz.g0 (X1:IR):IR:=(iSr [iQo 3 (.load aT1),iQo 4 (.len aT3),iQo 5 (.mv aC0)] X1)
def wz.b0:IR:=wz.g0 wz.b1
def wz.res:List RV:=[]
def wz:Fn:={ params:=[(.of 0),(.of 1)],res:=wz.res,body:=wz.b0,init:=in8 }
theorem wz.ok:fnA Tryz.prog Tryz.f169 [0,1,4,5,6,7,8,14]=some wz:=by kernel_rfl
abbrev F170.fr:=fr2
def F170.b0:IR:=(iSr [iQo 1 (.mv (.c (.str [])))] (iSr [iSm 0,iCa 222 [aS0],iQm 1 0] .ret))
def F170.res:List RV:=[.t (.of 1)]
def F170:Fn:={ params:=[(.of 0)],res:=F170.res,body:=F170.b0,init:=in2 }
theorem F170.ok:fnA Tryz.prog Tryz.f170 [0,2]=some F170:=by kernel_rfl
abbrev ni.fr:=fr8
def ni.b6:IR:=(iSr [.s (.zn 1 aT3 aT5),.s (.load aS0),iQm 2 0] (iSr [iSm 2,iQo 7 (.bin .neq .int aS0 aC0)] (.cond aT7 (iSr [iSm 2,iQm 1 0] .ret) .skip)))
def ni.g5 (X6:IR):IR:=(.block 1 X6)
def ni.b5:IR:=ni.g5 ni.b6
def ni.b7:IR:=(.reg [.s (.bin .add .int aT5 aC1),iQm 5 0])
def ni.g4 (X5 X7:IR):IR:=(.seq X5 X7)
def ni.b4:IR:=ni.g4 ni.b5 ni.b7
def ni.g3 (X4:IR):IR:=(iSr [iQo 6 (.bin .lss .int aT5 aT4)] (.seq (.cond aT6 .skip (.exit 0)) X4))
def ni.b3:IR:=ni.g3 ni.b4
def ni.g2 (X3:IR):IR:=(.loop X3)
def ni.b2:IR:=ni.g2 ni.b3
def ni.g1 (X2:IR):IR:=(.block 0 X2)
def ni.b1:IR:=ni.g1 ni.b2
def ni.b8:IR:=(iSr [iQo 1 (.mv aC0)] .ret)
def ni.g0 (X1 X8:IR):IR:=(iSr [iQo 1 (.mv aC0)] (.seq (iSr [iQo 3 (.mv aT0),iQo 4 (.len aT3),iQo 5 (.mv aC0)] X1) X8))
def ni.b0:IR:=ni.g0 ni.b1 ni.b8
def ni.res:List RV:=[.t (.of 1)]
def ni:Fn:={ params:=[(.of 0)],res:=ni.res,body:=ni.b0,init:=in8 }
theorem ni.ok:fnA Tryz.prog Tryz.f172 [0,2,4,5,6,7,8,12]=some ni:=by kernel_rfl
abbrev F173.fr:=fr2
def F173.b0:IR:=(iSr [iQo 1 (.mv aC0)] (iSr [iSm 0,.s (.bin .lss .int aS0 aC1),.s (.mv aS0),iPf 0 (.mv aT0),iPf 1 (.bin .gtr .int aS0 aC16),.s (.pick aS2 (.c (.bool true)) aS0),iCa 174 [aS0,aC3],iQm 1 0] .ret))
def F173.res:List RV:=[.t (.of 1)]
def F173:Fn:={ params:=[(.of 0)],res:=F173.res,body:=F173.b0,init:=in2 }
theorem F173.ok:fnA Tryz.prog Tryz.f173 [0,2]=some F173:=by kernel_rfl
abbrev F174.fr:=fr4
def F174.b1:IR:=(iSr [iQo 2 (.mv aC0)] .ret)
def F174.g0 (X1:IR):IR:=(iSr [iQo 2 (.mv aC0)] (.seq (iSr [iQo 3 (.mv aT0)] (.cond aT3 (iSr [iSm 1,iQm 2 0] .ret) .skip)) X1))
def F174.b0:IR:=F174.g0 F174.b1
def F174.res:List RV:=[.t (.of 2)]
def F174:Fn:={ params:=[(.of 0),(.of 1)],res:=F174.res,body:=F174.b0,init:=in4 }
theorem F174.ok:fnA Tryz.prog Tryz.f174 [0,1,4,5]=some F174:=by kernel_rfl
abbrev ny.fr:=fr7
def ny.b6:IR:=(iSr [iSm 5,iQm 4 0] (.yh [] [(iSm 4,3,[]),(iSm 4,4,[]),(iSm 4,5,[]),(iSm 4,0,[]),(.s (.zi 1 aT1),0,[]),(.s (.tu 1 2 aS0 aS1),0,[]),(.s (.load aS0),0,[]),(.s (.zi 0 aT1),0,[]),(.s (.load aS0),0,[]),(iSm 4,1,[]),(.s (.zi 3 aT1),1,[]),(.s (.tu 1 2 aS0 aS1),1,[]),(.s (.load aS0),1,[]),(.s (.zi 0 aT1),1,[]),(.s (.load aS0),1,[]),(iSm 4,2,[]),(.s (.zi 5 aT1),2,[]),(.s (.tu 1 2 aS0 aS1),2,[]),(.s (.load aS0),2,[]),(.s (.zi 0 aT1),2,[]),(.s (.load aS0),2,[]),(.s (.zi 1 aT3),3,[]),(.s (.zi 3 aT3),4,[]),(.s (.zi 5 aT3),5,[]),(iCa 224 [aS17,aS15],0,[]),(.s (.tu 1 2 aS3 aS24),2,[]),(iCa 224 [aS13,aS11],0,[]),(iCa 224 [aS8,aS6],0,[]),(.w .none none (.store 1 aS2 aS3),0,[]),(.s (.tu 1 2 aS5 aS26),0,[]),(.w .none none (.store 1 aS0 aS2),0,[]),(.s (.tu 1 2 aS5 aS26),0,[]),(.w .none none (.store 1 aS0 aS2),0,[])]))
def ny.g5 (X6:IR):IR:=(.block 1 X6)
def ny.b5:IR:=ny.g5 ny.b6
def ny.b7:IR:=(.reg [.s (.bin .add .int aT5 aC1),iQm 5 0])
def ny.g4 (X5 X7:IR):IR:=(.seq X5 X7)
def ny.b4:IR:=ny.g4 ny.b5 ny.b7
def ny.g3 (X4:IR):IR:=(iSr [iQo 6 (.bin .lss .int aT5 aC2)] (.seq (.cond aT6 .skip (.exit 0)) X4))
def ny.b3:IR:=ny.g3 ny.b4
def ny.g2 (X3:IR):IR:=(.loop X3)
def ny.b2:IR:=ny.g2 ny.b3
def ny.g1 (X2:IR):IR:=(.block 0 X2)
def ny.b1:IR:=ny.g1 ny.b2
def ny.b8:IR:=(iSr [.s (.zk 7 aT3),.w .none none (.store 7 aT2 aS0)] .ret)
def ny.g0 (X1 X8:IR):IR:=(iSr [iWl 1 (.box aT0),iWl 2 (.alloc [(I 0),(I 0),(I 0),(I 0),(I 0),(I 0),(I 0)])] (iSr [.s (.zi 0 aT1),.s (.load aS0),.s (.build [(I 0),(I 0),(I 0),(I 0),(I 0),(I 0),(I 0)] [(0,1,aS0)]),iWl 3 (.alloc [(I 0),(I 0),(I 0),(I 0),(I 0),(I 0),(I 0)]),.w .none none (.store 7 aT3 aS0)] (.seq (iSr [iQo 5 (.mv aC0)] X1) X8)))
def ny.b0:IR:=ny.g0 ny.b1 ny.b8
def ny.res:List RV:=[.cell (.of 2) (some 7)]
def ny:Fn:={ params:=[(.of 0)],res:=ny.res,body:=ny.b0,init:=in7 }
theorem ny.ok:fnA Tryz.prog Tryz.f175 [0,1,2,3,4,8,9]=some ny:=by kernel_rfl
end
end Go.Ev
