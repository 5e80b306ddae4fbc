import Derived.Test.YtdclaaahnodljaaGreatDoorIrA
import Derived.Test.YtdclaaahnodljaaGreatDoorEvC
import Derived.Test.YtdclaaahnodljaaGreatDoorProg
import Derived.KernelRfl
set_option linter.unusedSimpArgs false
set_option linter.unusedVariables false
namespace Go.Ev
open Go Go.Proofs
set_option maxRecDepth 100000
noncomputable section

abbrev oW.fr:=fr2
def oW.b0:IR:=(iSr [iQo 1 (.mv (.c .zf))] (iSr [iSm 0,iCa 221 [(.c .zf),aS0],iQm 1 0] .ret))
def oW.res:List RV:=[.t (.of 1)]
def oW:Fn:={ params:=[(.of 0)],res:=oW.res,body:=oW.b0,init:=in2 }
theorem oW.ok:fnA Tryz.prog Tryz.f168 [0,2]=some oW:=by kernel_rfl
abbrev wo.fr:=fr8
def wo.b6:IR:=(iSr [.s (.zu 1 aT3 aT5),.s (.load aS0),iQm 2 0] (iSr [iSm 0,iSm 2,.w .push none (.call aS1 [aS0]),iQo 7 (.not aS0)] (.cond aT7 .ret .skip)))
def wo.g5 (X6:IR):IR:=(.block 1 X6)
def wo.b5:IR:=wo.g5 wo.b6
def wo.b7:IR:=(.reg [.s (.bin .add .int aT5 aC1),iQm 5 0])
def wo.g4 (X5 X7:IR):IR:=(.seq X5 X7)
def wo.b4:IR:=wo.g4 wo.b5 wo.b7
def wo.g3 (X4:IR):IR:=(iSr [iQo 6 (.bin .lss .int aT5 aT4)] (.seq (.cond aT6 .skip (.exit 0)) X4))
def wo.b3:IR:=wo.g3 wo.b4
def wo.g2 (X3:IR):IR:=(.loop X3)
def wo.b2:IR:=wo.g2 wo.b3
def wo.g1 (X2:IR):IR:=(.block 0 X2)
def wo.b1:IR:=wo.g1 wo.b2
def wo.g0 (X1:IR):IR:=(iSr [iQo 3 (.load aT1),iQo 4 (.len aT3),iQo 5 (.mv aC0)] X1)
def wo.b0:IR:=wo.g0 wo.b1
def wo.res:List RV:=[]
def wo:Fn:={ params:=[(.of 0),(.of 1)],res:=wo.res,body:=wo.b0,init:=in8 }
theorem wo.ok:fnA Tryz.prog Tryz.f169 [0,1,4,5,6,7,8,14]=some wo:=by kernel_rfl
abbrev F170.fr:=fr2
def F170.b0:IR:=(iSr [iQo 1 (.mv (.c (.str [])))] (iSr [iSm 0,iCa 222 [aS0],iQm 1 0] .ret))
def F170.res:List RV:=[.t (.of 1)]
def F170:Fn:={ params:=[(.of 0)],res:=F170.res,body:=F170.b0,init:=in2 }
theorem F170.ok:fnA Tryz.prog Tryz.f170 [0,2]=some F170:=by kernel_rfl
abbrev ni.fr:=fr8
def ni.b6:IR:=(iSr [.s (.zu 1 aT3 aT5),.s (.load aS0),iQm 2 0] (iSr [iSm 2,iQo 7 (.bin .neq .int aS0 aC0)] (.cond aT7 (iSr [iSm 2,iQm 1 0] .ret) .skip)))
def ni.g5 (X6:IR):IR:=(.block 1 X6)
def ni.b5:IR:=ni.g5 ni.b6
def ni.b7:IR:=(.reg [.s (.bin .add .int aT5 aC1),iQm 5 0])
def ni.g4 (X5 X7:IR):IR:=(.seq X5 X7)
def ni.b4:IR:=ni.g4 ni.b5 ni.b7
def ni.g3 (X4:IR):IR:=(iSr [iQo 6 (.bin .lss .int aT5 aT4)] (.seq (.cond aT6 .skip (.exit 0)) X4))
def ni.b3:IR:=ni.g3 ni.b4
def ni.g2 (X3:IR):IR:=(.loop X3)
def ni.b2:IR:=ni.g2 ni.b3
def ni.g1 (X2:IR):IR:=(.block 0 X2)
def ni.b1:IR:=ni.g1 ni.b2
def ni.b8:IR:=(iSr [iQo 1 (.mv aC0)] .ret)
def ni.g0 (X1 X8:IR):IR:=(iSr [iQo 1 (.mv aC0)] (.seq (iSr [iQo 3 (.mv aT0),iQo 4 (.len aT3),iQo 5 (.mv aC0)] X1) X8))
def ni.b0:IR:=ni.g0 ni.b1 ni.b8
def ni.res:List RV:=[.t (.of 1)]
def ni:Fn:={ params:=[(.of 0)],res:=ni.res,body:=ni.b0,init:=in8 }
theorem ni.ok:fnA Tryz.prog Tryz.f172 [0,2,4,5,6,7,8,12]=some ni:=by kernel_rfl
abbrev F173.fr:=fr2
def F173.b0:IR:=(iSr [iQo 1 (.mv aC0)] (iSr [iSm 0,.s (.bin .lss .int aS0 aC1),.s (.mv aS0),iPf 0 (.mv aT0),iPf 1 (.bin .gtr .int aS0 aC16),.s (.pick aS2 (.c (.bool true)) aS0),iCa 174 [aS0,aC3],iQm 1 0] .ret))
def F173.res:List RV:=[.t (.of 1)]
def F173:Fn:={ params:=[(.of 0)],res:=F173.res,body:=F173.b0,init:=in2 }
theorem F173.ok:fnA Tryz.prog Tryz.f173 [0,2]=some F173:=by kernel_rfl
abbrev F174.fr:=fr4
def F174.b1:IR:=(iSr [iQo 2 (.mv aC0)] .ret)
def F174.g0 (X1:IR):IR:=(iSr [iQo 2 (.mv aC0)] (.seq (iSr [iQo 3 (.mv aT0)] (.cond aT3 (iSr [iSm 1,iQm 2 0] .ret) .skip)) X1))
def F174.b0:IR:=F174.g0 F174.b1
def F174.res:List RV:=[.t (.of 2)]
def F174:Fn:={ params:=[(.of 0),(.of 1)],res:=F174.res,body:=F174.b0,init:=in4 }
theorem F174.ok:fnA Tryz.prog Tryz.f174 [0,1,4,5]=some F174:=by kernel_rfl
abbrev ny.fr:=fr7
def ny.b6:IR:=(iSr [iSm 5,iQm 4 0] (.yh [] [(iSm 4,3,[]),(iSm 4,4,[]),(iSm 4,5,[]),(iSm 4,0,[]),(.s (.zk 1 aT1),0,[]),(.s (.tH 1 2 aS0 aS1),0,[]),(.s (.load aS0),0,[]),(.s (.zk 0 aT1),0,[]),(.s (.load aS0),0,[]),(iSm 4,1,[]),(.s (.zk 3 aT1),1,[]),(.s (.tH 1 2 aS0 aS1),1,[]),(.s (.load aS0),1,[]),(.s (.zk 0 aT1),1,[]),(.s (.load aS0),1,[]),(iSm 4,2,[]),(.s (.zk 5 aT1),2,[]),(.s (.tH 1 2 aS0 aS1),2,[]),(.s (.load aS0),2,[]),(.s (.zk 0 aT1),2,[]),(.s (.load aS0),2,[]),(.s (.zk 1 aT3),3,[]),(.s (.zk 3 aT3),4,[]),(.s (.zk 5 aT3),5,[]),(iCa 224 [aS17,aS15],0,[]),(.s (.tH 1 2 aS3 aS24),2,[]),(iCa 224 [aS13,aS11],0,[]),(iCa 224 [aS8,aS6],0,[]),(.w .none none (.store 1 aS2 aS3),0,[]),(.s (.tH 1 2 aS5 aS26),0,[]),(.w .none none (.store 1 aS0 aS2),0,[]),(.s (.tH 1 2 aS5 aS26),0,[]),(.w .none none (.store 1 aS0 aS2),0,[])]))
def ny.g5 (X6:IR):IR:=(.block 1 X6)
def ny.b5:IR:=ny.g5 ny.b6
def ny.b7:IR:=(.reg [.s (.bin .add .int aT5 aC1),iQm 5 0])
def ny.g4 (X5 X7:IR):IR:=(.seq X5 X7)
def ny.b4:IR:=ny.g4 ny.b5 ny.b7
def ny.g3 (X4:IR):IR:=(iSr [iQo 6 (.bin .lss .int aT5 aC2)] (.seq (.cond aT6 .skip (.exit 0)) X4))
def ny.b3:IR:=ny.g3 ny.b4
def ny.g2 (X3:IR):IR:=(.loop X3)
def ny.b2:IR:=ny.g2 ny.b3
def ny.g1 (X2:IR):IR:=(.block 0 X2)
def ny.b1:IR:=ny.g1 ny.b2
def ny.b8:IR:=(iSr [.s (.zn 7 aT3),.w .none none (.store 7 aT2 aS0)] .ret)
def ny.g0 (X1 X8:IR):IR:=(iSr [iWl 1 (.box aT0),iWl 2 (.alloc [(I 0),(I 0),(I 0),(I 0),(I 0),(I 0),(I 0)])] (iSr [.s (.zk 0 aT1),.s (.load aS0),.s (.build [(I 0),(I 0),(I 0),(I 0),(I 0),(I 0),(I 0)] [(0,1,aS0)]),iWl 3 (.alloc [(I 0),(I 0),(I 0),(I 0),(I 0),(I 0),(I 0)]),.w .none none (.store 7 aT3 aS0)] (.seq (iSr [iQo 5 (.mv aC0)] X1) X8)))
def ny.b0:IR:=ny.g0 ny.b1 ny.b8
def ny.res:List RV:=[.cell (.of 2) (some 7)]
def ny:Fn:={ params:=[(.of 0)],res:=ny.res,body:=ny.b0,init:=in7 }
theorem ny.ok:fnA Tryz.prog Tryz.f175 [0,1,2,3,4,8,9]=some ny:=by kernel_rfl
abbrev fA.fr:=fr10
def fA.b7:IR:=(.reg [.s (.zk 2 aT5),.s (.load aS0),iSm 7,iSm 6,.s (.zu 1 aS2 aS1),.w .none none (.store 1 aS0 aS1)])
def fA.g6 (X7:IR):IR:=(iSr [.s (.zn 7 aT1),iSm 6,iCa 226 [aS1,aS0],iQm 7 0] (.seq (iSr [.s (.zk 2 aT5),.s (.load aS0),iSm 7,.s (.zu 1 aS1 aS0),.s (.load aS0),iQo 9 (.bin .neq .int aS0 aC0)] (.cond aT9 (.seq (.yh [] [(.s (.build [(I 0),(I 0),.zf] []),0,[]),(.s (.zk 2 aT5),1,[]),(.s (.load aS0),1,[]),(iSm 7,1,[]),(.s (.zu 1 aS1 aS0),1,[]),(.s (.load aS0),1,[]),(iSm 6,1,[]),(.s (.build [(I 0),(I 0)] [(0,1,aS1),(1,1,aS0)]),1,[]),(.w .none none (.store 3 aT2 aS7),0,[]),(.w .none none (.store 2 aT3 aS0),0,[]),(iQo 4 (.mv (.c (.bool false))),0,[])]) .ret) .skip)) X7))
def fA.b6:IR:=fA.g6 fA.b7
def fA.g5 (X6:IR):IR:=(.block 1 X6)
def fA.b5:IR:=fA.g5 fA.b6
def fA.b8:IR:=(.reg [iSm 6,.s (.bin .add .int aS0 aC1),iQm 6 0])
def fA.g4 (X5 X8:IR):IR:=(.seq X5 X8)
def fA.b4:IR:=fA.g4 fA.b5 fA.b8
def fA.g3 (X4:IR):IR:=(.seq (iSr [iSm 6,.s (.zk 0 aT1),.s (.load aS0),.s (.zk 0 aT1),.s (.load aS0),.s (.bin .mul .int aS2 aS0),iQo 8 (.bin .leq .int aS5 aS0)] (.cond aT8 .skip (.exit 0))) X4)
def fA.b3:IR:=fA.g3 fA.b4
def fA.g2 (X3:IR):IR:=(.loop X3)
def fA.b2:IR:=fA.g2 fA.b3
def fA.g1 (X2:IR):IR:=(.block 0 X2)
def fA.b1:IR:=fA.g1 fA.b2
def fA.b9:IR:=(iSr [.s (.zn 3 aT5),.s (.build [(I 0),(I 0)] []),.w .none none (.store 3 aT2 aS1),.w .none none (.store 2 aT3 aS0),iQo 4 (.mv (.c (.bool true)))] .ret)
def fA.g0 (X1 X9:IR):IR:=(iSr [iWl 1 (.box aT0),iWl 2 (.alloc [(I 0),(I 0),.zf]),iWl 3 (.alloc [(I 0),(I 0)]),iQo 4 (.mv (.c (.bool false)))] (iSr [.s (.zk 0 aT1),.s (.load aS0),iCa 225 [aS0],iWl 5 (.alloc [(I 0),(I 0),.zf]),.w .none none (.store 3 aT5 aS0)] (.seq (iSr [iQo 6 (.mv aC1)] X1) X9)))
def fA.b0:IR:=fA.g0 fA.b1 fA.b9
def fA.res:List RV:=[.cell (.of 2) (some 3),.cell (.of 3) (some 2),.t (.of 4)]
def fA:Fn:={ params:=[(.of 0)],res:=fA.res,body:=fA.b0,init:=in10 }
theorem fA.ok:fnA Tryz.prog Tryz.f176 [0,1,2,3,4,5,6,7,17,28]=some fA:=by kernel_rfl
abbrev F178.fr:=fr2
def F178.b1:IR:=(iSr [iSm 0,iCa 236 [aS0],iQm 1 0] .ret)
def F178.g0 (X1:IR):IR:=(iSr [iQo 1 (.mv aC0)] (.seq (.cond (.c (.bool false)) (iSr [iSm 0,.s (.conv .u32 aS0),iCa 235 [aS0],iQm 1 0] .ret) .skip) X1))
def F178.b0:IR:=F178.g0 F178.b1
def F178.res:List RV:=[.t (.of 1)]
def F178:Fn:={ params:=[(.of 0)],res:=F178.res,body:=F178.b0,init:=in2 }
theorem F178.ok:fnA Tryz.prog Tryz.f178 [0,2]=some F178:=by kernel_rfl
abbrev uz.fr:=fr8
def uz.b6:IR:=(iSr [iSm 5,iQm 3 0] (iSr [iSm 1,iSm 3,.w .push none (.call aS1 [aS0]),iSm 1,.w .push none (.call aS0 [aC0]),iQo 7 (.bin .neq .int aS2 aS0)] (.cond aT7 (iSr [iQo 2 (.mv (.c (.bool false)))] .ret) .skip)))
def uz.g5 (X6:IR):IR:=(.block 1 X6)
def uz.b5:IR:=uz.g5 uz.b6
def uz.b7:IR:=(.reg [.s (.bin .add .int aT5 aC1),iQm 5 0])
def uz.g4 (X5 X7:IR):IR:=(.seq X5 X7)
def uz.b4:IR:=uz.g4 uz.b5 uz.b7
def uz.g3 (X4:IR):IR:=(iSr [iQo 6 (.bin .lss .int aT5 aT4)] (.seq (.cond aT6 .skip (.exit 0)) X4))
def uz.b3:IR:=uz.g3 uz.b4
def uz.g2 (X3:IR):IR:=(.loop X3)
def uz.b2:IR:=uz.g2 uz.b3
def uz.g1 (X2:IR):IR:=(.block 0 X2)
def uz.b1:IR:=uz.g1 uz.b2
def uz.b8:IR:=(iSr [iQo 2 (.mv (.c (.bool true)))] .ret)
def uz.g0 (X1 X8:IR):IR:=(iSr [iQo 2 (.mv (.c (.bool false)))] (.seq (iSr [iQo 4 (.mv aT0),iQo 5 (.mv aC0)] X1) X8))
def uz.b0:IR:=uz.g0 uz.b1 uz.b8
def uz.res:List RV:=[.t (.of 2)]
def uz:Fn:={ params:=[(.of 0),(.of 1)],res:=uz.res,body:=uz.b0,init:=in8 }
theorem uz.ok:fnA Tryz.prog Tryz.f179 [0,1,4,5,6,7,8,15]=some uz:=by kernel_rfl
abbrev F180.fr:=fr3
def F180.b0:IR:=(iSr [iQo 2 (.mv aC0)] (.seq (.yh [] [(.s (.zk 1 aT1),0,[]),(.s (.load aS0),0,[]),(iSm 0,0,[]),(.s (.zu 1 aS1 aS0),0,[]),(.s (.load aS0),0,[]),(.s (.zk 1 aT1),0,[]),(.s (.load aS0),0,[]),(.s (.zk 1 aT1),0,[]),(.s (.load aS0),0,[]),(.s (.len aS0),0,[]),(.s (.bin .sub .int aS0 aC1),0,[]),(iSm 0,0,[]),(.s (.bin .sub .int aS1 aS0),0,[]),(.s (.zu 1 aS6 aS0),0,[]),(.s (.load aS0),0,[]),(.s (.bin .add .int aS10 aS0),0,[]),(iQm 2 0,0,[])]) .ret))
def F180.res:List RV:=[.t (.of 2)]
def F180:Fn:={ params:=[(.of 0),(.of 1)],res:=F180.res,body:=F180.b0,init:=in3 }
theorem F180.ok:fnA Tryz.prog Tryz.f180 [0,1,3]=some F180:=by kernel_rfl
abbrev F181.fr:=fr4
def F181.b0:IR:=(iSr [iQo 3 (.mv aC0)] (.seq (.yh [] [(.s (.zk 1 aT2),0,[]),(.s (.load aS0),0,[]),(iSm 0,0,[]),(.s (.zk 0 aT2),0,[]),(.s (.load aS0),0,[]),(.s (.bin .rem .int aS2 aS0),0,[]),(.s (.zk 0 aT2),0,[]),(.s (.load aS0),0,[]),(.s (.bin .mul .int aS2 aS0),0,[]),(iSm 1,0,[]),(.s (.zk 0 aT2),0,[]),(.s (.load aS0),0,[]),(.s (.bin .rem .int aS2 aS0),0,[]),(.s (.bin .add .int aS4 aS0),0,[]),(.s (.zu 1 aS12 aS0),0,[]),(.s (.load aS0),0,[]),(iQm 3 0,0,[])]) .ret))
def F181.res:List RV:=[.t (.of 3)]
def F181:Fn:={ params:=[(.of 0),(.of 1),(.of 2)],res:=F181.res,body:=F181.b0,init:=in4 }
theorem F181.ok:fnA Tryz.prog Tryz.f181 [0,1,2,5]=some F181:=by kernel_rfl
abbrev F182.fr:=fr6
def F182.b0:IR:=(iSr [iQo 3 (.mv aC0)] (.seq (.yh [] [(iSm 0,0,[]),(.s (.zk 0 aT1),0,[]),(.s (.load aS0),0,[]),(.s (.bin .quo .int aS2 aS0),0,[]),(iSm 0,0,[]),(.s (.zk 0 aT1),0,[]),(.s (.load aS0),0,[]),(.s (.bin .rem .int aS2 aS0),0,[]),(iQm 4 4,0,[]),(iQm 5 0,0,[])]) (.seq (.yh [] [(.s (.load aT2),0,[]),(iSm 4,0,[]),(iSm 5,0,[]),(.s (.load aT2),1,[]),(iSm 4,1,[]),(iSm 5,1,[]),(.s (.bin .add .int aS0 aC1),1,[]),(.s (.load aT2),2,[]),(iSm 4,2,[]),(.s (.bin .add .int aS0 aC1),2,[]),(iSm 5,2,[]),(.s (.load aT2),3,[]),(iSm 4,3,[]),(.s (.bin .add .int aS0 aC1),3,[]),(iSm 5,3,[]),(.s (.bin .add .int aS0 aC1),3,[]),(.w .push none (.call aS15 [aS14,aS13]),0,[]),(.w .push none (.call aS13 [aS12,aS10]),0,[]),(.s (.bin .add .int aS1 aS0),2,[]),(.w .push none (.call aS11 [aS9,aS8]),0,[]),(.s (.bin .add .int aS1 aS0),1,[]),(.w .push none (.call aS9 [aS7,aS5]),0,[]),(.s (.bin .add .int aS1 aS0),0,[]),(iQm 3 0,0,[])]) .ret)))
def F182.res:List RV:=[.t (.of 3)]
def F182:Fn:={ params:=[(.of 0),(.of 1),(.of 2)],res:=F182.res,body:=F182.b0,init:=in6 }
theorem F182.ok:fnA Tryz.prog Tryz.f182 [0,1,2,4,5,6]=some F182:=by kernel_rfl
abbrev F183.fr:=fr6
def F183.b0:IR:=(iSr [iQo 3 (.mv aC0)] (.seq (.yh [] [(iSm 0,0,[]),(.s (.zk 0 aT1),0,[]),(.s (.load aS0),0,[]),(.s (.bin .quo .int aS2 aS0),0,[]),(iSm 0,0,[]),(.s (.zk 0 aT1),0,[]),(.s (.load aS0),0,[]),(.s (.bin .rem .int aS2 aS0),0,[]),(iQm 4 4,0,[]),(iQm 5 0,0,[])]) (.seq (.yh [] [(.s (.load aT2),0,[]),(iSm 4,0,[]),(iSm 5,0,[]),(.s (.load aT2),1,[]),(iSm 4,1,[]),(.s (.zk 0 aT1),1,[]),(.s (.load aS0),1,[]),(.s (.bin .quo .int aS0 aC2),1,[]),(.s (.bin .add .int aS3 aS0),1,[]),(iSm 5,1,[]),(.s (.zk 0 aT1),1,[]),(.s (.load aS0),1,[]),(.s (.bin .quo .int aS0 aC2),1,[]),(.s (.bin .add .int aS3 aS0),1,[]),(.w .push none (.call aS13 [aS12,aS11]),0,[]),(.w .push none (.call aS11 [aS6,aS1]),0,[]),(.s (.bin .add .int aS1 aS0),0,[]),(iQm 3 0,0,[])]) .ret)))
def F183.res:List RV:=[.t (.of 3)]
def F183:Fn:={ params:=[(.of 0),(.of 1),(.of 2)],res:=F183.res,body:=F183.b0,init:=in6 }
theorem F183.ok:fnA Tryz.prog Tryz.f183 [0,1,2,4,5,6]=some F183:=by kernel_rfl
abbrev ku.fr:=fr6
def ku.b6:IR:=(.yh [] [(.s (.zk 1 aT3),0,[]),(.s (.load aS0),0,[]),(.s (.zk 1 aT1),0,[]),(.s (.load aS0),0,[]),(iSm 4,0,[]),(.s (.zk 0 aT1),0,[]),(.s (.load aS0),0,[]),(.s (.bin .mul .int aS2 aS0),0,[]),(.s (.bin .add .int aS0 aC1),0,[]),(iSm 4,0,[]),(.s (.zk 0 aT1),0,[]),(.s (.load aS0),0,[]),(.s (.bin .mul .int aS2 aS0),0,[]),(.s (.zk 0 aT1),0,[]),(.s (.load aS0),0,[]),(.s (.bin .add .int aS2 aS0),0,[]),(.s (.bin .sub .int aS0 aC1),0,[]),(iSm 4,0,[]),(.s (.zk 0 aT1),0,[]),(.s (.load aS0),0,[]),(.s (.bin .mul .int aS2 aS0),0,[]),(.s (.zk 0 aT1),0,[]),(.s (.load aS0),0,[]),(.s (.bin .add .int aS2 aS0),0,[]),(.s (.bin .sub .int aS0 aC1),0,[]),(.s (.slice 1 aS21 (some aS16) (some aS8) (some aS0)),0,[]),(.w .push none (.app 1 8 aS24 aS0),0,[]),(.s (.zk 1 aT3),0,[]),(.w .none none (.store 1 aS0 aS1),0,[])])
def ku.g5 (X6:IR):IR:=(.block 1 X6)
def ku.b5:IR:=ku.g5 ku.b6
def ku.b7:IR:=(.reg [iSm 4,.s (.bin .add .int aS0 aC1),iQm 4 0])
def ku.g4 (X5 X7:IR):IR:=(.seq X5 X7)
def ku.b4:IR:=ku.g4 ku.b5 ku.b7
def ku.g3 (X4:IR):IR:=(.seq (iSr [iSm 4,.s (.bin .add .int aS0 aC1),.s (.zk 0 aT1),.s (.load aS0),iQo 5 (.bin .lss .int aS2 aS0)] (.cond aT5 .skip (.exit 0))) X4)
def ku.b3:IR:=ku.g3 ku.b4
def ku.g2 (X3:IR):IR:=(.loop X3)
def ku.b2:IR:=ku.g2 ku.b3
def ku.g1 (X2:IR):IR:=(.block 0 X2)
def ku.b1:IR:=ku.g1 ku.b2
def ku.b8:IR:=(iSr [.s (.zn 2 aT3),.w .none none (.store 2 aT2 aS0)] .ret)
def ku.g0 (X1 X8:IR):IR:=(iSr [iWl 1 (.box aT0),iWl 2 (.alloc [(I 0),.zf])] (iSr [.s (.zk 0 aT1),.s (.load aS0),.s (.bin .sub .int aS0 aC2),.s (.build [(I 0),.zf] [(0,1,aS0)]),iWl 3 (.alloc [(I 0),.zf]),.w .none none (.store 2 aT3 aS0)] (.seq (iSr [iQo 4 (.mv aC1)] X1) X8)))
def ku.b0:IR:=ku.g0 ku.b1 ku.b8
def ku.res:List RV:=[.cell (.of 2) (some 2)]
def ku:Fn:={ params:=[(.of 0)],res:=ku.res,body:=ku.b0,init:=in6 }
theorem ku.ok:fnA Tryz.prog Tryz.f184 [0,1,2,3,4,13]=some ku:=by kernel_rfl
abbrev je.fr:=fr8
def je.b7:IR:=(iSr [iSm 1,iQo 7 (.bin .gtr .int aS0 aC1)] (.cond aT7 (.reg [.s (.zn 2 aT2),.s (.zn 2 aT2),iCa 151 [aS1,aS0],.w .none none (.store 2 aT2 aS0)]) .skip))
def je.g6 (X7:IR):IR:=(.seq (iSr [iSm 1,.s (.bin .and .int aS0 aC1),iQo 6 (.bin .eql .int aS0 aC1)] (.cond aT6 (.reg [.s (.zn 2 aT4),.s (.zn 2 aT2),iCa 151 [aS1,aS0],.w .none none (.store 2 aT4 aS0)]) .skip)) X7)
def je.b6:IR:=je.g6 je.b7
def je.g5 (X6:IR):IR:=(.block 1 X6)
def je.b5:IR:=je.g5 je.b6
def je.b8:IR:=(.reg [iSm 1,.s (.bin .shr .int aS0 (.c (.int .u64 1))),iQm 1 0])
def je.g4 (X5 X8:IR):IR:=(.seq X5 X8)
def je.b4:IR:=je.g4 je.b5 je.b8
def je.g3 (X4:IR):IR:=(.seq (iSr [iSm 1,iQo 5 (.bin .gtr .int aS0 aC0)] (.cond aT5 .skip (.exit 0))) X4)
def je.b3:IR:=je.g3 je.b4
def je.g2 (X3:IR):IR:=(.loop X3)
def je.b2:IR:=je.g2 je.b3
def je.g1 (X2:IR):IR:=(.block 0 X2)
def je.b1:IR:=je.g1 je.b2
def je.b9:IR:=(iSr [.s (.zn 2 aT4),.w .none none (.store 2 aT3 aS0)] .ret)
def je.g0 (X1 X9:IR):IR:=(iSr [iWl 2 (.box aT0),iWl 3 (.alloc [(I 0),.zf])] (iSr [iCa 85 [aC1],iWl 4 (.alloc [(I 0),.zf]),.w .none none (.store 2 aT4 aS0)] (.seq X1 X9)))
def je.b0:IR:=je.g0 je.b1 je.b9
def je.res:List RV:=[.cell (.of 3) (some 2)]
def je:Fn:={ params:=[(.of 0),(.of 1)],res:=je.res,body:=je.b0,init:=in8 }
theorem je.ok:fnA Tryz.prog Tryz.f185 [0,1,2,4,5,8,13,18]=some je:=by kernel_rfl
abbrev sS.fr:=fr8
def sS.b2:IR:=(iSr [.s (.zk 0 aT2),.s (.load aS0),.s (.zk 0 aT3),.s (.load aS0),.s (.bin .lss .int aS2 aS0),iQm 6 0] (.cond aT6 (iSr [iQo 4 (.mv (.c (I (-1))))] .ret) (iSr [.s (.zk 0 aT2),.s (.load aS0),.s (.zk 0 aT3),.s (.load aS0),.s (.bin .gtr .int aS2 aS0),iQm 7 0] (.cond aT7 (iSr [iQo 4 (.mv aC1)] .ret) .skip))))
def sS.g1 (X2:IR):IR:=(.block 0 X2)
def sS.b1:IR:=sS.g1 sS.b2
def sS.b3:IR:=(iSr [iQo 4 (.mv aC0)] .ret)
def sS.b4:IR:=(iSr [.s (.zn 2 aT2),.s (.zn 2 aT3),iCa 208 [aS1,aS0],iCa 152 [aS0],iQm 4 0] .ret)
def sS.g0 (X1 X3 X4:IR):IR:=(iSr [iWl 2 (.box aT0),iWl 3 (.box aT1),iQo 4 (.mv aC0)] (.seq (iSr [.s (.zk 1 aT2),.s (.load aS0),.s (.bin .eql (.nil .sl) aS0 (.c .zf)),.s (.mv aS0),iPt 0 (.zk 1 aT3),iPt 1 (.load aS0),iPt 2 (.bin .eql (.nil .sl) aS0 (.c .zf)),iQo 5 (.pick aS3 aS0 (.c (.bool false)))] (.cond aT5 (.seq X1 X3) .skip)) X4))
def sS.b0:IR:=sS.g0 sS.b1 sS.b3 sS.b4
def sS.res:List RV:=[.t (.of 4)]
def sS:Fn:={ params:=[(.of 0),(.of 1)],res:=sS.res,body:=sS.b0,init:=in8 }
theorem sS.ok:fnA Tryz.prog Tryz.f186 [0,1,2,3,4,12,13,19]=some sS:=by kernel_rfl
abbrev ji.fr:=fr10
def ji.b8:IR:=(.reg [iSm 2,iSm 3,.s (.zu 1 aS1 aS0),.w .none none (.store 1 aS0 (.c (.bool true)))])
def ji.g7 (X8:IR):IR:=(iSr [.s (.zu 1 aT5 aT7),.s (.load aS0),iQm 3 0] (.seq (iSr [iSm 3,.s (.bin .lss .int aS0 aC0),.s (.mv aS0),iPf 0 (.mv aT3),iPf 1 (.mv aT0),iPf 2 (.len aS0),iPf 3 (.bin .geq .int aS2 aS0),.s (.pick aS4 (.c (.bool true)) aS0),.s (.mv aS0),iPf 0 (.mv aT2),iPf 1 (.mv aT3),iPf 2 (.zu 1 aS1 aS0),iPf 3 (.load aS0),iQo 9 (.pick aS4 (.c (.bool true)) aS0)] (.cond aT9 (iSr [iQo 1 (.mv aC14)] .ret) .skip)) X8))
def ji.b7:IR:=ji.g7 ji.b8
def ji.g6 (X7:IR):IR:=(.block 1 X7)
def ji.b6:IR:=ji.g6 ji.b7
def ji.b9:IR:=(.reg [.s (.bin .add .int aT7 aC1),iQm 7 0])
def ji.g5 (X6 X9:IR):IR:=(.seq X6 X9)
def ji.b5:IR:=ji.g5 ji.b6 ji.b9
def ji.g4 (X5:IR):IR:=(iSr [iQo 8 (.bin .lss .int aT7 aT6)] (.seq (.cond aT8 .skip (.exit 0)) X5))
def ji.b4:IR:=ji.g4 ji.b5
def ji.g3 (X4:IR):IR:=(.loop X4)
def ji.b3:IR:=ji.g3 ji.b4
def ji.g2 (X3:IR):IR:=(.block 0 X3)
def ji.b2:IR:=ji.g2 ji.b3
def ji.b10:IR:=(iSr [iQo 1 (.mv aC0)] .ret)
def ji.g1 (X2 X10:IR):IR:=(iSr [iSm 0,.s (.len aS0),.w .push none (.pz 1 1 [(.bool false)] aS0 aS0),iQm 2 0] (.seq (iSr [iQo 5 (.mv aT0),iQo 6 (.len aT5),iQo 7 (.mv aC0)] X2) X10))
def ji.b1:IR:=ji.g1 ji.b2 ji.b10
def ji.g0 (X1:IR):IR:=(iSr [iQo 1 (.mv aC0)] (.seq (iSr [iSm 0,.s (.len aS0),iQo 4 (.bin .gtr .int aS0 zb2)] (.cond aT4 (iSr [iQo 1 (.mv aC5)] .ret) .skip)) X1))
def ji.b0:IR:=ji.g0 ji.b1
def ji.res:List RV:=[.t (.of 1)]
def ji:Fn:={ params:=[(.of 0)],res:=ji.res,body:=ji.b0,init:=in10 }
theorem ji.ok:fnA Tryz.prog Tryz.f187 [0,2,3,5,8,12,13,14,15,31]=some ji:=by kernel_rfl
abbrev zi.fr:=fr11
def zi.b13:IR:=(.seq (.yh [] [(iSm 1,0,[]),(iSm 4,0,[]),(iSm 5,0,[]),(.s (.zu 1 aS1 aS0),0,[]),(.s (.load aS0),0,[]),(iSm 4,0,[]),(iSm 5,0,[]),(.s (.bin .sub .int aS0 aC1),0,[]),(.s (.zu 1 aS2 aS0),0,[]),(.s (.load aS0),0,[]),(.w .push none (.call aS9 [aS5,aS0]),0,[]),(iQo 10 (.not aS0),0,[])]) (.cond sJ (iSr [iSm 0,iSm 3,iSm 4,iSm 5,.s (.zu 1 aS1 aS0),.s (.load aS0),.s (.zu 1 aS5 aS4),.w .none none (.store 1 aS0 aS1)] (.reg [iSm 3,.s (.bin .add .int aS0 aC1),iQm 3 0])) .skip))
def zi.g12 (X13:IR):IR:=(.block 3 X13)
def zi.b12:IR:=zi.g12 zi.b13
def zi.b14:IR:=(.reg [iSm 5,.s (.bin .add .int aS0 aC1),iQm 5 0])
def zi.g11 (X12 X14:IR):IR:=(.seq X12 X14)
def zi.b11:IR:=zi.g11 zi.b12 zi.b14
def zi.g10 (X11:IR):IR:=(.seq (iSr [iSm 5,iSm 4,.s (.len aS0),iQo 9 (.bin .lss .int aS2 aS0)] (.cond aT9 .skip (.exit 2))) X11)
def zi.b10:IR:=zi.g10 zi.b11
def zi.g9 (X10:IR):IR:=(.loop X10)
def zi.b9:IR:=zi.g9 zi.b10
def zi.g8 (X9:IR):IR:=(.block 2 X9)
def zi.b8:IR:=zi.g8 zi.b9
def zi.b15:IR:=(iSr [iSm 0,iSm 3,.s (.slice 1 aS1 (some aS0) none none),.w .none none (.clr 1 [.zf] aS0)] (iSr [iSm 0,iSm 3,.s (.slice 1 aS1 none (some aS0) none),iQm 2 0] .ret))
def zi.g7 (X8 X15:IR):IR:=(.seq (.yh [] [(iSm 1,0,[]),(iSm 0,0,[]),(iSm 3,0,[]),(.s (.zu 1 aS1 aS0),0,[]),(.s (.load aS0),0,[]),(iSm 0,0,[]),(iSm 3,0,[]),(.s (.bin .sub .int aS0 aC1),0,[]),(.s (.zu 1 aS2 aS0),0,[]),(.s (.load aS0),0,[]),(iWl 8 (.call aS9 [aS5,aS0]),0,[])]) (.cond aT8 (iSr [iSm 0,iSm 3,.s (.slice 1 aS1 (some aS0) none none),iQm 4 0] (.seq (iSr [iQo 5 (.mv aC1)] X8) X15)) .skip))
def zi.b7:IR:=zi.g7 zi.b8 zi.b15
def zi.g6 (X7:IR):IR:=(.block 1 X7)
def zi.b6:IR:=zi.g6 zi.b7
def zi.b16:IR:=(.reg [iSm 3,.s (.bin .add .int aS0 aC1),iQm 3 0])
def zi.g5 (X6 X16:IR):IR:=(.seq X6 X16)
def zi.b5:IR:=zi.g5 zi.b6 zi.b16
def zi.g4 (X5:IR):IR:=(.seq (iSr [iSm 3,iSm 0,.s (.len aS0),iQo 7 (.bin .lss .int aS2 aS0)] (.cond aT7 .skip (.exit 0))) X5)
def zi.b4:IR:=zi.g4 zi.b5
def zi.g3 (X4:IR):IR:=(.loop X4)
def zi.b3:IR:=zi.g3 zi.b4
def zi.g2 (X3:IR):IR:=(.block 0 X3)
def zi.b2:IR:=zi.g2 zi.b3
def zi.b17:IR:=(iSr [iSm 0,iQm 2 0] .ret)
def zi.g1 (X2 X17:IR):IR:=(.seq (iSr [iQo 3 (.mv aC1)] X2) X17)
def zi.b1:IR:=zi.g1 zi.b2 zi.b17
def zi.g0 (X1:IR):IR:=(iSr [iQo 2 (.mv (.c .zf))] (.seq (iSr [iSm 0,.s (.len aS0),iQo 6 (.bin .lss .int aS0 aC2)] (.cond aT6 (iSr [iSm 0,iQm 2 0] .ret) .skip)) X1))
def zi.b0:IR:=zi.g0 zi.b1
def zi.res:List RV:=[.t (.of 2)]
def zi:Fn:={ params:=[(.of 0),(.of 1)],res:=zi.res,body:=zi.b0,init:=in11 }
theorem zi.ok:fnA Tryz.prog Tryz.f189 [0,1,4,5,6,7,10,15,28,35,49]=some zi:=by kernel_rfl
abbrev gu.fr:=fr9
def gu.b7:IR:=(iSr [iSm 6,iQm 3 0] (.seq (.yh [] [(iSm 0,0,[]),(iSm 3,0,[]),(.s (.zu 1 aS1 aS0),0,[]),(.s (.load aS0),0,[]),(iSm 1,0,[]),(iSm 3,0,[]),(.s (.zu 1 aS1 aS0),0,[]),(.s (.load aS0),0,[]),(iQo 8 (.bin .neq .int aS4 aS0),0,[])]) (.cond aT8 (iSr [iQo 2 (.mv (.c (.bool false)))] .ret) .skip)))
def gu.g6 (X7:IR):IR:=(.block 1 X7)
def gu.b6:IR:=gu.g6 gu.b7
def gu.b8:IR:=(.reg [.s (.bin .add .int aT6 aC1),iQm 6 0])
def gu.g5 (X6 X8:IR):IR:=(.seq X6 X8)
def gu.b5:IR:=gu.g5 gu.b6 gu.b8
def gu.g4 (X5:IR):IR:=(iSr [iQo 7 (.bin .lss .int aT6 aT5)] (.seq (.cond aT7 .skip (.exit 0)) X5))
def gu.b4:IR:=gu.g4 gu.b5
def gu.g3 (X4:IR):IR:=(.loop X4)
def gu.b3:IR:=gu.g3 gu.b4
def gu.g2 (X3:IR):IR:=(.block 0 X3)
def gu.b2:IR:=gu.g2 gu.b3
def gu.b9:IR:=(iSr [iQo 2 (.mv (.c (.bool true)))] .ret)
def gu.g1 (X2 X9:IR):IR:=(.seq (iSr [iSm 0,iQo 5 (.len aS0),iQo 6 (.mv aC0)] X2) X9)
def gu.b1:IR:=gu.g1 gu.b2 gu.b9
def gu.g0 (X1:IR):IR:=(iSr [iQo 2 (.mv (.c (.bool false)))] (.seq (iSr [iSm 0,.s (.len aS0),iSm 1,.s (.len aS0),iQo 4 (.bin .neq .int aS2 aS0)] (.cond aT4 (iSr [iQo 2 (.mv (.c (.bool false)))] .ret) .skip)) X1))
def gu.b0:IR:=gu.g0 gu.b1
def gu.res:List RV:=[.t (.of 2)]
def gu:Fn:={ params:=[(.of 0),(.of 1)],res:=gu.res,body:=gu.b0,init:=in9 }
theorem gu.ok:fnA Tryz.prog Tryz.f190 [0,1,4,5,10,12,13,14,24]=some gu:=by kernel_rfl
abbrev eY.fr:=fr5
def eY.b2:IR:=(iSr [iSm 0,iQm 2 0] .ret)
def eY.g1 (X2:IR):IR:=(.seq (iSr [iSm 1,iSm 0,.s (.capz aS0),iSm 0,.s (.len aS0),.s (.bin .sub .int aS2 aS0),.s (.bin .sub .int aS5 aS0),iQm 1 0] (iSr [iSm 1,iQo 4 (.bin .gtr .int aS0 aC0)] (.cond aT4 (.reg [iSm 0,iSm 0,.s (.capz aS0),.s (.slice 1 aS2 none (some aS0) none),iSm 1,.w .push none (.appm 1 24 [.zf] aS1 aS0),iSm 0,.s (.len aS0),.s (.slice 1 aS2 none (some aS0) none),iQm 0 0]) .skip))) X2)
def eY.b1:IR:=eY.g1 eY.b2
def eY.g0 (X1:IR):IR:=(iSr [iQo 2 (.mv (.c .zf))] (.seq (iSr [iSm 1,iQo 3 (.bin .lss .int aS0 aC0)] (.cond aT3 (.bad 2) .skip)) X1))
def eY.b0:IR:=eY.g0 eY.b1
def eY.res:List RV:=[.t (.of 2)]
def eY:Fn:={ params:=[(.of 0),(.of 1)],res:=eY.res,body:=eY.b0,init:=in5 }
theorem eY.ok:fnA Tryz.prog Tryz.f191 [0,1,4,6,16]=some eY:=by kernel_rfl
abbrev F192.fr:=fr4
def F192.b0:IR:=(iSr [iQo 3 (.mv aC0)] (iSr [.s (.load aT1),.s (.load aT2),.s (.bin .mul .int aS1 aS0),iSm 0,.s (.bin .add .int aS1 aS0),iQm 3 0] .ret))
def F192.res:List RV:=[.t (.of 3)]
def F192:Fn:={ params:=[(.of 0),(.of 1),(.of 2)],res:=F192.res,body:=F192.b0,init:=in4 }
theorem F192.ok:fnA Tryz.prog Tryz.f192 [0,1,2,4]=some F192:=by kernel_rfl
abbrev F193.fr:=fr4
def F193.b0:IR:=(iSr [iQo 3 (.mv aC0)] (iSr [.s (.load aT1),iSm 0,.s (.bin .mul .int aS1 aS0),.s (.load aT2),.s (.bin .add .int aS1 aS0),iQm 3 0] .ret))
def F193.res:List RV:=[.t (.of 3)]
def F193:Fn:={ params:=[(.of 0),(.of 1),(.of 2)],res:=F193.res,body:=F193.b0,init:=in4 }
theorem F193.ok:fnA Tryz.prog Tryz.f193 [0,1,2,4]=some F193:=by kernel_rfl
abbrev rH.fr:=fr8
def rH.b6:IR:=(iSr [iSm 5,iWl 3 (.alloc [(I 0)]),.w .none none (.store 1 aT3 aS0)] (.seq (.yh [] [(iSm 0,1,[]),(.s (.load aT3),1,[]),(.s (.load aT1),0,[]),(.s (.fn 195 (.of 195) [aT1,aT3,aT2]),0,[]),(iCa 51 [aS1,aS0],0,[]),(.w .push none (.call aS4 [aS3,aS0]),0,[]),(iQo 7 (.not aS0),0,[])]) (.cond aT7 .ret .skip)))
def rH.g5 (X6:IR):IR:=(.block 1 X6)
def rH.b5:IR:=rH.g5 rH.b6
def rH.b7:IR:=(.reg [.s (.bin .add .int aT5 aC1),iQm 5 0])
def rH.g4 (X5 X7:IR):IR:=(.seq X5 X7)
def rH.b4:IR:=rH.g4 rH.b5 rH.b7
def rH.g3 (X4:IR):IR:=(iSr [iQo 6 (.bin .lss .int aT5 aT4)] (.seq (.cond aT6 .skip (.exit 0)) X4))
def rH.b3:IR:=rH.g3 rH.b4
def rH.g2 (X3:IR):IR:=(.loop X3)
def rH.b2:IR:=rH.g2 rH.b3
def rH.g1 (X2:IR):IR:=(.block 0 X2)
def rH.b1:IR:=rH.g1 rH.b2
def rH.g0 (X1:IR):IR:=(iSr [iQo 4 (.load aT1),iQo 5 (.mv aC0)] X1)
def rH.b0:IR:=rH.g0 rH.b1
def rH.res:List RV:=[]
def rH:Fn:={ params:=[(.of 0),(.of 1),(.of 2)],res:=rH.res,body:=rH.b0,init:=in8 }
theorem rH.ok:fnA Tryz.prog Tryz.f194 [0,1,2,4,5,6,7,15]=some rH:=by kernel_rfl
abbrev F195.fr:=fr5
def F195.b0:IR:=(iSr [iQo 4 (.mv aC0)] (.seq (.yh [] [(.s (.load aT1),0,[]),(iSm 0,0,[]),(.s (.bin .mul .int aS1 aS0),0,[]),(.s (.load aT2),0,[]),(.s (.load aT3),0,[]),(iSm 0,0,[]),(.s (.bin .mul .int aS1 aS0),0,[]),(.s (.bin .add .int aS3 aS0),0,[]),(.s (.load aT1),0,[]),(.s (.bin .rem .int aS1 aS0),0,[]),(.s (.load aT1),0,[]),(.s (.bin .add .int aS1 aS0),0,[]),(.s (.load aT1),0,[]),(.s (.bin .rem .int aS1 aS0),0,[]),(.s (.bin .add .int aS11 aS0),0,[]),(iQm 4 0,0,[])]) .ret))
def F195.res:List RV:=[.t (.of 4)]
def F195:Fn:={ params:=[(.of 0),(.of 1),(.of 2),(.of 3)],res:=F195.res,body:=F195.b0,init:=in5 }
theorem F195.ok:fnA Tryz.prog Tryz.f195 [0,1,2,3,5]=some F195:=by kernel_rfl
abbrev F196.fr:=fr3
def F196.b0:IR:=(iSr [iQo 2 (.mv (.c (.bool false)))] (iSr [iSm 0,iSm 1,iCa 238 [aS1,aS0],.s (.bin .geq .int aS0 aC0),iQm 2 0] .ret))
def F196.res:List RV:=[.t (.of 2)]
def F196:Fn:={ params:=[(.of 0),(.of 1)],res:=F196.res,body:=F196.b0,init:=in3 }
theorem F196.ok:fnA Tryz.prog Tryz.f196 [0,1,4]=some F196:=by kernel_rfl
abbrev F197.fr:=fr3
def F197.b0:IR:=(iSr [iQo 2 (.mv (.c (.bool false)))] (iSr [iSm 0,.s (.load aT1),iCa 190 [aS1,aS0],iQm 2 0] .ret))
def F197.res:List RV:=[.t (.of 2)]
def F197:Fn:={ params:=[(.of 0),(.of 1)],res:=F197.res,body:=F197.b0,init:=in3 }
theorem F197.ok:fnA Tryz.prog Tryz.f197 [0,1,3]=some F197:=by kernel_rfl
abbrev dw.fr:=fr23
def dw.b10:IR:=(iSr [iSm 0,iSm 1,iSm 2,iSm 7,iCa 247 [aS3,aS2,aS1,aS0],.s (.mv aS0),.s (.ext 0 aS0),.s (.ext 1 aS1),iQm 10 1,iQm 11 0] (iSr [iSm 11,iQm 5 0] (iSr [iSm 10,iSm 1,.s (.bin .sub .int aS1 aS0),iSm 2,iSm 10,.s (.bin .sub .int aS1 aS0),iQm 12 3,iQm 13 0] (iSr [iSm 6,.s (.bin .quo .int aS0 aC8),iQm 14 0] (iSr [iSm 12,iSm 13,iQo 22 (.bin .lss .int aS1 aS0)] (.cond aT22 (iSr [iSm 12,iSm 14,.s (.bin .geq .int aS1 aS0),iQm 4 0] (iSr [iSm 0,iSm 1,iSm 10,iSm 3,iCa 198 [aS3,aS2,aS1,aS0]] (.reg [iSm 10,.s (.bin .add .int aS0 aC1),iQm 1 0]))) (iSr [iSm 13,iSm 14,.s (.bin .geq .int aS1 aS0),iQm 4 0] (iSr [iSm 0,iSm 10,.s (.bin .add .int aS0 aC1),iSm 2,iSm 3,iCa 198 [aS4,aS2,aS1,aS0]] (.reg [iSm 10,iQm 2 0])))))))))
def dw.g9 (X10:IR):IR:=(.seq (.seq (.yh [] [(iSm 1,0,[]),(.s (.bin .gtr .int aS0 aC0),0,[]),(.s (.mv aS0),0,[]),(iPt 0 (.mv aT0),0,[]),(iPt 1 (.mv aT1),0,[]),(iPt 2 (.bin .sub .int aS0 aC1),0,[]),(iPt 3 (.zu 1 aS2 aS0),0,[]),(iPt 4 (.load aS0),0,[]),(iPt 5 (.mv aT0),0,[]),(iPt 6 (.mv aT7),0,[]),(iPt 7 (.zu 1 aS1 aS0),0,[]),(iPt 8 (.load aS0),0,[]),(.w .push (some (aS9,true)) (.call (.c (.fn 245 (.of 245) [])) [aS4,aS0]),0,[]),(iPt 10 (.not aS0),0,[]),(iQo 21 (.pick aS11 aS0 (.c (.bool false))),0,[])]) (.cond aT21 (iSr [iSm 0,iSm 1,iSm 2,iSm 7,iCa 246 [aS3,aS2,aS1,aS0],iQm 9 0] (iSr [iSm 9,iQm 1 0] (.exit 1))) .skip)) X10)
def dw.b9:IR:=dw.g9 dw.b10
def dw.g8 (X9:IR):IR:=(.seq (iSr [iSm 4,.s (.mv aS0),iPt 0 (.mv aT5),.s (.pick aS1 aS0 (.c (.bool false))),.s (.mv aS0),iPt 0 (.mv aT8),iPt 1 (.bin .eql .int aS0 aC1),iQo 19 (.pick aS2 aS0 (.c (.bool false)))] (.cond aT19 (iSr [iSm 0,iSm 1,iSm 2,iWl 20 (.call (.c (.fn 244 (.of 244) [])) [aS2,aS1,aS0])] (.cond aT20 .ret .skip)) .skip)) X9)
def dw.b8:IR:=dw.g8 dw.b9
def dw.g7 (X8:IR):IR:=(iSr [iSm 0,iSm 1,iSm 2,iCa 242 [aS2,aS1,aS0],.s (.mv aS0),.s (.ext 0 aS0),.s (.ext 1 aS1),iQm 7 1,iQm 8 0] (.seq (iSr [iSm 8,iQo 18 (.bin .eql .int aS0 aC2)] (.cond aT18 (iSr [iSm 0,iSm 1,iSm 2,iCa 243 [aS2,aS1,aS0]] (iSr [iSm 2,.s (.bin .sub .int aS0 aC1),iSm 7,iSm 1,.s (.bin .sub .int aS1 aS0),.s (.bin .sub .int aS3 aS0),iQm 7 0] (.reg [iQo 8 (.mv aC1)]))) .skip)) X8))
def dw.b7:IR:=dw.g7 dw.b8
def dw.g6 (X7:IR):IR:=(.seq (iSr [iSm 4,iQo 17 (.not aS0)] (.cond aT17 (iSr [iSm 0,iSm 1,iSm 2,iCa 241 [aS2,aS1,aS0]] (.reg [iSm 3,.s (.bin .sub .int aS0 aC1),iQm 3 0])) .skip)) X7)
def dw.b6:IR:=dw.g6 dw.b7
def dw.g5 (X6:IR):IR:=(.seq (iSr [iSm 3,iQo 16 (.bin .eql .int aS0 aC0)] (.cond aT16 (iSr [iSm 0,iSm 1,iSm 2,iCa 240 [aS2,aS1,aS0]] .ret) .skip)) X6)
def dw.b5:IR:=dw.g5 dw.b6
def dw.g4 (X5:IR):IR:=(iSr [iSm 2,iSm 1,.s (.bin .sub .int aS1 aS0),iQm 6 0] (.seq (iSr [iSm 6,iQo 15 (.bin .leq .int aS0 aC12)] (.cond aT15 (iSr [iSm 0,iSm 1,iSm 2,iCa 239 [aS2,aS1,aS0]] .ret) .skip)) X5))
def dw.b4:IR:=dw.g4 dw.b5
def dw.g3 (X4:IR):IR:=(.block 1 X4)
def dw.b3:IR:=dw.g3 dw.b4
def dw.g2 (X3:IR):IR:=(.loop X3)
def dw.b2:IR:=dw.g2 dw.b3
def dw.g1 (X2:IR):IR:=(.block 0 X2)
def dw.b1:IR:=dw.g1 dw.b2
def dw.g0 (X1:IR):IR:=(iSr [iQo 4 (.mv (.c (.bool true)))] (iSr [iQo 5 (.mv (.c (.bool true)))] X1))
def dw.b0:IR:=dw.g0 dw.b1
def dw.res:List RV:=[]
def dw:Fn:={ params:=[(.of 0),(.of 1),(.of 2),(.of 3)],res:=dw.res,body:=dw.b0,init:=in23 }
theorem dw.ok:fnA Tryz.prog Tryz.f198 [0,1,2,3,8,9,10,11,12,13,14,15,16,17,18,23,29,35,50,68,72,87,113]=some dw:=by kernel_rfl
abbrev uj.fr:=fr10
def uj.b6:IR:=(iSr [.s (.zu 2 aT5 aT7),.s (.zn 2 aS0),iWl 3 (.alloc [.zf,(.bool false)]),.w .none none (.store 2 aT3 aS0)] (iSr [.s (.zn 2 aT3),iSm 1,iCa 64 [aS1,aS0],iQm 4 0] (iSr [iSm 4,iQo 9 (.bin .neq .int aS0 aC0)] (.cond aT9 (iSr [iSm 4,iQm 2 0] .ret) .skip))))
def uj.g5 (X6:IR):IR:=(.block 1 X6)
def uj.b5:IR:=uj.g5 uj.b6
def uj.b7:IR:=(.reg [.s (.bin .add .int aT7 aC1),iQm 7 0])
def uj.g4 (X5 X7:IR):IR:=(.seq X5 X7)
def uj.b4:IR:=uj.g4 uj.b5 uj.b7
def uj.g3 (X4:IR):IR:=(iSr [iQo 8 (.bin .lss .int aT7 aT6)] (.seq (.cond aT8 .skip (.exit 0)) X4))
def uj.b3:IR:=uj.g3 uj.b4
def uj.g2 (X3:IR):IR:=(.loop X3)
def uj.b2:IR:=uj.g2 uj.b3
def uj.g1 (X2:IR):IR:=(.block 0 X2)
def uj.b1:IR:=uj.g1 uj.b2
def uj.b8:IR:=(iSr [iQo 2 (.mv aC0)] .ret)
def uj.g0 (X1 X8:IR):IR:=(iSr [iQo 2 (.mv aC0)] (.seq (iSr [iQo 5 (.mv aT0),iQo 6 (.len aT5),iQo 7 (.mv aC0)] X1) X8))
def uj.b0:IR:=uj.g0 uj.b1 uj.b8
def uj.res:List RV:=[.t (.of 2)]
def uj:Fn:={ params:=[(.of 0),(.of 1)],res:=uj.res,body:=uj.b0,init:=in10 }
theorem uj.ok:fnA Tryz.prog Tryz.f199 [0,1,4,6,7,8,9,10,11,18]=some uj:=by kernel_rfl
abbrev zo.fr:=fr25
def zo.b3:IR:=(.reg [iWl 10 (.alloc [.zf,(.bool false)]),.w .none none (.store 2 sJ aT16)])
def zo.b20:IR:=(.seq (.yh [] [(.s (.load aT8),1,[]),(.s (.zn 2 eX),0,[]),(.s (.zn 2 eX),1,[]),(iCa 112 [aS1],0,[]),(.w .none none (.zao .str aS3 aS0 aS1),0,[])]) (.reg [iSm 11,.s (.zn 2 eX),.w .push none (.yj 2 1 [.zf,(.bool false)] [(0,2,aS0)]),.w .push none (.appq 2 32 aS2 aS0),iQm 11 0]))
def zo.g19 (X20:IR):IR:=(.seq (iSr [.s (.load aT8),.s (.mlen aS0),.s (.load aT3),iQo 24 (.bin .eql .int aS1 aS0)] (.cond aT24 (iSr [.w .none none (.store 1 aT4 (.c .wz)),.w .none none (.store 1 aT5 (.c .zf)),.w .none none (.store 1 aT6 (.c (.bool false)))] .ret) .skip)) X20)
def zo.b19:IR:=zo.g19 zo.b20
def zo.g18 (X19:IR):IR:=(iSr [.s (.zu 2 aT19 aT21),.s (.zn 2 aS0),iWl 12 (.alloc [.zf,(.bool false)]),.w .none none (.store 2 oD aS0)] (.seq (.yh [(.alloc [.zf,(.bool false)])] [(.s (.zn 2 oD),2,[]),(iSm 11,2,[]),(.s (.zu 2 aS0 aC0),2,[]),(.s (.zn 2 aS0),2,[]),(iCa 250 [aS3,aS0],0,[]),(iWl 13 (.alloc [.zf,(.bool false)]),0,[]),(.w .none none (.store 2 eX aS0),0,[])]) (.seq (iSr [.s (.load aT8),.s (.zn 2 eX),iWl 23 (.call (.c (.fn 249 (.of 249) [])) [aS1,aS0])] (.cond aT23 (.exit 5) .skip)) X19)))
def zo.b18:IR:=zo.g18 zo.b19
def zo.g17 (X18:IR):IR:=(.block 5 X18)
def zo.b17:IR:=zo.g17 zo.b18
def zo.b21:IR:=(.reg [.s (.bin .add .int aT21 aC1),iQm 21 0])
def zo.g16 (X17 X21:IR):IR:=(.seq X17 X21)
def zo.b16:IR:=zo.g16 zo.b17 zo.b21
def zo.g15 (X16:IR):IR:=(iSr [iQo 22 (.bin .lss .int aT21 aT20)] (.seq (.cond aT22 .skip (.exit 4)) X16))
def zo.b15:IR:=zo.g15 zo.b16
def zo.g14 (X15:IR):IR:=(.loop X15)
def zo.b14:IR:=zo.g14 zo.b15
def zo.g13 (X14:IR):IR:=(.block 4 X14)
def zo.b13:IR:=zo.g13 zo.b14
def zo.g12 (X13:IR):IR:=(iSr [iQo 19 (.load aT9),iQo 20 (.len aT19),iQo 21 (.mv aC0)] X13)
def zo.b12:IR:=zo.g12 zo.b13
def zo.g11 (X12:IR):IR:=(.block 3 X12)
def zo.b11:IR:=zo.g11 zo.b12
def zo.b22:IR:=(.reg [iSm 11,.s (.slice 2 aS0 (some aC1) none none),iQm 11 0])
def zo.g10 (X11 X22:IR):IR:=(.seq X11 X22)
def zo.b10:IR:=zo.g10 zo.b11 zo.b22
def zo.g9 (X10:IR):IR:=(.seq (iSr [iSm 11,.s (.len aS0),iQo 18 (.bin .gtr .int aS0 aC0)] (.cond aT18 .skip (.exit 2))) X10)
def zo.b9:IR:=zo.g9 zo.b10
def zo.g8 (X9:IR):IR:=(.loop X9)
def zo.b8:IR:=zo.g8 zo.b9
def zo.g7 (X8:IR):IR:=(.block 2 X8)
def zo.b7:IR:=zo.g7 zo.b8
def zo.g6 (X7:IR):IR:=(iSr [.s (.load aT9),.s (.zn 2 sJ),.w .push none (.yj 2 1 [.zf,(.bool false)] [(0,2,aS0)]),.w .push none (.appq 2 32 aS2 aS0),.w .none none (.store 1 aT9 aS0)] (.seq (.yh [.au] [(.s (.zn 2 aT7),2,[]),(.s (.zn 2 aT7),2,[]),(iCa 112 [aS1],0,[]),(.w .push none .au,0,[]),(.w .none none (.zao .str aS0 aS1 aS2),0,[]),(.s (.mv aS0),0,[]),(.w .none none (.store 1 aT8 aS0),0,[])]) (iSr [.s (.zn 2 aT7),.w .push none (.yj 2 1 [.zf,(.bool false)] [(0,2,aS0)]),iQm 11 0] X7)))
def zo.b6:IR:=zo.g6 zo.b7
def zo.g5 (X6:IR):IR:=(.seq (iSr [.s (.load aT8),.s (.zn 2 sJ),iWl 17 (.call (.c (.fn 249 (.of 249) [])) [aS1,aS0])] (.cond aT17 (.exit 1) .skip)) X6)
def zo.b5:IR:=zo.g5 zo.b6
def zo.g4 (X5:IR):IR:=(.block 1 X5)
def zo.b4:IR:=zo.g4 zo.b5
def zo.g2 (X3 X4:IR):IR:=(.rf aT14 [(.of 15),(.of 16)] X3 X4)
def zo.b2:IR:=zo.g2 zo.b3 zo.b4
def zo.g1 (X2:IR):IR:=(.block 0 X2)
def zo.b1:IR:=zo.g1 zo.b2
def zo.b23:IR:=(.seq (.yh [] [(.s (.load aT8),0,[]),(.s (.load aT9),1,[]),(.w .none none (.store 1 aT4 aS1),0,[]),(.w .none none (.store 1 aT5 aS0),0,[]),(.w .none none (.store 1 aT6 (.c (.bool true))),0,[])]) .ret)
def zo.g0 (X1 X23:IR):IR:=(iSr [iWl 3 (.box aT2),iWl 4 (.alloc [.wz]),iWl 5 (.alloc [.zf]),iWl 6 (.alloc [(.bool false)])] (iSr [iSm 1,iCa 248 [aS0],iWl 7 (.alloc [.zf,(.bool false)]),.w .none none (.store 2 aT7 aS0)] (.seq (.yh [.au,(.alloc [.wz])] [(.s (.zn 2 aT7),4,[]),(.s (.zn 2 aT7),4,[]),(iCa 112 [aS1],0,[]),(.w .push none .au,0,[]),(.w .none none (.zao .str aS0 aS1 aS2),0,[]),(.s (.mv aS0),1,[]),(iWl 8 (.alloc [.wz]),0,[]),(.w .none none (.store 1 aT8 aS0),0,[])]) (iSr [iWl 9 (.alloc [.zf])] (.seq (iSr [iSm 0,iWl 14 (.call (.c (.fn 86 (.of 86) [])) [aS0])] X1) X23)))))
def zo.b0:IR:=zo.g0 zo.b1 zo.b23
def zo.res:List RV:=[.cell (.of 4) none,.cell (.of 5) none,.cell (.of 6) none]
def zo:Fn:={ params:=[(.of 0),(.of 1),(.of 2)],res:=zo.res,body:=zo.b0,init:=in25 }
theorem zo.ok:fnA Tryz.prog Tryz.f200 [0,1,2,5,6,7,8,9,10,11,13,14,16,17,26,27,28,31,45,48,49,50,51,61,65]=some zo:=by kernel_rfl
abbrev aQ.fr:=fr3
def aQ.b1:IR:=(iSr [iSm 0,.s (.conv .u64 aS0),iQm 1 0] .ret)
def aQ.g0 (X1:IR):IR:=(iSr [iQo 1 (.mv (.c (.int .u64 0)))] (.seq (iSr [iSm 0,iQo 2 (.bin .lss .int aS0 aC0)] (.cond aT2 (iSr [iSm 0,.s (.neg aS0),.s (.conv .u64 aS0),iQm 1 0] .ret) .skip)) X1))
def aQ.b0:IR:=aQ.g0 aQ.b1
def aQ.res:List RV:=[.t (.of 1)]
def aQ:Fn:={ params:=[(.of 0)],res:=aQ.res,body:=aQ.b0,init:=in3 }
theorem aQ.ok:fnA Tryz.prog Tryz.f201 [0,2,4]=some aQ:=by kernel_rfl
abbrev F205.fr:=fr12
def F205.b0:IR:=(iSr [iQo 2 (.mv (.c (.int .u64 0))),iQo 3 (.mv (.c (.int .u64 0)))] (iSr [iSm 0,.s (.bin .and .int aS0 (.c (.int .u64 4294967295))),iQm 4 0] (iSr [iSm 0,.s (.bin .shr .int aS0 (.c (.int .u64 32))),iQm 5 0] (iSr [iSm 1,.s (.bin .and .int aS0 (.c (.int .u64 4294967295))),iQm 6 0] (iSr [iSm 1,.s (.bin .shr .int aS0 (.c (.int .u64 32))),iQm 7 0] (iSr [iSm 4,iSm 6,.s (.bin .mul .int aS1 aS0),iQm 8 0] (iSr [iSm 5,iSm 6,.s (.bin .mul .int aS1 aS0),iSm 8,.s (.bin .shr .int aS0 (.c (.int .u64 32))),.s (.bin .add .int aS2 aS0),iQm 9 0] (iSr [iSm 9,.s (.bin .and .int aS0 (.c (.int .u64 4294967295))),iQm 10 0] (iSr [iSm 9,.s (.bin .shr .int aS0 (.c (.int .u64 32))),iQm 11 0] (iSr [iSm 10,iSm 4,iSm 7,.s (.bin .mul .int aS1 aS0),.s (.bin .add .int aS3 aS0),iQm 10 0] (iSr [iSm 5,iSm 7,.s (.bin .mul .int aS1 aS0),iSm 11,.s (.bin .add .int aS1 aS0),iSm 10,.s (.bin .shr .int aS0 (.c (.int .u64 32))),.s (.bin .add .int aS2 aS0),iQm 2 0] (iSr [iSm 0,iSm 1,.s (.bin .mul .int aS1 aS0),iQm 3 0] .ret))))))))))))
def F205.res:List RV:=[.t (.of 2),.t (.of 3)]
def F205:Fn:={ params:=[(.of 0),(.of 1)],res:=F205.res,body:=F205.b0,init:=in12 }
theorem F205.ok:fnA Tryz.prog Tryz.f205 [0,1,4,5,6,7,8,9,10,11,12,13]=some F205:=by kernel_rfl
abbrev rJ.fr:=fr10
def rJ.b1:IR:=(iSr [iQo 2 (.mv (.c (I (-1))))] .ret)
def rJ.b5:IR:=(iSr [iQo 2 (.mv aC0)] .ret)
def rJ.g4 (X5:IR):IR:=(.seq (iSr [iSm 0,iSm 1,iQo 9 (.bin .gtr .int aS1 aS0)] (.cond aT9 (iSr [iQo 2 (.mv aC1)] .ret) .skip)) X5)
def rJ.b4:IR:=rJ.g4 rJ.b5
def rJ.g3 (X4:IR):IR:=(.seq (iSr [iSm 0,iSm 1,iQo 8 (.bin .lss .int aS1 aS0)] (.cond aT8 (iSr [iQo 2 (.mv (.c (I (-1))))] .ret) .skip)) X4)
def rJ.b3:IR:=rJ.g3 rJ.b4
def rJ.g2 (X3:IR):IR:=(.seq (iSr [iQo 7 (.mv aT4)] (.cond aT7 (iSr [iQo 2 (.mv aC1)] .ret) .skip)) X3)
def rJ.b2:IR:=rJ.g2 rJ.b3
def rJ.g0 (X1 X2:IR):IR:=(iSr [iQo 2 (.mv aC0)] (iSr [iSm 0,iCa 261 [aS0],iQm 3 0] (iSr [iSm 1,iCa 261 [aS0],iQm 4 0] (.seq (iSr [iQo 5 (.mv aT3)] (.cond aT5 (.seq (iSr [iQo 6 (.mv aT4)] (.cond aT6 (iSr [iQo 2 (.mv aC0)] .ret) .skip)) X1) .skip)) X2))))
def rJ.b0:IR:=rJ.g0 rJ.b1 rJ.b2
def rJ.res:List RV:=[.t (.of 2)]
def rJ:Fn:={ params:=[(.of 0),(.of 1)],res:=rJ.res,body:=rJ.b0,init:=in10 }
theorem rJ.ok:fnA Tryz.prog Tryz.f217 [0,1,4,5,6,11,12,13,16,19]=some rJ:=by kernel_rfl
abbrev uy.fr:=fr9
def uy.b6:IR:=(iSr [.s (.zu 1 aT5 aT7),.s (.load aS0),iQm 4 0] (.reg [iSm 3,iSm 1,iSm 4,.s (.zu 1 aS1 aS0),.s (.load aS0),.s (.bin .add .int aS4 aS0),iQm 3 0]))
def uy.g5 (X6:IR):IR:=(.block 1 X6)
def uy.b5:IR:=uy.g5 uy.b6
def uy.b7:IR:=(.reg [.s (.bin .add .int aT7 aC1),iQm 7 0])
def uy.g4 (X5 X7:IR):IR:=(.seq X5 X7)
def uy.b4:IR:=uy.g4 uy.b5 uy.b7
def uy.g3 (X4:IR):IR:=(iSr [iQo 8 (.bin .lss .int aT7 aT6)] (.seq (.cond aT8 .skip (.exit 0)) X4))
def uy.b3:IR:=uy.g3 uy.b4
def uy.g2 (X3:IR):IR:=(.loop X3)
def uy.b2:IR:=uy.g2 uy.b3
def uy.g1 (X2:IR):IR:=(.block 0 X2)
def uy.b1:IR:=uy.g1 uy.b2
def uy.b8:IR:=(iSr [iSm 3,iQm 2 0] .ret)
def uy.g0 (X1 X8:IR):IR:=(iSr [iQo 2 (.mv aC0)] (iSr [iQo 3 (.mv aC0)] (.seq (iSr [iQo 5 (.mv aT0),iQo 6 (.len aT5),iQo 7 (.mv aC0)] X1) X8)))
def uy.b0:IR:=uy.g0 uy.b1 uy.b8
def uy.res:List RV:=[.t (.of 2)]
def uy:Fn:={ params:=[(.of 0),(.of 1)],res:=uy.res,body:=uy.b0,init:=in9 }
theorem uy.ok:fnA Tryz.prog Tryz.f219 [0,1,4,5,7,8,9,10,11]=some uy:=by kernel_rfl
abbrev qg.fr:=fr7
def qg.b3:IR:=(.reg [iQo 4 (.mv aT6)])
def qg.b5:IR:=(.reg [.s (.load aT2),iSm 4,.w .push none (.yj 1 1 [(I 0)] [(0,1,aS0)]),.w .push none (.app 1 8 aS2 aS0),.w .none none (.store 1 aT2 aS0)])
def qg.g4 (X5:IR):IR:=(.block 1 X5)
def qg.b4:IR:=qg.g4 qg.b5
def qg.g2 (X3 X4:IR):IR:=(.rf aT5 [(.of 6)] X3 X4)
def qg.b2:IR:=qg.g2 qg.b3 qg.b4
def qg.g1 (X2:IR):IR:=(.block 0 X2)
def qg.b1:IR:=qg.g1 qg.b2
def qg.b6:IR:=(iSr [.s (.load aT2),iQm 3 0] .ret)
def qg.g0 (X1 X6:IR):IR:=(iSr [iWl 2 (.box aT0),iQo 3 (.mv (.c .zf))] (.seq (iSr [iQo 5 (.mv aT1)] X1) X6))
def qg.b0:IR:=qg.g0 qg.b1 qg.b6
def qg.res:List RV:=[.t (.of 3)]
def qg:Fn:={ params:=[(.of 0),(.of 1)],res:=qg.res,body:=qg.b0,init:=in7 }
theorem qg.ok:fnA Tryz.prog Tryz.f221 [0,1,2,4,5,6,7]=some qg:=by kernel_rfl
abbrev F222.fr:=fr2
def F222.b0:IR:=(iSr [iQo 1 (.mv (.c (.str [])))] (iSr [iSm 0,iCa 263 [aS0,aC10],iQm 1 0] .ret))
def F222.res:List RV:=[.t (.of 1)]
def F222:Fn:={ params:=[(.of 0)],res:=F222.res,body:=F222.b0,init:=in2 }
theorem F222.ok:fnA Tryz.prog Tryz.f222 [0,2]=some F222:=by kernel_rfl
abbrev F224.fr:=fr3
def F224.b0:IR:=(iSr [iQo 2 (.mv aC0)] (iSr [iSm 0,iSm 1,.s (.bin .rem .int aS1 aS0),iSm 1,.s (.bin .add .int aS1 aS0),iSm 1,.s (.bin .rem .int aS1 aS0),iQm 2 0] .ret))
def F224.res:List RV:=[.t (.of 2)]
def F224:Fn:={ params:=[(.of 0),(.of 1)],res:=F224.res,body:=F224.b0,init:=in3 }
theorem F224.ok:fnA Tryz.prog Tryz.f224 [0,1,4]=some F224:=by kernel_rfl
abbrev F225.fr:=fr2
def F225.b0:IR:=(iSr [iWl 1 (.alloc [(I 0),(I 0),.zf])] (iSr [iSm 0,iSm 0,iSm 0,iSm 0,.s (.bin .mul .int aS1 aS0),.w .push none (.pz 1 8 [(I 0)] aS0 aS0),.s (.build [(I 0),(I 0),.zf] [(0,1,aS5),(1,1,aS4),(2,1,aS0)]),.w .none none (.store 3 aT1 aS0)] .ret))
def F225.res:List RV:=[.cell (.of 1) (some 3)]
def F225:Fn:={ params:=[(.of 0)],res:=F225.res,body:=F225.b0,init:=in2 }
theorem F225.ok:fnA Tryz.prog Tryz.f225 [0,2]=some F225:=by kernel_rfl
abbrev ru.fr:=fr10
def ru.b6:IR:=(iSr [iSm 8,iQm 7 0] (.yh [] [(iSm 7,0,[]),(iSm 7,0,[]),(.s (.zk 1 aT2),0,[]),(.s (.tH 1 2 aS0 aS1),0,[]),(.s (.load aS0),0,[]),(iSm 4,0,[]),(iSm 7,0,[]),(.s (.zk 3 aT2),0,[]),(.s (.tH 1 2 aS0 aS1),0,[]),(.s (.load aS0),0,[]),(.s (.bin .mul .int aS4 aS0),0,[]),(.s (.bin .add .int aS6 aS0),0,[]),(iSm 5,0,[]),(iSm 7,0,[]),(.s (.zk 5 aT2),0,[]),(.s (.tH 1 2 aS0 aS1),0,[]),(.s (.load aS0),0,[]),(.s (.bin .mul .int aS4 aS0),0,[]),(.s (.bin .add .int aS6 aS0),0,[]),(.s (.zk 0 aT2),0,[]),(.s (.load aS0),0,[]),(.s (.bin .rem .int aS2 aS0),0,[]),(.s (.tH 1 2 aT6 aS21),0,[]),(.w .none none (.store 1 aS0 aS1),0,[])]))
def ru.g5 (X6:IR):IR:=(.block 1 X6)
def ru.b5:IR:=ru.g5 ru.b6
def ru.b7:IR:=(.reg [.s (.bin .add .int aT8 aC1),iQm 8 0])
def ru.g4 (X5 X7:IR):IR:=(.seq X5 X7)
def ru.b4:IR:=ru.g4 ru.b5 ru.b7
def ru.g3 (X4:IR):IR:=(iSr [iQo 9 (.bin .lss .int aT8 aC2)] (.seq (.cond aT9 .skip (.exit 0)) X4))
def ru.b3:IR:=ru.g3 ru.b4
def ru.g2 (X3:IR):IR:=(.loop X3)
def ru.b2:IR:=ru.g2 ru.b3
def ru.g1 (X2:IR):IR:=(.block 0 X2)
def ru.b1:IR:=ru.g1 ru.b2
def ru.b8:IR:=(iSr [.s (.tH 1 2 aT6 aC0),.s (.load aS0),.s (.zk 0 aT2),.s (.load aS0),.s (.bin .mul .int aS2 aS0),.s (.tH 1 2 aT6 aC1),.s (.load aS0),.s (.bin .add .int aS2 aS0),iQm 3 0] .ret)
def ru.g0 (X1 X8:IR):IR:=(iSr [iWl 2 (.box aT0),iQo 3 (.mv aC0)] (.seq (.yh [] [(iSm 1,0,[]),(.s (.bin .sub .int aS0 aC1),0,[]),(.s (.zk 0 aT2),0,[]),(.s (.load aS0),0,[]),(.s (.bin .rem .int aS2 aS0),0,[]),(iSm 1,0,[]),(.s (.bin .sub .int aS0 aC1),0,[]),(.s (.zk 0 aT2),0,[]),(.s (.load aS0),0,[]),(.s (.bin .quo .int aS2 aS0),0,[]),(iQm 4 5,0,[]),(iQm 5 0,0,[])]) (iSr [iWl 6 (.alloc [(I 0),(I 0)])] (.seq (iSr [iQo 8 (.mv aC0)] X1) X8))))
def ru.b0:IR:=ru.g0 ru.b1 ru.b8
def ru.res:List RV:=[.t (.of 3)]
def ru:Fn:={ params:=[(.of 0),(.of 1)],res:=ru.res,body:=ru.b0,init:=in10 }
theorem ru.ok:fnA Tryz.prog Tryz.f226 [0,1,2,4,5,6,7,8,19,20]=some ru:=by kernel_rfl
abbrev aB.fr:=fr5
def aB.b3:IR:=(iSr [iSm 1,iSm 0,.s (.conv .u8 aS0),.s (.sidx (.c (.str [0,1,2,2,3,3,3,3,4,4,4,4,4,4,4,4,5,5,5,5,5,5,5,5,5,5,5,5,5,5,5,5,6,6,6,6,6,6,6,6,6,6,6,6,6,6,6,6,6,6,6,6,6,6,6,6,6,6,6,6,6,6,6,6,7,7,7,7,7,7,7,7,7,7,7,7,7,7,7,7,7,7,7,7,7,7,7,7,7,7,7,7,7,7,7,7,7,7,7,7,7,7,7,7,7,7,7,7,7,7,7,7,7,7,7,7,7,7,7,7,7,7,7,7,7,7,7,7,8,8,8,8,8,8,8,8,8,8,8,8,8,8,8,8,8,8,8,8,8,8,8,8,8,8,8,8,8,8,8,8,8,8,8,8,8,8,8,8,8,8,8,8,8,8,8,8,8,8,8,8,8,8,8,8,8,8,8,8,8,8,8,8,8,8,8,8,8,8,8,8,8,8,8,8,8,8,8,8,8,8,8,8,8,8,8,8,8,8,8,8,8,8,8,8,8,8,8,8,8,8,8,8,8,8,8,8,8,8,8,8,8,8,8,8,8,8,8,8,8,8,8,8,8,8,8,8])) aS0),.s (.conv .i64 aS0),.s (.bin .add .int aS4 aS0),iQm 1 0] .ret)
def aB.g2 (X3:IR):IR:=(.seq (iSr [iSm 0,iQo 4 (.bin .geq .int aS0 (.c (.int .u64 256)))] (.cond aT4 (iSr [iSm 0,.s (.bin .shr .int aS0 (.c (.int .u64 8))),iQm 0 0] (.reg [iSm 1,.s (.bin .add .int aS0 aC8),iQm 1 0])) .skip)) X3)
def aB.b2:IR:=aB.g2 aB.b3
def aB.g1 (X2:IR):IR:=(.seq (iSr [iSm 0,iQo 3 (.bin .geq .int aS0 (.c (.int .u64 65536)))] (.cond aT3 (iSr [iSm 0,.s (.bin .shr .int aS0 (.c (.int .u64 16))),iQm 0 0] (.reg [iSm 1,.s (.bin .add .int aS0 aC16),iQm 1 0])) .skip)) X2)
def aB.b1:IR:=aB.g1 aB.b2
def aB.g0 (X1:IR):IR:=(iSr [iQo 1 (.mv aC0)] (.seq (iSr [iSm 0,iQo 2 (.bin .geq .int aS0 (.c (.int .u64 4294967296)))] (.cond aT2 (iSr [iSm 0,.s (.bin .shr .int aS0 (.c (.int .u64 32))),iQm 0 0] (.reg [iQo 1 (.mv aC32)])) .skip)) X1))
def aB.b0:IR:=aB.g0 aB.b1
def aB.res:List RV:=[.t (.of 1)]
def aB:Fn:={ params:=[(.of 0)],res:=aB.res,body:=aB.b0,init:=in5 }
theorem aB.ok:fnA Tryz.prog Tryz.f236 [0,2,4,8,14]=some aB:=by kernel_rfl
abbrev rC.fr:=fr8
def rC.b6:IR:=(iSr [iSm 5,iQm 3 0] (iSr [iSm 1,iSm 0,iSm 3,.s (.zu 1 aS1 aS0),.s (.load aS0),iWl 7 (.call aS4 [aS0])] (.cond aT7 (iSr [iSm 3,iQm 2 0] .ret) .skip)))
def rC.g5 (X6:IR):IR:=(.block 1 X6)
def rC.b5:IR:=rC.g5 rC.b6
def rC.b7:IR:=(.reg [.s (.bin .add .int aT5 aC1),iQm 5 0])
def rC.g4 (X5 X7:IR):IR:=(.seq X5 X7)
def rC.b4:IR:=rC.g4 rC.b5 rC.b7
def rC.g3 (X4:IR):IR:=(iSr [iQo 6 (.bin .lss .int aT5 aT4)] (.seq (.cond aT6 .skip (.exit 0)) X4))
def rC.b3:IR:=rC.g3 rC.b4
def rC.g2 (X3:IR):IR:=(.loop X3)
def rC.b2:IR:=rC.g2 rC.b3
def rC.g1 (X2:IR):IR:=(.block 0 X2)
def rC.b1:IR:=rC.g1 rC.b2
def rC.b8:IR:=(iSr [iQo 2 (.mv (.c (I (-1))))] .ret)
def rC.g0 (X1 X8:IR):IR:=(iSr [iQo 2 (.mv aC0)] (.seq (iSr [iSm 0,iQo 4 (.len aS0),iQo 5 (.mv aC0)] X1) X8))
def rC.b0:IR:=rC.g0 rC.b1 rC.b8
def rC.res:List RV:=[.t (.of 2)]
def rC:Fn:={ params:=[(.of 0),(.of 1)],res:=rC.res,body:=rC.b0,init:=in8 }
theorem rC.ok:fnA Tryz.prog Tryz.f238 [0,1,4,5,7,8,9,16]=some rC:=by kernel_rfl
abbrev qw.fr:=fr7
def qw.b12:IR:=(.yh [] [(iSm 0,0,[]),(iSm 4,0,[]),(iSm 0,1,[]),(iSm 4,1,[]),(.s (.bin .sub .int aS0 aC1),1,[]),(iSm 0,0,[]),(iSm 4,0,[]),(.s (.bin .sub .int aS0 aC1),0,[]),(.s (.zu 1 aS2 aS0),0,[]),(.s (.load aS0),0,[]),(iSm 0,0,[]),(iSm 4,0,[]),(.s (.zu 1 aS1 aS0),0,[]),(.s (.load aS0),0,[]),(.s (.zu 1 aS13 aS12),0,[]),(.w .none none (.store 1 aS0 aS5),0,[]),(.s (.zu 1 aS12 aS10),0,[]),(.w .none none (.store 1 aS0 aS2),0,[])])
def qw.g11 (X12:IR):IR:=(.block 3 X12)
def qw.b11:IR:=qw.g11 qw.b12
def qw.b13:IR:=(.reg [iSm 4,.s (.bin .sub .int aS0 aC1),iQm 4 0])
def qw.g10 (X11 X13:IR):IR:=(.seq X11 X13)
def qw.b10:IR:=qw.g10 qw.b11 qw.b13
def qw.g9 (X10:IR):IR:=(.seq (.seq (.yh [] [(iSm 4,0,[]),(iSm 1,0,[]),(.s (.bin .gtr .int aS1 aS0),0,[]),(.s (.mv aS0),0,[]),(iPt 0 (.mv aT0),0,[]),(iPt 1 (.mv aT4),0,[]),(iPt 2 (.zu 1 aS1 aS0),0,[]),(iPt 3 (.load aS0),0,[]),(iPt 4 (.mv aT0),0,[]),(iPt 5 (.mv aT4),0,[]),(iPt 6 (.bin .sub .int aS0 aC1),0,[]),(iPt 7 (.zu 1 aS2 aS0),0,[]),(iPt 8 (.load aS0),0,[]),(.w .push (some (aS9,true)) (.call (.c (.fn 245 (.of 245) [])) [aS5,aS0]),0,[]),(iQo 6 (.pick aS10 aS0 (.c (.bool false))),0,[])]) (.cond aT6 .skip (.exit 2))) X10)
def qw.b9:IR:=qw.g9 qw.b10
def qw.g8 (X9:IR):IR:=(.loop X9)
def qw.b8:IR:=qw.g8 qw.b9
def qw.g7 (X8:IR):IR:=(.block 2 X8)
def qw.b7:IR:=qw.g7 qw.b8
def qw.g6 (X7:IR):IR:=(iSr [iSm 3,iQm 4 0] X7)
def qw.b6:IR:=qw.g6 qw.b7
def qw.g5 (X6:IR):IR:=(.block 1 X6)
def qw.b5:IR:=qw.g5 qw.b6
def qw.b14:IR:=(.reg [iSm 3,.s (.bin .add .int aS0 aC1),iQm 3 0])
def qw.g4 (X5 X14:IR):IR:=(.seq X5 X14)
def qw.b4:IR:=qw.g4 qw.b5 qw.b14
def qw.g3 (X4:IR):IR:=(.seq (iSr [iSm 3,iSm 2,iQo 5 (.bin .lss .int aS1 aS0)] (.cond aT5 .skip (.exit 0))) X4)
def qw.b3:IR:=qw.g3 qw.b4
def qw.g2 (X3:IR):IR:=(.loop X3)
def qw.b2:IR:=qw.g2 qw.b3
def qw.g1 (X2:IR):IR:=(.block 0 X2)
def qw.b1:IR:=qw.g1 qw.b2
def qw.g0 (X1:IR):IR:=(iSr [iSm 1,.s (.bin .add .int aS0 aC1),iQm 3 0] X1)
def qw.b0:IR:=qw.g0 qw.b1
def qw.res:List RV:=[]
def qw:Fn:={ params:=[(.of 0),(.of 1),(.of 2)],res:=qw.res,body:=qw.b0,init:=in7 }
theorem qw.ok:fnA Tryz.prog Tryz.f239 [0,1,2,6,7,12,30]=some qw:=by kernel_rfl
abbrev F245.fr:=fr3
def F245.b0:IR:=(iSr [iQo 2 (.mv (.c (.bool false)))] (iSr [iSm 0,iCa 261 [aS0],.s (.mv aS0),iPt 0 (.mv aT1),.w .push (some (aS1,true)) (.call (.c (.fn 261 (.of 261) [])) [aS0]),iPt 2 (.not aS0),.s (.pick aS3 aS0 (.c (.bool false))),.s (.mv aS0),iPf 0 (.mv aT0),iPf 1 (.mv aT1),iPf 2 (.bin .lss .int aS1 aS0),.s (.pick aS3 (.c (.bool true)) aS0),iQm 2 0] .ret))
def F245.res:List RV:=[.t (.of 2)]
def F245:Fn:={ params:=[(.of 0),(.of 1)],res:=F245.res,body:=F245.b0,init:=in3 }
theorem F245.ok:fnA Tryz.prog Tryz.f245 [0,1,4]=some F245:=by kernel_rfl
abbrev uo.fr:=fr7
def uo.b6:IR:=(iSr [iSm 5,iQm 3 0] (.reg [.s (.zk 0 aT2),.s (.load aS0),iSm 3,iSm 3,.s (.zu 1 aS2 aS1),.w .none none (.store 1 aS0 aS1)]))
def uo.g5 (X6:IR):IR:=(.block 1 X6)
def uo.b5:IR:=uo.g5 uo.b6
def uo.b7:IR:=(.reg [.s (.bin .add .int aT5 aC1),iQm 5 0])
def uo.g4 (X5 X7:IR):IR:=(.seq X5 X7)
def uo.b4:IR:=uo.g4 uo.b5 uo.b7
def uo.g3 (X4:IR):IR:=(iSr [iQo 6 (.bin .lss .int aT5 aT4)] (.seq (.cond aT6 .skip (.exit 0)) X4))
def uo.b3:IR:=uo.g3 uo.b4
def uo.g2 (X3:IR):IR:=(.loop X3)
def uo.b2:IR:=uo.g2 uo.b3
def uo.g1 (X2:IR):IR:=(.block 0 X2)
def uo.b1:IR:=uo.g1 uo.b2
def uo.b8:IR:=(iSr [.s (.zn 2 aT2),.w .none none (.store 2 aT1 aS0)] .ret)
def uo.g0 (X1 X8:IR):IR:=(iSr [iWl 1 (.alloc [.zf,(.bool false)])] (iSr [iSm 0,.w .push none (.pz 1 8 [(I 0)] aS0 aS0),.s (.build [.zf,(.bool false)] [(0,1,aS0)]),iWl 2 (.alloc [.zf,(.bool false)]),.w .none none (.store 2 aT2 aS0)] (.seq (iSr [.s (.zk 0 aT2),.s (.load aS0),iQo 4 (.len aS0),iQo 5 (.mv aC0)] X1) X8)))
def uo.b0:IR:=uo.g0 uo.b1 uo.b8
def uo.res:List RV:=[.cell (.of 1) (some 2)]
def uo:Fn:={ params:=[(.of 0)],res:=uo.res,body:=uo.b0,init:=in7 }
theorem uo.ok:fnA Tryz.prog Tryz.f248 [0,2,3,4,10,11,12]=some uo:=by kernel_rfl
abbrev o8.fr:=fr5
def o8.b0:IR:=(iSr [iWl 2 (.box aT1),iQo 3 (.mv (.c (.bool false)))] (iSr [iSm 0,.s (.zn 2 aT2),iCa 112 [aS0],.s (.look .str (.agg [.zf,(.bool false)]) true aS2 aS0),.s (.mv aS0),.s (.ext 0 aS0),.s (.ext 1 aS1),.w .push none (.alloc [.zf,(.bool false)]),.w .none none (.store 2 aS0 aS2),iQm 4 1] (iSr [iSm 4,iQm 3 0] .ret)))
def o8.res:List RV:=[.t (.of 3)]
def o8:Fn:={ params:=[(.of 0),(.of 1)],res:=o8.res,body:=o8.b0,init:=in5 }
theorem o8.ok:fnA Tryz.prog Tryz.f249 [0,1,3,4,6]=some o8:=by kernel_rfl
abbrev uq.fr:=fr12
def uq.b6:IR:=(iSr [iSm 10,.s (.zu 1 aT8 sJ),.s (.load aS0),iQm 6 2,iQm 7 0] (.yh [] [(.s (.zk 0 aT5),0,[]),(.s (.load aS0),0,[]),(iSm 6,0,[]),(.s (.zk 0 aT2),0,[]),(.s (.load aS0),0,[]),(iSm 7,0,[]),(.s (.zu 1 aS1 aS0),0,[]),(.s (.load aS0),0,[]),(.s (.zu 1 aS6 aS5),0,[]),(.w .none none (.store 1 aS0 aS1),0,[])]))
def uq.g5 (X6:IR):IR:=(.block 1 X6)
def uq.b5:IR:=uq.g5 uq.b6
def uq.b7:IR:=(.reg [.s (.bin .add .int sJ aC1),iQm 10 0])
def uq.g4 (X5 X7:IR):IR:=(.seq X5 X7)
def uq.b4:IR:=uq.g4 uq.b5 uq.b7
def uq.g3 (X4:IR):IR:=(iSr [iQo 11 (.bin .lss .int sJ aT9)] (.seq (.cond aA .skip (.exit 0)) X4))
def uq.b3:IR:=uq.g3 uq.b4
def uq.g2 (X3:IR):IR:=(.loop X3)
def uq.b2:IR:=uq.g2 uq.b3
def uq.g1 (X2:IR):IR:=(.block 0 X2)
def uq.b1:IR:=uq.g1 uq.b2
def uq.b8:IR:=(iSr [.s (.zn 2 aT5),.w .none none (.store 2 aT4 aS0)] .ret)
def uq.g0 (X1 X8:IR):IR:=(iSr [iWl 2 (.box aT0),iWl 3 (.box aT1),iWl 4 (.alloc [.zf,(.bool false)])] (.seq (.yh [(.alloc [.zf,(.bool false)])] [(.s (.zk 0 aT3),2,[]),(.s (.load aS0),2,[]),(.s (.len aS0),2,[(.pz 1 8 [(I 0)] aS0 aS0)]),(.s (.zk 1 aT2),2,[]),(.s (.load aS0),2,[]),(.s (.zk 1 aT3),2,[]),(.s (.load aS0),2,[]),(.s (.bin .neq .bool aS2 aS0),2,[]),(.w .push none (.pz 1 8 [(I 0)] aS5 aS5),0,[]),(.s (.build [.zf,(.bool false)] [(0,1,aS0),(1,1,aS1)]),1,[]),(iWl 5 (.alloc [.zf,(.bool false)]),0,[]),(.w .none none (.store 2 aT5 aS0),0,[])]) (.seq (iSr [.s (.zk 0 aT3),iQo 8 (.load aS0),iQo 9 (.len aT8),iQo 10 (.mv aC0)] X1) X8)))
def uq.b0:IR:=uq.g0 uq.b1 uq.b8
def uq.res:List RV:=[.cell (.of 4) (some 2)]
def uq:Fn:={ params:=[(.of 0),(.of 1)],res:=uq.res,body:=uq.b0,init:=in12 }
theorem uq.ok:fnA Tryz.prog Tryz.f250 [0,1,2,3,4,5,6,7,19,20,21,22]=some uq:=by kernel_rfl
abbrev oZ.fr:=fr2
def oZ.b0:IR:=(iSr [iQo 1 (.mv (.c (.bool false)))] (iSr [iSm 0,iSm 0,.s (.bin .neq .int aS1 aS0),iQm 1 0] .ret))
def oZ.res:List RV:=[.t (.of 1)]
def oZ:Fn:={ params:=[(.of 0)],res:=oZ.res,body:=oZ.b0,init:=in2 }
theorem oZ.ok:fnA Tryz.prog Tryz.f261 [0,2]=some oZ:=by kernel_rfl
end
end Go.Ev
