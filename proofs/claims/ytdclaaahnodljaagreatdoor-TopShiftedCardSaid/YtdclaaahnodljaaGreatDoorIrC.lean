import Derived.Test.YtdclaaahnodljaaGreatDoorIrA
import Derived.Test.YtdclaaahnodljaaGreatDoorEvC
import Derived.Test.YtdclaaahnodljaaGreatDoorProg
import Derived.KernelRfl
set_option linter.unusedSimpArgs false
set_option linter.unusedVariables false
namespace Go.Ev
open Go Go.Proofs
set_option maxRecDepth 100000
noncomputable section

abbrev fA.fr:=fr10
def fA.b7:IR:=(.reg [.s (.zi 2 aT5),.s (.load aS0),iSm 7,iSm 6,.s (.zn 1 aS2 aS1),.w .none none (.store 1 aS0 aS1)])
def fA.g6 (X7:IR):IR:=(iSr [.s (.zk 7 aT1),iSm 6,iCa 226 [aS1,aS0],iQm 7 0] (.seq (iSr [.s (.zi 2 aT5),.s (.load aS0),iSm 7,.s (.zn 1 aS1 aS0),.s (.load aS0),iQo 9 (.bin .neq .int aS0 aC0)] (.cond aT9 (.seq (.yh [] [(.s (.build [(I 0),(I 0),.zh] []),0,[]),(.s (.zi 2 aT5),1,[]),(.s (.load aS0),1,[]),(iSm 7,1,[]),(.s (.zn 1 aS1 aS0),1,[]),(.s (.load aS0),1,[]),(iSm 6,1,[]),(.s (.build [(I 0),(I 0)] [(0,1,aS1),(1,1,aS0)]),1,[]),(.w .none none (.store 3 aT2 aS7),0,[]),(.w .none none (.store 2 aT3 aS0),0,[]),(iQo 4 (.mv (.c (.bool false))),0,[])]) .ret) .skip)) X7))
def fA.b6:IR:=fA.g6 fA.b7
def fA.g5 (X6:IR):IR:=(.block 1 X6)
def fA.b5:IR:=fA.g5 fA.b6
def fA.b8:IR:=(.reg [iSm 6,.s (.bin .add .int aS0 aC1),iQm 6 0])
def fA.g4 (X5 X8:IR):IR:=(.seq X5 X8)
def fA.b4:IR:=fA.g4 fA.b5 fA.b8
def fA.g3 (X4:IR):IR:=(.seq (iSr [iSm 6,.s (.zi 0 aT1),.s (.load aS0),.s (.zi 0 aT1),.s (.load aS0),.s (.bin .mul .int aS2 aS0),iQo 8 (.bin .leq .int aS5 aS0)] (.cond aT8 .skip (.exit 0))) X4)
def fA.b3:IR:=fA.g3 fA.b4
def fA.g2 (X3:IR):IR:=(.loop X3)
def fA.b2:IR:=fA.g2 fA.b3
def fA.g1 (X2:IR):IR:=(.block 0 X2)
def fA.b1:IR:=fA.g1 fA.b2
def fA.b9:IR:=(iSr [.s (.zk 3 aT5),.s (.build [(I 0),(I 0)] []),.w .none none (.store 3 aT2 aS1),.w .none none (.store 2 aT3 aS0),iQo 4 (.mv (.c (.bool true)))] .ret)
def fA.g0 (X1 X9:IR):IR:=(iSr [iWl 1 (.box aT0),iWl 2 (.alloc [(I 0),(I 0),.zh]),iWl 3 (.alloc [(I 0),(I 0)]),iQo 4 (.mv (.c (.bool false)))] (iSr [.s (.zi 0 aT1),.s (.load aS0),iCa 225 [aS0],iWl 5 (.alloc [(I 0),(I 0),.zh]),.w .none none (.store 3 aT5 aS0)] (.seq (iSr [iQo 6 (.mv aC1)] X1) X9)))
def fA.b0:IR:=fA.g0 fA.b1 fA.b9
def fA.res:List RV:=[.cell (.of 2) (some 3),.cell (.of 3) (some 2),.t (.of 4)]
def fA:Fn:={ params:=[(.of 0)],res:=fA.res,body:=fA.b0,init:=in10 }
theorem fA.ok:fnA Tryz.prog Tryz.f176 [0,1,2,3,4,5,6,7,17,28]=some fA:=by kernel_rfl
abbrev F178.fr:=fr2
def F178.b1:IR:=(iSr [iSm 0,iCa 236 [aS0],iQm 1 0] .ret)
def F178.g0 (X1:IR):IR:=(iSr [iQo 1 (.mv aC0)] (.seq (.cond (.c (.bool false)) (iSr [iSm 0,.s (.conv .u32 aS0),iCa 235 [aS0],iQm 1 0] .ret) .skip) X1))
def F178.b0:IR:=F178.g0 F178.b1
def F178.res:List RV:=[.t (.of 1)]
def F178:Fn:={ params:=[(.of 0)],res:=F178.res,body:=F178.b0,init:=in2 }
theorem F178.ok:fnA Tryz.prog Tryz.f178 [0,2]=some F178:=by kernel_rfl
abbrev uw.fr:=fr8
def uw.b6:IR:=(iSr [iSm 5,iQm 3 0] (iSr [iSm 1,iSm 3,.w .push none (.call aS1 [aS0]),iSm 1,.w .push none (.call aS0 [aC0]),iQo 7 (.bin .neq .int aS2 aS0)] (.cond aT7 (iSr [iQo 2 (.mv (.c (.bool false)))] .ret) .skip)))
def uw.g5 (X6:IR):IR:=(.block 1 X6)
def uw.b5:IR:=uw.g5 uw.b6
def uw.b7:IR:=(.reg [.s (.bin .add .int aT5 aC1),iQm 5 0])
def uw.g4 (X5 X7:IR):IR:=(.seq X5 X7)
def uw.b4:IR:=uw.g4 uw.b5 uw.b7
def uw.g3 (X4:IR):IR:=(iSr [iQo 6 (.bin .lss .int aT5 aT4)] (.seq (.cond aT6 .skip (.exit 0)) X4))
def uw.b3:IR:=uw.g3 uw.b4
def uw.g2 (X3:IR):IR:=(.loop X3)
def uw.b2:IR:=uw.g2 uw.b3
def uw.g1 (X2:IR):IR:=(.block 0 X2)
def uw.b1:IR:=uw.g1 uw.b2
def uw.b8:IR:=(iSr [iQo 2 (.mv (.c (.bool true)))] .ret)
def uw.g0 (X1 X8:IR):IR:=(iSr [iQo 2 (.mv (.c (.bool false)))] (.seq (iSr [iQo 4 (.mv aT0),iQo 5 (.mv aC0)] X1) X8))
def uw.b0:IR:=uw.g0 uw.b1 uw.b8
def uw.res:List RV:=[.t (.of 2)]
def uw:Fn:={ params:=[(.of 0),(.of 1)],res:=uw.res,body:=uw.b0,init:=in8 }
theorem uw.ok:fnA Tryz.prog Tryz.f179 [0,1,4,5,6,7,8,15]=some uw:=by kernel_rfl
abbrev F180.fr:=fr3
def F180.b0:IR:=(iSr [iQo 2 (.mv aC0)] (.seq (.yh [] [(.s (.zi 1 aT1),0,[]),(.s (.load aS0),0,[]),(iSm 0,0,[]),(.s (.zn 1 aS1 aS0),0,[]),(.s (.load aS0),0,[]),(.s (.zi 1 aT1),0,[]),(.s (.load aS0),0,[]),(.s (.zi 1 aT1),0,[]),(.s (.load aS0),0,[]),(.s (.len aS0),0,[]),(.s (.bin .sub .int aS0 aC1),0,[]),(iSm 0,0,[]),(.s (.bin .sub .int aS1 aS0),0,[]),(.s (.zn 1 aS6 aS0),0,[]),(.s (.load aS0),0,[]),(.s (.bin .add .int aS10 aS0),0,[]),(iQm 2 0,0,[])]) .ret))
def F180.res:List RV:=[.t (.of 2)]
def F180:Fn:={ params:=[(.of 0),(.of 1)],res:=F180.res,body:=F180.b0,init:=in3 }
theorem F180.ok:fnA Tryz.prog Tryz.f180 [0,1,3]=some F180:=by kernel_rfl
abbrev F181.fr:=fr4
def F181.b0:IR:=(iSr [iQo 3 (.mv aC0)] (.seq (.yh [] [(.s (.zi 1 aT2),0,[]),(.s (.load aS0),0,[]),(iSm 0,0,[]),(.s (.zi 0 aT2),0,[]),(.s (.load aS0),0,[]),(.s (.bin .rem .int aS2 aS0),0,[]),(.s (.zi 0 aT2),0,[]),(.s (.load aS0),0,[]),(.s (.bin .mul .int aS2 aS0),0,[]),(iSm 1,0,[]),(.s (.zi 0 aT2),0,[]),(.s (.load aS0),0,[]),(.s (.bin .rem .int aS2 aS0),0,[]),(.s (.bin .add .int aS4 aS0),0,[]),(.s (.zn 1 aS12 aS0),0,[]),(.s (.load aS0),0,[]),(iQm 3 0,0,[])]) .ret))
def F181.res:List RV:=[.t (.of 3)]
def F181:Fn:={ params:=[(.of 0),(.of 1),(.of 2)],res:=F181.res,body:=F181.b0,init:=in4 }
theorem F181.ok:fnA Tryz.prog Tryz.f181 [0,1,2,5]=some F181:=by kernel_rfl
abbrev F182.fr:=fr6
def F182.b0:IR:=(iSr [iQo 3 (.mv aC0)] (.seq (.yh [] [(iSm 0,0,[]),(.s (.zi 0 aT1),0,[]),(.s (.load aS0),0,[]),(.s (.bin .quo .int aS2 aS0),0,[]),(iSm 0,0,[]),(.s (.zi 0 aT1),0,[]),(.s (.load aS0),0,[]),(.s (.bin .rem .int aS2 aS0),0,[]),(iQm 4 4,0,[]),(iQm 5 0,0,[])]) (.seq (.yh [] [(.s (.load aT2),0,[]),(iSm 4,0,[]),(iSm 5,0,[]),(.s (.load aT2),1,[]),(iSm 4,1,[]),(iSm 5,1,[]),(.s (.bin .add .int aS0 aC1),1,[]),(.s (.load aT2),2,[]),(iSm 4,2,[]),(.s (.bin .add .int aS0 aC1),2,[]),(iSm 5,2,[]),(.s (.load aT2),3,[]),(iSm 4,3,[]),(.s (.bin .add .int aS0 aC1),3,[]),(iSm 5,3,[]),(.s (.bin .add .int aS0 aC1),3,[]),(.w .push none (.call aS15 [aS14,aS13]),0,[]),(.w .push none (.call aS13 [aS12,aS10]),0,[]),(.s (.bin .add .int aS1 aS0),2,[]),(.w .push none (.call aS11 [aS9,aS8]),0,[]),(.s (.bin .add .int aS1 aS0),1,[]),(.w .push none (.call aS9 [aS7,aS5]),0,[]),(.s (.bin .add .int aS1 aS0),0,[]),(iQm 3 0,0,[])]) .ret)))
def F182.res:List RV:=[.t (.of 3)]
def F182:Fn:={ params:=[(.of 0),(.of 1),(.of 2)],res:=F182.res,body:=F182.b0,init:=in6 }
theorem F182.ok:fnA Tryz.prog Tryz.f182 [0,1,2,4,5,6]=some F182:=by kernel_rfl
abbrev F183.fr:=fr6
def F183.b0:IR:=(iSr [iQo 3 (.mv aC0)] (.seq (.yh [] [(iSm 0,0,[]),(.s (.zi 0 aT1),0,[]),(.s (.load aS0),0,[]),(.s (.bin .quo .int aS2 aS0),0,[]),(iSm 0,0,[]),(.s (.zi 0 aT1),0,[]),(.s (.load aS0),0,[]),(.s (.bin .rem .int aS2 aS0),0,[]),(iQm 4 4,0,[]),(iQm 5 0,0,[])]) (.seq (.yh [] [(.s (.load aT2),0,[]),(iSm 4,0,[]),(iSm 5,0,[]),(.s (.load aT2),1,[]),(iSm 4,1,[]),(.s (.zi 0 aT1),1,[]),(.s (.load aS0),1,[]),(.s (.bin .quo .int aS0 aC2),1,[]),(.s (.bin .add .int aS3 aS0),1,[]),(iSm 5,1,[]),(.s (.zi 0 aT1),1,[]),(.s (.load aS0),1,[]),(.s (.bin .quo .int aS0 aC2),1,[]),(.s (.bin .add .int aS3 aS0),1,[]),(.w .push none (.call aS13 [aS12,aS11]),0,[]),(.w .push none (.call aS11 [aS6,aS1]),0,[]),(.s (.bin .add .int aS1 aS0),0,[]),(iQm 3 0,0,[])]) .ret)))
def F183.res:List RV:=[.t (.of 3)]
def F183:Fn:={ params:=[(.of 0),(.of 1),(.of 2)],res:=F183.res,body:=F183.b0,init:=in6 }
theorem F183.ok:fnA Tryz.prog Tryz.f183 [0,1,2,4,5,6]=some F183:=by kernel_rfl
abbrev uy.fr:=fr6
def uy.b6:IR:=(.yh [] [(.s (.zi 1 aT3),0,[]),(.s (.load aS0),0,[]),(.s (.zi 1 aT1),0,[]),(.s (.load aS0),0,[]),(iSm 4,0,[]),(.s (.zi 0 aT1),0,[]),(.s (.load aS0),0,[]),(.s (.bin .mul .int aS2 aS0),0,[]),(.s (.bin .add .int aS0 aC1),0,[]),(iSm 4,0,[]),(.s (.zi 0 aT1),0,[]),(.s (.load aS0),0,[]),(.s (.bin .mul .int aS2 aS0),0,[]),(.s (.zi 0 aT1),0,[]),(.s (.load aS0),0,[]),(.s (.bin .add .int aS2 aS0),0,[]),(.s (.bin .sub .int aS0 aC1),0,[]),(iSm 4,0,[]),(.s (.zi 0 aT1),0,[]),(.s (.load aS0),0,[]),(.s (.bin .mul .int aS2 aS0),0,[]),(.s (.zi 0 aT1),0,[]),(.s (.load aS0),0,[]),(.s (.bin .add .int aS2 aS0),0,[]),(.s (.bin .sub .int aS0 aC1),0,[]),(.s (.slice 1 aS21 (some aS16) (some aS8) (some aS0)),0,[]),(.w .push none (.app 1 8 aS24 aS0),0,[]),(.s (.zi 1 aT3),0,[]),(.w .none none (.store 1 aS0 aS1),0,[])])
def uy.g5 (X6:IR):IR:=(.block 1 X6)
def uy.b5:IR:=uy.g5 uy.b6
def uy.b7:IR:=(.reg [iSm 4,.s (.bin .add .int aS0 aC1),iQm 4 0])
def uy.g4 (X5 X7:IR):IR:=(.seq X5 X7)
def uy.b4:IR:=uy.g4 uy.b5 uy.b7
def uy.g3 (X4:IR):IR:=(.seq (iSr [iSm 4,.s (.bin .add .int aS0 aC1),.s (.zi 0 aT1),.s (.load aS0),iQo 5 (.bin .lss .int aS2 aS0)] (.cond aT5 .skip (.exit 0))) X4)
def uy.b3:IR:=uy.g3 uy.b4
def uy.g2 (X3:IR):IR:=(.loop X3)
def uy.b2:IR:=uy.g2 uy.b3
def uy.g1 (X2:IR):IR:=(.block 0 X2)
def uy.b1:IR:=uy.g1 uy.b2
def uy.b8:IR:=(iSr [.s (.zk 2 aT3),.w .none none (.store 2 aT2 aS0)] .ret)
def uy.g0 (X1 X8:IR):IR:=(iSr [iWl 1 (.box aT0),iWl 2 (.alloc [(I 0),.zh])] (iSr [.s (.zi 0 aT1),.s (.load aS0),.s (.bin .sub .int aS0 aC2),.s (.build [(I 0),.zh] [(0,1,aS0)]),iWl 3 (.alloc [(I 0),.zh]),.w .none none (.store 2 aT3 aS0)] (.seq (iSr [iQo 4 (.mv aC1)] X1) X8)))
def uy.b0:IR:=uy.g0 uy.b1 uy.b8
def uy.res:List RV:=[.cell (.of 2) (some 2)]
def uy:Fn:={ params:=[(.of 0)],res:=uy.res,body:=uy.b0,init:=in6 }
theorem uy.ok:fnA Tryz.prog Tryz.f184 [0,1,2,3,4,13]=some uy:=by kernel_rfl
abbrev jd.fr:=fr8
def jd.b7:IR:=(iSr [iSm 1,iQo 7 (.bin .gtr .int aS0 aC1)] (.cond aT7 (.reg [.s (.zk 2 aT2),.s (.zk 2 aT2),iCa 151 [aS1,aS0],.w .none none (.store 2 aT2 aS0)]) .skip))
def jd.g6 (X7:IR):IR:=(.seq (iSr [iSm 1,.s (.bin .and .int aS0 aC1),iQo 6 (.bin .eql .int aS0 aC1)] (.cond aT6 (.reg [.s (.zk 2 aT4),.s (.zk 2 aT2),iCa 151 [aS1,aS0],.w .none none (.store 2 aT4 aS0)]) .skip)) X7)
def jd.b6:IR:=jd.g6 jd.b7
def jd.g5 (X6:IR):IR:=(.block 1 X6)
def jd.b5:IR:=jd.g5 jd.b6
def jd.b8:IR:=(.reg [iSm 1,.s (.bin .shr .int aS0 (.c (.int .u64 1))),iQm 1 0])
def jd.g4 (X5 X8:IR):IR:=(.seq X5 X8)
def jd.b4:IR:=jd.g4 jd.b5 jd.b8
def jd.g3 (X4:IR):IR:=(.seq (iSr [iSm 1,iQo 5 (.bin .gtr .int aS0 aC0)] (.cond aT5 .skip (.exit 0))) X4)
def jd.b3:IR:=jd.g3 jd.b4
def jd.g2 (X3:IR):IR:=(.loop X3)
def jd.b2:IR:=jd.g2 jd.b3
def jd.g1 (X2:IR):IR:=(.block 0 X2)
def jd.b1:IR:=jd.g1 jd.b2
def jd.b9:IR:=(iSr [.s (.zk 2 aT4),.w .none none (.store 2 aT3 aS0)] .ret)
def jd.g0 (X1 X9:IR):IR:=(iSr [iWl 2 (.box aT0),iWl 3 (.alloc [(I 0),.zh])] (iSr [iCa 85 [aC1],iWl 4 (.alloc [(I 0),.zh]),.w .none none (.store 2 aT4 aS0)] (.seq X1 X9)))
def jd.b0:IR:=jd.g0 jd.b1 jd.b9
def jd.res:List RV:=[.cell (.of 3) (some 2)]
def jd:Fn:={ params:=[(.of 0),(.of 1)],res:=jd.res,body:=jd.b0,init:=in8 }
theorem jd.ok:fnA Tryz.prog Tryz.f185 [0,1,2,4,5,8,13,18]=some jd:=by kernel_rfl
abbrev sK.fr:=fr8
def sK.b2:IR:=(iSr [.s (.zi 0 aT2),.s (.load aS0),.s (.zi 0 aT3),.s (.load aS0),.s (.bin .lss .int aS2 aS0),iQm 6 0] (.cond aT6 (iSr [iQo 4 (.mv (.c (I (-1))))] .ret) (iSr [.s (.zi 0 aT2),.s (.load aS0),.s (.zi 0 aT3),.s (.load aS0),.s (.bin .gtr .int aS2 aS0),iQm 7 0] (.cond aT7 (iSr [iQo 4 (.mv aC1)] .ret) .skip))))
def sK.g1 (X2:IR):IR:=(.block 0 X2)
def sK.b1:IR:=sK.g1 sK.b2
def sK.b3:IR:=(iSr [iQo 4 (.mv aC0)] .ret)
def sK.b4:IR:=(iSr [.s (.zk 2 aT2),.s (.zk 2 aT3),iCa 208 [aS1,aS0],iCa 152 [aS0],iQm 4 0] .ret)
def sK.g0 (X1 X3 X4:IR):IR:=(iSr [iWl 2 (.box aT0),iWl 3 (.box aT1),iQo 4 (.mv aC0)] (.seq (iSr [.s (.zi 1 aT2),.s (.load aS0),.s (.bin .eql (.nil .sl) aS0 (.c .zh)),.s (.mv aS0),iPt 0 (.zi 1 aT3),iPt 1 (.load aS0),iPt 2 (.bin .eql (.nil .sl) aS0 (.c .zh)),iQo 5 (.pick aS3 aS0 (.c (.bool false)))] (.cond aT5 (.seq X1 X3) .skip)) X4))
def sK.b0:IR:=sK.g0 sK.b1 sK.b3 sK.b4
def sK.res:List RV:=[.t (.of 4)]
def sK:Fn:={ params:=[(.of 0),(.of 1)],res:=sK.res,body:=sK.b0,init:=in8 }
theorem sK.ok:fnA Tryz.prog Tryz.f186 [0,1,2,3,4,12,13,19]=some sK:=by kernel_rfl
abbrev jg.fr:=fr10
def jg.b8:IR:=(.reg [iSm 2,iSm 3,.s (.zn 1 aS1 aS0),.w .none none (.store 1 aS0 (.c (.bool true)))])
def jg.g7 (X8:IR):IR:=(iSr [.s (.zn 1 aT5 aT7),.s (.load aS0),iQm 3 0] (.seq (iSr [iSm 3,.s (.bin .lss .int aS0 aC0),.s (.mv aS0),iPf 0 (.mv aT3),iPf 1 (.mv aT0),iPf 2 (.len aS0),iPf 3 (.bin .geq .int aS2 aS0),.s (.pick aS4 (.c (.bool true)) aS0),.s (.mv aS0),iPf 0 (.mv aT2),iPf 1 (.mv aT3),iPf 2 (.zn 1 aS1 aS0),iPf 3 (.load aS0),iQo 9 (.pick aS4 (.c (.bool true)) aS0)] (.cond aT9 (iSr [iQo 1 (.mv aC14)] .ret) .skip)) X8))
def jg.b7:IR:=jg.g7 jg.b8
def jg.g6 (X7:IR):IR:=(.block 1 X7)
def jg.b6:IR:=jg.g6 jg.b7
def jg.b9:IR:=(.reg [.s (.bin .add .int aT7 aC1),iQm 7 0])
def jg.g5 (X6 X9:IR):IR:=(.seq X6 X9)
def jg.b5:IR:=jg.g5 jg.b6 jg.b9
def jg.g4 (X5:IR):IR:=(iSr [iQo 8 (.bin .lss .int aT7 aT6)] (.seq (.cond aT8 .skip (.exit 0)) X5))
def jg.b4:IR:=jg.g4 jg.b5
def jg.g3 (X4:IR):IR:=(.loop X4)
def jg.b3:IR:=jg.g3 jg.b4
def jg.g2 (X3:IR):IR:=(.block 0 X3)
def jg.b2:IR:=jg.g2 jg.b3
def jg.b10:IR:=(iSr [iQo 1 (.mv aC0)] .ret)
def jg.g1 (X2 X10:IR):IR:=(iSr [iSm 0,.s (.len aS0),.w .push none (.vk 1 1 [(.bool false)] aS0 aS0),iQm 2 0] (.seq (iSr [iQo 5 (.mv aT0),iQo 6 (.len aT5),iQo 7 (.mv aC0)] X2) X10))
def jg.b1:IR:=jg.g1 jg.b2 jg.b10
def jg.g0 (X1:IR):IR:=(iSr [iQo 1 (.mv aC0)] (.seq (iSr [iSm 0,.s (.len aS0),iQo 4 (.bin .gtr .int aS0 zfx)] (.cond aT4 (iSr [iQo 1 (.mv aC5)] .ret) .skip)) X1))
def jg.b0:IR:=jg.g0 jg.b1
def jg.res:List RV:=[.t (.of 1)]
def jg:Fn:={ params:=[(.of 0)],res:=jg.res,body:=jg.b0,init:=in10 }
theorem jg.ok:fnA Tryz.prog Tryz.f187 [0,2,3,5,8,12,13,14,15,31]=some jg:=by kernel_rfl
abbrev F188.fr:=fr3
def F188.b0:IR:=(iSr [iSm 0,.s (.len aS0),iQm 2 0] (.reg [iSm 0,iSm 2,iSm 2,.s (.conv .u64 aS0),iCa 178 [aS0],iSm 1,iCa 237 [aS5,aC0,aS4,aS1,aS0]]))
def F188.res:List RV:=[]
def F188:Fn:={ params:=[(.of 0),(.of 1)],res:=F188.res,body:=F188.b0,init:=in3 }
theorem F188.ok:fnA Tryz.prog Tryz.f188 [0,1,4]=some F188:=by kernel_rfl
abbrev gu.fr:=fr11
def gu.b13:IR:=(.seq (.yh [] [(iSm 1,0,[]),(iSm 4,0,[]),(iSm 5,0,[]),(.s (.zn 1 aS1 aS0),0,[]),(.s (.load aS0),0,[]),(iSm 4,0,[]),(iSm 5,0,[]),(.s (.bin .sub .int aS0 aC1),0,[]),(.s (.zn 1 aS2 aS0),0,[]),(.s (.load aS0),0,[]),(.w .push none (.call aS9 [aS5,aS0]),0,[]),(iQo 10 (.not aS0),0,[])]) (.cond rX (iSr [iSm 0,iSm 3,iSm 4,iSm 5,.s (.zn 1 aS1 aS0),.s (.load aS0),.s (.zn 1 aS5 aS4),.w .none none (.store 1 aS0 aS1)] (.reg [iSm 3,.s (.bin .add .int aS0 aC1),iQm 3 0])) .skip))
def gu.g12 (X13:IR):IR:=(.block 3 X13)
def gu.b12:IR:=gu.g12 gu.b13
def gu.b14:IR:=(.reg [iSm 5,.s (.bin .add .int aS0 aC1),iQm 5 0])
def gu.g11 (X12 X14:IR):IR:=(.seq X12 X14)
def gu.b11:IR:=gu.g11 gu.b12 gu.b14
def gu.g10 (X11:IR):IR:=(.seq (iSr [iSm 5,iSm 4,.s (.len aS0),iQo 9 (.bin .lss .int aS2 aS0)] (.cond aT9 .skip (.exit 2))) X11)
def gu.b10:IR:=gu.g10 gu.b11
def gu.g9 (X10:IR):IR:=(.loop X10)
def gu.b9:IR:=gu.g9 gu.b10
def gu.g8 (X9:IR):IR:=(.block 2 X9)
def gu.b8:IR:=gu.g8 gu.b9
def gu.b15:IR:=(iSr [iSm 0,iSm 3,.s (.slice 1 aS1 (some aS0) none none),.w .none none (.clr 1 [.zh] aS0)] (iSr [iSm 0,iSm 3,.s (.slice 1 aS1 none (some aS0) none),iQm 2 0] .ret))
def gu.g7 (X8 X15:IR):IR:=(.seq (.yh [] [(iSm 1,0,[]),(iSm 0,0,[]),(iSm 3,0,[]),(.s (.zn 1 aS1 aS0),0,[]),(.s (.load aS0),0,[]),(iSm 0,0,[]),(iSm 3,0,[]),(.s (.bin .sub .int aS0 aC1),0,[]),(.s (.zn 1 aS2 aS0),0,[]),(.s (.load aS0),0,[]),(iWl 8 (.call aS9 [aS5,aS0]),0,[])]) (.cond aT8 (iSr [iSm 0,iSm 3,.s (.slice 1 aS1 (some aS0) none none),iQm 4 0] (.seq (iSr [iQo 5 (.mv aC1)] X8) X15)) .skip))
def gu.b7:IR:=gu.g7 gu.b8 gu.b15
def gu.g6 (X7:IR):IR:=(.block 1 X7)
def gu.b6:IR:=gu.g6 gu.b7
def gu.b16:IR:=(.reg [iSm 3,.s (.bin .add .int aS0 aC1),iQm 3 0])
def gu.g5 (X6 X16:IR):IR:=(.seq X6 X16)
def gu.b5:IR:=gu.g5 gu.b6 gu.b16
def gu.g4 (X5:IR):IR:=(.seq (iSr [iSm 3,iSm 0,.s (.len aS0),iQo 7 (.bin .lss .int aS2 aS0)] (.cond aT7 .skip (.exit 0))) X5)
def gu.b4:IR:=gu.g4 gu.b5
def gu.g3 (X4:IR):IR:=(.loop X4)
def gu.b3:IR:=gu.g3 gu.b4
def gu.g2 (X3:IR):IR:=(.block 0 X3)
def gu.b2:IR:=gu.g2 gu.b3
def gu.b17:IR:=(iSr [iSm 0,iQm 2 0] .ret)
def gu.g1 (X2 X17:IR):IR:=(.seq (iSr [iQo 3 (.mv aC1)] X2) X17)
def gu.b1:IR:=gu.g1 gu.b2 gu.b17
def gu.g0 (X1:IR):IR:=(iSr [iQo 2 (.mv (.c .zh))] (.seq (iSr [iSm 0,.s (.len aS0),iQo 6 (.bin .lss .int aS0 aC2)] (.cond aT6 (iSr [iSm 0,iQm 2 0] .ret) .skip)) X1))
def gu.b0:IR:=gu.g0 gu.b1
def gu.res:List RV:=[.t (.of 2)]
def gu:Fn:={ params:=[(.of 0),(.of 1)],res:=gu.res,body:=gu.b0,init:=in11 }
theorem gu.ok:fnA Tryz.prog Tryz.f189 [0,1,4,5,6,7,10,15,28,35,49]=some gu:=by kernel_rfl
abbrev jr.fr:=fr9
def jr.b7:IR:=(iSr [iSm 6,iQm 3 0] (.seq (.yh [] [(iSm 0,0,[]),(iSm 3,0,[]),(.s (.zn 1 aS1 aS0),0,[]),(.s (.load aS0),0,[]),(iSm 1,0,[]),(iSm 3,0,[]),(.s (.zn 1 aS1 aS0),0,[]),(.s (.load aS0),0,[]),(iQo 8 (.bin .neq .int aS4 aS0),0,[])]) (.cond aT8 (iSr [iQo 2 (.mv (.c (.bool false)))] .ret) .skip)))
def jr.g6 (X7:IR):IR:=(.block 1 X7)
def jr.b6:IR:=jr.g6 jr.b7
def jr.b8:IR:=(.reg [.s (.bin .add .int aT6 aC1),iQm 6 0])
def jr.g5 (X6 X8:IR):IR:=(.seq X6 X8)
def jr.b5:IR:=jr.g5 jr.b6 jr.b8
def jr.g4 (X5:IR):IR:=(iSr [iQo 7 (.bin .lss .int aT6 aT5)] (.seq (.cond aT7 .skip (.exit 0)) X5))
def jr.b4:IR:=jr.g4 jr.b5
def jr.g3 (X4:IR):IR:=(.loop X4)
def jr.b3:IR:=jr.g3 jr.b4
def jr.g2 (X3:IR):IR:=(.block 0 X3)
def jr.b2:IR:=jr.g2 jr.b3
def jr.b9:IR:=(iSr [iQo 2 (.mv (.c (.bool true)))] .ret)
def jr.g1 (X2 X9:IR):IR:=(.seq (iSr [iSm 0,iQo 5 (.len aS0),iQo 6 (.mv aC0)] X2) X9)
def jr.b1:IR:=jr.g1 jr.b2 jr.b9
def jr.g0 (X1:IR):IR:=(iSr [iQo 2 (.mv (.c (.bool false)))] (.seq (iSr [iSm 0,.s (.len aS0),iSm 1,.s (.len aS0),iQo 4 (.bin .neq .int aS2 aS0)] (.cond aT4 (iSr [iQo 2 (.mv (.c (.bool false)))] .ret) .skip)) X1))
def jr.b0:IR:=jr.g0 jr.b1
def jr.res:List RV:=[.t (.of 2)]
def jr:Fn:={ params:=[(.of 0),(.of 1)],res:=jr.res,body:=jr.b0,init:=in9 }
theorem jr.ok:fnA Tryz.prog Tryz.f190 [0,1,4,5,10,12,13,14,24]=some jr:=by kernel_rfl
abbrev aZ.fr:=fr5
def aZ.b2:IR:=(iSr [iSm 0,iQm 2 0] .ret)
def aZ.g1 (X2:IR):IR:=(.seq (iSr [iSm 1,iSm 0,.s (.capz aS0),iSm 0,.s (.len aS0),.s (.bin .sub .int aS2 aS0),.s (.bin .sub .int aS5 aS0),iQm 1 0] (iSr [iSm 1,iQo 4 (.bin .gtr .int aS0 aC0)] (.cond aT4 (.reg [iSm 0,iSm 0,.s (.capz aS0),.s (.slice 1 aS2 none (some aS0) none),iSm 1,.w .push none (.appm 1 24 [.zh] aS1 aS0),iSm 0,.s (.len aS0),.s (.slice 1 aS2 none (some aS0) none),iQm 0 0]) .skip))) X2)
def aZ.b1:IR:=aZ.g1 aZ.b2
def aZ.g0 (X1:IR):IR:=(iSr [iQo 2 (.mv (.c .zh))] (.seq (iSr [iSm 1,iQo 3 (.bin .lss .int aS0 aC0)] (.cond aT3 (.bad 2) .skip)) X1))
def aZ.b0:IR:=aZ.g0 aZ.b1
def aZ.res:List RV:=[.t (.of 2)]
def aZ:Fn:={ params:=[(.of 0),(.of 1)],res:=aZ.res,body:=aZ.b0,init:=in5 }
theorem aZ.ok:fnA Tryz.prog Tryz.f191 [0,1,4,6,16]=some aZ:=by kernel_rfl
abbrev F192.fr:=fr4
def F192.b0:IR:=(iSr [iQo 3 (.mv aC0)] (iSr [.s (.load aT1),.s (.load aT2),.s (.bin .mul .int aS1 aS0),iSm 0,.s (.bin .add .int aS1 aS0),iQm 3 0] .ret))
def F192.res:List RV:=[.t (.of 3)]
def F192:Fn:={ params:=[(.of 0),(.of 1),(.of 2)],res:=F192.res,body:=F192.b0,init:=in4 }
theorem F192.ok:fnA Tryz.prog Tryz.f192 [0,1,2,4]=some F192:=by kernel_rfl
abbrev F193.fr:=fr4
def F193.b0:IR:=(iSr [iQo 3 (.mv aC0)] (iSr [.s (.load aT1),iSm 0,.s (.bin .mul .int aS1 aS0),.s (.load aT2),.s (.bin .add .int aS1 aS0),iQm 3 0] .ret))
def F193.res:List RV:=[.t (.of 3)]
def F193:Fn:={ params:=[(.of 0),(.of 1),(.of 2)],res:=F193.res,body:=F193.b0,init:=in4 }
theorem F193.ok:fnA Tryz.prog Tryz.f193 [0,1,2,4]=some F193:=by kernel_rfl
abbrev rD.fr:=fr8
def rD.b6:IR:=(iSr [iSm 5,iWl 3 (.alloc [(I 0)]),.w .none none (.store 1 aT3 aS0)] (.seq (.yh [] [(iSm 0,1,[]),(.s (.load aT3),1,[]),(.s (.load aT1),0,[]),(.s (.fn 195 (.of 195) [aT1,aT3,aT2]),0,[]),(iCa 51 [aS1,aS0],0,[]),(.w .push none (.call aS4 [aS3,aS0]),0,[]),(iQo 7 (.not aS0),0,[])]) (.cond aT7 .ret .skip)))
def rD.g5 (X6:IR):IR:=(.block 1 X6)
def rD.b5:IR:=rD.g5 rD.b6
def rD.b7:IR:=(.reg [.s (.bin .add .int aT5 aC1),iQm 5 0])
def rD.g4 (X5 X7:IR):IR:=(.seq X5 X7)
def rD.b4:IR:=rD.g4 rD.b5 rD.b7
def rD.g3 (X4:IR):IR:=(iSr [iQo 6 (.bin .lss .int aT5 aT4)] (.seq (.cond aT6 .skip (.exit 0)) X4))
def rD.b3:IR:=rD.g3 rD.b4
def rD.g2 (X3:IR):IR:=(.loop X3)
def rD.b2:IR:=rD.g2 rD.b3
def rD.g1 (X2:IR):IR:=(.block 0 X2)
def rD.b1:IR:=rD.g1 rD.b2
def rD.g0 (X1:IR):IR:=(iSr [iQo 4 (.load aT1),iQo 5 (.mv aC0)] X1)
def rD.b0:IR:=rD.g0 rD.b1
def rD.res:List RV:=[]
def rD:Fn:={ params:=[(.of 0),(.of 1),(.of 2)],res:=rD.res,body:=rD.b0,init:=in8 }
theorem rD.ok:fnA Tryz.prog Tryz.f194 [0,1,2,4,5,6,7,15]=some rD:=by kernel_rfl
abbrev F195.fr:=fr5
def F195.b0:IR:=(iSr [iQo 4 (.mv aC0)] (.seq (.yh [] [(.s (.load aT1),0,[]),(iSm 0,0,[]),(.s (.bin .mul .int aS1 aS0),0,[]),(.s (.load aT2),0,[]),(.s (.load aT3),0,[]),(iSm 0,0,[]),(.s (.bin .mul .int aS1 aS0),0,[]),(.s (.bin .add .int aS3 aS0),0,[]),(.s (.load aT1),0,[]),(.s (.bin .rem .int aS1 aS0),0,[]),(.s (.load aT1),0,[]),(.s (.bin .add .int aS1 aS0),0,[]),(.s (.load aT1),0,[]),(.s (.bin .rem .int aS1 aS0),0,[]),(.s (.bin .add .int aS11 aS0),0,[]),(iQm 4 0,0,[])]) .ret))
def F195.res:List RV:=[.t (.of 4)]
def F195:Fn:={ params:=[(.of 0),(.of 1),(.of 2),(.of 3)],res:=F195.res,body:=F195.b0,init:=in5 }
theorem F195.ok:fnA Tryz.prog Tryz.f195 [0,1,2,3,5]=some F195:=by kernel_rfl
abbrev oQ.fr:=fr3
def oQ.b0:IR:=(iSr [iQo 2 (.mv (.c (.bool false)))] (iSr [iSm 0,iSm 1,iCa 238 [aS1,aS0],.s (.bin .geq .int aS0 aC0),iQm 2 0] .ret))
def oQ.res:List RV:=[.t (.of 2)]
def oQ:Fn:={ params:=[(.of 0),(.of 1)],res:=oQ.res,body:=oQ.b0,init:=in3 }
theorem oQ.ok:fnA Tryz.prog Tryz.f196 [0,1,4]=some oQ:=by kernel_rfl
abbrev oP.fr:=fr3
def oP.b0:IR:=(iSr [iQo 2 (.mv (.c (.bool false)))] (iSr [iSm 0,.s (.load aT1),iCa 190 [aS1,aS0],iQm 2 0] .ret))
def oP.res:List RV:=[.t (.of 2)]
def oP:Fn:={ params:=[(.of 0),(.of 1)],res:=oP.res,body:=oP.b0,init:=in3 }
theorem oP.ok:fnA Tryz.prog Tryz.f197 [0,1,3]=some oP:=by kernel_rfl
abbrev dh.fr:=fr23
def dh.b10:IR:=(iSr [iSm 0,iSm 1,iSm 2,iSm 7,iCa 247 [aS3,aS2,aS1,aS0],.s (.mv aS0),.s (.ext 0 aS0),.s (.ext 1 aS1),iQm 10 1,iQm 11 0] (iSr [iSm 11,iQm 5 0] (iSr [iSm 10,iSm 1,.s (.bin .sub .int aS1 aS0),iSm 2,iSm 10,.s (.bin .sub .int aS1 aS0),iQm 12 3,iQm 13 0] (iSr [iSm 6,.s (.bin .quo .int aS0 aC8),iQm 14 0] (iSr [iSm 12,iSm 13,iQo 22 (.bin .lss .int aS1 aS0)] (.cond aT22 (iSr [iSm 12,iSm 14,.s (.bin .geq .int aS1 aS0),iQm 4 0] (iSr [iSm 0,iSm 1,iSm 10,iSm 3,iCa 198 [aS3,aS2,aS1,aS0]] (.reg [iSm 10,.s (.bin .add .int aS0 aC1),iQm 1 0]))) (iSr [iSm 13,iSm 14,.s (.bin .geq .int aS1 aS0),iQm 4 0] (iSr [iSm 0,iSm 10,.s (.bin .add .int aS0 aC1),iSm 2,iSm 3,iCa 198 [aS4,aS2,aS1,aS0]] (.reg [iSm 10,iQm 2 0])))))))))
def dh.g9 (X10:IR):IR:=(.seq (.seq (.yh [] [(iSm 1,0,[]),(.s (.bin .gtr .int aS0 aC0),0,[]),(.s (.mv aS0),0,[]),(iPt 0 (.mv aT0),0,[]),(iPt 1 (.mv aT1),0,[]),(iPt 2 (.bin .sub .int aS0 aC1),0,[]),(iPt 3 (.zn 1 aS2 aS0),0,[]),(iPt 4 (.load aS0),0,[]),(iPt 5 (.mv aT0),0,[]),(iPt 6 (.mv aT7),0,[]),(iPt 7 (.zn 1 aS1 aS0),0,[]),(iPt 8 (.load aS0),0,[]),(.w .push (some (aS9,true)) (.call (.c (.fn 245 (.of 245) [])) [aS4,aS0]),0,[]),(iPt 10 (.not aS0),0,[]),(iQo 21 (.pick aS11 aS0 (.c (.bool false))),0,[])]) (.cond aT21 (iSr [iSm 0,iSm 1,iSm 2,iSm 7,iCa 246 [aS3,aS2,aS1,aS0],iQm 9 0] (iSr [iSm 9,iQm 1 0] (.exit 1))) .skip)) X10)
def dh.b9:IR:=dh.g9 dh.b10
def dh.g8 (X9:IR):IR:=(.seq (iSr [iSm 4,.s (.mv aS0),iPt 0 (.mv aT5),.s (.pick aS1 aS0 (.c (.bool false))),.s (.mv aS0),iPt 0 (.mv aT8),iPt 1 (.bin .eql .int aS0 aC1),iQo 19 (.pick aS2 aS0 (.c (.bool false)))] (.cond aT19 (iSr [iSm 0,iSm 1,iSm 2,iWl 20 (.call (.c (.fn 244 (.of 244) [])) [aS2,aS1,aS0])] (.cond aT20 .ret .skip)) .skip)) X9)
def dh.b8:IR:=dh.g8 dh.b9
def dh.g7 (X8:IR):IR:=(iSr [iSm 0,iSm 1,iSm 2,iCa 242 [aS2,aS1,aS0],.s (.mv aS0),.s (.ext 0 aS0),.s (.ext 1 aS1),iQm 7 1,iQm 8 0] (.seq (iSr [iSm 8,iQo 18 (.bin .eql .int aS0 aC2)] (.cond aT18 (iSr [iSm 0,iSm 1,iSm 2,iCa 243 [aS2,aS1,aS0]] (iSr [iSm 2,.s (.bin .sub .int aS0 aC1),iSm 7,iSm 1,.s (.bin .sub .int aS1 aS0),.s (.bin .sub .int aS3 aS0),iQm 7 0] (.reg [iQo 8 (.mv aC1)]))) .skip)) X8))
def dh.b7:IR:=dh.g7 dh.b8
def dh.g6 (X7:IR):IR:=(.seq (iSr [iSm 4,iQo 17 (.not aS0)] (.cond aT17 (iSr [iSm 0,iSm 1,iSm 2,iCa 241 [aS2,aS1,aS0]] (.reg [iSm 3,.s (.bin .sub .int aS0 aC1),iQm 3 0])) .skip)) X7)
def dh.b6:IR:=dh.g6 dh.b7
def dh.g5 (X6:IR):IR:=(.seq (iSr [iSm 3,iQo 16 (.bin .eql .int aS0 aC0)] (.cond aT16 (iSr [iSm 0,iSm 1,iSm 2,iCa 240 [aS2,aS1,aS0]] .ret) .skip)) X6)
def dh.b5:IR:=dh.g5 dh.b6
def dh.g4 (X5:IR):IR:=(iSr [iSm 2,iSm 1,.s (.bin .sub .int aS1 aS0),iQm 6 0] (.seq (iSr [iSm 6,iQo 15 (.bin .leq .int aS0 aC12)] (.cond aT15 (iSr [iSm 0,iSm 1,iSm 2,iCa 239 [aS2,aS1,aS0]] .ret) .skip)) X5))
def dh.b4:IR:=dh.g4 dh.b5
def dh.g3 (X4:IR):IR:=(.block 1 X4)
def dh.b3:IR:=dh.g3 dh.b4
def dh.g2 (X3:IR):IR:=(.loop X3)
def dh.b2:IR:=dh.g2 dh.b3
def dh.g1 (X2:IR):IR:=(.block 0 X2)
def dh.b1:IR:=dh.g1 dh.b2
def dh.g0 (X1:IR):IR:=(iSr [iQo 4 (.mv (.c (.bool true)))] (iSr [iQo 5 (.mv (.c (.bool true)))] X1))
def dh.b0:IR:=dh.g0 dh.b1
def dh.res:List RV:=[]
def dh:Fn:={ params:=[(.of 0),(.of 1),(.of 2),(.of 3)],res:=dh.res,body:=dh.b0,init:=in23 }
theorem dh.ok:fnA Tryz.prog Tryz.f198 [0,1,2,3,8,9,10,11,12,13,14,15,16,17,18,23,29,35,50,68,72,87,113]=some dh:=by kernel_rfl
abbrev ug.fr:=fr10
def ug.b6:IR:=(iSr [.s (.zn 2 aT5 aT7),.s (.zk 2 aS0),iWl 3 (.alloc [.zh,(.bool false)]),.w .none none (.store 2 aT3 aS0)] (iSr [.s (.zk 2 aT3),iSm 1,iCa 64 [aS1,aS0],iQm 4 0] (iSr [iSm 4,iQo 9 (.bin .neq .int aS0 aC0)] (.cond aT9 (iSr [iSm 4,iQm 2 0] .ret) .skip))))
def ug.g5 (X6:IR):IR:=(.block 1 X6)
def ug.b5:IR:=ug.g5 ug.b6
def ug.b7:IR:=(.reg [.s (.bin .add .int aT7 aC1),iQm 7 0])
def ug.g4 (X5 X7:IR):IR:=(.seq X5 X7)
def ug.b4:IR:=ug.g4 ug.b5 ug.b7
def ug.g3 (X4:IR):IR:=(iSr [iQo 8 (.bin .lss .int aT7 aT6)] (.seq (.cond aT8 .skip (.exit 0)) X4))
def ug.b3:IR:=ug.g3 ug.b4
def ug.g2 (X3:IR):IR:=(.loop X3)
def ug.b2:IR:=ug.g2 ug.b3
def ug.g1 (X2:IR):IR:=(.block 0 X2)
def ug.b1:IR:=ug.g1 ug.b2
def ug.b8:IR:=(iSr [iQo 2 (.mv aC0)] .ret)
def ug.g0 (X1 X8:IR):IR:=(iSr [iQo 2 (.mv aC0)] (.seq (iSr [iQo 5 (.mv aT0),iQo 6 (.len aT5),iQo 7 (.mv aC0)] X1) X8))
def ug.b0:IR:=ug.g0 ug.b1 ug.b8
def ug.res:List RV:=[.t (.of 2)]
def ug:Fn:={ params:=[(.of 0),(.of 1)],res:=ug.res,body:=ug.b0,init:=in10 }
theorem ug.ok:fnA Tryz.prog Tryz.f199 [0,1,4,6,7,8,9,10,11,18]=some ug:=by kernel_rfl
abbrev zo.fr:=fr25
def zo.b3:IR:=(.reg [iWl 10 (.alloc [.zh,(.bool false)]),.w .none none (.store 2 rX aT16)])
def zo.b20:IR:=(.seq (.yh [] [(.s (.load aT8),1,[]),(.s (.zk 2 aP),0,[]),(.s (.zk 2 aP),1,[]),(iCa 112 [aS1],0,[]),(.w .none none (.oO .str aS3 aS0 aS1),0,[])]) (.reg [iSm 11,.s (.zk 2 aP),.w .push none (.yc 2 1 [.zh,(.bool false)] [(0,2,aS0)]),.w .push none (.appq 2 32 aS2 aS0),iQm 11 0]))
def zo.g19 (X20:IR):IR:=(.seq (iSr [.s (.load aT8),.s (.mlen aS0),.s (.load aT3),iQo 24 (.bin .eql .int aS1 aS0)] (.cond aT24 (iSr [.w .none none (.store 1 aT4 (.c .qj)),.w .none none (.store 1 aT5 (.c .zh)),.w .none none (.store 1 aT6 (.c (.bool false)))] .ret) .skip)) X20)
def zo.b19:IR:=zo.g19 zo.b20
def zo.g18 (X19:IR):IR:=(iSr [.s (.zn 2 aT19 aT21),.s (.zk 2 aS0),iWl 12 (.alloc [.zh,(.bool false)]),.w .none none (.store 2 aO aS0)] (.seq (.yh [(.alloc [.zh,(.bool false)])] [(.s (.zk 2 aO),2,[]),(iSm 11,2,[]),(.s (.zn 2 aS0 aC0),2,[]),(.s (.zk 2 aS0),2,[]),(iCa 250 [aS3,aS0],0,[]),(iWl 13 (.alloc [.zh,(.bool false)]),0,[]),(.w .none none (.store 2 aP aS0),0,[])]) (.seq (iSr [.s (.load aT8),.s (.zk 2 aP),iWl 23 (.call (.c (.fn 249 (.of 249) [])) [aS1,aS0])] (.cond aT23 (.exit 5) .skip)) X19)))
def zo.b18:IR:=zo.g18 zo.b19
def zo.g17 (X18:IR):IR:=(.block 5 X18)
def zo.b17:IR:=zo.g17 zo.b18
def zo.b21:IR:=(.reg [.s (.bin .add .int aT21 aC1),iQm 21 0])
def zo.g16 (X17 X21:IR):IR:=(.seq X17 X21)
def zo.b16:IR:=zo.g16 zo.b17 zo.b21
def zo.g15 (X16:IR):IR:=(iSr [iQo 22 (.bin .lss .int aT21 aT20)] (.seq (.cond aT22 .skip (.exit 4)) X16))
def zo.b15:IR:=zo.g15 zo.b16
def zo.g14 (X15:IR):IR:=(.loop X15)
def zo.b14:IR:=zo.g14 zo.b15
def zo.g13 (X14:IR):IR:=(.block 4 X14)
def zo.b13:IR:=zo.g13 zo.b14
def zo.g12 (X13:IR):IR:=(iSr [iQo 19 (.load aT9),iQo 20 (.len aT19),iQo 21 (.mv aC0)] X13)
def zo.b12:IR:=zo.g12 zo.b13
def zo.g11 (X12:IR):IR:=(.block 3 X12)
def zo.b11:IR:=zo.g11 zo.b12
def zo.b22:IR:=(.reg [iSm 11,.s (.slice 2 aS0 (some aC1) none none),iQm 11 0])
def zo.g10 (X11 X22:IR):IR:=(.seq X11 X22)
def zo.b10:IR:=zo.g10 zo.b11 zo.b22
def zo.g9 (X10:IR):IR:=(.seq (iSr [iSm 11,.s (.len aS0),iQo 18 (.bin .gtr .int aS0 aC0)] (.cond aT18 .skip (.exit 2))) X10)
def zo.b9:IR:=zo.g9 zo.b10
def zo.g8 (X9:IR):IR:=(.loop X9)
def zo.b8:IR:=zo.g8 zo.b9
def zo.g7 (X8:IR):IR:=(.block 2 X8)
def zo.b7:IR:=zo.g7 zo.b8
def zo.g6 (X7:IR):IR:=(iSr [.s (.load aT9),.s (.zk 2 rX),.w .push none (.yc 2 1 [.zh,(.bool false)] [(0,2,aS0)]),.w .push none (.appq 2 32 aS2 aS0),.w .none none (.store 1 aT9 aS0)] (.seq (.yh [.rF] [(.s (.zk 2 aT7),2,[]),(.s (.zk 2 aT7),2,[]),(iCa 112 [aS1],0,[]),(.w .push none .rF,0,[]),(.w .none none (.oO .str aS0 aS1 aS2),0,[]),(.s (.mv aS0),0,[]),(.w .none none (.store 1 aT8 aS0),0,[])]) (iSr [.s (.zk 2 aT7),.w .push none (.yc 2 1 [.zh,(.bool false)] [(0,2,aS0)]),iQm 11 0] X7)))
def zo.b6:IR:=zo.g6 zo.b7
def zo.g5 (X6:IR):IR:=(.seq (iSr [.s (.load aT8),.s (.zk 2 rX),iWl 17 (.call (.c (.fn 249 (.of 249) [])) [aS1,aS0])] (.cond aT17 (.exit 1) .skip)) X6)
def zo.b5:IR:=zo.g5 zo.b6
def zo.g4 (X5:IR):IR:=(.block 1 X5)
def zo.b4:IR:=zo.g4 zo.b5
def zo.g2 (X3 X4:IR):IR:=(.rf aT14 [(.of 15),(.of 16)] X3 X4)
def zo.b2:IR:=zo.g2 zo.b3 zo.b4
def zo.g1 (X2:IR):IR:=(.block 0 X2)
def zo.b1:IR:=zo.g1 zo.b2
def zo.b23:IR:=(.seq (.yh [] [(.s (.load aT8),0,[]),(.s (.load aT9),1,[]),(.w .none none (.store 1 aT4 aS1),0,[]),(.w .none none (.store 1 aT5 aS0),0,[]),(.w .none none (.store 1 aT6 (.c (.bool true))),0,[])]) .ret)
def zo.g0 (X1 X23:IR):IR:=(iSr [iWl 3 (.box aT2),iWl 4 (.alloc [.qj]),iWl 5 (.alloc [.zh]),iWl 6 (.alloc [(.bool false)])] (iSr [iSm 1,iCa 248 [aS0],iWl 7 (.alloc [.zh,(.bool false)]),.w .none none (.store 2 aT7 aS0)] (.seq (.yh [.rF,(.alloc [.qj])] [(.s (.zk 2 aT7),4,[]),(.s (.zk 2 aT7),4,[]),(iCa 112 [aS1],0,[]),(.w .push none .rF,0,[]),(.w .none none (.oO .str aS0 aS1 aS2),0,[]),(.s (.mv aS0),1,[]),(iWl 8 (.alloc [.qj]),0,[]),(.w .none none (.store 1 aT8 aS0),0,[])]) (iSr [iWl 9 (.alloc [.zh])] (.seq (iSr [iSm 0,iWl 14 (.call (.c (.fn 86 (.of 86) [])) [aS0])] X1) X23)))))
def zo.b0:IR:=zo.g0 zo.b1 zo.b23
def zo.res:List RV:=[.cell (.of 4) none,.cell (.of 5) none,.cell (.of 6) none]
def zo:Fn:={ params:=[(.of 0),(.of 1),(.of 2)],res:=zo.res,body:=zo.b0,init:=in25 }
theorem zo.ok:fnA Tryz.prog Tryz.f200 [0,1,2,5,6,7,8,9,10,11,13,14,16,17,26,27,28,31,45,48,49,50,51,61,65]=some zo:=by kernel_rfl
abbrev aG.fr:=fr3
def aG.b1:IR:=(iSr [iSm 0,.s (.conv .u64 aS0),iQm 1 0] .ret)
def aG.g0 (X1:IR):IR:=(iSr [iQo 1 (.mv (.c (.int .u64 0)))] (.seq (iSr [iSm 0,iQo 2 (.bin .lss .int aS0 aC0)] (.cond aT2 (iSr [iSm 0,.s (.neg aS0),.s (.conv .u64 aS0),iQm 1 0] .ret) .skip)) X1))
def aG.b0:IR:=aG.g0 aG.b1
def aG.res:List RV:=[.t (.of 1)]
def aG:Fn:={ params:=[(.of 0)],res:=aG.res,body:=aG.b0,init:=in3 }
theorem aG.ok:fnA Tryz.prog Tryz.f201 [0,2,4]=some aG:=by kernel_rfl
abbrev F205.fr:=fr12
def F205.b0:IR:=(iSr [iQo 2 (.mv (.c (.int .u64 0))),iQo 3 (.mv (.c (.int .u64 0)))] (iSr [iSm 0,.s (.bin .and .int aS0 (.c (.int .u64 4294967295))),iQm 4 0] (iSr [iSm 0,.s (.bin .shr .int aS0 (.c (.int .u64 32))),iQm 5 0] (iSr [iSm 1,.s (.bin .and .int aS0 (.c (.int .u64 4294967295))),iQm 6 0] (iSr [iSm 1,.s (.bin .shr .int aS0 (.c (.int .u64 32))),iQm 7 0] (iSr [iSm 4,iSm 6,.s (.bin .mul .int aS1 aS0),iQm 8 0] (iSr [iSm 5,iSm 6,.s (.bin .mul .int aS1 aS0),iSm 8,.s (.bin .shr .int aS0 (.c (.int .u64 32))),.s (.bin .add .int aS2 aS0),iQm 9 0] (iSr [iSm 9,.s (.bin .and .int aS0 (.c (.int .u64 4294967295))),iQm 10 0] (iSr [iSm 9,.s (.bin .shr .int aS0 (.c (.int .u64 32))),iQm 11 0] (iSr [iSm 10,iSm 4,iSm 7,.s (.bin .mul .int aS1 aS0),.s (.bin .add .int aS3 aS0),iQm 10 0] (iSr [iSm 5,iSm 7,.s (.bin .mul .int aS1 aS0),iSm 11,.s (.bin .add .int aS1 aS0),iSm 10,.s (.bin .shr .int aS0 (.c (.int .u64 32))),.s (.bin .add .int aS2 aS0),iQm 2 0] (iSr [iSm 0,iSm 1,.s (.bin .mul .int aS1 aS0),iQm 3 0] .ret))))))))))))
def F205.res:List RV:=[.t (.of 2),.t (.of 3)]
def F205:Fn:={ params:=[(.of 0),(.of 1)],res:=F205.res,body:=F205.b0,init:=in12 }
theorem F205.ok:fnA Tryz.prog Tryz.f205 [0,1,4,5,6,7,8,9,10,11,12,13]=some F205:=by kernel_rfl
abbrev rU.fr:=fr10
def rU.b1:IR:=(iSr [iQo 2 (.mv (.c (I (-1))))] .ret)
def rU.b5:IR:=(iSr [iQo 2 (.mv aC0)] .ret)
def rU.g4 (X5:IR):IR:=(.seq (iSr [iSm 0,iSm 1,iQo 9 (.bin .gtr .int aS1 aS0)] (.cond aT9 (iSr [iQo 2 (.mv aC1)] .ret) .skip)) X5)
def rU.b4:IR:=rU.g4 rU.b5
def rU.g3 (X4:IR):IR:=(.seq (iSr [iSm 0,iSm 1,iQo 8 (.bin .lss .int aS1 aS0)] (.cond aT8 (iSr [iQo 2 (.mv (.c (I (-1))))] .ret) .skip)) X4)
def rU.b3:IR:=rU.g3 rU.b4
def rU.g2 (X3:IR):IR:=(.seq (iSr [iQo 7 (.mv aT4)] (.cond aT7 (iSr [iQo 2 (.mv aC1)] .ret) .skip)) X3)
def rU.b2:IR:=rU.g2 rU.b3
def rU.g0 (X1 X2:IR):IR:=(iSr [iQo 2 (.mv aC0)] (iSr [iSm 0,iCa 261 [aS0],iQm 3 0] (iSr [iSm 1,iCa 261 [aS0],iQm 4 0] (.seq (iSr [iQo 5 (.mv aT3)] (.cond aT5 (.seq (iSr [iQo 6 (.mv aT4)] (.cond aT6 (iSr [iQo 2 (.mv aC0)] .ret) .skip)) X1) .skip)) X2))))
def rU.b0:IR:=rU.g0 rU.b1 rU.b2
def rU.res:List RV:=[.t (.of 2)]
def rU:Fn:={ params:=[(.of 0),(.of 1)],res:=rU.res,body:=rU.b0,init:=in10 }
theorem rU.ok:fnA Tryz.prog Tryz.f217 [0,1,4,5,6,11,12,13,16,19]=some rU:=by kernel_rfl
abbrev uq.fr:=fr9
def uq.b6:IR:=(iSr [.s (.zn 1 aT5 aT7),.s (.load aS0),iQm 4 0] (.reg [iSm 3,iSm 1,iSm 4,.s (.zn 1 aS1 aS0),.s (.load aS0),.s (.bin .add .int aS4 aS0),iQm 3 0]))
def uq.g5 (X6:IR):IR:=(.block 1 X6)
def uq.b5:IR:=uq.g5 uq.b6
def uq.b7:IR:=(.reg [.s (.bin .add .int aT7 aC1),iQm 7 0])
def uq.g4 (X5 X7:IR):IR:=(.seq X5 X7)
def uq.b4:IR:=uq.g4 uq.b5 uq.b7
def uq.g3 (X4:IR):IR:=(iSr [iQo 8 (.bin .lss .int aT7 aT6)] (.seq (.cond aT8 .skip (.exit 0)) X4))
def uq.b3:IR:=uq.g3 uq.b4
def uq.g2 (X3:IR):IR:=(.loop X3)
def uq.b2:IR:=uq.g2 uq.b3
def uq.g1 (X2:IR):IR:=(.block 0 X2)
def uq.b1:IR:=uq.g1 uq.b2
def uq.b8:IR:=(iSr [iSm 3,iQm 2 0] .ret)
def uq.g0 (X1 X8:IR):IR:=(iSr [iQo 2 (.mv aC0)] (iSr [iQo 3 (.mv aC0)] (.seq (iSr [iQo 5 (.mv aT0),iQo 6 (.len aT5),iQo 7 (.mv aC0)] X1) X8)))
def uq.b0:IR:=uq.g0 uq.b1 uq.b8
def uq.res:List RV:=[.t (.of 2)]
def uq:Fn:={ params:=[(.of 0),(.of 1)],res:=uq.res,body:=uq.b0,init:=in9 }
theorem uq.ok:fnA Tryz.prog Tryz.f219 [0,1,4,5,7,8,9,10,11]=some uq:=by kernel_rfl
abbrev qc.fr:=fr7
def qc.b3:IR:=(.reg [iQo 4 (.mv aT6)])
def qc.b5:IR:=(.reg [.s (.load aT2),iSm 4,.w .push none (.yc 1 1 [(I 0)] [(0,1,aS0)]),.w .push none (.app 1 8 aS2 aS0),.w .none none (.store 1 aT2 aS0)])
def qc.g4 (X5:IR):IR:=(.block 1 X5)
def qc.b4:IR:=qc.g4 qc.b5
def qc.g2 (X3 X4:IR):IR:=(.rf aT5 [(.of 6)] X3 X4)
def qc.b2:IR:=qc.g2 qc.b3 qc.b4
def qc.g1 (X2:IR):IR:=(.block 0 X2)
def qc.b1:IR:=qc.g1 qc.b2
def qc.b6:IR:=(iSr [.s (.load aT2),iQm 3 0] .ret)
def qc.g0 (X1 X6:IR):IR:=(iSr [iWl 2 (.box aT0),iQo 3 (.mv (.c .zh))] (.seq (iSr [iQo 5 (.mv aT1)] X1) X6))
def qc.b0:IR:=qc.g0 qc.b1 qc.b6
def qc.res:List RV:=[.t (.of 3)]
def qc:Fn:={ params:=[(.of 0),(.of 1)],res:=qc.res,body:=qc.b0,init:=in7 }
theorem qc.ok:fnA Tryz.prog Tryz.f221 [0,1,2,4,5,6,7]=some qc:=by kernel_rfl
abbrev F222.fr:=fr2
def F222.b0:IR:=(iSr [iQo 1 (.mv (.c (.str [])))] (iSr [iSm 0,iCa 263 [aS0,aC10],iQm 1 0] .ret))
def F222.res:List RV:=[.t (.of 1)]
def F222:Fn:={ params:=[(.of 0)],res:=F222.res,body:=F222.b0,init:=in2 }
theorem F222.ok:fnA Tryz.prog Tryz.f222 [0,2]=some F222:=by kernel_rfl
abbrev F224.fr:=fr3
def F224.b0:IR:=(iSr [iQo 2 (.mv aC0)] (iSr [iSm 0,iSm 1,.s (.bin .rem .int aS1 aS0),iSm 1,.s (.bin .add .int aS1 aS0),iSm 1,.s (.bin .rem .int aS1 aS0),iQm 2 0] .ret))
def F224.res:List RV:=[.t (.of 2)]
def F224:Fn:={ params:=[(.of 0),(.of 1)],res:=F224.res,body:=F224.b0,init:=in3 }
theorem F224.ok:fnA Tryz.prog Tryz.f224 [0,1,4]=some F224:=by kernel_rfl
abbrev F225.fr:=fr2
def F225.b0:IR:=(iSr [iWl 1 (.alloc [(I 0),(I 0),.zh])] (iSr [iSm 0,iSm 0,iSm 0,iSm 0,.s (.bin .mul .int aS1 aS0),.w .push none (.vk 1 8 [(I 0)] aS0 aS0),.s (.build [(I 0),(I 0),.zh] [(0,1,aS5),(1,1,aS4),(2,1,aS0)]),.w .none none (.store 3 aT1 aS0)] .ret))
def F225.res:List RV:=[.cell (.of 1) (some 3)]
def F225:Fn:={ params:=[(.of 0)],res:=F225.res,body:=F225.b0,init:=in2 }
theorem F225.ok:fnA Tryz.prog Tryz.f225 [0,2]=some F225:=by kernel_rfl
abbrev ru.fr:=fr10
def ru.b6:IR:=(iSr [iSm 8,iQm 7 0] (.yh [] [(iSm 7,0,[]),(iSm 7,0,[]),(.s (.zi 1 aT2),0,[]),(.s (.tu 1 2 aS0 aS1),0,[]),(.s (.load aS0),0,[]),(iSm 4,0,[]),(iSm 7,0,[]),(.s (.zi 3 aT2),0,[]),(.s (.tu 1 2 aS0 aS1),0,[]),(.s (.load aS0),0,[]),(.s (.bin .mul .int aS4 aS0),0,[]),(.s (.bin .add .int aS6 aS0),0,[]),(iSm 5,0,[]),(iSm 7,0,[]),(.s (.zi 5 aT2),0,[]),(.s (.tu 1 2 aS0 aS1),0,[]),(.s (.load aS0),0,[]),(.s (.bin .mul .int aS4 aS0),0,[]),(.s (.bin .add .int aS6 aS0),0,[]),(.s (.zi 0 aT2),0,[]),(.s (.load aS0),0,[]),(.s (.bin .rem .int aS2 aS0),0,[]),(.s (.tu 1 2 aT6 aS21),0,[]),(.w .none none (.store 1 aS0 aS1),0,[])]))
def ru.g5 (X6:IR):IR:=(.block 1 X6)
def ru.b5:IR:=ru.g5 ru.b6
def ru.b7:IR:=(.reg [.s (.bin .add .int aT8 aC1),iQm 8 0])
def ru.g4 (X5 X7:IR):IR:=(.seq X5 X7)
def ru.b4:IR:=ru.g4 ru.b5 ru.b7
def ru.g3 (X4:IR):IR:=(iSr [iQo 9 (.bin .lss .int aT8 aC2)] (.seq (.cond aT9 .skip (.exit 0)) X4))
def ru.b3:IR:=ru.g3 ru.b4
def ru.g2 (X3:IR):IR:=(.loop X3)
def ru.b2:IR:=ru.g2 ru.b3
def ru.g1 (X2:IR):IR:=(.block 0 X2)
def ru.b1:IR:=ru.g1 ru.b2
def ru.b8:IR:=(iSr [.s (.tu 1 2 aT6 aC0),.s (.load aS0),.s (.zi 0 aT2),.s (.load aS0),.s (.bin .mul .int aS2 aS0),.s (.tu 1 2 aT6 aC1),.s (.load aS0),.s (.bin .add .int aS2 aS0),iQm 3 0] .ret)
def ru.g0 (X1 X8:IR):IR:=(iSr [iWl 2 (.box aT0),iQo 3 (.mv aC0)] (.seq (.yh [] [(iSm 1,0,[]),(.s (.bin .sub .int aS0 aC1),0,[]),(.s (.zi 0 aT2),0,[]),(.s (.load aS0),0,[]),(.s (.bin .rem .int aS2 aS0),0,[]),(iSm 1,0,[]),(.s (.bin .sub .int aS0 aC1),0,[]),(.s (.zi 0 aT2),0,[]),(.s (.load aS0),0,[]),(.s (.bin .quo .int aS2 aS0),0,[]),(iQm 4 5,0,[]),(iQm 5 0,0,[])]) (iSr [iWl 6 (.alloc [(I 0),(I 0)])] (.seq (iSr [iQo 8 (.mv aC0)] X1) X8))))
def ru.b0:IR:=ru.g0 ru.b1 ru.b8
def ru.res:List RV:=[.t (.of 3)]
def ru:Fn:={ params:=[(.of 0),(.of 1)],res:=ru.res,body:=ru.b0,init:=in10 }
theorem ru.ok:fnA Tryz.prog Tryz.f226 [0,1,2,4,5,6,7,8,19,20]=some ru:=by kernel_rfl
abbrev tZ.fr:=fr5
def tZ.b3:IR:=(iSr [iSm 1,iSm 0,.s (.conv .u8 aS0),.s (.sidx (.c (.str [0,1,2,2,3,3,3,3,4,4,4,4,4,4,4,4,5,5,5,5,5,5,5,5,5,5,5,5,5,5,5,5,6,6,6,6,6,6,6,6,6,6,6,6,6,6,6,6,6,6,6,6,6,6,6,6,6,6,6,6,6,6,6,6,7,7,7,7,7,7,7,7,7,7,7,7,7,7,7,7,7,7,7,7,7,7,7,7,7,7,7,7,7,7,7,7,7,7,7,7,7,7,7,7,7,7,7,7,7,7,7,7,7,7,7,7,7,7,7,7,7,7,7,7,7,7,7,7,8,8,8,8,8,8,8,8,8,8,8,8,8,8,8,8,8,8,8,8,8,8,8,8,8,8,8,8,8,8,8,8,8,8,8,8,8,8,8,8,8,8,8,8,8,8,8,8,8,8,8,8,8,8,8,8,8,8,8,8,8,8,8,8,8,8,8,8,8,8,8,8,8,8,8,8,8,8,8,8,8,8,8,8,8,8,8,8,8,8,8,8,8,8,8,8,8,8,8,8,8,8,8,8,8,8,8,8,8,8,8,8,8,8,8,8,8,8,8,8,8,8,8,8,8,8,8,8])) aS0),.s (.conv .i64 aS0),.s (.bin .add .int aS4 aS0),iQm 1 0] .ret)
def tZ.g2 (X3:IR):IR:=(.seq (iSr [iSm 0,iQo 4 (.bin .geq .int aS0 (.c (.int .u64 256)))] (.cond aT4 (iSr [iSm 0,.s (.bin .shr .int aS0 (.c (.int .u64 8))),iQm 0 0] (.reg [iSm 1,.s (.bin .add .int aS0 aC8),iQm 1 0])) .skip)) X3)
def tZ.b2:IR:=tZ.g2 tZ.b3
def tZ.g1 (X2:IR):IR:=(.seq (iSr [iSm 0,iQo 3 (.bin .geq .int aS0 (.c (.int .u64 65536)))] (.cond aT3 (iSr [iSm 0,.s (.bin .shr .int aS0 (.c (.int .u64 16))),iQm 0 0] (.reg [iSm 1,.s (.bin .add .int aS0 aC16),iQm 1 0])) .skip)) X2)
def tZ.b1:IR:=tZ.g1 tZ.b2
def tZ.g0 (X1:IR):IR:=(iSr [iQo 1 (.mv aC0)] (.seq (iSr [iSm 0,iQo 2 (.bin .geq .int aS0 (.c (.int .u64 4294967296)))] (.cond aT2 (iSr [iSm 0,.s (.bin .shr .int aS0 (.c (.int .u64 32))),iQm 0 0] (.reg [iQo 1 (.mv aC32)])) .skip)) X1))
def tZ.b0:IR:=tZ.g0 tZ.b1
def tZ.res:List RV:=[.t (.of 1)]
def tZ:Fn:={ params:=[(.of 0)],res:=tZ.res,body:=tZ.b0,init:=in5 }
theorem tZ.ok:fnA Tryz.prog Tryz.f236 [0,2,4,8,14]=some tZ:=by kernel_rfl
abbrev dw.fr:=fr24
def dw.b10:IR:=(iSr [iSm 0,iSm 1,iSm 2,iSm 8,iSm 4,iCa 277 [aS4,aS3,aS2,aS1,aS0],.s (.mv aS0),.s (.ext 0 aS0),.s (.ext 1 aS1),iQm 11 1,iQm 12 0] (iSr [iSm 12,iQm 6 0] (iSr [iSm 11,iSm 1,.s (.bin .sub .int aS1 aS0),iSm 2,iSm 11,.s (.bin .sub .int aS1 aS0),iQm 13 3,iQm 14 0] (iSr [iSm 7,.s (.bin .quo .int aS0 aC8),iQm 15 0] (iSr [iSm 13,iSm 14,iQo 23 (.bin .lss .int aS1 aS0)] (.cond aT23 (iSr [iSm 13,iSm 15,.s (.bin .geq .int aS1 aS0),iQm 5 0] (iSr [iSm 0,iSm 1,iSm 11,iSm 3,iSm 4,iCa 237 [aS4,aS3,aS2,aS1,aS0]] (.reg [iSm 11,.s (.bin .add .int aS0 aC1),iQm 1 0]))) (iSr [iSm 14,iSm 15,.s (.bin .geq .int aS1 aS0),iQm 5 0] (iSr [iSm 0,iSm 11,.s (.bin .add .int aS0 aC1),iSm 2,iSm 3,iSm 4,iCa 237 [aS5,aS3,aS2,aS1,aS0]] (.reg [iSm 11,iQm 2 0])))))))))
def dw.g9 (X10:IR):IR:=(.seq (.seq (.yh [] [(iSm 1,0,[]),(.s (.bin .gtr .int aS0 aC0),0,[]),(.s (.mv aS0),0,[]),(iPt 0 (.mv aT4),0,[]),(iPt 1 (.mv aT0),0,[]),(iPt 2 (.mv aT1),0,[]),(iPt 3 (.bin .sub .int aS0 aC1),0,[]),(iPt 4 (.zn 1 aS2 aS0),0,[]),(iPt 5 (.load aS0),0,[]),(iPt 6 (.mv aT0),0,[]),(iPt 7 (.mv aT8),0,[]),(iPt 8 (.zn 1 aS1 aS0),0,[]),(iPt 9 (.load aS0),0,[]),(.w .push (some (aS10,true)) (.call aS9 [aS4,aS0]),0,[]),(iPt 11 (.bin .lss .int aS0 aC0),0,[]),(iPt 12 (.not aS0),0,[]),(iQo 22 (.pick aS13 aS0 (.c (.bool false))),0,[])]) (.cond aT22 (iSr [iSm 0,iSm 1,iSm 2,iSm 8,iSm 4,iCa 276 [aS4,aS3,aS2,aS1,aS0],iQm 10 0] (iSr [iSm 10,iQm 1 0] (.exit 1))) .skip)) X10)
def dw.b9:IR:=dw.g9 dw.b10
def dw.g8 (X9:IR):IR:=(.seq (iSr [iSm 5,.s (.mv aS0),iPt 0 (.mv aT6),.s (.pick aS1 aS0 (.c (.bool false))),.s (.mv aS0),iPt 0 (.mv aT9),iPt 1 (.bin .eql .int aS0 aC1),iQo 20 (.pick aS2 aS0 (.c (.bool false)))] (.cond aT20 (iSr [iSm 0,iSm 1,iSm 2,iSm 4,iWl 21 (.call (.c (.fn 275 (.of 275) [])) [aS3,aS2,aS1,aS0])] (.cond aT21 .ret .skip)) .skip)) X9)
def dw.b8:IR:=dw.g8 dw.b9
def dw.g7 (X8:IR):IR:=(iSr [iSm 0,iSm 1,iSm 2,iSm 4,iCa 273 [aS3,aS2,aS1,aS0],.s (.mv aS0),.s (.ext 0 aS0),.s (.ext 1 aS1),iQm 8 1,iQm 9 0] (.seq (iSr [iSm 9,iQo 19 (.bin .eql .int aS0 aC2)] (.cond aT19 (iSr [iSm 0,iSm 1,iSm 2,iSm 4,iCa 274 [aS3,aS2,aS1,aS0]] (iSr [iSm 2,.s (.bin .sub .int aS0 aC1),iSm 8,iSm 1,.s (.bin .sub .int aS1 aS0),.s (.bin .sub .int aS3 aS0),iQm 8 0] (.reg [iQo 9 (.mv aC1)]))) .skip)) X8))
def dw.b7:IR:=dw.g7 dw.b8
def dw.g6 (X7:IR):IR:=(.seq (iSr [iSm 5,iQo 18 (.not aS0)] (.cond aT18 (iSr [iSm 0,iSm 1,iSm 2,iSm 4,iCa 272 [aS3,aS2,aS1,aS0]] (.reg [iSm 3,.s (.bin .sub .int aS0 aC1),iQm 3 0])) .skip)) X7)
def dw.b6:IR:=dw.g6 dw.b7
def dw.g5 (X6:IR):IR:=(.seq (iSr [iSm 3,iQo 17 (.bin .eql .int aS0 aC0)] (.cond aT17 (iSr [iSm 0,iSm 1,iSm 2,iSm 4,iCa 271 [aS3,aS2,aS1,aS0]] .ret) .skip)) X6)
def dw.b5:IR:=dw.g5 dw.b6
def dw.g4 (X5:IR):IR:=(iSr [iSm 2,iSm 1,.s (.bin .sub .int aS1 aS0),iQm 7 0] (.seq (iSr [iSm 7,iQo 16 (.bin .leq .int aS0 aC12)] (.cond aT16 (iSr [iSm 0,iSm 1,iSm 2,iSm 4,iCa 270 [aS3,aS2,aS1,aS0]] .ret) .skip)) X5))
def dw.b4:IR:=dw.g4 dw.b5
def dw.g3 (X4:IR):IR:=(.block 1 X4)
def dw.b3:IR:=dw.g3 dw.b4
def dw.g2 (X3:IR):IR:=(.loop X3)
def dw.b2:IR:=dw.g2 dw.b3
def dw.g1 (X2:IR):IR:=(.block 0 X2)
def dw.b1:IR:=dw.g1 dw.b2
def dw.g0 (X1:IR):IR:=(iSr [iQo 5 (.mv (.c (.bool true)))] (iSr [iQo 6 (.mv (.c (.bool true)))] X1))
def dw.b0:IR:=dw.g0 dw.b1
def dw.res:List RV:=[]
def dw:Fn:={ params:=[(.of 0),(.of 1),(.of 2),(.of 3),(.of 4)],res:=dw.res,body:=dw.b0,init:=in24 }
theorem dw.ok:fnA Tryz.prog Tryz.f237 [0,1,2,3,4,10,11,12,13,14,15,16,17,18,19,20,25,32,39,56,75,80,97,125]=some dw:=by kernel_rfl
abbrev uf.fr:=fr8
def uf.b6:IR:=(iSr [iSm 5,iQm 3 0] (iSr [iSm 1,iSm 0,iSm 3,.s (.zn 1 aS1 aS0),.s (.load aS0),iWl 7 (.call aS4 [aS0])] (.cond aT7 (iSr [iSm 3,iQm 2 0] .ret) .skip)))
def uf.g5 (X6:IR):IR:=(.block 1 X6)
def uf.b5:IR:=uf.g5 uf.b6
def uf.b7:IR:=(.reg [.s (.bin .add .int aT5 aC1),iQm 5 0])
def uf.g4 (X5 X7:IR):IR:=(.seq X5 X7)
def uf.b4:IR:=uf.g4 uf.b5 uf.b7
def uf.g3 (X4:IR):IR:=(iSr [iQo 6 (.bin .lss .int aT5 aT4)] (.seq (.cond aT6 .skip (.exit 0)) X4))
def uf.b3:IR:=uf.g3 uf.b4
def uf.g2 (X3:IR):IR:=(.loop X3)
def uf.b2:IR:=uf.g2 uf.b3
def uf.g1 (X2:IR):IR:=(.block 0 X2)
def uf.b1:IR:=uf.g1 uf.b2
def uf.b8:IR:=(iSr [iQo 2 (.mv (.c (I (-1))))] .ret)
def uf.g0 (X1 X8:IR):IR:=(iSr [iQo 2 (.mv aC0)] (.seq (iSr [iSm 0,iQo 4 (.len aS0),iQo 5 (.mv aC0)] X1) X8))
def uf.b0:IR:=uf.g0 uf.b1 uf.b8
def uf.res:List RV:=[.t (.of 2)]
def uf:Fn:={ params:=[(.of 0),(.of 1)],res:=uf.res,body:=uf.b0,init:=in8 }
theorem uf.ok:fnA Tryz.prog Tryz.f238 [0,1,4,5,7,8,9,16]=some uf:=by kernel_rfl
abbrev qw.fr:=fr7
def qw.b12:IR:=(.yh [] [(iSm 0,0,[]),(iSm 4,0,[]),(iSm 0,1,[]),(iSm 4,1,[]),(.s (.bin .sub .int aS0 aC1),1,[]),(iSm 0,0,[]),(iSm 4,0,[]),(.s (.bin .sub .int aS0 aC1),0,[]),(.s (.zn 1 aS2 aS0),0,[]),(.s (.load aS0),0,[]),(iSm 0,0,[]),(iSm 4,0,[]),(.s (.zn 1 aS1 aS0),0,[]),(.s (.load aS0),0,[]),(.s (.zn 1 aS13 aS12),0,[]),(.w .none none (.store 1 aS0 aS5),0,[]),(.s (.zn 1 aS12 aS10),0,[]),(.w .none none (.store 1 aS0 aS2),0,[])])
def qw.g11 (X12:IR):IR:=(.block 3 X12)
def qw.b11:IR:=qw.g11 qw.b12
def qw.b13:IR:=(.reg [iSm 4,.s (.bin .sub .int aS0 aC1),iQm 4 0])
def qw.g10 (X11 X13:IR):IR:=(.seq X11 X13)
def qw.b10:IR:=qw.g10 qw.b11 qw.b13
def qw.g9 (X10:IR):IR:=(.seq (.seq (.yh [] [(iSm 4,0,[]),(iSm 1,0,[]),(.s (.bin .gtr .int aS1 aS0),0,[]),(.s (.mv aS0),0,[]),(iPt 0 (.mv aT0),0,[]),(iPt 1 (.mv aT4),0,[]),(iPt 2 (.zn 1 aS1 aS0),0,[]),(iPt 3 (.load aS0),0,[]),(iPt 4 (.mv aT0),0,[]),(iPt 5 (.mv aT4),0,[]),(iPt 6 (.bin .sub .int aS0 aC1),0,[]),(iPt 7 (.zn 1 aS2 aS0),0,[]),(iPt 8 (.load aS0),0,[]),(.w .push (some (aS9,true)) (.call (.c (.fn 245 (.of 245) [])) [aS5,aS0]),0,[]),(iQo 6 (.pick aS10 aS0 (.c (.bool false))),0,[])]) (.cond aT6 .skip (.exit 2))) X10)
def qw.b9:IR:=qw.g9 qw.b10
def qw.g8 (X9:IR):IR:=(.loop X9)
def qw.b8:IR:=qw.g8 qw.b9
def qw.g7 (X8:IR):IR:=(.block 2 X8)
def qw.b7:IR:=qw.g7 qw.b8
def qw.g6 (X7:IR):IR:=(iSr [iSm 3,iQm 4 0] X7)
def qw.b6:IR:=qw.g6 qw.b7
def qw.g5 (X6:IR):IR:=(.block 1 X6)
def qw.b5:IR:=qw.g5 qw.b6
def qw.b14:IR:=(.reg [iSm 3,.s (.bin .add .int aS0 aC1),iQm 3 0])
def qw.g4 (X5 X14:IR):IR:=(.seq X5 X14)
def qw.b4:IR:=qw.g4 qw.b5 qw.b14
def qw.g3 (X4:IR):IR:=(.seq (iSr [iSm 3,iSm 2,iQo 5 (.bin .lss .int aS1 aS0)] (.cond aT5 .skip (.exit 0))) X4)
def qw.b3:IR:=qw.g3 qw.b4
def qw.g2 (X3:IR):IR:=(.loop X3)
def qw.b2:IR:=qw.g2 qw.b3
def qw.g1 (X2:IR):IR:=(.block 0 X2)
def qw.b1:IR:=qw.g1 qw.b2
def qw.g0 (X1:IR):IR:=(iSr [iSm 1,.s (.bin .add .int aS0 aC1),iQm 3 0] X1)
def qw.b0:IR:=qw.g0 qw.b1
def qw.res:List RV:=[]
def qw:Fn:={ params:=[(.of 0),(.of 1),(.of 2)],res:=qw.res,body:=qw.b0,init:=in7 }
theorem qw.ok:fnA Tryz.prog Tryz.f239 [0,1,2,6,7,12,30]=some qw:=by kernel_rfl
abbrev F245.fr:=fr3
def F245.b0:IR:=(iSr [iQo 2 (.mv (.c (.bool false)))] (iSr [iSm 0,iCa 261 [aS0],.s (.mv aS0),iPt 0 (.mv aT1),.w .push (some (aS1,true)) (.call (.c (.fn 261 (.of 261) [])) [aS0]),iPt 2 (.not aS0),.s (.pick aS3 aS0 (.c (.bool false))),.s (.mv aS0),iPf 0 (.mv aT0),iPf 1 (.mv aT1),iPf 2 (.bin .lss .int aS1 aS0),.s (.pick aS3 (.c (.bool true)) aS0),iQm 2 0] .ret))
def F245.res:List RV:=[.t (.of 2)]
def F245:Fn:={ params:=[(.of 0),(.of 1)],res:=F245.res,body:=F245.b0,init:=in3 }
theorem F245.ok:fnA Tryz.prog Tryz.f245 [0,1,4]=some F245:=by kernel_rfl
abbrev uh.fr:=fr7
def uh.b6:IR:=(iSr [iSm 5,iQm 3 0] (.reg [.s (.zi 0 aT2),.s (.load aS0),iSm 3,iSm 3,.s (.zn 1 aS2 aS1),.w .none none (.store 1 aS0 aS1)]))
def uh.g5 (X6:IR):IR:=(.block 1 X6)
def uh.b5:IR:=uh.g5 uh.b6
def uh.b7:IR:=(.reg [.s (.bin .add .int aT5 aC1),iQm 5 0])
def uh.g4 (X5 X7:IR):IR:=(.seq X5 X7)
def uh.b4:IR:=uh.g4 uh.b5 uh.b7
def uh.g3 (X4:IR):IR:=(iSr [iQo 6 (.bin .lss .int aT5 aT4)] (.seq (.cond aT6 .skip (.exit 0)) X4))
def uh.b3:IR:=uh.g3 uh.b4
def uh.g2 (X3:IR):IR:=(.loop X3)
def uh.b2:IR:=uh.g2 uh.b3
def uh.g1 (X2:IR):IR:=(.block 0 X2)
def uh.b1:IR:=uh.g1 uh.b2
def uh.b8:IR:=(iSr [.s (.zk 2 aT2),.w .none none (.store 2 aT1 aS0)] .ret)
def uh.g0 (X1 X8:IR):IR:=(iSr [iWl 1 (.alloc [.zh,(.bool false)])] (iSr [iSm 0,.w .push none (.vk 1 8 [(I 0)] aS0 aS0),.s (.build [.zh,(.bool false)] [(0,1,aS0)]),iWl 2 (.alloc [.zh,(.bool false)]),.w .none none (.store 2 aT2 aS0)] (.seq (iSr [.s (.zi 0 aT2),.s (.load aS0),iQo 4 (.len aS0),iQo 5 (.mv aC0)] X1) X8)))
def uh.b0:IR:=uh.g0 uh.b1 uh.b8
def uh.res:List RV:=[.cell (.of 1) (some 2)]
def uh:Fn:={ params:=[(.of 0)],res:=uh.res,body:=uh.b0,init:=in7 }
theorem uh.ok:fnA Tryz.prog Tryz.f248 [0,2,3,4,10,11,12]=some uh:=by kernel_rfl
abbrev o8.fr:=fr5
def o8.b0:IR:=(iSr [iWl 2 (.box aT1),iQo 3 (.mv (.c (.bool false)))] (iSr [iSm 0,.s (.zk 2 aT2),iCa 112 [aS0],.s (.look .str (.agg [.zh,(.bool false)]) true aS2 aS0),.s (.mv aS0),.s (.ext 0 aS0),.s (.ext 1 aS1),.w .push none (.alloc [.zh,(.bool false)]),.w .none none (.store 2 aS0 aS2),iQm 4 1] (iSr [iSm 4,iQm 3 0] .ret)))
def o8.res:List RV:=[.t (.of 3)]
def o8:Fn:={ params:=[(.of 0),(.of 1)],res:=o8.res,body:=o8.b0,init:=in5 }
theorem o8.ok:fnA Tryz.prog Tryz.f249 [0,1,3,4,6]=some o8:=by kernel_rfl
abbrev uj.fr:=fr12
def uj.b6:IR:=(iSr [iSm 10,.s (.zn 1 aT8 rX),.s (.load aS0),iQm 6 2,iQm 7 0] (.yh [] [(.s (.zi 0 aT5),0,[]),(.s (.load aS0),0,[]),(iSm 6,0,[]),(.s (.zi 0 aT2),0,[]),(.s (.load aS0),0,[]),(iSm 7,0,[]),(.s (.zn 1 aS1 aS0),0,[]),(.s (.load aS0),0,[]),(.s (.zn 1 aS6 aS5),0,[]),(.w .none none (.store 1 aS0 aS1),0,[])]))
def uj.g5 (X6:IR):IR:=(.block 1 X6)
def uj.b5:IR:=uj.g5 uj.b6
def uj.b7:IR:=(.reg [.s (.bin .add .int rX aC1),iQm 10 0])
def uj.g4 (X5 X7:IR):IR:=(.seq X5 X7)
def uj.b4:IR:=uj.g4 uj.b5 uj.b7
def uj.g3 (X4:IR):IR:=(iSr [iQo 11 (.bin .lss .int rX aT9)] (.seq (.cond sU .skip (.exit 0)) X4))
def uj.b3:IR:=uj.g3 uj.b4
def uj.g2 (X3:IR):IR:=(.loop X3)
def uj.b2:IR:=uj.g2 uj.b3
def uj.g1 (X2:IR):IR:=(.block 0 X2)
def uj.b1:IR:=uj.g1 uj.b2
def uj.b8:IR:=(iSr [.s (.zk 2 aT5),.w .none none (.store 2 aT4 aS0)] .ret)
def uj.g0 (X1 X8:IR):IR:=(iSr [iWl 2 (.box aT0),iWl 3 (.box aT1),iWl 4 (.alloc [.zh,(.bool false)])] (.seq (.yh [(.alloc [.zh,(.bool false)])] [(.s (.zi 0 aT3),2,[]),(.s (.load aS0),2,[]),(.s (.len aS0),2,[(.vk 1 8 [(I 0)] aS0 aS0)]),(.s (.zi 1 aT2),2,[]),(.s (.load aS0),2,[]),(.s (.zi 1 aT3),2,[]),(.s (.load aS0),2,[]),(.s (.bin .neq .bool aS2 aS0),2,[]),(.w .push none (.vk 1 8 [(I 0)] aS5 aS5),0,[]),(.s (.build [.zh,(.bool false)] [(0,1,aS0),(1,1,aS1)]),1,[]),(iWl 5 (.alloc [.zh,(.bool false)]),0,[]),(.w .none none (.store 2 aT5 aS0),0,[])]) (.seq (iSr [.s (.zi 0 aT3),iQo 8 (.load aS0),iQo 9 (.len aT8),iQo 10 (.mv aC0)] X1) X8)))
def uj.b0:IR:=uj.g0 uj.b1 uj.b8
def uj.res:List RV:=[.cell (.of 4) (some 2)]
def uj:Fn:={ params:=[(.of 0),(.of 1)],res:=uj.res,body:=uj.b0,init:=in12 }
theorem uj.ok:fnA Tryz.prog Tryz.f250 [0,1,2,3,4,5,6,7,19,20,21,22]=some uj:=by kernel_rfl
abbrev o7.fr:=fr2
def o7.b0:IR:=(iSr [iQo 1 (.mv (.c (.bool false)))] (iSr [iSm 0,iSm 0,.s (.bin .neq .int aS1 aS0),iQm 1 0] .ret))
def o7.res:List RV:=[.t (.of 1)]
def o7:Fn:={ params:=[(.of 0)],res:=o7.res,body:=o7.b0,init:=in2 }
theorem o7.ok:fnA Tryz.prog Tryz.f261 [0,2]=some o7:=by kernel_rfl
abbrev tN.fr:=fr11
def tN.b3:IR:=(iSr [iSm 5,.s (.bin .add .int aC1 aS0),.s (.aslice 1 24 aT3 (some aC1) (some aS0) none),.s (.b2s aS0),iQm 2 0] .ret)
def tN.g2 (X3:IR):IR:=(iSr [iSm 4,iCa 283 [aS0],iQm 5 0] (iSr [iSm 5,.s (.bin .add .int aC1 aS0),.s (.aslice 1 24 aT3 (some aC1) (some aS0) none),iSm 4,iCa 284 [aS1,aS0]] (.seq (iSr [iSm 0,iQo 10 (.bin .lss .int aS0 aC0)] (.cond rX (iSr [.s (.tu 1 24 aT3 aC0),.w .none none (.store 1 aS0 (.c (.int .u8 45)))] (iSr [iSm 5,.s (.bin .add .int aC1 aS0),.s (.aslice 1 24 aT3 none (some aS0) none),.s (.b2s aS0),iQm 2 0] .ret)) .skip)) X3)))
def tN.b2:IR:=tN.g2 tN.b3
def tN.g1 (X2:IR):IR:=(iSr [iWl 3 (.alloc [(.int .u8 0),(.int .u8 0),(.int .u8 0),(.int .u8 0),(.int .u8 0),(.int .u8 0),(.int .u8 0),(.int .u8 0),(.int .u8 0),(.int .u8 0),(.int .u8 0),(.int .u8 0),(.int .u8 0),(.int .u8 0),(.int .u8 0),(.int .u8 0),(.int .u8 0),(.int .u8 0),(.int .u8 0),(.int .u8 0),(.int .u8 0),(.int .u8 0),(.int .u8 0),(.int .u8 0)])] (iSr [iSm 0,.s (.conv .u64 aS0),iQm 4 0] (.seq (iSr [iSm 0,iQo 9 (.bin .lss .int aS0 aC0)] (.cond aT9 (.reg [iSm 4,.s (.neg aS0),iQm 4 0]) .skip)) X2)))
def tN.b1:IR:=tN.g1 tN.b2
def tN.b4:IR:=(iSr [iSm 0,.s (.conv .u64 aS0),iSm 1,iSm 0,.s (.bin .lss .int aS0 aC0),iCa 285 [(.c .zh),aS3,aS2,aS0,(.c (.bool false))],.s (.mv aS0),.s (.ext 0 aS0),.s (.ext 1 aS1),.s (.mv aS1),iQm 6 1] (iSr [iSm 6,iQm 2 0] .ret))
def tN.g0 (X1 X4:IR):IR:=(iSr [iQo 2 (.mv (.c (.str [])))] (.seq (iSr [iSm 1,iQo 7 (.bin .eql .int aS0 aC10)] (.cond aT7 (.seq (iSr [iSm 0,.s (.bin .leq .int aC0 aS0),.s (.mv aS0),iPt 0 (.mv aT0),iPt 1 (.bin .lss .int aS0 zzf),iQo 8 (.pick aS2 aS0 (.c (.bool false)))] (.cond aT8 (iSr [iSm 0,iCa 282 [aS0],iQm 2 0] .ret) .skip)) X1) .skip)) X4))
def tN.b0:IR:=tN.g0 tN.b1 tN.b4
def tN.res:List RV:=[.t (.of 2)]
def tN:Fn:={ params:=[(.of 0),(.of 1)],res:=tN.res,body:=tN.b0,init:=in11 }
theorem tN.ok:fnA Tryz.prog Tryz.f263 [0,1,4,5,6,7,9,11,17,23,34]=some tN:=by kernel_rfl
end
end Go.Ev
