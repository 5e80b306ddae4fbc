import Derived.Test.YtkjkjpmahgeneaaGreatDoorIrA
import Derived.Test.YtkjkjpmahgeneaaGreatDoorEvC
import Derived.Test.YtkjkjpmahgeneaaGreatDoorProg
import Derived.KernelRfl
set_option linter.unusedSimpArgs false
set_option linter.unusedVariables false
namespace Go.Ev
open Go Go.Proofs
set_option maxRecDepth 100000
noncomputable section

abbrev fA.fr:=fr14
def fA.b7:IR:=(iSr [iSm 11,.s (.zo 1 aT9 rQ),.s (.load aS0),iQm 5 2,iQm 6 0] (iSr [iSm 6,.s (.bin .lss .int aS0 aC0),.s (.mv aS0),iPf 0 (.mv aT6),iPf 1 (.zy 0 aT2),iPf 2 (.load aS0),iPf 3 (.bin .geq .int aS2 aS0),.s (.pick aS4 (.c (.bool true)) aS0),iCa 167 [aS0,aC10],iSm 5,.s (.bin .gtr .int aS0 aC0),.s (.mv aS0),iPt 0 (.load aT4),iPt 1 (.mv aT5),iPt 2 (.bin .sub .int aS0 aC1),iPt 3 (.zo 1 aS2 aS0),iPt 4 (.load aS0),iPt 5 (.mv aT6),iPt 6 (.bin .geq .int aS1 aS0),.s (.pick aS7 aS0 (.c (.bool false))),iCa 167 [aS0,aC11],.w .push none (.zx 1 2 [(I 0)] [(0,1,aS12),(1,1,aS0)]),iCa 165 [aS0],iQm 7 0] (iSr [iSm 7,iQo 13 (.bin .neq .int aS0 aC0)] (.cond rJ (iSr [iSm 7,iQm 3 0] .ret) .skip))))
def fA.g6 (X7:IR):IR:=(.block 1 X7)
def fA.b6:IR:=fA.g6 fA.b7
def fA.b8:IR:=(.reg [.s (.bin .add .int rQ aC1),iQm 11 0])
def fA.g5 (X6 X8:IR):IR:=(.seq X6 X8)
def fA.b5:IR:=fA.g5 fA.b6 fA.b8
def fA.g4 (X5:IR):IR:=(iSr [iQo 12 (.bin .lss .int rQ bf)] (.seq (.cond sN .skip (.exit 0)) X5))
def fA.b4:IR:=fA.g4 fA.b5
def fA.g3 (X4:IR):IR:=(.loop X4)
def fA.b3:IR:=fA.g3 fA.b4
def fA.g2 (X3:IR):IR:=(.block 0 X3)
def fA.b2:IR:=fA.g2 fA.b3
def fA.b9:IR:=(iSr [.s (.zy 1 aT2),.s (.load aS0),iSm 1,.s (.slice 1 aS1 none (some aS0) none),.s (.fn 217 (.of 217) [aT4]),iCa 216 [aS1,aS0],iCa 167 [aS0,aC9],iQm 3 0] .ret)
def fA.g1 (X2 X9:IR):IR:=(.seq (iSr [iQo 9 (.load aT4),iQo 10 (.len aT9),iQo 11 (.mv aC0)] X2) X9)
def fA.b1:IR:=fA.g1 fA.b2 fA.b9
def fA.g0 (X1:IR):IR:=(iSr [iWl 2 (.box aT0),iQo 3 (.mv aC0)] (iSr [.s (.zy 1 aT2),.s (.load aS0),iSm 1,.s (.zo 1 aS1 aS0),.s (.load aS0),iWl 4 (.alloc [.zf]),.w .none none (.store 1 aT4 aS0)] (.seq (iSr [.s (.load aT4),.s (.len aS0),iQo 8 (.bin .eql .int aS0 aC0)] (.cond aT8 (iSr [iQo 3 (.mv aC12)] .ret) .skip)) X1)))
def fA.b0:IR:=fA.g0 fA.b1
def fA.res:List RV:=[.t (.of 3)]
def fA:Fn:={ params:=[(.of 0),(.of 1)],res:=fA.res,body:=fA.b0,init:=in14 }
theorem fA.ok:fnA Tryz.prog Tryz.f168 [0,1,2,4,5,6,7,8,16,17,18,19,20,48]=some fA:=by kernel_rfl
abbrev fZ.fr:=fr10
def fZ.b6:IR:=(iSr [.s (.zo 1 aT6 aT8),.s (.load aS0),iQm 5 0] (.reg [iSm 4,iSm 0,iSm 5,.s (.zo 1 aS1 aS0),.s (.load aS0),.w .push none (.zx 1 1 [(I 0)] [(0,1,aS0)]),.w .push none (.app 1 8 aS5 aS0),iQm 4 0]))
def fZ.g5 (X6:IR):IR:=(.block 1 X6)
def fZ.b5:IR:=fZ.g5 fZ.b6
def fZ.b7:IR:=(.reg [.s (.bin .add .int aT8 aC1),iQm 8 0])
def fZ.g4 (X5 X7:IR):IR:=(.seq X5 X7)
def fZ.b4:IR:=fZ.g4 fZ.b5 fZ.b7
def fZ.g3 (X4:IR):IR:=(iSr [iQo 9 (.bin .lss .int aT8 aT7)] (.seq (.cond aT9 .skip (.exit 0)) X4))
def fZ.b3:IR:=fZ.g3 fZ.b4
def fZ.g2 (X3:IR):IR:=(.loop X3)
def fZ.b2:IR:=fZ.g2 fZ.b3
def fZ.g1 (X2:IR):IR:=(.block 0 X2)
def fZ.b1:IR:=fZ.g1 fZ.b2
def fZ.b8:IR:=(iSr [iSm 4,iCa 91 [aS0]] (.seq (.yw [] [(.s (.load aT2),1,[]),(iSm 4,0,[]),(.s (.build [.zf,(.bool false)] [(0,1,aS0)]),0,[]),(iCa 123 [aS0],0,[]),(.s (.look .str (.bool false) false aS3 aS0),0,[]),(iQm 3 0,0,[])]) .ret))
def fZ.g0 (X1 X8:IR):IR:=(iSr [iQo 3 (.mv (.c (.bool false)))] (iSr [iQo 4 (.mv (.c .zf))] (.seq (iSr [iQo 6 (.mv aT1),iQo 7 (.len aT6),iQo 8 (.mv aC0)] X1) X8)))
def fZ.b0:IR:=fZ.g0 fZ.b1 fZ.b8
def fZ.res:List RV:=[.t (.of 3)]
def fZ:Fn:={ params:=[(.of 0),(.of 1),(.of 2)],res:=fZ.res,body:=fZ.b0,init:=in10 }
theorem fZ.ok:fnA Tryz.prog Tryz.f169 [0,1,2,5,6,8,9,10,11,12]=some fZ:=by kernel_rfl
abbrev F170.fr:=fr2
def F170.b0:IR:=(iSr [iQo 1 (.mv (.c (.bool false)))] (iSr [iSm 0,iCa 126 [aS0],iSm 0,.s (.slen aS0),.s (.bin .eql .int aS2 aS0),iQm 1 0] .ret))
def F170.res:List RV:=[.t (.of 1)]
def F170:Fn:={ params:=[(.of 0)],res:=F170.res,body:=F170.b0,init:=in2 }
theorem F170.ok:fnA Tryz.prog Tryz.f170 [0,2]=some F170:=by kernel_rfl
abbrev rE.fr:=fr6
def rE.b6:IR:=(iSr [iSm 3,iSm 0,iSm 0,.s (.slen aS0),.s (.bin .sub .int aS0 aC9),.s (.rZ aS3 (some aS0) none),iCa 218 [aS0],.w .push none (.zx 1 1 [(I 0)] [(0,1,aS0)]),.w .push none (.app 1 8 aS7 aS0),iQm 3 0] (.reg [iSm 0,iSm 0,.s (.slen aS0),.s (.bin .sub .int aS0 aC9),.s (.rZ aS3 none (some aS0)),iQm 0 0]))
def rE.g5 (X6:IR):IR:=(.block 1 X6)
def rE.b5:IR:=rE.g5 rE.b6
def rE.g4 (X5:IR):IR:=(.seq (iSr [iSm 0,.s (.slen aS0),iQo 5 (.bin .gtr .int aS0 aC9)] (.cond aT5 .skip (.exit 0))) X5)
def rE.b4:IR:=rE.g4 rE.b5
def rE.g3 (X4:IR):IR:=(.loop X4)
def rE.b3:IR:=rE.g3 rE.b4
def rE.g2 (X3:IR):IR:=(.block 0 X3)
def rE.b2:IR:=rE.g2 rE.b3
def rE.b7:IR:=(iSr [iSm 2,iSm 3,iSm 0,iCa 218 [aS0],.w .push none (.zx 1 1 [(I 0)] [(0,1,aS0)]),.w .push none (.app 1 8 aS3 aS0),iCa 195 [aS5,aS0],.w .none none (.store 2 aT1 aS0)] .ret)
def rE.g1 (X2 X7:IR):IR:=(iSr [iQo 3 (.mv (.c .zf))] (.seq X2 X7))
def rE.b1:IR:=rE.g1 rE.b2 rE.b7
def rE.g0 (X1:IR):IR:=(iSr [iWl 1 (.alloc [(.bool false),.zf])] (iSr [iSm 0,.s (.slen aS0),.s (.bin .gtr .int aS0 aC0),.s (.mv aS0),iPt 0 (.mv aT0),iPt 1 (.sidx aS0 aC0),iPt 2 (.bin .eql .int aS0 (.c (.int .u8 45))),.s (.pick aS3 aS0 (.c (.bool false))),iQm 2 0] (.seq (iSr [iQo 4 (.mv aT2)] (.cond aT4 (.reg [iSm 0,.s (.rZ aS0 (some aC1) none),iQm 0 0]) .skip)) X1)))
def rE.b0:IR:=rE.g0 rE.b1
def rE.res:List RV:=[.cell (.of 1) (some 2)]
def rE:Fn:={ params:=[(.of 0)],res:=rE.res,body:=rE.b0,init:=in6 }
theorem rE.ok:fnA Tryz.prog Tryz.f171 [0,2,3,4,13,18]=some rE:=by kernel_rfl
abbrev F172.fr:=fr14
def F172.b1:IR:=(iSr [iSm 0,iCa 128 [aS0],.s (.mv aS0),.s (.ext 0 aS0),.s (.ext 1 aS1),iWl 9 (.alloc [(.bool false),.zf]),iWl 10 (.alloc [(.bool false),.zf]),.w .none none (.store 2 aT9 aS1),.w .none none (.store 2 bf aS0)] (iSr [iSm 1,iCa 128 [aS0],.s (.mv aS0),.s (.ext 0 aS0),.s (.ext 1 aS1),iWl 11 (.alloc [(.bool false),.zf]),iWl 12 (.alloc [(.bool false),.zf]),.w .none none (.store 2 rQ aS1),.w .none none (.store 2 sN aS0)] (.seq (.yw [] [(.s (.zh 2 aT9),0,[]),(.s (.zh 2 rQ),0,[]),(.s (.zh 2 bf),1,[]),(.s (.zh 2 sN),1,[]),(iCa 190 [aS3,aS2],0,[]),(iCa 190 [aS2,aS1],0,[]),(iCa 188 [aS1,aS0],0,[]),(iQm 2 0,0,[])]) .ret)))
def F172.g0 (X1:IR):IR:=(iSr [iQo 2 (.mv (.c (.str [])))] (iSr [iSm 0,iCa 186 [aS0],.s (.mv aS0),.s (.ext 0 aS0),.s (.ext 1 aS1),.s (.ext 2 aS2),iQm 3 2,iQm 4 1,iQm 5 0] (iSr [iSm 1,iCa 186 [aS0],.s (.mv aS0),.s (.ext 0 aS0),.s (.ext 1 aS1),.s (.ext 2 aS2),iQm 6 2,iQm 7 1,iQm 8 0] (.seq (iSr [iSm 5,.s (.mv aS0),iPt 0 (.mv aT8),iQo 13 (.pick aS1 aS0 (.c (.bool false)))] (.cond rJ (iSr [iSm 3,iSm 6,.s (.bin .mul .int aS1 aS0),iSm 4,iSm 7,.s (.bin .mul .int aS1 aS0),iCa 187 [aS3,aS0],iQm 2 0] .ret) .skip)) X1))))
def F172.b0:IR:=F172.g0 F172.b1
def F172.res:List RV:=[.t (.of 2)]
def F172:Fn:={ params:=[(.of 0),(.of 1)],res:=F172.res,body:=F172.b0,init:=in14 }
theorem F172.ok:fnA Tryz.prog Tryz.f172 [0,1,4,5,6,7,8,9,10,11,12,13,14,30]=some F172:=by kernel_rfl
abbrev F173.fr:=fr5
def F173.b1:IR:=(iSr [iSm 0,iCa 128 [aS0],.s (.mv aS0),.s (.ext 0 aS0),.s (.ext 1 aS1),iWl 2 (.alloc [(.bool false),.zf]),iWl 3 (.alloc [(.bool false),.zf]),.w .none none (.store 2 aT2 aS1),.w .none none (.store 2 aT3 aS0)] (iSr [.s (.zh 2 aT2),.s (.zh 2 aT3),iCa 219 [aS1,aS0],iCa 130 [aS0],iQm 1 0] .ret))
def F173.g0 (X1:IR):IR:=(iSr [iQo 1 (.mv (.c (.str [])))] (.seq (iSr [iSm 0,iWl 4 (.call (.c (.fn 170 (.of 170) [])) [aS0])] (.cond aT4 (iSr [iSm 0,iQm 1 0] .ret) .skip)) X1))
def F173.b0:IR:=F173.g0 F173.b1
def F173.res:List RV:=[.t (.of 1)]
def F173:Fn:={ params:=[(.of 0)],res:=F173.res,body:=F173.b0,init:=in5 }
theorem F173.ok:fnA Tryz.prog Tryz.f173 [0,2,3,4,6]=some F173:=by kernel_rfl
abbrev eG.fr:=fr6
def eG.b2:IR:=(iSr [.s (.zy 1 aT1),.s (.load aS0),.s (.bin .neq (.nil .sl) aS0 (.c .zf)),iQm 4 0] (.cond aT4 (.seq (.yw [] [(.s (.zy 0 aT1),0,[]),(.s (.load aS0),0,[]),(.s (.bin .lss .int aS0 aC0),0,[]),(.s (.zy 1 aT1),0,[]),(.s (.load aS0),0,[]),(iQm 2 2,0,[]),(iQm 3 0,0,[])]) .ret) (iSr [.s (.zy 0 aT1),.s (.load aS0),.s (.bin .eql .int aS0 aC0),iQm 5 0] (.cond aT5 (iSr [iQo 2 (.mv (.c (.bool false))),iQo 3 (.mv (.c .zf))] .ret) .skip))))
def eG.g1 (X2:IR):IR:=(.block 0 X2)
def eG.b1:IR:=eG.g1 eG.b2
def eG.b3:IR:=(.seq (.yw [] [(.s (.zy 0 aT1),2,[]),(.s (.load aS0),2,[]),(.s (.bin .lss .int aS0 aC0),2,[]),(.s (.zy 0 aT1),0,[]),(.s (.load aS0),0,[]),(iCa 220 [aS0],0,[]),(iQm 2 3,1,[]),(.w .push none (.zx 1 1 [(.int .u64 0)] [(0,1,aS0)]),0,[]),(iQm 3 0,0,[])]) .ret)
def eG.g0 (X1 X3:IR):IR:=(iSr [iWl 1 (.box aT0),iQo 2 (.mv (.c (.bool false))),iQo 3 (.mv (.c .zf))] (.seq X1 X3))
def eG.b0:IR:=eG.g0 eG.b1 eG.b3
def eG.res:List RV:=[.t (.of 2),.t (.of 3)]
def eG:Fn:={ params:=[(.of 0)],res:=eG.res,body:=eG.b0,init:=in6 }
theorem eG.ok:fnA Tryz.prog Tryz.f174 [0,1,2,3,4,13]=some eG:=by kernel_rfl
abbrev F179.fr:=fr14
def F179.b1:IR:=(iSr [iSm 6,.s (.conv .i64 aS0),.s (.build [(I 0),.zf] [(0,1,aS0)]),.w .none none (.store 2 aT4 aS0)] .ret)
def F179.b2:IR:=(iSr [.s (.zh 2 aT2),iCa 174 [aS0],.s (.mv aS0),.s (.ext 0 aS0),.s (.ext 1 aS1),iQm 7 1,iQm 8 0] (iSr [.s (.zh 2 aT3),iCa 174 [aS0],.s (.mv aS0),.s (.ext 0 aS0),.s (.ext 1 aS1),iQm 9 1,iQm 10 0] (iSr [iSm 7,iSm 9,.s (.bin .neq .bool aS1 aS0),iSm 8,iSm 10,iCa 225 [aS1,aS0],iCa 175 [aS3,aS0],.w .none none (.store 2 aT4 aS0)] .ret)))
def F179.g0 (X1 X2:IR):IR:=(iSr [iWl 2 (.box aT0),iWl 3 (.box aT1),iWl 4 (.alloc [(I 0),.zf])] (.seq (iSr [.s (.zy 1 aT2),.s (.load aS0),.s (.bin .eql (.nil .sl) aS0 (.c .zf)),.s (.mv aS0),iPt 0 (.zy 1 aT3),iPt 1 (.load aS0),iPt 2 (.bin .eql (.nil .sl) aS0 (.c .zf)),iQo 11 (.pick aS3 aS0 (.c (.bool false)))] (.cond rQ (.seq (.yw [] [(.s (.zy 0 aT2),0,[]),(.s (.load aS0),0,[]),(.s (.zy 0 aT3),1,[]),(.s (.load aS0),1,[]),(iCa 220 [aS2],0,[]),(iCa 220 [aS1],0,[]),(iCa 224 [aS1,aS0],0,[]),(.s (.mv aS0),0,[]),(.s (.ext 0 aS0),0,[]),(.s (.ext 1 aS1),0,[]),(iQm 5 1,0,[]),(iQm 6 0,0,[])]) (iSr [iSm 5,.s (.bin .eql .int aS0 (.c (.int .u64 0))),.s (.mv aS0),iPt 0 (.mv aT6),iPt 1 (.bin .leq .int aS0 (.c (.int .u64 9223372036854775807))),iQo 12 (.pick aS2 aS0 (.c (.bool false)))] (.cond sN (.seq (iSr [.s (.zy 0 aT2),.s (.load aS0),.s (.bin .lss .int aS0 aC0),.s (.zy 0 aT3),.s (.load aS0),.s (.bin .lss .int aS0 aC0),iQo 13 (.bin .neq .bool aS3 aS0)] (.cond rJ (iSr [iSm 6,.s (.conv .i64 aS0),.s (.neg aS0),.s (.build [(I 0),.zf] [(0,1,aS0)]),.w .none none (.store 2 aT4 aS0)] .ret) .skip)) X1) .skip))) .skip)) X2))
def F179.b0:IR:=F179.g0 F179.b1 F179.b2
def F179.res:List RV:=[.cell (.of 4) (some 2)]
def F179:Fn:={ params:=[(.of 0),(.of 1)],res:=F179.res,body:=F179.b0,init:=in14 }
theorem F179.ok:fnA Tryz.prog Tryz.f179 [0,1,2,3,4,5,6,7,8,9,10,18,34,41]=some F179:=by kernel_rfl
abbrev F180.fr:=fr3
def F180.b0:IR:=(iSr [iWl 1 (.box aT0),iQo 2 (.mv aC0)] (iSr [.s (.zy 0 aT1),.s (.load aS0),.s (.oP false aC1 [aS0]),.s (.oP true (.c (I (-1))) [aS0]),iQm 2 0] .ret))
def F180.res:List RV:=[.t (.of 2)]
def F180:Fn:={ params:=[(.of 0)],res:=F180.res,body:=F180.b0,init:=in3 }
theorem F180.ok:fnA Tryz.prog Tryz.f180 [0,1,2]=some F180:=by kernel_rfl
abbrev eH.fr:=fr18
def eH.b1:IR:=(iSr [iSm 6,.s (.build [(I 0),.zf] [(0,1,aS0)]),iSm 7,.s (.build [(I 0),.zf] [(0,1,aS0)]),.w .none none (.store 2 aT4 aS2),.w .none none (.store 2 aT5 aS0)] .ret)
def eH.b3:IR:=(.seq (.yw [] [(.s (.zh 2 rJ),0,[]),(.s (.zh 2 oJ),1,[]),(.w .none none (.store 2 aT4 aS1),0,[]),(.w .none none (.store 2 aT5 aS0),0,[])]) .ret)
def eH.g2 (X3:IR):IR:=(iSr [.s (.zh 2 aT2),iCa 174 [aS0],.s (.mv aS0),.s (.ext 0 aS0),.s (.ext 1 aS1),iQm 8 1,iQm 9 0] (iSr [.s (.zh 2 aT3),iCa 174 [aS0],.s (.mv aS0),.s (.ext 0 aS0),.s (.ext 1 aS1),.s (.mv aS1),iQm 10 1] (iSr [iSm 9,iSm 10,iCa 226 [aS1,aS0],.s (.mv aS0),.s (.ext 0 aS0),.s (.ext 1 aS1),iQm 11 1,iQm 12 0] (iSr [iSm 8,iSm 11,iCa 175 [aS1,aS0],iSm 8,iSm 12,iCa 175 [aS1,aS0],iWl 13 (.alloc [(I 0),.zf]),iWl 14 (.alloc [(I 0),.zf]),.w .none none (.store 2 rJ aS3),.w .none none (.store 2 oJ aS0)] (.seq (iSr [.s (.zh 2 oJ),iCa 180 [aS0],iQo 17 (.bin .lss .int aS0 aC0)] (.cond aT17 (.yw [] [(.s (.zh 2 rJ),1,[]),(.s (.zh 2 oJ),2,[]),(.s (.zh 2 aT3),2,[]),(iCa 110 [aC1],0,[]),(iCa 227 [aS3,aS0],0,[]),(iCa 111 [aS3,aS2],0,[]),(.w .none none (.store 2 rJ aS1),0,[]),(.w .none none (.store 2 oJ aS0),0,[])]) .skip)) X3)))))
def eH.b2:IR:=eH.g2 eH.b3
def eH.g0 (X1 X2:IR):IR:=(iSr [iWl 2 (.box aT0),iWl 3 (.box aT1),iWl 4 (.alloc [(I 0),.zf]),iWl 5 (.alloc [(I 0),.zf])] (.seq (iSr [.s (.zy 1 aT2),.s (.load aS0),.s (.bin .eql (.nil .sl) aS0 (.c .zf)),.s (.mv aS0),iPt 0 (.zy 1 aT3),iPt 1 (.load aS0),iPt 2 (.bin .eql (.nil .sl) aS0 (.c .zf)),.s (.pick aS3 aS0 (.c (.bool false))),.s (.mv aS0),iPt 0 (.zy 0 aT2),iPt 1 (.load aS0),iPt 2 (.bin .neq .int aS0 (.c (I (-9223372036854775808)))),iQo 15 (.pick aS3 aS0 (.c (.bool false)))] (.cond aT15 (.seq (.yw [] [(.s (.zy 0 aT2),0,[]),(.s (.load aS0),0,[]),(.s (.zy 0 aT3),0,[]),(.s (.load aS0),0,[]),(.s (.bin .quo .int aS2 aS0),0,[]),(.s (.zy 0 aT2),0,[]),(.s (.load aS0),0,[]),(.s (.zy 0 aT3),0,[]),(.s (.load aS0),0,[]),(.s (.bin .rem .int aS2 aS0),0,[]),(iQm 6 5,0,[]),(iQm 7 0,0,[])]) (.seq (iSr [iSm 7,iQo 16 (.bin .lss .int aS0 aC0)] (.cond aT16 (.yw [] [(iSm 6,0,[]),(.s (.bin .sub .int aS0 aC1),0,[]),(iSm 7,0,[]),(.s (.zy 0 aT3),0,[]),(.s (.load aS0),0,[]),(.s (.bin .add .int aS2 aS0),0,[]),(iQm 6 4,0,[]),(iQm 7 0,0,[])]) .skip)) X1)) .skip)) X2))
def eH.b0:IR:=eH.g0 eH.b1 eH.b2
def eH.res:List RV:=[.cell (.of 4) (some 2),.cell (.of 5) (some 2)]
def eH:Fn:={ params:=[(.of 0),(.of 1)],res:=eH.res,body:=eH.b0,init:=in18 }
theorem eH.ok:fnA Tryz.prog Tryz.f182 [0,1,2,3,4,5,6,7,8,9,11,12,13,14,15,28,40,75]=some eH:=by kernel_rfl
abbrev F183.fr:=fr3
def F183.b0:IR:=(iSr [iWl 1 (.box aT0),iQo 2 (.mv (.c (.bool false)))] (iSr [.s (.zh 2 aT1),iCa 228 [aS0],.s (.bin .gtr .int aS0 zut),.s (.mv aS0),iPt 0 (.zh 2 aT1),.w .push (some (aS1,true)) (.call (.c (.fn 185 (.of 185) [])) [aS0]),.w .push (some (aS2,true)) (.call (.c (.fn 229 (.of 229) [])) [aS0,(.c (.str [45]))]),iPt 3 (.slen aS0),iPt 4 (.bin .gtr .int aS0 zxc),.s (.pick aS5 aS0 (.c (.bool false))),iQm 2 0] .ret))
def F183.res:List RV:=[.t (.of 2)]
def F183:Fn:={ params:=[(.of 0)],res:=F183.res,body:=F183.b0,init:=in3 }
theorem F183.ok:fnA Tryz.prog Tryz.f183 [0,1,2]=some F183:=by kernel_rfl
abbrev F184.fr:=fr3
def F184.b0:IR:=(iSr [iWl 1 (.box aT0),iQo 2 (.mv (.c (.bool false)))] (iSr [.s (.zy 2 aT1),.s (.zy 1 aS0),.s (.load aS0),.s (.bin .eql (.nil .sl) aS0 (.c .zf)),.s (.mv aS0),iPt 0 (.zy 2 aT1),iPt 1 (.zy 0 aS0),iPt 2 (.load aS0),iPt 3 (.bin .eql .int aS0 aC1),.s (.pick aS4 aS0 (.c (.bool false))),iQm 2 0] .ret))
def F184.res:List RV:=[.t (.of 2)]
def F184:Fn:={ params:=[(.of 0)],res:=F184.res,body:=F184.b0,init:=in3 }
theorem F184.ok:fnA Tryz.prog Tryz.f184 [0,1,2]=some F184:=by kernel_rfl
abbrev gy.fr:=fr18
def gy.b8:IR:=(iSr [iSm 6,iSm 9,.w .push none (.zx 1 1 [(.str [])] [(0,1,aS0)]),.w .push none (.app 1 16 aS2 aS0),iQm 6 0] (.reg [iSm 7,iQm 4 0]))
def gy.g7 (X8:IR):IR:=(.seq (iSr [iSm 7,.s (.len aS0),iQo 15 (.bin .gtr .int aS0 aC0)] (.cond aT15 (.reg [iSm 9,.s (.slen aS0),.s (.bin .sub .int aC18 aS0),.w .push none (.call (.c (.fn 232 (.of 232) [])) [(.c (.str [48])),aS0]),iSm 9,.s (.bin .add .str aS1 aS0),iQm 9 0]) .skip)) X8)
def gy.b7:IR:=gy.g7 gy.b8
def gy.g6 (X7:IR):IR:=(iSr [iSm 4,iSm 5,iCa 226 [aS1,aS0],.s (.mv aS0),.s (.ext 0 aS0),.s (.ext 1 aS1),iQm 7 1,iQm 8 0] (iSr [iQo 9 (.mv (.c (.str [48])))] (.seq (iSr [iSm 8,.s (.len aS0),iQo 14 (.bin .gtr .int aS0 aC0)] (.cond oJ (.reg [iSm 8,.s (.zo 1 aS0 aC0),.s (.load aS0),iCa 231 [aS0,aC10],iQm 9 0]) .skip)) X7)))
def gy.b6:IR:=gy.g6 gy.b7
def gy.g5 (X6:IR):IR:=(.block 1 X6)
def gy.b5:IR:=gy.g5 gy.b6
def gy.g4 (X5:IR):IR:=(.seq (iSr [iSm 4,.s (.len aS0),iQo 13 (.bin .gtr .int aS0 aC0)] (.cond rJ .skip (.exit 0))) X5)
def gy.b4:IR:=gy.g4 gy.b5
def gy.g3 (X4:IR):IR:=(.loop X4)
def gy.b3:IR:=gy.g3 gy.b4
def gy.g2 (X3:IR):IR:=(.block 0 X3)
def gy.b2:IR:=gy.g2 gy.b3
def gy.b16:IR:=(.reg [iSm 6,iSm 11,.s (.zo 1 aS1 aS0),.s (.load aS0),iCa 233 [bf,aS0]])
def gy.g15 (X16:IR):IR:=(.block 3 X16)
def gy.b15:IR:=gy.g15 gy.b16
def gy.b17:IR:=(.reg [iSm 11,.s (.bin .sub .int aS0 aC1),iQm 11 0])
def gy.g14 (X15 X17:IR):IR:=(.seq X15 X17)
def gy.b14:IR:=gy.g14 gy.b15 gy.b17
def gy.g13 (X14:IR):IR:=(.seq (iSr [iSm 11,iQo 17 (.bin .geq .int aS0 aC0)] (.cond aT17 .skip (.exit 2))) X14)
def gy.b13:IR:=gy.g13 gy.b14
def gy.g12 (X13:IR):IR:=(.loop X13)
def gy.b12:IR:=gy.g12 gy.b13
def gy.g11 (X12:IR):IR:=(.block 2 X12)
def gy.b11:IR:=gy.g11 gy.b12
def gy.b18:IR:=(iSr [iCa 234 [bf],iQm 2 0] .ret)
def gy.g10 (X11 X18:IR):IR:=(.seq (iSr [iSm 6,.s (.len aS0),.s (.bin .sub .int aS0 aC1),iQm 11 0] X11) X18)
def gy.b10:IR:=gy.g10 gy.b11 gy.b18
def gy.g9 (X10:IR):IR:=(iSr [iWl 10 (.alloc [.ay,.zf])] (.seq (iSr [iQo 16 (.mv aT3)] (.cond aT16 (.reg [.w .push none (.call (.c (.fn 233 (.of 233) [])) [bf,(.c (.str [45]))])]) .skip)) X10))
def gy.b9:IR:=gy.g9 gy.b10
def gy.g1 (X2 X9:IR):IR:=(iSr [.s (.zh 2 aT1),iCa 174 [aS0],.s (.mv aS0),.s (.ext 0 aS0),.s (.ext 1 aS1),iQm 3 1,iQm 4 0] (iSr [.w .push none (.zx 1 1 [(.int .u64 0)] [(0,1,(.c (.int .u64 1000000000000000000)))]),iQm 5 0] (iSr [iQo 6 (.mv (.c .zf))] (.seq X2 X9))))
def gy.b1:IR:=gy.g1 gy.b2 gy.b9
def gy.g0 (X1:IR):IR:=(iSr [iWl 1 (.box aT0),iQo 2 (.mv (.c (.str [])))] (.seq (iSr [.s (.zy 1 aT1),.s (.load aS0),iQo 12 (.bin .eql (.nil .sl) aS0 (.c .zf))] (.cond sN (iSr [.s (.zy 0 aT1),.s (.load aS0),iCa 230 [aS0],iQm 2 0] .ret) .skip)) X1))
def gy.b0:IR:=gy.g0 gy.b1
def gy.res:List RV:=[.t (.of 2)]
def gy:Fn:={ params:=[(.of 0)],res:=gy.res,body:=gy.b0,init:=in18 }
theorem gy.ok:fnA Tryz.prog Tryz.f185 [0,1,2,3,4,5,6,7,8,9,10,11,14,26,35,42,54,60]=some gy:=by kernel_rfl
abbrev sH.fr:=fr14
def sH.b5:IR:=(iSr [iSm 7,iSm 8,iQm 1 1,iQm 2 0,iQo 3 (.mv (.c (.bool true)))] .ret)
def sH.g4 (X5:IR):IR:=(.seq (iSr [iQo 13 (.mv aT5)] (.cond rJ (.reg [iSm 7,.s (.bin .sub .int aC0 aS0),iQm 7 0]) .skip)) X5)
def sH.b4:IR:=sH.g4 sH.b5
def sH.g3 (X4:IR):IR:=(iSr [iSm 4,iSm 6,.s (.rZ aS1 none (some aS0)),iCa 218 [aS0],iQm 7 0,iQo 8 (.mv aC1)] (.seq (iSr [iSm 6,iSm 4,.s (.slen aS0),iQo 12 (.bin .lss .int aS2 aS0)] (.cond sN (.reg [iSm 4,iSm 6,.s (.bin .add .int aS0 aC1),.s (.rZ aS2 (some aS0) none),iCa 218 [aS0],iQm 8 0]) .skip)) X4))
def sH.b3:IR:=sH.g3 sH.b4
def sH.g2 (X3:IR):IR:=(iSr [iSm 4,iCa 126 [aS0],iQm 6 0] (.seq (iSr [iSm 6,.s (.bin .gtr .int aS0 aC9),.s (.mv aS0),iPf 0 (.mv aT4),iPf 1 (.slen aS0),iPf 2 (.mv aT6),iPf 3 (.bin .sub .int aS1 aS0),iPf 4 (.bin .gtr .int aS0 aC10),iQo 11 (.pick aS5 (.c (.bool true)) aS0)] (.cond rQ (iSr [iQo 1 (.mv aC0),iQo 2 (.mv aC0),iQo 3 (.mv (.c (.bool false)))] .ret) .skip)) X3))
def sH.b2:IR:=sH.g2 sH.b3
def sH.g1 (X2:IR):IR:=(iSr [iSm 4,.s (.slen aS0),.s (.bin .gtr .int aS0 aC0),.s (.mv aS0),iPt 0 (.mv aT4),iPt 1 (.sidx aS0 aC0),iPt 2 (.bin .eql .int aS0 (.c (.int .u8 45))),.s (.pick aS3 aS0 (.c (.bool false))),iQm 5 0] (.seq (iSr [iQo 10 (.mv aT5)] (.cond bf (.reg [iSm 4,.s (.rZ aS0 (some aC1) none),iQm 4 0]) .skip)) X2))
def sH.b1:IR:=sH.g1 sH.b2
def sH.g0 (X1:IR):IR:=(iSr [iQo 1 (.mv aC0),iQo 2 (.mv aC0),iQo 3 (.mv (.c (.bool false)))] (iSr [iSm 0,iQm 4 0] (.seq (iSr [iSm 4,.s (.slen aS0),iQo 9 (.bin .gtr .int aS0 aC20)] (.cond aT9 (iSr [iQo 1 (.mv aC0),iQo 2 (.mv aC0),iQo 3 (.mv (.c (.bool false)))] .ret) .skip)) X1)))
def sH.b0:IR:=sH.g0 sH.b1
def sH.res:List RV:=[.t (.of 1),.t (.of 2),.t (.of 3)]
def sH:Fn:={ params:=[(.of 0)],res:=sH.res,body:=sH.b0,init:=in14 }
theorem sH.ok:fnA Tryz.prog Tryz.f186 [0,2,3,4,5,6,7,8,9,13,22,35,43,49]=some sH:=by kernel_rfl
abbrev tV.fr:=fr9
def tV.b4:IR:=(iSr [iSm 4,iQm 2 0] .ret)
def tV.g3 (X4:IR):IR:=(iSr [iSm 4,iSm 0,iSm 0,.s (.bin .sub .int aC0 aS0),.s (.oP true aS2 [aS0]),iCa 194 [aS0,aC1],.s (.bin .add .str aS5 aS0),iQm 4 0] (.seq (iSr [iSm 1,iQo 8 (.bin .gtr .int aS0 aC1)] (.cond aT8 (.reg [iSm 4,.s (.bin .add .str aS0 (.c (.str [47]))),iSm 1,iCa 194 [aS0,aC1],.s (.bin .add .str aS2 aS0),iQm 4 0]) .skip)) X4))
def tV.b3:IR:=tV.g3 tV.b4
def tV.g2 (X3:IR):IR:=(iSr [iSm 0,iSm 0,.s (.bin .sub .int aC0 aS0),.s (.oP true aS2 [aS0]),iSm 1,iCa 199 [aS1,aS0],iQm 3 0] (.seq (.yw [] [(iSm 0,0,[]),(iSm 3,0,[]),(.s (.bin .quo .int aS1 aS0),0,[]),(iSm 1,0,[]),(iSm 3,0,[]),(.s (.bin .quo .int aS1 aS0),0,[]),(iQm 0 3,0,[]),(iQm 1 0,0,[])]) (iSr [iQo 4 (.mv (.c (.str [])))] (.seq (iSr [iSm 0,iQo 7 (.bin .lss .int aS0 aC0)] (.cond aT7 (.reg [iQo 4 (.mv (.c (.str [45])))]) .skip)) X3))))
def tV.b2:IR:=tV.g2 tV.b3
def tV.g1 (X2:IR):IR:=(.seq (iSr [iSm 1,iQo 6 (.bin .lss .int aS0 aC0)] (.cond aT6 (.reg [iSm 0,.s (.bin .sub .int aC0 aS0),iSm 1,.s (.bin .sub .int aC0 aS0),iQm 0 2,iQm 1 0]) .skip)) X2)
def tV.b1:IR:=tV.g1 tV.b2
def tV.g0 (X1:IR):IR:=(iSr [iQo 2 (.mv (.c (.str [])))] (.seq (iSr [iSm 0,.s (.bin .lss .int aS0 (.c (I (-4000000000000000000)))),.s (.mv aS0),iPf 0 (.mv aT0),iPf 1 (.bin .gtr .int aS0 u3),.s (.pick aS2 (.c (.bool true)) aS0),.s (.mv aS0),iPf 0 (.mv aT1),iPf 1 (.bin .lss .int aS0 (.c (I (-4000000000000000000)))),.s (.pick aS2 (.c (.bool true)) aS0),.s (.mv aS0),iPf 0 (.mv aT1),iPf 1 (.bin .gtr .int aS0 u3),iQo 5 (.pick aS2 (.c (.bool true)) aS0)] (.cond aT5 (iSr [iSm 0,iCa 131 [aS0],iSm 1,iCa 131 [aS0],iCa 188 [aS2,aS0],iQm 2 0] .ret) .skip)) X1))
def tV.b0:IR:=tV.g0 tV.b1
def tV.res:List RV:=[.t (.of 2)]
def tV:Fn:={ params:=[(.of 0),(.of 1)],res:=tV.res,body:=tV.b0,init:=in9 }
theorem tV.ok:fnA Tryz.prog Tryz.f187 [0,1,4,5,6,20,27,45,54]=some tV:=by kernel_rfl
abbrev oL.fr:=fr11
def oL.b2:IR:=(iSr [iSm 8,.s (.bin .add .str aS0 (.c (.str [47]))),iSm 7,iCa 195 [(.c (.bool false)),aS0],iCa 130 [aS0],.s (.bin .add .str aS3 aS0),iQm 4 0] .ret)
def oL.g1 (X2:IR):IR:=(iSr [.s (.zy 1 aT2),.s (.load aS0),.s (.zy 1 aT3),.s (.load aS0),iCa 129 [aS2,aS0],iQm 5 0] (iSr [.s (.zy 1 aT2),.s (.load aS0),iSm 5,iCa 193 [aS1,aS0],.s (.mv aS0),.s (.ext 0 aS0),.s (.ext 1 aS1),iQm 6 1,.s (.mv aS0)] (iSr [.s (.zy 1 aT3),.s (.load aS0),iSm 5,iCa 193 [aS1,aS0],.s (.mv aS0),.s (.ext 0 aS0),.s (.ext 1 aS1),iQm 7 1,.s (.mv aS0)] (iSr [.s (.zy 0 aT2),.s (.load aS0),iSm 6,iCa 195 [aS1,aS0],iCa 130 [aS0],iQm 8 0] (.seq (iSr [iSm 7,.s (.len aS0),.s (.bin .eql .int aS0 aC1),.s (.mv aS0),iPt 0 (.mv aT7),iPt 1 (.zo 1 aS0 aC0),iPt 2 (.load aS0),iPt 3 (.bin .eql .int aS0 aC1),iQo 10 (.pick aS4 aS0 (.c (.bool false)))] (.cond bf (iSr [iSm 8,iQm 4 0] .ret) .skip)) X2)))))
def oL.b1:IR:=oL.g1 oL.b2
def oL.g0 (X1:IR):IR:=(iSr [iWl 2 (.box aT0),iWl 3 (.box aT1),iQo 4 (.mv (.c (.str [])))] (.seq (iSr [.s (.zy 0 aT3),iQo 9 (.load aS0)] (.cond aT9 (.yw [] [(.s (.zh 2 aT2),0,[]),(.s (.zh 2 aT3),1,[]),(iCa 235 [aS1],0,[]),(iCa 235 [aS1],0,[]),(.w .none none (.store 2 aT2 aS1),0,[]),(.w .none none (.store 2 aT3 aS0),0,[])]) .skip)) X1))
def oL.b0:IR:=oL.g0 oL.b1
def oL.res:List RV:=[.t (.of 4)]
def oL:Fn:={ params:=[(.of 0),(.of 1)],res:=oL.res,body:=oL.b0,init:=in11 }
theorem oL.ok:fnA Tryz.prog Tryz.f188 [0,1,2,3,4,5,6,8,10,12,49]=some oL:=by kernel_rfl
abbrev F191.fr:=fr4
def F191.b0:IR:=(iSr [iQo 1 (.mv (.c (.str [])))] (iSr [iSm 0,iCa 128 [aS0],.s (.mv aS0),.s (.ext 0 aS0),.s (.ext 1 aS1),iWl 2 (.alloc [(.bool false),.zf]),iWl 3 (.alloc [(.bool false),.zf]),.w .none none (.store 2 aT2 aS1),.w .none none (.store 2 aT3 aS0)] (iSr [.s (.zh 2 aT3),.s (.zh 2 aT2),iCa 188 [aS1,aS0],iQm 1 0] .ret)))
def F191.res:List RV:=[.t (.of 1)]
def F191:Fn:={ params:=[(.of 0)],res:=F191.res,body:=F191.b0,init:=in4 }
theorem F191.ok:fnA Tryz.prog Tryz.f191 [0,2,3,4]=some F191:=by kernel_rfl
abbrev jh.fr:=fr29
def jh.b7:IR:=(.reg [iSm 9,.w .push none (.zx 1 1 [(I 0)] [(0,1,aC0)]),.w .push none (.app 1 8 aS1 aS0),iQm 9 0])
def jh.g6 (X7:IR):IR:=(.block 1 X7)
def jh.b6:IR:=jh.g6 jh.b7
def jh.g5 (X6:IR):IR:=(.seq (iSr [iSm 9,.s (.len aS0),iSm 0,.s (.len aS0),.s (.bin .add .int aS0 aC1),iQo 23 (.bin .lss .int aS3 aS0)] (.cond aT23 .skip (.exit 0))) X6)
def jh.b5:IR:=jh.g5 jh.b6
def jh.g4 (X5:IR):IR:=(.loop X5)
def jh.b4:IR:=jh.g4 jh.b5
def jh.g3 (X4:IR):IR:=(.block 0 X4)
def jh.b3:IR:=jh.g3 jh.b4
def jh.b21:IR:=(.reg [iSm 9,iSm 14,iSm 11,.s (.bin .add .int aS1 aS0),iSm 16,.s (.zo 1 aS4 aS1),.w .none none (.store 1 aS0 aS1)])
def jh.g20 (X21:IR):IR:=(iSr [iSm 12,iSm 7,iSm 14,.s (.zo 1 aS1 aS0),.s (.load aS0),.s (.bin .mul .int aS4 aS0),iSm 13,.s (.bin .add .int aS1 aS0),iQm 15 0] (iSr [iSm 9,iSm 14,iSm 11,.s (.bin .add .int aS1 aS0),.s (.zo 1 aS3 aS0),.s (.load aS0),iSm 15,.s (.bin .rem .int aS0 jF),.s (.bin .sub .int aS2 aS0),iQm 16 0] (iSr [iSm 15,.s (.bin .quo .int aS0 jF),iQm 13 0] (.seq (iSr [iSm 16,iQo 26 (.bin .lss .int aS0 aC0)] (.cond aT26 (iSr [iSm 16,.s (.bin .add .int aS0 jF),iQm 16 0] (.reg [iSm 13,.s (.bin .add .int aS0 aC1),iQm 13 0])) .skip)) X21))))
def jh.b20:IR:=jh.g20 jh.b21
def jh.g19 (X20:IR):IR:=(.block 5 X20)
def jh.b19:IR:=jh.g19 jh.b20
def jh.b22:IR:=(.reg [iSm 14,.s (.bin .add .int aS0 aC1),iQm 14 0])
def jh.g18 (X19 X22:IR):IR:=(.seq X19 X22)
def jh.b18:IR:=jh.g18 jh.b19 jh.b22
def jh.g17 (X18:IR):IR:=(.seq (iSr [iSm 14,iSm 8,iQo 25 (.bin .lss .int aS1 aS0)] (.cond aT25 .skip (.exit 4))) X18)
def jh.b17:IR:=jh.g17 jh.b18
def jh.g16 (X17:IR):IR:=(.loop X17)
def jh.b16:IR:=jh.g16 jh.b17
def jh.g15 (X16:IR):IR:=(.block 4 X16)
def jh.b15:IR:=jh.g15 jh.b16
def jh.b29:IR:=(.seq (.yw [] [(iSm 9,0,[]),(iSm 18,0,[]),(iSm 11,0,[]),(.s (.bin .add .int aS1 aS0),0,[]),(.s (.zo 1 aS3 aS0),0,[]),(.s (.load aS0),0,[]),(iSm 7,0,[]),(iSm 18,0,[]),(.s (.zo 1 aS1 aS0),0,[]),(.s (.load aS0),0,[]),(.s (.bin .add .int aS4 aS0),0,[]),(iSm 17,0,[]),(.s (.bin .add .int aS1 aS0),0,[]),(iQm 19 0,0,[])]) (iSr [iSm 9,iSm 18,iSm 11,.s (.bin .add .int aS1 aS0),iSm 19,.s (.bin .rem .int aS0 jF),.s (.zo 1 aS5 aS2),.w .none none (.store 1 aS0 aS1)] (.reg [iSm 19,.s (.bin .quo .int aS0 jF),iQm 17 0])))
def jh.g28 (X29:IR):IR:=(.block 7 X29)
def jh.b28:IR:=jh.g28 jh.b29
def jh.b30:IR:=(.reg [iSm 18,.s (.bin .add .int aS0 aC1),iQm 18 0])
def jh.g27 (X28 X30:IR):IR:=(.seq X28 X30)
def jh.b27:IR:=jh.g27 jh.b28 jh.b30
def jh.g26 (X27:IR):IR:=(.seq (iSr [iSm 18,iSm 8,iQo 28 (.bin .lss .int aS1 aS0)] (.cond aT28 .skip (.exit 6))) X27)
def jh.b26:IR:=jh.g26 jh.b27
def jh.g25 (X26:IR):IR:=(.loop X26)
def jh.b25:IR:=jh.g25 jh.b26
def jh.g24 (X25:IR):IR:=(.block 6 X25)
def jh.b24:IR:=jh.g24 jh.b25
def jh.b31:IR:=(.reg [iSm 9,iSm 11,iSm 8,.s (.bin .add .int aS1 aS0),iSm 9,iSm 11,iSm 8,.s (.bin .add .int aS1 aS0),.s (.zo 1 aS3 aS0),.s (.load aS0),iSm 17,.s (.bin .add .int aS1 aS0),.s (.zo 1 aS11 aS8),.w .none none (.store 1 aS0 aS1)])
def jh.b32:IR:=(.reg [iSm 10,iSm 11,iSm 12,.s (.zo 1 aS2 aS1),.w .none none (.store 1 aS0 aS1)])
def jh.g23 (X24 X31 X32:IR):IR:=(iSr [iSm 9,iSm 11,iSm 8,.s (.bin .add .int aS1 aS0),iSm 9,iSm 11,iSm 8,.s (.bin .add .int aS1 aS0),.s (.zo 1 aS3 aS0),.s (.load aS0),iSm 13,.s (.bin .sub .int aS1 aS0),.s (.zo 1 aS11 aS8),.w .none none (.store 1 aS0 aS1)] (.seq (iSr [iSm 9,iSm 11,iSm 8,.s (.bin .add .int aS1 aS0),.s (.zo 1 aS3 aS0),.s (.load aS0),iQo 27 (.bin .lss .int aS0 aC0)] (.cond aT27 (iSr [iSm 12,.s (.bin .sub .int aS0 aC1),iQm 12 0] (iSr [iQo 17 (.mv aC0)] (.seq (iSr [iQo 18 (.mv aC0)] X24) X31))) .skip)) X32))
def jh.b23:IR:=jh.g23 jh.b24 jh.b31 jh.b32
def jh.g14 (X15 X23:IR):IR:=(iSr [iSm 9,iSm 7,iSm 11,iCa 242 [aS2,aS1,aS0],iQm 12 0] (iSr [iQo 13 (.mv aC0)] (.seq (iSr [iQo 14 (.mv aC0)] X15) X23)))
def jh.b14:IR:=jh.g14 jh.b15 jh.b23
def jh.g13 (X14:IR):IR:=(.block 3 X14)
def jh.b13:IR:=jh.g13 jh.b14
def jh.b33:IR:=(.reg [iSm 11,.s (.bin .sub .int aS0 aC1),iQm 11 0])
def jh.g12 (X13 X33:IR):IR:=(.seq X13 X33)
def jh.b12:IR:=jh.g12 jh.b13 jh.b33
def jh.g11 (X12:IR):IR:=(.seq (iSr [iSm 11,iQo 24 (.bin .geq .int aS0 aC0)] (.cond aT24 .skip (.exit 2))) X12)
def jh.b11:IR:=jh.g11 jh.b12
def jh.g10 (X11:IR):IR:=(.loop X11)
def jh.b10:IR:=jh.g10 jh.b11
def jh.g9 (X10:IR):IR:=(.block 2 X10)
def jh.b9:IR:=jh.g9 jh.b10
def jh.b34:IR:=(.seq (.yw [] [(iSm 9,0,[]),(iSm 8,0,[]),(.s (.slice 1 aS1 none (some aS0) none),0,[]),(iSm 6,1,[]),(.s (.zo 1 aS0 aC0),1,[]),(.s (.load aS0),1,[]),(iCa 241 [aS3],0,[]),(iCa 240 [aS0,aS1],0,[]),(.s (.mv aS0),0,[]),(.s (.ext 0 aS0),0,[]),(.s (.ext 1 aS1),0,[]),(iQm 20 1,0,[]),(.s (.mv aS0),0,[])]) (iSr [iSm 10,iCa 241 [aS0],iSm 20,iQm 2 1,iQm 3 0] .ret))
def jh.g8 (X9 X34:IR):IR:=(iSr [iSm 9,.s (.len aS0),iSm 8,.s (.bin .sub .int aS1 aS0),.w .push none (.uf 1 8 [(I 0)] aS0 aS0),iQm 10 0] (.seq (iSr [iSm 9,.s (.len aS0),iSm 8,.s (.bin .sub .int aS1 aS0),.s (.bin .sub .int aS0 aC1),iQm 11 0] X9) X34))
def jh.b8:IR:=jh.g8 jh.b9 jh.b34
def jh.g2 (X3 X8:IR):IR:=(iSr [iSm 1,iSm 1,.s (.len aS0),.s (.bin .sub .int aS0 aC1),.s (.zo 1 aS3 aS0),.s (.load aS0),.s (.bin .add .int aS0 aC1),.s (.bin .quo .int jF aS0),.w .push none (.zx 1 1 [(I 0)] [(0,1,aS0)]),iQm 6 0] (iSr [iSm 1,iSm 6,iCa 239 [aS1,aS0],iQm 7 0] (iSr [iSm 7,.s (.len aS0),iQm 8 0] (iSr [.w .push none (.zx 1 0 [(I 0)] []),iSm 0,iSm 6,iCa 239 [aS1,aS0],.w .push none (.app 1 8 aS3 aS0),iQm 9 0] (.seq X3 X8)))))
def jh.b2:IR:=jh.g2 jh.b3 jh.b8
def jh.g1 (X2:IR):IR:=(.seq (iSr [iSm 1,.s (.len aS0),iQo 22 (.bin .eql .int aS0 aC1)] (.cond aT22 (iSr [iSm 0,iSm 1,.s (.zo 1 aS0 aC0),.s (.load aS0),iCa 240 [aS3,aS0],.s (.mv aS0),.s (.ext 0 aS0),.s (.ext 1 aS1),iQm 4 1,iQm 5 0] (iSr [iSm 4,iSm 5,.w .push none (.zx 1 1 [(I 0)] [(0,1,aS0)]),iCa 241 [aS0],iQm 2 3,iQm 3 0] .ret)) .skip)) X2)
def jh.b1:IR:=jh.g1 jh.b2
def jh.g0 (X1:IR):IR:=(iSr [iQo 2 (.mv (.c .zf)),iQo 3 (.mv (.c .zf))] (.seq (iSr [iSm 0,iSm 1,iCa 237 [aS1,aS0],iQo 21 (.bin .lss .int aS0 aC0)] (.cond aT21 (iSr [iSm 0,iQo 2 (.mv (.c .zf)),iQm 3 0] .ret) .skip)) X1))
def jh.b0:IR:=jh.g0 jh.b1
def jh.res:List RV:=[.t (.of 2),.t (.of 3)]
def jh:Fn:={ params:=[(.of 0),(.of 1)],res:=jh.res,body:=jh.b0,init:=in29 }
theorem jh.ok:fnA Tryz.prog Tryz.f193 [0,1,4,5,6,7,8,9,10,11,12,13,14,15,16,17,18,19,20,21,22,27,31,68,83,92,115,145,150]=some jh:=by kernel_rfl
abbrev rW.fr:=fr5
def rW.b5:IR:=(iSr [iSm 0,.s (.bin .rem .int aS0 aC10),iSm 0,.s (.bin .rem .int aS0 aC10),.s (.bin .add .int aS0 aC1),.s (.rZ (.c (.str [48,49,50,51,52,53,54,55,56,57])) (some aS3) (some aS0)),iSm 3,.s (.bin .add .str aS1 aS0),iQm 3 0] (.reg [iSm 0,.s (.bin .quo .int aS0 aC10),iQm 0 0]))
def rW.g4 (X5:IR):IR:=(.block 1 X5)
def rW.b4:IR:=rW.g4 rW.b5
def rW.g3 (X4:IR):IR:=(.seq (iSr [iSm 0,.s (.bin .gtr .int aS0 aC0),.s (.mv aS0),iPf 0 (.mv aT3),iPf 1 (.slen aS0),iPf 2 (.mv aT1),iPf 3 (.bin .lss .int aS1 aS0),iQo 4 (.pick aS4 (.c (.bool true)) aS0)] (.cond aT4 .skip (.exit 0))) X4)
def rW.b3:IR:=rW.g3 rW.b4
def rW.g2 (X3:IR):IR:=(.loop X3)
def rW.b2:IR:=rW.g2 rW.b3
def rW.g1 (X2:IR):IR:=(.block 0 X2)
def rW.b1:IR:=rW.g1 rW.b2
def rW.b6:IR:=(iSr [iSm 3,iQm 2 0] .ret)
def rW.g0 (X1 X6:IR):IR:=(iSr [iQo 2 (.mv (.c (.str [])))] (iSr [iQo 3 (.mv (.c (.str [])))] (.seq X1 X6)))
def rW.b0:IR:=rW.g0 rW.b1 rW.b6
def rW.res:List RV:=[.t (.of 2)]
def rW:Fn:={ params:=[(.of 0),(.of 1)],res:=rW.res,body:=rW.b0,init:=in5 }
theorem rW.ok:fnA Tryz.prog Tryz.f194 [0,1,4,5,13]=some rW:=by kernel_rfl
abbrev F195.fr:=fr3
def F195.b0:IR:=(iSr [iWl 2 (.alloc [(.bool false),.zf])] (iSr [iSm 1,iCa 241 [aS0],iQm 1 0] (iSr [iSm 0,.s (.mv aS0),iPt 0 (.mv aT1),iPt 1 (.len aS0),iPt 2 (.bin .gtr .int aS0 aC0),.s (.pick aS3 aS0 (.c (.bool false))),iSm 1,.s (.build [(.bool false),.zf] [(0,1,aS1),(1,1,aS0)]),.w .none none (.store 2 aT2 aS0)] .ret)))
def F195.res:List RV:=[.cell (.of 2) (some 2)]
def F195:Fn:={ params:=[(.of 0),(.of 1)],res:=F195.res,body:=F195.b0,init:=in3 }
theorem F195.ok:fnA Tryz.prog Tryz.f195 [0,1,4]=some F195:=by kernel_rfl
abbrev oM.fr:=fr4
def oM.b2:IR:=(iSr [iSm 0,.s (.bin .add .str (.c (.str [45])) aS0),iQm 1 0] .ret)
def oM.g1 (X2:IR):IR:=(.seq (iSr [iSm 0,iCa 132 [aS0],iQo 3 (.bin .eql .int aS0 aC0)] (.cond aT3 (iSr [iSm 0,iQm 1 0] .ret) .skip)) X2)
def oM.b1:IR:=oM.g1 oM.b2
def oM.g0 (X1:IR):IR:=(iSr [iQo 1 (.mv (.c (.str [])))] (.seq (iSr [iSm 0,iCa 132 [aS0],iQo 2 (.bin .lss .int aS0 aC0)] (.cond aT2 (iSr [iSm 0,.s (.rZ aS0 (some aC1) none),iQm 1 0] .ret) .skip)) X1))
def oM.b0:IR:=oM.g0 oM.b1
def oM.res:List RV:=[.t (.of 1)]
def oM:Fn:={ params:=[(.of 0)],res:=oM.res,body:=oM.b0,init:=in4 }
theorem oM.ok:fnA Tryz.prog Tryz.f196 [0,2,5,10]=some oM:=by kernel_rfl
abbrev ng.fr:=fr8
def ng.b6:IR:=(iSr [iSm 5,iQm 3 0] (iSr [iSm 1,iSm 0,iSm 3,.s (.zo 1 aS1 aS0),.s (.load aS0),iWl 7 (.call aS4 [aS0])] (.cond aT7 (iSr [iSm 3,iQm 2 0] .ret) .skip)))
def ng.g5 (X6:IR):IR:=(.block 1 X6)
def ng.b5:IR:=ng.g5 ng.b6
def ng.b7:IR:=(.reg [.s (.bin .add .int aT5 aC1),iQm 5 0])
def ng.g4 (X5 X7:IR):IR:=(.seq X5 X7)
def ng.b4:IR:=ng.g4 ng.b5 ng.b7
def ng.g3 (X4:IR):IR:=(iSr [iQo 6 (.bin .lss .int aT5 aT4)] (.seq (.cond aT6 .skip (.exit 0)) X4))
def ng.b3:IR:=ng.g3 ng.b4
def ng.g2 (X3:IR):IR:=(.loop X3)
def ng.b2:IR:=ng.g2 ng.b3
def ng.g1 (X2:IR):IR:=(.block 0 X2)
def ng.b1:IR:=ng.g1 ng.b2
def ng.b8:IR:=(iSr [iQo 2 (.mv (.c (I (-1))))] .ret)
def ng.g0 (X1 X8:IR):IR:=(iSr [iQo 2 (.mv aC0)] (.seq (iSr [iSm 0,iQo 4 (.len aS0),iQo 5 (.mv aC0)] X1) X8))
def ng.b0:IR:=ng.g0 ng.b1 ng.b8
def ng.res:List RV:=[.t (.of 2)]
def ng:Fn:={ params:=[(.of 0),(.of 1)],res:=ng.res,body:=ng.b0,init:=in8 }
theorem ng.ok:fnA Tryz.prog Tryz.f197 [0,1,4,5,7,8,9,16]=some ng:=by kernel_rfl
abbrev jo.fr:=fr10
def jo.b8:IR:=(.reg [iSm 2,iSm 3,.s (.zo 1 aS1 aS0),.w .none none (.store 1 aS0 (.c (.bool true)))])
def jo.g7 (X8:IR):IR:=(iSr [.s (.zo 1 aT5 aT7),.s (.load aS0),iQm 3 0] (.seq (iSr [iSm 3,.s (.bin .lss .int aS0 aC0),.s (.mv aS0),iPf 0 (.mv aT3),iPf 1 (.mv aT0),iPf 2 (.len aS0),iPf 3 (.bin .geq .int aS2 aS0),.s (.pick aS4 (.c (.bool true)) aS0),.s (.mv aS0),iPf 0 (.mv aT2),iPf 1 (.mv aT3),iPf 2 (.zo 1 aS1 aS0),iPf 3 (.load aS0),iQo 9 (.pick aS4 (.c (.bool true)) aS0)] (.cond aT9 (iSr [iQo 1 (.mv aC14)] .ret) .skip)) X8))
def jo.b7:IR:=jo.g7 jo.b8
def jo.g6 (X7:IR):IR:=(.block 1 X7)
def jo.b6:IR:=jo.g6 jo.b7
def jo.b9:IR:=(.reg [.s (.bin .add .int aT7 aC1),iQm 7 0])
def jo.g5 (X6 X9:IR):IR:=(.seq X6 X9)
def jo.b5:IR:=jo.g5 jo.b6 jo.b9
def jo.g4 (X5:IR):IR:=(iSr [iQo 8 (.bin .lss .int aT7 aT6)] (.seq (.cond aT8 .skip (.exit 0)) X5))
def jo.b4:IR:=jo.g4 jo.b5
def jo.g3 (X4:IR):IR:=(.loop X4)
def jo.b3:IR:=jo.g3 jo.b4
def jo.g2 (X3:IR):IR:=(.block 0 X3)
def jo.b2:IR:=jo.g2 jo.b3
def jo.b10:IR:=(iSr [iQo 1 (.mv aC0)] .ret)
def jo.g1 (X2 X10:IR):IR:=(iSr [iSm 0,.s (.len aS0),.w .push none (.uf 1 1 [(.bool false)] aS0 aS0),iQm 2 0] (.seq (iSr [iQo 5 (.mv aT0),iQo 6 (.len aT5),iQo 7 (.mv aC0)] X2) X10))
def jo.b1:IR:=jo.g1 jo.b2 jo.b10
def jo.g0 (X1:IR):IR:=(iSr [iQo 1 (.mv aC0)] (.seq (iSr [iSm 0,.s (.len aS0),iQo 4 (.bin .gtr .int aS0 zfy)] (.cond aT4 (iSr [iQo 1 (.mv aC5)] .ret) .skip)) X1))
def jo.b0:IR:=jo.g0 jo.b1
def jo.res:List RV:=[.t (.of 1)]
def jo:Fn:={ params:=[(.of 0)],res:=jo.res,body:=jo.b0,init:=in10 }
theorem jo.ok:fnA Tryz.prog Tryz.f198 [0,2,3,5,8,12,13,14,15,31]=some jo:=by kernel_rfl
abbrev rX.fr:=fr4
def rX.b5:IR:=(.yw [] [(iSm 1,0,[]),(iSm 0,0,[]),(iSm 1,0,[]),(.s (.bin .rem .int aS1 aS0),0,[]),(iQm 0 3,0,[]),(iQm 1 0,0,[])])
def rX.g4 (X5:IR):IR:=(.block 1 X5)
def rX.b4:IR:=rX.g4 rX.b5
def rX.g3 (X4:IR):IR:=(.seq (iSr [iSm 1,iQo 3 (.bin .gtr .int aS0 aC0)] (.cond aT3 .skip (.exit 0))) X4)
def rX.b3:IR:=rX.g3 rX.b4
def rX.g2 (X3:IR):IR:=(.loop X3)
def rX.b2:IR:=rX.g2 rX.b3
def rX.g1 (X2:IR):IR:=(.block 0 X2)
def rX.b1:IR:=rX.g1 rX.b2
def rX.b6:IR:=(iSr [iSm 0,iQm 2 0] .ret)
def rX.g0 (X1 X6:IR):IR:=(iSr [iQo 2 (.mv aC0)] (.seq X1 X6))
def rX.b0:IR:=rX.g0 rX.b1 rX.b6
def rX.res:List RV:=[.t (.of 2)]
def rX:Fn:={ params:=[(.of 0),(.of 1)],res:=rX.res,body:=rX.b0,init:=in4 }
theorem rX.ok:fnA Tryz.prog Tryz.f199 [0,1,4,6]=some rX:=by kernel_rfl
abbrev F200.fr:=fr3
def F200.b0:IR:=(iSr [iSm 0,.s (.len aS0),iQm 2 0] (.reg [iSm 0,iSm 2,iSm 2,.s (.conv .u64 aS0),iCa 161 [aS0],iSm 1,iCa 243 [aS5,aC0,aS4,aS1,aS0]]))
def F200.res:List RV:=[]
def F200:Fn:={ params:=[(.of 0),(.of 1)],res:=F200.res,body:=F200.b0,init:=in3 }
theorem F200.ok:fnA Tryz.prog Tryz.f200 [0,1,4]=some F200:=by kernel_rfl
abbrev gu.fr:=fr14
def gu.b7:IR:=(iSr [iSm 1,iSm 3,.s (.zo 1 aS1 aS0),.s (.load aS0),iQm 5 0] (iSr [iSm 4,iSm 5,iCa 244 [aS1,aS0],iQm 6 0] (iSr [iSm 6,iQo 12 (.bin .neq .int aS0 aC0)] (.cond sN (iSr [iSm 6,iQm 2 0] .ret) .skip))))
def gu.g6 (X7:IR):IR:=(iSr [iSm 9,.s (.zo 1 aT7 aT9),.s (.load aS0),iQm 3 2,iQm 4 0] (.seq (iSr [iSm 3,iSm 1,.s (.len aS0),iQo 11 (.bin .geq .int aS2 aS0)] (.cond rQ (iSr [iQo 2 (.mv aC1)] .ret) .skip)) X7))
def gu.b6:IR:=gu.g6 gu.b7
def gu.g5 (X6:IR):IR:=(.block 1 X6)
def gu.b5:IR:=gu.g5 gu.b6
def gu.b8:IR:=(.reg [.s (.bin .add .int aT9 aC1),iQm 9 0])
def gu.g4 (X5 X8:IR):IR:=(.seq X5 X8)
def gu.b4:IR:=gu.g4 gu.b5 gu.b8
def gu.g3 (X4:IR):IR:=(iSr [iQo 10 (.bin .lss .int aT9 aT8)] (.seq (.cond bf .skip (.exit 0)) X4))
def gu.b3:IR:=gu.g3 gu.b4
def gu.g2 (X3:IR):IR:=(.loop X3)
def gu.b2:IR:=gu.g2 gu.b3
def gu.g1 (X2:IR):IR:=(.block 0 X2)
def gu.b1:IR:=gu.g1 gu.b2
def gu.b10:IR:=(iSr [iQo 2 (.mv aC0)] .ret)
def gu.g9 (X10:IR):IR:=(.seq (iSr [iSm 0,.s (.len aS0),iSm 1,.s (.len aS0),iQo 13 (.bin .lss .int aS2 aS0)] (.cond rJ (iSr [iQo 2 (.mv (.c (I (-1))))] .ret) .skip)) X10)
def gu.b9:IR:=gu.g9 gu.b10
def gu.g0 (X1 X9:IR):IR:=(iSr [iQo 2 (.mv aC0)] (.seq (iSr [iQo 7 (.mv aT0),iQo 8 (.len aT7),iQo 9 (.mv aC0)] X1) X9))
def gu.b0:IR:=gu.g0 gu.b1 gu.b9
def gu.res:List RV:=[.t (.of 2)]
def gu:Fn:={ params:=[(.of 0),(.of 1)],res:=gu.res,body:=gu.b0,init:=in14 }
theorem gu.ok:fnA Tryz.prog Tryz.f201 [0,1,4,5,6,7,8,9,10,11,12,19,28,35]=some gu:=by kernel_rfl
abbrev uq.fr:=fr11
def uq.b13:IR:=(.seq (.yw [] [(iSm 1,0,[]),(iSm 4,0,[]),(iSm 5,0,[]),(.s (.zo 1 aS1 aS0),0,[]),(.s (.load aS0),0,[]),(iSm 4,0,[]),(iSm 5,0,[]),(.s (.bin .sub .int aS0 aC1),0,[]),(.s (.zo 1 aS2 aS0),0,[]),(.s (.load aS0),0,[]),(.w .push none (.call aS9 [aS5,aS0]),0,[]),(iQo 10 (.not aS0),0,[])]) (.cond bf (iSr [iSm 0,iSm 3,iSm 4,iSm 5,.s (.zo 1 aS1 aS0),.s (.load aS0),.s (.zo 1 aS5 aS4),.w .none none (.store 1 aS0 aS1)] (.reg [iSm 3,.s (.bin .add .int aS0 aC1),iQm 3 0])) .skip))
def uq.g12 (X13:IR):IR:=(.block 3 X13)
def uq.b12:IR:=uq.g12 uq.b13
def uq.b14:IR:=(.reg [iSm 5,.s (.bin .add .int aS0 aC1),iQm 5 0])
def uq.g11 (X12 X14:IR):IR:=(.seq X12 X14)
def uq.b11:IR:=uq.g11 uq.b12 uq.b14
def uq.g10 (X11:IR):IR:=(.seq (iSr [iSm 5,iSm 4,.s (.len aS0),iQo 9 (.bin .lss .int aS2 aS0)] (.cond aT9 .skip (.exit 2))) X11)
def uq.b10:IR:=uq.g10 uq.b11
def uq.g9 (X10:IR):IR:=(.loop X10)
def uq.b9:IR:=uq.g9 uq.b10
def uq.g8 (X9:IR):IR:=(.block 2 X9)
def uq.b8:IR:=uq.g8 uq.b9
def uq.b15:IR:=(iSr [iSm 0,iSm 3,.s (.slice 1 aS1 (some aS0) none none),.w .none none (.clr 1 [.zf] aS0)] (iSr [iSm 0,iSm 3,.s (.slice 1 aS1 none (some aS0) none),iQm 2 0] .ret))
def uq.g7 (X8 X15:IR):IR:=(.seq (.yw [] [(iSm 1,0,[]),(iSm 0,0,[]),(iSm 3,0,[]),(.s (.zo 1 aS1 aS0),0,[]),(.s (.load aS0),0,[]),(iSm 0,0,[]),(iSm 3,0,[]),(.s (.bin .sub .int aS0 aC1),0,[]),(.s (.zo 1 aS2 aS0),0,[]),(.s (.load aS0),0,[]),(iWl 8 (.call aS9 [aS5,aS0]),0,[])]) (.cond aT8 (iSr [iSm 0,iSm 3,.s (.slice 1 aS1 (some aS0) none none),iQm 4 0] (.seq (iSr [iQo 5 (.mv aC1)] X8) X15)) .skip))
def uq.b7:IR:=uq.g7 uq.b8 uq.b15
def uq.g6 (X7:IR):IR:=(.block 1 X7)
def uq.b6:IR:=uq.g6 uq.b7
def uq.b16:IR:=(.reg [iSm 3,.s (.bin .add .int aS0 aC1),iQm 3 0])
def uq.g5 (X6 X16:IR):IR:=(.seq X6 X16)
def uq.b5:IR:=uq.g5 uq.b6 uq.b16
def uq.g4 (X5:IR):IR:=(.seq (iSr [iSm 3,iSm 0,.s (.len aS0),iQo 7 (.bin .lss .int aS2 aS0)] (.cond aT7 .skip (.exit 0))) X5)
def uq.b4:IR:=uq.g4 uq.b5
def uq.g3 (X4:IR):IR:=(.loop X4)
def uq.b3:IR:=uq.g3 uq.b4
def uq.g2 (X3:IR):IR:=(.block 0 X3)
def uq.b2:IR:=uq.g2 uq.b3
def uq.b17:IR:=(iSr [iSm 0,iQm 2 0] .ret)
def uq.g1 (X2 X17:IR):IR:=(.seq (iSr [iQo 3 (.mv aC1)] X2) X17)
def uq.b1:IR:=uq.g1 uq.b2 uq.b17
def uq.g0 (X1:IR):IR:=(iSr [iQo 2 (.mv (.c .zf))] (.seq (iSr [iSm 0,.s (.len aS0),iQo 6 (.bin .lss .int aS0 aC2)] (.cond aT6 (iSr [iSm 0,iQm 2 0] .ret) .skip)) X1))
def uq.b0:IR:=uq.g0 uq.b1
def uq.res:List RV:=[.t (.of 2)]
def uq:Fn:={ params:=[(.of 0),(.of 1)],res:=uq.res,body:=uq.b0,init:=in11 }
theorem uq.ok:fnA Tryz.prog Tryz.f202 [0,1,4,5,6,7,10,15,28,35,49]=some uq:=by kernel_rfl
abbrev qm.fr:=fr7
def qm.b12:IR:=(.yw [] [(iSm 0,0,[]),(iSm 4,0,[]),(iSm 0,1,[]),(iSm 4,1,[]),(.s (.bin .sub .int aS0 aC1),1,[]),(iSm 0,0,[]),(iSm 4,0,[]),(.s (.bin .sub .int aS0 aC1),0,[]),(.s (.zo 1 aS2 aS0),0,[]),(.s (.load aS0),0,[]),(iSm 0,0,[]),(iSm 4,0,[]),(.s (.zo 1 aS1 aS0),0,[]),(.s (.load aS0),0,[]),(.s (.zo 1 aS13 aS12),0,[]),(.w .none none (.store 1 aS0 aS5),0,[]),(.s (.zo 1 aS12 aS10),0,[]),(.w .none none (.store 1 aS0 aS2),0,[])])
def qm.g11 (X12:IR):IR:=(.block 3 X12)
def qm.b11:IR:=qm.g11 qm.b12
def qm.b13:IR:=(.reg [iSm 4,.s (.bin .sub .int aS0 aC1),iQm 4 0])
def qm.g10 (X11 X13:IR):IR:=(.seq X11 X13)
def qm.b10:IR:=qm.g10 qm.b11 qm.b13
def qm.g9 (X10:IR):IR:=(.seq (.seq (.yw [] [(iSm 4,0,[]),(iSm 1,0,[]),(.s (.bin .gtr .int aS1 aS0),0,[]),(.s (.mv aS0),0,[]),(iPt 0 (.mv aT0),0,[]),(iPt 1 (.mv aT4),0,[]),(iPt 2 (.zo 1 aS1 aS0),0,[]),(iPt 3 (.load aS0),0,[]),(iPt 4 (.mv aT0),0,[]),(iPt 5 (.mv aT4),0,[]),(iPt 6 (.bin .sub .int aS0 aC1),0,[]),(iPt 7 (.zo 1 aS2 aS0),0,[]),(iPt 8 (.load aS0),0,[]),(.w .push (some (aS9,true)) (.call (.c (.fn 209 (.of 209) [])) [aS5,aS0]),0,[]),(iQo 6 (.pick aS10 aS0 (.c (.bool false))),0,[])]) (.cond aT6 .skip (.exit 2))) X10)
def qm.b9:IR:=qm.g9 qm.b10
def qm.g8 (X9:IR):IR:=(.loop X9)
def qm.b8:IR:=qm.g8 qm.b9
def qm.g7 (X8:IR):IR:=(.block 2 X8)
def qm.b7:IR:=qm.g7 qm.b8
def qm.g6 (X7:IR):IR:=(iSr [iSm 3,iQm 4 0] X7)
def qm.b6:IR:=qm.g6 qm.b7
def qm.g5 (X6:IR):IR:=(.block 1 X6)
def qm.b5:IR:=qm.g5 qm.b6
def qm.b14:IR:=(.reg [iSm 3,.s (.bin .add .int aS0 aC1),iQm 3 0])
def qm.g4 (X5 X14:IR):IR:=(.seq X5 X14)
def qm.b4:IR:=qm.g4 qm.b5 qm.b14
def qm.g3 (X4:IR):IR:=(.seq (iSr [iSm 3,iSm 2,iQo 5 (.bin .lss .int aS1 aS0)] (.cond aT5 .skip (.exit 0))) X4)
def qm.b3:IR:=qm.g3 qm.b4
def qm.g2 (X3:IR):IR:=(.loop X3)
def qm.b2:IR:=qm.g2 qm.b3
def qm.g1 (X2:IR):IR:=(.block 0 X2)
def qm.b1:IR:=qm.g1 qm.b2
def qm.g0 (X1:IR):IR:=(iSr [iSm 1,.s (.bin .add .int aS0 aC1),iQm 3 0] X1)
def qm.b0:IR:=qm.g0 qm.b1
def qm.res:List RV:=[]
def qm:Fn:={ params:=[(.of 0),(.of 1),(.of 2)],res:=qm.res,body:=qm.b0,init:=in7 }
theorem qm.ok:fnA Tryz.prog Tryz.f203 [0,1,2,6,7,12,30]=some qm:=by kernel_rfl
abbrev F209.fr:=fr3
def F209.b0:IR:=(iSr [iQo 2 (.mv (.c (.bool false)))] (iSr [iSm 0,iCa 250 [aS0],.s (.mv aS0),iPt 0 (.mv aT1),.w .push (some (aS1,true)) (.call (.c (.fn 250 (.of 250) [])) [aS0]),iPt 2 (.not aS0),.s (.pick aS3 aS0 (.c (.bool false))),.s (.mv aS0),iPf 0 (.mv aT0),iPf 1 (.mv aT1),iPf 2 (.bin .lss .int aS1 aS0),.s (.pick aS3 (.c (.bool true)) aS0),iQm 2 0] .ret))
def F209.res:List RV:=[.t (.of 2)]
def F209:Fn:={ params:=[(.of 0),(.of 1)],res:=F209.res,body:=F209.b0,init:=in3 }
theorem F209.ok:fnA Tryz.prog Tryz.f209 [0,1,4]=some F209:=by kernel_rfl
abbrev aQ.fr:=fr5
def aQ.b3:IR:=(iSr [iSm 1,iSm 0,.s (.conv .u8 aS0),.s (.sidx (.c (.str [0,1,2,2,3,3,3,3,4,4,4,4,4,4,4,4,5,5,5,5,5,5,5,5,5,5,5,5,5,5,5,5,6,6,6,6,6,6,6,6,6,6,6,6,6,6,6,6,6,6,6,6,6,6,6,6,6,6,6,6,6,6,6,6,7,7,7,7,7,7,7,7,7,7,7,7,7,7,7,7,7,7,7,7,7,7,7,7,7,7,7,7,7,7,7,7,7,7,7,7,7,7,7,7,7,7,7,7,7,7,7,7,7,7,7,7,7,7,7,7,7,7,7,7,7,7,7,7,8,8,8,8,8,8,8,8,8,8,8,8,8,8,8,8,8,8,8,8,8,8,8,8,8,8,8,8,8,8,8,8,8,8,8,8,8,8,8,8,8,8,8,8,8,8,8,8,8,8,8,8,8,8,8,8,8,8,8,8,8,8,8,8,8,8,8,8,8,8,8,8,8,8,8,8,8,8,8,8,8,8,8,8,8,8,8,8,8,8,8,8,8,8,8,8,8,8,8,8,8,8,8,8,8,8,8,8,8,8,8,8,8,8,8,8,8,8,8,8,8,8,8,8,8,8,8,8])) aS0),.s (.conv .i64 aS0),.s (.bin .add .int aS4 aS0),iQm 1 0] .ret)
def aQ.g2 (X3:IR):IR:=(.seq (iSr [iSm 0,iQo 4 (.bin .geq .int aS0 (.c (.int .u64 256)))] (.cond aT4 (iSr [iSm 0,.s (.bin .shr .int aS0 (.c (.int .u64 8))),iQm 0 0] (.reg [iSm 1,.s (.bin .add .int aS0 aC8),iQm 1 0])) .skip)) X3)
def aQ.b2:IR:=aQ.g2 aQ.b3
def aQ.g1 (X2:IR):IR:=(.seq (iSr [iSm 0,iQo 3 (.bin .geq .int aS0 (.c (.int .u64 65536)))] (.cond aT3 (iSr [iSm 0,.s (.bin .shr .int aS0 (.c (.int .u64 16))),iQm 0 0] (.reg [iSm 1,.s (.bin .add .int aS0 aC16),iQm 1 0])) .skip)) X2)
def aQ.b1:IR:=aQ.g1 aQ.b2
def aQ.g0 (X1:IR):IR:=(iSr [iQo 1 (.mv aC0)] (.seq (iSr [iSm 0,iQo 2 (.bin .geq .int aS0 (.c (.int .u64 4294967296)))] (.cond aT2 (iSr [iSm 0,.s (.bin .shr .int aS0 (.c (.int .u64 32))),iQm 0 0] (.reg [iQo 1 (.mv aC32)])) .skip)) X1))
def aQ.b0:IR:=aQ.g0 aQ.b1
def aQ.res:List RV:=[.t (.of 1)]
def aQ:Fn:={ params:=[(.of 0)],res:=aQ.res,body:=aQ.b0,init:=in5 }
theorem aQ.ok:fnA Tryz.prog Tryz.f213 [0,2,4,8,14]=some aQ:=by kernel_rfl
abbrev F215.fr:=fr4
def F215.b0:IR:=(iSr [iQo 3 (.mv (.c (.bool false)))] (iSr [iSm 0,.s (.load aT1),.s (.bin .lss .int aS1 aS0),.s (.mv aS0),iPf 0 (.mv aT0),iPf 1 (.load aT2),iPf 2 (.bin .gtr .int aS1 aS0),.s (.pick aS3 (.c (.bool true)) aS0),iQm 3 0] .ret))
def F215.res:List RV:=[.t (.of 3)]
def F215:Fn:={ params:=[(.of 0),(.of 1),(.of 2)],res:=F215.res,body:=F215.b0,init:=in4 }
theorem F215.ok:fnA Tryz.prog Tryz.f215 [0,1,2,4]=some F215:=by kernel_rfl
abbrev F216.fr:=fr3
def F216.b0:IR:=(iSr [iQo 2 (.mv (.c (.bool false)))] (iSr [iSm 0,iSm 1,iCa 259 [aS1,aS0],.s (.bin .geq .int aS0 aC0),iQm 2 0] .ret))
def F216.res:List RV:=[.t (.of 2)]
def F216:Fn:={ params:=[(.of 0),(.of 1)],res:=F216.res,body:=F216.b0,init:=in3 }
theorem F216.ok:fnA Tryz.prog Tryz.f216 [0,1,4]=some F216:=by kernel_rfl
abbrev F217.fr:=fr3
def F217.b0:IR:=(iSr [iQo 2 (.mv (.c (.bool false)))] (iSr [iSm 0,.s (.load aT1),iCa 158 [aS1,aS0],iQm 2 0] .ret))
def F217.res:List RV:=[.t (.of 2)]
def F217:Fn:={ params:=[(.of 0),(.of 1)],res:=F217.res,body:=F217.b0,init:=in3 }
theorem F217.ok:fnA Tryz.prog Tryz.f217 [0,1,3]=some F217:=by kernel_rfl
abbrev ni.fr:=fr5
def ni.b6:IR:=(.reg [iSm 2,.s (.bin .mul .int aC10 aS0),iSm 0,iSm 3,.s (.sidx aS1 aS0),.s (.conv .i64 aS0),.s (.bin .add .int aS4 aS0),.s (.bin .sub .int aS0 aC48),iQm 2 0])
def ni.g5 (X6:IR):IR:=(.block 1 X6)
def ni.b5:IR:=ni.g5 ni.b6
def ni.b7:IR:=(.reg [iSm 3,.s (.bin .add .int aS0 aC1),iQm 3 0])
def ni.g4 (X5 X7:IR):IR:=(.seq X5 X7)
def ni.b4:IR:=ni.g4 ni.b5 ni.b7
def ni.g3 (X4:IR):IR:=(.seq (iSr [iSm 3,iSm 0,.s (.slen aS0),iQo 4 (.bin .lss .int aS2 aS0)] (.cond aT4 .skip (.exit 0))) X4)
def ni.b3:IR:=ni.g3 ni.b4
def ni.g2 (X3:IR):IR:=(.loop X3)
def ni.b2:IR:=ni.g2 ni.b3
def ni.g1 (X2:IR):IR:=(.block 0 X2)
def ni.b1:IR:=ni.g1 ni.b2
def ni.b8:IR:=(iSr [iSm 2,iQm 1 0] .ret)
def ni.g0 (X1 X8:IR):IR:=(iSr [iQo 1 (.mv aC0)] (iSr [iQo 2 (.mv aC0)] (.seq (iSr [iQo 3 (.mv aC0)] X1) X8)))
def ni.b0:IR:=ni.g0 ni.b1 ni.b8
def ni.res:List RV:=[.t (.of 1)]
def ni:Fn:={ params:=[(.of 0)],res:=ni.res,body:=ni.b0,init:=in5 }
theorem ni.ok:fnA Tryz.prog Tryz.f218 [0,2,3,4,8]=some ni:=by kernel_rfl
abbrev F219.fr:=fr8
def F219.b1:IR:=(iSr [.s (.zy 0 aT2),.s (.load aS0),iSm 5,iCa 195 [aS1,aS0],.w .none none (.store 2 aT4 aS0)] .ret)
def F219.g0 (X1:IR):IR:=(iSr [iWl 2 (.box aT0),iWl 3 (.box aT1),iWl 4 (.alloc [(.bool false),.zf])] (iSr [.s (.zy 1 aT2),.s (.load aS0),.s (.zy 1 aT3),.s (.load aS0),iCa 193 [aS2,aS0],.s (.mv aS0),.s (.ext 0 aS0),.s (.ext 1 aS1),iQm 5 1,iQm 6 0] (.seq (iSr [.s (.zy 0 aT2),.s (.load aS0),.s (.mv aS0),iPt 0 (.mv aT6),iPt 1 (.len aS0),iPt 2 (.bin .gtr .int aS0 aC0),iQo 7 (.pick aS3 aS0 (.c (.bool false)))] (.cond aT7 (.reg [iSm 5,.w .push none (.zx 1 1 [(I 0)] [(0,1,aC1)]),iCa 236 [aS1,aS0],iQm 5 0]) .skip)) X1)))
def F219.b0:IR:=F219.g0 F219.b1
def F219.res:List RV:=[.cell (.of 4) (some 2)]
def F219:Fn:={ params:=[(.of 0),(.of 1)],res:=F219.res,body:=F219.b0,init:=in8 }
theorem F219.ok:fnA Tryz.prog Tryz.f219 [0,1,2,3,4,5,6,21]=some F219:=by kernel_rfl
abbrev F220.fr:=fr3
def F220.b1:IR:=(iSr [iSm 0,.s (.conv .u64 aS0),iQm 1 0] .ret)
def F220.g0 (X1:IR):IR:=(iSr [iQo 1 (.mv (.c (.int .u64 0)))] (.seq (iSr [iSm 0,iQo 2 (.bin .lss .int aS0 aC0)] (.cond aT2 (iSr [iSm 0,.s (.neg aS0),.s (.conv .u64 aS0),iQm 1 0] .ret) .skip)) X1))
def F220.b0:IR:=F220.g0 F220.b1
def F220.res:List RV:=[.t (.of 1)]
def F220:Fn:={ params:=[(.of 0)],res:=F220.res,body:=F220.b0,init:=in3 }
theorem F220.ok:fnA Tryz.prog Tryz.f220 [0,2,4]=some F220:=by kernel_rfl
abbrev F224.fr:=fr12
def F224.b0:IR:=(iSr [iQo 2 (.mv (.c (.int .u64 0))),iQo 3 (.mv (.c (.int .u64 0)))] (iSr [iSm 0,.s (.bin .and .int aS0 (.c (.int .u64 4294967295))),iQm 4 0] (iSr [iSm 0,.s (.bin .shr .int aS0 (.c (.int .u64 32))),iQm 5 0] (iSr [iSm 1,.s (.bin .and .int aS0 (.c (.int .u64 4294967295))),iQm 6 0] (iSr [iSm 1,.s (.bin .shr .int aS0 (.c (.int .u64 32))),iQm 7 0] (iSr [iSm 4,iSm 6,.s (.bin .mul .int aS1 aS0),iQm 8 0] (iSr [iSm 5,iSm 6,.s (.bin .mul .int aS1 aS0),iSm 8,.s (.bin .shr .int aS0 (.c (.int .u64 32))),.s (.bin .add .int aS2 aS0),iQm 9 0] (iSr [iSm 9,.s (.bin .and .int aS0 (.c (.int .u64 4294967295))),iQm 10 0] (iSr [iSm 9,.s (.bin .shr .int aS0 (.c (.int .u64 32))),iQm 11 0] (iSr [iSm 10,iSm 4,iSm 7,.s (.bin .mul .int aS1 aS0),.s (.bin .add .int aS3 aS0),iQm 10 0] (iSr [iSm 5,iSm 7,.s (.bin .mul .int aS1 aS0),iSm 11,.s (.bin .add .int aS1 aS0),iSm 10,.s (.bin .shr .int aS0 (.c (.int .u64 32))),.s (.bin .add .int aS2 aS0),iQm 2 0] (iSr [iSm 0,iSm 1,.s (.bin .mul .int aS1 aS0),iQm 3 0] .ret))))))))))))
def F224.res:List RV:=[.t (.of 2),.t (.of 3)]
def F224:Fn:={ params:=[(.of 0),(.of 1)],res:=F224.res,body:=F224.b0,init:=in12 }
theorem F224.ok:fnA Tryz.prog Tryz.f224 [0,1,4,5,6,7,8,9,10,11,12,13]=some F224:=by kernel_rfl
abbrev F228.fr:=fr5
def F228.b1:IR:=(iSr [iSm 3,.s (.len aS0),.s (.bin .sub .int aS0 aC1),.s (.bin .mul .int aC64 aS0),iSm 3,iSm 3,.s (.len aS0),.s (.bin .sub .int aS0 aC1),.s (.zo 1 aS3 aS0),.s (.load aS0),iCa 213 [aS0],.s (.bin .add .int aS7 aS0),iQm 2 0] .ret)
def F228.g0 (X1:IR):IR:=(iSr [iWl 1 (.box aT0),iQo 2 (.mv aC0)] (iSr [.s (.zh 2 aT1),iCa 174 [aS0],.s (.mv aS0),.s (.ext 0 aS0),.s (.ext 1 aS1),.s (.mv aS1),iQm 3 1] (.seq (iSr [iSm 3,.s (.len aS0),iQo 4 (.bin .eql .int aS0 aC0)] (.cond aT4 (iSr [iQo 2 (.mv aC0)] .ret) .skip)) X1)))
def F228.b0:IR:=F228.g0 F228.b1
def F228.res:List RV:=[.t (.of 2)]
def F228:Fn:={ params:=[(.of 0)],res:=F228.res,body:=F228.b0,init:=in5 }
theorem F228.ok:fnA Tryz.prog Tryz.f228 [0,1,2,4,12]=some F228:=by kernel_rfl
abbrev F230.fr:=fr2
def F230.b0:IR:=(iSr [iQo 1 (.mv (.c (.str [])))] (iSr [iSm 0,iCa 265 [aS0],iQm 1 0] .ret))
def F230.res:List RV:=[.t (.of 1)]
def F230:Fn:={ params:=[(.of 0)],res:=F230.res,body:=F230.b0,init:=in2 }
theorem F230.ok:fnA Tryz.prog Tryz.f230 [0,2]=some F230:=by kernel_rfl
abbrev pz.fr:=fr9
def pz.b1:IR:=(iSr [iQo 2 (.mv aC1)] .ret)
def pz.b9:IR:=(.seq (.yw [] [(iSm 0,0,[]),(iSm 3,0,[]),(.s (.zo 1 aS1 aS0),0,[]),(.s (.load aS0),0,[]),(iSm 1,0,[]),(iSm 3,0,[]),(.s (.zo 1 aS1 aS0),0,[]),(.s (.load aS0),0,[]),(iQo 8 (.bin .gtr .int aS4 aS0),0,[])]) (.cond aT8 (iSr [iQo 2 (.mv aC1)] .ret) .skip))
def pz.g8 (X9:IR):IR:=(.seq (.seq (.yw [] [(iSm 0,0,[]),(iSm 3,0,[]),(.s (.zo 1 aS1 aS0),0,[]),(.s (.load aS0),0,[]),(iSm 1,0,[]),(iSm 3,0,[]),(.s (.zo 1 aS1 aS0),0,[]),(.s (.load aS0),0,[]),(iQo 7 (.bin .lss .int aS4 aS0),0,[])]) (.cond aT7 (iSr [iQo 2 (.mv (.c (I (-1))))] .ret) .skip)) X9)
def pz.b8:IR:=pz.g8 pz.b9
def pz.g7 (X8:IR):IR:=(.block 1 X8)
def pz.b7:IR:=pz.g7 pz.b8
def pz.b10:IR:=(.reg [iSm 3,.s (.bin .sub .int aS0 aC1),iQm 3 0])
def pz.g6 (X7 X10:IR):IR:=(.seq X7 X10)
def pz.b6:IR:=pz.g6 pz.b7 pz.b10
def pz.g5 (X6:IR):IR:=(.seq (iSr [iSm 3,iQo 6 (.bin .geq .int aS0 aC0)] (.cond aT6 .skip (.exit 0))) X6)
def pz.b5:IR:=pz.g5 pz.b6
def pz.g4 (X5:IR):IR:=(.loop X5)
def pz.b4:IR:=pz.g4 pz.b5
def pz.g3 (X4:IR):IR:=(.block 0 X4)
def pz.b3:IR:=pz.g3 pz.b4
def pz.b11:IR:=(iSr [iQo 2 (.mv aC0)] .ret)
def pz.g2 (X3 X11:IR):IR:=(.seq (iSr [iSm 0,.s (.len aS0),.s (.bin .sub .int aS0 aC1),iQm 3 0] X3) X11)
def pz.b2:IR:=pz.g2 pz.b3 pz.b11
def pz.g0 (X1 X2:IR):IR:=(iSr [iQo 2 (.mv aC0)] (.seq (iSr [iSm 0,.s (.len aS0),iSm 1,.s (.len aS0),iQo 4 (.bin .neq .int aS2 aS0)] (.cond aT4 (.seq (iSr [iSm 0,.s (.len aS0),iSm 1,.s (.len aS0),iQo 5 (.bin .lss .int aS2 aS0)] (.cond aT5 (iSr [iQo 2 (.mv (.c (I (-1))))] .ret) .skip)) X1) .skip)) X2))
def pz.b0:IR:=pz.g0 pz.b1 pz.b2
def pz.res:List RV:=[.t (.of 2)]
def pz:Fn:={ params:=[(.of 0),(.of 1)],res:=pz.res,body:=pz.b0,init:=in9 }
theorem pz.ok:fnA Tryz.prog Tryz.f237 [0,1,4,5,10,15,20,31,40]=some pz:=by kernel_rfl
abbrev ny.fr:=fr9
def ny.b6:IR:=(iSr [iSm 5,.s (.bin .mul .int aS0 jF),iSm 0,iSm 6,.s (.zo 1 aS1 aS0),.s (.load aS0),.s (.bin .add .int aS4 aS0),iQm 7 0] (iSr [iSm 4,iSm 6,iSm 7,iSm 1,.s (.bin .quo .int aS1 aS0),.s (.zo 1 aS4 aS3),.w .none none (.store 1 aS0 aS1)] (.reg [iSm 7,iSm 1,.s (.bin .rem .int aS1 aS0),iQm 5 0])))
def ny.g5 (X6:IR):IR:=(.block 1 X6)
def ny.b5:IR:=ny.g5 ny.b6
def ny.b7:IR:=(.reg [iSm 6,.s (.bin .sub .int aS0 aC1),iQm 6 0])
def ny.g4 (X5 X7:IR):IR:=(.seq X5 X7)
def ny.b4:IR:=ny.g4 ny.b5 ny.b7
def ny.g3 (X4:IR):IR:=(.seq (iSr [iSm 6,iQo 8 (.bin .geq .int aS0 aC0)] (.cond aT8 .skip (.exit 0))) X4)
def ny.b3:IR:=ny.g3 ny.b4
def ny.g2 (X3:IR):IR:=(.loop X3)
def ny.b2:IR:=ny.g2 ny.b3
def ny.g1 (X2:IR):IR:=(.block 0 X2)
def ny.b1:IR:=ny.g1 ny.b2
def ny.b8:IR:=(iSr [iSm 4,iCa 241 [aS0],iSm 5,iQm 2 1,iQm 3 0] .ret)
def ny.g0 (X1 X8:IR):IR:=(iSr [iQo 2 (.mv (.c .zf)),iQo 3 (.mv aC0)] (iSr [iSm 0,.s (.len aS0),.w .push none (.uf 1 8 [(I 0)] aS0 aS0),iQm 4 0] (iSr [iQo 5 (.mv aC0)] (.seq (iSr [iSm 0,.s (.len aS0),.s (.bin .sub .int aS0 aC1),iQm 6 0] X1) X8))))
def ny.b0:IR:=ny.g0 ny.b1 ny.b8
def ny.res:List RV:=[.t (.of 2),.t (.of 3)]
def ny:Fn:={ params:=[(.of 0),(.of 1)],res:=ny.res,body:=ny.b0,init:=in9 }
theorem ny.ok:fnA Tryz.prog Tryz.f240 [0,1,4,5,6,7,8,9,17]=some ny:=by kernel_rfl
abbrev rY.fr:=fr3
def rY.b5:IR:=(.reg [iSm 0,iSm 0,.s (.len aS0),.s (.bin .sub .int aS0 aC1),.s (.slice 1 aS3 none (some aS0) none),iQm 0 0])
def rY.g4 (X5:IR):IR:=(.block 1 X5)
def rY.b4:IR:=rY.g4 rY.b5
def rY.g3 (X4:IR):IR:=(.seq (iSr [iSm 0,.s (.len aS0),.s (.bin .gtr .int aS0 aC0),.s (.mv aS0),iPt 0 (.mv aT0),iPt 1 (.mv aT0),iPt 2 (.len aS0),iPt 3 (.bin .sub .int aS0 aC1),iPt 4 (.zo 1 aS3 aS0),iPt 5 (.load aS0),iPt 6 (.bin .eql .int aS0 aC0),iQo 2 (.pick aS7 aS0 (.c (.bool false)))] (.cond aT2 .skip (.exit 0))) X4)
def rY.b3:IR:=rY.g3 rY.b4
def rY.g2 (X3:IR):IR:=(.loop X3)
def rY.b2:IR:=rY.g2 rY.b3
def rY.g1 (X2:IR):IR:=(.block 0 X2)
def rY.b1:IR:=rY.g1 rY.b2
def rY.b6:IR:=(iSr [iSm 0,iQm 1 0] .ret)
def rY.g0 (X1 X6:IR):IR:=(iSr [iQo 1 (.mv (.c .zf))] (.seq X1 X6))
def rY.b0:IR:=rY.g0 rY.b1 rY.b6
def rY.res:List RV:=[.t (.of 1)]
def rY:Fn:={ params:=[(.of 0)],res:=rY.res,body:=rY.b0,init:=in3 }
theorem rY.ok:fnA Tryz.prog Tryz.f241 [0,2,14]=some rY:=by kernel_rfl
abbrev vw.fr:=fr24
def vw.b10:IR:=(iSr [iSm 0,iSm 1,iSm 2,iSm 8,iSm 4,iCa 280 [aS4,aS3,aS2,aS1,aS0],.s (.mv aS0),.s (.ext 0 aS0),.s (.ext 1 aS1),iQm 11 1,iQm 12 0] (iSr [iSm 12,iQm 6 0] (iSr [iSm 11,iSm 1,.s (.bin .sub .int aS1 aS0),iSm 2,iSm 11,.s (.bin .sub .int aS1 aS0),iQm 13 3,iQm 14 0] (iSr [iSm 7,.s (.bin .quo .int aS0 aC8),iQm 15 0] (iSr [iSm 13,iSm 14,iQo 23 (.bin .lss .int aS1 aS0)] (.cond aT23 (iSr [iSm 13,iSm 15,.s (.bin .geq .int aS1 aS0),iQm 5 0] (iSr [iSm 0,iSm 1,iSm 11,iSm 3,iSm 4,iCa 243 [aS4,aS3,aS2,aS1,aS0]] (.reg [iSm 11,.s (.bin .add .int aS0 aC1),iQm 1 0]))) (iSr [iSm 14,iSm 15,.s (.bin .geq .int aS1 aS0),iQm 5 0] (iSr [iSm 0,iSm 11,.s (.bin .add .int aS0 aC1),iSm 2,iSm 3,iSm 4,iCa 243 [aS5,aS3,aS2,aS1,aS0]] (.reg [iSm 11,iQm 2 0])))))))))
def vw.g9 (X10:IR):IR:=(.seq (.seq (.yw [] [(iSm 1,0,[]),(.s (.bin .gtr .int aS0 aC0),0,[]),(.s (.mv aS0),0,[]),(iPt 0 (.mv aT4),0,[]),(iPt 1 (.mv aT0),0,[]),(iPt 2 (.mv aT1),0,[]),(iPt 3 (.bin .sub .int aS0 aC1),0,[]),(iPt 4 (.zo 1 aS2 aS0),0,[]),(iPt 5 (.load aS0),0,[]),(iPt 6 (.mv aT0),0,[]),(iPt 7 (.mv aT8),0,[]),(iPt 8 (.zo 1 aS1 aS0),0,[]),(iPt 9 (.load aS0),0,[]),(.w .push (some (aS10,true)) (.call aS9 [aS4,aS0]),0,[]),(iPt 11 (.bin .lss .int aS0 aC0),0,[]),(iPt 12 (.not aS0),0,[]),(iQo 22 (.pick aS13 aS0 (.c (.bool false))),0,[])]) (.cond aT22 (iSr [iSm 0,iSm 1,iSm 2,iSm 8,iSm 4,iCa 279 [aS4,aS3,aS2,aS1,aS0],iQm 10 0] (iSr [iSm 10,iQm 1 0] (.exit 1))) .skip)) X10)
def vw.b9:IR:=vw.g9 vw.b10
def vw.g8 (X9:IR):IR:=(.seq (iSr [iSm 5,.s (.mv aS0),iPt 0 (.mv aT6),.s (.pick aS1 aS0 (.c (.bool false))),.s (.mv aS0),iPt 0 (.mv aT9),iPt 1 (.bin .eql .int aS0 aC1),iQo 20 (.pick aS2 aS0 (.c (.bool false)))] (.cond aT20 (iSr [iSm 0,iSm 1,iSm 2,iSm 4,iWl 21 (.call (.c (.fn 278 (.of 278) [])) [aS3,aS2,aS1,aS0])] (.cond aT21 .ret .skip)) .skip)) X9)
def vw.b8:IR:=vw.g8 vw.b9
def vw.g7 (X8:IR):IR:=(iSr [iSm 0,iSm 1,iSm 2,iSm 4,iCa 276 [aS3,aS2,aS1,aS0],.s (.mv aS0),.s (.ext 0 aS0),.s (.ext 1 aS1),iQm 8 1,iQm 9 0] (.seq (iSr [iSm 9,iQo 19 (.bin .eql .int aS0 aC2)] (.cond aT19 (iSr [iSm 0,iSm 1,iSm 2,iSm 4,iCa 277 [aS3,aS2,aS1,aS0]] (iSr [iSm 2,.s (.bin .sub .int aS0 aC1),iSm 8,iSm 1,.s (.bin .sub .int aS1 aS0),.s (.bin .sub .int aS3 aS0),iQm 8 0] (.reg [iQo 9 (.mv aC1)]))) .skip)) X8))
def vw.b7:IR:=vw.g7 vw.b8
def vw.g6 (X7:IR):IR:=(.seq (iSr [iSm 5,iQo 18 (.not aS0)] (.cond aT18 (iSr [iSm 0,iSm 1,iSm 2,iSm 4,iCa 275 [aS3,aS2,aS1,aS0]] (.reg [iSm 3,.s (.bin .sub .int aS0 aC1),iQm 3 0])) .skip)) X7)
def vw.b6:IR:=vw.g6 vw.b7
def vw.g5 (X6:IR):IR:=(.seq (iSr [iSm 3,iQo 17 (.bin .eql .int aS0 aC0)] (.cond aT17 (iSr [iSm 0,iSm 1,iSm 2,iSm 4,iCa 274 [aS3,aS2,aS1,aS0]] .ret) .skip)) X6)
def vw.b5:IR:=vw.g5 vw.b6
def vw.g4 (X5:IR):IR:=(iSr [iSm 2,iSm 1,.s (.bin .sub .int aS1 aS0),iQm 7 0] (.seq (iSr [iSm 7,iQo 16 (.bin .leq .int aS0 aC12)] (.cond aT16 (iSr [iSm 0,iSm 1,iSm 2,iSm 4,iCa 273 [aS3,aS2,aS1,aS0]] .ret) .skip)) X5))
def vw.b4:IR:=vw.g4 vw.b5
def vw.g3 (X4:IR):IR:=(.block 1 X4)
def vw.b3:IR:=vw.g3 vw.b4
def vw.g2 (X3:IR):IR:=(.loop X3)
def vw.b2:IR:=vw.g2 vw.b3
def vw.g1 (X2:IR):IR:=(.block 0 X2)
def vw.b1:IR:=vw.g1 vw.b2
def vw.g0 (X1:IR):IR:=(iSr [iQo 5 (.mv (.c (.bool true)))] (iSr [iQo 6 (.mv (.c (.bool true)))] X1))
def vw.b0:IR:=vw.g0 vw.b1
def vw.res:List RV:=[]
def vw:Fn:={ params:=[(.of 0),(.of 1),(.of 2),(.of 3),(.of 4)],res:=vw.res,body:=vw.b0,init:=in24 }
theorem vw.ok:fnA Tryz.prog Tryz.f243 [0,1,2,3,4,10,11,12,13,14,15,16,17,18,19,20,25,32,39,56,75,80,97,125]=some vw:=by kernel_rfl
abbrev rH.fr:=fr10
def rH.b1:IR:=(iSr [iQo 2 (.mv (.c (I (-1))))] .ret)
def rH.b5:IR:=(iSr [iQo 2 (.mv aC0)] .ret)
def rH.g4 (X5:IR):IR:=(.seq (iSr [iSm 0,iSm 1,iQo 9 (.bin .gtr .int aS1 aS0)] (.cond aT9 (iSr [iQo 2 (.mv aC1)] .ret) .skip)) X5)
def rH.b4:IR:=rH.g4 rH.b5
def rH.g3 (X4:IR):IR:=(.seq (iSr [iSm 0,iSm 1,iQo 8 (.bin .lss .int aS1 aS0)] (.cond aT8 (iSr [iQo 2 (.mv (.c (I (-1))))] .ret) .skip)) X4)
def rH.b3:IR:=rH.g3 rH.b4
def rH.g2 (X3:IR):IR:=(.seq (iSr [iQo 7 (.mv aT4)] (.cond aT7 (iSr [iQo 2 (.mv aC1)] .ret) .skip)) X3)
def rH.b2:IR:=rH.g2 rH.b3
def rH.g0 (X1 X2:IR):IR:=(iSr [iQo 2 (.mv aC0)] (iSr [iSm 0,iCa 250 [aS0],iQm 3 0] (iSr [iSm 1,iCa 250 [aS0],iQm 4 0] (.seq (iSr [iQo 5 (.mv aT3)] (.cond aT5 (.seq (iSr [iQo 6 (.mv aT4)] (.cond aT6 (iSr [iQo 2 (.mv aC0)] .ret) .skip)) X1) .skip)) X2))))
def rH.b0:IR:=rH.g0 rH.b1 rH.b2
def rH.res:List RV:=[.t (.of 2)]
def rH:Fn:={ params:=[(.of 0),(.of 1)],res:=rH.res,body:=rH.b0,init:=in10 }
theorem rH.ok:fnA Tryz.prog Tryz.f244 [0,1,4,5,6,11,12,13,16,19]=some rH:=by kernel_rfl
abbrev F250.fr:=fr2
def F250.b0:IR:=(iSr [iQo 1 (.mv (.c (.bool false)))] (iSr [iSm 0,iSm 0,.s (.bin .neq .int aS1 aS0),iQm 1 0] .ret))
def F250.res:List RV:=[.t (.of 1)]
def F250:Fn:={ params:=[(.of 0)],res:=F250.res,body:=F250.b0,init:=in2 }
theorem F250.ok:fnA Tryz.prog Tryz.f250 [0,2]=some F250:=by kernel_rfl
abbrev ru.fr:=fr8
def ru.b6:IR:=(iSr [iSm 5,iQm 3 0] (iSr [iSm 1,iSm 0,iSm 3,.s (.zo 1 aS1 aS0),.s (.load aS0),iWl 7 (.call aS4 [aS0])] (.cond aT7 (iSr [iSm 3,iQm 2 0] .ret) .skip)))
def ru.g5 (X6:IR):IR:=(.block 1 X6)
def ru.b5:IR:=ru.g5 ru.b6
def ru.b7:IR:=(.reg [.s (.bin .add .int aT5 aC1),iQm 5 0])
def ru.g4 (X5 X7:IR):IR:=(.seq X5 X7)
def ru.b4:IR:=ru.g4 ru.b5 ru.b7
def ru.g3 (X4:IR):IR:=(iSr [iQo 6 (.bin .lss .int aT5 aT4)] (.seq (.cond aT6 .skip (.exit 0)) X4))
def ru.b3:IR:=ru.g3 ru.b4
def ru.g2 (X3:IR):IR:=(.loop X3)
def ru.b2:IR:=ru.g2 ru.b3
def ru.g1 (X2:IR):IR:=(.block 0 X2)
def ru.b1:IR:=ru.g1 ru.b2
def ru.b8:IR:=(iSr [iQo 2 (.mv (.c (I (-1))))] .ret)
def ru.g0 (X1 X8:IR):IR:=(iSr [iQo 2 (.mv aC0)] (.seq (iSr [iSm 0,iQo 4 (.len aS0),iQo 5 (.mv aC0)] X1) X8))
def ru.b0:IR:=ru.g0 ru.b1 ru.b8
def ru.res:List RV:=[.t (.of 2)]
def ru:Fn:={ params:=[(.of 0),(.of 1)],res:=ru.res,body:=ru.b0,init:=in8 }
theorem ru.ok:fnA Tryz.prog Tryz.f259 [0,1,4,5,7,8,9,16]=some ru:=by kernel_rfl
abbrev F265.fr:=fr2
def F265.b0:IR:=(iSr [iQo 1 (.mv (.c (.str [])))] (iSr [iSm 0,iCa 286 [aS0,aC10],iQm 1 0] .ret))
def F265.res:List RV:=[.t (.of 1)]
def F265:Fn:={ params:=[(.of 0)],res:=F265.res,body:=F265.b0,init:=in2 }
theorem F265.ok:fnA Tryz.prog Tryz.f265 [0,2]=some F265:=by kernel_rfl
abbrev qo.fr:=fr8
def qo.b12:IR:=(.yw [] [(iSm 0,0,[]),(iSm 5,0,[]),(iSm 0,1,[]),(iSm 5,1,[]),(.s (.bin .sub .int aS0 aC1),1,[]),(iSm 0,0,[]),(iSm 5,0,[]),(.s (.bin .sub .int aS0 aC1),0,[]),(.s (.zo 1 aS2 aS0),0,[]),(.s (.load aS0),0,[]),(iSm 0,0,[]),(iSm 5,0,[]),(.s (.zo 1 aS1 aS0),0,[]),(.s (.load aS0),0,[]),(.s (.zo 1 aS13 aS12),0,[]),(.w .none none (.store 1 aS0 aS5),0,[]),(.s (.zo 1 aS12 aS10),0,[]),(.w .none none (.store 1 aS0 aS2),0,[])])
def qo.g11 (X12:IR):IR:=(.block 3 X12)
def qo.b11:IR:=qo.g11 qo.b12
def qo.b13:IR:=(.reg [iSm 5,.s (.bin .sub .int aS0 aC1),iQm 5 0])
def qo.g10 (X11 X13:IR):IR:=(.seq X11 X13)
def qo.b10:IR:=qo.g10 qo.b11 qo.b13
def qo.g9 (X10:IR):IR:=(.seq (.seq (.yw [] [(iSm 5,0,[]),(iSm 1,0,[]),(.s (.bin .gtr .int aS1 aS0),0,[]),(.s (.mv aS0),0,[]),(iPt 0 (.mv aT3),0,[]),(iPt 1 (.mv aT0),0,[]),(iPt 2 (.mv aT5),0,[]),(iPt 3 (.zo 1 aS1 aS0),0,[]),(iPt 4 (.load aS0),0,[]),(iPt 5 (.mv aT0),0,[]),(iPt 6 (.mv aT5),0,[]),(iPt 7 (.bin .sub .int aS0 aC1),0,[]),(iPt 8 (.zo 1 aS2 aS0),0,[]),(iPt 9 (.load aS0),0,[]),(.w .push (some (aS10,true)) (.call aS9 [aS5,aS0]),0,[]),(iPt 11 (.bin .lss .int aS0 aC0),0,[]),(iQo 7 (.pick aS12 aS0 (.c (.bool false))),0,[])]) (.cond aT7 .skip (.exit 2))) X10)
def qo.b9:IR:=qo.g9 qo.b10
def qo.g8 (X9:IR):IR:=(.loop X9)
def qo.b8:IR:=qo.g8 qo.b9
def qo.g7 (X8:IR):IR:=(.block 2 X8)
def qo.b7:IR:=qo.g7 qo.b8
def qo.g6 (X7:IR):IR:=(iSr [iSm 4,iQm 5 0] X7)
def qo.b6:IR:=qo.g6 qo.b7
def qo.g5 (X6:IR):IR:=(.block 1 X6)
def qo.b5:IR:=qo.g5 qo.b6
def qo.b14:IR:=(.reg [iSm 4,.s (.bin .add .int aS0 aC1),iQm 4 0])
def qo.g4 (X5 X14:IR):IR:=(.seq X5 X14)
def qo.b4:IR:=qo.g4 qo.b5 qo.b14
def qo.g3 (X4:IR):IR:=(.seq (iSr [iSm 4,iSm 2,iQo 6 (.bin .lss .int aS1 aS0)] (.cond aT6 .skip (.exit 0))) X4)
def qo.b3:IR:=qo.g3 qo.b4
def qo.g2 (X3:IR):IR:=(.loop X3)
def qo.b2:IR:=qo.g2 qo.b3
def qo.g1 (X2:IR):IR:=(.block 0 X2)
def qo.b1:IR:=qo.g1 qo.b2
def qo.g0 (X1:IR):IR:=(iSr [iSm 1,.s (.bin .add .int aS0 aC1),iQm 4 0] X1)
def qo.b0:IR:=qo.g0 qo.b1
def qo.res:List RV:=[]
def qo:Fn:={ params:=[(.of 0),(.of 1),(.of 2),(.of 3)],res:=qo.res,body:=qo.b0,init:=in8 }
theorem qo.ok:fnA Tryz.prog Tryz.f273 [0,1,2,3,8,9,14,34]=some qo:=by kernel_rfl
end
end Go.Ev
