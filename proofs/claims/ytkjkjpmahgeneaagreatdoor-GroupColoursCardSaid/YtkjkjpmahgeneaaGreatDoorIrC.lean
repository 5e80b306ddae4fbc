import Derived.Test.YtkjkjpmahgeneaaGreatDoorIrA
import Derived.Test.YtkjkjpmahgeneaaGreatDoorEvC
import Derived.Test.YtkjkjpmahgeneaaGreatDoorProg
import Derived.KernelRfl
set_option linter.unusedSimpArgs false
set_option linter.unusedVariables false
namespace Go.Ev
open Go Go.Proofs
set_option maxRecDepth 100000
noncomputable section

abbrev fC.fr:=fr14
def fC.b7:IR:=(iSr [iSm 11,.s (.zo 1 aT9 sV),.s (.load aS0),iQm 5 2,iQm 6 0] (iSr [iSm 6,.s (.bin .lss .int aS0 aC0),.s (.mv aS0),iPf 0 (.mv aT6),iPf 1 (.zu 0 aT2),iPf 2 (.load aS0),iPf 3 (.bin .geq .int aS2 aS0),.s (.pick aS4 (.c (.bool true)) aS0),iCa 167 [aS0,aC10],iSm 5,.s (.bin .gtr .int aS0 aC0),.s (.mv aS0),iPt 0 (.load aT4),iPt 1 (.mv aT5),iPt 2 (.bin .sub .int aS0 aC1),iPt 3 (.zo 1 aS2 aS0),iPt 4 (.load aS0),iPt 5 (.mv aT6),iPt 6 (.bin .geq .int aS1 aS0),.s (.pick aS7 aS0 (.c (.bool false))),iCa 167 [aS0,aC11],.w .push none (.zy 1 2 [(I 0)] [(0,1,aS12),(1,1,aS0)]),iCa 165 [aS0],iQm 7 0] (iSr [iSm 7,iQo 13 (.bin .neq .int aS0 aC0)] (.cond sQ (iSr [iSm 7,iQm 3 0] .ret) .skip))))
def fC.g6 (X7:IR):IR:=(.block 1 X7)
def fC.b6:IR:=fC.g6 fC.b7
def fC.b8:IR:=(.reg [.s (.bin .add .int sV aC1),iQm 11 0])
def fC.g5 (X6 X8:IR):IR:=(.seq X6 X8)
def fC.b5:IR:=fC.g5 fC.b6 fC.b8
def fC.g4 (X5:IR):IR:=(iSr [iQo 12 (.bin .lss .int sV fA)] (.seq (.cond tZ .skip (.exit 0)) X5))
def fC.b4:IR:=fC.g4 fC.b5
def fC.g3 (X4:IR):IR:=(.loop X4)
def fC.b3:IR:=fC.g3 fC.b4
def fC.g2 (X3:IR):IR:=(.block 0 X3)
def fC.b2:IR:=fC.g2 fC.b3
def fC.b9:IR:=(iSr [.s (.zu 1 aT2),.s (.load aS0),iSm 1,.s (.slice 1 aS1 none (some aS0) none),.s (.fn 217 (.of 217) [aT4]),iCa 216 [aS1,aS0],iCa 167 [aS0,aC9],iQm 3 0] .ret)
def fC.g1 (X2 X9:IR):IR:=(.seq (iSr [iQo 9 (.load aT4),iQo 10 (.len aT9),iQo 11 (.mv aC0)] X2) X9)
def fC.b1:IR:=fC.g1 fC.b2 fC.b9
def fC.g0 (X1:IR):IR:=(iSr [iWl 2 (.box aT0),iQo 3 (.mv aC0)] (iSr [.s (.zu 1 aT2),.s (.load aS0),iSm 1,.s (.zo 1 aS1 aS0),.s (.load aS0),iWl 4 (.alloc [.zf]),.w .none none (.store 1 aT4 aS0)] (.seq (iSr [.s (.load aT4),.s (.len aS0),iQo 8 (.bin .eql .int aS0 aC0)] (.cond aT8 (iSr [iQo 3 (.mv aC12)] .ret) .skip)) X1)))
def fC.b0:IR:=fC.g0 fC.b1
def fC.res:List RV:=[.t (.of 3)]
def fC:Fn:={ params:=[(.of 0),(.of 1)],res:=fC.res,body:=fC.b0,init:=in14 }
theorem fC.ok:fnA Tryz.prog Tryz.f168 [0,1,2,4,5,6,7,8,16,17,18,19,20,48]=some fC:=by kernel_rfl
abbrev ny.fr:=fr10
def ny.b6:IR:=(iSr [.s (.zo 1 aT6 aT8),.s (.load aS0),iQm 5 0] (.reg [iSm 4,iSm 0,iSm 5,.s (.zo 1 aS1 aS0),.s (.load aS0),.w .push none (.zy 1 1 [(I 0)] [(0,1,aS0)]),.w .push none (.app 1 8 aS5 aS0),iQm 4 0]))
def ny.g5 (X6:IR):IR:=(.block 1 X6)
def ny.b5:IR:=ny.g5 ny.b6
def ny.b7:IR:=(.reg [.s (.bin .add .int aT8 aC1),iQm 8 0])
def ny.g4 (X5 X7:IR):IR:=(.seq X5 X7)
def ny.b4:IR:=ny.g4 ny.b5 ny.b7
def ny.g3 (X4:IR):IR:=(iSr [iQo 9 (.bin .lss .int aT8 aT7)] (.seq (.cond aT9 .skip (.exit 0)) X4))
def ny.b3:IR:=ny.g3 ny.b4
def ny.g2 (X3:IR):IR:=(.loop X3)
def ny.b2:IR:=ny.g2 ny.b3
def ny.g1 (X2:IR):IR:=(.block 0 X2)
def ny.b1:IR:=ny.g1 ny.b2
def ny.b8:IR:=(iSr [iSm 4,iCa 91 [aS0]] (.seq (.yw [] [(.s (.load aT2),1,[]),(iSm 4,0,[]),(.s (.build [.zf,(.bool false)] [(0,1,aS0)]),0,[]),(iCa 123 [aS0],0,[]),(.s (.look .str (.bool false) false aS3 aS0),0,[]),(iQm 3 0,0,[])]) .ret))
def ny.g0 (X1 X8:IR):IR:=(iSr [iQo 3 (.mv (.c (.bool false)))] (iSr [iQo 4 (.mv (.c .zf))] (.seq (iSr [iQo 6 (.mv aT1),iQo 7 (.len aT6),iQo 8 (.mv aC0)] X1) X8)))
def ny.b0:IR:=ny.g0 ny.b1 ny.b8
def ny.res:List RV:=[.t (.of 3)]
def ny:Fn:={ params:=[(.of 0),(.of 1),(.of 2)],res:=ny.res,body:=ny.b0,init:=in10 }
theorem ny.ok:fnA Tryz.prog Tryz.f169 [0,1,2,5,6,8,9,10,11,12]=some ny:=by kernel_rfl
abbrev rM.fr:=fr6
def rM.b6:IR:=(iSr [iSm 3,iSm 0,iSm 0,.s (.slen aS0),.s (.bin .sub .int aS0 aC9),.s (.cZ aS3 (some aS0) none),iCa 218 [aS0],.w .push none (.zy 1 1 [(I 0)] [(0,1,aS0)]),.w .push none (.app 1 8 aS7 aS0),iQm 3 0] (.reg [iSm 0,iSm 0,.s (.slen aS0),.s (.bin .sub .int aS0 aC9),.s (.cZ aS3 none (some aS0)),iQm 0 0]))
def rM.g5 (X6:IR):IR:=(.block 1 X6)
def rM.b5:IR:=rM.g5 rM.b6
def rM.g4 (X5:IR):IR:=(.seq (iSr [iSm 0,.s (.slen aS0),iQo 5 (.bin .gtr .int aS0 aC9)] (.cond aT5 .skip (.exit 0))) X5)
def rM.b4:IR:=rM.g4 rM.b5
def rM.g3 (X4:IR):IR:=(.loop X4)
def rM.b3:IR:=rM.g3 rM.b4
def rM.g2 (X3:IR):IR:=(.block 0 X3)
def rM.b2:IR:=rM.g2 rM.b3
def rM.b7:IR:=(iSr [iSm 2,iSm 3,iSm 0,iCa 218 [aS0],.w .push none (.zy 1 1 [(I 0)] [(0,1,aS0)]),.w .push none (.app 1 8 aS3 aS0),iCa 195 [aS5,aS0],.w .none none (.store 2 aT1 aS0)] .ret)
def rM.g1 (X2 X7:IR):IR:=(iSr [iQo 3 (.mv (.c .zf))] (.seq X2 X7))
def rM.b1:IR:=rM.g1 rM.b2 rM.b7
def rM.g0 (X1:IR):IR:=(iSr [iWl 1 (.alloc [(.bool false),.zf])] (iSr [iSm 0,.s (.slen aS0),.s (.bin .gtr .int aS0 aC0),.s (.mv aS0),iPt 0 (.mv aT0),iPt 1 (.sidx aS0 aC0),iPt 2 (.bin .eql .int aS0 (.c (.int .u8 45))),.s (.pick aS3 aS0 (.c (.bool false))),iQm 2 0] (.seq (iSr [iQo 4 (.mv aT2)] (.cond aT4 (.reg [iSm 0,.s (.cZ aS0 (some aC1) none),iQm 0 0]) .skip)) X1)))
def rM.b0:IR:=rM.g0 rM.b1
def rM.res:List RV:=[.cell (.of 1) (some 2)]
def rM:Fn:={ params:=[(.of 0)],res:=rM.res,body:=rM.b0,init:=in6 }
theorem rM.ok:fnA Tryz.prog Tryz.f171 [0,2,3,4,13,18]=some rM:=by kernel_rfl
abbrev eH.fr:=fr6
def eH.b2:IR:=(iSr [.s (.zu 1 aT1),.s (.load aS0),.s (.bin .neq (.nil .sl) aS0 (.c .zf)),iQm 4 0] (.cond aT4 (.seq (.yw [] [(.s (.zu 0 aT1),0,[]),(.s (.load aS0),0,[]),(.s (.bin .lss .int aS0 aC0),0,[]),(.s (.zu 1 aT1),0,[]),(.s (.load aS0),0,[]),(iQm 2 2,0,[]),(iQm 3 0,0,[])]) .ret) (iSr [.s (.zu 0 aT1),.s (.load aS0),.s (.bin .eql .int aS0 aC0),iQm 5 0] (.cond aT5 (iSr [iQo 2 (.mv (.c (.bool false))),iQo 3 (.mv (.c .zf))] .ret) .skip))))
def eH.g1 (X2:IR):IR:=(.block 0 X2)
def eH.b1:IR:=eH.g1 eH.b2
def eH.b3:IR:=(.seq (.yw [] [(.s (.zu 0 aT1),2,[]),(.s (.load aS0),2,[]),(.s (.bin .lss .int aS0 aC0),2,[]),(.s (.zu 0 aT1),0,[]),(.s (.load aS0),0,[]),(iCa 220 [aS0],0,[]),(iQm 2 3,1,[]),(.w .push none (.zy 1 1 [(.int .u64 0)] [(0,1,aS0)]),0,[]),(iQm 3 0,0,[])]) .ret)
def eH.g0 (X1 X3:IR):IR:=(iSr [iWl 1 (.box aT0),iQo 2 (.mv (.c (.bool false))),iQo 3 (.mv (.c .zf))] (.seq X1 X3))
def eH.b0:IR:=eH.g0 eH.b1 eH.b3
def eH.res:List RV:=[.t (.of 2),.t (.of 3)]
def eH:Fn:={ params:=[(.of 0)],res:=eH.res,body:=eH.b0,init:=in6 }
theorem eH.ok:fnA Tryz.prog Tryz.f174 [0,1,2,3,4,13]=some eH:=by kernel_rfl
abbrev F179.fr:=fr14
def F179.b1:IR:=(iSr [iSm 6,.s (.conv .i64 aS0),.s (.build [(I 0),.zf] [(0,1,aS0)]),.w .none none (.store 2 aT4 aS0)] .ret)
def F179.b2:IR:=(iSr [.s (.zh 2 aT2),iCa 174 [aS0],.s (.mv aS0),.s (.ext 0 aS0),.s (.ext 1 aS1),iQm 7 1,iQm 8 0] (iSr [.s (.zh 2 aT3),iCa 174 [aS0],.s (.mv aS0),.s (.ext 0 aS0),.s (.ext 1 aS1),iQm 9 1,iQm 10 0] (iSr [iSm 7,iSm 9,.s (.bin .neq .bool aS1 aS0),iSm 8,iSm 10,iCa 225 [aS1,aS0],iCa 175 [aS3,aS0],.w .none none (.store 2 aT4 aS0)] .ret)))
def F179.g0 (X1 X2:IR):IR:=(iSr [iWl 2 (.box aT0),iWl 3 (.box aT1),iWl 4 (.alloc [(I 0),.zf])] (.seq (iSr [.s (.zu 1 aT2),.s (.load aS0),.s (.bin .eql (.nil .sl) aS0 (.c .zf)),.s (.mv aS0),iPt 0 (.zu 1 aT3),iPt 1 (.load aS0),iPt 2 (.bin .eql (.nil .sl) aS0 (.c .zf)),iQo 11 (.pick aS3 aS0 (.c (.bool false)))] (.cond sV (.seq (.yw [] [(.s (.zu 0 aT2),0,[]),(.s (.load aS0),0,[]),(.s (.zu 0 aT3),1,[]),(.s (.load aS0),1,[]),(iCa 220 [aS2],0,[]),(iCa 220 [aS1],0,[]),(iCa 224 [aS1,aS0],0,[]),(.s (.mv aS0),0,[]),(.s (.ext 0 aS0),0,[]),(.s (.ext 1 aS1),0,[]),(iQm 5 1,0,[]),(iQm 6 0,0,[])]) (iSr [iSm 5,.s (.bin .eql .int aS0 (.c (.int .u64 0))),.s (.mv aS0),iPt 0 (.mv aT6),iPt 1 (.bin .leq .int aS0 (.c (.int .u64 9223372036854775807))),iQo 12 (.pick aS2 aS0 (.c (.bool false)))] (.cond tZ (.seq (iSr [.s (.zu 0 aT2),.s (.load aS0),.s (.bin .lss .int aS0 aC0),.s (.zu 0 aT3),.s (.load aS0),.s (.bin .lss .int aS0 aC0),iQo 13 (.bin .neq .bool aS3 aS0)] (.cond sQ (iSr [iSm 6,.s (.conv .i64 aS0),.s (.neg aS0),.s (.build [(I 0),.zf] [(0,1,aS0)]),.w .none none (.store 2 aT4 aS0)] .ret) .skip)) X1) .skip))) .skip)) X2))
def F179.b0:IR:=F179.g0 F179.b1 F179.b2
def F179.res:List RV:=[.cell (.of 4) (some 2)]
def F179:Fn:={ params:=[(.of 0),(.of 1)],res:=F179.res,body:=F179.b0,init:=in14 }
theorem F179.ok:fnA Tryz.prog Tryz.f179 [0,1,2,3,4,5,6,7,8,9,10,18,34,41]=some F179:=by kernel_rfl
abbrev vk.fr:=fr3
def vk.b0:IR:=(iSr [iWl 1 (.box aT0),iQo 2 (.mv aC0)] (iSr [.s (.zu 0 aT1),.s (.load aS0),.s (.aU false aC1 [aS0]),.s (.aU true (.c (I (-1))) [aS0]),iQm 2 0] .ret))
def vk.res:List RV:=[.t (.of 2)]
def vk:Fn:={ params:=[(.of 0)],res:=vk.res,body:=vk.b0,init:=in3 }
theorem vk.ok:fnA Tryz.prog Tryz.f180 [0,1,2]=some vk:=by kernel_rfl
abbrev jc.fr:=fr18
def jc.b1:IR:=(iSr [iSm 6,.s (.build [(I 0),.zf] [(0,1,aS0)]),iSm 7,.s (.build [(I 0),.zf] [(0,1,aS0)]),.w .none none (.store 2 aT4 aS2),.w .none none (.store 2 aT5 aS0)] .ret)
def jc.b3:IR:=(.seq (.yw [] [(.s (.zh 2 sQ),0,[]),(.s (.zh 2 oW),1,[]),(.w .none none (.store 2 aT4 aS1),0,[]),(.w .none none (.store 2 aT5 aS0),0,[])]) .ret)
def jc.g2 (X3:IR):IR:=(iSr [.s (.zh 2 aT2),iCa 174 [aS0],.s (.mv aS0),.s (.ext 0 aS0),.s (.ext 1 aS1),iQm 8 1,iQm 9 0] (iSr [.s (.zh 2 aT3),iCa 174 [aS0],.s (.mv aS0),.s (.ext 0 aS0),.s (.ext 1 aS1),.s (.mv aS1),iQm 10 1] (iSr [iSm 9,iSm 10,iCa 226 [aS1,aS0],.s (.mv aS0),.s (.ext 0 aS0),.s (.ext 1 aS1),iQm 11 1,iQm 12 0] (iSr [iSm 8,iSm 11,iCa 175 [aS1,aS0],iSm 8,iSm 12,iCa 175 [aS1,aS0],iWl 13 (.alloc [(I 0),.zf]),iWl 14 (.alloc [(I 0),.zf]),.w .none none (.store 2 sQ aS3),.w .none none (.store 2 oW aS0)] (.seq (iSr [.s (.zh 2 oW),iCa 180 [aS0],iQo 17 (.bin .lss .int aS0 aC0)] (.cond aT17 (.yw [] [(.s (.zh 2 sQ),1,[]),(.s (.zh 2 oW),2,[]),(.s (.zh 2 aT3),2,[]),(iCa 110 [aC1],0,[]),(iCa 227 [aS3,aS0],0,[]),(iCa 111 [aS3,aS2],0,[]),(.w .none none (.store 2 sQ aS1),0,[]),(.w .none none (.store 2 oW aS0),0,[])]) .skip)) X3)))))
def jc.b2:IR:=jc.g2 jc.b3
def jc.g0 (X1 X2:IR):IR:=(iSr [iWl 2 (.box aT0),iWl 3 (.box aT1),iWl 4 (.alloc [(I 0),.zf]),iWl 5 (.alloc [(I 0),.zf])] (.seq (iSr [.s (.zu 1 aT2),.s (.load aS0),.s (.bin .eql (.nil .sl) aS0 (.c .zf)),.s (.mv aS0),iPt 0 (.zu 1 aT3),iPt 1 (.load aS0),iPt 2 (.bin .eql (.nil .sl) aS0 (.c .zf)),.s (.pick aS3 aS0 (.c (.bool false))),.s (.mv aS0),iPt 0 (.zu 0 aT2),iPt 1 (.load aS0),iPt 2 (.bin .neq .int aS0 (.c (I (-9223372036854775808)))),iQo 15 (.pick aS3 aS0 (.c (.bool false)))] (.cond aT15 (.seq (.yw [] [(.s (.zu 0 aT2),0,[]),(.s (.load aS0),0,[]),(.s (.zu 0 aT3),0,[]),(.s (.load aS0),0,[]),(.s (.bin .quo .int aS2 aS0),0,[]),(.s (.zu 0 aT2),0,[]),(.s (.load aS0),0,[]),(.s (.zu 0 aT3),0,[]),(.s (.load aS0),0,[]),(.s (.bin .rem .int aS2 aS0),0,[]),(iQm 6 5,0,[]),(iQm 7 0,0,[])]) (.seq (iSr [iSm 7,iQo 16 (.bin .lss .int aS0 aC0)] (.cond aT16 (.yw [] [(iSm 6,0,[]),(.s (.bin .sub .int aS0 aC1),0,[]),(iSm 7,0,[]),(.s (.zu 0 aT3),0,[]),(.s (.load aS0),0,[]),(.s (.bin .add .int aS2 aS0),0,[]),(iQm 6 4,0,[]),(iQm 7 0,0,[])]) .skip)) X1)) .skip)) X2))
def jc.b0:IR:=jc.g0 jc.b1 jc.b2
def jc.res:List RV:=[.cell (.of 4) (some 2),.cell (.of 5) (some 2)]
def jc:Fn:={ params:=[(.of 0),(.of 1)],res:=jc.res,body:=jc.b0,init:=in18 }
theorem jc.ok:fnA Tryz.prog Tryz.f182 [0,1,2,3,4,5,6,7,8,9,11,12,13,14,15,28,40,75]=some jc:=by kernel_rfl
abbrev F183.fr:=fr3
def F183.b0:IR:=(iSr [iWl 1 (.box aT0),iQo 2 (.mv (.c (.bool false)))] (iSr [.s (.zh 2 aT1),iCa 228 [aS0],.s (.bin .gtr .int aS0 zvg),.s (.mv aS0),iPt 0 (.zh 2 aT1),.w .push (some (aS1,true)) (.call (.c (.fn 185 (.of 185) [])) [aS0]),.w .push (some (aS2,true)) (.call (.c (.fn 229 (.of 229) [])) [aS0,(.c (.str [45]))]),iPt 3 (.slen aS0),iPt 4 (.bin .gtr .int aS0 zo6),.s (.pick aS5 aS0 (.c (.bool false))),iQm 2 0] .ret))
def F183.res:List RV:=[.t (.of 2)]
def F183:Fn:={ params:=[(.of 0)],res:=F183.res,body:=F183.b0,init:=in3 }
theorem F183.ok:fnA Tryz.prog Tryz.f183 [0,1,2]=some F183:=by kernel_rfl
abbrev F184.fr:=fr3
def F184.b0:IR:=(iSr [iWl 1 (.box aT0),iQo 2 (.mv (.c (.bool false)))] (iSr [.s (.zu 2 aT1),.s (.zu 1 aS0),.s (.load aS0),.s (.bin .eql (.nil .sl) aS0 (.c .zf)),.s (.mv aS0),iPt 0 (.zu 2 aT1),iPt 1 (.zu 0 aS0),iPt 2 (.load aS0),iPt 3 (.bin .eql .int aS0 aC1),.s (.pick aS4 aS0 (.c (.bool false))),iQm 2 0] .ret))
def F184.res:List RV:=[.t (.of 2)]
def F184:Fn:={ params:=[(.of 0)],res:=F184.res,body:=F184.b0,init:=in3 }
theorem F184.ok:fnA Tryz.prog Tryz.f184 [0,1,2]=some F184:=by kernel_rfl
abbrev uh.fr:=fr18
def uh.b8:IR:=(iSr [iSm 6,iSm 9,.w .push none (.zy 1 1 [(.str [])] [(0,1,aS0)]),.w .push none (.app 1 16 aS2 aS0),iQm 6 0] (.reg [iSm 7,iQm 4 0]))
def uh.g7 (X8:IR):IR:=(.seq (iSr [iSm 7,.s (.len aS0),iQo 15 (.bin .gtr .int aS0 aC0)] (.cond aT15 (.reg [iSm 9,.s (.slen aS0),.s (.bin .sub .int aC18 aS0),.w .push none (.call (.c (.fn 232 (.of 232) [])) [(.c (.str [48])),aS0]),iSm 9,.s (.bin .add .str aS1 aS0),iQm 9 0]) .skip)) X8)
def uh.b7:IR:=uh.g7 uh.b8
def uh.g6 (X7:IR):IR:=(iSr [iSm 4,iSm 5,iCa 226 [aS1,aS0],.s (.mv aS0),.s (.ext 0 aS0),.s (.ext 1 aS1),iQm 7 1,iQm 8 0] (iSr [iQo 9 (.mv (.c (.str [48])))] (.seq (iSr [iSm 8,.s (.len aS0),iQo 14 (.bin .gtr .int aS0 aC0)] (.cond oW (.reg [iSm 8,.s (.zo 1 aS0 aC0),.s (.load aS0),iCa 231 [aS0,aC10],iQm 9 0]) .skip)) X7)))
def uh.b6:IR:=uh.g6 uh.b7
def uh.g5 (X6:IR):IR:=(.block 1 X6)
def uh.b5:IR:=uh.g5 uh.b6
def uh.g4 (X5:IR):IR:=(.seq (iSr [iSm 4,.s (.len aS0),iQo 13 (.bin .gtr .int aS0 aC0)] (.cond sQ .skip (.exit 0))) X5)
def uh.b4:IR:=uh.g4 uh.b5
def uh.g3 (X4:IR):IR:=(.loop X4)
def uh.b3:IR:=uh.g3 uh.b4
def uh.g2 (X3:IR):IR:=(.block 0 X3)
def uh.b2:IR:=uh.g2 uh.b3
def uh.b16:IR:=(.reg [iSm 6,iSm 11,.s (.zo 1 aS1 aS0),.s (.load aS0),iCa 233 [fA,aS0]])
def uh.g15 (X16:IR):IR:=(.block 3 X16)
def uh.b15:IR:=uh.g15 uh.b16
def uh.b17:IR:=(.reg [iSm 11,.s (.bin .sub .int aS0 aC1),iQm 11 0])
def uh.g14 (X15 X17:IR):IR:=(.seq X15 X17)
def uh.b14:IR:=uh.g14 uh.b15 uh.b17
def uh.g13 (X14:IR):IR:=(.seq (iSr [iSm 11,iQo 17 (.bin .geq .int aS0 aC0)] (.cond aT17 .skip (.exit 2))) X14)
def uh.b13:IR:=uh.g13 uh.b14
def uh.g12 (X13:IR):IR:=(.loop X13)
def uh.b12:IR:=uh.g12 uh.b13
def uh.g11 (X12:IR):IR:=(.block 2 X12)
def uh.b11:IR:=uh.g11 uh.b12
def uh.b18:IR:=(iSr [iCa 234 [fA],iQm 2 0] .ret)
def uh.g10 (X11 X18:IR):IR:=(.seq (iSr [iSm 6,.s (.len aS0),.s (.bin .sub .int aS0 aC1),iQm 11 0] X11) X18)
def uh.b10:IR:=uh.g10 uh.b11 uh.b18
def uh.g9 (X10:IR):IR:=(iSr [iWl 10 (.alloc [.aA,.zf])] (.seq (iSr [iQo 16 (.mv aT3)] (.cond aT16 (.reg [.w .push none (.call (.c (.fn 233 (.of 233) [])) [fA,(.c (.str [45]))])]) .skip)) X10))
def uh.b9:IR:=uh.g9 uh.b10
def uh.g1 (X2 X9:IR):IR:=(iSr [.s (.zh 2 aT1),iCa 174 [aS0],.s (.mv aS0),.s (.ext 0 aS0),.s (.ext 1 aS1),iQm 3 1,iQm 4 0] (iSr [.w .push none (.zy 1 1 [(.int .u64 0)] [(0,1,(.c (.int .u64 1000000000000000000)))]),iQm 5 0] (iSr [iQo 6 (.mv (.c .zf))] (.seq X2 X9))))
def uh.b1:IR:=uh.g1 uh.b2 uh.b9
def uh.g0 (X1:IR):IR:=(iSr [iWl 1 (.box aT0),iQo 2 (.mv (.c (.str [])))] (.seq (iSr [.s (.zu 1 aT1),.s (.load aS0),iQo 12 (.bin .eql (.nil .sl) aS0 (.c .zf))] (.cond tZ (iSr [.s (.zu 0 aT1),.s (.load aS0),iCa 230 [aS0],iQm 2 0] .ret) .skip)) X1))
def uh.b0:IR:=uh.g0 uh.b1
def uh.res:List RV:=[.t (.of 2)]
def uh:Fn:={ params:=[(.of 0)],res:=uh.res,body:=uh.b0,init:=in18 }
theorem uh.ok:fnA Tryz.prog Tryz.f185 [0,1,2,3,4,5,6,7,8,9,10,11,14,26,35,42,54,60]=some uh:=by kernel_rfl
abbrev sS.fr:=fr14
def sS.b5:IR:=(iSr [iSm 7,iSm 8,iQm 1 1,iQm 2 0,iQo 3 (.mv (.c (.bool true)))] .ret)
def sS.g4 (X5:IR):IR:=(.seq (iSr [iQo 13 (.mv aT5)] (.cond sQ (.reg [iSm 7,.s (.bin .sub .int aC0 aS0),iQm 7 0]) .skip)) X5)
def sS.b4:IR:=sS.g4 sS.b5
def sS.g3 (X4:IR):IR:=(iSr [iSm 4,iSm 6,.s (.cZ aS1 none (some aS0)),iCa 218 [aS0],iQm 7 0,iQo 8 (.mv aC1)] (.seq (iSr [iSm 6,iSm 4,.s (.slen aS0),iQo 12 (.bin .lss .int aS2 aS0)] (.cond tZ (.reg [iSm 4,iSm 6,.s (.bin .add .int aS0 aC1),.s (.cZ aS2 (some aS0) none),iCa 218 [aS0],iQm 8 0]) .skip)) X4))
def sS.b3:IR:=sS.g3 sS.b4
def sS.g2 (X3:IR):IR:=(iSr [iSm 4,iCa 126 [aS0],iQm 6 0] (.seq (iSr [iSm 6,.s (.bin .gtr .int aS0 aC9),.s (.mv aS0),iPf 0 (.mv aT4),iPf 1 (.slen aS0),iPf 2 (.mv aT6),iPf 3 (.bin .sub .int aS1 aS0),iPf 4 (.bin .gtr .int aS0 aC10),iQo 11 (.pick aS5 (.c (.bool true)) aS0)] (.cond sV (iSr [iQo 1 (.mv aC0),iQo 2 (.mv aC0),iQo 3 (.mv (.c (.bool false)))] .ret) .skip)) X3))
def sS.b2:IR:=sS.g2 sS.b3
def sS.g1 (X2:IR):IR:=(iSr [iSm 4,.s (.slen aS0),.s (.bin .gtr .int aS0 aC0),.s (.mv aS0),iPt 0 (.mv aT4),iPt 1 (.sidx aS0 aC0),iPt 2 (.bin .eql .int aS0 (.c (.int .u8 45))),.s (.pick aS3 aS0 (.c (.bool false))),iQm 5 0] (.seq (iSr [iQo 10 (.mv aT5)] (.cond fA (.reg [iSm 4,.s (.cZ aS0 (some aC1) none),iQm 4 0]) .skip)) X2))
def sS.b1:IR:=sS.g1 sS.b2
def sS.g0 (X1:IR):IR:=(iSr [iQo 1 (.mv aC0),iQo 2 (.mv aC0),iQo 3 (.mv (.c (.bool false)))] (iSr [iSm 0,iQm 4 0] (.seq (iSr [iSm 4,.s (.slen aS0),iQo 9 (.bin .gtr .int aS0 aC20)] (.cond aT9 (iSr [iQo 1 (.mv aC0),iQo 2 (.mv aC0),iQo 3 (.mv (.c (.bool false)))] .ret) .skip)) X1)))
def sS.b0:IR:=sS.g0 sS.b1
def sS.res:List RV:=[.t (.of 1),.t (.of 2),.t (.of 3)]
def sS:Fn:={ params:=[(.of 0)],res:=sS.res,body:=sS.b0,init:=in14 }
theorem sS.ok:fnA Tryz.prog Tryz.f186 [0,2,3,4,5,6,7,8,9,13,22,35,43,49]=some sS:=by kernel_rfl
abbrev aj.fr:=fr9
def aj.b4:IR:=(iSr [iSm 4,iQm 2 0] .ret)
def aj.g3 (X4:IR):IR:=(iSr [iSm 4,iSm 0,iSm 0,.s (.bin .sub .int aC0 aS0),.s (.aU true aS2 [aS0]),iCa 194 [aS0,aC1],.s (.bin .add .str aS5 aS0),iQm 4 0] (.seq (iSr [iSm 1,iQo 8 (.bin .gtr .int aS0 aC1)] (.cond aT8 (.reg [iSm 4,.s (.bin .add .str aS0 (.c (.str [47]))),iSm 1,iCa 194 [aS0,aC1],.s (.bin .add .str aS2 aS0),iQm 4 0]) .skip)) X4))
def aj.b3:IR:=aj.g3 aj.b4
def aj.g2 (X3:IR):IR:=(iSr [iSm 0,iSm 0,.s (.bin .sub .int aC0 aS0),.s (.aU true aS2 [aS0]),iSm 1,iCa 199 [aS1,aS0],iQm 3 0] (.seq (.yw [] [(iSm 0,0,[]),(iSm 3,0,[]),(.s (.bin .quo .int aS1 aS0),0,[]),(iSm 1,0,[]),(iSm 3,0,[]),(.s (.bin .quo .int aS1 aS0),0,[]),(iQm 0 3,0,[]),(iQm 1 0,0,[])]) (iSr [iQo 4 (.mv (.c (.str [])))] (.seq (iSr [iSm 0,iQo 7 (.bin .lss .int aS0 aC0)] (.cond aT7 (.reg [iQo 4 (.mv (.c (.str [45])))]) .skip)) X3))))
def aj.b2:IR:=aj.g2 aj.b3
def aj.g1 (X2:IR):IR:=(.seq (iSr [iSm 1,iQo 6 (.bin .lss .int aS0 aC0)] (.cond aT6 (.reg [iSm 0,.s (.bin .sub .int aC0 aS0),iSm 1,.s (.bin .sub .int aC0 aS0),iQm 0 2,iQm 1 0]) .skip)) X2)
def aj.b1:IR:=aj.g1 aj.b2
def aj.g0 (X1:IR):IR:=(iSr [iQo 2 (.mv (.c (.str [])))] (.seq (iSr [iSm 0,.s (.bin .lss .int aS0 (.c (I (-4000000000000000000)))),.s (.mv aS0),iPf 0 (.mv aT0),iPf 1 (.bin .gtr .int aS0 kM),.s (.pick aS2 (.c (.bool true)) aS0),.s (.mv aS0),iPf 0 (.mv aT1),iPf 1 (.bin .lss .int aS0 (.c (I (-4000000000000000000)))),.s (.pick aS2 (.c (.bool true)) aS0),.s (.mv aS0),iPf 0 (.mv aT1),iPf 1 (.bin .gtr .int aS0 kM),iQo 5 (.pick aS2 (.c (.bool true)) aS0)] (.cond aT5 (iSr [iSm 0,iCa 131 [aS0],iSm 1,iCa 131 [aS0],iCa 188 [aS2,aS0],iQm 2 0] .ret) .skip)) X1))
def aj.b0:IR:=aj.g0 aj.b1
def aj.res:List RV:=[.t (.of 2)]
def aj:Fn:={ params:=[(.of 0),(.of 1)],res:=aj.res,body:=aj.b0,init:=in9 }
theorem aj.ok:fnA Tryz.prog Tryz.f187 [0,1,4,5,6,20,27,45,54]=some aj:=by kernel_rfl
abbrev oK.fr:=fr11
def oK.b2:IR:=(iSr [iSm 8,.s (.bin .add .str aS0 (.c (.str [47]))),iSm 7,iCa 195 [(.c (.bool false)),aS0],iCa 130 [aS0],.s (.bin .add .str aS3 aS0),iQm 4 0] .ret)
def oK.g1 (X2:IR):IR:=(iSr [.s (.zu 1 aT2),.s (.load aS0),.s (.zu 1 aT3),.s (.load aS0),iCa 129 [aS2,aS0],iQm 5 0] (iSr [.s (.zu 1 aT2),.s (.load aS0),iSm 5,iCa 193 [aS1,aS0],.s (.mv aS0),.s (.ext 0 aS0),.s (.ext 1 aS1),iQm 6 1,.s (.mv aS0)] (iSr [.s (.zu 1 aT3),.s (.load aS0),iSm 5,iCa 193 [aS1,aS0],.s (.mv aS0),.s (.ext 0 aS0),.s (.ext 1 aS1),iQm 7 1,.s (.mv aS0)] (iSr [.s (.zu 0 aT2),.s (.load aS0),iSm 6,iCa 195 [aS1,aS0],iCa 130 [aS0],iQm 8 0] (.seq (iSr [iSm 7,.s (.len aS0),.s (.bin .eql .int aS0 aC1),.s (.mv aS0),iPt 0 (.mv aT7),iPt 1 (.zo 1 aS0 aC0),iPt 2 (.load aS0),iPt 3 (.bin .eql .int aS0 aC1),iQo 10 (.pick aS4 aS0 (.c (.bool false)))] (.cond fA (iSr [iSm 8,iQm 4 0] .ret) .skip)) X2)))))
def oK.b1:IR:=oK.g1 oK.b2
def oK.g0 (X1:IR):IR:=(iSr [iWl 2 (.box aT0),iWl 3 (.box aT1),iQo 4 (.mv (.c (.str [])))] (.seq (iSr [.s (.zu 0 aT3),iQo 9 (.load aS0)] (.cond aT9 (.yw [] [(.s (.zh 2 aT2),0,[]),(.s (.zh 2 aT3),1,[]),(iCa 235 [aS1],0,[]),(iCa 235 [aS1],0,[]),(.w .none none (.store 2 aT2 aS1),0,[]),(.w .none none (.store 2 aT3 aS0),0,[])]) .skip)) X1))
def oK.b0:IR:=oK.g0 oK.b1
def oK.res:List RV:=[.t (.of 4)]
def oK:Fn:={ params:=[(.of 0),(.of 1)],res:=oK.res,body:=oK.b0,init:=in11 }
theorem oK.ok:fnA Tryz.prog Tryz.f188 [0,1,2,3,4,5,6,8,10,12,49]=some oK:=by kernel_rfl
abbrev ru.fr:=fr5
def ru.b6:IR:=(iSr [iSm 0,iSm 2,.s (.sidx aS1 aS0),.s (.bin .lss .int aS0 (.c (.int .u8 48))),.s (.mv aS0),iPf 0 (.mv aT0),iPf 1 (.mv aT2),iPf 2 (.sidx aS1 aS0),iPf 3 (.bin .gtr .int aS0 (.c (.int .u8 57))),iQo 4 (.pick aS4 (.c (.bool true)) aS0)] (.cond aT4 (iSr [iQo 1 (.mv (.c (.bool false)))] .ret) .skip))
def ru.g5 (X6:IR):IR:=(.block 1 X6)
def ru.b5:IR:=ru.g5 ru.b6
def ru.b7:IR:=(.reg [iSm 2,.s (.bin .add .int aS0 aC1),iQm 2 0])
def ru.g4 (X5 X7:IR):IR:=(.seq X5 X7)
def ru.b4:IR:=ru.g4 ru.b5 ru.b7
def ru.g3 (X4:IR):IR:=(.seq (iSr [iSm 2,iSm 0,.s (.slen aS0),iQo 3 (.bin .lss .int aS2 aS0)] (.cond aT3 .skip (.exit 0))) X4)
def ru.b3:IR:=ru.g3 ru.b4
def ru.g2 (X3:IR):IR:=(.loop X3)
def ru.b2:IR:=ru.g2 ru.b3
def ru.g1 (X2:IR):IR:=(.block 0 X2)
def ru.b1:IR:=ru.g1 ru.b2
def ru.b8:IR:=(iSr [iQo 1 (.mv (.c (.bool true)))] .ret)
def ru.g0 (X1 X8:IR):IR:=(iSr [iQo 1 (.mv (.c (.bool false)))] (.seq (iSr [iQo 2 (.mv aC0)] X1) X8))
def ru.b0:IR:=ru.g0 ru.b1 ru.b8
def ru.res:List RV:=[.t (.of 1)]
def ru:Fn:={ params:=[(.of 0)],res:=ru.res,body:=ru.b0,init:=in5 }
theorem ru.ok:fnA Tryz.prog Tryz.f192 [0,2,3,7,19]=some ru:=by kernel_rfl
abbrev je.fr:=fr29
def je.b7:IR:=(.reg [iSm 9,.w .push none (.zy 1 1 [(I 0)] [(0,1,aC0)]),.w .push none (.app 1 8 aS1 aS0),iQm 9 0])
def je.g6 (X7:IR):IR:=(.block 1 X7)
def je.b6:IR:=je.g6 je.b7
def je.g5 (X6:IR):IR:=(.seq (iSr [iSm 9,.s (.len aS0),iSm 0,.s (.len aS0),.s (.bin .add .int aS0 aC1),iQo 23 (.bin .lss .int aS3 aS0)] (.cond aT23 .skip (.exit 0))) X6)
def je.b5:IR:=je.g5 je.b6
def je.g4 (X5:IR):IR:=(.loop X5)
def je.b4:IR:=je.g4 je.b5
def je.g3 (X4:IR):IR:=(.block 0 X4)
def je.b3:IR:=je.g3 je.b4
def je.b21:IR:=(.reg [iSm 9,iSm 14,iSm 11,.s (.bin .add .int aS1 aS0),iSm 16,.s (.zo 1 aS4 aS1),.w .none none (.store 1 aS0 aS1)])
def je.g20 (X21:IR):IR:=(iSr [iSm 12,iSm 7,iSm 14,.s (.zo 1 aS1 aS0),.s (.load aS0),.s (.bin .mul .int aS4 aS0),iSm 13,.s (.bin .add .int aS1 aS0),iQm 15 0] (iSr [iSm 9,iSm 14,iSm 11,.s (.bin .add .int aS1 aS0),.s (.zo 1 aS3 aS0),.s (.load aS0),iSm 15,.s (.bin .rem .int aS0 jR),.s (.bin .sub .int aS2 aS0),iQm 16 0] (iSr [iSm 15,.s (.bin .quo .int aS0 jR),iQm 13 0] (.seq (iSr [iSm 16,iQo 26 (.bin .lss .int aS0 aC0)] (.cond aT26 (iSr [iSm 16,.s (.bin .add .int aS0 jR),iQm 16 0] (.reg [iSm 13,.s (.bin .add .int aS0 aC1),iQm 13 0])) .skip)) X21))))
def je.b20:IR:=je.g20 je.b21
def je.g19 (X20:IR):IR:=(.block 5 X20)
def je.b19:IR:=je.g19 je.b20
def je.b22:IR:=(.reg [iSm 14,.s (.bin .add .int aS0 aC1),iQm 14 0])
def je.g18 (X19 X22:IR):IR:=(.seq X19 X22)
def je.b18:IR:=je.g18 je.b19 je.b22
def je.g17 (X18:IR):IR:=(.seq (iSr [iSm 14,iSm 8,iQo 25 (.bin .lss .int aS1 aS0)] (.cond aT25 .skip (.exit 4))) X18)
def je.b17:IR:=je.g17 je.b18
def je.g16 (X17:IR):IR:=(.loop X17)
def je.b16:IR:=je.g16 je.b17
def je.g15 (X16:IR):IR:=(.block 4 X16)
def je.b15:IR:=je.g15 je.b16
def je.b29:IR:=(.seq (.yw [] [(iSm 9,0,[]),(iSm 18,0,[]),(iSm 11,0,[]),(.s (.bin .add .int aS1 aS0),0,[]),(.s (.zo 1 aS3 aS0),0,[]),(.s (.load aS0),0,[]),(iSm 7,0,[]),(iSm 18,0,[]),(.s (.zo 1 aS1 aS0),0,[]),(.s (.load aS0),0,[]),(.s (.bin .add .int aS4 aS0),0,[]),(iSm 17,0,[]),(.s (.bin .add .int aS1 aS0),0,[]),(iQm 19 0,0,[])]) (iSr [iSm 9,iSm 18,iSm 11,.s (.bin .add .int aS1 aS0),iSm 19,.s (.bin .rem .int aS0 jR),.s (.zo 1 aS5 aS2),.w .none none (.store 1 aS0 aS1)] (.reg [iSm 19,.s (.bin .quo .int aS0 jR),iQm 17 0])))
def je.g28 (X29:IR):IR:=(.block 7 X29)
def je.b28:IR:=je.g28 je.b29
def je.b30:IR:=(.reg [iSm 18,.s (.bin .add .int aS0 aC1),iQm 18 0])
def je.g27 (X28 X30:IR):IR:=(.seq X28 X30)
def je.b27:IR:=je.g27 je.b28 je.b30
def je.g26 (X27:IR):IR:=(.seq (iSr [iSm 18,iSm 8,iQo 28 (.bin .lss .int aS1 aS0)] (.cond aT28 .skip (.exit 6))) X27)
def je.b26:IR:=je.g26 je.b27
def je.g25 (X26:IR):IR:=(.loop X26)
def je.b25:IR:=je.g25 je.b26
def je.g24 (X25:IR):IR:=(.block 6 X25)
def je.b24:IR:=je.g24 je.b25
def je.b31:IR:=(.reg [iSm 9,iSm 11,iSm 8,.s (.bin .add .int aS1 aS0),iSm 9,iSm 11,iSm 8,.s (.bin .add .int aS1 aS0),.s (.zo 1 aS3 aS0),.s (.load aS0),iSm 17,.s (.bin .add .int aS1 aS0),.s (.zo 1 aS11 aS8),.w .none none (.store 1 aS0 aS1)])
def je.b32:IR:=(.reg [iSm 10,iSm 11,iSm 12,.s (.zo 1 aS2 aS1),.w .none none (.store 1 aS0 aS1)])
def je.g23 (X24 X31 X32:IR):IR:=(iSr [iSm 9,iSm 11,iSm 8,.s (.bin .add .int aS1 aS0),iSm 9,iSm 11,iSm 8,.s (.bin .add .int aS1 aS0),.s (.zo 1 aS3 aS0),.s (.load aS0),iSm 13,.s (.bin .sub .int aS1 aS0),.s (.zo 1 aS11 aS8),.w .none none (.store 1 aS0 aS1)] (.seq (iSr [iSm 9,iSm 11,iSm 8,.s (.bin .add .int aS1 aS0),.s (.zo 1 aS3 aS0),.s (.load aS0),iQo 27 (.bin .lss .int aS0 aC0)] (.cond aT27 (iSr [iSm 12,.s (.bin .sub .int aS0 aC1),iQm 12 0] (iSr [iQo 17 (.mv aC0)] (.seq (iSr [iQo 18 (.mv aC0)] X24) X31))) .skip)) X32))
def je.b23:IR:=je.g23 je.b24 je.b31 je.b32
def je.g14 (X15 X23:IR):IR:=(iSr [iSm 9,iSm 7,iSm 11,iCa 242 [aS2,aS1,aS0],iQm 12 0] (iSr [iQo 13 (.mv aC0)] (.seq (iSr [iQo 14 (.mv aC0)] X15) X23)))
def je.b14:IR:=je.g14 je.b15 je.b23
def je.g13 (X14:IR):IR:=(.block 3 X14)
def je.b13:IR:=je.g13 je.b14
def je.b33:IR:=(.reg [iSm 11,.s (.bin .sub .int aS0 aC1),iQm 11 0])
def je.g12 (X13 X33:IR):IR:=(.seq X13 X33)
def je.b12:IR:=je.g12 je.b13 je.b33
def je.g11 (X12:IR):IR:=(.seq (iSr [iSm 11,iQo 24 (.bin .geq .int aS0 aC0)] (.cond aT24 .skip (.exit 2))) X12)
def je.b11:IR:=je.g11 je.b12
def je.g10 (X11:IR):IR:=(.loop X11)
def je.b10:IR:=je.g10 je.b11
def je.g9 (X10:IR):IR:=(.block 2 X10)
def je.b9:IR:=je.g9 je.b10
def je.b34:IR:=(.seq (.yw [] [(iSm 9,0,[]),(iSm 8,0,[]),(.s (.slice 1 aS1 none (some aS0) none),0,[]),(iSm 6,1,[]),(.s (.zo 1 aS0 aC0),1,[]),(.s (.load aS0),1,[]),(iCa 241 [aS3],0,[]),(iCa 240 [aS0,aS1],0,[]),(.s (.mv aS0),0,[]),(.s (.ext 0 aS0),0,[]),(.s (.ext 1 aS1),0,[]),(iQm 20 1,0,[]),(.s (.mv aS0),0,[])]) (iSr [iSm 10,iCa 241 [aS0],iSm 20,iQm 2 1,iQm 3 0] .ret))
def je.g8 (X9 X34:IR):IR:=(iSr [iSm 9,.s (.len aS0),iSm 8,.s (.bin .sub .int aS1 aS0),.w .push none (.gy 1 8 [(I 0)] aS0 aS0),iQm 10 0] (.seq (iSr [iSm 9,.s (.len aS0),iSm 8,.s (.bin .sub .int aS1 aS0),.s (.bin .sub .int aS0 aC1),iQm 11 0] X9) X34))
def je.b8:IR:=je.g8 je.b9 je.b34
def je.g2 (X3 X8:IR):IR:=(iSr [iSm 1,iSm 1,.s (.len aS0),.s (.bin .sub .int aS0 aC1),.s (.zo 1 aS3 aS0),.s (.load aS0),.s (.bin .add .int aS0 aC1),.s (.bin .quo .int jR aS0),.w .push none (.zy 1 1 [(I 0)] [(0,1,aS0)]),iQm 6 0] (iSr [iSm 1,iSm 6,iCa 239 [aS1,aS0],iQm 7 0] (iSr [iSm 7,.s (.len aS0),iQm 8 0] (iSr [.w .push none (.zy 1 0 [(I 0)] []),iSm 0,iSm 6,iCa 239 [aS1,aS0],.w .push none (.app 1 8 aS3 aS0),iQm 9 0] (.seq X3 X8)))))
def je.b2:IR:=je.g2 je.b3 je.b8
def je.g1 (X2:IR):IR:=(.seq (iSr [iSm 1,.s (.len aS0),iQo 22 (.bin .eql .int aS0 aC1)] (.cond aT22 (iSr [iSm 0,iSm 1,.s (.zo 1 aS0 aC0),.s (.load aS0),iCa 240 [aS3,aS0],.s (.mv aS0),.s (.ext 0 aS0),.s (.ext 1 aS1),iQm 4 1,iQm 5 0] (iSr [iSm 4,iSm 5,.w .push none (.zy 1 1 [(I 0)] [(0,1,aS0)]),iCa 241 [aS0],iQm 2 3,iQm 3 0] .ret)) .skip)) X2)
def je.b1:IR:=je.g1 je.b2
def je.g0 (X1:IR):IR:=(iSr [iQo 2 (.mv (.c .zf)),iQo 3 (.mv (.c .zf))] (.seq (iSr [iSm 0,iSm 1,iCa 237 [aS1,aS0],iQo 21 (.bin .lss .int aS0 aC0)] (.cond aT21 (iSr [iSm 0,iQo 2 (.mv (.c .zf)),iQm 3 0] .ret) .skip)) X1))
def je.b0:IR:=je.g0 je.b1
def je.res:List RV:=[.t (.of 2),.t (.of 3)]
def je:Fn:={ params:=[(.of 0),(.of 1)],res:=je.res,body:=je.b0,init:=in29 }
theorem je.ok:fnA Tryz.prog Tryz.f193 [0,1,4,5,6,7,8,9,10,11,12,13,14,15,16,17,18,19,20,21,22,27,31,68,83,92,115,145,150]=some je:=by kernel_rfl
abbrev sD.fr:=fr5
def sD.b5:IR:=(iSr [iSm 0,.s (.bin .rem .int aS0 aC10),iSm 0,.s (.bin .rem .int aS0 aC10),.s (.bin .add .int aS0 aC1),.s (.cZ (.c (.str [48,49,50,51,52,53,54,55,56,57])) (some aS3) (some aS0)),iSm 3,.s (.bin .add .str aS1 aS0),iQm 3 0] (.reg [iSm 0,.s (.bin .quo .int aS0 aC10),iQm 0 0]))
def sD.g4 (X5:IR):IR:=(.block 1 X5)
def sD.b4:IR:=sD.g4 sD.b5
def sD.g3 (X4:IR):IR:=(.seq (iSr [iSm 0,.s (.bin .gtr .int aS0 aC0),.s (.mv aS0),iPf 0 (.mv aT3),iPf 1 (.slen aS0),iPf 2 (.mv aT1),iPf 3 (.bin .lss .int aS1 aS0),iQo 4 (.pick aS4 (.c (.bool true)) aS0)] (.cond aT4 .skip (.exit 0))) X4)
def sD.b3:IR:=sD.g3 sD.b4
def sD.g2 (X3:IR):IR:=(.loop X3)
def sD.b2:IR:=sD.g2 sD.b3
def sD.g1 (X2:IR):IR:=(.block 0 X2)
def sD.b1:IR:=sD.g1 sD.b2
def sD.b6:IR:=(iSr [iSm 3,iQm 2 0] .ret)
def sD.g0 (X1 X6:IR):IR:=(iSr [iQo 2 (.mv (.c (.str [])))] (iSr [iQo 3 (.mv (.c (.str [])))] (.seq X1 X6)))
def sD.b0:IR:=sD.g0 sD.b1 sD.b6
def sD.res:List RV:=[.t (.of 2)]
def sD:Fn:={ params:=[(.of 0),(.of 1)],res:=sD.res,body:=sD.b0,init:=in5 }
theorem sD.ok:fnA Tryz.prog Tryz.f194 [0,1,4,5,13]=some sD:=by kernel_rfl
abbrev F195.fr:=fr3
def F195.b0:IR:=(iSr [iWl 2 (.alloc [(.bool false),.zf])] (iSr [iSm 1,iCa 241 [aS0],iQm 1 0] (iSr [iSm 0,.s (.mv aS0),iPt 0 (.mv aT1),iPt 1 (.len aS0),iPt 2 (.bin .gtr .int aS0 aC0),.s (.pick aS3 aS0 (.c (.bool false))),iSm 1,.s (.build [(.bool false),.zf] [(0,1,aS1),(1,1,aS0)]),.w .none none (.store 2 aT2 aS0)] .ret)))
def F195.res:List RV:=[.cell (.of 2) (some 2)]
def F195:Fn:={ params:=[(.of 0),(.of 1)],res:=F195.res,body:=F195.b0,init:=in3 }
theorem F195.ok:fnA Tryz.prog Tryz.f195 [0,1,4]=some F195:=by kernel_rfl
abbrev oL.fr:=fr4
def oL.b2:IR:=(iSr [iSm 0,.s (.bin .add .str (.c (.str [45])) aS0),iQm 1 0] .ret)
def oL.g1 (X2:IR):IR:=(.seq (iSr [iSm 0,iCa 132 [aS0],iQo 3 (.bin .eql .int aS0 aC0)] (.cond aT3 (iSr [iSm 0,iQm 1 0] .ret) .skip)) X2)
def oL.b1:IR:=oL.g1 oL.b2
def oL.g0 (X1:IR):IR:=(iSr [iQo 1 (.mv (.c (.str [])))] (.seq (iSr [iSm 0,iCa 132 [aS0],iQo 2 (.bin .lss .int aS0 aC0)] (.cond aT2 (iSr [iSm 0,.s (.cZ aS0 (some aC1) none),iQm 1 0] .ret) .skip)) X1))
def oL.b0:IR:=oL.g0 oL.b1
def oL.res:List RV:=[.t (.of 1)]
def oL:Fn:={ params:=[(.of 0)],res:=oL.res,body:=oL.b0,init:=in4 }
theorem oL.ok:fnA Tryz.prog Tryz.f196 [0,2,5,10]=some oL:=by kernel_rfl
abbrev uz.fr:=fr8
def uz.b6:IR:=(iSr [iSm 5,iQm 3 0] (iSr [iSm 1,iSm 0,iSm 3,.s (.zo 1 aS1 aS0),.s (.load aS0),iWl 7 (.call aS4 [aS0])] (.cond aT7 (iSr [iSm 3,iQm 2 0] .ret) .skip)))
def uz.g5 (X6:IR):IR:=(.block 1 X6)
def uz.b5:IR:=uz.g5 uz.b6
def uz.b7:IR:=(.reg [.s (.bin .add .int aT5 aC1),iQm 5 0])
def uz.g4 (X5 X7:IR):IR:=(.seq X5 X7)
def uz.b4:IR:=uz.g4 uz.b5 uz.b7
def uz.g3 (X4:IR):IR:=(iSr [iQo 6 (.bin .lss .int aT5 aT4)] (.seq (.cond aT6 .skip (.exit 0)) X4))
def uz.b3:IR:=uz.g3 uz.b4
def uz.g2 (X3:IR):IR:=(.loop X3)
def uz.b2:IR:=uz.g2 uz.b3
def uz.g1 (X2:IR):IR:=(.block 0 X2)
def uz.b1:IR:=uz.g1 uz.b2
def uz.b8:IR:=(iSr [iQo 2 (.mv (.c (I (-1))))] .ret)
def uz.g0 (X1 X8:IR):IR:=(iSr [iQo 2 (.mv aC0)] (.seq (iSr [iSm 0,iQo 4 (.len aS0),iQo 5 (.mv aC0)] X1) X8))
def uz.b0:IR:=uz.g0 uz.b1 uz.b8
def uz.res:List RV:=[.t (.of 2)]
def uz:Fn:={ params:=[(.of 0),(.of 1)],res:=uz.res,body:=uz.b0,init:=in8 }
theorem uz.ok:fnA Tryz.prog Tryz.f197 [0,1,4,5,7,8,9,16]=some uz:=by kernel_rfl
abbrev jq.fr:=fr10
def jq.b8:IR:=(.reg [iSm 2,iSm 3,.s (.zo 1 aS1 aS0),.w .none none (.store 1 aS0 (.c (.bool true)))])
def jq.g7 (X8:IR):IR:=(iSr [.s (.zo 1 aT5 aT7),.s (.load aS0),iQm 3 0] (.seq (iSr [iSm 3,.s (.bin .lss .int aS0 aC0),.s (.mv aS0),iPf 0 (.mv aT3),iPf 1 (.mv aT0),iPf 2 (.len aS0),iPf 3 (.bin .geq .int aS2 aS0),.s (.pick aS4 (.c (.bool true)) aS0),.s (.mv aS0),iPf 0 (.mv aT2),iPf 1 (.mv aT3),iPf 2 (.zo 1 aS1 aS0),iPf 3 (.load aS0),iQo 9 (.pick aS4 (.c (.bool true)) aS0)] (.cond aT9 (iSr [iQo 1 (.mv aC14)] .ret) .skip)) X8))
def jq.b7:IR:=jq.g7 jq.b8
def jq.g6 (X7:IR):IR:=(.block 1 X7)
def jq.b6:IR:=jq.g6 jq.b7
def jq.b9:IR:=(.reg [.s (.bin .add .int aT7 aC1),iQm 7 0])
def jq.g5 (X6 X9:IR):IR:=(.seq X6 X9)
def jq.b5:IR:=jq.g5 jq.b6 jq.b9
def jq.g4 (X5:IR):IR:=(iSr [iQo 8 (.bin .lss .int aT7 aT6)] (.seq (.cond aT8 .skip (.exit 0)) X5))
def jq.b4:IR:=jq.g4 jq.b5
def jq.g3 (X4:IR):IR:=(.loop X4)
def jq.b3:IR:=jq.g3 jq.b4
def jq.g2 (X3:IR):IR:=(.block 0 X3)
def jq.b2:IR:=jq.g2 jq.b3
def jq.b10:IR:=(iSr [iQo 1 (.mv aC0)] .ret)
def jq.g1 (X2 X10:IR):IR:=(iSr [iSm 0,.s (.len aS0),.w .push none (.gy 1 1 [(.bool false)] aS0 aS0),iQm 2 0] (.seq (iSr [iQo 5 (.mv aT0),iQo 6 (.len aT5),iQo 7 (.mv aC0)] X2) X10))
def jq.b1:IR:=jq.g1 jq.b2 jq.b10
def jq.g0 (X1:IR):IR:=(iSr [iQo 1 (.mv aC0)] (.seq (iSr [iSm 0,.s (.len aS0),iQo 4 (.bin .gtr .int aS0 zb9)] (.cond aT4 (iSr [iQo 1 (.mv aC5)] .ret) .skip)) X1))
def jq.b0:IR:=jq.g0 jq.b1
def jq.res:List RV:=[.t (.of 1)]
def jq:Fn:={ params:=[(.of 0)],res:=jq.res,body:=jq.b0,init:=in10 }
theorem jq.ok:fnA Tryz.prog Tryz.f198 [0,2,3,5,8,12,13,14,15,31]=some jq:=by kernel_rfl
abbrev sF.fr:=fr4
def sF.b5:IR:=(.yw [] [(iSm 1,0,[]),(iSm 0,0,[]),(iSm 1,0,[]),(.s (.bin .rem .int aS1 aS0),0,[]),(iQm 0 3,0,[]),(iQm 1 0,0,[])])
def sF.g4 (X5:IR):IR:=(.block 1 X5)
def sF.b4:IR:=sF.g4 sF.b5
def sF.g3 (X4:IR):IR:=(.seq (iSr [iSm 1,iQo 3 (.bin .gtr .int aS0 aC0)] (.cond aT3 .skip (.exit 0))) X4)
def sF.b3:IR:=sF.g3 sF.b4
def sF.g2 (X3:IR):IR:=(.loop X3)
def sF.b2:IR:=sF.g2 sF.b3
def sF.g1 (X2:IR):IR:=(.block 0 X2)
def sF.b1:IR:=sF.g1 sF.b2
def sF.b6:IR:=(iSr [iSm 0,iQm 2 0] .ret)
def sF.g0 (X1 X6:IR):IR:=(iSr [iQo 2 (.mv aC0)] (.seq X1 X6))
def sF.b0:IR:=sF.g0 sF.b1 sF.b6
def sF.res:List RV:=[.t (.of 2)]
def sF:Fn:={ params:=[(.of 0),(.of 1)],res:=sF.res,body:=sF.b0,init:=in4 }
theorem sF.ok:fnA Tryz.prog Tryz.f199 [0,1,4,6]=some sF:=by kernel_rfl
abbrev F200.fr:=fr3
def F200.b0:IR:=(iSr [iSm 0,.s (.len aS0),iQm 2 0] (.reg [iSm 0,iSm 2,iSm 2,.s (.conv .u64 aS0),iCa 161 [aS0],iSm 1,iCa 243 [aS5,aC0,aS4,aS1,aS0]]))
def F200.res:List RV:=[]
def F200:Fn:={ params:=[(.of 0),(.of 1)],res:=F200.res,body:=F200.b0,init:=in3 }
theorem F200.ok:fnA Tryz.prog Tryz.f200 [0,1,4]=some F200:=by kernel_rfl
abbrev uf.fr:=fr14
def uf.b7:IR:=(iSr [iSm 1,iSm 3,.s (.zo 1 aS1 aS0),.s (.load aS0),iQm 5 0] (iSr [iSm 4,iSm 5,iCa 244 [aS1,aS0],iQm 6 0] (iSr [iSm 6,iQo 12 (.bin .neq .int aS0 aC0)] (.cond tZ (iSr [iSm 6,iQm 2 0] .ret) .skip))))
def uf.g6 (X7:IR):IR:=(iSr [iSm 9,.s (.zo 1 aT7 aT9),.s (.load aS0),iQm 3 2,iQm 4 0] (.seq (iSr [iSm 3,iSm 1,.s (.len aS0),iQo 11 (.bin .geq .int aS2 aS0)] (.cond sV (iSr [iQo 2 (.mv aC1)] .ret) .skip)) X7))
def uf.b6:IR:=uf.g6 uf.b7
def uf.g5 (X6:IR):IR:=(.block 1 X6)
def uf.b5:IR:=uf.g5 uf.b6
def uf.b8:IR:=(.reg [.s (.bin .add .int aT9 aC1),iQm 9 0])
def uf.g4 (X5 X8:IR):IR:=(.seq X5 X8)
def uf.b4:IR:=uf.g4 uf.b5 uf.b8
def uf.g3 (X4:IR):IR:=(iSr [iQo 10 (.bin .lss .int aT9 aT8)] (.seq (.cond fA .skip (.exit 0)) X4))
def uf.b3:IR:=uf.g3 uf.b4
def uf.g2 (X3:IR):IR:=(.loop X3)
def uf.b2:IR:=uf.g2 uf.b3
def uf.g1 (X2:IR):IR:=(.block 0 X2)
def uf.b1:IR:=uf.g1 uf.b2
def uf.b10:IR:=(iSr [iQo 2 (.mv aC0)] .ret)
def uf.g9 (X10:IR):IR:=(.seq (iSr [iSm 0,.s (.len aS0),iSm 1,.s (.len aS0),iQo 13 (.bin .lss .int aS2 aS0)] (.cond sQ (iSr [iQo 2 (.mv (.c (I (-1))))] .ret) .skip)) X10)
def uf.b9:IR:=uf.g9 uf.b10
def uf.g0 (X1 X9:IR):IR:=(iSr [iQo 2 (.mv aC0)] (.seq (iSr [iQo 7 (.mv aT0),iQo 8 (.len aT7),iQo 9 (.mv aC0)] X1) X9))
def uf.b0:IR:=uf.g0 uf.b1 uf.b9
def uf.res:List RV:=[.t (.of 2)]
def uf:Fn:={ params:=[(.of 0),(.of 1)],res:=uf.res,body:=uf.b0,init:=in14 }
theorem uf.ok:fnA Tryz.prog Tryz.f201 [0,1,4,5,6,7,8,9,10,11,12,19,28,35]=some uf:=by kernel_rfl
abbrev zi.fr:=fr11
def zi.b13:IR:=(.seq (.yw [] [(iSm 1,0,[]),(iSm 4,0,[]),(iSm 5,0,[]),(.s (.zo 1 aS1 aS0),0,[]),(.s (.load aS0),0,[]),(iSm 4,0,[]),(iSm 5,0,[]),(.s (.bin .sub .int aS0 aC1),0,[]),(.s (.zo 1 aS2 aS0),0,[]),(.s (.load aS0),0,[]),(.w .push none (.call aS9 [aS5,aS0]),0,[]),(iQo 10 (.not aS0),0,[])]) (.cond fA (iSr [iSm 0,iSm 3,iSm 4,iSm 5,.s (.zo 1 aS1 aS0),.s (.load aS0),.s (.zo 1 aS5 aS4),.w .none none (.store 1 aS0 aS1)] (.reg [iSm 3,.s (.bin .add .int aS0 aC1),iQm 3 0])) .skip))
def zi.g12 (X13:IR):IR:=(.block 3 X13)
def zi.b12:IR:=zi.g12 zi.b13
def zi.b14:IR:=(.reg [iSm 5,.s (.bin .add .int aS0 aC1),iQm 5 0])
def zi.g11 (X12 X14:IR):IR:=(.seq X12 X14)
def zi.b11:IR:=zi.g11 zi.b12 zi.b14
def zi.g10 (X11:IR):IR:=(.seq (iSr [iSm 5,iSm 4,.s (.len aS0),iQo 9 (.bin .lss .int aS2 aS0)] (.cond aT9 .skip (.exit 2))) X11)
def zi.b10:IR:=zi.g10 zi.b11
def zi.g9 (X10:IR):IR:=(.loop X10)
def zi.b9:IR:=zi.g9 zi.b10
def zi.g8 (X9:IR):IR:=(.block 2 X9)
def zi.b8:IR:=zi.g8 zi.b9
def zi.b15:IR:=(iSr [iSm 0,iSm 3,.s (.slice 1 aS1 (some aS0) none none),.w .none none (.clr 1 [.zf] aS0)] (iSr [iSm 0,iSm 3,.s (.slice 1 aS1 none (some aS0) none),iQm 2 0] .ret))
def zi.g7 (X8 X15:IR):IR:=(.seq (.yw [] [(iSm 1,0,[]),(iSm 0,0,[]),(iSm 3,0,[]),(.s (.zo 1 aS1 aS0),0,[]),(.s (.load aS0),0,[]),(iSm 0,0,[]),(iSm 3,0,[]),(.s (.bin .sub .int aS0 aC1),0,[]),(.s (.zo 1 aS2 aS0),0,[]),(.s (.load aS0),0,[]),(iWl 8 (.call aS9 [aS5,aS0]),0,[])]) (.cond aT8 (iSr [iSm 0,iSm 3,.s (.slice 1 aS1 (some aS0) none none),iQm 4 0] (.seq (iSr [iQo 5 (.mv aC1)] X8) X15)) .skip))
def zi.b7:IR:=zi.g7 zi.b8 zi.b15
def zi.g6 (X7:IR):IR:=(.block 1 X7)
def zi.b6:IR:=zi.g6 zi.b7
def zi.b16:IR:=(.reg [iSm 3,.s (.bin .add .int aS0 aC1),iQm 3 0])
def zi.g5 (X6 X16:IR):IR:=(.seq X6 X16)
def zi.b5:IR:=zi.g5 zi.b6 zi.b16
def zi.g4 (X5:IR):IR:=(.seq (iSr [iSm 3,iSm 0,.s (.len aS0),iQo 7 (.bin .lss .int aS2 aS0)] (.cond aT7 .skip (.exit 0))) X5)
def zi.b4:IR:=zi.g4 zi.b5
def zi.g3 (X4:IR):IR:=(.loop X4)
def zi.b3:IR:=zi.g3 zi.b4
def zi.g2 (X3:IR):IR:=(.block 0 X3)
def zi.b2:IR:=zi.g2 zi.b3
def zi.b17:IR:=(iSr [iSm 0,iQm 2 0] .ret)
def zi.g1 (X2 X17:IR):IR:=(.seq (iSr [iQo 3 (.mv aC1)] X2) X17)
def zi.b1:IR:=zi.g1 zi.b2 zi.b17
def zi.g0 (X1:IR):IR:=(iSr [iQo 2 (.mv (.c .zf))] (.seq (iSr [iSm 0,.s (.len aS0),iQo 6 (.bin .lss .int aS0 aC2)] (.cond aT6 (iSr [iSm 0,iQm 2 0] .ret) .skip)) X1))
def zi.b0:IR:=zi.g0 zi.b1
def zi.res:List RV:=[.t (.of 2)]
def zi:Fn:={ params:=[(.of 0),(.of 1)],res:=zi.res,body:=zi.b0,init:=in11 }
theorem zi.ok:fnA Tryz.prog Tryz.f202 [0,1,4,5,6,7,10,15,28,35,49]=some zi:=by kernel_rfl
abbrev qw.fr:=fr7
def qw.b12:IR:=(.yw [] [(iSm 0,0,[]),(iSm 4,0,[]),(iSm 0,1,[]),(iSm 4,1,[]),(.s (.bin .sub .int aS0 aC1),1,[]),(iSm 0,0,[]),(iSm 4,0,[]),(.s (.bin .sub .int aS0 aC1),0,[]),(.s (.zo 1 aS2 aS0),0,[]),(.s (.load aS0),0,[]),(iSm 0,0,[]),(iSm 4,0,[]),(.s (.zo 1 aS1 aS0),0,[]),(.s (.load aS0),0,[]),(.s (.zo 1 aS13 aS12),0,[]),(.w .none none (.store 1 aS0 aS5),0,[]),(.s (.zo 1 aS12 aS10),0,[]),(.w .none none (.store 1 aS0 aS2),0,[])])
def qw.g11 (X12:IR):IR:=(.block 3 X12)
def qw.b11:IR:=qw.g11 qw.b12
def qw.b13:IR:=(.reg [iSm 4,.s (.bin .sub .int aS0 aC1),iQm 4 0])
def qw.g10 (X11 X13:IR):IR:=(.seq X11 X13)
def qw.b10:IR:=qw.g10 qw.b11 qw.b13
def qw.g9 (X10:IR):IR:=(.seq (.seq (.yw [] [(iSm 4,0,[]),(iSm 1,0,[]),(.s (.bin .gtr .int aS1 aS0),0,[]),(.s (.mv aS0),0,[]),(iPt 0 (.mv aT0),0,[]),(iPt 1 (.mv aT4),0,[]),(iPt 2 (.zo 1 aS1 aS0),0,[]),(iPt 3 (.load aS0),0,[]),(iPt 4 (.mv aT0),0,[]),(iPt 5 (.mv aT4),0,[]),(iPt 6 (.bin .sub .int aS0 aC1),0,[]),(iPt 7 (.zo 1 aS2 aS0),0,[]),(iPt 8 (.load aS0),0,[]),(.w .push (some (aS9,true)) (.call (.c (.fn 209 (.of 209) [])) [aS5,aS0]),0,[]),(iQo 6 (.pick aS10 aS0 (.c (.bool false))),0,[])]) (.cond aT6 .skip (.exit 2))) X10)
def qw.b9:IR:=qw.g9 qw.b10
def qw.g8 (X9:IR):IR:=(.loop X9)
def qw.b8:IR:=qw.g8 qw.b9
def qw.g7 (X8:IR):IR:=(.block 2 X8)
def qw.b7:IR:=qw.g7 qw.b8
def qw.g6 (X7:IR):IR:=(iSr [iSm 3,iQm 4 0] X7)
def qw.b6:IR:=qw.g6 qw.b7
def qw.g5 (X6:IR):IR:=(.block 1 X6)
def qw.b5:IR:=qw.g5 qw.b6
def qw.b14:IR:=(.reg [iSm 3,.s (.bin .add .int aS0 aC1),iQm 3 0])
def qw.g4 (X5 X14:IR):IR:=(.seq X5 X14)
def qw.b4:IR:=qw.g4 qw.b5 qw.b14
def qw.g3 (X4:IR):IR:=(.seq (iSr [iSm 3,iSm 2,iQo 5 (.bin .lss .int aS1 aS0)] (.cond aT5 .skip (.exit 0))) X4)
def qw.b3:IR:=qw.g3 qw.b4
def qw.g2 (X3:IR):IR:=(.loop X3)
def qw.b2:IR:=qw.g2 qw.b3
def qw.g1 (X2:IR):IR:=(.block 0 X2)
def qw.b1:IR:=qw.g1 qw.b2
def qw.g0 (X1:IR):IR:=(iSr [iSm 1,.s (.bin .add .int aS0 aC1),iQm 3 0] X1)
def qw.b0:IR:=qw.g0 qw.b1
def qw.res:List RV:=[]
def qw:Fn:={ params:=[(.of 0),(.of 1),(.of 2)],res:=qw.res,body:=qw.b0,init:=in7 }
theorem qw.ok:fnA Tryz.prog Tryz.f203 [0,1,2,6,7,12,30]=some qw:=by kernel_rfl
abbrev F209.fr:=fr3
def F209.b0:IR:=(iSr [iQo 2 (.mv (.c (.bool false)))] (iSr [iSm 0,iCa 250 [aS0],.s (.mv aS0),iPt 0 (.mv aT1),.w .push (some (aS1,true)) (.call (.c (.fn 250 (.of 250) [])) [aS0]),iPt 2 (.not aS0),.s (.pick aS3 aS0 (.c (.bool false))),.s (.mv aS0),iPf 0 (.mv aT0),iPf 1 (.mv aT1),iPf 2 (.bin .lss .int aS1 aS0),.s (.pick aS3 (.c (.bool true)) aS0),iQm 2 0] .ret))
def F209.res:List RV:=[.t (.of 2)]
def F209:Fn:={ params:=[(.of 0),(.of 1)],res:=F209.res,body:=F209.b0,init:=in3 }
theorem F209.ok:fnA Tryz.prog Tryz.f209 [0,1,4]=some F209:=by kernel_rfl
abbrev aT.fr:=fr5
def aT.b3:IR:=(iSr [iSm 1,iSm 0,.s (.conv .u8 aS0),.s (.sidx (.c (.str [0,1,2,2,3,3,3,3,4,4,4,4,4,4,4,4,5,5,5,5,5,5,5,5,5,5,5,5,5,5,5,5,6,6,6,6,6,6,6,6,6,6,6,6,6,6,6,6,6,6,6,6,6,6,6,6,6,6,6,6,6,6,6,6,7,7,7,7,7,7,7,7,7,7,7,7,7,7,7,7,7,7,7,7,7,7,7,7,7,7,7,7,7,7,7,7,7,7,7,7,7,7,7,7,7,7,7,7,7,7,7,7,7,7,7,7,7,7,7,7,7,7,7,7,7,7,7,7,8,8,8,8,8,8,8,8,8,8,8,8,8,8,8,8,8,8,8,8,8,8,8,8,8,8,8,8,8,8,8,8,8,8,8,8,8,8,8,8,8,8,8,8,8,8,8,8,8,8,8,8,8,8,8,8,8,8,8,8,8,8,8,8,8,8,8,8,8,8,8,8,8,8,8,8,8,8,8,8,8,8,8,8,8,8,8,8,8,8,8,8,8,8,8,8,8,8,8,8,8,8,8,8,8,8,8,8,8,8,8,8,8,8,8,8,8,8,8,8,8,8,8,8,8,8,8,8])) aS0),.s (.conv .i64 aS0),.s (.bin .add .int aS4 aS0),iQm 1 0] .ret)
def aT.g2 (X3:IR):IR:=(.seq (iSr [iSm 0,iQo 4 (.bin .geq .int aS0 (.c (.int .u64 256)))] (.cond aT4 (iSr [iSm 0,.s (.bin .shr .int aS0 (.c (.int .u64 8))),iQm 0 0] (.reg [iSm 1,.s (.bin .add .int aS0 aC8),iQm 1 0])) .skip)) X3)
def aT.b2:IR:=aT.g2 aT.b3
def aT.g1 (X2:IR):IR:=(.seq (iSr [iSm 0,iQo 3 (.bin .geq .int aS0 (.c (.int .u64 65536)))] (.cond aT3 (iSr [iSm 0,.s (.bin .shr .int aS0 (.c (.int .u64 16))),iQm 0 0] (.reg [iSm 1,.s (.bin .add .int aS0 aC16),iQm 1 0])) .skip)) X2)
def aT.b1:IR:=aT.g1 aT.b2
def aT.g0 (X1:IR):IR:=(iSr [iQo 1 (.mv aC0)] (.seq (iSr [iSm 0,iQo 2 (.bin .geq .int aS0 (.c (.int .u64 4294967296)))] (.cond aT2 (iSr [iSm 0,.s (.bin .shr .int aS0 (.c (.int .u64 32))),iQm 0 0] (.reg [iQo 1 (.mv aC32)])) .skip)) X1))
def aT.b0:IR:=aT.g0 aT.b1
def aT.res:List RV:=[.t (.of 1)]
def aT:Fn:={ params:=[(.of 0)],res:=aT.res,body:=aT.b0,init:=in5 }
theorem aT.ok:fnA Tryz.prog Tryz.f213 [0,2,4,8,14]=some aT:=by kernel_rfl
abbrev F215.fr:=fr4
def F215.b0:IR:=(iSr [iQo 3 (.mv (.c (.bool false)))] (iSr [iSm 0,.s (.load aT1),.s (.bin .lss .int aS1 aS0),.s (.mv aS0),iPf 0 (.mv aT0),iPf 1 (.load aT2),iPf 2 (.bin .gtr .int aS1 aS0),.s (.pick aS3 (.c (.bool true)) aS0),iQm 3 0] .ret))
def F215.res:List RV:=[.t (.of 3)]
def F215:Fn:={ params:=[(.of 0),(.of 1),(.of 2)],res:=F215.res,body:=F215.b0,init:=in4 }
theorem F215.ok:fnA Tryz.prog Tryz.f215 [0,1,2,4]=some F215:=by kernel_rfl
abbrev F216.fr:=fr3
def F216.b0:IR:=(iSr [iQo 2 (.mv (.c (.bool false)))] (iSr [iSm 0,iSm 1,iCa 259 [aS1,aS0],.s (.bin .geq .int aS0 aC0),iQm 2 0] .ret))
def F216.res:List RV:=[.t (.of 2)]
def F216:Fn:={ params:=[(.of 0),(.of 1)],res:=F216.res,body:=F216.b0,init:=in3 }
theorem F216.ok:fnA Tryz.prog Tryz.f216 [0,1,4]=some F216:=by kernel_rfl
abbrev F217.fr:=fr3
def F217.b0:IR:=(iSr [iQo 2 (.mv (.c (.bool false)))] (iSr [iSm 0,.s (.load aT1),iCa 158 [aS1,aS0],iQm 2 0] .ret))
def F217.res:List RV:=[.t (.of 2)]
def F217:Fn:={ params:=[(.of 0),(.of 1)],res:=F217.res,body:=F217.b0,init:=in3 }
theorem F217.ok:fnA Tryz.prog Tryz.f217 [0,1,3]=some F217:=by kernel_rfl
abbrev rC.fr:=fr5
def rC.b6:IR:=(.reg [iSm 2,.s (.bin .mul .int aC10 aS0),iSm 0,iSm 3,.s (.sidx aS1 aS0),.s (.conv .i64 aS0),.s (.bin .add .int aS4 aS0),.s (.bin .sub .int aS0 aC48),iQm 2 0])
def rC.g5 (X6:IR):IR:=(.block 1 X6)
def rC.b5:IR:=rC.g5 rC.b6
def rC.b7:IR:=(.reg [iSm 3,.s (.bin .add .int aS0 aC1),iQm 3 0])
def rC.g4 (X5 X7:IR):IR:=(.seq X5 X7)
def rC.b4:IR:=rC.g4 rC.b5 rC.b7
def rC.g3 (X4:IR):IR:=(.seq (iSr [iSm 3,iSm 0,.s (.slen aS0),iQo 4 (.bin .lss .int aS2 aS0)] (.cond aT4 .skip (.exit 0))) X4)
def rC.b3:IR:=rC.g3 rC.b4
def rC.g2 (X3:IR):IR:=(.loop X3)
def rC.b2:IR:=rC.g2 rC.b3
def rC.g1 (X2:IR):IR:=(.block 0 X2)
def rC.b1:IR:=rC.g1 rC.b2
def rC.b8:IR:=(iSr [iSm 2,iQm 1 0] .ret)
def rC.g0 (X1 X8:IR):IR:=(iSr [iQo 1 (.mv aC0)] (iSr [iQo 2 (.mv aC0)] (.seq (iSr [iQo 3 (.mv aC0)] X1) X8)))
def rC.b0:IR:=rC.g0 rC.b1 rC.b8
def rC.res:List RV:=[.t (.of 1)]
def rC:Fn:={ params:=[(.of 0)],res:=rC.res,body:=rC.b0,init:=in5 }
theorem rC.ok:fnA Tryz.prog Tryz.f218 [0,2,3,4,8]=some rC:=by kernel_rfl
abbrev F220.fr:=fr3
def F220.b1:IR:=(iSr [iSm 0,.s (.conv .u64 aS0),iQm 1 0] .ret)
def F220.g0 (X1:IR):IR:=(iSr [iQo 1 (.mv (.c (.int .u64 0)))] (.seq (iSr [iSm 0,iQo 2 (.bin .lss .int aS0 aC0)] (.cond aT2 (iSr [iSm 0,.s (.neg aS0),.s (.conv .u64 aS0),iQm 1 0] .ret) .skip)) X1))
def F220.b0:IR:=F220.g0 F220.b1
def F220.res:List RV:=[.t (.of 1)]
def F220:Fn:={ params:=[(.of 0)],res:=F220.res,body:=F220.b0,init:=in3 }
theorem F220.ok:fnA Tryz.prog Tryz.f220 [0,2,4]=some F220:=by kernel_rfl
abbrev F224.fr:=fr12
def F224.b0:IR:=(iSr [iQo 2 (.mv (.c (.int .u64 0))),iQo 3 (.mv (.c (.int .u64 0)))] (iSr [iSm 0,.s (.bin .and .int aS0 (.c (.int .u64 4294967295))),iQm 4 0] (iSr [iSm 0,.s (.bin .shr .int aS0 (.c (.int .u64 32))),iQm 5 0] (iSr [iSm 1,.s (.bin .and .int aS0 (.c (.int .u64 4294967295))),iQm 6 0] (iSr [iSm 1,.s (.bin .shr .int aS0 (.c (.int .u64 32))),iQm 7 0] (iSr [iSm 4,iSm 6,.s (.bin .mul .int aS1 aS0),iQm 8 0] (iSr [iSm 5,iSm 6,.s (.bin .mul .int aS1 aS0),iSm 8,.s (.bin .shr .int aS0 (.c (.int .u64 32))),.s (.bin .add .int aS2 aS0),iQm 9 0] (iSr [iSm 9,.s (.bin .and .int aS0 (.c (.int .u64 4294967295))),iQm 10 0] (iSr [iSm 9,.s (.bin .shr .int aS0 (.c (.int .u64 32))),iQm 11 0] (iSr [iSm 10,iSm 4,iSm 7,.s (.bin .mul .int aS1 aS0),.s (.bin .add .int aS3 aS0),iQm 10 0] (iSr [iSm 5,iSm 7,.s (.bin .mul .int aS1 aS0),iSm 11,.s (.bin .add .int aS1 aS0),iSm 10,.s (.bin .shr .int aS0 (.c (.int .u64 32))),.s (.bin .add .int aS2 aS0),iQm 2 0] (iSr [iSm 0,iSm 1,.s (.bin .mul .int aS1 aS0),iQm 3 0] .ret))))))))))))
def F224.res:List RV:=[.t (.of 2),.t (.of 3)]
def F224:Fn:={ params:=[(.of 0),(.of 1)],res:=F224.res,body:=F224.b0,init:=in12 }
theorem F224.ok:fnA Tryz.prog Tryz.f224 [0,1,4,5,6,7,8,9,10,11,12,13]=some F224:=by kernel_rfl
abbrev F228.fr:=fr5
def F228.b1:IR:=(iSr [iSm 3,.s (.len aS0),.s (.bin .sub .int aS0 aC1),.s (.bin .mul .int aC64 aS0),iSm 3,iSm 3,.s (.len aS0),.s (.bin .sub .int aS0 aC1),.s (.zo 1 aS3 aS0),.s (.load aS0),iCa 213 [aS0],.s (.bin .add .int aS7 aS0),iQm 2 0] .ret)
def F228.g0 (X1:IR):IR:=(iSr [iWl 1 (.box aT0),iQo 2 (.mv aC0)] (iSr [.s (.zh 2 aT1),iCa 174 [aS0],.s (.mv aS0),.s (.ext 0 aS0),.s (.ext 1 aS1),.s (.mv aS1),iQm 3 1] (.seq (iSr [iSm 3,.s (.len aS0),iQo 4 (.bin .eql .int aS0 aC0)] (.cond aT4 (iSr [iQo 2 (.mv aC0)] .ret) .skip)) X1)))
def F228.b0:IR:=F228.g0 F228.b1
def F228.res:List RV:=[.t (.of 2)]
def F228:Fn:={ params:=[(.of 0)],res:=F228.res,body:=F228.b0,init:=in5 }
theorem F228.ok:fnA Tryz.prog Tryz.f228 [0,1,2,4,12]=some F228:=by kernel_rfl
abbrev F230.fr:=fr2
def F230.b0:IR:=(iSr [iQo 1 (.mv (.c (.str [])))] (iSr [iSm 0,iCa 265 [aS0],iQm 1 0] .ret))
def F230.res:List RV:=[.t (.of 1)]
def F230:Fn:={ params:=[(.of 0)],res:=F230.res,body:=F230.b0,init:=in2 }
theorem F230.ok:fnA Tryz.prog Tryz.f230 [0,2]=some F230:=by kernel_rfl
abbrev mg.fr:=fr9
def mg.b1:IR:=(iSr [iQo 2 (.mv aC1)] .ret)
def mg.b9:IR:=(.seq (.yw [] [(iSm 0,0,[]),(iSm 3,0,[]),(.s (.zo 1 aS1 aS0),0,[]),(.s (.load aS0),0,[]),(iSm 1,0,[]),(iSm 3,0,[]),(.s (.zo 1 aS1 aS0),0,[]),(.s (.load aS0),0,[]),(iQo 8 (.bin .gtr .int aS4 aS0),0,[])]) (.cond aT8 (iSr [iQo 2 (.mv aC1)] .ret) .skip))
def mg.g8 (X9:IR):IR:=(.seq (.seq (.yw [] [(iSm 0,0,[]),(iSm 3,0,[]),(.s (.zo 1 aS1 aS0),0,[]),(.s (.load aS0),0,[]),(iSm 1,0,[]),(iSm 3,0,[]),(.s (.zo 1 aS1 aS0),0,[]),(.s (.load aS0),0,[]),(iQo 7 (.bin .lss .int aS4 aS0),0,[])]) (.cond aT7 (iSr [iQo 2 (.mv (.c (I (-1))))] .ret) .skip)) X9)
def mg.b8:IR:=mg.g8 mg.b9
def mg.g7 (X8:IR):IR:=(.block 1 X8)
def mg.b7:IR:=mg.g7 mg.b8
def mg.b10:IR:=(.reg [iSm 3,.s (.bin .sub .int aS0 aC1),iQm 3 0])
def mg.g6 (X7 X10:IR):IR:=(.seq X7 X10)
def mg.b6:IR:=mg.g6 mg.b7 mg.b10
def mg.g5 (X6:IR):IR:=(.seq (iSr [iSm 3,iQo 6 (.bin .geq .int aS0 aC0)] (.cond aT6 .skip (.exit 0))) X6)
def mg.b5:IR:=mg.g5 mg.b6
def mg.g4 (X5:IR):IR:=(.loop X5)
def mg.b4:IR:=mg.g4 mg.b5
def mg.g3 (X4:IR):IR:=(.block 0 X4)
def mg.b3:IR:=mg.g3 mg.b4
def mg.b11:IR:=(iSr [iQo 2 (.mv aC0)] .ret)
def mg.g2 (X3 X11:IR):IR:=(.seq (iSr [iSm 0,.s (.len aS0),.s (.bin .sub .int aS0 aC1),iQm 3 0] X3) X11)
def mg.b2:IR:=mg.g2 mg.b3 mg.b11
def mg.g0 (X1 X2:IR):IR:=(iSr [iQo 2 (.mv aC0)] (.seq (iSr [iSm 0,.s (.len aS0),iSm 1,.s (.len aS0),iQo 4 (.bin .neq .int aS2 aS0)] (.cond aT4 (.seq (iSr [iSm 0,.s (.len aS0),iSm 1,.s (.len aS0),iQo 5 (.bin .lss .int aS2 aS0)] (.cond aT5 (iSr [iQo 2 (.mv (.c (I (-1))))] .ret) .skip)) X1) .skip)) X2))
def mg.b0:IR:=mg.g0 mg.b1 mg.b2
def mg.res:List RV:=[.t (.of 2)]
def mg:Fn:={ params:=[(.of 0),(.of 1)],res:=mg.res,body:=mg.b0,init:=in9 }
theorem mg.ok:fnA Tryz.prog Tryz.f237 [0,1,4,5,10,15,20,31,40]=some mg:=by kernel_rfl
abbrev rD.fr:=fr9
def rD.b6:IR:=(iSr [iSm 5,.s (.bin .mul .int aS0 jR),iSm 0,iSm 6,.s (.zo 1 aS1 aS0),.s (.load aS0),.s (.bin .add .int aS4 aS0),iQm 7 0] (iSr [iSm 4,iSm 6,iSm 7,iSm 1,.s (.bin .quo .int aS1 aS0),.s (.zo 1 aS4 aS3),.w .none none (.store 1 aS0 aS1)] (.reg [iSm 7,iSm 1,.s (.bin .rem .int aS1 aS0),iQm 5 0])))
def rD.g5 (X6:IR):IR:=(.block 1 X6)
def rD.b5:IR:=rD.g5 rD.b6
def rD.b7:IR:=(.reg [iSm 6,.s (.bin .sub .int aS0 aC1),iQm 6 0])
def rD.g4 (X5 X7:IR):IR:=(.seq X5 X7)
def rD.b4:IR:=rD.g4 rD.b5 rD.b7
def rD.g3 (X4:IR):IR:=(.seq (iSr [iSm 6,iQo 8 (.bin .geq .int aS0 aC0)] (.cond aT8 .skip (.exit 0))) X4)
def rD.b3:IR:=rD.g3 rD.b4
def rD.g2 (X3:IR):IR:=(.loop X3)
def rD.b2:IR:=rD.g2 rD.b3
def rD.g1 (X2:IR):IR:=(.block 0 X2)
def rD.b1:IR:=rD.g1 rD.b2
def rD.b8:IR:=(iSr [iSm 4,iCa 241 [aS0],iSm 5,iQm 2 1,iQm 3 0] .ret)
def rD.g0 (X1 X8:IR):IR:=(iSr [iQo 2 (.mv (.c .zf)),iQo 3 (.mv aC0)] (iSr [iSm 0,.s (.len aS0),.w .push none (.gy 1 8 [(I 0)] aS0 aS0),iQm 4 0] (iSr [iQo 5 (.mv aC0)] (.seq (iSr [iSm 0,.s (.len aS0),.s (.bin .sub .int aS0 aC1),iQm 6 0] X1) X8))))
def rD.b0:IR:=rD.g0 rD.b1 rD.b8
def rD.res:List RV:=[.t (.of 2),.t (.of 3)]
def rD:Fn:={ params:=[(.of 0),(.of 1)],res:=rD.res,body:=rD.b0,init:=in9 }
theorem rD.ok:fnA Tryz.prog Tryz.f240 [0,1,4,5,6,7,8,9,17]=some rD:=by kernel_rfl
abbrev sH.fr:=fr3
def sH.b5:IR:=(.reg [iSm 0,iSm 0,.s (.len aS0),.s (.bin .sub .int aS0 aC1),.s (.slice 1 aS3 none (some aS0) none),iQm 0 0])
def sH.g4 (X5:IR):IR:=(.block 1 X5)
def sH.b4:IR:=sH.g4 sH.b5
def sH.g3 (X4:IR):IR:=(.seq (iSr [iSm 0,.s (.len aS0),.s (.bin .gtr .int aS0 aC0),.s (.mv aS0),iPt 0 (.mv aT0),iPt 1 (.mv aT0),iPt 2 (.len aS0),iPt 3 (.bin .sub .int aS0 aC1),iPt 4 (.zo 1 aS3 aS0),iPt 5 (.load aS0),iPt 6 (.bin .eql .int aS0 aC0),iQo 2 (.pick aS7 aS0 (.c (.bool false)))] (.cond aT2 .skip (.exit 0))) X4)
def sH.b3:IR:=sH.g3 sH.b4
def sH.g2 (X3:IR):IR:=(.loop X3)
def sH.b2:IR:=sH.g2 sH.b3
def sH.g1 (X2:IR):IR:=(.block 0 X2)
def sH.b1:IR:=sH.g1 sH.b2
def sH.b6:IR:=(iSr [iSm 0,iQm 1 0] .ret)
def sH.g0 (X1 X6:IR):IR:=(iSr [iQo 1 (.mv (.c .zf))] (.seq X1 X6))
def sH.b0:IR:=sH.g0 sH.b1 sH.b6
def sH.res:List RV:=[.t (.of 1)]
def sH:Fn:={ params:=[(.of 0)],res:=sH.res,body:=sH.b0,init:=in3 }
theorem sH.ok:fnA Tryz.prog Tryz.f241 [0,2,14]=some sH:=by kernel_rfl
abbrev dw.fr:=fr24
def dw.b10:IR:=(iSr [iSm 0,iSm 1,iSm 2,iSm 8,iSm 4,iCa 280 [aS4,aS3,aS2,aS1,aS0],.s (.mv aS0),.s (.ext 0 aS0),.s (.ext 1 aS1),iQm 11 1,iQm 12 0] (iSr [iSm 12,iQm 6 0] (iSr [iSm 11,iSm 1,.s (.bin .sub .int aS1 aS0),iSm 2,iSm 11,.s (.bin .sub .int aS1 aS0),iQm 13 3,iQm 14 0] (iSr [iSm 7,.s (.bin .quo .int aS0 aC8),iQm 15 0] (iSr [iSm 13,iSm 14,iQo 23 (.bin .lss .int aS1 aS0)] (.cond aT23 (iSr [iSm 13,iSm 15,.s (.bin .geq .int aS1 aS0),iQm 5 0] (iSr [iSm 0,iSm 1,iSm 11,iSm 3,iSm 4,iCa 243 [aS4,aS3,aS2,aS1,aS0]] (.reg [iSm 11,.s (.bin .add .int aS0 aC1),iQm 1 0]))) (iSr [iSm 14,iSm 15,.s (.bin .geq .int aS1 aS0),iQm 5 0] (iSr [iSm 0,iSm 11,.s (.bin .add .int aS0 aC1),iSm 2,iSm 3,iSm 4,iCa 243 [aS5,aS3,aS2,aS1,aS0]] (.reg [iSm 11,iQm 2 0])))))))))
def dw.g9 (X10:IR):IR:=(.seq (.seq (.yw [] [(iSm 1,0,[]),(.s (.bin .gtr .int aS0 aC0),0,[]),(.s (.mv aS0),0,[]),(iPt 0 (.mv aT4),0,[]),(iPt 1 (.mv aT0),0,[]),(iPt 2 (.mv aT1),0,[]),(iPt 3 (.bin .sub .int aS0 aC1),0,[]),(iPt 4 (.zo 1 aS2 aS0),0,[]),(iPt 5 (.load aS0),0,[]),(iPt 6 (.mv aT0),0,[]),(iPt 7 (.mv aT8),0,[]),(iPt 8 (.zo 1 aS1 aS0),0,[]),(iPt 9 (.load aS0),0,[]),(.w .push (some (aS10,true)) (.call aS9 [aS4,aS0]),0,[]),(iPt 11 (.bin .lss .int aS0 aC0),0,[]),(iPt 12 (.not aS0),0,[]),(iQo 22 (.pick aS13 aS0 (.c (.bool false))),0,[])]) (.cond aT22 (iSr [iSm 0,iSm 1,iSm 2,iSm 8,iSm 4,iCa 279 [aS4,aS3,aS2,aS1,aS0],iQm 10 0] (iSr [iSm 10,iQm 1 0] (.exit 1))) .skip)) X10)
def dw.b9:IR:=dw.g9 dw.b10
def dw.g8 (X9:IR):IR:=(.seq (iSr [iSm 5,.s (.mv aS0),iPt 0 (.mv aT6),.s (.pick aS1 aS0 (.c (.bool false))),.s (.mv aS0),iPt 0 (.mv aT9),iPt 1 (.bin .eql .int aS0 aC1),iQo 20 (.pick aS2 aS0 (.c (.bool false)))] (.cond aT20 (iSr [iSm 0,iSm 1,iSm 2,iSm 4,iWl 21 (.call (.c (.fn 278 (.of 278) [])) [aS3,aS2,aS1,aS0])] (.cond aT21 .ret .skip)) .skip)) X9)
def dw.b8:IR:=dw.g8 dw.b9
def dw.g7 (X8:IR):IR:=(iSr [iSm 0,iSm 1,iSm 2,iSm 4,iCa 276 [aS3,aS2,aS1,aS0],.s (.mv aS0),.s (.ext 0 aS0),.s (.ext 1 aS1),iQm 8 1,iQm 9 0] (.seq (iSr [iSm 9,iQo 19 (.bin .eql .int aS0 aC2)] (.cond aT19 (iSr [iSm 0,iSm 1,iSm 2,iSm 4,iCa 277 [aS3,aS2,aS1,aS0]] (iSr [iSm 2,.s (.bin .sub .int aS0 aC1),iSm 8,iSm 1,.s (.bin .sub .int aS1 aS0),.s (.bin .sub .int aS3 aS0),iQm 8 0] (.reg [iQo 9 (.mv aC1)]))) .skip)) X8))
def dw.b7:IR:=dw.g7 dw.b8
def dw.g6 (X7:IR):IR:=(.seq (iSr [iSm 5,iQo 18 (.not aS0)] (.cond aT18 (iSr [iSm 0,iSm 1,iSm 2,iSm 4,iCa 275 [aS3,aS2,aS1,aS0]] (.reg [iSm 3,.s (.bin .sub .int aS0 aC1),iQm 3 0])) .skip)) X7)
def dw.b6:IR:=dw.g6 dw.b7
def dw.g5 (X6:IR):IR:=(.seq (iSr [iSm 3,iQo 17 (.bin .eql .int aS0 aC0)] (.cond aT17 (iSr [iSm 0,iSm 1,iSm 2,iSm 4,iCa 274 [aS3,aS2,aS1,aS0]] .ret) .skip)) X6)
def dw.b5:IR:=dw.g5 dw.b6
def dw.g4 (X5:IR):IR:=(iSr [iSm 2,iSm 1,.s (.bin .sub .int aS1 aS0),iQm 7 0] (.seq (iSr [iSm 7,iQo 16 (.bin .leq .int aS0 aC12)] (.cond aT16 (iSr [iSm 0,iSm 1,iSm 2,iSm 4,iCa 273 [aS3,aS2,aS1,aS0]] .ret) .skip)) X5))
def dw.b4:IR:=dw.g4 dw.b5
def dw.g3 (X4:IR):IR:=(.block 1 X4)
def dw.b3:IR:=dw.g3 dw.b4
def dw.g2 (X3:IR):IR:=(.loop X3)
def dw.b2:IR:=dw.g2 dw.b3
def dw.g1 (X2:IR):IR:=(.block 0 X2)
def dw.b1:IR:=dw.g1 dw.b2
def dw.g0 (X1:IR):IR:=(iSr [iQo 5 (.mv (.c (.bool true)))] (iSr [iQo 6 (.mv (.c (.bool true)))] X1))
def dw.b0:IR:=dw.g0 dw.b1
def dw.res:List RV:=[]
def dw:Fn:={ params:=[(.of 0),(.of 1),(.of 2),(.of 3),(.of 4)],res:=dw.res,body:=dw.b0,init:=in24 }
theorem dw.ok:fnA Tryz.prog Tryz.f243 [0,1,2,3,4,10,11,12,13,14,15,16,17,18,19,20,25,32,39,56,75,80,97,125]=some dw:=by kernel_rfl
abbrev rW.fr:=fr10
def rW.b1:IR:=(iSr [iQo 2 (.mv (.c (I (-1))))] .ret)
def rW.b5:IR:=(iSr [iQo 2 (.mv aC0)] .ret)
def rW.g4 (X5:IR):IR:=(.seq (iSr [iSm 0,iSm 1,iQo 9 (.bin .gtr .int aS1 aS0)] (.cond aT9 (iSr [iQo 2 (.mv aC1)] .ret) .skip)) X5)
def rW.b4:IR:=rW.g4 rW.b5
def rW.g3 (X4:IR):IR:=(.seq (iSr [iSm 0,iSm 1,iQo 8 (.bin .lss .int aS1 aS0)] (.cond aT8 (iSr [iQo 2 (.mv (.c (I (-1))))] .ret) .skip)) X4)
def rW.b3:IR:=rW.g3 rW.b4
def rW.g2 (X3:IR):IR:=(.seq (iSr [iQo 7 (.mv aT4)] (.cond aT7 (iSr [iQo 2 (.mv aC1)] .ret) .skip)) X3)
def rW.b2:IR:=rW.g2 rW.b3
def rW.g0 (X1 X2:IR):IR:=(iSr [iQo 2 (.mv aC0)] (iSr [iSm 0,iCa 250 [aS0],iQm 3 0] (iSr [iSm 1,iCa 250 [aS0],iQm 4 0] (.seq (iSr [iQo 5 (.mv aT3)] (.cond aT5 (.seq (iSr [iQo 6 (.mv aT4)] (.cond aT6 (iSr [iQo 2 (.mv aC0)] .ret) .skip)) X1) .skip)) X2))))
def rW.b0:IR:=rW.g0 rW.b1 rW.b2
def rW.res:List RV:=[.t (.of 2)]
def rW:Fn:={ params:=[(.of 0),(.of 1)],res:=rW.res,body:=rW.b0,init:=in10 }
theorem rW.ok:fnA Tryz.prog Tryz.f244 [0,1,4,5,6,11,12,13,16,19]=some rW:=by kernel_rfl
abbrev F250.fr:=fr2
def F250.b0:IR:=(iSr [iQo 1 (.mv (.c (.bool false)))] (iSr [iSm 0,iSm 0,.s (.bin .neq .int aS1 aS0),iQm 1 0] .ret))
def F250.res:List RV:=[.t (.of 1)]
def F250:Fn:={ params:=[(.of 0)],res:=F250.res,body:=F250.b0,init:=in2 }
theorem F250.ok:fnA Tryz.prog Tryz.f250 [0,2]=some F250:=by kernel_rfl
abbrev rE.fr:=fr8
def rE.b6:IR:=(iSr [iSm 5,iQm 3 0] (iSr [iSm 1,iSm 0,iSm 3,.s (.zo 1 aS1 aS0),.s (.load aS0),iWl 7 (.call aS4 [aS0])] (.cond aT7 (iSr [iSm 3,iQm 2 0] .ret) .skip)))
def rE.g5 (X6:IR):IR:=(.block 1 X6)
def rE.b5:IR:=rE.g5 rE.b6
def rE.b7:IR:=(.reg [.s (.bin .add .int aT5 aC1),iQm 5 0])
def rE.g4 (X5 X7:IR):IR:=(.seq X5 X7)
def rE.b4:IR:=rE.g4 rE.b5 rE.b7
def rE.g3 (X4:IR):IR:=(iSr [iQo 6 (.bin .lss .int aT5 aT4)] (.seq (.cond aT6 .skip (.exit 0)) X4))
def rE.b3:IR:=rE.g3 rE.b4
def rE.g2 (X3:IR):IR:=(.loop X3)
def rE.b2:IR:=rE.g2 rE.b3
def rE.g1 (X2:IR):IR:=(.block 0 X2)
def rE.b1:IR:=rE.g1 rE.b2
def rE.b8:IR:=(iSr [iQo 2 (.mv (.c (I (-1))))] .ret)
def rE.g0 (X1 X8:IR):IR:=(iSr [iQo 2 (.mv aC0)] (.seq (iSr [iSm 0,iQo 4 (.len aS0),iQo 5 (.mv aC0)] X1) X8))
def rE.b0:IR:=rE.g0 rE.b1 rE.b8
def rE.res:List RV:=[.t (.of 2)]
def rE:Fn:={ params:=[(.of 0),(.of 1)],res:=rE.res,body:=rE.b0,init:=in8 }
theorem rE.ok:fnA Tryz.prog Tryz.f259 [0,1,4,5,7,8,9,16]=some rE:=by kernel_rfl
abbrev F265.fr:=fr2
def F265.b0:IR:=(iSr [iQo 1 (.mv (.c (.str [])))] (iSr [iSm 0,iCa 286 [aS0,aC10],iQm 1 0] .ret))
def F265.res:List RV:=[.t (.of 1)]
def F265:Fn:={ params:=[(.of 0)],res:=F265.res,body:=F265.b0,init:=in2 }
theorem F265.ok:fnA Tryz.prog Tryz.f265 [0,2]=some F265:=by kernel_rfl
abbrev qx.fr:=fr8
def qx.b12:IR:=(.yw [] [(iSm 0,0,[]),(iSm 5,0,[]),(iSm 0,1,[]),(iSm 5,1,[]),(.s (.bin .sub .int aS0 aC1),1,[]),(iSm 0,0,[]),(iSm 5,0,[]),(.s (.bin .sub .int aS0 aC1),0,[]),(.s (.zo 1 aS2 aS0),0,[]),(.s (.load aS0),0,[]),(iSm 0,0,[]),(iSm 5,0,[]),(.s (.zo 1 aS1 aS0),0,[]),(.s (.load aS0),0,[]),(.s (.zo 1 aS13 aS12),0,[]),(.w .none none (.store 1 aS0 aS5),0,[]),(.s (.zo 1 aS12 aS10),0,[]),(.w .none none (.store 1 aS0 aS2),0,[])])
def qx.g11 (X12:IR):IR:=(.block 3 X12)
def qx.b11:IR:=qx.g11 qx.b12
def qx.b13:IR:=(.reg [iSm 5,.s (.bin .sub .int aS0 aC1),iQm 5 0])
def qx.g10 (X11 X13:IR):IR:=(.seq X11 X13)
def qx.b10:IR:=qx.g10 qx.b11 qx.b13
def qx.g9 (X10:IR):IR:=(.seq (.seq (.yw [] [(iSm 5,0,[]),(iSm 1,0,[]),(.s (.bin .gtr .int aS1 aS0),0,[]),(.s (.mv aS0),0,[]),(iPt 0 (.mv aT3),0,[]),(iPt 1 (.mv aT0),0,[]),(iPt 2 (.mv aT5),0,[]),(iPt 3 (.zo 1 aS1 aS0),0,[]),(iPt 4 (.load aS0),0,[]),(iPt 5 (.mv aT0),0,[]),(iPt 6 (.mv aT5),0,[]),(iPt 7 (.bin .sub .int aS0 aC1),0,[]),(iPt 8 (.zo 1 aS2 aS0),0,[]),(iPt 9 (.load aS0),0,[]),(.w .push (some (aS10,true)) (.call aS9 [aS5,aS0]),0,[]),(iPt 11 (.bin .lss .int aS0 aC0),0,[]),(iQo 7 (.pick aS12 aS0 (.c (.bool false))),0,[])]) (.cond aT7 .skip (.exit 2))) X10)
def qx.b9:IR:=qx.g9 qx.b10
def qx.g8 (X9:IR):IR:=(.loop X9)
def qx.b8:IR:=qx.g8 qx.b9
def qx.g7 (X8:IR):IR:=(.block 2 X8)
def qx.b7:IR:=qx.g7 qx.b8
def qx.g6 (X7:IR):IR:=(iSr [iSm 4,iQm 5 0] X7)
def qx.b6:IR:=qx.g6 qx.b7
def qx.g5 (X6:IR):IR:=(.block 1 X6)
def qx.b5:IR:=qx.g5 qx.b6
def qx.b14:IR:=(.reg [iSm 4,.s (.bin .add .int aS0 aC1),iQm 4 0])
def qx.g4 (X5 X14:IR):IR:=(.seq X5 X14)
def qx.b4:IR:=qx.g4 qx.b5 qx.b14
def qx.g3 (X4:IR):IR:=(.seq (iSr [iSm 4,iSm 2,iQo 6 (.bin .lss .int aS1 aS0)] (.cond aT6 .skip (.exit 0))) X4)
def qx.b3:IR:=qx.g3 qx.b4
def qx.g2 (X3:IR):IR:=(.loop X3)
def qx.b2:IR:=qx.g2 qx.b3
def qx.g1 (X2:IR):IR:=(.block 0 X2)
def qx.b1:IR:=qx.g1 qx.b2
def qx.g0 (X1:IR):IR:=(iSr [iSm 1,.s (.bin .add .int aS0 aC1),iQm 4 0] X1)
def qx.b0:IR:=qx.g0 qx.b1
def qx.res:List RV:=[]
def qx:Fn:={ params:=[(.of 0),(.of 1),(.of 2),(.of 3)],res:=qx.res,body:=qx.b0,init:=in8 }
theorem qx.ok:fnA Tryz.prog Tryz.f273 [0,1,2,3,8,9,14,34]=some qx:=by kernel_rfl
end
end Go.Ev
