import Derived.Test.YtkjkjpmahgeneaaGreatDoorIrA
import Derived.Test.YtkjkjpmahgeneaaGreatDoorEvC
import Derived.Test.YtkjkjpmahgeneaaGreatDoorProg
import Derived.KernelRfl
set_option linter.unusedSimpArgs false
set_option linter.unusedVariables false
namespace Go.Ev
open Go Go.Proofs
set_option maxRecDepth 100000
noncomputable section

abbrev fH.fr:=fr6
def fH.b6:IR:=(iSr [iSm 3,iSm 0,iSm 0,.s (.slen aS0),.s (.bin .sub .int aS0 aC9),.s (.rD aS3 (some aS0) none),iCa 218 [aS0],.w .push none (.zx 1 1 [(I 0)] [(0,1,aS0)]),.w .push none (.app 1 8 aS7 aS0),iQm 3 0] (.reg [iSm 0,iSm 0,.s (.slen aS0),.s (.bin .sub .int aS0 aC9),.s (.rD aS3 none (some aS0)),iQm 0 0]))
def fH.g5 (X6:IR):IR:=(.block 1 X6)
def fH.b5:IR:=fH.g5 fH.b6
def fH.g4 (X5:IR):IR:=(.seq (iSr [iSm 0,.s (.slen aS0),iQo 5 (.bin .gtr .int aS0 aC9)] (.cond aT5 .skip (.exit 0))) X5)
def fH.b4:IR:=fH.g4 fH.b5
def fH.g3 (X4:IR):IR:=(.loop X4)
def fH.b3:IR:=fH.g3 fH.b4
def fH.g2 (X3:IR):IR:=(.block 0 X3)
def fH.b2:IR:=fH.g2 fH.b3
def fH.b7:IR:=(iSr [iSm 2,iSm 3,iSm 0,iCa 218 [aS0],.w .push none (.zx 1 1 [(I 0)] [(0,1,aS0)]),.w .push none (.app 1 8 aS3 aS0),iCa 195 [aS5,aS0],.w .none none (.store 2 aT1 aS0)] .ret)
def fH.g1 (X2 X7:IR):IR:=(iSr [iQo 3 (.mv (.c .zf))] (.seq X2 X7))
def fH.b1:IR:=fH.g1 fH.b2 fH.b7
def fH.g0 (X1:IR):IR:=(iSr [iWl 1 (.alloc [(.bool false),.zf])] (iSr [iSm 0,.s (.slen aS0),.s (.bin .gtr .int aS0 aC0),.s (.mv aS0),iPt 0 (.mv aT0),iPt 1 (.sidx aS0 aC0),iPt 2 (.bin .eql .int aS0 (.c (.int .u8 45))),.s (.pick aS3 aS0 (.c (.bool false))),iQm 2 0] (.seq (iSr [iQo 4 (.mv aT2)] (.cond aT4 (.reg [iSm 0,.s (.rD aS0 (some aC1) none),iQm 0 0]) .skip)) X1)))
def fH.b0:IR:=fH.g0 fH.b1
def fH.res:List RV:=[.cell (.of 1) (some 2)]
def fH:Fn:={ params:=[(.of 0)],res:=fH.res,body:=fH.b0,init:=in6 }
theorem fH.ok:fnA Tryz.prog Tryz.f171 [0,2,3,4,13,18]=some fH:=by kernel_rfl
abbrev F172.fr:=fr14
def F172.b1:IR:=(iSr [iSm 0,iCa 128 [aS0],.s (.mv aS0),.s (.ext 0 aS0),.s (.ext 1 aS1),iWl 9 (.alloc [(.bool false),.zf]),iWl 10 (.alloc [(.bool false),.zf]),.w .none none (.store 2 aT9 aS1),.w .none none (.store 2 bg aS0)] (iSr [iSm 1,iCa 128 [aS0],.s (.mv aS0),.s (.ext 0 aS0),.s (.ext 1 aS1),iWl 11 (.alloc [(.bool false),.zf]),iWl 12 (.alloc [(.bool false),.zf]),.w .none none (.store 2 rJ aS1),.w .none none (.store 2 sD aS0)] (.seq (.yu [] [(.s (.zi 2 aT9),0,[]),(.s (.zi 2 rJ),0,[]),(.s (.zi 2 bg),1,[]),(.s (.zi 2 sD),1,[]),(iCa 190 [aS3,aS2],0,[]),(iCa 190 [aS2,aS1],0,[]),(iCa 188 [aS1,aS0],0,[]),(iQm 2 0,0,[])]) .ret)))
def F172.g0 (X1:IR):IR:=(iSr [iQo 2 (.mv (.c (.str [])))] (iSr [iSm 0,iCa 186 [aS0],.s (.mv aS0),.s (.ext 0 aS0),.s (.ext 1 aS1),.s (.ext 2 aS2),iQm 3 2,iQm 4 1,iQm 5 0] (iSr [iSm 1,iCa 186 [aS0],.s (.mv aS0),.s (.ext 0 aS0),.s (.ext 1 aS1),.s (.ext 2 aS2),iQm 6 2,iQm 7 1,iQm 8 0] (.seq (iSr [iSm 5,.s (.mv aS0),iPt 0 (.mv aT8),iQo 13 (.pick aS1 aS0 (.c (.bool false)))] (.cond rF (iSr [iSm 3,iSm 6,.s (.bin .mul .int aS1 aS0),iSm 4,iSm 7,.s (.bin .mul .int aS1 aS0),iCa 187 [aS3,aS0],iQm 2 0] .ret) .skip)) X1))))
def F172.b0:IR:=F172.g0 F172.b1
def F172.res:List RV:=[.t (.of 2)]
def F172:Fn:={ params:=[(.of 0),(.of 1)],res:=F172.res,body:=F172.b0,init:=in14 }
theorem F172.ok:fnA Tryz.prog Tryz.f172 [0,1,4,5,6,7,8,9,10,11,12,13,14,30]=some F172:=by kernel_rfl
abbrev F173.fr:=fr5
def F173.b1:IR:=(iSr [iSm 0,iCa 128 [aS0],.s (.mv aS0),.s (.ext 0 aS0),.s (.ext 1 aS1),iWl 2 (.alloc [(.bool false),.zf]),iWl 3 (.alloc [(.bool false),.zf]),.w .none none (.store 2 aT2 aS1),.w .none none (.store 2 aT3 aS0)] (iSr [.s (.zi 2 aT2),.s (.zi 2 aT3),iCa 219 [aS1,aS0],iCa 130 [aS0],iQm 1 0] .ret))
def F173.g0 (X1:IR):IR:=(iSr [iQo 1 (.mv (.c (.str [])))] (.seq (iSr [iSm 0,iWl 4 (.call (.c (.fn 170 (.of 170) [])) [aS0])] (.cond aT4 (iSr [iSm 0,iQm 1 0] .ret) .skip)) X1))
def F173.b0:IR:=F173.g0 F173.b1
def F173.res:List RV:=[.t (.of 1)]
def F173:Fn:={ params:=[(.of 0)],res:=F173.res,body:=F173.b0,init:=in5 }
theorem F173.ok:fnA Tryz.prog Tryz.f173 [0,2,3,4,6]=some F173:=by kernel_rfl
abbrev aB.fr:=fr6
def aB.b2:IR:=(iSr [.s (.zu 1 aT1),.s (.load aS0),.s (.bin .neq (.nil .sl) aS0 (.c .zf)),iQm 4 0] (.cond aT4 (.seq (.yu [] [(.s (.zu 0 aT1),0,[]),(.s (.load aS0),0,[]),(.s (.bin .lss .int aS0 aC0),0,[]),(.s (.zu 1 aT1),0,[]),(.s (.load aS0),0,[]),(iQm 2 2,0,[]),(iQm 3 0,0,[])]) .ret) (iSr [.s (.zu 0 aT1),.s (.load aS0),.s (.bin .eql .int aS0 aC0),iQm 5 0] (.cond aT5 (iSr [iQo 2 (.mv (.c (.bool false))),iQo 3 (.mv (.c .zf))] .ret) .skip))))
def aB.g1 (X2:IR):IR:=(.block 0 X2)
def aB.b1:IR:=aB.g1 aB.b2
def aB.b3:IR:=(.seq (.yu [] [(.s (.zu 0 aT1),2,[]),(.s (.load aS0),2,[]),(.s (.bin .lss .int aS0 aC0),2,[]),(.s (.zu 0 aT1),0,[]),(.s (.load aS0),0,[]),(iCa 220 [aS0],0,[]),(iQm 2 3,1,[]),(.w .push none (.zx 1 1 [(.int .u64 0)] [(0,1,aS0)]),0,[]),(iQm 3 0,0,[])]) .ret)
def aB.g0 (X1 X3:IR):IR:=(iSr [iWl 1 (.box aT0),iQo 2 (.mv (.c (.bool false))),iQo 3 (.mv (.c .zf))] (.seq X1 X3))
def aB.b0:IR:=aB.g0 aB.b1 aB.b3
def aB.res:List RV:=[.t (.of 2),.t (.of 3)]
def aB:Fn:={ params:=[(.of 0)],res:=aB.res,body:=aB.b0,init:=in6 }
theorem aB.ok:fnA Tryz.prog Tryz.f174 [0,1,2,3,4,13]=some aB:=by kernel_rfl
abbrev oI.fr:=fr14
def oI.b1:IR:=(iSr [iSm 6,.s (.conv .i64 aS0),.s (.build [(I 0),.zf] [(0,1,aS0)]),.w .none none (.store 2 aT4 aS0)] .ret)
def oI.b2:IR:=(iSr [.s (.zi 2 aT2),iCa 174 [aS0],.s (.mv aS0),.s (.ext 0 aS0),.s (.ext 1 aS1),iQm 7 1,iQm 8 0] (iSr [.s (.zi 2 aT3),iCa 174 [aS0],.s (.mv aS0),.s (.ext 0 aS0),.s (.ext 1 aS1),iQm 9 1,iQm 10 0] (iSr [iSm 7,iSm 9,.s (.bin .neq .bool aS1 aS0),iSm 8,iSm 10,iCa 225 [aS1,aS0],iCa 175 [aS3,aS0],.w .none none (.store 2 aT4 aS0)] .ret)))
def oI.g0 (X1 X2:IR):IR:=(iSr [iWl 2 (.box aT0),iWl 3 (.box aT1),iWl 4 (.alloc [(I 0),.zf])] (.seq (iSr [.s (.zu 1 aT2),.s (.load aS0),.s (.bin .eql (.nil .sl) aS0 (.c .zf)),.s (.mv aS0),iPt 0 (.zu 1 aT3),iPt 1 (.load aS0),iPt 2 (.bin .eql (.nil .sl) aS0 (.c .zf)),iQo 11 (.pick aS3 aS0 (.c (.bool false)))] (.cond rJ (.seq (.yu [] [(.s (.zu 0 aT2),0,[]),(.s (.load aS0),0,[]),(.s (.zu 0 aT3),1,[]),(.s (.load aS0),1,[]),(iCa 220 [aS2],0,[]),(iCa 220 [aS1],0,[]),(iCa 224 [aS1,aS0],0,[]),(.s (.mv aS0),0,[]),(.s (.ext 0 aS0),0,[]),(.s (.ext 1 aS1),0,[]),(iQm 5 1,0,[]),(iQm 6 0,0,[])]) (iSr [iSm 5,.s (.bin .eql .int aS0 (.c (.int .u64 0))),.s (.mv aS0),iPt 0 (.mv aT6),iPt 1 (.bin .leq .int aS0 (.c (.int .u64 9223372036854775807))),iQo 12 (.pick aS2 aS0 (.c (.bool false)))] (.cond sD (.seq (iSr [.s (.zu 0 aT2),.s (.load aS0),.s (.bin .lss .int aS0 aC0),.s (.zu 0 aT3),.s (.load aS0),.s (.bin .lss .int aS0 aC0),iQo 13 (.bin .neq .bool aS3 aS0)] (.cond rF (iSr [iSm 6,.s (.conv .i64 aS0),.s (.neg aS0),.s (.build [(I 0),.zf] [(0,1,aS0)]),.w .none none (.store 2 aT4 aS0)] .ret) .skip)) X1) .skip))) .skip)) X2))
def oI.b0:IR:=oI.g0 oI.b1 oI.b2
def oI.res:List RV:=[.cell (.of 4) (some 2)]
def oI:Fn:={ params:=[(.of 0),(.of 1)],res:=oI.res,body:=oI.b0,init:=in14 }
theorem oI.ok:fnA Tryz.prog Tryz.f179 [0,1,2,3,4,5,6,7,8,9,10,18,34,41]=some oI:=by kernel_rfl
abbrev F180.fr:=fr3
def F180.b0:IR:=(iSr [iWl 1 (.box aT0),iQo 2 (.mv aC0)] (iSr [.s (.zu 0 aT1),.s (.load aS0),.s (.eP false aC1 [aS0]),.s (.eP true (.c (I (-1))) [aS0]),iQm 2 0] .ret))
def F180.res:List RV:=[.t (.of 2)]
def F180:Fn:={ params:=[(.of 0)],res:=F180.res,body:=F180.b0,init:=in3 }
theorem F180.ok:fnA Tryz.prog Tryz.f180 [0,1,2]=some F180:=by kernel_rfl
abbrev aC.fr:=fr18
def aC.b1:IR:=(iSr [iSm 6,.s (.build [(I 0),.zf] [(0,1,aS0)]),iSm 7,.s (.build [(I 0),.zf] [(0,1,aS0)]),.w .none none (.store 2 aT4 aS2),.w .none none (.store 2 aT5 aS0)] .ret)
def aC.b3:IR:=(.seq (.yu [] [(.s (.zi 2 rF),0,[]),(.s (.zi 2 oH),1,[]),(.w .none none (.store 2 aT4 aS1),0,[]),(.w .none none (.store 2 aT5 aS0),0,[])]) .ret)
def aC.g2 (X3:IR):IR:=(iSr [.s (.zi 2 aT2),iCa 174 [aS0],.s (.mv aS0),.s (.ext 0 aS0),.s (.ext 1 aS1),iQm 8 1,iQm 9 0] (iSr [.s (.zi 2 aT3),iCa 174 [aS0],.s (.mv aS0),.s (.ext 0 aS0),.s (.ext 1 aS1),.s (.mv aS1),iQm 10 1] (iSr [iSm 9,iSm 10,iCa 226 [aS1,aS0],.s (.mv aS0),.s (.ext 0 aS0),.s (.ext 1 aS1),iQm 11 1,iQm 12 0] (iSr [iSm 8,iSm 11,iCa 175 [aS1,aS0],iSm 8,iSm 12,iCa 175 [aS1,aS0],iWl 13 (.alloc [(I 0),.zf]),iWl 14 (.alloc [(I 0),.zf]),.w .none none (.store 2 rF aS3),.w .none none (.store 2 oH aS0)] (.seq (iSr [.s (.zi 2 oH),iCa 180 [aS0],iQo 17 (.bin .lss .int aS0 aC0)] (.cond aT17 (.yu [] [(.s (.zi 2 rF),1,[]),(.s (.zi 2 oH),2,[]),(.s (.zi 2 aT3),2,[]),(iCa 110 [aC1],0,[]),(iCa 227 [aS3,aS0],0,[]),(iCa 111 [aS3,aS2],0,[]),(.w .none none (.store 2 rF aS1),0,[]),(.w .none none (.store 2 oH aS0),0,[])]) .skip)) X3)))))
def aC.b2:IR:=aC.g2 aC.b3
def aC.g0 (X1 X2:IR):IR:=(iSr [iWl 2 (.box aT0),iWl 3 (.box aT1),iWl 4 (.alloc [(I 0),.zf]),iWl 5 (.alloc [(I 0),.zf])] (.seq (iSr [.s (.zu 1 aT2),.s (.load aS0),.s (.bin .eql (.nil .sl) aS0 (.c .zf)),.s (.mv aS0),iPt 0 (.zu 1 aT3),iPt 1 (.load aS0),iPt 2 (.bin .eql (.nil .sl) aS0 (.c .zf)),.s (.pick aS3 aS0 (.c (.bool false))),.s (.mv aS0),iPt 0 (.zu 0 aT2),iPt 1 (.load aS0),iPt 2 (.bin .neq .int aS0 (.c (I (-9223372036854775808)))),iQo 15 (.pick aS3 aS0 (.c (.bool false)))] (.cond aT15 (.seq (.yu [] [(.s (.zu 0 aT2),0,[]),(.s (.load aS0),0,[]),(.s (.zu 0 aT3),0,[]),(.s (.load aS0),0,[]),(.s (.bin .quo .int aS2 aS0),0,[]),(.s (.zu 0 aT2),0,[]),(.s (.load aS0),0,[]),(.s (.zu 0 aT3),0,[]),(.s (.load aS0),0,[]),(.s (.bin .rem .int aS2 aS0),0,[]),(iQm 6 5,0,[]),(iQm 7 0,0,[])]) (.seq (iSr [iSm 7,iQo 16 (.bin .lss .int aS0 aC0)] (.cond aT16 (.yu [] [(iSm 6,0,[]),(.s (.bin .sub .int aS0 aC1),0,[]),(iSm 7,0,[]),(.s (.zu 0 aT3),0,[]),(.s (.load aS0),0,[]),(.s (.bin .add .int aS2 aS0),0,[]),(iQm 6 4,0,[]),(iQm 7 0,0,[])]) .skip)) X1)) .skip)) X2))
def aC.b0:IR:=aC.g0 aC.b1 aC.b2
def aC.res:List RV:=[.cell (.of 4) (some 2),.cell (.of 5) (some 2)]
def aC:Fn:={ params:=[(.of 0),(.of 1)],res:=aC.res,body:=aC.b0,init:=in18 }
theorem aC.ok:fnA Tryz.prog Tryz.f182 [0,1,2,3,4,5,6,7,8,9,11,12,13,14,15,28,40,75]=some aC:=by kernel_rfl
abbrev F183.fr:=fr3
def F183.b0:IR:=(iSr [iWl 1 (.box aT0),iQo 2 (.mv (.c (.bool false)))] (iSr [.s (.zi 2 aT1),iCa 228 [aS0],.s (.bin .gtr .int aS0 ztd),.s (.mv aS0),iPt 0 (.zi 2 aT1),.w .push (some (aS1,true)) (.call (.c (.fn 185 (.of 185) [])) [aS0]),.w .push (some (aS2,true)) (.call (.c (.fn 229 (.of 229) [])) [aS0,(.c (.str [45]))]),iPt 3 (.slen aS0),iPt 4 (.bin .gtr .int aS0 zv5),.s (.pick aS5 aS0 (.c (.bool false))),iQm 2 0] .ret))
def F183.res:List RV:=[.t (.of 2)]
def F183:Fn:={ params:=[(.of 0)],res:=F183.res,body:=F183.b0,init:=in3 }
theorem F183.ok:fnA Tryz.prog Tryz.f183 [0,1,2]=some F183:=by kernel_rfl
abbrev F184.fr:=fr3
def F184.b0:IR:=(iSr [iWl 1 (.box aT0),iQo 2 (.mv (.c (.bool false)))] (iSr [.s (.zu 2 aT1),.s (.zu 1 aS0),.s (.load aS0),.s (.bin .eql (.nil .sl) aS0 (.c .zf)),.s (.mv aS0),iPt 0 (.zu 2 aT1),iPt 1 (.zu 0 aS0),iPt 2 (.load aS0),iPt 3 (.bin .eql .int aS0 aC1),.s (.pick aS4 aS0 (.c (.bool false))),iQm 2 0] .ret))
def F184.res:List RV:=[.t (.of 2)]
def F184:Fn:={ params:=[(.of 0)],res:=F184.res,body:=F184.b0,init:=in3 }
theorem F184.ok:fnA Tryz.prog Tryz.f184 [0,1,2]=some F184:=by kernel_rfl
abbrev jm.fr:=fr18
def jm.b8:IR:=(iSr [iSm 6,iSm 9,.w .push none (.zx 1 1 [(.str [])] [(0,1,aS0)]),.w .push none (.app 1 16 aS2 aS0),iQm 6 0] (.reg [iSm 7,iQm 4 0]))
def jm.g7 (X8:IR):IR:=(.seq (iSr [iSm 7,.s (.len aS0),iQo 15 (.bin .gtr .int aS0 aC0)] (.cond aT15 (.reg [iSm 9,.s (.slen aS0),.s (.bin .sub .int aC18 aS0),.w .push none (.call (.c (.fn 232 (.of 232) [])) [(.c (.str [48])),aS0]),iSm 9,.s (.bin .add .str aS1 aS0),iQm 9 0]) .skip)) X8)
def jm.b7:IR:=jm.g7 jm.b8
def jm.g6 (X7:IR):IR:=(iSr [iSm 4,iSm 5,iCa 226 [aS1,aS0],.s (.mv aS0),.s (.ext 0 aS0),.s (.ext 1 aS1),iQm 7 1,iQm 8 0] (iSr [iQo 9 (.mv (.c (.str [48])))] (.seq (iSr [iSm 8,.s (.len aS0),iQo 14 (.bin .gtr .int aS0 aC0)] (.cond oH (.reg [iSm 8,.s (.zo 1 aS0 aC0),.s (.load aS0),iCa 231 [aS0,aC10],iQm 9 0]) .skip)) X7)))
def jm.b6:IR:=jm.g6 jm.b7
def jm.g5 (X6:IR):IR:=(.block 1 X6)
def jm.b5:IR:=jm.g5 jm.b6
def jm.g4 (X5:IR):IR:=(.seq (iSr [iSm 4,.s (.len aS0),iQo 13 (.bin .gtr .int aS0 aC0)] (.cond rF .skip (.exit 0))) X5)
def jm.b4:IR:=jm.g4 jm.b5
def jm.g3 (X4:IR):IR:=(.loop X4)
def jm.b3:IR:=jm.g3 jm.b4
def jm.g2 (X3:IR):IR:=(.block 0 X3)
def jm.b2:IR:=jm.g2 jm.b3
def jm.b16:IR:=(.reg [iSm 6,iSm 11,.s (.zo 1 aS1 aS0),.s (.load aS0),iCa 233 [bg,aS0]])
def jm.g15 (X16:IR):IR:=(.block 3 X16)
def jm.b15:IR:=jm.g15 jm.b16
def jm.b17:IR:=(.reg [iSm 11,.s (.bin .sub .int aS0 aC1),iQm 11 0])
def jm.g14 (X15 X17:IR):IR:=(.seq X15 X17)
def jm.b14:IR:=jm.g14 jm.b15 jm.b17
def jm.g13 (X14:IR):IR:=(.seq (iSr [iSm 11,iQo 17 (.bin .geq .int aS0 aC0)] (.cond aT17 .skip (.exit 2))) X14)
def jm.b13:IR:=jm.g13 jm.b14
def jm.g12 (X13:IR):IR:=(.loop X13)
def jm.b12:IR:=jm.g12 jm.b13
def jm.g11 (X12:IR):IR:=(.block 2 X12)
def jm.b11:IR:=jm.g11 jm.b12
def jm.b18:IR:=(iSr [iCa 234 [bg],iQm 2 0] .ret)
def jm.g10 (X11 X18:IR):IR:=(.seq (iSr [iSm 6,.s (.len aS0),.s (.bin .sub .int aS0 aC1),iQm 11 0] X11) X18)
def jm.b10:IR:=jm.g10 jm.b11 jm.b18
def jm.g9 (X10:IR):IR:=(iSr [iWl 10 (.alloc [.sU,.zf])] (.seq (iSr [iQo 16 (.mv aT3)] (.cond aT16 (.reg [.w .push none (.call (.c (.fn 233 (.of 233) [])) [bg,(.c (.str [45]))])]) .skip)) X10))
def jm.b9:IR:=jm.g9 jm.b10
def jm.g1 (X2 X9:IR):IR:=(iSr [.s (.zi 2 aT1),iCa 174 [aS0],.s (.mv aS0),.s (.ext 0 aS0),.s (.ext 1 aS1),iQm 3 1,iQm 4 0] (iSr [.w .push none (.zx 1 1 [(.int .u64 0)] [(0,1,(.c (.int .u64 1000000000000000000)))]),iQm 5 0] (iSr [iQo 6 (.mv (.c .zf))] (.seq X2 X9))))
def jm.b1:IR:=jm.g1 jm.b2 jm.b9
def jm.g0 (X1:IR):IR:=(iSr [iWl 1 (.box aT0),iQo 2 (.mv (.c (.str [])))] (.seq (iSr [.s (.zu 1 aT1),.s (.load aS0),iQo 12 (.bin .eql (.nil .sl) aS0 (.c .zf))] (.cond sD (iSr [.s (.zu 0 aT1),.s (.load aS0),iCa 230 [aS0],iQm 2 0] .ret) .skip)) X1))
def jm.b0:IR:=jm.g0 jm.b1
def jm.res:List RV:=[.t (.of 2)]
def jm:Fn:={ params:=[(.of 0)],res:=jm.res,body:=jm.b0,init:=in18 }
theorem jm.ok:fnA Tryz.prog Tryz.f185 [0,1,2,3,4,5,6,7,8,9,10,11,14,26,35,42,54,60]=some jm:=by kernel_rfl
abbrev rM.fr:=fr14
def rM.b5:IR:=(iSr [iSm 7,iSm 8,iQm 1 1,iQm 2 0,iQo 3 (.mv (.c (.bool true)))] .ret)
def rM.g4 (X5:IR):IR:=(.seq (iSr [iQo 13 (.mv aT5)] (.cond rF (.reg [iSm 7,.s (.bin .sub .int aC0 aS0),iQm 7 0]) .skip)) X5)
def rM.b4:IR:=rM.g4 rM.b5
def rM.g3 (X4:IR):IR:=(iSr [iSm 4,iSm 6,.s (.rD aS1 none (some aS0)),iCa 218 [aS0],iQm 7 0,iQo 8 (.mv aC1)] (.seq (iSr [iSm 6,iSm 4,.s (.slen aS0),iQo 12 (.bin .lss .int aS2 aS0)] (.cond sD (.reg [iSm 4,iSm 6,.s (.bin .add .int aS0 aC1),.s (.rD aS2 (some aS0) none),iCa 218 [aS0],iQm 8 0]) .skip)) X4))
def rM.b3:IR:=rM.g3 rM.b4
def rM.g2 (X3:IR):IR:=(iSr [iSm 4,iCa 126 [aS0],iQm 6 0] (.seq (iSr [iSm 6,.s (.bin .gtr .int aS0 aC9),.s (.mv aS0),iPf 0 (.mv aT4),iPf 1 (.slen aS0),iPf 2 (.mv aT6),iPf 3 (.bin .sub .int aS1 aS0),iPf 4 (.bin .gtr .int aS0 aC10),iQo 11 (.pick aS5 (.c (.bool true)) aS0)] (.cond rJ (iSr [iQo 1 (.mv aC0),iQo 2 (.mv aC0),iQo 3 (.mv (.c (.bool false)))] .ret) .skip)) X3))
def rM.b2:IR:=rM.g2 rM.b3
def rM.g1 (X2:IR):IR:=(iSr [iSm 4,.s (.slen aS0),.s (.bin .gtr .int aS0 aC0),.s (.mv aS0),iPt 0 (.mv aT4),iPt 1 (.sidx aS0 aC0),iPt 2 (.bin .eql .int aS0 (.c (.int .u8 45))),.s (.pick aS3 aS0 (.c (.bool false))),iQm 5 0] (.seq (iSr [iQo 10 (.mv aT5)] (.cond bg (.reg [iSm 4,.s (.rD aS0 (some aC1) none),iQm 4 0]) .skip)) X2))
def rM.b1:IR:=rM.g1 rM.b2
def rM.g0 (X1:IR):IR:=(iSr [iQo 1 (.mv aC0),iQo 2 (.mv aC0),iQo 3 (.mv (.c (.bool false)))] (iSr [iSm 0,iQm 4 0] (.seq (iSr [iSm 4,.s (.slen aS0),iQo 9 (.bin .gtr .int aS0 aC20)] (.cond aT9 (iSr [iQo 1 (.mv aC0),iQo 2 (.mv aC0),iQo 3 (.mv (.c (.bool false)))] .ret) .skip)) X1)))
def rM.b0:IR:=rM.g0 rM.b1
def rM.res:List RV:=[.t (.of 1),.t (.of 2),.t (.of 3)]
def rM:Fn:={ params:=[(.of 0)],res:=rM.res,body:=rM.b0,init:=in14 }
theorem rM.ok:fnA Tryz.prog Tryz.f186 [0,2,3,4,5,6,7,8,9,13,22,35,43,49]=some rM:=by kernel_rfl
abbrev sN.fr:=fr9
def sN.b4:IR:=(iSr [iSm 4,iQm 2 0] .ret)
def sN.g3 (X4:IR):IR:=(iSr [iSm 4,iSm 0,iSm 0,.s (.bin .sub .int aC0 aS0),.s (.eP true aS2 [aS0]),iCa 194 [aS0,aC1],.s (.bin .add .str aS5 aS0),iQm 4 0] (.seq (iSr [iSm 1,iQo 8 (.bin .gtr .int aS0 aC1)] (.cond aT8 (.reg [iSm 4,.s (.bin .add .str aS0 (.c (.str [47]))),iSm 1,iCa 194 [aS0,aC1],.s (.bin .add .str aS2 aS0),iQm 4 0]) .skip)) X4))
def sN.b3:IR:=sN.g3 sN.b4
def sN.g2 (X3:IR):IR:=(iSr [iSm 0,iSm 0,.s (.bin .sub .int aC0 aS0),.s (.eP true aS2 [aS0]),iSm 1,iCa 199 [aS1,aS0],iQm 3 0] (.seq (.yu [] [(iSm 0,0,[]),(iSm 3,0,[]),(.s (.bin .quo .int aS1 aS0),0,[]),(iSm 1,0,[]),(iSm 3,0,[]),(.s (.bin .quo .int aS1 aS0),0,[]),(iQm 0 3,0,[]),(iQm 1 0,0,[])]) (iSr [iQo 4 (.mv (.c (.str [])))] (.seq (iSr [iSm 0,iQo 7 (.bin .lss .int aS0 aC0)] (.cond aT7 (.reg [iQo 4 (.mv (.c (.str [45])))]) .skip)) X3))))
def sN.b2:IR:=sN.g2 sN.b3
def sN.g1 (X2:IR):IR:=(.seq (iSr [iSm 1,iQo 6 (.bin .lss .int aS0 aC0)] (.cond aT6 (.reg [iSm 0,.s (.bin .sub .int aC0 aS0),iSm 1,.s (.bin .sub .int aC0 aS0),iQm 0 2,iQm 1 0]) .skip)) X2)
def sN.b1:IR:=sN.g1 sN.b2
def sN.g0 (X1:IR):IR:=(iSr [iQo 2 (.mv (.c (.str [])))] (.seq (iSr [iSm 0,.s (.bin .lss .int aS0 (.c (I (-4000000000000000000)))),.s (.mv aS0),iPf 0 (.mv aT0),iPf 1 (.bin .gtr .int aS0 kD),.s (.pick aS2 (.c (.bool true)) aS0),.s (.mv aS0),iPf 0 (.mv aT1),iPf 1 (.bin .lss .int aS0 (.c (I (-4000000000000000000)))),.s (.pick aS2 (.c (.bool true)) aS0),.s (.mv aS0),iPf 0 (.mv aT1),iPf 1 (.bin .gtr .int aS0 kD),iQo 5 (.pick aS2 (.c (.bool true)) aS0)] (.cond aT5 (iSr [iSm 0,iCa 131 [aS0],iSm 1,iCa 131 [aS0],iCa 188 [aS2,aS0],iQm 2 0] .ret) .skip)) X1))
def sN.b0:IR:=sN.g0 sN.b1
def sN.res:List RV:=[.t (.of 2)]
def sN:Fn:={ params:=[(.of 0),(.of 1)],res:=sN.res,body:=sN.b0,init:=in9 }
theorem sN.ok:fnA Tryz.prog Tryz.f187 [0,1,4,5,6,20,27,45,54]=some sN:=by kernel_rfl
abbrev aW.fr:=fr11
def aW.b2:IR:=(iSr [iSm 8,.s (.bin .add .str aS0 (.c (.str [47]))),iSm 7,iCa 195 [(.c (.bool false)),aS0],iCa 130 [aS0],.s (.bin .add .str aS3 aS0),iQm 4 0] .ret)
def aW.g1 (X2:IR):IR:=(iSr [.s (.zu 1 aT2),.s (.load aS0),.s (.zu 1 aT3),.s (.load aS0),iCa 129 [aS2,aS0],iQm 5 0] (iSr [.s (.zu 1 aT2),.s (.load aS0),iSm 5,iCa 193 [aS1,aS0],.s (.mv aS0),.s (.ext 0 aS0),.s (.ext 1 aS1),iQm 6 1,.s (.mv aS0)] (iSr [.s (.zu 1 aT3),.s (.load aS0),iSm 5,iCa 193 [aS1,aS0],.s (.mv aS0),.s (.ext 0 aS0),.s (.ext 1 aS1),iQm 7 1,.s (.mv aS0)] (iSr [.s (.zu 0 aT2),.s (.load aS0),iSm 6,iCa 195 [aS1,aS0],iCa 130 [aS0],iQm 8 0] (.seq (iSr [iSm 7,.s (.len aS0),.s (.bin .eql .int aS0 aC1),.s (.mv aS0),iPt 0 (.mv aT7),iPt 1 (.zo 1 aS0 aC0),iPt 2 (.load aS0),iPt 3 (.bin .eql .int aS0 aC1),iQo 10 (.pick aS4 aS0 (.c (.bool false)))] (.cond bg (iSr [iSm 8,iQm 4 0] .ret) .skip)) X2)))))
def aW.b1:IR:=aW.g1 aW.b2
def aW.g0 (X1:IR):IR:=(iSr [iWl 2 (.box aT0),iWl 3 (.box aT1),iQo 4 (.mv (.c (.str [])))] (.seq (iSr [.s (.zu 0 aT3),iQo 9 (.load aS0)] (.cond aT9 (.yu [] [(.s (.zi 2 aT2),0,[]),(.s (.zi 2 aT3),1,[]),(iCa 235 [aS1],0,[]),(iCa 235 [aS1],0,[]),(.w .none none (.store 2 aT2 aS1),0,[]),(.w .none none (.store 2 aT3 aS0),0,[])]) .skip)) X1))
def aW.b0:IR:=aW.g0 aW.b1
def aW.res:List RV:=[.t (.of 4)]
def aW:Fn:={ params:=[(.of 0),(.of 1)],res:=aW.res,body:=aW.b0,init:=in11 }
theorem aW.ok:fnA Tryz.prog Tryz.f188 [0,1,2,3,4,5,6,8,10,12,49]=some aW:=by kernel_rfl
abbrev F191.fr:=fr4
def F191.b0:IR:=(iSr [iQo 1 (.mv (.c (.str [])))] (iSr [iSm 0,iCa 128 [aS0],.s (.mv aS0),.s (.ext 0 aS0),.s (.ext 1 aS1),iWl 2 (.alloc [(.bool false),.zf]),iWl 3 (.alloc [(.bool false),.zf]),.w .none none (.store 2 aT2 aS1),.w .none none (.store 2 aT3 aS0)] (iSr [.s (.zi 2 aT3),.s (.zi 2 aT2),iCa 188 [aS1,aS0],iQm 1 0] .ret)))
def F191.res:List RV:=[.t (.of 1)]
def F191:Fn:={ params:=[(.of 0)],res:=F191.res,body:=F191.b0,init:=in4 }
theorem F191.ok:fnA Tryz.prog Tryz.f191 [0,2,3,4]=some F191:=by kernel_rfl
abbrev yw.fr:=fr29
def yw.b7:IR:=(.reg [iSm 9,.w .push none (.zx 1 1 [(I 0)] [(0,1,aC0)]),.w .push none (.app 1 8 aS1 aS0),iQm 9 0])
def yw.g6 (X7:IR):IR:=(.block 1 X7)
def yw.b6:IR:=yw.g6 yw.b7
def yw.g5 (X6:IR):IR:=(.seq (iSr [iSm 9,.s (.len aS0),iSm 0,.s (.len aS0),.s (.bin .add .int aS0 aC1),iQo 23 (.bin .lss .int aS3 aS0)] (.cond aT23 .skip (.exit 0))) X6)
def yw.b5:IR:=yw.g5 yw.b6
def yw.g4 (X5:IR):IR:=(.loop X5)
def yw.b4:IR:=yw.g4 yw.b5
def yw.g3 (X4:IR):IR:=(.block 0 X4)
def yw.b3:IR:=yw.g3 yw.b4
def yw.b21:IR:=(.reg [iSm 9,iSm 14,iSm 11,.s (.bin .add .int aS1 aS0),iSm 16,.s (.zo 1 aS4 aS1),.w .none none (.store 1 aS0 aS1)])
def yw.g20 (X21:IR):IR:=(iSr [iSm 12,iSm 7,iSm 14,.s (.zo 1 aS1 aS0),.s (.load aS0),.s (.bin .mul .int aS4 aS0),iSm 13,.s (.bin .add .int aS1 aS0),iQm 15 0] (iSr [iSm 9,iSm 14,iSm 11,.s (.bin .add .int aS1 aS0),.s (.zo 1 aS3 aS0),.s (.load aS0),iSm 15,.s (.bin .rem .int aS0 jS),.s (.bin .sub .int aS2 aS0),iQm 16 0] (iSr [iSm 15,.s (.bin .quo .int aS0 jS),iQm 13 0] (.seq (iSr [iSm 16,iQo 26 (.bin .lss .int aS0 aC0)] (.cond aT26 (iSr [iSm 16,.s (.bin .add .int aS0 jS),iQm 16 0] (.reg [iSm 13,.s (.bin .add .int aS0 aC1),iQm 13 0])) .skip)) X21))))
def yw.b20:IR:=yw.g20 yw.b21
def yw.g19 (X20:IR):IR:=(.block 5 X20)
def yw.b19:IR:=yw.g19 yw.b20
def yw.b22:IR:=(.reg [iSm 14,.s (.bin .add .int aS0 aC1),iQm 14 0])
def yw.g18 (X19 X22:IR):IR:=(.seq X19 X22)
def yw.b18:IR:=yw.g18 yw.b19 yw.b22
def yw.g17 (X18:IR):IR:=(.seq (iSr [iSm 14,iSm 8,iQo 25 (.bin .lss .int aS1 aS0)] (.cond aT25 .skip (.exit 4))) X18)
def yw.b17:IR:=yw.g17 yw.b18
def yw.g16 (X17:IR):IR:=(.loop X17)
def yw.b16:IR:=yw.g16 yw.b17
def yw.g15 (X16:IR):IR:=(.block 4 X16)
def yw.b15:IR:=yw.g15 yw.b16
def yw.b29:IR:=(.seq (.yu [] [(iSm 9,0,[]),(iSm 18,0,[]),(iSm 11,0,[]),(.s (.bin .add .int aS1 aS0),0,[]),(.s (.zo 1 aS3 aS0),0,[]),(.s (.load aS0),0,[]),(iSm 7,0,[]),(iSm 18,0,[]),(.s (.zo 1 aS1 aS0),0,[]),(.s (.load aS0),0,[]),(.s (.bin .add .int aS4 aS0),0,[]),(iSm 17,0,[]),(.s (.bin .add .int aS1 aS0),0,[]),(iQm 19 0,0,[])]) (iSr [iSm 9,iSm 18,iSm 11,.s (.bin .add .int aS1 aS0),iSm 19,.s (.bin .rem .int aS0 jS),.s (.zo 1 aS5 aS2),.w .none none (.store 1 aS0 aS1)] (.reg [iSm 19,.s (.bin .quo .int aS0 jS),iQm 17 0])))
def yw.g28 (X29:IR):IR:=(.block 7 X29)
def yw.b28:IR:=yw.g28 yw.b29
def yw.b30:IR:=(.reg [iSm 18,.s (.bin .add .int aS0 aC1),iQm 18 0])
def yw.g27 (X28 X30:IR):IR:=(.seq X28 X30)
def yw.b27:IR:=yw.g27 yw.b28 yw.b30
def yw.g26 (X27:IR):IR:=(.seq (iSr [iSm 18,iSm 8,iQo 28 (.bin .lss .int aS1 aS0)] (.cond aT28 .skip (.exit 6))) X27)
def yw.b26:IR:=yw.g26 yw.b27
def yw.g25 (X26:IR):IR:=(.loop X26)
def yw.b25:IR:=yw.g25 yw.b26
def yw.g24 (X25:IR):IR:=(.block 6 X25)
def yw.b24:IR:=yw.g24 yw.b25
def yw.b31:IR:=(.reg [iSm 9,iSm 11,iSm 8,.s (.bin .add .int aS1 aS0),iSm 9,iSm 11,iSm 8,.s (.bin .add .int aS1 aS0),.s (.zo 1 aS3 aS0),.s (.load aS0),iSm 17,.s (.bin .add .int aS1 aS0),.s (.zo 1 aS11 aS8),.w .none none (.store 1 aS0 aS1)])
def yw.b32:IR:=(.reg [iSm 10,iSm 11,iSm 12,.s (.zo 1 aS2 aS1),.w .none none (.store 1 aS0 aS1)])
def yw.g23 (X24 X31 X32:IR):IR:=(iSr [iSm 9,iSm 11,iSm 8,.s (.bin .add .int aS1 aS0),iSm 9,iSm 11,iSm 8,.s (.bin .add .int aS1 aS0),.s (.zo 1 aS3 aS0),.s (.load aS0),iSm 13,.s (.bin .sub .int aS1 aS0),.s (.zo 1 aS11 aS8),.w .none none (.store 1 aS0 aS1)] (.seq (iSr [iSm 9,iSm 11,iSm 8,.s (.bin .add .int aS1 aS0),.s (.zo 1 aS3 aS0),.s (.load aS0),iQo 27 (.bin .lss .int aS0 aC0)] (.cond aT27 (iSr [iSm 12,.s (.bin .sub .int aS0 aC1),iQm 12 0] (iSr [iQo 17 (.mv aC0)] (.seq (iSr [iQo 18 (.mv aC0)] X24) X31))) .skip)) X32))
def yw.b23:IR:=yw.g23 yw.b24 yw.b31 yw.b32
def yw.g14 (X15 X23:IR):IR:=(iSr [iSm 9,iSm 7,iSm 11,iCa 242 [aS2,aS1,aS0],iQm 12 0] (iSr [iQo 13 (.mv aC0)] (.seq (iSr [iQo 14 (.mv aC0)] X15) X23)))
def yw.b14:IR:=yw.g14 yw.b15 yw.b23
def yw.g13 (X14:IR):IR:=(.block 3 X14)
def yw.b13:IR:=yw.g13 yw.b14
def yw.b33:IR:=(.reg [iSm 11,.s (.bin .sub .int aS0 aC1),iQm 11 0])
def yw.g12 (X13 X33:IR):IR:=(.seq X13 X33)
def yw.b12:IR:=yw.g12 yw.b13 yw.b33
def yw.g11 (X12:IR):IR:=(.seq (iSr [iSm 11,iQo 24 (.bin .geq .int aS0 aC0)] (.cond aT24 .skip (.exit 2))) X12)
def yw.b11:IR:=yw.g11 yw.b12
def yw.g10 (X11:IR):IR:=(.loop X11)
def yw.b10:IR:=yw.g10 yw.b11
def yw.g9 (X10:IR):IR:=(.block 2 X10)
def yw.b9:IR:=yw.g9 yw.b10
def yw.b34:IR:=(.seq (.yu [] [(iSm 9,0,[]),(iSm 8,0,[]),(.s (.slice 1 aS1 none (some aS0) none),0,[]),(iSm 6,1,[]),(.s (.zo 1 aS0 aC0),1,[]),(.s (.load aS0),1,[]),(iCa 241 [aS3],0,[]),(iCa 240 [aS0,aS1],0,[]),(.s (.mv aS0),0,[]),(.s (.ext 0 aS0),0,[]),(.s (.ext 1 aS1),0,[]),(iQm 20 1,0,[]),(.s (.mv aS0),0,[])]) (iSr [iSm 10,iCa 241 [aS0],iSm 20,iQm 2 1,iQm 3 0] .ret))
def yw.g8 (X9 X34:IR):IR:=(iSr [iSm 9,.s (.len aS0),iSm 8,.s (.bin .sub .int aS1 aS0),.w .push none (.jr 1 8 [(I 0)] aS0 aS0),iQm 10 0] (.seq (iSr [iSm 9,.s (.len aS0),iSm 8,.s (.bin .sub .int aS1 aS0),.s (.bin .sub .int aS0 aC1),iQm 11 0] X9) X34))
def yw.b8:IR:=yw.g8 yw.b9 yw.b34
def yw.g2 (X3 X8:IR):IR:=(iSr [iSm 1,iSm 1,.s (.len aS0),.s (.bin .sub .int aS0 aC1),.s (.zo 1 aS3 aS0),.s (.load aS0),.s (.bin .add .int aS0 aC1),.s (.bin .quo .int jS aS0),.w .push none (.zx 1 1 [(I 0)] [(0,1,aS0)]),iQm 6 0] (iSr [iSm 1,iSm 6,iCa 239 [aS1,aS0],iQm 7 0] (iSr [iSm 7,.s (.len aS0),iQm 8 0] (iSr [.w .push none (.zx 1 0 [(I 0)] []),iSm 0,iSm 6,iCa 239 [aS1,aS0],.w .push none (.app 1 8 aS3 aS0),iQm 9 0] (.seq X3 X8)))))
def yw.b2:IR:=yw.g2 yw.b3 yw.b8
def yw.g1 (X2:IR):IR:=(.seq (iSr [iSm 1,.s (.len aS0),iQo 22 (.bin .eql .int aS0 aC1)] (.cond aT22 (iSr [iSm 0,iSm 1,.s (.zo 1 aS0 aC0),.s (.load aS0),iCa 240 [aS3,aS0],.s (.mv aS0),.s (.ext 0 aS0),.s (.ext 1 aS1),iQm 4 1,iQm 5 0] (iSr [iSm 4,iSm 5,.w .push none (.zx 1 1 [(I 0)] [(0,1,aS0)]),iCa 241 [aS0],iQm 2 3,iQm 3 0] .ret)) .skip)) X2)
def yw.b1:IR:=yw.g1 yw.b2
def yw.g0 (X1:IR):IR:=(iSr [iQo 2 (.mv (.c .zf)),iQo 3 (.mv (.c .zf))] (.seq (iSr [iSm 0,iSm 1,iCa 237 [aS1,aS0],iQo 21 (.bin .lss .int aS0 aC0)] (.cond aT21 (iSr [iSm 0,iQo 2 (.mv (.c .zf)),iQm 3 0] .ret) .skip)) X1))
def yw.b0:IR:=yw.g0 yw.b1
def yw.res:List RV:=[.t (.of 2),.t (.of 3)]
def yw:Fn:={ params:=[(.of 0),(.of 1)],res:=yw.res,body:=yw.b0,init:=in29 }
theorem yw.ok:fnA Tryz.prog Tryz.f193 [0,1,4,5,6,7,8,9,10,11,12,13,14,15,16,17,18,19,20,21,22,27,31,68,83,92,115,145,150]=some yw:=by kernel_rfl
abbrev ny.fr:=fr5
def ny.b5:IR:=(iSr [iSm 0,.s (.bin .rem .int aS0 aC10),iSm 0,.s (.bin .rem .int aS0 aC10),.s (.bin .add .int aS0 aC1),.s (.rD (.c (.str [48,49,50,51,52,53,54,55,56,57])) (some aS3) (some aS0)),iSm 3,.s (.bin .add .str aS1 aS0),iQm 3 0] (.reg [iSm 0,.s (.bin .quo .int aS0 aC10),iQm 0 0]))
def ny.g4 (X5:IR):IR:=(.block 1 X5)
def ny.b4:IR:=ny.g4 ny.b5
def ny.g3 (X4:IR):IR:=(.seq (iSr [iSm 0,.s (.bin .gtr .int aS0 aC0),.s (.mv aS0),iPf 0 (.mv aT3),iPf 1 (.slen aS0),iPf 2 (.mv aT1),iPf 3 (.bin .lss .int aS1 aS0),iQo 4 (.pick aS4 (.c (.bool true)) aS0)] (.cond aT4 .skip (.exit 0))) X4)
def ny.b3:IR:=ny.g3 ny.b4
def ny.g2 (X3:IR):IR:=(.loop X3)
def ny.b2:IR:=ny.g2 ny.b3
def ny.g1 (X2:IR):IR:=(.block 0 X2)
def ny.b1:IR:=ny.g1 ny.b2
def ny.b6:IR:=(iSr [iSm 3,iQm 2 0] .ret)
def ny.g0 (X1 X6:IR):IR:=(iSr [iQo 2 (.mv (.c (.str [])))] (iSr [iQo 3 (.mv (.c (.str [])))] (.seq X1 X6)))
def ny.b0:IR:=ny.g0 ny.b1 ny.b6
def ny.res:List RV:=[.t (.of 2)]
def ny:Fn:={ params:=[(.of 0),(.of 1)],res:=ny.res,body:=ny.b0,init:=in5 }
theorem ny.ok:fnA Tryz.prog Tryz.f194 [0,1,4,5,13]=some ny:=by kernel_rfl
abbrev F195.fr:=fr3
def F195.b0:IR:=(iSr [iWl 2 (.alloc [(.bool false),.zf])] (iSr [iSm 1,iCa 241 [aS0],iQm 1 0] (iSr [iSm 0,.s (.mv aS0),iPt 0 (.mv aT1),iPt 1 (.len aS0),iPt 2 (.bin .gtr .int aS0 aC0),.s (.pick aS3 aS0 (.c (.bool false))),iSm 1,.s (.build [(.bool false),.zf] [(0,1,aS1),(1,1,aS0)]),.w .none none (.store 2 aT2 aS0)] .ret)))
def F195.res:List RV:=[.cell (.of 2) (some 2)]
def F195:Fn:={ params:=[(.of 0),(.of 1)],res:=F195.res,body:=F195.b0,init:=in3 }
theorem F195.ok:fnA Tryz.prog Tryz.f195 [0,1,4]=some F195:=by kernel_rfl
abbrev aX.fr:=fr4
def aX.b2:IR:=(iSr [iSm 0,.s (.bin .add .str (.c (.str [45])) aS0),iQm 1 0] .ret)
def aX.g1 (X2:IR):IR:=(.seq (iSr [iSm 0,iCa 132 [aS0],iQo 3 (.bin .eql .int aS0 aC0)] (.cond aT3 (iSr [iSm 0,iQm 1 0] .ret) .skip)) X2)
def aX.b1:IR:=aX.g1 aX.b2
def aX.g0 (X1:IR):IR:=(iSr [iQo 1 (.mv (.c (.str [])))] (.seq (iSr [iSm 0,iCa 132 [aS0],iQo 2 (.bin .lss .int aS0 aC0)] (.cond aT2 (iSr [iSm 0,.s (.rD aS0 (some aC1) none),iQm 1 0] .ret) .skip)) X1))
def aX.b0:IR:=aX.g0 aX.b1
def aX.res:List RV:=[.t (.of 1)]
def aX:Fn:={ params:=[(.of 0)],res:=aX.res,body:=aX.b0,init:=in4 }
theorem aX.ok:fnA Tryz.prog Tryz.f196 [0,2,5,10]=some aX:=by kernel_rfl
abbrev uw.fr:=fr8
def uw.b6:IR:=(iSr [iSm 5,iQm 3 0] (iSr [iSm 1,iSm 0,iSm 3,.s (.zo 1 aS1 aS0),.s (.load aS0),iWl 7 (.call aS4 [aS0])] (.cond aT7 (iSr [iSm 3,iQm 2 0] .ret) .skip)))
def uw.g5 (X6:IR):IR:=(.block 1 X6)
def uw.b5:IR:=uw.g5 uw.b6
def uw.b7:IR:=(.reg [.s (.bin .add .int aT5 aC1),iQm 5 0])
def uw.g4 (X5 X7:IR):IR:=(.seq X5 X7)
def uw.b4:IR:=uw.g4 uw.b5 uw.b7
def uw.g3 (X4:IR):IR:=(iSr [iQo 6 (.bin .lss .int aT5 aT4)] (.seq (.cond aT6 .skip (.exit 0)) X4))
def uw.b3:IR:=uw.g3 uw.b4
def uw.g2 (X3:IR):IR:=(.loop X3)
def uw.b2:IR:=uw.g2 uw.b3
def uw.g1 (X2:IR):IR:=(.block 0 X2)
def uw.b1:IR:=uw.g1 uw.b2
def uw.b8:IR:=(iSr [iQo 2 (.mv (.c (I (-1))))] .ret)
def uw.g0 (X1 X8:IR):IR:=(iSr [iQo 2 (.mv aC0)] (.seq (iSr [iSm 0,iQo 4 (.len aS0),iQo 5 (.mv aC0)] X1) X8))
def uw.b0:IR:=uw.g0 uw.b1 uw.b8
def uw.res:List RV:=[.t (.of 2)]
def uw:Fn:={ params:=[(.of 0),(.of 1)],res:=uw.res,body:=uw.b0,init:=in8 }
theorem uw.ok:fnA Tryz.prog Tryz.f197 [0,1,4,5,7,8,9,16]=some uw:=by kernel_rfl
abbrev je.fr:=fr10
def je.b8:IR:=(.reg [iSm 2,iSm 3,.s (.zo 1 aS1 aS0),.w .none none (.store 1 aS0 (.c (.bool true)))])
def je.g7 (X8:IR):IR:=(iSr [.s (.zo 1 aT5 aT7),.s (.load aS0),iQm 3 0] (.seq (iSr [iSm 3,.s (.bin .lss .int aS0 aC0),.s (.mv aS0),iPf 0 (.mv aT3),iPf 1 (.mv aT0),iPf 2 (.len aS0),iPf 3 (.bin .geq .int aS2 aS0),.s (.pick aS4 (.c (.bool true)) aS0),.s (.mv aS0),iPf 0 (.mv aT2),iPf 1 (.mv aT3),iPf 2 (.zo 1 aS1 aS0),iPf 3 (.load aS0),iQo 9 (.pick aS4 (.c (.bool true)) aS0)] (.cond aT9 (iSr [iQo 1 (.mv aC14)] .ret) .skip)) X8))
def je.b7:IR:=je.g7 je.b8
def je.g6 (X7:IR):IR:=(.block 1 X7)
def je.b6:IR:=je.g6 je.b7
def je.b9:IR:=(.reg [.s (.bin .add .int aT7 aC1),iQm 7 0])
def je.g5 (X6 X9:IR):IR:=(.seq X6 X9)
def je.b5:IR:=je.g5 je.b6 je.b9
def je.g4 (X5:IR):IR:=(iSr [iQo 8 (.bin .lss .int aT7 aT6)] (.seq (.cond aT8 .skip (.exit 0)) X5))
def je.b4:IR:=je.g4 je.b5
def je.g3 (X4:IR):IR:=(.loop X4)
def je.b3:IR:=je.g3 je.b4
def je.g2 (X3:IR):IR:=(.block 0 X3)
def je.b2:IR:=je.g2 je.b3
def je.b10:IR:=(iSr [iQo 1 (.mv aC0)] .ret)
def je.g1 (X2 X10:IR):IR:=(iSr [iSm 0,.s (.len aS0),.w .push none (.jr 1 1 [(.bool false)] aS0 aS0),iQm 2 0] (.seq (iSr [iQo 5 (.mv aT0),iQo 6 (.len aT5),iQo 7 (.mv aC0)] X2) X10))
def je.b1:IR:=je.g1 je.b2 je.b10
def je.g0 (X1:IR):IR:=(iSr [iQo 1 (.mv aC0)] (.seq (iSr [iSm 0,.s (.len aS0),iQo 4 (.bin .gtr .int aS0 zc3)] (.cond aT4 (iSr [iQo 1 (.mv aC5)] .ret) .skip)) X1))
def je.b0:IR:=je.g0 je.b1
def je.res:List RV:=[.t (.of 1)]
def je:Fn:={ params:=[(.of 0)],res:=je.res,body:=je.b0,init:=in10 }
theorem je.ok:fnA Tryz.prog Tryz.f198 [0,2,3,5,8,12,13,14,15,31]=some je:=by kernel_rfl
abbrev ru.fr:=fr4
def ru.b5:IR:=(.yu [] [(iSm 1,0,[]),(iSm 0,0,[]),(iSm 1,0,[]),(.s (.bin .rem .int aS1 aS0),0,[]),(iQm 0 3,0,[]),(iQm 1 0,0,[])])
def ru.g4 (X5:IR):IR:=(.block 1 X5)
def ru.b4:IR:=ru.g4 ru.b5
def ru.g3 (X4:IR):IR:=(.seq (iSr [iSm 1,iQo 3 (.bin .gtr .int aS0 aC0)] (.cond aT3 .skip (.exit 0))) X4)
def ru.b3:IR:=ru.g3 ru.b4
def ru.g2 (X3:IR):IR:=(.loop X3)
def ru.b2:IR:=ru.g2 ru.b3
def ru.g1 (X2:IR):IR:=(.block 0 X2)
def ru.b1:IR:=ru.g1 ru.b2
def ru.b6:IR:=(iSr [iSm 0,iQm 2 0] .ret)
def ru.g0 (X1 X6:IR):IR:=(iSr [iQo 2 (.mv aC0)] (.seq X1 X6))
def ru.b0:IR:=ru.g0 ru.b1 ru.b6
def ru.res:List RV:=[.t (.of 2)]
def ru:Fn:={ params:=[(.of 0),(.of 1)],res:=ru.res,body:=ru.b0,init:=in4 }
theorem ru.ok:fnA Tryz.prog Tryz.f199 [0,1,4,6]=some ru:=by kernel_rfl
abbrev F200.fr:=fr3
def F200.b0:IR:=(iSr [iSm 0,.s (.len aS0),iQm 2 0] (.reg [iSm 0,iSm 2,iSm 2,.s (.conv .u64 aS0),iCa 161 [aS0],iSm 1,iCa 243 [aS5,aC0,aS4,aS1,aS0]]))
def F200.res:List RV:=[]
def F200:Fn:={ params:=[(.of 0),(.of 1)],res:=F200.res,body:=F200.b0,init:=in3 }
theorem F200.ok:fnA Tryz.prog Tryz.f200 [0,1,4]=some F200:=by kernel_rfl
abbrev jl.fr:=fr14
def jl.b7:IR:=(iSr [iSm 1,iSm 3,.s (.zo 1 aS1 aS0),.s (.load aS0),iQm 5 0] (iSr [iSm 4,iSm 5,iCa 244 [aS1,aS0],iQm 6 0] (iSr [iSm 6,iQo 12 (.bin .neq .int aS0 aC0)] (.cond sD (iSr [iSm 6,iQm 2 0] .ret) .skip))))
def jl.g6 (X7:IR):IR:=(iSr [iSm 9,.s (.zo 1 aT7 aT9),.s (.load aS0),iQm 3 2,iQm 4 0] (.seq (iSr [iSm 3,iSm 1,.s (.len aS0),iQo 11 (.bin .geq .int aS2 aS0)] (.cond rJ (iSr [iQo 2 (.mv aC1)] .ret) .skip)) X7))
def jl.b6:IR:=jl.g6 jl.b7
def jl.g5 (X6:IR):IR:=(.block 1 X6)
def jl.b5:IR:=jl.g5 jl.b6
def jl.b8:IR:=(.reg [.s (.bin .add .int aT9 aC1),iQm 9 0])
def jl.g4 (X5 X8:IR):IR:=(.seq X5 X8)
def jl.b4:IR:=jl.g4 jl.b5 jl.b8
def jl.g3 (X4:IR):IR:=(iSr [iQo 10 (.bin .lss .int aT9 aT8)] (.seq (.cond bg .skip (.exit 0)) X4))
def jl.b3:IR:=jl.g3 jl.b4
def jl.g2 (X3:IR):IR:=(.loop X3)
def jl.b2:IR:=jl.g2 jl.b3
def jl.g1 (X2:IR):IR:=(.block 0 X2)
def jl.b1:IR:=jl.g1 jl.b2
def jl.b10:IR:=(iSr [iQo 2 (.mv aC0)] .ret)
def jl.g9 (X10:IR):IR:=(.seq (iSr [iSm 0,.s (.len aS0),iSm 1,.s (.len aS0),iQo 13 (.bin .lss .int aS2 aS0)] (.cond rF (iSr [iQo 2 (.mv (.c (I (-1))))] .ret) .skip)) X10)
def jl.b9:IR:=jl.g9 jl.b10
def jl.g0 (X1 X9:IR):IR:=(iSr [iQo 2 (.mv aC0)] (.seq (iSr [iQo 7 (.mv aT0),iQo 8 (.len aT7),iQo 9 (.mv aC0)] X1) X9))
def jl.b0:IR:=jl.g0 jl.b1 jl.b9
def jl.res:List RV:=[.t (.of 2)]
def jl:Fn:={ params:=[(.of 0),(.of 1)],res:=jl.res,body:=jl.b0,init:=in14 }
theorem jl.ok:fnA Tryz.prog Tryz.f201 [0,1,4,5,6,7,8,9,10,11,12,19,28,35]=some jl:=by kernel_rfl
abbrev ug.fr:=fr11
def ug.b13:IR:=(.seq (.yu [] [(iSm 1,0,[]),(iSm 4,0,[]),(iSm 5,0,[]),(.s (.zo 1 aS1 aS0),0,[]),(.s (.load aS0),0,[]),(iSm 4,0,[]),(iSm 5,0,[]),(.s (.bin .sub .int aS0 aC1),0,[]),(.s (.zo 1 aS2 aS0),0,[]),(.s (.load aS0),0,[]),(.w .push none (.call aS9 [aS5,aS0]),0,[]),(iQo 10 (.not aS0),0,[])]) (.cond bg (iSr [iSm 0,iSm 3,iSm 4,iSm 5,.s (.zo 1 aS1 aS0),.s (.load aS0),.s (.zo 1 aS5 aS4),.w .none none (.store 1 aS0 aS1)] (.reg [iSm 3,.s (.bin .add .int aS0 aC1),iQm 3 0])) .skip))
def ug.g12 (X13:IR):IR:=(.block 3 X13)
def ug.b12:IR:=ug.g12 ug.b13
def ug.b14:IR:=(.reg [iSm 5,.s (.bin .add .int aS0 aC1),iQm 5 0])
def ug.g11 (X12 X14:IR):IR:=(.seq X12 X14)
def ug.b11:IR:=ug.g11 ug.b12 ug.b14
def ug.g10 (X11:IR):IR:=(.seq (iSr [iSm 5,iSm 4,.s (.len aS0),iQo 9 (.bin .lss .int aS2 aS0)] (.cond aT9 .skip (.exit 2))) X11)
def ug.b10:IR:=ug.g10 ug.b11
def ug.g9 (X10:IR):IR:=(.loop X10)
def ug.b9:IR:=ug.g9 ug.b10
def ug.g8 (X9:IR):IR:=(.block 2 X9)
def ug.b8:IR:=ug.g8 ug.b9
def ug.b15:IR:=(iSr [iSm 0,iSm 3,.s (.slice 1 aS1 (some aS0) none none),.w .none none (.clr 1 [.zf] aS0)] (iSr [iSm 0,iSm 3,.s (.slice 1 aS1 none (some aS0) none),iQm 2 0] .ret))
def ug.g7 (X8 X15:IR):IR:=(.seq (.yu [] [(iSm 1,0,[]),(iSm 0,0,[]),(iSm 3,0,[]),(.s (.zo 1 aS1 aS0),0,[]),(.s (.load aS0),0,[]),(iSm 0,0,[]),(iSm 3,0,[]),(.s (.bin .sub .int aS0 aC1),0,[]),(.s (.zo 1 aS2 aS0),0,[]),(.s (.load aS0),0,[]),(iWl 8 (.call aS9 [aS5,aS0]),0,[])]) (.cond aT8 (iSr [iSm 0,iSm 3,.s (.slice 1 aS1 (some aS0) none none),iQm 4 0] (.seq (iSr [iQo 5 (.mv aC1)] X8) X15)) .skip))
def ug.b7:IR:=ug.g7 ug.b8 ug.b15
def ug.g6 (X7:IR):IR:=(.block 1 X7)
def ug.b6:IR:=ug.g6 ug.b7
def ug.b16:IR:=(.reg [iSm 3,.s (.bin .add .int aS0 aC1),iQm 3 0])
def ug.g5 (X6 X16:IR):IR:=(.seq X6 X16)
def ug.b5:IR:=ug.g5 ug.b6 ug.b16
def ug.g4 (X5:IR):IR:=(.seq (iSr [iSm 3,iSm 0,.s (.len aS0),iQo 7 (.bin .lss .int aS2 aS0)] (.cond aT7 .skip (.exit 0))) X5)
def ug.b4:IR:=ug.g4 ug.b5
def ug.g3 (X4:IR):IR:=(.loop X4)
def ug.b3:IR:=ug.g3 ug.b4
def ug.g2 (X3:IR):IR:=(.block 0 X3)
def ug.b2:IR:=ug.g2 ug.b3
def ug.b17:IR:=(iSr [iSm 0,iQm 2 0] .ret)
def ug.g1 (X2 X17:IR):IR:=(.seq (iSr [iQo 3 (.mv aC1)] X2) X17)
def ug.b1:IR:=ug.g1 ug.b2 ug.b17
def ug.g0 (X1:IR):IR:=(iSr [iQo 2 (.mv (.c .zf))] (.seq (iSr [iSm 0,.s (.len aS0),iQo 6 (.bin .lss .int aS0 aC2)] (.cond aT6 (iSr [iSm 0,iQm 2 0] .ret) .skip)) X1))
def ug.b0:IR:=ug.g0 ug.b1
def ug.res:List RV:=[.t (.of 2)]
def ug:Fn:={ params:=[(.of 0),(.of 1)],res:=ug.res,body:=ug.b0,init:=in11 }
theorem ug.ok:fnA Tryz.prog Tryz.f202 [0,1,4,5,6,7,10,15,28,35,49]=some ug:=by kernel_rfl
abbrev qp.fr:=fr7
def qp.b12:IR:=(.yu [] [(iSm 0,0,[]),(iSm 4,0,[]),(iSm 0,1,[]),(iSm 4,1,[]),(.s (.bin .sub .int aS0 aC1),1,[]),(iSm 0,0,[]),(iSm 4,0,[]),(.s (.bin .sub .int aS0 aC1),0,[]),(.s (.zo 1 aS2 aS0),0,[]),(.s (.load aS0),0,[]),(iSm 0,0,[]),(iSm 4,0,[]),(.s (.zo 1 aS1 aS0),0,[]),(.s (.load aS0),0,[]),(.s (.zo 1 aS13 aS12),0,[]),(.w .none none (.store 1 aS0 aS5),0,[]),(.s (.zo 1 aS12 aS10),0,[]),(.w .none none (.store 1 aS0 aS2),0,[])])
def qp.g11 (X12:IR):IR:=(.block 3 X12)
def qp.b11:IR:=qp.g11 qp.b12
def qp.b13:IR:=(.reg [iSm 4,.s (.bin .sub .int aS0 aC1),iQm 4 0])
def qp.g10 (X11 X13:IR):IR:=(.seq X11 X13)
def qp.b10:IR:=qp.g10 qp.b11 qp.b13
def qp.g9 (X10:IR):IR:=(.seq (.seq (.yu [] [(iSm 4,0,[]),(iSm 1,0,[]),(.s (.bin .gtr .int aS1 aS0),0,[]),(.s (.mv aS0),0,[]),(iPt 0 (.mv aT0),0,[]),(iPt 1 (.mv aT4),0,[]),(iPt 2 (.zo 1 aS1 aS0),0,[]),(iPt 3 (.load aS0),0,[]),(iPt 4 (.mv aT0),0,[]),(iPt 5 (.mv aT4),0,[]),(iPt 6 (.bin .sub .int aS0 aC1),0,[]),(iPt 7 (.zo 1 aS2 aS0),0,[]),(iPt 8 (.load aS0),0,[]),(.w .push (some (aS9,true)) (.call (.c (.fn 209 (.of 209) [])) [aS5,aS0]),0,[]),(iQo 6 (.pick aS10 aS0 (.c (.bool false))),0,[])]) (.cond aT6 .skip (.exit 2))) X10)
def qp.b9:IR:=qp.g9 qp.b10
def qp.g8 (X9:IR):IR:=(.loop X9)
def qp.b8:IR:=qp.g8 qp.b9
def qp.g7 (X8:IR):IR:=(.block 2 X8)
def qp.b7:IR:=qp.g7 qp.b8
def qp.g6 (X7:IR):IR:=(iSr [iSm 3,iQm 4 0] X7)
def qp.b6:IR:=qp.g6 qp.b7
def qp.g5 (X6:IR):IR:=(.block 1 X6)
def qp.b5:IR:=qp.g5 qp.b6
def qp.b14:IR:=(.reg [iSm 3,.s (.bin .add .int aS0 aC1),iQm 3 0])
def qp.g4 (X5 X14:IR):IR:=(.seq X5 X14)
def qp.b4:IR:=qp.g4 qp.b5 qp.b14
def qp.g3 (X4:IR):IR:=(.seq (iSr [iSm 3,iSm 2,iQo 5 (.bin .lss .int aS1 aS0)] (.cond aT5 .skip (.exit 0))) X4)
def qp.b3:IR:=qp.g3 qp.b4
def qp.g2 (X3:IR):IR:=(.loop X3)
def qp.b2:IR:=qp.g2 qp.b3
def qp.g1 (X2:IR):IR:=(.block 0 X2)
def qp.b1:IR:=qp.g1 qp.b2
def qp.g0 (X1:IR):IR:=(iSr [iSm 1,.s (.bin .add .int aS0 aC1),iQm 3 0] X1)
def qp.b0:IR:=qp.g0 qp.b1
def qp.res:List RV:=[]
def qp:Fn:={ params:=[(.of 0),(.of 1),(.of 2)],res:=qp.res,body:=qp.b0,init:=in7 }
theorem qp.ok:fnA Tryz.prog Tryz.f203 [0,1,2,6,7,12,30]=some qp:=by kernel_rfl
abbrev F209.fr:=fr3
def F209.b0:IR:=(iSr [iQo 2 (.mv (.c (.bool false)))] (iSr [iSm 0,iCa 250 [aS0],.s (.mv aS0),iPt 0 (.mv aT1),.w .push (some (aS1,true)) (.call (.c (.fn 250 (.of 250) [])) [aS0]),iPt 2 (.not aS0),.s (.pick aS3 aS0 (.c (.bool false))),.s (.mv aS0),iPf 0 (.mv aT0),iPf 1 (.mv aT1),iPf 2 (.bin .lss .int aS1 aS0),.s (.pick aS3 (.c (.bool true)) aS0),iQm 2 0] .ret))
def F209.res:List RV:=[.t (.of 2)]
def F209:Fn:={ params:=[(.of 0),(.of 1)],res:=F209.res,body:=F209.b0,init:=in3 }
theorem F209.ok:fnA Tryz.prog Tryz.f209 [0,1,4]=some F209:=by kernel_rfl
abbrev tV.fr:=fr5
def tV.b3:IR:=(iSr [iSm 1,iSm 0,.s (.conv .u8 aS0),.s (.sidx (.c (.str [0,1,2,2,3,3,3,3,4,4,4,4,4,4,4,4,5,5,5,5,5,5,5,5,5,5,5,5,5,5,5,5,6,6,6,6,6,6,6,6,6,6,6,6,6,6,6,6,6,6,6,6,6,6,6,6,6,6,6,6,6,6,6,6,7,7,7,7,7,7,7,7,7,7,7,7,7,7,7,7,7,7,7,7,7,7,7,7,7,7,7,7,7,7,7,7,7,7,7,7,7,7,7,7,7,7,7,7,7,7,7,7,7,7,7,7,7,7,7,7,7,7,7,7,7,7,7,7,8,8,8,8,8,8,8,8,8,8,8,8,8,8,8,8,8,8,8,8,8,8,8,8,8,8,8,8,8,8,8,8,8,8,8,8,8,8,8,8,8,8,8,8,8,8,8,8,8,8,8,8,8,8,8,8,8,8,8,8,8,8,8,8,8,8,8,8,8,8,8,8,8,8,8,8,8,8,8,8,8,8,8,8,8,8,8,8,8,8,8,8,8,8,8,8,8,8,8,8,8,8,8,8,8,8,8,8,8,8,8,8,8,8,8,8,8,8,8,8,8,8,8,8,8,8,8,8])) aS0),.s (.conv .i64 aS0),.s (.bin .add .int aS4 aS0),iQm 1 0] .ret)
def tV.g2 (X3:IR):IR:=(.seq (iSr [iSm 0,iQo 4 (.bin .geq .int aS0 (.c (.int .u64 256)))] (.cond aT4 (iSr [iSm 0,.s (.bin .shr .int aS0 (.c (.int .u64 8))),iQm 0 0] (.reg [iSm 1,.s (.bin .add .int aS0 aC8),iQm 1 0])) .skip)) X3)
def tV.b2:IR:=tV.g2 tV.b3
def tV.g1 (X2:IR):IR:=(.seq (iSr [iSm 0,iQo 3 (.bin .geq .int aS0 (.c (.int .u64 65536)))] (.cond aT3 (iSr [iSm 0,.s (.bin .shr .int aS0 (.c (.int .u64 16))),iQm 0 0] (.reg [iSm 1,.s (.bin .add .int aS0 aC16),iQm 1 0])) .skip)) X2)
def tV.b1:IR:=tV.g1 tV.b2
def tV.g0 (X1:IR):IR:=(iSr [iQo 1 (.mv aC0)] (.seq (iSr [iSm 0,iQo 2 (.bin .geq .int aS0 (.c (.int .u64 4294967296)))] (.cond aT2 (iSr [iSm 0,.s (.bin .shr .int aS0 (.c (.int .u64 32))),iQm 0 0] (.reg [iQo 1 (.mv aC32)])) .skip)) X1))
def tV.b0:IR:=tV.g0 tV.b1
def tV.res:List RV:=[.t (.of 1)]
def tV:Fn:={ params:=[(.of 0)],res:=tV.res,body:=tV.b0,init:=in5 }
theorem tV.ok:fnA Tryz.prog Tryz.f213 [0,2,4,8,14]=some tV:=by kernel_rfl
abbrev oN.fr:=fr4
def oN.b0:IR:=(iSr [iQo 3 (.mv (.c (.bool false)))] (iSr [iSm 0,.s (.load aT1),.s (.bin .lss .int aS1 aS0),.s (.mv aS0),iPf 0 (.mv aT0),iPf 1 (.load aT2),iPf 2 (.bin .gtr .int aS1 aS0),.s (.pick aS3 (.c (.bool true)) aS0),iQm 3 0] .ret))
def oN.res:List RV:=[.t (.of 3)]
def oN:Fn:={ params:=[(.of 0),(.of 1),(.of 2)],res:=oN.res,body:=oN.b0,init:=in4 }
theorem oN.ok:fnA Tryz.prog Tryz.f215 [0,1,2,4]=some oN:=by kernel_rfl
abbrev oL.fr:=fr3
def oL.b0:IR:=(iSr [iQo 2 (.mv (.c (.bool false)))] (iSr [iSm 0,iSm 1,iCa 259 [aS1,aS0],.s (.bin .geq .int aS0 aC0),iQm 2 0] .ret))
def oL.res:List RV:=[.t (.of 2)]
def oL:Fn:={ params:=[(.of 0),(.of 1)],res:=oL.res,body:=oL.b0,init:=in3 }
theorem oL.ok:fnA Tryz.prog Tryz.f216 [0,1,4]=some oL:=by kernel_rfl
abbrev oK.fr:=fr3
def oK.b0:IR:=(iSr [iQo 2 (.mv (.c (.bool false)))] (iSr [iSm 0,.s (.load aT1),iCa 158 [aS1,aS0],iQm 2 0] .ret))
def oK.res:List RV:=[.t (.of 2)]
def oK:Fn:={ params:=[(.of 0),(.of 1)],res:=oK.res,body:=oK.b0,init:=in3 }
theorem oK.ok:fnA Tryz.prog Tryz.f217 [0,1,3]=some oK:=by kernel_rfl
abbrev fA.fr:=fr5
def fA.b6:IR:=(.reg [iSm 2,.s (.bin .mul .int aC10 aS0),iSm 0,iSm 3,.s (.sidx aS1 aS0),.s (.conv .i64 aS0),.s (.bin .add .int aS4 aS0),.s (.bin .sub .int aS0 aC48),iQm 2 0])
def fA.g5 (X6:IR):IR:=(.block 1 X6)
def fA.b5:IR:=fA.g5 fA.b6
def fA.b7:IR:=(.reg [iSm 3,.s (.bin .add .int aS0 aC1),iQm 3 0])
def fA.g4 (X5 X7:IR):IR:=(.seq X5 X7)
def fA.b4:IR:=fA.g4 fA.b5 fA.b7
def fA.g3 (X4:IR):IR:=(.seq (iSr [iSm 3,iSm 0,.s (.slen aS0),iQo 4 (.bin .lss .int aS2 aS0)] (.cond aT4 .skip (.exit 0))) X4)
def fA.b3:IR:=fA.g3 fA.b4
def fA.g2 (X3:IR):IR:=(.loop X3)
def fA.b2:IR:=fA.g2 fA.b3
def fA.g1 (X2:IR):IR:=(.block 0 X2)
def fA.b1:IR:=fA.g1 fA.b2
def fA.b8:IR:=(iSr [iSm 2,iQm 1 0] .ret)
def fA.g0 (X1 X8:IR):IR:=(iSr [iQo 1 (.mv aC0)] (iSr [iQo 2 (.mv aC0)] (.seq (iSr [iQo 3 (.mv aC0)] X1) X8)))
def fA.b0:IR:=fA.g0 fA.b1 fA.b8
def fA.res:List RV:=[.t (.of 1)]
def fA:Fn:={ params:=[(.of 0)],res:=fA.res,body:=fA.b0,init:=in5 }
theorem fA.ok:fnA Tryz.prog Tryz.f218 [0,2,3,4,8]=some fA:=by kernel_rfl
abbrev F219.fr:=fr8
def F219.b1:IR:=(iSr [.s (.zu 0 aT2),.s (.load aS0),iSm 5,iCa 195 [aS1,aS0],.w .none none (.store 2 aT4 aS0)] .ret)
def F219.g0 (X1:IR):IR:=(iSr [iWl 2 (.box aT0),iWl 3 (.box aT1),iWl 4 (.alloc [(.bool false),.zf])] (iSr [.s (.zu 1 aT2),.s (.load aS0),.s (.zu 1 aT3),.s (.load aS0),iCa 193 [aS2,aS0],.s (.mv aS0),.s (.ext 0 aS0),.s (.ext 1 aS1),iQm 5 1,iQm 6 0] (.seq (iSr [.s (.zu 0 aT2),.s (.load aS0),.s (.mv aS0),iPt 0 (.mv aT6),iPt 1 (.len aS0),iPt 2 (.bin .gtr .int aS0 aC0),iQo 7 (.pick aS3 aS0 (.c (.bool false)))] (.cond aT7 (.reg [iSm 5,.w .push none (.zx 1 1 [(I 0)] [(0,1,aC1)]),iCa 236 [aS1,aS0],iQm 5 0]) .skip)) X1)))
def F219.b0:IR:=F219.g0 F219.b1
def F219.res:List RV:=[.cell (.of 4) (some 2)]
def F219:Fn:={ params:=[(.of 0),(.of 1)],res:=F219.res,body:=F219.b0,init:=in8 }
theorem F219.ok:fnA Tryz.prog Tryz.f219 [0,1,2,3,4,5,6,21]=some F219:=by kernel_rfl
abbrev F220.fr:=fr3
def F220.b1:IR:=(iSr [iSm 0,.s (.conv .u64 aS0),iQm 1 0] .ret)
def F220.g0 (X1:IR):IR:=(iSr [iQo 1 (.mv (.c (.int .u64 0)))] (.seq (iSr [iSm 0,iQo 2 (.bin .lss .int aS0 aC0)] (.cond aT2 (iSr [iSm 0,.s (.neg aS0),.s (.conv .u64 aS0),iQm 1 0] .ret) .skip)) X1))
def F220.b0:IR:=F220.g0 F220.b1
def F220.res:List RV:=[.t (.of 1)]
def F220:Fn:={ params:=[(.of 0)],res:=F220.res,body:=F220.b0,init:=in3 }
theorem F220.ok:fnA Tryz.prog Tryz.f220 [0,2,4]=some F220:=by kernel_rfl
abbrev F224.fr:=fr12
def F224.b0:IR:=(iSr [iQo 2 (.mv (.c (.int .u64 0))),iQo 3 (.mv (.c (.int .u64 0)))] (iSr [iSm 0,.s (.bin .and .int aS0 (.c (.int .u64 4294967295))),iQm 4 0] (iSr [iSm 0,.s (.bin .shr .int aS0 (.c (.int .u64 32))),iQm 5 0] (iSr [iSm 1,.s (.bin .and .int aS0 (.c (.int .u64 4294967295))),iQm 6 0] (iSr [iSm 1,.s (.bin .shr .int aS0 (.c (.int .u64 32))),iQm 7 0] (iSr [iSm 4,iSm 6,.s (.bin .mul .int aS1 aS0),iQm 8 0] (iSr [iSm 5,iSm 6,.s (.bin .mul .int aS1 aS0),iSm 8,.s (.bin .shr .int aS0 (.c (.int .u64 32))),.s (.bin .add .int aS2 aS0),iQm 9 0] (iSr [iSm 9,.s (.bin .and .int aS0 (.c (.int .u64 4294967295))),iQm 10 0] (iSr [iSm 9,.s (.bin .shr .int aS0 (.c (.int .u64 32))),iQm 11 0] (iSr [iSm 10,iSm 4,iSm 7,.s (.bin .mul .int aS1 aS0),.s (.bin .add .int aS3 aS0),iQm 10 0] (iSr [iSm 5,iSm 7,.s (.bin .mul .int aS1 aS0),iSm 11,.s (.bin .add .int aS1 aS0),iSm 10,.s (.bin .shr .int aS0 (.c (.int .u64 32))),.s (.bin .add .int aS2 aS0),iQm 2 0] (iSr [iSm 0,iSm 1,.s (.bin .mul .int aS1 aS0),iQm 3 0] .ret))))))))))))
def F224.res:List RV:=[.t (.of 2),.t (.of 3)]
def F224:Fn:={ params:=[(.of 0),(.of 1)],res:=F224.res,body:=F224.b0,init:=in12 }
theorem F224.ok:fnA Tryz.prog Tryz.f224 [0,1,4,5,6,7,8,9,10,11,12,13]=some F224:=by kernel_rfl
abbrev F228.fr:=fr5
def F228.b1:IR:=(iSr [iSm 3,.s (.len aS0),.s (.bin .sub .int aS0 aC1),.s (.bin .mul .int aC64 aS0),iSm 3,iSm 3,.s (.len aS0),.s (.bin .sub .int aS0 aC1),.s (.zo 1 aS3 aS0),.s (.load aS0),iCa 213 [aS0],.s (.bin .add .int aS7 aS0),iQm 2 0] .ret)
def F228.g0 (X1:IR):IR:=(iSr [iWl 1 (.box aT0),iQo 2 (.mv aC0)] (iSr [.s (.zi 2 aT1),iCa 174 [aS0],.s (.mv aS0),.s (.ext 0 aS0),.s (.ext 1 aS1),.s (.mv aS1),iQm 3 1] (.seq (iSr [iSm 3,.s (.len aS0),iQo 4 (.bin .eql .int aS0 aC0)] (.cond aT4 (iSr [iQo 2 (.mv aC0)] .ret) .skip)) X1)))
def F228.b0:IR:=F228.g0 F228.b1
def F228.res:List RV:=[.t (.of 2)]
def F228:Fn:={ params:=[(.of 0)],res:=F228.res,body:=F228.b0,init:=in5 }
theorem F228.ok:fnA Tryz.prog Tryz.f228 [0,1,2,4,12]=some F228:=by kernel_rfl
abbrev F230.fr:=fr2
def F230.b0:IR:=(iSr [iQo 1 (.mv (.c (.str [])))] (iSr [iSm 0,iCa 265 [aS0],iQm 1 0] .ret))
def F230.res:List RV:=[.t (.of 1)]
def F230:Fn:={ params:=[(.of 0)],res:=F230.res,body:=F230.b0,init:=in2 }
theorem F230.ok:fnA Tryz.prog Tryz.f230 [0,2]=some F230:=by kernel_rfl
abbrev dh.fr:=fr9
def dh.b1:IR:=(iSr [iQo 2 (.mv aC1)] .ret)
def dh.b9:IR:=(.seq (.yu [] [(iSm 0,0,[]),(iSm 3,0,[]),(.s (.zo 1 aS1 aS0),0,[]),(.s (.load aS0),0,[]),(iSm 1,0,[]),(iSm 3,0,[]),(.s (.zo 1 aS1 aS0),0,[]),(.s (.load aS0),0,[]),(iQo 8 (.bin .gtr .int aS4 aS0),0,[])]) (.cond aT8 (iSr [iQo 2 (.mv aC1)] .ret) .skip))
def dh.g8 (X9:IR):IR:=(.seq (.seq (.yu [] [(iSm 0,0,[]),(iSm 3,0,[]),(.s (.zo 1 aS1 aS0),0,[]),(.s (.load aS0),0,[]),(iSm 1,0,[]),(iSm 3,0,[]),(.s (.zo 1 aS1 aS0),0,[]),(.s (.load aS0),0,[]),(iQo 7 (.bin .lss .int aS4 aS0),0,[])]) (.cond aT7 (iSr [iQo 2 (.mv (.c (I (-1))))] .ret) .skip)) X9)
def dh.b8:IR:=dh.g8 dh.b9
def dh.g7 (X8:IR):IR:=(.block 1 X8)
def dh.b7:IR:=dh.g7 dh.b8
def dh.b10:IR:=(.reg [iSm 3,.s (.bin .sub .int aS0 aC1),iQm 3 0])
def dh.g6 (X7 X10:IR):IR:=(.seq X7 X10)
def dh.b6:IR:=dh.g6 dh.b7 dh.b10
def dh.g5 (X6:IR):IR:=(.seq (iSr [iSm 3,iQo 6 (.bin .geq .int aS0 aC0)] (.cond aT6 .skip (.exit 0))) X6)
def dh.b5:IR:=dh.g5 dh.b6
def dh.g4 (X5:IR):IR:=(.loop X5)
def dh.b4:IR:=dh.g4 dh.b5
def dh.g3 (X4:IR):IR:=(.block 0 X4)
def dh.b3:IR:=dh.g3 dh.b4
def dh.b11:IR:=(iSr [iQo 2 (.mv aC0)] .ret)
def dh.g2 (X3 X11:IR):IR:=(.seq (iSr [iSm 0,.s (.len aS0),.s (.bin .sub .int aS0 aC1),iQm 3 0] X3) X11)
def dh.b2:IR:=dh.g2 dh.b3 dh.b11
def dh.g0 (X1 X2:IR):IR:=(iSr [iQo 2 (.mv aC0)] (.seq (iSr [iSm 0,.s (.len aS0),iSm 1,.s (.len aS0),iQo 4 (.bin .neq .int aS2 aS0)] (.cond aT4 (.seq (iSr [iSm 0,.s (.len aS0),iSm 1,.s (.len aS0),iQo 5 (.bin .lss .int aS2 aS0)] (.cond aT5 (iSr [iQo 2 (.mv (.c (I (-1))))] .ret) .skip)) X1) .skip)) X2))
def dh.b0:IR:=dh.g0 dh.b1 dh.b2
def dh.res:List RV:=[.t (.of 2)]
def dh:Fn:={ params:=[(.of 0),(.of 1)],res:=dh.res,body:=dh.b0,init:=in9 }
theorem dh.ok:fnA Tryz.prog Tryz.f237 [0,1,4,5,10,15,20,31,40]=some dh:=by kernel_rfl
abbrev fB.fr:=fr9
def fB.b6:IR:=(iSr [iSm 5,.s (.bin .mul .int aS0 jS),iSm 0,iSm 6,.s (.zo 1 aS1 aS0),.s (.load aS0),.s (.bin .add .int aS4 aS0),iQm 7 0] (iSr [iSm 4,iSm 6,iSm 7,iSm 1,.s (.bin .quo .int aS1 aS0),.s (.zo 1 aS4 aS3),.w .none none (.store 1 aS0 aS1)] (.reg [iSm 7,iSm 1,.s (.bin .rem .int aS1 aS0),iQm 5 0])))
def fB.g5 (X6:IR):IR:=(.block 1 X6)
def fB.b5:IR:=fB.g5 fB.b6
def fB.b7:IR:=(.reg [iSm 6,.s (.bin .sub .int aS0 aC1),iQm 6 0])
def fB.g4 (X5 X7:IR):IR:=(.seq X5 X7)
def fB.b4:IR:=fB.g4 fB.b5 fB.b7
def fB.g3 (X4:IR):IR:=(.seq (iSr [iSm 6,iQo 8 (.bin .geq .int aS0 aC0)] (.cond aT8 .skip (.exit 0))) X4)
def fB.b3:IR:=fB.g3 fB.b4
def fB.g2 (X3:IR):IR:=(.loop X3)
def fB.b2:IR:=fB.g2 fB.b3
def fB.g1 (X2:IR):IR:=(.block 0 X2)
def fB.b1:IR:=fB.g1 fB.b2
def fB.b8:IR:=(iSr [iSm 4,iCa 241 [aS0],iSm 5,iQm 2 1,iQm 3 0] .ret)
def fB.g0 (X1 X8:IR):IR:=(iSr [iQo 2 (.mv (.c .zf)),iQo 3 (.mv aC0)] (iSr [iSm 0,.s (.len aS0),.w .push none (.jr 1 8 [(I 0)] aS0 aS0),iQm 4 0] (iSr [iQo 5 (.mv aC0)] (.seq (iSr [iSm 0,.s (.len aS0),.s (.bin .sub .int aS0 aC1),iQm 6 0] X1) X8))))
def fB.b0:IR:=fB.g0 fB.b1 fB.b8
def fB.res:List RV:=[.t (.of 2),.t (.of 3)]
def fB:Fn:={ params:=[(.of 0),(.of 1)],res:=fB.res,body:=fB.b0,init:=in9 }
theorem fB.ok:fnA Tryz.prog Tryz.f240 [0,1,4,5,6,7,8,9,17]=some fB:=by kernel_rfl
abbrev rC.fr:=fr3
def rC.b5:IR:=(.reg [iSm 0,iSm 0,.s (.len aS0),.s (.bin .sub .int aS0 aC1),.s (.slice 1 aS3 none (some aS0) none),iQm 0 0])
def rC.g4 (X5:IR):IR:=(.block 1 X5)
def rC.b4:IR:=rC.g4 rC.b5
def rC.g3 (X4:IR):IR:=(.seq (iSr [iSm 0,.s (.len aS0),.s (.bin .gtr .int aS0 aC0),.s (.mv aS0),iPt 0 (.mv aT0),iPt 1 (.mv aT0),iPt 2 (.len aS0),iPt 3 (.bin .sub .int aS0 aC1),iPt 4 (.zo 1 aS3 aS0),iPt 5 (.load aS0),iPt 6 (.bin .eql .int aS0 aC0),iQo 2 (.pick aS7 aS0 (.c (.bool false)))] (.cond aT2 .skip (.exit 0))) X4)
def rC.b3:IR:=rC.g3 rC.b4
def rC.g2 (X3:IR):IR:=(.loop X3)
def rC.b2:IR:=rC.g2 rC.b3
def rC.g1 (X2:IR):IR:=(.block 0 X2)
def rC.b1:IR:=rC.g1 rC.b2
def rC.b6:IR:=(iSr [iSm 0,iQm 1 0] .ret)
def rC.g0 (X1 X6:IR):IR:=(iSr [iQo 1 (.mv (.c .zf))] (.seq X1 X6))
def rC.b0:IR:=rC.g0 rC.b1 rC.b6
def rC.res:List RV:=[.t (.of 1)]
def rC:Fn:={ params:=[(.of 0)],res:=rC.res,body:=rC.b0,init:=in3 }
theorem rC.ok:fnA Tryz.prog Tryz.f241 [0,2,14]=some rC:=by kernel_rfl
abbrev vk.fr:=fr24
def vk.b10:IR:=(iSr [iSm 0,iSm 1,iSm 2,iSm 8,iSm 4,iCa 280 [aS4,aS3,aS2,aS1,aS0],.s (.mv aS0),.s (.ext 0 aS0),.s (.ext 1 aS1),iQm 11 1,iQm 12 0] (iSr [iSm 12,iQm 6 0] (iSr [iSm 11,iSm 1,.s (.bin .sub .int aS1 aS0),iSm 2,iSm 11,.s (.bin .sub .int aS1 aS0),iQm 13 3,iQm 14 0] (iSr [iSm 7,.s (.bin .quo .int aS0 aC8),iQm 15 0] (iSr [iSm 13,iSm 14,iQo 23 (.bin .lss .int aS1 aS0)] (.cond aT23 (iSr [iSm 13,iSm 15,.s (.bin .geq .int aS1 aS0),iQm 5 0] (iSr [iSm 0,iSm 1,iSm 11,iSm 3,iSm 4,iCa 243 [aS4,aS3,aS2,aS1,aS0]] (.reg [iSm 11,.s (.bin .add .int aS0 aC1),iQm 1 0]))) (iSr [iSm 14,iSm 15,.s (.bin .geq .int aS1 aS0),iQm 5 0] (iSr [iSm 0,iSm 11,.s (.bin .add .int aS0 aC1),iSm 2,iSm 3,iSm 4,iCa 243 [aS5,aS3,aS2,aS1,aS0]] (.reg [iSm 11,iQm 2 0])))))))))
def vk.g9 (X10:IR):IR:=(.seq (.seq (.yu [] [(iSm 1,0,[]),(.s (.bin .gtr .int aS0 aC0),0,[]),(.s (.mv aS0),0,[]),(iPt 0 (.mv aT4),0,[]),(iPt 1 (.mv aT0),0,[]),(iPt 2 (.mv aT1),0,[]),(iPt 3 (.bin .sub .int aS0 aC1),0,[]),(iPt 4 (.zo 1 aS2 aS0),0,[]),(iPt 5 (.load aS0),0,[]),(iPt 6 (.mv aT0),0,[]),(iPt 7 (.mv aT8),0,[]),(iPt 8 (.zo 1 aS1 aS0),0,[]),(iPt 9 (.load aS0),0,[]),(.w .push (some (aS10,true)) (.call aS9 [aS4,aS0]),0,[]),(iPt 11 (.bin .lss .int aS0 aC0),0,[]),(iPt 12 (.not aS0),0,[]),(iQo 22 (.pick aS13 aS0 (.c (.bool false))),0,[])]) (.cond aT22 (iSr [iSm 0,iSm 1,iSm 2,iSm 8,iSm 4,iCa 279 [aS4,aS3,aS2,aS1,aS0],iQm 10 0] (iSr [iSm 10,iQm 1 0] (.exit 1))) .skip)) X10)
def vk.b9:IR:=vk.g9 vk.b10
def vk.g8 (X9:IR):IR:=(.seq (iSr [iSm 5,.s (.mv aS0),iPt 0 (.mv aT6),.s (.pick aS1 aS0 (.c (.bool false))),.s (.mv aS0),iPt 0 (.mv aT9),iPt 1 (.bin .eql .int aS0 aC1),iQo 20 (.pick aS2 aS0 (.c (.bool false)))] (.cond aT20 (iSr [iSm 0,iSm 1,iSm 2,iSm 4,iWl 21 (.call (.c (.fn 278 (.of 278) [])) [aS3,aS2,aS1,aS0])] (.cond aT21 .ret .skip)) .skip)) X9)
def vk.b8:IR:=vk.g8 vk.b9
def vk.g7 (X8:IR):IR:=(iSr [iSm 0,iSm 1,iSm 2,iSm 4,iCa 276 [aS3,aS2,aS1,aS0],.s (.mv aS0),.s (.ext 0 aS0),.s (.ext 1 aS1),iQm 8 1,iQm 9 0] (.seq (iSr [iSm 9,iQo 19 (.bin .eql .int aS0 aC2)] (.cond aT19 (iSr [iSm 0,iSm 1,iSm 2,iSm 4,iCa 277 [aS3,aS2,aS1,aS0]] (iSr [iSm 2,.s (.bin .sub .int aS0 aC1),iSm 8,iSm 1,.s (.bin .sub .int aS1 aS0),.s (.bin .sub .int aS3 aS0),iQm 8 0] (.reg [iQo 9 (.mv aC1)]))) .skip)) X8))
def vk.b7:IR:=vk.g7 vk.b8
def vk.g6 (X7:IR):IR:=(.seq (iSr [iSm 5,iQo 18 (.not aS0)] (.cond aT18 (iSr [iSm 0,iSm 1,iSm 2,iSm 4,iCa 275 [aS3,aS2,aS1,aS0]] (.reg [iSm 3,.s (.bin .sub .int aS0 aC1),iQm 3 0])) .skip)) X7)
def vk.b6:IR:=vk.g6 vk.b7
def vk.g5 (X6:IR):IR:=(.seq (iSr [iSm 3,iQo 17 (.bin .eql .int aS0 aC0)] (.cond aT17 (iSr [iSm 0,iSm 1,iSm 2,iSm 4,iCa 274 [aS3,aS2,aS1,aS0]] .ret) .skip)) X6)
def vk.b5:IR:=vk.g5 vk.b6
def vk.g4 (X5:IR):IR:=(iSr [iSm 2,iSm 1,.s (.bin .sub .int aS1 aS0),iQm 7 0] (.seq (iSr [iSm 7,iQo 16 (.bin .leq .int aS0 aC12)] (.cond aT16 (iSr [iSm 0,iSm 1,iSm 2,iSm 4,iCa 273 [aS3,aS2,aS1,aS0]] .ret) .skip)) X5))
def vk.b4:IR:=vk.g4 vk.b5
def vk.g3 (X4:IR):IR:=(.block 1 X4)
def vk.b3:IR:=vk.g3 vk.b4
def vk.g2 (X3:IR):IR:=(.loop X3)
def vk.b2:IR:=vk.g2 vk.b3
def vk.g1 (X2:IR):IR:=(.block 0 X2)
def vk.b1:IR:=vk.g1 vk.b2
def vk.g0 (X1:IR):IR:=(iSr [iQo 5 (.mv (.c (.bool true)))] (iSr [iQo 6 (.mv (.c (.bool true)))] X1))
def vk.b0:IR:=vk.g0 vk.b1
def vk.res:List RV:=[]
def vk:Fn:={ params:=[(.of 0),(.of 1),(.of 2),(.of 3),(.of 4)],res:=vk.res,body:=vk.b0,init:=in24 }
theorem vk.ok:fnA Tryz.prog Tryz.f243 [0,1,2,3,4,10,11,12,13,14,15,16,17,18,19,20,25,32,39,56,75,80,97,125]=some vk:=by kernel_rfl
abbrev fP.fr:=fr10
def fP.b1:IR:=(iSr [iQo 2 (.mv (.c (I (-1))))] .ret)
def fP.b5:IR:=(iSr [iQo 2 (.mv aC0)] .ret)
def fP.g4 (X5:IR):IR:=(.seq (iSr [iSm 0,iSm 1,iQo 9 (.bin .gtr .int aS1 aS0)] (.cond aT9 (iSr [iQo 2 (.mv aC1)] .ret) .skip)) X5)
def fP.b4:IR:=fP.g4 fP.b5
def fP.g3 (X4:IR):IR:=(.seq (iSr [iSm 0,iSm 1,iQo 8 (.bin .lss .int aS1 aS0)] (.cond aT8 (iSr [iQo 2 (.mv (.c (I (-1))))] .ret) .skip)) X4)
def fP.b3:IR:=fP.g3 fP.b4
def fP.g2 (X3:IR):IR:=(.seq (iSr [iQo 7 (.mv aT4)] (.cond aT7 (iSr [iQo 2 (.mv aC1)] .ret) .skip)) X3)
def fP.b2:IR:=fP.g2 fP.b3
def fP.g0 (X1 X2:IR):IR:=(iSr [iQo 2 (.mv aC0)] (iSr [iSm 0,iCa 250 [aS0],iQm 3 0] (iSr [iSm 1,iCa 250 [aS0],iQm 4 0] (.seq (iSr [iQo 5 (.mv aT3)] (.cond aT5 (.seq (iSr [iQo 6 (.mv aT4)] (.cond aT6 (iSr [iQo 2 (.mv aC0)] .ret) .skip)) X1) .skip)) X2))))
def fP.b0:IR:=fP.g0 fP.b1 fP.b2
def fP.res:List RV:=[.t (.of 2)]
def fP:Fn:={ params:=[(.of 0),(.of 1)],res:=fP.res,body:=fP.b0,init:=in10 }
theorem fP.ok:fnA Tryz.prog Tryz.f244 [0,1,4,5,6,11,12,13,16,19]=some fP:=by kernel_rfl
abbrev oP.fr:=fr2
def oP.b0:IR:=(iSr [iQo 1 (.mv (.c (.bool false)))] (iSr [iSm 0,iSm 0,.s (.bin .neq .int aS1 aS0),iQm 1 0] .ret))
def oP.res:List RV:=[.t (.of 1)]
def oP:Fn:={ params:=[(.of 0)],res:=oP.res,body:=oP.b0,init:=in2 }
theorem oP.ok:fnA Tryz.prog Tryz.f250 [0,2]=some oP:=by kernel_rfl
abbrev uj.fr:=fr8
def uj.b6:IR:=(iSr [iSm 5,iQm 3 0] (iSr [iSm 1,iSm 0,iSm 3,.s (.zo 1 aS1 aS0),.s (.load aS0),iWl 7 (.call aS4 [aS0])] (.cond aT7 (iSr [iSm 3,iQm 2 0] .ret) .skip)))
def uj.g5 (X6:IR):IR:=(.block 1 X6)
def uj.b5:IR:=uj.g5 uj.b6
def uj.b7:IR:=(.reg [.s (.bin .add .int aT5 aC1),iQm 5 0])
def uj.g4 (X5 X7:IR):IR:=(.seq X5 X7)
def uj.b4:IR:=uj.g4 uj.b5 uj.b7
def uj.g3 (X4:IR):IR:=(iSr [iQo 6 (.bin .lss .int aT5 aT4)] (.seq (.cond aT6 .skip (.exit 0)) X4))
def uj.b3:IR:=uj.g3 uj.b4
def uj.g2 (X3:IR):IR:=(.loop X3)
def uj.b2:IR:=uj.g2 uj.b3
def uj.g1 (X2:IR):IR:=(.block 0 X2)
def uj.b1:IR:=uj.g1 uj.b2
def uj.b8:IR:=(iSr [iQo 2 (.mv (.c (I (-1))))] .ret)
def uj.g0 (X1 X8:IR):IR:=(iSr [iQo 2 (.mv aC0)] (.seq (iSr [iSm 0,iQo 4 (.len aS0),iQo 5 (.mv aC0)] X1) X8))
def uj.b0:IR:=uj.g0 uj.b1 uj.b8
def uj.res:List RV:=[.t (.of 2)]
def uj:Fn:={ params:=[(.of 0),(.of 1)],res:=uj.res,body:=uj.b0,init:=in8 }
theorem uj.ok:fnA Tryz.prog Tryz.f259 [0,1,4,5,7,8,9,16]=some uj:=by kernel_rfl
abbrev F265.fr:=fr2
def F265.b0:IR:=(iSr [iQo 1 (.mv (.c (.str [])))] (iSr [iSm 0,iCa 286 [aS0,aC10],iQm 1 0] .ret))
def F265.res:List RV:=[.t (.of 1)]
def F265:Fn:={ params:=[(.of 0)],res:=F265.res,body:=F265.b0,init:=in2 }
theorem F265.ok:fnA Tryz.prog Tryz.f265 [0,2]=some F265:=by kernel_rfl
abbrev qw.fr:=fr8
def qw.b12:IR:=(.yu [] [(iSm 0,0,[]),(iSm 5,0,[]),(iSm 0,1,[]),(iSm 5,1,[]),(.s (.bin .sub .int aS0 aC1),1,[]),(iSm 0,0,[]),(iSm 5,0,[]),(.s (.bin .sub .int aS0 aC1),0,[]),(.s (.zo 1 aS2 aS0),0,[]),(.s (.load aS0),0,[]),(iSm 0,0,[]),(iSm 5,0,[]),(.s (.zo 1 aS1 aS0),0,[]),(.s (.load aS0),0,[]),(.s (.zo 1 aS13 aS12),0,[]),(.w .none none (.store 1 aS0 aS5),0,[]),(.s (.zo 1 aS12 aS10),0,[]),(.w .none none (.store 1 aS0 aS2),0,[])])
def qw.g11 (X12:IR):IR:=(.block 3 X12)
def qw.b11:IR:=qw.g11 qw.b12
def qw.b13:IR:=(.reg [iSm 5,.s (.bin .sub .int aS0 aC1),iQm 5 0])
def qw.g10 (X11 X13:IR):IR:=(.seq X11 X13)
def qw.b10:IR:=qw.g10 qw.b11 qw.b13
def qw.g9 (X10:IR):IR:=(.seq (.seq (.yu [] [(iSm 5,0,[]),(iSm 1,0,[]),(.s (.bin .gtr .int aS1 aS0),0,[]),(.s (.mv aS0),0,[]),(iPt 0 (.mv aT3),0,[]),(iPt 1 (.mv aT0),0,[]),(iPt 2 (.mv aT5),0,[]),(iPt 3 (.zo 1 aS1 aS0),0,[]),(iPt 4 (.load aS0),0,[]),(iPt 5 (.mv aT0),0,[]),(iPt 6 (.mv aT5),0,[]),(iPt 7 (.bin .sub .int aS0 aC1),0,[]),(iPt 8 (.zo 1 aS2 aS0),0,[]),(iPt 9 (.load aS0),0,[]),(.w .push (some (aS10,true)) (.call aS9 [aS5,aS0]),0,[]),(iPt 11 (.bin .lss .int aS0 aC0),0,[]),(iQo 7 (.pick aS12 aS0 (.c (.bool false))),0,[])]) (.cond aT7 .skip (.exit 2))) X10)
def qw.b9:IR:=qw.g9 qw.b10
def qw.g8 (X9:IR):IR:=(.loop X9)
def qw.b8:IR:=qw.g8 qw.b9
def qw.g7 (X8:IR):IR:=(.block 2 X8)
def qw.b7:IR:=qw.g7 qw.b8
def qw.g6 (X7:IR):IR:=(iSr [iSm 4,iQm 5 0] X7)
def qw.b6:IR:=qw.g6 qw.b7
def qw.g5 (X6:IR):IR:=(.block 1 X6)
def qw.b5:IR:=qw.g5 qw.b6
def qw.b14:IR:=(.reg [iSm 4,.s (.bin .add .int aS0 aC1),iQm 4 0])
def qw.g4 (X5 X14:IR):IR:=(.seq X5 X14)
def qw.b4:IR:=qw.g4 qw.b5 qw.b14
def qw.g3 (X4:IR):IR:=(.seq (iSr [iSm 4,iSm 2,iQo 6 (.bin .lss .int aS1 aS0)] (.cond aT6 .skip (.exit 0))) X4)
def qw.b3:IR:=qw.g3 qw.b4
def qw.g2 (X3:IR):IR:=(.loop X3)
def qw.b2:IR:=qw.g2 qw.b3
def qw.g1 (X2:IR):IR:=(.block 0 X2)
def qw.b1:IR:=qw.g1 qw.b2
def qw.g0 (X1:IR):IR:=(iSr [iSm 1,.s (.bin .add .int aS0 aC1),iQm 4 0] X1)
def qw.b0:IR:=qw.g0 qw.b1
def qw.res:List RV:=[]
def qw:Fn:={ params:=[(.of 0),(.of 1),(.of 2),(.of 3)],res:=qw.res,body:=qw.b0,init:=in8 }
theorem qw.ok:fnA Tryz.prog Tryz.f273 [0,1,2,3,8,9,14,34]=some qw:=by kernel_rfl
end
end Go.Ev
