import Derived.Test.YtkjkjpmahgeneaaGreatDoorIrA
import Derived.Test.YtkjkjpmahgeneaaGreatDoorEvC
import Derived.Test.YtkjkjpmahgeneaaGreatDoorProg
import Derived.KernelRfl
set_option linter.unusedSimpArgs false
set_option linter.unusedVariables false
namespace Go.Ev
open Go Go.Proofs
set_option maxRecDepth 100000
noncomputable section

abbrev F85.fr:=fr6
def F85.b1:IR:=(iSr [.s (.zn 0 aT2),.s (.load aS0),.s (.zn 0 aT3),.s (.load aS0),iCa 88 [aS2,aS0],iQm 4 0] .ret)
def F85.g0 (X1:IR):IR:=(iSr [iWl 2 (.box aT0),iWl 3 (.box aT1),iQo 4 (.mv (.c (.bool false)))] (.seq (iSr [.s (.zn 0 aT2),.s (.load aS0),.s (.zn 0 aT3),.s (.load aS0),iWl 5 (.call (.c (.fn 82 (.of 82) [])) [aS2,aS0])] (.cond aT5 (iSr [.s (.zn 1 aT2),.s (.load aS0),.s (.not aS0),.s (.mv aS0),iPt 0 (.zn 1 aT3),iPt 1 (.load aS0),.s (.pick aS2 aS0 (.c (.bool false))),iQm 4 0] .ret) .skip)) X1))
def F85.b0:IR:=F85.g0 F85.b1
def F85.res:List RV:=[.t (.of 4)]
def F85:Fn:={ params:=[(.of 0),(.of 1)],res:=F85.res,body:=F85.b0,init:=in6 }
theorem F85.ok:fnA Tryz.prog Tryz.f85 [0,1,2,3,4,9]=some F85:=by kernel_rfl
abbrev F88.fr:=fr6
def F88.b6:IR:=(.seq (.yt [] [(iSm 0,0,[]),(iSm 3,0,[]),(.s (.zu 1 aS1 aS0),0,[]),(.s (.load aS0),0,[]),(iSm 1,0,[]),(iSm 3,0,[]),(.s (.zu 1 aS1 aS0),0,[]),(.s (.load aS0),0,[]),(iQo 5 (.bin .neq .int aS4 aS0),0,[])]) (.cond aT5 (.seq (.yt [] [(iSm 0,0,[]),(iSm 3,0,[]),(.s (.zu 1 aS1 aS0),0,[]),(.s (.load aS0),0,[]),(iSm 1,0,[]),(iSm 3,0,[]),(.s (.zu 1 aS1 aS0),0,[]),(.s (.load aS0),0,[]),(.s (.bin .lss .int aS4 aS0),0,[]),(iQm 2 0,0,[])]) .ret) .skip))
def F88.g5 (X6:IR):IR:=(.block 1 X6)
def F88.b5:IR:=F88.g5 F88.b6
def F88.b7:IR:=(.reg [iSm 3,.s (.bin .add .int aS0 aC1),iQm 3 0])
def F88.g4 (X5 X7:IR):IR:=(.seq X5 X7)
def F88.b4:IR:=F88.g4 F88.b5 F88.b7
def F88.g3 (X4:IR):IR:=(.seq (iSr [iSm 3,iSm 0,.s (.len aS0),.s (.bin .lss .int aS2 aS0),.s (.mv aS0),iPt 0 (.mv aT3),iPt 1 (.mv aT1),iPt 2 (.len aS0),iPt 3 (.bin .lss .int aS2 aS0),iQo 4 (.pick aS4 aS0 (.c (.bool false)))] (.cond aT4 .skip (.exit 0))) X4)
def F88.b3:IR:=F88.g3 F88.b4
def F88.g2 (X3:IR):IR:=(.loop X3)
def F88.b2:IR:=F88.g2 F88.b3
def F88.g1 (X2:IR):IR:=(.block 0 X2)
def F88.b1:IR:=F88.g1 F88.b2
def F88.b8:IR:=(iSr [iSm 0,.s (.len aS0),iSm 1,.s (.len aS0),.s (.bin .lss .int aS2 aS0),iQm 2 0] .ret)
def F88.g0 (X1 X8:IR):IR:=(iSr [iQo 2 (.mv (.c (.bool false)))] (.seq (iSr [iQo 3 (.mv aC0)] X1) X8))
def F88.b0:IR:=F88.g0 F88.b1 F88.b8
def F88.res:List RV:=[.t (.of 2)]
def F88:Fn:={ params:=[(.of 0),(.of 1)],res:=F88.res,body:=F88.b0,init:=in6 }
theorem F88.ok:fnA Tryz.prog Tryz.f88 [0,1,4,5,15,26]=some F88:=by kernel_rfl
abbrev F89.fr:=fr1
def F89.b0:IR:=(iSr [iQo 0 (.mv (.c .zh))] (iSr [.w .push none (.yc 1 9 [(I 0)] [(0,1,aC2),(1,1,aC7),(2,1,aC6),(3,1,aC9),(4,1,aC5),(5,1,aC1),(6,1,aC4),(7,1,aC3),(8,1,aC8)]),iQm 0 0] .ret))
def F89.res:List RV:=[.t (.of 0)]
def F89:Fn:={ params:=[],res:=F89.res,body:=F89.b0,init:=in1 }
theorem F89.ok:fnA Tryz.prog Tryz.f89 [0]=some F89:=by kernel_rfl
abbrev F90.fr:=fr3
def F90.b0:IR:=(iSr [iWl 1 (.box aT0),iQo 2 (.mv (.c .fK))] (iSr [.s (.fn 159 (.of 159) [aT1]),iQm 2 0] .ret))
def F90.res:List RV:=[.t (.of 2)]
def F90:Fn:={ params:=[(.of 0)],res:=F90.res,body:=F90.b0,init:=in3 }
theorem F90.ok:fnA Tryz.prog Tryz.f90 [0,1,2]=some F90:=by kernel_rfl
abbrev F91.fr:=fr2
def F91.b0:IR:=(iSr [iSm 0,.s (.len aS0),iQm 1 0] (.reg [iSm 0,iSm 1,iSm 1,.s (.conv .u64 aS0),iCa 161 [aS0],iCa 160 [aS4,aC0,aS3,aS0]]))
def F91.res:List RV:=[]
def F91:Fn:={ params:=[(.of 0)],res:=F91.res,body:=F91.b0,init:=in2 }
theorem F91.ok:fnA Tryz.prog Tryz.f91 [0,2]=some F91:=by kernel_rfl
abbrev F92.fr:=fr20
def F92.b5:IR:=(iSr [iQo 8 (.mv aO)] (.reg [iWl 9 (.alloc [.zh,(.bool false)]),.w .none none (.store 2 aT9 aP)]))
def F92.b7:IR:=(.seq (.yt [] [(iSm 8,0,[]),(.s (.bin .gtr .int aS0 aC0),0,[]),(.s (.mv aS0),0,[]),(iPt 0 (.load aT2),0,[]),(iPt 1 (.mv aT8),0,[]),(iPt 2 (.bin .sub .int aS0 aC1),0,[]),(iPt 3 (.zu 2 aS2 aS0),0,[]),(iPt 4 (.zi 2 aS0),0,[]),(iPt 5 (.zi 2 aT9),0,[]),(.w .push (some (aS6,true)) (.call (.c (.fn 162 (.of 162) [])) [aS1,aS0]),0,[]),(iPt 7 (.bin .geq .int aS0 aC0),0,[]),(iQo 18 (.pick aS8 aS0 (.c (.bool false))),0,[])]) (.cond aT18 (iSr [.w .none none (.store 1 aT3 (.c .jm)),.w .none none (.store 1 aT4 (.c .zh)),.w .none none (.store 1 aT5 aC11)] .ret) .skip))
def F92.g6 (X7:IR):IR:=(.block 1 X7)
def F92.b6:IR:=F92.g6 F92.b7
def F92.g4 (X5 X6:IR):IR:=(.rf oI [(.of 16),(.of 17)] X5 X6)
def F92.b4:IR:=F92.g4 F92.b5 F92.b6
def F92.g3 (X4:IR):IR:=(.block 0 X4)
def F92.b3:IR:=F92.g3 F92.b4
def F92.b9:IR:=(iSr [iSm 10,iSm 11,.w .none none (.store 1 aT3 aS1),.w .none none (.store 1 aT4 aS0),.w .none none (.store 1 aT5 aC0)] .ret)
def F92.g8 (X9:IR):IR:=(iSr [.s (.load aT2),iSm 1,.s (.load aT2),.s (.len aS0),iCa 98 [aS3,aS2,aS0],.s (.mv aS0),.s (.ext 0 aS0),.s (.ext 1 aS1),.s (.ext 2 aS2),iQm 10 2,iQm 11 1,iQm 12 0] (.seq (iSr [iSm 12,.s (.not aS0),.s (.mv aS0),iPf 0 (.mv bW),iPf 1 (.mlen aS0),iPf 2 (.load aT2),iPf 3 (.len aS0),iPf 4 (.bin .neq .int aS2 aS0),iQo 19 (.pick aS5 (.c (.bool true)) aS0)] (.cond aT19 (iSr [.w .none none (.store 1 aT3 (.c .jm)),.w .none none (.store 1 aT4 (.c .zh)),.w .none none (.store 1 aT5 aC28)] .ret) .skip)) X9))
def F92.b8:IR:=F92.g8 F92.b9
def F92.g2 (X3 X8:IR):IR:=(.seq (iSr [.s (.load aT2),iWl 15 (.call (.c (.fn 90 (.of 90) [])) [aS0])] X3) X8)
def F92.b2:IR:=F92.g2 F92.b3 F92.b8
def F92.g1 (X2:IR):IR:=(.seq (iSr [.s (.load aT2),iSm 1,iCa 97 [aS1,aS0],iQm 7 0] (iSr [iSm 7,iQo 14 (.bin .neq .int aS0 aC0)] (.cond tN (iSr [iSm 7,.w .none none (.store 1 aT3 (.c .jm)),.w .none none (.store 1 aT4 (.c .zh)),.w .none none (.store 1 aT5 aS0)] .ret) .skip))) X2)
def F92.b1:IR:=F92.g1 F92.b2
def F92.g0 (X1:IR):IR:=(iSr [iWl 2 (.box aT0),iWl 3 (.alloc [.jm]),iWl 4 (.alloc [.zh]),iWl 5 (.alloc [(I 0)])] (.seq (.seq (.yt [] [(iSm 1,0,[]),(.s (.load aT2),1,[]),(.s (.len aS0),1,[]),(.s (.bin .eql .int aS0 aC0),1,[]),(.s (.load aT2),2,[]),(.s (.len aS0),2,[]),(.s (.bin .gtr .int aS0 zee),2,[]),(iCa 95 [aS6],0,[]),(iCa 96 [aS4,aC12],0,[]),(iCa 96 [aS2,aC5],0,[]),(.w .push none (.yc 1 3 [(I 0)] [(0,1,aS2),(1,1,aS1),(2,1,aS0)]),0,[]),(iCa 94 [aS0],0,[]),(iQm 6 0,0,[])]) (iSr [iSm 6,iQo 13 (.bin .neq .int aS0 aC0)] (.cond fF (iSr [iSm 6,.w .none none (.store 1 aT3 (.c .jm)),.w .none none (.store 1 aT4 (.c .zh)),.w .none none (.store 1 aT5 aS0)] .ret) .skip))) X1))
def F92.b0:IR:=F92.g0 F92.b1
def F92.res:List RV:=[.cell (.of 3) none,.cell (.of 4) none,.cell (.of 5) none]
def F92:Fn:={ params:=[(.of 0),(.of 1)],res:=F92.res,body:=F92.b0,init:=in20 }
theorem F92.ok:fnA Tryz.prog Tryz.f92 [0,1,2,4,5,6,7,8,9,10,11,12,13,27,33,36,37,38,50,68]=some F92:=by kernel_rfl
abbrev F93.fr:=fr7
def F93.b8:IR:=(.reg [iSm 2,iSm 0,iSm 3,.s (.zu 1 aS1 aS0),.s (.load aS0),.s (.zu 1 aS4 aS0),.w .none none (.store 1 aS0 (.c (.bool true)))])
def F93.g7 (X8:IR):IR:=(.seq (iSr [iSm 0,iSm 3,.s (.zu 1 aS1 aS0),.s (.load aS0),.s (.bin .lss .int aS0 aC0),.s (.mv aS0),iPf 0 (.mv aT0),iPf 1 (.mv aT3),iPf 2 (.zu 1 aS1 aS0),iPf 3 (.load aS0),iPf 4 (.mv aT0),iPf 5 (.len aS0),iPf 6 (.bin .geq .int aS2 aS0),.s (.pick aS7 (.c (.bool true)) aS0),.s (.mv aS0),iPf 0 (.mv aT2),iPf 1 (.mv aT0),iPf 2 (.mv aT3),iPf 3 (.zu 1 aS1 aS0),iPf 4 (.load aS0),iPf 5 (.zu 1 aS4 aS0),iPf 6 (.load aS0),iQo 6 (.pick aS7 (.c (.bool true)) aS0)] (.cond aT6 (iSr [iQo 1 (.mv aC14)] .ret) .skip)) X8)
def F93.b7:IR:=F93.g7 F93.b8
def F93.g6 (X7:IR):IR:=(.block 1 X7)
def F93.b6:IR:=F93.g6 F93.b7
def F93.b9:IR:=(.reg [iSm 3,.s (.bin .add .int aS0 aC1),iQm 3 0])
def F93.g5 (X6 X9:IR):IR:=(.seq X6 X9)
def F93.b5:IR:=F93.g5 F93.b6 F93.b9
def F93.g4 (X5:IR):IR:=(.seq (iSr [iSm 3,iSm 0,.s (.len aS0),iQo 5 (.bin .lss .int aS2 aS0)] (.cond aT5 .skip (.exit 0))) X5)
def F93.b4:IR:=F93.g4 F93.b5
def F93.g3 (X4:IR):IR:=(.loop X4)
def F93.b3:IR:=F93.g3 F93.b4
def F93.g2 (X3:IR):IR:=(.block 0 X3)
def F93.b2:IR:=F93.g2 F93.b3
def F93.b10:IR:=(iSr [iQo 1 (.mv aC0)] .ret)
def F93.g1 (X2 X10:IR):IR:=(iSr [iSm 0,.s (.len aS0),.w .push none (.gu 1 1 [(.bool false)] aS0 aS0),iQm 2 0] (.seq (iSr [iQo 3 (.mv aC0)] X2) X10))
def F93.b1:IR:=F93.g1 F93.b2 F93.b10
def F93.g0 (X1:IR):IR:=(iSr [iQo 1 (.mv aC0)] (.seq (iSr [iSm 0,.s (.len aS0),iQo 4 (.bin .gtr .int aS0 m9)] (.cond aT4 (iSr [iQo 1 (.mv aC5)] .ret) .skip)) X1))
def F93.b0:IR:=F93.g0 F93.b1
def F93.res:List RV:=[.t (.of 1)]
def F93:Fn:={ params:=[(.of 0)],res:=F93.res,body:=F93.b0,init:=in7 }
theorem F93.ok:fnA Tryz.prog Tryz.f93 [0,2,3,4,7,14,39]=some F93:=by kernel_rfl
abbrev F94.fr:=fr8
def F94.b6:IR:=(iSr [.s (.zu 1 aT3 aT5),.s (.load aS0),iQm 2 0] (iSr [iSm 2,iQo 7 (.bin .neq .int aS0 aC0)] (.cond aT7 (iSr [iSm 2,iQm 1 0] .ret) .skip)))
def F94.g5 (X6:IR):IR:=(.block 1 X6)
def F94.b5:IR:=F94.g5 F94.b6
def F94.b7:IR:=(.reg [.s (.bin .add .int aT5 aC1),iQm 5 0])
def F94.g4 (X5 X7:IR):IR:=(.seq X5 X7)
def F94.b4:IR:=F94.g4 F94.b5 F94.b7
def F94.g3 (X4:IR):IR:=(iSr [iQo 6 (.bin .lss .int aT5 aT4)] (.seq (.cond aT6 .skip (.exit 0)) X4))
def F94.b3:IR:=F94.g3 F94.b4
def F94.g2 (X3:IR):IR:=(.loop X3)
def F94.b2:IR:=F94.g2 F94.b3
def F94.g1 (X2:IR):IR:=(.block 0 X2)
def F94.b1:IR:=F94.g1 F94.b2
def F94.b8:IR:=(iSr [iQo 1 (.mv aC0)] .ret)
def F94.g0 (X1 X8:IR):IR:=(iSr [iQo 1 (.mv aC0)] (.seq (iSr [iQo 3 (.mv aT0),iQo 4 (.len aT3),iQo 5 (.mv aC0)] X1) X8))
def F94.b0:IR:=F94.g0 F94.b1 F94.b8
def F94.res:List RV:=[.t (.of 1)]
def F94:Fn:={ params:=[(.of 0)],res:=F94.res,body:=F94.b0,init:=in8 }
theorem F94.ok:fnA Tryz.prog Tryz.f94 [0,2,4,5,6,7,8,12]=some F94:=by kernel_rfl
abbrev F95.fr:=fr2
def F95.b0:IR:=(iSr [iQo 1 (.mv aC0)] (iSr [iSm 0,.s (.bin .lss .int aS0 aC0),.s (.mv aS0),iPf 0 (.mv aT0),iPf 1 (.bin .gtr .int aS0 m9),.s (.pick aS2 (.c (.bool true)) aS0),iCa 96 [aS0,aC3],iQm 1 0] .ret))
def F95.res:List RV:=[.t (.of 1)]
def F95:Fn:={ params:=[(.of 0)],res:=F95.res,body:=F95.b0,init:=in2 }
theorem F95.ok:fnA Tryz.prog Tryz.f95 [0,2]=some F95:=by kernel_rfl
abbrev F96.fr:=fr4
def F96.b1:IR:=(iSr [iQo 2 (.mv aC0)] .ret)
def F96.g0 (X1:IR):IR:=(iSr [iQo 2 (.mv aC0)] (.seq (iSr [iQo 3 (.mv aT0)] (.cond aT3 (iSr [iSm 1,iQm 2 0] .ret) .skip)) X1))
def F96.b0:IR:=F96.g0 F96.b1
def F96.res:List RV:=[.t (.of 2)]
def F96:Fn:={ params:=[(.of 0),(.of 1)],res:=F96.res,body:=F96.b0,init:=in4 }
theorem F96.ok:fnA Tryz.prog Tryz.f96 [0,1,4,5]=some F96:=by kernel_rfl
abbrev F97.fr:=fr10
def F97.b6:IR:=(iSr [.s (.zu 2 aT5 aT7),.s (.zi 2 aS0),iWl 3 (.alloc [.zh,(.bool false)]),.w .none none (.store 2 aT3 aS0)] (iSr [.s (.zi 2 aT3),iSm 1,iCa 56 [aS1,aS0],iQm 4 0] (iSr [iSm 4,iQo 9 (.bin .neq .int aS0 aC0)] (.cond aT9 (iSr [iSm 4,iQm 2 0] .ret) .skip))))
def F97.g5 (X6:IR):IR:=(.block 1 X6)
def F97.b5:IR:=F97.g5 F97.b6
def F97.b7:IR:=(.reg [.s (.bin .add .int aT7 aC1),iQm 7 0])
def F97.g4 (X5 X7:IR):IR:=(.seq X5 X7)
def F97.b4:IR:=F97.g4 F97.b5 F97.b7
def F97.g3 (X4:IR):IR:=(iSr [iQo 8 (.bin .lss .int aT7 aT6)] (.seq (.cond aT8 .skip (.exit 0)) X4))
def F97.b3:IR:=F97.g3 F97.b4
def F97.g2 (X3:IR):IR:=(.loop X3)
def F97.b2:IR:=F97.g2 F97.b3
def F97.g1 (X2:IR):IR:=(.block 0 X2)
def F97.b1:IR:=F97.g1 F97.b2
def F97.b8:IR:=(iSr [iQo 2 (.mv aC0)] .ret)
def F97.g0 (X1 X8:IR):IR:=(iSr [iQo 2 (.mv aC0)] (.seq (iSr [iQo 5 (.mv aT0),iQo 6 (.len aT5),iQo 7 (.mv aC0)] X1) X8))
def F97.b0:IR:=F97.g0 F97.b1 F97.b8
def F97.res:List RV:=[.t (.of 2)]
def F97:Fn:={ params:=[(.of 0),(.of 1)],res:=F97.res,body:=F97.b0,init:=in10 }
theorem F97.ok:fnA Tryz.prog Tryz.f97 [0,1,4,6,7,8,9,10,11,18]=some F97:=by kernel_rfl
abbrev F98.fr:=fr25
def F98.b3:IR:=(.reg [iWl 10 (.alloc [.zh,(.bool false)]),.w .none none (.store 2 bW aO)])
def F98.b20:IR:=(.seq (.yt [] [(.s (.load aT8),1,[]),(.s (.zi 2 fF),0,[]),(.s (.zi 2 fF),1,[]),(iCa 123 [aS1],0,[]),(.w .none none (.aT .str aS3 aS0 aS1),0,[])]) (.reg [iSm 11,.s (.zi 2 fF),.w .push none (.yc 2 1 [.zh,(.bool false)] [(0,2,aS0)]),.w .push none (.appq 2 32 aS2 aS0),iQm 11 0]))
def F98.g19 (X20:IR):IR:=(.seq (iSr [.s (.load aT8),.s (.mlen aS0),.s (.load aT3),iQo 24 (.bin .eql .int aS1 aS0)] (.cond aT24 (iSr [.w .none none (.store 1 aT4 (.c .jm)),.w .none none (.store 1 aT5 (.c .zh)),.w .none none (.store 1 aT6 (.c (.bool false)))] .ret) .skip)) X20)
def F98.b19:IR:=F98.g19 F98.b20
def F98.g18 (X19:IR):IR:=(iSr [.s (.zu 2 aT19 aT21),.s (.zi 2 aS0),iWl 12 (.alloc [.zh,(.bool false)]),.w .none none (.store 2 rE aS0)] (.seq (.yt [(.alloc [.zh,(.bool false)])] [(.s (.zi 2 rE),2,[]),(iSm 11,2,[]),(.s (.zu 2 aS0 aC0),2,[]),(.s (.zi 2 aS0),2,[]),(iCa 122 [aS3,aS0],0,[]),(iWl 13 (.alloc [.zh,(.bool false)]),0,[]),(.w .none none (.store 2 fF aS0),0,[])]) (.seq (iSr [.s (.load aT8),.s (.zi 2 fF),iWl 23 (.call (.c (.fn 121 (.of 121) [])) [aS1,aS0])] (.cond aT23 (.exit 5) .skip)) X19)))
def F98.b18:IR:=F98.g18 F98.b19
def F98.g17 (X18:IR):IR:=(.block 5 X18)
def F98.b17:IR:=F98.g17 F98.b18
def F98.b21:IR:=(.reg [.s (.bin .add .int aT21 aC1),iQm 21 0])
def F98.g16 (X17 X21:IR):IR:=(.seq X17 X21)
def F98.b16:IR:=F98.g16 F98.b17 F98.b21
def F98.g15 (X16:IR):IR:=(iSr [iQo 22 (.bin .lss .int aT21 aT20)] (.seq (.cond aT22 .skip (.exit 4)) X16))
def F98.b15:IR:=F98.g15 F98.b16
def F98.g14 (X15:IR):IR:=(.loop X15)
def F98.b14:IR:=F98.g14 F98.b15
def F98.g13 (X14:IR):IR:=(.block 4 X14)
def F98.b13:IR:=F98.g13 F98.b14
def F98.g12 (X13:IR):IR:=(iSr [iQo 19 (.load aT9),iQo 20 (.len aT19),iQo 21 (.mv aC0)] X13)
def F98.b12:IR:=F98.g12 F98.b13
def F98.g11 (X12:IR):IR:=(.block 3 X12)
def F98.b11:IR:=F98.g11 F98.b12
def F98.b22:IR:=(.reg [iSm 11,.s (.slice 2 aS0 (some aC1) none none),iQm 11 0])
def F98.g10 (X11 X22:IR):IR:=(.seq X11 X22)
def F98.b10:IR:=F98.g10 F98.b11 F98.b22
def F98.g9 (X10:IR):IR:=(.seq (iSr [iSm 11,.s (.len aS0),iQo 18 (.bin .gtr .int aS0 aC0)] (.cond aT18 .skip (.exit 2))) X10)
def F98.b9:IR:=F98.g9 F98.b10
def F98.g8 (X9:IR):IR:=(.loop X9)
def F98.b8:IR:=F98.g8 F98.b9
def F98.g7 (X8:IR):IR:=(.block 2 X8)
def F98.b7:IR:=F98.g7 F98.b8
def F98.g6 (X7:IR):IR:=(iSr [.s (.load aT9),.s (.zi 2 bW),.w .push none (.yc 2 1 [.zh,(.bool false)] [(0,2,aS0)]),.w .push none (.appq 2 32 aS2 aS0),.w .none none (.store 1 aT9 aS0)] (.seq (.yt [.fP] [(.s (.zi 2 aT7),2,[]),(.s (.zi 2 aT7),2,[]),(iCa 123 [aS1],0,[]),(.w .push none .fP,0,[]),(.w .none none (.aT .str aS0 aS1 aS2),0,[]),(.s (.mv aS0),0,[]),(.w .none none (.store 1 aT8 aS0),0,[])]) (iSr [.s (.zi 2 aT7),.w .push none (.yc 2 1 [.zh,(.bool false)] [(0,2,aS0)]),iQm 11 0] X7)))
def F98.b6:IR:=F98.g6 F98.b7
def F98.g5 (X6:IR):IR:=(.seq (iSr [.s (.load aT8),.s (.zi 2 bW),iWl 17 (.call (.c (.fn 121 (.of 121) [])) [aS1,aS0])] (.cond aP (.exit 1) .skip)) X6)
def F98.b5:IR:=F98.g5 F98.b6
def F98.g4 (X5:IR):IR:=(.block 1 X5)
def F98.b4:IR:=F98.g4 F98.b5
def F98.g2 (X3 X4:IR):IR:=(.rf tN [(.of 15),(.of 16)] X3 X4)
def F98.b2:IR:=F98.g2 F98.b3 F98.b4
def F98.g1 (X2:IR):IR:=(.block 0 X2)
def F98.b1:IR:=F98.g1 F98.b2
def F98.b23:IR:=(.seq (.yt [] [(.s (.load aT8),0,[]),(.s (.load aT9),1,[]),(.w .none none (.store 1 aT4 aS1),0,[]),(.w .none none (.store 1 aT5 aS0),0,[]),(.w .none none (.store 1 aT6 (.c (.bool true))),0,[])]) .ret)
def F98.g0 (X1 X23:IR):IR:=(iSr [iWl 3 (.box aT2),iWl 4 (.alloc [.jm]),iWl 5 (.alloc [.zh]),iWl 6 (.alloc [(.bool false)])] (iSr [iSm 1,iCa 163 [aS0],iWl 7 (.alloc [.zh,(.bool false)]),.w .none none (.store 2 aT7 aS0)] (.seq (.yt [.fP,(.alloc [.jm])] [(.s (.zi 2 aT7),4,[]),(.s (.zi 2 aT7),4,[]),(iCa 123 [aS1],0,[]),(.w .push none .fP,0,[]),(.w .none none (.aT .str aS0 aS1 aS2),0,[]),(.s (.mv aS0),1,[]),(iWl 8 (.alloc [.jm]),0,[]),(.w .none none (.store 1 aT8 aS0),0,[])]) (iSr [iWl 9 (.alloc [.zh])] (.seq (iSr [iSm 0,iWl 14 (.call (.c (.fn 90 (.of 90) [])) [aS0])] X1) X23)))))
def F98.b0:IR:=F98.g0 F98.b1 F98.b23
def F98.res:List RV:=[.cell (.of 4) none,.cell (.of 5) none,.cell (.of 6) none]
def F98:Fn:={ params:=[(.of 0),(.of 1),(.of 2)],res:=F98.res,body:=F98.b0,init:=in25 }
theorem F98.ok:fnA Tryz.prog Tryz.f98 [0,1,2,5,6,7,8,9,10,11,13,14,16,17,26,27,28,31,45,48,49,50,51,61,65]=some F98:=by kernel_rfl
abbrev F99.fr:=fr12
def F99.b5:IR:=(iSr [.s (.entry aT6),.s (.ext 1 aS0),iWl 3 (.alloc [.zh,(.bool false)]),.w .none none (.store 2 aT3 aS0)] (.reg [iSm 2,.s (.zi 2 aT3),.w .push none (.yc 2 1 [.zh,(.bool false)] [(0,2,aS0)]),.w .push none (.appq 2 32 aS2 aS0),iQm 2 0]))
def F99.g4 (X5:IR):IR:=(.block 1 X5)
def F99.b4:IR:=F99.g4 F99.b5
def F99.g3 (X4:IR):IR:=(iSr [.w .push none (.next aT6),iQo 7 (.ext 0 aS0)] (.seq (.cond aT7 .skip (.exit 0)) X4))
def F99.b3:IR:=F99.g3 F99.b4
def F99.g2 (X3:IR):IR:=(.loop X3)
def F99.b2:IR:=F99.g2 F99.b3
def F99.g1 (X2:IR):IR:=(.block 0 X2)
def F99.b1:IR:=F99.g1 F99.b2
def F99.b12:IR:=(iSr [.s (.zu 2 aT8 bW),.s (.zi 2 aS0),iWl 5 (.alloc [.zh,(.bool false)]),.w .none none (.store 2 aT5 aS0)] (.reg [iSm 4,.s (.zi 2 aT5),.w .push none (.yc 2 1 [.zh,(.bool false)] [(0,2,aS0)]),.w .push none (.appq 2 32 aS2 aS0),iQm 4 0]))
def F99.g11 (X12:IR):IR:=(.block 3 X12)
def F99.b11:IR:=F99.g11 F99.b12
def F99.b13:IR:=(.reg [.s (.bin .add .int bW aC1),iQm 10 0])
def F99.g10 (X11 X13:IR):IR:=(.seq X11 X13)
def F99.b10:IR:=F99.g10 F99.b11 F99.b13
def F99.g9 (X10:IR):IR:=(iSr [iQo 11 (.bin .lss .int bW aT9)] (.seq (.cond ni .skip (.exit 2)) X10))
def F99.b9:IR:=F99.g9 F99.b10
def F99.g8 (X9:IR):IR:=(.loop X9)
def F99.b8:IR:=F99.g8 F99.b9
def F99.g7 (X8:IR):IR:=(.block 2 X8)
def F99.b7:IR:=F99.g7 F99.b8
def F99.b14:IR:=(iSr [iSm 4,iQm 1 0] .ret)
def F99.g6 (X7 X14:IR):IR:=(iSr [iSm 2,.w .push none (.call (.c (.fn 164 (.of 164) [])) [aS0,(.c (.fn 162 (.of 162) []))])] (iSr [iQo 4 (.mv (.c .zh))] (.seq (iSr [iQo 8 (.mv aT2),iQo 9 (.len aT8),iQo 10 (.mv aC0)] X7) X14)))
def F99.b6:IR:=F99.g6 F99.b7 F99.b14
def F99.g0 (X1 X6:IR):IR:=(iSr [iQo 1 (.mv (.c .zh))] (iSr [iQo 2 (.mv (.c .zh))] (.seq (iSr [iSm 0,iWl 6 (.range aS0)] X1) X6)))
def F99.b0:IR:=F99.g0 F99.b1 F99.b6
def F99.res:List RV:=[.t (.of 1)]
def F99:Fn:={ params:=[(.of 0)],res:=F99.res,body:=F99.b0,init:=in12 }
theorem F99.ok:fnA Tryz.prog Tryz.f99 [0,2,3,5,6,8,10,12,21,22,23,24]=some F99:=by kernel_rfl
abbrev uh.fr:=fr6
def uh.b6:IR:=(iSr [iSm 0,iSm 3,.s (.zu 1 aS1 aS0),.s (.load aS0),iSm 1,iWl 5 (.call (.c (.fn 82 (.of 82) [])) [aS1,aS0])] (.cond aT5 (iSr [iQo 2 (.mv (.c (.bool true)))] .ret) .skip))
def uh.g5 (X6:IR):IR:=(.block 1 X6)
def uh.b5:IR:=uh.g5 uh.b6
def uh.b7:IR:=(.reg [iSm 3,.s (.bin .add .int aS0 aC1),iQm 3 0])
def uh.g4 (X5 X7:IR):IR:=(.seq X5 X7)
def uh.b4:IR:=uh.g4 uh.b5 uh.b7
def uh.g3 (X4:IR):IR:=(.seq (iSr [iSm 3,iSm 0,.s (.len aS0),iQo 4 (.bin .lss .int aS2 aS0)] (.cond aT4 .skip (.exit 0))) X4)
def uh.b3:IR:=uh.g3 uh.b4
def uh.g2 (X3:IR):IR:=(.loop X3)
def uh.b2:IR:=uh.g2 uh.b3
def uh.g1 (X2:IR):IR:=(.block 0 X2)
def uh.b1:IR:=uh.g1 uh.b2
def uh.b8:IR:=(iSr [iQo 2 (.mv (.c (.bool false)))] .ret)
def uh.g0 (X1 X8:IR):IR:=(iSr [iQo 2 (.mv (.c (.bool false)))] (.seq (iSr [iQo 3 (.mv aC0)] X1) X8))
def uh.b0:IR:=uh.g0 uh.b1 uh.b8
def uh.res:List RV:=[.t (.of 2)]
def uh:Fn:={ params:=[(.of 0),(.of 1)],res:=uh.res,body:=uh.b0,init:=in6 }
theorem uh.ok:fnA Tryz.prog Tryz.f102 [0,1,4,5,9,17]=some uh:=by kernel_rfl
abbrev jy.fr:=fr11
def jy.b7:IR:=(iSr [iSm 8,iQm 4 0] (iSr [.s (.zi 2 aT1),iSm 4,iCa 168 [aS1,aS0],iQm 5 0] (iSr [iSm 5,iQo 10 (.bin .neq .int aS0 aC0)] (.cond bW (iSr [iSm 5,iQm 2 0] .ret) .skip))))
def jy.g6 (X7:IR):IR:=(.block 1 X7)
def jy.b6:IR:=jy.g6 jy.b7
def jy.b8:IR:=(.reg [.s (.bin .add .int aT8 aC1),iQm 8 0])
def jy.g5 (X6 X8:IR):IR:=(.seq X6 X8)
def jy.b5:IR:=jy.g5 jy.b6 jy.b8
def jy.g4 (X5:IR):IR:=(iSr [iQo 9 (.bin .lss .int aT8 aT7)] (.seq (.cond aT9 .skip (.exit 0)) X5))
def jy.b4:IR:=jy.g4 jy.b5
def jy.g3 (X4:IR):IR:=(.loop X4)
def jy.b3:IR:=jy.g3 jy.b4
def jy.g2 (X3:IR):IR:=(.block 0 X3)
def jy.b2:IR:=jy.g2 jy.b3
def jy.b9:IR:=(iSr [iQo 2 (.mv aC0)] .ret)
def jy.g1 (X2 X9:IR):IR:=(.seq (iSr [.s (.zn 1 aT1),.s (.load aS0),iQo 7 (.len aS0),iQo 8 (.mv aC0)] X2) X9)
def jy.b1:IR:=jy.g1 jy.b2 jy.b9
def jy.g0 (X1:IR):IR:=(iSr [iWl 1 (.box aT0),iQo 2 (.mv aC0)] (.seq (.seq (.yt [] [(.s (.zn 0 aT1),0,[]),(.s (.load aS0),0,[]),(.s (.zn 1 aT1),2,[]),(.s (.load aS0),2,[]),(.s (.len aS0),2,[]),(.s (.bin .gtr .int aS0 zrm),2,[]),(.w .push none (.yc 1 1 [(I 0)] [(0,1,aS4)]),0,[]),(iCa 166 [aC1,m9,aS0],0,[]),(iCa 167 [aS2,aC5],0,[]),(.w .push none (.yc 1 2 [(I 0)] [(0,1,aS1),(1,1,aS0)]),0,[]),(iCa 165 [aS0],0,[]),(iQm 3 0,0,[])]) (iSr [iSm 3,iQo 6 (.bin .neq .int aS0 aC0)] (.cond aT6 (iSr [iSm 3,iQm 2 0] .ret) .skip))) X1))
def jy.b0:IR:=jy.g0 jy.b1
def jy.res:List RV:=[.t (.of 2)]
def jy:Fn:={ params:=[(.of 0)],res:=jy.res,body:=jy.b0,init:=in11 }
theorem jy.ok:fnA Tryz.prog Tryz.f103 [0,1,2,3,4,5,18,22,23,24,30]=some jy:=by kernel_rfl
abbrev yj.fr:=fr9
def yj.b6:IR:=(iSr [.s (.zu 1 aT5 aT7),.s (.load aS0),iQm 4 0] (.yt [] [(.s (.load aT3),1,[]),(iSm 4,0,[]),(.s (.build [.zh,(.bool false)] [(0,1,aS0)]),0,[]),(iCa 123 [aS0],0,[]),(.w .none none (.aT .str aS3 aS0 (.c (.bool true))),0,[])]))
def yj.g5 (X6:IR):IR:=(.block 1 X6)
def yj.b5:IR:=yj.g5 yj.b6
def yj.b7:IR:=(.reg [.s (.bin .add .int aT7 aC1),iQm 7 0])
def yj.g4 (X5 X7:IR):IR:=(.seq X5 X7)
def yj.b4:IR:=yj.g4 yj.b5 yj.b7
def yj.g3 (X4:IR):IR:=(iSr [iQo 8 (.bin .lss .int aT7 aT6)] (.seq (.cond aT8 .skip (.exit 0)) X4))
def yj.b3:IR:=yj.g3 yj.b4
def yj.g2 (X3:IR):IR:=(.loop X3)
def yj.b2:IR:=yj.g2 yj.b3
def yj.g1 (X2:IR):IR:=(.block 0 X2)
def yj.b1:IR:=yj.g1 yj.b2
def yj.b8:IR:=(iSr [.s (.fn 169 (.of 169) [aT3]),iQm 2 0] .ret)
def yj.g0 (X1 X8:IR):IR:=(iSr [iWl 1 (.box aT0),iQo 2 (.mv (.c .fK))] (iSr [.w .push none .fP,iWl 3 (.alloc [.jm]),.w .none none (.store 1 aT3 aS0)] (.seq (iSr [.s (.zn 1 aT1),iQo 5 (.load aS0),iQo 6 (.len aT5),iQo 7 (.mv aC0)] X1) X8)))
def yj.b0:IR:=yj.g0 yj.b1 yj.b8
def yj.res:List RV:=[.t (.of 2)]
def yj:Fn:={ params:=[(.of 0)],res:=yj.res,body:=yj.b0,init:=in9 }
theorem yj.ok:fnA Tryz.prog Tryz.f104 [0,1,2,3,5,8,9,10,11]=some yj:=by kernel_rfl
abbrev zf.fr:=fr23
def zf.b14:IR:=(iSr [.s (.zu 1 aP aT19),.s (.load aS0),iQm 10 0] (iSr [.s (.load aT6),.s (.load aT3),iSm 10,.w .push none (.call aS2 [aS1,aS0]),iQo 21 (.not aS0)] (.cond aT21 (.exit 1) .skip)))
def zf.g13 (X14:IR):IR:=(.block 3 X14)
def zf.b13:IR:=zf.g13 zf.b14
def zf.b15:IR:=(.reg [.s (.bin .add .int aT19 aC1),iQm 19 0])
def zf.g12 (X13 X15:IR):IR:=(.seq X13 X15)
def zf.b12:IR:=zf.g12 zf.b13 zf.b15
def zf.g11 (X12:IR):IR:=(iSr [iQo 20 (.bin .lss .int aT19 aT18)] (.seq (.cond aT20 .skip (.exit 2)) X12))
def zf.b11:IR:=zf.g11 zf.b12
def zf.g10 (X11:IR):IR:=(.loop X11)
def zf.b10:IR:=zf.g10 zf.b11
def zf.g9 (X10:IR):IR:=(.block 2 X10)
def zf.b9:IR:=zf.g9 zf.b10
def zf.b16:IR:=(iSr [.s (.load aT4),iSm 9,.s (.zu 1 aS1 aS0),.w .none none (.store 1 aS0 (.c (.bool true)))] (iSr [.s (.load aT7),iSm 0,.s (.bin .add .int aS0 aC1),.w .push none (.call aS2 [aS0]),iQm 11 0] (iSr [.s (.load aT4),iSm 9,.s (.zu 1 aS1 aS0),.w .none none (.store 1 aS0 (.c (.bool false)))] (iSr [iSm 11,iQo 22 (.not aS0)] (.cond aT22 (iSr [iQo 8 (.mv (.c (.bool false)))] .ret) .skip)))))
def zf.g8 (X9 X16:IR):IR:=(iSr [.s (.load aT3),iSm 0,iSm 9,.s (.zu 1 aS2 aS1),.w .none none (.store 1 aS0 aS1)] (.seq (iSr [.s (.load aT5),iSm 0,.s (.zu 1 aS1 aS0),iQo 17 (.load aS0),iQo 18 (.len aP),iQo 19 (.mv aC0)] X9) X16))
def zf.b8:IR:=zf.g8 zf.b9 zf.b16
def zf.g7 (X8:IR):IR:=(iSr [iSm 14,iQm 9 0] (.seq (iSr [.s (.load aT4),iSm 9,.s (.zu 1 aS1 aS0),iQo 16 (.load aS0)] (.cond aO (.exit 1) .skip)) X8))
def zf.b7:IR:=zf.g7 zf.b8
def zf.g6 (X7:IR):IR:=(.block 1 X7)
def zf.b6:IR:=zf.g6 zf.b7
def zf.b17:IR:=(.reg [.s (.bin .add .int tN aC1),iQm 14 0])
def zf.g5 (X6 X17:IR):IR:=(.seq X6 X17)
def zf.b5:IR:=zf.g5 zf.b6 zf.b17
def zf.g4 (X5:IR):IR:=(iSr [iQo 15 (.bin .lss .int tN fF)] (.seq (.cond oI .skip (.exit 0)) X5))
def zf.b4:IR:=zf.g4 zf.b5
def zf.g3 (X4:IR):IR:=(.loop X4)
def zf.b3:IR:=zf.g3 zf.b4
def zf.g2 (X3:IR):IR:=(.block 0 X3)
def zf.b2:IR:=zf.g2 zf.b3
def zf.b18:IR:=(iSr [iQo 8 (.mv (.c (.bool true)))] .ret)
def zf.g1 (X2 X18:IR):IR:=(.seq .skip (.seq (iSr [.s (.zn 0 aT1),iQo 13 (.load aS0),iQo 14 (.mv aC0)] X2) X18))
def zf.b1:IR:=zf.g1 zf.b2 zf.b18
def zf.g0 (X1:IR):IR:=(iSr [iQo 8 (.mv (.c (.bool false)))] (.seq (iSr [iSm 0,.s (.zn 0 aT1),.s (.load aS0),iQo 12 (.bin .eql .int aS2 aS0)] (.cond rE (.seq (.yt [] [(.s (.load aT2),2,[]),(.s (.load aT3),0,[]),(iCa 106 [aS0],0,[]),(.s (.build [.zh,(.bool false)] [(0,1,aS0)]),0,[]),(.w .push none (.yc 2 1 [.zh,(.bool false)] [(0,2,aS0)]),0,[]),(.w .push none (.appq 2 32 aS4 aS0),0,[]),(.w .none none (.store 1 aT2 aS0),0,[])]) (iSr [.s (.load aT2),.s (.len aS0),.s (.bin .leq .int aS0 zee),iQm 8 0] .ret)) .skip)) X1))
def zf.b0:IR:=zf.g0 zf.b1
def zf.res:List RV:=[.t (.of 8)]
def zf:Fn:={ params:=[(.of 0),(.of 1),(.of 2),(.of 3),(.of 4),(.of 5),(.of 6),(.of 7)],res:=zf.res,body:=zf.b0,init:=in23 }
theorem zf.ok:fnA Tryz.prog Tryz.f105 [0,1,2,3,4,5,6,7,9,10,12,13,17,28,29,30,35,43,44,45,46,53,66]=some zf:=by kernel_rfl
abbrev sO.fr:=fr3
def sO.b1:IR:=(iSr [.w .push none (.yc 1 0 [(I 0)] []),iSm 0,.w .push none (.app 1 8 aS1 aS0),iQm 1 0] .ret)
def sO.g0 (X1:IR):IR:=(iSr [iQo 1 (.mv (.c .zh))] (.seq (iSr [iSm 0,iQo 2 (.bin .eql (.nil .sl) aS0 (.c .zh))] (.cond aT2 (iSr [iQo 1 (.mv (.c .zh))] .ret) .skip)) X1))
def sO.b0:IR:=sO.g0 sO.b1
def sO.res:List RV:=[.t (.of 1)]
def sO:Fn:={ params:=[(.of 0)],res:=sO.res,body:=sO.b0,init:=in3 }
theorem sO.ok:fnA Tryz.prog Tryz.f106 [0,2,4]=some sO:=by kernel_rfl
abbrev F110.fr:=fr2
def F110.b0:IR:=(iSr [iWl 1 (.alloc [(I 0),.zh])] (iSr [iSm 0,.s (.build [(I 0),.zh] [(0,1,aS0)]),.w .none none (.store 2 aT1 aS0)] .ret))
def F110.res:List RV:=[.cell (.of 1) (some 2)]
def F110:Fn:={ params:=[(.of 0)],res:=F110.res,body:=F110.b0,init:=in2 }
theorem F110.ok:fnA Tryz.prog Tryz.f110 [0,2]=some F110:=by kernel_rfl
abbrev rP.fr:=fr14
def rP.b3:IR:=(iSr [iSm 6,iSm 8,.s (.bin .eql .bool aS1 aS0),iQm 12 0] (.cond rE (iSr [iSm 6,iSm 7,iSm 9,iCa 176 [aS1,aS0],iCa 175 [aS3,aS0],.w .none none (.store 2 aT4 aS0)] .ret) (iSr [iSm 7,iSm 9,iCa 177 [aS1,aS0],.s (.bin .geq .int aS0 aC0),iQm 13 0] (.cond fF (iSr [iSm 6,iSm 7,iSm 9,iCa 178 [aS1,aS0],iCa 175 [aS3,aS0],.w .none none (.store 2 aT4 aS0)] .ret) .skip))))
def rP.g2 (X3:IR):IR:=(.block 0 X3)
def rP.b2:IR:=rP.g2 rP.b3
def rP.b4:IR:=(iSr [iSm 8,iSm 9,iSm 7,iCa 178 [aS1,aS0],iCa 175 [aS3,aS0],.w .none none (.store 2 aT4 aS0)] .ret)
def rP.g1 (X2 X4:IR):IR:=(iSr [.s (.zi 2 aT2),iCa 174 [aS0],.s (.mv aS0),.s (.ext 0 aS0),.s (.ext 1 aS1),iQm 6 1,iQm 7 0] (iSr [.s (.zi 2 aT3),iCa 174 [aS0],.s (.mv aS0),.s (.ext 0 aS0),.s (.ext 1 aS1),iQm 8 1,iQm 9 0] (.seq X2 X4)))
def rP.b1:IR:=rP.g1 rP.b2 rP.b4
def rP.g0 (X1:IR):IR:=(iSr [iWl 2 (.box aT0),iWl 3 (.box aT1),iWl 4 (.alloc [(I 0),.zh])] (.seq (iSr [.s (.zn 1 aT2),.s (.load aS0),.s (.bin .eql (.nil .sl) aS0 (.c .zh)),.s (.mv aS0),iPt 0 (.zn 1 aT3),iPt 1 (.load aS0),iPt 2 (.bin .eql (.nil .sl) aS0 (.c .zh)),iQo 10 (.pick aS3 aS0 (.c (.bool false)))] (.cond bW (iSr [.s (.zn 0 aT2),.s (.load aS0),.s (.zn 0 aT3),.s (.load aS0),.s (.bin .add .int aS2 aS0),iQm 5 0] (iSr [iSm 5,.s (.zn 0 aT2),.s (.load aS0),.s (.bin .gtr .int aS2 aS0),.s (.zn 0 aT3),.s (.load aS0),.s (.bin .gtr .int aS0 aC0),iQo 11 (.bin .eql .bool aS3 aS0)] (.cond ni (iSr [iSm 5,.s (.build [(I 0),.zh] [(0,1,aS0)]),.w .none none (.store 2 aT4 aS0)] .ret) .skip))) .skip)) X1))
def rP.b0:IR:=rP.g0 rP.b1
def rP.res:List RV:=[.cell (.of 4) (some 2)]
def rP:Fn:={ params:=[(.of 0),(.of 1)],res:=rP.res,body:=rP.b0,init:=in14 }
theorem rP.ok:fnA Tryz.prog Tryz.f111 [0,1,2,3,4,5,6,7,8,9,17,30,43,52]=some rP:=by kernel_rfl
abbrev bK.fr:=fr12
def bK.b7:IR:=(.yt [] [(.s (.zi 2 aT4),1,[]),(iSm 6,0,[]),(iCa 110 [aS0],0,[]),(iCa 179 [aS2,aS0],0,[]),(.w .none none (.store 2 aT4 aS0),0,[])])
def bK.g6 (X7:IR):IR:=(iSr [.s (.zu 1 aT7 aT9),.s (.load aS0),iQm 5 0] (iSr [iSm 1,iQm 6 0] (.seq (iSr [.s (.zn 1 aT2),.s (.load aS0),.s (.mv aS0),iPt 0 (.mv aT5),iPt 1 (.bin .rem .int aS0 aC2),iPt 2 (.bin .eql .int aS0 aC1),iQo 11 (.pick aS3 aS0 (.c (.bool false)))] (.cond ni (.reg [iSm 1,.s (.bin .rem .int aS0 aC2),iQm 6 0]) .skip)) X7)))
def bK.b6:IR:=bK.g6 bK.b7
def bK.g5 (X6:IR):IR:=(.block 1 X6)
def bK.b5:IR:=bK.g5 bK.b6
def bK.b8:IR:=(.reg [.s (.bin .add .int aT9 aC1),iQm 9 0])
def bK.g4 (X5 X8:IR):IR:=(.seq X5 X8)
def bK.b4:IR:=bK.g4 bK.b5 bK.b8
def bK.g3 (X4:IR):IR:=(iSr [iQo 10 (.bin .lss .int aT9 aT8)] (.seq (.cond bW .skip (.exit 0)) X4))
def bK.b3:IR:=bK.g3 bK.b4
def bK.g2 (X3:IR):IR:=(.loop X3)
def bK.b2:IR:=bK.g2 bK.b3
def bK.g1 (X2:IR):IR:=(.block 0 X2)
def bK.b1:IR:=bK.g1 bK.b2
def bK.b9:IR:=(iSr [.s (.zi 2 aT4),.w .none none (.store 2 aT3 aS0)] .ret)
def bK.g0 (X1 X9:IR):IR:=(iSr [iWl 2 (.box aT0),iWl 3 (.alloc [(I 0),.zh])] (iSr [iCa 110 [aC1],iWl 4 (.alloc [(I 0),.zh]),.w .none none (.store 2 aT4 aS0)] (.seq (iSr [.s (.zi 2 aT2),iWl 7 (.call (.c (.fn 138 (.of 138) [])) [aS0]),iQo 8 (.len aT7),iQo 9 (.mv aC0)] X1) X9)))
def bK.b0:IR:=bK.g0 bK.b1 bK.b9
def bK.res:List RV:=[.cell (.of 3) (some 2)]
def bK:Fn:={ params:=[(.of 0),(.of 1)],res:=bK.res,body:=bK.b0,init:=in12 }
theorem bK.ok:fnA Tryz.prog Tryz.f112 [0,1,2,4,5,7,8,11,12,13,14,24]=some bK:=by kernel_rfl
abbrev F113.fr:=fr3
def F113.b0:IR:=(iSr [iWl 1 (.box aT0),iWl 2 (.alloc [(I 0),.zh,(I 0),.zh])] (.seq (.yt [] [(.s (.zi 2 aT1),1,[]),(iCa 110 [aC1],0,[]),(.s (.build [(I 0),.zh,(I 0),.zh] [(0,2,aS1),(2,2,aS0)]),0,[]),(.w .none none (.store 4 aT2 aS0),0,[])]) .ret))
def F113.res:List RV:=[.cell (.of 2) (some 4)]
def F113:Fn:={ params:=[(.of 0)],res:=F113.res,body:=F113.b0,init:=in3 }
theorem F113.ok:fnA Tryz.prog Tryz.f113 [0,1,2]=some F113:=by kernel_rfl
abbrev oJ.fr:=fr7
def oJ.b1:IR:=(iSr [.s (.zi 2 aT2),.s (.zi 2 aT3),iCa 182 [aS1,aS0],.s (.mv aS0),.s (.ext 0 aS0),.s (.ext 1 aS1),iWl 5 (.alloc [(I 0),.zh]),.w .push none (.alloc [(I 0),.zh]),.w .none none (.store 2 aT5 aS2),.w .none none (.store 2 aS0 aS1)] (iSr [.s (.zi 2 aT5),.w .none none (.store 2 aT4 aS0)] .ret))
def oJ.g0 (X1:IR):IR:=(iSr [iWl 2 (.box aT0),iWl 3 (.box aT1),iWl 4 (.alloc [(I 0),.zh])] (.seq (iSr [.s (.zi 2 aT3),iCa 180 [aS0],iQo 6 (.bin .lss .int aS0 aC0)] (.cond aT6 (.yt [] [(.s (.zi 2 aT2),0,[]),(.s (.zi 2 aT3),1,[]),(iCa 181 [aS1],0,[]),(iCa 181 [aS1],0,[]),(.w .none none (.store 2 aT2 aS1),0,[]),(.w .none none (.store 2 aT3 aS0),0,[])]) .skip)) X1))
def oJ.b0:IR:=oJ.g0 oJ.b1
def oJ.res:List RV:=[.cell (.of 4) (some 2)]
def oJ:Fn:={ params:=[(.of 0),(.of 1)],res:=oJ.res,body:=oJ.b0,init:=in7 }
theorem oJ.ok:fnA Tryz.prog Tryz.f114 [0,1,2,3,4,5,9]=some oJ:=by kernel_rfl
abbrev F115.fr:=fr3
def F115.b0:IR:=(iSr [iWl 1 (.box aT0),iQo 2 (.mv (.c (.bool false)))] (iSr [.s (.zn 0 aT1),.s (.zi 2 aS0),iCa 183 [aS0],.s (.mv aS0),iPf 0 (.zn 2 aT1),iPf 1 (.zi 2 aS0),.w .push (some (aS2,false)) (.call (.c (.fn 183 (.of 183) [])) [aS0]),.s (.pick aS3 (.c (.bool true)) aS0),iQm 2 0] .ret))
def F115.res:List RV:=[.t (.of 2)]
def F115:Fn:={ params:=[(.of 0)],res:=F115.res,body:=F115.b0,init:=in3 }
theorem F115.ok:fnA Tryz.prog Tryz.f115 [0,1,2]=some F115:=by kernel_rfl
abbrev oK.fr:=fr4
def oK.b1:IR:=(.seq (.yt [] [(.s (.zn 0 aT1),0,[]),(.s (.zi 2 aS0),0,[]),(.s (.zn 2 aT1),1,[]),(.s (.zi 2 aS0),1,[]),(iCa 185 [aS2],0,[]),(.s (.bin .add .str aS0 (.c (.str [47]))),1,[]),(iCa 185 [aS2],0,[]),(.s (.bin .add .str aS1 aS0),0,[]),(iQm 2 0,0,[])]) .ret)
def oK.g0 (X1:IR):IR:=(iSr [iWl 1 (.box aT0),iQo 2 (.mv (.c (.str [])))] (.seq (iSr [.s (.zi 4 aT1),iWl 3 (.call (.c (.fn 184 (.of 184) [])) [aS0])] (.cond aT3 (iSr [.s (.zn 0 aT1),.s (.zi 2 aS0),iCa 185 [aS0],iQm 2 0] .ret) .skip)) X1))
def oK.b0:IR:=oK.g0 oK.b1
def oK.res:List RV:=[.t (.of 2)]
def oK:Fn:={ params:=[(.of 0)],res:=oK.res,body:=oK.b0,init:=in4 }
theorem oK.ok:fnA Tryz.prog Tryz.f116 [0,1,2,4]=some oK:=by kernel_rfl
abbrev zk.fr:=fr18
def zk.b7:IR:=(iSr [.s (.entry oI),.s (.ext 1 aS0),iWl 12 (.alloc [.zh,(.bool false)]),.w .none none (.store 2 rE aS0)] (iSr [iSm 7,.s (.zi 2 rE),iCa 121 [aS1,aS0],iQo 17 (.not aS0)] (.cond aP (.seq (.yt [] [(.s (.zi 2 aT6),0,[]),(iQo 3 (.mv (.c .jm)),0,[]),(.w .none none (.store 2 aT4 aS0),0,[]),(iQo 5 (.mv aC28),0,[])]) .ret) .skip)))
def zk.g6 (X7:IR):IR:=(.block 1 X7)
def zk.b6:IR:=zk.g6 zk.b7
def zk.g5 (X6:IR):IR:=(iSr [.w .push none (.next oI),iQo 16 (.ext 0 aS0)] (.seq (.cond aO .skip (.exit 0)) X6))
def zk.b5:IR:=zk.g5 zk.b6
def zk.g4 (X5:IR):IR:=(.loop X5)
def zk.b4:IR:=zk.g4 zk.b5
def zk.g3 (X4:IR):IR:=(.block 0 X4)
def zk.b3:IR:=zk.g3 zk.b4
def zk.b8:IR:=(iSr [iSm 8,iSm 11,.s (.tV 1 2 aT6 aC0),.w .none none (.store 1 aS0 aS2),.s (.tV 1 2 aT6 aC1),.w .none none (.store 1 aS0 aS2)] (.seq (.yt [] [(iSm 10,0,[]),(.s (.zi 2 aT6),0,[]),(iQm 3 1,0,[]),(.w .none none (.store 2 aT4 aS0),0,[]),(iQo 5 (.mv aC0),0,[])]) .ret))
def zk.g2 (X3 X8:IR):IR:=(.seq (iSr [iSm 10,iWl 15 (.range aS0)] X3) X8)
def zk.b2:IR:=zk.g2 zk.b3 zk.b8
def zk.g1 (X2:IR):IR:=(iSr [iSm 1,iSm 2,iCa 92 [aS1,aS0],.s (.mv aS0),.s (.ext 0 aS0),.s (.ext 1 aS1),.s (.ext 2 aS2),iQm 10 2,iQm 11 1,iQm 9 0] (.seq (iSr [iSm 9,iQo 14 (.bin .neq .int aS0 aC0)] (.cond tN (.seq (.yt [] [(.s (.zi 2 aT6),0,[]),(iSm 9,1,[]),(iQo 3 (.mv (.c .jm)),0,[]),(.w .none none (.store 2 aT4 aS1),0,[]),(iQm 5 0,0,[])]) .ret) .skip)) X2))
def zk.b1:IR:=zk.g1 zk.b2
def zk.g0 (X1:IR):IR:=(iSr [iQo 3 (.mv (.c .jm)),iWl 4 (.alloc [.zh,.zh]),iQo 5 (.mv aC0)] (iSr [iWl 6 (.alloc [.zh,.zh])] (iSr [iSm 0,iSm 2,iCa 92 [aS1,aS0],.s (.mv aS0),.s (.ext 0 aS0),.s (.ext 1 aS1),.s (.ext 2 aS2),iQm 7 2,iQm 8 1,iQm 9 0] (.seq (iSr [iSm 9,iQo 13 (.bin .neq .int aS0 aC0)] (.cond fF (.seq (.yt [] [(.s (.zi 2 aT6),0,[]),(iSm 9,1,[]),(iQo 3 (.mv (.c .jm)),0,[]),(.w .none none (.store 2 aT4 aS1),0,[]),(iQm 5 0,0,[])]) .ret) .skip)) X1))))
def zk.b0:IR:=zk.g0 zk.b1
def zk.res:List RV:=[.t (.of 3),.cell (.of 4) (some 2),.t (.of 5)]
def zk:Fn:={ params:=[(.of 0),(.of 1),(.of 2)],res:=zk.res,body:=zk.b0,init:=in18 }
theorem zk.ok:fnA Tryz.prog Tryz.f120 [0,1,2,6,7,8,9,10,11,12,13,14,16,25,36,40,42,48]=some zk:=by kernel_rfl
abbrev eF.fr:=fr5
def eF.b0:IR:=(iSr [iWl 2 (.box aT1),iQo 3 (.mv (.c (.bool false)))] (iSr [iSm 0,.s (.zi 2 aT2),iCa 123 [aS0],.s (.look .str (.agg [.zh,(.bool false)]) true aS2 aS0),.s (.mv aS0),.s (.ext 0 aS0),.s (.ext 1 aS1),.w .push none (.alloc [.zh,(.bool false)]),.w .none none (.store 2 aS0 aS2),iQm 4 1] (iSr [iSm 4,iQm 3 0] .ret)))
def eF.res:List RV:=[.t (.of 3)]
def eF:Fn:={ params:=[(.of 0),(.of 1)],res:=eF.res,body:=eF.b0,init:=in5 }
theorem eF.ok:fnA Tryz.prog Tryz.f121 [0,1,3,4,6]=some eF:=by kernel_rfl
abbrev uy.fr:=fr12
def uy.b6:IR:=(iSr [iSm 10,.s (.zu 1 aT8 bW),.s (.load aS0),iQm 6 2,iQm 7 0] (.yt [] [(.s (.zn 0 aT5),0,[]),(.s (.load aS0),0,[]),(iSm 6,0,[]),(.s (.zn 0 aT2),0,[]),(.s (.load aS0),0,[]),(iSm 7,0,[]),(.s (.zu 1 aS1 aS0),0,[]),(.s (.load aS0),0,[]),(.s (.zu 1 aS6 aS5),0,[]),(.w .none none (.store 1 aS0 aS1),0,[])]))
def uy.g5 (X6:IR):IR:=(.block 1 X6)
def uy.b5:IR:=uy.g5 uy.b6
def uy.b7:IR:=(.reg [.s (.bin .add .int bW aC1),iQm 10 0])
def uy.g4 (X5 X7:IR):IR:=(.seq X5 X7)
def uy.b4:IR:=uy.g4 uy.b5 uy.b7
def uy.g3 (X4:IR):IR:=(iSr [iQo 11 (.bin .lss .int bW aT9)] (.seq (.cond ni .skip (.exit 0)) X4))
def uy.b3:IR:=uy.g3 uy.b4
def uy.g2 (X3:IR):IR:=(.loop X3)
def uy.b2:IR:=uy.g2 uy.b3
def uy.g1 (X2:IR):IR:=(.block 0 X2)
def uy.b1:IR:=uy.g1 uy.b2
def uy.b8:IR:=(iSr [.s (.zi 2 aT5),.w .none none (.store 2 aT4 aS0)] .ret)
def uy.g0 (X1 X8:IR):IR:=(iSr [iWl 2 (.box aT0),iWl 3 (.box aT1),iWl 4 (.alloc [.zh,(.bool false)])] (.seq (.yt [(.alloc [.zh,(.bool false)])] [(.s (.zn 0 aT3),2,[]),(.s (.load aS0),2,[]),(.s (.len aS0),2,[(.gu 1 8 [(I 0)] aS0 aS0)]),(.s (.zn 1 aT2),2,[]),(.s (.load aS0),2,[]),(.s (.zn 1 aT3),2,[]),(.s (.load aS0),2,[]),(.s (.bin .neq .bool aS2 aS0),2,[]),(.w .push none (.gu 1 8 [(I 0)] aS5 aS5),0,[]),(.s (.build [.zh,(.bool false)] [(0,1,aS0),(1,1,aS1)]),1,[]),(iWl 5 (.alloc [.zh,(.bool false)]),0,[]),(.w .none none (.store 2 aT5 aS0),0,[])]) (.seq (iSr [.s (.zn 0 aT3),iQo 8 (.load aS0),iQo 9 (.len aT8),iQo 10 (.mv aC0)] X1) X8)))
def uy.b0:IR:=uy.g0 uy.b1 uy.b8
def uy.res:List RV:=[.cell (.of 4) (some 2)]
def uy:Fn:={ params:=[(.of 0),(.of 1)],res:=uy.res,body:=uy.b0,init:=in12 }
theorem uy.ok:fnA Tryz.prog Tryz.f122 [0,1,2,3,4,5,6,7,19,20,21,22]=some uy:=by kernel_rfl
abbrev gq.fr:=fr10
def gq.b6:IR:=(iSr [.s (.zu 1 aT5 aT7),.s (.load aS0),iQm 4 0] (.reg [iSm 3,iSm 4,.s (.conv .u8 aS0),.w .push none (.yc 1 1 [(.int .u8 0)] [(0,1,aS0)]),.w .push none (.app 1 1 aS3 aS0),iQm 3 0]))
def gq.g5 (X6:IR):IR:=(.block 1 X6)
def gq.b5:IR:=gq.g5 gq.b6
def gq.b7:IR:=(.reg [.s (.bin .add .int aT7 aC1),iQm 7 0])
def gq.g4 (X5 X7:IR):IR:=(.seq X5 X7)
def gq.b4:IR:=gq.g4 gq.b5 gq.b7
def gq.g3 (X4:IR):IR:=(iSr [iQo 8 (.bin .lss .int aT7 aT6)] (.seq (.cond aT8 .skip (.exit 0)) X4))
def gq.b3:IR:=gq.g3 gq.b4
def gq.g2 (X3:IR):IR:=(.loop X3)
def gq.b2:IR:=gq.g2 gq.b3
def gq.g1 (X2:IR):IR:=(.block 0 X2)
def gq.b1:IR:=gq.g1 gq.b2
def gq.b9:IR:=(iSr [iSm 3,.s (.b2s aS0),iQm 2 0] .ret)
def gq.g8 (X9:IR):IR:=(.seq (iSr [.s (.zn 1 aT1),iQo 9 (.load aS0)] (.cond aT9 (.reg [iSm 3,.w .push none (.yc 1 1 [(.int .u8 0)] [(0,1,(.c (.int .u8 1)))]),.w .push none (.app 1 1 aS1 aS0),iQm 3 0]) .skip)) X9)
def gq.b8:IR:=gq.g8 gq.b9
def gq.g0 (X1 X8:IR):IR:=(iSr [iWl 1 (.box aT0),iQo 2 (.mv (.c (.str [])))] (iSr [.s (.zn 0 aT1),.s (.load aS0),.s (.len aS0),.s (.bin .add .int aS0 aC1),.w .push none (.gu 1 1 [(.int .u8 0)] aC0 aS0),iQm 3 0] (.seq (iSr [.s (.zn 0 aT1),iQo 5 (.load aS0),iQo 6 (.len aT5),iQo 7 (.mv aC0)] X1) X8)))
def gq.b0:IR:=gq.g0 gq.b1 gq.b8
def gq.res:List RV:=[.t (.of 2)]
def gq:Fn:={ params:=[(.of 0)],res:=gq.res,body:=gq.b0,init:=in10 }
theorem gq.ok:fnA Tryz.prog Tryz.f123 [0,1,2,3,5,12,13,14,15,25]=some gq:=by kernel_rfl
abbrev yh.fr:=fr10
def yh.b6:IR:=(iSr [iSm 8,.s (.zu 1 aT6 aT8),.s (.load aS0),iQm 4 2,iQm 5 0] (.reg [.s (.zn 0 aT3),.s (.load aS0),iSm 5,iSm 4,.s (.zu 1 aS2 aS1),.w .none none (.store 1 aS0 aS1)]))
def yh.g5 (X6:IR):IR:=(.block 1 X6)
def yh.b5:IR:=yh.g5 yh.b6
def yh.b7:IR:=(.reg [.s (.bin .add .int aT8 aC1),iQm 8 0])
def yh.g4 (X5 X7:IR):IR:=(.seq X5 X7)
def yh.b4:IR:=yh.g4 yh.b5 yh.b7
def yh.g3 (X4:IR):IR:=(iSr [iQo 9 (.bin .lss .int aT8 aT7)] (.seq (.cond aT9 .skip (.exit 0)) X4))
def yh.b3:IR:=yh.g3 yh.b4
def yh.g2 (X3:IR):IR:=(.loop X3)
def yh.b2:IR:=yh.g2 yh.b3
def yh.g1 (X2:IR):IR:=(.block 0 X2)
def yh.b1:IR:=yh.g1 yh.b2
def yh.b8:IR:=(iSr [.s (.zi 2 aT3),.w .none none (.store 2 aT2 aS0)] .ret)
def yh.g0 (X1 X8:IR):IR:=(iSr [iWl 1 (.box aT0),iWl 2 (.alloc [.zh,(.bool false)])] (.seq (.yt [(.alloc [.zh,(.bool false)])] [(.s (.zn 0 aT1),2,[]),(.s (.load aS0),2,[]),(.s (.len aS0),2,[(.gu 1 8 [(I 0)] aS0 aS0)]),(.s (.zn 1 aT1),2,[]),(.s (.load aS0),2,[]),(.w .push none (.gu 1 8 [(I 0)] aS2 aS2),0,[]),(.s (.build [.zh,(.bool false)] [(0,1,aS0),(1,1,aS1)]),1,[]),(iWl 3 (.alloc [.zh,(.bool false)]),0,[]),(.w .none none (.store 2 aT3 aS0),0,[])]) (.seq (iSr [.s (.zn 0 aT1),iQo 6 (.load aS0),iQo 7 (.len aT6),iQo 8 (.mv aC0)] X1) X8)))
def yh.b0:IR:=yh.g0 yh.b1 yh.b8
def yh.res:List RV:=[.cell (.of 2) (some 2)]
def yh:Fn:={ params:=[(.of 0)],res:=yh.res,body:=yh.b0,init:=in10 }
theorem yh.ok:fnA Tryz.prog Tryz.f124 [0,1,2,3,4,5,14,15,16,17]=some yh:=by kernel_rfl
abbrev F134.fr:=fr2
def F134.b0:IR:=(iSr [iQo 1 (.mv aC0)] (iSr [iSm 0,.s (.len aS0),.s (.bin .gtr .int aS0 m9),iCa 96 [aS0,aC5],iSm 0,.w .push none (.call (.c (.fn 136 (.of 136) [])) [aS0,(.c (.fn 137 (.of 137) []))]),iCa 96 [aS0,aC3],.w .push none (.yc 1 2 [(I 0)] [(0,1,aS3),(1,1,aS0)]),iCa 94 [aS0],iQm 1 0] .ret))
def F134.res:List RV:=[.t (.of 1)]
def F134:Fn:={ params:=[(.of 0)],res:=F134.res,body:=F134.b0,init:=in2 }
theorem F134.ok:fnA Tryz.prog Tryz.f134 [0,2]=some F134:=by kernel_rfl
abbrev bM.fr:=fr12
def bM.b7:IR:=(.reg [iSm 4,.s (.zn 0 aT2),.s (.load aS0),iSm 5,.s (.zu 1 aS1 aS0),.s (.load aS0),iSm 6,.s (.zu 1 aS6 aS1),.w .none none (.store 1 aS0 aS1)])
def bM.g6 (X7:IR):IR:=(iSr [iSm 9,.s (.zu 1 aT7 aT9),.s (.load aS0),iQm 5 2,iQm 6 0] (.seq (iSr [.s (.zn 1 aT2),iQo 11 (.load aS0)] (.cond ni (.reg [iSm 1,.s (.len aS0),.s (.bin .add .int aS0 aC1),iSm 6,.s (.bin .sub .int aS1 aS0),iQm 6 0]) .skip)) X7))
def bM.b6:IR:=bM.g6 bM.b7
def bM.g5 (X6:IR):IR:=(.block 1 X6)
def bM.b5:IR:=bM.g5 bM.b6
def bM.b8:IR:=(.reg [.s (.bin .add .int aT9 aC1),iQm 9 0])
def bM.g4 (X5 X8:IR):IR:=(.seq X5 X8)
def bM.b4:IR:=bM.g4 bM.b5 bM.b8
def bM.g3 (X4:IR):IR:=(iSr [iQo 10 (.bin .lss .int aT9 aT8)] (.seq (.cond bW .skip (.exit 0)) X4))
def bM.b3:IR:=bM.g3 bM.b4
def bM.g2 (X3:IR):IR:=(.loop X3)
def bM.b2:IR:=bM.g2 bM.b3
def bM.g1 (X2:IR):IR:=(.block 0 X2)
def bM.b1:IR:=bM.g1 bM.b2
def bM.b9:IR:=(iSr [iSm 4,iQm 3 0] .ret)
def bM.g0 (X1 X9:IR):IR:=(iSr [iWl 2 (.box aT0),iQo 3 (.mv (.c .zh))] (iSr [iSm 1,.s (.len aS0),.w .push none (.gu 1 8 [(I 0)] aS0 aS0),iQm 4 0] (.seq (iSr [iQo 7 (.mv aT1),iQo 8 (.len aT7),iQo 9 (.mv aC0)] X1) X9)))
def bM.b0:IR:=bM.g0 bM.b1 bM.b9
def bM.res:List RV:=[.t (.of 3)]
def bM:Fn:={ params:=[(.of 0),(.of 1)],res:=bM.res,body:=bM.b0,init:=in12 }
theorem bM.ok:fnA Tryz.prog Tryz.f135 [0,1,2,4,5,6,7,11,12,13,14,19]=some bM:=by kernel_rfl
abbrev aY.fr:=fr3
def aY.b0:IR:=(iSr [iQo 2 (.mv (.c (.bool false)))] (iSr [iSm 0,iSm 1,iCa 197 [aS1,aS0],.s (.bin .geq .int aS0 aC0),iQm 2 0] .ret))
def aY.res:List RV:=[.t (.of 2)]
def aY:Fn:={ params:=[(.of 0),(.of 1)],res:=aY.res,body:=aY.b0,init:=in3 }
theorem aY.ok:fnA Tryz.prog Tryz.f136 [0,1,4]=some aY:=by kernel_rfl
abbrev F137.fr:=fr2
def F137.b0:IR:=(iSr [iQo 1 (.mv (.c (.bool false)))] (iSr [iSm 0,.s (.bin .lss .int aS0 (.c (I (-999999999)))),.s (.mv aS0),iPf 0 (.mv aT0),iPf 1 (.bin .gtr .int aS0 m8),.s (.pick aS2 (.c (.bool true)) aS0),iQm 1 0] .ret))
def F137.res:List RV:=[.t (.of 1)]
def F137:Fn:={ params:=[(.of 0)],res:=F137.res,body:=F137.b0,init:=in2 }
theorem F137.ok:fnA Tryz.prog Tryz.f137 [0,2]=some F137:=by kernel_rfl
abbrev qc.fr:=fr13
def qc.b12:IR:=(iSr [iSm 4,iSm 7,.s (.zu 1 aS1 aS0),.w .none none (.store 1 aS0 (.c (.bool true)))] (.reg [iSm 6,.s (.bin .add .int aS0 aC1),iQm 6 0]))
def qc.g11 (X12:IR):IR:=(.block 3 X12)
def qc.b11:IR:=qc.g11 qc.b12
def qc.b13:IR:=(.reg [.s (.zn 0 aT1),.s (.load aS0),iSm 7,.s (.zu 1 aS1 aS0),.s (.load aS0),iQm 7 0])
def qc.g10 (X11 X13:IR):IR:=(.seq X11 X13)
def qc.b10:IR:=qc.g10 qc.b11 qc.b13
def qc.g9 (X10:IR):IR:=(.seq (iSr [iSm 4,iSm 7,.s (.zu 1 aS1 aS0),.s (.load aS0),iQo 11 (.not aS0)] (.cond ni .skip (.exit 2))) X10)
def qc.b9:IR:=qc.g9 qc.b10
def qc.g8 (X9:IR):IR:=(.loop X9)
def qc.b8:IR:=qc.g8 qc.b9
def qc.g7 (X8:IR):IR:=(.block 2 X8)
def qc.b7:IR:=qc.g7 qc.b8
def qc.b14:IR:=(iSr [iSm 6,iQo 12 (.bin .gtr .int aS0 aC0)] (.cond rE (.reg [iSm 3,iSm 6,.w .push none (.yc 1 1 [(I 0)] [(0,1,aS0)]),.w .push none (.app 1 8 aS2 aS0),iQm 3 0]) .skip))
def qc.g6 (X7 X14:IR):IR:=(iSr [iSm 9,iQm 5 0] (iSr [iQo 6 (.mv aC0)] (.seq (iSr [iSm 5,iQm 7 0] X7) X14)))
def qc.b6:IR:=qc.g6 qc.b7 qc.b14
def qc.g5 (X6:IR):IR:=(.block 1 X6)
def qc.b5:IR:=qc.g5 qc.b6
def qc.b15:IR:=(.reg [.s (.bin .add .int aT9 aC1),iQm 9 0])
def qc.g4 (X5 X15:IR):IR:=(.seq X5 X15)
def qc.b4:IR:=qc.g4 qc.b5 qc.b15
def qc.g3 (X4:IR):IR:=(iSr [iQo 10 (.bin .lss .int aT9 aT8)] (.seq (.cond bW .skip (.exit 0)) X4))
def qc.b3:IR:=qc.g3 qc.b4
def qc.g2 (X3:IR):IR:=(.loop X3)
def qc.b2:IR:=qc.g2 qc.b3
def qc.g1 (X2:IR):IR:=(.block 0 X2)
def qc.b1:IR:=qc.g1 qc.b2
def qc.b16:IR:=(iSr [iSm 3,iQm 2 0] .ret)
def qc.g0 (X1 X16:IR):IR:=(iSr [iWl 1 (.box aT0),iQo 2 (.mv (.c .zh))] (iSr [iQo 3 (.mv (.c .zh))] (iSr [.s (.zn 0 aT1),.s (.load aS0),.s (.len aS0),.w .push none (.gu 1 1 [(.bool false)] aS0 aS0),iQm 4 0] (.seq (iSr [.s (.zn 0 aT1),.s (.load aS0),iQo 8 (.len aS0),iQo 9 (.mv aC0)] X1) X16))))
def qc.b0:IR:=qc.g0 qc.b1 qc.b16
def qc.res:List RV:=[.t (.of 2)]
def qc:Fn:={ params:=[(.of 0)],res:=qc.res,body:=qc.b0,init:=in13 }
theorem qc.ok:fnA Tryz.prog Tryz.f138 [0,1,2,3,4,5,6,7,14,15,16,23,35]=some qc:=by kernel_rfl
abbrev fH.fr:=fr4
def fH.b5:IR:=(.yt [] [(iSm 1,0,[]),(iSm 0,0,[]),(iSm 1,0,[]),(.s (.bin .rem .int aS1 aS0),0,[]),(iQm 0 3,0,[]),(iQm 1 0,0,[])])
def fH.g4 (X5:IR):IR:=(.block 1 X5)
def fH.b4:IR:=fH.g4 fH.b5
def fH.g3 (X4:IR):IR:=(.seq (iSr [iSm 1,iQo 3 (.bin .neq .int aS0 aC0)] (.cond aT3 .skip (.exit 0))) X4)
def fH.b3:IR:=fH.g3 fH.b4
def fH.g2 (X3:IR):IR:=(.loop X3)
def fH.b2:IR:=fH.g2 fH.b3
def fH.g1 (X2:IR):IR:=(.block 0 X2)
def fH.b1:IR:=fH.g1 fH.b2
def fH.b6:IR:=(iSr [iSm 0,iQm 2 0] .ret)
def fH.g0 (X1 X6:IR):IR:=(iSr [iQo 2 (.mv aC0)] (.seq X1 X6))
def fH.b0:IR:=fH.g0 fH.b1 fH.b6
def fH.res:List RV:=[.t (.of 2)]
def fH:Fn:={ params:=[(.of 0),(.of 1)],res:=fH.res,body:=fH.b0,init:=in4 }
theorem fH.ok:fnA Tryz.prog Tryz.f139 [0,1,4,6]=some fH:=by kernel_rfl
abbrev eG.fr:=fr2
def eG.b0:IR:=(iSr [iQo 1 (.mv (.c (.bool false)))] (iSr [iSm 0,iCa 198 [aS0],.s (.bin .eql .int aS0 aC0),iQm 1 0] .ret))
def eG.res:List RV:=[.t (.of 1)]
def eG:Fn:={ params:=[(.of 0)],res:=eG.res,body:=eG.b0,init:=in2 }
theorem eG.ok:fnA Tryz.prog Tryz.f140 [0,2]=some eG:=by kernel_rfl
abbrev uq.fr:=fr6
def uq.b6:IR:=(.reg [iSm 3,iSm 0,iSm 1,iSm 4,.s (.zu 1 aS1 aS0),.s (.load aS0),.s (.zu 1 aS4 aS0),.s (.load aS0),.w .push none (.yc 1 1 [(I 0)] [(0,1,aS0)]),.w .push none (.app 1 8 aS8 aS0),iQm 3 0])
def uq.g5 (X6:IR):IR:=(.block 1 X6)
def uq.b5:IR:=uq.g5 uq.b6
def uq.b7:IR:=(.reg [iSm 4,.s (.bin .add .int aS0 aC1),iQm 4 0])
def uq.g4 (X5 X7:IR):IR:=(.seq X5 X7)
def uq.b4:IR:=uq.g4 uq.b5 uq.b7
def uq.g3 (X4:IR):IR:=(.seq (iSr [iSm 4,iSm 1,.s (.len aS0),iQo 5 (.bin .lss .int aS2 aS0)] (.cond aT5 .skip (.exit 0))) X4)
def uq.b3:IR:=uq.g3 uq.b4
def uq.g2 (X3:IR):IR:=(.loop X3)
def uq.b2:IR:=uq.g2 uq.b3
def uq.g1 (X2:IR):IR:=(.block 0 X2)
def uq.b1:IR:=uq.g1 uq.b2
def uq.b8:IR:=(iSr [iSm 3,iQm 2 0] .ret)
def uq.g0 (X1 X8:IR):IR:=(iSr [iQo 2 (.mv (.c .zh))] (iSr [iQo 3 (.mv (.c .zh))] (.seq (iSr [iQo 4 (.mv aC0)] X1) X8)))
def uq.b0:IR:=uq.g0 uq.b1 uq.b8
def uq.res:List RV:=[.t (.of 2)]
def uq:Fn:={ params:=[(.of 0),(.of 1)],res:=uq.res,body:=uq.b0,init:=in6 }
theorem uq.ok:fnA Tryz.prog Tryz.f144 [0,1,4,5,6,10]=some uq:=by kernel_rfl
abbrev F145.fr:=fr2
def F145.b0:IR:=(iSr [iQo 1 (.mv aC0)] (iSr [iSm 0,.s (.bin .lss .int aS0 aC1),.s (.mv aS0),iPf 0 (.mv aT0),iPf 1 (.bin .gtr .int aS0 aC16),.s (.pick aS2 (.c (.bool true)) aS0),iCa 96 [aS0,aC3],iQm 1 0] .ret))
def F145.res:List RV:=[.t (.of 1)]
def F145:Fn:={ params:=[(.of 0)],res:=F145.res,body:=F145.b0,init:=in2 }
theorem F145.ok:fnA Tryz.prog Tryz.f145 [0,2]=some F145:=by kernel_rfl
abbrev bY.fr:=fr10
def bY.b6:IR:=(iSr [iSm 8,iQm 4 0] (.seq (.yt [] [(iSm 2,0,[]),(iSm 4,0,[]),(iSm 1,0,[]),(.s (.bin .quo .int aS1 aS0),0,[]),(iSm 4,0,[]),(iSm 1,0,[]),(.s (.bin .rem .int aS1 aS0),0,[]),(.w .push none (.call aS6 [aS3,aS0]),0,[]),(.s (.mv aS0),0,[]),(.s (.ext 0 aS0),0,[]),(.s (.ext 1 aS1),0,[]),(iQm 5 1,0,[]),(iQm 6 0,0,[])]) (.reg [.s (.zn 0 aT3),.s (.load aS0),iSm 4,iSm 1,iSm 5,.s (.bin .mul .int aS1 aS0),iSm 6,.s (.bin .add .int aS1 aS0),.s (.zu 1 aS6 aS5),.w .none none (.store 1 aS0 aS1)])))
def bY.g5 (X6:IR):IR:=(.block 1 X6)
def bY.b5:IR:=bY.g5 bY.b6
def bY.b7:IR:=(.reg [.s (.bin .add .int aT8 aC1),iQm 8 0])
def bY.g4 (X5 X7:IR):IR:=(.seq X5 X7)
def bY.b4:IR:=bY.g4 bY.b5 bY.b7
def bY.g3 (X4:IR):IR:=(iSr [iQo 9 (.bin .lss .int aT8 aT7)] (.seq (.cond aT9 .skip (.exit 0)) X4))
def bY.b3:IR:=bY.g3 bY.b4
def bY.g2 (X3:IR):IR:=(.loop X3)
def bY.b2:IR:=bY.g2 bY.b3
def bY.g1 (X2:IR):IR:=(.block 0 X2)
def bY.b1:IR:=bY.g1 bY.b2
def bY.b8:IR:=(.yt [] [(iSm 0,1,[]),(.s (.zi 2 aT3),0,[]),(.s (.zi 2 aT3),1,[]),(iCa 123 [aS1],0,[]),(.w .none none (.aT .str aS3 aS0 aS1),0,[])])
def bY.g0 (X1 X8:IR):IR:=(iSr [iSm 1,iSm 1,.s (.bin .mul .int aS1 aS0),.w .push none (.gu 1 8 [(I 0)] aS0 aS0),.s (.build [.zh,(.bool false)] [(0,1,aS0)]),iWl 3 (.alloc [.zh,(.bool false)]),.w .none none (.store 2 aT3 aS0)] (.seq (iSr [.s (.zn 0 aT3),.s (.load aS0),iQo 7 (.len aS0),iQo 8 (.mv aC0)] X1) X8))
def bY.b0:IR:=bY.g0 bY.b1 bY.b8
def bY.res:List RV:=[]
def bY:Fn:={ params:=[(.of 0),(.of 1),(.of 2)],res:=bY.res,body:=bY.b0,init:=in10 }
theorem bY.ok:fnA Tryz.prog Tryz.f146 [0,1,2,6,7,8,9,17,18,19]=some bY:=by kernel_rfl
abbrev su.fr:=fr9
def su.b3:IR:=(iSr [iSm 0,iSm 1,iQm 4 1,iQm 5 0] .ret)
def su.g2 (X3:IR):IR:=(.seq (iSr [.s (.load aT2),.s (.bin .and .int aS0 aC4),iQo 8 (.bin .neq .int aS0 aC0)] (.cond aT8 (iSr [iSm 1,iSm 0,iQm 4 1,iQm 5 0] .ret) .skip)) X3)
def su.b2:IR:=su.g2 su.b3
def su.g1 (X2:IR):IR:=(.seq (iSr [.s (.load aT2),.s (.bin .and .int aS0 aC2),iQo 7 (.bin .neq .int aS0 aC0)] (.cond aT7 (.reg [.s (.load aT3),.s (.bin .sub .int aS0 aC1),iSm 1,.s (.bin .sub .int aS1 aS0),iQm 1 0]) .skip)) X2)
def su.b1:IR:=su.g1 su.b2
def su.g0 (X1:IR):IR:=(iSr [iQo 4 (.mv aC0),iQo 5 (.mv aC0)] (.seq (iSr [.s (.load aT2),.s (.bin .and .int aS0 aC1),iQo 6 (.bin .neq .int aS0 aC0)] (.cond aT6 (.reg [.s (.load aT3),.s (.bin .sub .int aS0 aC1),iSm 0,.s (.bin .sub .int aS1 aS0),iQm 0 0]) .skip)) X1))
def su.b0:IR:=su.g0 su.b1
def su.res:List RV:=[.t (.of 4),.t (.of 5)]
def su:Fn:={ params:=[(.of 0),(.of 1),(.of 2),(.of 3)],res:=su.res,body:=su.b0,init:=in9 }
theorem su.ok:fnA Tryz.prog Tryz.f147 [0,1,2,3,6,7,10,17,24]=some su:=by kernel_rfl
abbrev mg.fr:=fr12
def mg.b8:IR:=(.seq (.yt [] [(.s (.load aT3),0,[]),(iSm 0,0,[]),(.s (.load aT3),1,[]),(.s (.load aT1),1,[]),(.s (.bin .sub .int aS0 aC1),1,[]),(iSm 0,1,[]),(.s (.bin .sub .int aS1 aS0),1,[]),(iSm 6,0,[]),(.s (.load aT1),1,[]),(.s (.bin .sub .int aS0 aC1),1,[]),(iSm 6,1,[]),(.s (.bin .sub .int aS1 aS0),1,[]),(.s (.zu 1 aS11 aS10),0,[]),(.w .none none (.store 1 aS0 aS5),0,[]),(.s (.zu 1 aS10 aS6),0,[]),(.w .none none (.store 1 aS0 aS2),0,[])]) (.seq (.yt [] [(.s (.load aT4),0,[]),(iSm 6,0,[]),(.s (.load aT4),1,[]),(.s (.load aT1),1,[]),(.s (.bin .sub .int aS0 aC1),1,[]),(iSm 6,1,[]),(.s (.bin .sub .int aS1 aS0),1,[]),(.s (.zu 1 aS6 aS5),0,[]),(.w .none none (.store 1 aS0 (.c (.bool true))),0,[]),(.s (.zu 1 aS5 aS1),0,[]),(.w .none none (.store 1 aS0 (.c (.bool true))),0,[])]) (iSr [.s (.load aT5),iSm 0,.s (.bin .add .int aS0 aC1),.w .push none (.call aS2 [aS0])] (.yt [] [(.s (.load aT4),0,[]),(iSm 6,0,[]),(.s (.load aT4),1,[]),(.s (.load aT1),1,[]),(.s (.bin .sub .int aS0 aC1),1,[]),(iSm 6,1,[]),(.s (.bin .sub .int aS1 aS0),1,[]),(.s (.zu 1 aS6 aS5),0,[]),(.w .none none (.store 1 aS0 (.c (.bool false))),0,[]),(.s (.zu 1 aS5 aS1),0,[]),(.w .none none (.store 1 aS0 (.c (.bool false))),0,[])]))))
def mg.g7 (X8:IR):IR:=(iSr [iSm 9,iQm 6 0] (.seq (iSr [.s (.load aT4),iSm 6,.s (.zu 1 aS1 aS0),.s (.load aS0),.s (.mv aS0),iPf 0 (.mv aT0),iPf 1 (.bin .mul .int aC2 aS0),iPf 2 (.load aT1),iPf 3 (.bin .sub .int aS0 aC1),iPf 4 (.bin .eql .int aS2 aS0),iPf 5 (.mv aT6),iPf 6 (.bin .mul .int aC2 aS0),iPf 7 (.load aT1),iPf 8 (.bin .sub .int aS0 aC1),iPf 9 (.bin .eql .int aS2 aS0),iPf 10 (.bin .neq .bool aS5 aS0),iQo 11 (.pick aS11 (.c (.bool true)) aS0)] (.cond ni (.exit 1) .skip)) X8))
def mg.b7:IR:=mg.g7 mg.b8
def mg.g6 (X7:IR):IR:=(.block 1 X7)
def mg.b6:IR:=mg.g6 mg.b7
def mg.b9:IR:=(.reg [.s (.bin .add .int aT9 aC1),iQm 9 0])
def mg.g5 (X6 X9:IR):IR:=(.seq X6 X9)
def mg.b5:IR:=mg.g5 mg.b6 mg.b9
def mg.g4 (X5:IR):IR:=(iSr [iQo 10 (.bin .lss .int aT9 aT8)] (.seq (.cond bW .skip (.exit 0)) X5))
def mg.b4:IR:=mg.g4 mg.b5
def mg.g3 (X4:IR):IR:=(.loop X4)
def mg.b3:IR:=mg.g3 mg.b4
def mg.g2 (X3:IR):IR:=(.block 0 X3)
def mg.b2:IR:=mg.g2 mg.b3
def mg.g1 (X2:IR):IR:=(iSr [iQo 8 (.load aT1),iQo 9 (.mv aC0)] X2)
def mg.b1:IR:=mg.g1 mg.b2
def mg.g0 (X1:IR):IR:=(.seq (iSr [iSm 0,.s (.load aT1),.s (.bin .add .int aS0 aC1),.s (.bin .quo .int aS0 aC2),iQo 7 (.bin .eql .int aS3 aS0)] (.cond aT7 (iSr [.s (.load aT2),.s (.load aT1),.s (.fn 150 (.of 150) [aT3]),iCa 146 [aS2,aS1,aS0]] .ret) .skip)) X1)
def mg.b0:IR:=mg.g0 mg.b1
def mg.res:List RV:=[]
def mg:Fn:={ params:=[(.of 0),(.of 1),(.of 2),(.of 3),(.of 4),(.of 5)],res:=mg.res,body:=mg.b0,init:=in12 }
theorem mg.ok:fnA Tryz.prog Tryz.f149 [0,1,2,3,4,5,7,12,17,18,19,37]=some mg:=by kernel_rfl
abbrev F150.fr:=fr5
def F150.b0:IR:=(iSr [iQo 3 (.mv aC0),iQo 4 (.mv aC0)] (.seq (.yt [] [(.s (.load aT2),0,[]),(iSm 0,0,[]),(.s (.zu 1 aS1 aS0),0,[]),(.s (.load aS0),0,[]),(.s (.load aT2),0,[]),(iSm 1,0,[]),(.s (.zu 1 aS1 aS0),0,[]),(.s (.load aS0),0,[]),(iQm 3 4,0,[]),(iQm 4 0,0,[])]) .ret))
def F150.res:List RV:=[.t (.of 3),.t (.of 4)]
def F150:Fn:={ params:=[(.of 0),(.of 1),(.of 2)],res:=F150.res,body:=F150.b0,init:=in5 }
theorem F150.ok:fnA Tryz.prog Tryz.f150 [0,1,2,5,6]=some F150:=by kernel_rfl
abbrev oL.fr:=fr5
def oL.b1:IR:=(iSr [iSm 0,iSm 1,.s (.len aS0),iCa 22 [aS2,aS0],iQm 2 0] .ret)
def oL.g0 (X1:IR):IR:=(iSr [iQo 2 (.mv aC0)] (.seq (iSr [iSm 1,iCa 134 [aS0],iQm 3 0] (iSr [iSm 3,iQo 4 (.bin .neq .int aS0 aC0)] (.cond aT4 (iSr [iSm 3,iQm 2 0] .ret) .skip))) X1))
def oL.b0:IR:=oL.g0 oL.b1
def oL.res:List RV:=[.t (.of 2)]
def oL:Fn:={ params:=[(.of 0),(.of 1)],res:=oL.res,body:=oL.b0,init:=in5 }
theorem oL.ok:fnA Tryz.prog Tryz.f156 [0,1,4,5,9]=some oL:=by kernel_rfl
end
end Go.Ev
