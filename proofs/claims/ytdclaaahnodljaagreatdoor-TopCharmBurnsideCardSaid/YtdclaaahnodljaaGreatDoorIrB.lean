import Derived.Test.YtdclaaahnodljaaGreatDoorIrA
import Derived.Test.YtdclaaahnodljaaGreatDoorEvC
import Derived.Test.YtdclaaahnodljaaGreatDoorProg
import Derived.KernelRfl
set_option linter.unusedSimpArgs false
set_option linter.unusedVariables false
namespace Go.Ev
open Go Go.Proofs
set_option maxRecDepth 100000
noncomputable section

abbrev F93.fr:=fr8
def F93.b7:IR:=(.reg [iSm 3,.s (.zn 1 aT1),.s (.load aS0),iSm 4,.s (.zo 1 aS1 aS0),.s (.load aS0),iCa 158 [aS0,aC9],.s (.bin .add .str aS6 aS0),iQm 3 0])
def F93.g6 (X7:IR):IR:=(.block 1 X7)
def F93.b6:IR:=F93.g6 F93.b7
def F93.b8:IR:=(.reg [iSm 4,.s (.bin .sub .int aS0 aC1),iQm 4 0])
def F93.g5 (X6 X8:IR):IR:=(.seq X6 X8)
def F93.b5:IR:=F93.g5 F93.b6 F93.b8
def F93.g4 (X5:IR):IR:=(.seq (iSr [iSm 4,iQo 6 (.bin .geq .int aS0 aC0)] (.cond aT6 .skip (.exit 0))) X5)
def F93.b4:IR:=F93.g4 F93.b5
def F93.g3 (X4:IR):IR:=(.loop X4)
def F93.b3:IR:=F93.g3 F93.b4
def F93.g2 (X3:IR):IR:=(.block 0 X3)
def F93.b2:IR:=F93.g2 F93.b3
def F93.b10:IR:=(iSr [iSm 3,iQm 2 0] .ret)
def F93.g9 (X10:IR):IR:=(.seq (iSr [.s (.zn 0 aT1),iQo 7 (.load aS0)] (.cond aT7 (iSr [iSm 3,.s (.bin .add .str (.c (.str [45])) aS0),iQm 2 0] .ret) .skip)) X10)
def F93.b9:IR:=F93.g9 F93.b10
def F93.g1 (X2 X9:IR):IR:=(iSr [.s (.zn 1 aT1),.s (.load aS0),.s (.zn 1 aT1),.s (.load aS0),.s (.len aS0),.s (.bin .sub .int aS0 aC1),.s (.zo 1 aS4 aS0),.s (.load aS0),iCa 158 [aS0,aC1],iQm 3 0] (.seq (iSr [.s (.zn 1 aT1),.s (.load aS0),.s (.len aS0),.s (.bin .sub .int aS0 aC2),iQm 4 0] X2) X9))
def F93.b1:IR:=F93.g1 F93.b2 F93.b9
def F93.g0 (X1:IR):IR:=(iSr [iWl 1 (.box aT0),iQo 2 (.mv (.c (.str [])))] (.seq (iSr [.s (.zn 1 aT1),.s (.load aS0),.s (.len aS0),iQo 5 (.bin .eql .int aS0 aC0)] (.cond aT5 (iSr [iQo 2 (.mv (.c (.str [48])))] .ret) .skip)) X1))
def F93.b0:IR:=F93.g0 F93.b1
def F93.res:List RV:=[.t (.of 2)]
def F93:Fn:={ params:=[(.of 0)],res:=F93.res,body:=F93.b0,init:=in8 }
theorem F93.ok:fnA Tryz.prog Tryz.f93 [0,1,2,3,4,8,23,35]=some F93:=by kernel_rfl
abbrev F94.fr:=fr7
def F94.b6:IR:=(iSr [iSm 2,iSm 4,.w .push none (.yg 1 1 [(I 0)] [(0,1,aS0)]),.w .push none (.app 1 8 aS2 aS0),iQm 2 0] (.reg [iSm 0,.s (.bin .quo .int aS0 pQ),iQm 0 0]))
def F94.g5 (X6:IR):IR:=(iSr [iSm 0,.s (.bin .rem .int aS0 pQ),iQm 4 0] (.seq (iSr [iSm 4,iQo 6 (.bin .lss .int aS0 aC0)] (.cond aT6 (.reg [iSm 4,.s (.bin .sub .int aC0 aS0),iQm 4 0]) .skip)) X6))
def F94.b5:IR:=F94.g5 F94.b6
def F94.g4 (X5:IR):IR:=(.block 1 X5)
def F94.b4:IR:=F94.g4 F94.b5
def F94.g3 (X4:IR):IR:=(.seq (iSr [iSm 0,iQo 5 (.bin .neq .int aS0 aC0)] (.cond aT5 .skip (.exit 0))) X4)
def F94.b3:IR:=F94.g3 F94.b4
def F94.g2 (X3:IR):IR:=(.loop X3)
def F94.b2:IR:=F94.g2 F94.b3
def F94.g1 (X2:IR):IR:=(.block 0 X2)
def F94.b1:IR:=F94.g1 F94.b2
def F94.b7:IR:=(iSr [iSm 3,iSm 2,iCa 159 [aS1,aS0],.w .none none (.store 2 aT1 aS0)] .ret)
def F94.g0 (X1 X7:IR):IR:=(iSr [iWl 1 (.alloc [(.bool false),.zf])] (iSr [iQo 2 (.mv (.c .zf))] (iSr [iSm 0,.s (.bin .lss .int aS0 aC0),iQm 3 0] (.seq X1 X7))))
def F94.b0:IR:=F94.g0 F94.b1 F94.b7
def F94.res:List RV:=[.cell (.of 1) (some 2)]
def F94:Fn:={ params:=[(.of 0)],res:=F94.res,body:=F94.b0,init:=in7 }
theorem F94.ok:fnA Tryz.prog Tryz.f94 [0,2,3,4,5,9,13]=some F94:=by kernel_rfl
abbrev F95.fr:=fr23
def F95.b14:IR:=(iSr [.s (.zo 1 aC tK),.s (.load aS0),iQm 10 0] (iSr [.s (.load aT6),.s (.load aT3),iSm 10,.w .push none (.call aS2 [aS1,aS0]),iQo 21 (.not aS0)] (.cond aT21 (.exit 1) .skip)))
def F95.g13 (X14:IR):IR:=(.block 3 X14)
def F95.b13:IR:=F95.g13 F95.b14
def F95.b15:IR:=(.reg [.s (.bin .add .int tK aC1),iQm 19 0])
def F95.g12 (X13 X15:IR):IR:=(.seq X13 X15)
def F95.b12:IR:=F95.g12 F95.b13 F95.b15
def F95.g11 (X12:IR):IR:=(iSr [iQo 20 (.bin .lss .int tK aT18)] (.seq (.cond aT20 .skip (.exit 2)) X12))
def F95.b11:IR:=F95.g11 F95.b12
def F95.g10 (X11:IR):IR:=(.loop X11)
def F95.b10:IR:=F95.g10 F95.b11
def F95.g9 (X10:IR):IR:=(.block 2 X10)
def F95.b9:IR:=F95.g9 F95.b10
def F95.b16:IR:=(iSr [.s (.load aT4),iSm 9,.s (.zo 1 aS1 aS0),.w .none none (.store 1 aS0 (.c (.bool true)))] (iSr [.s (.load aT7),iSm 0,.s (.bin .add .int aS0 aC1),.w .push none (.call aS2 [aS0]),iQm 11 0] (iSr [.s (.load aT4),iSm 9,.s (.zo 1 aS1 aS0),.w .none none (.store 1 aS0 (.c (.bool false)))] (iSr [iSm 11,iQo 22 (.not aS0)] (.cond aT22 (iSr [iQo 8 (.mv (.c (.bool false)))] .ret) .skip)))))
def F95.g8 (X9 X16:IR):IR:=(iSr [.s (.load aT3),iSm 0,iSm 9,.s (.zo 1 aS2 aS1),.w .none none (.store 1 aS0 aS1)] (.seq (iSr [.s (.load aT5),iSm 0,.s (.zo 1 aS1 aS0),iQo 17 (.load aS0),iQo 18 (.len aC),iQo 19 (.mv aC0)] X9) X16))
def F95.b8:IR:=F95.g8 F95.b9 F95.b16
def F95.g7 (X8:IR):IR:=(iSr [iSm 14,iQm 9 0] (.seq (iSr [.s (.load aT4),iSm 9,.s (.zo 1 aS1 aS0),iQo 16 (.load aS0)] (.cond aW (.exit 1) .skip)) X8))
def F95.b7:IR:=F95.g7 F95.b8
def F95.g6 (X7:IR):IR:=(.block 1 X7)
def F95.b6:IR:=F95.g6 F95.b7
def F95.b17:IR:=(.reg [.s (.bin .add .int tJ aC1),iQm 14 0])
def F95.g5 (X6 X17:IR):IR:=(.seq X6 X17)
def F95.b5:IR:=F95.g5 F95.b6 F95.b17
def F95.g4 (X5:IR):IR:=(iSr [iQo 15 (.bin .lss .int tJ rD)] (.seq (.cond oO .skip (.exit 0)) X5))
def F95.b4:IR:=F95.g4 F95.b5
def F95.g3 (X4:IR):IR:=(.loop X4)
def F95.b3:IR:=F95.g3 F95.b4
def F95.g2 (X3:IR):IR:=(.block 0 X3)
def F95.b2:IR:=F95.g2 F95.b3
def F95.b18:IR:=(iSr [iQo 8 (.mv (.c (.bool true)))] .ret)
def F95.g1 (X2 X18:IR):IR:=(.seq .skip (.seq (iSr [.s (.zn 0 aT1),iQo 13 (.load aS0),iQo 14 (.mv aC0)] X2) X18))
def F95.b1:IR:=F95.g1 F95.b2 F95.b18
def F95.g0 (X1:IR):IR:=(iSr [iQo 8 (.mv (.c (.bool false)))] (.seq (iSr [iSm 0,.s (.zn 0 aT1),.s (.load aS0),iQo 12 (.bin .eql .int aS2 aS0)] (.cond eX (.seq (.yh [] [(.s (.load aT2),2,[]),(.s (.load aT3),0,[]),(iCa 48 [aS0],0,[]),(.s (.build [.zf,(.bool false)] [(0,1,aS0)]),0,[]),(.w .push none (.yg 2 1 [.zf,(.bool false)] [(0,2,aS0)]),0,[]),(.w .push none (.appq 2 32 aS4 aS0),0,[]),(.w .none none (.store 1 aT2 aS0),0,[])]) (iSr [.s (.load aT2),.s (.len aS0),.s (.bin .leq .int aS0 zhn),iQm 8 0] .ret)) .skip)) X1))
def F95.b0:IR:=F95.g0 F95.b1
def F95.res:List RV:=[.t (.of 8)]
def F95:Fn:={ params:=[(.of 0),(.of 1),(.of 2),(.of 3),(.of 4),(.of 5),(.of 6),(.of 7)],res:=F95.res,body:=F95.b0,init:=in23 }
theorem F95.ok:fnA Tryz.prog Tryz.f95 [0,1,2,3,4,5,6,7,9,10,12,13,17,28,29,30,35,43,44,45,46,53,66]=some F95:=by kernel_rfl
abbrev F96.fr:=fr31
def F96.b8:IR:=(iSr [iSm 19,.s (.zo 1 aC tK),.s (.load aS0),iQm 6 2,iQm 7 0] (iSr [iSm 7,.s (.len aS0),iSm 4,.s (.bin .neq .int aS1 aS0),iCa 105 [aS0,aC2],iSm 7,iCa 160 [aS0],iCa 105 [aS0,aC3],iSm 6,.s (.bin .gtr .int aS0 aC0),.s (.mv aS0),iPt 0 (.mv aT1),iPt 1 (.mv aT6),iPt 2 (.bin .sub .int aS0 aC1),iPt 3 (.zo 1 aS2 aS0),iPt 4 (.load aS0),iPt 5 (.mv aT7),.w .push (some (aS6,true)) (.call (.c (.fn 161 (.of 161) [])) [aS1,aS0]),iPt 7 (.bin .geq .int aS0 aC0),.s (.pick aS8 aS0 (.c (.bool false))),iCa 105 [aS0,aC11],.w .push none (.yg 1 3 [(I 0)] [(0,1,aS16),(1,1,aS13),(2,1,aS0)]),iCa 104 [aS0],iQm 8 0] (iSr [iSm 8,iQo 21 (.bin .neq .int aS0 aC0)] (.cond aT21 (iSr [iSm 8,iQo 2 (.mv (.c .zf)),iQm 3 0] .ret) .skip))))
def F96.g7 (X8:IR):IR:=(.block 1 X8)
def F96.b7:IR:=F96.g7 F96.b8
def F96.b9:IR:=(.reg [.s (.bin .add .int tK aC1),iQm 19 0])
def F96.g6 (X7 X9:IR):IR:=(.seq X7 X9)
def F96.b6:IR:=F96.g6 F96.b7 F96.b9
def F96.g5 (X6:IR):IR:=(iSr [iQo 20 (.bin .lss .int tK aT18)] (.seq (.cond aT20 .skip (.exit 0)) X6))
def F96.b5:IR:=F96.g5 F96.b6
def F96.g4 (X5:IR):IR:=(.loop X5)
def F96.b4:IR:=F96.g4 F96.b5
def F96.g3 (X4:IR):IR:=(.block 0 X4)
def F96.b3:IR:=F96.g3 F96.b4
def F96.b23:IR:=(.reg [iSm 11,iSm 13,.w .push none (.yg 1 1 [(I 0)] [(0,1,aS0)]),.w .push none (.app 1 8 aS2 aS0),iQm 11 0])
def F96.g22 (X23:IR):IR:=(iSr [.s (.zo 1 aT26 aT28),.s (.load aS0),iQm 12 0] (iSr [iSm 1,.s (.zi 2 bP),iSm 12,iCa 163 [aS1,aS0],.w .push none (.call (.c (.fn 162 (.of 162) [])) [aS3,aS0,(.c (.fn 161 (.of 161) []))]),.s (.mv aS0),.s (.ext 0 aS0),.s (.ext 1 aS1),iQm 13 1,iQm 14 0] (.seq (iSr [iSm 14,iQo 30 (.not aS0)] (.cond aT30 (iSr [iQo 2 (.mv (.c .zf)),iQo 3 (.mv aC7)] .ret) .skip)) X23)))
def F96.b22:IR:=F96.g22 F96.b23
def F96.g21 (X22:IR):IR:=(.block 5 X22)
def F96.b21:IR:=F96.g21 F96.b22
def F96.b24:IR:=(.reg [.s (.bin .add .int aT28 aC1),iQm 28 0])
def F96.g20 (X21 X24:IR):IR:=(.seq X21 X24)
def F96.b20:IR:=F96.g20 F96.b21 F96.b24
def F96.g19 (X20:IR):IR:=(iSr [iQo 29 (.bin .lss .int aT28 aT27)] (.seq (.cond aT29 .skip (.exit 4)) X20))
def F96.b19:IR:=F96.g19 F96.b20
def F96.g18 (X19:IR):IR:=(.loop X19)
def F96.b18:IR:=F96.g18 F96.b19
def F96.g17 (X18:IR):IR:=(.block 4 X18)
def F96.b17:IR:=F96.g17 F96.b18
def F96.b25:IR:=(.reg [iSm 9,iSm 11,.w .push none (.yg 1 1 [.zf] [(0,1,aS0)]),.w .push none (.app 1 24 aS2 aS0),iQm 9 0])
def F96.g16 (X17 X25:IR):IR:=(iSr [.s (.zo 2 aT22 aT24),.s (.zi 2 aS0),iWl 10 (.alloc [.zf,(.bool false)]),.w .none none (.store 2 bP aS0)] (iSr [iQo 11 (.mv (.c .zf))] (.seq (iSr [iQo 26 (.mv aT1),iQo 27 (.len aT26),iQo 28 (.mv aC0)] X17) X25)))
def F96.b16:IR:=F96.g16 F96.b17 F96.b25
def F96.g15 (X16:IR):IR:=(.block 3 X16)
def F96.b15:IR:=F96.g15 F96.b16
def F96.b26:IR:=(.reg [.s (.bin .add .int aT24 aC1),iQm 24 0])
def F96.g14 (X15 X26:IR):IR:=(.seq X15 X26)
def F96.b14:IR:=F96.g14 F96.b15 F96.b26
def F96.g13 (X14:IR):IR:=(iSr [iQo 25 (.bin .lss .int aT24 aT23)] (.seq (.cond aT25 .skip (.exit 2)) X14))
def F96.b13:IR:=F96.g13 F96.b14
def F96.g12 (X13:IR):IR:=(.loop X13)
def F96.b12:IR:=F96.g12 F96.b13
def F96.g11 (X12:IR):IR:=(.block 2 X12)
def F96.b11:IR:=F96.g11 F96.b12
def F96.b27:IR:=(iSr [iSm 9,iQm 2 0,iQo 3 (.mv aC0)] .ret)
def F96.g10 (X11 X27:IR):IR:=(iSr [iQo 9 (.mv (.c .zf))] (.seq (iSr [iQo 22 (.mv aT0),iQo 23 (.len aT22),iQo 24 (.mv aC0)] X11) X27))
def F96.b10:IR:=F96.g10 F96.b11 F96.b27
def F96.g2 (X3 X10:IR):IR:=(.seq (iSr [iQo 17 (.mv aT1),iQo 18 (.len aC),iQo 19 (.mv aC0)] X3) X10)
def F96.b2:IR:=F96.g2 F96.b3 F96.b10
def F96.g1 (X2:IR):IR:=(.seq (iSr [iSm 0,iSm 4,iCa 84 [aS1,aS0],iSm 1,.s (.len aS0),.s (.bin .gtr .int aS0 zni),iCa 105 [aS0,aC5],.w .push none (.yg 1 2 [(I 0)] [(0,1,aS4),(1,1,aS0)]),iCa 104 [aS0],iQm 5 0] (iSr [iSm 5,iQo 16 (.bin .neq .int aS0 aC0)] (.cond aW (iSr [iSm 5,iQo 2 (.mv (.c .zf)),iQm 3 0] .ret) .skip))) X2)
def F96.b1:IR:=F96.g1 F96.b2
def F96.g0 (X1:IR):IR:=(iSr [iQo 2 (.mv (.c .zf)),iQo 3 (.mv aC0)] (iSr [iQo 4 (.mv aC0)] (.seq (iSr [iSm 0,.s (.len aS0),iQo 15 (.bin .gtr .int aS0 aC0)] (.cond oO (.reg [iSm 0,.s (.zo 2 aS0 aC0),.s (.zn 0 aS0),.s (.load aS0),.s (.len aS0),iQm 4 0]) .skip)) X1)))
def F96.b0:IR:=F96.g0 F96.b1
def F96.res:List RV:=[.t (.of 2),.t (.of 3)]
def F96:Fn:={ params:=[(.of 0),(.of 1)],res:=F96.res,body:=F96.b0,init:=in31 }
theorem F96.ok:fnA Tryz.prog Tryz.f96 [0,1,4,5,6,7,8,9,10,11,13,14,16,17,18,21,37,39,40,41,42,70,73,74,75,76,79,80,81,82,94]=some F96:=by kernel_rfl
abbrev F97.fr:=fr4
def F97.b0:IR:=(iSr [iWl 2 (.box aT0),iQo 3 (.mv aC0)] (.seq (.yh [] [(.s (.zi 2 aT2),0,[]),(iSm 1,1,[]),(.s (.len aS0),1,[]),(.s (.zn 0 aT2),1,[]),(.s (.load aS0),1,[]),(.s (.bin .neq .int aS2 aS0),1,[]),(iSm 1,2,[]),(iCa 73 [aS6],0,[]),(iCa 44 [aS2,aC2],0,[]),(iCa 109 [aS2],0,[]),(.w .push none (.yg 1 3 [(I 0)] [(0,1,aS2),(1,1,aS1),(2,1,aS0)]),0,[]),(iCa 42 [aS0],0,[]),(iQm 3 0,0,[])]) .ret))
def F97.res:List RV:=[.t (.of 3)]
def F97:Fn:={ params:=[(.of 0),(.of 1)],res:=F97.res,body:=F97.b0,init:=in4 }
theorem F97.ok:fnA Tryz.prog Tryz.f97 [0,1,2,4]=some F97:=by kernel_rfl
abbrev F98.fr:=fr5
def F98.b0:IR:=(iSr [iWl 2 (.box aT0),iQo 3 (.mv aC0)] (iSr [.s (.zi 2 aT2),iSm 1,iCa 164 [aS1,aS0],iWl 4 (.alloc [.zf]),.w .none none (.store 1 aT4 aS0)] (iSr [.s (.load aT4),.s (.fn 165 (.of 165) [aT4]),iCa 127 [aS1,aS0],iQm 3 0] .ret)))
def F98.res:List RV:=[.t (.of 3)]
def F98:Fn:={ params:=[(.of 0),(.of 1)],res:=F98.res,body:=F98.b0,init:=in5 }
theorem F98.ok:fnA Tryz.prog Tryz.f98 [0,1,2,4,5]=some F98:=by kernel_rfl
abbrev jy.fr:=fr8
def jy.b6:IR:=(iSr [.s (.zo 1 aT3 aT5),.s (.load aS0),iQm 2 0] (iSr [iSm 2,iQo 7 (.bin .neq .int aS0 aC0)] (.cond aT7 (iSr [iSm 2,iQm 1 0] .ret) .skip)))
def jy.g5 (X6:IR):IR:=(.block 1 X6)
def jy.b5:IR:=jy.g5 jy.b6
def jy.b7:IR:=(.reg [.s (.bin .add .int aT5 aC1),iQm 5 0])
def jy.g4 (X5 X7:IR):IR:=(.seq X5 X7)
def jy.b4:IR:=jy.g4 jy.b5 jy.b7
def jy.g3 (X4:IR):IR:=(iSr [iQo 6 (.bin .lss .int aT5 aT4)] (.seq (.cond aT6 .skip (.exit 0)) X4))
def jy.b3:IR:=jy.g3 jy.b4
def jy.g2 (X3:IR):IR:=(.loop X3)
def jy.b2:IR:=jy.g2 jy.b3
def jy.g1 (X2:IR):IR:=(.block 0 X2)
def jy.b1:IR:=jy.g1 jy.b2
def jy.b8:IR:=(iSr [iQo 1 (.mv aC0)] .ret)
def jy.g0 (X1 X8:IR):IR:=(iSr [iQo 1 (.mv aC0)] (.seq (iSr [iQo 3 (.mv aT0),iQo 4 (.len aT3),iQo 5 (.mv aC0)] X1) X8))
def jy.b0:IR:=jy.g0 jy.b1 jy.b8
def jy.res:List RV:=[.t (.of 1)]
def jy:Fn:={ params:=[(.of 0)],res:=jy.res,body:=jy.b0,init:=in8 }
theorem jy.ok:fnA Tryz.prog Tryz.f104 [0,2,4,5,6,7,8,12]=some jy:=by kernel_rfl
abbrev rX.fr:=fr4
def rX.b1:IR:=(iSr [iQo 2 (.mv aC0)] .ret)
def rX.g0 (X1:IR):IR:=(iSr [iQo 2 (.mv aC0)] (.seq (iSr [iQo 3 (.mv aT0)] (.cond aT3 (iSr [iSm 1,iQm 2 0] .ret) .skip)) X1))
def rX.b0:IR:=rX.g0 rX.b1
def rX.res:List RV:=[.t (.of 2)]
def rX:Fn:={ params:=[(.of 0),(.of 1)],res:=rX.res,body:=rX.b0,init:=in4 }
theorem rX.ok:fnA Tryz.prog Tryz.f105 [0,1,4,5]=some rX:=by kernel_rfl
abbrev F106.fr:=fr8
def F106.b0:IR:=(iSr [iWl 3 (.box aT0)] (iSr [.s (.zn 0 aT1),.s (.load aS0),.w .push none (.ql 1 8 [(I 0)] aS0 aS0),iWl 4 (.alloc [.zf]),.w .none none (.store 1 aT4 aS0)] (iSr [.s (.zi 2 aT1),iCa 107 [aS0],iWl 5 (.alloc [.zf]),.w .none none (.store 1 aT5 aS0)] (iSr [iWl 6 (.alloc [(.int .u64 0)])] (iSr [iWl 7 (.alloc [.fC])] (iSr [.s (.fn 108 (.of 108) [aT1,aT3,aT4,aT6,aT5,aT2,aT7]),.w .none none (.store 1 aT7 aS0)] (.reg [.s (.load aT7),.w .push none (.call aS0 [aC0])])))))))
def F106.res:List RV:=[]
def F106:Fn:={ params:=[(.of 0),(.of 1),(.of 2)],res:=F106.res,body:=F106.b0,init:=in8 }
theorem F106.ok:fnA Tryz.prog Tryz.f106 [0,1,2,3,4,5,6,7]=some F106:=by kernel_rfl
abbrev bD.fr:=fr10
def bD.b6:IR:=(iSr [.s (.zo 1 aT6 aT8),.s (.load aS0),iQm 4 0] (iSr [iSm 4,iSm 4,.s (.len aS0),.s (.bin .sub .int aS0 aC1),.s (.zo 1 aS3 aS0),.s (.load aS0),iQm 5 0] (.reg [iSm 3,iSm 5,iSm 3,iSm 5,.s (.zo 1 aS1 aS0),.s (.load aS0),iSm 4,.w .push none (.yg 1 1 [.zf] [(0,1,aS0)]),.w .push none (.app 1 24 aS2 aS0),.s (.zo 1 aS8 aS7),.w .none none (.store 1 aS0 aS1)])))
def bD.g5 (X6:IR):IR:=(.block 1 X6)
def bD.b5:IR:=bD.g5 bD.b6
def bD.b7:IR:=(.reg [.s (.bin .add .int aT8 aC1),iQm 8 0])
def bD.g4 (X5 X7:IR):IR:=(.seq X5 X7)
def bD.b4:IR:=bD.g4 bD.b5 bD.b7
def bD.g3 (X4:IR):IR:=(iSr [iQo 9 (.bin .lss .int aT8 aT7)] (.seq (.cond aT9 .skip (.exit 0)) X4))
def bD.b3:IR:=bD.g3 bD.b4
def bD.g2 (X3:IR):IR:=(.loop X3)
def bD.b2:IR:=bD.g2 bD.b3
def bD.g1 (X2:IR):IR:=(.block 0 X2)
def bD.b1:IR:=bD.g1 bD.b2
def bD.b8:IR:=(iSr [iSm 3,iQm 2 0] .ret)
def bD.g0 (X1 X8:IR):IR:=(iSr [iWl 1 (.box aT0),iQo 2 (.mv (.c .zf))] (iSr [.s (.zn 0 aT1),.s (.load aS0),.w .push none (.ql 1 24 [.zf] aS0 aS0),iQm 3 0] (.seq (iSr [.s (.zn 1 aT1),iQo 6 (.load aS0),iQo 7 (.len aT6),iQo 8 (.mv aC0)] X1) X8)))
def bD.b0:IR:=bD.g0 bD.b1 bD.b8
def bD.res:List RV:=[.t (.of 2)]
def bD:Fn:={ params:=[(.of 0)],res:=bD.res,body:=bD.b0,init:=in10 }
theorem bD.ok:fnA Tryz.prog Tryz.f107 [0,1,2,3,5,6,11,12,13,14]=some bD:=by kernel_rfl
abbrev yw.fr:=fr27
def yw.b20:IR:=(iSr [.s (.zo 1 aT21 aT23),.s (.load aS0),iQm 12 0] (.reg [iSm 11,.s (.load aT3),iSm 12,.s (.zo 1 aS1 aS0),.s (.load aS0),.s (.bin .sub .int aS4 aS0),iQm 11 0]))
def yw.g19 (X20:IR):IR:=(.block 5 X20)
def yw.b19:IR:=yw.g19 yw.b20
def yw.b21:IR:=(.reg [.s (.bin .add .int aT23 aC1),iQm 23 0])
def yw.g18 (X19 X21:IR):IR:=(.seq X19 X21)
def yw.b18:IR:=yw.g18 yw.b19 yw.b21
def yw.g17 (X18:IR):IR:=(iSr [iQo 24 (.bin .lss .int aT23 aT22)] (.seq (.cond aT24 .skip (.exit 4)) X18))
def yw.b17:IR:=yw.g17 yw.b18
def yw.g16 (X17:IR):IR:=(.loop X17)
def yw.b16:IR:=yw.g16 yw.b17
def yw.g15 (X16:IR):IR:=(.block 4 X16)
def yw.b15:IR:=yw.g15 yw.b16
def yw.b22:IR:=(iSr [iSm 11,iQo 25 (.bin .neq .int aS0 aC0)] (.cond aT25 (.exit 1) .skip))
def yw.g14 (X15 X22:IR):IR:=(iSr [.s (.zo 1 aC tK),.s (.load aS0),iQm 10 0] (iSr [.s (.load aT6),iQm 11 0] (.seq (iSr [iQo 21 (.mv bP),iQo 22 (.len aT21),iQo 23 (.mv aC0)] X15) X22)))
def yw.b14:IR:=yw.g14 yw.b15 yw.b22
def yw.g13 (X14:IR):IR:=(.block 3 X14)
def yw.b13:IR:=yw.g13 yw.b14
def yw.b23:IR:=(.reg [.s (.bin .add .int tK aC1),iQm 19 0])
def yw.g12 (X13 X23:IR):IR:=(.seq X13 X23)
def yw.b12:IR:=yw.g12 yw.b13 yw.b23
def yw.g11 (X12:IR):IR:=(iSr [iQo 20 (.bin .lss .int tK aT18)] (.seq (.cond aT20 .skip (.exit 2)) X12))
def yw.b11:IR:=yw.g11 yw.b12
def yw.g10 (X11:IR):IR:=(.loop X11)
def yw.b10:IR:=yw.g10 yw.b11
def yw.g9 (X10:IR):IR:=(.block 2 X10)
def yw.b9:IR:=yw.g9 yw.b10
def yw.b24:IR:=(.seq (.yh [] [(.s (.load aT4),0,[]),(iSm 9,0,[]),(.s (.bin .shl .int (.c (.int .u64 1)) aS0),0,[]),(.s (.bin .or .int aS2 aS0),0,[]),(.w .none none (.store 1 aT4 aS0),0,[])]) (iSr [.s (.load aT7),iSm 0,.s (.bin .add .int aS0 aC1),.w .push none (.call aS2 [aS0]),iQm 13 0] (.seq (.yh [] [(.s (.load aT4),0,[]),(iSm 9,0,[]),(.s (.bin .shl .int (.c (.int .u64 1)) aS0),0,[]),(.s (.bin .andNot .int aS2 aS0),0,[]),(.w .none none (.store 1 aT4 aS0),0,[])]) (iSr [iSm 13,iQo 26 (.not aS0)] (.cond aT26 (iSr [iQo 8 (.mv (.c (.bool false)))] .ret) .skip)))))
def yw.g8 (X9 X24:IR):IR:=(iSr [.s (.load aT3),iSm 0,iSm 9,.s (.zo 1 aS2 aS1),.w .none none (.store 1 aS0 aS1)] (.seq (iSr [.s (.load aT5),iSm 0,.s (.zo 1 aS1 aS0),iQo 17 (.load aS0),iQo 18 (.len aC),iQo 19 (.mv aC0)] X9) X24))
def yw.b8:IR:=yw.g8 yw.b9 yw.b24
def yw.g7 (X8:IR):IR:=(.seq (iSr [.s (.load aT4),iSm 9,.s (.bin .shr .int aS1 aS0),.s (.bin .and .int aS0 (.c (.int .u64 1))),iQo 16 (.bin .eql .int aS0 (.c (.int .u64 1)))] (.cond aW (.exit 1) .skip)) X8)
def yw.b7:IR:=yw.g7 yw.b8
def yw.g6 (X7:IR):IR:=(.block 1 X7)
def yw.b6:IR:=yw.g6 yw.b7
def yw.b25:IR:=(.reg [iSm 9,.s (.bin .add .int aS0 aC1),iQm 9 0])
def yw.g5 (X6 X25:IR):IR:=(.seq X6 X25)
def yw.b5:IR:=yw.g5 yw.b6 yw.b25
def yw.g4 (X5:IR):IR:=(.seq (iSr [iSm 9,.s (.zn 0 aT1),.s (.load aS0),iQo 15 (.bin .leq .int aS2 aS0)] (.cond oO .skip (.exit 0))) X5)
def yw.b4:IR:=yw.g4 yw.b5
def yw.g3 (X4:IR):IR:=(.loop X4)
def yw.b3:IR:=yw.g3 yw.b4
def yw.g2 (X3:IR):IR:=(.block 0 X3)
def yw.b2:IR:=yw.g2 yw.b3
def yw.b26:IR:=(iSr [iQo 8 (.mv (.c (.bool true)))] .ret)
def yw.g1 (X2 X26:IR):IR:=(.seq .skip (.seq (iSr [iQo 9 (.mv aC1)] X2) X26))
def yw.b1:IR:=yw.g1 yw.b2 yw.b26
def yw.g0 (X1:IR):IR:=(iSr [iQo 8 (.mv (.c (.bool false)))] (.seq (iSr [iSm 0,.s (.zn 0 aT1),.s (.load aS0),iQo 14 (.bin .eql .int aS2 aS0)] (.cond tJ (iSr [.s (.load aT2),.s (.load aT3),.w .push none (.call aS1 [aS0]),iQm 8 0] .ret) .skip)) X1))
def yw.b0:IR:=yw.g0 yw.b1
def yw.res:List RV:=[.t (.of 8)]
def yw:Fn:={ params:=[(.of 0),(.of 1),(.of 2),(.of 3),(.of 4),(.of 5),(.of 6),(.of 7)],res:=yw.res,body:=yw.b0,init:=in27 }
theorem yw.ok:fnA Tryz.prog Tryz.f108 [0,1,2,3,4,5,6,7,9,10,12,13,15,16,20,27,34,42,43,44,45,49,50,51,52,63,78]=some yw:=by kernel_rfl
abbrev F109.fr:=fr2
def F109.b0:IR:=(iSr [iQo 1 (.mv aC0)] (iSr [iSm 0,iCa 70 [(.c (I (-999999999))),qX,aS0],iQm 1 0] .ret))
def F109.res:List RV:=[.t (.of 1)]
def F109:Fn:={ params:=[(.of 0)],res:=F109.res,body:=F109.b0,init:=in2 }
theorem F109.ok:fnA Tryz.prog Tryz.f109 [0,2]=some F109:=by kernel_rfl
abbrev jq.fr:=fr10
def jq.b6:IR:=(iSr [.s (.zo 1 aT5 aT7),.s (.load aS0),iQm 4 0] (.reg [iSm 3,iSm 4,.s (.conv .u8 aS0),.w .push none (.yg 1 1 [(.int .u8 0)] [(0,1,aS0)]),.w .push none (.app 1 1 aS3 aS0),iQm 3 0]))
def jq.g5 (X6:IR):IR:=(.block 1 X6)
def jq.b5:IR:=jq.g5 jq.b6
def jq.b7:IR:=(.reg [.s (.bin .add .int aT7 aC1),iQm 7 0])
def jq.g4 (X5 X7:IR):IR:=(.seq X5 X7)
def jq.b4:IR:=jq.g4 jq.b5 jq.b7
def jq.g3 (X4:IR):IR:=(iSr [iQo 8 (.bin .lss .int aT7 aT6)] (.seq (.cond aT8 .skip (.exit 0)) X4))
def jq.b3:IR:=jq.g3 jq.b4
def jq.g2 (X3:IR):IR:=(.loop X3)
def jq.b2:IR:=jq.g2 jq.b3
def jq.g1 (X2:IR):IR:=(.block 0 X2)
def jq.b1:IR:=jq.g1 jq.b2
def jq.b9:IR:=(iSr [iSm 3,.s (.b2s aS0),iQm 2 0] .ret)
def jq.g8 (X9:IR):IR:=(.seq (iSr [.s (.zn 1 aT1),iQo 9 (.load aS0)] (.cond aT9 (.reg [iSm 3,.w .push none (.yg 1 1 [(.int .u8 0)] [(0,1,(.c (.int .u8 1)))]),.w .push none (.app 1 1 aS1 aS0),iQm 3 0]) .skip)) X9)
def jq.b8:IR:=jq.g8 jq.b9
def jq.g0 (X1 X8:IR):IR:=(iSr [iWl 1 (.box aT0),iQo 2 (.mv (.c (.str [])))] (iSr [.s (.zn 0 aT1),.s (.load aS0),.s (.len aS0),.s (.bin .add .int aS0 aC1),.w .push none (.ql 1 1 [(.int .u8 0)] aC0 aS0),iQm 3 0] (.seq (iSr [.s (.zn 0 aT1),iQo 5 (.load aS0),iQo 6 (.len aT5),iQo 7 (.mv aC0)] X1) X8)))
def jq.b0:IR:=jq.g0 jq.b1 jq.b8
def jq.res:List RV:=[.t (.of 2)]
def jq:Fn:={ params:=[(.of 0)],res:=jq.res,body:=jq.b0,init:=in10 }
theorem jq.ok:fnA Tryz.prog Tryz.f112 [0,1,2,3,5,12,13,14,15,25]=some jq:=by kernel_rfl
abbrev bV.fr:=fr8
def bV.b2:IR:=(iSr [iQo 4 (.mv (.c (I (-1))))] .ret)
def bV.g1 (X2:IR):IR:=(.seq (iSr [.s (.zn 1 aT2),iQo 7 (.load aS0)] (.cond aT7 (iSr [iQo 4 (.mv aC1)] .ret) .skip)) X2)
def bV.b1:IR:=bV.g1 bV.b2
def bV.g0 (X1:IR):IR:=(iSr [iWl 2 (.box aT0),iWl 3 (.box aT1),iQo 4 (.mv aC0)] (.seq (iSr [.s (.zn 0 aT2),.s (.load aS0),.s (.zn 0 aT3),.s (.load aS0),iCa 161 [aS2,aS0],iQm 5 0] (iSr [iSm 5,.s (.bin .neq .int aS0 aC0),.s (.mv aS0),iPf 0 (.zn 1 aT2),iPf 1 (.load aS0),iPf 2 (.zn 1 aT3),iPf 3 (.load aS0),iPf 4 (.bin .eql .bool aS2 aS0),iQo 6 (.pick aS5 (.c (.bool true)) aS0)] (.cond aT6 (iSr [iSm 5,iQm 4 0] .ret) .skip))) X1))
def bV.b0:IR:=bV.g0 bV.b1
def bV.res:List RV:=[.t (.of 4)]
def bV:Fn:={ params:=[(.of 0),(.of 1)],res:=bV.res,body:=bV.b0,init:=in8 }
theorem bV.ok:fnA Tryz.prog Tryz.f114 [0,1,2,3,4,5,19,22]=some bV:=by kernel_rfl
abbrev aP.fr:=fr2
def aP.b0:IR:=(iSr [iQo 1 (.mv aC0)] (iSr [iSm 0,.s (.bin .lss .int aS0 aC0),.s (.mv aS0),iPf 0 (.mv aT0),iPf 1 (.bin .gtr .int aS0 zcf),.s (.pick aS2 (.c (.bool true)) aS0),iCa 76 [aS0,aC3],iQm 1 0] .ret))
def aP.res:List RV:=[.t (.of 1)]
def aP:Fn:={ params:=[(.of 0)],res:=aP.res,body:=aP.b0,init:=in2 }
theorem aP.ok:fnA Tryz.prog Tryz.f125 [0,2]=some aP:=by kernel_rfl
abbrev aO.fr:=fr2
def aO.b0:IR:=(iSr [iQo 1 (.mv (.c (.bool false)))] (iSr [iSm 0,iCa 187 [aS0],.s (.bin .eql .int aS0 aC0),iQm 1 0] .ret))
def aO.res:List RV:=[.t (.of 1)]
def aO:Fn:={ params:=[(.of 0)],res:=aO.res,body:=aO.b0,init:=in2 }
theorem aO.ok:fnA Tryz.prog Tryz.f126 [0,2]=some aO:=by kernel_rfl
abbrev jv.fr:=fr8
def jv.b6:IR:=(iSr [iSm 5,iQm 3 0] (iSr [iSm 1,iSm 0,iSm 3,.s (.zo 1 aS1 aS0),.s (.load aS0),iWl 7 (.call aS4 [aS0])] (.cond aT7 (iSr [iSm 3,iQm 2 0] .ret) .skip)))
def jv.g5 (X6:IR):IR:=(.block 1 X6)
def jv.b5:IR:=jv.g5 jv.b6
def jv.b7:IR:=(.reg [.s (.bin .add .int aT5 aC1),iQm 5 0])
def jv.g4 (X5 X7:IR):IR:=(.seq X5 X7)
def jv.b4:IR:=jv.g4 jv.b5 jv.b7
def jv.g3 (X4:IR):IR:=(iSr [iQo 6 (.bin .lss .int aT5 aT4)] (.seq (.cond aT6 .skip (.exit 0)) X4))
def jv.b3:IR:=jv.g3 jv.b4
def jv.g2 (X3:IR):IR:=(.loop X3)
def jv.b2:IR:=jv.g2 jv.b3
def jv.g1 (X2:IR):IR:=(.block 0 X2)
def jv.b1:IR:=jv.g1 jv.b2
def jv.b8:IR:=(iSr [iQo 2 (.mv (.c (I (-1))))] .ret)
def jv.g0 (X1 X8:IR):IR:=(iSr [iQo 2 (.mv aC0)] (.seq (iSr [iSm 0,iQo 4 (.len aS0),iQo 5 (.mv aC0)] X1) X8))
def jv.b0:IR:=jv.g0 jv.b1 jv.b8
def jv.res:List RV:=[.t (.of 2)]
def jv:Fn:={ params:=[(.of 0),(.of 1)],res:=jv.res,body:=jv.b0,init:=in8 }
theorem jv.ok:fnA Tryz.prog Tryz.f127 [0,1,4,5,7,8,9,16]=some jv:=by kernel_rfl
abbrev eY.fr:=fr5
def eY.b1:IR:=(iSr [iSm 0,iSm 1,.s (.len aS0),iCa 84 [aS2,aS0],iQm 2 0] .ret)
def eY.g0 (X1:IR):IR:=(iSr [iQo 2 (.mv aC0)] (.seq (iSr [iSm 1,iCa 63 [aS0],iQm 3 0] (iSr [iSm 3,iQo 4 (.bin .neq .int aS0 aC0)] (.cond aT4 (iSr [iSm 3,iQm 2 0] .ret) .skip))) X1))
def eY.b0:IR:=eY.g0 eY.b1
def eY.res:List RV:=[.t (.of 2)]
def eY:Fn:={ params:=[(.of 0),(.of 1)],res:=eY.res,body:=eY.b0,init:=in5 }
theorem eY.ok:fnA Tryz.prog Tryz.f128 [0,1,4,5,9]=some eY:=by kernel_rfl
abbrev bQ.fr:=fr12
def bQ.b3:IR:=(.reg [iWl 6 (.alloc [.zf,(.bool false)]),.w .none none (.store 2 aT6 bP)])
def bQ.b6:IR:=(.reg [.s (.load aT5),iSm 7,.w .push none (.yg 1 1 [.zf] [(0,1,aS0)]),.w .push none (.app 1 24 aS2 aS0),.w .none none (.store 1 aT5 aS0)])
def bQ.g5 (X6:IR):IR:=(iSr [.s (.zi 2 aT6),.s (.load aT2),iCa 65 [aS1,aS0],iQm 7 0] (.seq (iSr [iSm 7,iWl 11 (.call (.c (.fn 66 (.of 66) [])) [aS0,(.c (.fn 67 (.of 67) []))])] (.cond rV (iSr [.w .none none (.store 1 aT3 (.c .zf)),.w .none none (.store 1 aT4 aC3)] .ret) .skip)) X6))
def bQ.b5:IR:=bQ.g5 bQ.b6
def bQ.g4 (X5:IR):IR:=(.block 1 X5)
def bQ.b4:IR:=bQ.g4 bQ.b5
def bQ.g2 (X3 X4:IR):IR:=(.rf aT8 [(.of 9),(.of 10)] X3 X4)
def bQ.b2:IR:=bQ.g2 bQ.b3 bQ.b4
def bQ.g1 (X2:IR):IR:=(.block 0 X2)
def bQ.b1:IR:=bQ.g1 bQ.b2
def bQ.b7:IR:=(iSr [.s (.load aT5),.w .push none (.call (.c (.fn 188 (.of 188) [])) [aS0,(.c (.fn 161 (.of 161) []))])] (iSr [.s (.load aT5),.w .push none (.call (.c (.fn 189 (.of 189) [])) [aS0,(.c (.fn 190 (.of 190) []))]),.w .none none (.store 1 aT3 aS0),.w .none none (.store 1 aT4 aC0)] .ret))
def bQ.g0 (X1 X7:IR):IR:=(iSr [iWl 2 (.box aT1),iWl 3 (.alloc [.zf]),iWl 4 (.alloc [(I 0)])] (iSr [iWl 5 (.alloc [.zf])] (.seq (iSr [iSm 0,iWl 8 (.call (.c (.fn 86 (.of 86) [])) [aS0])] X1) X7)))
def bQ.b0:IR:=bQ.g0 bQ.b1 bQ.b7
def bQ.res:List RV:=[.cell (.of 3) none,.cell (.of 4) none]
def bQ:Fn:={ params:=[(.of 0),(.of 1)],res:=bQ.res,body:=bQ.b0,init:=in12 }
theorem bQ.ok:fnA Tryz.prog Tryz.f129 [0,1,3,4,5,6,8,9,11,12,13,18]=some bQ:=by kernel_rfl
abbrev F131.fr:=fr4
def F131.b0:IR:=(iSr [iQo 3 (.mv (.c (.bool false)))] (iSr [iSm 0,.s (.load aT1),.s (.bin .lss .int aS1 aS0),.s (.mv aS0),iPf 0 (.mv aT0),iPf 1 (.load aT2),iPf 2 (.bin .gtr .int aS1 aS0),.s (.pick aS3 (.c (.bool true)) aS0),iQm 3 0] .ret))
def F131.res:List RV:=[.t (.of 3)]
def F131:Fn:={ params:=[(.of 0),(.of 1),(.of 2)],res:=F131.res,body:=F131.b0,init:=in4 }
theorem F131.ok:fnA Tryz.prog Tryz.f131 [0,1,2,4]=some F131:=by kernel_rfl
abbrev vw.fr:=fr14
def vw.b7:IR:=(iSr [iSm 11,.s (.zo 1 aT9 rV),.s (.load aS0),iQm 5 2,iQm 6 0] (iSr [iSm 6,.s (.bin .lss .int aS0 aC0),.s (.mv aS0),iPf 0 (.mv aT6),iPf 1 (.zn 0 aT2),iPf 2 (.load aS0),iPf 3 (.bin .geq .int aS2 aS0),.s (.pick aS4 (.c (.bool true)) aS0),iCa 44 [aS0,aC10],iSm 5,.s (.bin .gtr .int aS0 aC0),.s (.mv aS0),iPt 0 (.load aT4),iPt 1 (.mv aT5),iPt 2 (.bin .sub .int aS0 aC1),iPt 3 (.zo 1 aS2 aS0),iPt 4 (.load aS0),iPt 5 (.mv aT6),iPt 6 (.bin .geq .int aS1 aS0),.s (.pick aS7 aS0 (.c (.bool false))),iCa 44 [aS0,aC11],.w .push none (.yg 1 2 [(I 0)] [(0,1,aS12),(1,1,aS0)]),iCa 42 [aS0],iQm 7 0] (iSr [iSm 7,iQo 13 (.bin .neq .int aS0 aC0)] (.cond rD (iSr [iSm 7,iQm 3 0] .ret) .skip))))
def vw.g6 (X7:IR):IR:=(.block 1 X7)
def vw.b6:IR:=vw.g6 vw.b7
def vw.b8:IR:=(.reg [.s (.bin .add .int rV aC1),iQm 11 0])
def vw.g5 (X6 X8:IR):IR:=(.seq X6 X8)
def vw.b5:IR:=vw.g5 vw.b6 vw.b8
def vw.g4 (X5:IR):IR:=(iSr [iQo 12 (.bin .lss .int rV bP)] (.seq (.cond eX .skip (.exit 0)) X5))
def vw.b4:IR:=vw.g4 vw.b5
def vw.g3 (X4:IR):IR:=(.loop X4)
def vw.b3:IR:=vw.g3 vw.b4
def vw.g2 (X3:IR):IR:=(.block 0 X3)
def vw.b2:IR:=vw.g2 vw.b3
def vw.b9:IR:=(iSr [.s (.zn 1 aT2),.s (.load aS0),iSm 1,.s (.slice 1 aS1 none (some aS0) none),.s (.fn 197 (.of 197) [aT4]),iCa 196 [aS1,aS0],iCa 44 [aS0,aC9],iQm 3 0] .ret)
def vw.g1 (X2 X9:IR):IR:=(.seq (iSr [iQo 9 (.load aT4),iQo 10 (.len aT9),iQo 11 (.mv aC0)] X2) X9)
def vw.b1:IR:=vw.g1 vw.b2 vw.b9
def vw.g0 (X1:IR):IR:=(iSr [iWl 2 (.box aT0),iQo 3 (.mv aC0)] (iSr [.s (.zn 1 aT2),.s (.load aS0),iSm 1,.s (.zo 1 aS1 aS0),.s (.load aS0),iWl 4 (.alloc [.zf]),.w .none none (.store 1 aT4 aS0)] (.seq (iSr [.s (.load aT4),.s (.len aS0),iQo 8 (.bin .eql .int aS0 aC0)] (.cond aT8 (iSr [iQo 3 (.mv aC12)] .ret) .skip)) X1)))
def vw.b0:IR:=vw.g0 vw.b1
def vw.res:List RV:=[.t (.of 3)]
def vw:Fn:={ params:=[(.of 0),(.of 1)],res:=vw.res,body:=vw.b0,init:=in14 }
theorem vw.ok:fnA Tryz.prog Tryz.f136 [0,1,2,4,5,6,7,8,16,17,18,19,20,48]=some vw:=by kernel_rfl
abbrev bF.fr:=fr10
def bF.b6:IR:=(iSr [.s (.zo 1 aT6 aT8),.s (.load aS0),iQm 5 0] (.reg [iSm 4,iSm 0,iSm 5,.s (.zo 1 aS1 aS0),.s (.load aS0),.w .push none (.yg 1 1 [(I 0)] [(0,1,aS0)]),.w .push none (.app 1 8 aS5 aS0),iQm 4 0]))
def bF.g5 (X6:IR):IR:=(.block 1 X6)
def bF.b5:IR:=bF.g5 bF.b6
def bF.b7:IR:=(.reg [.s (.bin .add .int aT8 aC1),iQm 8 0])
def bF.g4 (X5 X7:IR):IR:=(.seq X5 X7)
def bF.b4:IR:=bF.g4 bF.b5 bF.b7
def bF.g3 (X4:IR):IR:=(iSr [iQo 9 (.bin .lss .int aT8 aT7)] (.seq (.cond aT9 .skip (.exit 0)) X4))
def bF.b3:IR:=bF.g3 bF.b4
def bF.g2 (X3:IR):IR:=(.loop X3)
def bF.b2:IR:=bF.g2 bF.b3
def bF.g1 (X2:IR):IR:=(.block 0 X2)
def bF.b1:IR:=bF.g1 bF.b2
def bF.b8:IR:=(iSr [iSm 4,iCa 138 [aS0]] (.seq (.yh [] [(.s (.load aT2),1,[]),(iSm 4,0,[]),(.s (.build [.zf,(.bool false)] [(0,1,aS0)]),0,[]),(iCa 112 [aS0],0,[]),(.s (.look .str (.bool false) false aS3 aS0),0,[]),(iQm 3 0,0,[])]) .ret))
def bF.g0 (X1 X8:IR):IR:=(iSr [iQo 3 (.mv (.c (.bool false)))] (iSr [iQo 4 (.mv (.c .zf))] (.seq (iSr [iQo 6 (.mv aT1),iQo 7 (.len aT6),iQo 8 (.mv aC0)] X1) X8)))
def bF.b0:IR:=bF.g0 bF.b1 bF.b8
def bF.res:List RV:=[.t (.of 3)]
def bF:Fn:={ params:=[(.of 0),(.of 1),(.of 2)],res:=bF.res,body:=bF.b0,init:=in10 }
theorem bF.ok:fnA Tryz.prog Tryz.f137 [0,1,2,5,6,8,9,10,11,12]=some bF:=by kernel_rfl
abbrev F138.fr:=fr2
def F138.b0:IR:=(iSr [iSm 0,.s (.len aS0),iQm 1 0] (.reg [iSm 0,iSm 1,iSm 1,.s (.conv .u64 aS0),iCa 178 [aS0],iCa 198 [aS4,aC0,aS3,aS0]]))
def F138.res:List RV:=[]
def F138:Fn:={ params:=[(.of 0)],res:=F138.res,body:=F138.b0,init:=in2 }
theorem F138.ok:fnA Tryz.prog Tryz.f138 [0,2]=some F138:=by kernel_rfl
abbrev yx.fr:=fr7
def yx.b8:IR:=(.reg [iSm 2,iSm 0,iSm 3,.s (.zo 1 aS1 aS0),.s (.load aS0),.s (.zo 1 aS4 aS0),.w .none none (.store 1 aS0 (.c (.bool true)))])
def yx.g7 (X8:IR):IR:=(.seq (iSr [iSm 0,iSm 3,.s (.zo 1 aS1 aS0),.s (.load aS0),.s (.bin .lss .int aS0 aC0),.s (.mv aS0),iPf 0 (.mv aT0),iPf 1 (.mv aT3),iPf 2 (.zo 1 aS1 aS0),iPf 3 (.load aS0),iPf 4 (.mv aT0),iPf 5 (.len aS0),iPf 6 (.bin .geq .int aS2 aS0),.s (.pick aS7 (.c (.bool true)) aS0),.s (.mv aS0),iPf 0 (.mv aT2),iPf 1 (.mv aT0),iPf 2 (.mv aT3),iPf 3 (.zo 1 aS1 aS0),iPf 4 (.load aS0),iPf 5 (.zo 1 aS4 aS0),iPf 6 (.load aS0),iQo 6 (.pick aS7 (.c (.bool true)) aS0)] (.cond aT6 (iSr [iQo 1 (.mv aC14)] .ret) .skip)) X8)
def yx.b7:IR:=yx.g7 yx.b8
def yx.g6 (X7:IR):IR:=(.block 1 X7)
def yx.b6:IR:=yx.g6 yx.b7
def yx.b9:IR:=(.reg [iSm 3,.s (.bin .add .int aS0 aC1),iQm 3 0])
def yx.g5 (X6 X9:IR):IR:=(.seq X6 X9)
def yx.b5:IR:=yx.g5 yx.b6 yx.b9
def yx.g4 (X5:IR):IR:=(.seq (iSr [iSm 3,iSm 0,.s (.len aS0),iQo 5 (.bin .lss .int aS2 aS0)] (.cond aT5 .skip (.exit 0))) X5)
def yx.b4:IR:=yx.g4 yx.b5
def yx.g3 (X4:IR):IR:=(.loop X4)
def yx.b3:IR:=yx.g3 yx.b4
def yx.g2 (X3:IR):IR:=(.block 0 X3)
def yx.b2:IR:=yx.g2 yx.b3
def yx.b10:IR:=(iSr [iQo 1 (.mv aC0)] .ret)
def yx.g1 (X2 X10:IR):IR:=(iSr [iSm 0,.s (.len aS0),.w .push none (.ql 1 1 [(.bool false)] aS0 aS0),iQm 2 0] (.seq (iSr [iQo 3 (.mv aC0)] X2) X10))
def yx.b1:IR:=yx.g1 yx.b2 yx.b10
def yx.g0 (X1:IR):IR:=(iSr [iQo 1 (.mv aC0)] (.seq (iSr [iSm 0,.s (.len aS0),iQo 4 (.bin .gtr .int aS0 zcf)] (.cond aT4 (iSr [iQo 1 (.mv aC5)] .ret) .skip)) X1))
def yx.b0:IR:=yx.g0 yx.b1
def yx.res:List RV:=[.t (.of 1)]
def yx:Fn:={ params:=[(.of 0)],res:=yx.res,body:=yx.b0,init:=in7 }
theorem yx.ok:fnA Tryz.prog Tryz.f139 [0,2,3,4,7,14,39]=some yx:=by kernel_rfl
abbrev jg.fr:=fr6
def jg.b6:IR:=(.seq (.yh [] [(iSm 0,0,[]),(iSm 3,0,[]),(.s (.zo 1 aS1 aS0),0,[]),(.s (.load aS0),0,[]),(iSm 1,0,[]),(iSm 3,0,[]),(.s (.zo 1 aS1 aS0),0,[]),(.s (.load aS0),0,[]),(iQo 5 (.bin .neq .int aS4 aS0),0,[])]) (.cond aT5 (.seq (.yh [] [(iSm 0,0,[]),(iSm 3,0,[]),(.s (.zo 1 aS1 aS0),0,[]),(.s (.load aS0),0,[]),(iSm 1,0,[]),(iSm 3,0,[]),(.s (.zo 1 aS1 aS0),0,[]),(.s (.load aS0),0,[]),(.s (.bin .lss .int aS4 aS0),0,[]),(iQm 2 0,0,[])]) .ret) .skip))
def jg.g5 (X6:IR):IR:=(.block 1 X6)
def jg.b5:IR:=jg.g5 jg.b6
def jg.b7:IR:=(.reg [iSm 3,.s (.bin .add .int aS0 aC1),iQm 3 0])
def jg.g4 (X5 X7:IR):IR:=(.seq X5 X7)
def jg.b4:IR:=jg.g4 jg.b5 jg.b7
def jg.g3 (X4:IR):IR:=(.seq (iSr [iSm 3,iSm 0,.s (.len aS0),.s (.bin .lss .int aS2 aS0),.s (.mv aS0),iPt 0 (.mv aT3),iPt 1 (.mv aT1),iPt 2 (.len aS0),iPt 3 (.bin .lss .int aS2 aS0),iQo 4 (.pick aS4 aS0 (.c (.bool false)))] (.cond aT4 .skip (.exit 0))) X4)
def jg.b3:IR:=jg.g3 jg.b4
def jg.g2 (X3:IR):IR:=(.loop X3)
def jg.b2:IR:=jg.g2 jg.b3
def jg.g1 (X2:IR):IR:=(.block 0 X2)
def jg.b1:IR:=jg.g1 jg.b2
def jg.b8:IR:=(iSr [iSm 0,.s (.len aS0),iSm 1,.s (.len aS0),.s (.bin .lss .int aS2 aS0),iQm 2 0] .ret)
def jg.g0 (X1 X8:IR):IR:=(iSr [iQo 2 (.mv (.c (.bool false)))] (.seq (iSr [iQo 3 (.mv aC0)] X1) X8))
def jg.b0:IR:=jg.g0 jg.b1 jg.b8
def jg.res:List RV:=[.t (.of 2)]
def jg:Fn:={ params:=[(.of 0),(.of 1)],res:=jg.res,body:=jg.b0,init:=in6 }
theorem jg.ok:fnA Tryz.prog Tryz.f140 [0,1,4,5,15,26]=some jg:=by kernel_rfl
abbrev aJ.fr:=fr5
def aJ.b0:IR:=(iSr [iWl 2 (.box aT0),iWl 3 (.box aT1),iQo 4 (.mv (.c (.bool false)))] (iSr [.s (.zn 1 aT2),.s (.load aS0),.s (.zn 1 aT3),.s (.load aS0),.s (.bin .eql .bool aS2 aS0),.s (.mv aS0),iPt 0 (.zn 0 aT2),iPt 1 (.load aS0),iPt 2 (.zn 0 aT3),iPt 3 (.load aS0),.w .push (some (aS4,true)) (.call (.c (.fn 24 (.of 24) [])) [aS2,aS0]),.s (.pick aS5 aS0 (.c (.bool false))),iQm 4 0] .ret))
def aJ.res:List RV:=[.t (.of 4)]
def aJ:Fn:={ params:=[(.of 0),(.of 1)],res:=aJ.res,body:=aJ.b0,init:=in5 }
theorem aJ.ok:fnA Tryz.prog Tryz.f141 [0,1,2,3,4]=some aJ:=by kernel_rfl
abbrev gq.fr:=fr6
def gq.b6:IR:=(.reg [iSm 3,iSm 0,iSm 1,iSm 4,.s (.zo 1 aS1 aS0),.s (.load aS0),.s (.zo 1 aS4 aS0),.s (.load aS0),.w .push none (.yg 1 1 [(I 0)] [(0,1,aS0)]),.w .push none (.app 1 8 aS8 aS0),iQm 3 0])
def gq.g5 (X6:IR):IR:=(.block 1 X6)
def gq.b5:IR:=gq.g5 gq.b6
def gq.b7:IR:=(.reg [iSm 4,.s (.bin .add .int aS0 aC1),iQm 4 0])
def gq.g4 (X5 X7:IR):IR:=(.seq X5 X7)
def gq.b4:IR:=gq.g4 gq.b5 gq.b7
def gq.g3 (X4:IR):IR:=(.seq (iSr [iSm 4,iSm 1,.s (.len aS0),iQo 5 (.bin .lss .int aS2 aS0)] (.cond aT5 .skip (.exit 0))) X4)
def gq.b3:IR:=gq.g3 gq.b4
def gq.g2 (X3:IR):IR:=(.loop X3)
def gq.b2:IR:=gq.g2 gq.b3
def gq.g1 (X2:IR):IR:=(.block 0 X2)
def gq.b1:IR:=gq.g1 gq.b2
def gq.b8:IR:=(iSr [iSm 3,iQm 2 0] .ret)
def gq.g0 (X1 X8:IR):IR:=(iSr [iQo 2 (.mv (.c .zf))] (iSr [iQo 3 (.mv (.c .zf))] (.seq (iSr [iQo 4 (.mv aC0)] X1) X8)))
def gq.b0:IR:=gq.g0 gq.b1 gq.b8
def gq.res:List RV:=[.t (.of 2)]
def gq:Fn:={ params:=[(.of 0),(.of 1)],res:=gq.res,body:=gq.b0,init:=in6 }
theorem gq.ok:fnA Tryz.prog Tryz.f142 [0,1,4,5,6,10]=some gq:=by kernel_rfl
abbrev yu.fr:=fr20
def yu.b5:IR:=(iSr [iQo 8 (.mv aW)] (.reg [iWl 9 (.alloc [.zf,(.bool false)]),.w .none none (.store 2 aT9 aC)]))
def yu.b7:IR:=(.seq (.yh [] [(iSm 8,0,[]),(.s (.bin .gtr .int aS0 aC0),0,[]),(.s (.mv aS0),0,[]),(iPt 0 (.load aT2),0,[]),(iPt 1 (.mv aT8),0,[]),(iPt 2 (.bin .sub .int aS0 aC1),0,[]),(iPt 3 (.zo 2 aS2 aS0),0,[]),(iPt 4 (.zi 2 aS0),0,[]),(iPt 5 (.zi 2 aT9),0,[]),(.w .push (some (aS6,true)) (.call (.c (.fn 114 (.of 114) [])) [aS1,aS0]),0,[]),(iPt 7 (.bin .geq .int aS0 aC0),0,[]),(iQo 18 (.pick aS8 aS0 (.c (.bool false))),0,[])]) (.cond aT18 (iSr [.w .none none (.store 1 aT3 (.c .qc)),.w .none none (.store 1 aT4 (.c .zf)),.w .none none (.store 1 aT5 aC11)] .ret) .skip))
def yu.g6 (X7:IR):IR:=(.block 1 X7)
def yu.b6:IR:=yu.g6 yu.b7
def yu.g4 (X5 X6:IR):IR:=(.rf oO [(.of 16),(.of 17)] X5 X6)
def yu.b4:IR:=yu.g4 yu.b5 yu.b6
def yu.g3 (X4:IR):IR:=(.block 0 X4)
def yu.b3:IR:=yu.g3 yu.b4
def yu.b9:IR:=(iSr [iSm 10,iSm 11,.w .none none (.store 1 aT3 aS1),.w .none none (.store 1 aT4 aS0),.w .none none (.store 1 aT5 aC0)] .ret)
def yu.g8 (X9:IR):IR:=(iSr [.s (.load aT2),iSm 1,.s (.load aT2),.s (.len aS0),iCa 200 [aS3,aS2,aS0],.s (.mv aS0),.s (.ext 0 aS0),.s (.ext 1 aS1),.s (.ext 2 aS2),iQm 10 2,iQm 11 1,iQm 12 0] (.seq (iSr [iSm 12,.s (.not aS0),.s (.mv aS0),iPf 0 (.mv bP),iPf 1 (.mlen aS0),iPf 2 (.load aT2),iPf 3 (.len aS0),iPf 4 (.bin .neq .int aS2 aS0),iQo 19 (.pick aS5 (.c (.bool true)) aS0)] (.cond tK (iSr [.w .none none (.store 1 aT3 (.c .qc)),.w .none none (.store 1 aT4 (.c .zf)),.w .none none (.store 1 aT5 aC28)] .ret) .skip)) X9))
def yu.b8:IR:=yu.g8 yu.b9
def yu.g2 (X3 X8:IR):IR:=(.seq (iSr [.s (.load aT2),iWl 15 (.call (.c (.fn 86 (.of 86) [])) [aS0])] X3) X8)
def yu.b2:IR:=yu.g2 yu.b3 yu.b8
def yu.g1 (X2:IR):IR:=(.seq (iSr [.s (.load aT2),iSm 1,iCa 199 [aS1,aS0],iQm 7 0] (iSr [iSm 7,iQo 14 (.bin .neq .int aS0 aC0)] (.cond tJ (iSr [iSm 7,.w .none none (.store 1 aT3 (.c .qc)),.w .none none (.store 1 aT4 (.c .zf)),.w .none none (.store 1 aT5 aS0)] .ret) .skip))) X2)
def yu.b1:IR:=yu.g1 yu.b2
def yu.g0 (X1:IR):IR:=(iSr [iWl 2 (.box aT0),iWl 3 (.alloc [.qc]),iWl 4 (.alloc [.zf]),iWl 5 (.alloc [(I 0)])] (.seq (.seq (.yh [] [(iSm 1,0,[]),(.s (.load aT2),1,[]),(.s (.len aS0),1,[]),(.s (.bin .eql .int aS0 aC0),1,[]),(.s (.load aT2),2,[]),(.s (.len aS0),2,[]),(.s (.bin .gtr .int aS0 zhn),2,[]),(iCa 125 [aS6],0,[]),(iCa 76 [aS4,aC12],0,[]),(iCa 76 [aS2,aC5],0,[]),(.w .push none (.yg 1 3 [(I 0)] [(0,1,aS2),(1,1,aS1),(2,1,aS0)]),0,[]),(iCa 72 [aS0],0,[]),(iQm 6 0,0,[])]) (iSr [iSm 6,iQo 13 (.bin .neq .int aS0 aC0)] (.cond rD (iSr [iSm 6,.w .none none (.store 1 aT3 (.c .qc)),.w .none none (.store 1 aT4 (.c .zf)),.w .none none (.store 1 aT5 aS0)] .ret) .skip))) X1))
def yu.b0:IR:=yu.g0 yu.b1
def yu.res:List RV:=[.cell (.of 3) none,.cell (.of 4) none,.cell (.of 5) none]
def yu:Fn:={ params:=[(.of 0),(.of 1)],res:=yu.res,body:=yu.b0,init:=in20 }
theorem yu.ok:fnA Tryz.prog Tryz.f143 [0,1,2,4,5,6,7,8,9,10,11,12,13,27,33,36,37,38,50,68]=some yu:=by kernel_rfl
abbrev ku.fr:=fr9
def ku.b6:IR:=(iSr [iSm 6,.s (.zo 2 aT4 aT6),.s (.zi 2 aS0),iWl 3 (.alloc [.zf,(.bool false)]),iQm 2 2,.w .none none (.store 2 aT3 aS0)] (iSr [iSm 0,iSm 2,.s (.zi 2 aT3),.w .push none (.call aS2 [aS1,aS0]),iQo 8 (.not aS0)] (.cond aT8 .ret .skip)))
def ku.g5 (X6:IR):IR:=(.block 1 X6)
def ku.b5:IR:=ku.g5 ku.b6
def ku.b7:IR:=(.reg [.s (.bin .add .int aT6 aC1),iQm 6 0])
def ku.g4 (X5 X7:IR):IR:=(.seq X5 X7)
def ku.b4:IR:=ku.g4 ku.b5 ku.b7
def ku.g3 (X4:IR):IR:=(iSr [iQo 7 (.bin .lss .int aT6 aT5)] (.seq (.cond aT7 .skip (.exit 0)) X4))
def ku.b3:IR:=ku.g3 ku.b4
def ku.g2 (X3:IR):IR:=(.loop X3)
def ku.b2:IR:=ku.g2 ku.b3
def ku.g1 (X2:IR):IR:=(.block 0 X2)
def ku.b1:IR:=ku.g1 ku.b2
def ku.g0 (X1:IR):IR:=(iSr [iQo 4 (.load aT1),iQo 5 (.len aT4),iQo 6 (.mv aC0)] X1)
def ku.b0:IR:=ku.g0 ku.b1
def ku.res:List RV:=[]
def ku:Fn:={ params:=[(.of 0),(.of 1)],res:=ku.res,body:=ku.b0,init:=in9 }
theorem ku.ok:fnA Tryz.prog Tryz.f144 [0,1,3,4,5,6,7,8,16]=some ku:=by kernel_rfl
abbrev rW.fr:=fr6
def rW.b2:IR:=(iSr [.s (.zn 1 aT1),.s (.load aS0),.s (.bin .neq (.nil .sl) aS0 (.c .zf)),iQm 4 0] (.cond aT4 (.seq (.yh [] [(.s (.zn 0 aT1),0,[]),(.s (.load aS0),0,[]),(.s (.bin .lss .int aS0 aC0),0,[]),(.s (.zn 1 aT1),0,[]),(.s (.load aS0),0,[]),(iQm 2 2,0,[]),(iQm 3 0,0,[])]) .ret) (iSr [.s (.zn 0 aT1),.s (.load aS0),.s (.bin .eql .int aS0 aC0),iQm 5 0] (.cond aT5 (iSr [iQo 2 (.mv (.c (.bool false))),iQo 3 (.mv (.c .zf))] .ret) .skip))))
def rW.g1 (X2:IR):IR:=(.block 0 X2)
def rW.b1:IR:=rW.g1 rW.b2
def rW.b3:IR:=(.seq (.yh [] [(.s (.zn 0 aT1),2,[]),(.s (.load aS0),2,[]),(.s (.bin .lss .int aS0 aC0),2,[]),(.s (.zn 0 aT1),0,[]),(.s (.load aS0),0,[]),(iCa 201 [aS0],0,[]),(iQm 2 3,1,[]),(.w .push none (.yg 1 1 [(.int .u64 0)] [(0,1,aS0)]),0,[]),(iQm 3 0,0,[])]) .ret)
def rW.g0 (X1 X3:IR):IR:=(iSr [iWl 1 (.box aT0),iQo 2 (.mv (.c (.bool false))),iQo 3 (.mv (.c .zf))] (.seq X1 X3))
def rW.b0:IR:=rW.g0 rW.b1 rW.b3
def rW.res:List RV:=[.t (.of 2),.t (.of 3)]
def rW:Fn:={ params:=[(.of 0)],res:=rW.res,body:=rW.b0,init:=in6 }
theorem rW.ok:fnA Tryz.prog Tryz.f145 [0,1,2,3,4,13]=some rW:=by kernel_rfl
abbrev zh.fr:=fr13
def zh.b12:IR:=(iSr [iSm 4,iSm 7,.s (.zo 1 aS1 aS0),.w .none none (.store 1 aS0 (.c (.bool true)))] (.reg [iSm 6,.s (.bin .add .int aS0 aC1),iQm 6 0]))
def zh.g11 (X12:IR):IR:=(.block 3 X12)
def zh.b11:IR:=zh.g11 zh.b12
def zh.b13:IR:=(.reg [.s (.zn 0 aT1),.s (.load aS0),iSm 7,.s (.zo 1 aS1 aS0),.s (.load aS0),iQm 7 0])
def zh.g10 (X11 X13:IR):IR:=(.seq X11 X13)
def zh.b10:IR:=zh.g10 zh.b11 zh.b13
def zh.g9 (X10:IR):IR:=(.seq (iSr [iSm 4,iSm 7,.s (.zo 1 aS1 aS0),.s (.load aS0),iQo 11 (.not aS0)] (.cond rV .skip (.exit 2))) X10)
def zh.b9:IR:=zh.g9 zh.b10
def zh.g8 (X9:IR):IR:=(.loop X9)
def zh.b8:IR:=zh.g8 zh.b9
def zh.g7 (X8:IR):IR:=(.block 2 X8)
def zh.b7:IR:=zh.g7 zh.b8
def zh.b14:IR:=(iSr [iSm 6,iQo 12 (.bin .gtr .int aS0 aC0)] (.cond eX (.reg [iSm 3,iSm 6,.w .push none (.yg 1 1 [(I 0)] [(0,1,aS0)]),.w .push none (.app 1 8 aS2 aS0),iQm 3 0]) .skip))
def zh.g6 (X7 X14:IR):IR:=(iSr [iSm 9,iQm 5 0] (iSr [iQo 6 (.mv aC0)] (.seq (iSr [iSm 5,iQm 7 0] X7) X14)))
def zh.b6:IR:=zh.g6 zh.b7 zh.b14
def zh.g5 (X6:IR):IR:=(.block 1 X6)
def zh.b5:IR:=zh.g5 zh.b6
def zh.b15:IR:=(.reg [.s (.bin .add .int aT9 aC1),iQm 9 0])
def zh.g4 (X5 X15:IR):IR:=(.seq X5 X15)
def zh.b4:IR:=zh.g4 zh.b5 zh.b15
def zh.g3 (X4:IR):IR:=(iSr [iQo 10 (.bin .lss .int aT9 aT8)] (.seq (.cond bP .skip (.exit 0)) X4))
def zh.b3:IR:=zh.g3 zh.b4
def zh.g2 (X3:IR):IR:=(.loop X3)
def zh.b2:IR:=zh.g2 zh.b3
def zh.g1 (X2:IR):IR:=(.block 0 X2)
def zh.b1:IR:=zh.g1 zh.b2
def zh.b16:IR:=(iSr [iSm 3,iQm 2 0] .ret)
def zh.g0 (X1 X16:IR):IR:=(iSr [iWl 1 (.box aT0),iQo 2 (.mv (.c .zf))] (iSr [iQo 3 (.mv (.c .zf))] (iSr [.s (.zn 0 aT1),.s (.load aS0),.s (.len aS0),.w .push none (.ql 1 1 [(.bool false)] aS0 aS0),iQm 4 0] (.seq (iSr [.s (.zn 0 aT1),.s (.load aS0),iQo 8 (.len aS0),iQo 9 (.mv aC0)] X1) X16))))
def zh.b0:IR:=zh.g0 zh.b1 zh.b16
def zh.res:List RV:=[.t (.of 2)]
def zh:Fn:={ params:=[(.of 0)],res:=zh.res,body:=zh.b0,init:=in13 }
theorem zh.ok:fnA Tryz.prog Tryz.f150 [0,1,2,3,4,5,6,7,14,15,16,23,35]=some zh:=by kernel_rfl
abbrev aF.fr:=fr14
def aF.b1:IR:=(iSr [iSm 6,.s (.conv .i64 aS0),.s (.build [(I 0),.zf] [(0,1,aS0)]),.w .none none (.store 2 aT4 aS0)] .ret)
def aF.b2:IR:=(iSr [.s (.zi 2 aT2),iCa 145 [aS0],.s (.mv aS0),.s (.ext 0 aS0),.s (.ext 1 aS1),iQm 7 1,iQm 8 0] (iSr [.s (.zi 2 aT3),iCa 145 [aS0],.s (.mv aS0),.s (.ext 0 aS0),.s (.ext 1 aS1),iQm 9 1,iQm 10 0] (iSr [iSm 7,iSm 9,.s (.bin .neq .bool aS1 aS0),iSm 8,iSm 10,iCa 206 [aS1,aS0],iCa 146 [aS3,aS0],.w .none none (.store 2 aT4 aS0)] .ret)))
def aF.g0 (X1 X2:IR):IR:=(iSr [iWl 2 (.box aT0),iWl 3 (.box aT1),iWl 4 (.alloc [(I 0),.zf])] (.seq (iSr [.s (.zn 1 aT2),.s (.load aS0),.s (.bin .eql (.nil .sl) aS0 (.c .zf)),.s (.mv aS0),iPt 0 (.zn 1 aT3),iPt 1 (.load aS0),iPt 2 (.bin .eql (.nil .sl) aS0 (.c .zf)),iQo 11 (.pick aS3 aS0 (.c (.bool false)))] (.cond rV (.seq (.yh [] [(.s (.zn 0 aT2),0,[]),(.s (.load aS0),0,[]),(.s (.zn 0 aT3),1,[]),(.s (.load aS0),1,[]),(iCa 201 [aS2],0,[]),(iCa 201 [aS1],0,[]),(iCa 205 [aS1,aS0],0,[]),(.s (.mv aS0),0,[]),(.s (.ext 0 aS0),0,[]),(.s (.ext 1 aS1),0,[]),(iQm 5 1,0,[]),(iQm 6 0,0,[])]) (iSr [iSm 5,.s (.bin .eql .int aS0 (.c (.int .u64 0))),.s (.mv aS0),iPt 0 (.mv aT6),iPt 1 (.bin .leq .int aS0 (.c (.int .u64 9223372036854775807))),iQo 12 (.pick aS2 aS0 (.c (.bool false)))] (.cond eX (.seq (iSr [.s (.zn 0 aT2),.s (.load aS0),.s (.bin .lss .int aS0 aC0),.s (.zn 0 aT3),.s (.load aS0),.s (.bin .lss .int aS0 aC0),iQo 13 (.bin .neq .bool aS3 aS0)] (.cond rD (iSr [iSm 6,.s (.conv .i64 aS0),.s (.neg aS0),.s (.build [(I 0),.zf] [(0,1,aS0)]),.w .none none (.store 2 aT4 aS0)] .ret) .skip)) X1) .skip))) .skip)) X2))
def aF.b0:IR:=aF.g0 aF.b1 aF.b2
def aF.res:List RV:=[.cell (.of 4) (some 2)]
def aF:Fn:={ params:=[(.of 0),(.of 1)],res:=aF.res,body:=aF.b0,init:=in14 }
theorem aF.ok:fnA Tryz.prog Tryz.f151 [0,1,2,3,4,5,6,7,8,9,10,18,34,41]=some aF:=by kernel_rfl
abbrev qx.fr:=fr3
def qx.b0:IR:=(iSr [iWl 1 (.box aT0),iQo 2 (.mv aC0)] (iSr [.s (.zn 0 aT1),.s (.load aS0),.s (.rY false aC1 [aS0]),.s (.rY true (.c (I (-1))) [aS0]),iQm 2 0] .ret))
def qx.res:List RV:=[.t (.of 2)]
def qx:Fn:={ params:=[(.of 0)],res:=qx.res,body:=qx.b0,init:=in3 }
theorem qx.ok:fnA Tryz.prog Tryz.f152 [0,1,2]=some qx:=by kernel_rfl
abbrev yc.fr:=fr18
def yc.b1:IR:=(iSr [iSm 6,.s (.build [(I 0),.zf] [(0,1,aS0)]),iSm 7,.s (.build [(I 0),.zf] [(0,1,aS0)]),.w .none none (.store 2 aT4 aS2),.w .none none (.store 2 aT5 aS0)] .ret)
def yc.b3:IR:=(.seq (.yh [] [(.s (.zi 2 rD),0,[]),(.s (.zi 2 tJ),1,[]),(.w .none none (.store 2 aT4 aS1),0,[]),(.w .none none (.store 2 aT5 aS0),0,[])]) .ret)
def yc.g2 (X3:IR):IR:=(iSr [.s (.zi 2 aT2),iCa 145 [aS0],.s (.mv aS0),.s (.ext 0 aS0),.s (.ext 1 aS1),iQm 8 1,iQm 9 0] (iSr [.s (.zi 2 aT3),iCa 145 [aS0],.s (.mv aS0),.s (.ext 0 aS0),.s (.ext 1 aS1),.s (.mv aS1),iQm 10 1] (iSr [iSm 9,iSm 10,iCa 207 [aS1,aS0],.s (.mv aS0),.s (.ext 0 aS0),.s (.ext 1 aS1),iQm 11 1,iQm 12 0] (iSr [iSm 8,iSm 11,iCa 146 [aS1,aS0],iSm 8,iSm 12,iCa 146 [aS1,aS0],iWl 13 (.alloc [(I 0),.zf]),iWl 14 (.alloc [(I 0),.zf]),.w .none none (.store 2 rD aS3),.w .none none (.store 2 tJ aS0)] (.seq (iSr [.s (.zi 2 tJ),iCa 152 [aS0],iQo 17 (.bin .lss .int aS0 aC0)] (.cond aC (.yh [] [(.s (.zi 2 rD),1,[]),(.s (.zi 2 tJ),2,[]),(.s (.zi 2 aT3),2,[]),(iCa 85 [aC1],0,[]),(iCa 208 [aS3,aS0],0,[]),(iCa 87 [aS3,aS2],0,[]),(.w .none none (.store 2 rD aS1),0,[]),(.w .none none (.store 2 tJ aS0),0,[])]) .skip)) X3)))))
def yc.b2:IR:=yc.g2 yc.b3
def yc.g0 (X1 X2:IR):IR:=(iSr [iWl 2 (.box aT0),iWl 3 (.box aT1),iWl 4 (.alloc [(I 0),.zf]),iWl 5 (.alloc [(I 0),.zf])] (.seq (iSr [.s (.zn 1 aT2),.s (.load aS0),.s (.bin .eql (.nil .sl) aS0 (.c .zf)),.s (.mv aS0),iPt 0 (.zn 1 aT3),iPt 1 (.load aS0),iPt 2 (.bin .eql (.nil .sl) aS0 (.c .zf)),.s (.pick aS3 aS0 (.c (.bool false))),.s (.mv aS0),iPt 0 (.zn 0 aT2),iPt 1 (.load aS0),iPt 2 (.bin .neq .int aS0 (.c (I (-9223372036854775808)))),iQo 15 (.pick aS3 aS0 (.c (.bool false)))] (.cond oO (.seq (.yh [] [(.s (.zn 0 aT2),0,[]),(.s (.load aS0),0,[]),(.s (.zn 0 aT3),0,[]),(.s (.load aS0),0,[]),(.s (.bin .quo .int aS2 aS0),0,[]),(.s (.zn 0 aT2),0,[]),(.s (.load aS0),0,[]),(.s (.zn 0 aT3),0,[]),(.s (.load aS0),0,[]),(.s (.bin .rem .int aS2 aS0),0,[]),(iQm 6 5,0,[]),(iQm 7 0,0,[])]) (.seq (iSr [iSm 7,iQo 16 (.bin .lss .int aS0 aC0)] (.cond aW (.yh [] [(iSm 6,0,[]),(.s (.bin .sub .int aS0 aC1),0,[]),(iSm 7,0,[]),(.s (.zn 0 aT3),0,[]),(.s (.load aS0),0,[]),(.s (.bin .add .int aS2 aS0),0,[]),(iQm 6 4,0,[]),(iQm 7 0,0,[])]) .skip)) X1)) .skip)) X2))
def yc.b0:IR:=yc.g0 yc.b1 yc.b2
def yc.res:List RV:=[.cell (.of 4) (some 2),.cell (.of 5) (some 2)]
def yc:Fn:={ params:=[(.of 0),(.of 1)],res:=yc.res,body:=yc.b0,init:=in18 }
theorem yc.ok:fnA Tryz.prog Tryz.f154 [0,1,2,3,4,5,6,7,8,9,11,12,13,14,15,28,40,75]=some yc:=by kernel_rfl
abbrev F155.fr:=fr3
def F155.b0:IR:=(iSr [iWl 1 (.box aT0),iQo 2 (.mv (.c (.bool false)))] (iSr [.s (.zi 2 aT1),iCa 209 [aS0],.s (.bin .gtr .int aS0 zs5),.s (.mv aS0),iPt 0 (.zi 2 aT1),.w .push (some (aS1,true)) (.call (.c (.fn 157 (.of 157) [])) [aS0]),.w .push (some (aS2,true)) (.call (.c (.fn 210 (.of 210) [])) [aS0,(.c (.str [45]))]),iPt 3 (.slen aS0),iPt 4 (.bin .gtr .int aS0 zvw),.s (.pick aS5 aS0 (.c (.bool false))),iQm 2 0] .ret))
def F155.res:List RV:=[.t (.of 2)]
def F155:Fn:={ params:=[(.of 0)],res:=F155.res,body:=F155.b0,init:=in3 }
theorem F155.ok:fnA Tryz.prog Tryz.f155 [0,1,2]=some F155:=by kernel_rfl
abbrev F156.fr:=fr3
def F156.b0:IR:=(iSr [iWl 1 (.box aT0),iQo 2 (.mv (.c (.bool false)))] (iSr [.s (.zn 2 aT1),.s (.zn 1 aS0),.s (.load aS0),.s (.bin .eql (.nil .sl) aS0 (.c .zf)),.s (.mv aS0),iPt 0 (.zn 2 aT1),iPt 1 (.zn 0 aS0),iPt 2 (.load aS0),iPt 3 (.bin .eql .int aS0 aC1),.s (.pick aS4 aS0 (.c (.bool false))),iQm 2 0] .ret))
def F156.res:List RV:=[.t (.of 2)]
def F156:Fn:={ params:=[(.of 0)],res:=F156.res,body:=F156.b0,init:=in3 }
theorem F156.ok:fnA Tryz.prog Tryz.f156 [0,1,2]=some F156:=by kernel_rfl
end
end Go.Ev
