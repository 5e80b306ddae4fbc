import Derived.Test.YtkjkjpmahgeneaaGreatDoorIrA
import Derived.Test.YtkjkjpmahgeneaaGreatDoorEvC
import Derived.Test.YtkjkjpmahgeneaaGreatDoorProg
import Derived.KernelRfl
set_option linter.unusedSimpArgs false
set_option linter.unusedVariables false
namespace Go.Ev
open Go Go.Proofs
set_option maxRecDepth 100000
noncomputable section

abbrev cu.fr:=fr12
def cu.b3:IR:=(.reg [iWl 6 (.alloc [.zi,(.bool false)]),.w .none none (.store 2 aT6 bI)])
def cu.b6:IR:=(.reg [.s (.load aT5),iSm 7,.w .push none (.yg 1 1 [.zi] [(0,1,aS0)]),.w .push none (.app 1 24 aS2 aS0),.w .none none (.store 1 aT5 aS0)])
def cu.g5 (X6:IR):IR:=(iSr [.s (.zh 2 aT6),.s (.load aT2),iCa 135 [aS1,aS0],iQm 7 0] (.seq (iSr [iSm 7,iWl 11 (.call (.c (.fn 136 (.of 136) [])) [aS0,(.c (.fn 137 (.of 137) []))])] (.cond ru (iSr [.w .none none (.store 1 aT3 (.c .zi)),.w .none none (.store 1 aT4 aC3)] .ret) .skip)) X6))
def cu.b5:IR:=cu.g5 cu.b6
def cu.g4 (X5:IR):IR:=(.block 1 X5)
def cu.b4:IR:=cu.g4 cu.b5
def cu.g2 (X3 X4:IR):IR:=(.rf aT8 [(.of 9),(.of 10)] X3 X4)
def cu.b2:IR:=cu.g2 cu.b3 cu.b4
def cu.g1 (X2:IR):IR:=(.block 0 X2)
def cu.b1:IR:=cu.g1 cu.b2
def cu.b7:IR:=(iSr [.s (.load aT5),.w .push none (.call (.c (.fn 200 (.of 200) [])) [aS0,(.c (.fn 201 (.of 201) []))])] (iSr [.s (.load aT5),.w .push none (.call (.c (.fn 202 (.of 202) [])) [aS0,(.c (.fn 158 (.of 158) []))]),.w .none none (.store 1 aT3 aS0),.w .none none (.store 1 aT4 aC0)] .ret))
def cu.g0 (X1 X7:IR):IR:=(iSr [iWl 2 (.box aT1),iWl 3 (.alloc [.zi]),iWl 4 (.alloc [(I 0)])] (iSr [iWl 5 (.alloc [.zi])] (.seq (iSr [iSm 0,iWl 8 (.call (.c (.fn 90 (.of 90) [])) [aS0])] X1) X7)))
def cu.b0:IR:=cu.g0 cu.b1 cu.b7
def cu.res:List RV:=[.cell (.of 3) none,.cell (.of 4) none]
def cu:Fn:={ params:=[(.of 0),(.of 1)],res:=cu.res,body:=cu.b0,init:=in12 }
theorem cu.ok:fnA Tryz.prog Tryz.f157 [0,1,3,4,5,6,8,9,11,12,13,18]=some cu:=by kernel_rfl
abbrev pz.fr:=fr9
def pz.b7:IR:=(iSr [iSm 6,iQm 3 0] (.seq (.yw [] [(iSm 0,0,[]),(iSm 3,0,[]),(.s (.zx 1 aS1 aS0),0,[]),(.s (.load aS0),0,[]),(iSm 1,0,[]),(iSm 3,0,[]),(.s (.zx 1 aS1 aS0),0,[]),(.s (.load aS0),0,[]),(iQo 8 (.bin .neq .int aS4 aS0),0,[])]) (.cond aT8 (iSr [iQo 2 (.mv (.c (.bool false)))] .ret) .skip)))
def pz.g6 (X7:IR):IR:=(.block 1 X7)
def pz.b6:IR:=pz.g6 pz.b7
def pz.b8:IR:=(.reg [.s (.bin .add .int aT6 aC1),iQm 6 0])
def pz.g5 (X6 X8:IR):IR:=(.seq X6 X8)
def pz.b5:IR:=pz.g5 pz.b6 pz.b8
def pz.g4 (X5:IR):IR:=(iSr [iQo 7 (.bin .lss .int aT6 aT5)] (.seq (.cond aT7 .skip (.exit 0)) X5))
def pz.b4:IR:=pz.g4 pz.b5
def pz.g3 (X4:IR):IR:=(.loop X4)
def pz.b3:IR:=pz.g3 pz.b4
def pz.g2 (X3:IR):IR:=(.block 0 X3)
def pz.b2:IR:=pz.g2 pz.b3
def pz.b9:IR:=(iSr [iQo 2 (.mv (.c (.bool true)))] .ret)
def pz.g1 (X2 X9:IR):IR:=(.seq (iSr [iSm 0,iQo 5 (.len aS0),iQo 6 (.mv aC0)] X2) X9)
def pz.b1:IR:=pz.g1 pz.b2 pz.b9
def pz.g0 (X1:IR):IR:=(iSr [iQo 2 (.mv (.c (.bool false)))] (.seq (iSr [iSm 0,.s (.len aS0),iSm 1,.s (.len aS0),iQo 4 (.bin .neq .int aS2 aS0)] (.cond aT4 (iSr [iQo 2 (.mv (.c (.bool false)))] .ret) .skip)) X1))
def pz.b0:IR:=pz.g0 pz.b1
def pz.res:List RV:=[.t (.of 2)]
def pz:Fn:={ params:=[(.of 0),(.of 1)],res:=pz.res,body:=pz.b0,init:=in9 }
theorem pz.ok:fnA Tryz.prog Tryz.f158 [0,1,4,5,10,12,13,14,24]=some pz:=by kernel_rfl
abbrev qm.fr:=fr9
def qm.b6:IR:=(iSr [iSm 6,.s (.zx 2 aT4 aT6),.s (.zh 2 aS0),iWl 3 (.alloc [.zi,(.bool false)]),iQm 2 2,.w .none none (.store 2 aT3 aS0)] (iSr [iSm 0,iSm 2,.s (.zh 2 aT3),.w .push none (.call aS2 [aS1,aS0]),iQo 8 (.not aS0)] (.cond aT8 .ret .skip)))
def qm.g5 (X6:IR):IR:=(.block 1 X6)
def qm.b5:IR:=qm.g5 qm.b6
def qm.b7:IR:=(.reg [.s (.bin .add .int aT6 aC1),iQm 6 0])
def qm.g4 (X5 X7:IR):IR:=(.seq X5 X7)
def qm.b4:IR:=qm.g4 qm.b5 qm.b7
def qm.g3 (X4:IR):IR:=(iSr [iQo 7 (.bin .lss .int aT6 aT5)] (.seq (.cond aT7 .skip (.exit 0)) X4))
def qm.b3:IR:=qm.g3 qm.b4
def qm.g2 (X3:IR):IR:=(.loop X3)
def qm.b2:IR:=qm.g2 qm.b3
def qm.g1 (X2:IR):IR:=(.block 0 X2)
def qm.b1:IR:=qm.g1 qm.b2
def qm.g0 (X1:IR):IR:=(iSr [iQo 4 (.load aT1),iQo 5 (.len aT4),iQo 6 (.mv aC0)] X1)
def qm.b0:IR:=qm.g0 qm.b1
def qm.res:List RV:=[]
def qm:Fn:={ params:=[(.of 0),(.of 1)],res:=qm.res,body:=qm.b0,init:=in9 }
theorem qm.ok:fnA Tryz.prog Tryz.f159 [0,1,3,4,5,6,7,8,16]=some qm:=by kernel_rfl
abbrev xk.fr:=fr23
def xk.b10:IR:=(iSr [iSm 0,iSm 1,iSm 2,iSm 7,iCa 211 [aS3,aS2,aS1,aS0],.s (.mv aS0),.s (.ext 0 aS0),.s (.ext 1 aS1),iQm 10 1,iQm 11 0] (iSr [iSm 11,iQm 5 0] (iSr [iSm 10,iSm 1,.s (.bin .sub .int aS1 aS0),iSm 2,iSm 10,.s (.bin .sub .int aS1 aS0),iQm 12 3,iQm 13 0] (iSr [iSm 6,.s (.bin .quo .int aS0 aC8),iQm 14 0] (iSr [iSm 12,iSm 13,iQo 22 (.bin .lss .int aS1 aS0)] (.cond aT22 (iSr [iSm 12,iSm 14,.s (.bin .geq .int aS1 aS0),iQm 4 0] (iSr [iSm 0,iSm 1,iSm 10,iSm 3,iCa 160 [aS3,aS2,aS1,aS0]] (.reg [iSm 10,.s (.bin .add .int aS0 aC1),iQm 1 0]))) (iSr [iSm 13,iSm 14,.s (.bin .geq .int aS1 aS0),iQm 4 0] (iSr [iSm 0,iSm 10,.s (.bin .add .int aS0 aC1),iSm 2,iSm 3,iCa 160 [aS4,aS2,aS1,aS0]] (.reg [iSm 10,iQm 2 0])))))))))
def xk.g9 (X10:IR):IR:=(.seq (.seq (.yw [] [(iSm 1,0,[]),(.s (.bin .gtr .int aS0 aC0),0,[]),(.s (.mv aS0),0,[]),(iPt 0 (.mv aT0),0,[]),(iPt 1 (.mv aT1),0,[]),(iPt 2 (.bin .sub .int aS0 aC1),0,[]),(iPt 3 (.zx 1 aS2 aS0),0,[]),(iPt 4 (.load aS0),0,[]),(iPt 5 (.mv aT0),0,[]),(iPt 6 (.mv aT7),0,[]),(iPt 7 (.zx 1 aS1 aS0),0,[]),(iPt 8 (.load aS0),0,[]),(.w .push (some (aS9,true)) (.call (.c (.fn 209 (.of 209) [])) [aS4,aS0]),0,[]),(iPt 10 (.not aS0),0,[]),(iQo 21 (.pick aS11 aS0 (.c (.bool false))),0,[])]) (.cond aT21 (iSr [iSm 0,iSm 1,iSm 2,iSm 7,iCa 210 [aS3,aS2,aS1,aS0],iQm 9 0] (iSr [iSm 9,iQm 1 0] (.exit 1))) .skip)) X10)
def xk.b9:IR:=xk.g9 xk.b10
def xk.g8 (X9:IR):IR:=(.seq (iSr [iSm 4,.s (.mv aS0),iPt 0 (.mv aT5),.s (.pick aS1 aS0 (.c (.bool false))),.s (.mv aS0),iPt 0 (.mv aT8),iPt 1 (.bin .eql .int aS0 aC1),iQo 19 (.pick aS2 aS0 (.c (.bool false)))] (.cond aT19 (iSr [iSm 0,iSm 1,iSm 2,iWl 20 (.call (.c (.fn 208 (.of 208) [])) [aS2,aS1,aS0])] (.cond aT20 .ret .skip)) .skip)) X9)
def xk.b8:IR:=xk.g8 xk.b9
def xk.g7 (X8:IR):IR:=(iSr [iSm 0,iSm 1,iSm 2,iCa 206 [aS2,aS1,aS0],.s (.mv aS0),.s (.ext 0 aS0),.s (.ext 1 aS1),iQm 7 1,iQm 8 0] (.seq (iSr [iSm 8,iQo 18 (.bin .eql .int aS0 aC2)] (.cond aT18 (iSr [iSm 0,iSm 1,iSm 2,iCa 207 [aS2,aS1,aS0]] (iSr [iSm 2,.s (.bin .sub .int aS0 aC1),iSm 7,iSm 1,.s (.bin .sub .int aS1 aS0),.s (.bin .sub .int aS3 aS0),iQm 7 0] (.reg [iQo 8 (.mv aC1)]))) .skip)) X8))
def xk.b7:IR:=xk.g7 xk.b8
def xk.g6 (X7:IR):IR:=(.seq (iSr [iSm 4,iQo 17 (.not aS0)] (.cond aO (iSr [iSm 0,iSm 1,iSm 2,iCa 205 [aS2,aS1,aS0]] (.reg [iSm 3,.s (.bin .sub .int aS0 aC1),iQm 3 0])) .skip)) X7)
def xk.b6:IR:=xk.g6 xk.b7
def xk.g5 (X6:IR):IR:=(.seq (iSr [iSm 3,iQo 16 (.bin .eql .int aS0 aC0)] (.cond eX (iSr [iSm 0,iSm 1,iSm 2,iCa 204 [aS2,aS1,aS0]] .ret) .skip)) X6)
def xk.b5:IR:=xk.g5 xk.b6
def xk.g4 (X5:IR):IR:=(iSr [iSm 2,iSm 1,.s (.bin .sub .int aS1 aS0),iQm 6 0] (.seq (iSr [iSm 6,iQo 15 (.bin .leq .int aS0 aC12)] (.cond oW (iSr [iSm 0,iSm 1,iSm 2,iCa 203 [aS2,aS1,aS0]] .ret) .skip)) X5))
def xk.b4:IR:=xk.g4 xk.b5
def xk.g3 (X4:IR):IR:=(.block 1 X4)
def xk.b3:IR:=xk.g3 xk.b4
def xk.g2 (X3:IR):IR:=(.loop X3)
def xk.b2:IR:=xk.g2 xk.b3
def xk.g1 (X2:IR):IR:=(.block 0 X2)
def xk.b1:IR:=xk.g1 xk.b2
def xk.g0 (X1:IR):IR:=(iSr [iQo 4 (.mv (.c (.bool true)))] (iSr [iQo 5 (.mv (.c (.bool true)))] X1))
def xk.b0:IR:=xk.g0 xk.b1
def xk.res:List RV:=[]
def xk:Fn:={ params:=[(.of 0),(.of 1),(.of 2),(.of 3)],res:=xk.res,body:=xk.b0,init:=in23 }
theorem xk.ok:fnA Tryz.prog Tryz.f160 [0,1,2,3,8,9,10,11,12,13,14,15,16,17,18,23,29,35,50,68,72,87,113]=some xk:=by kernel_rfl
abbrev oK.fr:=fr2
def oK.b1:IR:=(iSr [iSm 0,iCa 213 [aS0],iQm 1 0] .ret)
def oK.g0 (X1:IR):IR:=(iSr [iQo 1 (.mv aC0)] (.seq (.cond (.c (.bool false)) (iSr [iSm 0,.s (.conv .u32 aS0),iCa 212 [aS0],iQm 1 0] .ret) .skip) X1))
def oK.b0:IR:=oK.g0 oK.b1
def oK.res:List RV:=[.t (.of 1)]
def oK:Fn:={ params:=[(.of 0)],res:=oK.res,body:=oK.b0,init:=in2 }
theorem oK.ok:fnA Tryz.prog Tryz.f161 [0,2]=some oK:=by kernel_rfl
abbrev fB.fr:=fr8
def fB.b2:IR:=(iSr [iQo 4 (.mv (.c (I (-1))))] .ret)
def fB.g1 (X2:IR):IR:=(.seq (iSr [.s (.zu 1 aT2),iQo 7 (.load aS0)] (.cond aT7 (iSr [iQo 4 (.mv aC1)] .ret) .skip)) X2)
def fB.b1:IR:=fB.g1 fB.b2
def fB.g0 (X1:IR):IR:=(iSr [iWl 2 (.box aT0),iWl 3 (.box aT1),iQo 4 (.mv aC0)] (.seq (iSr [.s (.zu 0 aT2),.s (.load aS0),.s (.zu 0 aT3),.s (.load aS0),iCa 201 [aS2,aS0],iQm 5 0] (iSr [iSm 5,.s (.bin .neq .int aS0 aC0),.s (.mv aS0),iPf 0 (.zu 1 aT2),iPf 1 (.load aS0),iPf 2 (.zu 1 aT3),iPf 3 (.load aS0),iPf 4 (.bin .eql .bool aS2 aS0),iQo 6 (.pick aS5 (.c (.bool true)) aS0)] (.cond aT6 (iSr [iSm 5,iQm 4 0] .ret) .skip))) X1))
def fB.b0:IR:=fB.g0 fB.b1
def fB.res:List RV:=[.t (.of 4)]
def fB:Fn:={ params:=[(.of 0),(.of 1)],res:=fB.res,body:=fB.b0,init:=in8 }
theorem fB.ok:fnA Tryz.prog Tryz.f162 [0,1,2,3,4,5,19,22]=some fB:=by kernel_rfl
abbrev uo.fr:=fr7
def uo.b6:IR:=(iSr [iSm 5,iQm 3 0] (.reg [.s (.zu 0 aT2),.s (.load aS0),iSm 3,iSm 3,.s (.zx 1 aS2 aS1),.w .none none (.store 1 aS0 aS1)]))
def uo.g5 (X6:IR):IR:=(.block 1 X6)
def uo.b5:IR:=uo.g5 uo.b6
def uo.b7:IR:=(.reg [.s (.bin .add .int aT5 aC1),iQm 5 0])
def uo.g4 (X5 X7:IR):IR:=(.seq X5 X7)
def uo.b4:IR:=uo.g4 uo.b5 uo.b7
def uo.g3 (X4:IR):IR:=(iSr [iQo 6 (.bin .lss .int aT5 aT4)] (.seq (.cond aT6 .skip (.exit 0)) X4))
def uo.b3:IR:=uo.g3 uo.b4
def uo.g2 (X3:IR):IR:=(.loop X3)
def uo.b2:IR:=uo.g2 uo.b3
def uo.g1 (X2:IR):IR:=(.block 0 X2)
def uo.b1:IR:=uo.g1 uo.b2
def uo.b8:IR:=(iSr [.s (.zh 2 aT2),.w .none none (.store 2 aT1 aS0)] .ret)
def uo.g0 (X1 X8:IR):IR:=(iSr [iWl 1 (.alloc [.zi,(.bool false)])] (iSr [iSm 0,.w .push none (.jk 1 8 [(I 0)] aS0 aS0),.s (.build [.zi,(.bool false)] [(0,1,aS0)]),iWl 2 (.alloc [.zi,(.bool false)]),.w .none none (.store 2 aT2 aS0)] (.seq (iSr [.s (.zu 0 aT2),.s (.load aS0),iQo 4 (.len aS0),iQo 5 (.mv aC0)] X1) X8)))
def uo.b0:IR:=uo.g0 uo.b1 uo.b8
def uo.res:List RV:=[.cell (.of 1) (some 2)]
def uo:Fn:={ params:=[(.of 0)],res:=uo.res,body:=uo.b0,init:=in7 }
theorem uo.ok:fnA Tryz.prog Tryz.f163 [0,2,3,4,10,11,12]=some uo:=by kernel_rfl
abbrev bM.fr:=fr8
def bM.b6:IR:=(iSr [.s (.zx 1 aT3 aT5),.s (.load aS0),iQm 2 0] (iSr [iSm 2,iQo 7 (.bin .neq .int aS0 aC0)] (.cond aT7 (iSr [iSm 2,iQm 1 0] .ret) .skip)))
def bM.g5 (X6:IR):IR:=(.block 1 X6)
def bM.b5:IR:=bM.g5 bM.b6
def bM.b7:IR:=(.reg [.s (.bin .add .int aT5 aC1),iQm 5 0])
def bM.g4 (X5 X7:IR):IR:=(.seq X5 X7)
def bM.b4:IR:=bM.g4 bM.b5 bM.b7
def bM.g3 (X4:IR):IR:=(iSr [iQo 6 (.bin .lss .int aT5 aT4)] (.seq (.cond aT6 .skip (.exit 0)) X4))
def bM.b3:IR:=bM.g3 bM.b4
def bM.g2 (X3:IR):IR:=(.loop X3)
def bM.b2:IR:=bM.g2 bM.b3
def bM.g1 (X2:IR):IR:=(.block 0 X2)
def bM.b1:IR:=bM.g1 bM.b2
def bM.b8:IR:=(iSr [iQo 1 (.mv aC0)] .ret)
def bM.g0 (X1 X8:IR):IR:=(iSr [iQo 1 (.mv aC0)] (.seq (iSr [iQo 3 (.mv aT0),iQo 4 (.len aT3),iQo 5 (.mv aC0)] X1) X8))
def bM.b0:IR:=bM.g0 bM.b1 bM.b8
def bM.res:List RV:=[.t (.of 1)]
def bM:Fn:={ params:=[(.of 0)],res:=bM.res,body:=bM.b0,init:=in8 }
theorem bM.ok:fnA Tryz.prog Tryz.f165 [0,2,4,5,6,7,8,12]=some bM:=by kernel_rfl
abbrev F166.fr:=fr6
def F166.b0:IR:=(iSr [iWl 3 (.box aT0),iWl 4 (.box aT1),iQo 5 (.mv aC0)] (iSr [iSm 2,.s (.fn 215 (.of 215) [aT3,aT4]),iCa 136 [aS1,aS0],iCa 167 [aS0,aC3],iQm 5 0] .ret))
def F166.res:List RV:=[.t (.of 5)]
def F166:Fn:={ params:=[(.of 0),(.of 1),(.of 2)],res:=F166.res,body:=F166.b0,init:=in6 }
theorem F166.ok:fnA Tryz.prog Tryz.f166 [0,1,2,3,4,6]=some F166:=by kernel_rfl
abbrev oL.fr:=fr4
def oL.b1:IR:=(iSr [iQo 2 (.mv aC0)] .ret)
def oL.g0 (X1:IR):IR:=(iSr [iQo 2 (.mv aC0)] (.seq (iSr [iQo 3 (.mv aT0)] (.cond aT3 (iSr [iSm 1,iQm 2 0] .ret) .skip)) X1))
def oL.b0:IR:=oL.g0 oL.b1
def oL.res:List RV:=[.t (.of 2)]
def oL:Fn:={ params:=[(.of 0),(.of 1)],res:=oL.res,body:=oL.b0,init:=in4 }
theorem oL.ok:fnA Tryz.prog Tryz.f167 [0,1,4,5]=some oL:=by kernel_rfl
abbrev mg.fr:=fr14
def mg.b7:IR:=(iSr [iSm 11,.s (.zx 1 aT9 ru),.s (.load aS0),iQm 5 2,iQm 6 0] (iSr [iSm 6,.s (.bin .lss .int aS0 aC0),.s (.mv aS0),iPf 0 (.mv aT6),iPf 1 (.zu 0 aT2),iPf 2 (.load aS0),iPf 3 (.bin .geq .int aS2 aS0),.s (.pick aS4 (.c (.bool true)) aS0),iCa 167 [aS0,aC10],iSm 5,.s (.bin .gtr .int aS0 aC0),.s (.mv aS0),iPt 0 (.load aT4),iPt 1 (.mv aT5),iPt 2 (.bin .sub .int aS0 aC1),iPt 3 (.zx 1 aS2 aS0),iPt 4 (.load aS0),iPt 5 (.mv aT6),iPt 6 (.bin .geq .int aS1 aS0),.s (.pick aS7 aS0 (.c (.bool false))),iCa 167 [aS0,aC11],.w .push none (.yg 1 2 [(I 0)] [(0,1,aS12),(1,1,aS0)]),iCa 165 [aS0],iQm 7 0] (iSr [iSm 7,iQo 13 (.bin .neq .int aS0 aC0)] (.cond fK (iSr [iSm 7,iQm 3 0] .ret) .skip))))
def mg.g6 (X7:IR):IR:=(.block 1 X7)
def mg.b6:IR:=mg.g6 mg.b7
def mg.b8:IR:=(.reg [.s (.bin .add .int ru aC1),iQm 11 0])
def mg.g5 (X6 X8:IR):IR:=(.seq X6 X8)
def mg.b5:IR:=mg.g5 mg.b6 mg.b8
def mg.g4 (X5:IR):IR:=(iSr [iQo 12 (.bin .lss .int ru bI)] (.seq (.cond rZ .skip (.exit 0)) X5))
def mg.b4:IR:=mg.g4 mg.b5
def mg.g3 (X4:IR):IR:=(.loop X4)
def mg.b3:IR:=mg.g3 mg.b4
def mg.g2 (X3:IR):IR:=(.block 0 X3)
def mg.b2:IR:=mg.g2 mg.b3
def mg.b9:IR:=(iSr [.s (.zu 1 aT2),.s (.load aS0),iSm 1,.s (.slice 1 aS1 none (some aS0) none),.s (.fn 217 (.of 217) [aT4]),iCa 216 [aS1,aS0],iCa 167 [aS0,aC9],iQm 3 0] .ret)
def mg.g1 (X2 X9:IR):IR:=(.seq (iSr [iQo 9 (.load aT4),iQo 10 (.len aT9),iQo 11 (.mv aC0)] X2) X9)
def mg.b1:IR:=mg.g1 mg.b2 mg.b9
def mg.g0 (X1:IR):IR:=(iSr [iWl 2 (.box aT0),iQo 3 (.mv aC0)] (iSr [.s (.zu 1 aT2),.s (.load aS0),iSm 1,.s (.zx 1 aS1 aS0),.s (.load aS0),iWl 4 (.alloc [.zi]),.w .none none (.store 1 aT4 aS0)] (.seq (iSr [.s (.load aT4),.s (.len aS0),iQo 8 (.bin .eql .int aS0 aC0)] (.cond aT8 (iSr [iQo 3 (.mv aC12)] .ret) .skip)) X1)))
def mg.b0:IR:=mg.g0 mg.b1
def mg.res:List RV:=[.t (.of 3)]
def mg:Fn:={ params:=[(.of 0),(.of 1)],res:=mg.res,body:=mg.b0,init:=in14 }
theorem mg.ok:fnA Tryz.prog Tryz.f168 [0,1,2,4,5,6,7,8,16,17,18,19,20,48]=some mg:=by kernel_rfl
abbrev bP.fr:=fr10
def bP.b6:IR:=(iSr [.s (.zx 1 aT6 aT8),.s (.load aS0),iQm 5 0] (.reg [iSm 4,iSm 0,iSm 5,.s (.zx 1 aS1 aS0),.s (.load aS0),.w .push none (.yg 1 1 [(I 0)] [(0,1,aS0)]),.w .push none (.app 1 8 aS5 aS0),iQm 4 0]))
def bP.g5 (X6:IR):IR:=(.block 1 X6)
def bP.b5:IR:=bP.g5 bP.b6
def bP.b7:IR:=(.reg [.s (.bin .add .int aT8 aC1),iQm 8 0])
def bP.g4 (X5 X7:IR):IR:=(.seq X5 X7)
def bP.b4:IR:=bP.g4 bP.b5 bP.b7
def bP.g3 (X4:IR):IR:=(iSr [iQo 9 (.bin .lss .int aT8 aT7)] (.seq (.cond aT9 .skip (.exit 0)) X4))
def bP.b3:IR:=bP.g3 bP.b4
def bP.g2 (X3:IR):IR:=(.loop X3)
def bP.b2:IR:=bP.g2 bP.b3
def bP.g1 (X2:IR):IR:=(.block 0 X2)
def bP.b1:IR:=bP.g1 bP.b2
def bP.b8:IR:=(iSr [iSm 4,iCa 91 [aS0]] (.seq (.yw [] [(.s (.load aT2),1,[]),(iSm 4,0,[]),(.s (.build [.zi,(.bool false)] [(0,1,aS0)]),0,[]),(iCa 123 [aS0],0,[]),(.s (.look .str (.bool false) false aS3 aS0),0,[]),(iQm 3 0,0,[])]) .ret))
def bP.g0 (X1 X8:IR):IR:=(iSr [iQo 3 (.mv (.c (.bool false)))] (iSr [iQo 4 (.mv (.c .zi))] (.seq (iSr [iQo 6 (.mv aT1),iQo 7 (.len aT6),iQo 8 (.mv aC0)] X1) X8)))
def bP.b0:IR:=bP.g0 bP.b1 bP.b8
def bP.res:List RV:=[.t (.of 3)]
def bP:Fn:={ params:=[(.of 0),(.of 1),(.of 2)],res:=bP.res,body:=bP.b0,init:=in10 }
theorem bP.ok:fnA Tryz.prog Tryz.f169 [0,1,2,5,6,8,9,10,11,12]=some bP:=by kernel_rfl
abbrev sS.fr:=fr6
def sS.b2:IR:=(iSr [.s (.zu 1 aT1),.s (.load aS0),.s (.bin .neq (.nil .sl) aS0 (.c .zi)),iQm 4 0] (.cond aT4 (.seq (.yw [] [(.s (.zu 0 aT1),0,[]),(.s (.load aS0),0,[]),(.s (.bin .lss .int aS0 aC0),0,[]),(.s (.zu 1 aT1),0,[]),(.s (.load aS0),0,[]),(iQm 2 2,0,[]),(iQm 3 0,0,[])]) .ret) (iSr [.s (.zu 0 aT1),.s (.load aS0),.s (.bin .eql .int aS0 aC0),iQm 5 0] (.cond aT5 (iSr [iQo 2 (.mv (.c (.bool false))),iQo 3 (.mv (.c .zi))] .ret) .skip))))
def sS.g1 (X2:IR):IR:=(.block 0 X2)
def sS.b1:IR:=sS.g1 sS.b2
def sS.b3:IR:=(.seq (.yw [] [(.s (.zu 0 aT1),2,[]),(.s (.load aS0),2,[]),(.s (.bin .lss .int aS0 aC0),2,[]),(.s (.zu 0 aT1),0,[]),(.s (.load aS0),0,[]),(iCa 220 [aS0],0,[]),(iQm 2 3,1,[]),(.w .push none (.yg 1 1 [(.int .u64 0)] [(0,1,aS0)]),0,[]),(iQm 3 0,0,[])]) .ret)
def sS.g0 (X1 X3:IR):IR:=(iSr [iWl 1 (.box aT0),iQo 2 (.mv (.c (.bool false))),iQo 3 (.mv (.c .zi))] (.seq X1 X3))
def sS.b0:IR:=sS.g0 sS.b1 sS.b3
def sS.res:List RV:=[.t (.of 2),.t (.of 3)]
def sS:Fn:={ params:=[(.of 0)],res:=sS.res,body:=sS.b0,init:=in6 }
theorem sS.ok:fnA Tryz.prog Tryz.f174 [0,1,2,3,4,13]=some sS:=by kernel_rfl
abbrev aP.fr:=fr14
def aP.b1:IR:=(iSr [iSm 6,.s (.conv .i64 aS0),.s (.build [(I 0),.zi] [(0,1,aS0)]),.w .none none (.store 2 aT4 aS0)] .ret)
def aP.b2:IR:=(iSr [.s (.zh 2 aT2),iCa 174 [aS0],.s (.mv aS0),.s (.ext 0 aS0),.s (.ext 1 aS1),iQm 7 1,iQm 8 0] (iSr [.s (.zh 2 aT3),iCa 174 [aS0],.s (.mv aS0),.s (.ext 0 aS0),.s (.ext 1 aS1),iQm 9 1,iQm 10 0] (iSr [iSm 7,iSm 9,.s (.bin .neq .bool aS1 aS0),iSm 8,iSm 10,iCa 225 [aS1,aS0],iCa 175 [aS3,aS0],.w .none none (.store 2 aT4 aS0)] .ret)))
def aP.g0 (X1 X2:IR):IR:=(iSr [iWl 2 (.box aT0),iWl 3 (.box aT1),iWl 4 (.alloc [(I 0),.zi])] (.seq (iSr [.s (.zu 1 aT2),.s (.load aS0),.s (.bin .eql (.nil .sl) aS0 (.c .zi)),.s (.mv aS0),iPt 0 (.zu 1 aT3),iPt 1 (.load aS0),iPt 2 (.bin .eql (.nil .sl) aS0 (.c .zi)),iQo 11 (.pick aS3 aS0 (.c (.bool false)))] (.cond ru (.seq (.yw [] [(.s (.zu 0 aT2),0,[]),(.s (.load aS0),0,[]),(.s (.zu 0 aT3),1,[]),(.s (.load aS0),1,[]),(iCa 220 [aS2],0,[]),(iCa 220 [aS1],0,[]),(iCa 224 [aS1,aS0],0,[]),(.s (.mv aS0),0,[]),(.s (.ext 0 aS0),0,[]),(.s (.ext 1 aS1),0,[]),(iQm 5 1,0,[]),(iQm 6 0,0,[])]) (iSr [iSm 5,.s (.bin .eql .int aS0 (.c (.int .u64 0))),.s (.mv aS0),iPt 0 (.mv aT6),iPt 1 (.bin .leq .int aS0 (.c (.int .u64 9223372036854775807))),iQo 12 (.pick aS2 aS0 (.c (.bool false)))] (.cond rZ (.seq (iSr [.s (.zu 0 aT2),.s (.load aS0),.s (.bin .lss .int aS0 aC0),.s (.zu 0 aT3),.s (.load aS0),.s (.bin .lss .int aS0 aC0),iQo 13 (.bin .neq .bool aS3 aS0)] (.cond fK (iSr [iSm 6,.s (.conv .i64 aS0),.s (.neg aS0),.s (.build [(I 0),.zi] [(0,1,aS0)]),.w .none none (.store 2 aT4 aS0)] .ret) .skip)) X1) .skip))) .skip)) X2))
def aP.b0:IR:=aP.g0 aP.b1 aP.b2
def aP.res:List RV:=[.cell (.of 4) (some 2)]
def aP:Fn:={ params:=[(.of 0),(.of 1)],res:=aP.res,body:=aP.b0,init:=in14 }
theorem aP.ok:fnA Tryz.prog Tryz.f179 [0,1,2,3,4,5,6,7,8,9,10,18,34,41]=some aP:=by kernel_rfl
abbrev F180.fr:=fr3
def F180.b0:IR:=(iSr [iWl 1 (.box aT0),iQo 2 (.mv aC0)] (iSr [.s (.zu 0 aT1),.s (.load aS0),.s (.sF false aC1 [aS0]),.s (.sF true (.c (I (-1))) [aS0]),iQm 2 0] .ret))
def F180.res:List RV:=[.t (.of 2)]
def F180:Fn:={ params:=[(.of 0)],res:=F180.res,body:=F180.b0,init:=in3 }
theorem F180.ok:fnA Tryz.prog Tryz.f180 [0,1,2]=some F180:=by kernel_rfl
abbrev sU.fr:=fr18
def sU.b1:IR:=(iSr [iSm 6,.s (.build [(I 0),.zi] [(0,1,aS0)]),iSm 7,.s (.build [(I 0),.zi] [(0,1,aS0)]),.w .none none (.store 2 aT4 aS2),.w .none none (.store 2 aT5 aS0)] .ret)
def sU.b3:IR:=(.seq (.yw [] [(.s (.zh 2 fK),0,[]),(.s (.zh 2 aj),1,[]),(.w .none none (.store 2 aT4 aS1),0,[]),(.w .none none (.store 2 aT5 aS0),0,[])]) .ret)
def sU.g2 (X3:IR):IR:=(iSr [.s (.zh 2 aT2),iCa 174 [aS0],.s (.mv aS0),.s (.ext 0 aS0),.s (.ext 1 aS1),iQm 8 1,iQm 9 0] (iSr [.s (.zh 2 aT3),iCa 174 [aS0],.s (.mv aS0),.s (.ext 0 aS0),.s (.ext 1 aS1),.s (.mv aS1),iQm 10 1] (iSr [iSm 9,iSm 10,iCa 226 [aS1,aS0],.s (.mv aS0),.s (.ext 0 aS0),.s (.ext 1 aS1),iQm 11 1,iQm 12 0] (iSr [iSm 8,iSm 11,iCa 175 [aS1,aS0],iSm 8,iSm 12,iCa 175 [aS1,aS0],iWl 13 (.alloc [(I 0),.zi]),iWl 14 (.alloc [(I 0),.zi]),.w .none none (.store 2 fK aS3),.w .none none (.store 2 aj aS0)] (.seq (iSr [.s (.zh 2 aj),iCa 180 [aS0],iQo 17 (.bin .lss .int aS0 aC0)] (.cond aO (.yw [] [(.s (.zh 2 fK),1,[]),(.s (.zh 2 aj),2,[]),(.s (.zh 2 aT3),2,[]),(iCa 110 [aC1],0,[]),(iCa 227 [aS3,aS0],0,[]),(iCa 111 [aS3,aS2],0,[]),(.w .none none (.store 2 fK aS1),0,[]),(.w .none none (.store 2 aj aS0),0,[])]) .skip)) X3)))))
def sU.b2:IR:=sU.g2 sU.b3
def sU.g0 (X1 X2:IR):IR:=(iSr [iWl 2 (.box aT0),iWl 3 (.box aT1),iWl 4 (.alloc [(I 0),.zi]),iWl 5 (.alloc [(I 0),.zi])] (.seq (iSr [.s (.zu 1 aT2),.s (.load aS0),.s (.bin .eql (.nil .sl) aS0 (.c .zi)),.s (.mv aS0),iPt 0 (.zu 1 aT3),iPt 1 (.load aS0),iPt 2 (.bin .eql (.nil .sl) aS0 (.c .zi)),.s (.pick aS3 aS0 (.c (.bool false))),.s (.mv aS0),iPt 0 (.zu 0 aT2),iPt 1 (.load aS0),iPt 2 (.bin .neq .int aS0 (.c (I (-9223372036854775808)))),iQo 15 (.pick aS3 aS0 (.c (.bool false)))] (.cond oW (.seq (.yw [] [(.s (.zu 0 aT2),0,[]),(.s (.load aS0),0,[]),(.s (.zu 0 aT3),0,[]),(.s (.load aS0),0,[]),(.s (.bin .quo .int aS2 aS0),0,[]),(.s (.zu 0 aT2),0,[]),(.s (.load aS0),0,[]),(.s (.zu 0 aT3),0,[]),(.s (.load aS0),0,[]),(.s (.bin .rem .int aS2 aS0),0,[]),(iQm 6 5,0,[]),(iQm 7 0,0,[])]) (.seq (iSr [iSm 7,iQo 16 (.bin .lss .int aS0 aC0)] (.cond eX (.yw [] [(iSm 6,0,[]),(.s (.bin .sub .int aS0 aC1),0,[]),(iSm 7,0,[]),(.s (.zu 0 aT3),0,[]),(.s (.load aS0),0,[]),(.s (.bin .add .int aS2 aS0),0,[]),(iQm 6 4,0,[]),(iQm 7 0,0,[])]) .skip)) X1)) .skip)) X2))
def sU.b0:IR:=sU.g0 sU.b1 sU.b2
def sU.res:List RV:=[.cell (.of 4) (some 2),.cell (.of 5) (some 2)]
def sU:Fn:={ params:=[(.of 0),(.of 1)],res:=sU.res,body:=sU.b0,init:=in18 }
theorem sU.ok:fnA Tryz.prog Tryz.f182 [0,1,2,3,4,5,6,7,8,9,11,12,13,14,15,28,40,75]=some sU:=by kernel_rfl
abbrev F183.fr:=fr3
def F183.b0:IR:=(iSr [iWl 1 (.box aT0),iQo 2 (.mv (.c (.bool false)))] (iSr [.s (.zh 2 aT1),iCa 228 [aS0],.s (.bin .gtr .int aS0 ztj),.s (.mv aS0),iPt 0 (.zh 2 aT1),.w .push (some (aS1,true)) (.call (.c (.fn 185 (.of 185) [])) [aS0]),.w .push (some (aS2,true)) (.call (.c (.fn 229 (.of 229) [])) [aS0,(.c (.str [45]))]),iPt 3 (.slen aS0),iPt 4 (.bin .gtr .int aS0 zv9),.s (.pick aS5 aS0 (.c (.bool false))),iQm 2 0] .ret))
def F183.res:List RV:=[.t (.of 2)]
def F183:Fn:={ params:=[(.of 0)],res:=F183.res,body:=F183.b0,init:=in3 }
theorem F183.ok:fnA Tryz.prog Tryz.f183 [0,1,2]=some F183:=by kernel_rfl
abbrev F184.fr:=fr3
def F184.b0:IR:=(iSr [iWl 1 (.box aT0),iQo 2 (.mv (.c (.bool false)))] (iSr [.s (.zu 2 aT1),.s (.zu 1 aS0),.s (.load aS0),.s (.bin .eql (.nil .sl) aS0 (.c .zi)),.s (.mv aS0),iPt 0 (.zu 2 aT1),iPt 1 (.zu 0 aS0),iPt 2 (.load aS0),iPt 3 (.bin .eql .int aS0 aC1),.s (.pick aS4 aS0 (.c (.bool false))),iQm 2 0] .ret))
def F184.res:List RV:=[.t (.of 2)]
def F184:Fn:={ params:=[(.of 0)],res:=F184.res,body:=F184.b0,init:=in3 }
theorem F184.ok:fnA Tryz.prog Tryz.f184 [0,1,2]=some F184:=by kernel_rfl
abbrev jy.fr:=fr18
def jy.b8:IR:=(iSr [iSm 6,iSm 9,.w .push none (.yg 1 1 [(.str [])] [(0,1,aS0)]),.w .push none (.app 1 16 aS2 aS0),iQm 6 0] (.reg [iSm 7,iQm 4 0]))
def jy.g7 (X8:IR):IR:=(.seq (iSr [iSm 7,.s (.len aS0),iQo 15 (.bin .gtr .int aS0 aC0)] (.cond oW (.reg [iSm 9,.s (.slen aS0),.s (.bin .sub .int aC18 aS0),.w .push none (.call (.c (.fn 232 (.of 232) [])) [(.c (.str [48])),aS0]),iSm 9,.s (.bin .add .str aS1 aS0),iQm 9 0]) .skip)) X8)
def jy.b7:IR:=jy.g7 jy.b8
def jy.g6 (X7:IR):IR:=(iSr [iSm 4,iSm 5,iCa 226 [aS1,aS0],.s (.mv aS0),.s (.ext 0 aS0),.s (.ext 1 aS1),iQm 7 1,iQm 8 0] (iSr [iQo 9 (.mv (.c (.str [48])))] (.seq (iSr [iSm 8,.s (.len aS0),iQo 14 (.bin .gtr .int aS0 aC0)] (.cond aj (.reg [iSm 8,.s (.zx 1 aS0 aC0),.s (.load aS0),iCa 231 [aS0,aC10],iQm 9 0]) .skip)) X7)))
def jy.b6:IR:=jy.g6 jy.b7
def jy.g5 (X6:IR):IR:=(.block 1 X6)
def jy.b5:IR:=jy.g5 jy.b6
def jy.g4 (X5:IR):IR:=(.seq (iSr [iSm 4,.s (.len aS0),iQo 13 (.bin .gtr .int aS0 aC0)] (.cond fK .skip (.exit 0))) X5)
def jy.b4:IR:=jy.g4 jy.b5
def jy.g3 (X4:IR):IR:=(.loop X4)
def jy.b3:IR:=jy.g3 jy.b4
def jy.g2 (X3:IR):IR:=(.block 0 X3)
def jy.b2:IR:=jy.g2 jy.b3
def jy.b16:IR:=(.reg [iSm 6,iSm 11,.s (.zx 1 aS1 aS0),.s (.load aS0),iCa 233 [bI,aS0]])
def jy.g15 (X16:IR):IR:=(.block 3 X16)
def jy.b15:IR:=jy.g15 jy.b16
def jy.b17:IR:=(.reg [iSm 11,.s (.bin .sub .int aS0 aC1),iQm 11 0])
def jy.g14 (X15 X17:IR):IR:=(.seq X15 X17)
def jy.b14:IR:=jy.g14 jy.b15 jy.b17
def jy.g13 (X14:IR):IR:=(.seq (iSr [iSm 11,iQo 17 (.bin .geq .int aS0 aC0)] (.cond aO .skip (.exit 2))) X14)
def jy.b13:IR:=jy.g13 jy.b14
def jy.g12 (X13:IR):IR:=(.loop X13)
def jy.b12:IR:=jy.g12 jy.b13
def jy.g11 (X12:IR):IR:=(.block 2 X12)
def jy.b11:IR:=jy.g11 jy.b12
def jy.b18:IR:=(iSr [iCa 234 [bI],iQm 2 0] .ret)
def jy.g10 (X11 X18:IR):IR:=(.seq (iSr [iSm 6,.s (.len aS0),.s (.bin .sub .int aS0 aC1),iQm 11 0] X11) X18)
def jy.b10:IR:=jy.g10 jy.b11 jy.b18
def jy.g9 (X10:IR):IR:=(iSr [iWl 10 (.alloc [.sH,.zi])] (.seq (iSr [iQo 16 (.mv aT3)] (.cond eX (.reg [.w .push none (.call (.c (.fn 233 (.of 233) [])) [bI,(.c (.str [45]))])]) .skip)) X10))
def jy.b9:IR:=jy.g9 jy.b10
def jy.g1 (X2 X9:IR):IR:=(iSr [.s (.zh 2 aT1),iCa 174 [aS0],.s (.mv aS0),.s (.ext 0 aS0),.s (.ext 1 aS1),iQm 3 1,iQm 4 0] (iSr [.w .push none (.yg 1 1 [(.int .u64 0)] [(0,1,(.c (.int .u64 1000000000000000000)))]),iQm 5 0] (iSr [iQo 6 (.mv (.c .zi))] (.seq X2 X9))))
def jy.b1:IR:=jy.g1 jy.b2 jy.b9
def jy.g0 (X1:IR):IR:=(iSr [iWl 1 (.box aT0),iQo 2 (.mv (.c (.str [])))] (.seq (iSr [.s (.zu 1 aT1),.s (.load aS0),iQo 12 (.bin .eql (.nil .sl) aS0 (.c .zi))] (.cond rZ (iSr [.s (.zu 0 aT1),.s (.load aS0),iCa 230 [aS0],iQm 2 0] .ret) .skip)) X1))
def jy.b0:IR:=jy.g0 jy.b1
def jy.res:List RV:=[.t (.of 2)]
def jy:Fn:={ params:=[(.of 0)],res:=jy.res,body:=jy.b0,init:=in18 }
theorem jy.ok:fnA Tryz.prog Tryz.f185 [0,1,2,3,4,5,6,7,8,9,10,11,14,26,35,42,54,60]=some jy:=by kernel_rfl
abbrev uh.fr:=fr8
def uh.b6:IR:=(iSr [iSm 5,iQm 3 0] (iSr [iSm 1,iSm 0,iSm 3,.s (.zx 1 aS1 aS0),.s (.load aS0),iWl 7 (.call aS4 [aS0])] (.cond aT7 (iSr [iSm 3,iQm 2 0] .ret) .skip)))
def uh.g5 (X6:IR):IR:=(.block 1 X6)
def uh.b5:IR:=uh.g5 uh.b6
def uh.b7:IR:=(.reg [.s (.bin .add .int aT5 aC1),iQm 5 0])
def uh.g4 (X5 X7:IR):IR:=(.seq X5 X7)
def uh.b4:IR:=uh.g4 uh.b5 uh.b7
def uh.g3 (X4:IR):IR:=(iSr [iQo 6 (.bin .lss .int aT5 aT4)] (.seq (.cond aT6 .skip (.exit 0)) X4))
def uh.b3:IR:=uh.g3 uh.b4
def uh.g2 (X3:IR):IR:=(.loop X3)
def uh.b2:IR:=uh.g2 uh.b3
def uh.g1 (X2:IR):IR:=(.block 0 X2)
def uh.b1:IR:=uh.g1 uh.b2
def uh.b8:IR:=(iSr [iQo 2 (.mv (.c (I (-1))))] .ret)
def uh.g0 (X1 X8:IR):IR:=(iSr [iQo 2 (.mv aC0)] (.seq (iSr [iSm 0,iQo 4 (.len aS0),iQo 5 (.mv aC0)] X1) X8))
def uh.b0:IR:=uh.g0 uh.b1 uh.b8
def uh.res:List RV:=[.t (.of 2)]
def uh:Fn:={ params:=[(.of 0),(.of 1)],res:=uh.res,body:=uh.b0,init:=in8 }
theorem uh.ok:fnA Tryz.prog Tryz.f197 [0,1,4,5,7,8,9,16]=some uh:=by kernel_rfl
abbrev jg.fr:=fr10
def jg.b8:IR:=(.reg [iSm 2,iSm 3,.s (.zx 1 aS1 aS0),.w .none none (.store 1 aS0 (.c (.bool true)))])
def jg.g7 (X8:IR):IR:=(iSr [.s (.zx 1 aT5 aT7),.s (.load aS0),iQm 3 0] (.seq (iSr [iSm 3,.s (.bin .lss .int aS0 aC0),.s (.mv aS0),iPf 0 (.mv aT3),iPf 1 (.mv aT0),iPf 2 (.len aS0),iPf 3 (.bin .geq .int aS2 aS0),.s (.pick aS4 (.c (.bool true)) aS0),.s (.mv aS0),iPf 0 (.mv aT2),iPf 1 (.mv aT3),iPf 2 (.zx 1 aS1 aS0),iPf 3 (.load aS0),iQo 9 (.pick aS4 (.c (.bool true)) aS0)] (.cond aT9 (iSr [iQo 1 (.mv aC14)] .ret) .skip)) X8))
def jg.b7:IR:=jg.g7 jg.b8
def jg.g6 (X7:IR):IR:=(.block 1 X7)
def jg.b6:IR:=jg.g6 jg.b7
def jg.b9:IR:=(.reg [.s (.bin .add .int aT7 aC1),iQm 7 0])
def jg.g5 (X6 X9:IR):IR:=(.seq X6 X9)
def jg.b5:IR:=jg.g5 jg.b6 jg.b9
def jg.g4 (X5:IR):IR:=(iSr [iQo 8 (.bin .lss .int aT7 aT6)] (.seq (.cond aT8 .skip (.exit 0)) X5))
def jg.b4:IR:=jg.g4 jg.b5
def jg.g3 (X4:IR):IR:=(.loop X4)
def jg.b3:IR:=jg.g3 jg.b4
def jg.g2 (X3:IR):IR:=(.block 0 X3)
def jg.b2:IR:=jg.g2 jg.b3
def jg.b10:IR:=(iSr [iQo 1 (.mv aC0)] .ret)
def jg.g1 (X2 X10:IR):IR:=(iSr [iSm 0,.s (.len aS0),.w .push none (.jk 1 1 [(.bool false)] aS0 aS0),iQm 2 0] (.seq (iSr [iQo 5 (.mv aT0),iQo 6 (.len aT5),iQo 7 (.mv aC0)] X2) X10))
def jg.b1:IR:=jg.g1 jg.b2 jg.b10
def jg.g0 (X1:IR):IR:=(iSr [iQo 1 (.mv aC0)] (.seq (iSr [iSm 0,.s (.len aS0),iQo 4 (.bin .gtr .int aS0 mU)] (.cond aT4 (iSr [iQo 1 (.mv aC5)] .ret) .skip)) X1))
def jg.b0:IR:=jg.g0 jg.b1
def jg.res:List RV:=[.t (.of 1)]
def jg:Fn:={ params:=[(.of 0)],res:=jg.res,body:=jg.b0,init:=in10 }
theorem jg.ok:fnA Tryz.prog Tryz.f198 [0,2,3,5,8,12,13,14,15,31]=some jg:=by kernel_rfl
abbrev jd.fr:=fr4
def jd.b5:IR:=(.yw [] [(iSm 1,0,[]),(iSm 0,0,[]),(iSm 1,0,[]),(.s (.bin .rem .int aS1 aS0),0,[]),(iQm 0 3,0,[]),(iQm 1 0,0,[])])
def jd.g4 (X5:IR):IR:=(.block 1 X5)
def jd.b4:IR:=jd.g4 jd.b5
def jd.g3 (X4:IR):IR:=(.seq (iSr [iSm 1,iQo 3 (.bin .gtr .int aS0 aC0)] (.cond aT3 .skip (.exit 0))) X4)
def jd.b3:IR:=jd.g3 jd.b4
def jd.g2 (X3:IR):IR:=(.loop X3)
def jd.b2:IR:=jd.g2 jd.b3
def jd.g1 (X2:IR):IR:=(.block 0 X2)
def jd.b1:IR:=jd.g1 jd.b2
def jd.b6:IR:=(iSr [iSm 0,iQm 2 0] .ret)
def jd.g0 (X1 X6:IR):IR:=(iSr [iQo 2 (.mv aC0)] (.seq X1 X6))
def jd.b0:IR:=jd.g0 jd.b1 jd.b6
def jd.res:List RV:=[.t (.of 2)]
def jd:Fn:={ params:=[(.of 0),(.of 1)],res:=jd.res,body:=jd.b0,init:=in4 }
theorem jd.ok:fnA Tryz.prog Tryz.f199 [0,1,4,6]=some jd:=by kernel_rfl
abbrev F200.fr:=fr3
def F200.b0:IR:=(iSr [iSm 0,.s (.len aS0),iQm 2 0] (.reg [iSm 0,iSm 2,iSm 2,.s (.conv .u64 aS0),iCa 161 [aS0],iSm 1,iCa 243 [aS5,aC0,aS4,aS1,aS0]]))
def F200.res:List RV:=[]
def F200:Fn:={ params:=[(.of 0),(.of 1)],res:=F200.res,body:=F200.b0,init:=in3 }
theorem F200.ok:fnA Tryz.prog Tryz.f200 [0,1,4]=some F200:=by kernel_rfl
abbrev jv.fr:=fr14
def jv.b7:IR:=(iSr [iSm 1,iSm 3,.s (.zx 1 aS1 aS0),.s (.load aS0),iQm 5 0] (iSr [iSm 4,iSm 5,iCa 244 [aS1,aS0],iQm 6 0] (iSr [iSm 6,iQo 12 (.bin .neq .int aS0 aC0)] (.cond rZ (iSr [iSm 6,iQm 2 0] .ret) .skip))))
def jv.g6 (X7:IR):IR:=(iSr [iSm 9,.s (.zx 1 aT7 aT9),.s (.load aS0),iQm 3 2,iQm 4 0] (.seq (iSr [iSm 3,iSm 1,.s (.len aS0),iQo 11 (.bin .geq .int aS2 aS0)] (.cond ru (iSr [iQo 2 (.mv aC1)] .ret) .skip)) X7))
def jv.b6:IR:=jv.g6 jv.b7
def jv.g5 (X6:IR):IR:=(.block 1 X6)
def jv.b5:IR:=jv.g5 jv.b6
def jv.b8:IR:=(.reg [.s (.bin .add .int aT9 aC1),iQm 9 0])
def jv.g4 (X5 X8:IR):IR:=(.seq X5 X8)
def jv.b4:IR:=jv.g4 jv.b5 jv.b8
def jv.g3 (X4:IR):IR:=(iSr [iQo 10 (.bin .lss .int aT9 aT8)] (.seq (.cond bI .skip (.exit 0)) X4))
def jv.b3:IR:=jv.g3 jv.b4
def jv.g2 (X3:IR):IR:=(.loop X3)
def jv.b2:IR:=jv.g2 jv.b3
def jv.g1 (X2:IR):IR:=(.block 0 X2)
def jv.b1:IR:=jv.g1 jv.b2
def jv.b10:IR:=(iSr [iQo 2 (.mv aC0)] .ret)
def jv.g9 (X10:IR):IR:=(.seq (iSr [iSm 0,.s (.len aS0),iSm 1,.s (.len aS0),iQo 13 (.bin .lss .int aS2 aS0)] (.cond fK (iSr [iQo 2 (.mv (.c (I (-1))))] .ret) .skip)) X10)
def jv.b9:IR:=jv.g9 jv.b10
def jv.g0 (X1 X9:IR):IR:=(iSr [iQo 2 (.mv aC0)] (.seq (iSr [iQo 7 (.mv aT0),iQo 8 (.len aT7),iQo 9 (.mv aC0)] X1) X9))
def jv.b0:IR:=jv.g0 jv.b1 jv.b9
def jv.res:List RV:=[.t (.of 2)]
def jv:Fn:={ params:=[(.of 0),(.of 1)],res:=jv.res,body:=jv.b0,init:=in14 }
theorem jv.ok:fnA Tryz.prog Tryz.f201 [0,1,4,5,6,7,8,9,10,11,12,19,28,35]=some jv:=by kernel_rfl
abbrev ug.fr:=fr11
def ug.b13:IR:=(.seq (.yw [] [(iSm 1,0,[]),(iSm 4,0,[]),(iSm 5,0,[]),(.s (.zx 1 aS1 aS0),0,[]),(.s (.load aS0),0,[]),(iSm 4,0,[]),(iSm 5,0,[]),(.s (.bin .sub .int aS0 aC1),0,[]),(.s (.zx 1 aS2 aS0),0,[]),(.s (.load aS0),0,[]),(.w .push none (.call aS9 [aS5,aS0]),0,[]),(iQo 10 (.not aS0),0,[])]) (.cond bI (iSr [iSm 0,iSm 3,iSm 4,iSm 5,.s (.zx 1 aS1 aS0),.s (.load aS0),.s (.zx 1 aS5 aS4),.w .none none (.store 1 aS0 aS1)] (.reg [iSm 3,.s (.bin .add .int aS0 aC1),iQm 3 0])) .skip))
def ug.g12 (X13:IR):IR:=(.block 3 X13)
def ug.b12:IR:=ug.g12 ug.b13
def ug.b14:IR:=(.reg [iSm 5,.s (.bin .add .int aS0 aC1),iQm 5 0])
def ug.g11 (X12 X14:IR):IR:=(.seq X12 X14)
def ug.b11:IR:=ug.g11 ug.b12 ug.b14
def ug.g10 (X11:IR):IR:=(.seq (iSr [iSm 5,iSm 4,.s (.len aS0),iQo 9 (.bin .lss .int aS2 aS0)] (.cond aT9 .skip (.exit 2))) X11)
def ug.b10:IR:=ug.g10 ug.b11
def ug.g9 (X10:IR):IR:=(.loop X10)
def ug.b9:IR:=ug.g9 ug.b10
def ug.g8 (X9:IR):IR:=(.block 2 X9)
def ug.b8:IR:=ug.g8 ug.b9
def ug.b15:IR:=(iSr [iSm 0,iSm 3,.s (.slice 1 aS1 (some aS0) none none),.w .none none (.clr 1 [.zi] aS0)] (iSr [iSm 0,iSm 3,.s (.slice 1 aS1 none (some aS0) none),iQm 2 0] .ret))
def ug.g7 (X8 X15:IR):IR:=(.seq (.yw [] [(iSm 1,0,[]),(iSm 0,0,[]),(iSm 3,0,[]),(.s (.zx 1 aS1 aS0),0,[]),(.s (.load aS0),0,[]),(iSm 0,0,[]),(iSm 3,0,[]),(.s (.bin .sub .int aS0 aC1),0,[]),(.s (.zx 1 aS2 aS0),0,[]),(.s (.load aS0),0,[]),(iWl 8 (.call aS9 [aS5,aS0]),0,[])]) (.cond aT8 (iSr [iSm 0,iSm 3,.s (.slice 1 aS1 (some aS0) none none),iQm 4 0] (.seq (iSr [iQo 5 (.mv aC1)] X8) X15)) .skip))
def ug.b7:IR:=ug.g7 ug.b8 ug.b15
def ug.g6 (X7:IR):IR:=(.block 1 X7)
def ug.b6:IR:=ug.g6 ug.b7
def ug.b16:IR:=(.reg [iSm 3,.s (.bin .add .int aS0 aC1),iQm 3 0])
def ug.g5 (X6 X16:IR):IR:=(.seq X6 X16)
def ug.b5:IR:=ug.g5 ug.b6 ug.b16
def ug.g4 (X5:IR):IR:=(.seq (iSr [iSm 3,iSm 0,.s (.len aS0),iQo 7 (.bin .lss .int aS2 aS0)] (.cond aT7 .skip (.exit 0))) X5)
def ug.b4:IR:=ug.g4 ug.b5
def ug.g3 (X4:IR):IR:=(.loop X4)
def ug.b3:IR:=ug.g3 ug.b4
def ug.g2 (X3:IR):IR:=(.block 0 X3)
def ug.b2:IR:=ug.g2 ug.b3
def ug.b17:IR:=(iSr [iSm 0,iQm 2 0] .ret)
def ug.g1 (X2 X17:IR):IR:=(.seq (iSr [iQo 3 (.mv aC1)] X2) X17)
def ug.b1:IR:=ug.g1 ug.b2 ug.b17
def ug.g0 (X1:IR):IR:=(iSr [iQo 2 (.mv (.c .zi))] (.seq (iSr [iSm 0,.s (.len aS0),iQo 6 (.bin .lss .int aS0 aC2)] (.cond aT6 (iSr [iSm 0,iQm 2 0] .ret) .skip)) X1))
def ug.b0:IR:=ug.g0 ug.b1
def ug.res:List RV:=[.t (.of 2)]
def ug:Fn:={ params:=[(.of 0),(.of 1)],res:=ug.res,body:=ug.b0,init:=in11 }
theorem ug.ok:fnA Tryz.prog Tryz.f202 [0,1,4,5,6,7,10,15,28,35,49]=some ug:=by kernel_rfl
abbrev ku.fr:=fr7
def ku.b12:IR:=(.yw [] [(iSm 0,0,[]),(iSm 4,0,[]),(iSm 0,1,[]),(iSm 4,1,[]),(.s (.bin .sub .int aS0 aC1),1,[]),(iSm 0,0,[]),(iSm 4,0,[]),(.s (.bin .sub .int aS0 aC1),0,[]),(.s (.zx 1 aS2 aS0),0,[]),(.s (.load aS0),0,[]),(iSm 0,0,[]),(iSm 4,0,[]),(.s (.zx 1 aS1 aS0),0,[]),(.s (.load aS0),0,[]),(.s (.zx 1 aS13 aS12),0,[]),(.w .none none (.store 1 aS0 aS5),0,[]),(.s (.zx 1 aS12 aS10),0,[]),(.w .none none (.store 1 aS0 aS2),0,[])])
def ku.g11 (X12:IR):IR:=(.block 3 X12)
def ku.b11:IR:=ku.g11 ku.b12
def ku.b13:IR:=(.reg [iSm 4,.s (.bin .sub .int aS0 aC1),iQm 4 0])
def ku.g10 (X11 X13:IR):IR:=(.seq X11 X13)
def ku.b10:IR:=ku.g10 ku.b11 ku.b13
def ku.g9 (X10:IR):IR:=(.seq (.seq (.yw [] [(iSm 4,0,[]),(iSm 1,0,[]),(.s (.bin .gtr .int aS1 aS0),0,[]),(.s (.mv aS0),0,[]),(iPt 0 (.mv aT0),0,[]),(iPt 1 (.mv aT4),0,[]),(iPt 2 (.zx 1 aS1 aS0),0,[]),(iPt 3 (.load aS0),0,[]),(iPt 4 (.mv aT0),0,[]),(iPt 5 (.mv aT4),0,[]),(iPt 6 (.bin .sub .int aS0 aC1),0,[]),(iPt 7 (.zx 1 aS2 aS0),0,[]),(iPt 8 (.load aS0),0,[]),(.w .push (some (aS9,true)) (.call (.c (.fn 209 (.of 209) [])) [aS5,aS0]),0,[]),(iQo 6 (.pick aS10 aS0 (.c (.bool false))),0,[])]) (.cond aT6 .skip (.exit 2))) X10)
def ku.b9:IR:=ku.g9 ku.b10
def ku.g8 (X9:IR):IR:=(.loop X9)
def ku.b8:IR:=ku.g8 ku.b9
def ku.g7 (X8:IR):IR:=(.block 2 X8)
def ku.b7:IR:=ku.g7 ku.b8
def ku.g6 (X7:IR):IR:=(iSr [iSm 3,iQm 4 0] X7)
def ku.b6:IR:=ku.g6 ku.b7
def ku.g5 (X6:IR):IR:=(.block 1 X6)
def ku.b5:IR:=ku.g5 ku.b6
def ku.b14:IR:=(.reg [iSm 3,.s (.bin .add .int aS0 aC1),iQm 3 0])
def ku.g4 (X5 X14:IR):IR:=(.seq X5 X14)
def ku.b4:IR:=ku.g4 ku.b5 ku.b14
def ku.g3 (X4:IR):IR:=(.seq (iSr [iSm 3,iSm 2,iQo 5 (.bin .lss .int aS1 aS0)] (.cond aT5 .skip (.exit 0))) X4)
def ku.b3:IR:=ku.g3 ku.b4
def ku.g2 (X3:IR):IR:=(.loop X3)
def ku.b2:IR:=ku.g2 ku.b3
def ku.g1 (X2:IR):IR:=(.block 0 X2)
def ku.b1:IR:=ku.g1 ku.b2
def ku.g0 (X1:IR):IR:=(iSr [iSm 1,.s (.bin .add .int aS0 aC1),iQm 3 0] X1)
def ku.b0:IR:=ku.g0 ku.b1
def ku.res:List RV:=[]
def ku:Fn:={ params:=[(.of 0),(.of 1),(.of 2)],res:=ku.res,body:=ku.b0,init:=in7 }
theorem ku.ok:fnA Tryz.prog Tryz.f203 [0,1,2,6,7,12,30]=some ku:=by kernel_rfl
abbrev F209.fr:=fr3
def F209.b0:IR:=(iSr [iQo 2 (.mv (.c (.bool false)))] (iSr [iSm 0,iCa 250 [aS0],.s (.mv aS0),iPt 0 (.mv aT1),.w .push (some (aS1,true)) (.call (.c (.fn 250 (.of 250) [])) [aS0]),iPt 2 (.not aS0),.s (.pick aS3 aS0 (.c (.bool false))),.s (.mv aS0),iPf 0 (.mv aT0),iPf 1 (.mv aT1),iPf 2 (.bin .lss .int aS1 aS0),.s (.pick aS3 (.c (.bool true)) aS0),iQm 2 0] .ret))
def F209.res:List RV:=[.t (.of 2)]
def F209:Fn:={ params:=[(.of 0),(.of 1)],res:=F209.res,body:=F209.b0,init:=in3 }
theorem F209.ok:fnA Tryz.prog Tryz.f209 [0,1,4]=some F209:=by kernel_rfl
abbrev sD.fr:=fr5
def sD.b3:IR:=(iSr [iSm 1,iSm 0,.s (.conv .u8 aS0),.s (.sidx (.c (.str [0,1,2,2,3,3,3,3,4,4,4,4,4,4,4,4,5,5,5,5,5,5,5,5,5,5,5,5,5,5,5,5,6,6,6,6,6,6,6,6,6,6,6,6,6,6,6,6,6,6,6,6,6,6,6,6,6,6,6,6,6,6,6,6,7,7,7,7,7,7,7,7,7,7,7,7,7,7,7,7,7,7,7,7,7,7,7,7,7,7,7,7,7,7,7,7,7,7,7,7,7,7,7,7,7,7,7,7,7,7,7,7,7,7,7,7,7,7,7,7,7,7,7,7,7,7,7,7,8,8,8,8,8,8,8,8,8,8,8,8,8,8,8,8,8,8,8,8,8,8,8,8,8,8,8,8,8,8,8,8,8,8,8,8,8,8,8,8,8,8,8,8,8,8,8,8,8,8,8,8,8,8,8,8,8,8,8,8,8,8,8,8,8,8,8,8,8,8,8,8,8,8,8,8,8,8,8,8,8,8,8,8,8,8,8,8,8,8,8,8,8,8,8,8,8,8,8,8,8,8,8,8,8,8,8,8,8,8,8,8,8,8,8,8,8,8,8,8,8,8,8,8,8,8,8,8])) aS0),.s (.conv .i64 aS0),.s (.bin .add .int aS4 aS0),iQm 1 0] .ret)
def sD.g2 (X3:IR):IR:=(.seq (iSr [iSm 0,iQo 4 (.bin .geq .int aS0 (.c (.int .u64 256)))] (.cond aT4 (iSr [iSm 0,.s (.bin .shr .int aS0 (.c (.int .u64 8))),iQm 0 0] (.reg [iSm 1,.s (.bin .add .int aS0 aC8),iQm 1 0])) .skip)) X3)
def sD.b2:IR:=sD.g2 sD.b3
def sD.g1 (X2:IR):IR:=(.seq (iSr [iSm 0,iQo 3 (.bin .geq .int aS0 (.c (.int .u64 65536)))] (.cond aT3 (iSr [iSm 0,.s (.bin .shr .int aS0 (.c (.int .u64 16))),iQm 0 0] (.reg [iSm 1,.s (.bin .add .int aS0 aC16),iQm 1 0])) .skip)) X2)
def sD.b1:IR:=sD.g1 sD.b2
def sD.g0 (X1:IR):IR:=(iSr [iQo 1 (.mv aC0)] (.seq (iSr [iSm 0,iQo 2 (.bin .geq .int aS0 (.c (.int .u64 4294967296)))] (.cond aT2 (iSr [iSm 0,.s (.bin .shr .int aS0 (.c (.int .u64 32))),iQm 0 0] (.reg [iQo 1 (.mv aC32)])) .skip)) X1))
def sD.b0:IR:=sD.g0 sD.b1
def sD.res:List RV:=[.t (.of 1)]
def sD:Fn:={ params:=[(.of 0)],res:=sD.res,body:=sD.b0,init:=in5 }
theorem sD.ok:fnA Tryz.prog Tryz.f213 [0,2,4,8,14]=some sD:=by kernel_rfl
abbrev F215.fr:=fr4
def F215.b0:IR:=(iSr [iQo 3 (.mv (.c (.bool false)))] (iSr [iSm 0,.s (.load aT1),.s (.bin .lss .int aS1 aS0),.s (.mv aS0),iPf 0 (.mv aT0),iPf 1 (.load aT2),iPf 2 (.bin .gtr .int aS1 aS0),.s (.pick aS3 (.c (.bool true)) aS0),iQm 3 0] .ret))
def F215.res:List RV:=[.t (.of 3)]
def F215:Fn:={ params:=[(.of 0),(.of 1),(.of 2)],res:=F215.res,body:=F215.b0,init:=in4 }
theorem F215.ok:fnA Tryz.prog Tryz.f215 [0,1,2,4]=some F215:=by kernel_rfl
abbrev F216.fr:=fr3
def F216.b0:IR:=(iSr [iQo 2 (.mv (.c (.bool false)))] (iSr [iSm 0,iSm 1,iCa 259 [aS1,aS0],.s (.bin .geq .int aS0 aC0),iQm 2 0] .ret))
def F216.res:List RV:=[.t (.of 2)]
def F216:Fn:={ params:=[(.of 0),(.of 1)],res:=F216.res,body:=F216.b0,init:=in3 }
theorem F216.ok:fnA Tryz.prog Tryz.f216 [0,1,4]=some F216:=by kernel_rfl
abbrev F217.fr:=fr3
def F217.b0:IR:=(iSr [iQo 2 (.mv (.c (.bool false)))] (iSr [iSm 0,.s (.load aT1),iCa 158 [aS1,aS0],iQm 2 0] .ret))
def F217.res:List RV:=[.t (.of 2)]
def F217:Fn:={ params:=[(.of 0),(.of 1)],res:=F217.res,body:=F217.b0,init:=in3 }
theorem F217.ok:fnA Tryz.prog Tryz.f217 [0,1,3]=some F217:=by kernel_rfl
abbrev oM.fr:=fr3
def oM.b1:IR:=(iSr [iSm 0,.s (.conv .u64 aS0),iQm 1 0] .ret)
def oM.g0 (X1:IR):IR:=(iSr [iQo 1 (.mv (.c (.int .u64 0)))] (.seq (iSr [iSm 0,iQo 2 (.bin .lss .int aS0 aC0)] (.cond aT2 (iSr [iSm 0,.s (.neg aS0),.s (.conv .u64 aS0),iQm 1 0] .ret) .skip)) X1))
def oM.b0:IR:=oM.g0 oM.b1
def oM.res:List RV:=[.t (.of 1)]
def oM:Fn:={ params:=[(.of 0)],res:=oM.res,body:=oM.b0,init:=in3 }
theorem oM.ok:fnA Tryz.prog Tryz.f220 [0,2,4]=some oM:=by kernel_rfl
abbrev F224.fr:=fr12
def F224.b0:IR:=(iSr [iQo 2 (.mv (.c (.int .u64 0))),iQo 3 (.mv (.c (.int .u64 0)))] (iSr [iSm 0,.s (.bin .and .int aS0 (.c (.int .u64 4294967295))),iQm 4 0] (iSr [iSm 0,.s (.bin .shr .int aS0 (.c (.int .u64 32))),iQm 5 0] (iSr [iSm 1,.s (.bin .and .int aS0 (.c (.int .u64 4294967295))),iQm 6 0] (iSr [iSm 1,.s (.bin .shr .int aS0 (.c (.int .u64 32))),iQm 7 0] (iSr [iSm 4,iSm 6,.s (.bin .mul .int aS1 aS0),iQm 8 0] (iSr [iSm 5,iSm 6,.s (.bin .mul .int aS1 aS0),iSm 8,.s (.bin .shr .int aS0 (.c (.int .u64 32))),.s (.bin .add .int aS2 aS0),iQm 9 0] (iSr [iSm 9,.s (.bin .and .int aS0 (.c (.int .u64 4294967295))),iQm 10 0] (iSr [iSm 9,.s (.bin .shr .int aS0 (.c (.int .u64 32))),iQm 11 0] (iSr [iSm 10,iSm 4,iSm 7,.s (.bin .mul .int aS1 aS0),.s (.bin .add .int aS3 aS0),iQm 10 0] (iSr [iSm 5,iSm 7,.s (.bin .mul .int aS1 aS0),iSm 11,.s (.bin .add .int aS1 aS0),iSm 10,.s (.bin .shr .int aS0 (.c (.int .u64 32))),.s (.bin .add .int aS2 aS0),iQm 2 0] (iSr [iSm 0,iSm 1,.s (.bin .mul .int aS1 aS0),iQm 3 0] .ret))))))))))))
def F224.res:List RV:=[.t (.of 2),.t (.of 3)]
def F224:Fn:={ params:=[(.of 0),(.of 1)],res:=F224.res,body:=F224.b0,init:=in12 }
theorem F224.ok:fnA Tryz.prog Tryz.f224 [0,1,4,5,6,7,8,9,10,11,12,13]=some F224:=by kernel_rfl
abbrev oN.fr:=fr5
def oN.b1:IR:=(iSr [iSm 3,.s (.len aS0),.s (.bin .sub .int aS0 aC1),.s (.bin .mul .int aC64 aS0),iSm 3,iSm 3,.s (.len aS0),.s (.bin .sub .int aS0 aC1),.s (.zx 1 aS3 aS0),.s (.load aS0),iCa 213 [aS0],.s (.bin .add .int aS7 aS0),iQm 2 0] .ret)
def oN.g0 (X1:IR):IR:=(iSr [iWl 1 (.box aT0),iQo 2 (.mv aC0)] (iSr [.s (.zh 2 aT1),iCa 174 [aS0],.s (.mv aS0),.s (.ext 0 aS0),.s (.ext 1 aS1),.s (.mv aS1),iQm 3 1] (.seq (iSr [iSm 3,.s (.len aS0),iQo 4 (.bin .eql .int aS0 aC0)] (.cond aT4 (iSr [iQo 2 (.mv aC0)] .ret) .skip)) X1)))
def oN.b0:IR:=oN.g0 oN.b1
def oN.res:List RV:=[.t (.of 2)]
def oN:Fn:={ params:=[(.of 0)],res:=oN.res,body:=oN.b0,init:=in5 }
theorem oN.ok:fnA Tryz.prog Tryz.f228 [0,1,2,4,12]=some oN:=by kernel_rfl
abbrev F230.fr:=fr2
def F230.b0:IR:=(iSr [iQo 1 (.mv (.c (.str [])))] (iSr [iSm 0,iCa 265 [aS0],iQm 1 0] .ret))
def F230.res:List RV:=[.t (.of 1)]
def F230:Fn:={ params:=[(.of 0)],res:=F230.res,body:=F230.b0,init:=in2 }
theorem F230.ok:fnA Tryz.prog Tryz.f230 [0,2]=some F230:=by kernel_rfl
abbrev xq.fr:=fr24
def xq.b10:IR:=(iSr [iSm 0,iSm 1,iSm 2,iSm 8,iSm 4,iCa 280 [aS4,aS3,aS2,aS1,aS0],.s (.mv aS0),.s (.ext 0 aS0),.s (.ext 1 aS1),iQm 11 1,iQm 12 0] (iSr [iSm 12,iQm 6 0] (iSr [iSm 11,iSm 1,.s (.bin .sub .int aS1 aS0),iSm 2,iSm 11,.s (.bin .sub .int aS1 aS0),iQm 13 3,iQm 14 0] (iSr [iSm 7,.s (.bin .quo .int aS0 aC8),iQm 15 0] (iSr [iSm 13,iSm 14,iQo 23 (.bin .lss .int aS1 aS0)] (.cond aT23 (iSr [iSm 13,iSm 15,.s (.bin .geq .int aS1 aS0),iQm 5 0] (iSr [iSm 0,iSm 1,iSm 11,iSm 3,iSm 4,iCa 243 [aS4,aS3,aS2,aS1,aS0]] (.reg [iSm 11,.s (.bin .add .int aS0 aC1),iQm 1 0]))) (iSr [iSm 14,iSm 15,.s (.bin .geq .int aS1 aS0),iQm 5 0] (iSr [iSm 0,iSm 11,.s (.bin .add .int aS0 aC1),iSm 2,iSm 3,iSm 4,iCa 243 [aS5,aS3,aS2,aS1,aS0]] (.reg [iSm 11,iQm 2 0])))))))))
def xq.g9 (X10:IR):IR:=(.seq (.seq (.yw [] [(iSm 1,0,[]),(.s (.bin .gtr .int aS0 aC0),0,[]),(.s (.mv aS0),0,[]),(iPt 0 (.mv aT4),0,[]),(iPt 1 (.mv aT0),0,[]),(iPt 2 (.mv aT1),0,[]),(iPt 3 (.bin .sub .int aS0 aC1),0,[]),(iPt 4 (.zx 1 aS2 aS0),0,[]),(iPt 5 (.load aS0),0,[]),(iPt 6 (.mv aT0),0,[]),(iPt 7 (.mv aT8),0,[]),(iPt 8 (.zx 1 aS1 aS0),0,[]),(iPt 9 (.load aS0),0,[]),(.w .push (some (aS10,true)) (.call aS9 [aS4,aS0]),0,[]),(iPt 11 (.bin .lss .int aS0 aC0),0,[]),(iPt 12 (.not aS0),0,[]),(iQo 22 (.pick aS13 aS0 (.c (.bool false))),0,[])]) (.cond aT22 (iSr [iSm 0,iSm 1,iSm 2,iSm 8,iSm 4,iCa 279 [aS4,aS3,aS2,aS1,aS0],iQm 10 0] (iSr [iSm 10,iQm 1 0] (.exit 1))) .skip)) X10)
def xq.b9:IR:=xq.g9 xq.b10
def xq.g8 (X9:IR):IR:=(.seq (iSr [iSm 5,.s (.mv aS0),iPt 0 (.mv aT6),.s (.pick aS1 aS0 (.c (.bool false))),.s (.mv aS0),iPt 0 (.mv aT9),iPt 1 (.bin .eql .int aS0 aC1),iQo 20 (.pick aS2 aS0 (.c (.bool false)))] (.cond aT20 (iSr [iSm 0,iSm 1,iSm 2,iSm 4,iWl 21 (.call (.c (.fn 278 (.of 278) [])) [aS3,aS2,aS1,aS0])] (.cond aT21 .ret .skip)) .skip)) X9)
def xq.b8:IR:=xq.g8 xq.b9
def xq.g7 (X8:IR):IR:=(iSr [iSm 0,iSm 1,iSm 2,iSm 4,iCa 276 [aS3,aS2,aS1,aS0],.s (.mv aS0),.s (.ext 0 aS0),.s (.ext 1 aS1),iQm 8 1,iQm 9 0] (.seq (iSr [iSm 9,iQo 19 (.bin .eql .int aS0 aC2)] (.cond aT19 (iSr [iSm 0,iSm 1,iSm 2,iSm 4,iCa 277 [aS3,aS2,aS1,aS0]] (iSr [iSm 2,.s (.bin .sub .int aS0 aC1),iSm 8,iSm 1,.s (.bin .sub .int aS1 aS0),.s (.bin .sub .int aS3 aS0),iQm 8 0] (.reg [iQo 9 (.mv aC1)]))) .skip)) X8))
def xq.b7:IR:=xq.g7 xq.b8
def xq.g6 (X7:IR):IR:=(.seq (iSr [iSm 5,iQo 18 (.not aS0)] (.cond aT18 (iSr [iSm 0,iSm 1,iSm 2,iSm 4,iCa 275 [aS3,aS2,aS1,aS0]] (.reg [iSm 3,.s (.bin .sub .int aS0 aC1),iQm 3 0])) .skip)) X7)
def xq.b6:IR:=xq.g6 xq.b7
def xq.g5 (X6:IR):IR:=(.seq (iSr [iSm 3,iQo 17 (.bin .eql .int aS0 aC0)] (.cond aO (iSr [iSm 0,iSm 1,iSm 2,iSm 4,iCa 274 [aS3,aS2,aS1,aS0]] .ret) .skip)) X6)
def xq.b5:IR:=xq.g5 xq.b6
def xq.g4 (X5:IR):IR:=(iSr [iSm 2,iSm 1,.s (.bin .sub .int aS1 aS0),iQm 7 0] (.seq (iSr [iSm 7,iQo 16 (.bin .leq .int aS0 aC12)] (.cond eX (iSr [iSm 0,iSm 1,iSm 2,iSm 4,iCa 273 [aS3,aS2,aS1,aS0]] .ret) .skip)) X5))
def xq.b4:IR:=xq.g4 xq.b5
def xq.g3 (X4:IR):IR:=(.block 1 X4)
def xq.b3:IR:=xq.g3 xq.b4
def xq.g2 (X3:IR):IR:=(.loop X3)
def xq.b2:IR:=xq.g2 xq.b3
def xq.g1 (X2:IR):IR:=(.block 0 X2)
def xq.b1:IR:=xq.g1 xq.b2
def xq.g0 (X1:IR):IR:=(iSr [iQo 5 (.mv (.c (.bool true)))] (iSr [iQo 6 (.mv (.c (.bool true)))] X1))
def xq.b0:IR:=xq.g0 xq.b1
def xq.res:List RV:=[]
def xq:Fn:={ params:=[(.of 0),(.of 1),(.of 2),(.of 3),(.of 4)],res:=xq.res,body:=xq.b0,init:=in24 }
theorem xq.ok:fnA Tryz.prog Tryz.f243 [0,1,2,3,4,10,11,12,13,14,15,16,17,18,19,20,25,32,39,56,75,80,97,125]=some xq:=by kernel_rfl
abbrev cO.fr:=fr10
def cO.b1:IR:=(iSr [iQo 2 (.mv (.c (I (-1))))] .ret)
def cO.b5:IR:=(iSr [iQo 2 (.mv aC0)] .ret)
def cO.g4 (X5:IR):IR:=(.seq (iSr [iSm 0,iSm 1,iQo 9 (.bin .gtr .int aS1 aS0)] (.cond aT9 (iSr [iQo 2 (.mv aC1)] .ret) .skip)) X5)
def cO.b4:IR:=cO.g4 cO.b5
def cO.g3 (X4:IR):IR:=(.seq (iSr [iSm 0,iSm 1,iQo 8 (.bin .lss .int aS1 aS0)] (.cond aT8 (iSr [iQo 2 (.mv (.c (I (-1))))] .ret) .skip)) X4)
def cO.b3:IR:=cO.g3 cO.b4
def cO.g2 (X3:IR):IR:=(.seq (iSr [iQo 7 (.mv aT4)] (.cond aT7 (iSr [iQo 2 (.mv aC1)] .ret) .skip)) X3)
def cO.b2:IR:=cO.g2 cO.b3
def cO.g0 (X1 X2:IR):IR:=(iSr [iQo 2 (.mv aC0)] (iSr [iSm 0,iCa 250 [aS0],iQm 3 0] (iSr [iSm 1,iCa 250 [aS0],iQm 4 0] (.seq (iSr [iQo 5 (.mv aT3)] (.cond aT5 (.seq (iSr [iQo 6 (.mv aT4)] (.cond aT6 (iSr [iQo 2 (.mv aC0)] .ret) .skip)) X1) .skip)) X2))))
def cO.b0:IR:=cO.g0 cO.b1 cO.b2
def cO.res:List RV:=[.t (.of 2)]
def cO:Fn:={ params:=[(.of 0),(.of 1)],res:=cO.res,body:=cO.b0,init:=in10 }
theorem cO.ok:fnA Tryz.prog Tryz.f244 [0,1,4,5,6,11,12,13,16,19]=some cO:=by kernel_rfl
abbrev aU.fr:=fr2
def aU.b0:IR:=(iSr [iQo 1 (.mv (.c (.bool false)))] (iSr [iSm 0,iSm 0,.s (.bin .neq .int aS1 aS0),iQm 1 0] .ret))
def aU.res:List RV:=[.t (.of 1)]
def aU:Fn:={ params:=[(.of 0)],res:=aU.res,body:=aU.b0,init:=in2 }
theorem aU.ok:fnA Tryz.prog Tryz.f250 [0,2]=some aU:=by kernel_rfl
abbrev bQ.fr:=fr8
def bQ.b6:IR:=(iSr [iSm 5,iQm 3 0] (iSr [iSm 1,iSm 0,iSm 3,.s (.zx 1 aS1 aS0),.s (.load aS0),iWl 7 (.call aS4 [aS0])] (.cond aT7 (iSr [iSm 3,iQm 2 0] .ret) .skip)))
def bQ.g5 (X6:IR):IR:=(.block 1 X6)
def bQ.b5:IR:=bQ.g5 bQ.b6
def bQ.b7:IR:=(.reg [.s (.bin .add .int aT5 aC1),iQm 5 0])
def bQ.g4 (X5 X7:IR):IR:=(.seq X5 X7)
def bQ.b4:IR:=bQ.g4 bQ.b5 bQ.b7
def bQ.g3 (X4:IR):IR:=(iSr [iQo 6 (.bin .lss .int aT5 aT4)] (.seq (.cond aT6 .skip (.exit 0)) X4))
def bQ.b3:IR:=bQ.g3 bQ.b4
def bQ.g2 (X3:IR):IR:=(.loop X3)
def bQ.b2:IR:=bQ.g2 bQ.b3
def bQ.g1 (X2:IR):IR:=(.block 0 X2)
def bQ.b1:IR:=bQ.g1 bQ.b2
def bQ.b8:IR:=(iSr [iQo 2 (.mv (.c (I (-1))))] .ret)
def bQ.g0 (X1 X8:IR):IR:=(iSr [iQo 2 (.mv aC0)] (.seq (iSr [iSm 0,iQo 4 (.len aS0),iQo 5 (.mv aC0)] X1) X8))
def bQ.b0:IR:=bQ.g0 bQ.b1 bQ.b8
def bQ.res:List RV:=[.t (.of 2)]
def bQ:Fn:={ params:=[(.of 0),(.of 1)],res:=bQ.res,body:=bQ.b0,init:=in8 }
theorem bQ.ok:fnA Tryz.prog Tryz.f259 [0,1,4,5,7,8,9,16]=some bQ:=by kernel_rfl
abbrev F265.fr:=fr2
def F265.b0:IR:=(iSr [iQo 1 (.mv (.c (.str [])))] (iSr [iSm 0,iCa 286 [aS0,aC10],iQm 1 0] .ret))
def F265.res:List RV:=[.t (.of 1)]
def F265:Fn:={ params:=[(.of 0)],res:=F265.res,body:=F265.b0,init:=in2 }
theorem F265.ok:fnA Tryz.prog Tryz.f265 [0,2]=some F265:=by kernel_rfl
abbrev qc.fr:=fr8
def qc.b12:IR:=(.yw [] [(iSm 0,0,[]),(iSm 5,0,[]),(iSm 0,1,[]),(iSm 5,1,[]),(.s (.bin .sub .int aS0 aC1),1,[]),(iSm 0,0,[]),(iSm 5,0,[]),(.s (.bin .sub .int aS0 aC1),0,[]),(.s (.zx 1 aS2 aS0),0,[]),(.s (.load aS0),0,[]),(iSm 0,0,[]),(iSm 5,0,[]),(.s (.zx 1 aS1 aS0),0,[]),(.s (.load aS0),0,[]),(.s (.zx 1 aS13 aS12),0,[]),(.w .none none (.store 1 aS0 aS5),0,[]),(.s (.zx 1 aS12 aS10),0,[]),(.w .none none (.store 1 aS0 aS2),0,[])])
def qc.g11 (X12:IR):IR:=(.block 3 X12)
def qc.b11:IR:=qc.g11 qc.b12
def qc.b13:IR:=(.reg [iSm 5,.s (.bin .sub .int aS0 aC1),iQm 5 0])
def qc.g10 (X11 X13:IR):IR:=(.seq X11 X13)
def qc.b10:IR:=qc.g10 qc.b11 qc.b13
def qc.g9 (X10:IR):IR:=(.seq (.seq (.yw [] [(iSm 5,0,[]),(iSm 1,0,[]),(.s (.bin .gtr .int aS1 aS0),0,[]),(.s (.mv aS0),0,[]),(iPt 0 (.mv aT3),0,[]),(iPt 1 (.mv aT0),0,[]),(iPt 2 (.mv aT5),0,[]),(iPt 3 (.zx 1 aS1 aS0),0,[]),(iPt 4 (.load aS0),0,[]),(iPt 5 (.mv aT0),0,[]),(iPt 6 (.mv aT5),0,[]),(iPt 7 (.bin .sub .int aS0 aC1),0,[]),(iPt 8 (.zx 1 aS2 aS0),0,[]),(iPt 9 (.load aS0),0,[]),(.w .push (some (aS10,true)) (.call aS9 [aS5,aS0]),0,[]),(iPt 11 (.bin .lss .int aS0 aC0),0,[]),(iQo 7 (.pick aS12 aS0 (.c (.bool false))),0,[])]) (.cond aT7 .skip (.exit 2))) X10)
def qc.b9:IR:=qc.g9 qc.b10
def qc.g8 (X9:IR):IR:=(.loop X9)
def qc.b8:IR:=qc.g8 qc.b9
def qc.g7 (X8:IR):IR:=(.block 2 X8)
def qc.b7:IR:=qc.g7 qc.b8
def qc.g6 (X7:IR):IR:=(iSr [iSm 4,iQm 5 0] X7)
def qc.b6:IR:=qc.g6 qc.b7
def qc.g5 (X6:IR):IR:=(.block 1 X6)
def qc.b5:IR:=qc.g5 qc.b6
def qc.b14:IR:=(.reg [iSm 4,.s (.bin .add .int aS0 aC1),iQm 4 0])
def qc.g4 (X5 X14:IR):IR:=(.seq X5 X14)
def qc.b4:IR:=qc.g4 qc.b5 qc.b14
def qc.g3 (X4:IR):IR:=(.seq (iSr [iSm 4,iSm 2,iQo 6 (.bin .lss .int aS1 aS0)] (.cond aT6 .skip (.exit 0))) X4)
def qc.b3:IR:=qc.g3 qc.b4
def qc.g2 (X3:IR):IR:=(.loop X3)
def qc.b2:IR:=qc.g2 qc.b3
def qc.g1 (X2:IR):IR:=(.block 0 X2)
def qc.b1:IR:=qc.g1 qc.b2
def qc.g0 (X1:IR):IR:=(iSr [iSm 1,.s (.bin .add .int aS0 aC1),iQm 4 0] X1)
def qc.b0:IR:=qc.g0 qc.b1
def qc.res:List RV:=[]
def qc:Fn:={ params:=[(.of 0),(.of 1),(.of 2),(.of 3)],res:=qc.res,body:=qc.b0,init:=in8 }
theorem qc.ok:fnA Tryz.prog Tryz.f273 [0,1,2,3,8,9,14,34]=some qc:=by kernel_rfl
end
end Go.Ev
