import Derived.Test.YtkjkjpmahgeneaaGreatDoorIrA
import Derived.Test.YtkjkjpmahgeneaaGreatDoorEvC
import Derived.Test.YtkjkjpmahgeneaaGreatDoorProg
import Derived.KernelRfl
set_option linter.unusedSimpArgs false
set_option linter.unusedVariables false
namespace Go.Ev
open Go Go.Proofs
set_option maxRecDepth 100000
noncomputable section

abbrev fC.fr:=fr12
def fC.b3:IR:=(.reg [iWl 6 (.alloc [.zh,(.bool false)]),.w .none none (.store 2 aT6 bW)])
def fC.b6:IR:=(.reg [.s (.load aT5),iSm 7,.w .push none (.yc 1 1 [.zh] [(0,1,aS0)]),.w .push none (.app 1 24 aS2 aS0),.w .none none (.store 1 aT5 aS0)])
def fC.g5 (X6:IR):IR:=(iSr [.s (.zi 2 aT6),.s (.load aT2),iCa 135 [aS1,aS0],iQm 7 0] (.seq (iSr [iSm 7,iWl 11 (.call (.c (.fn 136 (.of 136) [])) [aS0,(.c (.fn 137 (.of 137) []))])] (.cond ni (iSr [.w .none none (.store 1 aT3 (.c .zh)),.w .none none (.store 1 aT4 aC3)] .ret) .skip)) X6))
def fC.b5:IR:=fC.g5 fC.b6
def fC.g4 (X5:IR):IR:=(.block 1 X5)
def fC.b4:IR:=fC.g4 fC.b5
def fC.g2 (X3 X4:IR):IR:=(.rf aT8 [(.of 9),(.of 10)] X3 X4)
def fC.b2:IR:=fC.g2 fC.b3 fC.b4
def fC.g1 (X2:IR):IR:=(.block 0 X2)
def fC.b1:IR:=fC.g1 fC.b2
def fC.b7:IR:=(iSr [.s (.load aT5),.w .push none (.call (.c (.fn 200 (.of 200) [])) [aS0,(.c (.fn 201 (.of 201) []))])] (iSr [.s (.load aT5),.w .push none (.call (.c (.fn 202 (.of 202) [])) [aS0,(.c (.fn 158 (.of 158) []))]),.w .none none (.store 1 aT3 aS0),.w .none none (.store 1 aT4 aC0)] .ret))
def fC.g0 (X1 X7:IR):IR:=(iSr [iWl 2 (.box aT1),iWl 3 (.alloc [.zh]),iWl 4 (.alloc [(I 0)])] (iSr [iWl 5 (.alloc [.zh])] (.seq (iSr [iSm 0,iWl 8 (.call (.c (.fn 90 (.of 90) [])) [aS0])] X1) X7)))
def fC.b0:IR:=fC.g0 fC.b1 fC.b7
def fC.res:List RV:=[.cell (.of 3) none,.cell (.of 4) none]
def fC:Fn:={ params:=[(.of 0),(.of 1)],res:=fC.res,body:=fC.b0,init:=in12 }
theorem fC.ok:fnA Tryz.prog Tryz.f157 [0,1,3,4,5,6,8,9,11,12,13,18]=some fC:=by kernel_rfl
abbrev jv.fr:=fr9
def jv.b7:IR:=(iSr [iSm 6,iQm 3 0] (.seq (.yt [] [(iSm 0,0,[]),(iSm 3,0,[]),(.s (.zu 1 aS1 aS0),0,[]),(.s (.load aS0),0,[]),(iSm 1,0,[]),(iSm 3,0,[]),(.s (.zu 1 aS1 aS0),0,[]),(.s (.load aS0),0,[]),(iQo 8 (.bin .neq .int aS4 aS0),0,[])]) (.cond aT8 (iSr [iQo 2 (.mv (.c (.bool false)))] .ret) .skip)))
def jv.g6 (X7:IR):IR:=(.block 1 X7)
def jv.b6:IR:=jv.g6 jv.b7
def jv.b8:IR:=(.reg [.s (.bin .add .int aT6 aC1),iQm 6 0])
def jv.g5 (X6 X8:IR):IR:=(.seq X6 X8)
def jv.b5:IR:=jv.g5 jv.b6 jv.b8
def jv.g4 (X5:IR):IR:=(iSr [iQo 7 (.bin .lss .int aT6 aT5)] (.seq (.cond aT7 .skip (.exit 0)) X5))
def jv.b4:IR:=jv.g4 jv.b5
def jv.g3 (X4:IR):IR:=(.loop X4)
def jv.b3:IR:=jv.g3 jv.b4
def jv.g2 (X3:IR):IR:=(.block 0 X3)
def jv.b2:IR:=jv.g2 jv.b3
def jv.b9:IR:=(iSr [iQo 2 (.mv (.c (.bool true)))] .ret)
def jv.g1 (X2 X9:IR):IR:=(.seq (iSr [iSm 0,iQo 5 (.len aS0),iQo 6 (.mv aC0)] X2) X9)
def jv.b1:IR:=jv.g1 jv.b2 jv.b9
def jv.g0 (X1:IR):IR:=(iSr [iQo 2 (.mv (.c (.bool false)))] (.seq (iSr [iSm 0,.s (.len aS0),iSm 1,.s (.len aS0),iQo 4 (.bin .neq .int aS2 aS0)] (.cond aT4 (iSr [iQo 2 (.mv (.c (.bool false)))] .ret) .skip)) X1))
def jv.b0:IR:=jv.g0 jv.b1
def jv.res:List RV:=[.t (.of 2)]
def jv:Fn:={ params:=[(.of 0),(.of 1)],res:=jv.res,body:=jv.b0,init:=in9 }
theorem jv.ok:fnA Tryz.prog Tryz.f158 [0,1,4,5,10,12,13,14,24]=some jv:=by kernel_rfl
abbrev qx.fr:=fr9
def qx.b6:IR:=(iSr [iSm 6,.s (.zu 2 aT4 aT6),.s (.zi 2 aS0),iWl 3 (.alloc [.zh,(.bool false)]),iQm 2 2,.w .none none (.store 2 aT3 aS0)] (iSr [iSm 0,iSm 2,.s (.zi 2 aT3),.w .push none (.call aS2 [aS1,aS0]),iQo 8 (.not aS0)] (.cond aT8 .ret .skip)))
def qx.g5 (X6:IR):IR:=(.block 1 X6)
def qx.b5:IR:=qx.g5 qx.b6
def qx.b7:IR:=(.reg [.s (.bin .add .int aT6 aC1),iQm 6 0])
def qx.g4 (X5 X7:IR):IR:=(.seq X5 X7)
def qx.b4:IR:=qx.g4 qx.b5 qx.b7
def qx.g3 (X4:IR):IR:=(iSr [iQo 7 (.bin .lss .int aT6 aT5)] (.seq (.cond aT7 .skip (.exit 0)) X4))
def qx.b3:IR:=qx.g3 qx.b4
def qx.g2 (X3:IR):IR:=(.loop X3)
def qx.b2:IR:=qx.g2 qx.b3
def qx.g1 (X2:IR):IR:=(.block 0 X2)
def qx.b1:IR:=qx.g1 qx.b2
def qx.g0 (X1:IR):IR:=(iSr [iQo 4 (.load aT1),iQo 5 (.len aT4),iQo 6 (.mv aC0)] X1)
def qx.b0:IR:=qx.g0 qx.b1
def qx.res:List RV:=[]
def qx:Fn:={ params:=[(.of 0),(.of 1)],res:=qx.res,body:=qx.b0,init:=in9 }
theorem qx.ok:fnA Tryz.prog Tryz.f159 [0,1,3,4,5,6,7,8,16]=some qx:=by kernel_rfl
abbrev vg.fr:=fr23
def vg.b10:IR:=(iSr [iSm 0,iSm 1,iSm 2,iSm 7,iCa 211 [aS3,aS2,aS1,aS0],.s (.mv aS0),.s (.ext 0 aS0),.s (.ext 1 aS1),iQm 10 1,iQm 11 0] (iSr [iSm 11,iQm 5 0] (iSr [iSm 10,iSm 1,.s (.bin .sub .int aS1 aS0),iSm 2,iSm 10,.s (.bin .sub .int aS1 aS0),iQm 12 3,iQm 13 0] (iSr [iSm 6,.s (.bin .quo .int aS0 aC8),iQm 14 0] (iSr [iSm 12,iSm 13,iQo 22 (.bin .lss .int aS1 aS0)] (.cond aT22 (iSr [iSm 12,iSm 14,.s (.bin .geq .int aS1 aS0),iQm 4 0] (iSr [iSm 0,iSm 1,iSm 10,iSm 3,iCa 160 [aS3,aS2,aS1,aS0]] (.reg [iSm 10,.s (.bin .add .int aS0 aC1),iQm 1 0]))) (iSr [iSm 13,iSm 14,.s (.bin .geq .int aS1 aS0),iQm 4 0] (iSr [iSm 0,iSm 10,.s (.bin .add .int aS0 aC1),iSm 2,iSm 3,iCa 160 [aS4,aS2,aS1,aS0]] (.reg [iSm 10,iQm 2 0])))))))))
def vg.g9 (X10:IR):IR:=(.seq (.seq (.yt [] [(iSm 1,0,[]),(.s (.bin .gtr .int aS0 aC0),0,[]),(.s (.mv aS0),0,[]),(iPt 0 (.mv aT0),0,[]),(iPt 1 (.mv aT1),0,[]),(iPt 2 (.bin .sub .int aS0 aC1),0,[]),(iPt 3 (.zu 1 aS2 aS0),0,[]),(iPt 4 (.load aS0),0,[]),(iPt 5 (.mv aT0),0,[]),(iPt 6 (.mv aT7),0,[]),(iPt 7 (.zu 1 aS1 aS0),0,[]),(iPt 8 (.load aS0),0,[]),(.w .push (some (aS9,true)) (.call (.c (.fn 209 (.of 209) [])) [aS4,aS0]),0,[]),(iPt 10 (.not aS0),0,[]),(iQo 21 (.pick aS11 aS0 (.c (.bool false))),0,[])]) (.cond aT21 (iSr [iSm 0,iSm 1,iSm 2,iSm 7,iCa 210 [aS3,aS2,aS1,aS0],iQm 9 0] (iSr [iSm 9,iQm 1 0] (.exit 1))) .skip)) X10)
def vg.b9:IR:=vg.g9 vg.b10
def vg.g8 (X9:IR):IR:=(.seq (iSr [iSm 4,.s (.mv aS0),iPt 0 (.mv aT5),.s (.pick aS1 aS0 (.c (.bool false))),.s (.mv aS0),iPt 0 (.mv aT8),iPt 1 (.bin .eql .int aS0 aC1),iQo 19 (.pick aS2 aS0 (.c (.bool false)))] (.cond aT19 (iSr [iSm 0,iSm 1,iSm 2,iWl 20 (.call (.c (.fn 208 (.of 208) [])) [aS2,aS1,aS0])] (.cond aT20 .ret .skip)) .skip)) X9)
def vg.b8:IR:=vg.g8 vg.b9
def vg.g7 (X8:IR):IR:=(iSr [iSm 0,iSm 1,iSm 2,iCa 206 [aS2,aS1,aS0],.s (.mv aS0),.s (.ext 0 aS0),.s (.ext 1 aS1),iQm 7 1,iQm 8 0] (.seq (iSr [iSm 8,iQo 18 (.bin .eql .int aS0 aC2)] (.cond aT18 (iSr [iSm 0,iSm 1,iSm 2,iCa 207 [aS2,aS1,aS0]] (iSr [iSm 2,.s (.bin .sub .int aS0 aC1),iSm 7,iSm 1,.s (.bin .sub .int aS1 aS0),.s (.bin .sub .int aS3 aS0),iQm 7 0] (.reg [iQo 8 (.mv aC1)]))) .skip)) X8))
def vg.b7:IR:=vg.g7 vg.b8
def vg.g6 (X7:IR):IR:=(.seq (iSr [iSm 4,iQo 17 (.not aS0)] (.cond aP (iSr [iSm 0,iSm 1,iSm 2,iCa 205 [aS2,aS1,aS0]] (.reg [iSm 3,.s (.bin .sub .int aS0 aC1),iQm 3 0])) .skip)) X7)
def vg.b6:IR:=vg.g6 vg.b7
def vg.g5 (X6:IR):IR:=(.seq (iSr [iSm 3,iQo 16 (.bin .eql .int aS0 aC0)] (.cond aO (iSr [iSm 0,iSm 1,iSm 2,iCa 204 [aS2,aS1,aS0]] .ret) .skip)) X6)
def vg.b5:IR:=vg.g5 vg.b6
def vg.g4 (X5:IR):IR:=(iSr [iSm 2,iSm 1,.s (.bin .sub .int aS1 aS0),iQm 6 0] (.seq (iSr [iSm 6,iQo 15 (.bin .leq .int aS0 aC12)] (.cond oI (iSr [iSm 0,iSm 1,iSm 2,iCa 203 [aS2,aS1,aS0]] .ret) .skip)) X5))
def vg.b4:IR:=vg.g4 vg.b5
def vg.g3 (X4:IR):IR:=(.block 1 X4)
def vg.b3:IR:=vg.g3 vg.b4
def vg.g2 (X3:IR):IR:=(.loop X3)
def vg.b2:IR:=vg.g2 vg.b3
def vg.g1 (X2:IR):IR:=(.block 0 X2)
def vg.b1:IR:=vg.g1 vg.b2
def vg.g0 (X1:IR):IR:=(iSr [iQo 4 (.mv (.c (.bool true)))] (iSr [iQo 5 (.mv (.c (.bool true)))] X1))
def vg.b0:IR:=vg.g0 vg.b1
def vg.res:List RV:=[]
def vg:Fn:={ params:=[(.of 0),(.of 1),(.of 2),(.of 3)],res:=vg.res,body:=vg.b0,init:=in23 }
theorem vg.ok:fnA Tryz.prog Tryz.f160 [0,1,2,3,8,9,10,11,12,13,14,15,16,17,18,23,29,35,50,68,72,87,113]=some vg:=by kernel_rfl
abbrev oM.fr:=fr2
def oM.b1:IR:=(iSr [iSm 0,iCa 213 [aS0],iQm 1 0] .ret)
def oM.g0 (X1:IR):IR:=(iSr [iQo 1 (.mv aC0)] (.seq (.cond (.c (.bool false)) (iSr [iSm 0,.s (.conv .u32 aS0),iCa 212 [aS0],iQm 1 0] .ret) .skip) X1))
def oM.b0:IR:=oM.g0 oM.b1
def oM.res:List RV:=[.t (.of 1)]
def oM:Fn:={ params:=[(.of 0)],res:=oM.res,body:=oM.b0,init:=in2 }
theorem oM.ok:fnA Tryz.prog Tryz.f161 [0,2]=some oM:=by kernel_rfl
abbrev fG.fr:=fr8
def fG.b2:IR:=(iSr [iQo 4 (.mv (.c (I (-1))))] .ret)
def fG.g1 (X2:IR):IR:=(.seq (iSr [.s (.zn 1 aT2),iQo 7 (.load aS0)] (.cond aT7 (iSr [iQo 4 (.mv aC1)] .ret) .skip)) X2)
def fG.b1:IR:=fG.g1 fG.b2
def fG.g0 (X1:IR):IR:=(iSr [iWl 2 (.box aT0),iWl 3 (.box aT1),iQo 4 (.mv aC0)] (.seq (iSr [.s (.zn 0 aT2),.s (.load aS0),.s (.zn 0 aT3),.s (.load aS0),iCa 201 [aS2,aS0],iQm 5 0] (iSr [iSm 5,.s (.bin .neq .int aS0 aC0),.s (.mv aS0),iPf 0 (.zn 1 aT2),iPf 1 (.load aS0),iPf 2 (.zn 1 aT3),iPf 3 (.load aS0),iPf 4 (.bin .eql .bool aS2 aS0),iQo 6 (.pick aS5 (.c (.bool true)) aS0)] (.cond aT6 (iSr [iSm 5,iQm 4 0] .ret) .skip))) X1))
def fG.b0:IR:=fG.g0 fG.b1
def fG.res:List RV:=[.t (.of 4)]
def fG:Fn:={ params:=[(.of 0),(.of 1)],res:=fG.res,body:=fG.b0,init:=in8 }
theorem fG.ok:fnA Tryz.prog Tryz.f162 [0,1,2,3,4,5,19,22]=some fG:=by kernel_rfl
abbrev uw.fr:=fr7
def uw.b6:IR:=(iSr [iSm 5,iQm 3 0] (.reg [.s (.zn 0 aT2),.s (.load aS0),iSm 3,iSm 3,.s (.zu 1 aS2 aS1),.w .none none (.store 1 aS0 aS1)]))
def uw.g5 (X6:IR):IR:=(.block 1 X6)
def uw.b5:IR:=uw.g5 uw.b6
def uw.b7:IR:=(.reg [.s (.bin .add .int aT5 aC1),iQm 5 0])
def uw.g4 (X5 X7:IR):IR:=(.seq X5 X7)
def uw.b4:IR:=uw.g4 uw.b5 uw.b7
def uw.g3 (X4:IR):IR:=(iSr [iQo 6 (.bin .lss .int aT5 aT4)] (.seq (.cond aT6 .skip (.exit 0)) X4))
def uw.b3:IR:=uw.g3 uw.b4
def uw.g2 (X3:IR):IR:=(.loop X3)
def uw.b2:IR:=uw.g2 uw.b3
def uw.g1 (X2:IR):IR:=(.block 0 X2)
def uw.b1:IR:=uw.g1 uw.b2
def uw.b8:IR:=(iSr [.s (.zi 2 aT2),.w .none none (.store 2 aT1 aS0)] .ret)
def uw.g0 (X1 X8:IR):IR:=(iSr [iWl 1 (.alloc [.zh,(.bool false)])] (iSr [iSm 0,.w .push none (.gu 1 8 [(I 0)] aS0 aS0),.s (.build [.zh,(.bool false)] [(0,1,aS0)]),iWl 2 (.alloc [.zh,(.bool false)]),.w .none none (.store 2 aT2 aS0)] (.seq (iSr [.s (.zn 0 aT2),.s (.load aS0),iQo 4 (.len aS0),iQo 5 (.mv aC0)] X1) X8)))
def uw.b0:IR:=uw.g0 uw.b1 uw.b8
def uw.res:List RV:=[.cell (.of 1) (some 2)]
def uw:Fn:={ params:=[(.of 0)],res:=uw.res,body:=uw.b0,init:=in7 }
theorem uw.ok:fnA Tryz.prog Tryz.f163 [0,2,3,4,10,11,12]=some uw:=by kernel_rfl
abbrev uj.fr:=fr8
def uj.b6:IR:=(iSr [.s (.zu 1 aT3 aT5),.s (.load aS0),iQm 2 0] (iSr [iSm 2,iQo 7 (.bin .neq .int aS0 aC0)] (.cond aT7 (iSr [iSm 2,iQm 1 0] .ret) .skip)))
def uj.g5 (X6:IR):IR:=(.block 1 X6)
def uj.b5:IR:=uj.g5 uj.b6
def uj.b7:IR:=(.reg [.s (.bin .add .int aT5 aC1),iQm 5 0])
def uj.g4 (X5 X7:IR):IR:=(.seq X5 X7)
def uj.b4:IR:=uj.g4 uj.b5 uj.b7
def uj.g3 (X4:IR):IR:=(iSr [iQo 6 (.bin .lss .int aT5 aT4)] (.seq (.cond aT6 .skip (.exit 0)) X4))
def uj.b3:IR:=uj.g3 uj.b4
def uj.g2 (X3:IR):IR:=(.loop X3)
def uj.b2:IR:=uj.g2 uj.b3
def uj.g1 (X2:IR):IR:=(.block 0 X2)
def uj.b1:IR:=uj.g1 uj.b2
def uj.b8:IR:=(iSr [iQo 1 (.mv aC0)] .ret)
def uj.g0 (X1 X8:IR):IR:=(iSr [iQo 1 (.mv aC0)] (.seq (iSr [iQo 3 (.mv aT0),iQo 4 (.len aT3),iQo 5 (.mv aC0)] X1) X8))
def uj.b0:IR:=uj.g0 uj.b1 uj.b8
def uj.res:List RV:=[.t (.of 1)]
def uj:Fn:={ params:=[(.of 0)],res:=uj.res,body:=uj.b0,init:=in8 }
theorem uj.ok:fnA Tryz.prog Tryz.f165 [0,2,4,5,6,7,8,12]=some uj:=by kernel_rfl
abbrev aW.fr:=fr6
def aW.b0:IR:=(iSr [iWl 3 (.box aT0),iWl 4 (.box aT1),iQo 5 (.mv aC0)] (iSr [iSm 2,.s (.fn 215 (.of 215) [aT3,aT4]),iCa 136 [aS1,aS0],iCa 167 [aS0,aC3],iQm 5 0] .ret))
def aW.res:List RV:=[.t (.of 5)]
def aW:Fn:={ params:=[(.of 0),(.of 1),(.of 2)],res:=aW.res,body:=aW.b0,init:=in6 }
theorem aW.ok:fnA Tryz.prog Tryz.f166 [0,1,2,3,4,6]=some aW:=by kernel_rfl
abbrev tu.fr:=fr4
def tu.b1:IR:=(iSr [iQo 2 (.mv aC0)] .ret)
def tu.g0 (X1:IR):IR:=(iSr [iQo 2 (.mv aC0)] (.seq (iSr [iQo 3 (.mv aT0)] (.cond aT3 (iSr [iSm 1,iQm 2 0] .ret) .skip)) X1))
def tu.b0:IR:=tu.g0 tu.b1
def tu.res:List RV:=[.t (.of 2)]
def tu:Fn:={ params:=[(.of 0),(.of 1)],res:=tu.res,body:=tu.b0,init:=in4 }
theorem tu.ok:fnA Tryz.prog Tryz.f167 [0,1,4,5]=some tu:=by kernel_rfl
abbrev jo.fr:=fr14
def jo.b7:IR:=(iSr [iSm 11,.s (.zu 1 aT9 ni),.s (.load aS0),iQm 5 2,iQm 6 0] (iSr [iSm 6,.s (.bin .lss .int aS0 aC0),.s (.mv aS0),iPf 0 (.mv aT6),iPf 1 (.zn 0 aT2),iPf 2 (.load aS0),iPf 3 (.bin .geq .int aS2 aS0),.s (.pick aS4 (.c (.bool true)) aS0),iCa 167 [aS0,aC10],iSm 5,.s (.bin .gtr .int aS0 aC0),.s (.mv aS0),iPt 0 (.load aT4),iPt 1 (.mv aT5),iPt 2 (.bin .sub .int aS0 aC1),iPt 3 (.zu 1 aS2 aS0),iPt 4 (.load aS0),iPt 5 (.mv aT6),iPt 6 (.bin .geq .int aS1 aS0),.s (.pick aS7 aS0 (.c (.bool false))),iCa 167 [aS0,aC11],.w .push none (.yc 1 2 [(I 0)] [(0,1,aS12),(1,1,aS0)]),iCa 165 [aS0],iQm 7 0] (iSr [iSm 7,iQo 13 (.bin .neq .int aS0 aC0)] (.cond fF (iSr [iSm 7,iQm 3 0] .ret) .skip))))
def jo.g6 (X7:IR):IR:=(.block 1 X7)
def jo.b6:IR:=jo.g6 jo.b7
def jo.b8:IR:=(.reg [.s (.bin .add .int ni aC1),iQm 11 0])
def jo.g5 (X6 X8:IR):IR:=(.seq X6 X8)
def jo.b5:IR:=jo.g5 jo.b6 jo.b8
def jo.g4 (X5:IR):IR:=(iSr [iQo 12 (.bin .lss .int ni bW)] (.seq (.cond rE .skip (.exit 0)) X5))
def jo.b4:IR:=jo.g4 jo.b5
def jo.g3 (X4:IR):IR:=(.loop X4)
def jo.b3:IR:=jo.g3 jo.b4
def jo.g2 (X3:IR):IR:=(.block 0 X3)
def jo.b2:IR:=jo.g2 jo.b3
def jo.b9:IR:=(iSr [.s (.zn 1 aT2),.s (.load aS0),iSm 1,.s (.slice 1 aS1 none (some aS0) none),.s (.fn 217 (.of 217) [aT4]),iCa 216 [aS1,aS0],iCa 167 [aS0,aC9],iQm 3 0] .ret)
def jo.g1 (X2 X9:IR):IR:=(.seq (iSr [iQo 9 (.load aT4),iQo 10 (.len aT9),iQo 11 (.mv aC0)] X2) X9)
def jo.b1:IR:=jo.g1 jo.b2 jo.b9
def jo.g0 (X1:IR):IR:=(iSr [iWl 2 (.box aT0),iQo 3 (.mv aC0)] (iSr [.s (.zn 1 aT2),.s (.load aS0),iSm 1,.s (.zu 1 aS1 aS0),.s (.load aS0),iWl 4 (.alloc [.zh]),.w .none none (.store 1 aT4 aS0)] (.seq (iSr [.s (.load aT4),.s (.len aS0),iQo 8 (.bin .eql .int aS0 aC0)] (.cond aT8 (iSr [iQo 3 (.mv aC12)] .ret) .skip)) X1)))
def jo.b0:IR:=jo.g0 jo.b1
def jo.res:List RV:=[.t (.of 3)]
def jo:Fn:={ params:=[(.of 0),(.of 1)],res:=jo.res,body:=jo.b0,init:=in14 }
theorem jo.ok:fnA Tryz.prog Tryz.f168 [0,1,2,4,5,6,7,8,16,17,18,19,20,48]=some jo:=by kernel_rfl
abbrev zx.fr:=fr10
def zx.b6:IR:=(iSr [.s (.zu 1 aT6 aT8),.s (.load aS0),iQm 5 0] (.reg [iSm 4,iSm 0,iSm 5,.s (.zu 1 aS1 aS0),.s (.load aS0),.w .push none (.yc 1 1 [(I 0)] [(0,1,aS0)]),.w .push none (.app 1 8 aS5 aS0),iQm 4 0]))
def zx.g5 (X6:IR):IR:=(.block 1 X6)
def zx.b5:IR:=zx.g5 zx.b6
def zx.b7:IR:=(.reg [.s (.bin .add .int aT8 aC1),iQm 8 0])
def zx.g4 (X5 X7:IR):IR:=(.seq X5 X7)
def zx.b4:IR:=zx.g4 zx.b5 zx.b7
def zx.g3 (X4:IR):IR:=(iSr [iQo 9 (.bin .lss .int aT8 aT7)] (.seq (.cond aT9 .skip (.exit 0)) X4))
def zx.b3:IR:=zx.g3 zx.b4
def zx.g2 (X3:IR):IR:=(.loop X3)
def zx.b2:IR:=zx.g2 zx.b3
def zx.g1 (X2:IR):IR:=(.block 0 X2)
def zx.b1:IR:=zx.g1 zx.b2
def zx.b8:IR:=(iSr [iSm 4,iCa 91 [aS0]] (.seq (.yt [] [(.s (.load aT2),1,[]),(iSm 4,0,[]),(.s (.build [.zh,(.bool false)] [(0,1,aS0)]),0,[]),(iCa 123 [aS0],0,[]),(.s (.look .str (.bool false) false aS3 aS0),0,[]),(iQm 3 0,0,[])]) .ret))
def zx.g0 (X1 X8:IR):IR:=(iSr [iQo 3 (.mv (.c (.bool false)))] (iSr [iQo 4 (.mv (.c .zh))] (.seq (iSr [iQo 6 (.mv aT1),iQo 7 (.len aT6),iQo 8 (.mv aC0)] X1) X8)))
def zx.b0:IR:=zx.g0 zx.b1 zx.b8
def zx.res:List RV:=[.t (.of 3)]
def zx:Fn:={ params:=[(.of 0),(.of 1),(.of 2)],res:=zx.res,body:=zx.b0,init:=in10 }
theorem zx.ok:fnA Tryz.prog Tryz.f169 [0,1,2,5,6,8,9,10,11,12]=some zx:=by kernel_rfl
abbrev sV.fr:=fr6
def sV.b2:IR:=(iSr [.s (.zn 1 aT1),.s (.load aS0),.s (.bin .neq (.nil .sl) aS0 (.c .zh)),iQm 4 0] (.cond aT4 (.seq (.yt [] [(.s (.zn 0 aT1),0,[]),(.s (.load aS0),0,[]),(.s (.bin .lss .int aS0 aC0),0,[]),(.s (.zn 1 aT1),0,[]),(.s (.load aS0),0,[]),(iQm 2 2,0,[]),(iQm 3 0,0,[])]) .ret) (iSr [.s (.zn 0 aT1),.s (.load aS0),.s (.bin .eql .int aS0 aC0),iQm 5 0] (.cond aT5 (iSr [iQo 2 (.mv (.c (.bool false))),iQo 3 (.mv (.c .zh))] .ret) .skip))))
def sV.g1 (X2:IR):IR:=(.block 0 X2)
def sV.b1:IR:=sV.g1 sV.b2
def sV.b3:IR:=(.seq (.yt [] [(.s (.zn 0 aT1),2,[]),(.s (.load aS0),2,[]),(.s (.bin .lss .int aS0 aC0),2,[]),(.s (.zn 0 aT1),0,[]),(.s (.load aS0),0,[]),(iCa 220 [aS0],0,[]),(iQm 2 3,1,[]),(.w .push none (.yc 1 1 [(.int .u64 0)] [(0,1,aS0)]),0,[]),(iQm 3 0,0,[])]) .ret)
def sV.g0 (X1 X3:IR):IR:=(iSr [iWl 1 (.box aT0),iQo 2 (.mv (.c (.bool false))),iQo 3 (.mv (.c .zh))] (.seq X1 X3))
def sV.b0:IR:=sV.g0 sV.b1 sV.b3
def sV.res:List RV:=[.t (.of 2),.t (.of 3)]
def sV:Fn:={ params:=[(.of 0)],res:=sV.res,body:=sV.b0,init:=in6 }
theorem sV.ok:fnA Tryz.prog Tryz.f174 [0,1,2,3,4,13]=some sV:=by kernel_rfl
abbrev aQ.fr:=fr14
def aQ.b1:IR:=(iSr [iSm 6,.s (.conv .i64 aS0),.s (.build [(I 0),.zh] [(0,1,aS0)]),.w .none none (.store 2 aT4 aS0)] .ret)
def aQ.b2:IR:=(iSr [.s (.zi 2 aT2),iCa 174 [aS0],.s (.mv aS0),.s (.ext 0 aS0),.s (.ext 1 aS1),iQm 7 1,iQm 8 0] (iSr [.s (.zi 2 aT3),iCa 174 [aS0],.s (.mv aS0),.s (.ext 0 aS0),.s (.ext 1 aS1),iQm 9 1,iQm 10 0] (iSr [iSm 7,iSm 9,.s (.bin .neq .bool aS1 aS0),iSm 8,iSm 10,iCa 225 [aS1,aS0],iCa 175 [aS3,aS0],.w .none none (.store 2 aT4 aS0)] .ret)))
def aQ.g0 (X1 X2:IR):IR:=(iSr [iWl 2 (.box aT0),iWl 3 (.box aT1),iWl 4 (.alloc [(I 0),.zh])] (.seq (iSr [.s (.zn 1 aT2),.s (.load aS0),.s (.bin .eql (.nil .sl) aS0 (.c .zh)),.s (.mv aS0),iPt 0 (.zn 1 aT3),iPt 1 (.load aS0),iPt 2 (.bin .eql (.nil .sl) aS0 (.c .zh)),iQo 11 (.pick aS3 aS0 (.c (.bool false)))] (.cond ni (.seq (.yt [] [(.s (.zn 0 aT2),0,[]),(.s (.load aS0),0,[]),(.s (.zn 0 aT3),1,[]),(.s (.load aS0),1,[]),(iCa 220 [aS2],0,[]),(iCa 220 [aS1],0,[]),(iCa 224 [aS1,aS0],0,[]),(.s (.mv aS0),0,[]),(.s (.ext 0 aS0),0,[]),(.s (.ext 1 aS1),0,[]),(iQm 5 1,0,[]),(iQm 6 0,0,[])]) (iSr [iSm 5,.s (.bin .eql .int aS0 (.c (.int .u64 0))),.s (.mv aS0),iPt 0 (.mv aT6),iPt 1 (.bin .leq .int aS0 (.c (.int .u64 9223372036854775807))),iQo 12 (.pick aS2 aS0 (.c (.bool false)))] (.cond rE (.seq (iSr [.s (.zn 0 aT2),.s (.load aS0),.s (.bin .lss .int aS0 aC0),.s (.zn 0 aT3),.s (.load aS0),.s (.bin .lss .int aS0 aC0),iQo 13 (.bin .neq .bool aS3 aS0)] (.cond fF (iSr [iSm 6,.s (.conv .i64 aS0),.s (.neg aS0),.s (.build [(I 0),.zh] [(0,1,aS0)]),.w .none none (.store 2 aT4 aS0)] .ret) .skip)) X1) .skip))) .skip)) X2))
def aQ.b0:IR:=aQ.g0 aQ.b1 aQ.b2
def aQ.res:List RV:=[.cell (.of 4) (some 2)]
def aQ:Fn:={ params:=[(.of 0),(.of 1)],res:=aQ.res,body:=aQ.b0,init:=in14 }
theorem aQ.ok:fnA Tryz.prog Tryz.f179 [0,1,2,3,4,5,6,7,8,9,10,18,34,41]=some aQ:=by kernel_rfl
abbrev F180.fr:=fr3
def F180.b0:IR:=(iSr [iWl 1 (.box aT0),iQo 2 (.mv aC0)] (iSr [.s (.zn 0 aT1),.s (.load aS0),.s (.oZ false aC1 [aS0]),.s (.oZ true (.c (I (-1))) [aS0]),iQm 2 0] .ret))
def F180.res:List RV:=[.t (.of 2)]
def F180:Fn:={ params:=[(.of 0)],res:=F180.res,body:=F180.b0,init:=in3 }
theorem F180.ok:fnA Tryz.prog Tryz.f180 [0,1,2]=some F180:=by kernel_rfl
abbrev sW.fr:=fr18
def sW.b1:IR:=(iSr [iSm 6,.s (.build [(I 0),.zh] [(0,1,aS0)]),iSm 7,.s (.build [(I 0),.zh] [(0,1,aS0)]),.w .none none (.store 2 aT4 aS2),.w .none none (.store 2 aT5 aS0)] .ret)
def sW.b3:IR:=(.seq (.yt [] [(.s (.zi 2 fF),0,[]),(.s (.zi 2 tN),1,[]),(.w .none none (.store 2 aT4 aS1),0,[]),(.w .none none (.store 2 aT5 aS0),0,[])]) .ret)
def sW.g2 (X3:IR):IR:=(iSr [.s (.zi 2 aT2),iCa 174 [aS0],.s (.mv aS0),.s (.ext 0 aS0),.s (.ext 1 aS1),iQm 8 1,iQm 9 0] (iSr [.s (.zi 2 aT3),iCa 174 [aS0],.s (.mv aS0),.s (.ext 0 aS0),.s (.ext 1 aS1),.s (.mv aS1),iQm 10 1] (iSr [iSm 9,iSm 10,iCa 226 [aS1,aS0],.s (.mv aS0),.s (.ext 0 aS0),.s (.ext 1 aS1),iQm 11 1,iQm 12 0] (iSr [iSm 8,iSm 11,iCa 175 [aS1,aS0],iSm 8,iSm 12,iCa 175 [aS1,aS0],iWl 13 (.alloc [(I 0),.zh]),iWl 14 (.alloc [(I 0),.zh]),.w .none none (.store 2 fF aS3),.w .none none (.store 2 tN aS0)] (.seq (iSr [.s (.zi 2 tN),iCa 180 [aS0],iQo 17 (.bin .lss .int aS0 aC0)] (.cond aP (.yt [] [(.s (.zi 2 fF),1,[]),(.s (.zi 2 tN),2,[]),(.s (.zi 2 aT3),2,[]),(iCa 110 [aC1],0,[]),(iCa 227 [aS3,aS0],0,[]),(iCa 111 [aS3,aS2],0,[]),(.w .none none (.store 2 fF aS1),0,[]),(.w .none none (.store 2 tN aS0),0,[])]) .skip)) X3)))))
def sW.b2:IR:=sW.g2 sW.b3
def sW.g0 (X1 X2:IR):IR:=(iSr [iWl 2 (.box aT0),iWl 3 (.box aT1),iWl 4 (.alloc [(I 0),.zh]),iWl 5 (.alloc [(I 0),.zh])] (.seq (iSr [.s (.zn 1 aT2),.s (.load aS0),.s (.bin .eql (.nil .sl) aS0 (.c .zh)),.s (.mv aS0),iPt 0 (.zn 1 aT3),iPt 1 (.load aS0),iPt 2 (.bin .eql (.nil .sl) aS0 (.c .zh)),.s (.pick aS3 aS0 (.c (.bool false))),.s (.mv aS0),iPt 0 (.zn 0 aT2),iPt 1 (.load aS0),iPt 2 (.bin .neq .int aS0 (.c (I (-9223372036854775808)))),iQo 15 (.pick aS3 aS0 (.c (.bool false)))] (.cond oI (.seq (.yt [] [(.s (.zn 0 aT2),0,[]),(.s (.load aS0),0,[]),(.s (.zn 0 aT3),0,[]),(.s (.load aS0),0,[]),(.s (.bin .quo .int aS2 aS0),0,[]),(.s (.zn 0 aT2),0,[]),(.s (.load aS0),0,[]),(.s (.zn 0 aT3),0,[]),(.s (.load aS0),0,[]),(.s (.bin .rem .int aS2 aS0),0,[]),(iQm 6 5,0,[]),(iQm 7 0,0,[])]) (.seq (iSr [iSm 7,iQo 16 (.bin .lss .int aS0 aC0)] (.cond aO (.yt [] [(iSm 6,0,[]),(.s (.bin .sub .int aS0 aC1),0,[]),(iSm 7,0,[]),(.s (.zn 0 aT3),0,[]),(.s (.load aS0),0,[]),(.s (.bin .add .int aS2 aS0),0,[]),(iQm 6 4,0,[]),(iQm 7 0,0,[])]) .skip)) X1)) .skip)) X2))
def sW.b0:IR:=sW.g0 sW.b1 sW.b2
def sW.res:List RV:=[.cell (.of 4) (some 2),.cell (.of 5) (some 2)]
def sW:Fn:={ params:=[(.of 0),(.of 1)],res:=sW.res,body:=sW.b0,init:=in18 }
theorem sW.ok:fnA Tryz.prog Tryz.f182 [0,1,2,3,4,5,6,7,8,9,11,12,13,14,15,28,40,75]=some sW:=by kernel_rfl
abbrev F183.fr:=fr3
def F183.b0:IR:=(iSr [iWl 1 (.box aT0),iQo 2 (.mv (.c (.bool false)))] (iSr [.s (.zi 2 aT1),iCa 228 [aS0],.s (.bin .gtr .int aS0 zth),.s (.mv aS0),iPt 0 (.zi 2 aT1),.w .push (some (aS1,true)) (.call (.c (.fn 185 (.of 185) [])) [aS0]),.w .push (some (aS2,true)) (.call (.c (.fn 229 (.of 229) [])) [aS0,(.c (.str [45]))]),iPt 3 (.slen aS0),iPt 4 (.bin .gtr .int aS0 zv4),.s (.pick aS5 aS0 (.c (.bool false))),iQm 2 0] .ret))
def F183.res:List RV:=[.t (.of 2)]
def F183:Fn:={ params:=[(.of 0)],res:=F183.res,body:=F183.b0,init:=in3 }
theorem F183.ok:fnA Tryz.prog Tryz.f183 [0,1,2]=some F183:=by kernel_rfl
abbrev F184.fr:=fr3
def F184.b0:IR:=(iSr [iWl 1 (.box aT0),iQo 2 (.mv (.c (.bool false)))] (iSr [.s (.zn 2 aT1),.s (.zn 1 aS0),.s (.load aS0),.s (.bin .eql (.nil .sl) aS0 (.c .zh)),.s (.mv aS0),iPt 0 (.zn 2 aT1),iPt 1 (.zn 0 aS0),iPt 2 (.load aS0),iPt 3 (.bin .eql .int aS0 aC1),.s (.pick aS4 aS0 (.c (.bool false))),iQm 2 0] .ret))
def F184.res:List RV:=[.t (.of 2)]
def F184:Fn:={ params:=[(.of 0)],res:=F184.res,body:=F184.b0,init:=in3 }
theorem F184.ok:fnA Tryz.prog Tryz.f184 [0,1,2]=some F184:=by kernel_rfl
abbrev jk.fr:=fr18
def jk.b8:IR:=(iSr [iSm 6,iSm 9,.w .push none (.yc 1 1 [(.str [])] [(0,1,aS0)]),.w .push none (.app 1 16 aS2 aS0),iQm 6 0] (.reg [iSm 7,iQm 4 0]))
def jk.g7 (X8:IR):IR:=(.seq (iSr [iSm 7,.s (.len aS0),iQo 15 (.bin .gtr .int aS0 aC0)] (.cond oI (.reg [iSm 9,.s (.slen aS0),.s (.bin .sub .int aC18 aS0),.w .push none (.call (.c (.fn 232 (.of 232) [])) [(.c (.str [48])),aS0]),iSm 9,.s (.bin .add .str aS1 aS0),iQm 9 0]) .skip)) X8)
def jk.b7:IR:=jk.g7 jk.b8
def jk.g6 (X7:IR):IR:=(iSr [iSm 4,iSm 5,iCa 226 [aS1,aS0],.s (.mv aS0),.s (.ext 0 aS0),.s (.ext 1 aS1),iQm 7 1,iQm 8 0] (iSr [iQo 9 (.mv (.c (.str [48])))] (.seq (iSr [iSm 8,.s (.len aS0),iQo 14 (.bin .gtr .int aS0 aC0)] (.cond tN (.reg [iSm 8,.s (.zu 1 aS0 aC0),.s (.load aS0),iCa 231 [aS0,aC10],iQm 9 0]) .skip)) X7)))
def jk.b6:IR:=jk.g6 jk.b7
def jk.g5 (X6:IR):IR:=(.block 1 X6)
def jk.b5:IR:=jk.g5 jk.b6
def jk.g4 (X5:IR):IR:=(.seq (iSr [iSm 4,.s (.len aS0),iQo 13 (.bin .gtr .int aS0 aC0)] (.cond fF .skip (.exit 0))) X5)
def jk.b4:IR:=jk.g4 jk.b5
def jk.g3 (X4:IR):IR:=(.loop X4)
def jk.b3:IR:=jk.g3 jk.b4
def jk.g2 (X3:IR):IR:=(.block 0 X3)
def jk.b2:IR:=jk.g2 jk.b3
def jk.b16:IR:=(.reg [iSm 6,iSm 11,.s (.zu 1 aS1 aS0),.s (.load aS0),iCa 233 [bW,aS0]])
def jk.g15 (X16:IR):IR:=(.block 3 X16)
def jk.b15:IR:=jk.g15 jk.b16
def jk.b17:IR:=(.reg [iSm 11,.s (.bin .sub .int aS0 aC1),iQm 11 0])
def jk.g14 (X15 X17:IR):IR:=(.seq X15 X17)
def jk.b14:IR:=jk.g14 jk.b15 jk.b17
def jk.g13 (X14:IR):IR:=(.seq (iSr [iSm 11,iQo 17 (.bin .geq .int aS0 aC0)] (.cond aP .skip (.exit 2))) X14)
def jk.b13:IR:=jk.g13 jk.b14
def jk.g12 (X13:IR):IR:=(.loop X13)
def jk.b12:IR:=jk.g12 jk.b13
def jk.g11 (X12:IR):IR:=(.block 2 X12)
def jk.b11:IR:=jk.g11 jk.b12
def jk.b18:IR:=(iSr [iCa 234 [bW],iQm 2 0] .ret)
def jk.g10 (X11 X18:IR):IR:=(.seq (iSr [iSm 6,.s (.len aS0),.s (.bin .sub .int aS0 aC1),iQm 11 0] X11) X18)
def jk.b10:IR:=jk.g10 jk.b11 jk.b18
def jk.g9 (X10:IR):IR:=(iSr [iWl 10 (.alloc [.sH,.zh])] (.seq (iSr [iQo 16 (.mv aT3)] (.cond aO (.reg [.w .push none (.call (.c (.fn 233 (.of 233) [])) [bW,(.c (.str [45]))])]) .skip)) X10))
def jk.b9:IR:=jk.g9 jk.b10
def jk.g1 (X2 X9:IR):IR:=(iSr [.s (.zi 2 aT1),iCa 174 [aS0],.s (.mv aS0),.s (.ext 0 aS0),.s (.ext 1 aS1),iQm 3 1,iQm 4 0] (iSr [.w .push none (.yc 1 1 [(.int .u64 0)] [(0,1,(.c (.int .u64 1000000000000000000)))]),iQm 5 0] (iSr [iQo 6 (.mv (.c .zh))] (.seq X2 X9))))
def jk.b1:IR:=jk.g1 jk.b2 jk.b9
def jk.g0 (X1:IR):IR:=(iSr [iWl 1 (.box aT0),iQo 2 (.mv (.c (.str [])))] (.seq (iSr [.s (.zn 1 aT1),.s (.load aS0),iQo 12 (.bin .eql (.nil .sl) aS0 (.c .zh))] (.cond rE (iSr [.s (.zn 0 aT1),.s (.load aS0),iCa 230 [aS0],iQm 2 0] .ret) .skip)) X1))
def jk.b0:IR:=jk.g0 jk.b1
def jk.res:List RV:=[.t (.of 2)]
def jk:Fn:={ params:=[(.of 0)],res:=jk.res,body:=jk.b0,init:=in18 }
theorem jk.ok:fnA Tryz.prog Tryz.f185 [0,1,2,3,4,5,6,7,8,9,10,11,14,26,35,42,54,60]=some jk:=by kernel_rfl
abbrev uo.fr:=fr8
def uo.b6:IR:=(iSr [iSm 5,iQm 3 0] (iSr [iSm 1,iSm 0,iSm 3,.s (.zu 1 aS1 aS0),.s (.load aS0),iWl 7 (.call aS4 [aS0])] (.cond aT7 (iSr [iSm 3,iQm 2 0] .ret) .skip)))
def uo.g5 (X6:IR):IR:=(.block 1 X6)
def uo.b5:IR:=uo.g5 uo.b6
def uo.b7:IR:=(.reg [.s (.bin .add .int aT5 aC1),iQm 5 0])
def uo.g4 (X5 X7:IR):IR:=(.seq X5 X7)
def uo.b4:IR:=uo.g4 uo.b5 uo.b7
def uo.g3 (X4:IR):IR:=(iSr [iQo 6 (.bin .lss .int aT5 aT4)] (.seq (.cond aT6 .skip (.exit 0)) X4))
def uo.b3:IR:=uo.g3 uo.b4
def uo.g2 (X3:IR):IR:=(.loop X3)
def uo.b2:IR:=uo.g2 uo.b3
def uo.g1 (X2:IR):IR:=(.block 0 X2)
def uo.b1:IR:=uo.g1 uo.b2
def uo.b8:IR:=(iSr [iQo 2 (.mv (.c (I (-1))))] .ret)
def uo.g0 (X1 X8:IR):IR:=(iSr [iQo 2 (.mv aC0)] (.seq (iSr [iSm 0,iQo 4 (.len aS0),iQo 5 (.mv aC0)] X1) X8))
def uo.b0:IR:=uo.g0 uo.b1 uo.b8
def uo.res:List RV:=[.t (.of 2)]
def uo:Fn:={ params:=[(.of 0),(.of 1)],res:=uo.res,body:=uo.b0,init:=in8 }
theorem uo.ok:fnA Tryz.prog Tryz.f197 [0,1,4,5,7,8,9,16]=some uo:=by kernel_rfl
abbrev yx.fr:=fr10
def yx.b8:IR:=(.reg [iSm 2,iSm 3,.s (.zu 1 aS1 aS0),.w .none none (.store 1 aS0 (.c (.bool true)))])
def yx.g7 (X8:IR):IR:=(iSr [.s (.zu 1 aT5 aT7),.s (.load aS0),iQm 3 0] (.seq (iSr [iSm 3,.s (.bin .lss .int aS0 aC0),.s (.mv aS0),iPf 0 (.mv aT3),iPf 1 (.mv aT0),iPf 2 (.len aS0),iPf 3 (.bin .geq .int aS2 aS0),.s (.pick aS4 (.c (.bool true)) aS0),.s (.mv aS0),iPf 0 (.mv aT2),iPf 1 (.mv aT3),iPf 2 (.zu 1 aS1 aS0),iPf 3 (.load aS0),iQo 9 (.pick aS4 (.c (.bool true)) aS0)] (.cond aT9 (iSr [iQo 1 (.mv aC14)] .ret) .skip)) X8))
def yx.b7:IR:=yx.g7 yx.b8
def yx.g6 (X7:IR):IR:=(.block 1 X7)
def yx.b6:IR:=yx.g6 yx.b7
def yx.b9:IR:=(.reg [.s (.bin .add .int aT7 aC1),iQm 7 0])
def yx.g5 (X6 X9:IR):IR:=(.seq X6 X9)
def yx.b5:IR:=yx.g5 yx.b6 yx.b9
def yx.g4 (X5:IR):IR:=(iSr [iQo 8 (.bin .lss .int aT7 aT6)] (.seq (.cond aT8 .skip (.exit 0)) X5))
def yx.b4:IR:=yx.g4 yx.b5
def yx.g3 (X4:IR):IR:=(.loop X4)
def yx.b3:IR:=yx.g3 yx.b4
def yx.g2 (X3:IR):IR:=(.block 0 X3)
def yx.b2:IR:=yx.g2 yx.b3
def yx.b10:IR:=(iSr [iQo 1 (.mv aC0)] .ret)
def yx.g1 (X2 X10:IR):IR:=(iSr [iSm 0,.s (.len aS0),.w .push none (.gu 1 1 [(.bool false)] aS0 aS0),iQm 2 0] (.seq (iSr [iQo 5 (.mv aT0),iQo 6 (.len aT5),iQo 7 (.mv aC0)] X2) X10))
def yx.b1:IR:=yx.g1 yx.b2 yx.b10
def yx.g0 (X1:IR):IR:=(iSr [iQo 1 (.mv aC0)] (.seq (iSr [iSm 0,.s (.len aS0),iQo 4 (.bin .gtr .int aS0 m9)] (.cond aT4 (iSr [iQo 1 (.mv aC5)] .ret) .skip)) X1))
def yx.b0:IR:=yx.g0 yx.b1
def yx.res:List RV:=[.t (.of 1)]
def yx:Fn:={ params:=[(.of 0)],res:=yx.res,body:=yx.b0,init:=in10 }
theorem yx.ok:fnA Tryz.prog Tryz.f198 [0,2,3,5,8,12,13,14,15,31]=some yx:=by kernel_rfl
abbrev F200.fr:=fr3
def F200.b0:IR:=(iSr [iSm 0,.s (.len aS0),iQm 2 0] (.reg [iSm 0,iSm 2,iSm 2,.s (.conv .u64 aS0),iCa 161 [aS0],iSm 1,iCa 243 [aS5,aC0,aS4,aS1,aS0]]))
def F200.res:List RV:=[]
def F200:Fn:={ params:=[(.of 0),(.of 1)],res:=F200.res,body:=F200.b0,init:=in3 }
theorem F200.ok:fnA Tryz.prog Tryz.f200 [0,1,4]=some F200:=by kernel_rfl
abbrev ji.fr:=fr14
def ji.b7:IR:=(iSr [iSm 1,iSm 3,.s (.zu 1 aS1 aS0),.s (.load aS0),iQm 5 0] (iSr [iSm 4,iSm 5,iCa 244 [aS1,aS0],iQm 6 0] (iSr [iSm 6,iQo 12 (.bin .neq .int aS0 aC0)] (.cond rE (iSr [iSm 6,iQm 2 0] .ret) .skip))))
def ji.g6 (X7:IR):IR:=(iSr [iSm 9,.s (.zu 1 aT7 aT9),.s (.load aS0),iQm 3 2,iQm 4 0] (.seq (iSr [iSm 3,iSm 1,.s (.len aS0),iQo 11 (.bin .geq .int aS2 aS0)] (.cond ni (iSr [iQo 2 (.mv aC1)] .ret) .skip)) X7))
def ji.b6:IR:=ji.g6 ji.b7
def ji.g5 (X6:IR):IR:=(.block 1 X6)
def ji.b5:IR:=ji.g5 ji.b6
def ji.b8:IR:=(.reg [.s (.bin .add .int aT9 aC1),iQm 9 0])
def ji.g4 (X5 X8:IR):IR:=(.seq X5 X8)
def ji.b4:IR:=ji.g4 ji.b5 ji.b8
def ji.g3 (X4:IR):IR:=(iSr [iQo 10 (.bin .lss .int aT9 aT8)] (.seq (.cond bW .skip (.exit 0)) X4))
def ji.b3:IR:=ji.g3 ji.b4
def ji.g2 (X3:IR):IR:=(.loop X3)
def ji.b2:IR:=ji.g2 ji.b3
def ji.g1 (X2:IR):IR:=(.block 0 X2)
def ji.b1:IR:=ji.g1 ji.b2
def ji.b10:IR:=(iSr [iQo 2 (.mv aC0)] .ret)
def ji.g9 (X10:IR):IR:=(.seq (iSr [iSm 0,.s (.len aS0),iSm 1,.s (.len aS0),iQo 13 (.bin .lss .int aS2 aS0)] (.cond fF (iSr [iQo 2 (.mv (.c (I (-1))))] .ret) .skip)) X10)
def ji.b9:IR:=ji.g9 ji.b10
def ji.g0 (X1 X9:IR):IR:=(iSr [iQo 2 (.mv aC0)] (.seq (iSr [iQo 7 (.mv aT0),iQo 8 (.len aT7),iQo 9 (.mv aC0)] X1) X9))
def ji.b0:IR:=ji.g0 ji.b1 ji.b9
def ji.res:List RV:=[.t (.of 2)]
def ji:Fn:={ params:=[(.of 0),(.of 1)],res:=ji.res,body:=ji.b0,init:=in14 }
theorem ji.ok:fnA Tryz.prog Tryz.f201 [0,1,4,5,6,7,8,9,10,11,12,19,28,35]=some ji:=by kernel_rfl
abbrev uf.fr:=fr11
def uf.b13:IR:=(.seq (.yt [] [(iSm 1,0,[]),(iSm 4,0,[]),(iSm 5,0,[]),(.s (.zu 1 aS1 aS0),0,[]),(.s (.load aS0),0,[]),(iSm 4,0,[]),(iSm 5,0,[]),(.s (.bin .sub .int aS0 aC1),0,[]),(.s (.zu 1 aS2 aS0),0,[]),(.s (.load aS0),0,[]),(.w .push none (.call aS9 [aS5,aS0]),0,[]),(iQo 10 (.not aS0),0,[])]) (.cond bW (iSr [iSm 0,iSm 3,iSm 4,iSm 5,.s (.zu 1 aS1 aS0),.s (.load aS0),.s (.zu 1 aS5 aS4),.w .none none (.store 1 aS0 aS1)] (.reg [iSm 3,.s (.bin .add .int aS0 aC1),iQm 3 0])) .skip))
def uf.g12 (X13:IR):IR:=(.block 3 X13)
def uf.b12:IR:=uf.g12 uf.b13
def uf.b14:IR:=(.reg [iSm 5,.s (.bin .add .int aS0 aC1),iQm 5 0])
def uf.g11 (X12 X14:IR):IR:=(.seq X12 X14)
def uf.b11:IR:=uf.g11 uf.b12 uf.b14
def uf.g10 (X11:IR):IR:=(.seq (iSr [iSm 5,iSm 4,.s (.len aS0),iQo 9 (.bin .lss .int aS2 aS0)] (.cond aT9 .skip (.exit 2))) X11)
def uf.b10:IR:=uf.g10 uf.b11
def uf.g9 (X10:IR):IR:=(.loop X10)
def uf.b9:IR:=uf.g9 uf.b10
def uf.g8 (X9:IR):IR:=(.block 2 X9)
def uf.b8:IR:=uf.g8 uf.b9
def uf.b15:IR:=(iSr [iSm 0,iSm 3,.s (.slice 1 aS1 (some aS0) none none),.w .none none (.clr 1 [.zh] aS0)] (iSr [iSm 0,iSm 3,.s (.slice 1 aS1 none (some aS0) none),iQm 2 0] .ret))
def uf.g7 (X8 X15:IR):IR:=(.seq (.yt [] [(iSm 1,0,[]),(iSm 0,0,[]),(iSm 3,0,[]),(.s (.zu 1 aS1 aS0),0,[]),(.s (.load aS0),0,[]),(iSm 0,0,[]),(iSm 3,0,[]),(.s (.bin .sub .int aS0 aC1),0,[]),(.s (.zu 1 aS2 aS0),0,[]),(.s (.load aS0),0,[]),(iWl 8 (.call aS9 [aS5,aS0]),0,[])]) (.cond aT8 (iSr [iSm 0,iSm 3,.s (.slice 1 aS1 (some aS0) none none),iQm 4 0] (.seq (iSr [iQo 5 (.mv aC1)] X8) X15)) .skip))
def uf.b7:IR:=uf.g7 uf.b8 uf.b15
def uf.g6 (X7:IR):IR:=(.block 1 X7)
def uf.b6:IR:=uf.g6 uf.b7
def uf.b16:IR:=(.reg [iSm 3,.s (.bin .add .int aS0 aC1),iQm 3 0])
def uf.g5 (X6 X16:IR):IR:=(.seq X6 X16)
def uf.b5:IR:=uf.g5 uf.b6 uf.b16
def uf.g4 (X5:IR):IR:=(.seq (iSr [iSm 3,iSm 0,.s (.len aS0),iQo 7 (.bin .lss .int aS2 aS0)] (.cond aT7 .skip (.exit 0))) X5)
def uf.b4:IR:=uf.g4 uf.b5
def uf.g3 (X4:IR):IR:=(.loop X4)
def uf.b3:IR:=uf.g3 uf.b4
def uf.g2 (X3:IR):IR:=(.block 0 X3)
def uf.b2:IR:=uf.g2 uf.b3
def uf.b17:IR:=(iSr [iSm 0,iQm 2 0] .ret)
def uf.g1 (X2 X17:IR):IR:=(.seq (iSr [iQo 3 (.mv aC1)] X2) X17)
def uf.b1:IR:=uf.g1 uf.b2 uf.b17
def uf.g0 (X1:IR):IR:=(iSr [iQo 2 (.mv (.c .zh))] (.seq (iSr [iSm 0,.s (.len aS0),iQo 6 (.bin .lss .int aS0 aC2)] (.cond aT6 (iSr [iSm 0,iQm 2 0] .ret) .skip)) X1))
def uf.b0:IR:=uf.g0 uf.b1
def uf.res:List RV:=[.t (.of 2)]
def uf:Fn:={ params:=[(.of 0),(.of 1)],res:=uf.res,body:=uf.b0,init:=in11 }
theorem uf.ok:fnA Tryz.prog Tryz.f202 [0,1,4,5,6,7,10,15,28,35,49]=some uf:=by kernel_rfl
abbrev qp.fr:=fr7
def qp.b12:IR:=(.yt [] [(iSm 0,0,[]),(iSm 4,0,[]),(iSm 0,1,[]),(iSm 4,1,[]),(.s (.bin .sub .int aS0 aC1),1,[]),(iSm 0,0,[]),(iSm 4,0,[]),(.s (.bin .sub .int aS0 aC1),0,[]),(.s (.zu 1 aS2 aS0),0,[]),(.s (.load aS0),0,[]),(iSm 0,0,[]),(iSm 4,0,[]),(.s (.zu 1 aS1 aS0),0,[]),(.s (.load aS0),0,[]),(.s (.zu 1 aS13 aS12),0,[]),(.w .none none (.store 1 aS0 aS5),0,[]),(.s (.zu 1 aS12 aS10),0,[]),(.w .none none (.store 1 aS0 aS2),0,[])])
def qp.g11 (X12:IR):IR:=(.block 3 X12)
def qp.b11:IR:=qp.g11 qp.b12
def qp.b13:IR:=(.reg [iSm 4,.s (.bin .sub .int aS0 aC1),iQm 4 0])
def qp.g10 (X11 X13:IR):IR:=(.seq X11 X13)
def qp.b10:IR:=qp.g10 qp.b11 qp.b13
def qp.g9 (X10:IR):IR:=(.seq (.seq (.yt [] [(iSm 4,0,[]),(iSm 1,0,[]),(.s (.bin .gtr .int aS1 aS0),0,[]),(.s (.mv aS0),0,[]),(iPt 0 (.mv aT0),0,[]),(iPt 1 (.mv aT4),0,[]),(iPt 2 (.zu 1 aS1 aS0),0,[]),(iPt 3 (.load aS0),0,[]),(iPt 4 (.mv aT0),0,[]),(iPt 5 (.mv aT4),0,[]),(iPt 6 (.bin .sub .int aS0 aC1),0,[]),(iPt 7 (.zu 1 aS2 aS0),0,[]),(iPt 8 (.load aS0),0,[]),(.w .push (some (aS9,true)) (.call (.c (.fn 209 (.of 209) [])) [aS5,aS0]),0,[]),(iQo 6 (.pick aS10 aS0 (.c (.bool false))),0,[])]) (.cond aT6 .skip (.exit 2))) X10)
def qp.b9:IR:=qp.g9 qp.b10
def qp.g8 (X9:IR):IR:=(.loop X9)
def qp.b8:IR:=qp.g8 qp.b9
def qp.g7 (X8:IR):IR:=(.block 2 X8)
def qp.b7:IR:=qp.g7 qp.b8
def qp.g6 (X7:IR):IR:=(iSr [iSm 3,iQm 4 0] X7)
def qp.b6:IR:=qp.g6 qp.b7
def qp.g5 (X6:IR):IR:=(.block 1 X6)
def qp.b5:IR:=qp.g5 qp.b6
def qp.b14:IR:=(.reg [iSm 3,.s (.bin .add .int aS0 aC1),iQm 3 0])
def qp.g4 (X5 X14:IR):IR:=(.seq X5 X14)
def qp.b4:IR:=qp.g4 qp.b5 qp.b14
def qp.g3 (X4:IR):IR:=(.seq (iSr [iSm 3,iSm 2,iQo 5 (.bin .lss .int aS1 aS0)] (.cond aT5 .skip (.exit 0))) X4)
def qp.b3:IR:=qp.g3 qp.b4
def qp.g2 (X3:IR):IR:=(.loop X3)
def qp.b2:IR:=qp.g2 qp.b3
def qp.g1 (X2:IR):IR:=(.block 0 X2)
def qp.b1:IR:=qp.g1 qp.b2
def qp.g0 (X1:IR):IR:=(iSr [iSm 1,.s (.bin .add .int aS0 aC1),iQm 3 0] X1)
def qp.b0:IR:=qp.g0 qp.b1
def qp.res:List RV:=[]
def qp:Fn:={ params:=[(.of 0),(.of 1),(.of 2)],res:=qp.res,body:=qp.b0,init:=in7 }
theorem qp.ok:fnA Tryz.prog Tryz.f203 [0,1,2,6,7,12,30]=some qp:=by kernel_rfl
abbrev F209.fr:=fr3
def F209.b0:IR:=(iSr [iQo 2 (.mv (.c (.bool false)))] (iSr [iSm 0,iCa 250 [aS0],.s (.mv aS0),iPt 0 (.mv aT1),.w .push (some (aS1,true)) (.call (.c (.fn 250 (.of 250) [])) [aS0]),iPt 2 (.not aS0),.s (.pick aS3 aS0 (.c (.bool false))),.s (.mv aS0),iPf 0 (.mv aT0),iPf 1 (.mv aT1),iPf 2 (.bin .lss .int aS1 aS0),.s (.pick aS3 (.c (.bool true)) aS0),iQm 2 0] .ret))
def F209.res:List RV:=[.t (.of 2)]
def F209:Fn:={ params:=[(.of 0),(.of 1)],res:=F209.res,body:=F209.b0,init:=in3 }
theorem F209.ok:fnA Tryz.prog Tryz.f209 [0,1,4]=some F209:=by kernel_rfl
abbrev sD.fr:=fr5
def sD.b3:IR:=(iSr [iSm 1,iSm 0,.s (.conv .u8 aS0),.s (.sidx (.c (.str [0,1,2,2,3,3,3,3,4,4,4,4,4,4,4,4,5,5,5,5,5,5,5,5,5,5,5,5,5,5,5,5,6,6,6,6,6,6,6,6,6,6,6,6,6,6,6,6,6,6,6,6,6,6,6,6,6,6,6,6,6,6,6,6,7,7,7,7,7,7,7,7,7,7,7,7,7,7,7,7,7,7,7,7,7,7,7,7,7,7,7,7,7,7,7,7,7,7,7,7,7,7,7,7,7,7,7,7,7,7,7,7,7,7,7,7,7,7,7,7,7,7,7,7,7,7,7,7,8,8,8,8,8,8,8,8,8,8,8,8,8,8,8,8,8,8,8,8,8,8,8,8,8,8,8,8,8,8,8,8,8,8,8,8,8,8,8,8,8,8,8,8,8,8,8,8,8,8,8,8,8,8,8,8,8,8,8,8,8,8,8,8,8,8,8,8,8,8,8,8,8,8,8,8,8,8,8,8,8,8,8,8,8,8,8,8,8,8,8,8,8,8,8,8,8,8,8,8,8,8,8,8,8,8,8,8,8,8,8,8,8,8,8,8,8,8,8,8,8,8,8,8,8,8,8,8])) aS0),.s (.conv .i64 aS0),.s (.bin .add .int aS4 aS0),iQm 1 0] .ret)
def sD.g2 (X3:IR):IR:=(.seq (iSr [iSm 0,iQo 4 (.bin .geq .int aS0 (.c (.int .u64 256)))] (.cond aT4 (iSr [iSm 0,.s (.bin .shr .int aS0 (.c (.int .u64 8))),iQm 0 0] (.reg [iSm 1,.s (.bin .add .int aS0 aC8),iQm 1 0])) .skip)) X3)
def sD.b2:IR:=sD.g2 sD.b3
def sD.g1 (X2:IR):IR:=(.seq (iSr [iSm 0,iQo 3 (.bin .geq .int aS0 (.c (.int .u64 65536)))] (.cond aT3 (iSr [iSm 0,.s (.bin .shr .int aS0 (.c (.int .u64 16))),iQm 0 0] (.reg [iSm 1,.s (.bin .add .int aS0 aC16),iQm 1 0])) .skip)) X2)
def sD.b1:IR:=sD.g1 sD.b2
def sD.g0 (X1:IR):IR:=(iSr [iQo 1 (.mv aC0)] (.seq (iSr [iSm 0,iQo 2 (.bin .geq .int aS0 (.c (.int .u64 4294967296)))] (.cond aT2 (iSr [iSm 0,.s (.bin .shr .int aS0 (.c (.int .u64 32))),iQm 0 0] (.reg [iQo 1 (.mv aC32)])) .skip)) X1))
def sD.b0:IR:=sD.g0 sD.b1
def sD.res:List RV:=[.t (.of 1)]
def sD:Fn:={ params:=[(.of 0)],res:=sD.res,body:=sD.b0,init:=in5 }
theorem sD.ok:fnA Tryz.prog Tryz.f213 [0,2,4,8,14]=some sD:=by kernel_rfl
abbrev aX.fr:=fr4
def aX.b0:IR:=(iSr [iQo 3 (.mv (.c (.bool false)))] (iSr [iSm 0,.s (.load aT1),.s (.bin .lss .int aS1 aS0),.s (.mv aS0),iPf 0 (.mv aT0),iPf 1 (.load aT2),iPf 2 (.bin .gtr .int aS1 aS0),.s (.pick aS3 (.c (.bool true)) aS0),iQm 3 0] .ret))
def aX.res:List RV:=[.t (.of 3)]
def aX:Fn:={ params:=[(.of 0),(.of 1),(.of 2)],res:=aX.res,body:=aX.b0,init:=in4 }
theorem aX.ok:fnA Tryz.prog Tryz.f215 [0,1,2,4]=some aX:=by kernel_rfl
abbrev aV.fr:=fr3
def aV.b0:IR:=(iSr [iQo 2 (.mv (.c (.bool false)))] (iSr [iSm 0,iSm 1,iCa 259 [aS1,aS0],.s (.bin .geq .int aS0 aC0),iQm 2 0] .ret))
def aV.res:List RV:=[.t (.of 2)]
def aV:Fn:={ params:=[(.of 0),(.of 1)],res:=aV.res,body:=aV.b0,init:=in3 }
theorem aV.ok:fnA Tryz.prog Tryz.f216 [0,1,4]=some aV:=by kernel_rfl
abbrev aU.fr:=fr3
def aU.b0:IR:=(iSr [iQo 2 (.mv (.c (.bool false)))] (iSr [iSm 0,.s (.load aT1),iCa 158 [aS1,aS0],iQm 2 0] .ret))
def aU.res:List RV:=[.t (.of 2)]
def aU:Fn:={ params:=[(.of 0),(.of 1)],res:=aU.res,body:=aU.b0,init:=in3 }
theorem aU.ok:fnA Tryz.prog Tryz.f217 [0,1,3]=some aU:=by kernel_rfl
abbrev oN.fr:=fr3
def oN.b1:IR:=(iSr [iSm 0,.s (.conv .u64 aS0),iQm 1 0] .ret)
def oN.g0 (X1:IR):IR:=(iSr [iQo 1 (.mv (.c (.int .u64 0)))] (.seq (iSr [iSm 0,iQo 2 (.bin .lss .int aS0 aC0)] (.cond aT2 (iSr [iSm 0,.s (.neg aS0),.s (.conv .u64 aS0),iQm 1 0] .ret) .skip)) X1))
def oN.b0:IR:=oN.g0 oN.b1
def oN.res:List RV:=[.t (.of 1)]
def oN:Fn:={ params:=[(.of 0)],res:=oN.res,body:=oN.b0,init:=in3 }
theorem oN.ok:fnA Tryz.prog Tryz.f220 [0,2,4]=some oN:=by kernel_rfl
abbrev F224.fr:=fr12
def F224.b0:IR:=(iSr [iQo 2 (.mv (.c (.int .u64 0))),iQo 3 (.mv (.c (.int .u64 0)))] (iSr [iSm 0,.s (.bin .and .int aS0 (.c (.int .u64 4294967295))),iQm 4 0] (iSr [iSm 0,.s (.bin .shr .int aS0 (.c (.int .u64 32))),iQm 5 0] (iSr [iSm 1,.s (.bin .and .int aS0 (.c (.int .u64 4294967295))),iQm 6 0] (iSr [iSm 1,.s (.bin .shr .int aS0 (.c (.int .u64 32))),iQm 7 0] (iSr [iSm 4,iSm 6,.s (.bin .mul .int aS1 aS0),iQm 8 0] (iSr [iSm 5,iSm 6,.s (.bin .mul .int aS1 aS0),iSm 8,.s (.bin .shr .int aS0 (.c (.int .u64 32))),.s (.bin .add .int aS2 aS0),iQm 9 0] (iSr [iSm 9,.s (.bin .and .int aS0 (.c (.int .u64 4294967295))),iQm 10 0] (iSr [iSm 9,.s (.bin .shr .int aS0 (.c (.int .u64 32))),iQm 11 0] (iSr [iSm 10,iSm 4,iSm 7,.s (.bin .mul .int aS1 aS0),.s (.bin .add .int aS3 aS0),iQm 10 0] (iSr [iSm 5,iSm 7,.s (.bin .mul .int aS1 aS0),iSm 11,.s (.bin .add .int aS1 aS0),iSm 10,.s (.bin .shr .int aS0 (.c (.int .u64 32))),.s (.bin .add .int aS2 aS0),iQm 2 0] (iSr [iSm 0,iSm 1,.s (.bin .mul .int aS1 aS0),iQm 3 0] .ret))))))))))))
def F224.res:List RV:=[.t (.of 2),.t (.of 3)]
def F224:Fn:={ params:=[(.of 0),(.of 1)],res:=F224.res,body:=F224.b0,init:=in12 }
theorem F224.ok:fnA Tryz.prog Tryz.f224 [0,1,4,5,6,7,8,9,10,11,12,13]=some F224:=by kernel_rfl
abbrev oO.fr:=fr5
def oO.b1:IR:=(iSr [iSm 3,.s (.len aS0),.s (.bin .sub .int aS0 aC1),.s (.bin .mul .int aC64 aS0),iSm 3,iSm 3,.s (.len aS0),.s (.bin .sub .int aS0 aC1),.s (.zu 1 aS3 aS0),.s (.load aS0),iCa 213 [aS0],.s (.bin .add .int aS7 aS0),iQm 2 0] .ret)
def oO.g0 (X1:IR):IR:=(iSr [iWl 1 (.box aT0),iQo 2 (.mv aC0)] (iSr [.s (.zi 2 aT1),iCa 174 [aS0],.s (.mv aS0),.s (.ext 0 aS0),.s (.ext 1 aS1),.s (.mv aS1),iQm 3 1] (.seq (iSr [iSm 3,.s (.len aS0),iQo 4 (.bin .eql .int aS0 aC0)] (.cond aT4 (iSr [iQo 2 (.mv aC0)] .ret) .skip)) X1)))
def oO.b0:IR:=oO.g0 oO.b1
def oO.res:List RV:=[.t (.of 2)]
def oO:Fn:={ params:=[(.of 0)],res:=oO.res,body:=oO.b0,init:=in5 }
theorem oO.ok:fnA Tryz.prog Tryz.f228 [0,1,2,4,12]=some oO:=by kernel_rfl
abbrev F230.fr:=fr2
def F230.b0:IR:=(iSr [iQo 1 (.mv (.c (.str [])))] (iSr [iSm 0,iCa 265 [aS0],iQm 1 0] .ret))
def F230.res:List RV:=[.t (.of 1)]
def F230:Fn:={ params:=[(.of 0)],res:=F230.res,body:=F230.b0,init:=in2 }
theorem F230.ok:fnA Tryz.prog Tryz.f230 [0,2]=some F230:=by kernel_rfl
abbrev vk.fr:=fr24
def vk.b10:IR:=(iSr [iSm 0,iSm 1,iSm 2,iSm 8,iSm 4,iCa 280 [aS4,aS3,aS2,aS1,aS0],.s (.mv aS0),.s (.ext 0 aS0),.s (.ext 1 aS1),iQm 11 1,iQm 12 0] (iSr [iSm 12,iQm 6 0] (iSr [iSm 11,iSm 1,.s (.bin .sub .int aS1 aS0),iSm 2,iSm 11,.s (.bin .sub .int aS1 aS0),iQm 13 3,iQm 14 0] (iSr [iSm 7,.s (.bin .quo .int aS0 aC8),iQm 15 0] (iSr [iSm 13,iSm 14,iQo 23 (.bin .lss .int aS1 aS0)] (.cond aT23 (iSr [iSm 13,iSm 15,.s (.bin .geq .int aS1 aS0),iQm 5 0] (iSr [iSm 0,iSm 1,iSm 11,iSm 3,iSm 4,iCa 243 [aS4,aS3,aS2,aS1,aS0]] (.reg [iSm 11,.s (.bin .add .int aS0 aC1),iQm 1 0]))) (iSr [iSm 14,iSm 15,.s (.bin .geq .int aS1 aS0),iQm 5 0] (iSr [iSm 0,iSm 11,.s (.bin .add .int aS0 aC1),iSm 2,iSm 3,iSm 4,iCa 243 [aS5,aS3,aS2,aS1,aS0]] (.reg [iSm 11,iQm 2 0])))))))))
def vk.g9 (X10:IR):IR:=(.seq (.seq (.yt [] [(iSm 1,0,[]),(.s (.bin .gtr .int aS0 aC0),0,[]),(.s (.mv aS0),0,[]),(iPt 0 (.mv aT4),0,[]),(iPt 1 (.mv aT0),0,[]),(iPt 2 (.mv aT1),0,[]),(iPt 3 (.bin .sub .int aS0 aC1),0,[]),(iPt 4 (.zu 1 aS2 aS0),0,[]),(iPt 5 (.load aS0),0,[]),(iPt 6 (.mv aT0),0,[]),(iPt 7 (.mv aT8),0,[]),(iPt 8 (.zu 1 aS1 aS0),0,[]),(iPt 9 (.load aS0),0,[]),(.w .push (some (aS10,true)) (.call aS9 [aS4,aS0]),0,[]),(iPt 11 (.bin .lss .int aS0 aC0),0,[]),(iPt 12 (.not aS0),0,[]),(iQo 22 (.pick aS13 aS0 (.c (.bool false))),0,[])]) (.cond aT22 (iSr [iSm 0,iSm 1,iSm 2,iSm 8,iSm 4,iCa 279 [aS4,aS3,aS2,aS1,aS0],iQm 10 0] (iSr [iSm 10,iQm 1 0] (.exit 1))) .skip)) X10)
def vk.b9:IR:=vk.g9 vk.b10
def vk.g8 (X9:IR):IR:=(.seq (iSr [iSm 5,.s (.mv aS0),iPt 0 (.mv aT6),.s (.pick aS1 aS0 (.c (.bool false))),.s (.mv aS0),iPt 0 (.mv aT9),iPt 1 (.bin .eql .int aS0 aC1),iQo 20 (.pick aS2 aS0 (.c (.bool false)))] (.cond aT20 (iSr [iSm 0,iSm 1,iSm 2,iSm 4,iWl 21 (.call (.c (.fn 278 (.of 278) [])) [aS3,aS2,aS1,aS0])] (.cond aT21 .ret .skip)) .skip)) X9)
def vk.b8:IR:=vk.g8 vk.b9
def vk.g7 (X8:IR):IR:=(iSr [iSm 0,iSm 1,iSm 2,iSm 4,iCa 276 [aS3,aS2,aS1,aS0],.s (.mv aS0),.s (.ext 0 aS0),.s (.ext 1 aS1),iQm 8 1,iQm 9 0] (.seq (iSr [iSm 9,iQo 19 (.bin .eql .int aS0 aC2)] (.cond aT19 (iSr [iSm 0,iSm 1,iSm 2,iSm 4,iCa 277 [aS3,aS2,aS1,aS0]] (iSr [iSm 2,.s (.bin .sub .int aS0 aC1),iSm 8,iSm 1,.s (.bin .sub .int aS1 aS0),.s (.bin .sub .int aS3 aS0),iQm 8 0] (.reg [iQo 9 (.mv aC1)]))) .skip)) X8))
def vk.b7:IR:=vk.g7 vk.b8
def vk.g6 (X7:IR):IR:=(.seq (iSr [iSm 5,iQo 18 (.not aS0)] (.cond aT18 (iSr [iSm 0,iSm 1,iSm 2,iSm 4,iCa 275 [aS3,aS2,aS1,aS0]] (.reg [iSm 3,.s (.bin .sub .int aS0 aC1),iQm 3 0])) .skip)) X7)
def vk.b6:IR:=vk.g6 vk.b7
def vk.g5 (X6:IR):IR:=(.seq (iSr [iSm 3,iQo 17 (.bin .eql .int aS0 aC0)] (.cond aP (iSr [iSm 0,iSm 1,iSm 2,iSm 4,iCa 274 [aS3,aS2,aS1,aS0]] .ret) .skip)) X6)
def vk.b5:IR:=vk.g5 vk.b6
def vk.g4 (X5:IR):IR:=(iSr [iSm 2,iSm 1,.s (.bin .sub .int aS1 aS0),iQm 7 0] (.seq (iSr [iSm 7,iQo 16 (.bin .leq .int aS0 aC12)] (.cond aO (iSr [iSm 0,iSm 1,iSm 2,iSm 4,iCa 273 [aS3,aS2,aS1,aS0]] .ret) .skip)) X5))
def vk.b4:IR:=vk.g4 vk.b5
def vk.g3 (X4:IR):IR:=(.block 1 X4)
def vk.b3:IR:=vk.g3 vk.b4
def vk.g2 (X3:IR):IR:=(.loop X3)
def vk.b2:IR:=vk.g2 vk.b3
def vk.g1 (X2:IR):IR:=(.block 0 X2)
def vk.b1:IR:=vk.g1 vk.b2
def vk.g0 (X1:IR):IR:=(iSr [iQo 5 (.mv (.c (.bool true)))] (iSr [iQo 6 (.mv (.c (.bool true)))] X1))
def vk.b0:IR:=vk.g0 vk.b1
def vk.res:List RV:=[]
def vk:Fn:={ params:=[(.of 0),(.of 1),(.of 2),(.of 3),(.of 4)],res:=vk.res,body:=vk.b0,init:=in24 }
theorem vk.ok:fnA Tryz.prog Tryz.f243 [0,1,2,3,4,10,11,12,13,14,15,16,17,18,19,20,25,32,39,56,75,80,97,125]=some vk:=by kernel_rfl
abbrev fD.fr:=fr10
def fD.b1:IR:=(iSr [iQo 2 (.mv (.c (I (-1))))] .ret)
def fD.b5:IR:=(iSr [iQo 2 (.mv aC0)] .ret)
def fD.g4 (X5:IR):IR:=(.seq (iSr [iSm 0,iSm 1,iQo 9 (.bin .gtr .int aS1 aS0)] (.cond aT9 (iSr [iQo 2 (.mv aC1)] .ret) .skip)) X5)
def fD.b4:IR:=fD.g4 fD.b5
def fD.g3 (X4:IR):IR:=(.seq (iSr [iSm 0,iSm 1,iQo 8 (.bin .lss .int aS1 aS0)] (.cond aT8 (iSr [iQo 2 (.mv (.c (I (-1))))] .ret) .skip)) X4)
def fD.b3:IR:=fD.g3 fD.b4
def fD.g2 (X3:IR):IR:=(.seq (iSr [iQo 7 (.mv aT4)] (.cond aT7 (iSr [iQo 2 (.mv aC1)] .ret) .skip)) X3)
def fD.b2:IR:=fD.g2 fD.b3
def fD.g0 (X1 X2:IR):IR:=(iSr [iQo 2 (.mv aC0)] (iSr [iSm 0,iCa 250 [aS0],iQm 3 0] (iSr [iSm 1,iCa 250 [aS0],iQm 4 0] (.seq (iSr [iQo 5 (.mv aT3)] (.cond aT5 (.seq (iSr [iQo 6 (.mv aT4)] (.cond aT6 (iSr [iQo 2 (.mv aC0)] .ret) .skip)) X1) .skip)) X2))))
def fD.b0:IR:=fD.g0 fD.b1 fD.b2
def fD.res:List RV:=[.t (.of 2)]
def fD:Fn:={ params:=[(.of 0),(.of 1)],res:=fD.res,body:=fD.b0,init:=in10 }
theorem fD.ok:fnA Tryz.prog Tryz.f244 [0,1,4,5,6,11,12,13,16,19]=some fD:=by kernel_rfl
abbrev aZ.fr:=fr2
def aZ.b0:IR:=(iSr [iQo 1 (.mv (.c (.bool false)))] (iSr [iSm 0,iSm 0,.s (.bin .neq .int aS1 aS0),iQm 1 0] .ret))
def aZ.res:List RV:=[.t (.of 1)]
def aZ:Fn:={ params:=[(.of 0)],res:=aZ.res,body:=aZ.b0,init:=in2 }
theorem aZ.ok:fnA Tryz.prog Tryz.f250 [0,2]=some aZ:=by kernel_rfl
abbrev ug.fr:=fr8
def ug.b6:IR:=(iSr [iSm 5,iQm 3 0] (iSr [iSm 1,iSm 0,iSm 3,.s (.zu 1 aS1 aS0),.s (.load aS0),iWl 7 (.call aS4 [aS0])] (.cond aT7 (iSr [iSm 3,iQm 2 0] .ret) .skip)))
def ug.g5 (X6:IR):IR:=(.block 1 X6)
def ug.b5:IR:=ug.g5 ug.b6
def ug.b7:IR:=(.reg [.s (.bin .add .int aT5 aC1),iQm 5 0])
def ug.g4 (X5 X7:IR):IR:=(.seq X5 X7)
def ug.b4:IR:=ug.g4 ug.b5 ug.b7
def ug.g3 (X4:IR):IR:=(iSr [iQo 6 (.bin .lss .int aT5 aT4)] (.seq (.cond aT6 .skip (.exit 0)) X4))
def ug.b3:IR:=ug.g3 ug.b4
def ug.g2 (X3:IR):IR:=(.loop X3)
def ug.b2:IR:=ug.g2 ug.b3
def ug.g1 (X2:IR):IR:=(.block 0 X2)
def ug.b1:IR:=ug.g1 ug.b2
def ug.b8:IR:=(iSr [iQo 2 (.mv (.c (I (-1))))] .ret)
def ug.g0 (X1 X8:IR):IR:=(iSr [iQo 2 (.mv aC0)] (.seq (iSr [iSm 0,iQo 4 (.len aS0),iQo 5 (.mv aC0)] X1) X8))
def ug.b0:IR:=ug.g0 ug.b1 ug.b8
def ug.res:List RV:=[.t (.of 2)]
def ug:Fn:={ params:=[(.of 0),(.of 1)],res:=ug.res,body:=ug.b0,init:=in8 }
theorem ug.ok:fnA Tryz.prog Tryz.f259 [0,1,4,5,7,8,9,16]=some ug:=by kernel_rfl
abbrev F265.fr:=fr2
def F265.b0:IR:=(iSr [iQo 1 (.mv (.c (.str [])))] (iSr [iSm 0,iCa 286 [aS0,aC10],iQm 1 0] .ret))
def F265.res:List RV:=[.t (.of 1)]
def F265:Fn:={ params:=[(.of 0)],res:=F265.res,body:=F265.b0,init:=in2 }
theorem F265.ok:fnA Tryz.prog Tryz.f265 [0,2]=some F265:=by kernel_rfl
abbrev qw.fr:=fr8
def qw.b12:IR:=(.yt [] [(iSm 0,0,[]),(iSm 5,0,[]),(iSm 0,1,[]),(iSm 5,1,[]),(.s (.bin .sub .int aS0 aC1),1,[]),(iSm 0,0,[]),(iSm 5,0,[]),(.s (.bin .sub .int aS0 aC1),0,[]),(.s (.zu 1 aS2 aS0),0,[]),(.s (.load aS0),0,[]),(iSm 0,0,[]),(iSm 5,0,[]),(.s (.zu 1 aS1 aS0),0,[]),(.s (.load aS0),0,[]),(.s (.zu 1 aS13 aS12),0,[]),(.w .none none (.store 1 aS0 aS5),0,[]),(.s (.zu 1 aS12 aS10),0,[]),(.w .none none (.store 1 aS0 aS2),0,[])])
def qw.g11 (X12:IR):IR:=(.block 3 X12)
def qw.b11:IR:=qw.g11 qw.b12
def qw.b13:IR:=(.reg [iSm 5,.s (.bin .sub .int aS0 aC1),iQm 5 0])
def qw.g10 (X11 X13:IR):IR:=(.seq X11 X13)
def qw.b10:IR:=qw.g10 qw.b11 qw.b13
def qw.g9 (X10:IR):IR:=(.seq (.seq (.yt [] [(iSm 5,0,[]),(iSm 1,0,[]),(.s (.bin .gtr .int aS1 aS0),0,[]),(.s (.mv aS0),0,[]),(iPt 0 (.mv aT3),0,[]),(iPt 1 (.mv aT0),0,[]),(iPt 2 (.mv aT5),0,[]),(iPt 3 (.zu 1 aS1 aS0),0,[]),(iPt 4 (.load aS0),0,[]),(iPt 5 (.mv aT0),0,[]),(iPt 6 (.mv aT5),0,[]),(iPt 7 (.bin .sub .int aS0 aC1),0,[]),(iPt 8 (.zu 1 aS2 aS0),0,[]),(iPt 9 (.load aS0),0,[]),(.w .push (some (aS10,true)) (.call aS9 [aS5,aS0]),0,[]),(iPt 11 (.bin .lss .int aS0 aC0),0,[]),(iQo 7 (.pick aS12 aS0 (.c (.bool false))),0,[])]) (.cond aT7 .skip (.exit 2))) X10)
def qw.b9:IR:=qw.g9 qw.b10
def qw.g8 (X9:IR):IR:=(.loop X9)
def qw.b8:IR:=qw.g8 qw.b9
def qw.g7 (X8:IR):IR:=(.block 2 X8)
def qw.b7:IR:=qw.g7 qw.b8
def qw.g6 (X7:IR):IR:=(iSr [iSm 4,iQm 5 0] X7)
def qw.b6:IR:=qw.g6 qw.b7
def qw.g5 (X6:IR):IR:=(.block 1 X6)
def qw.b5:IR:=qw.g5 qw.b6
def qw.b14:IR:=(.reg [iSm 4,.s (.bin .add .int aS0 aC1),iQm 4 0])
def qw.g4 (X5 X14:IR):IR:=(.seq X5 X14)
def qw.b4:IR:=qw.g4 qw.b5 qw.b14
def qw.g3 (X4:IR):IR:=(.seq (iSr [iSm 4,iSm 2,iQo 6 (.bin .lss .int aS1 aS0)] (.cond aT6 .skip (.exit 0))) X4)
def qw.b3:IR:=qw.g3 qw.b4
def qw.g2 (X3:IR):IR:=(.loop X3)
def qw.b2:IR:=qw.g2 qw.b3
def qw.g1 (X2:IR):IR:=(.block 0 X2)
def qw.b1:IR:=qw.g1 qw.b2
def qw.g0 (X1:IR):IR:=(iSr [iSm 1,.s (.bin .add .int aS0 aC1),iQm 4 0] X1)
def qw.b0:IR:=qw.g0 qw.b1
def qw.res:List RV:=[]
def qw:Fn:={ params:=[(.of 0),(.of 1),(.of 2),(.of 3)],res:=qw.res,body:=qw.b0,init:=in8 }
theorem qw.ok:fnA Tryz.prog Tryz.f273 [0,1,2,3,8,9,14,34]=some qw:=by kernel_rfl
abbrev rQ.fr:=fr11
def rQ.b3:IR:=(iSr [iSm 5,.s (.bin .add .int aC1 aS0),.s (.aslice 1 24 aT3 (some aC1) (some aS0) none),.s (.b2s aS0),iQm 2 0] .ret)
def rQ.g2 (X3:IR):IR:=(iSr [iSm 4,iCa 288 [aS0],iQm 5 0] (iSr [iSm 5,.s (.bin .add .int aC1 aS0),.s (.aslice 1 24 aT3 (some aC1) (some aS0) none),iSm 4,iCa 289 [aS1,aS0]] (.seq (iSr [iSm 0,iQo 10 (.bin .lss .int aS0 aC0)] (.cond bW (iSr [.s (.tV 1 24 aT3 aC0),.w .none none (.store 1 aS0 (.c (.int .u8 45)))] (iSr [iSm 5,.s (.bin .add .int aC1 aS0),.s (.aslice 1 24 aT3 none (some aS0) none),.s (.b2s aS0),iQm 2 0] .ret)) .skip)) X3)))
def rQ.b2:IR:=rQ.g2 rQ.b3
def rQ.g1 (X2:IR):IR:=(iSr [iWl 3 (.alloc [(.int .u8 0),(.int .u8 0),(.int .u8 0),(.int .u8 0),(.int .u8 0),(.int .u8 0),(.int .u8 0),(.int .u8 0),(.int .u8 0),(.int .u8 0),(.int .u8 0),(.int .u8 0),(.int .u8 0),(.int .u8 0),(.int .u8 0),(.int .u8 0),(.int .u8 0),(.int .u8 0),(.int .u8 0),(.int .u8 0),(.int .u8 0),(.int .u8 0),(.int .u8 0),(.int .u8 0)])] (iSr [iSm 0,.s (.conv .u64 aS0),iQm 4 0] (.seq (iSr [iSm 0,iQo 9 (.bin .lss .int aS0 aC0)] (.cond aT9 (.reg [iSm 4,.s (.neg aS0),iQm 4 0]) .skip)) X2)))
def rQ.b1:IR:=rQ.g1 rQ.b2
def rQ.b4:IR:=(iSr [iSm 0,.s (.conv .u64 aS0),iSm 1,iSm 0,.s (.bin .lss .int aS0 aC0),iCa 290 [(.c .zh),aS3,aS2,aS0,(.c (.bool false))],.s (.mv aS0),.s (.ext 0 aS0),.s (.ext 1 aS1),.s (.mv aS1),iQm 6 1] (iSr [iSm 6,iQm 2 0] .ret))
def rQ.g0 (X1 X4:IR):IR:=(iSr [iQo 2 (.mv (.c (.str [])))] (.seq (iSr [iSm 1,iQo 7 (.bin .eql .int aS0 aC10)] (.cond aT7 (.seq (iSr [iSm 0,.s (.bin .leq .int aC0 aS0),.s (.mv aS0),iPt 0 (.mv aT0),iPt 1 (.bin .lss .int aS0 zv3),iQo 8 (.pick aS2 aS0 (.c (.bool false)))] (.cond aT8 (iSr [iSm 0,iCa 287 [aS0],iQm 2 0] .ret) .skip)) X1) .skip)) X4))
def rQ.b0:IR:=rQ.g0 rQ.b1 rQ.b4
def rQ.res:List RV:=[.t (.of 2)]
def rQ:Fn:={ params:=[(.of 0),(.of 1)],res:=rQ.res,body:=rQ.b0,init:=in11 }
theorem rQ.ok:fnA Tryz.prog Tryz.f286 [0,1,4,5,6,7,9,11,17,23,34]=some rQ:=by kernel_rfl
end
end Go.Ev
