import Derived.Test.YtfgpjkchdelphaaGreatDoorIrA
import Derived.Test.YtfgpjkchdelphaaGreatDoorEvC
import Derived.Test.YtfgpjkchdelphaaGreatDoorProg
import Derived.KernelRfl
set_option linter.unusedSimpArgs false
set_option linter.unusedVariables false
namespace Go.Ev
open Go Go.Proofs
set_option maxRecDepth 100000
noncomputable section

abbrev F114.fr:=fr6
def F114.b0:IR:=(iSr [iWl 2 (.box aT0),iWl 3 (.box aT1),iWl 4 (.alloc [(I 0),.zf,(I 0),.zf])] (.seq (iSr [.s (.zi 4 aT2),iCa 122 [aS0],.s (.mv aS0),iPt 0 (.zi 4 aT3),.w .push (some (aS1,true)) (.call (.c (.fn 122 (.of 122) [])) [aS0]),iQo 5 (.pick aS2 aS0 (.c (.bool false)))] (.cond aT5 (iSr [.s (.zk 0 aT2),.s (.zi 2 aS0),.s (.zk 0 aT3),.s (.zi 2 aS0),iCa 197 [aS2,aS0],iCa 186 [aS0],.w .none none (.store 4 aT4 aS0)] .ret) .skip)) (.seq (.jh [] [(.s (.zk 0 aT2),0,[]),(.s (.zi 2 aS0),0,[]),(.s (.zk 2 aT3),0,[]),(.s (.zi 2 aS0),0,[]),(.s (.zk 0 aT3),1,[]),(.s (.zi 2 aS0),1,[]),(.s (.zk 2 aT2),1,[]),(.s (.zi 2 aS0),1,[]),(.s (.zk 2 aT2),3,[]),(.s (.zi 2 aS0),3,[]),(.s (.zk 2 aT3),3,[]),(.s (.zi 2 aS0),3,[]),(iCa 198 [oD,aS8],0,[]),(iCa 198 [aS7,aS5],0,[]),(iCa 197 [aS1,aS0],0,[]),(iCa 198 [aS5,aS3],0,[]),(iCa 195 [aS1,aS0],0,[]),(.w .none none (.store 4 aT4 aS0),0,[])]) .ret)))
def F114.res:List RV:=[.cell (.of 4) (some 4)]
def F114:Fn:={ params:=[(.of 0),(.of 1)],res:=F114.res,body:=F114.b0,init:=in6 }
theorem F114.ok:fnA Tryz.prog Tryz.f114 [0,1,2,3,4,10]=some F114:=by kernel_rfl
abbrev F115.fr:=fr5
def F115.b0:IR:=(iSr [iWl 2 (.box aT0),iWl 3 (.box aT1),iWl 4 (.alloc [(I 0),.zf,(I 0),.zf])] (.seq (.jh [] [(.s (.zi 4 aT2),1,[]),(.s (.zi 4 aT3),0,[]),(iCa 112 [aS0],0,[]),(iCa 119 [aS2,aS0],0,[]),(.w .none none (.store 4 aT4 aS0),0,[])]) .ret))
def F115.res:List RV:=[.cell (.of 4) (some 4)]
def F115:Fn:={ params:=[(.of 0),(.of 1)],res:=F115.res,body:=F115.b0,init:=in5 }
theorem F115.ok:fnA Tryz.prog Tryz.f115 [0,1,2,3,4]=some F115:=by kernel_rfl
abbrev F116.fr:=fr3
def F116.b0:IR:=(iSr [iQo 2 (.mv (.c (.bool false)))] (iSr [iSm 0,iSm 1,iCa 199 [aS1,aS0],.s (.bin .geq .int aS0 aC0),iQm 2 0] .ret))
def F116.res:List RV:=[.t (.of 2)]
def F116:Fn:={ params:=[(.of 0),(.of 1)],res:=F116.res,body:=F116.b0,init:=in3 }
theorem F116.ok:fnA Tryz.prog Tryz.f116 [0,1,4]=some F116:=by kernel_rfl
abbrev F117.fr:=fr4
def F117.b0:IR:=(iSr [iWl 2 (.box aT0),iQo 3 (.mv (.c (.bool false)))] (.seq (.jh [] [(.s (.zk 0 aT2),1,[]),(.s (.zi 4 aS0),1,[]),(.s (.zi 4 aT1),0,[]),(.s (.zk 4 aT2),0,[]),(.s (.zi 4 aS0),0,[]),(iCa 119 [aS2,aS0],0,[]),(iCa 118 [aS4,aS0],0,[]),(.s (.not aS0),0,[]),(iQm 3 0,0,[])]) .ret))
def F117.res:List RV:=[.t (.of 3)]
def F117:Fn:={ params:=[(.of 0),(.of 1)],res:=F117.res,body:=F117.b0,init:=in4 }
theorem F117.ok:fnA Tryz.prog Tryz.f117 [0,1,2,3]=some F117:=by kernel_rfl
abbrev F118.fr:=fr5
def F118.b0:IR:=(iSr [iWl 2 (.box aT0),iWl 3 (.box aT1),iQo 4 (.mv (.c (.bool false)))] (iSr [.s (.zi 4 aT2),.s (.zi 4 aT3),iCa 200 [aS1,aS0],.s (.bin .eql .int aS0 aC0),iQm 4 0] .ret))
def F118.res:List RV:=[.t (.of 4)]
def F118:Fn:={ params:=[(.of 0),(.of 1)],res:=F118.res,body:=F118.b0,init:=in5 }
theorem F118.ok:fnA Tryz.prog Tryz.f118 [0,1,2,3,4]=some F118:=by kernel_rfl
abbrev F119.fr:=fr5
def F119.b0:IR:=(iSr [iWl 2 (.box aT0),iWl 3 (.box aT1),iWl 4 (.alloc [(I 0),.zf,(I 0),.zf])] (.seq (.jh [] [(.s (.zk 0 aT2),0,[]),(.s (.zi 2 aS0),0,[]),(.s (.zk 0 aT3),0,[]),(.s (.zi 2 aS0),0,[]),(.s (.zk 2 aT2),1,[]),(.s (.zi 2 aS0),1,[]),(.s (.zk 2 aT3),1,[]),(.s (.zi 2 aS0),1,[]),(iCa 198 [aS6,aS4],0,[]),(iCa 198 [aS3,aS1],0,[]),(iCa 195 [aS1,aS0],0,[]),(.w .none none (.store 4 aT4 aS0),0,[])]) .ret))
def F119.res:List RV:=[.cell (.of 4) (some 4)]
def F119:Fn:={ params:=[(.of 0),(.of 1)],res:=F119.res,body:=F119.b0,init:=in5 }
theorem F119.ok:fnA Tryz.prog Tryz.f119 [0,1,2,3,4]=some F119:=by kernel_rfl
abbrev F120.fr:=fr4
def F120.b0:IR:=(iSr [iWl 1 (.box aT0),iWl 2 (.alloc [(I 0),.zf])] (iSr [.s (.zk 0 aT1),.s (.zi 2 aS0),.s (.zk 2 aT1),.s (.zi 2 aS0),iCa 201 [aS2,aS0],.s (.mv aS0),.s (.ext 0 aS0),.s (.ext 1 aS1),iWl 3 (.alloc [(I 0),.zf]),.w .push none (.alloc [(I 0),.zf]),.w .none none (.store 2 aT3 aS2),.w .none none (.store 2 aS0 aS1)] (iSr [.s (.zi 2 aT3),.w .none none (.store 2 aT2 aS0)] .ret)))
def F120.res:List RV:=[.cell (.of 2) (some 2)]
def F120:Fn:={ params:=[(.of 0)],res:=F120.res,body:=F120.b0,init:=in4 }
theorem F120.ok:fnA Tryz.prog Tryz.f120 [0,1,2,3]=some F120:=by kernel_rfl
abbrev F121.fr:=fr4
def F121.b0:IR:=(iSr [iWl 1 (.box aT0),iQo 2 (.mv aC0),iQo 3 (.mv (.c (.bool false)))] (.seq (.jh [] [(.s (.zk 0 aT1),0,[]),(.s (.load aS0),0,[]),(.s (.zk 1 aT1),0,[]),(.s (.load aS0),0,[]),(.s (.bin .eql (.nil .sl) aS0 (.c .zf)),0,[]),(iQm 2 3,0,[]),(iQm 3 0,0,[])]) .ret))
def F121.res:List RV:=[.t (.of 2),.t (.of 3)]
def F121:Fn:={ params:=[(.of 0)],res:=F121.res,body:=F121.b0,init:=in4 }
theorem F121.ok:fnA Tryz.prog Tryz.f121 [0,1,2,3]=some F121:=by kernel_rfl
abbrev F122.fr:=fr3
def F122.b0:IR:=(iSr [iWl 1 (.box aT0),iQo 2 (.mv (.c (.bool false)))] (iSr [.s (.zk 2 aT1),.s (.zk 1 aS0),.s (.load aS0),.s (.bin .eql (.nil .sl) aS0 (.c .zf)),.s (.mv aS0),iPt 0 (.zk 2 aT1),iPt 1 (.zk 0 aS0),iPt 2 (.load aS0),iPt 3 (.bin .eql .int aS0 aC1),.s (.pick aS4 aS0 (.c (.bool false))),iQm 2 0] .ret))
def F122.res:List RV:=[.t (.of 2)]
def F122:Fn:={ params:=[(.of 0)],res:=F122.res,body:=F122.b0,init:=in3 }
theorem F122.ok:fnA Tryz.prog Tryz.f122 [0,1,2]=some F122:=by kernel_rfl
abbrev yh.fr:=fr14
def yh.t0:IR:=.reg [iQo 1 (.mv (.c (I 0))),iQo 2 (.mv (.c (I 0))),iQo 3 (.mv (.c (.bool false)))]
def yh.t1:IR:=.reg [.s (.mv (.t (.of 0))),iQo 4 (.mv (.s 0))]
def yh.t2:IR:=.reg [.s (.mv (.t (.of 4))),.s (.slen (.s 0)),iQo 9 (.bin .gtr .int (.s 0) (.c (I 20)))]
def yh.t3:IR:=.reg [iQo 1 (.mv (.c (I 0))),iQo 2 (.mv (.c (I 0))),iQo 3 (.mv (.c (.bool false)))]
def yh.t7:IR:=.reg [.s (.mv (.t (.of 4))),.s (.slen (.s 0)),.s (.bin .gtr .int (.s 0) (.c (I 0))),.s (.mv (.s 0)),.p .push (some ((.s 0),true)) (.mv (.t (.of 4))),.p .push (some ((.s 1),true)) (.tJ (.s 0) (.c (I 0))),.p .push (some ((.s 2),true)) (.bin .eql .int (.s 0) (.c (.int .u8 45))),.s (.pick (.s 3) (.s 0) (.c (.bool false))),iQo 5 (.mv (.s 0))]
def yh.t8:IR:=.reg [iQo 10 (.mv (.t (.of 5)))]
def yh.t9:IR:=.reg [.s (.mv (.t (.of 4))),.s (.rC (.s 0) (some (.c (I 1))) none),iQo 4 (.mv (.s 0))]
def yh.t12:IR:=.reg [.s (.mv (.t (.of 4))),iCa 206 [(.s 0)],iQo 6 (.mv (.s 0))]
def yh.aY (r:List RO):List RO:=iQo 11 (.pick (.s 5) (.c (.bool true)) (.s 0))::r
def yh.r8_1:List RO:=yh.aY []
def yh.aX (r:List RO):List RO:=.s (.mv (.t (.of 6)))::.s (.bin .gtr .int (.s 0) (.c (I 9)))::.s (.mv (.s 0))::.p .push (some ((.s 0),false)) (.mv (.t (.of 4)))::.p .push (some ((.s 1),false)) (.slen (.s 0))::.p .push (some ((.s 2),false)) (.mv (.t (.of 6)))::.p .push (some ((.s 3),false)) (.bin .sub .int (.s 1) (.s 0))::.p .push (some ((.s 4),false)) (.bin .gtr .int (.s 0) (.c (I 10)))::r
def yh.ou:List RO:=yh.aX yh.r8_1
def yh.t13:IR:=.reg yh.ou
def yh.t14:IR:=.reg [iQo 1 (.mv (.c (I 0))),iQo 2 (.mv (.c (I 0))),iQo 3 (.mv (.c (.bool false)))]
def yh.t18:IR:=.reg [.s (.mv (.t (.of 4))),.s (.mv (.t (.of 6))),.s (.rC (.s 1) none (some (.s 0))),iCa 209 [(.s 0)],iQo 7 (.mv (.s 0)),iQo 8 (.mv (.c (I 1)))]
def yh.t19:IR:=.reg [.s (.mv (.t (.of 6))),.s (.mv (.t (.of 4))),.s (.slen (.s 0)),iQo 12 (.bin .lss .int (.s 2) (.s 0))]
def yh.t20:IR:=.reg [.s (.mv (.t (.of 4))),.s (.mv (.t (.of 6))),.s (.bin .add .int (.s 0) (.c (I 1))),.s (.rC (.s 2) (some (.s 0)) none),iCa 209 [(.s 0)],iQo 8 (.mv (.s 0))]
def yh.t23:IR:=.reg [iQo 13 (.mv (.t (.of 5)))]
def yh.t24:IR:=.reg [.s (.mv (.t (.of 7))),.s (.bin .sub .int (.c (I 0)) (.s 0)),iQo 7 (.mv (.s 0))]
def yh.t27:IR:=.reg [.s (.mv (.t (.of 7))),.s (.mv (.t (.of 8))),iQo 1 (.mv (.s 1)),iQo 2 (.mv (.s 0)),iQo 3 (.mv (.c (.bool true)))]
def yh.t29:IR:=.seq (.seq yh.t23 (.cond (.t (.of 13)) yh.t24 .skip)) (.seq yh.t27 .ret)
def yh.t33:IR:=.seq yh.t12 (.seq (.seq yh.t13 (.cond (.t (.of 11)) (.seq yh.t14 .ret) .skip)) (.seq yh.t18 (.seq (.seq yh.t19 (.cond (.t (.of 12)) yh.t20 .skip)) yh.t29)))
def yh.t38:IR:=.seq yh.t0 (.seq yh.t1 (.seq (.seq yh.t2 (.cond (.t (.of 9)) (.seq yh.t3 .ret) .skip)) (.seq yh.t7 (.seq (.seq yh.t8 (.cond (.t (.of 10)) yh.t9 .skip)) yh.t33))))
def yh.b0:IR:=yh.t38
def yh.res:List RV:=[.t (.of 1),.t (.of 2),.t (.of 3)]
def yh:Fn:={ params:=[(.of 0)],res:=yh.res,body:=yh.b0,init:=in14 }
theorem yh.ok:fnA Tryz.prog Tryz.f127 [0,2,3,4,5,6,7,8,9,13,22,35,43,49]=some yh:=by kernel_rfl
abbrev yj.fr:=fr9
def yj.t0:IR:=.reg [iQo 2 (.mv (.c (.str [])))]
def yj.tV (r:List RO):List RO:=.p .push (some ((.s 1),false)) (.bin .lss .int (.s 0) (.c (I (-4000000000000000000))))::.s (.pick (.s 2) (.c (.bool true)) (.s 0))::.s (.mv (.s 0))::.p .push (some ((.s 0),false)) (.mv (.t (.of 1)))::.p .push (some ((.s 1),false)) (.bin .gtr .int (.s 0) (.c (I 4000000000000000000)))::iQo 5 (.pick (.s 2) (.c (.bool true)) (.s 0))::r
def yj.rU:List RO:=yj.tV []
def yj.tN (r:List RO):List RO:=.s (.mv (.t (.of 0)))::.s (.bin .lss .int (.s 0) (.c (I (-4000000000000000000))))::.s (.mv (.s 0))::.p .push (some ((.s 0),false)) (.mv (.t (.of 0)))::.p .push (some ((.s 1),false)) (.bin .gtr .int (.s 0) (.c (I 4000000000000000000)))::.s (.pick (.s 2) (.c (.bool true)) (.s 0))::.s (.mv (.s 0))::.p .push (some ((.s 0),false)) (.mv (.t (.of 1)))::r
def yj.aA:List RO:=yj.tN yj.rU
def yj.t1:IR:=.reg yj.aA
def yj.t2:IR:=.reg [.s (.mv (.t (.of 0))),iCa 134 [(.s 0)],.s (.mv (.t (.of 1))),iCa 134 [(.s 0)],iCa 130 [(.s 2),(.s 0)],iQo 2 (.mv (.s 0))]
def yj.t4:IR:=.cond (.t (.of 5)) (.seq yj.t2 .ret) .skip
def yj.t6:IR:=.reg [.s (.mv (.t (.of 1))),iQo 6 (.bin .lss .int (.s 0) (.c (I 0)))]
def yj.t7:IR:=.reg [.s (.mv (.t (.of 0))),.s (.bin .sub .int (.c (I 0)) (.s 0)),.s (.mv (.t (.of 1))),.s (.bin .sub .int (.c (I 0)) (.s 0)),iQo 0 (.mv (.s 2)),iQo 1 (.mv (.s 0))]
def yj.t10:IR:=.reg [.s (.mv (.t (.of 0))),.s (.mv (.t (.of 0))),.s (.bin .sub .int (.c (I 0)) (.s 0)),.s (.eu true (.s 2) [(.s 0)]),.s (.mv (.t (.of 1))),iCa 210 [(.s 1),(.s 0)],iQo 3 (.mv (.s 0))]
def yj.t11:IR:=.jh [] [(.s (.mv (.t (.of 0))),0,[]),(.s (.mv (.t (.of 3))),0,[]),(.s (.bin .quo .int (.s 1) (.s 0)),0,[]),(.s (.mv (.t (.of 1))),0,[]),(.s (.mv (.t (.of 3))),0,[]),(.s (.bin .quo .int (.s 1) (.s 0)),0,[]),(iQo 0 (.mv (.s 3)),0,[]),(iQo 1 (.mv (.s 0)),0,[])]
def yj.t12:IR:=.reg [iQo 4 (.mv (.c (.str [])))]
def yj.t13:IR:=.reg [.s (.mv (.t (.of 0))),iQo 7 (.bin .lss .int (.s 0) (.c (I 0)))]
def yj.t14:IR:=.reg [iQo 4 (.mv (.c (.str [45])))]
def yj.t17:IR:=.reg [.s (.mv (.t (.of 4))),.s (.mv (.t (.of 0))),.s (.mv (.t (.of 0))),.s (.bin .sub .int (.c (I 0)) (.s 0)),.s (.eu true (.s 2) [(.s 0)]),iCa 211 [(.s 0),(.c (I 1))],.s (.bin .add .str (.s 5) (.s 0)),iQo 4 (.mv (.s 0))]
def yj.t18:IR:=.reg [.s (.mv (.t (.of 1))),iQo 8 (.bin .gtr .int (.s 0) (.c (I 1)))]
def yj.t19:IR:=.reg [.s (.mv (.t (.of 4))),.s (.bin .add .str (.s 0) (.c (.str [47]))),.s (.mv (.t (.of 1))),iCa 211 [(.s 0),(.c (I 1))],.s (.bin .add .str (.s 2) (.s 0)),iQo 4 (.mv (.s 0))]
def yj.t22:IR:=.reg [.s (.mv (.t (.of 4))),iQo 2 (.mv (.s 0))]
def yj.t25:IR:=.seq yj.t17 (.seq (.seq yj.t18 (.cond (.t (.of 8)) yj.t19 .skip)) (.seq yj.t22 .ret))
def yj.t29:IR:=.seq yj.t10 (.seq yj.t11 (.seq yj.t12 (.seq (.seq yj.t13 (.cond (.t (.of 7)) yj.t14 .skip)) yj.t25)))
def yj.t30:IR:=.seq (.seq yj.t6 (.cond (.t (.of 6)) yj.t7 .skip)) yj.t29
def yj.t32:IR:=.seq yj.t0 (.seq (.seq yj.t1 yj.t4) yj.t30)
def yj.b0:IR:=yj.t32
def yj.res:List RV:=[.t (.of 2)]
def yj:Fn:={ params:=[(.of 0),(.of 1)],res:=yj.res,body:=yj.b0,init:=in9 }
theorem yj.ok:fnA Tryz.prog Tryz.f128 [0,1,4,5,6,20,27,45,54]=some yj:=by kernel_rfl
abbrev wz.fr:=fr6
def wz.t0:IR:=.reg [iWl 1 (.alloc [(.bool false),.zf]),iWl 2 (.alloc [(.bool false),.zf])]
def wz.t1:IR:=.reg [.s (.mv (.t (.of 0))),iQo 3 (.mv (.s 0))]
def wz.t2:IR:=.reg [.s (.mv (.t (.of 3))),iCa 206 [(.s 0)],iQo 4 (.mv (.s 0))]
def wz.t3:IR:=.reg [.s (.mv (.t (.of 4))),.s (.mv (.t (.of 3))),.s (.slen (.s 0)),iQo 5 (.bin .eql .int (.s 2) (.s 0))]
def wz.t4:IR:=.reg [.s (.mv (.t (.of 3))),iCa 205 [(.s 0)],iCa 134 [(.c (I 1))],.w .none none (.store 2 (.t (.of 1)) (.s 1)),.w .none none (.store 2 (.t (.of 2)) (.s 0))]
def wz.t8:IR:=.jh [] [(.s (.mv (.t (.of 3))),0,[]),(.s (.mv (.t (.of 4))),0,[]),(.s (.rC (.s 1) none (some (.s 0))),0,[]),(.s (.mv (.t (.of 3))),1,[]),(.s (.mv (.t (.of 4))),1,[]),(.s (.bin .add .int (.s 0) (.c (I 1))),1,[]),(.s (.rC (.s 2) (some (.s 0)) none),1,[]),(iCa 205 [(.s 4)],0,[]),(iCa 205 [(.s 1)],0,[]),(.w .none none (.store 2 (.t (.of 1)) (.s 1)),0,[]),(.w .none none (.store 2 (.t (.of 2)) (.s 0)),0,[])]
def wz.t13:IR:=.seq wz.t0 (.seq wz.t1 (.seq wz.t2 (.seq (.seq wz.t3 (.cond (.t (.of 5)) (.seq wz.t4 .ret) .skip)) (.seq wz.t8 .ret))))
def wz.b0:IR:=wz.t13
def wz.res:List RV:=[.cell (.of 1) (some 2),.cell (.of 2) (some 2)]
def wz:Fn:={ params:=[(.of 0)],res:=wz.res,body:=wz.b0,init:=in6 }
theorem wz.ok:fnA Tryz.prog Tryz.f129 [0,2,3,4,5,12]=some wz:=by kernel_rfl
abbrev jm.fr:=fr11
def jm.t0:IR:=.reg [iWl 2 (.box (.t (.of 0))),iWl 3 (.box (.t (.of 1))),iQo 4 (.mv (.c (.str [])))]
def jm.t1:IR:=.reg [.s (.zk 0 (.t (.of 3))),iQo 9 (.load (.s 0))]
def jm.t2:IR:=.jh [] [(.s (.zi 2 (.t (.of 2))),0,[]),(.s (.zi 2 (.t (.of 3))),1,[]),(iCa 212 [(.s 1)],0,[]),(iCa 212 [(.s 1)],0,[]),(.w .none none (.store 2 (.t (.of 2)) (.s 1)),0,[]),(.w .none none (.store 2 (.t (.of 3)) (.s 0)),0,[])]
def jm.t5:IR:=.reg [.s (.zk 1 (.t (.of 2))),.s (.load (.s 0)),.s (.zk 1 (.t (.of 3))),.s (.load (.s 0)),iCa 208 [(.s 2),(.s 0)],iQo 5 (.mv (.s 0))]
def jm.t6:IR:=.reg [.s (.zk 1 (.t (.of 2))),.s (.load (.s 0)),.s (.mv (.t (.of 5))),iCa 213 [(.s 1),(.s 0)],.s (.mv (.s 0)),.s (.ext 0 (.s 0)),.s (.ext 1 (.s 1)),iQo 6 (.mv (.s 1)),.s (.mv (.s 0))]
def jm.t7:IR:=.reg [.s (.zk 1 (.t (.of 3))),.s (.load (.s 0)),.s (.mv (.t (.of 5))),iCa 213 [(.s 1),(.s 0)],.s (.mv (.s 0)),.s (.ext 0 (.s 0)),.s (.ext 1 (.s 1)),iQo 7 (.mv (.s 1)),.s (.mv (.s 0))]
def jm.t8:IR:=.reg [.s (.zk 0 (.t (.of 2))),.s (.load (.s 0)),.s (.mv (.t (.of 6))),iCa 214 [(.s 1),(.s 0)],iCa 133 [(.s 0)],iQo 8 (.mv (.s 0))]
def jm.zsk (r:List RO):List RO:=iQo 10 (.pick (.s 4) (.s 0) (.c (.bool false)))::r
def jm.r6_1:List RO:=jm.zsk []
def jm.zsj (r:List RO):List RO:=.s (.mv (.t (.of 7)))::.s (.len (.s 0))::.s (.bin .eql .int (.s 0) (.c (I 1)))::.s (.mv (.s 0))::.p .push (some ((.s 0),true)) (.mv (.t (.of 7)))::.p .push (some ((.s 1),true)) (.zn 1 (.s 0) (.c (I 0)))::.p .push (some ((.s 2),true)) (.load (.s 0))::.p .push (some ((.s 3),true)) (.bin .eql .int (.s 0) (.c (I 1)))::r
def jm.r6_0:List RO:=jm.zsj jm.r6_1
def jm.t9:IR:=.reg jm.r6_0
def jm.t10:IR:=.reg [.s (.mv (.t (.of 8))),iQo 4 (.mv (.s 0))]
def jm.t14:IR:=.reg [.s (.mv (.t (.of 8))),.s (.bin .add .str (.s 0) (.c (.str [47]))),.s (.mv (.t (.of 7))),iCa 214 [(.c (.bool false)),(.s 0)],iCa 133 [(.s 0)],.s (.bin .add .str (.s 3) (.s 0)),iQo 4 (.mv (.s 0))]
def jm.t15:IR:=.seq jm.t14 .ret
def jm.t20:IR:=.seq jm.t5 (.seq jm.t6 (.seq jm.t7 (.seq jm.t8 (.seq (.seq jm.t9 (.cond (.t (.of 10)) (.seq jm.t10 .ret) .skip)) jm.t15))))
def jm.t22:IR:=.seq jm.t0 (.seq (.seq jm.t1 (.cond (.t (.of 9)) jm.t2 .skip)) jm.t20)
def jm.b0:IR:=jm.t22
def jm.res:List RV:=[.t (.of 4)]
def jm:Fn:={ params:=[(.of 0),(.of 1)],res:=jm.res,body:=jm.b0,init:=in11 }
theorem jm.ok:fnA Tryz.prog Tryz.f130 [0,1,2,3,4,5,6,8,10,12,49]=some jm:=by kernel_rfl
abbrev qy.fr:=fr7
def qy.t0:IR:=.reg [iWl 2 (.box (.t (.of 0))),iWl 3 (.box (.t (.of 1))),iWl 4 (.alloc [(.bool false),.zf])]
def qy.t1:IR:=.reg [.s (.zk 0 (.t (.of 2))),.s (.load (.s 0)),.s (.zk 0 (.t (.of 3))),.s (.load (.s 0)),iQo 5 (.bin .eql .bool (.s 2) (.s 0))]
def qy.t2:IR:=.jh [] [(.s (.zk 0 (.t (.of 2))),1,[]),(.s (.load (.s 0)),1,[]),(.s (.zk 1 (.t (.of 2))),0,[]),(.s (.load (.s 0)),0,[]),(.s (.zk 1 (.t (.of 3))),0,[]),(.s (.load (.s 0)),0,[]),(iCa 215 [(.s 2),(.s 0)],0,[]),(iCa 214 [(.s 5),(.s 0)],0,[]),(.w .none none (.store 2 (.t (.of 4)) (.s 0)),0,[])]
def qy.t6:IR:=.reg [.s (.zk 1 (.t (.of 2))),.s (.load (.s 0)),.s (.zk 1 (.t (.of 3))),.s (.load (.s 0)),iCa 216 [(.s 2),(.s 0)],iQo 6 (.bin .geq .int (.s 0) (.c (I 0)))]
def qy.t7:IR:=.jh [] [(.s (.zk 0 (.t (.of 2))),1,[]),(.s (.load (.s 0)),1,[]),(.s (.zk 1 (.t (.of 2))),0,[]),(.s (.load (.s 0)),0,[]),(.s (.zk 1 (.t (.of 3))),0,[]),(.s (.load (.s 0)),0,[]),(iCa 217 [(.s 2),(.s 0)],0,[]),(iCa 214 [(.s 5),(.s 0)],0,[]),(.w .none none (.store 2 (.t (.of 4)) (.s 0)),0,[])]
def qy.t11:IR:=.jh [] [(.s (.zk 0 (.t (.of 3))),1,[]),(.s (.load (.s 0)),1,[]),(.s (.zk 1 (.t (.of 3))),0,[]),(.s (.load (.s 0)),0,[]),(.s (.zk 1 (.t (.of 2))),0,[]),(.s (.load (.s 0)),0,[]),(iCa 217 [(.s 2),(.s 0)],0,[]),(iCa 214 [(.s 5),(.s 0)],0,[]),(.w .none none (.store 2 (.t (.of 4)) (.s 0)),0,[])]
def qy.t15:IR:=.seq qy.t0 (.seq (.seq qy.t1 (.cond (.t (.of 5)) (.seq qy.t2 .ret) .skip)) (.seq (.seq qy.t6 (.cond (.t (.of 6)) (.seq qy.t7 .ret) .skip)) (.seq qy.t11 .ret)))
def qy.b0:IR:=qy.t15
def qy.res:List RV:=[.cell (.of 4) (some 2)]
def qy:Fn:={ params:=[(.of 0),(.of 1)],res:=qy.res,body:=qy.b0,init:=in7 }
theorem qy.ok:fnA Tryz.prog Tryz.f131 [0,1,2,3,4,9,23]=some qy:=by kernel_rfl
abbrev fP.fr:=fr5
def fP.t0:IR:=.reg [iWl 2 (.box (.t (.of 0))),iWl 3 (.box (.t (.of 1))),iWl 4 (.alloc [(.bool false),.zf])]
def fP.t1:IR:=.jh [] [(.s (.zk 0 (.t (.of 2))),1,[]),(.s (.load (.s 0)),1,[]),(.s (.zk 0 (.t (.of 3))),1,[]),(.s (.load (.s 0)),1,[]),(.s (.bin .neq .bool (.s 2) (.s 0)),1,[]),(.s (.zk 1 (.t (.of 2))),0,[]),(.s (.load (.s 0)),0,[]),(.s (.zk 1 (.t (.of 3))),0,[]),(.s (.load (.s 0)),0,[]),(iCa 218 [(.s 2),(.s 0)],0,[]),(iCa 214 [(.s 5),(.s 0)],0,[]),(.w .none none (.store 2 (.t (.of 4)) (.s 0)),0,[])]
def fP.t3:IR:=.seq fP.t0 (.seq fP.t1 .ret)
def fP.b0:IR:=fP.t3
def fP.res:List RV:=[.cell (.of 4) (some 2)]
def fP:Fn:={ params:=[(.of 0),(.of 1)],res:=fP.res,body:=fP.b0,init:=in5 }
theorem fP.ok:fnA Tryz.prog Tryz.f132 [0,1,2,3,4]=some fP:=by kernel_rfl
abbrev gm.fr:=fr8
def gm.t0:IR:=.reg [iWl 1 (.box (.t (.of 0))),iQo 2 (.mv (.c (.str [])))]
def gm.t1:IR:=.reg [.s (.zk 1 (.t (.of 1))),.s (.load (.s 0)),.s (.len (.s 0)),iQo 5 (.bin .eql .int (.s 0) (.c (I 0)))]
def gm.t2:IR:=.reg [iQo 2 (.mv (.c (.str [48])))]
def gm.t6:IR:=.reg [.s (.zk 1 (.t (.of 1))),.s (.load (.s 0)),.s (.zk 1 (.t (.of 1))),.s (.load (.s 0)),.s (.len (.s 0)),.s (.bin .sub .int (.s 0) (.c (I 1))),.s (.zn 1 (.s 4) (.s 0)),.s (.load (.s 0)),iCa 211 [(.s 0),(.c (I 1))],iQo 3 (.mv (.s 0))]
def gm.t7:IR:=.reg [.s (.zk 1 (.t (.of 1))),.s (.load (.s 0)),.s (.len (.s 0)),.s (.bin .sub .int (.s 0) (.c (I 2))),iQo 4 (.mv (.s 0))]
def gm.t8:IR:=.reg [.s (.mv (.t (.of 4))),iQo 6 (.bin .geq .int (.s 0) (.c (I 0)))]
def gm.t11:IR:=.reg [.s (.mv (.t (.of 3))),.s (.zk 1 (.t (.of 1))),.s (.load (.s 0)),.s (.mv (.t (.of 4))),.s (.zn 1 (.s 1) (.s 0)),.s (.load (.s 0)),iCa 211 [(.s 0),(.c (I 9))],.s (.bin .add .str (.s 6) (.s 0)),iQo 3 (.mv (.s 0))]
def gm.t13:IR:=.reg [.s (.mv (.t (.of 4))),.s (.bin .sub .int (.s 0) (.c (I 1))),iQo 4 (.mv (.s 0))]
def gm.t15:IR:=.seq (.seq gm.t8 (.cond (.t (.of 6)) .skip (.exit 0))) (.seq (.block 1 gm.t11) gm.t13)
def gm.t16:IR:=.loop gm.t15
def gm.t19:IR:=.reg [.s (.zk 0 (.t (.of 1))),iQo 7 (.load (.s 0))]
def gm.t20:IR:=.reg [.s (.mv (.t (.of 3))),.s (.bin .add .str (.c (.str [45])) (.s 0)),iQo 2 (.mv (.s 0))]
def gm.t24:IR:=.reg [.s (.mv (.t (.of 3))),iQo 2 (.mv (.s 0))]
def gm.t30:IR:=.seq gm.t0 (.seq (.seq gm.t1 (.cond (.t (.of 5)) (.seq gm.t2 .ret) .skip)) (.seq gm.t6 (.seq (.seq gm.t7 (.block 0 gm.t16)) (.seq (.seq gm.t19 (.cond (.t (.of 7)) (.seq gm.t20 .ret) .skip)) (.seq gm.t24 .ret)))))
def gm.b0:IR:=gm.t30
def gm.res:List RV:=[.t (.of 2)]
def gm:Fn:={ params:=[(.of 0)],res:=gm.res,body:=gm.b0,init:=in8 }
theorem gm.ok:fnA Tryz.prog Tryz.f133 [0,1,2,3,4,8,23,35]=some gm:=by kernel_rfl
abbrev jy.fr:=fr7
def jy.t0:IR:=.reg [iWl 1 (.alloc [(.bool false),.zf])]
def jy.t1:IR:=.reg [iQo 2 (.mv (.c .zf))]
def jy.t2:IR:=.reg [.s (.mv (.t (.of 0))),.s (.bin .lss .int (.s 0) (.c (I 0))),iQo 3 (.mv (.s 0))]
def jy.t3:IR:=.reg [.s (.mv (.t (.of 0))),iQo 5 (.bin .neq .int (.s 0) (.c (I 0)))]
def jy.t6:IR:=.reg [.s (.mv (.t (.of 0))),.s (.bin .rem .int (.s 0) (.c (I 1000000000))),iQo 4 (.mv (.s 0))]
def jy.t7:IR:=.reg [.s (.mv (.t (.of 4))),iQo 6 (.bin .lss .int (.s 0) (.c (I 0)))]
def jy.t8:IR:=.reg [.s (.mv (.t (.of 4))),.s (.bin .sub .int (.c (I 0)) (.s 0)),iQo 4 (.mv (.s 0))]
def jy.t11:IR:=.reg [.s (.mv (.t (.of 2))),.s (.mv (.t (.of 4))),.w .push none (.yg 1 1 [(I 0)] [(0,1,(.s 0))]),.w .push none (.app 1 8 (.s 2) (.s 0)),iQo 2 (.mv (.s 0))]
def jy.t12:IR:=.reg [.s (.mv (.t (.of 0))),.s (.bin .quo .int (.s 0) (.c (I 1000000000))),iQo 0 (.mv (.s 0))]
def jy.t13:IR:=.seq jy.t11 jy.t12
def jy.t17:IR:=.seq (.seq jy.t3 (.cond (.t (.of 5)) .skip (.exit 0))) (.block 1 (.seq jy.t6 (.seq (.seq jy.t7 (.cond (.t (.of 6)) jy.t8 .skip)) jy.t13)))
def jy.t18:IR:=.loop jy.t17
def jy.t20:IR:=.reg [.s (.mv (.t (.of 3))),.s (.mv (.t (.of 2))),iCa 214 [(.s 1),(.s 0)],.w .none none (.store 2 (.t (.of 1)) (.s 0))]
def jy.t21:IR:=.seq jy.t20 .ret
def jy.t25:IR:=.seq jy.t0 (.seq jy.t1 (.seq jy.t2 (.seq (.block 0 jy.t18) jy.t21)))
def jy.b0:IR:=jy.t25
def jy.res:List RV:=[.cell (.of 1) (some 2)]
def jy:Fn:={ params:=[(.of 0)],res:=jy.res,body:=jy.b0,init:=in7 }
theorem jy.ok:fnA Tryz.prog Tryz.f134 [0,2,3,4,5,9,13]=some jy:=by kernel_rfl
abbrev F135.fr:=fr2
def F135.b0:IR:=(iSr [iQo 1 (.mv aC0)] (iSr [iSm 0,.s (.len aS0),.s (.bin .eql .int aS0 aC0),iCa 88 [aS0,aC12],iSm 0,.s (.len aS0),.s (.bin .gtr .int aS0 zny),iCa 88 [aS0,aC5],iSm 0,iCa 183 [aS0],.w .push none (.yg 1 3 [(I 0)] [(0,1,aS6),(1,1,aS2),(2,1,aS0)]),iCa 86 [aS0],iQm 1 0] .ret))
def F135.res:List RV:=[.t (.of 1)]
def F135:Fn:={ params:=[(.of 0)],res:=F135.res,body:=F135.b0,init:=in2 }
theorem F135.ok:fnA Tryz.prog Tryz.f135 [0,2]=some F135:=by kernel_rfl
abbrev pz.fr:=fr9
def pz.b3:IR:=(iSr [iQo 7 (.bin .lss .int aT6 aT5)] (.seq (.cond aT7 .skip (.exit 0)) (.seq (.block 1 (iSr [iSm 6,.s (.zn 1 aT4 aT6),.s (.load aS0),iQm 2 2,iQm 3 0] (iSr [iSm 3,iSm 2,.s (.bin .add .int aS0 aC1),iQo 8 (.bin .neq .int aS2 aS0)] (.cond aT8 (iSr [iQo 1 (.mv (.c (.bool false)))] .ret) .skip)))) (.reg [.s (.bin .add .int aT6 aC1),iQm 6 0]))))
def pz.b2:IR:=(.loop pz.b3)
def pz.g1 (X2:IR):IR:=(.block 0 X2)
def pz.b1:IR:=pz.g1 pz.b2
def pz.b8:IR:=(iSr [iQo 1 (.mv (.c (.bool true)))] .ret)
def pz.b0:IR:=(iSr [iQo 1 (.mv (.c (.bool false)))] (.seq (iSr [iSm 0,iCa 171 [aS0],iWl 4 (.call (.c (.fn 170 (.of 170) [])) [aS0]),iQo 5 (.len aT4),iQo 6 (.mv aC0)] pz.b1) pz.b8))
def pz.res:List RV:=[.t (.of 1)]
def pz:Fn:={ params:=[(.of 0)],res:=pz.res,body:=pz.b0,init:=in9 }
theorem pz.ok:fnA Tryz.prog Tryz.f136 [0,2,3,4,7,8,9,10,17]=some pz:=by kernel_rfl
abbrev F137.fr:=fr8
def F137.b0:IR:=(iSr [iQo 2 (.mv (.c .zf))] (iSr [iSm 0,.w .push none (.fB 1 8 [(I 0)] aS0 aS0),iQm 3 0] (.seq (iSr [iSm 3,iQo 5 (.len aS0),iQo 6 (.mv aC0)] (.block 0 (.loop (iSr [iQo 7 (.bin .lss .int aT6 aT5)] (.seq (.cond aT7 .skip (.exit 0)) (.seq (.block 1 (iSr [iSm 6,iQm 4 0] (.reg [iSm 3,iSm 4,iSm 1,iSm 4,.w .push none (.call aS1 [aS0]),.s (.zn 1 aS4 aS3),.w .none none (.store 1 aS0 aS1)]))) (.reg [.s (.bin .add .int aT6 aC1),iQm 6 0]))))))) (iSr [iSm 3,iQm 2 0] .ret))))
def F137.res:List RV:=[.t (.of 2)]
def F137:Fn:={ params:=[(.of 0),(.of 1)],res:=F137.res,body:=F137.b0,init:=in8 }
theorem F137.ok:fnA Tryz.prog Tryz.f137 [0,1,4,5,6,10,11,12]=some F137:=by kernel_rfl
abbrev F138.fr:=fr3
def F138.b0:IR:=(iSr [iQo 2 (.mv aC0)] (.seq (.jh [] [(.s (.load aT1),0,[]),(.s (.len aS0),0,[]),(.s (.bin .add .int aS0 aC1),0,[]),(.s (.load aT1),0,[]),(iSm 0,0,[]),(.s (.zn 1 aS1 aS0),0,[]),(.s (.load aS0),0,[]),(.s (.bin .sub .int aS4 aS0),0,[]),(iQm 2 0,0,[])]) .ret))
def F138.res:List RV:=[.t (.of 2)]
def F138:Fn:={ params:=[(.of 0),(.of 1)],res:=F138.res,body:=F138.b0,init:=in3 }
theorem F138.ok:fnA Tryz.prog Tryz.f138 [0,1,3]=some F138:=by kernel_rfl
abbrev mX.fr:=fr10
def mX.b3:IR:=(iSr [iQo 9 (.bin .lss .int aT8 aT7)] (.seq (.cond aT9 .skip (.exit 0)) (.seq (.block 1 (iSr [.s (.zn 1 aT6 aT8),.s (.load aS0),iQm 5 0] (.reg [iSm 4,iSm 5,iSm 1,iCa 219 [aS1,aS0],.w .push none (.yg 1 1 [(I 0)] [(0,1,aS0)]),.w .push none (.app 1 8 aS4 aS0),iQm 4 0]))) (.reg [.s (.bin .add .int aT8 aC1),iQm 8 0]))))
def mX.b2:IR:=(.loop mX.b3)
def mX.g1 (X2:IR):IR:=(.block 0 X2)
def mX.b1:IR:=mX.g1 mX.b2
def mX.b8:IR:=(iSr [iSm 4,iQm 3 0] .ret)
def mX.b0:IR:=(iSr [iWl 2 (.box aT0),iQo 3 (.mv (.c .zf))] (iSr [iQo 4 (.mv (.c .zf))] (.seq (iSr [.s (.zk 1 aT2),iQo 6 (.load aS0),iQo 7 (.len aT6),iQo 8 (.mv aC0)] mX.b1) mX.b8)))
def mX.res:List RV:=[.t (.of 3)]
def mX:Fn:={ params:=[(.of 0),(.of 1)],res:=mX.res,body:=mX.b0,init:=in10 }
theorem mX.ok:fnA Tryz.prog Tryz.f139 [0,1,2,4,5,7,9,10,11,12]=some mX:=by kernel_rfl
abbrev jc.fr:=fr4
def jc.t0:IR:=.reg [iWl 1 (.box (.t (.of 0))),iQo 2 (.mv (.c (I 0)))]
def jc.ze4 (r:List RO):List RO:=.p .push (some ((.s 8),false)) (.bin .neq .int (.s 5) (.s 0))::iQo 3 (.pick (.s 9) (.c (.bool true)) (.s 0))::r
def jc.r1_3:List RO:=jc.ze4 []
def jc.ze3 (r:List RO):List RO:=.p .push (some ((.s 0),false)) (.zk 2 (.t (.of 1)))::.p .push (some ((.s 1),false)) (.load (.s 0))::.p .push (some ((.s 2),false)) (.len (.s 0))::.p .push (some ((.s 3),false)) (.zk 0 (.t (.of 1)))::.p .push (some ((.s 4),false)) (.load (.s 0))::.p .push (some ((.s 5),false)) (.zk 1 (.t (.of 1)))::.p .push (some ((.s 6),false)) (.load (.s 0))::.p .push (some ((.s 7),false)) (.bin .mul .int (.s 2) (.s 0))::r
def jc.r1_2:List RO:=jc.ze3 jc.r1_3
def jc.tV (r:List RO):List RO:=.p .push (some ((.s 2),false)) (.bin .lss .int (.s 0) (.c (I 0)))::.s (.pick (.s 3) (.c (.bool true)) (.s 0))::.s (.mv (.s 0))::.p .push (some ((.s 0),false)) (.zk 0 (.t (.of 1)))::.p .push (some ((.s 1),false)) (.load (.s 0))::.p .push (some ((.s 2),false)) (.bin .gtr .int (.s 0) (.c (I 1048576)))::.s (.pick (.s 3) (.c (.bool true)) (.s 0))::.s (.mv (.s 0))::r
def jc.rU:List RO:=jc.tV jc.r1_2
def jc.tN (r:List RO):List RO:=.s (.zk 0 (.t (.of 1)))::.s (.load (.s 0))::.s (.zk 1 (.t (.of 1)))::.s (.load (.s 0))::.s (.bin .neq .int (.s 2) (.s 0))::.s (.mv (.s 0))::.p .push (some ((.s 0),false)) (.zk 0 (.t (.of 1)))::.p .push (some ((.s 1),false)) (.load (.s 0))::r
def jc.aA:List RO:=jc.tN jc.rU
def jc.t1:IR:=.reg jc.aA
def jc.t2:IR:=.reg [iQo 2 (.mv (.c (I 2)))]
def jc.t3:IR:=.seq jc.t2 .ret
def jc.t4:IR:=.cond (.t (.of 3)) jc.t3 .skip
def jc.t5:IR:=.seq jc.t1 jc.t4
def jc.t6:IR:=.jh [] [(.s (.zk 0 (.t (.of 1))),0,[]),(.s (.load (.s 0)),0,[]),(.s (.zk 2 (.t (.of 1))),2,[]),(.s (.load (.s 0)),2,[]),(.w .push none (.yg 1 1 [(I 0)] [(0,1,(.s 2))]),0,[]),(iCa 87 [(.c (I 1)),(.c (I 16)),(.s 0)],0,[]),(iCa 183 [(.s 2)],0,[]),(.w .push none (.yg 1 2 [(I 0)] [(0,1,(.s 1)),(1,1,(.s 0))]),0,[]),(iCa 86 [(.s 0)],0,[]),(iQo 2 (.mv (.s 0)),0,[])]
def jc.t7:IR:=.seq jc.t6 .ret
def jc.t8:IR:=.seq jc.t5 jc.t7
def jc.t9:IR:=.seq jc.t0 jc.t8
def jc.b0:IR:=jc.t9
def jc.res:List RV:=[.t (.of 2)]
def jc:Fn:={ params:=[(.of 0)],res:=jc.res,body:=jc.b0,init:=in4 }
theorem jc.ok:fnA Tryz.prog Tryz.f140 [0,1,2,28]=some jc:=by kernel_rfl
abbrev F141.fr:=fr1
def F141.b0:IR:=(iSr [iQo 0 (.mv (.c .zf))] (iSr [.s (.build [(.str []),.bM] [(0,1,(.c (.str [110,111,114,109,97,108]))),(1,1,(.c (.fn 220 (.of 220) [])))]),.s (.build [(.str []),.bM] [(0,1,(.c (.str [115,101,109,105,109,97,103,105,99]))),(1,1,(.c (.fn 221 (.of 221) [])))]),.s (.build [(.str []),.bM] [(0,1,(.c (.str [109,97,103,105,99]))),(1,1,(.c (.fn 222 (.of 222) [])))]),.s (.build [(.str []),.bM] [(0,1,(.c (.str [112,97,110,100,105,97,103,111,110,97,108]))),(1,1,(.c (.fn 223 (.of 223) [])))]),.s (.build [(.str []),.bM] [(0,1,(.c (.str [97,115,115,111,99,105,97,116,105,118,101]))),(1,1,(.c (.fn 224 (.of 224) [])))]),.s (.build [(.str []),.bM] [(0,1,(.c (.str [109,111,115,116,45,112,101,114,102,101,99,116]))),(1,1,(.c (.fn 225 (.of 225) [])))]),.s (.build [(.str []),.bM] [(0,1,(.c (.str [98,111,114,100,101,114,101,100]))),(1,1,(.c (.fn 226 (.of 226) [])))]),.s (.build [(.str []),.bM] [(0,1,(.c (.str [98,105,109,97,103,105,99]))),(1,1,(.c (.fn 227 (.of 227) [])))]),.w .push none (.yg 2 8 [(.str []),.bM] [(0,2,aS7),(2,2,aS6),(4,2,aS5),(6,2,aS4),(8,2,aS3),(10,2,aS2),(12,2,aS1),(14,2,aS0)]),iQm 0 0] .ret))
def F141.res:List RV:=[.t (.of 0)]
def F141:Fn:={ params:=[],res:=F141.res,body:=F141.b0,init:=in1 }
theorem F141.ok:fnA Tryz.prog Tryz.f141 [0]=some F141:=by kernel_rfl
abbrev F142.fr:=fr3
def F142.b0:IR:=(iSr [iQo 1 (.mv (.c .zf))] (.seq (iSr [iSm 0,iQo 2 (.bin .eql (.nil .sl) aS0 (.c .zf))] (.cond aT2 (iSr [iQo 1 (.mv (.c .zf))] .ret) .skip)) (iSr [.w .push none (.yg 1 0 [(I 0)] []),iSm 0,.w .push none (.app 1 8 aS1 aS0),iQm 1 0] .ret)))
def F142.res:List RV:=[.t (.of 1)]
def F142:Fn:={ params:=[(.of 0)],res:=F142.res,body:=F142.b0,init:=in3 }
theorem F142.ok:fnA Tryz.prog Tryz.f142 [0,2,4]=some F142:=by kernel_rfl
abbrev F144.fr:=fr4
def F144.b0:IR:=(iSr [iWl 2 (.box aT0),iQo 3 (.mv (.c (.bool false)))] (.seq (.jh [] [(iSm 1,0,[]),(.s (.zk 0 aT2),0,[]),(.s (.load aS0),0,[]),(.s (.zk 1 aT2),1,[]),(.s (.load aS0),1,[]),(iCa 152 [aS4,aS2],0,[]),(iCa 95 [aS0,aS1],0,[]),(.s (.bin .lss .int aS0 aC0),0,[]),(iQm 3 0,0,[])]) .ret))
def F144.res:List RV:=[.t (.of 3)]
def F144:Fn:={ params:=[(.of 0),(.of 1)],res:=F144.res,body:=F144.b0,init:=in4 }
theorem F144.ok:fnA Tryz.prog Tryz.f144 [0,1,2,4]=some F144:=by kernel_rfl
abbrev yt.fr:=fr19
def yt.t0:IR:=.reg [iWl 2 (.box (.t (.of 0))),iQo 3 (.mv (.c (.bool false)))]
def yt.t1:IR:=.reg [iWl 4 (.alloc [(I 0),.zf])]
def yt.t2:IR:=.reg [.s (.zk 0 (.t (.of 2))),.s (.load (.s 0)),.w .push none (.call (.c (.fn 152 (.of 152) [])) [(.c (.str [109,97,103,105,99])),(.s 0)]),iQo 9 (.part 1 none (.s 0)),iQo 10 (.len (.t (.of 9))),iQo 11 (.mv (.c (I 0)))]
def yt.t3:IR:=.reg [iQo 12 (.bin .lss .int (.t (.of 11)) (.t (.of 10)))]
def yt.t5:IR:=.reg [.s (.mv (.t (.of 11))),.s (.zn 1 (.t (.of 9)) (.t (.of 11))),.s (.load (.s 0)),iQo 5 (.mv (.s 2)),iQo 6 (.mv (.s 0))]
def yt.t6:IR:=.reg [iCa 187 [(.c (I 0))],iWl 7 (.alloc [(I 0),.zf]),.w .none none (.store 2 (.t (.of 7)) (.s 0))]
def yt.t7:IR:=.reg [iQo 13 (.mv (.t (.of 6))),iQo 14 (.len (.t (.of 13))),iQo 15 (.mv (.c (I 0)))]
def yt.t8:IR:=.reg [iQo 16 (.bin .lss .int (.t (.of 15)) (.t (.of 14)))]
def yt.t10:IR:=.reg [.s (.zn 1 (.t (.of 13)) (.t (.of 15))),.s (.load (.s 0)),iQo 8 (.mv (.s 0))]
def yt.t11:IR:=.jh [] [(.s (.zi 2 (.t (.of 7))),2,[]),(.s (.zk 1 (.t (.of 2))),0,[]),(.s (.load (.s 0)),0,[]),(.s (.mv (.t (.of 8))),0,[]),(.s (.zn 1 (.s 1) (.s 0)),0,[]),(.s (.load (.s 0)),0,[]),(.s (.mv (.t (.of 1))),1,[]),(iCa 187 [(.s 1)],0,[]),(iCa 228 [(.s 0),(.s 1)],0,[]),(iCa 197 [(.s 8),(.s 0)],0,[]),(.w .none none (.store 2 (.t (.of 7)) (.s 0)),0,[])]
def yt.t14:IR:=.reg [.s (.bin .add .int (.t (.of 15)) (.c (I 1))),iQo 15 (.mv (.s 0))]
def yt.t17:IR:=.seq yt.t8 (.seq (.cond (.t (.of 16)) .skip (.exit 2)) (.seq (.block 3 (.seq yt.t10 yt.t11)) yt.t14))
def yt.t18:IR:=.loop yt.t17
def yt.t21:IR:=.reg [.s (.mv (.t (.of 5))),iQo 17 (.bin .eql .int (.s 0) (.c (I 0)))]
def yt.t22:IR:=.reg [.s (.zi 2 (.t (.of 7))),.w .none none (.store 2 (.t (.of 4)) (.s 0))]
def yt.t25:IR:=.reg [.s (.zi 2 (.t (.of 7))),.s (.zi 2 (.t (.of 4))),iCa 229 [(.s 1),(.s 0)],iQo 18 (.bin .neq .int (.s 0) (.c (I 0)))]
def yt.t26:IR:=.reg [iQo 3 (.mv (.c (.bool false)))]
def yt.t35:IR:=.reg [.s (.bin .add .int (.t (.of 11)) (.c (I 1))),iQo 11 (.mv (.s 0))]
def yt.t38:IR:=.seq yt.t3 (.seq (.cond (.t (.of 12)) .skip (.exit 0)) (.seq (.block 1 (.seq yt.t5 (.seq yt.t6 (.seq (.seq yt.t7 (.block 2 yt.t18)) (.seq (.seq yt.t21 (.cond (.t (.of 17)) yt.t22 .skip)) (.seq yt.t25 (.cond (.t (.of 18)) (.seq yt.t26 .ret) .skip))))))) yt.t35))
def yt.t39:IR:=.loop yt.t38
def yt.t42:IR:=.reg [iQo 3 (.mv (.c (.bool true)))]
def yt.t46:IR:=.seq yt.t0 (.seq yt.t1 (.seq (.seq yt.t2 (.block 0 yt.t39)) (.seq yt.t42 .ret)))
def yt.b0:IR:=yt.t46
def yt.res:List RV:=[.t (.of 3)]
def yt:Fn:={ params:=[(.of 0),(.of 1)],res:=yt.res,body:=yt.b0,init:=in19 }
theorem yt.ok:fnA Tryz.prog Tryz.f145 [0,1,2,4,5,6,7,8,10,14,15,16,17,22,23,24,25,40,45]=some yt:=by kernel_rfl
abbrev gu.fr:=fr5
def gu.t0:IR:=.reg [iQo 1 (.mv (.c (.bool false)))]
def gu.t1:IR:=.reg [iQo 2 (.mv (.c (I 0)))]
def gu.t2:IR:=.reg [.s (.mv (.t (.of 2))),.s (.mv (.t (.of 0))),.s (.len (.s 0)),iQo 3 (.bin .lss .int (.s 2) (.s 0))]
def gu.zsm (r:List RO):List RO:=.s (.mv (.t (.of 0)))::.s (.mv (.t (.of 0)))::.s (.len (.s 0))::.s (.bin .sub .int (.s 0) (.c (I 1)))::.s (.zn 1 (.s 3) (.s 0))::.s (.load (.s 0))::.s (.bin .add .int (.s 6) (.s 0))::iQo 4 (.bin .neq .int (.s 10) (.s 0))::r
def gu.r3_2:List RO:=gu.zsm []
def gu.zez (r:List RO):List RO:=.s (.mv (.t (.of 2)))::.s (.bin .sub .int (.s 1) (.s 0))::.s (.zn 1 (.s 5) (.s 0))::.s (.load (.s 0))::.s (.bin .add .int (.s 8) (.s 0))::.s (.mv (.t (.of 0)))::.s (.zn 1 (.s 0) (.c (I 0)))::.s (.load (.s 0))::r
def gu.r3_1:List RO:=gu.zez gu.r3_2
def gu.zey (r:List RO):List RO:=.s (.mv (.t (.of 0)))::.s (.mv (.t (.of 2)))::.s (.zn 1 (.s 1) (.s 0))::.s (.load (.s 0))::.s (.mv (.t (.of 0)))::.s (.mv (.t (.of 0)))::.s (.len (.s 0))::.s (.bin .sub .int (.s 0) (.c (I 1)))::r
def gu.r3_0:List RO:=gu.zey gu.r3_1
def gu.t5:IR:=.jh [] (gu.r3_0.map fun o=>(o,0,[]))
def gu.t6:IR:=.reg [iQo 1 (.mv (.c (.bool false)))]
def gu.t11:IR:=.reg [.s (.mv (.t (.of 2))),.s (.bin .add .int (.s 0) (.c (I 1))),iQo 2 (.mv (.s 0))]
def gu.t13:IR:=.seq (.seq gu.t2 (.cond (.t (.of 3)) .skip (.exit 0))) (.seq (.block 1 (.seq gu.t5 (.cond (.t (.of 4)) (.seq gu.t6 .ret) .skip))) gu.t11)
def gu.t14:IR:=.loop gu.t13
def gu.t17:IR:=.reg [iQo 1 (.mv (.c (.bool true)))]
def gu.t20:IR:=.seq gu.t0 (.seq (.seq gu.t1 (.block 0 gu.t14)) (.seq gu.t17 .ret))
def gu.b0:IR:=gu.t20
def gu.res:List RV:=[.t (.of 1)]
def gu:Fn:={ params:=[(.of 0)],res:=gu.res,body:=gu.b0,init:=in5 }
theorem gu.ok:fnA Tryz.prog Tryz.f146 [0,2,3,7,33]=some gu:=by kernel_rfl
abbrev jf.fr:=fr10
def jf.t0:IR:=.reg [iWl 1 (.box (.t (.of 0))),iQo 2 (.mv (.c (.bool false)))]
def jf.t1:IR:=.reg [.s (.zk 0 (.t (.of 1))),.s (.load (.s 0)),iQo 3 (.mv (.s 0))]
def jf.t2:IR:=.reg [.s (.mv (.t (.of 3))),.s (.bin .rem .int (.s 0) (.c (I 2))),iQo 6 (.bin .eql .int (.s 0) (.c (I 1)))]
def jf.t3:IR:=.reg [iQo 2 (.mv (.c (.bool false)))]
def jf.t7:IR:=.reg [iQo 4 (.mv (.c (I 0)))]
def jf.t8:IR:=.reg [.s (.mv (.t (.of 4))),.s (.mv (.t (.of 3))),iQo 7 (.bin .lss .int (.s 1) (.s 0))]
def jf.t11:IR:=.reg [iQo 5 (.mv (.c (I 0)))]
def jf.t12:IR:=.reg [.s (.mv (.t (.of 5))),.s (.mv (.t (.of 3))),iQo 8 (.bin .lss .int (.s 1) (.s 0))]
def jf.t15:IR:=.jh [] [(.s (.zi 3 (.t (.of 1))),0,[]),(.s (.mv (.t (.of 4))),0,[]),(.s (.mv (.t (.of 5))),0,[]),(.s (.zi 3 (.t (.of 1))),1,[]),(iCa 230 [(.s 3),(.s 2),(.s 1)],0,[]),(iCa 230 [(.s 1),(.c (I 0)),(.c (I 0))],0,[]),(.s (.bin .neq .int (.s 1) (.s 0)),0,[]),(.s (.mv (.s 0)),0,[]),(.p .push (some ((.s 0),false)) (.zi 3 (.t (.of 1))),0,[]),(.p .push (some ((.s 1),false)) (.mv (.t (.of 4))),0,[]),(.p .push (some ((.s 2),false)) (.mv (.t (.of 5))),0,[]),(.p .push (some ((.s 3),false)) (.zi 3 (.t (.of 1))),1,[]),(.w .push (some ((.s 4),false)) (.call (.c (.fn 231 (.of 231) [])) [(.s 3),(.s 2),(.s 1)]),0,[]),(.w .push (some ((.s 5),false)) (.call (.c (.fn 231 (.of 231) [])) [(.s 1),(.c (I 0)),(.c (I 0))]),0,[]),(.p .push (some ((.s 6),false)) (.bin .neq .int (.s 1) (.s 0)),0,[]),(iQo 9 (.pick (.s 7) (.c (.bool true)) (.s 0)),0,[])]
def jf.t16:IR:=.reg [iQo 2 (.mv (.c (.bool false)))]
def jf.t21:IR:=.reg [.s (.mv (.t (.of 5))),.s (.bin .add .int (.s 0) (.c (I 1))),iQo 5 (.mv (.s 0))]
def jf.t23:IR:=.seq (.seq jf.t12 (.cond (.t (.of 8)) .skip (.exit 2))) (.seq (.block 3 (.seq jf.t15 (.cond (.t (.of 9)) (.seq jf.t16 .ret) .skip))) jf.t21)
def jf.t24:IR:=.loop jf.t23
def jf.t28:IR:=.reg [.s (.mv (.t (.of 4))),.s (.bin .add .int (.s 0) (.c (I 1))),iQo 4 (.mv (.s 0))]
def jf.t30:IR:=.seq (.seq jf.t8 (.cond (.t (.of 7)) .skip (.exit 0))) (.seq (.block 1 (.seq jf.t11 (.block 2 jf.t24))) jf.t28)
def jf.t31:IR:=.loop jf.t30
def jf.t34:IR:=.reg [iQo 2 (.mv (.c (.bool true)))]
def jf.t39:IR:=.seq jf.t0 (.seq jf.t1 (.seq (.seq jf.t2 (.cond (.t (.of 6)) (.seq jf.t3 .ret) .skip)) (.seq (.seq jf.t7 (.block 0 jf.t31)) (.seq jf.t34 .ret))))
def jf.b0:IR:=jf.t39
def jf.res:List RV:=[.t (.of 2)]
def jf:Fn:={ params:=[(.of 0)],res:=jf.res,body:=jf.b0,init:=in10 }
theorem jf.ok:fnA Tryz.prog Tryz.f147 [0,1,2,3,4,5,10,13,18,36]=some jf:=by kernel_rfl
abbrev uw.fr:=fr6
def uw.t0:IR:=.reg [iWl 1 (.box (.t (.of 0))),iQo 2 (.mv (.c (.bool false)))]
def uw.t1:IR:=.reg [.s (.zk 0 (.t (.of 1))),.s (.load (.s 0)),iQo 3 (.bin .lss .int (.s 0) (.c (I 5)))]
def uw.t2:IR:=.reg [iQo 2 (.mv (.c (.bool false)))]
def uw.t6:IR:=.reg [.s (.zk 0 (.t (.of 1))),.s (.load (.s 0)),iQo 4 (.bin .geq .int (.s 0) (.c (I 5)))]
def uw.t9:IR:=.reg [.s (.zi 3 (.t (.of 1))),iCa 232 [(.s 0)],.w .none none (.store 3 (.t (.of 1)) (.s 0))]
def uw.t10:IR:=.reg [.s (.zi 3 (.t (.of 1))),.w .push none (.call (.c (.fn 63 (.of 63) [])) [(.c (.str [109,97,103,105,99])),(.s 0)]),iQo 5 (.not (.s 0))]
def uw.t11:IR:=.reg [iQo 2 (.mv (.c (.bool false)))]
def uw.t17:IR:=.seq (.seq uw.t6 (.cond (.t (.of 4)) .skip (.exit 0))) (.block 1 (.seq uw.t9 (.seq uw.t10 (.cond (.t (.of 5)) (.seq uw.t11 .ret) .skip))))
def uw.t18:IR:=.loop uw.t17
def uw.t20:IR:=.reg [iQo 2 (.mv (.c (.bool true)))]
def uw.t24:IR:=.seq uw.t0 (.seq (.seq uw.t1 (.cond (.t (.of 3)) (.seq uw.t2 .ret) .skip)) (.seq (.block 0 uw.t18) (.seq uw.t20 .ret)))
def uw.b0:IR:=uw.t24
def uw.res:List RV:=[.t (.of 2)]
def uw:Fn:={ params:=[(.of 0)],res:=uw.res,body:=uw.b0,init:=in6 }
theorem uw.ok:fnA Tryz.prog Tryz.f148 [0,1,2,5,8,13]=some uw:=by kernel_rfl
abbrev zo.fr:=fr12
def zo.t0:IR:=.reg [iQo 3 (.mv (.c (.bool false)))]
def zo.t1:IR:=.reg [.s (.mv (.t (.of 0))),.s (.mv (.t (.of 1))),iCa 70 [(.s 1),(.s 0)],.s (.mv (.s 0)),.s (.ext 0 (.s 0)),.s (.ext 1 (.s 1)),iWl 4 (.alloc [(I 0),.zf]),.w .none none (.store 2 (.t (.of 4)) (.s 1)),.s (.mv (.s 0))]
def zo.t2:IR:=.reg [iQo 5 (.mv (.c (I 0)))]
def zo.t3:IR:=.reg [.s (.mv (.t (.of 5))),.s (.zk 1 (.t (.of 4))),.s (.load (.s 0)),.s (.len (.s 0)),iQo 9 (.bin .lss .int (.s 3) (.s 0))]
def zo.t6:IR:=.reg [iQo 6 (.mv (.c (.str [48]))),iQo 7 (.mv (.c (.str [48])))]
def zo.t7:IR:=.reg [iQo 8 (.mv (.c (I 0)))]
def zo.t8:IR:=.reg [.s (.mv (.t (.of 8))),.s (.mv (.t (.of 1))),iQo 10 (.bin .lss .int (.s 1) (.s 0))]
def zo.zau (r:List RO):List RO:=iQo 6 (.mv (.s 0))::r
def zo.r7_2:List RO:=zo.zau []
def zo.zat (r:List RO):List RO:=.s (.load (.s 0))::.s (.zn 1 (.s 7) (.s 0))::.s (.load (.s 0))::iCa 40 [(.s 10),(.s 0)]::r
def zo.r7_1:List RO:=zo.zat zo.r7_2
def zo.zas (r:List RO):List RO:=.s (.mv (.t (.of 6)))::.s (.mv (.t (.of 2)))::.s (.zk 1 (.t (.of 4)))::.s (.load (.s 0))::.s (.zn 1 (.s 0) (.c (I 0)))::.s (.load (.s 0))::.s (.mv (.t (.of 8)))::.s (.zn 1 (.s 1) (.s 0))::r
def zo.r7_0:List RO:=zo.zas zo.r7_1
def zo.t11:IR:=.reg zo.r7_0
def zo.ze2 (r:List RO):List RO:=iQo 7 (.mv (.s 0))::r
def zo.r8_2:List RO:=zo.ze2 []
def zo.aY (r:List RO):List RO:=.s (.zn 1 (.s 1) (.s 0))::.s (.load (.s 0))::.s (.zn 1 (.s 8) (.s 0))::.s (.load (.s 0))::iCa 40 [(.s 11),(.s 0)]::r
def zo.r8_1:List RO:=zo.aY zo.r8_2
def zo.aX (r:List RO):List RO:=.s (.mv (.t (.of 7)))::.s (.mv (.t (.of 2)))::.s (.zk 1 (.t (.of 4)))::.s (.load (.s 0))::.s (.mv (.t (.of 5)))::.s (.zn 1 (.s 1) (.s 0))::.s (.load (.s 0))::.s (.mv (.t (.of 8)))::r
def zo.ou:List RO:=zo.aX zo.r8_1
def zo.t12:IR:=.reg zo.ou
def zo.t15:IR:=.reg [.s (.mv (.t (.of 8))),.s (.bin .add .int (.s 0) (.c (I 1))),iQo 8 (.mv (.s 0))]
def zo.t17:IR:=.seq (.seq zo.t8 (.cond (.t (.of 10)) .skip (.exit 2))) (.seq (.block 3 (.seq zo.t11 zo.t12)) zo.t15)
def zo.t18:IR:=.loop zo.t17
def zo.t21:IR:=.reg [.s (.mv (.t (.of 6))),.s (.mv (.t (.of 7))),iQo 11 (.bin .neq .str (.s 1) (.s 0))]
def zo.t22:IR:=.reg [iQo 3 (.mv (.c (.bool false)))]
def zo.t29:IR:=.reg [.s (.mv (.t (.of 5))),.s (.bin .add .int (.s 0) (.c (I 1))),iQo 5 (.mv (.s 0))]
def zo.t31:IR:=.seq (.seq zo.t3 (.cond (.t (.of 9)) .skip (.exit 0))) (.seq (.block 1 (.seq zo.t6 (.seq (.seq zo.t7 (.block 2 zo.t18)) (.seq zo.t21 (.cond (.t (.of 11)) (.seq zo.t22 .ret) .skip))))) zo.t29)
def zo.t32:IR:=.loop zo.t31
def zo.t35:IR:=.reg [iQo 3 (.mv (.c (.bool true)))]
def zo.t39:IR:=.seq zo.t0 (.seq zo.t1 (.seq (.seq zo.t2 (.block 0 zo.t32)) (.seq zo.t35 .ret)))
def zo.b0:IR:=zo.t39
def zo.res:List RV:=[.t (.of 3)]
def zo:Fn:={ params:=[(.of 0),(.of 1),(.of 2)],res:=zo.res,body:=zo.b0,init:=in12 }
theorem zo.ok:fnA Tryz.prog Tryz.f149 [0,1,2,6,7,9,10,11,12,23,28,58]=some zo:=by kernel_rfl
abbrev qi.fr:=fr6
def qi.t0:IR:=.reg [iQo 2 (.mv (.c .zf))]
def qi.t1:IR:=.reg [iQo 3 (.mv (.c .zf))]
def qi.t2:IR:=.reg [iQo 4 (.mv (.c (I 0)))]
def qi.t3:IR:=.reg [.s (.mv (.t (.of 4))),.s (.mv (.t (.of 0))),.s (.len (.s 0)),iQo 5 (.bin .lss .int (.s 2) (.s 0))]
def qi.t6:IR:=.reg [.s (.mv (.t (.of 3))),.s (.mv (.t (.of 0))),.s (.mv (.t (.of 4))),.s (.zn 1 (.s 1) (.s 0)),.s (.load (.s 0)),iCa 42 [(.s 0)],.s (.mv (.t (.of 1))),iCa 233 [(.s 1),(.s 0)],.w .push none (.yg 1 1 [(.str [])] [(0,1,(.s 0))]),.w .push none (.app 1 16 (.s 8) (.s 0)),iQo 3 (.mv (.s 0))]
def qi.t8:IR:=.reg [.s (.mv (.t (.of 4))),.s (.bin .add .int (.s 0) (.c (I 1))),iQo 4 (.mv (.s 0))]
def qi.t10:IR:=.seq (.seq qi.t3 (.cond (.t (.of 5)) .skip (.exit 0))) (.seq (.block 1 qi.t6) qi.t8)
def qi.t11:IR:=.loop qi.t10
def qi.t14:IR:=.reg [.s (.mv (.t (.of 3))),iQo 2 (.mv (.s 0))]
def qi.t18:IR:=.seq qi.t0 (.seq qi.t1 (.seq (.seq qi.t2 (.block 0 qi.t11)) (.seq qi.t14 .ret)))
def qi.b0:IR:=qi.t18
def qi.res:List RV:=[.t (.of 2)]
def qi:Fn:={ params:=[(.of 0),(.of 1)],res:=qi.res,body:=qi.b0,init:=in6 }
theorem qi.ok:fnA Tryz.prog Tryz.f150 [0,1,4,5,6,10]=some qi:=by kernel_rfl
abbrev F151.fr:=fr3
def F151.b0:IR:=(iSr [iQo 2 (.mv (.c (.bool false)))] (iSr [iSm 0,iSm 1,iCa 234 [aS1,aS0],.s (.bin .geq .int aS0 aC0),iQm 2 0] .ret))
def F151.res:List RV:=[.t (.of 2)]
def F151:Fn:={ params:=[(.of 0),(.of 1)],res:=F151.res,body:=F151.b0,init:=in3 }
theorem F151.ok:fnA Tryz.prog Tryz.f151 [0,1,4]=some F151:=by kernel_rfl
abbrev F152.fr:=fr19
def F152.b0:IR:=(iSr [iWl 2 (.alloc [(I 0),.zf])] (iSr [iSm 1,iSm 1,iCa 154 [aS1,aS0],iSm 1,iSm 1,iCa 155 [aS1,aS0],.w .push none (.yg 1 2 [.zf] [(0,1,aS3),(1,1,aS0)]),iCa 235 [aS0],iQm 3 0] (.seq (iSr [iSm 0,iQo 9 (.bin .neq .str aS0 (.c (.str [115,101,109,105,109,97,103,105,99])))] (.cond aT9 (iSr [iWl 4 (.alloc [.zf]),iWl 5 (.alloc [.zf])] (.seq (iSr [.s (.build [(I 0),(I 0)] [(0,1,aC1),(1,1,aC0)]),iSm 1,.s (.bin .sub .int aS0 aC1),.s (.build [(I 0),(I 0)] [(0,1,(.c (I (-1)))),(1,1,aS0)]),iWl 10 (.yg 2 2 [(I 0),(I 0)] [(0,2,aS3),(2,2,aS0)]),iQo 11 (.len sW),iQo 12 (.mv aC0)] (.block 0 (.loop (iSr [iQo 13 (.bin .lss .int sF ay)] (.seq (.cond aT13 .skip (.exit 0)) (.seq (.block 1 (iSr [.s (.zn 2 sW sF),.s (.zi 2 aS0),iWl 6 (.alloc [(I 0),(I 0)]),.w .none none (.store 2 aT6 aS0)] (iSr [iSm 1,.s (.zk 0 aT6),.s (.load aS0),iWl 14 (.call (.c (.fn 236 (.of 236) [])) [aS2,aS0])] (.block 2 (.rf aT14 [(.of 15),(.of 16)] (iSr [iQo 7 (.mv aT15)] (.reg [iQo 8 (.mv aT16)])) (.block 3 (iSr [iSm 7,.s (.zk 1 aT6),.s (.load aS0),iQo 17 (.bin .eql .int aS2 aS0)] (.cond aT17 (.reg [.s (.load aT4),iSm 8,.w .push none (.yg 1 1 [.zf] [(0,1,aS0)]),.w .push none (.app 1 24 aS2 aS0),.w .none none (.store 1 aT4 aS0)]) (.reg [.s (.load aT5),iSm 8,.w .push none (.yg 1 1 [.zf] [(0,1,aS0)]),.w .push none (.app 1 24 aS2 aS0),.w .none none (.store 1 aT5 aS0)]))))))))) (.reg [.s (.bin .add .int sF aC1),iQm 12 0]))))))) (iSr [iSm 3,.s (.load aT4),.w .push none (.app 1 24 aS1 aS0),iQm 3 0] (iSr [iSm 0,iQo 18 (.bin .eql .str aS0 (.c (.str [112,97,110,100,105,97,103,111,110,97,108])))] (.cond aT18 (.reg [iSm 3,.s (.load aT5),.w .push none (.app 1 24 aS1 aS0),iQm 3 0]) .skip))))) .skip)) (iSr [iSm 1,iSm 1,.s (.bin .mul .int aS1 aS0),iSm 3,iCa 153 [aS1,aS0],.w .none none (.store 2 aT2 aS0)] .ret))))
def F152.res:List RV:=[.cell (.of 2) (some 2)]
def F152:Fn:={ params:=[(.of 0),(.of 1)],res:=F152.res,body:=F152.b0,init:=in19 }
theorem F152.ok:fnA Tryz.prog Tryz.f152 [0,1,4,5,6,7,9,10,11,21,26,27,28,29,35,36,37,41,55]=some F152:=by kernel_rfl
abbrev F153.fr:=fr12
def F153.b0:IR:=(iSr [iWl 2 (.alloc [(I 0),.zf])] (iSr [.w .push none .za2,iQm 3 0] (iSr [iSm 0,.s (.build [(I 0),.zf] [(0,1,aS0)]),iWl 4 (.alloc [(I 0),.zf]),.w .none none (.store 2 aT4 aS0)] (.seq (iSr [iQo 7 (.mv aT1),iQo 8 (.len aT7),iQo 9 (.mv aC0)] (.block 0 (.loop (iSr [iQo 10 (.bin .lss .int aT9 aT8)] (.seq (.cond sW .skip (.exit 0)) (.seq (.block 1 (iSr [.s (.zn 1 aT7 aT9),.s (.load aS0),iQm 5 0] (iSr [iSm 5,iCa 171 [aS0],iCa 170 [aS0],iQm 5 0] (iSr [iSm 5,iCa 237 [aS0],iQm 6 0] (iSr [iSm 3,iSm 6,.s (.look .str (.bool false) false aS1 aS0),iQo 11 (.not aS0)] (.cond ay (iSr [iSm 3,iSm 6,.w .none none (.zlw .str aS1 aS0 (.c (.bool true)))] (.reg [.s (.zk 1 aT4),.s (.load aS0),iSm 5,.w .push none (.yg 1 1 [.zf] [(0,1,aS0)]),.w .push none (.app 1 24 aS2 aS0),.s (.zk 1 aT4),.w .none none (.store 1 aS0 aS1)])) .skip)))))) (.reg [.s (.bin .add .int aT9 aC1),iQm 9 0]))))))) (iSr [.s (.zi 2 aT4),.w .none none (.store 2 aT2 aS0)] .ret)))))
def F153.res:List RV:=[.cell (.of 2) (some 2)]
def F153:Fn:={ params:=[(.of 0),(.of 1)],res:=F153.res,body:=F153.b0,init:=in12 }
theorem F153.ok:fnA Tryz.prog Tryz.f153 [0,1,4,5,6,8,9,13,14,15,16,27]=some F153:=by kernel_rfl
abbrev F154.fr:=fr9
def F154.b0:IR:=(iSr [iWl 2 (.box aT1),iQo 3 (.mv (.c .zf))] (iSr [iQo 4 (.mv (.c .zf))] (.seq (iSr [iQo 6 (.mv aT0),iQo 7 (.mv aC0)] (.block 0 (.loop (iSr [iQo 8 (.bin .lss .int aT7 aT6)] (.seq (.cond aT8 .skip (.exit 0)) (.seq (.block 1 (iSr [iSm 7,iWl 5 (.alloc [(I 0)]),.w .none none (.store 1 aT5 aS0)] (.reg [iSm 4,.s (.load aT2),.s (.fn 238 (.of 238) [aT2,aT5]),iCa 137 [aS1,aS0],.w .push none (.yg 1 1 [.zf] [(0,1,aS0)]),.w .push none (.app 1 24 aS4 aS0),iQm 4 0]))) (.reg [.s (.bin .add .int aT7 aC1),iQm 7 0]))))))) (iSr [iSm 4,iQm 3 0] .ret))))
def F154.res:List RV:=[.t (.of 3)]
def F154:Fn:={ params:=[(.of 0),(.of 1)],res:=F154.res,body:=F154.b0,init:=in9 }
theorem F154.ok:fnA Tryz.prog Tryz.f154 [0,1,3,4,5,6,7,8,9]=some F154:=by kernel_rfl
abbrev F155.fr:=fr9
def F155.b0:IR:=(iSr [iWl 2 (.box aT1),iQo 3 (.mv (.c .zf))] (iSr [iQo 4 (.mv (.c .zf))] (.seq (iSr [iQo 6 (.load aT2),iQo 7 (.mv aC0)] (.block 0 (.loop (iSr [iQo 8 (.bin .lss .int aT7 aT6)] (.seq (.cond aT8 .skip (.exit 0)) (.seq (.block 1 (iSr [iSm 7,iWl 5 (.alloc [(I 0)]),.w .none none (.store 1 aT5 aS0)] (.reg [iSm 4,iSm 0,.s (.fn 239 (.of 239) [aT2,aT5]),iCa 137 [aS1,aS0],.w .push none (.yg 1 1 [.zf] [(0,1,aS0)]),.w .push none (.app 1 24 aS4 aS0),iQm 4 0]))) (.reg [.s (.bin .add .int aT7 aC1),iQm 7 0]))))))) (iSr [iSm 4,iQm 3 0] .ret))))
def F155.res:List RV:=[.t (.of 3)]
def F155:Fn:={ params:=[(.of 0),(.of 1)],res:=F155.res,body:=F155.b0,init:=in9 }
theorem F155.ok:fnA Tryz.prog Tryz.f155 [0,1,3,4,5,6,7,8,9]=some F155:=by kernel_rfl
abbrev F162.fr:=fr9
def F162.b0:IR:=(iSr [iQo 3 (.mv (.c .zf))] (.seq (iSr [iQo 4 (.mv aC0)] (.block 0 (.loop (.seq (iSr [iSm 4,iSm 2,iQo 7 (.bin .lss .int aS1 aS0)] (.cond aT7 .skip (.exit 0))) (.seq (.block 1 (iSr [iQo 5 (.mv (.c .zf))] (.seq (iSr [iQo 6 (.mv aC0)] (.block 2 (.loop (.seq (iSr [iSm 6,iSm 1,iQo 8 (.bin .lss .int aS1 aS0)] (.cond aT8 .skip (.exit 2))) (.seq (.block 3 (.reg [iSm 5,iSm 2,iSm 6,.s (.bin .mul .int aS1 aS0),iSm 4,.s (.bin .add .int aS1 aS0),.w .push none (.yg 1 1 [(I 0)] [(0,1,aS0)]),.w .push none (.app 1 8 aS6 aS0),iQm 5 0])) (.reg [iSm 6,.s (.bin .add .int aS0 aC1),iQm 6 0])))))) (.reg [iSm 0,iSm 5,iCa 164 [aS1,aS0],iQm 0 0])))) (.reg [iSm 4,.s (.bin .add .int aS0 aC1),iQm 4 0])))))) (iSr [iSm 0,iQm 3 0] .ret)))
def F162.res:List RV:=[.t (.of 3)]
def F162:Fn:={ params:=[(.of 0),(.of 1),(.of 2)],res:=F162.res,body:=F162.b0,init:=in9 }
theorem F162.ok:fnA Tryz.prog Tryz.f162 [0,1,2,6,7,8,9,12,17]=some F162:=by kernel_rfl
abbrev F163.fr:=fr9
def F163.b0:IR:=(iSr [iQo 3 (.mv (.c .zf))] (.seq (iSr [iQo 4 (.mv aC0)] (.block 0 (.loop (.seq (iSr [iSm 4,iSm 1,iQo 7 (.bin .lss .int aS1 aS0)] (.cond aT7 .skip (.exit 0))) (.seq (.block 1 (iSr [iQo 5 (.mv (.c .zf))] (.seq (iSr [iQo 6 (.mv aC0)] (.block 2 (.loop (.seq (iSr [iSm 6,iSm 2,iQo 8 (.bin .lss .int aS1 aS0)] (.cond aT8 .skip (.exit 2))) (.seq (.block 3 (.reg [iSm 5,iSm 2,iSm 4,.s (.bin .mul .int aS1 aS0),iSm 6,.s (.bin .add .int aS1 aS0),.w .push none (.yg 1 1 [(I 0)] [(0,1,aS0)]),.w .push none (.app 1 8 aS6 aS0),iQm 5 0])) (.reg [iSm 6,.s (.bin .add .int aS0 aC1),iQm 6 0])))))) (.reg [iSm 0,iSm 5,iCa 164 [aS1,aS0],iQm 0 0])))) (.reg [iSm 4,.s (.bin .add .int aS0 aC1),iQm 4 0])))))) (iSr [iSm 0,iQm 3 0] .ret)))
def F163.res:List RV:=[.t (.of 3)]
def F163:Fn:={ params:=[(.of 0),(.of 1),(.of 2)],res:=F163.res,body:=F163.b0,init:=in9 }
theorem F163.ok:fnA Tryz.prog Tryz.f163 [0,1,2,6,7,8,9,12,17]=some F163:=by kernel_rfl
abbrev F164.fr:=fr9
def F164.b0:IR:=(iSr [iQo 2 (.mv (.c .zf))] (iSr [.w .push none (.yg 1 0 [(I 0)] []),iSm 1,.w .push none (.app 1 8 aS1 aS0),iQm 3 0] (.seq (iSr [iQo 4 (.mv aC1)] (.block 0 (.loop (.seq (iSr [iSm 4,iSm 3,.s (.len aS0),iQo 6 (.bin .lss .int aS2 aS0)] (.cond aT6 .skip (.exit 0))) (.seq (.block 1 (iSr [iSm 4,iQm 5 0] (.block 2 (.loop (.seq (.seq (.jh [] [(iSm 5,0,[]),(.s (.bin .gtr .int aS0 aC0),0,[]),(.s (.mv aS0),0,[]),(iPt 0 (.mv aT3),0,[]),(iPt 1 (.mv aT5),0,[]),(iPt 2 (.zn 1 aS1 aS0),0,[]),(iPt 3 (.load aS0),0,[]),(iPt 4 (.mv aT3),0,[]),(iPt 5 (.mv aT5),0,[]),(iPt 6 (.bin .sub .int aS0 aC1),0,[]),(iPt 7 (.zn 1 aS2 aS0),0,[]),(iPt 8 (.load aS0),0,[]),(iPt 9 (.bin .lss .int aS5 aS0),0,[]),(iQo 7 (.pick oD aS0 (.c (.bool false))),0,[])]) (.cond aT7 .skip (.exit 2))) (.seq (.block 3 (.jh [] [(iSm 3,0,[]),(iSm 5,0,[]),(iSm 3,1,[]),(iSm 5,1,[]),(.s (.bin .sub .int aS0 aC1),1,[]),(iSm 3,0,[]),(iSm 5,0,[]),(.s (.bin .sub .int aS0 aC1),0,[]),(.s (.zn 1 aS2 aS0),0,[]),(.s (.load aS0),0,[]),(iSm 3,0,[]),(iSm 5,0,[]),(.s (.zn 1 aS1 aS0),0,[]),(.s (.load aS0),0,[]),(.s (.zn 1 aS13 aS12),0,[]),(.w .none none (.store 1 aS0 aS5),0,[]),(.s (.zn 1 aS12 oD),0,[]),(.w .none none (.store 1 aS0 aS2),0,[])])) (.reg [iSm 5,.s (.bin .sub .int aS0 aC1),iQm 5 0]))))))) (.reg [iSm 4,.s (.bin .add .int aS0 aC1),iQm 4 0])))))) (.seq (iSr [iSm 0,iSm 3,iWl 8 (.call (.c (.fn 90 (.of 90) [])) [aS1,aS0])] (.cond aT8 (iSr [iSm 0,iQm 2 0] .ret) .skip)) (iSr [iSm 0,iSm 3,.w .push none (.yg 1 1 [.zf] [(0,1,aS0)]),.w .push none (.app 1 24 aS2 aS0),iQm 2 0] .ret)))))
def F164.res:List RV:=[.t (.of 2)]
def F164:Fn:={ params:=[(.of 0),(.of 1)],res:=F164.res,body:=F164.b0,init:=in9 }
theorem F164.ok:fnA Tryz.prog Tryz.f164 [0,1,4,5,6,7,14,31,52]=some F164:=by kernel_rfl
abbrev F165.fr:=fr7
def F165.b0:IR:=(iSr [iQo 3 (.mv (.c .zf))] (iSr [iQo 4 (.mv (.c .zf))] (.seq (iSr [iQo 5 (.mv aC0)] (.block 0 (.loop (.seq (iSr [iSm 5,iSm 0,iQo 6 (.bin .lss .int aS1 aS0)] (.cond aT6 .skip (.exit 0))) (.seq (.block 1 (.reg [iSm 4,iSm 0,iSm 5,.s (.bin .mul .int aS1 aS0),iSm 2,iSm 5,.s (.bin .mul .int aS1 aS0),iSm 1,.s (.bin .add .int aS1 aS0),iSm 0,iCa 240 [aS1,aS0],.s (.bin .add .int aS7 aS0),.w .push none (.yg 1 1 [(I 0)] [(0,1,aS0)]),.w .push none (.app 1 8 aS12 aS0),iQm 4 0])) (.reg [iSm 5,.s (.bin .add .int aS0 aC1),iQm 5 0])))))) (iSr [iSm 4,iQm 3 0] .ret))))
def F165.res:List RV:=[.t (.of 3)]
def F165:Fn:={ params:=[(.of 0),(.of 1),(.of 2)],res:=F165.res,body:=F165.b0,init:=in7 }
theorem F165.ok:fnA Tryz.prog Tryz.f165 [0,1,2,6,7,8,11]=some F165:=by kernel_rfl
abbrev F168.fr:=fr4
def F168.b0:IR:=(iSr [iWl 2 (.box aT0),iQo 3 (.mv aC0)] (.seq (.jh [] [(.s (.zi 2 aT2),0,[]),(iSm 1,1,[]),(.s (.len aS0),1,[]),(.s (.zk 1 aT2),1,[]),(.s (.load aS0),1,[]),(.s (.len aS0),1,[]),(.s (.bin .neq .int aS3 aS0),1,[]),(iSm 1,2,[]),(iCa 20 [aS7],0,[]),(iCa 88 [aS2,aC2],0,[]),(iCa 136 [aS2],0,[]),(.s (.not aS0),0,[]),(iCa 88 [aS0,aC14],0,[]),(.w .push none (.yg 1 3 [(I 0)] [(0,1,aS4),(1,1,aS3),(2,1,aS0)]),0,[]),(iCa 86 [aS0],0,[]),(iQm 3 0,0,[])]) .ret))
def F168.res:List RV:=[.t (.of 3)]
def F168:Fn:={ params:=[(.of 0),(.of 1)],res:=F168.res,body:=F168.b0,init:=in4 }
theorem F168.ok:fnA Tryz.prog Tryz.f168 [0,1,2,4]=some F168:=by kernel_rfl
abbrev F169.fr:=fr11
def F169.b0:IR:=(iSr [iWl 2 (.box aT0),iQo 3 (.mv (.c .zf))] (iSr [.s (.zk 0 aT2),.s (.load aS0),.w .push none (.fB 1 8 [(I 0)] aS0 aS0),iQm 4 0] (.seq (iSr [.s (.zk 1 aT2),iQo 7 (.load aS0),iQo 8 (.len aT7),iQo 9 (.mv aC0)] (.block 0 (.loop (iSr [iQo 10 (.bin .lss .int aT9 aT8)] (.seq (.cond sW .skip (.exit 0)) (.seq (.block 1 (iSr [iSm 9,.s (.zn 2 aT7 aT9),.s (.zi 2 aS0),iWl 6 (.alloc [(I 0),(I 0)]),iQm 5 2,.w .none none (.store 2 aT6 aS0)] (.seq (.jh [] [(iSm 4,0,[]),(.s (.rP 1 2 aT6 aC0),0,[]),(.s (.load aS0),0,[]),(.s (.zn 1 aS2 aS0),0,[]),(.s (.load aS0),0,[]),(iSm 1,0,[]),(iSm 5,0,[]),(.s (.zn 1 aS1 aS0),0,[]),(.s (.load aS0),0,[]),(.s (.bin .add .int aS4 aS0),0,[]),(.s (.zn 1 aS9 aS7),0,[]),(.w .none none (.store 1 aS0 aS1),0,[])]) (.jh [] [(iSm 4,0,[]),(.s (.rP 1 2 aT6 aC1),0,[]),(.s (.load aS0),0,[]),(.s (.zn 1 aS2 aS0),0,[]),(.s (.load aS0),0,[]),(iSm 1,0,[]),(iSm 5,0,[]),(.s (.zn 1 aS1 aS0),0,[]),(.s (.load aS0),0,[]),(.s (.bin .add .int aS4 aS0),0,[]),(.s (.zn 1 aS9 aS7),0,[]),(.w .none none (.store 1 aS0 aS1),0,[])])))) (.reg [.s (.bin .add .int aT9 aC1),iQm 9 0]))))))) (iSr [iSm 4,iQm 3 0] .ret))))
def F169.res:List RV:=[.t (.of 3)]
def F169:Fn:={ params:=[(.of 0),(.of 1)],res:=F169.res,body:=F169.b0,init:=in11 }
theorem F169.ok:fnA Tryz.prog Tryz.f169 [0,1,2,4,5,6,7,12,13,14,15]=some F169:=by kernel_rfl
abbrev oQ.fr:=fr3
def oQ.b0:IR:=(iSr [iQo 1 (.mv (.c .zf))] (iSr [iSm 0,iCa 242 [aS0],iQm 2 0] (iSr [iSm 2,iCa 243 [aS0]] (iSr [iSm 2,iQm 1 0] .ret))))
def oQ.res:List RV:=[.t (.of 1)]
def oQ:Fn:={ params:=[(.of 0)],res:=oQ.res,body:=oQ.b0,init:=in3 }
theorem oQ.ok:fnA Tryz.prog Tryz.f170 [0,2,3]=some oQ:=by kernel_rfl
abbrev oP.fr:=fr3
def oP.b0:IR:=(iSr [iWl 1 (.box aT0),iQo 2 (.mv (.c .bM))] (iSr [.s (.fn 244 (.of 244) [aT1]),iQm 2 0] .ret))
def oP.res:List RV:=[.t (.of 2)]
def oP:Fn:={ params:=[(.of 0)],res:=oP.res,body:=oP.b0,init:=in3 }
theorem oP.ok:fnA Tryz.prog Tryz.f171 [0,1,2]=some oP:=by kernel_rfl
abbrev oO.fr:=fr3
def oO.b0:IR:=(iSr [iQo 2 (.mv (.c (.bool false)))] (iSr [iSm 0,iSm 1,iCa 184 [aS1,aS0],.s (.bin .geq .int aS0 aC0),iQm 2 0] .ret))
def oO.res:List RV:=[.t (.of 2)]
def oO:Fn:={ params:=[(.of 0),(.of 1)],res:=oO.res,body:=oO.b0,init:=in3 }
theorem oO.ok:fnA Tryz.prog Tryz.f173 [0,1,4]=some oO:=by kernel_rfl
abbrev oN.fr:=fr4
def oN.b0:IR:=(iSr [iQo 3 (.mv (.c (.bool false)))] (iSr [iSm 0,.s (.load aT1),.s (.bin .lss .int aS1 aS0),.s (.mv aS0),iPf 0 (.mv aT0),iPf 1 (.load aT2),iPf 2 (.bin .gtr .int aS1 aS0),.s (.pick aS3 (.c (.bool true)) aS0),iQm 3 0] .ret))
def oN.res:List RV:=[.t (.of 3)]
def oN:Fn:={ params:=[(.of 0),(.of 1),(.of 2)],res:=oN.res,body:=oN.b0,init:=in4 }
theorem oN.ok:fnA Tryz.prog Tryz.f174 [0,1,2,4]=some oN:=by kernel_rfl
abbrev F175.fr:=fr3
def F175.b0:IR:=(iSr [iQo 2 (.mv (.c (.bool false)))] (iSr [iSm 0,iSm 1,iCa 245 [aS1,aS0],.s (.bin .geq .int aS0 aC0),iQm 2 0] .ret))
def F175.res:List RV:=[.t (.of 2)]
def F175:Fn:={ params:=[(.of 0),(.of 1)],res:=F175.res,body:=F175.b0,init:=in3 }
theorem F175.ok:fnA Tryz.prog Tryz.f175 [0,1,4]=some F175:=by kernel_rfl
abbrev F176.fr:=fr3
def F176.b0:IR:=(iSr [iQo 2 (.mv (.c (.bool false)))] (iSr [iSm 0,.s (.load aT1),iCa 177 [aS1,aS0],iQm 2 0] .ret))
def F176.res:List RV:=[.t (.of 2)]
def F176:Fn:={ params:=[(.of 0),(.of 1)],res:=F176.res,body:=F176.b0,init:=in3 }
theorem F176.ok:fnA Tryz.prog Tryz.f176 [0,1,3]=some F176:=by kernel_rfl
abbrev F177.fr:=fr9
def F177.b0:IR:=(iSr [iQo 2 (.mv (.c (.bool false)))] (.seq (iSr [iSm 0,.s (.len aS0),iSm 1,.s (.len aS0),iQo 4 (.bin .neq .int aS2 aS0)] (.cond aT4 (iSr [iQo 2 (.mv (.c (.bool false)))] .ret) .skip)) (.seq (iSr [iSm 0,iQo 5 (.len aS0),iQo 6 (.mv aC0)] (.block 0 (.loop (iSr [iQo 7 (.bin .lss .int aT6 aT5)] (.seq (.cond aT7 .skip (.exit 0)) (.seq (.block 1 (iSr [iSm 6,iQm 3 0] (.seq (.jh [] [(iSm 0,0,[]),(iSm 3,0,[]),(.s (.zn 1 aS1 aS0),0,[]),(.s (.load aS0),0,[]),(iSm 1,0,[]),(iSm 3,0,[]),(.s (.zn 1 aS1 aS0),0,[]),(.s (.load aS0),0,[]),(iQo 8 (.bin .neq .int aS4 aS0),0,[])]) (.cond aT8 (iSr [iQo 2 (.mv (.c (.bool false)))] .ret) .skip)))) (.reg [.s (.bin .add .int aT6 aC1),iQm 6 0]))))))) (iSr [iQo 2 (.mv (.c (.bool true)))] .ret))))
def F177.res:List RV:=[.t (.of 2)]
def F177:Fn:={ params:=[(.of 0),(.of 1)],res:=F177.res,body:=F177.b0,init:=in9 }
theorem F177.ok:fnA Tryz.prog Tryz.f177 [0,1,4,5,10,12,13,14,24]=some F177:=by kernel_rfl
abbrev F178.fr:=fr9
def F178.b0:IR:=(iSr [iWl 2 (.box aT1),iQo 3 (.mv aC0)] (.seq (iSr [iSm 0,iQo 5 (.len aS0),iQo 6 (.mv aC0)] (.block 0 (.loop (iSr [iQo 7 (.bin .lss .int aT6 aT5)] (.seq (.cond aT7 .skip (.exit 0)) (.seq (.block 1 (iSr [iSm 6,iQm 4 0] (.seq (.jh [] [(.s (.zi 2 aT2),0,[]),(iSm 0,0,[]),(iSm 4,0,[]),(.s (.zn 2 aS1 aS0),0,[]),(.s (.zi 2 aS0),0,[]),(iQo 8 (.bin .eql (.agg 2) aS4 aS0),0,[])]) (.cond aT8 (iSr [iSm 4,iQm 3 0] .ret) .skip)))) (.reg [.s (.bin .add .int aT6 aC1),iQm 6 0]))))))) (iSr [iQo 3 (.mv (.c (I (-1))))] .ret)))
def F178.res:List RV:=[.t (.of 3)]
def F178:Fn:={ params:=[(.of 0),(.of 1)],res:=F178.res,body:=F178.b0,init:=in9 }
theorem F178.ok:fnA Tryz.prog Tryz.f178 [0,1,3,4,5,7,8,9,16]=some F178:=by kernel_rfl
abbrev F179.fr:=fr3
def F179.b0:IR:=(iSr [iQo 2 (.mv (.c (.bool false)))] (iSr [iSm 0,iSm 1,iCa 108 [aS1,aS0],.s (.bin .geq .int aS0 aC0),iQm 2 0] .ret))
def F179.res:List RV:=[.t (.of 2)]
def F179:Fn:={ params:=[(.of 0),(.of 1)],res:=F179.res,body:=F179.b0,init:=in3 }
theorem F179.ok:fnA Tryz.prog Tryz.f179 [0,1,4]=some F179:=by kernel_rfl
abbrev F180.fr:=fr3
def F180.b0:IR:=(iSr [iWl 1 (.box aT0),iQo 2 (.mv (.c (.bool false)))] (iSr [.s (.zk 0 aT1),.s (.zi 2 aS0),iCa 246 [aS0],.s (.mv aS0),iPf 0 (.zk 2 aT1),iPf 1 (.zi 2 aS0),.w .push (some (aS2,false)) (.call (.c (.fn 246 (.of 246) [])) [aS0]),.s (.pick aS3 (.c (.bool true)) aS0),iQm 2 0] .ret))
def F180.res:List RV:=[.t (.of 2)]
def F180:Fn:={ params:=[(.of 0)],res:=F180.res,body:=F180.b0,init:=in3 }
theorem F180.ok:fnA Tryz.prog Tryz.f180 [0,1,2]=some F180:=by kernel_rfl
abbrev F181.fr:=fr9
def F181.b0:IR:=(iSr [iQo 1 (.mv (.c .zf))] (iSr [iSm 0,.s (.len aS0),.w .push none (.fB 1 16 [(.str [])] aS0 aS0),iQm 2 0] (.seq (iSr [iQo 5 (.mv aT0),iQo 6 (.len aT5),iQo 7 (.mv aC0)] (.block 0 (.loop (iSr [iQo 8 (.bin .lss .int aT7 aT6)] (.seq (.cond aT8 .skip (.exit 0)) (.seq (.block 1 (iSr [iSm 7,.s (.zn 4 aT5 aT7),.s (.zi 4 aS0),iWl 4 (.alloc [(I 0),.zf,(I 0),.zf]),iQm 3 2,.w .none none (.store 4 aT4 aS0)] (.reg [iSm 2,iSm 3,.s (.zi 4 aT4),iCa 97 [aS0],.s (.zn 1 aS3 aS2),.w .none none (.store 1 aS0 aS1)]))) (.reg [.s (.bin .add .int aT7 aC1),iQm 7 0]))))))) (iSr [iSm 2,iQm 1 0] .ret))))
def F181.res:List RV:=[.t (.of 1)]
def F181:Fn:={ params:=[(.of 0)],res:=F181.res,body:=F181.b0,init:=in9 }
theorem F181.ok:fnA Tryz.prog Tryz.f181 [0,2,3,4,5,9,10,11,12]=some F181:=by kernel_rfl
abbrev F182.fr:=fr3
def F182.b0:IR:=(iSr [iQo 2 (.mv (.c (.bool false)))] (iSr [iSm 0,iSm 1,iCa 247 [aS1,aS0],.s (.bin .geq .int aS0 aC0),iQm 2 0] .ret))
def F182.res:List RV:=[.t (.of 2)]
def F182:Fn:={ params:=[(.of 0),(.of 1)],res:=F182.res,body:=F182.b0,init:=in3 }
theorem F182.ok:fnA Tryz.prog Tryz.f182 [0,1,4]=some F182:=by kernel_rfl
abbrev oW.fr:=fr2
def oW.b0:IR:=(iSr [iQo 1 (.mv aC0)] (iSr [iSm 0,iCa 87 [(.c (I (-999999999))),mP,aS0],iQm 1 0] .ret))
def oW.res:List RV:=[.t (.of 1)]
def oW:Fn:={ params:=[(.of 0)],res:=oW.res,body:=oW.b0,init:=in2 }
theorem oW.ok:fnA Tryz.prog Tryz.f183 [0,2]=some oW:=by kernel_rfl
abbrev di.fr:=fr8
def di.b3:IR:=(iSr [iQo 6 (.bin .lss .int aT5 aT4)] (.seq (.cond aT6 .skip (.exit 0)) (.seq (.block 1 (iSr [iSm 5,iQm 3 0] (iSr [iSm 1,iSm 0,iSm 3,.s (.zn 1 aS1 aS0),.s (.load aS0),iWl 7 (.call aS4 [aS0])] (.cond aT7 (iSr [iSm 3,iQm 2 0] .ret) .skip)))) (.reg [.s (.bin .add .int aT5 aC1),iQm 5 0]))))
def di.b2:IR:=(.loop di.b3)
def di.g1 (X2:IR):IR:=(.block 0 X2)
def di.b1:IR:=di.g1 di.b2
def di.b8:IR:=(iSr [iQo 2 (.mv (.c (I (-1))))] .ret)
def di.b0:IR:=(iSr [iQo 2 (.mv aC0)] (.seq (iSr [iSm 0,iQo 4 (.len aS0),iQo 5 (.mv aC0)] di.b1) di.b8))
def di.res:List RV:=[.t (.of 2)]
def di:Fn:={ params:=[(.of 0),(.of 1)],res:=di.res,body:=di.b0,init:=in8 }
theorem di.ok:fnA Tryz.prog Tryz.f184 [0,1,4,5,7,8,9,16]=some di:=by kernel_rfl
abbrev oZ.fr:=fr3
def oZ.b0:IR:=(iSr [iQo 2 (.mv (.c (.bool false)))] (iSr [iSm 0,.s (.load aT1),.s (.zn 1 aS0 aC0),.s (.load aS0),.s (.bin .neq .int aS3 aS0),iQm 2 0] .ret))
def oZ.res:List RV:=[.t (.of 2)]
def oZ:Fn:={ params:=[(.of 0),(.of 1)],res:=oZ.res,body:=oZ.b0,init:=in3 }
theorem oZ.ok:fnA Tryz.prog Tryz.f185 [0,1,3]=some oZ:=by kernel_rfl
abbrev fQ.fr:=fr3
def fQ.t0:IR:=.reg [iWl 1 (.box (.t (.of 0))),iWl 2 (.alloc [(I 0),.zf,(I 0),.zf])]
def fQ.t1:IR:=.jh [] [(.s (.zi 2 (.t (.of 1))),1,[]),(iCa 187 [(.c (I 1))],0,[]),(.s (.build [(I 0),.zf,(I 0),.zf] [(0,2,(.s 1)),(2,2,(.s 0))]),0,[]),(.w .none none (.store 4 (.t (.of 2)) (.s 0)),0,[])]
def fQ.t3:IR:=.seq fQ.t0 (.seq fQ.t1 .ret)
def fQ.b0:IR:=fQ.t3
def fQ.res:List RV:=[.cell (.of 2) (some 4)]
def fQ:Fn:={ params:=[(.of 0)],res:=fQ.res,body:=fQ.b0,init:=in3 }
theorem fQ.ok:fnA Tryz.prog Tryz.f186 [0,1,2]=some fQ:=by kernel_rfl
abbrev fJ.fr:=fr2
def fJ.t0:IR:=.reg [iWl 1 (.alloc [(I 0),.zf])]
def fJ.t1:IR:=.reg [.s (.mv (.t (.of 0))),.s (.build [(I 0),.zf] [(0,1,(.s 0))]),.w .none none (.store 2 (.t (.of 1)) (.s 0))]
def fJ.t3:IR:=.seq fJ.t0 (.seq fJ.t1 .ret)
def fJ.b0:IR:=fJ.t3
def fJ.res:List RV:=[.cell (.of 1) (some 2)]
def fJ:Fn:={ params:=[(.of 0)],res:=fJ.res,body:=fJ.b0,init:=in2 }
theorem fJ.ok:fnA Tryz.prog Tryz.f187 [0,2]=some fJ:=by kernel_rfl
abbrev F188.fr:=fr18
def F188.b0:IR:=(iSr [iWl 1 (.box aT0),iQo 2 (.mv (.c (.str [])))] (.seq (iSr [.s (.zk 1 aT1),.s (.load aS0),iQo 12 (.bin .eql (.nil .sl) aS0 (.c .zf))] (.cond sF (iSr [.s (.zk 0 aT1),.s (.load aS0),iCa 248 [aS0],iQm 2 0] .ret) .skip)) (iSr [.s (.zi 2 aT1),iCa 249 [aS0],.s (.mv aS0),.s (.ext 0 aS0),.s (.ext 1 aS1),iQm 3 1,iQm 4 0] (iSr [.w .push none (.yg 1 1 [(.int .u64 0)] [(0,1,(.c (.int .u64 1000000000000000000)))]),iQm 5 0] (iSr [iQo 6 (.mv (.c .zf))] (.seq (.block 0 (.loop (.seq (iSr [iSm 4,.s (.len aS0),iQo 13 (.bin .gtr .int aS0 aC0)] (.cond aT13 .skip (.exit 0))) (.block 1 (iSr [iSm 4,iSm 5,iCa 250 [aS1,aS0],.s (.mv aS0),.s (.ext 0 aS0),.s (.ext 1 aS1),iQm 7 1,iQm 8 0] (iSr [iQo 9 (.mv (.c (.str [48])))] (.seq (iSr [iSm 8,.s (.len aS0),iQo 14 (.bin .gtr .int aS0 aC0)] (.cond aT14 (.reg [iSm 8,.s (.zn 1 aS0 aC0),.s (.load aS0),iCa 251 [aS0,aC10],iQm 9 0]) .skip)) (.seq (iSr [iSm 7,.s (.len aS0),iQo 15 (.bin .gtr .int aS0 aC0)] (.cond aT15 (.reg [iSm 9,.s (.slen aS0),.s (.bin .sub .int aC18 aS0),.w .push none (.call (.c (.fn 252 (.of 252) [])) [(.c (.str [48])),aS0]),iSm 9,.s (.bin .add .str aS1 aS0),iQm 9 0]) .skip)) (iSr [iSm 6,iSm 9,.w .push none (.yg 1 1 [(.str [])] [(0,1,aS0)]),.w .push none (.app 1 16 aS2 aS0),iQm 6 0] (.reg [iSm 7,iQm 4 0])))))))))) (iSr [iWl 10 (.alloc [.sO,.zf])] (.seq (iSr [iQo 16 (.mv aT3)] (.cond aT16 (.reg [.w .push none (.call (.c (.fn 253 (.of 253) [])) [sW,(.c (.str [45]))])]) .skip)) (.seq (iSr [iSm 6,.s (.len aS0),.s (.bin .sub .int aS0 aC1),iQm 11 0] (.block 2 (.loop (.seq (iSr [iSm 11,iQo 17 (.bin .geq .int aS0 aC0)] (.cond aT17 .skip (.exit 2))) (.seq (.block 3 (.reg [iSm 6,iSm 11,.s (.zn 1 aS1 aS0),.s (.load aS0),iCa 253 [sW,aS0]])) (.reg [iSm 11,.s (.bin .sub .int aS0 aC1),iQm 11 0])))))) (iSr [iCa 254 [sW],iQm 2 0] .ret))))))))))
def F188.res:List RV:=[.t (.of 2)]
def F188:Fn:={ params:=[(.of 0)],res:=F188.res,body:=F188.b0,init:=in18 }
theorem F188.ok:fnA Tryz.prog Tryz.f188 [0,1,2,3,4,5,6,7,8,9,10,11,14,26,35,42,54,60]=some F188:=by kernel_rfl
abbrev F192.fr:=fr5
def F192.b0:IR:=(iSr [iWl 2 (.box aT0),iWl 3 (.box aT1),iWl 4 (.alloc [(I 0),.zf,(I 0),.zf])] (.seq (.jh [] [(.s (.zi 4 aT2),1,[]),(.s (.zi 4 aT3),0,[]),(iCa 107 [aS0],0,[]),(iCa 114 [aS2,aS0],0,[]),(.w .none none (.store 4 aT4 aS0),0,[])]) .ret))
def F192.res:List RV:=[.cell (.of 4) (some 4)]
def F192:Fn:={ params:=[(.of 0),(.of 1)],res:=F192.res,body:=F192.b0,init:=in5 }
theorem F192.ok:fnA Tryz.prog Tryz.f192 [0,1,2,3,4]=some F192:=by kernel_rfl
abbrev xh.fr:=fr6
def xh.t0:IR:=.reg [iWl 1 (.box (.t (.of 0))),iWl 2 (.alloc [(I 0),.zf])]
def xh.t1:IR:=.reg [.s (.zk 1 (.t (.of 1))),.s (.load (.s 0)),.s (.bin .eql (.nil .sl) (.s 0) (.c .zf)),.s (.mv (.s 0)),.p .push (some ((.s 0),true)) (.zk 0 (.t (.of 1))),.p .push (some ((.s 1),true)) (.load (.s 0)),.p .push (some ((.s 2),true)) (.bin .neq .int (.s 0) (.c (I (-9223372036854775808)))),iQo 5 (.pick (.s 3) (.s 0) (.c (.bool false)))]
def xh.t2:IR:=.reg [.s (.zk 0 (.t (.of 1))),.s (.load (.s 0)),.s (.neg (.s 0)),.s (.build [(I 0),.zf] [(0,1,(.s 0))]),.w .none none (.store 2 (.t (.of 2)) (.s 0))]
def xh.t6:IR:=.reg [.s (.zi 2 (.t (.of 1))),iCa 249 [(.s 0)],.s (.mv (.s 0)),.s (.ext 0 (.s 0)),.s (.ext 1 (.s 1)),iQo 3 (.mv (.s 1)),iQo 4 (.mv (.s 0))]
def xh.t7:IR:=.reg [.s (.mv (.t (.of 3))),.s (.not (.s 0)),.s (.mv (.t (.of 4))),iCa 257 [(.s 1),(.s 0)],.w .none none (.store 2 (.t (.of 2)) (.s 0))]
def xh.t9:IR:=.seq xh.t6 (.seq xh.t7 .ret)
def xh.t11:IR:=.seq xh.t0 (.seq (.seq xh.t1 (.cond (.t (.of 5)) (.seq xh.t2 .ret) .skip)) xh.t9)
def xh.b0:IR:=xh.t11
def xh.res:List RV:=[.cell (.of 2) (some 2)]
def xh:Fn:={ params:=[(.of 0)],res:=xh.res,body:=xh.b0,init:=in6 }
theorem xh.ok:fnA Tryz.prog Tryz.f193 [0,1,2,3,4,12]=some xh:=by kernel_rfl
abbrev fK.fr:=fr3
def fK.t0:IR:=.reg [iWl 1 (.box (.t (.of 0))),iQo 2 (.mv (.c (I 0)))]
def fK.t1:IR:=.reg [.s (.zk 0 (.t (.of 1))),.s (.load (.s 0)),.s (.eu false (.c (I 1)) [(.s 0)]),.s (.eu true (.c (I (-1))) [(.s 0)]),iQo 2 (.mv (.s 0))]
def fK.t3:IR:=.seq fK.t0 (.seq fK.t1 .ret)
def fK.b0:IR:=fK.t3
def fK.res:List RV:=[.t (.of 2)]
def fK:Fn:={ params:=[(.of 0)],res:=fK.res,body:=fK.b0,init:=in3 }
theorem fK.ok:fnA Tryz.prog Tryz.f194 [0,1,2]=some fK:=by kernel_rfl
abbrev F195.fr:=fr8
def F195.b0:IR:=(iSr [iWl 2 (.box aT0),iWl 3 (.box aT1),iWl 4 (.alloc [(I 0),.zf,(I 0),.zf])] (.seq (iSr [.s (.zi 2 aT3),iCa 194 [aS0],iQo 6 (.bin .lss .int aS0 aC0)] (.cond aT6 (.jh [] [(.s (.zi 2 aT2),0,[]),(.s (.zi 2 aT3),1,[]),(iCa 193 [aS1],0,[]),(iCa 193 [aS1],0,[]),(.w .none none (.store 2 aT2 aS1),0,[]),(.w .none none (.store 2 aT3 aS0),0,[])]) .skip)) (.seq (iSr [.s (.zk 1 aT3),.s (.load aS0),.s (.bin .eql (.nil .sl) aS0 (.c .zf)),.s (.mv aS0),iPt 0 (.zk 0 aT3),iPt 1 (.load aS0),iPt 2 (.bin .eql .int aS0 aC1),iQo 7 (.pick aS3 aS0 (.c (.bool false)))] (.cond aT7 (iSr [.s (.zi 2 aT2),.s (.zi 2 aT3),.s (.build [(I 0),.zf,(I 0),.zf] [(0,2,aS1),(2,2,aS0)]),.w .none none (.store 4 aT4 aS0)] .ret) .skip)) (iSr [.s (.zi 2 aT2),.s (.zi 2 aT3),iCa 258 [aS1,aS0],iWl 5 (.alloc [(I 0),.zf]),.w .none none (.store 2 aT5 aS0)] (.seq (.jh [] [(.s (.zi 2 aT2),0,[]),(.s (.zi 2 aT5),0,[]),(.s (.zi 2 aT3),1,[]),(.s (.zi 2 aT5),1,[]),(iCa 259 [aS3,aS2],0,[]),(iCa 259 [aS2,aS1],0,[]),(.s (.build [(I 0),.zf,(I 0),.zf] [(0,2,aS1),(2,2,aS0)]),0,[]),(.w .none none (.store 4 aT4 aS0),0,[])]) .ret)))))
def F195.res:List RV:=[.cell (.of 4) (some 4)]
def F195:Fn:={ params:=[(.of 0),(.of 1)],res:=F195.res,body:=F195.b0,init:=in8 }
theorem F195.ok:fnA Tryz.prog Tryz.f195 [0,1,2,3,4,5,8,20]=some F195:=by kernel_rfl
abbrev jr.fr:=fr14
def jr.t0:IR:=.reg [iWl 2 (.box (.t (.of 0))),iWl 3 (.box (.t (.of 1))),iWl 4 (.alloc [(I 0),.zf])]
def jr.t1:IR:=.reg [.s (.zk 1 (.t (.of 2))),.s (.load (.s 0)),.s (.bin .eql (.nil .sl) (.s 0) (.c .zf)),.s (.mv (.s 0)),.p .push (some ((.s 0),true)) (.zk 1 (.t (.of 3))),.p .push (some ((.s 1),true)) (.load (.s 0)),.p .push (some ((.s 2),true)) (.bin .eql (.nil .sl) (.s 0) (.c .zf)),iQo 10 (.pick (.s 3) (.s 0) (.c (.bool false)))]
def jr.t2:IR:=.reg [.s (.zk 0 (.t (.of 2))),.s (.load (.s 0)),.s (.zk 0 (.t (.of 3))),.s (.load (.s 0)),.s (.bin .add .int (.s 2) (.s 0)),iQo 5 (.mv (.s 0))]
def jr.t3:IR:=.reg [.s (.mv (.t (.of 5))),.s (.zk 0 (.t (.of 2))),.s (.load (.s 0)),.s (.bin .gtr .int (.s 2) (.s 0)),.s (.zk 0 (.t (.of 3))),.s (.load (.s 0)),.s (.bin .gtr .int (.s 0) (.c (I 0))),iQo 11 (.bin .eql .bool (.s 3) (.s 0))]
def jr.t4:IR:=.reg [.s (.mv (.t (.of 5))),.s (.build [(I 0),.zf] [(0,1,(.s 0))]),.w .none none (.store 2 (.t (.of 4)) (.s 0))]
def jr.t11:IR:=.reg [.s (.zi 2 (.t (.of 2))),iCa 249 [(.s 0)],.s (.mv (.s 0)),.s (.ext 0 (.s 0)),.s (.ext 1 (.s 1)),iQo 6 (.mv (.s 1)),iQo 7 (.mv (.s 0))]
def jr.t12:IR:=.reg [.s (.zi 2 (.t (.of 3))),iCa 249 [(.s 0)],.s (.mv (.s 0)),.s (.ext 0 (.s 0)),.s (.ext 1 (.s 1)),iQo 8 (.mv (.s 1)),iQo 9 (.mv (.s 0))]
def jr.t13:IR:=.reg [.s (.mv (.t (.of 6))),.s (.mv (.t (.of 8))),.s (.bin .eql .bool (.s 1) (.s 0)),iQo 12 (.mv (.s 0))]
def jr.t14:IR:=.reg [.s (.mv (.t (.of 6))),.s (.mv (.t (.of 7))),.s (.mv (.t (.of 9))),iCa 260 [(.s 1),(.s 0)],iCa 257 [(.s 3),(.s 0)],.w .none none (.store 2 (.t (.of 4)) (.s 0))]
def jr.t16:IR:=.reg [.s (.mv (.t (.of 7))),.s (.mv (.t (.of 9))),iCa 261 [(.s 1),(.s 0)],.s (.bin .geq .int (.s 0) (.c (I 0))),iQo 13 (.mv (.s 0))]
def jr.t17:IR:=.reg [.s (.mv (.t (.of 6))),.s (.mv (.t (.of 7))),.s (.mv (.t (.of 9))),iCa 262 [(.s 1),(.s 0)],iCa 257 [(.s 3),(.s 0)],.w .none none (.store 2 (.t (.of 4)) (.s 0))]
def jr.t24:IR:=.reg [.s (.mv (.t (.of 8))),.s (.mv (.t (.of 9))),.s (.mv (.t (.of 7))),iCa 262 [(.s 1),(.s 0)],iCa 257 [(.s 3),(.s 0)],.w .none none (.store 2 (.t (.of 4)) (.s 0))]
def jr.t28:IR:=.seq jr.t11 (.seq jr.t12 (.seq (.block 0 (.seq jr.t13 (.cond (.t (.of 12)) (.seq jr.t14 .ret) (.seq jr.t16 (.cond (.t (.of 13)) (.seq jr.t17 .ret) .skip))))) (.seq jr.t24 .ret)))
def jr.t30:IR:=.seq jr.t0 (.seq (.seq jr.t1 (.cond (.t (.of 10)) (.seq jr.t2 (.seq jr.t3 (.cond (.t (.of 11)) (.seq jr.t4 .ret) .skip))) .skip)) jr.t28)
def jr.b0:IR:=jr.t30
def jr.res:List RV:=[.cell (.of 4) (some 2)]
def jr:Fn:={ params:=[(.of 0),(.of 1)],res:=jr.res,body:=jr.b0,init:=in14 }
theorem jr.ok:fnA Tryz.prog Tryz.f197 [0,1,2,3,4,5,6,7,8,9,17,30,43,52]=some jr:=by kernel_rfl
abbrev uf.fr:=fr14
def uf.t0:IR:=.reg [iWl 2 (.box (.t (.of 0))),iWl 3 (.box (.t (.of 1))),iWl 4 (.alloc [(I 0),.zf])]
def uf.t1:IR:=.reg [.s (.zk 1 (.t (.of 2))),.s (.load (.s 0)),.s (.bin .eql (.nil .sl) (.s 0) (.c .zf)),.s (.mv (.s 0)),.p .push (some ((.s 0),true)) (.zk 1 (.t (.of 3))),.p .push (some ((.s 1),true)) (.load (.s 0)),.p .push (some ((.s 2),true)) (.bin .eql (.nil .sl) (.s 0) (.c .zf)),iQo 11 (.pick (.s 3) (.s 0) (.c (.bool false)))]
def uf.t2:IR:=.jh [] [(.s (.zk 0 (.t (.of 2))),0,[]),(.s (.load (.s 0)),0,[]),(.s (.zk 0 (.t (.of 3))),1,[]),(.s (.load (.s 0)),1,[]),(iCa 264 [(.s 2)],0,[]),(iCa 264 [(.s 1)],0,[]),(iCa 263 [(.s 1),(.s 0)],0,[]),(.s (.mv (.s 0)),0,[]),(.s (.ext 0 (.s 0)),0,[]),(.s (.ext 1 (.s 1)),0,[]),(iQo 5 (.mv (.s 1)),0,[]),(iQo 6 (.mv (.s 0)),0,[])]
def uf.t3:IR:=.reg [.s (.mv (.t (.of 5))),.s (.bin .eql .int (.s 0) (.c (.int .u64 0))),.s (.mv (.s 0)),.p .push (some ((.s 0),true)) (.mv (.t (.of 6))),.p .push (some ((.s 1),true)) (.bin .leq .int (.s 0) (.c (.int .u64 9223372036854775807))),iQo 12 (.pick (.s 2) (.s 0) (.c (.bool false)))]
def uf.t4:IR:=.reg [.s (.zk 0 (.t (.of 2))),.s (.load (.s 0)),.s (.bin .lss .int (.s 0) (.c (I 0))),.s (.zk 0 (.t (.of 3))),.s (.load (.s 0)),.s (.bin .lss .int (.s 0) (.c (I 0))),iQo 13 (.bin .neq .bool (.s 3) (.s 0))]
def uf.t5:IR:=.reg [.s (.mv (.t (.of 6))),.s (.conv .i64 (.s 0)),.s (.neg (.s 0)),.s (.build [(I 0),.zf] [(0,1,(.s 0))]),.w .none none (.store 2 (.t (.of 4)) (.s 0))]
def uf.t9:IR:=.reg [.s (.mv (.t (.of 6))),.s (.conv .i64 (.s 0)),.s (.build [(I 0),.zf] [(0,1,(.s 0))]),.w .none none (.store 2 (.t (.of 4)) (.s 0))]
def uf.t17:IR:=.reg [.s (.zi 2 (.t (.of 2))),iCa 249 [(.s 0)],.s (.mv (.s 0)),.s (.ext 0 (.s 0)),.s (.ext 1 (.s 1)),iQo 7 (.mv (.s 1)),iQo 8 (.mv (.s 0))]
def uf.t18:IR:=.reg [.s (.zi 2 (.t (.of 3))),iCa 249 [(.s 0)],.s (.mv (.s 0)),.s (.ext 0 (.s 0)),.s (.ext 1 (.s 1)),iQo 9 (.mv (.s 1)),iQo 10 (.mv (.s 0))]
def uf.t19:IR:=.reg [.s (.mv (.t (.of 7))),.s (.mv (.t (.of 9))),.s (.bin .neq .bool (.s 1) (.s 0)),.s (.mv (.t (.of 8))),.s (.mv (.t (.of 10))),iCa 265 [(.s 1),(.s 0)],iCa 257 [(.s 3),(.s 0)],.w .none none (.store 2 (.t (.of 4)) (.s 0))]
def uf.t22:IR:=.seq uf.t17 (.seq uf.t18 (.seq uf.t19 .ret))
def uf.t24:IR:=.seq uf.t0 (.seq (.seq uf.t1 (.cond (.t (.of 11)) (.seq uf.t2 (.seq uf.t3 (.cond (.t (.of 12)) (.seq (.seq uf.t4 (.cond (.t (.of 13)) (.seq uf.t5 .ret) .skip)) (.seq uf.t9 .ret)) .skip))) .skip)) uf.t22)
def uf.b0:IR:=uf.t24
def uf.res:List RV:=[.cell (.of 4) (some 2)]
def uf:Fn:={ params:=[(.of 0),(.of 1)],res:=uf.res,body:=uf.b0,init:=in14 }
theorem uf.ok:fnA Tryz.prog Tryz.f198 [0,1,2,3,4,5,6,7,8,9,10,18,34,41]=some uf:=by kernel_rfl
abbrev F199.fr:=fr8
def F199.b0:IR:=(iSr [iQo 2 (.mv aC0)] (.seq (iSr [iSm 0,iQo 4 (.len aS0),iQo 5 (.mv aC0)] (.block 0 (.loop (iSr [iQo 6 (.bin .lss .int aT5 aT4)] (.seq (.cond aT6 .skip (.exit 0)) (.seq (.block 1 (iSr [iSm 5,iQm 3 0] (iSr [iSm 1,iSm 0,iSm 3,.s (.zn 8 aS1 aS0),.s (.zi 8 aS0),iWl 7 (.call aS4 [aS0])] (.cond aT7 (iSr [iSm 3,iQm 2 0] .ret) .skip)))) (.reg [.s (.bin .add .int aT5 aC1),iQm 5 0]))))))) (iSr [iQo 2 (.mv (.c (I (-1))))] .ret)))
def F199.res:List RV:=[.t (.of 2)]
def F199:Fn:={ params:=[(.of 0),(.of 1)],res:=F199.res,body:=F199.b0,init:=in8 }
theorem F199.ok:fnA Tryz.prog Tryz.f199 [0,1,4,5,7,8,9,16]=some F199:=by kernel_rfl
abbrev F200.fr:=fr5
def F200.b0:IR:=(iSr [iWl 2 (.box aT0),iWl 3 (.box aT1),iQo 4 (.mv aC0)] (.seq (.jh [] [(.s (.zk 0 aT2),0,[]),(.s (.zi 2 aS0),0,[]),(.s (.zk 2 aT3),0,[]),(.s (.zi 2 aS0),0,[]),(.s (.zk 0 aT3),1,[]),(.s (.zi 2 aS0),1,[]),(.s (.zk 2 aT2),1,[]),(.s (.zi 2 aS0),1,[]),(iCa 198 [aS6,aS4],0,[]),(iCa 198 [aS3,aS1],0,[]),(iCa 229 [aS1,aS0],0,[]),(iQm 4 0,0,[])]) .ret))
def F200.res:List RV:=[.t (.of 4)]
def F200:Fn:={ params:=[(.of 0),(.of 1)],res:=F200.res,body:=F200.b0,init:=in5 }
theorem F200.ok:fnA Tryz.prog Tryz.f200 [0,1,2,3,4]=some F200:=by kernel_rfl
abbrev F201.fr:=fr18
def F201.b0:IR:=(iSr [iWl 2 (.box aT0),iWl 3 (.box aT1),iWl 4 (.alloc [(I 0),.zf]),iWl 5 (.alloc [(I 0),.zf])] (.seq (iSr [.s (.zk 1 aT2),.s (.load aS0),.s (.bin .eql (.nil .sl) aS0 (.c .zf)),.s (.mv aS0),iPt 0 (.zk 1 aT3),iPt 1 (.load aS0),iPt 2 (.bin .eql (.nil .sl) aS0 (.c .zf)),.s (.pick aS3 aS0 (.c (.bool false))),.s (.mv aS0),iPt 0 (.zk 0 aT2),iPt 1 (.load aS0),iPt 2 (.bin .neq .int aS0 (.c (I (-9223372036854775808)))),iQo 15 (.pick aS3 aS0 (.c (.bool false)))] (.cond aT15 (.seq (.jh [] [(.s (.zk 0 aT2),0,[]),(.s (.load aS0),0,[]),(.s (.zk 0 aT3),0,[]),(.s (.load aS0),0,[]),(.s (.bin .quo .int aS2 aS0),0,[]),(.s (.zk 0 aT2),0,[]),(.s (.load aS0),0,[]),(.s (.zk 0 aT3),0,[]),(.s (.load aS0),0,[]),(.s (.bin .rem .int aS2 aS0),0,[]),(iQm 6 5,0,[]),(iQm 7 0,0,[])]) (.seq (iSr [iSm 7,iQo 16 (.bin .lss .int aS0 aC0)] (.cond aT16 (.jh [] [(iSm 6,0,[]),(.s (.bin .sub .int aS0 aC1),0,[]),(iSm 7,0,[]),(.s (.zk 0 aT3),0,[]),(.s (.load aS0),0,[]),(.s (.bin .add .int aS2 aS0),0,[]),(iQm 6 4,0,[]),(iQm 7 0,0,[])]) .skip)) (iSr [iSm 6,.s (.build [(I 0),.zf] [(0,1,aS0)]),iSm 7,.s (.build [(I 0),.zf] [(0,1,aS0)]),.w .none none (.store 2 aT4 aS2),.w .none none (.store 2 aT5 aS0)] .ret))) .skip)) (iSr [.s (.zi 2 aT2),iCa 249 [aS0],.s (.mv aS0),.s (.ext 0 aS0),.s (.ext 1 aS1),iQm 8 1,iQm 9 0] (iSr [.s (.zi 2 aT3),iCa 249 [aS0],.s (.mv aS0),.s (.ext 0 aS0),.s (.ext 1 aS1),.s (.mv aS1),iQm 10 1] (iSr [iSm 9,iSm 10,iCa 250 [aS1,aS0],.s (.mv aS0),.s (.ext 0 aS0),.s (.ext 1 aS1),iQm 11 1,iQm 12 0] (iSr [iSm 8,iSm 11,iCa 257 [aS1,aS0],iSm 8,iSm 12,iCa 257 [aS1,aS0],iWl 13 (.alloc [(I 0),.zf]),iWl 14 (.alloc [(I 0),.zf]),.w .none none (.store 2 aT13 aS3),.w .none none (.store 2 aT14 aS0)] (.seq (iSr [.s (.zi 2 aT14),iCa 194 [aS0],iQo 17 (.bin .lss .int aS0 aC0)] (.cond aT17 (.jh [] [(.s (.zi 2 aT13),1,[]),(.s (.zi 2 aT14),2,[]),(.s (.zi 2 aT3),2,[]),(iCa 187 [aC1],0,[]),(iCa 266 [aS3,aS0],0,[]),(iCa 197 [aS3,aS2],0,[]),(.w .none none (.store 2 aT13 aS1),0,[]),(.w .none none (.store 2 aT14 aS0),0,[])]) .skip)) (.seq (.jh [] [(.s (.zi 2 aT13),0,[]),(.s (.zi 2 aT14),1,[]),(.w .none none (.store 2 aT4 aS1),0,[]),(.w .none none (.store 2 aT5 aS0),0,[])]) .ret))))))))
def F201.res:List RV:=[.cell (.of 4) (some 2),.cell (.of 5) (some 2)]
def F201:Fn:={ params:=[(.of 0),(.of 1)],res:=F201.res,body:=F201.b0,init:=in18 }
theorem F201.ok:fnA Tryz.prog Tryz.f201 [0,1,2,3,4,5,6,7,8,9,11,12,13,14,15,28,40,75]=some F201:=by kernel_rfl
abbrev gy.fr:=fr6
def gy.t0:IR:=.reg [iWl 1 (.alloc [(.bool false),.zf])]
def gy.t1:IR:=.reg [.s (.mv (.t (.of 0))),.s (.slen (.s 0)),.s (.bin .gtr .int (.s 0) (.c (I 0))),.s (.mv (.s 0)),.p .push (some ((.s 0),true)) (.mv (.t (.of 0))),.p .push (some ((.s 1),true)) (.tJ (.s 0) (.c (I 0))),.p .push (some ((.s 2),true)) (.bin .eql .int (.s 0) (.c (.int .u8 45))),.s (.pick (.s 3) (.s 0) (.c (.bool false))),iQo 2 (.mv (.s 0))]
def gy.t2:IR:=.reg [iQo 4 (.mv (.t (.of 2)))]
def gy.t3:IR:=.reg [.s (.mv (.t (.of 0))),.s (.rC (.s 0) (some (.c (I 1))) none),iQo 0 (.mv (.s 0))]
def gy.t6:IR:=.reg [iQo 3 (.mv (.c .zf))]
def gy.t7:IR:=.reg [.s (.mv (.t (.of 0))),.s (.slen (.s 0)),iQo 5 (.bin .gtr .int (.s 0) (.c (I 9)))]
def gy.t10:IR:=.reg [.s (.mv (.t (.of 3))),.s (.mv (.t (.of 0))),.s (.mv (.t (.of 0))),.s (.slen (.s 0)),.s (.bin .sub .int (.s 0) (.c (I 9))),.s (.rC (.s 3) (some (.s 0)) none),iCa 209 [(.s 0)],.w .push none (.yg 1 1 [(I 0)] [(0,1,(.s 0))]),.w .push none (.app 1 8 (.s 7) (.s 0)),iQo 3 (.mv (.s 0))]
def gy.t11:IR:=.reg [.s (.mv (.t (.of 0))),.s (.mv (.t (.of 0))),.s (.slen (.s 0)),.s (.bin .sub .int (.s 0) (.c (I 9))),.s (.rC (.s 3) none (some (.s 0))),iQo 0 (.mv (.s 0))]
def gy.t14:IR:=.seq (.seq gy.t7 (.cond (.t (.of 5)) .skip (.exit 0))) (.block 1 (.seq gy.t10 gy.t11))
def gy.t15:IR:=.loop gy.t14
def gy.t17:IR:=.reg [.s (.mv (.t (.of 2))),.s (.mv (.t (.of 3))),.s (.mv (.t (.of 0))),iCa 209 [(.s 0)],.w .push none (.yg 1 1 [(I 0)] [(0,1,(.s 0))]),.w .push none (.app 1 8 (.s 3) (.s 0)),iCa 214 [(.s 5),(.s 0)],.w .none none (.store 2 (.t (.of 1)) (.s 0))]
def gy.t20:IR:=.seq gy.t6 (.seq (.block 0 gy.t15) (.seq gy.t17 .ret))
def gy.t23:IR:=.seq gy.t0 (.seq gy.t1 (.seq (.seq gy.t2 (.cond (.t (.of 4)) gy.t3 .skip)) gy.t20))
def gy.b0:IR:=gy.t23
def gy.res:List RV:=[.cell (.of 1) (some 2)]
def gy:Fn:={ params:=[(.of 0)],res:=gy.res,body:=gy.b0,init:=in6 }
theorem gy.ok:fnA Tryz.prog Tryz.f205 [0,2,3,4,13,18]=some gy:=by kernel_rfl
abbrev kz.fr:=fr5
def kz.t0:IR:=.reg [iQo 1 (.mv (.c (I 0)))]
def kz.t1:IR:=.reg [iQo 2 (.mv (.c (I 0)))]
def kz.t2:IR:=.reg [.s (.mv (.t (.of 2))),.s (.mv (.t (.of 0))),.s (.slen (.s 0)),iQo 3 (.bin .lss .int (.s 2) (.s 0))]
def kz.t5:IR:=.reg [.s (.mv (.t (.of 0))),.s (.mv (.t (.of 2))),.s (.tJ (.s 1) (.s 0)),iQo 4 (.bin .eql .int (.s 0) (.c (.int .u8 47)))]
def kz.t6:IR:=.reg [.s (.mv (.t (.of 2))),iQo 1 (.mv (.s 0))]
def kz.t11:IR:=.reg [.s (.mv (.t (.of 2))),.s (.bin .add .int (.s 0) (.c (I 1))),iQo 2 (.mv (.s 0))]
def kz.t13:IR:=.seq (.seq kz.t2 (.cond (.t (.of 3)) .skip (.exit 0))) (.seq (.block 1 (.seq kz.t5 (.cond (.t (.of 4)) (.seq kz.t6 .ret) .skip))) kz.t11)
def kz.t14:IR:=.loop kz.t13
def kz.t17:IR:=.reg [.s (.mv (.t (.of 0))),.s (.slen (.s 0)),iQo 1 (.mv (.s 0))]
def kz.t20:IR:=.seq kz.t0 (.seq (.seq kz.t1 (.block 0 kz.t14)) (.seq kz.t17 .ret))
def kz.b0:IR:=kz.t20
def kz.res:List RV:=[.t (.of 1)]
def kz:Fn:={ params:=[(.of 0)],res:=kz.res,body:=kz.b0,init:=in5 }
theorem kz.ok:fnA Tryz.prog Tryz.f206 [0,2,3,7,13]=some kz:=by kernel_rfl
abbrev qw.fr:=fr5
def qw.t0:IR:=.reg [iQo 2 (.mv (.c .zf))]
def qw.t1:IR:=.reg [.s (.mv (.t (.of 1))),.s (.len (.s 0)),iQo 4 (.bin .gtr .int (.s 0) (.c (I 0)))]
def qw.t4:IR:=.reg [.s (.mv (.t (.of 0))),.s (.mv (.t (.of 1))),iCa 213 [(.s 1),(.s 0)],.s (.mv (.s 0)),.s (.ext 0 (.s 0)),.s (.ext 1 (.s 1)),.s (.mv (.s 1)),iQo 3 (.mv (.s 1))]
def qw.t5:IR:=.reg [.s (.mv (.t (.of 1))),.s (.mv (.t (.of 3))),iQo 0 (.mv (.s 1)),iQo 1 (.mv (.s 0))]
def qw.t8:IR:=.seq (.seq qw.t1 (.cond (.t (.of 4)) .skip (.exit 0))) (.block 1 (.seq qw.t4 qw.t5))
def qw.t9:IR:=.loop qw.t8
def qw.t11:IR:=.reg [.s (.mv (.t (.of 0))),iQo 2 (.mv (.s 0))]
def qw.t14:IR:=.seq qw.t0 (.seq (.block 0 qw.t9) (.seq qw.t11 .ret))
def qw.b0:IR:=qw.t14
def qw.res:List RV:=[.t (.of 2)]
def qw:Fn:={ params:=[(.of 0),(.of 1)],res:=qw.res,body:=qw.b0,init:=in5 }
theorem qw.ok:fnA Tryz.prog Tryz.f208 [0,1,4,6,9]=some qw:=by kernel_rfl
abbrev qh.fr:=fr5
def qh.t0:IR:=.reg [iQo 1 (.mv (.c (I 0)))]
def qh.t1:IR:=.reg [iQo 2 (.mv (.c (I 0)))]
def qh.t2:IR:=.reg [iQo 3 (.mv (.c (I 0)))]
def qh.t3:IR:=.reg [.s (.mv (.t (.of 3))),.s (.mv (.t (.of 0))),.s (.slen (.s 0)),iQo 4 (.bin .lss .int (.s 2) (.s 0))]
def qh.t6:IR:=.reg [.s (.mv (.t (.of 2))),.s (.bin .mul .int (.c (I 10)) (.s 0)),.s (.mv (.t (.of 0))),.s (.mv (.t (.of 3))),.s (.tJ (.s 1) (.s 0)),.s (.conv .i64 (.s 0)),.s (.bin .add .int (.s 4) (.s 0)),.s (.bin .sub .int (.s 0) (.c (I 48))),iQo 2 (.mv (.s 0))]
def qh.t8:IR:=.reg [.s (.mv (.t (.of 3))),.s (.bin .add .int (.s 0) (.c (I 1))),iQo 3 (.mv (.s 0))]
def qh.t10:IR:=.seq (.seq qh.t3 (.cond (.t (.of 4)) .skip (.exit 0))) (.seq (.block 1 qh.t6) qh.t8)
def qh.t11:IR:=.loop qh.t10
def qh.t14:IR:=.reg [.s (.mv (.t (.of 2))),iQo 1 (.mv (.s 0))]
def qh.t18:IR:=.seq qh.t0 (.seq qh.t1 (.seq (.seq qh.t2 (.block 0 qh.t11)) (.seq qh.t14 .ret)))
def qh.b0:IR:=qh.t18
def qh.res:List RV:=[.t (.of 1)]
def qh:Fn:={ params:=[(.of 0)],res:=qh.res,body:=qh.b0,init:=in5 }
theorem qh.ok:fnA Tryz.prog Tryz.f209 [0,2,3,4,8]=some qh:=by kernel_rfl
abbrev xq.fr:=fr4
def xq.t0:IR:=.reg [iQo 2 (.mv (.c (I 0)))]
def xq.t1:IR:=.reg [.s (.mv (.t (.of 1))),iQo 3 (.bin .gtr .int (.s 0) (.c (I 0)))]
def xq.t4:IR:=.jh [] [(.s (.mv (.t (.of 1))),0,[]),(.s (.mv (.t (.of 0))),0,[]),(.s (.mv (.t (.of 1))),0,[]),(.s (.bin .rem .int (.s 1) (.s 0)),0,[]),(iQo 0 (.mv (.s 3)),0,[]),(iQo 1 (.mv (.s 0)),0,[])]
def xq.t6:IR:=.seq (.seq xq.t1 (.cond (.t (.of 3)) .skip (.exit 0))) (.block 1 xq.t4)
def xq.t7:IR:=.loop xq.t6
def xq.t9:IR:=.reg [.s (.mv (.t (.of 0))),iQo 2 (.mv (.s 0))]
def xq.t12:IR:=.seq xq.t0 (.seq (.block 0 xq.t7) (.seq xq.t9 .ret))
def xq.b0:IR:=xq.t12
def xq.res:List RV:=[.t (.of 2)]
def xq:Fn:={ params:=[(.of 0),(.of 1)],res:=xq.res,body:=xq.b0,init:=in4 }
theorem xq.ok:fnA Tryz.prog Tryz.f210 [0,1,4,6]=some xq:=by kernel_rfl
abbrev ug.fr:=fr5
def ug.t0:IR:=.reg [iQo 2 (.mv (.c (.str [])))]
def ug.t1:IR:=.reg [iQo 3 (.mv (.c (.str [])))]
def ug.aS (r:List RO):List RO:=.s (.mv (.t (.of 0)))::.s (.bin .gtr .int (.s 0) (.c (I 0)))::.s (.mv (.s 0))::.p .push (some ((.s 0),false)) (.mv (.t (.of 3)))::.p .push (some ((.s 1),false)) (.slen (.s 0))::.p .push (some ((.s 2),false)) (.mv (.t (.of 1)))::.p .push (some ((.s 3),false)) (.bin .lss .int (.s 1) (.s 0))::iQo 4 (.pick (.s 4) (.c (.bool true)) (.s 0))::r
def ug.oL:List RO:=ug.aS []
def ug.t2:IR:=.reg ug.oL
def ug.t3:IR:=.cond (.t (.of 4)) .skip (.exit 0)
def ug.t5:IR:=.reg [.s (.mv (.t (.of 0))),.s (.bin .rem .int (.s 0) (.c (I 10))),.s (.mv (.t (.of 0))),.s (.bin .rem .int (.s 0) (.c (I 10))),.s (.bin .add .int (.s 0) (.c (I 1))),.s (.rC (.c (.str [48,49,50,51,52,53,54,55,56,57])) (some (.s 3)) (some (.s 0))),.s (.mv (.t (.of 3))),.s (.bin .add .str (.s 1) (.s 0)),iQo 3 (.mv (.s 0))]
def ug.t6:IR:=.reg [.s (.mv (.t (.of 0))),.s (.bin .quo .int (.s 0) (.c (I 10))),iQo 0 (.mv (.s 0))]
def ug.t8:IR:=.block 1 (.seq ug.t5 ug.t6)
def ug.t9:IR:=.seq (.seq ug.t2 ug.t3) ug.t8
def ug.t10:IR:=.loop ug.t9
def ug.t12:IR:=.reg [.s (.mv (.t (.of 3))),iQo 2 (.mv (.s 0))]
def ug.t13:IR:=.seq ug.t12 .ret
def ug.t16:IR:=.seq ug.t0 (.seq ug.t1 (.seq (.block 0 ug.t10) ug.t13))
def ug.b0:IR:=ug.t16
def ug.res:List RV:=[.t (.of 2)]
def ug:Fn:={ params:=[(.of 0),(.of 1)],res:=ug.res,body:=ug.b0,init:=in5 }
theorem ug.ok:fnA Tryz.prog Tryz.f211 [0,1,4,5,13]=some ug:=by kernel_rfl
abbrev fO.fr:=fr3
def fO.t0:IR:=.reg [iWl 1 (.box (.t (.of 0))),iWl 2 (.alloc [(.bool false),.zf])]
def fO.t1:IR:=.reg [.s (.zk 0 (.t (.of 1))),.s (.load (.s 0)),.s (.not (.s 0)),.s (.zk 1 (.t (.of 1))),.s (.load (.s 0)),iCa 214 [(.s 2),(.s 0)],.w .none none (.store 2 (.t (.of 2)) (.s 0))]
def fO.t3:IR:=.seq fO.t0 (.seq fO.t1 .ret)
def fO.b0:IR:=fO.t3
def fO.res:List RV:=[.cell (.of 2) (some 2)]
def fO:Fn:={ params:=[(.of 0)],res:=fO.res,body:=fO.b0,init:=in3 }
theorem fO.ok:fnA Tryz.prog Tryz.f212 [0,1,2]=some fO:=by kernel_rfl
end
end Go.Ev
