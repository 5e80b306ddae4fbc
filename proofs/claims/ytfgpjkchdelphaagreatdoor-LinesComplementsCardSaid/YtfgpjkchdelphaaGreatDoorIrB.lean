import Derived.Test.YtfgpjkchdelphaaGreatDoorIrA
import Derived.Test.YtfgpjkchdelphaaGreatDoorEvC
import Derived.Test.YtfgpjkchdelphaaGreatDoorProg
import Derived.KernelRfl
set_option linter.unusedSimpArgs false
set_option linter.unusedVariables false
namespace Go.Ev
open Go Go.Proofs
set_option maxRecDepth 100000
noncomputable section

abbrev F109.fr:=fr3
def F109.b0:IR:=(iSr [iWl 1 (.box aT0),iQo 2 (.mv (.c (.bool false)))] (iSr [.s (.zk 4 aT1),iCa 110 [aS0],.s (.bin .neq .int aS0 aC0),iQm 2 0] .ret))
def F109.res:List RV:=[.t (.of 2)]
def F109:Fn:={ params:=[(.of 0)],res:=F109.res,body:=F109.b0,init:=in3 }
theorem F109.ok:fnA Tryz.prog Tryz.f109 [0,1,2]=some F109:=by kernel_rfl
abbrev bY.fr:=fr3
def bY.t0:IR:=.reg [iWl 1 (.box aT0),iQo 2 (.mv aC0)]
def bY.t1:IR:=.reg [.s (.zu 0 aT1),.s (.zk 2 aS0),iCa 194 [aS0],iQm 2 0]
def bY.t3:IR:=.seq bY.t0 (.seq bY.t1 .ret)
def bY.b0:IR:=bY.t3
def bY.res:List RV:=[.t (.of 2)]
def bY:Fn:={ params:=[(.of 0)],res:=bY.res,body:=bY.b0,init:=in3 }
theorem bY.ok:fnA Tryz.prog Tryz.f110 [0,1,2]=some bY:=by kernel_rfl
abbrev uf.fr:=fr10
def uf.t0:IR:=.reg [iWl 2 (.box aT1)]
def uf.t1:IR:=.reg [iQo 5 (.mv aT0),iQo 6 (.len aT5),iQo 7 (.mv aC0)]
def uf.t2:IR:=.reg [iQo 8 (.bin .lss .int aT7 aT6)]
def uf.t4:IR:=.reg [iSm 7,.s (.zx 4 aT5 aT7),.s (.zk 4 aS0),iWl 4 (.alloc [(I 0),.zf,(I 0),.zf]),iQm 3 2,.w .none none (.store 4 aT4 aS0)]
def uf.t5:IR:=.reg [.s (.zk 4 aT4),iCa 110 [aS0],iQo 9 (.bin .neq .int aS0 aC0)]
def uf.t6:IR:=.reg [iSm 0,iSm 3,.s (.zk 4 aT4),.s (.zk 4 aT2),iCa 119 [aS1,aS0],.s (.zx 4 aS4 aS3),.w .none none (.store 4 aS0 aS1)]
def uf.t11:IR:=.reg [.s (.bin .add .int aT7 aC1),iQm 7 0]
def uf.t14:IR:=.seq uf.t2 (.seq (.cond aT8 .skip (.exit 0)) (.seq (.block 1 (.seq uf.t4 (.seq uf.t5 (.cond aT9 uf.t6 .skip)))) uf.t11))
def uf.t15:IR:=.loop uf.t14
def uf.t18:IR:=.seq uf.t0 (.seq uf.t1 (.block 0 uf.t15))
def uf.b0:IR:=uf.t18
def uf.res:List RV:=[]
def uf:Fn:={ params:=[(.of 0),(.of 1)],res:=uf.res,body:=uf.b0,init:=in10 }
theorem uf.ok:fnA Tryz.prog Tryz.f111 [0,1,3,4,5,6,7,8,9,15]=some uf:=by kernel_rfl
abbrev cu.fr:=fr3
def cu.t0:IR:=.reg [iWl 1 (.box aT0),iWl 2 (.alloc [(I 0),.zf,(I 0),.zf])]
def cu.t1:IR:=.reg [.s (.zu 2 aT1),.s (.zk 2 aS0),.s (.zu 0 aT1),.s (.zk 2 aS0),iCa 195 [aS2,aS0],.w .none none (.store 4 aT2 aS0)]
def cu.t3:IR:=.seq cu.t0 (.seq cu.t1 .ret)
def cu.b0:IR:=cu.t3
def cu.res:List RV:=[.cell (.of 2) (some 4)]
def cu:Fn:={ params:=[(.of 0)],res:=cu.res,body:=cu.b0,init:=in3 }
theorem cu.ok:fnA Tryz.prog Tryz.f112 [0,1,2]=some cu:=by kernel_rfl
abbrev qi.fr:=fr6
def qi.t0:IR:=.reg [iWl 2 (.box aT0),iWl 3 (.box aT1),iWl 4 (.alloc [(I 0),.zf,(I 0),.zf])]
def qi.t1:IR:=.reg [.s (.zk 4 aT2),iCa 122 [aS0],.s (.mv aS0),iPt 0 (.zk 4 aT3),.w .push (some (aS1,true)) (.call (.c (.fn 122 (.of 122) [])) [aS0]),iQo 5 (.pick aS2 aS0 (.c (.bool false)))]
def qi.t2:IR:=.reg [.s (.zu 0 aT2),.s (.zk 2 aS0),.s (.zu 0 aT3),.s (.zk 2 aS0),iCa 197 [aS2,aS0],iCa 186 [aS0],.w .none none (.store 4 aT4 aS0)]
def qi.t6:IR:=.jd [] [(.s (.zu 0 aT2),0,[]),(.s (.zk 2 aS0),0,[]),(.s (.zu 2 aT3),0,[]),(.s (.zk 2 aS0),0,[]),(.s (.zu 0 aT3),1,[]),(.s (.zk 2 aS0),1,[]),(.s (.zu 2 aT2),1,[]),(.s (.zk 2 aS0),1,[]),(.s (.zu 2 aT2),3,[]),(.s (.zk 2 aS0),3,[]),(.s (.zu 2 aT3),3,[]),(.s (.zk 2 aS0),3,[]),(iCa 198 [tJ,aS8],0,[]),(iCa 198 [aS7,aS5],0,[]),(iCa 197 [aS1,aS0],0,[]),(iCa 198 [aS5,aS3],0,[]),(iCa 195 [aS1,aS0],0,[]),(.w .none none (.store 4 aT4 aS0),0,[])]
def qi.t7:IR:=.seq qi.t6 .ret
def qi.t9:IR:=.seq qi.t0 (.seq (.seq qi.t1 (.cond aT5 (.seq qi.t2 .ret) .skip)) qi.t7)
def qi.b0:IR:=qi.t9
def qi.res:List RV:=[.cell (.of 4) (some 4)]
def qi:Fn:={ params:=[(.of 0),(.of 1)],res:=qi.res,body:=qi.b0,init:=in6 }
theorem qi.ok:fnA Tryz.prog Tryz.f114 [0,1,2,3,4,10]=some qi:=by kernel_rfl
abbrev fA.fr:=fr5
def fA.t0:IR:=.reg [iWl 2 (.box aT0),iWl 3 (.box aT1),iWl 4 (.alloc [(I 0),.zf,(I 0),.zf])]
def fA.t1:IR:=.jd [] [(.s (.zk 4 aT2),1,[]),(.s (.zk 4 aT3),0,[]),(iCa 112 [aS0],0,[]),(iCa 119 [aS2,aS0],0,[]),(.w .none none (.store 4 aT4 aS0),0,[])]
def fA.t3:IR:=.seq fA.t0 (.seq fA.t1 .ret)
def fA.b0:IR:=fA.t3
def fA.res:List RV:=[.cell (.of 4) (some 4)]
def fA:Fn:={ params:=[(.of 0),(.of 1)],res:=fA.res,body:=fA.b0,init:=in5 }
theorem fA.ok:fnA Tryz.prog Tryz.f115 [0,1,2,3,4]=some fA:=by kernel_rfl
abbrev fE.fr:=fr3
def fE.t0:IR:=.reg [iQo 2 (.mv (.c (.bool false)))]
def fE.t1:IR:=.reg [iSm 0,iSm 1,iCa 199 [aS1,aS0],.s (.bin .geq .int aS0 aC0),iQm 2 0]
def fE.t3:IR:=.seq fE.t0 (.seq fE.t1 .ret)
def fE.b0:IR:=fE.t3
def fE.res:List RV:=[.t (.of 2)]
def fE:Fn:={ params:=[(.of 0),(.of 1)],res:=fE.res,body:=fE.b0,init:=in3 }
theorem fE.ok:fnA Tryz.prog Tryz.f116 [0,1,4]=some fE:=by kernel_rfl
abbrev fF.fr:=fr4
def fF.t0:IR:=.reg [iWl 2 (.box aT0),iQo 3 (.mv (.c (.bool false)))]
def fF.t1:IR:=.jd [] [(.s (.zu 0 aT2),1,[]),(.s (.zk 4 aS0),1,[]),(.s (.zk 4 aT1),0,[]),(.s (.zu 4 aT2),0,[]),(.s (.zk 4 aS0),0,[]),(iCa 119 [aS2,aS0],0,[]),(iCa 118 [aS4,aS0],0,[]),(.s (.not aS0),0,[]),(iQm 3 0,0,[])]
def fF.t3:IR:=.seq fF.t0 (.seq fF.t1 .ret)
def fF.b0:IR:=fF.t3
def fF.res:List RV:=[.t (.of 3)]
def fF:Fn:={ params:=[(.of 0),(.of 1)],res:=fF.res,body:=fF.b0,init:=in4 }
theorem fF.ok:fnA Tryz.prog Tryz.f117 [0,1,2,3]=some fF:=by kernel_rfl
abbrev fC.fr:=fr5
def fC.t0:IR:=.reg [iWl 2 (.box aT0),iWl 3 (.box aT1),iQo 4 (.mv (.c (.bool false)))]
def fC.t1:IR:=.reg [.s (.zk 4 aT2),.s (.zk 4 aT3),iCa 200 [aS1,aS0],.s (.bin .eql .int aS0 aC0),iQm 4 0]
def fC.t3:IR:=.seq fC.t0 (.seq fC.t1 .ret)
def fC.b0:IR:=fC.t3
def fC.res:List RV:=[.t (.of 4)]
def fC:Fn:={ params:=[(.of 0),(.of 1)],res:=fC.res,body:=fC.b0,init:=in5 }
theorem fC.ok:fnA Tryz.prog Tryz.f118 [0,1,2,3,4]=some fC:=by kernel_rfl
abbrev cO.fr:=fr5
def cO.t0:IR:=.reg [iWl 2 (.box aT0),iWl 3 (.box aT1),iWl 4 (.alloc [(I 0),.zf,(I 0),.zf])]
def cO.t1:IR:=.jd [] [(.s (.zu 0 aT2),0,[]),(.s (.zk 2 aS0),0,[]),(.s (.zu 0 aT3),0,[]),(.s (.zk 2 aS0),0,[]),(.s (.zu 2 aT2),1,[]),(.s (.zk 2 aS0),1,[]),(.s (.zu 2 aT3),1,[]),(.s (.zk 2 aS0),1,[]),(iCa 198 [aS6,aS4],0,[]),(iCa 198 [aS3,aS1],0,[]),(iCa 195 [aS1,aS0],0,[]),(.w .none none (.store 4 aT4 aS0),0,[])]
def cO.t3:IR:=.seq cO.t0 (.seq cO.t1 .ret)
def cO.b0:IR:=cO.t3
def cO.res:List RV:=[.cell (.of 4) (some 4)]
def cO:Fn:={ params:=[(.of 0),(.of 1)],res:=cO.res,body:=cO.b0,init:=in5 }
theorem cO.ok:fnA Tryz.prog Tryz.f119 [0,1,2,3,4]=some cO:=by kernel_rfl
abbrev pq.fr:=fr4
def pq.t0:IR:=.reg [iWl 1 (.box aT0),iWl 2 (.alloc [(I 0),.zf])]
def pq.t1:IR:=.reg [.s (.zu 0 aT1),.s (.zk 2 aS0),.s (.zu 2 aT1),.s (.zk 2 aS0),iCa 201 [aS2,aS0],.s (.mv aS0),.s (.ext 0 aS0),.s (.ext 1 aS1),iWl 3 (.alloc [(I 0),.zf]),.w .push none (.alloc [(I 0),.zf]),.w .none none (.store 2 aT3 aS2),.w .none none (.store 2 aS0 aS1)]
def pq.t2:IR:=.reg [.s (.zk 2 aT3),.w .none none (.store 2 aT2 aS0)]
def pq.t5:IR:=.seq pq.t0 (.seq pq.t1 (.seq pq.t2 .ret))
def pq.b0:IR:=pq.t5
def pq.res:List RV:=[.cell (.of 2) (some 2)]
def pq:Fn:={ params:=[(.of 0)],res:=pq.res,body:=pq.b0,init:=in4 }
theorem pq.ok:fnA Tryz.prog Tryz.f120 [0,1,2,3]=some pq:=by kernel_rfl
abbrev bM.fr:=fr4
def bM.t0:IR:=.reg [iWl 1 (.box aT0),iQo 2 (.mv aC0),iQo 3 (.mv (.c (.bool false)))]
def bM.t1:IR:=.jd [] [(.s (.zu 0 aT1),0,[]),(.s (.load aS0),0,[]),(.s (.zu 1 aT1),0,[]),(.s (.load aS0),0,[]),(.s (.bin .eql (.nil .sl) aS0 (.c .zf)),0,[]),(iQm 2 3,0,[]),(iQm 3 0,0,[])]
def bM.t3:IR:=.seq bM.t0 (.seq bM.t1 .ret)
def bM.b0:IR:=bM.t3
def bM.res:List RV:=[.t (.of 2),.t (.of 3)]
def bM:Fn:={ params:=[(.of 0)],res:=bM.res,body:=bM.b0,init:=in4 }
theorem bM.ok:fnA Tryz.prog Tryz.f121 [0,1,2,3]=some bM:=by kernel_rfl
abbrev qx.fr:=fr3
def qx.t0:IR:=.reg [iWl 1 (.box aT0),iQo 2 (.mv (.c (.bool false)))]
def qx.aI (r:List RO):List RO:=iPt 3 (.bin .eql .int aS0 aC1)::.s (.pick aS4 aS0 (.c (.bool false)))::iQm 2 0::r
def qx.r1_1:List RO:=qx.aI []
def qx.aH (r:List RO):List RO:=.s (.zu 2 aT1)::.s (.zu 1 aS0)::.s (.load aS0)::.s (.bin .eql (.nil .sl) aS0 (.c .zf))::.s (.mv aS0)::iPt 0 (.zu 2 aT1)::iPt 1 (.zu 0 aS0)::iPt 2 (.load aS0)::r
def qx.eF:List RO:=qx.aH qx.r1_1
def qx.t1:IR:=.reg qx.eF
def qx.t3:IR:=.seq qx.t0 (.seq qx.t1 .ret)
def qx.b0:IR:=qx.t3
def qx.res:List RV:=[.t (.of 2)]
def qx:Fn:={ params:=[(.of 0)],res:=qx.res,body:=qx.b0,init:=in3 }
theorem qx.ok:fnA Tryz.prog Tryz.f122 [0,1,2]=some qx:=by kernel_rfl
abbrev oH.fr:=fr2
def oH.b0:IR:=(iSr [iQo 1 (.mv aC0)] (iSr [iSm 0,.s (.len aS0),.s (.bin .eql .int aS0 aC0),iCa 88 [aS0,aC12],iSm 0,.s (.len aS0),.s (.bin .gtr .int aS0 zp6),iCa 88 [aS0,aC5],iSm 0,iCa 183 [aS0],.w .push none (.yu 1 3 [(I 0)] [(0,1,aS6),(1,1,aS2),(2,1,aS0)]),iCa 86 [aS0],iQm 1 0] .ret))
def oH.res:List RV:=[.t (.of 1)]
def oH:Fn:={ params:=[(.of 0)],res:=oH.res,body:=oH.b0,init:=in2 }
theorem oH.ok:fnA Tryz.prog Tryz.f135 [0,2]=some oH:=by kernel_rfl
abbrev wz.fr:=fr9
def wz.b3:IR:=(iSr [iQo 7 (.bin .lss .int aT6 aT5)] (.seq (.cond aT7 .skip (.exit 0)) (.seq (.block 1 (iSr [iSm 6,.s (.zx 1 aT4 aT6),.s (.load aS0),iQm 2 2,iQm 3 0] (iSr [iSm 3,iSm 2,.s (.bin .add .int aS0 aC1),iQo 8 (.bin .neq .int aS2 aS0)] (.cond aT8 (iSr [iQo 1 (.mv (.c (.bool false)))] .ret) .skip)))) (.reg [.s (.bin .add .int aT6 aC1),iQm 6 0]))))
def wz.b2:IR:=(.loop wz.b3)
def wz.g1 (X2:IR):IR:=(.block 0 X2)
def wz.b1:IR:=wz.g1 wz.b2
def wz.b8:IR:=(iSr [iQo 1 (.mv (.c (.bool true)))] .ret)
def wz.b0:IR:=(iSr [iQo 1 (.mv (.c (.bool false)))] (.seq (iSr [iSm 0,iCa 171 [aS0],iWl 4 (.call (.c (.fn 170 (.of 170) [])) [aS0]),iQo 5 (.len aT4),iQo 6 (.mv aC0)] wz.b1) wz.b8))
def wz.res:List RV:=[.t (.of 1)]
def wz:Fn:={ params:=[(.of 0)],res:=wz.res,body:=wz.b0,init:=in9 }
theorem wz.ok:fnA Tryz.prog Tryz.f136 [0,2,3,4,7,8,9,10,17]=some wz:=by kernel_rfl
abbrev xg.fr:=fr8
def xg.b3:IR:=(iSr [iQo 7 (.bin .lss .int aT6 aT5)] (.seq (.cond aT7 .skip (.exit 0)) (.seq (.block 1 (iSr [iSm 6,iQm 4 0] (.reg [iSm 3,iSm 4,iSm 1,iSm 4,.w .push none (.call aS1 [aS0]),.s (.zx 1 aS4 aS3),.w .none none (.store 1 aS0 aS1)]))) (.reg [.s (.bin .add .int aT6 aC1),iQm 6 0]))))
def xg.b2:IR:=(.loop xg.b3)
def xg.g1 (X2:IR):IR:=(.block 0 X2)
def xg.b1:IR:=xg.g1 xg.b2
def xg.b8:IR:=(iSr [iSm 3,iQm 2 0] .ret)
def xg.b0:IR:=(iSr [iQo 2 (.mv (.c .zf))] (iSr [iSm 0,.w .push none (.bg 1 8 [(I 0)] aS0 aS0),iQm 3 0] (.seq (iSr [iSm 3,iQo 5 (.len aS0),iQo 6 (.mv aC0)] xg.b1) xg.b8)))
def xg.res:List RV:=[.t (.of 2)]
def xg:Fn:={ params:=[(.of 0),(.of 1)],res:=xg.res,body:=xg.b0,init:=in8 }
theorem xg.ok:fnA Tryz.prog Tryz.f137 [0,1,4,5,6,10,11,12]=some xg:=by kernel_rfl
abbrev oD.fr:=fr3
def oD.b0:IR:=(iSr [iQo 2 (.mv aC0)] (.seq (.jd [] [(.s (.load aT1),0,[]),(.s (.len aS0),0,[]),(.s (.bin .add .int aS0 aC1),0,[]),(.s (.load aT1),0,[]),(iSm 0,0,[]),(.s (.zx 1 aS1 aS0),0,[]),(.s (.load aS0),0,[]),(.s (.bin .sub .int aS4 aS0),0,[]),(iQm 2 0,0,[])]) .ret))
def oD.res:List RV:=[.t (.of 2)]
def oD:Fn:={ params:=[(.of 0),(.of 1)],res:=oD.res,body:=oD.b0,init:=in3 }
theorem oD.ok:fnA Tryz.prog Tryz.f138 [0,1,3]=some oD:=by kernel_rfl
abbrev xh.fr:=fr10
def xh.b3:IR:=(iSr [iQo 9 (.bin .lss .int aT8 aT7)] (.seq (.cond aT9 .skip (.exit 0)) (.seq (.block 1 (iSr [.s (.zx 1 aT6 aT8),.s (.load aS0),iQm 5 0] (.reg [iSm 4,iSm 5,iSm 1,iCa 219 [aS1,aS0],.w .push none (.yu 1 1 [(I 0)] [(0,1,aS0)]),.w .push none (.app 1 8 aS4 aS0),iQm 4 0]))) (.reg [.s (.bin .add .int aT8 aC1),iQm 8 0]))))
def xh.b2:IR:=(.loop xh.b3)
def xh.g1 (X2:IR):IR:=(.block 0 X2)
def xh.b1:IR:=xh.g1 xh.b2
def xh.b8:IR:=(iSr [iSm 4,iQm 3 0] .ret)
def xh.b0:IR:=(iSr [iWl 2 (.box aT0),iQo 3 (.mv (.c .zf))] (iSr [iQo 4 (.mv (.c .zf))] (.seq (iSr [.s (.zu 1 aT2),iQo 6 (.load aS0),iQo 7 (.len aT6),iQo 8 (.mv aC0)] xh.b1) xh.b8)))
def xh.res:List RV:=[.t (.of 3)]
def xh:Fn:={ params:=[(.of 0),(.of 1)],res:=xh.res,body:=xh.b0,init:=in10 }
theorem xh.ok:fnA Tryz.prog Tryz.f139 [0,1,2,4,5,7,9,10,11,12]=some xh:=by kernel_rfl
abbrev F140.fr:=fr4
def F140.b0:IR:=(iSr [iWl 1 (.box aT0),iQo 2 (.mv aC0)] (.seq (iSr [.s (.zu 0 aT1),.s (.load aS0),.s (.zu 1 aT1),.s (.load aS0),.s (.bin .neq .int aS2 aS0),.s (.mv aS0),iPf 0 (.zu 0 aT1),iPf 1 (.load aS0),iPf 2 (.bin .lss .int aS0 aC0),.s (.pick aS3 (.c (.bool true)) aS0),.s (.mv aS0),iPf 0 (.zu 0 aT1),iPf 1 (.load aS0),iPf 2 (.bin .gtr .int aS0 zl2),.s (.pick aS3 (.c (.bool true)) aS0),.s (.mv aS0),iPf 0 (.zu 2 aT1),iPf 1 (.load aS0),iPf 2 (.len aS0),iPf 3 (.zu 0 aT1),iPf 4 (.load aS0),iPf 5 (.zu 1 aT1),iPf 6 (.load aS0),iPf 7 (.bin .mul .int aS2 aS0),iPf 8 (.bin .neq .int aS5 aS0),iQo 3 (.pick aS9 (.c (.bool true)) aS0)] (.cond aT3 (iSr [iQo 2 (.mv aC2)] .ret) .skip)) (.seq (.jd [] [(.s (.zu 0 aT1),0,[]),(.s (.load aS0),0,[]),(.s (.zu 2 aT1),2,[]),(.s (.load aS0),2,[]),(.w .push none (.yu 1 1 [(I 0)] [(0,1,aS2)]),0,[]),(iCa 87 [aC1,aC16,aS0],0,[]),(iCa 183 [aS2],0,[]),(.w .push none (.yu 1 2 [(I 0)] [(0,1,aS1),(1,1,aS0)]),0,[]),(iCa 86 [aS0],0,[]),(iQm 2 0,0,[])]) .ret)))
def F140.res:List RV:=[.t (.of 2)]
def F140:Fn:={ params:=[(.of 0)],res:=F140.res,body:=F140.b0,init:=in4 }
theorem F140.ok:fnA Tryz.prog Tryz.f140 [0,1,2,28]=some F140:=by kernel_rfl
abbrev F141.fr:=fr1
def F141.b0:IR:=(iSr [iQo 0 (.mv (.c .zf))] (iSr [.s (.build [(.str []),.fK] [(0,1,(.c (.str [110,111,114,109,97,108]))),(1,1,(.c (.fn 220 (.of 220) [])))]),.s (.build [(.str []),.fK] [(0,1,(.c (.str [115,101,109,105,109,97,103,105,99]))),(1,1,(.c (.fn 221 (.of 221) [])))]),.s (.build [(.str []),.fK] [(0,1,(.c (.str [109,97,103,105,99]))),(1,1,(.c (.fn 222 (.of 222) [])))]),.s (.build [(.str []),.fK] [(0,1,(.c (.str [112,97,110,100,105,97,103,111,110,97,108]))),(1,1,(.c (.fn 223 (.of 223) [])))]),.s (.build [(.str []),.fK] [(0,1,(.c (.str [97,115,115,111,99,105,97,116,105,118,101]))),(1,1,(.c (.fn 224 (.of 224) [])))]),.s (.build [(.str []),.fK] [(0,1,(.c (.str [109,111,115,116,45,112,101,114,102,101,99,116]))),(1,1,(.c (.fn 225 (.of 225) [])))]),.s (.build [(.str []),.fK] [(0,1,(.c (.str [98,111,114,100,101,114,101,100]))),(1,1,(.c (.fn 226 (.of 226) [])))]),.s (.build [(.str []),.fK] [(0,1,(.c (.str [98,105,109,97,103,105,99]))),(1,1,(.c (.fn 227 (.of 227) [])))]),.w .push none (.yu 2 8 [(.str []),.fK] [(0,2,aS7),(2,2,aS6),(4,2,aS5),(6,2,aS4),(8,2,aS3),(10,2,aS2),(12,2,aS1),(14,2,aS0)]),iQm 0 0] .ret))
def F141.res:List RV:=[.t (.of 0)]
def F141:Fn:={ params:=[],res:=F141.res,body:=F141.b0,init:=in1 }
theorem F141.ok:fnA Tryz.prog Tryz.f141 [0]=some F141:=by kernel_rfl
abbrev F142.fr:=fr3
def F142.b0:IR:=(iSr [iQo 1 (.mv (.c .zf))] (.seq (iSr [iSm 0,iQo 2 (.bin .eql (.nil .sl) aS0 (.c .zf))] (.cond aT2 (iSr [iQo 1 (.mv (.c .zf))] .ret) .skip)) (iSr [.w .push none (.yu 1 0 [(I 0)] []),iSm 0,.w .push none (.app 1 8 aS1 aS0),iQm 1 0] .ret)))
def F142.res:List RV:=[.t (.of 1)]
def F142:Fn:={ params:=[(.of 0)],res:=F142.res,body:=F142.b0,init:=in3 }
theorem F142.ok:fnA Tryz.prog Tryz.f142 [0,2,4]=some F142:=by kernel_rfl
abbrev F144.fr:=fr4
def F144.b0:IR:=(iSr [iWl 2 (.box aT0),iQo 3 (.mv (.c (.bool false)))] (.seq (.jd [] [(iSm 1,0,[]),(.s (.zu 0 aT2),0,[]),(.s (.load aS0),0,[]),(.s (.zu 1 aT2),1,[]),(.s (.load aS0),1,[]),(iCa 152 [aS4,aS2],0,[]),(iCa 95 [aS0,aS1],0,[]),(.s (.bin .lss .int aS0 aC0),0,[]),(iQm 3 0,0,[])]) .ret))
def F144.res:List RV:=[.t (.of 3)]
def F144:Fn:={ params:=[(.of 0),(.of 1)],res:=F144.res,body:=F144.b0,init:=in4 }
theorem F144.ok:fnA Tryz.prog Tryz.f144 [0,1,2,4]=some F144:=by kernel_rfl
abbrev F145.fr:=fr19
def F145.b0:IR:=(iSr [iWl 2 (.box aT0),iQo 3 (.mv (.c (.bool false)))] (iSr [iWl 4 (.alloc [(I 0),.zf])] (.seq (iSr [.s (.zu 0 aT2),.s (.load aS0),.w .push none (.call (.c (.fn 152 (.of 152) [])) [(.c (.str [109,97,103,105,99])),aS0]),iQo 9 (.part 1 none aS0),iQo 10 (.len aT9),iQo 11 (.mv aC0)] (.block 0 (.loop (iSr [iQo 12 (.bin .lss .int rU nV)] (.seq (.cond nX .skip (.exit 0)) (.seq (.block 1 (iSr [iSm 11,.s (.zx 1 aT9 rU),.s (.load aS0),iQm 5 2,iQm 6 0] (iSr [iCa 187 [aC0],iWl 7 (.alloc [(I 0),.zf]),.w .none none (.store 2 aT7 aS0)] (.seq (iSr [iQo 13 (.mv aT6),iQo 14 (.len sO),iQo 15 (.mv aC0)] (.block 2 (.loop (iSr [iQo 16 (.bin .lss .int aO oQ)] (.seq (.cond aT16 .skip (.exit 2)) (.seq (.block 3 (iSr [.s (.zx 1 sO aO),.s (.load aS0),iQm 8 0] (.jd [] [(.s (.zk 2 aT7),2,[]),(.s (.zu 1 aT2),0,[]),(.s (.load aS0),0,[]),(iSm 8,0,[]),(.s (.zx 1 aS1 aS0),0,[]),(.s (.load aS0),0,[]),(iSm 1,1,[]),(iCa 187 [aS1],0,[]),(iCa 228 [aS0,aS1],0,[]),(iCa 197 [aS8,aS0],0,[]),(.w .none none (.store 2 aT7 aS0),0,[])]))) (.reg [.s (.bin .add .int aO aC1),iQm 15 0]))))))) (.seq (iSr [iSm 5,iQo 17 (.bin .eql .int aS0 aC0)] (.cond aW (.reg [.s (.zk 2 aT7),.w .none none (.store 2 aT4 aS0)]) .skip)) (iSr [.s (.zk 2 aT7),.s (.zk 2 aT4),iCa 229 [aS1,aS0],iQo 18 (.bin .neq .int aS0 aC0)] (.cond oU (iSr [iQo 3 (.mv (.c (.bool false)))] .ret) .skip))))))) (.reg [.s (.bin .add .int rU aC1),iQm 11 0]))))))) (iSr [iQo 3 (.mv (.c (.bool true)))] .ret))))
def F145.res:List RV:=[.t (.of 3)]
def F145:Fn:={ params:=[(.of 0),(.of 1)],res:=F145.res,body:=F145.b0,init:=in19 }
theorem F145.ok:fnA Tryz.prog Tryz.f145 [0,1,2,4,5,6,7,8,10,14,15,16,17,22,23,24,25,40,45]=some F145:=by kernel_rfl
abbrev F151.fr:=fr3
def F151.b0:IR:=(iSr [iQo 2 (.mv (.c (.bool false)))] (iSr [iSm 0,iSm 1,iCa 234 [aS1,aS0],.s (.bin .geq .int aS0 aC0),iQm 2 0] .ret))
def F151.res:List RV:=[.t (.of 2)]
def F151:Fn:={ params:=[(.of 0),(.of 1)],res:=F151.res,body:=F151.b0,init:=in3 }
theorem F151.ok:fnA Tryz.prog Tryz.f151 [0,1,4]=some F151:=by kernel_rfl
abbrev F152.fr:=fr19
def F152.b0:IR:=(iSr [iWl 2 (.alloc [(I 0),.zf])] (iSr [iSm 1,iSm 1,iCa 154 [aS1,aS0],iSm 1,iSm 1,iCa 155 [aS1,aS0],.w .push none (.yu 1 2 [.zf] [(0,1,aS3),(1,1,aS0)]),iCa 235 [aS0],iQm 3 0] (.seq (iSr [iSm 0,iQo 9 (.bin .neq .str aS0 (.c (.str [115,101,109,105,109,97,103,105,99])))] (.cond aT9 (iSr [iWl 4 (.alloc [.zf]),iWl 5 (.alloc [.zf])] (.seq (iSr [.s (.build [(I 0),(I 0)] [(0,1,aC1),(1,1,aC0)]),iSm 1,.s (.bin .sub .int aS0 aC1),.s (.build [(I 0),(I 0)] [(0,1,(.c (I (-1)))),(1,1,aS0)]),iWl 10 (.yu 2 2 [(I 0),(I 0)] [(0,2,aS3),(2,2,aS0)]),iQo 11 (.len nV),iQo 12 (.mv aC0)] (.block 0 (.loop (iSr [iQo 13 (.bin .lss .int nX rU)] (.seq (.cond sO .skip (.exit 0)) (.seq (.block 1 (iSr [.s (.zx 2 nV nX),.s (.zk 2 aS0),iWl 6 (.alloc [(I 0),(I 0)]),.w .none none (.store 2 aT6 aS0)] (iSr [iSm 1,.s (.zu 0 aT6),.s (.load aS0),iWl 14 (.call (.c (.fn 236 (.of 236) [])) [aS2,aS0])] (.block 2 (.rf oQ [(.of 15),(.of 16)] (iSr [iQo 7 (.mv aO)] (.reg [iQo 8 (.mv aT16)])) (.block 3 (iSr [iSm 7,.s (.zu 1 aT6),.s (.load aS0),iQo 17 (.bin .eql .int aS2 aS0)] (.cond aW (.reg [.s (.load aT4),iSm 8,.w .push none (.yu 1 1 [.zf] [(0,1,aS0)]),.w .push none (.app 1 24 aS2 aS0),.w .none none (.store 1 aT4 aS0)]) (.reg [.s (.load aT5),iSm 8,.w .push none (.yu 1 1 [.zf] [(0,1,aS0)]),.w .push none (.app 1 24 aS2 aS0),.w .none none (.store 1 aT5 aS0)]))))))))) (.reg [.s (.bin .add .int nX aC1),iQm 12 0]))))))) (iSr [iSm 3,.s (.load aT4),.w .push none (.app 1 24 aS1 aS0),iQm 3 0] (iSr [iSm 0,iQo 18 (.bin .eql .str aS0 (.c (.str [112,97,110,100,105,97,103,111,110,97,108])))] (.cond oU (.reg [iSm 3,.s (.load aT5),.w .push none (.app 1 24 aS1 aS0),iQm 3 0]) .skip))))) .skip)) (iSr [iSm 1,iSm 1,.s (.bin .mul .int aS1 aS0),iSm 3,iCa 153 [aS1,aS0],.w .none none (.store 2 aT2 aS0)] .ret))))
def F152.res:List RV:=[.cell (.of 2) (some 2)]
def F152:Fn:={ params:=[(.of 0),(.of 1)],res:=F152.res,body:=F152.b0,init:=in19 }
theorem F152.ok:fnA Tryz.prog Tryz.f152 [0,1,4,5,6,7,9,10,11,21,26,27,28,29,35,36,37,41,55]=some F152:=by kernel_rfl
abbrev F153.fr:=fr12
def F153.b0:IR:=(iSr [iWl 2 (.alloc [(I 0),.zf])] (iSr [.w .push none .zbh,iQm 3 0] (iSr [iSm 0,.s (.build [(I 0),.zf] [(0,1,aS0)]),iWl 4 (.alloc [(I 0),.zf]),.w .none none (.store 2 aT4 aS0)] (.seq (iSr [iQo 7 (.mv aT1),iQo 8 (.len aT7),iQo 9 (.mv aC0)] (.block 0 (.loop (iSr [iQo 10 (.bin .lss .int aT9 aT8)] (.seq (.cond nV .skip (.exit 0)) (.seq (.block 1 (iSr [.s (.zx 1 aT7 aT9),.s (.load aS0),iQm 5 0] (iSr [iSm 5,iCa 171 [aS0],iCa 170 [aS0],iQm 5 0] (iSr [iSm 5,iCa 237 [aS0],iQm 6 0] (iSr [iSm 3,iSm 6,.s (.look .str (.bool false) false aS1 aS0),iQo 11 (.not aS0)] (.cond rU (iSr [iSm 3,iSm 6,.w .none none (.zn5 .str aS1 aS0 (.c (.bool true)))] (.reg [.s (.zu 1 aT4),.s (.load aS0),iSm 5,.w .push none (.yu 1 1 [.zf] [(0,1,aS0)]),.w .push none (.app 1 24 aS2 aS0),.s (.zu 1 aT4),.w .none none (.store 1 aS0 aS1)])) .skip)))))) (.reg [.s (.bin .add .int aT9 aC1),iQm 9 0]))))))) (iSr [.s (.zk 2 aT4),.w .none none (.store 2 aT2 aS0)] .ret)))))
def F153.res:List RV:=[.cell (.of 2) (some 2)]
def F153:Fn:={ params:=[(.of 0),(.of 1)],res:=F153.res,body:=F153.b0,init:=in12 }
theorem F153.ok:fnA Tryz.prog Tryz.f153 [0,1,4,5,6,8,9,13,14,15,16,27]=some F153:=by kernel_rfl
abbrev F154.fr:=fr9
def F154.b0:IR:=(iSr [iWl 2 (.box aT1),iQo 3 (.mv (.c .zf))] (iSr [iQo 4 (.mv (.c .zf))] (.seq (iSr [iQo 6 (.mv aT0),iQo 7 (.mv aC0)] (.block 0 (.loop (iSr [iQo 8 (.bin .lss .int aT7 aT6)] (.seq (.cond aT8 .skip (.exit 0)) (.seq (.block 1 (iSr [iSm 7,iWl 5 (.alloc [(I 0)]),.w .none none (.store 1 aT5 aS0)] (.reg [iSm 4,.s (.load aT2),.s (.fn 238 (.of 238) [aT2,aT5]),iCa 137 [aS1,aS0],.w .push none (.yu 1 1 [.zf] [(0,1,aS0)]),.w .push none (.app 1 24 aS4 aS0),iQm 4 0]))) (.reg [.s (.bin .add .int aT7 aC1),iQm 7 0]))))))) (iSr [iSm 4,iQm 3 0] .ret))))
def F154.res:List RV:=[.t (.of 3)]
def F154:Fn:={ params:=[(.of 0),(.of 1)],res:=F154.res,body:=F154.b0,init:=in9 }
theorem F154.ok:fnA Tryz.prog Tryz.f154 [0,1,3,4,5,6,7,8,9]=some F154:=by kernel_rfl
abbrev F155.fr:=fr9
def F155.b0:IR:=(iSr [iWl 2 (.box aT1),iQo 3 (.mv (.c .zf))] (iSr [iQo 4 (.mv (.c .zf))] (.seq (iSr [iQo 6 (.load aT2),iQo 7 (.mv aC0)] (.block 0 (.loop (iSr [iQo 8 (.bin .lss .int aT7 aT6)] (.seq (.cond aT8 .skip (.exit 0)) (.seq (.block 1 (iSr [iSm 7,iWl 5 (.alloc [(I 0)]),.w .none none (.store 1 aT5 aS0)] (.reg [iSm 4,iSm 0,.s (.fn 239 (.of 239) [aT2,aT5]),iCa 137 [aS1,aS0],.w .push none (.yu 1 1 [.zf] [(0,1,aS0)]),.w .push none (.app 1 24 aS4 aS0),iQm 4 0]))) (.reg [.s (.bin .add .int aT7 aC1),iQm 7 0]))))))) (iSr [iSm 4,iQm 3 0] .ret))))
def F155.res:List RV:=[.t (.of 3)]
def F155:Fn:={ params:=[(.of 0),(.of 1)],res:=F155.res,body:=F155.b0,init:=in9 }
theorem F155.ok:fnA Tryz.prog Tryz.f155 [0,1,3,4,5,6,7,8,9]=some F155:=by kernel_rfl
abbrev F168.fr:=fr4
def F168.b0:IR:=(iSr [iWl 2 (.box aT0),iQo 3 (.mv aC0)] (.seq (.jd [] [(.s (.zk 2 aT2),0,[]),(iSm 1,1,[]),(.s (.len aS0),1,[]),(.s (.zu 1 aT2),1,[]),(.s (.load aS0),1,[]),(.s (.len aS0),1,[]),(.s (.bin .neq .int aS3 aS0),1,[]),(iSm 1,2,[]),(iCa 20 [aS7],0,[]),(iCa 88 [aS2,aC2],0,[]),(iCa 136 [aS2],0,[]),(.s (.not aS0),0,[]),(iCa 88 [aS0,aC14],0,[]),(.w .push none (.yu 1 3 [(I 0)] [(0,1,aS4),(1,1,aS3),(2,1,aS0)]),0,[]),(iCa 86 [aS0],0,[]),(iQm 3 0,0,[])]) .ret))
def F168.res:List RV:=[.t (.of 3)]
def F168:Fn:={ params:=[(.of 0),(.of 1)],res:=F168.res,body:=F168.b0,init:=in4 }
theorem F168.ok:fnA Tryz.prog Tryz.f168 [0,1,2,4]=some F168:=by kernel_rfl
abbrev F169.fr:=fr11
def F169.b0:IR:=(iSr [iWl 2 (.box aT0),iQo 3 (.mv (.c .zf))] (iSr [.s (.zu 0 aT2),.s (.load aS0),.w .push none (.bg 1 8 [(I 0)] aS0 aS0),iQm 4 0] (.seq (iSr [.s (.zu 1 aT2),iQo 7 (.load aS0),iQo 8 (.len aT7),iQo 9 (.mv aC0)] (.block 0 (.loop (iSr [iQo 10 (.bin .lss .int aT9 aT8)] (.seq (.cond nV .skip (.exit 0)) (.seq (.block 1 (iSr [iSm 9,.s (.zx 2 aT7 aT9),.s (.zk 2 aS0),iWl 6 (.alloc [(I 0),(I 0)]),iQm 5 2,.w .none none (.store 2 aT6 aS0)] (.seq (.jd [] [(iSm 4,0,[]),(.s (.tN 1 2 aT6 aC0),0,[]),(.s (.load aS0),0,[]),(.s (.zx 1 aS2 aS0),0,[]),(.s (.load aS0),0,[]),(iSm 1,0,[]),(iSm 5,0,[]),(.s (.zx 1 aS1 aS0),0,[]),(.s (.load aS0),0,[]),(.s (.bin .add .int aS4 aS0),0,[]),(.s (.zx 1 aS9 aS7),0,[]),(.w .none none (.store 1 aS0 aS1),0,[])]) (.jd [] [(iSm 4,0,[]),(.s (.tN 1 2 aT6 aC1),0,[]),(.s (.load aS0),0,[]),(.s (.zx 1 aS2 aS0),0,[]),(.s (.load aS0),0,[]),(iSm 1,0,[]),(iSm 5,0,[]),(.s (.zx 1 aS1 aS0),0,[]),(.s (.load aS0),0,[]),(.s (.bin .add .int aS4 aS0),0,[]),(.s (.zx 1 aS9 aS7),0,[]),(.w .none none (.store 1 aS0 aS1),0,[])])))) (.reg [.s (.bin .add .int aT9 aC1),iQm 9 0]))))))) (iSr [iSm 4,iQm 3 0] .ret))))
def F169.res:List RV:=[.t (.of 3)]
def F169:Fn:={ params:=[(.of 0),(.of 1)],res:=F169.res,body:=F169.b0,init:=in11 }
theorem F169.ok:fnA Tryz.prog Tryz.f169 [0,1,2,4,5,6,7,12,13,14,15]=some F169:=by kernel_rfl
abbrev oz.fr:=fr3
def oz.b0:IR:=(iSr [iQo 1 (.mv (.c .zf))] (iSr [iSm 0,iCa 242 [aS0],iQm 2 0] (iSr [iSm 2,iCa 243 [aS0]] (iSr [iSm 2,iQm 1 0] .ret))))
def oz.res:List RV:=[.t (.of 1)]
def oz:Fn:={ params:=[(.of 0)],res:=oz.res,body:=oz.b0,init:=in3 }
theorem oz.ok:fnA Tryz.prog Tryz.f170 [0,2,3]=some oz:=by kernel_rfl
abbrev ou.fr:=fr3
def ou.b0:IR:=(iSr [iWl 1 (.box aT0),iQo 2 (.mv (.c .fK))] (iSr [.s (.fn 244 (.of 244) [aT1]),iQm 2 0] .ret))
def ou.res:List RV:=[.t (.of 2)]
def ou:Fn:={ params:=[(.of 0)],res:=ou.res,body:=ou.b0,init:=in3 }
theorem ou.ok:fnA Tryz.prog Tryz.f171 [0,1,2]=some ou:=by kernel_rfl
abbrev oq.fr:=fr3
def oq.b0:IR:=(iSr [iQo 2 (.mv (.c (.bool false)))] (iSr [iSm 0,iSm 1,iCa 184 [aS1,aS0],.s (.bin .geq .int aS0 aC0),iQm 2 0] .ret))
def oq.res:List RV:=[.t (.of 2)]
def oq:Fn:={ params:=[(.of 0),(.of 1)],res:=oq.res,body:=oq.b0,init:=in3 }
theorem oq.ok:fnA Tryz.prog Tryz.f173 [0,1,4]=some oq:=by kernel_rfl
abbrev oh.fr:=fr4
def oh.b0:IR:=(iSr [iQo 3 (.mv (.c (.bool false)))] (iSr [iSm 0,.s (.load aT1),.s (.bin .lss .int aS1 aS0),.s (.mv aS0),iPf 0 (.mv aT0),iPf 1 (.load aT2),iPf 2 (.bin .gtr .int aS1 aS0),.s (.pick aS3 (.c (.bool true)) aS0),iQm 3 0] .ret))
def oh.res:List RV:=[.t (.of 3)]
def oh:Fn:={ params:=[(.of 0),(.of 1),(.of 2)],res:=oh.res,body:=oh.b0,init:=in4 }
theorem oh.ok:fnA Tryz.prog Tryz.f174 [0,1,2,4]=some oh:=by kernel_rfl
abbrev eY.fr:=fr3
def eY.b0:IR:=(iSr [iQo 2 (.mv (.c (.bool false)))] (iSr [iSm 0,iSm 1,iCa 245 [aS1,aS0],.s (.bin .geq .int aS0 aC0),iQm 2 0] .ret))
def eY.res:List RV:=[.t (.of 2)]
def eY:Fn:={ params:=[(.of 0),(.of 1)],res:=eY.res,body:=eY.b0,init:=in3 }
theorem eY.ok:fnA Tryz.prog Tryz.f175 [0,1,4]=some eY:=by kernel_rfl
abbrev eH.fr:=fr3
def eH.b0:IR:=(iSr [iQo 2 (.mv (.c (.bool false)))] (iSr [iSm 0,.s (.load aT1),iCa 177 [aS1,aS0],iQm 2 0] .ret))
def eH.res:List RV:=[.t (.of 2)]
def eH:Fn:={ params:=[(.of 0),(.of 1)],res:=eH.res,body:=eH.b0,init:=in3 }
theorem eH.ok:fnA Tryz.prog Tryz.f176 [0,1,3]=some eH:=by kernel_rfl
abbrev wu.fr:=fr9
def wu.b4:IR:=(iSr [iQo 7 (.bin .lss .int aT6 aT5)] (.seq (.cond aT7 .skip (.exit 0)) (.seq (.block 1 (iSr [iSm 6,iQm 3 0] (.seq (.jd [] [(iSm 0,0,[]),(iSm 3,0,[]),(.s (.zx 1 aS1 aS0),0,[]),(.s (.load aS0),0,[]),(iSm 1,0,[]),(iSm 3,0,[]),(.s (.zx 1 aS1 aS0),0,[]),(.s (.load aS0),0,[]),(iQo 8 (.bin .neq .int aS4 aS0),0,[])]) (.cond aT8 (iSr [iQo 2 (.mv (.c (.bool false)))] .ret) .skip)))) (.reg [.s (.bin .add .int aT6 aC1),iQm 6 0]))))
def wu.b3:IR:=(.loop wu.b4)
def wu.g2 (X3:IR):IR:=(.block 0 X3)
def wu.b2:IR:=wu.g2 wu.b3
def wu.b9:IR:=(iSr [iQo 2 (.mv (.c (.bool true)))] .ret)
def wu.b0:IR:=(iSr [iQo 2 (.mv (.c (.bool false)))] (.seq (iSr [iSm 0,.s (.len aS0),iSm 1,.s (.len aS0),iQo 4 (.bin .neq .int aS2 aS0)] (.cond aT4 (iSr [iQo 2 (.mv (.c (.bool false)))] .ret) .skip)) (.seq (iSr [iSm 0,iQo 5 (.len aS0),iQo 6 (.mv aC0)] wu.b2) wu.b9)))
def wu.res:List RV:=[.t (.of 2)]
def wu:Fn:={ params:=[(.of 0),(.of 1)],res:=wu.res,body:=wu.b0,init:=in9 }
theorem wu.ok:fnA Tryz.prog Tryz.f177 [0,1,4,5,10,12,13,14,24]=some wu:=by kernel_rfl
abbrev F178.fr:=fr9
def F178.b0:IR:=(iSr [iWl 2 (.box aT1),iQo 3 (.mv aC0)] (.seq (iSr [iSm 0,iQo 5 (.len aS0),iQo 6 (.mv aC0)] (.block 0 (.loop (iSr [iQo 7 (.bin .lss .int aT6 aT5)] (.seq (.cond aT7 .skip (.exit 0)) (.seq (.block 1 (iSr [iSm 6,iQm 4 0] (.seq (.jd [] [(.s (.zk 2 aT2),0,[]),(iSm 0,0,[]),(iSm 4,0,[]),(.s (.zx 2 aS1 aS0),0,[]),(.s (.zk 2 aS0),0,[]),(iQo 8 (.bin .eql (.agg 2) aS4 aS0),0,[])]) (.cond aT8 (iSr [iSm 4,iQm 3 0] .ret) .skip)))) (.reg [.s (.bin .add .int aT6 aC1),iQm 6 0]))))))) (iSr [iQo 3 (.mv (.c (I (-1))))] .ret)))
def F178.res:List RV:=[.t (.of 3)]
def F178:Fn:={ params:=[(.of 0),(.of 1)],res:=F178.res,body:=F178.b0,init:=in9 }
theorem F178.ok:fnA Tryz.prog Tryz.f178 [0,1,3,4,5,7,8,9,16]=some F178:=by kernel_rfl
abbrev F179.fr:=fr3
def F179.b0:IR:=(iSr [iQo 2 (.mv (.c (.bool false)))] (iSr [iSm 0,iSm 1,iCa 108 [aS1,aS0],.s (.bin .geq .int aS0 aC0),iQm 2 0] .ret))
def F179.res:List RV:=[.t (.of 2)]
def F179:Fn:={ params:=[(.of 0),(.of 1)],res:=F179.res,body:=F179.b0,init:=in3 }
theorem F179.ok:fnA Tryz.prog Tryz.f179 [0,1,4]=some F179:=by kernel_rfl
abbrev F180.fr:=fr3
def F180.b0:IR:=(iSr [iWl 1 (.box aT0),iQo 2 (.mv (.c (.bool false)))] (iSr [.s (.zu 0 aT1),.s (.zk 2 aS0),iCa 246 [aS0],.s (.mv aS0),iPf 0 (.zu 2 aT1),iPf 1 (.zk 2 aS0),.w .push (some (aS2,false)) (.call (.c (.fn 246 (.of 246) [])) [aS0]),.s (.pick aS3 (.c (.bool true)) aS0),iQm 2 0] .ret))
def F180.res:List RV:=[.t (.of 2)]
def F180:Fn:={ params:=[(.of 0)],res:=F180.res,body:=F180.b0,init:=in3 }
theorem F180.ok:fnA Tryz.prog Tryz.f180 [0,1,2]=some F180:=by kernel_rfl
abbrev F181.fr:=fr9
def F181.b0:IR:=(iSr [iQo 1 (.mv (.c .zf))] (iSr [iSm 0,.s (.len aS0),.w .push none (.bg 1 16 [(.str [])] aS0 aS0),iQm 2 0] (.seq (iSr [iQo 5 (.mv aT0),iQo 6 (.len aT5),iQo 7 (.mv aC0)] (.block 0 (.loop (iSr [iQo 8 (.bin .lss .int aT7 aT6)] (.seq (.cond aT8 .skip (.exit 0)) (.seq (.block 1 (iSr [iSm 7,.s (.zx 4 aT5 aT7),.s (.zk 4 aS0),iWl 4 (.alloc [(I 0),.zf,(I 0),.zf]),iQm 3 2,.w .none none (.store 4 aT4 aS0)] (.reg [iSm 2,iSm 3,.s (.zk 4 aT4),iCa 97 [aS0],.s (.zx 1 aS3 aS2),.w .none none (.store 1 aS0 aS1)]))) (.reg [.s (.bin .add .int aT7 aC1),iQm 7 0]))))))) (iSr [iSm 2,iQm 1 0] .ret))))
def F181.res:List RV:=[.t (.of 1)]
def F181:Fn:={ params:=[(.of 0)],res:=F181.res,body:=F181.b0,init:=in9 }
theorem F181.ok:fnA Tryz.prog Tryz.f181 [0,2,3,4,5,9,10,11,12]=some F181:=by kernel_rfl
abbrev fD.fr:=fr3
def fD.t0:IR:=.reg [iQo 2 (.mv (.c (.bool false)))]
def fD.t1:IR:=.reg [iSm 0,iSm 1,iCa 247 [aS1,aS0],.s (.bin .geq .int aS0 aC0),iQm 2 0]
def fD.t3:IR:=.seq fD.t0 (.seq fD.t1 .ret)
def fD.b0:IR:=fD.t3
def fD.res:List RV:=[.t (.of 2)]
def fD:Fn:={ params:=[(.of 0),(.of 1)],res:=fD.res,body:=fD.b0,init:=in3 }
theorem fD.ok:fnA Tryz.prog Tryz.f182 [0,1,4]=some fD:=by kernel_rfl
abbrev oG.fr:=fr2
def oG.b0:IR:=(iSr [iQo 1 (.mv aC0)] (iSr [iSm 0,iCa 87 [(.c (I (-999999999))),zhc,aS0],iQm 1 0] .ret))
def oG.res:List RV:=[.t (.of 1)]
def oG:Fn:={ params:=[(.of 0)],res:=oG.res,body:=oG.b0,init:=in2 }
theorem oG.ok:fnA Tryz.prog Tryz.f183 [0,2]=some oG:=by kernel_rfl
abbrev qm.fr:=fr8
def qm.b3:IR:=(iSr [iQo 6 (.bin .lss .int aT5 aT4)] (.seq (.cond aT6 .skip (.exit 0)) (.seq (.block 1 (iSr [iSm 5,iQm 3 0] (iSr [iSm 1,iSm 0,iSm 3,.s (.zx 1 aS1 aS0),.s (.load aS0),iWl 7 (.call aS4 [aS0])] (.cond aT7 (iSr [iSm 3,iQm 2 0] .ret) .skip)))) (.reg [.s (.bin .add .int aT5 aC1),iQm 5 0]))))
def qm.b2:IR:=(.loop qm.b3)
def qm.g1 (X2:IR):IR:=(.block 0 X2)
def qm.b1:IR:=qm.g1 qm.b2
def qm.b8:IR:=(iSr [iQo 2 (.mv (.c (I (-1))))] .ret)
def qm.b0:IR:=(iSr [iQo 2 (.mv aC0)] (.seq (iSr [iSm 0,iQo 4 (.len aS0),iQo 5 (.mv aC0)] qm.b1) qm.b8))
def qm.res:List RV:=[.t (.of 2)]
def qm:Fn:={ params:=[(.of 0),(.of 1)],res:=qm.res,body:=qm.b0,init:=in8 }
theorem qm.ok:fnA Tryz.prog Tryz.f184 [0,1,4,5,7,8,9,16]=some qm:=by kernel_rfl
abbrev oI.fr:=fr3
def oI.b0:IR:=(iSr [iQo 2 (.mv (.c (.bool false)))] (iSr [iSm 0,.s (.load aT1),.s (.zx 1 aS0 aC0),.s (.load aS0),.s (.bin .neq .int aS3 aS0),iQm 2 0] .ret))
def oI.res:List RV:=[.t (.of 2)]
def oI:Fn:={ params:=[(.of 0),(.of 1)],res:=oI.res,body:=oI.b0,init:=in3 }
theorem oI.ok:fnA Tryz.prog Tryz.f185 [0,1,3]=some oI:=by kernel_rfl
abbrev bW.fr:=fr3
def bW.t0:IR:=.reg [iWl 1 (.box aT0),iWl 2 (.alloc [(I 0),.zf,(I 0),.zf])]
def bW.t1:IR:=.jd [] [(.s (.zk 2 aT1),1,[]),(iCa 187 [aC1],0,[]),(.s (.build [(I 0),.zf,(I 0),.zf] [(0,2,aS1),(2,2,aS0)]),0,[]),(.w .none none (.store 4 aT2 aS0),0,[])]
def bW.t3:IR:=.seq bW.t0 (.seq bW.t1 .ret)
def bW.b0:IR:=bW.t3
def bW.res:List RV:=[.cell (.of 2) (some 4)]
def bW:Fn:={ params:=[(.of 0)],res:=bW.res,body:=bW.b0,init:=in3 }
theorem bW.ok:fnA Tryz.prog Tryz.f186 [0,1,2]=some bW:=by kernel_rfl
abbrev bT.fr:=fr2
def bT.t0:IR:=.reg [iWl 1 (.alloc [(I 0),.zf])]
def bT.t1:IR:=.reg [iSm 0,.s (.build [(I 0),.zf] [(0,1,aS0)]),.w .none none (.store 2 aT1 aS0)]
def bT.t3:IR:=.seq bT.t0 (.seq bT.t1 .ret)
def bT.b0:IR:=bT.t3
def bT.res:List RV:=[.cell (.of 1) (some 2)]
def bT:Fn:={ params:=[(.of 0)],res:=bT.res,body:=bT.b0,init:=in2 }
theorem bT.ok:fnA Tryz.prog Tryz.f187 [0,2]=some bT:=by kernel_rfl
abbrev F188.fr:=fr18
def F188.b0:IR:=(iSr [iWl 1 (.box aT0),iQo 2 (.mv (.c (.str [])))] (.seq (iSr [.s (.zu 1 aT1),.s (.load aS0),iQo 12 (.bin .eql (.nil .sl) aS0 (.c .zf))] (.cond nX (iSr [.s (.zu 0 aT1),.s (.load aS0),iCa 248 [aS0],iQm 2 0] .ret) .skip)) (iSr [.s (.zk 2 aT1),iCa 249 [aS0],.s (.mv aS0),.s (.ext 0 aS0),.s (.ext 1 aS1),iQm 3 1,iQm 4 0] (iSr [.w .push none (.yu 1 1 [(.int .u64 0)] [(0,1,(.c (.int .u64 1000000000000000000)))]),iQm 5 0] (iSr [iQo 6 (.mv (.c .zf))] (.seq (.block 0 (.loop (.seq (iSr [iSm 4,.s (.len aS0),iQo 13 (.bin .gtr .int aS0 aC0)] (.cond sO .skip (.exit 0))) (.block 1 (iSr [iSm 4,iSm 5,iCa 250 [aS1,aS0],.s (.mv aS0),.s (.ext 0 aS0),.s (.ext 1 aS1),iQm 7 1,iQm 8 0] (iSr [iQo 9 (.mv (.c (.str [48])))] (.seq (iSr [iSm 8,.s (.len aS0),iQo 14 (.bin .gtr .int aS0 aC0)] (.cond oQ (.reg [iSm 8,.s (.zx 1 aS0 aC0),.s (.load aS0),iCa 251 [aS0,aC10],iQm 9 0]) .skip)) (.seq (iSr [iSm 7,.s (.len aS0),iQo 15 (.bin .gtr .int aS0 aC0)] (.cond aO (.reg [iSm 9,.s (.slen aS0),.s (.bin .sub .int aC18 aS0),.w .push none (.call (.c (.fn 252 (.of 252) [])) [(.c (.str [48])),aS0]),iSm 9,.s (.bin .add .str aS1 aS0),iQm 9 0]) .skip)) (iSr [iSm 6,iSm 9,.w .push none (.yu 1 1 [(.str [])] [(0,1,aS0)]),.w .push none (.app 1 16 aS2 aS0),iQm 6 0] (.reg [iSm 7,iQm 4 0])))))))))) (iSr [iWl 10 (.alloc [.rX,.zf])] (.seq (iSr [iQo 16 (.mv aT3)] (.cond aT16 (.reg [.w .push none (.call (.c (.fn 253 (.of 253) [])) [nV,(.c (.str [45]))])]) .skip)) (.seq (iSr [iSm 6,.s (.len aS0),.s (.bin .sub .int aS0 aC1),iQm 11 0] (.block 2 (.loop (.seq (iSr [iSm 11,iQo 17 (.bin .geq .int aS0 aC0)] (.cond aW .skip (.exit 2))) (.seq (.block 3 (.reg [iSm 6,iSm 11,.s (.zx 1 aS1 aS0),.s (.load aS0),iCa 253 [nV,aS0]])) (.reg [iSm 11,.s (.bin .sub .int aS0 aC1),iQm 11 0])))))) (iSr [iCa 254 [nV],iQm 2 0] .ret))))))))))
def F188.res:List RV:=[.t (.of 2)]
def F188:Fn:={ params:=[(.of 0)],res:=F188.res,body:=F188.b0,init:=in18 }
theorem F188.ok:fnA Tryz.prog Tryz.f188 [0,1,2,3,4,5,6,7,8,9,10,11,14,26,35,42,54,60]=some F188:=by kernel_rfl
abbrev cZ.fr:=fr5
def cZ.t0:IR:=.reg [iWl 2 (.box aT0),iWl 3 (.box aT1),iWl 4 (.alloc [(I 0),.zf,(I 0),.zf])]
def cZ.t1:IR:=.jd [] [(.s (.zk 4 aT2),1,[]),(.s (.zk 4 aT3),0,[]),(iCa 107 [aS0],0,[]),(iCa 114 [aS2,aS0],0,[]),(.w .none none (.store 4 aT4 aS0),0,[])]
def cZ.t3:IR:=.seq cZ.t0 (.seq cZ.t1 .ret)
def cZ.b0:IR:=cZ.t3
def cZ.res:List RV:=[.cell (.of 4) (some 4)]
def cZ:Fn:={ params:=[(.of 0),(.of 1)],res:=cZ.res,body:=cZ.b0,init:=in5 }
theorem cZ.ok:fnA Tryz.prog Tryz.f192 [0,1,2,3,4]=some cZ:=by kernel_rfl
abbrev ku.fr:=fr6
def ku.t0:IR:=.reg [iWl 1 (.box aT0),iWl 2 (.alloc [(I 0),.zf])]
def ku.t1:IR:=.reg [.s (.zu 1 aT1),.s (.load aS0),.s (.bin .eql (.nil .sl) aS0 (.c .zf)),.s (.mv aS0),iPt 0 (.zu 0 aT1),iPt 1 (.load aS0),iPt 2 (.bin .neq .int aS0 (.c (I (-9223372036854775808)))),iQo 5 (.pick aS3 aS0 (.c (.bool false)))]
def ku.t2:IR:=.reg [.s (.zu 0 aT1),.s (.load aS0),.s (.neg aS0),.s (.build [(I 0),.zf] [(0,1,aS0)]),.w .none none (.store 2 aT2 aS0)]
def ku.t6:IR:=.reg [.s (.zk 2 aT1),iCa 249 [aS0],.s (.mv aS0),.s (.ext 0 aS0),.s (.ext 1 aS1),iQm 3 1,iQm 4 0]
def ku.t7:IR:=.reg [iSm 3,.s (.not aS0),iSm 4,iCa 257 [aS1,aS0],.w .none none (.store 2 aT2 aS0)]
def ku.t9:IR:=.seq ku.t6 (.seq ku.t7 .ret)
def ku.t11:IR:=.seq ku.t0 (.seq (.seq ku.t1 (.cond aT5 (.seq ku.t2 .ret) .skip)) ku.t9)
def ku.b0:IR:=ku.t11
def ku.res:List RV:=[.cell (.of 2) (some 2)]
def ku:Fn:={ params:=[(.of 0)],res:=ku.res,body:=ku.b0,init:=in6 }
theorem ku.ok:fnA Tryz.prog Tryz.f193 [0,1,2,3,4,12]=some ku:=by kernel_rfl
abbrev bU.fr:=fr3
def bU.t0:IR:=.reg [iWl 1 (.box aT0),iQo 2 (.mv aC0)]
def bU.t1:IR:=.reg [.s (.zu 0 aT1),.s (.load aS0),.s (.zak false aC1 [aS0]),.s (.zak true (.c (I (-1))) [aS0]),iQm 2 0]
def bU.t3:IR:=.seq bU.t0 (.seq bU.t1 .ret)
def bU.b0:IR:=bU.t3
def bU.res:List RV:=[.t (.of 2)]
def bU:Fn:={ params:=[(.of 0)],res:=bU.res,body:=bU.b0,init:=in3 }
theorem bU.ok:fnA Tryz.prog Tryz.f194 [0,1,2]=some bU:=by kernel_rfl
abbrev gu.fr:=fr8
def gu.t0:IR:=.reg [iWl 2 (.box aT0),iWl 3 (.box aT1),iWl 4 (.alloc [(I 0),.zf,(I 0),.zf])]
def gu.t1:IR:=.reg [.s (.zk 2 aT3),iCa 194 [aS0],iQo 6 (.bin .lss .int aS0 aC0)]
def gu.t2:IR:=.jd [] [(.s (.zk 2 aT2),0,[]),(.s (.zk 2 aT3),1,[]),(iCa 193 [aS1],0,[]),(iCa 193 [aS1],0,[]),(.w .none none (.store 2 aT2 aS1),0,[]),(.w .none none (.store 2 aT3 aS0),0,[])]
def gu.t5:IR:=.reg [.s (.zu 1 aT3),.s (.load aS0),.s (.bin .eql (.nil .sl) aS0 (.c .zf)),.s (.mv aS0),iPt 0 (.zu 0 aT3),iPt 1 (.load aS0),iPt 2 (.bin .eql .int aS0 aC1),iQo 7 (.pick aS3 aS0 (.c (.bool false)))]
def gu.t6:IR:=.reg [.s (.zk 2 aT2),.s (.zk 2 aT3),.s (.build [(I 0),.zf,(I 0),.zf] [(0,2,aS1),(2,2,aS0)]),.w .none none (.store 4 aT4 aS0)]
def gu.t10:IR:=.reg [.s (.zk 2 aT2),.s (.zk 2 aT3),iCa 258 [aS1,aS0],iWl 5 (.alloc [(I 0),.zf]),.w .none none (.store 2 aT5 aS0)]
def gu.t11:IR:=.jd [] [(.s (.zk 2 aT2),0,[]),(.s (.zk 2 aT5),0,[]),(.s (.zk 2 aT3),1,[]),(.s (.zk 2 aT5),1,[]),(iCa 259 [aS3,aS2],0,[]),(iCa 259 [aS2,aS1],0,[]),(.s (.build [(I 0),.zf,(I 0),.zf] [(0,2,aS1),(2,2,aS0)]),0,[]),(.w .none none (.store 4 aT4 aS0),0,[])]
def gu.t13:IR:=.seq gu.t10 (.seq gu.t11 .ret)
def gu.t14:IR:=.seq (.seq gu.t5 (.cond aT7 (.seq gu.t6 .ret) .skip)) gu.t13
def gu.t16:IR:=.seq gu.t0 (.seq (.seq gu.t1 (.cond aT6 gu.t2 .skip)) gu.t14)
def gu.b0:IR:=gu.t16
def gu.res:List RV:=[.cell (.of 4) (some 4)]
def gu:Fn:={ params:=[(.of 0),(.of 1)],res:=gu.res,body:=gu.b0,init:=in8 }
theorem gu.ok:fnA Tryz.prog Tryz.f195 [0,1,2,3,4,5,8,20]=some gu:=by kernel_rfl
abbrev jc.fr:=fr14
def jc.t0:IR:=.reg [iWl 2 (.box aT0),iWl 3 (.box aT1),iWl 4 (.alloc [(I 0),.zf])]
def jc.t1:IR:=.reg [.s (.zu 1 aT2),.s (.load aS0),.s (.bin .eql (.nil .sl) aS0 (.c .zf)),.s (.mv aS0),iPt 0 (.zu 1 aT3),iPt 1 (.load aS0),iPt 2 (.bin .eql (.nil .sl) aS0 (.c .zf)),iQo 10 (.pick aS3 aS0 (.c (.bool false)))]
def jc.t2:IR:=.reg [.s (.zu 0 aT2),.s (.load aS0),.s (.zu 0 aT3),.s (.load aS0),.s (.bin .add .int aS2 aS0),iQm 5 0]
def jc.t3:IR:=.reg [iSm 5,.s (.zu 0 aT2),.s (.load aS0),.s (.bin .gtr .int aS2 aS0),.s (.zu 0 aT3),.s (.load aS0),.s (.bin .gtr .int aS0 aC0),iQo 11 (.bin .eql .bool aS3 aS0)]
def jc.t4:IR:=.reg [iSm 5,.s (.build [(I 0),.zf] [(0,1,aS0)]),.w .none none (.store 2 aT4 aS0)]
def jc.t11:IR:=.reg [.s (.zk 2 aT2),iCa 249 [aS0],.s (.mv aS0),.s (.ext 0 aS0),.s (.ext 1 aS1),iQm 6 1,iQm 7 0]
def jc.t12:IR:=.reg [.s (.zk 2 aT3),iCa 249 [aS0],.s (.mv aS0),.s (.ext 0 aS0),.s (.ext 1 aS1),iQm 8 1,iQm 9 0]
def jc.t13:IR:=.reg [iSm 6,iSm 8,.s (.bin .eql .bool aS1 aS0),iQm 12 0]
def jc.t14:IR:=.reg [iSm 6,iSm 7,iSm 9,iCa 260 [aS1,aS0],iCa 257 [aS3,aS0],.w .none none (.store 2 aT4 aS0)]
def jc.t16:IR:=.reg [iSm 7,iSm 9,iCa 261 [aS1,aS0],.s (.bin .geq .int aS0 aC0),iQm 13 0]
def jc.t17:IR:=.reg [iSm 6,iSm 7,iSm 9,iCa 262 [aS1,aS0],iCa 257 [aS3,aS0],.w .none none (.store 2 aT4 aS0)]
def jc.t24:IR:=.reg [iSm 8,iSm 9,iSm 7,iCa 262 [aS1,aS0],iCa 257 [aS3,aS0],.w .none none (.store 2 aT4 aS0)]
def jc.t28:IR:=.seq jc.t11 (.seq jc.t12 (.seq (.block 0 (.seq jc.t13 (.cond nX (.seq jc.t14 .ret) (.seq jc.t16 (.cond sO (.seq jc.t17 .ret) .skip))))) (.seq jc.t24 .ret)))
def jc.t30:IR:=.seq jc.t0 (.seq (.seq jc.t1 (.cond nV (.seq jc.t2 (.seq jc.t3 (.cond rU (.seq jc.t4 .ret) .skip))) .skip)) jc.t28)
def jc.b0:IR:=jc.t30
def jc.res:List RV:=[.cell (.of 4) (some 2)]
def jc:Fn:={ params:=[(.of 0),(.of 1)],res:=jc.res,body:=jc.b0,init:=in14 }
theorem jc.ok:fnA Tryz.prog Tryz.f197 [0,1,2,3,4,5,6,7,8,9,17,30,43,52]=some jc:=by kernel_rfl
abbrev jf.fr:=fr14
def jf.t0:IR:=.reg [iWl 2 (.box aT0),iWl 3 (.box aT1),iWl 4 (.alloc [(I 0),.zf])]
def jf.t1:IR:=.reg [.s (.zu 1 aT2),.s (.load aS0),.s (.bin .eql (.nil .sl) aS0 (.c .zf)),.s (.mv aS0),iPt 0 (.zu 1 aT3),iPt 1 (.load aS0),iPt 2 (.bin .eql (.nil .sl) aS0 (.c .zf)),iQo 11 (.pick aS3 aS0 (.c (.bool false)))]
def jf.t2:IR:=.jd [] [(.s (.zu 0 aT2),0,[]),(.s (.load aS0),0,[]),(.s (.zu 0 aT3),1,[]),(.s (.load aS0),1,[]),(iCa 264 [aS2],0,[]),(iCa 264 [aS1],0,[]),(iCa 263 [aS1,aS0],0,[]),(.s (.mv aS0),0,[]),(.s (.ext 0 aS0),0,[]),(.s (.ext 1 aS1),0,[]),(iQm 5 1,0,[]),(iQm 6 0,0,[])]
def jf.t3:IR:=.reg [iSm 5,.s (.bin .eql .int aS0 (.c (.int .u64 0))),.s (.mv aS0),iPt 0 (.mv aT6),iPt 1 (.bin .leq .int aS0 (.c (.int .u64 9223372036854775807))),iQo 12 (.pick aS2 aS0 (.c (.bool false)))]
def jf.t4:IR:=.reg [.s (.zu 0 aT2),.s (.load aS0),.s (.bin .lss .int aS0 aC0),.s (.zu 0 aT3),.s (.load aS0),.s (.bin .lss .int aS0 aC0),iQo 13 (.bin .neq .bool aS3 aS0)]
def jf.t5:IR:=.reg [iSm 6,.s (.conv .i64 aS0),.s (.neg aS0),.s (.build [(I 0),.zf] [(0,1,aS0)]),.w .none none (.store 2 aT4 aS0)]
def jf.t9:IR:=.reg [iSm 6,.s (.conv .i64 aS0),.s (.build [(I 0),.zf] [(0,1,aS0)]),.w .none none (.store 2 aT4 aS0)]
def jf.t17:IR:=.reg [.s (.zk 2 aT2),iCa 249 [aS0],.s (.mv aS0),.s (.ext 0 aS0),.s (.ext 1 aS1),iQm 7 1,iQm 8 0]
def jf.t18:IR:=.reg [.s (.zk 2 aT3),iCa 249 [aS0],.s (.mv aS0),.s (.ext 0 aS0),.s (.ext 1 aS1),iQm 9 1,iQm 10 0]
def jf.t19:IR:=.reg [iSm 7,iSm 9,.s (.bin .neq .bool aS1 aS0),iSm 8,iSm 10,iCa 265 [aS1,aS0],iCa 257 [aS3,aS0],.w .none none (.store 2 aT4 aS0)]
def jf.t22:IR:=.seq jf.t17 (.seq jf.t18 (.seq jf.t19 .ret))
def jf.t24:IR:=.seq jf.t0 (.seq (.seq jf.t1 (.cond rU (.seq jf.t2 (.seq jf.t3 (.cond nX (.seq (.seq jf.t4 (.cond sO (.seq jf.t5 .ret) .skip)) (.seq jf.t9 .ret)) .skip))) .skip)) jf.t22)
def jf.b0:IR:=jf.t24
def jf.res:List RV:=[.cell (.of 4) (some 2)]
def jf:Fn:={ params:=[(.of 0),(.of 1)],res:=jf.res,body:=jf.b0,init:=in14 }
theorem jf.ok:fnA Tryz.prog Tryz.f198 [0,1,2,3,4,5,6,7,8,9,10,18,34,41]=some jf:=by kernel_rfl
abbrev jr.fr:=fr8
def jr.t0:IR:=.reg [iQo 2 (.mv aC0)]
def jr.t1:IR:=.reg [iSm 0,iQo 4 (.len aS0),iQo 5 (.mv aC0)]
def jr.t2:IR:=.reg [iQo 6 (.bin .lss .int aT5 aT4)]
def jr.t4:IR:=.reg [iSm 5,iQm 3 0]
def jr.t5:IR:=.reg [iSm 1,iSm 0,iSm 3,.s (.zx 8 aS1 aS0),.s (.zk 8 aS0),iWl 7 (.call aS4 [aS0])]
def jr.t6:IR:=.reg [iSm 3,iQm 2 0]
def jr.t12:IR:=.reg [.s (.bin .add .int aT5 aC1),iQm 5 0]
def jr.t15:IR:=.seq jr.t2 (.seq (.cond aT6 .skip (.exit 0)) (.seq (.block 1 (.seq jr.t4 (.seq jr.t5 (.cond aT7 (.seq jr.t6 .ret) .skip)))) jr.t12))
def jr.t16:IR:=.loop jr.t15
def jr.t19:IR:=.reg [iQo 2 (.mv (.c (I (-1))))]
def jr.t22:IR:=.seq jr.t0 (.seq (.seq jr.t1 (.block 0 jr.t16)) (.seq jr.t19 .ret))
def jr.b0:IR:=jr.t22
def jr.res:List RV:=[.t (.of 2)]
def jr:Fn:={ params:=[(.of 0),(.of 1)],res:=jr.res,body:=jr.b0,init:=in8 }
theorem jr.ok:fnA Tryz.prog Tryz.f199 [0,1,4,5,7,8,9,16]=some jr:=by kernel_rfl
abbrev fB.fr:=fr5
def fB.t0:IR:=.reg [iWl 2 (.box aT0),iWl 3 (.box aT1),iQo 4 (.mv aC0)]
def fB.t1:IR:=.jd [] [(.s (.zu 0 aT2),0,[]),(.s (.zk 2 aS0),0,[]),(.s (.zu 2 aT3),0,[]),(.s (.zk 2 aS0),0,[]),(.s (.zu 0 aT3),1,[]),(.s (.zk 2 aS0),1,[]),(.s (.zu 2 aT2),1,[]),(.s (.zk 2 aS0),1,[]),(iCa 198 [aS6,aS4],0,[]),(iCa 198 [aS3,aS1],0,[]),(iCa 229 [aS1,aS0],0,[]),(iQm 4 0,0,[])]
def fB.t3:IR:=.seq fB.t0 (.seq fB.t1 .ret)
def fB.b0:IR:=fB.t3
def fB.res:List RV:=[.t (.of 4)]
def fB:Fn:={ params:=[(.of 0),(.of 1)],res:=fB.res,body:=fB.b0,init:=in5 }
theorem fB.ok:fnA Tryz.prog Tryz.f200 [0,1,2,3,4]=some fB:=by kernel_rfl
abbrev yt.fr:=fr18
def yt.t0:IR:=.reg [iWl 2 (.box aT0),iWl 3 (.box aT1),iWl 4 (.alloc [(I 0),.zf]),iWl 5 (.alloc [(I 0),.zf])]
def yt.aI (r:List RO):List RO:=.s (.mv aS0)::iPt 0 (.zu 0 aT2)::iPt 1 (.load aS0)::iPt 2 (.bin .neq .int aS0 (.c (I (-9223372036854775808))))::iQo 15 (.pick aS3 aS0 (.c (.bool false)))::r
def yt.r1_1:List RO:=yt.aI []
def yt.aH (r:List RO):List RO:=.s (.zu 1 aT2)::.s (.load aS0)::.s (.bin .eql (.nil .sl) aS0 (.c .zf))::.s (.mv aS0)::iPt 0 (.zu 1 aT3)::iPt 1 (.load aS0)::iPt 2 (.bin .eql (.nil .sl) aS0 (.c .zf))::.s (.pick aS3 aS0 (.c (.bool false)))::r
def yt.eF:List RO:=yt.aH yt.r1_1
def yt.t1:IR:=.reg yt.eF
def yt.t2:IR:=.jd [] [(.s (.zu 0 aT2),0,[]),(.s (.load aS0),0,[]),(.s (.zu 0 aT3),0,[]),(.s (.load aS0),0,[]),(.s (.bin .quo .int aS2 aS0),0,[]),(.s (.zu 0 aT2),0,[]),(.s (.load aS0),0,[]),(.s (.zu 0 aT3),0,[]),(.s (.load aS0),0,[]),(.s (.bin .rem .int aS2 aS0),0,[]),(iQm 6 5,0,[]),(iQm 7 0,0,[])]
def yt.t3:IR:=.reg [iSm 7,iQo 16 (.bin .lss .int aS0 aC0)]
def yt.t4:IR:=.jd [] [(iSm 6,0,[]),(.s (.bin .sub .int aS0 aC1),0,[]),(iSm 7,0,[]),(.s (.zu 0 aT3),0,[]),(.s (.load aS0),0,[]),(.s (.bin .add .int aS2 aS0),0,[]),(iQm 6 4,0,[]),(iQm 7 0,0,[])]
def yt.t7:IR:=.reg [iSm 6,.s (.build [(I 0),.zf] [(0,1,aS0)]),iSm 7,.s (.build [(I 0),.zf] [(0,1,aS0)]),.w .none none (.store 2 aT4 aS2),.w .none none (.store 2 aT5 aS0)]
def yt.t13:IR:=.reg [.s (.zk 2 aT2),iCa 249 [aS0],.s (.mv aS0),.s (.ext 0 aS0),.s (.ext 1 aS1),iQm 8 1,iQm 9 0]
def yt.t14:IR:=.reg [.s (.zk 2 aT3),iCa 249 [aS0],.s (.mv aS0),.s (.ext 0 aS0),.s (.ext 1 aS1),.s (.mv aS1),iQm 10 1]
def yt.t15:IR:=.reg [iSm 9,iSm 10,iCa 250 [aS1,aS0],.s (.mv aS0),.s (.ext 0 aS0),.s (.ext 1 aS1),iQm 11 1,iQm 12 0]
def yt.t16:IR:=.reg [iSm 8,iSm 11,iCa 257 [aS1,aS0],iSm 8,iSm 12,iCa 257 [aS1,aS0],iWl 13 (.alloc [(I 0),.zf]),iWl 14 (.alloc [(I 0),.zf]),.w .none none (.store 2 sO aS3),.w .none none (.store 2 oQ aS0)]
def yt.t17:IR:=.reg [.s (.zk 2 oQ),iCa 194 [aS0],iQo 17 (.bin .lss .int aS0 aC0)]
def yt.t18:IR:=.jd [] [(.s (.zk 2 sO),1,[]),(.s (.zk 2 oQ),2,[]),(.s (.zk 2 aT3),2,[]),(iCa 187 [aC1],0,[]),(iCa 266 [aS3,aS0],0,[]),(iCa 197 [aS3,aS2],0,[]),(.w .none none (.store 2 sO aS1),0,[]),(.w .none none (.store 2 oQ aS0),0,[])]
def yt.t21:IR:=.jd [] [(.s (.zk 2 sO),0,[]),(.s (.zk 2 oQ),1,[]),(.w .none none (.store 2 aT4 aS1),0,[]),(.w .none none (.store 2 aT5 aS0),0,[])]
def yt.t22:IR:=.seq yt.t21 .ret
def yt.t27:IR:=.seq yt.t13 (.seq yt.t14 (.seq yt.t15 (.seq yt.t16 (.seq (.seq yt.t17 (.cond aW yt.t18 .skip)) yt.t22))))
def yt.t29:IR:=.seq yt.t0 (.seq (.seq yt.t1 (.cond aO (.seq yt.t2 (.seq (.seq yt.t3 (.cond aT16 yt.t4 .skip)) (.seq yt.t7 .ret))) .skip)) yt.t27)
def yt.b0:IR:=yt.t29
def yt.res:List RV:=[.cell (.of 4) (some 2),.cell (.of 5) (some 2)]
def yt:Fn:={ params:=[(.of 0),(.of 1)],res:=yt.res,body:=yt.b0,init:=in18 }
theorem yt.ok:fnA Tryz.prog Tryz.f201 [0,1,2,3,4,5,6,7,8,9,11,12,13,14,15,28,40,75]=some yt:=by kernel_rfl
abbrev xk.fr:=fr9
def xk.b3:IR:=(iSr [iQo 8 (.bin .lss .int aT7 aT6)] (.seq (.cond aT8 .skip (.exit 0)) (.seq (.block 1 (iSr [.s (.zx 1 aT5 aT7),.s (.load aS0),iQm 4 0] (.reg [iSm 3,iSm 1,iSm 4,.s (.zx 1 aS1 aS0),.s (.load aS0),.s (.bin .add .int aS4 aS0),iQm 3 0]))) (.reg [.s (.bin .add .int aT7 aC1),iQm 7 0]))))
def xk.b2:IR:=(.loop xk.b3)
def xk.g1 (X2:IR):IR:=(.block 0 X2)
def xk.b1:IR:=xk.g1 xk.b2
def xk.b8:IR:=(iSr [iSm 3,iQm 2 0] .ret)
def xk.b0:IR:=(iSr [iQo 2 (.mv aC0)] (iSr [iQo 3 (.mv aC0)] (.seq (iSr [iQo 5 (.mv aT0),iQo 6 (.len aT5),iQo 7 (.mv aC0)] xk.b1) xk.b8)))
def xk.res:List RV:=[.t (.of 2)]
def xk:Fn:={ params:=[(.of 0),(.of 1)],res:=xk.res,body:=xk.b0,init:=in9 }
theorem xk.ok:fnA Tryz.prog Tryz.f219 [0,1,4,5,7,8,9,10,11]=some xk:=by kernel_rfl
abbrev F220.fr:=fr3
def F220.b0:IR:=(iSr [iWl 1 (.box aT0),iQo 2 (.mv (.c (.bool false)))] (iSr [.s (.zu 1 aT1),.s (.load aS0),iCa 136 [aS0],iQm 2 0] .ret))
def F220.res:List RV:=[.t (.of 2)]
def F220:Fn:={ params:=[(.of 0)],res:=F220.res,body:=F220.b0,init:=in3 }
theorem F220.ok:fnA Tryz.prog Tryz.f220 [0,1,2]=some F220:=by kernel_rfl
abbrev F221.fr:=fr3
def F221.b0:IR:=(iSr [iWl 1 (.box aT0),iQo 2 (.mv (.c (.bool false)))] (iSr [.s (.zk 2 aT1),.w .push none (.call (.c (.fn 144 (.of 144) [])) [aS0,(.c (.str [115,101,109,105,109,97,103,105,99]))]),iQm 2 0] .ret))
def F221.res:List RV:=[.t (.of 2)]
def F221:Fn:={ params:=[(.of 0)],res:=F221.res,body:=F221.b0,init:=in3 }
theorem F221.ok:fnA Tryz.prog Tryz.f221 [0,1,2]=some F221:=by kernel_rfl
abbrev F222.fr:=fr3
def F222.b0:IR:=(iSr [iWl 1 (.box aT0),iQo 2 (.mv (.c (.bool false)))] (iSr [.s (.zk 2 aT1),.w .push none (.call (.c (.fn 144 (.of 144) [])) [aS0,(.c (.str [109,97,103,105,99]))]),iQm 2 0] .ret))
def F222.res:List RV:=[.t (.of 2)]
def F222:Fn:={ params:=[(.of 0)],res:=F222.res,body:=F222.b0,init:=in3 }
theorem F222.ok:fnA Tryz.prog Tryz.f222 [0,1,2]=some F222:=by kernel_rfl
abbrev F223.fr:=fr3
def F223.b0:IR:=(iSr [iWl 1 (.box aT0),iQo 2 (.mv (.c (.bool false)))] (iSr [.s (.zk 2 aT1),.w .push none (.call (.c (.fn 144 (.of 144) [])) [aS0,(.c (.str [112,97,110,100,105,97,103,111,110,97,108]))]),iQm 2 0] .ret))
def F223.res:List RV:=[.t (.of 2)]
def F223:Fn:={ params:=[(.of 0)],res:=F223.res,body:=F223.b0,init:=in3 }
theorem F223.ok:fnA Tryz.prog Tryz.f223 [0,1,2]=some F223:=by kernel_rfl
abbrev F224.fr:=fr3
def F224.b0:IR:=(iSr [iWl 1 (.box aT0),iQo 2 (.mv (.c (.bool false)))] (iSr [.s (.zk 2 aT1),.w .push none (.call (.c (.fn 144 (.of 144) [])) [aS0,(.c (.str [109,97,103,105,99]))]),.s (.mv aS0),iPt 0 (.zu 1 aT1),iPt 1 (.load aS0),iPt 2 (.len aS0),iPt 3 (.fn 273 (.of 273) [aT1]),.w .push (some (aS4,true)) (.call (.c (.fn 272 (.of 272) [])) [aS1,aS0]),.s (.pick aS5 aS0 (.c (.bool false))),iQm 2 0] .ret))
def F224.res:List RV:=[.t (.of 2)]
def F224:Fn:={ params:=[(.of 0)],res:=F224.res,body:=F224.b0,init:=in3 }
theorem F224.ok:fnA Tryz.prog Tryz.f224 [0,1,2]=some F224:=by kernel_rfl
abbrev F225.fr:=fr6
def F225.b0:IR:=(iSr [iWl 1 (.box aT0),iQo 2 (.mv (.c (.bool false)))] (.seq (iSr [.s (.zu 0 aT1),.s (.load aS0),.s (.bin .rem .int aS0 aC2),.s (.bin .eql .int aS0 aC1),.s (.mv aS0),iPf 0 (.zk 2 aT1),.w .push (some (aS1,false)) (.call (.c (.fn 144 (.of 144) [])) [aS0,(.c (.str [112,97,110,100,105,97,103,111,110,97,108]))]),iPf 2 (.not aS0),iQo 5 (.pick aS3 (.c (.bool true)) aS0)] (.cond aT5 (iSr [iQo 2 (.mv (.c (.bool false)))] .ret) .skip)) (iSr [.s (.fn 274 (.of 274) [aT1]),iWl 3 (.alloc [.fK]),.w .none none (.store 1 aT3 aS0)] (iSr [.s (.zu 1 aT1),.s (.load aS0),.s (.len aS0),.s (.fn 275 (.of 275) [aT1,aT3]),iCa 272 [aS1,aS0],iQm 4 0] (iSr [iSm 4,.s (.mv aS0),iPt 0 (.zu 1 aT1),iPt 1 (.load aS0),iPt 2 (.len aS0),iPt 3 (.fn 276 (.of 276) [aT1,aT3]),.w .push (some (aS4,true)) (.call (.c (.fn 272 (.of 272) [])) [aS1,aS0]),.s (.pick aS5 aS0 (.c (.bool false))),iQm 2 0] .ret)))))
def F225.res:List RV:=[.t (.of 2)]
def F225:Fn:={ params:=[(.of 0)],res:=F225.res,body:=F225.b0,init:=in6 }
theorem F225.ok:fnA Tryz.prog Tryz.f225 [0,1,2,3,4,13]=some F225:=by kernel_rfl
abbrev F226.fr:=fr6
def F226.b0:IR:=(iSr [iWl 1 (.box aT0),iQo 2 (.mv (.c (.bool false)))] (.seq (iSr [.s (.zu 0 aT1),.s (.load aS0),iQo 3 (.bin .lss .int aS0 aC5)] (.cond aT3 (iSr [iQo 2 (.mv (.c (.bool false)))] .ret) .skip)) (.seq (.block 0 (.loop (.seq (iSr [.s (.zu 0 aT1),.s (.load aS0),iQo 4 (.bin .geq .int aS0 aC3)] (.cond aT4 .skip (.exit 0))) (.seq (.block 1 (iSr [.s (.zk 2 aT1),.w .push none (.call (.c (.fn 144 (.of 144) [])) [aS0,(.c (.str [109,97,103,105,99]))]),iQo 5 (.not aS0)] (.cond aT5 (iSr [iQo 2 (.mv (.c (.bool false)))] .ret) .skip))) (.reg [.s (.zk 2 aT1),iCa 277 [aS0],.w .none none (.store 2 aT1 aS0)]))))) (iSr [iQo 2 (.mv (.c (.bool true)))] .ret))))
def F226.res:List RV:=[.t (.of 2)]
def F226:Fn:={ params:=[(.of 0)],res:=F226.res,body:=F226.b0,init:=in6 }
theorem F226.ok:fnA Tryz.prog Tryz.f226 [0,1,2,5,8,13]=some F226:=by kernel_rfl
abbrev F227.fr:=fr3
def F227.b0:IR:=(iSr [iWl 1 (.box aT0),iQo 2 (.mv (.c (.bool false)))] (iSr [.s (.zk 2 aT1),.w .push none (.call (.c (.fn 144 (.of 144) [])) [aS0,(.c (.str [109,97,103,105,99]))]),.s (.mv aS0),iPt 0 (.zk 2 aT1),.w .push (some (aS1,true)) (.call (.c (.fn 145 (.of 145) [])) [aS0,aC2]),.s (.pick aS2 aS0 (.c (.bool false))),iQm 2 0] .ret))
def F227.res:List RV:=[.t (.of 2)]
def F227:Fn:={ params:=[(.of 0)],res:=F227.res,body:=F227.b0,init:=in3 }
theorem F227.ok:fnA Tryz.prog Tryz.f227 [0,1,2]=some F227:=by kernel_rfl
abbrev F228.fr:=fr8
def F228.b0:IR:=(iSr [iWl 2 (.box aT0),iWl 3 (.alloc [(I 0),.zf])] (iSr [iCa 187 [aC1],iWl 4 (.alloc [(I 0),.zf]),.w .none none (.store 2 aT4 aS0)] (.seq (.block 0 (.loop (.seq (iSr [iSm 1,iQo 5 (.bin .gtr .int aS0 aC0)] (.cond aT5 .skip (.exit 0))) (.seq (.block 1 (.seq (iSr [iSm 1,.s (.bin .and .int aS0 aC1),iQo 6 (.bin .eql .int aS0 aC1)] (.cond aT6 (.reg [.s (.zk 2 aT4),.s (.zk 2 aT2),iCa 198 [aS1,aS0],.w .none none (.store 2 aT4 aS0)]) .skip)) (iSr [iSm 1,iQo 7 (.bin .gtr .int aS0 aC1)] (.cond aT7 (.reg [.s (.zk 2 aT2),.s (.zk 2 aT2),iCa 198 [aS1,aS0],.w .none none (.store 2 aT2 aS0)]) .skip)))) (.reg [iSm 1,.s (.bin .shr .int aS0 (.c (.int .u64 1))),iQm 1 0]))))) (iSr [.s (.zk 2 aT4),.w .none none (.store 2 aT3 aS0)] .ret))))
def F228.res:List RV:=[.cell (.of 3) (some 2)]
def F228:Fn:={ params:=[(.of 0),(.of 1)],res:=F228.res,body:=F228.b0,init:=in8 }
theorem F228.ok:fnA Tryz.prog Tryz.f228 [0,1,2,4,5,8,13,18]=some F228:=by kernel_rfl
abbrev jo.fr:=fr8
def jo.t0:IR:=.reg [iWl 2 (.box aT0),iWl 3 (.box aT1),iQo 4 (.mv aC0)]
def jo.t1:IR:=.reg [.s (.zu 1 aT2),.s (.load aS0),.s (.bin .eql (.nil .sl) aS0 (.c .zf)),.s (.mv aS0),iPt 0 (.zu 1 aT3),iPt 1 (.load aS0),iPt 2 (.bin .eql (.nil .sl) aS0 (.c .zf)),iQo 5 (.pick aS3 aS0 (.c (.bool false)))]
def jo.t2:IR:=.reg [.s (.zu 0 aT2),.s (.load aS0),.s (.zu 0 aT3),.s (.load aS0),.s (.bin .lss .int aS2 aS0),iQm 6 0]
def jo.t3:IR:=.reg [iQo 4 (.mv (.c (I (-1))))]
def jo.t5:IR:=.reg [.s (.zu 0 aT2),.s (.load aS0),.s (.zu 0 aT3),.s (.load aS0),.s (.bin .gtr .int aS2 aS0),iQm 7 0]
def jo.t6:IR:=.reg [iQo 4 (.mv aC1)]
def jo.t13:IR:=.reg [iQo 4 (.mv aC0)]
def jo.t18:IR:=.reg [.s (.zk 2 aT2),.s (.zk 2 aT3),iCa 266 [aS1,aS0],iCa 194 [aS0],iQm 4 0]
def jo.t19:IR:=.seq jo.t18 .ret
def jo.t21:IR:=.seq jo.t0 (.seq (.seq jo.t1 (.cond aT5 (.seq (.block 0 (.seq jo.t2 (.cond aT6 (.seq jo.t3 .ret) (.seq jo.t5 (.cond aT7 (.seq jo.t6 .ret) .skip))))) (.seq jo.t13 .ret)) .skip)) jo.t19)
def jo.b0:IR:=jo.t21
def jo.res:List RV:=[.t (.of 4)]
def jo:Fn:={ params:=[(.of 0),(.of 1)],res:=jo.res,body:=jo.b0,init:=in8 }
theorem jo.ok:fnA Tryz.prog Tryz.f229 [0,1,2,3,4,12,13,19]=some jo:=by kernel_rfl
abbrev F234.fr:=fr8
def F234.b0:IR:=(iSr [iQo 2 (.mv aC0)] (.seq (iSr [iSm 0,iQo 4 (.len aS0),iQo 5 (.mv aC0)] (.block 0 (.loop (iSr [iQo 6 (.bin .lss .int aT5 aT4)] (.seq (.cond aT6 .skip (.exit 0)) (.seq (.block 1 (iSr [iSm 5,iQm 3 0] (iSr [iSm 1,iSm 0,iSm 3,.s (.zx 1 aS1 aS0),.s (.load aS0),iQo 7 (.bin .eql .str aS4 aS0)] (.cond aT7 (iSr [iSm 3,iQm 2 0] .ret) .skip)))) (.reg [.s (.bin .add .int aT5 aC1),iQm 5 0]))))))) (iSr [iQo 2 (.mv (.c (I (-1))))] .ret)))
def F234.res:List RV:=[.t (.of 2)]
def F234:Fn:={ params:=[(.of 0),(.of 1)],res:=F234.res,body:=F234.b0,init:=in8 }
theorem F234.ok:fnA Tryz.prog Tryz.f234 [0,1,4,5,7,8,9,16]=some F234:=by kernel_rfl
abbrev F235.fr:=fr15
def F235.b0:IR:=(iSr [iQo 1 (.mv (.c .zf))] (iSr [iQo 2 (.mv aC0)] (.seq (iSr [iQo 6 (.mv aT0),iQo 7 (.len aT6),iQo 8 (.mv aC0)] (.block 0 (.loop (iSr [iQo 9 (.bin .lss .int aT8 aT7)] (.seq (.cond aT9 .skip (.exit 0)) (.seq (.block 1 (iSr [.s (.zx 1 aT6 aT8),.s (.load aS0),iQm 3 0] (iSr [iSm 2,iSm 3,.s (.len aS0),.s (.bin .add .int aS2 aS0),iQm 2 0] (iSr [iSm 2,iQo 10 (.bin .lss .int aS0 aC0)] (.cond nV (.bad 7) .skip))))) (.reg [.s (.bin .add .int aT8 aC1),iQm 8 0]))))))) (iSr [iSm 2,iCa 278 [(.c .zf),aS0],iQm 4 0] (.seq (iSr [iQo 11 (.mv aT0),iQo 12 (.len rU),iQo 13 (.mv aC0)] (.block 2 (.loop (iSr [iQo 14 (.bin .lss .int sO nX)] (.seq (.cond oQ .skip (.exit 2)) (.seq (.block 3 (iSr [.s (.zx 1 rU sO),.s (.load aS0),iQm 5 0] (.reg [iSm 4,iSm 5,.w .push none (.app 1 24 aS1 aS0),iQm 4 0]))) (.reg [.s (.bin .add .int sO aC1),iQm 13 0]))))))) (iSr [iSm 4,iQm 1 0] .ret))))))
def F235.res:List RV:=[.t (.of 1)]
def F235:Fn:={ params:=[(.of 0)],res:=F235.res,body:=F235.b0,init:=in15 }
theorem F235.ok:fnA Tryz.prog Tryz.f235 [0,2,3,5,6,8,9,10,11,12,20,25,26,27,28]=some F235:=by kernel_rfl
abbrev F236.fr:=fr5
def F236.b0:IR:=(iSr [iWl 2 (.box aT0),iWl 3 (.box aT1),iQo 4 (.mv (.c .fK))] (iSr [.s (.fn 279 (.of 279) [aT2,aT3]),iQm 4 0] .ret))
def F236.res:List RV:=[.t (.of 4)]
def F236:Fn:={ params:=[(.of 0),(.of 1)],res:=F236.res,body:=F236.b0,init:=in5 }
theorem F236.ok:fnA Tryz.prog Tryz.f236 [0,1,2,3,4]=some F236:=by kernel_rfl
abbrev F237.fr:=fr8
def F237.b0:IR:=(iSr [iQo 1 (.mv (.c (.str [])))] (iSr [iQo 2 (.mv (.c .zf))] (.seq (iSr [iQo 4 (.mv aT0),iQo 5 (.len aT4),iQo 6 (.mv aC0)] (.block 0 (.loop (iSr [iQo 7 (.bin .lss .int aT6 aT5)] (.seq (.cond aT7 .skip (.exit 0)) (.seq (.block 1 (iSr [.s (.zx 1 aT4 aT6),.s (.load aS0),iQm 3 0] (.reg [iSm 2,iSm 3,iCa 248 [aS0],.w .push none (.yu 1 1 [(.str [])] [(0,1,aS0)]),.w .push none (.app 1 16 aS3 aS0),iQm 2 0]))) (.reg [.s (.bin .add .int aT6 aC1),iQm 6 0]))))))) (iSr [iSm 2,.w .push none (.call (.c (.fn 281 (.of 281) [])) [aS0,(.c (.str [32]))]),iQm 1 0] .ret))))
def F237.res:List RV:=[.t (.of 1)]
def F237:Fn:={ params:=[(.of 0)],res:=F237.res,body:=F237.b0,init:=in8 }
theorem F237.ok:fnA Tryz.prog Tryz.f237 [0,2,3,5,6,7,8,9]=some F237:=by kernel_rfl
abbrev F238.fr:=fr4
def F238.b0:IR:=(iSr [iQo 3 (.mv aC0)] (iSr [.s (.load aT1),.s (.load aT2),.s (.bin .mul .int aS1 aS0),iSm 0,.s (.bin .add .int aS1 aS0),iQm 3 0] .ret))
def F238.res:List RV:=[.t (.of 3)]
def F238:Fn:={ params:=[(.of 0),(.of 1),(.of 2)],res:=F238.res,body:=F238.b0,init:=in4 }
theorem F238.ok:fnA Tryz.prog Tryz.f238 [0,1,2,4]=some F238:=by kernel_rfl
abbrev F239.fr:=fr4
def F239.b0:IR:=(iSr [iQo 3 (.mv aC0)] (iSr [.s (.load aT1),iSm 0,.s (.bin .mul .int aS1 aS0),.s (.load aT2),.s (.bin .add .int aS1 aS0),iQm 3 0] .ret))
def F239.res:List RV:=[.t (.of 3)]
def F239:Fn:={ params:=[(.of 0),(.of 1),(.of 2)],res:=F239.res,body:=F239.b0,init:=in4 }
theorem F239.ok:fnA Tryz.prog Tryz.f239 [0,1,2,4]=some F239:=by kernel_rfl
abbrev oC.fr:=fr2
def oC.b0:IR:=(iSr [iQo 1 (.mv (.c .zf))] (iSr [iSm 0,iCa 282 [(.c .zf),aS0],iQm 1 0] .ret))
def oC.res:List RV:=[.t (.of 1)]
def oC:Fn:={ params:=[(.of 0)],res:=oC.res,body:=oC.b0,init:=in2 }
theorem oC.ok:fnA Tryz.prog Tryz.f242 [0,2]=some oC:=by kernel_rfl
abbrev F243.fr:=fr2
def F243.b0:IR:=(iSr [iSm 0,.s (.len aS0),iQm 1 0] (.reg [iSm 0,iSm 1,iSm 1,.s (.conv .u64 aS0),iCa 284 [aS0],iCa 283 [aS4,aC0,aS3,aS0]]))
def F243.res:List RV:=[]
def F243:Fn:={ params:=[(.of 0)],res:=F243.res,body:=F243.b0,init:=in2 }
theorem F243.ok:fnA Tryz.prog Tryz.f243 [0,2]=some F243:=by kernel_rfl
abbrev di.fr:=fr8
def di.b3:IR:=(iSr [iQo 6 (.bin .lss .int aT5 aT4)] (.seq (.cond aT6 .skip (.exit 0)) (.seq (.block 1 (iSr [.s (.zx 1 aT3 aT5),.s (.load aS0),iQm 2 0] (iSr [iSm 0,iSm 2,.w .push none (.call aS1 [aS0]),iQo 7 (.not aS0)] (.cond aT7 .ret .skip)))) (.reg [.s (.bin .add .int aT5 aC1),iQm 5 0]))))
def di.b2:IR:=(.loop di.b3)
def di.g1 (X2:IR):IR:=(.block 0 X2)
def di.b1:IR:=di.g1 di.b2
def di.b0:IR:=(iSr [iQo 3 (.load aT1),iQo 4 (.len aT3),iQo 5 (.mv aC0)] di.b1)
def di.res:List RV:=[]
def di:Fn:={ params:=[(.of 0),(.of 1)],res:=di.res,body:=di.b0,init:=in8 }
theorem di.ok:fnA Tryz.prog Tryz.f244 [0,1,4,5,6,7,8,14]=some di:=by kernel_rfl
abbrev qy.fr:=fr8
def qy.b3:IR:=(iSr [iQo 6 (.bin .lss .int aT5 aT4)] (.seq (.cond aT6 .skip (.exit 0)) (.seq (.block 1 (iSr [iSm 5,iQm 3 0] (iSr [iSm 1,iSm 0,iSm 3,.s (.zx 1 aS1 aS0),.s (.load aS0),iWl 7 (.call aS4 [aS0])] (.cond aT7 (iSr [iSm 3,iQm 2 0] .ret) .skip)))) (.reg [.s (.bin .add .int aT5 aC1),iQm 5 0]))))
def qy.b2:IR:=(.loop qy.b3)
def qy.g1 (X2:IR):IR:=(.block 0 X2)
def qy.b1:IR:=qy.g1 qy.b2
def qy.b8:IR:=(iSr [iQo 2 (.mv (.c (I (-1))))] .ret)
def qy.b0:IR:=(iSr [iQo 2 (.mv aC0)] (.seq (iSr [iSm 0,iQo 4 (.len aS0),iQo 5 (.mv aC0)] qy.b1) qy.b8))
def qy.res:List RV:=[.t (.of 2)]
def qy:Fn:={ params:=[(.of 0),(.of 1)],res:=qy.res,body:=qy.b0,init:=in8 }
theorem qy.ok:fnA Tryz.prog Tryz.f245 [0,1,4,5,7,8,9,16]=some qy:=by kernel_rfl
abbrev F246.fr:=fr3
def F246.b0:IR:=(iSr [iWl 1 (.box aT0),iQo 2 (.mv (.c (.bool false)))] (iSr [.s (.zk 2 aT1),iCa 285 [aS0],.s (.bin .gtr .int aS0 zym),.s (.mv aS0),iPt 0 (.zk 2 aT1),.w .push (some (aS1,true)) (.call (.c (.fn 188 (.of 188) [])) [aS0]),.w .push (some (aS2,true)) (.call (.c (.fn 286 (.of 286) [])) [aS0,(.c (.str [45]))]),iPt 3 (.slen aS0),iPt 4 (.bin .gtr .int aS0 qbr),.s (.pick aS5 aS0 (.c (.bool false))),iQm 2 0] .ret))
def F246.res:List RV:=[.t (.of 2)]
def F246:Fn:={ params:=[(.of 0)],res:=F246.res,body:=F246.b0,init:=in3 }
theorem F246.ok:fnA Tryz.prog Tryz.f246 [0,1,2]=some F246:=by kernel_rfl
abbrev jq.fr:=fr8
def jq.t0:IR:=.reg [iQo 2 (.mv aC0)]
def jq.t1:IR:=.reg [iSm 0,iQo 4 (.len aS0),iQo 5 (.mv aC0)]
def jq.t2:IR:=.reg [iQo 6 (.bin .lss .int aT5 aT4)]
def jq.t4:IR:=.reg [iSm 5,iQm 3 0]
def jq.t5:IR:=.reg [iSm 1,iSm 0,iSm 3,.s (.zx 1 aS1 aS0),.s (.load aS0),iQo 7 (.bin .eql .int aS4 aS0)]
def jq.t6:IR:=.reg [iSm 3,iQm 2 0]
def jq.t12:IR:=.reg [.s (.bin .add .int aT5 aC1),iQm 5 0]
def jq.t15:IR:=.seq jq.t2 (.seq (.cond aT6 .skip (.exit 0)) (.seq (.block 1 (.seq jq.t4 (.seq jq.t5 (.cond aT7 (.seq jq.t6 .ret) .skip)))) jq.t12))
def jq.t16:IR:=.loop jq.t15
def jq.t19:IR:=.reg [iQo 2 (.mv (.c (I (-1))))]
def jq.t22:IR:=.seq jq.t0 (.seq (.seq jq.t1 (.block 0 jq.t16)) (.seq jq.t19 .ret))
def jq.b0:IR:=jq.t22
def jq.res:List RV:=[.t (.of 2)]
def jq:Fn:={ params:=[(.of 0),(.of 1)],res:=jq.res,body:=jq.b0,init:=in8 }
theorem jq.ok:fnA Tryz.prog Tryz.f247 [0,1,4,5,7,8,9,16]=some jq:=by kernel_rfl
abbrev F248.fr:=fr2
def F248.b0:IR:=(iSr [iQo 1 (.mv (.c (.str [])))] (iSr [iSm 0,iCa 287 [aS0],iQm 1 0] .ret))
def F248.res:List RV:=[.t (.of 1)]
def F248:Fn:={ params:=[(.of 0)],res:=F248.res,body:=F248.b0,init:=in2 }
theorem F248.ok:fnA Tryz.prog Tryz.f248 [0,2]=some F248:=by kernel_rfl
abbrev uq.fr:=fr6
def uq.t0:IR:=.reg [iWl 1 (.box aT0),iQo 2 (.mv (.c (.bool false))),iQo 3 (.mv (.c .zf))]
def uq.t1:IR:=.reg [.s (.zu 1 aT1),.s (.load aS0),.s (.bin .neq (.nil .sl) aS0 (.c .zf)),iQm 4 0]
def uq.t2:IR:=.jd [] [(.s (.zu 0 aT1),0,[]),(.s (.load aS0),0,[]),(.s (.bin .lss .int aS0 aC0),0,[]),(.s (.zu 1 aT1),0,[]),(.s (.load aS0),0,[]),(iQm 2 2,0,[]),(iQm 3 0,0,[])]
def uq.t4:IR:=.reg [.s (.zu 0 aT1),.s (.load aS0),.s (.bin .eql .int aS0 aC0),iQm 5 0]
def uq.t5:IR:=.reg [iQo 2 (.mv (.c (.bool false))),iQo 3 (.mv (.c .zf))]
def uq.t12:IR:=.jd [] [(.s (.zu 0 aT1),2,[]),(.s (.load aS0),2,[]),(.s (.bin .lss .int aS0 aC0),2,[]),(.s (.zu 0 aT1),0,[]),(.s (.load aS0),0,[]),(iCa 264 [aS0],0,[]),(iQm 2 3,1,[]),(.w .push none (.yu 1 1 [(.int .u64 0)] [(0,1,aS0)]),0,[]),(iQm 3 0,0,[])]
def uq.t15:IR:=.seq uq.t0 (.seq (.block 0 (.seq uq.t1 (.cond aT4 (.seq uq.t2 .ret) (.seq uq.t4 (.cond aT5 (.seq uq.t5 .ret) .skip))))) (.seq uq.t12 .ret))
def uq.b0:IR:=uq.t15
def uq.res:List RV:=[.t (.of 2),.t (.of 3)]
def uq:Fn:={ params:=[(.of 0)],res:=uq.res,body:=uq.b0,init:=in6 }
theorem uq.ok:fnA Tryz.prog Tryz.f249 [0,1,2,3,4,13]=some uq:=by kernel_rfl
end
end Go.Ev
