import Derived.Test.YtfgpjkchdelphaaGreatDoorIrA
import Derived.Test.YtfgpjkchdelphaaGreatDoorEvC
import Derived.Test.YtfgpjkchdelphaaGreatDoorProg
import Derived.KernelRfl
set_option linter.unusedSimpArgs false
set_option linter.unusedVariables false
namespace Go.Ev
open Go Go.Proofs
set_option maxRecDepth 100000
noncomputable section

abbrev zn.fr:=fr22
def zn.t0:IR:=.reg [iQo 2 (.mv (.c .zf)),iQo 3 (.mv (.c .zf))]
def zn.t1:IR:=.reg [iSm 0,iSm 1,iCa 261 [aS1,aS0],iQo 14 (.bin .lss .int aS0 aC0)]
def zn.t2:IR:=.reg [iSm 0,iQo 2 (.mv (.c .zf)),iQm 3 0]
def zn.t6:IR:=.reg [iSm 1,.s (.len aS0),iQo 15 (.bin .eql .int aS0 aC1)]
def zn.t7:IR:=.reg [iSm 0,.s (.len aS0),.w .push none (.bg 1 8 [(.int .u64 0)] aS0 aS0),iQm 4 0]
def zn.t8:IR:=.reg [iQo 5 (.mv (.c (.int .u64 0)))]
def zn.t9:IR:=.reg [iSm 0,.s (.len aS0),.s (.bin .sub .int aS0 aC1),iQm 6 0]
def zn.t10:IR:=.reg [iSm 6,iQo 16 (.bin .geq .int aS0 aC0)]
def zn.t13:IR:=.jd [] [(iSm 4,1,[]),(iSm 6,1,[]),(iSm 5,0,[]),(iSm 0,0,[]),(iSm 6,0,[]),(.s (.zx 1 aS1 aS0),0,[]),(.s (.load aS0),0,[]),(iSm 1,0,[]),(.s (.zx 1 aS0 aC0),0,[]),(.s (.load aS0),0,[]),(iCa 288 [aS7,aS3,aS0],0,[]),(.s (.mv aS0),0,[]),(.s (.ext 0 aS0),0,[]),(.s (.ext 1 aS1),1,[]),(.s (.zx 1 aS13 aS12),0,[]),(.w .none none (.store 1 aS0 aS2),0,[]),(iQm 5 1,0,[])]
def zn.t15:IR:=.reg [iSm 6,.s (.bin .sub .int aS0 aC1),iQm 6 0]
def zn.t17:IR:=.seq (.seq zn.t10 (.cond aT16 .skip (.exit 0))) (.seq (.block 1 zn.t13) zn.t15)
def zn.t18:IR:=.loop zn.t17
def zn.t21:IR:=.reg [iSm 4,iCa 289 [aS0],iSm 5,.w .push none (.yu 1 1 [(.int .u64 0)] [(0,1,aS0)]),iCa 289 [aS0],iQm 2 3,iQm 3 0]
def zn.t25:IR:=.seq zn.t7 (.seq zn.t8 (.seq (.seq zn.t9 (.block 0 zn.t18)) (.seq zn.t21 .ret)))
def zn.t28:IR:=.reg [iSm 1,iSm 1,.s (.len aS0),.s (.bin .sub .int aS0 aC1),.s (.zx 1 aS3 aS0),.s (.load aS0),iCa 290 [aS0],iQm 7 0]
def zn.t29:IR:=.reg [iSm 1,iSm 7,iCa 291 [aS1,aS0],iCa 289 [aS0],iQm 8 0]
def zn.t30:IR:=.reg [iSm 0,iSm 7,iCa 291 [aS1,aS0],iQm 9 0]
def zn.t31:IR:=.reg [iSm 8,.s (.len aS0),iQm 10 0]
def zn.t32:IR:=.reg [iSm 0,.s (.len aS0),iSm 10,.s (.bin .sub .int aS1 aS0),.s (.bin .add .int aS0 aC1),.w .push none (.bg 1 8 [(.int .u64 0)] aS0 aS0),iQm 11 0]
def zn.t33:IR:=.reg [iSm 0,.s (.len aS0),iSm 10,.s (.bin .sub .int aS1 aS0),iQm 12 0]
def zn.t34:IR:=.reg [iSm 12,iQo 17 (.bin .geq .int aS0 aC0)]
def zn.znm (r:List RO):List RO:=.s (.zx 1 tJ aS9)::.w .none none (.store 1 aS0 aS1)::r
def zn.zv1:List RO:=zn.znm []
def zn.za8 (r:List RO):List RO:=.s (.slice 1 aS5 (some aS4) (some aS0) none)::iSm 8::iCa 292 [aS1,aS0]::r
def zn.zdz:List RO:=zn.za8 zn.zv1
def zn.za7 (r:List RO):List RO:=iSm 11::iSm 12::iSm 9::iSm 12::iSm 12::iSm 10::.s (.bin .add .int aS1 aS0)::.s (.bin .add .int aS0 aC1)::r
def zn.za6:List RO:=zn.za7 zn.zdz
def zn.t37:IR:=.reg zn.za6
def zn.t39:IR:=.reg [iSm 12,.s (.bin .sub .int aS0 aC1),iQm 12 0]
def zn.t41:IR:=.seq (.seq zn.t34 (.cond aW .skip (.exit 2))) (.seq (.block 3 zn.t37) zn.t39)
def zn.t42:IR:=.loop zn.t41
def zn.t45:IR:=.reg [iQo 18 (.mv nV),iQo 19 (.mv aC0)]
def zn.t46:IR:=.reg [iQo 20 (.bin .lss .int aT19 oU)]
def zn.t48:IR:=.reg [iSm 19,iQm 13 0]
def zn.t49:IR:=.reg [iSm 9,iSm 13,.s (.zx 1 aS1 aS0),.s (.load aS0),iSm 7,.s (.bin .shr .int aS1 aS0),.s (.zx 1 aS5 aS4),.w .none none (.store 1 aS0 aS1)]
def zn.znp (r:List RO):List RO:=iQo 21 (.pick aS5 aS0 (.c (.bool false)))::r
def zn.zp8:List RO:=zn.znp []
def zn.zno (r:List RO):List RO:=iSm 7::.s (.bin .gtr .int aS0 aC0)::.s (.mv aS0)::iPt 0 (.mv sO)::iPt 1 (.bin .add .int aS0 aC1)::iPt 2 (.mv aT9)::iPt 3 (.len aS0)::iPt 4 (.bin .lss .int aS2 aS0)::r
def zn.znn:List RO:=zn.zno zn.zp8
def zn.t50:IR:=.reg zn.znn
def zn.zbb (r:List RO):List RO:=.s (.load aS0)::iSm 7::.s (.bin .sub .int aC64 aS0)::.s (.bin .shl .int aS2 aS0)::.s (.bin .or .int aS8 aS0)::.s (.zx 1 aS12 aS11)::.w .none none (.store 1 aS0 aS1)::r
def zn.zco:List RO:=zn.zbb []
def zn.zba (r:List RO):List RO:=iSm 9::iSm 13::.s (.zx 1 aS1 aS0)::.s (.load aS0)::iSm 9::iSm 13::.s (.bin .add .int aS0 aC1)::.s (.zx 1 aS2 aS0)::r
def zn.za9:List RO:=zn.zba zn.zco
def zn.t51:IR:=.jd [] (zn.za9.map fun o=>(o,0,[]))
def zn.t57:IR:=.reg [.s (.bin .add .int aT19 aC1),iQm 19 0]
def zn.t60:IR:=.seq zn.t46 (.seq (.cond aT20 .skip (.exit 4)) (.seq (.block 5 (.seq zn.t48 (.seq zn.t49 (.seq zn.t50 (.cond aT21 zn.t51 .skip))))) zn.t57))
def zn.t61:IR:=.loop zn.t60
def zn.t64:IR:=.jd [] [(iSm 11,0,[]),(iSm 9,1,[]),(iSm 10,1,[]),(.s (.slice 1 aS1 none (some aS0) none),1,[]),(iCa 289 [aS3],0,[]),(iCa 289 [aS1],0,[]),(iQm 2 1,0,[]),(iQm 3 0,0,[])]
def zn.t66:IR:=.seq (.seq zn.t45 (.block 4 zn.t61)) (.seq zn.t64 .ret)
def zn.t72:IR:=.seq zn.t28 (.seq zn.t29 (.seq zn.t30 (.seq zn.t31 (.seq zn.t32 (.seq (.seq zn.t33 (.block 2 zn.t42)) zn.t66)))))
def zn.t75:IR:=.seq zn.t0 (.seq (.seq zn.t1 (.cond oQ (.seq zn.t2 .ret) .skip)) (.seq (.seq zn.t6 (.cond aO zn.t25 .skip)) zn.t72))
def zn.b0:IR:=zn.t75
def zn.res:List RV:=[.t (.of 2),.t (.of 3)]
def zn:Fn:={ params:=[(.of 0),(.of 1)],res:=zn.res,body:=zn.b0,init:=in22 }
theorem zn.ok:fnA Tryz.prog Tryz.f250 [0,1,4,5,6,7,8,9,10,11,12,13,14,15,19,23,31,81,96,97,98,115]=some zn:=by kernel_rfl
abbrev yw.fr:=fr7
def yw.t0:IR:=.reg [iWl 2 (.alloc [(I 0),.zf])]
def yw.t1:IR:=.reg [iSm 1,.s (.len aS0),.s (.bin .eql .int aS0 aC0),iQm 3 0]
def yw.t2:IR:=.reg [.s (.build [(I 0),.zf] []),.w .none none (.store 2 aT2 aS0)]
def yw.zva (r:List RO):List RO:=.s (.pick aS4 aS0 (.c (.bool false)))::.s (.mv aS0)::iPt 0 (.mv aT0)::.s (.pick aS1 aS0 (.c (.bool false)))::iQm 4 0::r
def yw.r3_1:List RO:=yw.zva []
def yw.zu9 (r:List RO):List RO:=iSm 1::.s (.len aS0)::.s (.bin .eql .int aS0 aC1)::.s (.mv aS0)::iPt 0 (.mv aT1)::iPt 1 (.zx 1 aS0 aC0)::iPt 2 (.load aS0)::iPt 3 (.bin .leq .int aS0 (.c (.int .u64 9223372036854775807)))::r
def yw.r3_0:List RO:=yw.zu9 yw.r3_1
def yw.t4:IR:=.reg yw.r3_0
def yw.t5:IR:=.reg [iSm 1,.s (.zx 1 aS0 aC0),.s (.load aS0),.s (.conv .i64 aS0),.s (.neg aS0),.s (.build [(I 0),.zf] [(0,1,aS0)]),.w .none none (.store 2 aT2 aS0)]
def yw.zf2 (r:List RO):List RO:=.s (.pick aS4 aS0 (.c (.bool false)))::iQm 5 0::r
def yw.r5_1:List RO:=yw.zf2 []
def yw.zf1 (r:List RO):List RO:=iSm 1::.s (.len aS0)::.s (.bin .eql .int aS0 aC1)::.s (.mv aS0)::iPt 0 (.mv aT1)::iPt 1 (.zx 1 aS0 aC0)::iPt 2 (.load aS0)::iPt 3 (.bin .leq .int aS0 (.c (.int .u64 9223372036854775807)))::r
def yw.r5_0:List RO:=yw.zf1 yw.r5_1
def yw.t7:IR:=.reg yw.r5_0
def yw.t8:IR:=.reg [iSm 1,.s (.zx 1 aS0 aC0),.s (.load aS0),.s (.conv .i64 aS0),.s (.build [(I 0),.zf] [(0,1,aS0)]),.w .none none (.store 2 aT2 aS0)]
def yw.t10:IR:=.reg [iSm 0,iQm 6 0]
def yw.t11:IR:=.reg [iSm 1,.s (.build [(I 0),.zf] [(0,1,(.c (I (-1)))),(1,1,aS0)]),.w .none none (.store 2 aT2 aS0)]
def yw.t22:IR:=.reg [iSm 1,.s (.build [(I 0),.zf] [(0,1,aC1),(1,1,aS0)]),.w .none none (.store 2 aT2 aS0)]
def yw.t25:IR:=.seq yw.t0 (.seq (.block 0 (.seq yw.t1 (.cond aT3 (.seq yw.t2 .ret) (.seq yw.t4 (.cond aT4 (.seq yw.t5 .ret) (.seq yw.t7 (.cond aT5 (.seq yw.t8 .ret) (.seq yw.t10 (.cond aT6 (.seq yw.t11 .ret) .skip))))))))) (.seq yw.t22 .ret))
def yw.b0:IR:=yw.t25
def yw.res:List RV:=[.cell (.of 2) (some 2)]
def yw:Fn:={ params:=[(.of 0),(.of 1)],res:=yw.res,body:=yw.b0,init:=in7 }
theorem yw.ok:fnA Tryz.prog Tryz.f257 [0,1,4,5,10,29,44]=some yw:=by kernel_rfl
abbrev uh.fr:=fr7
def uh.t0:IR:=.reg [iWl 2 (.box aT0),iWl 3 (.box aT1),iWl 4 (.alloc [(I 0),.zf])]
def uh.t1:IR:=.jd [] [(.s (.zk 2 aT2),0,[]),(.s (.zk 2 aT3),1,[]),(iCa 299 [aS1],0,[]),(iCa 299 [aS1],0,[]),(.w .none none (.store 2 aT2 aS1),0,[]),(.w .none none (.store 2 aT3 aS0),0,[])]
def uh.t2:IR:=.reg [.s (.zk 2 aT3),iCa 194 [aS0],iQo 6 (.bin .neq .int aS0 aC0)]
def uh.t5:IR:=.reg [.s (.zk 2 aT2),.s (.zk 2 aT3),iCa 201 [aS1,aS0],.s (.mv aS0),.s (.ext 0 aS0),.s (.ext 1 aS1),.w .push none (.alloc [(I 0),.zf]),iWl 5 (.alloc [(I 0),.zf]),.w .none none (.store 2 aS0 aS2),.w .none none (.store 2 aT5 aS1)]
def uh.t6:IR:=.jd [] [(.s (.zk 2 aT3),0,[]),(.s (.zk 2 aT5),1,[]),(.w .none none (.store 2 aT2 aS1),0,[]),(.w .none none (.store 2 aT3 aS0),0,[])]
def uh.t9:IR:=.seq (.seq uh.t2 (.cond aT6 .skip (.exit 0))) (.block 1 (.seq uh.t5 uh.t6))
def uh.t10:IR:=.loop uh.t9
def uh.t12:IR:=.reg [.s (.zk 2 aT2),.w .none none (.store 2 aT4 aS0)]
def uh.t16:IR:=.seq uh.t0 (.seq uh.t1 (.seq (.block 0 uh.t10) (.seq uh.t12 .ret)))
def uh.b0:IR:=uh.t16
def uh.res:List RV:=[.cell (.of 4) (some 2)]
def uh:Fn:={ params:=[(.of 0),(.of 1)],res:=uh.res,body:=uh.b0,init:=in7 }
theorem uh.ok:fnA Tryz.prog Tryz.f258 [0,1,2,3,4,6,13]=some uh:=by kernel_rfl
abbrev kz.fr:=fr7
def kz.t0:IR:=.reg [iWl 2 (.box aT0),iWl 3 (.box aT1),iWl 4 (.alloc [(I 0),.zf])]
def kz.t1:IR:=.reg [.s (.zk 2 aT3),iCa 194 [aS0],iQo 6 (.bin .lss .int aS0 aC0)]
def kz.t2:IR:=.jd [] [(.s (.zk 2 aT2),0,[]),(.s (.zk 2 aT3),1,[]),(iCa 193 [aS1],0,[]),(iCa 193 [aS1],0,[]),(.w .none none (.store 2 aT2 aS1),0,[]),(.w .none none (.store 2 aT3 aS0),0,[])]
def kz.t5:IR:=.reg [.s (.zk 2 aT2),.s (.zk 2 aT3),iCa 201 [aS1,aS0],.s (.mv aS0),.s (.ext 0 aS0),.s (.ext 1 aS1),iWl 5 (.alloc [(I 0),.zf]),.w .push none (.alloc [(I 0),.zf]),.w .none none (.store 2 aT5 aS2),.w .none none (.store 2 aS0 aS1)]
def kz.t6:IR:=.reg [.s (.zk 2 aT5),.w .none none (.store 2 aT4 aS0)]
def kz.t8:IR:=.seq kz.t5 (.seq kz.t6 .ret)
def kz.t10:IR:=.seq kz.t0 (.seq (.seq kz.t1 (.cond aT6 kz.t2 .skip)) kz.t8)
def kz.b0:IR:=kz.t10
def kz.res:List RV:=[.cell (.of 4) (some 2)]
def kz:Fn:={ params:=[(.of 0),(.of 1)],res:=kz.res,body:=kz.b0,init:=in7 }
theorem kz.ok:fnA Tryz.prog Tryz.f259 [0,1,2,3,4,5,9]=some kz:=by kernel_rfl
abbrev yc.fr:=fr12
def yc.t0:IR:=.reg [iQo 2 (.mv (.c .zf))]
def yc.t1:IR:=.reg [iSm 0,.s (.len aS0),iSm 1,.s (.len aS0),iQo 7 (.bin .lss .int aS2 aS0)]
def yc.t2:IR:=.reg [iSm 1,iSm 0,iQm 0 1,iQm 1 0]
def yc.t5:IR:=.reg [iSm 0,.s (.len aS0),.s (.bin .add .int aS0 aC1),.w .push none (.bg 1 8 [(.int .u64 0)] aS0 aS0),iQm 3 0]
def yc.t6:IR:=.reg [iQo 4 (.mv (.c (.int .u64 0)))]
def yc.t7:IR:=.reg [iSm 0,iQo 8 (.len aS0),iQo 9 (.mv aC0)]
def yc.t8:IR:=.reg [iQo 10 (.bin .lss .int aT9 aT8)]
def yc.t10:IR:=.reg [iSm 9,iQm 5 0]
def yc.t11:IR:=.reg [iQo 6 (.mv (.c (.int .u64 0)))]
def yc.t12:IR:=.reg [iSm 5,iSm 1,.s (.len aS0),iQo 11 (.bin .lss .int aS2 aS0)]
def yc.t13:IR:=.reg [iSm 1,iSm 5,.s (.zx 1 aS1 aS0),.s (.load aS0),iQm 6 0]
def yc.zmw (r:List RO):List RO:=iQm 4 1::r
def yc.zp9:List RO:=yc.zmw []
def yc.zmv (r:List RO):List RO:=.s (.mv aS0)::.s (.ext 0 aS0)::.s (.ext 1 aS1)::.s (.zx 1 aS11 tJ)::.w .none none (.store 1 aS0 aS2)::r
def yc.zqa:List RO:=yc.zmv yc.zp9
def yc.za0 (r:List RO):List RO:=iCa 300 [aS2,aS1,aS0]::r
def yc.zd1:List RO:=yc.za0 yc.zqa
def yc.zaz (r:List RO):List RO:=iSm 3::iSm 5::iSm 0::iSm 5::.s (.zx 1 aS1 aS0)::.s (.load aS0)::iSm 6::iSm 4::r
def yc.zan:List RO:=yc.zaz yc.zd1
def yc.t16:IR:=.reg yc.zan
def yc.t21:IR:=.reg [.s (.bin .add .int aT9 aC1),iQm 9 0]
def yc.t24:IR:=.seq yc.t8 (.seq (.cond nV .skip (.exit 0)) (.seq (.block 1 (.seq yc.t10 (.seq yc.t11 (.seq (.seq yc.t12 (.cond rU yc.t13 .skip)) yc.t16)))) yc.t21))
def yc.t25:IR:=.loop yc.t24
def yc.t28:IR:=.reg [iSm 3,iSm 0,.s (.len aS0),iSm 4,.s (.zx 1 aS3 aS1),.w .none none (.store 1 aS0 aS1)]
def yc.t29:IR:=.reg [iSm 3,iCa 289 [aS0],iQm 2 0]
def yc.t34:IR:=.seq yc.t5 (.seq yc.t6 (.seq (.seq yc.t7 (.block 0 yc.t25)) (.seq yc.t28 (.seq yc.t29 .ret))))
def yc.t36:IR:=.seq yc.t0 (.seq (.seq yc.t1 (.cond aT7 yc.t2 .skip)) yc.t34)
def yc.b0:IR:=yc.t36
def yc.res:List RV:=[.t (.of 2)]
def yc:Fn:={ params:=[(.of 0),(.of 1)],res:=yc.res,body:=yc.b0,init:=in12 }
theorem yc.ok:fnA Tryz.prog Tryz.f260 [0,1,4,5,6,7,8,13,21,22,23,28]=some yc:=by kernel_rfl
abbrev ja.fr:=fr9
def ja.t0:IR:=.reg [iQo 2 (.mv aC0)]
def ja.t1:IR:=.reg [iSm 0,.s (.len aS0),iSm 1,.s (.len aS0),iQo 4 (.bin .neq .int aS2 aS0)]
def ja.t2:IR:=.reg [iSm 0,.s (.len aS0),iSm 1,.s (.len aS0),iQo 5 (.bin .lss .int aS2 aS0)]
def ja.t3:IR:=.reg [iQo 2 (.mv (.c (I (-1))))]
def ja.t7:IR:=.reg [iQo 2 (.mv aC1)]
def ja.t12:IR:=.reg [iSm 0,.s (.len aS0),.s (.bin .sub .int aS0 aC1),iQm 3 0]
def ja.t13:IR:=.reg [iSm 3,iQo 6 (.bin .geq .int aS0 aC0)]
def ja.t16:IR:=.jd [] [(iSm 0,0,[]),(iSm 3,0,[]),(.s (.zx 1 aS1 aS0),0,[]),(.s (.load aS0),0,[]),(iSm 1,0,[]),(iSm 3,0,[]),(.s (.zx 1 aS1 aS0),0,[]),(.s (.load aS0),0,[]),(iQo 7 (.bin .neq .int aS4 aS0),0,[])]
def ja.t17:IR:=.jd [] [(iSm 0,0,[]),(iSm 3,0,[]),(.s (.zx 1 aS1 aS0),0,[]),(.s (.load aS0),0,[]),(iSm 1,0,[]),(iSm 3,0,[]),(.s (.zx 1 aS1 aS0),0,[]),(.s (.load aS0),0,[]),(iQo 8 (.bin .lss .int aS4 aS0),0,[])]
def ja.t18:IR:=.reg [iQo 2 (.mv (.c (I (-1))))]
def ja.t22:IR:=.reg [iQo 2 (.mv aC1)]
def ja.t28:IR:=.reg [iSm 3,.s (.bin .sub .int aS0 aC1),iQm 3 0]
def ja.t30:IR:=.seq (.seq ja.t13 (.cond aT6 .skip (.exit 0))) (.seq (.block 1 (.seq ja.t16 (.cond aT7 (.seq (.seq ja.t17 (.cond aT8 (.seq ja.t18 .ret) .skip)) (.seq ja.t22 .ret)) .skip))) ja.t28)
def ja.t31:IR:=.loop ja.t30
def ja.t34:IR:=.reg [iQo 2 (.mv aC0)]
def ja.t38:IR:=.seq ja.t0 (.seq (.seq ja.t1 (.cond aT4 (.seq (.seq ja.t2 (.cond aT5 (.seq ja.t3 .ret) .skip)) (.seq ja.t7 .ret)) .skip)) (.seq (.seq ja.t12 (.block 0 ja.t31)) (.seq ja.t34 .ret)))
def ja.b0:IR:=ja.t38
def ja.res:List RV:=[.t (.of 2)]
def ja:Fn:={ params:=[(.of 0),(.of 1)],res:=ja.res,body:=ja.b0,init:=in9 }
theorem ja.ok:fnA Tryz.prog Tryz.f261 [0,1,4,5,10,15,20,31,40]=some ja:=by kernel_rfl
abbrev yg.fr:=fr11
def yg.t0:IR:=.reg [iQo 2 (.mv (.c .zf))]
def yg.t1:IR:=.reg [iSm 0,.s (.len aS0),.w .push none (.bg 1 8 [(.int .u64 0)] aS0 aS0),iQm 3 0]
def yg.t2:IR:=.reg [iQo 4 (.mv (.c (.int .u64 0)))]
def yg.t3:IR:=.reg [iSm 0,iQo 7 (.len aS0),iQo 8 (.mv aC0)]
def yg.t4:IR:=.reg [iQo 9 (.bin .lss .int aT8 aT7)]
def yg.t6:IR:=.reg [iSm 8,iQm 5 0]
def yg.t7:IR:=.reg [iQo 6 (.mv (.c (.int .u64 0)))]
def yg.t8:IR:=.reg [iSm 5,iSm 1,.s (.len aS0),iQo 10 (.bin .lss .int aS2 aS0)]
def yg.t9:IR:=.reg [iSm 1,iSm 5,.s (.zx 1 aS1 aS0),.s (.load aS0),iQm 6 0]
def yg.zfu (r:List RO):List RO:=iQm 4 1::r
def yg.r9_3:List RO:=yg.zfu []
def yg.zar (r:List RO):List RO:=.s (.mv aS0)::.s (.ext 0 aS0)::.s (.ext 1 aS1)::.s (.zx 1 aS11 tJ)::.w .none none (.store 1 aS0 aS2)::r
def yg.r9_2:List RO:=yg.zar yg.r9_3
def yg.zaq (r:List RO):List RO:=iCa 301 [aS2,aS1,aS0]::r
def yg.r9_1:List RO:=yg.zaq yg.r9_2
def yg.zao (r:List RO):List RO:=iSm 3::iSm 5::iSm 0::iSm 5::.s (.zx 1 aS1 aS0)::.s (.load aS0)::iSm 6::iSm 4::r
def yg.r9_0:List RO:=yg.zao yg.r9_1
def yg.t12:IR:=.reg yg.r9_0
def yg.t17:IR:=.reg [.s (.bin .add .int aT8 aC1),iQm 8 0]
def yg.t20:IR:=.seq yg.t4 (.seq (.cond aT9 .skip (.exit 0)) (.seq (.block 1 (.seq yg.t6 (.seq yg.t7 (.seq (.seq yg.t8 (.cond nV yg.t9 .skip)) yg.t12)))) yg.t17))
def yg.t21:IR:=.loop yg.t20
def yg.t24:IR:=.reg [iSm 3,iCa 289 [aS0],iQm 2 0]
def yg.t29:IR:=.seq yg.t0 (.seq yg.t1 (.seq yg.t2 (.seq (.seq yg.t3 (.block 0 yg.t21)) (.seq yg.t24 .ret))))
def yg.b0:IR:=yg.t29
def yg.res:List RV:=[.t (.of 2)]
def yg:Fn:={ params:=[(.of 0),(.of 1)],res:=yg.res,body:=yg.b0,init:=in11 }
theorem yg.ok:fnA Tryz.prog Tryz.f262 [0,1,4,5,6,7,8,13,14,15,20]=some yg:=by kernel_rfl
abbrev jk.fr:=fr12
def jk.t0:IR:=.reg [iQo 2 (.mv (.c (.int .u64 0))),iQo 3 (.mv (.c (.int .u64 0)))]
def jk.t1:IR:=.reg [iSm 0,.s (.bin .and .int aS0 (.c (.int .u64 4294967295))),iQm 4 0]
def jk.t2:IR:=.reg [iSm 0,.s (.bin .shr .int aS0 (.c (.int .u64 32))),iQm 5 0]
def jk.t3:IR:=.reg [iSm 1,.s (.bin .and .int aS0 (.c (.int .u64 4294967295))),iQm 6 0]
def jk.t4:IR:=.reg [iSm 1,.s (.bin .shr .int aS0 (.c (.int .u64 32))),iQm 7 0]
def jk.t5:IR:=.reg [iSm 4,iSm 6,.s (.bin .mul .int aS1 aS0),iQm 8 0]
def jk.t6:IR:=.reg [iSm 5,iSm 6,.s (.bin .mul .int aS1 aS0),iSm 8,.s (.bin .shr .int aS0 (.c (.int .u64 32))),.s (.bin .add .int aS2 aS0),iQm 9 0]
def jk.t7:IR:=.reg [iSm 9,.s (.bin .and .int aS0 (.c (.int .u64 4294967295))),iQm 10 0]
def jk.t8:IR:=.reg [iSm 9,.s (.bin .shr .int aS0 (.c (.int .u64 32))),iQm 11 0]
def jk.t9:IR:=.reg [iSm 10,iSm 4,iSm 7,.s (.bin .mul .int aS1 aS0),.s (.bin .add .int aS3 aS0),iQm 10 0]
def jk.t10:IR:=.reg [iSm 5,iSm 7,.s (.bin .mul .int aS1 aS0),iSm 11,.s (.bin .add .int aS1 aS0),iSm 10,.s (.bin .shr .int aS0 (.c (.int .u64 32))),.s (.bin .add .int aS2 aS0),iQm 2 0]
def jk.t11:IR:=.reg [iSm 0,iSm 1,.s (.bin .mul .int aS1 aS0),iQm 3 0]
def jk.t23:IR:=.seq jk.t0 (.seq jk.t1 (.seq jk.t2 (.seq jk.t3 (.seq jk.t4 (.seq jk.t5 (.seq jk.t6 (.seq jk.t7 (.seq jk.t8 (.seq jk.t9 (.seq jk.t10 (.seq jk.t11 .ret)))))))))))
def jk.b0:IR:=jk.t23
def jk.res:List RV:=[.t (.of 2),.t (.of 3)]
def jk:Fn:={ params:=[(.of 0),(.of 1)],res:=jk.res,body:=jk.b0,init:=in12 }
theorem jk.ok:fnA Tryz.prog Tryz.f263 [0,1,4,5,6,7,8,9,10,11,12,13]=some jk:=by kernel_rfl
abbrev xq.fr:=fr3
def xq.t0:IR:=.reg [iQo 1 (.mv (.c (.int .u64 0)))]
def xq.t1:IR:=.reg [iSm 0,iQo 2 (.bin .lss .int aS0 aC0)]
def xq.t2:IR:=.reg [iSm 0,.s (.neg aS0),.s (.conv .u64 aS0),iQm 1 0]
def xq.t6:IR:=.reg [iSm 0,.s (.conv .u64 aS0),iQm 1 0]
def xq.t9:IR:=.seq xq.t0 (.seq (.seq xq.t1 (.cond aT2 (.seq xq.t2 .ret) .skip)) (.seq xq.t6 .ret))
def xq.b0:IR:=xq.t9
def xq.res:List RV:=[.t (.of 1)]
def xq:Fn:={ params:=[(.of 0)],res:=xq.res,body:=xq.b0,init:=in3 }
theorem xq.ok:fnA Tryz.prog Tryz.f264 [0,2,4]=some xq:=by kernel_rfl
abbrev zy.fr:=fr20
def zy.t0:IR:=.reg [iQo 2 (.mv (.c .zf))]
def zy.t1:IR:=.reg [iSm 0,.s (.len aS0),iSm 1,.s (.len aS0),.s (.bin .add .int aS2 aS0),.w .push none (.bg 1 8 [(.int .u64 0)] aS0 aS0),iQm 3 0]
def zy.t2:IR:=.reg [iQo 12 (.mv aT0),iQo 13 (.len nX),iQo 14 (.mv aC0)]
def zy.t3:IR:=.reg [iQo 15 (.bin .lss .int oQ sO)]
def zy.t5:IR:=.reg [iSm 14,.s (.zx 1 nX oQ),.s (.load aS0),iQm 4 2,iQm 5 0]
def zy.t6:IR:=.reg [iQo 6 (.mv (.c (.int .u64 0)))]
def zy.t7:IR:=.reg [iQo 16 (.mv aT1),iQo 17 (.len aT16),iQo 18 (.mv aC0)]
def zy.t8:IR:=.reg [iQo 19 (.bin .lss .int oU aW)]
def zy.t10:IR:=.reg [iSm 18,.s (.zx 1 aT16 oU),.s (.load aS0),iQm 7 2,iQm 8 0]
def zy.t11:IR:=.reg [iSm 5,iSm 8,iCa 263 [aS1,aS0],.s (.mv aS0),.s (.ext 0 aS0),.s (.ext 1 aS1),iQm 9 1,iQm 10 0]
def zy.t12:IR:=.reg [iQo 11 (.mv (.c (.int .u64 0)))]
def zy.za0 (r:List RO):List RO:=.s (.mv aS0)::.s (.ext 0 aS0)::.s (.ext 1 aS1)::iQm 10 1::iQm 11 0::r
def zy.zd1:List RO:=zy.za0 []
def zy.zaz (r:List RO):List RO:=iSm 10::iSm 3::iSm 4::iSm 7::.s (.bin .add .int aS1 aS0)::.s (.zx 1 aS3 aS0)::.s (.load aS0)::iCa 300 [aS6,aS0,(.c (.int .u64 0))]::r
def zy.zan:List RO:=zy.zaz zy.zd1
def zy.t13:IR:=.reg zy.zan
def zy.t14:IR:=.reg [iSm 9,iSm 11,.s (.bin .add .int aS1 aS0),iQm 9 0]
def zy.t15:IR:=.reg [iSm 10,iSm 6,iCa 300 [aS1,aS0,(.c (.int .u64 0))],.s (.mv aS0),.s (.ext 0 aS0),.s (.ext 1 aS1),iQm 10 1,iQm 11 0]
def zy.t16:IR:=.reg [iSm 3,iSm 4,iSm 7,.s (.bin .add .int aS1 aS0),iSm 10,iSm 9,iSm 11,.s (.bin .add .int aS1 aS0),.s (.zx 1 aS7 aS4),.w .none none (.store 1 aS0 aS4),iQm 6 1]
def zy.t24:IR:=.reg [.s (.bin .add .int oU aC1),iQm 18 0]
def zy.t27:IR:=.seq zy.t8 (.seq (.cond aT19 .skip (.exit 2)) (.seq (.block 3 (.seq zy.t10 (.seq zy.t11 (.seq zy.t12 (.seq zy.t13 (.seq zy.t14 (.seq zy.t15 zy.t16))))))) zy.t24))
def zy.t28:IR:=.loop zy.t27
def zy.t31:IR:=.reg [iSm 3,iSm 4,iSm 1,.s (.len aS0),.s (.bin .add .int aS2 aS0),iSm 6,.s (.zx 1 aS5 aS1),.w .none none (.store 1 aS0 aS1)]
def zy.t36:IR:=.reg [.s (.bin .add .int oQ aC1),iQm 14 0]
def zy.t39:IR:=.seq zy.t3 (.seq (.cond aO .skip (.exit 0)) (.seq (.block 1 (.seq zy.t5 (.seq zy.t6 (.seq (.seq zy.t7 (.block 2 zy.t28)) zy.t31)))) zy.t36))
def zy.t40:IR:=.loop zy.t39
def zy.t43:IR:=.reg [iSm 3,iCa 289 [aS0],iQm 2 0]
def zy.t47:IR:=.seq zy.t0 (.seq zy.t1 (.seq (.seq zy.t2 (.block 0 zy.t40)) (.seq zy.t43 .ret)))
def zy.b0:IR:=zy.t47
def zy.res:List RV:=[.t (.of 2)]
def zy:Fn:={ params:=[(.of 0),(.of 1)],res:=zy.res,body:=zy.b0,init:=in20 }
theorem zy.ok:fnA Tryz.prog Tryz.f265 [0,1,4,5,6,7,8,9,10,11,12,13,20,21,22,23,27,28,29,30]=some zy:=by kernel_rfl
abbrev bV.fr:=fr5
def bV.t0:IR:=.reg [iWl 2 (.box aT0),iWl 3 (.box aT1),iWl 4 (.alloc [(I 0),.zf])]
def bV.t1:IR:=.jd [] [(.s (.zk 2 aT2),1,[]),(.s (.zk 2 aT3),0,[]),(iCa 193 [aS0],0,[]),(iCa 197 [aS2,aS0],0,[]),(.w .none none (.store 2 aT4 aS0),0,[])]
def bV.t3:IR:=.seq bV.t0 (.seq bV.t1 .ret)
def bV.b0:IR:=bV.t3
def bV.res:List RV:=[.cell (.of 4) (some 2)]
def bV:Fn:={ params:=[(.of 0),(.of 1)],res:=bV.res,body:=bV.b0,init:=in5 }
theorem bV.ok:fnA Tryz.prog Tryz.f266 [0,1,2,3,4]=some bV:=by kernel_rfl
abbrev F272.fr:=fr8
def F272.b0:IR:=(iSr [iQo 2 (.mv (.c (.bool false)))] (.seq (iSr [iQo 4 (.mv aT0),iQo 5 (.mv aC0)] (.block 0 (.loop (iSr [iQo 6 (.bin .lss .int aT5 aT4)] (.seq (.cond aT6 .skip (.exit 0)) (.seq (.block 1 (iSr [iSm 5,iQm 3 0] (iSr [iSm 1,iSm 3,.w .push none (.call aS1 [aS0]),iSm 1,.w .push none (.call aS0 [aC0]),iQo 7 (.bin .neq .int aS2 aS0)] (.cond aT7 (iSr [iQo 2 (.mv (.c (.bool false)))] .ret) .skip)))) (.reg [.s (.bin .add .int aT5 aC1),iQm 5 0]))))))) (iSr [iQo 2 (.mv (.c (.bool true)))] .ret)))
def F272.res:List RV:=[.t (.of 2)]
def F272:Fn:={ params:=[(.of 0),(.of 1)],res:=F272.res,body:=F272.b0,init:=in8 }
theorem F272.ok:fnA Tryz.prog Tryz.f272 [0,1,4,5,6,7,8,15]=some F272:=by kernel_rfl
abbrev F273.fr:=fr3
def F273.b0:IR:=(iSr [iQo 2 (.mv aC0)] (.seq (.jd [] [(.s (.zu 1 aT1),0,[]),(.s (.load aS0),0,[]),(iSm 0,0,[]),(.s (.zx 1 aS1 aS0),0,[]),(.s (.load aS0),0,[]),(.s (.zu 1 aT1),0,[]),(.s (.load aS0),0,[]),(.s (.zu 1 aT1),0,[]),(.s (.load aS0),0,[]),(.s (.len aS0),0,[]),(.s (.bin .sub .int aS0 aC1),0,[]),(iSm 0,0,[]),(.s (.bin .sub .int aS1 aS0),0,[]),(.s (.zx 1 aS6 aS0),0,[]),(.s (.load aS0),0,[]),(.s (.bin .add .int tJ aS0),0,[]),(iQm 2 0,0,[])]) .ret))
def F273.res:List RV:=[.t (.of 2)]
def F273:Fn:={ params:=[(.of 0),(.of 1)],res:=F273.res,body:=F273.b0,init:=in3 }
theorem F273.ok:fnA Tryz.prog Tryz.f273 [0,1,3]=some F273:=by kernel_rfl
abbrev F274.fr:=fr4
def F274.b0:IR:=(iSr [iQo 3 (.mv aC0)] (.seq (.jd [] [(.s (.zu 1 aT2),0,[]),(.s (.load aS0),0,[]),(iSm 0,0,[]),(.s (.zu 0 aT2),0,[]),(.s (.load aS0),0,[]),(.s (.bin .rem .int aS2 aS0),0,[]),(.s (.zu 0 aT2),0,[]),(.s (.load aS0),0,[]),(.s (.bin .mul .int aS2 aS0),0,[]),(iSm 1,0,[]),(.s (.zu 0 aT2),0,[]),(.s (.load aS0),0,[]),(.s (.bin .rem .int aS2 aS0),0,[]),(.s (.bin .add .int aS4 aS0),0,[]),(.s (.zx 1 aS12 aS0),0,[]),(.s (.load aS0),0,[]),(iQm 3 0,0,[])]) .ret))
def F274.res:List RV:=[.t (.of 3)]
def F274:Fn:={ params:=[(.of 0),(.of 1),(.of 2)],res:=F274.res,body:=F274.b0,init:=in4 }
theorem F274.ok:fnA Tryz.prog Tryz.f274 [0,1,2,5]=some F274:=by kernel_rfl
abbrev F275.fr:=fr6
def F275.b0:IR:=(iSr [iQo 3 (.mv aC0)] (.seq (.jd [] [(iSm 0,0,[]),(.s (.zu 0 aT1),0,[]),(.s (.load aS0),0,[]),(.s (.bin .quo .int aS2 aS0),0,[]),(iSm 0,0,[]),(.s (.zu 0 aT1),0,[]),(.s (.load aS0),0,[]),(.s (.bin .rem .int aS2 aS0),0,[]),(iQm 4 4,0,[]),(iQm 5 0,0,[])]) (.seq (.jd [] [(.s (.load aT2),0,[]),(iSm 4,0,[]),(iSm 5,0,[]),(.s (.load aT2),1,[]),(iSm 4,1,[]),(iSm 5,1,[]),(.s (.bin .add .int aS0 aC1),1,[]),(.s (.load aT2),2,[]),(iSm 4,2,[]),(.s (.bin .add .int aS0 aC1),2,[]),(iSm 5,2,[]),(.s (.load aT2),3,[]),(iSm 4,3,[]),(.s (.bin .add .int aS0 aC1),3,[]),(iSm 5,3,[]),(.s (.bin .add .int aS0 aC1),3,[]),(.w .push none (.call aS15 [aS14,aS13]),0,[]),(.w .push none (.call aS13 [aS12,tJ]),0,[]),(.s (.bin .add .int aS1 aS0),2,[]),(.w .push none (.call aS11 [aS9,aS8]),0,[]),(.s (.bin .add .int aS1 aS0),1,[]),(.w .push none (.call aS9 [aS7,aS5]),0,[]),(.s (.bin .add .int aS1 aS0),0,[]),(iQm 3 0,0,[])]) .ret)))
def F275.res:List RV:=[.t (.of 3)]
def F275:Fn:={ params:=[(.of 0),(.of 1),(.of 2)],res:=F275.res,body:=F275.b0,init:=in6 }
theorem F275.ok:fnA Tryz.prog Tryz.f275 [0,1,2,4,5,6]=some F275:=by kernel_rfl
abbrev F276.fr:=fr6
def F276.b0:IR:=(iSr [iQo 3 (.mv aC0)] (.seq (.jd [] [(iSm 0,0,[]),(.s (.zu 0 aT1),0,[]),(.s (.load aS0),0,[]),(.s (.bin .quo .int aS2 aS0),0,[]),(iSm 0,0,[]),(.s (.zu 0 aT1),0,[]),(.s (.load aS0),0,[]),(.s (.bin .rem .int aS2 aS0),0,[]),(iQm 4 4,0,[]),(iQm 5 0,0,[])]) (.seq (.jd [] [(.s (.load aT2),0,[]),(iSm 4,0,[]),(iSm 5,0,[]),(.s (.load aT2),1,[]),(iSm 4,1,[]),(.s (.zu 0 aT1),1,[]),(.s (.load aS0),1,[]),(.s (.bin .quo .int aS0 aC2),1,[]),(.s (.bin .add .int aS3 aS0),1,[]),(iSm 5,1,[]),(.s (.zu 0 aT1),1,[]),(.s (.load aS0),1,[]),(.s (.bin .quo .int aS0 aC2),1,[]),(.s (.bin .add .int aS3 aS0),1,[]),(.w .push none (.call aS13 [aS12,aS11]),0,[]),(.w .push none (.call aS11 [aS6,aS1]),0,[]),(.s (.bin .add .int aS1 aS0),0,[]),(iQm 3 0,0,[])]) .ret)))
def F276.res:List RV:=[.t (.of 3)]
def F276:Fn:={ params:=[(.of 0),(.of 1),(.of 2)],res:=F276.res,body:=F276.b0,init:=in6 }
theorem F276.ok:fnA Tryz.prog Tryz.f276 [0,1,2,4,5,6]=some F276:=by kernel_rfl
abbrev F277.fr:=fr6
def F277.b0:IR:=(iSr [iWl 1 (.box aT0),iWl 2 (.alloc [(I 0),.zf])] (iSr [.s (.zu 0 aT1),.s (.load aS0),.s (.bin .sub .int aS0 aC2),.s (.build [(I 0),.zf] [(0,1,aS0)]),iWl 3 (.alloc [(I 0),.zf]),.w .none none (.store 2 aT3 aS0)] (.seq (iSr [iQo 4 (.mv aC1)] (.block 0 (.loop (.seq (iSr [iSm 4,.s (.bin .add .int aS0 aC1),.s (.zu 0 aT1),.s (.load aS0),iQo 5 (.bin .lss .int aS2 aS0)] (.cond aT5 .skip (.exit 0))) (.seq (.block 1 (.jd [] [(.s (.zu 1 aT3),0,[]),(.s (.load aS0),0,[]),(.s (.zu 1 aT1),0,[]),(.s (.load aS0),0,[]),(iSm 4,0,[]),(.s (.zu 0 aT1),0,[]),(.s (.load aS0),0,[]),(.s (.bin .mul .int aS2 aS0),0,[]),(.s (.bin .add .int aS0 aC1),0,[]),(iSm 4,0,[]),(.s (.zu 0 aT1),0,[]),(.s (.load aS0),0,[]),(.s (.bin .mul .int aS2 aS0),0,[]),(.s (.zu 0 aT1),0,[]),(.s (.load aS0),0,[]),(.s (.bin .add .int aS2 aS0),0,[]),(.s (.bin .sub .int aS0 aC1),0,[]),(iSm 4,0,[]),(.s (.zu 0 aT1),0,[]),(.s (.load aS0),0,[]),(.s (.bin .mul .int aS2 aS0),0,[]),(.s (.zu 0 aT1),0,[]),(.s (.load aS0),0,[]),(.s (.bin .add .int aS2 aS0),0,[]),(.s (.bin .sub .int aS0 aC1),0,[]),(.s (.slice 1 aS21 (some aS16) (some aS8) (some aS0)),0,[]),(.w .push none (.app 1 8 aS24 aS0),0,[]),(.s (.zu 1 aT3),0,[]),(.w .none none (.store 1 aS0 aS1),0,[])])) (.reg [iSm 4,.s (.bin .add .int aS0 aC1),iQm 4 0])))))) (iSr [.s (.zk 2 aT3),.w .none none (.store 2 aT2 aS0)] .ret))))
def F277.res:List RV:=[.cell (.of 2) (some 2)]
def F277:Fn:={ params:=[(.of 0)],res:=F277.res,body:=F277.b0,init:=in6 }
theorem F277.ok:fnA Tryz.prog Tryz.f277 [0,1,2,3,4,13]=some F277:=by kernel_rfl
abbrev F278.fr:=fr5
def F278.b0:IR:=(iSr [iQo 2 (.mv (.c .zf))] (.seq (iSr [iSm 1,iQo 3 (.bin .lss .int aS0 aC0)] (.cond aT3 (.bad 2) .skip)) (.seq (iSr [iSm 1,iSm 0,.s (.capz aS0),iSm 0,.s (.len aS0),.s (.bin .sub .int aS2 aS0),.s (.bin .sub .int aS5 aS0),iQm 1 0] (iSr [iSm 1,iQo 4 (.bin .gtr .int aS0 aC0)] (.cond aT4 (.reg [iSm 0,iSm 0,.s (.capz aS0),.s (.slice 1 aS2 none (some aS0) none),iSm 1,.w .push none (.appm 1 24 [.zf] aS1 aS0),iSm 0,.s (.len aS0),.s (.slice 1 aS2 none (some aS0) none),iQm 0 0]) .skip))) (iSr [iSm 0,iQm 2 0] .ret))))
def F278.res:List RV:=[.t (.of 2)]
def F278:Fn:={ params:=[(.of 0),(.of 1)],res:=F278.res,body:=F278.b0,init:=in5 }
theorem F278.ok:fnA Tryz.prog Tryz.f278 [0,1,4,6,16]=some F278:=by kernel_rfl
abbrev F279.fr:=fr8
def F279.b0:IR:=(iSr [iQo 4 (.load aT1),iQo 5 (.mv aC0)] (.block 0 (.loop (iSr [iQo 6 (.bin .lss .int aT5 aT4)] (.seq (.cond aT6 .skip (.exit 0)) (.seq (.block 1 (iSr [iSm 5,iWl 3 (.alloc [(I 0)]),.w .none none (.store 1 aT3 aS0)] (.seq (.jd [] [(iSm 0,1,[]),(.s (.load aT3),1,[]),(.s (.load aT1),0,[]),(.s (.fn 280 (.of 280) [aT1,aT3,aT2]),0,[]),(iCa 137 [aS1,aS0],0,[]),(.w .push none (.call aS4 [aS3,aS0]),0,[]),(iQo 7 (.not aS0),0,[])]) (.cond aT7 .ret .skip)))) (.reg [.s (.bin .add .int aT5 aC1),iQm 5 0])))))))
def F279.res:List RV:=[]
def F279:Fn:={ params:=[(.of 0),(.of 1),(.of 2)],res:=F279.res,body:=F279.b0,init:=in8 }
theorem F279.ok:fnA Tryz.prog Tryz.f279 [0,1,2,4,5,6,7,15]=some F279:=by kernel_rfl
abbrev F280.fr:=fr5
def F280.b0:IR:=(iSr [iQo 4 (.mv aC0)] (.seq (.jd [] [(.s (.load aT1),0,[]),(iSm 0,0,[]),(.s (.bin .mul .int aS1 aS0),0,[]),(.s (.load aT2),0,[]),(.s (.load aT3),0,[]),(iSm 0,0,[]),(.s (.bin .mul .int aS1 aS0),0,[]),(.s (.bin .add .int aS3 aS0),0,[]),(.s (.load aT1),0,[]),(.s (.bin .rem .int aS1 aS0),0,[]),(.s (.load aT1),0,[]),(.s (.bin .add .int aS1 aS0),0,[]),(.s (.load aT1),0,[]),(.s (.bin .rem .int aS1 aS0),0,[]),(.s (.bin .add .int aS11 aS0),0,[]),(iQm 4 0,0,[])]) .ret))
def F280.res:List RV:=[.t (.of 4)]
def F280:Fn:={ params:=[(.of 0),(.of 1),(.of 2),(.of 3)],res:=F280.res,body:=F280.b0,init:=in5 }
theorem F280.ok:fnA Tryz.prog Tryz.f280 [0,1,2,3,5]=some F280:=by kernel_rfl
abbrev dh.fr:=fr7
def dh.b3:IR:=(.reg [iQo 4 (.mv aT6)])
def dh.b4:IR:=(.block 1 (.reg [.s (.load aT2),iSm 4,.w .push none (.yu 1 1 [(I 0)] [(0,1,aS0)]),.w .push none (.app 1 8 aS2 aS0),.w .none none (.store 1 aT2 aS0)]))
def dh.b6:IR:=(iSr [.s (.load aT2),iQm 3 0] .ret)
def dh.b0:IR:=(iSr [iWl 2 (.box aT0),iQo 3 (.mv (.c .zf))] (.seq (iSr [iQo 5 (.mv aT1)] (.block 0 (.rf aT5 [(.of 6)] dh.b3 dh.b4))) dh.b6))
def dh.res:List RV:=[.t (.of 3)]
def dh:Fn:={ params:=[(.of 0),(.of 1)],res:=dh.res,body:=dh.b0,init:=in7 }
theorem dh.ok:fnA Tryz.prog Tryz.f282 [0,1,2,4,5,6,7]=some dh:=by kernel_rfl
abbrev F283.fr:=fr23
def F283.b0:IR:=(iSr [iQo 4 (.mv (.c (.bool true)))] (iSr [iQo 5 (.mv (.c (.bool true)))] (.block 0 (.loop (.block 1 (iSr [iSm 2,iSm 1,.s (.bin .sub .int aS1 aS0),iQm 6 0] (.seq (iSr [iSm 6,iQo 15 (.bin .leq .int aS0 aC12)] (.cond aO (iSr [iSm 0,iSm 1,iSm 2,iCa 302 [aS2,aS1,aS0]] .ret) .skip)) (.seq (iSr [iSm 3,iQo 16 (.bin .eql .int aS0 aC0)] (.cond aT16 (iSr [iSm 0,iSm 1,iSm 2,iCa 303 [aS2,aS1,aS0]] .ret) .skip)) (.seq (iSr [iSm 4,iQo 17 (.not aS0)] (.cond aW (iSr [iSm 0,iSm 1,iSm 2,iCa 304 [aS2,aS1,aS0]] (.reg [iSm 3,.s (.bin .sub .int aS0 aC1),iQm 3 0])) .skip)) (iSr [iSm 0,iSm 1,iSm 2,iCa 305 [aS2,aS1,aS0],.s (.mv aS0),.s (.ext 0 aS0),.s (.ext 1 aS1),iQm 7 1,iQm 8 0] (.seq (iSr [iSm 8,iQo 18 (.bin .eql .int aS0 aC2)] (.cond oU (iSr [iSm 0,iSm 1,iSm 2,iCa 306 [aS2,aS1,aS0]] (iSr [iSm 2,.s (.bin .sub .int aS0 aC1),iSm 7,iSm 1,.s (.bin .sub .int aS1 aS0),.s (.bin .sub .int aS3 aS0),iQm 7 0] (.reg [iQo 8 (.mv aC1)]))) .skip)) (.seq (iSr [iSm 4,.s (.mv aS0),iPt 0 (.mv aT5),.s (.pick aS1 aS0 (.c (.bool false))),.s (.mv aS0),iPt 0 (.mv aT8),iPt 1 (.bin .eql .int aS0 aC1),iQo 19 (.pick aS2 aS0 (.c (.bool false)))] (.cond aT19 (iSr [iSm 0,iSm 1,iSm 2,iWl 20 (.call (.c (.fn 307 (.of 307) [])) [aS2,aS1,aS0])] (.cond aT20 .ret .skip)) .skip)) (.seq (.seq (.jd [] [(iSm 1,0,[]),(.s (.bin .gtr .int aS0 aC0),0,[]),(.s (.mv aS0),0,[]),(iPt 0 (.mv aT0),0,[]),(iPt 1 (.mv aT1),0,[]),(iPt 2 (.bin .sub .int aS0 aC1),0,[]),(iPt 3 (.zx 1 aS2 aS0),0,[]),(iPt 4 (.load aS0),0,[]),(iPt 5 (.mv aT0),0,[]),(iPt 6 (.mv aT7),0,[]),(iPt 7 (.zx 1 aS1 aS0),0,[]),(iPt 8 (.load aS0),0,[]),(.w .push (some (aS9,true)) (.call (.c (.fn 308 (.of 308) [])) [aS4,aS0]),0,[]),(iPt 10 (.not aS0),0,[]),(iQo 21 (.pick aS11 aS0 (.c (.bool false))),0,[])]) (.cond aT21 (iSr [iSm 0,iSm 1,iSm 2,iSm 7,iCa 309 [aS3,aS2,aS1,aS0],iQm 9 0] (iSr [iSm 9,iQm 1 0] (.exit 1))) .skip)) (iSr [iSm 0,iSm 1,iSm 2,iSm 7,iCa 310 [aS3,aS2,aS1,aS0],.s (.mv aS0),.s (.ext 0 aS0),.s (.ext 1 aS1),iQm 10 1,iQm 11 0] (iSr [iSm 11,iQm 5 0] (iSr [iSm 10,iSm 1,.s (.bin .sub .int aS1 aS0),iSm 2,iSm 10,.s (.bin .sub .int aS1 aS0),iQm 12 3,iQm 13 0] (iSr [iSm 6,.s (.bin .quo .int aS0 aC8),iQm 14 0] (iSr [iSm 12,iSm 13,iQo 22 (.bin .lss .int aS1 aS0)] (.cond aT22 (iSr [iSm 12,iSm 14,.s (.bin .geq .int aS1 aS0),iQm 4 0] (iSr [iSm 0,iSm 1,iSm 10,iSm 3,iCa 283 [aS3,aS2,aS1,aS0]] (.reg [iSm 10,.s (.bin .add .int aS0 aC1),iQm 1 0]))) (iSr [iSm 13,iSm 14,.s (.bin .geq .int aS1 aS0),iQm 4 0] (iSr [iSm 0,iSm 10,.s (.bin .add .int aS0 aC1),iSm 2,iSm 3,iCa 283 [aS4,aS2,aS1,aS0]] (.reg [iSm 10,iQm 2 0]))))))))))))))))))))))
def F283.res:List RV:=[]
def F283:Fn:={ params:=[(.of 0),(.of 1),(.of 2),(.of 3)],res:=F283.res,body:=F283.b0,init:=in23 }
theorem F283.ok:fnA Tryz.prog Tryz.f283 [0,1,2,3,8,9,10,11,12,13,14,15,16,17,18,23,29,35,50,68,72,87,113]=some F283:=by kernel_rfl
abbrev F284.fr:=fr2
def F284.b0:IR:=(iSr [iQo 1 (.mv aC0)] (.seq (.cond (.c (.bool false)) (iSr [iSm 0,.s (.conv .u32 aS0),iCa 311 [aS0],iQm 1 0] .ret) .skip) (iSr [iSm 0,iCa 312 [aS0],iQm 1 0] .ret)))
def F284.res:List RV:=[.t (.of 1)]
def F284:Fn:={ params:=[(.of 0)],res:=F284.res,body:=F284.b0,init:=in2 }
theorem F284.ok:fnA Tryz.prog Tryz.f284 [0,2]=some F284:=by kernel_rfl
abbrev F285.fr:=fr5
def F285.b0:IR:=(iSr [iWl 1 (.box aT0),iQo 2 (.mv aC0)] (iSr [.s (.zk 2 aT1),iCa 249 [aS0],.s (.mv aS0),.s (.ext 0 aS0),.s (.ext 1 aS1),.s (.mv aS1),iQm 3 1] (.seq (iSr [iSm 3,.s (.len aS0),iQo 4 (.bin .eql .int aS0 aC0)] (.cond aT4 (iSr [iQo 2 (.mv aC0)] .ret) .skip)) (iSr [iSm 3,.s (.len aS0),.s (.bin .sub .int aS0 aC1),.s (.bin .mul .int aC64 aS0),iSm 3,iSm 3,.s (.len aS0),.s (.bin .sub .int aS0 aC1),.s (.zx 1 aS3 aS0),.s (.load aS0),iCa 312 [aS0],.s (.bin .add .int aS7 aS0),iQm 2 0] .ret))))
def F285.res:List RV:=[.t (.of 2)]
def F285:Fn:={ params:=[(.of 0)],res:=F285.res,body:=F285.b0,init:=in5 }
theorem F285.ok:fnA Tryz.prog Tryz.f285 [0,1,2,4,12]=some F285:=by kernel_rfl
abbrev F286.fr:=fr3
def F286.b0:IR:=(iSr [iQo 2 (.mv (.c (.str [])))] (iSr [iSm 0,iSm 1,iCa 313 [aS1,aS0],iQm 2 0] .ret))
def F286.res:List RV:=[.t (.of 2)]
def F286:Fn:={ params:=[(.of 0),(.of 1)],res:=F286.res,body:=F286.b0,init:=in3 }
theorem F286.ok:fnA Tryz.prog Tryz.f286 [0,1,4]=some F286:=by kernel_rfl
abbrev F287.fr:=fr2
def F287.b0:IR:=(iSr [iQo 1 (.mv (.c (.str [])))] (iSr [iSm 0,iCa 314 [aS0,aC10],iQm 1 0] .ret))
def F287.res:List RV:=[.t (.of 1)]
def F287:Fn:={ params:=[(.of 0)],res:=F287.res,body:=F287.b0,init:=in2 }
theorem F287.ok:fnA Tryz.prog Tryz.f287 [0,2]=some F287:=by kernel_rfl
abbrev zo.fr:=fr23
def zo.t0:IR:=.reg [iQo 3 (.mv (.c (.int .u64 0))),iQo 4 (.mv (.c (.int .u64 0)))]
def zo.t1:IR:=.reg [iSm 2,iQo 16 (.bin .eql .int aS0 (.c (.int .u64 0)))]
def zo.t4:IR:=.reg [iSm 2,iSm 0,iQo 17 (.bin .leq .int aS1 aS0)]
def zo.t7:IR:=.reg [iSm 0,iQo 18 (.bin .eql .int aS0 (.c (.int .u64 0)))]
def zo.t8:IR:=.jd [] [(iSm 1,0,[]),(iSm 2,0,[]),(.s (.bin .quo .int aS1 aS0),0,[]),(iSm 1,0,[]),(iSm 2,0,[]),(.s (.bin .rem .int aS1 aS0),0,[]),(iQm 3 3,0,[]),(iQm 4 0,0,[])]
def zo.t12:IR:=.reg [iSm 2,iCa 290 [aS0],.s (.conv .u64 aS0),iQm 5 0]
def zo.t13:IR:=.reg [iSm 2,iSm 5,.s (.bin .shl .int aS1 aS0),iQm 2 0]
def zo.t14:IR:=.reg [iSm 2,.s (.bin .shr .int aS0 (.c (.int .u64 32))),iQm 6 0]
def zo.t15:IR:=.reg [iSm 2,.s (.bin .and .int aS0 (.c (.int .u64 4294967295))),iQm 7 0]
def zo.t16:IR:=.reg [iSm 0,iSm 5,.s (.bin .shl .int aS1 aS0),iSm 1,iSm 5,.s (.bin .sub .int (.c (.int .u64 64)) aS0),.s (.bin .shr .int aS2 aS0),.s (.bin .or .int aS4 aS0),iQm 8 0]
def zo.t17:IR:=.reg [iSm 1,iSm 5,.s (.bin .shl .int aS1 aS0),iQm 9 0]
def zo.t18:IR:=.reg [iSm 9,.s (.bin .shr .int aS0 (.c (.int .u64 32))),iQm 10 0]
def zo.t19:IR:=.reg [iSm 9,.s (.bin .and .int aS0 (.c (.int .u64 4294967295))),iQm 11 0]
def zo.t20:IR:=.reg [iSm 8,iSm 6,.s (.bin .quo .int aS1 aS0),iQm 12 0]
def zo.t21:IR:=.reg [iSm 8,iSm 12,iSm 6,.s (.bin .mul .int aS1 aS0),.s (.bin .sub .int aS3 aS0),iQm 13 0]
def zo.zm2 (r:List RO):List RO:=iPf 5 (.mv nV)::iPf 6 (.bin .add .int aS1 aS0)::iPf 7 (.bin .gtr .int aS4 aS0)::iQo 19 (.pick aS8 (.c (.bool true)) aS0)::r
def zo.zqb:List RO:=zo.zm2 []
def zo.zm1 (r:List RO):List RO:=iSm 12::.s (.bin .geq .int aS0 (.c (.int .u64 4294967296)))::.s (.mv aS0)::iPf 0 (.mv nX)::iPf 1 (.mv aT7)::iPf 2 (.bin .mul .int aS1 aS0)::iPf 3 (.mv sO)::iPf 4 (.bin .mul .int (.c (.int .u64 4294967296)) aS0)::r
def zo.zm0:List RO:=zo.zm1 zo.zqb
def zo.t22:IR:=.reg zo.zm0
def zo.t25:IR:=.reg [iSm 12,.s (.bin .sub .int aS0 (.c (.int .u64 1))),iQm 12 0]
def zo.t26:IR:=.reg [iSm 13,iSm 6,.s (.bin .add .int aS1 aS0),iQm 13 0]
def zo.t27:IR:=.reg [iSm 13,iQo 20 (.bin .geq .int aS0 (.c (.int .u64 4294967296)))]
def zo.t33:IR:=.seq (.seq zo.t22 (.cond aT19 .skip (.exit 0))) (.block 1 (.seq zo.t25 (.seq zo.t26 (.seq zo.t27 (.cond aT20 (.exit 0) .skip)))))
def zo.t34:IR:=.loop zo.t33
def zo.t36:IR:=.reg [iSm 8,.s (.bin .mul .int aS0 (.c (.int .u64 4294967296))),iSm 10,.s (.bin .add .int aS1 aS0),iSm 12,iSm 2,.s (.bin .mul .int aS1 aS0),.s (.bin .sub .int aS3 aS0),iQm 14 0]
def zo.t37:IR:=.reg [iSm 14,iSm 6,.s (.bin .quo .int aS1 aS0),iQm 15 0]
def zo.t38:IR:=.reg [iSm 14,iSm 15,iSm 6,.s (.bin .mul .int aS1 aS0),.s (.bin .sub .int aS3 aS0),iQm 13 0]
def zo.zm5 (r:List RO):List RO:=iPf 5 (.mv rU)::iPf 6 (.bin .add .int aS1 aS0)::iPf 7 (.bin .gtr .int aS4 aS0)::iQo 21 (.pick aS8 (.c (.bool true)) aS0)::r
def zo.zqc:List RO:=zo.zm5 []
def zo.zm4 (r:List RO):List RO:=iSm 15::.s (.bin .geq .int aS0 (.c (.int .u64 4294967296)))::.s (.mv aS0)::iPf 0 (.mv aO)::iPf 1 (.mv aT7)::iPf 2 (.bin .mul .int aS1 aS0)::iPf 3 (.mv sO)::iPf 4 (.bin .mul .int (.c (.int .u64 4294967296)) aS0)::r
def zo.zm3:List RO:=zo.zm4 zo.zqc
def zo.t39:IR:=.reg zo.zm3
def zo.t42:IR:=.reg [iSm 15,.s (.bin .sub .int aS0 (.c (.int .u64 1))),iQm 15 0]
def zo.t43:IR:=.reg [iSm 13,iSm 6,.s (.bin .add .int aS1 aS0),iQm 13 0]
def zo.t44:IR:=.reg [iSm 13,iQo 22 (.bin .geq .int aS0 (.c (.int .u64 4294967296)))]
def zo.t50:IR:=.seq (.seq zo.t39 (.cond aT21 .skip (.exit 2))) (.block 3 (.seq zo.t42 (.seq zo.t43 (.seq zo.t44 (.cond aT22 (.exit 2) .skip)))))
def zo.t51:IR:=.loop zo.t50
def zo.zm8 (r:List RO):List RO:=iSm 15::iSm 2::.s (.bin .mul .int aS1 aS0)::.s (.bin .sub .int aS3 aS0)::iSm 5::.s (.bin .shr .int aS1 aS0)::iQm 3 10::iQm 4 0::r
def zo.zv2:List RO:=zo.zm8 []
def zo.zm7 (r:List RO):List RO:=iSm 12::.s (.bin .mul .int aS0 (.c (.int .u64 4294967296)))::iSm 15::.s (.bin .add .int aS1 aS0)::iSm 14::.s (.bin .mul .int aS0 (.c (.int .u64 4294967296)))::iSm 11::.s (.bin .add .int aS1 aS0)::r
def zo.zm6:List RO:=zo.zm7 zo.zv2
def zo.t53:IR:=.reg zo.zm6
def zo.t54:IR:=.seq zo.t53 .ret
def zo.t58:IR:=.seq zo.t36 (.seq zo.t37 (.seq zo.t38 (.seq (.block 2 zo.t51) zo.t54)))
def zo.t73:IR:=.seq zo.t0 (.seq (.seq zo.t1 (.cond aT16 (.bad 2) .skip)) (.seq (.seq zo.t4 (.cond aW (.bad 4) .skip)) (.seq (.seq zo.t7 (.cond oU (.seq zo.t8 .ret) .skip)) (.seq zo.t12 (.seq zo.t13 (.seq zo.t14 (.seq zo.t15 (.seq zo.t16 (.seq zo.t17 (.seq zo.t18 (.seq zo.t19 (.seq zo.t20 (.seq zo.t21 (.seq (.block 0 zo.t34) zo.t58))))))))))))))
def zo.b0:IR:=zo.t73
def zo.res:List RV:=[.t (.of 3),.t (.of 4)]
def zo:Fn:={ params:=[(.of 0),(.of 1),(.of 2)],res:=zo.res,body:=zo.b0,init:=in23 }
theorem zo.ok:fnA Tryz.prog Tryz.f288 [0,1,2,6,7,8,9,10,11,12,13,14,15,16,17,18,20,24,27,78,85,113,120]=some zo:=by kernel_rfl
abbrev jv.fr:=fr4
def jv.t0:IR:=.reg [iQo 1 (.mv (.c .zf))]
def jv.t1:IR:=.reg [iSm 0,.s (.len aS0),iQm 2 0]
def jv.zu3 (r:List RO):List RO:=iPt 5 (.bin .eql .int aS0 (.c (.int .u64 0)))::iQo 3 (.pick aS6 aS0 (.c (.bool false)))::r
def jv.r2_1:List RO:=jv.zu3 []
def jv.zu1 (r:List RO):List RO:=iSm 2::.s (.bin .gtr .int aS0 aC0)::.s (.mv aS0)::iPt 0 (.mv aT0)::iPt 1 (.mv aT2)::iPt 2 (.bin .sub .int aS0 aC1)::iPt 3 (.zx 1 aS2 aS0)::iPt 4 (.load aS0)::r
def jv.r2_0:List RO:=jv.zu1 jv.r2_1
def jv.t2:IR:=.reg jv.r2_0
def jv.t5:IR:=.reg [iSm 2,.s (.bin .sub .int aS0 aC1),iQm 2 0]
def jv.t7:IR:=.seq (.seq jv.t2 (.cond aT3 .skip (.exit 0))) (.block 1 jv.t5)
def jv.t8:IR:=.loop jv.t7
def jv.t10:IR:=.reg [iSm 0,iSm 2,.s (.slice 1 aS1 none (some aS0) none),iQm 1 0]
def jv.t14:IR:=.seq jv.t0 (.seq jv.t1 (.seq (.block 0 jv.t8) (.seq jv.t10 .ret)))
def jv.b0:IR:=jv.t14
def jv.res:List RV:=[.t (.of 1)]
def jv:Fn:={ params:=[(.of 0)],res:=jv.res,body:=jv.b0,init:=in4 }
theorem jv.ok:fnA Tryz.prog Tryz.f289 [0,2,3,15]=some jv:=by kernel_rfl
abbrev bQ.fr:=fr2
def bQ.t0:IR:=.reg [iQo 1 (.mv aC0)]
def bQ.t1:IR:=.reg [iSm 0,iCa 312 [aS0],.s (.bin .sub .int aC64 aS0),iQm 1 0]
def bQ.t3:IR:=.seq bQ.t0 (.seq bQ.t1 .ret)
def bQ.b0:IR:=bQ.t3
def bQ.res:List RV:=[.t (.of 1)]
def bQ:Fn:={ params:=[(.of 0)],res:=bQ.res,body:=bQ.b0,init:=in2 }
theorem bQ.ok:fnA Tryz.prog Tryz.f290 [0,2]=some bQ:=by kernel_rfl
abbrev je.fr:=fr11
def je.t0:IR:=.reg [iQo 2 (.mv (.c .zf))]
def je.t1:IR:=.reg [iSm 0,.s (.len aS0),.s (.bin .add .int aS0 aC1),.w .push none (.bg 1 8 [(.int .u64 0)] aS0 aS0),iQm 3 0]
def je.t2:IR:=.reg [iQo 6 (.mv aT0),iQo 7 (.len aT6),iQo 8 (.mv aC0)]
def je.t3:IR:=.reg [iQo 9 (.bin .lss .int aT8 aT7)]
def je.t5:IR:=.reg [iSm 8,.s (.zx 1 aT6 aT8),.s (.load aS0),iQm 4 2,iQm 5 0]
def je.t6:IR:=.jd [] [(iSm 3,0,[]),(iSm 4,0,[]),(.s (.zx 1 aS1 aS0),0,[]),(.s (.load aS0),0,[]),(iSm 5,0,[]),(iSm 1,0,[]),(.s (.bin .shl .int aS1 aS0),0,[]),(.s (.bin .or .int aS3 aS0),0,[]),(.s (.zx 1 aS7 aS6),0,[]),(.w .none none (.store 1 aS0 aS1),0,[])]
def je.t7:IR:=.reg [iSm 1,iQo 10 (.bin .gtr .int aS0 aC0)]
def je.t8:IR:=.reg [iSm 3,iSm 4,.s (.bin .add .int aS0 aC1),iSm 5,iSm 1,.s (.bin .sub .int aC64 aS0),.s (.bin .shr .int aS2 aS0),.s (.zx 1 aS6 aS4),.w .none none (.store 1 aS0 aS1)]
def je.t14:IR:=.reg [.s (.bin .add .int aT8 aC1),iQm 8 0]
def je.t17:IR:=.seq je.t3 (.seq (.cond aT9 .skip (.exit 0)) (.seq (.block 1 (.seq je.t5 (.seq je.t6 (.seq je.t7 (.cond nV je.t8 .skip))))) je.t14))
def je.t18:IR:=.loop je.t17
def je.t21:IR:=.reg [iSm 3,iQm 2 0]
def je.t25:IR:=.seq je.t0 (.seq je.t1 (.seq (.seq je.t2 (.block 0 je.t18)) (.seq je.t21 .ret)))
def je.b0:IR:=je.t25
def je.res:List RV:=[.t (.of 2)]
def je:Fn:={ params:=[(.of 0),(.of 1)],res:=je.res,body:=je.b0,init:=in11 }
theorem je.ok:fnA Tryz.prog Tryz.f291 [0,1,4,5,6,7,12,13,14,15,29]=some je:=by kernel_rfl
abbrev zh.fr:=fr27
def zh.t0:IR:=.reg [iQo 2 (.mv (.c (.int .u64 0)))]
def zh.t1:IR:=.reg [iSm 1,.s (.len aS0),iQm 3 0]
def zh.t2:IR:=.reg [iQo 4 (.mv (.c (.int .u64 0))),iQo 5 (.mv (.c (.int .u64 0)))]
def zh.t3:IR:=.reg [iQo 6 (.mv (.c (.int .u64 0)))]
def zh.t4:IR:=.jd [] [(iSm 0,0,[]),(iSm 3,0,[]),(.s (.zx 1 aS1 aS0),0,[]),(.s (.load aS0),0,[]),(iSm 1,0,[]),(iSm 3,0,[]),(.s (.bin .sub .int aS0 aC1),0,[]),(.s (.zx 1 aS2 aS0),0,[]),(.s (.load aS0),0,[]),(iQo 17 (.bin .geq .int aS5 aS0),0,[])]
def zh.t5:IR:=.reg [iQo 4 (.mv (.c (.int .u64 18446744073709551615)))]
def zh.zu5 (r:List RO):List RO:=.s (.mv aS0)::.s (.ext 0 aS0)::.s (.ext 1 aS1)::iQm 5 1::iQm 6 0::r
def zh.r5_2:List RO:=zh.zu5 []
def zh.zf2 (r:List RO):List RO:=.s (.zx 1 aS2 aS0)::.s (.load aS0)::iCa 300 [aS5,aS0,(.c (.int .u64 0))]::r
def zh.r5_1:List RO:=zh.zf2 zh.r5_2
def zh.zf1 (r:List RO):List RO:=iSm 0::iSm 3::.s (.bin .sub .int aS0 aC1)::.s (.zx 1 aS2 aS0)::.s (.load aS0)::iSm 1::iSm 3::.s (.bin .sub .int aS0 aC1)::r
def zh.r5_0:List RO:=zh.zf1 zh.r5_1
def zh.t6:IR:=.jd [] (zh.r5_0.map fun o=>(o,0,[]))
def zh.zu8 (r:List RO):List RO:=.s (.mv aS0)::.s (.ext 0 aS0)::.s (.ext 1 aS1)::iQm 4 1::iQm 5 0::r
def zh.r6_2:List RO:=zh.zu8 []
def zh.zu7 (r:List RO):List RO:=.s (.load aS0)::iSm 1::iSm 3::.s (.bin .sub .int aS0 aC1)::.s (.zx 1 aS2 aS0)::.s (.load aS0)::iCa 288 [tJ,aS5,aS0]::r
def zh.r6_1:List RO:=zh.zu7 zh.r6_2
def zh.zu6 (r:List RO):List RO:=iSm 0::iSm 3::.s (.zx 1 aS1 aS0)::.s (.load aS0)::iSm 0::iSm 3::.s (.bin .sub .int aS0 aC1)::.s (.zx 1 aS2 aS0)::r
def zh.r6_0:List RO:=zh.zu6 zh.r6_1
def zh.t8:IR:=.jd [] (zh.r6_0.map fun o=>(o,0,[]))
def zh.t11:IR:=.reg [iSm 6,iQo 18 (.bin .eql .int aS0 (.c (.int .u64 0)))]
def zh.t14:IR:=.reg [iSm 4,iSm 1,iSm 3,.s (.bin .sub .int aS0 aC2),.s (.zx 1 aS2 aS0),.s (.load aS0),iCa 263 [aS5,aS0],.s (.mv aS0),.s (.ext 0 aS0),.s (.ext 1 aS1),iQm 7 1,iQm 8 0]
def zh.zar (r:List RO):List RO:=iQo 19 (.pick aS12 (.c (.bool true)) aS0)::r
def zh.r9_2:List RO:=zh.zar []
def zh.zaq (r:List RO):List RO:=iPt 0 (.mv aT8)::iPt 1 (.mv aT0)::iPt 2 (.mv aT3)::iPt 3 (.bin .sub .int aS0 aC2)::iPt 4 (.zx 1 aS2 aS0)::iPt 5 (.load aS0)::iPt 6 (.bin .leq .int aS5 aS0)::iPf 11 (.pick aS7 aS0 (.c (.bool false)))::r
def zh.r9_1:List RO:=zh.zaq zh.r9_2
def zh.zao (r:List RO):List RO:=iSm 7::iSm 5::.s (.bin .lss .int aS1 aS0)::.s (.mv aS0)::iPf 0 (.mv aT7)::iPf 1 (.mv aT5)::iPf 2 (.bin .eql .int aS1 aS0)::iPf 3 (.mv aS0)::r
def zh.r9_0:List RO:=zh.zao zh.r9_1
def zh.t15:IR:=.reg zh.r9_0
def zh.t18:IR:=.reg [iSm 4,.s (.bin .sub .int aS0 (.c (.int .u64 1))),iQm 4 0]
def zh.t19:IR:=.reg [iSm 5,iSm 1,iSm 3,.s (.bin .sub .int aS0 aC1),.s (.zx 1 aS2 aS0),.s (.load aS0),iCa 300 [aS5,aS0,(.c (.int .u64 0))],.s (.mv aS0),.s (.ext 0 aS0),.s (.ext 1 aS1),iQm 5 1,iQm 6 0]
def zh.t24:IR:=.seq (.seq zh.t11 (.cond oU .skip (.exit 0))) (.block 1 (.seq zh.t14 (.seq (.seq zh.t15 (.cond aT19 (.exit 0) .skip)) (.seq zh.t18 zh.t19))))
def zh.t25:IR:=.loop zh.t24
def zh.t27:IR:=.reg [iQo 9 (.mv (.c (.int .u64 0))),iQo 10 (.mv (.c (.int .u64 0)))]
def zh.t28:IR:=.reg [iQo 20 (.mv aT3),iQo 21 (.mv aC0)]
def zh.t29:IR:=.reg [iQo 22 (.bin .lss .int aT21 aT20)]
def zh.t31:IR:=.reg [iSm 21,iQm 11 0]
def zh.t32:IR:=.reg [iSm 4,iSm 1,iSm 11,.s (.zx 1 aS1 aS0),.s (.load aS0),iCa 263 [aS4,aS0],.s (.mv aS0),.s (.ext 0 aS0),.s (.ext 1 aS1),iQm 12 1,iQm 13 0]
def zh.t33:IR:=.reg [iQo 14 (.mv (.c (.int .u64 0)))]
def zh.t34:IR:=.reg [iSm 13,iSm 10,iCa 300 [aS1,aS0,(.c (.int .u64 0))],.s (.mv aS0),.s (.ext 0 aS0),.s (.ext 1 aS1),iQm 13 1,iQm 14 0]
def zh.t35:IR:=.reg [iSm 12,iSm 14,.s (.bin .add .int aS1 aS0),iQm 10 0]
def zh.znf (r:List RO):List RO:=iQm 9 1::r
def zh.zv3:List RO:=zh.znf []
def zh.zne (r:List RO):List RO:=.s (.mv aS0)::.s (.ext 0 aS0)::.s (.ext 1 aS1)::.s (.zx 1 aS11 tJ)::.w .none none (.store 1 aS0 aS2)::r
def zh.zv4:List RO:=zh.zne zh.zv3
def zh.znd (r:List RO):List RO:=iCa 301 [aS2,aS1,aS0]::r
def zh.zv5:List RO:=zh.znd zh.zv4
def zh.znc (r:List RO):List RO:=iSm 0::iSm 11::iSm 0::iSm 11::.s (.zx 1 aS1 aS0)::.s (.load aS0)::iSm 13::iSm 9::r
def zh.znb:List RO:=zh.znc zh.zv5
def zh.t36:IR:=.reg zh.znb
def zh.t43:IR:=.reg [.s (.bin .add .int aT21 aC1),iQm 21 0]
def zh.t46:IR:=.seq zh.t29 (.seq (.cond aT22 .skip (.exit 2)) (.seq (.block 3 (.seq zh.t31 (.seq zh.t32 (.seq zh.t33 (.seq zh.t34 (.seq zh.t35 zh.t36)))))) zh.t43))
def zh.t47:IR:=.loop zh.t46
def zh.znh (r:List RO):List RO:=iQm 9 1::r
def zh.zv6:List RO:=zh.znh []
def zh.zng (r:List RO):List RO:=.s (.mv aS0)::.s (.ext 0 aS0)::.s (.ext 1 aS1)::.s (.zx 1 aS11 tJ)::.w .none none (.store 1 aS0 aS2)::r
def zh.zv7:List RO:=zh.zng zh.zv6
def zh.za5 (r:List RO):List RO:=iCa 301 [aS2,aS1,aS0]::r
def zh.zd0:List RO:=zh.za5 zh.zv7
def zh.za4 (r:List RO):List RO:=iSm 0::iSm 3::iSm 0::iSm 3::.s (.zx 1 aS1 aS0)::.s (.load aS0)::iSm 10::iSm 9::r
def zh.za3:List RO:=zh.za4 zh.zd0
def zh.t50:IR:=.reg zh.za3
def zh.t51:IR:=.reg [iSm 9,iQo 23 (.bin .eql .int aS0 (.c (.int .u64 0)))]
def zh.t52:IR:=.reg [iSm 4,iQm 2 0]
def zh.t56:IR:=.reg [iQo 15 (.mv (.c (.int .u64 0)))]
def zh.t57:IR:=.reg [iQo 24 (.mv aT3),iQo 25 (.mv aC0)]
def zh.t58:IR:=.reg [iQo 26 (.bin .lss .int aT25 aT24)]
def zh.t60:IR:=.reg [iSm 25,iQm 16 0]
def zh.t61:IR:=.jd [] [(iSm 0,1,[]),(iSm 16,1,[]),(iSm 0,0,[]),(iSm 16,0,[]),(.s (.zx 1 aS1 aS0),0,[]),(.s (.load aS0),0,[]),(iSm 1,0,[]),(iSm 16,0,[]),(.s (.zx 1 aS1 aS0),0,[]),(.s (.load aS0),0,[]),(iSm 15,0,[]),(iCa 300 [aS5,aS1,aS0],0,[]),(.s (.mv aS0),0,[]),(.s (.ext 0 aS0),0,[]),(.s (.ext 1 aS1),1,[]),(.s (.zx 1 aS14 aS13),0,[]),(.w .none none (.store 1 aS0 aS2),0,[]),(iQm 15 1,0,[])]
def zh.t64:IR:=.reg [.s (.bin .add .int aT25 aC1),iQm 25 0]
def zh.t67:IR:=.seq zh.t58 (.seq (.cond aT26 .skip (.exit 4)) (.seq (.block 5 (.seq zh.t60 zh.t61)) zh.t64))
def zh.t68:IR:=.loop zh.t67
def zh.t71:IR:=.reg [iSm 0,iSm 3,.s (.zx 1 aS1 aS0),.s (.load aS0),iSm 15,.s (.bin .add .int aS1 aS0),.s (.zx 1 aS5 aS4),.w .none none (.store 1 aS0 aS1)]
def zh.t72:IR:=.reg [iSm 4,.s (.bin .sub .int aS0 (.c (.int .u64 1))),iQm 2 0]
def zh.t76:IR:=.seq zh.t56 (.seq (.seq zh.t57 (.block 4 zh.t68)) (.seq zh.t71 (.seq zh.t72 .ret)))
def zh.t80:IR:=.seq zh.t27 (.seq (.seq zh.t28 (.block 2 zh.t47)) (.seq zh.t50 (.seq (.seq zh.t51 (.cond aT23 (.seq zh.t52 .ret) .skip)) zh.t76)))
def zh.t81:IR:=.seq (.block 0 zh.t25) zh.t80
def zh.t86:IR:=.seq zh.t0 (.seq zh.t1 (.seq zh.t2 (.seq zh.t3 (.seq (.seq zh.t4 (.cond aW (.seq zh.t5 zh.t6) zh.t8)) zh.t81))))
def zh.b0:IR:=zh.t86
def zh.res:List RV:=[.t (.of 2)]
def zh:Fn:={ params:=[(.of 0),(.of 1)],res:=zh.res,body:=zh.b0,init:=in27 }
theorem zh.ok:fnA Tryz.prog Tryz.f292 [0,1,4,5,6,7,8,9,10,11,12,13,14,15,16,17,18,30,64,91,104,105,106,154,156,157,158]=some zh:=by kernel_rfl
abbrev xu.fr:=fr4
def xu.t0:IR:=.reg [iWl 1 (.box aT0),iWl 2 (.alloc [(I 0),.zf])]
def xu.t1:IR:=.reg [.s (.zu 0 aT1),.s (.load aS0),iQo 3 (.bin .lss .int aS0 aC0)]
def xu.t2:IR:=.reg [.s (.zk 2 aT1),iCa 193 [aS0],.w .none none (.store 2 aT2 aS0)]
def xu.t6:IR:=.reg [.s (.zk 2 aT1),.w .none none (.store 2 aT2 aS0)]
def xu.t9:IR:=.seq xu.t0 (.seq (.seq xu.t1 (.cond aT3 (.seq xu.t2 .ret) .skip)) (.seq xu.t6 .ret))
def xu.b0:IR:=xu.t9
def xu.res:List RV:=[.cell (.of 2) (some 2)]
def xu:Fn:={ params:=[(.of 0)],res:=xu.res,body:=xu.b0,init:=in4 }
theorem xu.ok:fnA Tryz.prog Tryz.f299 [0,1,2,5]=some xu:=by kernel_rfl
abbrev F302.fr:=fr7
def F302.b0:IR:=(iSr [iSm 1,.s (.bin .add .int aS0 aC1),iQm 3 0] (.block 0 (.loop (.seq (iSr [iSm 3,iSm 2,iQo 5 (.bin .lss .int aS1 aS0)] (.cond aT5 .skip (.exit 0))) (.seq (.block 1 (iSr [iSm 3,iQm 4 0] (.block 2 (.loop (.seq (.seq (.jd [] [(iSm 4,0,[]),(iSm 1,0,[]),(.s (.bin .gtr .int aS1 aS0),0,[]),(.s (.mv aS0),0,[]),(iPt 0 (.mv aT0),0,[]),(iPt 1 (.mv aT4),0,[]),(iPt 2 (.zx 1 aS1 aS0),0,[]),(iPt 3 (.load aS0),0,[]),(iPt 4 (.mv aT0),0,[]),(iPt 5 (.mv aT4),0,[]),(iPt 6 (.bin .sub .int aS0 aC1),0,[]),(iPt 7 (.zx 1 aS2 aS0),0,[]),(iPt 8 (.load aS0),0,[]),(.w .push (some (aS9,true)) (.call (.c (.fn 308 (.of 308) [])) [aS5,aS0]),0,[]),(iQo 6 (.pick tJ aS0 (.c (.bool false))),0,[])]) (.cond aT6 .skip (.exit 2))) (.seq (.block 3 (.jd [] [(iSm 0,0,[]),(iSm 4,0,[]),(iSm 0,1,[]),(iSm 4,1,[]),(.s (.bin .sub .int aS0 aC1),1,[]),(iSm 0,0,[]),(iSm 4,0,[]),(.s (.bin .sub .int aS0 aC1),0,[]),(.s (.zx 1 aS2 aS0),0,[]),(.s (.load aS0),0,[]),(iSm 0,0,[]),(iSm 4,0,[]),(.s (.zx 1 aS1 aS0),0,[]),(.s (.load aS0),0,[]),(.s (.zx 1 aS13 aS12),0,[]),(.w .none none (.store 1 aS0 aS5),0,[]),(.s (.zx 1 aS12 tJ),0,[]),(.w .none none (.store 1 aS0 aS2),0,[])])) (.reg [iSm 4,.s (.bin .sub .int aS0 aC1),iQm 4 0]))))))) (.reg [iSm 3,.s (.bin .add .int aS0 aC1),iQm 3 0]))))))
def F302.res:List RV:=[]
def F302:Fn:={ params:=[(.of 0),(.of 1),(.of 2)],res:=F302.res,body:=F302.b0,init:=in7 }
theorem F302.ok:fnA Tryz.prog Tryz.f302 [0,1,2,6,7,12,30]=some F302:=by kernel_rfl
abbrev F308.fr:=fr3
def F308.b0:IR:=(iSr [iQo 2 (.mv (.c (.bool false)))] (iSr [iSm 0,iCa 328 [aS0],.s (.mv aS0),iPt 0 (.mv aT1),.w .push (some (aS1,true)) (.call (.c (.fn 328 (.of 328) [])) [aS0]),iPt 2 (.not aS0),.s (.pick aS3 aS0 (.c (.bool false))),.s (.mv aS0),iPf 0 (.mv aT0),iPf 1 (.mv aT1),iPf 2 (.bin .lss .int aS1 aS0),.s (.pick aS3 (.c (.bool true)) aS0),iQm 2 0] .ret))
def F308.res:List RV:=[.t (.of 2)]
def F308:Fn:={ params:=[(.of 0),(.of 1)],res:=F308.res,body:=F308.b0,init:=in3 }
theorem F308.ok:fnA Tryz.prog Tryz.f308 [0,1,4]=some F308:=by kernel_rfl
abbrev F311.fr:=fr4
def F311.b0:IR:=(iSr [iQo 1 (.mv aC0)] (.seq (iSr [iSm 0,iQo 2 (.bin .geq .int aS0 (.c (.int .u32 65536)))] (.cond aT2 (iSr [iSm 0,.s (.bin .shr .int aS0 (.c (.int .u64 16))),iQm 0 0] (.reg [iQo 1 (.mv aC16)])) .skip)) (.seq (iSr [iSm 0,iQo 3 (.bin .geq .int aS0 (.c (.int .u32 256)))] (.cond aT3 (iSr [iSm 0,.s (.bin .shr .int aS0 (.c (.int .u64 8))),iQm 0 0] (.reg [iSm 1,.s (.bin .add .int aS0 aC8),iQm 1 0])) .skip)) (iSr [iSm 1,iSm 0,.s (.conv .u8 aS0),.s (.tY (.c (.str [0,1,2,2,3,3,3,3,4,4,4,4,4,4,4,4,5,5,5,5,5,5,5,5,5,5,5,5,5,5,5,5,6,6,6,6,6,6,6,6,6,6,6,6,6,6,6,6,6,6,6,6,6,6,6,6,6,6,6,6,6,6,6,6,7,7,7,7,7,7,7,7,7,7,7,7,7,7,7,7,7,7,7,7,7,7,7,7,7,7,7,7,7,7,7,7,7,7,7,7,7,7,7,7,7,7,7,7,7,7,7,7,7,7,7,7,7,7,7,7,7,7,7,7,7,7,7,7,8,8,8,8,8,8,8,8,8,8,8,8,8,8,8,8,8,8,8,8,8,8,8,8,8,8,8,8,8,8,8,8,8,8,8,8,8,8,8,8,8,8,8,8,8,8,8,8,8,8,8,8,8,8,8,8,8,8,8,8,8,8,8,8,8,8,8,8,8,8,8,8,8,8,8,8,8,8,8,8,8,8,8,8,8,8,8,8,8,8,8,8,8,8,8,8,8,8,8,8,8,8,8,8,8,8,8,8,8,8,8,8,8,8,8,8,8,8,8,8,8,8,8,8,8,8,8,8])) aS0),.s (.conv .i64 aS0),.s (.bin .add .int aS4 aS0),iQm 1 0] .ret))))
def F311.res:List RV:=[.t (.of 1)]
def F311:Fn:={ params:=[(.of 0)],res:=F311.res,body:=F311.b0,init:=in4 }
theorem F311.ok:fnA Tryz.prog Tryz.f311 [0,2,4,8]=some F311:=by kernel_rfl
abbrev jb.fr:=fr5
def jb.t0:IR:=.reg [iQo 1 (.mv aC0)]
def jb.t1:IR:=.reg [iSm 0,iQo 2 (.bin .geq .int aS0 (.c (.int .u64 4294967296)))]
def jb.t2:IR:=.reg [iSm 0,.s (.bin .shr .int aS0 (.c (.int .u64 32))),iQm 0 0]
def jb.t3:IR:=.reg [iQo 1 (.mv aC32)]
def jb.t7:IR:=.reg [iSm 0,iQo 3 (.bin .geq .int aS0 (.c (.int .u64 65536)))]
def jb.t8:IR:=.reg [iSm 0,.s (.bin .shr .int aS0 (.c (.int .u64 16))),iQm 0 0]
def jb.t9:IR:=.reg [iSm 1,.s (.bin .add .int aS0 aC16),iQm 1 0]
def jb.t13:IR:=.reg [iSm 0,iQo 4 (.bin .geq .int aS0 (.c (.int .u64 256)))]
def jb.t14:IR:=.reg [iSm 0,.s (.bin .shr .int aS0 (.c (.int .u64 8))),iQm 0 0]
def jb.t15:IR:=.reg [iSm 1,.s (.bin .add .int aS0 aC8),iQm 1 0]
def jb.t19:IR:=.reg [iSm 1,iSm 0,.s (.conv .u8 aS0),.s (.tY (.c (.str [0,1,2,2,3,3,3,3,4,4,4,4,4,4,4,4,5,5,5,5,5,5,5,5,5,5,5,5,5,5,5,5,6,6,6,6,6,6,6,6,6,6,6,6,6,6,6,6,6,6,6,6,6,6,6,6,6,6,6,6,6,6,6,6,7,7,7,7,7,7,7,7,7,7,7,7,7,7,7,7,7,7,7,7,7,7,7,7,7,7,7,7,7,7,7,7,7,7,7,7,7,7,7,7,7,7,7,7,7,7,7,7,7,7,7,7,7,7,7,7,7,7,7,7,7,7,7,7,8,8,8,8,8,8,8,8,8,8,8,8,8,8,8,8,8,8,8,8,8,8,8,8,8,8,8,8,8,8,8,8,8,8,8,8,8,8,8,8,8,8,8,8,8,8,8,8,8,8,8,8,8,8,8,8,8,8,8,8,8,8,8,8,8,8,8,8,8,8,8,8,8,8,8,8,8,8,8,8,8,8,8,8,8,8,8,8,8,8,8,8,8,8,8,8,8,8,8,8,8,8,8,8,8,8,8,8,8,8,8,8,8,8,8,8,8,8,8,8,8,8,8,8,8,8,8,8])) aS0),.s (.conv .i64 aS0),.s (.bin .add .int aS4 aS0),iQm 1 0]
def jb.t20:IR:=.seq jb.t19 .ret
def jb.t21:IR:=.seq (.seq jb.t13 (.cond aT4 (.seq jb.t14 jb.t15) .skip)) jb.t20
def jb.t22:IR:=.seq (.seq jb.t7 (.cond aT3 (.seq jb.t8 jb.t9) .skip)) jb.t21
def jb.t24:IR:=.seq jb.t0 (.seq (.seq jb.t1 (.cond aT2 (.seq jb.t2 jb.t3) .skip)) jb.t22)
def jb.b0:IR:=jb.t24
def jb.res:List RV:=[.t (.of 1)]
def jb:Fn:={ params:=[(.of 0)],res:=jb.res,body:=jb.b0,init:=in5 }
theorem jb.ok:fnA Tryz.prog Tryz.f312 [0,2,4,8,14]=some jb:=by kernel_rfl
abbrev F313.fr:=fr4
def F313.b0:IR:=(iSr [iQo 2 (.mv (.c (.str [])))] (.seq (iSr [iSm 0,iSm 1,iWl 3 (.call (.c (.fn 320 (.of 320) [])) [aS1,aS0])] (.cond aT3 (iSr [iSm 0,iSm 1,.s (.slen aS0),.s (.oK aS2 (some aS0) none),iQm 2 0] .ret) .skip)) (iSr [iSm 0,iQm 2 0] .ret)))
def F313.res:List RV:=[.t (.of 2)]
def F313:Fn:={ params:=[(.of 0),(.of 1)],res:=F313.res,body:=F313.b0,init:=in4 }
theorem F313.ok:fnA Tryz.prog Tryz.f313 [0,1,4,7]=some F313:=by kernel_rfl
abbrev F314.fr:=fr11
def F314.b0:IR:=(iSr [iQo 2 (.mv (.c (.str [])))] (.seq (iSr [iSm 1,iQo 7 (.bin .eql .int aS0 aC10)] (.cond aT7 (.seq (iSr [iSm 0,.s (.bin .leq .int aC0 aS0),.s (.mv aS0),iPt 0 (.mv aT0),iPt 1 (.bin .lss .int aS0 qbq),iQo 8 (.pick aS2 aS0 (.c (.bool false)))] (.cond aT8 (iSr [iSm 0,iCa 315 [aS0],iQm 2 0] .ret) .skip)) (iSr [iWl 3 (.alloc [(.int .u8 0),(.int .u8 0),(.int .u8 0),(.int .u8 0),(.int .u8 0),(.int .u8 0),(.int .u8 0),(.int .u8 0),(.int .u8 0),(.int .u8 0),(.int .u8 0),(.int .u8 0),(.int .u8 0),(.int .u8 0),(.int .u8 0),(.int .u8 0),(.int .u8 0),(.int .u8 0),(.int .u8 0),(.int .u8 0),(.int .u8 0),(.int .u8 0),(.int .u8 0),(.int .u8 0)])] (iSr [iSm 0,.s (.conv .u64 aS0),iQm 4 0] (.seq (iSr [iSm 0,iQo 9 (.bin .lss .int aS0 aC0)] (.cond aT9 (.reg [iSm 4,.s (.neg aS0),iQm 4 0]) .skip)) (iSr [iSm 4,iCa 316 [aS0],iQm 5 0] (iSr [iSm 5,.s (.bin .add .int aC1 aS0),.s (.aslice 1 24 aT3 (some aC1) (some aS0) none),iSm 4,iCa 317 [aS1,aS0]] (.seq (iSr [iSm 0,iQo 10 (.bin .lss .int aS0 aC0)] (.cond nV (iSr [.s (.tN 1 24 aT3 aC0),.w .none none (.store 1 aS0 (.c (.int .u8 45)))] (iSr [iSm 5,.s (.bin .add .int aC1 aS0),.s (.aslice 1 24 aT3 none (some aS0) none),.s (.b2s aS0),iQm 2 0] .ret)) .skip)) (iSr [iSm 5,.s (.bin .add .int aC1 aS0),.s (.aslice 1 24 aT3 (some aC1) (some aS0) none),.s (.b2s aS0),iQm 2 0] .ret)))))))) .skip)) (iSr [iSm 0,.s (.conv .u64 aS0),iSm 1,iSm 0,.s (.bin .lss .int aS0 aC0),iCa 318 [(.c .zf),aS3,aS2,aS0,(.c (.bool false))],.s (.mv aS0),.s (.ext 0 aS0),.s (.ext 1 aS1),.s (.mv aS1),iQm 6 1] (iSr [iSm 6,iQm 2 0] .ret))))
def F314.res:List RV:=[.t (.of 2)]
def F314:Fn:={ params:=[(.of 0),(.of 1)],res:=F314.res,body:=F314.b0,init:=in11 }
theorem F314.ok:fnA Tryz.prog Tryz.f314 [0,1,4,5,6,7,9,11,17,23,34]=some F314:=by kernel_rfl
abbrev F315.fr:=fr3
def F315.b0:IR:=(iSr [iQo 1 (.mv (.c (.str [])))] (.seq (iSr [iSm 0,iQo 2 (.bin .lss .int aS0 aC10)] (.cond aT2 (iSr [iSm 0,iSm 0,.s (.bin .add .int aS0 aC1),.s (.oK (.c (.str [48,49,50,51,52,53,54,55,56,57,97,98,99,100,101,102,103,104,105,106,107,108,109,110,111,112,113,114,115,116,117,118,119,120,121,122])) (some aS2) (some aS0)),iQm 1 0] .ret) .skip)) (iSr [iSm 0,.s (.bin .mul .int aS0 aC2),iSm 0,.s (.bin .mul .int aS0 aC2),.s (.bin .add .int aS0 aC2),.s (.oK (.c (.str [48,48,48,49,48,50,48,51,48,52,48,53,48,54,48,55,48,56,48,57,49,48,49,49,49,50,49,51,49,52,49,53,49,54,49,55,49,56,49,57,50,48,50,49,50,50,50,51,50,52,50,53,50,54,50,55,50,56,50,57,51,48,51,49,51,50,51,51,51,52,51,53,51,54,51,55,51,56,51,57,52,48,52,49,52,50,52,51,52,52,52,53,52,54,52,55,52,56,52,57,53,48,53,49,53,50,53,51,53,52,53,53,53,54,53,55,53,56,53,57,54,48,54,49,54,50,54,51,54,52,54,53,54,54,54,55,54,56,54,57,55,48,55,49,55,50,55,51,55,52,55,53,55,54,55,55,55,56,55,57,56,48,56,49,56,50,56,51,56,52,56,53,56,54,56,55,56,56,56,57,57,48,57,49,57,50,57,51,57,52,57,53,57,54,57,55,57,56,57,57])) (some aS3) (some aS0)),iQm 1 0] .ret)))
def F315.res:List RV:=[.t (.of 1)]
def F315:Fn:={ params:=[(.of 0)],res:=F315.res,body:=F315.b0,init:=in3 }
theorem F315.ok:fnA Tryz.prog Tryz.f315 [0,2,4]=some F315:=by kernel_rfl
abbrev F316.fr:=fr3
def F316.b0:IR:=(iSr [iQo 1 (.mv aC0)] (iSr [iSm 0,iCa 312 [aS0],iCa 329 [aS0],iQm 2 0] (iSr [iSm 2,iSm 0,iSm 2,.s (.tN 1 20 (.c (.fp (layL 2))) aS0),.s (.load aS0),.s (.bin .geq .int aS3 aS0),iCa 330 [aS0],.s (.bin .add .int aS6 aS0),iQm 1 0] .ret)))
def F316.res:List RV:=[.t (.of 1)]
def F316:Fn:={ params:=[(.of 0)],res:=F316.res,body:=F316.b0,init:=in3 }
theorem F316.ok:fnA Tryz.prog Tryz.f316 [0,2,3]=some F316:=by kernel_rfl
abbrev F317.fr:=fr19
def F317.b0:IR:=(iSr [iSm 0,.s (.len aS0),iQm 2 0] (.seq (.block 0 (.loop (.seq (iSr [iSm 2,iQo 15 (.bin .geq .int aS0 aC8)] (.cond aO .skip (.exit 0))) (.block 1 (iSr [iSm 1,.s (.bin .rem .int aS0 (.c (.int .u64 100000000))),.s (.conv .u32 aS0),iQm 3 0] (iSr [iSm 1,.s (.bin .quo .int aS0 (.c (.int .u64 100000000))),iQm 1 0] (iSr [iSm 3,.s (.bin .quo .int aS0 (.c (.int .u32 10000))),iSm 3,.s (.bin .rem .int aS0 (.c (.int .u32 10000))),iQm 4 2,iQm 5 0] (iSr [iSm 5,.s (.bin .quo .int aS0 (.c (.int .u32 100))),.s (.bin .mul .int aS0 (.c (.int .u32 2))),iSm 5,.s (.bin .rem .int aS0 (.c (.int .u32 100))),.s (.bin .mul .int aS0 (.c (.int .u32 2))),iQm 6 3,iQm 7 0] (iSr [iSm 4,.s (.bin .quo .int aS0 (.c (.int .u32 100))),.s (.bin .mul .int aS0 (.c (.int .u32 2))),iSm 4,.s (.bin .rem .int aS0 (.c (.int .u32 100))),.s (.bin .mul .int aS0 (.c (.int .u32 2))),iQm 8 3,iQm 9 0] (.seq (.jd [] [(iSm 0,0,[]),(iSm 2,0,[]),(.s (.bin .sub .int aS0 aC1),0,[]),(iSm 0,1,[]),(iSm 2,1,[]),(.s (.bin .sub .int aS0 aC2),1,[]),(iSm 7,0,[]),(.s (.bin .add .int aS0 (.c (.int .u32 1))),0,[]),(.s (.tY (.c (.str [48,48,48,49,48,50,48,51,48,52,48,53,48,54,48,55,48,56,48,57,49,48,49,49,49,50,49,51,49,52,49,53,49,54,49,55,49,56,49,57,50,48,50,49,50,50,50,51,50,52,50,53,50,54,50,55,50,56,50,57,51,48,51,49,51,50,51,51,51,52,51,53,51,54,51,55,51,56,51,57,52,48,52,49,52,50,52,51,52,52,52,53,52,54,52,55,52,56,52,57,53,48,53,49,53,50,53,51,53,52,53,53,53,54,53,55,53,56,53,57,54,48,54,49,54,50,54,51,54,52,54,53,54,54,54,55,54,56,54,57,55,48,55,49,55,50,55,51,55,52,55,53,55,54,55,55,55,56,55,57,56,48,56,49,56,50,56,51,56,52,56,53,56,54,56,55,56,56,56,57,57,48,57,49,57,50,57,51,57,52,57,53,57,54,57,55,57,56,57,57])) aS0),0,[]),(iSm 7,1,[]),(.s (.tY (.c (.str [48,48,48,49,48,50,48,51,48,52,48,53,48,54,48,55,48,56,48,57,49,48,49,49,49,50,49,51,49,52,49,53,49,54,49,55,49,56,49,57,50,48,50,49,50,50,50,51,50,52,50,53,50,54,50,55,50,56,50,57,51,48,51,49,51,50,51,51,51,52,51,53,51,54,51,55,51,56,51,57,52,48,52,49,52,50,52,51,52,52,52,53,52,54,52,55,52,56,52,57,53,48,53,49,53,50,53,51,53,52,53,53,53,54,53,55,53,56,53,57,54,48,54,49,54,50,54,51,54,52,54,53,54,54,54,55,54,56,54,57,55,48,55,49,55,50,55,51,55,52,55,53,55,54,55,55,55,56,55,57,56,48,56,49,56,50,56,51,56,52,56,53,56,54,56,55,56,56,56,57,57,48,57,49,57,50,57,51,57,52,57,53,57,54,57,55,57,56,57,57])) aS0),1,[]),(.s (.zx 1 tJ aS8),0,[]),(.w .none none (.store 1 aS0 aS3),0,[]),(.s (.zx 1 aS8 aS6),0,[]),(.w .none none (.store 1 aS0 aS2),0,[])]) (.seq (.jd [] [(iSm 0,0,[]),(iSm 2,0,[]),(.s (.bin .sub .int aS0 aC3),0,[]),(iSm 0,1,[]),(iSm 2,1,[]),(.s (.bin .sub .int aS0 aC4),1,[]),(iSm 6,0,[]),(.s (.bin .add .int aS0 (.c (.int .u32 1))),0,[]),(.s (.tY (.c (.str [48,48,48,49,48,50,48,51,48,52,48,53,48,54,48,55,48,56,48,57,49,48,49,49,49,50,49,51,49,52,49,53,49,54,49,55,49,56,49,57,50,48,50,49,50,50,50,51,50,52,50,53,50,54,50,55,50,56,50,57,51,48,51,49,51,50,51,51,51,52,51,53,51,54,51,55,51,56,51,57,52,48,52,49,52,50,52,51,52,52,52,53,52,54,52,55,52,56,52,57,53,48,53,49,53,50,53,51,53,52,53,53,53,54,53,55,53,56,53,57,54,48,54,49,54,50,54,51,54,52,54,53,54,54,54,55,54,56,54,57,55,48,55,49,55,50,55,51,55,52,55,53,55,54,55,55,55,56,55,57,56,48,56,49,56,50,56,51,56,52,56,53,56,54,56,55,56,56,56,57,57,48,57,49,57,50,57,51,57,52,57,53,57,54,57,55,57,56,57,57])) aS0),0,[]),(iSm 6,1,[]),(.s (.tY (.c (.str [48,48,48,49,48,50,48,51,48,52,48,53,48,54,48,55,48,56,48,57,49,48,49,49,49,50,49,51,49,52,49,53,49,54,49,55,49,56,49,57,50,48,50,49,50,50,50,51,50,52,50,53,50,54,50,55,50,56,50,57,51,48,51,49,51,50,51,51,51,52,51,53,51,54,51,55,51,56,51,57,52,48,52,49,52,50,52,51,52,52,52,53,52,54,52,55,52,56,52,57,53,48,53,49,53,50,53,51,53,52,53,53,53,54,53,55,53,56,53,57,54,48,54,49,54,50,54,51,54,52,54,53,54,54,54,55,54,56,54,57,55,48,55,49,55,50,55,51,55,52,55,53,55,54,55,55,55,56,55,57,56,48,56,49,56,50,56,51,56,52,56,53,56,54,56,55,56,56,56,57,57,48,57,49,57,50,57,51,57,52,57,53,57,54,57,55,57,56,57,57])) aS0),1,[]),(.s (.zx 1 tJ aS8),0,[]),(.w .none none (.store 1 aS0 aS3),0,[]),(.s (.zx 1 aS8 aS6),0,[]),(.w .none none (.store 1 aS0 aS2),0,[])]) (.seq (.jd [] [(iSm 0,0,[]),(iSm 2,0,[]),(.s (.bin .sub .int aS0 aC5),0,[]),(iSm 0,1,[]),(iSm 2,1,[]),(.s (.bin .sub .int aS0 aC6),1,[]),(iSm 9,0,[]),(.s (.bin .add .int aS0 (.c (.int .u32 1))),0,[]),(.s (.tY (.c (.str [48,48,48,49,48,50,48,51,48,52,48,53,48,54,48,55,48,56,48,57,49,48,49,49,49,50,49,51,49,52,49,53,49,54,49,55,49,56,49,57,50,48,50,49,50,50,50,51,50,52,50,53,50,54,50,55,50,56,50,57,51,48,51,49,51,50,51,51,51,52,51,53,51,54,51,55,51,56,51,57,52,48,52,49,52,50,52,51,52,52,52,53,52,54,52,55,52,56,52,57,53,48,53,49,53,50,53,51,53,52,53,53,53,54,53,55,53,56,53,57,54,48,54,49,54,50,54,51,54,52,54,53,54,54,54,55,54,56,54,57,55,48,55,49,55,50,55,51,55,52,55,53,55,54,55,55,55,56,55,57,56,48,56,49,56,50,56,51,56,52,56,53,56,54,56,55,56,56,56,57,57,48,57,49,57,50,57,51,57,52,57,53,57,54,57,55,57,56,57,57])) aS0),0,[]),(iSm 9,1,[]),(.s (.tY (.c (.str [48,48,48,49,48,50,48,51,48,52,48,53,48,54,48,55,48,56,48,57,49,48,49,49,49,50,49,51,49,52,49,53,49,54,49,55,49,56,49,57,50,48,50,49,50,50,50,51,50,52,50,53,50,54,50,55,50,56,50,57,51,48,51,49,51,50,51,51,51,52,51,53,51,54,51,55,51,56,51,57,52,48,52,49,52,50,52,51,52,52,52,53,52,54,52,55,52,56,52,57,53,48,53,49,53,50,53,51,53,52,53,53,53,54,53,55,53,56,53,57,54,48,54,49,54,50,54,51,54,52,54,53,54,54,54,55,54,56,54,57,55,48,55,49,55,50,55,51,55,52,55,53,55,54,55,55,55,56,55,57,56,48,56,49,56,50,56,51,56,52,56,53,56,54,56,55,56,56,56,57,57,48,57,49,57,50,57,51,57,52,57,53,57,54,57,55,57,56,57,57])) aS0),1,[]),(.s (.zx 1 tJ aS8),0,[]),(.w .none none (.store 1 aS0 aS3),0,[]),(.s (.zx 1 aS8 aS6),0,[]),(.w .none none (.store 1 aS0 aS2),0,[])]) (.seq (.jd [] [(iSm 0,0,[]),(iSm 2,0,[]),(.s (.bin .sub .int aS0 aC7),0,[]),(iSm 0,1,[]),(iSm 2,1,[]),(.s (.bin .sub .int aS0 aC8),1,[]),(iSm 8,0,[]),(.s (.bin .add .int aS0 (.c (.int .u32 1))),0,[]),(.s (.tY (.c (.str [48,48,48,49,48,50,48,51,48,52,48,53,48,54,48,55,48,56,48,57,49,48,49,49,49,50,49,51,49,52,49,53,49,54,49,55,49,56,49,57,50,48,50,49,50,50,50,51,50,52,50,53,50,54,50,55,50,56,50,57,51,48,51,49,51,50,51,51,51,52,51,53,51,54,51,55,51,56,51,57,52,48,52,49,52,50,52,51,52,52,52,53,52,54,52,55,52,56,52,57,53,48,53,49,53,50,53,51,53,52,53,53,53,54,53,55,53,56,53,57,54,48,54,49,54,50,54,51,54,52,54,53,54,54,54,55,54,56,54,57,55,48,55,49,55,50,55,51,55,52,55,53,55,54,55,55,55,56,55,57,56,48,56,49,56,50,56,51,56,52,56,53,56,54,56,55,56,56,56,57,57,48,57,49,57,50,57,51,57,52,57,53,57,54,57,55,57,56,57,57])) aS0),0,[]),(iSm 8,1,[]),(.s (.tY (.c (.str [48,48,48,49,48,50,48,51,48,52,48,53,48,54,48,55,48,56,48,57,49,48,49,49,49,50,49,51,49,52,49,53,49,54,49,55,49,56,49,57,50,48,50,49,50,50,50,51,50,52,50,53,50,54,50,55,50,56,50,57,51,48,51,49,51,50,51,51,51,52,51,53,51,54,51,55,51,56,51,57,52,48,52,49,52,50,52,51,52,52,52,53,52,54,52,55,52,56,52,57,53,48,53,49,53,50,53,51,53,52,53,53,53,54,53,55,53,56,53,57,54,48,54,49,54,50,54,51,54,52,54,53,54,54,54,55,54,56,54,57,55,48,55,49,55,50,55,51,55,52,55,53,55,54,55,55,55,56,55,57,56,48,56,49,56,50,56,51,56,52,56,53,56,54,56,55,56,56,56,57,57,48,57,49,57,50,57,51,57,52,57,53,57,54,57,55,57,56,57,57])) aS0),1,[]),(.s (.zx 1 tJ aS8),0,[]),(.w .none none (.store 1 aS0 aS3),0,[]),(.s (.zx 1 aS8 aS6),0,[]),(.w .none none (.store 1 aS0 aS2),0,[])]) (.reg [iSm 2,.s (.bin .sub .int aS0 aC8),iQm 2 0])))))))))))))) (iSr [iSm 1,.s (.conv .u32 aS0),iQm 10 0] (.seq (iSr [iSm 2,iQo 16 (.bin .geq .int aS0 aC4)] (.cond aT16 (iSr [iSm 10,.s (.bin .rem .int aS0 (.c (.int .u32 10000))),iQm 11 0] (iSr [iSm 10,.s (.bin .quo .int aS0 (.c (.int .u32 10000))),iQm 10 0] (iSr [iSm 11,.s (.bin .quo .int aS0 (.c (.int .u32 100))),.s (.bin .mul .int aS0 (.c (.int .u32 2))),iSm 11,.s (.bin .rem .int aS0 (.c (.int .u32 100))),.s (.bin .mul .int aS0 (.c (.int .u32 2))),iQm 12 3,iQm 13 0] (.seq (.jd [] [(iSm 0,0,[]),(iSm 2,0,[]),(.s (.bin .sub .int aS0 aC1),0,[]),(iSm 0,1,[]),(iSm 2,1,[]),(.s (.bin .sub .int aS0 aC2),1,[]),(iSm 13,0,[]),(.s (.bin .add .int aS0 (.c (.int .u32 1))),0,[]),(.s (.tY (.c (.str [48,48,48,49,48,50,48,51,48,52,48,53,48,54,48,55,48,56,48,57,49,48,49,49,49,50,49,51,49,52,49,53,49,54,49,55,49,56,49,57,50,48,50,49,50,50,50,51,50,52,50,53,50,54,50,55,50,56,50,57,51,48,51,49,51,50,51,51,51,52,51,53,51,54,51,55,51,56,51,57,52,48,52,49,52,50,52,51,52,52,52,53,52,54,52,55,52,56,52,57,53,48,53,49,53,50,53,51,53,52,53,53,53,54,53,55,53,56,53,57,54,48,54,49,54,50,54,51,54,52,54,53,54,54,54,55,54,56,54,57,55,48,55,49,55,50,55,51,55,52,55,53,55,54,55,55,55,56,55,57,56,48,56,49,56,50,56,51,56,52,56,53,56,54,56,55,56,56,56,57,57,48,57,49,57,50,57,51,57,52,57,53,57,54,57,55,57,56,57,57])) aS0),0,[]),(iSm 13,1,[]),(.s (.tY (.c (.str [48,48,48,49,48,50,48,51,48,52,48,53,48,54,48,55,48,56,48,57,49,48,49,49,49,50,49,51,49,52,49,53,49,54,49,55,49,56,49,57,50,48,50,49,50,50,50,51,50,52,50,53,50,54,50,55,50,56,50,57,51,48,51,49,51,50,51,51,51,52,51,53,51,54,51,55,51,56,51,57,52,48,52,49,52,50,52,51,52,52,52,53,52,54,52,55,52,56,52,57,53,48,53,49,53,50,53,51,53,52,53,53,53,54,53,55,53,56,53,57,54,48,54,49,54,50,54,51,54,52,54,53,54,54,54,55,54,56,54,57,55,48,55,49,55,50,55,51,55,52,55,53,55,54,55,55,55,56,55,57,56,48,56,49,56,50,56,51,56,52,56,53,56,54,56,55,56,56,56,57,57,48,57,49,57,50,57,51,57,52,57,53,57,54,57,55,57,56,57,57])) aS0),1,[]),(.s (.zx 1 tJ aS8),0,[]),(.w .none none (.store 1 aS0 aS3),0,[]),(.s (.zx 1 aS8 aS6),0,[]),(.w .none none (.store 1 aS0 aS2),0,[])]) (.seq (.jd [] [(iSm 0,0,[]),(iSm 2,0,[]),(.s (.bin .sub .int aS0 aC3),0,[]),(iSm 0,1,[]),(iSm 2,1,[]),(.s (.bin .sub .int aS0 aC4),1,[]),(iSm 12,0,[]),(.s (.bin .add .int aS0 (.c (.int .u32 1))),0,[]),(.s (.tY (.c (.str [48,48,48,49,48,50,48,51,48,52,48,53,48,54,48,55,48,56,48,57,49,48,49,49,49,50,49,51,49,52,49,53,49,54,49,55,49,56,49,57,50,48,50,49,50,50,50,51,50,52,50,53,50,54,50,55,50,56,50,57,51,48,51,49,51,50,51,51,51,52,51,53,51,54,51,55,51,56,51,57,52,48,52,49,52,50,52,51,52,52,52,53,52,54,52,55,52,56,52,57,53,48,53,49,53,50,53,51,53,52,53,53,53,54,53,55,53,56,53,57,54,48,54,49,54,50,54,51,54,52,54,53,54,54,54,55,54,56,54,57,55,48,55,49,55,50,55,51,55,52,55,53,55,54,55,55,55,56,55,57,56,48,56,49,56,50,56,51,56,52,56,53,56,54,56,55,56,56,56,57,57,48,57,49,57,50,57,51,57,52,57,53,57,54,57,55,57,56,57,57])) aS0),0,[]),(iSm 12,1,[]),(.s (.tY (.c (.str [48,48,48,49,48,50,48,51,48,52,48,53,48,54,48,55,48,56,48,57,49,48,49,49,49,50,49,51,49,52,49,53,49,54,49,55,49,56,49,57,50,48,50,49,50,50,50,51,50,52,50,53,50,54,50,55,50,56,50,57,51,48,51,49,51,50,51,51,51,52,51,53,51,54,51,55,51,56,51,57,52,48,52,49,52,50,52,51,52,52,52,53,52,54,52,55,52,56,52,57,53,48,53,49,53,50,53,51,53,52,53,53,53,54,53,55,53,56,53,57,54,48,54,49,54,50,54,51,54,52,54,53,54,54,54,55,54,56,54,57,55,48,55,49,55,50,55,51,55,52,55,53,55,54,55,55,55,56,55,57,56,48,56,49,56,50,56,51,56,52,56,53,56,54,56,55,56,56,56,57,57,48,57,49,57,50,57,51,57,52,57,53,57,54,57,55,57,56,57,57])) aS0),1,[]),(.s (.zx 1 tJ aS8),0,[]),(.w .none none (.store 1 aS0 aS3),0,[]),(.s (.zx 1 aS8 aS6),0,[]),(.w .none none (.store 1 aS0 aS2),0,[])]) (.reg [iSm 2,.s (.bin .sub .int aS0 aC4),iQm 2 0])))))) .skip)) (.seq (iSr [iSm 2,iQo 17 (.bin .geq .int aS0 aC2)] (.cond aW (iSr [iSm 10,.s (.bin .rem .int aS0 (.c (.int .u32 100))),.s (.bin .mul .int aS0 (.c (.int .u32 2))),iQm 14 0] (iSr [iSm 10,.s (.bin .quo .int aS0 (.c (.int .u32 100))),iQm 10 0] (.seq (.jd [] [(iSm 0,0,[]),(iSm 2,0,[]),(.s (.bin .sub .int aS0 aC1),0,[]),(iSm 0,1,[]),(iSm 2,1,[]),(.s (.bin .sub .int aS0 aC2),1,[]),(iSm 14,0,[]),(.s (.bin .add .int aS0 (.c (.int .u32 1))),0,[]),(.s (.tY (.c (.str [48,48,48,49,48,50,48,51,48,52,48,53,48,54,48,55,48,56,48,57,49,48,49,49,49,50,49,51,49,52,49,53,49,54,49,55,49,56,49,57,50,48,50,49,50,50,50,51,50,52,50,53,50,54,50,55,50,56,50,57,51,48,51,49,51,50,51,51,51,52,51,53,51,54,51,55,51,56,51,57,52,48,52,49,52,50,52,51,52,52,52,53,52,54,52,55,52,56,52,57,53,48,53,49,53,50,53,51,53,52,53,53,53,54,53,55,53,56,53,57,54,48,54,49,54,50,54,51,54,52,54,53,54,54,54,55,54,56,54,57,55,48,55,49,55,50,55,51,55,52,55,53,55,54,55,55,55,56,55,57,56,48,56,49,56,50,56,51,56,52,56,53,56,54,56,55,56,56,56,57,57,48,57,49,57,50,57,51,57,52,57,53,57,54,57,55,57,56,57,57])) aS0),0,[]),(iSm 14,1,[]),(.s (.tY (.c (.str [48,48,48,49,48,50,48,51,48,52,48,53,48,54,48,55,48,56,48,57,49,48,49,49,49,50,49,51,49,52,49,53,49,54,49,55,49,56,49,57,50,48,50,49,50,50,50,51,50,52,50,53,50,54,50,55,50,56,50,57,51,48,51,49,51,50,51,51,51,52,51,53,51,54,51,55,51,56,51,57,52,48,52,49,52,50,52,51,52,52,52,53,52,54,52,55,52,56,52,57,53,48,53,49,53,50,53,51,53,52,53,53,53,54,53,55,53,56,53,57,54,48,54,49,54,50,54,51,54,52,54,53,54,54,54,55,54,56,54,57,55,48,55,49,55,50,55,51,55,52,55,53,55,54,55,55,55,56,55,57,56,48,56,49,56,50,56,51,56,52,56,53,56,54,56,55,56,56,56,57,57,48,57,49,57,50,57,51,57,52,57,53,57,54,57,55,57,56,57,57])) aS0),1,[]),(.s (.zx 1 tJ aS8),0,[]),(.w .none none (.store 1 aS0 aS3),0,[]),(.s (.zx 1 aS8 aS6),0,[]),(.w .none none (.store 1 aS0 aS2),0,[])]) (.reg [iSm 2,.s (.bin .sub .int aS0 aC2),iQm 2 0])))) .skip)) (iSr [iSm 2,iQo 18 (.bin .gtr .int aS0 aC0)] (.cond oU (.reg [iSm 0,iSm 10,.s (.bin .add .int (.c (.int .u32 48)) aS0),.s (.conv .u8 aS0),.s (.zx 1 aS3 aC0),.w .none none (.store 1 aS0 aS1)]) .skip)))))))
def F317.res:List RV:=[]
def F317:Fn:={ params:=[(.of 0),(.of 1)],res:=F317.res,body:=F317.b0,init:=in19 }
theorem F317.ok:fnA Tryz.prog Tryz.f317 [0,1,4,5,6,7,8,9,10,11,12,13,14,15,16,20,99,139,161]=some F317:=by kernel_rfl
abbrev F320.fr:=fr3
def F320.b0:IR:=(iSr [iQo 2 (.mv (.c (.bool false)))] (iSr [iSm 0,.s (.slen aS0),iSm 1,.s (.slen aS0),.s (.bin .geq .int aS2 aS0),.s (.mv aS0),iPt 0 (.mv aT0),iPt 1 (.mv aT1),iPt 2 (.slen aS0),iPt 3 (.oK aS2 none (some aS0)),iPt 4 (.mv aT1),iPt 5 (.bin .eql .str aS1 aS0),.s (.pick aS6 aS0 (.c (.bool false))),iQm 2 0] .ret))
def F320.res:List RV:=[.t (.of 2)]
def F320:Fn:={ params:=[(.of 0),(.of 1)],res:=F320.res,body:=F320.b0,init:=in3 }
theorem F320.ok:fnA Tryz.prog Tryz.f320 [0,1,4]=some F320:=by kernel_rfl
abbrev F328.fr:=fr2
def F328.b0:IR:=(iSr [iQo 1 (.mv (.c (.bool false)))] (iSr [iSm 0,iSm 0,.s (.bin .neq .int aS1 aS0),iQm 1 0] .ret))
def F328.res:List RV:=[.t (.of 1)]
def F328:Fn:={ params:=[(.of 0)],res:=F328.res,body:=F328.b0,init:=in2 }
theorem F328.ok:fnA Tryz.prog Tryz.f328 [0,2]=some F328:=by kernel_rfl
end
end Go.Ev
