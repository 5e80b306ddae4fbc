import Derived.Test.YtfgpjkchdelphaaGreatDoorIrA
import Derived.Test.YtfgpjkchdelphaaGreatDoorEvC
import Derived.Test.YtfgpjkchdelphaaGreatDoorProg
import Derived.KernelRfl
set_option linter.unusedSimpArgs false
set_option linter.unusedVariables false
namespace Go.Ev
open Go Go.Proofs
set_option maxRecDepth 100000
noncomputable section

abbrev wu.fr:=fr29
def wu.t0:IR:=.reg [iQo 2 (.mv (.c .zf)),iQo 3 (.mv (.c .zf))]
def wu.t1:IR:=.reg [.s (.mv (.t (.of 0))),.s (.mv (.t (.of 1))),iCa 216 [(.s 1),(.s 0)],iQo 21 (.bin .lss .int (.s 0) (.c (I 0)))]
def wu.t2:IR:=.reg [.s (.mv (.t (.of 0))),iQo 2 (.mv (.c .zf)),iQo 3 (.mv (.s 0))]
def wu.t6:IR:=.reg [.s (.mv (.t (.of 1))),.s (.len (.s 0)),iQo 22 (.bin .eql .int (.s 0) (.c (I 1)))]
def wu.t7:IR:=.reg [.s (.mv (.t (.of 0))),.s (.mv (.t (.of 1))),.s (.zn 1 (.s 0) (.c (I 0))),.s (.load (.s 0)),iCa 268 [(.s 3),(.s 0)],.s (.mv (.s 0)),.s (.ext 0 (.s 0)),.s (.ext 1 (.s 1)),iQo 4 (.mv (.s 1)),iQo 5 (.mv (.s 0))]
def wu.t8:IR:=.reg [.s (.mv (.t (.of 4))),.s (.mv (.t (.of 5))),.w .push none (.yg 1 1 [(I 0)] [(0,1,(.s 0))]),iCa 269 [(.s 0)],iQo 2 (.mv (.s 3)),iQo 3 (.mv (.s 0))]
def wu.t109:IR:=.seq wu.t0 (.seq (.seq wu.t1 (.cond (.t (.of 21)) (.seq wu.t2 .ret) .skip)) (.seq (.seq wu.t6 (.cond (.t (.of 22)) (.seq wu.t7 (.seq wu.t8 .ret)) .skip)) (iSr [.s (.mv (.t (.of 1))),.s (.mv (.t (.of 1))),.s (.len (.s 0)),.s (.bin .sub .int (.s 0) (.c (I 1))),.s (.zn 1 (.s 3) (.s 0)),.s (.load (.s 0)),.s (.bin .add .int (.s 0) (.c (I 1))),.s (.bin .quo .int (.c (I 1000000000)) (.s 0)),.w .push none (.yg 1 1 [(I 0)] [(0,1,(.s 0))]),iQo 6 (.mv (.s 0))] (iSr [.s (.mv (.t (.of 1))),.s (.mv (.t (.of 6))),iCa 218 [(.s 1),(.s 0)],iQo 7 (.mv (.s 0))] (iSr [.s (.mv (.t (.of 7))),.s (.len (.s 0)),iQo 8 (.mv (.s 0))] (iSr [.w .push none (.yg 1 0 [(I 0)] []),.s (.mv (.t (.of 0))),.s (.mv (.t (.of 6))),iCa 218 [(.s 1),(.s 0)],.w .push none (.app 1 8 (.s 3) (.s 0)),iQo 9 (.mv (.s 0))] (.seq (.block 0 (.loop (.seq (iSr [.s (.mv (.t (.of 9))),.s (.len (.s 0)),.s (.mv (.t (.of 0))),.s (.len (.s 0)),.s (.bin .add .int (.s 0) (.c (I 1))),iQo 23 (.bin .lss .int (.s 3) (.s 0))] (.cond (.t (.of 23)) .skip (.exit 0))) (.block 1 (.reg [.s (.mv (.t (.of 9))),.w .push none (.yg 1 1 [(I 0)] [(0,1,(.c (I 0)))]),.w .push none (.app 1 8 (.s 1) (.s 0)),iQo 9 (.mv (.s 0))]))))) (iSr [.s (.mv (.t (.of 9))),.s (.len (.s 0)),.s (.mv (.t (.of 8))),.s (.bin .sub .int (.s 1) (.s 0)),.w .push none (.fB 1 8 [(I 0)] (.s 0) (.s 0)),iQo 10 (.mv (.s 0))] (.seq (iSr [.s (.mv (.t (.of 9))),.s (.len (.s 0)),.s (.mv (.t (.of 8))),.s (.bin .sub .int (.s 1) (.s 0)),.s (.bin .sub .int (.s 0) (.c (I 1))),iQo 11 (.mv (.s 0))] (.block 2 (.loop (.seq (iSr [.s (.mv (.t (.of 11))),iQo 24 (.bin .geq .int (.s 0) (.c (I 0)))] (.cond (.t (.of 24)) .skip (.exit 2))) (.seq (.block 3 (iSr [.s (.mv (.t (.of 9))),.s (.mv (.t (.of 7))),.s (.mv (.t (.of 11))),iCa 270 [(.s 2),(.s 1),(.s 0)],iQo 12 (.mv (.s 0))] (iSr [iQo 13 (.mv (.c (I 0)))] (.seq (iSr [iQo 14 (.mv (.c (I 0)))] (.block 4 (.loop (.seq (iSr [.s (.mv (.t (.of 14))),.s (.mv (.t (.of 8))),iQo 25 (.bin .lss .int (.s 1) (.s 0))] (.cond (.t (.of 25)) .skip (.exit 4))) (.seq (.block 5 (iSr [.s (.mv (.t (.of 12))),.s (.mv (.t (.of 7))),.s (.mv (.t (.of 14))),.s (.zn 1 (.s 1) (.s 0)),.s (.load (.s 0)),.s (.bin .mul .int (.s 4) (.s 0)),.s (.mv (.t (.of 13))),.s (.bin .add .int (.s 1) (.s 0)),iQo 15 (.mv (.s 0))] (iSr [.s (.mv (.t (.of 9))),.s (.mv (.t (.of 14))),.s (.mv (.t (.of 11))),.s (.bin .add .int (.s 1) (.s 0)),.s (.zn 1 (.s 3) (.s 0)),.s (.load (.s 0)),.s (.mv (.t (.of 15))),.s (.bin .rem .int (.s 0) (.c (I 1000000000))),.s (.bin .sub .int (.s 2) (.s 0)),iQo 16 (.mv (.s 0))] (iSr [.s (.mv (.t (.of 15))),.s (.bin .quo .int (.s 0) (.c (I 1000000000))),iQo 13 (.mv (.s 0))] (.seq (iSr [.s (.mv (.t (.of 16))),iQo 26 (.bin .lss .int (.s 0) (.c (I 0)))] (.cond (.t (.of 26)) (iSr [.s (.mv (.t (.of 16))),.s (.bin .add .int (.s 0) (.c (I 1000000000))),iQo 16 (.mv (.s 0))] (.reg [.s (.mv (.t (.of 13))),.s (.bin .add .int (.s 0) (.c (I 1))),iQo 13 (.mv (.s 0))])) .skip)) (.reg [.s (.mv (.t (.of 9))),.s (.mv (.t (.of 14))),.s (.mv (.t (.of 11))),.s (.bin .add .int (.s 1) (.s 0)),.s (.mv (.t (.of 16))),.s (.zn 1 (.s 4) (.s 1)),.w .none none (.store 1 (.s 0) (.s 1))])))))) (.reg [.s (.mv (.t (.of 14))),.s (.bin .add .int (.s 0) (.c (I 1))),iQo 14 (.mv (.s 0))])))))) (.seq (.reg (.s (.mv (.t (.of 9)))::.s (.mv (.t (.of 11)))::.s (.mv (.t (.of 8)))::.s (.bin .add .int (.s 1) (.s 0))::.s (.mv (.t (.of 9)))::.s (.mv (.t (.of 11)))::.s (.mv (.t (.of 8)))::.s (.bin .add .int (.s 1) (.s 0))::(.s (.zn 1 (.s 3) (.s 0))::.s (.load (.s 0))::.s (.mv (.t (.of 13)))::.s (.bin .sub .int (.s 1) (.s 0))::.s (.zn 1 (.s 11) (.s 8))::.w .none none (.store 1 (.s 0) (.s 1))::[]))) (.seq (iSr [.s (.mv (.t (.of 9))),.s (.mv (.t (.of 11))),.s (.mv (.t (.of 8))),.s (.bin .add .int (.s 1) (.s 0)),.s (.zn 1 (.s 3) (.s 0)),.s (.load (.s 0)),iQo 27 (.bin .lss .int (.s 0) (.c (I 0)))] (.cond (.t (.of 27)) (iSr [.s (.mv (.t (.of 12))),.s (.bin .sub .int (.s 0) (.c (I 1))),iQo 12 (.mv (.s 0))] (iSr [iQo 17 (.mv (.c (I 0)))] (.seq (iSr [iQo 18 (.mv (.c (I 0)))] (.block 6 (.loop (.seq (iSr [.s (.mv (.t (.of 18))),.s (.mv (.t (.of 8))),iQo 28 (.bin .lss .int (.s 1) (.s 0))] (.cond (.t (.of 28)) .skip (.exit 6))) (.seq (.block 7 (.seq (.jh [] ((.s (.mv (.t (.of 9)))::.s (.mv (.t (.of 18)))::.s (.mv (.t (.of 11)))::.s (.bin .add .int (.s 1) (.s 0))::.s (.zn 1 (.s 3) (.s 0))::.s (.load (.s 0))::.s (.mv (.t (.of 7)))::.s (.mv (.t (.of 18)))::(.s (.zn 1 (.s 1) (.s 0))::.s (.load (.s 0))::.s (.bin .add .int (.s 4) (.s 0))::.s (.mv (.t (.of 17)))::.s (.bin .add .int (.s 1) (.s 0))::iQo 19 (.mv (.s 0))::[])).map fun o=>(o,0,[]))) (iSr [.s (.mv (.t (.of 9))),.s (.mv (.t (.of 18))),.s (.mv (.t (.of 11))),.s (.bin .add .int (.s 1) (.s 0)),.s (.mv (.t (.of 19))),.s (.bin .rem .int (.s 0) (.c (I 1000000000))),.s (.zn 1 (.s 5) (.s 2)),.w .none none (.store 1 (.s 0) (.s 1))] (.reg [.s (.mv (.t (.of 19))),.s (.bin .quo .int (.s 0) (.c (I 1000000000))),iQo 17 (.mv (.s 0))])))) (.reg [.s (.mv (.t (.of 18))),.s (.bin .add .int (.s 0) (.c (I 1))),iQo 18 (.mv (.s 0))])))))) (.reg (.s (.mv (.t (.of 9)))::.s (.mv (.t (.of 11)))::.s (.mv (.t (.of 8)))::.s (.bin .add .int (.s 1) (.s 0))::.s (.mv (.t (.of 9)))::.s (.mv (.t (.of 11)))::.s (.mv (.t (.of 8)))::.s (.bin .add .int (.s 1) (.s 0))::(.s (.zn 1 (.s 3) (.s 0))::.s (.load (.s 0))::.s (.mv (.t (.of 17)))::.s (.bin .add .int (.s 1) (.s 0))::.s (.zn 1 (.s 11) (.s 8))::.w .none none (.store 1 (.s 0) (.s 1))::[])))))) .skip)) (.reg [.s (.mv (.t (.of 10))),.s (.mv (.t (.of 11))),.s (.mv (.t (.of 12))),.s (.zn 1 (.s 2) (.s 1)),.w .none none (.store 1 (.s 0) (.s 1))]))))))) (.reg [.s (.mv (.t (.of 11))),.s (.bin .sub .int (.s 0) (.c (I 1))),iQo 11 (.mv (.s 0))])))))) (.seq (.jh [] [(.s (.mv (.t (.of 9))),0,[]),(.s (.mv (.t (.of 8))),0,[]),(.s (.slice 1 (.s 1) none (some (.s 0)) none),0,[]),(.s (.mv (.t (.of 6))),1,[]),(.s (.zn 1 (.s 0) (.c (I 0))),1,[]),(.s (.load (.s 0)),1,[]),(iCa 269 [(.s 3)],0,[]),(iCa 268 [(.s 0),(.s 1)],0,[]),(.s (.mv (.s 0)),0,[]),(.s (.ext 0 (.s 0)),0,[]),(.s (.ext 1 (.s 1)),0,[]),(iQo 20 (.mv (.s 1)),0,[]),(.s (.mv (.s 0)),0,[])]) (iSr [.s (.mv (.t (.of 10))),iCa 269 [(.s 0)],.s (.mv (.t (.of 20))),iQo 2 (.mv (.s 1)),iQo 3 (.mv (.s 0))] .ret)))))))))))
def wu.b0:IR:=wu.t109
def wu.res:List RV:=[.t (.of 2),.t (.of 3)]
def wu:Fn:={ params:=[(.of 0),(.of 1)],res:=wu.res,body:=wu.b0,init:=in29 }
theorem wu.ok:fnA Tryz.prog Tryz.f213 [0,1,4,5,6,7,8,9,10,11,12,13,14,15,16,17,18,19,20,21,22,27,31,68,83,92,115,145,150]=some wu:=by kernel_rfl
abbrev bV.fr:=fr3
def bV.t0:IR:=.reg [iWl 2 (.alloc [(.bool false),.zf])]
def bV.t1:IR:=.reg [.s (.mv (.t (.of 1))),iCa 269 [(.s 0)],iQo 1 (.mv (.s 0))]
def bV.t2:IR:=.reg [.s (.mv (.t (.of 0))),.s (.mv (.s 0)),.p .push (some ((.s 0),true)) (.mv (.t (.of 1))),.p .push (some ((.s 1),true)) (.len (.s 0)),.p .push (some ((.s 2),true)) (.bin .gtr .int (.s 0) (.c (I 0))),.s (.pick (.s 3) (.s 0) (.c (.bool false))),.s (.mv (.t (.of 1))),.s (.build [(.bool false),.zf] [(0,1,(.s 1)),(1,1,(.s 0))]),.w .none none (.store 2 (.t (.of 2)) (.s 0))]
def bV.t5:IR:=.seq bV.t0 (.seq bV.t1 (.seq bV.t2 .ret))
def bV.b0:IR:=bV.t5
def bV.res:List RV:=[.cell (.of 2) (some 2)]
def bV:Fn:={ params:=[(.of 0),(.of 1)],res:=bV.res,body:=bV.b0,init:=in3 }
theorem bV.ok:fnA Tryz.prog Tryz.f214 [0,1,4]=some bV:=by kernel_rfl
abbrev jg.fr:=fr8
def jg.t0:IR:=.reg [iQo 2 (.mv (.c .zf))]
def jg.t1:IR:=.reg [iQo 3 (.mv (.c .zf))]
def jg.t2:IR:=.reg [iQo 4 (.mv (.c (I 0)))]
def jg.t3:IR:=.reg [iQo 5 (.mv (.c (I 0)))]
def jg.zsi (r:List RO):List RO:=.p .push (some ((.s 3),false)) (.bin .lss .int (.s 2) (.s 0))::.s (.pick (.s 4) (.c (.bool true)) (.s 0))::.s (.mv (.s 0))::.p .push (some ((.s 0),false)) (.mv (.t (.of 4)))::.p .push (some ((.s 1),false)) (.bin .gtr .int (.s 0) (.c (I 0)))::iQo 7 (.pick (.s 2) (.c (.bool true)) (.s 0))::r
def jg.r4_1:List RO:=jg.zsi []
def jg.zsh (r:List RO):List RO:=.s (.mv (.t (.of 5)))::.s (.mv (.t (.of 0)))::.s (.len (.s 0))::.s (.bin .lss .int (.s 2) (.s 0))::.s (.mv (.s 0))::.p .push (some ((.s 0),false)) (.mv (.t (.of 5)))::.p .push (some ((.s 1),false)) (.mv (.t (.of 1)))::.p .push (some ((.s 2),false)) (.len (.s 0))::r
def jg.r4_0:List RO:=jg.zsh jg.r4_1
def jg.t4:IR:=.reg jg.r4_0
def jg.t5:IR:=.cond (.t (.of 7)) .skip (.exit 0)
def jg.t7:IR:=.reg [.s (.mv (.t (.of 0))),.s (.mv (.t (.of 5))),iCa 271 [(.s 1),(.s 0)],.s (.mv (.t (.of 1))),.s (.mv (.t (.of 5))),iCa 271 [(.s 1),(.s 0)],.s (.bin .add .int (.s 3) (.s 0)),.s (.mv (.t (.of 4))),.s (.bin .add .int (.s 1) (.s 0)),iQo 6 (.mv (.s 0))]
def jg.t8:IR:=.reg [.s (.mv (.t (.of 3))),.s (.mv (.t (.of 6))),.s (.bin .rem .int (.s 0) (.c (I 1000000000))),.w .push none (.yg 1 1 [(I 0)] [(0,1,(.s 0))]),.w .push none (.app 1 8 (.s 3) (.s 0)),iQo 3 (.mv (.s 0))]
def jg.t9:IR:=.reg [.s (.mv (.t (.of 6))),.s (.bin .quo .int (.s 0) (.c (I 1000000000))),iQo 4 (.mv (.s 0))]
def jg.t13:IR:=.reg [.s (.mv (.t (.of 5))),.s (.bin .add .int (.s 0) (.c (I 1))),iQo 5 (.mv (.s 0))]
def jg.t14:IR:=.seq (.block 1 (.seq jg.t7 (.seq jg.t8 jg.t9))) jg.t13
def jg.t15:IR:=.seq (.seq jg.t4 jg.t5) jg.t14
def jg.t16:IR:=.loop jg.t15
def jg.t19:IR:=.reg [.s (.mv (.t (.of 3))),iQo 2 (.mv (.s 0))]
def jg.t20:IR:=.seq jg.t19 .ret
def jg.t24:IR:=.seq jg.t0 (.seq jg.t1 (.seq jg.t2 (.seq (.seq jg.t3 (.block 0 jg.t16)) jg.t20)))
def jg.b0:IR:=jg.t24
def jg.res:List RV:=[.t (.of 2)]
def jg:Fn:={ params:=[(.of 0),(.of 1)],res:=jg.res,body:=jg.b0,init:=in8 }
theorem jg.ok:fnA Tryz.prog Tryz.f215 [0,1,4,5,6,7,8,22]=some jg:=by kernel_rfl
abbrev jl.fr:=fr9
def jl.t0:IR:=.reg [iQo 2 (.mv (.c (I 0)))]
def jl.t1:IR:=.reg [.s (.mv (.t (.of 0))),.s (.len (.s 0)),.s (.mv (.t (.of 1))),.s (.len (.s 0)),iQo 4 (.bin .neq .int (.s 2) (.s 0))]
def jl.t2:IR:=.reg [.s (.mv (.t (.of 0))),.s (.len (.s 0)),.s (.mv (.t (.of 1))),.s (.len (.s 0)),iQo 5 (.bin .lss .int (.s 2) (.s 0))]
def jl.t3:IR:=.reg [iQo 2 (.mv (.c (I (-1))))]
def jl.t7:IR:=.reg [iQo 2 (.mv (.c (I 1)))]
def jl.t12:IR:=.reg [.s (.mv (.t (.of 0))),.s (.len (.s 0)),.s (.bin .sub .int (.s 0) (.c (I 1))),iQo 3 (.mv (.s 0))]
def jl.t13:IR:=.reg [.s (.mv (.t (.of 3))),iQo 6 (.bin .geq .int (.s 0) (.c (I 0)))]
def jl.t16:IR:=.jh [] [(.s (.mv (.t (.of 0))),0,[]),(.s (.mv (.t (.of 3))),0,[]),(.s (.zn 1 (.s 1) (.s 0)),0,[]),(.s (.load (.s 0)),0,[]),(.s (.mv (.t (.of 1))),0,[]),(.s (.mv (.t (.of 3))),0,[]),(.s (.zn 1 (.s 1) (.s 0)),0,[]),(.s (.load (.s 0)),0,[]),(iQo 7 (.bin .lss .int (.s 4) (.s 0)),0,[])]
def jl.t17:IR:=.reg [iQo 2 (.mv (.c (I (-1))))]
def jl.t21:IR:=.jh [] [(.s (.mv (.t (.of 0))),0,[]),(.s (.mv (.t (.of 3))),0,[]),(.s (.zn 1 (.s 1) (.s 0)),0,[]),(.s (.load (.s 0)),0,[]),(.s (.mv (.t (.of 1))),0,[]),(.s (.mv (.t (.of 3))),0,[]),(.s (.zn 1 (.s 1) (.s 0)),0,[]),(.s (.load (.s 0)),0,[]),(iQo 8 (.bin .gtr .int (.s 4) (.s 0)),0,[])]
def jl.t22:IR:=.reg [iQo 2 (.mv (.c (I 1)))]
def jl.t28:IR:=.reg [.s (.mv (.t (.of 3))),.s (.bin .sub .int (.s 0) (.c (I 1))),iQo 3 (.mv (.s 0))]
def jl.t30:IR:=.seq (.seq jl.t13 (.cond (.t (.of 6)) .skip (.exit 0))) (.seq (.block 1 (.seq (.seq jl.t16 (.cond (.t (.of 7)) (.seq jl.t17 .ret) .skip)) (.seq jl.t21 (.cond (.t (.of 8)) (.seq jl.t22 .ret) .skip)))) jl.t28)
def jl.t31:IR:=.loop jl.t30
def jl.t34:IR:=.reg [iQo 2 (.mv (.c (I 0)))]
def jl.t38:IR:=.seq jl.t0 (.seq (.seq jl.t1 (.cond (.t (.of 4)) (.seq (.seq jl.t2 (.cond (.t (.of 5)) (.seq jl.t3 .ret) .skip)) (.seq jl.t7 .ret)) .skip)) (.seq (.seq jl.t12 (.block 0 jl.t31)) (.seq jl.t34 .ret)))
def jl.b0:IR:=jl.t38
def jl.res:List RV:=[.t (.of 2)]
def jl:Fn:={ params:=[(.of 0),(.of 1)],res:=jl.res,body:=jl.b0,init:=in9 }
theorem jl.ok:fnA Tryz.prog Tryz.f216 [0,1,4,5,10,15,20,31,40]=some jl:=by kernel_rfl
abbrev ji.fr:=fr9
def ji.t0:IR:=.reg [iQo 2 (.mv (.c .zf))]
def ji.t1:IR:=.reg [iQo 3 (.mv (.c .zf))]
def ji.t2:IR:=.reg [iQo 4 (.mv (.c (I 0)))]
def ji.t3:IR:=.reg [iQo 5 (.mv (.c (I 0)))]
def ji.t4:IR:=.reg [.s (.mv (.t (.of 5))),.s (.mv (.t (.of 0))),.s (.len (.s 0)),iQo 7 (.bin .lss .int (.s 2) (.s 0))]
def ji.t7:IR:=.jh [] [(.s (.mv (.t (.of 0))),1,[]),(.s (.mv (.t (.of 5))),1,[]),(.s (.zn 1 (.s 1) (.s 0)),1,[]),(.s (.load (.s 0)),1,[]),(.s (.mv (.t (.of 1))),0,[]),(.s (.mv (.t (.of 5))),0,[]),(.s (.mv (.t (.of 4))),1,[]),(iCa 271 [(.s 2),(.s 1)],0,[]),(.s (.bin .sub .int (.s 4) (.s 0)),0,[]),(.s (.bin .sub .int (.s 0) (.s 2)),0,[]),(iQo 6 (.mv (.s 0)),0,[])]
def ji.t8:IR:=.reg [iQo 4 (.mv (.c (I 0)))]
def ji.t9:IR:=.reg [.s (.mv (.t (.of 6))),iQo 8 (.bin .lss .int (.s 0) (.c (I 0)))]
def ji.t10:IR:=.reg [.s (.mv (.t (.of 6))),.s (.bin .add .int (.s 0) (.c (I 1000000000))),iQo 6 (.mv (.s 0))]
def ji.t11:IR:=.reg [iQo 4 (.mv (.c (I 1)))]
def ji.t15:IR:=.reg [.s (.mv (.t (.of 3))),.s (.mv (.t (.of 6))),.w .push none (.yg 1 1 [(I 0)] [(0,1,(.s 0))]),.w .push none (.app 1 8 (.s 2) (.s 0)),iQo 3 (.mv (.s 0))]
def ji.t20:IR:=.reg [.s (.mv (.t (.of 5))),.s (.bin .add .int (.s 0) (.c (I 1))),iQo 5 (.mv (.s 0))]
def ji.t22:IR:=.seq (.seq ji.t4 (.cond (.t (.of 7)) .skip (.exit 0))) (.seq (.block 1 (.seq ji.t7 (.seq ji.t8 (.seq (.seq ji.t9 (.cond (.t (.of 8)) (.seq ji.t10 ji.t11) .skip)) ji.t15)))) ji.t20)
def ji.t23:IR:=.loop ji.t22
def ji.t26:IR:=.reg [.s (.mv (.t (.of 3))),iCa 269 [(.s 0)],iQo 2 (.mv (.s 0))]
def ji.t27:IR:=.seq ji.t26 .ret
def ji.t31:IR:=.seq ji.t0 (.seq ji.t1 (.seq ji.t2 (.seq (.seq ji.t3 (.block 0 ji.t23)) ji.t27)))
def ji.b0:IR:=ji.t31
def ji.res:List RV:=[.t (.of 2)]
def ji:Fn:={ params:=[(.of 0),(.of 1)],res:=ji.res,body:=ji.b0,init:=in9 }
theorem ji.ok:fnA Tryz.prog Tryz.f217 [0,1,4,5,6,7,8,12,26]=some ji:=by kernel_rfl
abbrev yc.fr:=fr10
def yc.t0:IR:=.reg [iQo 2 (.mv (.c .zf))]
def yc.t1:IR:=.reg [.s (.mv (.t (.of 0))),.s (.len (.s 0)),.s (.mv (.t (.of 1))),.s (.len (.s 0)),.s (.bin .add .int (.s 2) (.s 0)),.w .push none (.fB 1 8 [(I 0)] (.s 0) (.s 0)),iQo 3 (.mv (.s 0))]
def yc.t2:IR:=.reg [iQo 4 (.mv (.c (I 0)))]
def yc.t3:IR:=.reg [.s (.mv (.t (.of 4))),.s (.mv (.t (.of 0))),.s (.len (.s 0)),iQo 8 (.bin .lss .int (.s 2) (.s 0))]
def yc.t6:IR:=.reg [iQo 5 (.mv (.c (I 0)))]
def yc.t7:IR:=.reg [iQo 6 (.mv (.c (I 0)))]
def yc.t8:IR:=.reg [.s (.mv (.t (.of 6))),.s (.mv (.t (.of 1))),.s (.len (.s 0)),iQo 9 (.bin .lss .int (.s 2) (.s 0))]
def yc.zau (r:List RO):List RO:=.s (.mv (.t (.of 5)))::.s (.bin .add .int (.s 1) (.s 0))::iQo 7 (.mv (.s 0))::r
def yc.r7_2:List RO:=yc.zau []
def yc.zat (r:List RO):List RO:=.s (.zn 1 (.s 1) (.s 0))::.s (.load (.s 0))::.s (.mv (.t (.of 1)))::.s (.mv (.t (.of 6)))::.s (.zn 1 (.s 1) (.s 0))::.s (.load (.s 0))::.s (.bin .mul .int (.s 4) (.s 0))::.s (.bin .add .int (.s 9) (.s 0))::r
def yc.r7_1:List RO:=yc.zat yc.r7_2
def yc.zas (r:List RO):List RO:=.s (.mv (.t (.of 3)))::.s (.mv (.t (.of 4)))::.s (.mv (.t (.of 6)))::.s (.bin .add .int (.s 1) (.s 0))::.s (.zn 1 (.s 3) (.s 0))::.s (.load (.s 0))::.s (.mv (.t (.of 0)))::.s (.mv (.t (.of 4)))::r
def yc.r7_0:List RO:=yc.zas yc.r7_1
def yc.t11:IR:=.jh [] (yc.r7_0.map fun o=>(o,0,[]))
def yc.t12:IR:=.reg [.s (.mv (.t (.of 3))),.s (.mv (.t (.of 4))),.s (.mv (.t (.of 6))),.s (.bin .add .int (.s 1) (.s 0)),.s (.mv (.t (.of 7))),.s (.bin .rem .int (.s 0) (.c (I 1000000000))),.s (.zn 1 (.s 5) (.s 2)),.w .none none (.store 1 (.s 0) (.s 1))]
def yc.t13:IR:=.reg [.s (.mv (.t (.of 7))),.s (.bin .quo .int (.s 0) (.c (I 1000000000))),iQo 5 (.mv (.s 0))]
def yc.t17:IR:=.reg [.s (.mv (.t (.of 6))),.s (.bin .add .int (.s 0) (.c (I 1))),iQo 6 (.mv (.s 0))]
def yc.t19:IR:=.seq (.seq yc.t8 (.cond (.t (.of 9)) .skip (.exit 2))) (.seq (.block 3 (.seq yc.t11 (.seq yc.t12 yc.t13))) yc.t17)
def yc.t20:IR:=.loop yc.t19
def yc.aV (r:List RO):List RO:=.s (.len (.s 0))::.s (.bin .add .int (.s 2) (.s 0))::.s (.zn 1 (.s 4) (.s 0))::.s (.load (.s 0))::.s (.mv (.t (.of 5)))::.s (.bin .add .int (.s 1) (.s 0))::.s (.zn 1 (.s 13) (.s 9))::.w .none none (.store 1 (.s 0) (.s 1))::r
def yc.zaj:List RO:=yc.aV []
def yc.aU (r:List RO):List RO:=.s (.mv (.t (.of 3)))::.s (.mv (.t (.of 4)))::.s (.mv (.t (.of 1)))::.s (.len (.s 0))::.s (.bin .add .int (.s 2) (.s 0))::.s (.mv (.t (.of 3)))::.s (.mv (.t (.of 4)))::.s (.mv (.t (.of 1)))::r
def yc.aJ:List RO:=yc.aU yc.zaj
def yc.t23:IR:=.reg yc.aJ
def yc.t27:IR:=.reg [.s (.mv (.t (.of 4))),.s (.bin .add .int (.s 0) (.c (I 1))),iQo 4 (.mv (.s 0))]
def yc.t29:IR:=.seq (.seq yc.t3 (.cond (.t (.of 8)) .skip (.exit 0))) (.seq (.block 1 (.seq yc.t6 (.seq (.seq yc.t7 (.block 2 yc.t20)) yc.t23))) yc.t27)
def yc.t30:IR:=.loop yc.t29
def yc.t33:IR:=.reg [.s (.mv (.t (.of 3))),iCa 269 [(.s 0)],iQo 2 (.mv (.s 0))]
def yc.t37:IR:=.seq yc.t0 (.seq yc.t1 (.seq (.seq yc.t2 (.block 0 yc.t30)) (.seq yc.t33 .ret)))
def yc.b0:IR:=yc.t37
def yc.res:List RV:=[.t (.of 2)]
def yc:Fn:={ params:=[(.of 0),(.of 1)],res:=yc.res,body:=yc.b0,init:=in10 }
theorem yc.ok:fnA Tryz.prog Tryz.f218 [0,1,4,5,6,7,8,9,19,25]=some yc:=by kernel_rfl
abbrev mY.fr:=fr9
def mY.b3:IR:=(iSr [iQo 8 (.bin .lss .int aT7 aT6)] (.seq (.cond aT8 .skip (.exit 0)) (.seq (.block 1 (iSr [.s (.zn 1 aT5 aT7),.s (.load aS0),iQm 4 0] (.reg [iSm 3,iSm 1,iSm 4,.s (.zn 1 aS1 aS0),.s (.load aS0),.s (.bin .add .int aS4 aS0),iQm 3 0]))) (.reg [.s (.bin .add .int aT7 aC1),iQm 7 0]))))
def mY.b2:IR:=(.loop mY.b3)
def mY.g1 (X2:IR):IR:=(.block 0 X2)
def mY.b1:IR:=mY.g1 mY.b2
def mY.b8:IR:=(iSr [iSm 3,iQm 2 0] .ret)
def mY.b0:IR:=(iSr [iQo 2 (.mv aC0)] (iSr [iQo 3 (.mv aC0)] (.seq (iSr [iQo 5 (.mv aT0),iQo 6 (.len aT5),iQo 7 (.mv aC0)] mY.b1) mY.b8)))
def mY.res:List RV:=[.t (.of 2)]
def mY:Fn:={ params:=[(.of 0),(.of 1)],res:=mY.res,body:=mY.b0,init:=in9 }
theorem mY.ok:fnA Tryz.prog Tryz.f219 [0,1,4,5,7,8,9,10,11]=some mY:=by kernel_rfl
abbrev F220.fr:=fr3
def F220.b0:IR:=(iSr [iWl 1 (.box aT0),iQo 2 (.mv (.c (.bool false)))] (iSr [.s (.zk 1 aT1),.s (.load aS0),iCa 136 [aS0],iQm 2 0] .ret))
def F220.res:List RV:=[.t (.of 2)]
def F220:Fn:={ params:=[(.of 0)],res:=F220.res,body:=F220.b0,init:=in3 }
theorem F220.ok:fnA Tryz.prog Tryz.f220 [0,1,2]=some F220:=by kernel_rfl
abbrev F221.fr:=fr3
def F221.b0:IR:=(iSr [iWl 1 (.box aT0),iQo 2 (.mv (.c (.bool false)))] (iSr [.s (.zi 2 aT1),.w .push none (.call (.c (.fn 144 (.of 144) [])) [aS0,(.c (.str [115,101,109,105,109,97,103,105,99]))]),iQm 2 0] .ret))
def F221.res:List RV:=[.t (.of 2)]
def F221:Fn:={ params:=[(.of 0)],res:=F221.res,body:=F221.b0,init:=in3 }
theorem F221.ok:fnA Tryz.prog Tryz.f221 [0,1,2]=some F221:=by kernel_rfl
abbrev F222.fr:=fr3
def F222.b0:IR:=(iSr [iWl 1 (.box aT0),iQo 2 (.mv (.c (.bool false)))] (iSr [.s (.zi 2 aT1),.w .push none (.call (.c (.fn 144 (.of 144) [])) [aS0,(.c (.str [109,97,103,105,99]))]),iQm 2 0] .ret))
def F222.res:List RV:=[.t (.of 2)]
def F222:Fn:={ params:=[(.of 0)],res:=F222.res,body:=F222.b0,init:=in3 }
theorem F222.ok:fnA Tryz.prog Tryz.f222 [0,1,2]=some F222:=by kernel_rfl
abbrev F223.fr:=fr3
def F223.b0:IR:=(iSr [iWl 1 (.box aT0),iQo 2 (.mv (.c (.bool false)))] (iSr [.s (.zi 2 aT1),.w .push none (.call (.c (.fn 144 (.of 144) [])) [aS0,(.c (.str [112,97,110,100,105,97,103,111,110,97,108]))]),iQm 2 0] .ret))
def F223.res:List RV:=[.t (.of 2)]
def F223:Fn:={ params:=[(.of 0)],res:=F223.res,body:=F223.b0,init:=in3 }
theorem F223.ok:fnA Tryz.prog Tryz.f223 [0,1,2]=some F223:=by kernel_rfl
abbrev F224.fr:=fr3
def F224.b0:IR:=(iSr [iWl 1 (.box aT0),iQo 2 (.mv (.c (.bool false)))] (iSr [.s (.zi 2 aT1),.w .push none (.call (.c (.fn 144 (.of 144) [])) [aS0,(.c (.str [109,97,103,105,99]))]),.s (.mv aS0),iPt 0 (.zk 1 aT1),iPt 1 (.load aS0),iPt 2 (.len aS0),iPt 3 (.fn 273 (.of 273) [aT1]),.w .push (some (aS4,true)) (.call (.c (.fn 272 (.of 272) [])) [aS1,aS0]),.s (.pick aS5 aS0 (.c (.bool false))),iQm 2 0] .ret))
def F224.res:List RV:=[.t (.of 2)]
def F224:Fn:={ params:=[(.of 0)],res:=F224.res,body:=F224.b0,init:=in3 }
theorem F224.ok:fnA Tryz.prog Tryz.f224 [0,1,2]=some F224:=by kernel_rfl
abbrev F225.fr:=fr6
def F225.b0:IR:=(iSr [iWl 1 (.box aT0),iQo 2 (.mv (.c (.bool false)))] (.seq (iSr [.s (.zk 0 aT1),.s (.load aS0),.s (.bin .rem .int aS0 aC2),.s (.bin .eql .int aS0 aC1),.s (.mv aS0),iPf 0 (.zi 2 aT1),.w .push (some (aS1,false)) (.call (.c (.fn 144 (.of 144) [])) [aS0,(.c (.str [112,97,110,100,105,97,103,111,110,97,108]))]),iPf 2 (.not aS0),iQo 5 (.pick aS3 (.c (.bool true)) aS0)] (.cond aT5 (iSr [iQo 2 (.mv (.c (.bool false)))] .ret) .skip)) (iSr [.s (.fn 274 (.of 274) [aT1]),iWl 3 (.alloc [.bM]),.w .none none (.store 1 aT3 aS0)] (iSr [.s (.zk 1 aT1),.s (.load aS0),.s (.len aS0),.s (.fn 275 (.of 275) [aT1,aT3]),iCa 272 [aS1,aS0],iQm 4 0] (iSr [iSm 4,.s (.mv aS0),iPt 0 (.zk 1 aT1),iPt 1 (.load aS0),iPt 2 (.len aS0),iPt 3 (.fn 276 (.of 276) [aT1,aT3]),.w .push (some (aS4,true)) (.call (.c (.fn 272 (.of 272) [])) [aS1,aS0]),.s (.pick aS5 aS0 (.c (.bool false))),iQm 2 0] .ret)))))
def F225.res:List RV:=[.t (.of 2)]
def F225:Fn:={ params:=[(.of 0)],res:=F225.res,body:=F225.b0,init:=in6 }
theorem F225.ok:fnA Tryz.prog Tryz.f225 [0,1,2,3,4,13]=some F225:=by kernel_rfl
abbrev bf.fr:=fr6
def bf.b4:IR:=(.seq (iSr [.s (.zk 0 aT1),.s (.load aS0),iQo 4 (.bin .geq .int aS0 aC3)] (.cond aT4 .skip (.exit 0))) (.seq (.block 1 (iSr [.s (.zi 2 aT1),.w .push none (.call (.c (.fn 144 (.of 144) [])) [aS0,(.c (.str [109,97,103,105,99]))]),iQo 5 (.not aS0)] (.cond aT5 (iSr [iQo 2 (.mv (.c (.bool false)))] .ret) .skip))) (.reg [.s (.zi 2 aT1),iCa 277 [aS0],.w .none none (.store 2 aT1 aS0)])))
def bf.b3:IR:=(.loop bf.b4)
def bf.g2 (X3:IR):IR:=(.block 0 X3)
def bf.b2:IR:=bf.g2 bf.b3
def bf.b9:IR:=(iSr [iQo 2 (.mv (.c (.bool true)))] .ret)
def bf.b0:IR:=(iSr [iWl 1 (.box aT0),iQo 2 (.mv (.c (.bool false)))] (.seq (iSr [.s (.zk 0 aT1),.s (.load aS0),iQo 3 (.bin .lss .int aS0 aC5)] (.cond aT3 (iSr [iQo 2 (.mv (.c (.bool false)))] .ret) .skip)) (.seq bf.b2 bf.b9)))
def bf.res:List RV:=[.t (.of 2)]
def bf:Fn:={ params:=[(.of 0)],res:=bf.res,body:=bf.b0,init:=in6 }
theorem bf.ok:fnA Tryz.prog Tryz.f226 [0,1,2,5,8,13]=some bf:=by kernel_rfl
abbrev F227.fr:=fr3
def F227.b0:IR:=(iSr [iWl 1 (.box aT0),iQo 2 (.mv (.c (.bool false)))] (iSr [.s (.zi 2 aT1),.w .push none (.call (.c (.fn 144 (.of 144) [])) [aS0,(.c (.str [109,97,103,105,99]))]),.s (.mv aS0),iPt 0 (.zi 2 aT1),.w .push (some (aS1,true)) (.call (.c (.fn 145 (.of 145) [])) [aS0,aC2]),.s (.pick aS2 aS0 (.c (.bool false))),iQm 2 0] .ret))
def F227.res:List RV:=[.t (.of 2)]
def F227:Fn:={ params:=[(.of 0)],res:=F227.res,body:=F227.b0,init:=in3 }
theorem F227.ok:fnA Tryz.prog Tryz.f227 [0,1,2]=some F227:=by kernel_rfl
abbrev jq.fr:=fr8
def jq.t0:IR:=.reg [iWl 2 (.box (.t (.of 0))),iWl 3 (.alloc [(I 0),.zf])]
def jq.t1:IR:=.reg [iCa 187 [(.c (I 1))],iWl 4 (.alloc [(I 0),.zf]),.w .none none (.store 2 (.t (.of 4)) (.s 0))]
def jq.t2:IR:=.reg [.s (.mv (.t (.of 1))),iQo 5 (.bin .gtr .int (.s 0) (.c (I 0)))]
def jq.t5:IR:=.reg [.s (.mv (.t (.of 1))),.s (.bin .and .int (.s 0) (.c (I 1))),iQo 6 (.bin .eql .int (.s 0) (.c (I 1)))]
def jq.t6:IR:=.reg [.s (.zi 2 (.t (.of 4))),.s (.zi 2 (.t (.of 2))),iCa 198 [(.s 1),(.s 0)],.w .none none (.store 2 (.t (.of 4)) (.s 0))]
def jq.t9:IR:=.reg [.s (.mv (.t (.of 1))),iQo 7 (.bin .gtr .int (.s 0) (.c (I 1)))]
def jq.t10:IR:=.reg [.s (.zi 2 (.t (.of 2))),.s (.zi 2 (.t (.of 2))),iCa 198 [(.s 1),(.s 0)],.w .none none (.store 2 (.t (.of 2)) (.s 0))]
def jq.t12:IR:=.seq jq.t9 (.cond (.t (.of 7)) jq.t10 .skip)
def jq.t15:IR:=.reg [.s (.mv (.t (.of 1))),.s (.bin .shr .int (.s 0) (.c (.int .u64 1))),iQo 1 (.mv (.s 0))]
def jq.t17:IR:=.seq (.seq jq.t2 (.cond (.t (.of 5)) .skip (.exit 0))) (.seq (.block 1 (.seq (.seq jq.t5 (.cond (.t (.of 6)) jq.t6 .skip)) jq.t12)) jq.t15)
def jq.t18:IR:=.loop jq.t17
def jq.t20:IR:=.reg [.s (.zi 2 (.t (.of 4))),.w .none none (.store 2 (.t (.of 3)) (.s 0))]
def jq.t21:IR:=.seq jq.t20 .ret
def jq.t24:IR:=.seq jq.t0 (.seq jq.t1 (.seq (.block 0 jq.t18) jq.t21))
def jq.b0:IR:=jq.t24
def jq.res:List RV:=[.cell (.of 3) (some 2)]
def jq:Fn:={ params:=[(.of 0),(.of 1)],res:=jq.res,body:=jq.b0,init:=in8 }
theorem jq.ok:fnA Tryz.prog Tryz.f228 [0,1,2,4,5,8,13,18]=some jq:=by kernel_rfl
abbrev uy.fr:=fr8
def uy.t0:IR:=.reg [iWl 2 (.box (.t (.of 0))),iWl 3 (.box (.t (.of 1))),iQo 4 (.mv (.c (I 0)))]
def uy.t1:IR:=.reg [.s (.zk 1 (.t (.of 2))),.s (.load (.s 0)),.s (.bin .eql (.nil .sl) (.s 0) (.c .zf)),.s (.mv (.s 0)),.p .push (some ((.s 0),true)) (.zk 1 (.t (.of 3))),.p .push (some ((.s 1),true)) (.load (.s 0)),.p .push (some ((.s 2),true)) (.bin .eql (.nil .sl) (.s 0) (.c .zf)),iQo 5 (.pick (.s 3) (.s 0) (.c (.bool false)))]
def uy.t2:IR:=.reg [.s (.zk 0 (.t (.of 2))),.s (.load (.s 0)),.s (.zk 0 (.t (.of 3))),.s (.load (.s 0)),.s (.bin .lss .int (.s 2) (.s 0)),iQo 6 (.mv (.s 0))]
def uy.t3:IR:=.reg [iQo 4 (.mv (.c (I (-1))))]
def uy.t5:IR:=.reg [.s (.zk 0 (.t (.of 2))),.s (.load (.s 0)),.s (.zk 0 (.t (.of 3))),.s (.load (.s 0)),.s (.bin .gtr .int (.s 2) (.s 0)),iQo 7 (.mv (.s 0))]
def uy.t6:IR:=.reg [iQo 4 (.mv (.c (I 1)))]
def uy.t13:IR:=.reg [iQo 4 (.mv (.c (I 0)))]
def uy.t18:IR:=.reg [.s (.zi 2 (.t (.of 2))),.s (.zi 2 (.t (.of 3))),iCa 266 [(.s 1),(.s 0)],iCa 194 [(.s 0)],iQo 4 (.mv (.s 0))]
def uy.t19:IR:=.seq uy.t18 .ret
def uy.t21:IR:=.seq uy.t0 (.seq (.seq uy.t1 (.cond (.t (.of 5)) (.seq (.block 0 (.seq uy.t2 (.cond (.t (.of 6)) (.seq uy.t3 .ret) (.seq uy.t5 (.cond (.t (.of 7)) (.seq uy.t6 .ret) .skip))))) (.seq uy.t13 .ret)) .skip)) uy.t19)
def uy.b0:IR:=uy.t21
def uy.res:List RV:=[.t (.of 4)]
def uy:Fn:={ params:=[(.of 0),(.of 1)],res:=uy.res,body:=uy.b0,init:=in8 }
theorem uy.ok:fnA Tryz.prog Tryz.f229 [0,1,2,3,4,12,13,19]=some uy:=by kernel_rfl
abbrev uz.fr:=fr8
def uz.t0:IR:=.reg [iWl 3 (.box (.t (.of 0))),iQo 4 (.mv (.c (I 0)))]
def uz.t1:IR:=.reg [.s (.zk 0 (.t (.of 3))),.s (.load (.s 0)),iQo 5 (.mv (.s 0))]
def uz.t2:IR:=.jh [] [(.s (.mv (.t (.of 1))),0,[]),(.s (.bin .add .int (.s 0) (.c (I 1))),0,[]),(.s (.mv (.t (.of 5))),0,[]),(.s (.bin .rem .int (.s 1) (.s 0)),0,[]),(.s (.mv (.t (.of 2))),0,[]),(.s (.bin .add .int (.s 0) (.c (I 1))),0,[]),(.s (.mv (.t (.of 5))),0,[]),(.s (.bin .rem .int (.s 1) (.s 0)),0,[]),(iQo 6 (.mv (.s 4)),0,[]),(iQo 7 (.mv (.s 0)),0,[])]
def uz.zsn (r:List RO):List RO:=.s (.mv (.t (.of 6)))::.s (.bin .mul .int (.s 1) (.s 0))::.s (.mv (.t (.of 7)))::.s (.bin .add .int (.s 1) (.s 0))::.s (.zn 1 (.s 5) (.s 0))::.s (.load (.s 0))::.s (.bin .add .int (.s 9) (.s 0))::iQo 4 (.mv (.s 0))::r
def uz.r2_4:List RO:=uz.zsn []
def uz.ze6 (r:List RO):List RO:=.s (.mv (.t (.of 2)))::.s (.bin .add .int (.s 1) (.s 0))::.s (.zn 1 (.s 5) (.s 0))::.s (.load (.s 0))::.s (.bin .add .int (.s 9) (.s 0))::.s (.zk 2 (.t (.of 3)))::.s (.load (.s 0))::.s (.mv (.t (.of 5)))::r
def uz.r2_3:List RO:=uz.ze6 uz.r2_4
def uz.ze5 (r:List RO):List RO:=.s (.zn 1 (.s 5) (.s 0))::.s (.load (.s 0))::.s (.bin .add .int (.s 9) (.s 0))::.s (.zk 2 (.t (.of 3)))::.s (.load (.s 0))::.s (.mv (.t (.of 5)))::.s (.mv (.t (.of 6)))::.s (.bin .mul .int (.s 1) (.s 0))::r
def uz.r2_2:List RO:=uz.ze5 uz.r2_3
def uz.zar (r:List RO):List RO:=.s (.load (.s 0))::.s (.zk 2 (.t (.of 3)))::.s (.load (.s 0))::.s (.mv (.t (.of 5)))::.s (.mv (.t (.of 1)))::.s (.bin .mul .int (.s 1) (.s 0))::.s (.mv (.t (.of 7)))::.s (.bin .add .int (.s 1) (.s 0))::r
def uz.r2_1:List RO:=uz.zar uz.r2_2
def uz.aS (r:List RO):List RO:=.s (.zk 2 (.t (.of 3)))::.s (.load (.s 0))::.s (.mv (.t (.of 5)))::.s (.mv (.t (.of 1)))::.s (.bin .mul .int (.s 1) (.s 0))::.s (.mv (.t (.of 2)))::.s (.bin .add .int (.s 1) (.s 0))::.s (.zn 1 (.s 5) (.s 0))::r
def uz.oL:List RO:=uz.aS uz.r2_1
def uz.t3:IR:=.jh [] (uz.oL.map fun o=>(o,0,[]))
def uz.t7:IR:=.seq uz.t0 (.seq uz.t1 (.seq uz.t2 (.seq uz.t3 .ret)))
def uz.b0:IR:=uz.t7
def uz.res:List RV:=[.t (.of 4)]
def uz:Fn:={ params:=[(.of 0),(.of 1),(.of 2)],res:=uz.res,body:=uz.b0,init:=in8 }
theorem uz.ok:fnA Tryz.prog Tryz.f230 [0,1,2,3,6,7,8,9]=some uz:=by kernel_rfl
abbrev qm.fr:=fr6
def qm.t0:IR:=.reg [iWl 3 (.box (.t (.of 0))),iQo 4 (.mv (.c (I 0)))]
def qm.t1:IR:=.reg [.s (.zk 0 (.t (.of 3))),.s (.load (.s 0)),iQo 5 (.mv (.s 0))]
def qm.ze6 (r:List RO):List RO:=.s (.bin .rem .int (.s 1) (.s 0))::.s (.bin .add .int (.s 6) (.s 0))::.s (.zn 1 (.s 15) (.s 0))::.s (.load (.s 0))::.s (.bin .add .int (.s 19) (.s 0))::iQo 4 (.mv (.s 0))::r
def qm.r2_3:List RO:=qm.ze6 []
def qm.ze5 (r:List RO):List RO:=.s (.mv (.t (.of 5)))::.s (.bin .rem .int (.s 1) (.s 0))::.s (.bin .mul .int (.s 6) (.s 0))::.s (.mv (.t (.of 2)))::.s (.mv (.t (.of 5)))::.s (.bin .quo .int (.s 0) (.c (I 2)))::.s (.bin .add .int (.s 2) (.s 0))::.s (.mv (.t (.of 5)))::r
def qm.r2_2:List RO:=qm.ze5 qm.r2_3
def qm.zar (r:List RO):List RO:=.s (.load (.s 0))::.s (.zk 2 (.t (.of 3)))::.s (.load (.s 0))::.s (.mv (.t (.of 5)))::.s (.mv (.t (.of 1)))::.s (.mv (.t (.of 5)))::.s (.bin .quo .int (.s 0) (.c (I 2)))::.s (.bin .add .int (.s 2) (.s 0))::r
def qm.r2_1:List RO:=qm.zar qm.r2_2
def qm.aS (r:List RO):List RO:=.s (.zk 2 (.t (.of 3)))::.s (.load (.s 0))::.s (.mv (.t (.of 5)))::.s (.mv (.t (.of 1)))::.s (.bin .mul .int (.s 1) (.s 0))::.s (.mv (.t (.of 2)))::.s (.bin .add .int (.s 1) (.s 0))::.s (.zn 1 (.s 5) (.s 0))::r
def qm.oL:List RO:=qm.aS qm.r2_1
def qm.t2:IR:=.jh [] (qm.oL.map fun o=>(o,0,[]))
def qm.t5:IR:=.seq qm.t0 (.seq qm.t1 (.seq qm.t2 .ret))
def qm.b0:IR:=qm.t5
def qm.res:List RV:=[.t (.of 4)]
def qm:Fn:={ params:=[(.of 0),(.of 1),(.of 2)],res:=qm.res,body:=qm.b0,init:=in6 }
theorem qm.ok:fnA Tryz.prog Tryz.f231 [0,1,2,3,6,7]=some qm:=by kernel_rfl
abbrev jo.fr:=fr9
def jo.t0:IR:=.reg [iWl 1 (.box (.t (.of 0))),iWl 2 (.alloc [(I 0),(I 0),.zf])]
def jo.t1:IR:=.reg [.s (.zk 0 (.t (.of 1))),.s (.load (.s 0)),.s (.bin .sub .int (.s 0) (.c (I 2))),iQo 3 (.mv (.s 0))]
def jo.t2:IR:=.reg [.s (.mv (.t (.of 3))),.s (.mv (.t (.of 3))),.s (.build [(I 0),(I 0),.zf] [(0,1,(.s 1)),(1,1,(.s 0))]),iWl 4 (.alloc [(I 0),(I 0),.zf]),.w .none none (.store 3 (.t (.of 4)) (.s 0))]
def jo.t3:IR:=.reg [iQo 5 (.mv (.c (I 1)))]
def jo.t4:IR:=.reg [.s (.mv (.t (.of 5))),.s (.mv (.t (.of 3))),iQo 7 (.bin .leq .int (.s 1) (.s 0))]
def jo.t7:IR:=.reg [iQo 6 (.mv (.c (I 1)))]
def jo.t8:IR:=.reg [.s (.mv (.t (.of 6))),.s (.mv (.t (.of 3))),iQo 8 (.bin .leq .int (.s 1) (.s 0))]
def jo.t11:IR:=.jh [] [(.s (.zk 2 (.t (.of 4))),1,[]),(.s (.load (.s 0)),1,[]),(.s (.zk 2 (.t (.of 1))),0,[]),(.s (.load (.s 0)),0,[]),(.s (.zk 0 (.t (.of 1))),0,[]),(.s (.load (.s 0)),0,[]),(.s (.mv (.t (.of 5))),0,[]),(.s (.bin .mul .int (.s 1) (.s 0)),0,[]),(.s (.mv (.t (.of 6))),0,[]),(.s (.bin .add .int (.s 1) (.s 0)),0,[]),(.s (.zn 1 (.s 6) (.s 0)),0,[]),(.s (.load (.s 0)),0,[]),(.w .push none (.yg 1 1 [(I 0)] [(0,1,(.s 0))]),0,[]),(.w .push none (.app 1 8 (.s 11) (.s 0)),0,[]),(.s (.zk 2 (.t (.of 4))),0,[]),(.w .none none (.store 1 (.s 0) (.s 1)),0,[])]
def jo.t13:IR:=.reg [.s (.mv (.t (.of 6))),.s (.bin .add .int (.s 0) (.c (I 1))),iQo 6 (.mv (.s 0))]
def jo.t15:IR:=.seq (.seq jo.t8 (.cond (.t (.of 8)) .skip (.exit 2))) (.seq (.block 3 jo.t11) jo.t13)
def jo.t16:IR:=.loop jo.t15
def jo.t20:IR:=.reg [.s (.mv (.t (.of 5))),.s (.bin .add .int (.s 0) (.c (I 1))),iQo 5 (.mv (.s 0))]
def jo.t22:IR:=.seq (.seq jo.t4 (.cond (.t (.of 7)) .skip (.exit 0))) (.seq (.block 1 (.seq jo.t7 (.block 2 jo.t16))) jo.t20)
def jo.t23:IR:=.loop jo.t22
def jo.t26:IR:=.reg [.s (.zi 3 (.t (.of 4))),.w .none none (.store 3 (.t (.of 2)) (.s 0))]
def jo.t31:IR:=.seq jo.t0 (.seq jo.t1 (.seq jo.t2 (.seq (.seq jo.t3 (.block 0 jo.t23)) (.seq jo.t26 .ret))))
def jo.b0:IR:=jo.t31
def jo.res:List RV:=[.cell (.of 2) (some 3)]
def jo:Fn:={ params:=[(.of 0)],res:=jo.res,body:=jo.b0,init:=in9 }
theorem jo.ok:fnA Tryz.prog Tryz.f232 [0,1,2,3,4,5,6,15,20]=some jo:=by kernel_rfl
abbrev ul.fr:=fr7
def ul.t0:IR:=.reg [iQo 2 (.mv (.c (.str [])))]
def ul.t1:IR:=.reg [.s (.mv (.t (.of 1))),iQo 4 (.bin .lss .int (.s 0) (.c (I 0)))]
def ul.t6:IR:=.reg [iQo 3 (.mv (.c (.str [49])))]
def ul.t7:IR:=.reg [.s (.mv (.t (.of 1))),iQo 5 (.bin .gtr .int (.s 0) (.c (I 0)))]
def ul.t10:IR:=.reg [.s (.mv (.t (.of 1))),.s (.bin .rem .int (.s 0) (.c (I 2))),iQo 6 (.bin .eql .int (.s 0) (.c (I 1)))]
def ul.t11:IR:=.reg [.s (.mv (.t (.of 3))),.s (.mv (.t (.of 0))),iCa 41 [(.s 1),(.s 0)],iQo 3 (.mv (.s 0))]
def ul.t14:IR:=.reg [.s (.mv (.t (.of 0))),.s (.mv (.t (.of 0))),iCa 41 [(.s 1),(.s 0)],iQo 0 (.mv (.s 0))]
def ul.t15:IR:=.reg [.s (.mv (.t (.of 1))),.s (.bin .quo .int (.s 0) (.c (I 2))),iQo 1 (.mv (.s 0))]
def ul.t19:IR:=.seq (.seq ul.t7 (.cond (.t (.of 5)) .skip (.exit 0))) (.block 1 (.seq (.seq ul.t10 (.cond (.t (.of 6)) ul.t11 .skip)) (.seq ul.t14 ul.t15)))
def ul.t20:IR:=.loop ul.t19
def ul.t22:IR:=.reg [.s (.mv (.t (.of 3))),iQo 2 (.mv (.s 0))]
def ul.t27:IR:=.seq ul.t0 (.seq (.seq ul.t1 (.cond (.t (.of 4)) (iSr [.s (.mv (.t (.of 0))),iCa 203 [(.s 0)],.s (.mv (.t (.of 1))),.s (.bin .sub .int (.c (I 0)) (.s 0)),iCa 233 [(.s 2),(.s 0)],iQo 2 (.mv (.s 0))] .ret) .skip)) (.seq ul.t6 (.seq (.block 0 ul.t20) (.seq ul.t22 .ret))))
def ul.b0:IR:=ul.t27
def ul.res:List RV:=[.t (.of 2)]
def ul:Fn:={ params:=[(.of 0),(.of 1)],res:=ul.res,body:=ul.b0,init:=in7 }
theorem ul.ok:fnA Tryz.prog Tryz.f233 [0,1,4,5,7,14,17]=some ul:=by kernel_rfl
abbrev F234.fr:=fr8
def F234.b0:IR:=(iSr [iQo 2 (.mv aC0)] (.seq (iSr [iSm 0,iQo 4 (.len aS0),iQo 5 (.mv aC0)] (.block 0 (.loop (iSr [iQo 6 (.bin .lss .int aT5 aT4)] (.seq (.cond aT6 .skip (.exit 0)) (.seq (.block 1 (iSr [iSm 5,iQm 3 0] (iSr [iSm 1,iSm 0,iSm 3,.s (.zn 1 aS1 aS0),.s (.load aS0),iQo 7 (.bin .eql .str aS4 aS0)] (.cond aT7 (iSr [iSm 3,iQm 2 0] .ret) .skip)))) (.reg [.s (.bin .add .int aT5 aC1),iQm 5 0]))))))) (iSr [iQo 2 (.mv (.c (I (-1))))] .ret)))
def F234.res:List RV:=[.t (.of 2)]
def F234:Fn:={ params:=[(.of 0),(.of 1)],res:=F234.res,body:=F234.b0,init:=in8 }
theorem F234.ok:fnA Tryz.prog Tryz.f234 [0,1,4,5,7,8,9,16]=some F234:=by kernel_rfl
abbrev F235.fr:=fr15
def F235.b0:IR:=(iSr [iQo 1 (.mv (.c .zf))] (iSr [iQo 2 (.mv aC0)] (.seq (iSr [iQo 6 (.mv aT0),iQo 7 (.len aT6),iQo 8 (.mv aC0)] (.block 0 (.loop (iSr [iQo 9 (.bin .lss .int aT8 aT7)] (.seq (.cond aT9 .skip (.exit 0)) (.seq (.block 1 (iSr [.s (.zn 1 aT6 aT8),.s (.load aS0),iQm 3 0] (iSr [iSm 2,iSm 3,.s (.len aS0),.s (.bin .add .int aS2 aS0),iQm 2 0] (iSr [iSm 2,iQo 10 (.bin .lss .int aS0 aC0)] (.cond sW (.bad 7) .skip))))) (.reg [.s (.bin .add .int aT8 aC1),iQm 8 0]))))))) (iSr [iSm 2,iCa 278 [(.c .zf),aS0],iQm 4 0] (.seq (iSr [iQo 11 (.mv aT0),iQo 12 (.len ay),iQo 13 (.mv aC0)] (.block 2 (.loop (iSr [iQo 14 (.bin .lss .int aT13 sF)] (.seq (.cond aT14 .skip (.exit 2)) (.seq (.block 3 (iSr [.s (.zn 1 ay aT13),.s (.load aS0),iQm 5 0] (.reg [iSm 4,iSm 5,.w .push none (.app 1 24 aS1 aS0),iQm 4 0]))) (.reg [.s (.bin .add .int aT13 aC1),iQm 13 0]))))))) (iSr [iSm 4,iQm 1 0] .ret))))))
def F235.res:List RV:=[.t (.of 1)]
def F235:Fn:={ params:=[(.of 0)],res:=F235.res,body:=F235.b0,init:=in15 }
theorem F235.ok:fnA Tryz.prog Tryz.f235 [0,2,3,5,6,8,9,10,11,12,20,25,26,27,28]=some F235:=by kernel_rfl
abbrev F236.fr:=fr5
def F236.b0:IR:=(iSr [iWl 2 (.box aT0),iWl 3 (.box aT1),iQo 4 (.mv (.c .bM))] (iSr [.s (.fn 279 (.of 279) [aT2,aT3]),iQm 4 0] .ret))
def F236.res:List RV:=[.t (.of 4)]
def F236:Fn:={ params:=[(.of 0),(.of 1)],res:=F236.res,body:=F236.b0,init:=in5 }
theorem F236.ok:fnA Tryz.prog Tryz.f236 [0,1,2,3,4]=some F236:=by kernel_rfl
abbrev F237.fr:=fr8
def F237.b0:IR:=(iSr [iQo 1 (.mv (.c (.str [])))] (iSr [iQo 2 (.mv (.c .zf))] (.seq (iSr [iQo 4 (.mv aT0),iQo 5 (.len aT4),iQo 6 (.mv aC0)] (.block 0 (.loop (iSr [iQo 7 (.bin .lss .int aT6 aT5)] (.seq (.cond aT7 .skip (.exit 0)) (.seq (.block 1 (iSr [.s (.zn 1 aT4 aT6),.s (.load aS0),iQm 3 0] (.reg [iSm 2,iSm 3,iCa 248 [aS0],.w .push none (.yg 1 1 [(.str [])] [(0,1,aS0)]),.w .push none (.app 1 16 aS3 aS0),iQm 2 0]))) (.reg [.s (.bin .add .int aT6 aC1),iQm 6 0]))))))) (iSr [iSm 2,.w .push none (.call (.c (.fn 281 (.of 281) [])) [aS0,(.c (.str [32]))]),iQm 1 0] .ret))))
def F237.res:List RV:=[.t (.of 1)]
def F237:Fn:={ params:=[(.of 0)],res:=F237.res,body:=F237.b0,init:=in8 }
theorem F237.ok:fnA Tryz.prog Tryz.f237 [0,2,3,5,6,7,8,9]=some F237:=by kernel_rfl
abbrev F238.fr:=fr4
def F238.b0:IR:=(iSr [iQo 3 (.mv aC0)] (iSr [.s (.load aT1),.s (.load aT2),.s (.bin .mul .int aS1 aS0),iSm 0,.s (.bin .add .int aS1 aS0),iQm 3 0] .ret))
def F238.res:List RV:=[.t (.of 3)]
def F238:Fn:={ params:=[(.of 0),(.of 1),(.of 2)],res:=F238.res,body:=F238.b0,init:=in4 }
theorem F238.ok:fnA Tryz.prog Tryz.f238 [0,1,2,4]=some F238:=by kernel_rfl
abbrev F239.fr:=fr4
def F239.b0:IR:=(iSr [iQo 3 (.mv aC0)] (iSr [.s (.load aT1),iSm 0,.s (.bin .mul .int aS1 aS0),.s (.load aT2),.s (.bin .add .int aS1 aS0),iQm 3 0] .ret))
def F239.res:List RV:=[.t (.of 3)]
def F239:Fn:={ params:=[(.of 0),(.of 1),(.of 2)],res:=F239.res,body:=F239.b0,init:=in4 }
theorem F239.ok:fnA Tryz.prog Tryz.f239 [0,1,2,4]=some F239:=by kernel_rfl
abbrev F240.fr:=fr3
def F240.b0:IR:=(iSr [iQo 2 (.mv aC0)] (iSr [iSm 0,iSm 1,.s (.bin .rem .int aS1 aS0),iSm 1,.s (.bin .add .int aS1 aS0),iSm 1,.s (.bin .rem .int aS1 aS0),iQm 2 0] .ret))
def F240.res:List RV:=[.t (.of 2)]
def F240:Fn:={ params:=[(.of 0),(.of 1)],res:=F240.res,body:=F240.b0,init:=in3 }
theorem F240.ok:fnA Tryz.prog Tryz.f240 [0,1,4]=some F240:=by kernel_rfl
abbrev oU.fr:=fr2
def oU.b0:IR:=(iSr [iQo 1 (.mv (.c .zf))] (iSr [iSm 0,iCa 282 [(.c .zf),aS0],iQm 1 0] .ret))
def oU.res:List RV:=[.t (.of 1)]
def oU:Fn:={ params:=[(.of 0)],res:=oU.res,body:=oU.b0,init:=in2 }
theorem oU.ok:fnA Tryz.prog Tryz.f242 [0,2]=some oU:=by kernel_rfl
abbrev F243.fr:=fr2
def F243.b0:IR:=(iSr [iSm 0,.s (.len aS0),iQm 1 0] (.reg [iSm 0,iSm 1,iSm 1,.s (.conv .u64 aS0),iCa 284 [aS0],iCa 283 [aS4,aC0,aS3,aS0]]))
def F243.res:List RV:=[]
def F243:Fn:={ params:=[(.of 0)],res:=F243.res,body:=F243.b0,init:=in2 }
theorem F243.ok:fnA Tryz.prog Tryz.f243 [0,2]=some F243:=by kernel_rfl
abbrev bK.fr:=fr8
def bK.b3:IR:=(iSr [iQo 6 (.bin .lss .int aT5 aT4)] (.seq (.cond aT6 .skip (.exit 0)) (.seq (.block 1 (iSr [.s (.zn 1 aT3 aT5),.s (.load aS0),iQm 2 0] (iSr [iSm 0,iSm 2,.w .push none (.call aS1 [aS0]),iQo 7 (.not aS0)] (.cond aT7 .ret .skip)))) (.reg [.s (.bin .add .int aT5 aC1),iQm 5 0]))))
def bK.b2:IR:=(.loop bK.b3)
def bK.g1 (X2:IR):IR:=(.block 0 X2)
def bK.b1:IR:=bK.g1 bK.b2
def bK.b0:IR:=(iSr [iQo 3 (.load aT1),iQo 4 (.len aT3),iQo 5 (.mv aC0)] bK.b1)
def bK.res:List RV:=[]
def bK:Fn:={ params:=[(.of 0),(.of 1)],res:=bK.res,body:=bK.b0,init:=in8 }
theorem bK.ok:fnA Tryz.prog Tryz.f244 [0,1,4,5,6,7,8,14]=some bK:=by kernel_rfl
abbrev F245.fr:=fr8
def F245.b0:IR:=(iSr [iQo 2 (.mv aC0)] (.seq (iSr [iSm 0,iQo 4 (.len aS0),iQo 5 (.mv aC0)] (.block 0 (.loop (iSr [iQo 6 (.bin .lss .int aT5 aT4)] (.seq (.cond aT6 .skip (.exit 0)) (.seq (.block 1 (iSr [iSm 5,iQm 3 0] (iSr [iSm 1,iSm 0,iSm 3,.s (.zn 1 aS1 aS0),.s (.load aS0),iWl 7 (.call aS4 [aS0])] (.cond aT7 (iSr [iSm 3,iQm 2 0] .ret) .skip)))) (.reg [.s (.bin .add .int aT5 aC1),iQm 5 0]))))))) (iSr [iQo 2 (.mv (.c (I (-1))))] .ret)))
def F245.res:List RV:=[.t (.of 2)]
def F245:Fn:={ params:=[(.of 0),(.of 1)],res:=F245.res,body:=F245.b0,init:=in8 }
theorem F245.ok:fnA Tryz.prog Tryz.f245 [0,1,4,5,7,8,9,16]=some F245:=by kernel_rfl
abbrev F246.fr:=fr3
def F246.b0:IR:=(iSr [iWl 1 (.box aT0),iQo 2 (.mv (.c (.bool false)))] (iSr [.s (.zi 2 aT1),iCa 285 [aS0],.s (.bin .gtr .int aS0 zvo),.s (.mv aS0),iPt 0 (.zi 2 aT1),.w .push (some (aS1,true)) (.call (.c (.fn 188 (.of 188) [])) [aS0]),.w .push (some (aS2,true)) (.call (.c (.fn 286 (.of 286) [])) [aS0,(.c (.str [45]))]),iPt 3 (.slen aS0),iPt 4 (.bin .gtr .int aS0 zyp),.s (.pick aS5 aS0 (.c (.bool false))),iQm 2 0] .ret))
def F246.res:List RV:=[.t (.of 2)]
def F246:Fn:={ params:=[(.of 0)],res:=F246.res,body:=F246.b0,init:=in3 }
theorem F246.ok:fnA Tryz.prog Tryz.f246 [0,1,2]=some F246:=by kernel_rfl
abbrev F247.fr:=fr8
def F247.b0:IR:=(iSr [iQo 2 (.mv aC0)] (.seq (iSr [iSm 0,iQo 4 (.len aS0),iQo 5 (.mv aC0)] (.block 0 (.loop (iSr [iQo 6 (.bin .lss .int aT5 aT4)] (.seq (.cond aT6 .skip (.exit 0)) (.seq (.block 1 (iSr [iSm 5,iQm 3 0] (iSr [iSm 1,iSm 0,iSm 3,.s (.zn 1 aS1 aS0),.s (.load aS0),iQo 7 (.bin .eql .int aS4 aS0)] (.cond aT7 (iSr [iSm 3,iQm 2 0] .ret) .skip)))) (.reg [.s (.bin .add .int aT5 aC1),iQm 5 0]))))))) (iSr [iQo 2 (.mv (.c (I (-1))))] .ret)))
def F247.res:List RV:=[.t (.of 2)]
def F247:Fn:={ params:=[(.of 0),(.of 1)],res:=F247.res,body:=F247.b0,init:=in8 }
theorem F247.ok:fnA Tryz.prog Tryz.f247 [0,1,4,5,7,8,9,16]=some F247:=by kernel_rfl
abbrev F248.fr:=fr2
def F248.b0:IR:=(iSr [iQo 1 (.mv (.c (.str [])))] (iSr [iSm 0,iCa 287 [aS0],iQm 1 0] .ret))
def F248.res:List RV:=[.t (.of 1)]
def F248:Fn:={ params:=[(.of 0)],res:=F248.res,body:=F248.b0,init:=in2 }
theorem F248.ok:fnA Tryz.prog Tryz.f248 [0,2]=some F248:=by kernel_rfl
abbrev qx.fr:=fr6
def qx.t0:IR:=.reg [iWl 1 (.box (.t (.of 0))),iQo 2 (.mv (.c (.bool false))),iQo 3 (.mv (.c .zf))]
def qx.t1:IR:=.reg [.s (.zk 1 (.t (.of 1))),.s (.load (.s 0)),.s (.bin .neq (.nil .sl) (.s 0) (.c .zf)),iQo 4 (.mv (.s 0))]
def qx.t2:IR:=.jh [] [(.s (.zk 0 (.t (.of 1))),0,[]),(.s (.load (.s 0)),0,[]),(.s (.bin .lss .int (.s 0) (.c (I 0))),0,[]),(.s (.zk 1 (.t (.of 1))),0,[]),(.s (.load (.s 0)),0,[]),(iQo 2 (.mv (.s 2)),0,[]),(iQo 3 (.mv (.s 0)),0,[])]
def qx.t4:IR:=.reg [.s (.zk 0 (.t (.of 1))),.s (.load (.s 0)),.s (.bin .eql .int (.s 0) (.c (I 0))),iQo 5 (.mv (.s 0))]
def qx.t5:IR:=.reg [iQo 2 (.mv (.c (.bool false))),iQo 3 (.mv (.c .zf))]
def qx.t12:IR:=.jh [] [(.s (.zk 0 (.t (.of 1))),2,[]),(.s (.load (.s 0)),2,[]),(.s (.bin .lss .int (.s 0) (.c (I 0))),2,[]),(.s (.zk 0 (.t (.of 1))),0,[]),(.s (.load (.s 0)),0,[]),(iCa 264 [(.s 0)],0,[]),(iQo 2 (.mv (.s 3)),1,[]),(.w .push none (.yg 1 1 [(.int .u64 0)] [(0,1,(.s 0))]),0,[]),(iQo 3 (.mv (.s 0)),0,[])]
def qx.t15:IR:=.seq qx.t0 (.seq (.block 0 (.seq qx.t1 (.cond (.t (.of 4)) (.seq qx.t2 .ret) (.seq qx.t4 (.cond (.t (.of 5)) (.seq qx.t5 .ret) .skip))))) (.seq qx.t12 .ret))
def qx.b0:IR:=qx.t15
def qx.res:List RV:=[.t (.of 2),.t (.of 3)]
def qx:Fn:={ params:=[(.of 0)],res:=qx.res,body:=qx.b0,init:=in6 }
theorem qx.ok:fnA Tryz.prog Tryz.f249 [0,1,2,3,4,13]=some qx:=by kernel_rfl
abbrev je.fr:=fr7
def je.t0:IR:=.reg [iWl 2 (.alloc [(I 0),.zf])]
def je.t1:IR:=.reg [.s (.mv (.t (.of 1))),.s (.len (.s 0)),.s (.bin .eql .int (.s 0) (.c (I 0))),iQo 3 (.mv (.s 0))]
def je.t2:IR:=.reg [.s (.build [(I 0),.zf] []),.w .none none (.store 2 (.t (.of 2)) (.s 0))]
def je.zez (r:List RO):List RO:=.s (.pick (.s 4) (.s 0) (.c (.bool false)))::.s (.mv (.s 0))::.p .push (some ((.s 0),true)) (.mv (.t (.of 0)))::.s (.pick (.s 1) (.s 0) (.c (.bool false)))::iQo 4 (.mv (.s 0))::r
def je.r3_1:List RO:=je.zez []
def je.zey (r:List RO):List RO:=.s (.mv (.t (.of 1)))::.s (.len (.s 0))::.s (.bin .eql .int (.s 0) (.c (I 1)))::.s (.mv (.s 0))::.p .push (some ((.s 0),true)) (.mv (.t (.of 1)))::.p .push (some ((.s 1),true)) (.zn 1 (.s 0) (.c (I 0)))::.p .push (some ((.s 2),true)) (.load (.s 0))::.p .push (some ((.s 3),true)) (.bin .leq .int (.s 0) (.c (.int .u64 9223372036854775807)))::r
def je.r3_0:List RO:=je.zey je.r3_1
def je.t4:IR:=.reg je.r3_0
def je.t5:IR:=.reg [.s (.mv (.t (.of 1))),.s (.zn 1 (.s 0) (.c (I 0))),.s (.load (.s 0)),.s (.conv .i64 (.s 0)),.s (.neg (.s 0)),.s (.build [(I 0),.zf] [(0,1,(.s 0))]),.w .none none (.store 2 (.t (.of 2)) (.s 0))]
def je.zsg (r:List RO):List RO:=.s (.pick (.s 4) (.s 0) (.c (.bool false)))::iQo 5 (.mv (.s 0))::r
def je.r5_1:List RO:=je.zsg []
def je.zsf (r:List RO):List RO:=.s (.mv (.t (.of 1)))::.s (.len (.s 0))::.s (.bin .eql .int (.s 0) (.c (I 1)))::.s (.mv (.s 0))::.p .push (some ((.s 0),true)) (.mv (.t (.of 1)))::.p .push (some ((.s 1),true)) (.zn 1 (.s 0) (.c (I 0)))::.p .push (some ((.s 2),true)) (.load (.s 0))::.p .push (some ((.s 3),true)) (.bin .leq .int (.s 0) (.c (.int .u64 9223372036854775807)))::r
def je.r5_0:List RO:=je.zsf je.r5_1
def je.t7:IR:=.reg je.r5_0
def je.t8:IR:=.reg [.s (.mv (.t (.of 1))),.s (.zn 1 (.s 0) (.c (I 0))),.s (.load (.s 0)),.s (.conv .i64 (.s 0)),.s (.build [(I 0),.zf] [(0,1,(.s 0))]),.w .none none (.store 2 (.t (.of 2)) (.s 0))]
def je.t10:IR:=.reg [.s (.mv (.t (.of 0))),iQo 6 (.mv (.s 0))]
def je.t11:IR:=.reg [.s (.mv (.t (.of 1))),.s (.build [(I 0),.zf] [(0,1,(.c (I (-1)))),(1,1,(.s 0))]),.w .none none (.store 2 (.t (.of 2)) (.s 0))]
def je.t22:IR:=.reg [.s (.mv (.t (.of 1))),.s (.build [(I 0),.zf] [(0,1,(.c (I 1))),(1,1,(.s 0))]),.w .none none (.store 2 (.t (.of 2)) (.s 0))]
def je.t25:IR:=.seq je.t0 (.seq (.block 0 (.seq je.t1 (.cond (.t (.of 3)) (.seq je.t2 .ret) (.seq je.t4 (.cond (.t (.of 4)) (.seq je.t5 .ret) (.seq je.t7 (.cond (.t (.of 5)) (.seq je.t8 .ret) (.seq je.t10 (.cond (.t (.of 6)) (.seq je.t11 .ret) .skip))))))))) (.seq je.t22 .ret))
def je.b0:IR:=je.t25
def je.res:List RV:=[.cell (.of 2) (some 2)]
def je:Fn:={ params:=[(.of 0),(.of 1)],res:=je.res,body:=je.b0,init:=in7 }
theorem je.ok:fnA Tryz.prog Tryz.f257 [0,1,4,5,10,29,44]=some je:=by kernel_rfl
abbrev F258.fr:=fr7
def F258.b0:IR:=(iSr [iWl 2 (.box aT0),iWl 3 (.box aT1),iWl 4 (.alloc [(I 0),.zf])] (.seq (.jh [] [(.s (.zi 2 aT2),0,[]),(.s (.zi 2 aT3),1,[]),(iCa 299 [aS1],0,[]),(iCa 299 [aS1],0,[]),(.w .none none (.store 2 aT2 aS1),0,[]),(.w .none none (.store 2 aT3 aS0),0,[])]) (.seq (.block 0 (.loop (.seq (iSr [.s (.zi 2 aT3),iCa 194 [aS0],iQo 6 (.bin .neq .int aS0 aC0)] (.cond aT6 .skip (.exit 0))) (.block 1 (iSr [.s (.zi 2 aT2),.s (.zi 2 aT3),iCa 201 [aS1,aS0],.s (.mv aS0),.s (.ext 0 aS0),.s (.ext 1 aS1),.w .push none (.alloc [(I 0),.zf]),iWl 5 (.alloc [(I 0),.zf]),.w .none none (.store 2 aS0 aS2),.w .none none (.store 2 aT5 aS1)] (.jh [] [(.s (.zi 2 aT3),0,[]),(.s (.zi 2 aT5),1,[]),(.w .none none (.store 2 aT2 aS1),0,[]),(.w .none none (.store 2 aT3 aS0),0,[])])))))) (iSr [.s (.zi 2 aT2),.w .none none (.store 2 aT4 aS0)] .ret))))
def F258.res:List RV:=[.cell (.of 4) (some 2)]
def F258:Fn:={ params:=[(.of 0),(.of 1)],res:=F258.res,body:=F258.b0,init:=in7 }
theorem F258.ok:fnA Tryz.prog Tryz.f258 [0,1,2,3,4,6,13]=some F258:=by kernel_rfl
abbrev F259.fr:=fr7
def F259.b0:IR:=(iSr [iWl 2 (.box aT0),iWl 3 (.box aT1),iWl 4 (.alloc [(I 0),.zf])] (.seq (iSr [.s (.zi 2 aT3),iCa 194 [aS0],iQo 6 (.bin .lss .int aS0 aC0)] (.cond aT6 (.jh [] [(.s (.zi 2 aT2),0,[]),(.s (.zi 2 aT3),1,[]),(iCa 193 [aS1],0,[]),(iCa 193 [aS1],0,[]),(.w .none none (.store 2 aT2 aS1),0,[]),(.w .none none (.store 2 aT3 aS0),0,[])]) .skip)) (iSr [.s (.zi 2 aT2),.s (.zi 2 aT3),iCa 201 [aS1,aS0],.s (.mv aS0),.s (.ext 0 aS0),.s (.ext 1 aS1),iWl 5 (.alloc [(I 0),.zf]),.w .push none (.alloc [(I 0),.zf]),.w .none none (.store 2 aT5 aS2),.w .none none (.store 2 aS0 aS1)] (iSr [.s (.zi 2 aT5),.w .none none (.store 2 aT4 aS0)] .ret))))
def F259.res:List RV:=[.cell (.of 4) (some 2)]
def F259:Fn:={ params:=[(.of 0),(.of 1)],res:=F259.res,body:=F259.b0,init:=in7 }
theorem F259.ok:fnA Tryz.prog Tryz.f259 [0,1,2,3,4,5,9]=some F259:=by kernel_rfl
abbrev zy.fr:=fr12
def zy.t0:IR:=.reg [iQo 2 (.mv (.c .zf))]
def zy.t1:IR:=.reg [.s (.mv (.t (.of 0))),.s (.len (.s 0)),.s (.mv (.t (.of 1))),.s (.len (.s 0)),iQo 7 (.bin .lss .int (.s 2) (.s 0))]
def zy.t2:IR:=.reg [.s (.mv (.t (.of 1))),.s (.mv (.t (.of 0))),iQo 0 (.mv (.s 1)),iQo 1 (.mv (.s 0))]
def zy.t5:IR:=.reg [.s (.mv (.t (.of 0))),.s (.len (.s 0)),.s (.bin .add .int (.s 0) (.c (I 1))),.w .push none (.fB 1 8 [(.int .u64 0)] (.s 0) (.s 0)),iQo 3 (.mv (.s 0))]
def zy.t6:IR:=.reg [iQo 4 (.mv (.c (.int .u64 0)))]
def zy.t7:IR:=.reg [.s (.mv (.t (.of 0))),iQo 8 (.len (.s 0)),iQo 9 (.mv (.c (I 0)))]
def zy.t8:IR:=.reg [iQo 10 (.bin .lss .int (.t (.of 9)) (.t (.of 8)))]
def zy.t10:IR:=.reg [.s (.mv (.t (.of 9))),iQo 5 (.mv (.s 0))]
def zy.t11:IR:=.reg [iQo 6 (.mv (.c (.int .u64 0)))]
def zy.t12:IR:=.reg [.s (.mv (.t (.of 5))),.s (.mv (.t (.of 1))),.s (.len (.s 0)),iQo 11 (.bin .lss .int (.s 2) (.s 0))]
def zy.t13:IR:=.reg [.s (.mv (.t (.of 1))),.s (.mv (.t (.of 5))),.s (.zn 1 (.s 1) (.s 0)),.s (.load (.s 0)),iQo 6 (.mv (.s 0))]
def zy.zld (r:List RO):List RO:=iQo 4 (.mv (.s 1))::r
def zy.znz:List RO:=zy.zld []
def zy.zlc (r:List RO):List RO:=.s (.mv (.s 0))::.s (.ext 0 (.s 0))::.s (.ext 1 (.s 1))::.s (.zn 1 (.s 11) (.s 10))::.w .none none (.store 1 (.s 0) (.s 2))::r
def zy.zn0:List RO:=zy.zlc zy.znz
def zy.aV (r:List RO):List RO:=iCa 300 [(.s 2),(.s 1),(.s 0)]::r
def zy.zaj:List RO:=zy.aV zy.zn0
def zy.aU (r:List RO):List RO:=.s (.mv (.t (.of 3)))::.s (.mv (.t (.of 5)))::.s (.mv (.t (.of 0)))::.s (.mv (.t (.of 5)))::.s (.zn 1 (.s 1) (.s 0))::.s (.load (.s 0))::.s (.mv (.t (.of 6)))::.s (.mv (.t (.of 4)))::r
def zy.aJ:List RO:=zy.aU zy.zaj
def zy.t16:IR:=.reg zy.aJ
def zy.t21:IR:=.reg [.s (.bin .add .int (.t (.of 9)) (.c (I 1))),iQo 9 (.mv (.s 0))]
def zy.t24:IR:=.seq zy.t8 (.seq (.cond (.t (.of 10)) .skip (.exit 0)) (.seq (.block 1 (.seq zy.t10 (.seq zy.t11 (.seq (.seq zy.t12 (.cond (.t (.of 11)) zy.t13 .skip)) zy.t16)))) zy.t21))
def zy.t25:IR:=.loop zy.t24
def zy.t28:IR:=.reg [.s (.mv (.t (.of 3))),.s (.mv (.t (.of 0))),.s (.len (.s 0)),.s (.mv (.t (.of 4))),.s (.zn 1 (.s 3) (.s 1)),.w .none none (.store 1 (.s 0) (.s 1))]
def zy.t29:IR:=.reg [.s (.mv (.t (.of 3))),iCa 289 [(.s 0)],iQo 2 (.mv (.s 0))]
def zy.t34:IR:=.seq zy.t5 (.seq zy.t6 (.seq (.seq zy.t7 (.block 0 zy.t25)) (.seq zy.t28 (.seq zy.t29 .ret))))
def zy.t36:IR:=.seq zy.t0 (.seq (.seq zy.t1 (.cond (.t (.of 7)) zy.t2 .skip)) zy.t34)
def zy.b0:IR:=zy.t36
def zy.res:List RV:=[.t (.of 2)]
def zy:Fn:={ params:=[(.of 0),(.of 1)],res:=zy.res,body:=zy.b0,init:=in12 }
theorem zy.ok:fnA Tryz.prog Tryz.f260 [0,1,4,5,6,7,8,13,21,22,23,28]=some zy:=by kernel_rfl
abbrev jk.fr:=fr9
def jk.t0:IR:=.reg [iQo 2 (.mv (.c (I 0)))]
def jk.t1:IR:=.reg [.s (.mv (.t (.of 0))),.s (.len (.s 0)),.s (.mv (.t (.of 1))),.s (.len (.s 0)),iQo 4 (.bin .neq .int (.s 2) (.s 0))]
def jk.t2:IR:=.reg [.s (.mv (.t (.of 0))),.s (.len (.s 0)),.s (.mv (.t (.of 1))),.s (.len (.s 0)),iQo 5 (.bin .lss .int (.s 2) (.s 0))]
def jk.t3:IR:=.reg [iQo 2 (.mv (.c (I (-1))))]
def jk.t7:IR:=.reg [iQo 2 (.mv (.c (I 1)))]
def jk.t12:IR:=.reg [.s (.mv (.t (.of 0))),.s (.len (.s 0)),.s (.bin .sub .int (.s 0) (.c (I 1))),iQo 3 (.mv (.s 0))]
def jk.t13:IR:=.reg [.s (.mv (.t (.of 3))),iQo 6 (.bin .geq .int (.s 0) (.c (I 0)))]
def jk.t16:IR:=.jh [] [(.s (.mv (.t (.of 0))),0,[]),(.s (.mv (.t (.of 3))),0,[]),(.s (.zn 1 (.s 1) (.s 0)),0,[]),(.s (.load (.s 0)),0,[]),(.s (.mv (.t (.of 1))),0,[]),(.s (.mv (.t (.of 3))),0,[]),(.s (.zn 1 (.s 1) (.s 0)),0,[]),(.s (.load (.s 0)),0,[]),(iQo 7 (.bin .neq .int (.s 4) (.s 0)),0,[])]
def jk.t17:IR:=.jh [] [(.s (.mv (.t (.of 0))),0,[]),(.s (.mv (.t (.of 3))),0,[]),(.s (.zn 1 (.s 1) (.s 0)),0,[]),(.s (.load (.s 0)),0,[]),(.s (.mv (.t (.of 1))),0,[]),(.s (.mv (.t (.of 3))),0,[]),(.s (.zn 1 (.s 1) (.s 0)),0,[]),(.s (.load (.s 0)),0,[]),(iQo 8 (.bin .lss .int (.s 4) (.s 0)),0,[])]
def jk.t18:IR:=.reg [iQo 2 (.mv (.c (I (-1))))]
def jk.t22:IR:=.reg [iQo 2 (.mv (.c (I 1)))]
def jk.t28:IR:=.reg [.s (.mv (.t (.of 3))),.s (.bin .sub .int (.s 0) (.c (I 1))),iQo 3 (.mv (.s 0))]
def jk.t30:IR:=.seq (.seq jk.t13 (.cond (.t (.of 6)) .skip (.exit 0))) (.seq (.block 1 (.seq jk.t16 (.cond (.t (.of 7)) (.seq (.seq jk.t17 (.cond (.t (.of 8)) (.seq jk.t18 .ret) .skip)) (.seq jk.t22 .ret)) .skip))) jk.t28)
def jk.t31:IR:=.loop jk.t30
def jk.t34:IR:=.reg [iQo 2 (.mv (.c (I 0)))]
def jk.t38:IR:=.seq jk.t0 (.seq (.seq jk.t1 (.cond (.t (.of 4)) (.seq (.seq jk.t2 (.cond (.t (.of 5)) (.seq jk.t3 .ret) .skip)) (.seq jk.t7 .ret)) .skip)) (.seq (.seq jk.t12 (.block 0 jk.t31)) (.seq jk.t34 .ret)))
def jk.b0:IR:=jk.t38
def jk.res:List RV:=[.t (.of 2)]
def jk:Fn:={ params:=[(.of 0),(.of 1)],res:=jk.res,body:=jk.b0,init:=in9 }
theorem jk.ok:fnA Tryz.prog Tryz.f261 [0,1,4,5,10,15,20,31,40]=some jk:=by kernel_rfl
abbrev yu.fr:=fr11
def yu.t0:IR:=.reg [iQo 2 (.mv (.c .zf))]
def yu.t1:IR:=.reg [.s (.mv (.t (.of 0))),.s (.len (.s 0)),.w .push none (.fB 1 8 [(.int .u64 0)] (.s 0) (.s 0)),iQo 3 (.mv (.s 0))]
def yu.t2:IR:=.reg [iQo 4 (.mv (.c (.int .u64 0)))]
def yu.t3:IR:=.reg [.s (.mv (.t (.of 0))),iQo 7 (.len (.s 0)),iQo 8 (.mv (.c (I 0)))]
def yu.t4:IR:=.reg [iQo 9 (.bin .lss .int (.t (.of 8)) (.t (.of 7)))]
def yu.t6:IR:=.reg [.s (.mv (.t (.of 8))),iQo 5 (.mv (.s 0))]
def yu.t7:IR:=.reg [iQo 6 (.mv (.c (.int .u64 0)))]
def yu.t8:IR:=.reg [.s (.mv (.t (.of 5))),.s (.mv (.t (.of 1))),.s (.len (.s 0)),iQo 10 (.bin .lss .int (.s 2) (.s 0))]
def yu.t9:IR:=.reg [.s (.mv (.t (.of 1))),.s (.mv (.t (.of 5))),.s (.zn 1 (.s 1) (.s 0)),.s (.load (.s 0)),iQo 6 (.mv (.s 0))]
def yu.zse (r:List RO):List RO:=iQo 4 (.mv (.s 1))::r
def yu.r9_3:List RO:=yu.zse []
def yu.zsd (r:List RO):List RO:=.s (.mv (.s 0))::.s (.ext 0 (.s 0))::.s (.ext 1 (.s 1))::.s (.zn 1 (.s 11) (.s 10))::.w .none none (.store 1 (.s 0) (.s 2))::r
def yu.r9_2:List RO:=yu.zsd yu.r9_3
def yu.zsc (r:List RO):List RO:=iCa 301 [(.s 2),(.s 1),(.s 0)]::r
def yu.r9_1:List RO:=yu.zsc yu.r9_2
def yu.zsb (r:List RO):List RO:=.s (.mv (.t (.of 3)))::.s (.mv (.t (.of 5)))::.s (.mv (.t (.of 0)))::.s (.mv (.t (.of 5)))::.s (.zn 1 (.s 1) (.s 0))::.s (.load (.s 0))::.s (.mv (.t (.of 6)))::.s (.mv (.t (.of 4)))::r
def yu.r9_0:List RO:=yu.zsb yu.r9_1
def yu.t12:IR:=.reg yu.r9_0
def yu.t17:IR:=.reg [.s (.bin .add .int (.t (.of 8)) (.c (I 1))),iQo 8 (.mv (.s 0))]
def yu.t20:IR:=.seq yu.t4 (.seq (.cond (.t (.of 9)) .skip (.exit 0)) (.seq (.block 1 (.seq yu.t6 (.seq yu.t7 (.seq (.seq yu.t8 (.cond (.t (.of 10)) yu.t9 .skip)) yu.t12)))) yu.t17))
def yu.t21:IR:=.loop yu.t20
def yu.t24:IR:=.reg [.s (.mv (.t (.of 3))),iCa 289 [(.s 0)],iQo 2 (.mv (.s 0))]
def yu.t29:IR:=.seq yu.t0 (.seq yu.t1 (.seq yu.t2 (.seq (.seq yu.t3 (.block 0 yu.t21)) (.seq yu.t24 .ret))))
def yu.b0:IR:=yu.t29
def yu.res:List RV:=[.t (.of 2)]
def yu:Fn:={ params:=[(.of 0),(.of 1)],res:=yu.res,body:=yu.b0,init:=in11 }
theorem yu.ok:fnA Tryz.prog Tryz.f262 [0,1,4,5,6,7,8,13,14,15,20]=some yu:=by kernel_rfl
abbrev uo.fr:=fr12
def uo.t0:IR:=.reg [iQo 2 (.mv (.c (.int .u64 0))),iQo 3 (.mv (.c (.int .u64 0)))]
def uo.t1:IR:=.reg [.s (.mv (.t (.of 0))),.s (.bin .and .int (.s 0) (.c (.int .u64 4294967295))),iQo 4 (.mv (.s 0))]
def uo.t2:IR:=.reg [.s (.mv (.t (.of 0))),.s (.bin .shr .int (.s 0) (.c (.int .u64 32))),iQo 5 (.mv (.s 0))]
def uo.t3:IR:=.reg [.s (.mv (.t (.of 1))),.s (.bin .and .int (.s 0) (.c (.int .u64 4294967295))),iQo 6 (.mv (.s 0))]
def uo.t4:IR:=.reg [.s (.mv (.t (.of 1))),.s (.bin .shr .int (.s 0) (.c (.int .u64 32))),iQo 7 (.mv (.s 0))]
def uo.t5:IR:=.reg [.s (.mv (.t (.of 4))),.s (.mv (.t (.of 6))),.s (.bin .mul .int (.s 1) (.s 0)),iQo 8 (.mv (.s 0))]
def uo.t6:IR:=.reg [.s (.mv (.t (.of 5))),.s (.mv (.t (.of 6))),.s (.bin .mul .int (.s 1) (.s 0)),.s (.mv (.t (.of 8))),.s (.bin .shr .int (.s 0) (.c (.int .u64 32))),.s (.bin .add .int (.s 2) (.s 0)),iQo 9 (.mv (.s 0))]
def uo.t7:IR:=.reg [.s (.mv (.t (.of 9))),.s (.bin .and .int (.s 0) (.c (.int .u64 4294967295))),iQo 10 (.mv (.s 0))]
def uo.t8:IR:=.reg [.s (.mv (.t (.of 9))),.s (.bin .shr .int (.s 0) (.c (.int .u64 32))),iQo 11 (.mv (.s 0))]
def uo.t9:IR:=.reg [.s (.mv (.t (.of 10))),.s (.mv (.t (.of 4))),.s (.mv (.t (.of 7))),.s (.bin .mul .int (.s 1) (.s 0)),.s (.bin .add .int (.s 3) (.s 0)),iQo 10 (.mv (.s 0))]
def uo.t10:IR:=.reg [.s (.mv (.t (.of 5))),.s (.mv (.t (.of 7))),.s (.bin .mul .int (.s 1) (.s 0)),.s (.mv (.t (.of 11))),.s (.bin .add .int (.s 1) (.s 0)),.s (.mv (.t (.of 10))),.s (.bin .shr .int (.s 0) (.c (.int .u64 32))),.s (.bin .add .int (.s 2) (.s 0)),iQo 2 (.mv (.s 0))]
def uo.t11:IR:=.reg [.s (.mv (.t (.of 0))),.s (.mv (.t (.of 1))),.s (.bin .mul .int (.s 1) (.s 0)),iQo 3 (.mv (.s 0))]
def uo.t23:IR:=.seq uo.t0 (.seq uo.t1 (.seq uo.t2 (.seq uo.t3 (.seq uo.t4 (.seq uo.t5 (.seq uo.t6 (.seq uo.t7 (.seq uo.t8 (.seq uo.t9 (.seq uo.t10 (.seq uo.t11 .ret)))))))))))
def uo.b0:IR:=uo.t23
def uo.res:List RV:=[.t (.of 2),.t (.of 3)]
def uo:Fn:={ params:=[(.of 0),(.of 1)],res:=uo.res,body:=uo.b0,init:=in12 }
theorem uo.ok:fnA Tryz.prog Tryz.f263 [0,1,4,5,6,7,8,9,10,11,12,13]=some uo:=by kernel_rfl
abbrev bC.fr:=fr3
def bC.t0:IR:=.reg [iQo 1 (.mv (.c (.int .u64 0)))]
def bC.t1:IR:=.reg [.s (.mv (.t (.of 0))),iQo 2 (.bin .lss .int (.s 0) (.c (I 0)))]
def bC.t2:IR:=.reg [.s (.mv (.t (.of 0))),.s (.neg (.s 0)),.s (.conv .u64 (.s 0)),iQo 1 (.mv (.s 0))]
def bC.t6:IR:=.reg [.s (.mv (.t (.of 0))),.s (.conv .u64 (.s 0)),iQo 1 (.mv (.s 0))]
def bC.t9:IR:=.seq bC.t0 (.seq (.seq bC.t1 (.cond (.t (.of 2)) (.seq bC.t2 .ret) .skip)) (.seq bC.t6 .ret))
def bC.b0:IR:=bC.t9
def bC.res:List RV:=[.t (.of 1)]
def bC:Fn:={ params:=[(.of 0)],res:=bC.res,body:=bC.b0,init:=in3 }
theorem bC.ok:fnA Tryz.prog Tryz.f264 [0,2,4]=some bC:=by kernel_rfl
abbrev zx.fr:=fr20
def zx.t0:IR:=.reg [iQo 2 (.mv (.c .zf))]
def zx.t1:IR:=.reg [.s (.mv (.t (.of 0))),.s (.len (.s 0)),.s (.mv (.t (.of 1))),.s (.len (.s 0)),.s (.bin .add .int (.s 2) (.s 0)),.w .push none (.fB 1 8 [(.int .u64 0)] (.s 0) (.s 0)),iQo 3 (.mv (.s 0))]
def zx.t2:IR:=.reg [iQo 12 (.mv (.t (.of 0))),iQo 13 (.len (.t (.of 12))),iQo 14 (.mv (.c (I 0)))]
def zx.t3:IR:=.reg [iQo 15 (.bin .lss .int (.t (.of 14)) (.t (.of 13)))]
def zx.t5:IR:=.reg [.s (.mv (.t (.of 14))),.s (.zn 1 (.t (.of 12)) (.t (.of 14))),.s (.load (.s 0)),iQo 4 (.mv (.s 2)),iQo 5 (.mv (.s 0))]
def zx.t6:IR:=.reg [iQo 6 (.mv (.c (.int .u64 0)))]
def zx.t7:IR:=.reg [iQo 16 (.mv (.t (.of 1))),iQo 17 (.len (.t (.of 16))),iQo 18 (.mv (.c (I 0)))]
def zx.t8:IR:=.reg [iQo 19 (.bin .lss .int (.t (.of 18)) (.t (.of 17)))]
def zx.t10:IR:=.reg [.s (.mv (.t (.of 18))),.s (.zn 1 (.t (.of 16)) (.t (.of 18))),.s (.load (.s 0)),iQo 7 (.mv (.s 2)),iQo 8 (.mv (.s 0))]
def zx.t11:IR:=.reg [.s (.mv (.t (.of 5))),.s (.mv (.t (.of 8))),iCa 263 [(.s 1),(.s 0)],.s (.mv (.s 0)),.s (.ext 0 (.s 0)),.s (.ext 1 (.s 1)),iQo 9 (.mv (.s 1)),iQo 10 (.mv (.s 0))]
def zx.t12:IR:=.reg [iQo 11 (.mv (.c (.int .u64 0)))]
def zx.aV (r:List RO):List RO:=.s (.mv (.s 0))::.s (.ext 0 (.s 0))::.s (.ext 1 (.s 1))::iQo 10 (.mv (.s 1))::iQo 11 (.mv (.s 0))::r
def zx.zaj:List RO:=zx.aV []
def zx.aU (r:List RO):List RO:=.s (.mv (.t (.of 10)))::.s (.mv (.t (.of 3)))::.s (.mv (.t (.of 4)))::.s (.mv (.t (.of 7)))::.s (.bin .add .int (.s 1) (.s 0))::.s (.zn 1 (.s 3) (.s 0))::.s (.load (.s 0))::iCa 300 [(.s 6),(.s 0),(.c (.int .u64 0))]::r
def zx.aJ:List RO:=zx.aU zx.zaj
def zx.t13:IR:=.reg zx.aJ
def zx.t14:IR:=.reg [.s (.mv (.t (.of 9))),.s (.mv (.t (.of 11))),.s (.bin .add .int (.s 1) (.s 0)),iQo 9 (.mv (.s 0))]
def zx.t15:IR:=.reg [.s (.mv (.t (.of 10))),.s (.mv (.t (.of 6))),iCa 300 [(.s 1),(.s 0),(.c (.int .u64 0))],.s (.mv (.s 0)),.s (.ext 0 (.s 0)),.s (.ext 1 (.s 1)),iQo 10 (.mv (.s 1)),iQo 11 (.mv (.s 0))]
def zx.t16:IR:=.reg [.s (.mv (.t (.of 3))),.s (.mv (.t (.of 4))),.s (.mv (.t (.of 7))),.s (.bin .add .int (.s 1) (.s 0)),.s (.mv (.t (.of 10))),.s (.mv (.t (.of 9))),.s (.mv (.t (.of 11))),.s (.bin .add .int (.s 1) (.s 0)),.s (.zn 1 (.s 7) (.s 4)),.w .none none (.store 1 (.s 0) (.s 4)),iQo 6 (.mv (.s 1))]
def zx.t24:IR:=.reg [.s (.bin .add .int (.t (.of 18)) (.c (I 1))),iQo 18 (.mv (.s 0))]
def zx.t27:IR:=.seq zx.t8 (.seq (.cond (.t (.of 19)) .skip (.exit 2)) (.seq (.block 3 (.seq zx.t10 (.seq zx.t11 (.seq zx.t12 (.seq zx.t13 (.seq zx.t14 (.seq zx.t15 zx.t16))))))) zx.t24))
def zx.t28:IR:=.loop zx.t27
def zx.t31:IR:=.reg [.s (.mv (.t (.of 3))),.s (.mv (.t (.of 4))),.s (.mv (.t (.of 1))),.s (.len (.s 0)),.s (.bin .add .int (.s 2) (.s 0)),.s (.mv (.t (.of 6))),.s (.zn 1 (.s 5) (.s 1)),.w .none none (.store 1 (.s 0) (.s 1))]
def zx.t36:IR:=.reg [.s (.bin .add .int (.t (.of 14)) (.c (I 1))),iQo 14 (.mv (.s 0))]
def zx.t39:IR:=.seq zx.t3 (.seq (.cond (.t (.of 15)) .skip (.exit 0)) (.seq (.block 1 (.seq zx.t5 (.seq zx.t6 (.seq (.seq zx.t7 (.block 2 zx.t28)) zx.t31)))) zx.t36))
def zx.t40:IR:=.loop zx.t39
def zx.t43:IR:=.reg [.s (.mv (.t (.of 3))),iCa 289 [(.s 0)],iQo 2 (.mv (.s 0))]
def zx.t47:IR:=.seq zx.t0 (.seq zx.t1 (.seq (.seq zx.t2 (.block 0 zx.t40)) (.seq zx.t43 .ret)))
def zx.b0:IR:=zx.t47
def zx.res:List RV:=[.t (.of 2)]
def zx:Fn:={ params:=[(.of 0),(.of 1)],res:=zx.res,body:=zx.b0,init:=in20 }
theorem zx.ok:fnA Tryz.prog Tryz.f265 [0,1,4,5,6,7,8,9,10,11,12,13,20,21,22,23,27,28,29,30]=some zx:=by kernel_rfl
abbrev fM.fr:=fr5
def fM.t0:IR:=.reg [iWl 2 (.box (.t (.of 0))),iWl 3 (.box (.t (.of 1))),iWl 4 (.alloc [(I 0),.zf])]
def fM.t1:IR:=.jh [] [(.s (.zi 2 (.t (.of 2))),1,[]),(.s (.zi 2 (.t (.of 3))),0,[]),(iCa 193 [(.s 0)],0,[]),(iCa 197 [(.s 2),(.s 0)],0,[]),(.w .none none (.store 2 (.t (.of 4)) (.s 0)),0,[])]
def fM.t3:IR:=.seq fM.t0 (.seq fM.t1 .ret)
def fM.b0:IR:=fM.t3
def fM.res:List RV:=[.cell (.of 4) (some 2)]
def fM:Fn:={ params:=[(.of 0),(.of 1)],res:=fM.res,body:=fM.b0,init:=in5 }
theorem fM.ok:fnA Tryz.prog Tryz.f266 [0,1,2,3,4]=some fM:=by kernel_rfl
abbrev uj.fr:=fr9
def uj.t0:IR:=.reg [iQo 2 (.mv (.c .zf)),iQo 3 (.mv (.c (I 0)))]
def uj.t1:IR:=.reg [.s (.mv (.t (.of 0))),.s (.len (.s 0)),.w .push none (.fB 1 8 [(I 0)] (.s 0) (.s 0)),iQo 4 (.mv (.s 0))]
def uj.t2:IR:=.reg [iQo 5 (.mv (.c (I 0)))]
def uj.t3:IR:=.reg [.s (.mv (.t (.of 0))),.s (.len (.s 0)),.s (.bin .sub .int (.s 0) (.c (I 1))),iQo 6 (.mv (.s 0))]
def uj.t4:IR:=.reg [.s (.mv (.t (.of 6))),iQo 8 (.bin .geq .int (.s 0) (.c (I 0)))]
def uj.t7:IR:=.reg [.s (.mv (.t (.of 5))),.s (.bin .mul .int (.s 0) (.c (I 1000000000))),.s (.mv (.t (.of 0))),.s (.mv (.t (.of 6))),.s (.zn 1 (.s 1) (.s 0)),.s (.load (.s 0)),.s (.bin .add .int (.s 4) (.s 0)),iQo 7 (.mv (.s 0))]
def uj.t8:IR:=.reg [.s (.mv (.t (.of 4))),.s (.mv (.t (.of 6))),.s (.mv (.t (.of 7))),.s (.mv (.t (.of 1))),.s (.bin .quo .int (.s 1) (.s 0)),.s (.zn 1 (.s 4) (.s 3)),.w .none none (.store 1 (.s 0) (.s 1))]
def uj.t9:IR:=.reg [.s (.mv (.t (.of 7))),.s (.mv (.t (.of 1))),.s (.bin .rem .int (.s 1) (.s 0)),iQo 5 (.mv (.s 0))]
def uj.t13:IR:=.reg [.s (.mv (.t (.of 6))),.s (.bin .sub .int (.s 0) (.c (I 1))),iQo 6 (.mv (.s 0))]
def uj.t15:IR:=.seq (.seq uj.t4 (.cond (.t (.of 8)) .skip (.exit 0))) (.seq (.block 1 (.seq uj.t7 (.seq uj.t8 uj.t9))) uj.t13)
def uj.t16:IR:=.loop uj.t15
def uj.t19:IR:=.reg [.s (.mv (.t (.of 4))),iCa 269 [(.s 0)],.s (.mv (.t (.of 5))),iQo 2 (.mv (.s 1)),iQo 3 (.mv (.s 0))]
def uj.t24:IR:=.seq uj.t0 (.seq uj.t1 (.seq uj.t2 (.seq (.seq uj.t3 (.block 0 uj.t16)) (.seq uj.t19 .ret))))
def uj.b0:IR:=uj.t24
def uj.res:List RV:=[.t (.of 2),.t (.of 3)]
def uj:Fn:={ params:=[(.of 0),(.of 1)],res:=uj.res,body:=uj.b0,init:=in9 }
theorem uj.ok:fnA Tryz.prog Tryz.f268 [0,1,4,5,6,7,8,9,17]=some uj:=by kernel_rfl
abbrev qg.fr:=fr3
def qg.t0:IR:=.reg [iQo 1 (.mv (.c .zf))]
def qg.tV (r:List RO):List RO:=.p .push (some ((.s 4),true)) (.zn 1 (.s 3) (.s 0))::.p .push (some ((.s 5),true)) (.load (.s 0))::.p .push (some ((.s 6),true)) (.bin .eql .int (.s 0) (.c (I 0)))::iQo 2 (.pick (.s 7) (.s 0) (.c (.bool false)))::r
def qg.rU:List RO:=qg.tV []
def qg.tN (r:List RO):List RO:=.s (.mv (.t (.of 0)))::.s (.len (.s 0))::.s (.bin .gtr .int (.s 0) (.c (I 0)))::.s (.mv (.s 0))::.p .push (some ((.s 0),true)) (.mv (.t (.of 0)))::.p .push (some ((.s 1),true)) (.mv (.t (.of 0)))::.p .push (some ((.s 2),true)) (.len (.s 0))::.p .push (some ((.s 3),true)) (.bin .sub .int (.s 0) (.c (I 1)))::r
def qg.aA:List RO:=qg.tN qg.rU
def qg.t1:IR:=.reg qg.aA
def qg.t4:IR:=.reg [.s (.mv (.t (.of 0))),.s (.mv (.t (.of 0))),.s (.len (.s 0)),.s (.bin .sub .int (.s 0) (.c (I 1))),.s (.slice 1 (.s 3) none (some (.s 0)) none),iQo 0 (.mv (.s 0))]
def qg.t6:IR:=.seq (.seq qg.t1 (.cond (.t (.of 2)) .skip (.exit 0))) (.block 1 qg.t4)
def qg.t7:IR:=.loop qg.t6
def qg.t9:IR:=.reg [.s (.mv (.t (.of 0))),iQo 1 (.mv (.s 0))]
def qg.t12:IR:=.seq qg.t0 (.seq (.block 0 qg.t7) (.seq qg.t9 .ret))
def qg.b0:IR:=qg.t12
def qg.res:List RV:=[.t (.of 1)]
def qg:Fn:={ params:=[(.of 0)],res:=qg.res,body:=qg.b0,init:=in3 }
theorem qg.ok:fnA Tryz.prog Tryz.f269 [0,2,14]=some qg:=by kernel_rfl
abbrev bD.fr:=fr4
def bD.t0:IR:=.reg [iQo 2 (.mv (.c (I 0)))]
def bD.t1:IR:=.reg [.s (.mv (.t (.of 1))),.s (.mv (.t (.of 0))),.s (.len (.s 0)),iQo 3 (.bin .lss .int (.s 2) (.s 0))]
def bD.t2:IR:=.reg [.s (.mv (.t (.of 0))),.s (.mv (.t (.of 1))),.s (.zn 1 (.s 1) (.s 0)),.s (.load (.s 0)),iQo 2 (.mv (.s 0))]
def bD.t6:IR:=.reg [iQo 2 (.mv (.c (I 0)))]
def bD.t9:IR:=.seq bD.t0 (.seq (.seq bD.t1 (.cond (.t (.of 3)) (.seq bD.t2 .ret) .skip)) (.seq bD.t6 .ret))
def bD.b0:IR:=bD.t9
def bD.res:List RV:=[.t (.of 2)]
def bD:Fn:={ params:=[(.of 0),(.of 1)],res:=bD.res,body:=bD.b0,init:=in4 }
theorem bD.ok:fnA Tryz.prog Tryz.f271 [0,1,4,8]=some bD:=by kernel_rfl
abbrev mZ.fr:=fr8
def mZ.b3:IR:=(iSr [iQo 6 (.bin .lss .int aT5 aT4)] (.seq (.cond aT6 .skip (.exit 0)) (.seq (.block 1 (iSr [iSm 5,iQm 3 0] (iSr [iSm 1,iSm 3,.w .push none (.call aS1 [aS0]),iSm 1,.w .push none (.call aS0 [aC0]),iQo 7 (.bin .neq .int aS2 aS0)] (.cond aT7 (iSr [iQo 2 (.mv (.c (.bool false)))] .ret) .skip)))) (.reg [.s (.bin .add .int aT5 aC1),iQm 5 0]))))
def mZ.b2:IR:=(.loop mZ.b3)
def mZ.g1 (X2:IR):IR:=(.block 0 X2)
def mZ.b1:IR:=mZ.g1 mZ.b2
def mZ.b8:IR:=(iSr [iQo 2 (.mv (.c (.bool true)))] .ret)
def mZ.b0:IR:=(iSr [iQo 2 (.mv (.c (.bool false)))] (.seq (iSr [iQo 4 (.mv aT0),iQo 5 (.mv aC0)] mZ.b1) mZ.b8))
def mZ.res:List RV:=[.t (.of 2)]
def mZ:Fn:={ params:=[(.of 0),(.of 1)],res:=mZ.res,body:=mZ.b0,init:=in8 }
theorem mZ.ok:fnA Tryz.prog Tryz.f272 [0,1,4,5,6,7,8,15]=some mZ:=by kernel_rfl
abbrev F273.fr:=fr3
def F273.b0:IR:=(iSr [iQo 2 (.mv aC0)] (.seq (.jh [] [(.s (.zk 1 aT1),0,[]),(.s (.load aS0),0,[]),(iSm 0,0,[]),(.s (.zn 1 aS1 aS0),0,[]),(.s (.load aS0),0,[]),(.s (.zk 1 aT1),0,[]),(.s (.load aS0),0,[]),(.s (.zk 1 aT1),0,[]),(.s (.load aS0),0,[]),(.s (.len aS0),0,[]),(.s (.bin .sub .int aS0 aC1),0,[]),(iSm 0,0,[]),(.s (.bin .sub .int aS1 aS0),0,[]),(.s (.zn 1 aS6 aS0),0,[]),(.s (.load aS0),0,[]),(.s (.bin .add .int oD aS0),0,[]),(iQm 2 0,0,[])]) .ret))
def F273.res:List RV:=[.t (.of 2)]
def F273:Fn:={ params:=[(.of 0),(.of 1)],res:=F273.res,body:=F273.b0,init:=in3 }
theorem F273.ok:fnA Tryz.prog Tryz.f273 [0,1,3]=some F273:=by kernel_rfl
abbrev F274.fr:=fr4
def F274.b0:IR:=(iSr [iQo 3 (.mv aC0)] (.seq (.jh [] [(.s (.zk 1 aT2),0,[]),(.s (.load aS0),0,[]),(iSm 0,0,[]),(.s (.zk 0 aT2),0,[]),(.s (.load aS0),0,[]),(.s (.bin .rem .int aS2 aS0),0,[]),(.s (.zk 0 aT2),0,[]),(.s (.load aS0),0,[]),(.s (.bin .mul .int aS2 aS0),0,[]),(iSm 1,0,[]),(.s (.zk 0 aT2),0,[]),(.s (.load aS0),0,[]),(.s (.bin .rem .int aS2 aS0),0,[]),(.s (.bin .add .int aS4 aS0),0,[]),(.s (.zn 1 aS12 aS0),0,[]),(.s (.load aS0),0,[]),(iQm 3 0,0,[])]) .ret))
def F274.res:List RV:=[.t (.of 3)]
def F274:Fn:={ params:=[(.of 0),(.of 1),(.of 2)],res:=F274.res,body:=F274.b0,init:=in4 }
theorem F274.ok:fnA Tryz.prog Tryz.f274 [0,1,2,5]=some F274:=by kernel_rfl
abbrev F275.fr:=fr6
def F275.b0:IR:=(iSr [iQo 3 (.mv aC0)] (.seq (.jh [] [(iSm 0,0,[]),(.s (.zk 0 aT1),0,[]),(.s (.load aS0),0,[]),(.s (.bin .quo .int aS2 aS0),0,[]),(iSm 0,0,[]),(.s (.zk 0 aT1),0,[]),(.s (.load aS0),0,[]),(.s (.bin .rem .int aS2 aS0),0,[]),(iQm 4 4,0,[]),(iQm 5 0,0,[])]) (.seq (.jh [] [(.s (.load aT2),0,[]),(iSm 4,0,[]),(iSm 5,0,[]),(.s (.load aT2),1,[]),(iSm 4,1,[]),(iSm 5,1,[]),(.s (.bin .add .int aS0 aC1),1,[]),(.s (.load aT2),2,[]),(iSm 4,2,[]),(.s (.bin .add .int aS0 aC1),2,[]),(iSm 5,2,[]),(.s (.load aT2),3,[]),(iSm 4,3,[]),(.s (.bin .add .int aS0 aC1),3,[]),(iSm 5,3,[]),(.s (.bin .add .int aS0 aC1),3,[]),(.w .push none (.call aS15 [aS14,aS13]),0,[]),(.w .push none (.call aS13 [aS12,oD]),0,[]),(.s (.bin .add .int aS1 aS0),2,[]),(.w .push none (.call aS11 [aS9,aS8]),0,[]),(.s (.bin .add .int aS1 aS0),1,[]),(.w .push none (.call aS9 [aS7,aS5]),0,[]),(.s (.bin .add .int aS1 aS0),0,[]),(iQm 3 0,0,[])]) .ret)))
def F275.res:List RV:=[.t (.of 3)]
def F275:Fn:={ params:=[(.of 0),(.of 1),(.of 2)],res:=F275.res,body:=F275.b0,init:=in6 }
theorem F275.ok:fnA Tryz.prog Tryz.f275 [0,1,2,4,5,6]=some F275:=by kernel_rfl
abbrev F276.fr:=fr6
def F276.b0:IR:=(iSr [iQo 3 (.mv aC0)] (.seq (.jh [] [(iSm 0,0,[]),(.s (.zk 0 aT1),0,[]),(.s (.load aS0),0,[]),(.s (.bin .quo .int aS2 aS0),0,[]),(iSm 0,0,[]),(.s (.zk 0 aT1),0,[]),(.s (.load aS0),0,[]),(.s (.bin .rem .int aS2 aS0),0,[]),(iQm 4 4,0,[]),(iQm 5 0,0,[])]) (.seq (.jh [] [(.s (.load aT2),0,[]),(iSm 4,0,[]),(iSm 5,0,[]),(.s (.load aT2),1,[]),(iSm 4,1,[]),(.s (.zk 0 aT1),1,[]),(.s (.load aS0),1,[]),(.s (.bin .quo .int aS0 aC2),1,[]),(.s (.bin .add .int aS3 aS0),1,[]),(iSm 5,1,[]),(.s (.zk 0 aT1),1,[]),(.s (.load aS0),1,[]),(.s (.bin .quo .int aS0 aC2),1,[]),(.s (.bin .add .int aS3 aS0),1,[]),(.w .push none (.call aS13 [aS12,aS11]),0,[]),(.w .push none (.call aS11 [aS6,aS1]),0,[]),(.s (.bin .add .int aS1 aS0),0,[]),(iQm 3 0,0,[])]) .ret)))
def F276.res:List RV:=[.t (.of 3)]
def F276:Fn:={ params:=[(.of 0),(.of 1),(.of 2)],res:=F276.res,body:=F276.b0,init:=in6 }
theorem F276.ok:fnA Tryz.prog Tryz.f276 [0,1,2,4,5,6]=some F276:=by kernel_rfl
abbrev bg.fr:=fr6
def bg.b3:IR:=(.seq (iSr [iSm 4,.s (.bin .add .int aS0 aC1),.s (.zk 0 aT1),.s (.load aS0),iQo 5 (.bin .lss .int aS2 aS0)] (.cond aT5 .skip (.exit 0))) (.seq (.block 1 (.jh [] [(.s (.zk 1 aT3),0,[]),(.s (.load aS0),0,[]),(.s (.zk 1 aT1),0,[]),(.s (.load aS0),0,[]),(iSm 4,0,[]),(.s (.zk 0 aT1),0,[]),(.s (.load aS0),0,[]),(.s (.bin .mul .int aS2 aS0),0,[]),(.s (.bin .add .int aS0 aC1),0,[]),(iSm 4,0,[]),(.s (.zk 0 aT1),0,[]),(.s (.load aS0),0,[]),(.s (.bin .mul .int aS2 aS0),0,[]),(.s (.zk 0 aT1),0,[]),(.s (.load aS0),0,[]),(.s (.bin .add .int aS2 aS0),0,[]),(.s (.bin .sub .int aS0 aC1),0,[]),(iSm 4,0,[]),(.s (.zk 0 aT1),0,[]),(.s (.load aS0),0,[]),(.s (.bin .mul .int aS2 aS0),0,[]),(.s (.zk 0 aT1),0,[]),(.s (.load aS0),0,[]),(.s (.bin .add .int aS2 aS0),0,[]),(.s (.bin .sub .int aS0 aC1),0,[]),(.s (.slice 1 aS21 (some aS16) (some aS8) (some aS0)),0,[]),(.w .push none (.app 1 8 aS24 aS0),0,[]),(.s (.zk 1 aT3),0,[]),(.w .none none (.store 1 aS0 aS1),0,[])])) (.reg [iSm 4,.s (.bin .add .int aS0 aC1),iQm 4 0])))
def bg.b2:IR:=(.loop bg.b3)
def bg.g1 (X2:IR):IR:=(.block 0 X2)
def bg.b1:IR:=bg.g1 bg.b2
def bg.b8:IR:=(iSr [.s (.zi 2 aT3),.w .none none (.store 2 aT2 aS0)] .ret)
def bg.b0:IR:=(iSr [iWl 1 (.box aT0),iWl 2 (.alloc [(I 0),.zf])] (iSr [.s (.zk 0 aT1),.s (.load aS0),.s (.bin .sub .int aS0 aC2),.s (.build [(I 0),.zf] [(0,1,aS0)]),iWl 3 (.alloc [(I 0),.zf]),.w .none none (.store 2 aT3 aS0)] (.seq (iSr [iQo 4 (.mv aC1)] bg.b1) bg.b8)))
def bg.res:List RV:=[.cell (.of 2) (some 2)]
def bg:Fn:={ params:=[(.of 0)],res:=bg.res,body:=bg.b0,init:=in6 }
theorem bg.ok:fnA Tryz.prog Tryz.f277 [0,1,2,3,4,13]=some bg:=by kernel_rfl
abbrev F278.fr:=fr5
def F278.b0:IR:=(iSr [iQo 2 (.mv (.c .zf))] (.seq (iSr [iSm 1,iQo 3 (.bin .lss .int aS0 aC0)] (.cond aT3 (.bad 2) .skip)) (.seq (iSr [iSm 1,iSm 0,.s (.capz aS0),iSm 0,.s (.len aS0),.s (.bin .sub .int aS2 aS0),.s (.bin .sub .int aS5 aS0),iQm 1 0] (iSr [iSm 1,iQo 4 (.bin .gtr .int aS0 aC0)] (.cond aT4 (.reg [iSm 0,iSm 0,.s (.capz aS0),.s (.slice 1 aS2 none (some aS0) none),iSm 1,.w .push none (.appm 1 24 [.zf] aS1 aS0),iSm 0,.s (.len aS0),.s (.slice 1 aS2 none (some aS0) none),iQm 0 0]) .skip))) (iSr [iSm 0,iQm 2 0] .ret))))
def F278.res:List RV:=[.t (.of 2)]
def F278:Fn:={ params:=[(.of 0),(.of 1)],res:=F278.res,body:=F278.b0,init:=in5 }
theorem F278.ok:fnA Tryz.prog Tryz.f278 [0,1,4,6,16]=some F278:=by kernel_rfl
abbrev F279.fr:=fr8
def F279.b0:IR:=(iSr [iQo 4 (.load aT1),iQo 5 (.mv aC0)] (.block 0 (.loop (iSr [iQo 6 (.bin .lss .int aT5 aT4)] (.seq (.cond aT6 .skip (.exit 0)) (.seq (.block 1 (iSr [iSm 5,iWl 3 (.alloc [(I 0)]),.w .none none (.store 1 aT3 aS0)] (.seq (.jh [] [(iSm 0,1,[]),(.s (.load aT3),1,[]),(.s (.load aT1),0,[]),(.s (.fn 280 (.of 280) [aT1,aT3,aT2]),0,[]),(iCa 137 [aS1,aS0],0,[]),(.w .push none (.call aS4 [aS3,aS0]),0,[]),(iQo 7 (.not aS0),0,[])]) (.cond aT7 .ret .skip)))) (.reg [.s (.bin .add .int aT5 aC1),iQm 5 0])))))))
def F279.res:List RV:=[]
def F279:Fn:={ params:=[(.of 0),(.of 1),(.of 2)],res:=F279.res,body:=F279.b0,init:=in8 }
theorem F279.ok:fnA Tryz.prog Tryz.f279 [0,1,2,4,5,6,7,15]=some F279:=by kernel_rfl
abbrev F280.fr:=fr5
def F280.b0:IR:=(iSr [iQo 4 (.mv aC0)] (.seq (.jh [] [(.s (.load aT1),0,[]),(iSm 0,0,[]),(.s (.bin .mul .int aS1 aS0),0,[]),(.s (.load aT2),0,[]),(.s (.load aT3),0,[]),(iSm 0,0,[]),(.s (.bin .mul .int aS1 aS0),0,[]),(.s (.bin .add .int aS3 aS0),0,[]),(.s (.load aT1),0,[]),(.s (.bin .rem .int aS1 aS0),0,[]),(.s (.load aT1),0,[]),(.s (.bin .add .int aS1 aS0),0,[]),(.s (.load aT1),0,[]),(.s (.bin .rem .int aS1 aS0),0,[]),(.s (.bin .add .int aS11 aS0),0,[]),(iQm 4 0,0,[])]) .ret))
def F280.res:List RV:=[.t (.of 4)]
def F280:Fn:={ params:=[(.of 0),(.of 1),(.of 2),(.of 3)],res:=F280.res,body:=F280.b0,init:=in5 }
theorem F280.ok:fnA Tryz.prog Tryz.f280 [0,1,2,3,5]=some F280:=by kernel_rfl
abbrev bI.fr:=fr7
def bI.b3:IR:=(.reg [iQo 4 (.mv aT6)])
def bI.b4:IR:=(.block 1 (.reg [.s (.load aT2),iSm 4,.w .push none (.yg 1 1 [(I 0)] [(0,1,aS0)]),.w .push none (.app 1 8 aS2 aS0),.w .none none (.store 1 aT2 aS0)]))
def bI.b6:IR:=(iSr [.s (.load aT2),iQm 3 0] .ret)
def bI.b0:IR:=(iSr [iWl 2 (.box aT0),iQo 3 (.mv (.c .zf))] (.seq (iSr [iQo 5 (.mv aT1)] (.block 0 (.rf aT5 [(.of 6)] bI.b3 bI.b4))) bI.b6))
def bI.res:List RV:=[.t (.of 3)]
def bI:Fn:={ params:=[(.of 0),(.of 1)],res:=bI.res,body:=bI.b0,init:=in7 }
theorem bI.ok:fnA Tryz.prog Tryz.f282 [0,1,2,4,5,6,7]=some bI:=by kernel_rfl
abbrev F283.fr:=fr23
def F283.b0:IR:=(iSr [iQo 4 (.mv (.c (.bool true)))] (iSr [iQo 5 (.mv (.c (.bool true)))] (.block 0 (.loop (.block 1 (iSr [iSm 2,iSm 1,.s (.bin .sub .int aS1 aS0),iQm 6 0] (.seq (iSr [iSm 6,iQo 15 (.bin .leq .int aS0 aC12)] (.cond aT15 (iSr [iSm 0,iSm 1,iSm 2,iCa 302 [aS2,aS1,aS0]] .ret) .skip)) (.seq (iSr [iSm 3,iQo 16 (.bin .eql .int aS0 aC0)] (.cond aT16 (iSr [iSm 0,iSm 1,iSm 2,iCa 303 [aS2,aS1,aS0]] .ret) .skip)) (.seq (iSr [iSm 4,iQo 17 (.not aS0)] (.cond aT17 (iSr [iSm 0,iSm 1,iSm 2,iCa 304 [aS2,aS1,aS0]] (.reg [iSm 3,.s (.bin .sub .int aS0 aC1),iQm 3 0])) .skip)) (iSr [iSm 0,iSm 1,iSm 2,iCa 305 [aS2,aS1,aS0],.s (.mv aS0),.s (.ext 0 aS0),.s (.ext 1 aS1),iQm 7 1,iQm 8 0] (.seq (iSr [iSm 8,iQo 18 (.bin .eql .int aS0 aC2)] (.cond aT18 (iSr [iSm 0,iSm 1,iSm 2,iCa 306 [aS2,aS1,aS0]] (iSr [iSm 2,.s (.bin .sub .int aS0 aC1),iSm 7,iSm 1,.s (.bin .sub .int aS1 aS0),.s (.bin .sub .int aS3 aS0),iQm 7 0] (.reg [iQo 8 (.mv aC1)]))) .skip)) (.seq (iSr [iSm 4,.s (.mv aS0),iPt 0 (.mv aT5),.s (.pick aS1 aS0 (.c (.bool false))),.s (.mv aS0),iPt 0 (.mv aT8),iPt 1 (.bin .eql .int aS0 aC1),iQo 19 (.pick aS2 aS0 (.c (.bool false)))] (.cond aT19 (iSr [iSm 0,iSm 1,iSm 2,iWl 20 (.call (.c (.fn 307 (.of 307) [])) [aS2,aS1,aS0])] (.cond aT20 .ret .skip)) .skip)) (.seq (.seq (.jh [] [(iSm 1,0,[]),(.s (.bin .gtr .int aS0 aC0),0,[]),(.s (.mv aS0),0,[]),(iPt 0 (.mv aT0),0,[]),(iPt 1 (.mv aT1),0,[]),(iPt 2 (.bin .sub .int aS0 aC1),0,[]),(iPt 3 (.zn 1 aS2 aS0),0,[]),(iPt 4 (.load aS0),0,[]),(iPt 5 (.mv aT0),0,[]),(iPt 6 (.mv aT7),0,[]),(iPt 7 (.zn 1 aS1 aS0),0,[]),(iPt 8 (.load aS0),0,[]),(.w .push (some (aS9,true)) (.call (.c (.fn 308 (.of 308) [])) [aS4,aS0]),0,[]),(iPt 10 (.not aS0),0,[]),(iQo 21 (.pick aS11 aS0 (.c (.bool false))),0,[])]) (.cond aT21 (iSr [iSm 0,iSm 1,iSm 2,iSm 7,iCa 309 [aS3,aS2,aS1,aS0],iQm 9 0] (iSr [iSm 9,iQm 1 0] (.exit 1))) .skip)) (iSr [iSm 0,iSm 1,iSm 2,iSm 7,iCa 310 [aS3,aS2,aS1,aS0],.s (.mv aS0),.s (.ext 0 aS0),.s (.ext 1 aS1),iQm 10 1,iQm 11 0] (iSr [iSm 11,iQm 5 0] (iSr [iSm 10,iSm 1,.s (.bin .sub .int aS1 aS0),iSm 2,iSm 10,.s (.bin .sub .int aS1 aS0),iQm 12 3,iQm 13 0] (iSr [iSm 6,.s (.bin .quo .int aS0 aC8),iQm 14 0] (iSr [iSm 12,iSm 13,iQo 22 (.bin .lss .int aS1 aS0)] (.cond aT22 (iSr [iSm 12,iSm 14,.s (.bin .geq .int aS1 aS0),iQm 4 0] (iSr [iSm 0,iSm 1,iSm 10,iSm 3,iCa 283 [aS3,aS2,aS1,aS0]] (.reg [iSm 10,.s (.bin .add .int aS0 aC1),iQm 1 0]))) (iSr [iSm 13,iSm 14,.s (.bin .geq .int aS1 aS0),iQm 4 0] (iSr [iSm 0,iSm 10,.s (.bin .add .int aS0 aC1),iSm 2,iSm 3,iCa 283 [aS4,aS2,aS1,aS0]] (.reg [iSm 10,iQm 2 0]))))))))))))))))))))))
def F283.res:List RV:=[]
def F283:Fn:={ params:=[(.of 0),(.of 1),(.of 2),(.of 3)],res:=F283.res,body:=F283.b0,init:=in23 }
theorem F283.ok:fnA Tryz.prog Tryz.f283 [0,1,2,3,8,9,10,11,12,13,14,15,16,17,18,23,29,35,50,68,72,87,113]=some F283:=by kernel_rfl
abbrev F284.fr:=fr2
def F284.b0:IR:=(iSr [iQo 1 (.mv aC0)] (.seq (.cond (.c (.bool false)) (iSr [iSm 0,.s (.conv .u32 aS0),iCa 311 [aS0],iQm 1 0] .ret) .skip) (iSr [iSm 0,iCa 312 [aS0],iQm 1 0] .ret)))
def F284.res:List RV:=[.t (.of 1)]
def F284:Fn:={ params:=[(.of 0)],res:=F284.res,body:=F284.b0,init:=in2 }
theorem F284.ok:fnA Tryz.prog Tryz.f284 [0,2]=some F284:=by kernel_rfl
abbrev F285.fr:=fr5
def F285.b0:IR:=(iSr [iWl 1 (.box aT0),iQo 2 (.mv aC0)] (iSr [.s (.zi 2 aT1),iCa 249 [aS0],.s (.mv aS0),.s (.ext 0 aS0),.s (.ext 1 aS1),.s (.mv aS1),iQm 3 1] (.seq (iSr [iSm 3,.s (.len aS0),iQo 4 (.bin .eql .int aS0 aC0)] (.cond aT4 (iSr [iQo 2 (.mv aC0)] .ret) .skip)) (iSr [iSm 3,.s (.len aS0),.s (.bin .sub .int aS0 aC1),.s (.bin .mul .int aC64 aS0),iSm 3,iSm 3,.s (.len aS0),.s (.bin .sub .int aS0 aC1),.s (.zn 1 aS3 aS0),.s (.load aS0),iCa 312 [aS0],.s (.bin .add .int aS7 aS0),iQm 2 0] .ret))))
def F285.res:List RV:=[.t (.of 2)]
def F285:Fn:={ params:=[(.of 0)],res:=F285.res,body:=F285.b0,init:=in5 }
theorem F285.ok:fnA Tryz.prog Tryz.f285 [0,1,2,4,12]=some F285:=by kernel_rfl
abbrev F286.fr:=fr3
def F286.b0:IR:=(iSr [iQo 2 (.mv (.c (.str [])))] (iSr [iSm 0,iSm 1,iCa 313 [aS1,aS0],iQm 2 0] .ret))
def F286.res:List RV:=[.t (.of 2)]
def F286:Fn:={ params:=[(.of 0),(.of 1)],res:=F286.res,body:=F286.b0,init:=in3 }
theorem F286.ok:fnA Tryz.prog Tryz.f286 [0,1,4]=some F286:=by kernel_rfl
abbrev F287.fr:=fr2
def F287.b0:IR:=(iSr [iQo 1 (.mv (.c (.str [])))] (iSr [iSm 0,iCa 314 [aS0,aC10],iQm 1 0] .ret))
def F287.res:List RV:=[.t (.of 1)]
def F287:Fn:={ params:=[(.of 0)],res:=F287.res,body:=F287.b0,init:=in2 }
theorem F287.ok:fnA Tryz.prog Tryz.f287 [0,2]=some F287:=by kernel_rfl
abbrev ku.fr:=fr4
def ku.t0:IR:=.reg [iQo 1 (.mv (.c .zf))]
def ku.t1:IR:=.reg [.s (.mv (.t (.of 0))),.s (.len (.s 0)),iQo 2 (.mv (.s 0))]
def ku.zar (r:List RO):List RO:=.p .push (some ((.s 5),true)) (.bin .eql .int (.s 0) (.c (.int .u64 0)))::iQo 3 (.pick (.s 6) (.s 0) (.c (.bool false)))::r
def ku.r2_1:List RO:=ku.zar []
def ku.aS (r:List RO):List RO:=.s (.mv (.t (.of 2)))::.s (.bin .gtr .int (.s 0) (.c (I 0)))::.s (.mv (.s 0))::.p .push (some ((.s 0),true)) (.mv (.t (.of 0)))::.p .push (some ((.s 1),true)) (.mv (.t (.of 2)))::.p .push (some ((.s 2),true)) (.bin .sub .int (.s 0) (.c (I 1)))::.p .push (some ((.s 3),true)) (.zn 1 (.s 2) (.s 0))::.p .push (some ((.s 4),true)) (.load (.s 0))::r
def ku.oL:List RO:=ku.aS ku.r2_1
def ku.t2:IR:=.reg ku.oL
def ku.t5:IR:=.reg [.s (.mv (.t (.of 2))),.s (.bin .sub .int (.s 0) (.c (I 1))),iQo 2 (.mv (.s 0))]
def ku.t7:IR:=.seq (.seq ku.t2 (.cond (.t (.of 3)) .skip (.exit 0))) (.block 1 ku.t5)
def ku.t8:IR:=.loop ku.t7
def ku.t10:IR:=.reg [.s (.mv (.t (.of 0))),.s (.mv (.t (.of 2))),.s (.slice 1 (.s 1) none (some (.s 0)) none),iQo 1 (.mv (.s 0))]
def ku.t14:IR:=.seq ku.t0 (.seq ku.t1 (.seq (.block 0 ku.t8) (.seq ku.t10 .ret)))
def ku.b0:IR:=ku.t14
def ku.res:List RV:=[.t (.of 1)]
def ku:Fn:={ params:=[(.of 0)],res:=ku.res,body:=ku.b0,init:=in4 }
theorem ku.ok:fnA Tryz.prog Tryz.f289 [0,2,3,15]=some ku:=by kernel_rfl
abbrev F299.fr:=fr4
def F299.b0:IR:=(iSr [iWl 1 (.box aT0),iWl 2 (.alloc [(I 0),.zf])] (.seq (iSr [.s (.zk 0 aT1),.s (.load aS0),iQo 3 (.bin .lss .int aS0 aC0)] (.cond aT3 (iSr [.s (.zi 2 aT1),iCa 193 [aS0],.w .none none (.store 2 aT2 aS0)] .ret) .skip)) (iSr [.s (.zi 2 aT1),.w .none none (.store 2 aT2 aS0)] .ret)))
def F299.res:List RV:=[.cell (.of 2) (some 2)]
def F299:Fn:={ params:=[(.of 0)],res:=F299.res,body:=F299.b0,init:=in4 }
theorem F299.ok:fnA Tryz.prog Tryz.f299 [0,1,2,5]=some F299:=by kernel_rfl
abbrev F302.fr:=fr7
def F302.b0:IR:=(iSr [iSm 1,.s (.bin .add .int aS0 aC1),iQm 3 0] (.block 0 (.loop (.seq (iSr [iSm 3,iSm 2,iQo 5 (.bin .lss .int aS1 aS0)] (.cond aT5 .skip (.exit 0))) (.seq (.block 1 (iSr [iSm 3,iQm 4 0] (.block 2 (.loop (.seq (.seq (.jh [] [(iSm 4,0,[]),(iSm 1,0,[]),(.s (.bin .gtr .int aS1 aS0),0,[]),(.s (.mv aS0),0,[]),(iPt 0 (.mv aT0),0,[]),(iPt 1 (.mv aT4),0,[]),(iPt 2 (.zn 1 aS1 aS0),0,[]),(iPt 3 (.load aS0),0,[]),(iPt 4 (.mv aT0),0,[]),(iPt 5 (.mv aT4),0,[]),(iPt 6 (.bin .sub .int aS0 aC1),0,[]),(iPt 7 (.zn 1 aS2 aS0),0,[]),(iPt 8 (.load aS0),0,[]),(.w .push (some (aS9,true)) (.call (.c (.fn 308 (.of 308) [])) [aS5,aS0]),0,[]),(iQo 6 (.pick oD aS0 (.c (.bool false))),0,[])]) (.cond aT6 .skip (.exit 2))) (.seq (.block 3 (.jh [] [(iSm 0,0,[]),(iSm 4,0,[]),(iSm 0,1,[]),(iSm 4,1,[]),(.s (.bin .sub .int aS0 aC1),1,[]),(iSm 0,0,[]),(iSm 4,0,[]),(.s (.bin .sub .int aS0 aC1),0,[]),(.s (.zn 1 aS2 aS0),0,[]),(.s (.load aS0),0,[]),(iSm 0,0,[]),(iSm 4,0,[]),(.s (.zn 1 aS1 aS0),0,[]),(.s (.load aS0),0,[]),(.s (.zn 1 aS13 aS12),0,[]),(.w .none none (.store 1 aS0 aS5),0,[]),(.s (.zn 1 aS12 oD),0,[]),(.w .none none (.store 1 aS0 aS2),0,[])])) (.reg [iSm 4,.s (.bin .sub .int aS0 aC1),iQm 4 0]))))))) (.reg [iSm 3,.s (.bin .add .int aS0 aC1),iQm 3 0]))))))
def F302.res:List RV:=[]
def F302:Fn:={ params:=[(.of 0),(.of 1),(.of 2)],res:=F302.res,body:=F302.b0,init:=in7 }
theorem F302.ok:fnA Tryz.prog Tryz.f302 [0,1,2,6,7,12,30]=some F302:=by kernel_rfl
abbrev F308.fr:=fr3
def F308.b0:IR:=(iSr [iQo 2 (.mv (.c (.bool false)))] (iSr [iSm 0,iCa 328 [aS0],.s (.mv aS0),iPt 0 (.mv aT1),.w .push (some (aS1,true)) (.call (.c (.fn 328 (.of 328) [])) [aS0]),iPt 2 (.not aS0),.s (.pick aS3 aS0 (.c (.bool false))),.s (.mv aS0),iPf 0 (.mv aT0),iPf 1 (.mv aT1),iPf 2 (.bin .lss .int aS1 aS0),.s (.pick aS3 (.c (.bool true)) aS0),iQm 2 0] .ret))
def F308.res:List RV:=[.t (.of 2)]
def F308:Fn:={ params:=[(.of 0),(.of 1)],res:=F308.res,body:=F308.b0,init:=in3 }
theorem F308.ok:fnA Tryz.prog Tryz.f308 [0,1,4]=some F308:=by kernel_rfl
abbrev F311.fr:=fr4
def F311.b0:IR:=(iSr [iQo 1 (.mv aC0)] (.seq (iSr [iSm 0,iQo 2 (.bin .geq .int aS0 (.c (.int .u32 65536)))] (.cond aT2 (iSr [iSm 0,.s (.bin .shr .int aS0 (.c (.int .u64 16))),iQm 0 0] (.reg [iQo 1 (.mv aC16)])) .skip)) (.seq (iSr [iSm 0,iQo 3 (.bin .geq .int aS0 (.c (.int .u32 256)))] (.cond aT3 (iSr [iSm 0,.s (.bin .shr .int aS0 (.c (.int .u64 8))),iQm 0 0] (.reg [iSm 1,.s (.bin .add .int aS0 aC8),iQm 1 0])) .skip)) (iSr [iSm 1,iSm 0,.s (.conv .u8 aS0),.s (.tJ (.c (.str [0,1,2,2,3,3,3,3,4,4,4,4,4,4,4,4,5,5,5,5,5,5,5,5,5,5,5,5,5,5,5,5,6,6,6,6,6,6,6,6,6,6,6,6,6,6,6,6,6,6,6,6,6,6,6,6,6,6,6,6,6,6,6,6,7,7,7,7,7,7,7,7,7,7,7,7,7,7,7,7,7,7,7,7,7,7,7,7,7,7,7,7,7,7,7,7,7,7,7,7,7,7,7,7,7,7,7,7,7,7,7,7,7,7,7,7,7,7,7,7,7,7,7,7,7,7,7,7,8,8,8,8,8,8,8,8,8,8,8,8,8,8,8,8,8,8,8,8,8,8,8,8,8,8,8,8,8,8,8,8,8,8,8,8,8,8,8,8,8,8,8,8,8,8,8,8,8,8,8,8,8,8,8,8,8,8,8,8,8,8,8,8,8,8,8,8,8,8,8,8,8,8,8,8,8,8,8,8,8,8,8,8,8,8,8,8,8,8,8,8,8,8,8,8,8,8,8,8,8,8,8,8,8,8,8,8,8,8,8,8,8,8,8,8,8,8,8,8,8,8,8,8,8,8,8,8])) aS0),.s (.conv .i64 aS0),.s (.bin .add .int aS4 aS0),iQm 1 0] .ret))))
def F311.res:List RV:=[.t (.of 1)]
def F311:Fn:={ params:=[(.of 0)],res:=F311.res,body:=F311.b0,init:=in4 }
theorem F311.ok:fnA Tryz.prog Tryz.f311 [0,2,4,8]=some F311:=by kernel_rfl
abbrev F312.fr:=fr5
def F312.b0:IR:=(iSr [iQo 1 (.mv aC0)] (.seq (iSr [iSm 0,iQo 2 (.bin .geq .int aS0 (.c (.int .u64 4294967296)))] (.cond aT2 (iSr [iSm 0,.s (.bin .shr .int aS0 (.c (.int .u64 32))),iQm 0 0] (.reg [iQo 1 (.mv aC32)])) .skip)) (.seq (iSr [iSm 0,iQo 3 (.bin .geq .int aS0 (.c (.int .u64 65536)))] (.cond aT3 (iSr [iSm 0,.s (.bin .shr .int aS0 (.c (.int .u64 16))),iQm 0 0] (.reg [iSm 1,.s (.bin .add .int aS0 aC16),iQm 1 0])) .skip)) (.seq (iSr [iSm 0,iQo 4 (.bin .geq .int aS0 (.c (.int .u64 256)))] (.cond aT4 (iSr [iSm 0,.s (.bin .shr .int aS0 (.c (.int .u64 8))),iQm 0 0] (.reg [iSm 1,.s (.bin .add .int aS0 aC8),iQm 1 0])) .skip)) (iSr [iSm 1,iSm 0,.s (.conv .u8 aS0),.s (.tJ (.c (.str [0,1,2,2,3,3,3,3,4,4,4,4,4,4,4,4,5,5,5,5,5,5,5,5,5,5,5,5,5,5,5,5,6,6,6,6,6,6,6,6,6,6,6,6,6,6,6,6,6,6,6,6,6,6,6,6,6,6,6,6,6,6,6,6,7,7,7,7,7,7,7,7,7,7,7,7,7,7,7,7,7,7,7,7,7,7,7,7,7,7,7,7,7,7,7,7,7,7,7,7,7,7,7,7,7,7,7,7,7,7,7,7,7,7,7,7,7,7,7,7,7,7,7,7,7,7,7,7,8,8,8,8,8,8,8,8,8,8,8,8,8,8,8,8,8,8,8,8,8,8,8,8,8,8,8,8,8,8,8,8,8,8,8,8,8,8,8,8,8,8,8,8,8,8,8,8,8,8,8,8,8,8,8,8,8,8,8,8,8,8,8,8,8,8,8,8,8,8,8,8,8,8,8,8,8,8,8,8,8,8,8,8,8,8,8,8,8,8,8,8,8,8,8,8,8,8,8,8,8,8,8,8,8,8,8,8,8,8,8,8,8,8,8,8,8,8,8,8,8,8,8,8,8,8,8,8])) aS0),.s (.conv .i64 aS0),.s (.bin .add .int aS4 aS0),iQm 1 0] .ret)))))
def F312.res:List RV:=[.t (.of 1)]
def F312:Fn:={ params:=[(.of 0)],res:=F312.res,body:=F312.b0,init:=in5 }
theorem F312.ok:fnA Tryz.prog Tryz.f312 [0,2,4,8,14]=some F312:=by kernel_rfl
abbrev F313.fr:=fr4
def F313.b0:IR:=(iSr [iQo 2 (.mv (.c (.str [])))] (.seq (iSr [iSm 0,iSm 1,iWl 3 (.call (.c (.fn 320 (.of 320) [])) [aS1,aS0])] (.cond aT3 (iSr [iSm 0,iSm 1,.s (.slen aS0),.s (.rC aS2 (some aS0) none),iQm 2 0] .ret) .skip)) (iSr [iSm 0,iQm 2 0] .ret)))
def F313.res:List RV:=[.t (.of 2)]
def F313:Fn:={ params:=[(.of 0),(.of 1)],res:=F313.res,body:=F313.b0,init:=in4 }
theorem F313.ok:fnA Tryz.prog Tryz.f313 [0,1,4,7]=some F313:=by kernel_rfl
abbrev F314.fr:=fr11
def F314.b0:IR:=(iSr [iQo 2 (.mv (.c (.str [])))] (.seq (iSr [iSm 1,iQo 7 (.bin .eql .int aS0 aC10)] (.cond aT7 (.seq (iSr [iSm 0,.s (.bin .leq .int aC0 aS0),.s (.mv aS0),iPt 0 (.mv aT0),iPt 1 (.bin .lss .int aS0 zyn),iQo 8 (.pick aS2 aS0 (.c (.bool false)))] (.cond aT8 (iSr [iSm 0,iCa 315 [aS0],iQm 2 0] .ret) .skip)) (iSr [iWl 3 (.alloc [(.int .u8 0),(.int .u8 0),(.int .u8 0),(.int .u8 0),(.int .u8 0),(.int .u8 0),(.int .u8 0),(.int .u8 0),(.int .u8 0),(.int .u8 0),(.int .u8 0),(.int .u8 0),(.int .u8 0),(.int .u8 0),(.int .u8 0),(.int .u8 0),(.int .u8 0),(.int .u8 0),(.int .u8 0),(.int .u8 0),(.int .u8 0),(.int .u8 0),(.int .u8 0),(.int .u8 0)])] (iSr [iSm 0,.s (.conv .u64 aS0),iQm 4 0] (.seq (iSr [iSm 0,iQo 9 (.bin .lss .int aS0 aC0)] (.cond aT9 (.reg [iSm 4,.s (.neg aS0),iQm 4 0]) .skip)) (iSr [iSm 4,iCa 316 [aS0],iQm 5 0] (iSr [iSm 5,.s (.bin .add .int aC1 aS0),.s (.aslice 1 24 aT3 (some aC1) (some aS0) none),iSm 4,iCa 317 [aS1,aS0]] (.seq (iSr [iSm 0,iQo 10 (.bin .lss .int aS0 aC0)] (.cond sW (iSr [.s (.rP 1 24 aT3 aC0),.w .none none (.store 1 aS0 (.c (.int .u8 45)))] (iSr [iSm 5,.s (.bin .add .int aC1 aS0),.s (.aslice 1 24 aT3 none (some aS0) none),.s (.b2s aS0),iQm 2 0] .ret)) .skip)) (iSr [iSm 5,.s (.bin .add .int aC1 aS0),.s (.aslice 1 24 aT3 (some aC1) (some aS0) none),.s (.b2s aS0),iQm 2 0] .ret)))))))) .skip)) (iSr [iSm 0,.s (.conv .u64 aS0),iSm 1,iSm 0,.s (.bin .lss .int aS0 aC0),iCa 318 [(.c .zf),aS3,aS2,aS0,(.c (.bool false))],.s (.mv aS0),.s (.ext 0 aS0),.s (.ext 1 aS1),.s (.mv aS1),iQm 6 1] (iSr [iSm 6,iQm 2 0] .ret))))
def F314.res:List RV:=[.t (.of 2)]
def F314:Fn:={ params:=[(.of 0),(.of 1)],res:=F314.res,body:=F314.b0,init:=in11 }
theorem F314.ok:fnA Tryz.prog Tryz.f314 [0,1,4,5,6,7,9,11,17,23,34]=some F314:=by kernel_rfl
abbrev F315.fr:=fr3
def F315.b0:IR:=(iSr [iQo 1 (.mv (.c (.str [])))] (.seq (iSr [iSm 0,iQo 2 (.bin .lss .int aS0 aC10)] (.cond aT2 (iSr [iSm 0,iSm 0,.s (.bin .add .int aS0 aC1),.s (.rC (.c (.str [48,49,50,51,52,53,54,55,56,57,97,98,99,100,101,102,103,104,105,106,107,108,109,110,111,112,113,114,115,116,117,118,119,120,121,122])) (some aS2) (some aS0)),iQm 1 0] .ret) .skip)) (iSr [iSm 0,.s (.bin .mul .int aS0 aC2),iSm 0,.s (.bin .mul .int aS0 aC2),.s (.bin .add .int aS0 aC2),.s (.rC (.c (.str [48,48,48,49,48,50,48,51,48,52,48,53,48,54,48,55,48,56,48,57,49,48,49,49,49,50,49,51,49,52,49,53,49,54,49,55,49,56,49,57,50,48,50,49,50,50,50,51,50,52,50,53,50,54,50,55,50,56,50,57,51,48,51,49,51,50,51,51,51,52,51,53,51,54,51,55,51,56,51,57,52,48,52,49,52,50,52,51,52,52,52,53,52,54,52,55,52,56,52,57,53,48,53,49,53,50,53,51,53,52,53,53,53,54,53,55,53,56,53,57,54,48,54,49,54,50,54,51,54,52,54,53,54,54,54,55,54,56,54,57,55,48,55,49,55,50,55,51,55,52,55,53,55,54,55,55,55,56,55,57,56,48,56,49,56,50,56,51,56,52,56,53,56,54,56,55,56,56,56,57,57,48,57,49,57,50,57,51,57,52,57,53,57,54,57,55,57,56,57,57])) (some aS3) (some aS0)),iQm 1 0] .ret)))
def F315.res:List RV:=[.t (.of 1)]
def F315:Fn:={ params:=[(.of 0)],res:=F315.res,body:=F315.b0,init:=in3 }
theorem F315.ok:fnA Tryz.prog Tryz.f315 [0,2,4]=some F315:=by kernel_rfl
abbrev F316.fr:=fr3
def F316.b0:IR:=(iSr [iQo 1 (.mv aC0)] (iSr [iSm 0,iCa 312 [aS0],iCa 329 [aS0],iQm 2 0] (iSr [iSm 2,iSm 0,iSm 2,.s (.rP 1 20 (.c (.fp (layL 2))) aS0),.s (.load aS0),.s (.bin .geq .int aS3 aS0),iCa 330 [aS0],.s (.bin .add .int aS6 aS0),iQm 1 0] .ret)))
def F316.res:List RV:=[.t (.of 1)]
def F316:Fn:={ params:=[(.of 0)],res:=F316.res,body:=F316.b0,init:=in3 }
theorem F316.ok:fnA Tryz.prog Tryz.f316 [0,2,3]=some F316:=by kernel_rfl
end
end Go.Ev
