import Derived.Test.YtfgpjkchdelphaaGreatDoorIrA
import Derived.Test.YtfgpjkchdelphaaGreatDoorEvC
import Derived.Test.YtfgpjkchdelphaaGreatDoorProg
import Derived.KernelRfl
set_option linter.unusedSimpArgs false
set_option linter.unusedVariables false
namespace Go.Ev
open Go Go.Proofs
set_option maxRecDepth 100000
noncomputable section

abbrev F320.fr:=fr3
def F320.b0:IR:=dI [] 884605363692797873220047615536612497084217759042393407715213499975567895
def F320.res:List RV:=[.t (.of 2)]
def F320:Fn:={ params:=[(.of 0),(.of 1)],res:=F320.res,body:=F320.b0,init:=in3 }
theorem F320.ok:fnA Tryz.prog Tryz.f320 [0,1,4]=some F320:=by kernel_rfl
abbrev F328.fr:=fr2
def F328.b0:IR:=dI [] 585730594153834647
def F328.res:List RV:=[.t (.of 1)]
def F328:Fn:={ params:=[(.of 0)],res:=F328.res,body:=F328.b0,init:=in2 }
theorem F328.ok:fnA Tryz.prog Tryz.f328 [0,2]=some F328:=by kernel_rfl
abbrev fQ.fr:=fr2
def fQ.t0:IR:=.reg [iQo 1 (.mv aC0)]
def fQ.t1:IR:=.reg (dA [] 623555240211560403)
def fQ.t3:IR:=.seq fQ.t0 (.seq fQ.t1 .ret)
def fQ.b0:IR:=fQ.t3
def fQ.res:List RV:=[.t (.of 1)]
def fQ:Fn:={ params:=[(.of 0)],res:=fQ.res,body:=fQ.b0,init:=in2 }
theorem fQ.ok:fnA Tryz.prog Tryz.f329 [0,2]=some fQ:=by kernel_rfl
abbrev vk.fr:=fr3
def vk.t0:IR:=.reg [iQo 1 (.mv aC0)]
def vk.t1:IR:=.reg [iQo 2 (.mv aT0)]
def vk.t2:IR:=.reg [iQo 1 (.mv aC1)]
def vk.t6:IR:=.reg [iQo 1 (.mv aC0)]
def vk.t9:IR:=.seq vk.t0 (.seq (.seq vk.t1 (.cond aT2 (.seq vk.t2 .ret) .skip)) (.seq vk.t6 .ret))
def vk.b0:IR:=vk.t9
def vk.res:List RV:=[.t (.of 1)]
def vk:Fn:={ params:=[(.of 0)],res:=vk.res,body:=vk.b0,init:=in3 }
theorem vk.ok:fnA Tryz.prog Tryz.f330 [0,2,3]=some vk:=by kernel_rfl
end
end Go.Ev
