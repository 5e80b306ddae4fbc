import Derived.Test.YtfgpjkchdelphaaGreatDoorIrA
import Derived.Test.YtfgpjkchdelphaaGreatDoorEvC
import Derived.Test.YtfgpjkchdelphaaGreatDoorProg
import Derived.KernelRfl
set_option linter.unusedSimpArgs false
set_option linter.unusedVariables false
namespace Go.Ev
open Go Go.Proofs
set_option maxRecDepth 100000
noncomputable section

abbrev F329.fr:=fr2
def F329.b0:IR:=(iSr [iQo 1 (.mv aC0)] (iSr [iSm 0,.s (.bin .mul .int aS0 ztu),.s (.bin .shr .int aS0 (.c (.int .u64 18))),iQm 1 0] .ret))
def F329.res:List RV:=[.t (.of 1)]
def F329:Fn:={ params:=[(.of 0)],res:=F329.res,body:=F329.b0,init:=in2 }
theorem F329.ok:fnA Tryz.prog Tryz.f329 [0,2]=some F329:=by kernel_rfl
abbrev F330.fr:=fr3
def F330.b0:IR:=(iSr [iQo 1 (.mv aC0)] (.seq (iSr [iQo 2 (.mv aT0)] (.cond aT2 (iSr [iQo 1 (.mv aC1)] .ret) .skip)) (iSr [iQo 1 (.mv aC0)] .ret)))
def F330.res:List RV:=[.t (.of 1)]
def F330:Fn:={ params:=[(.of 0)],res:=F330.res,body:=F330.b0,init:=in3 }
theorem F330.ok:fnA Tryz.prog Tryz.f330 [0,2,3]=some F330:=by kernel_rfl
end
end Go.Ev
