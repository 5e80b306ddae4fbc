import Derived.Test.YtfgpjkchdelphaaGreatDoorIrA
import Derived.Test.YtfgpjkchdelphaaGreatDoorEvC
import Derived.Test.YtfgpjkchdelphaaGreatDoorProg
import Derived.KernelRfl
set_option linter.unusedSimpArgs false
set_option linter.unusedVariables false
namespace Go.Ev
open Go Go.Proofs
set_option maxRecDepth 100000
noncomputable section

abbrev F328.fr:=fr2
def F328.b0:IR:=dI [] 914362045654576535
def F328.res:List RV:=[.t (.of 1)]
def F328:Fn:={ params:=[(.of 0)],res:=F328.res,body:=F328.b0,init:=in2 }
theorem F328.ok:fnA Tryz.prog Tryz.f328 [0,2]=some F328:=by kernel_rfl
abbrev F329.fr:=fr2
def F329.b0:IR:=dI [] 15344474443535663070141847
def F329.res:List RV:=[.t (.of 1)]
def F329:Fn:={ params:=[(.of 0)],res:=F329.res,body:=F329.b0,init:=in2 }
theorem F329.ok:fnA Tryz.prog Tryz.f329 [0,2]=some F329:=by kernel_rfl
abbrev F330.fr:=fr3
def F330.b0:IR:=dI [] 15391044590127633353498007
def F330.res:List RV:=[.t (.of 1)]
def F330:Fn:={ params:=[(.of 0)],res:=F330.res,body:=F330.b0,init:=in3 }
theorem F330.ok:fnA Tryz.prog Tryz.f330 [0,2,3]=some F330:=by kernel_rfl
end
end Go.Ev
