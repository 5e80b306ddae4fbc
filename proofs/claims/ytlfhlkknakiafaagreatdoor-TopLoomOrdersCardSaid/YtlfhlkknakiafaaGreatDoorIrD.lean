import Derived.Test.YtlfhlkknakiafaaGreatDoorIrA
import Derived.Test.YtlfhlkknakiafaaGreatDoorEvC
import Derived.Test.YtlfhlkknakiafaaGreatDoorProg
import Derived.KernelRfl
set_option linter.unusedSimpArgs false
set_option linter.unusedVariables false
namespace Go.Ev
open Go Go.Proofs
set_option maxRecDepth 100000
noncomputable section

abbrev F430.fr:=fr2
def F430.b0:IR:=dI [] 37260204576795522373244191316763969160695
def F430.res:List RV:=[.t (.of 1)]
def F430:Fn:={ params:=[(.of 0)],res:=F430.res,body:=F430.b0,init:=in2 }
theorem F430.ok:fnA Tryz.prog Tryz.f430 [0,2]=some F430:=by kernel_rfl
abbrev F433.fr:=fr3
def F433.b0:IR:=dI [] 4520322248054920573776730140304049655
def F433.res:List RV:=[.t (.of 1)]
def F433:Fn:={ params:=[(.of 0)],res:=F433.res,body:=F433.b0,init:=in3 }
theorem F433.ok:fnA Tryz.prog Tryz.f433 [0,2,4]=some F433:=by kernel_rfl
abbrev F434.fr:=fr3
def F434.b0:IR:=dI [] 34487323157189843153574095062519
def F434.res:List RV:=[.t (.of 1)]
def F434:Fn:={ params:=[(.of 0)],res:=F434.res,body:=F434.b0,init:=in3 }
theorem F434.ok:fnA Tryz.prog Tryz.f434 [0,2,4]=some F434:=by kernel_rfl
end
end Go.Ev
