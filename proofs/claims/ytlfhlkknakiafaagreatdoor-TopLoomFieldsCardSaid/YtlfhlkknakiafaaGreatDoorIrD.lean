import Derived.Test.YtlfhlkknakiafaaGreatDoorIrA
import Derived.Test.YtlfhlkknakiafaaGreatDoorEvC
import Derived.Test.YtlfhlkknakiafaaGreatDoorProg
import Derived.KernelRfl
set_option linter.unusedSimpArgs false
set_option linter.unusedVariables false
namespace Go.Ev
open Go Go.Proofs
set_option maxRecDepth 100000
noncomputable section

abbrev F433.fr := fr3
def F433.b2 : IR := .ret
def F433.g1 (X2 : IR) : IR := (.seq (.bad 3) X2)
def F433.b1 : IR := F433.g1 F433.b2
def F433.g0 (X1 : IR) : IR := (iSr [iQo 1 (.mv aC0)] (.seq (iSr [iSm 0, iQo 2 (.bin .eql .int aS0 (.c (.int .u32 0)))] (.cond aT2 (iSr [iQo 1 (.mv aC32)] .ret) .skip)) X1))
def F433.b0 : IR := F433.g0 F433.b1
def F433.res : List RV := [.t (.of 1)]
def F433 : Fn := { params := [(.of 0)], res := F433.res, body := F433.b0, init := in3 }
theorem F433.ok : fnA Tryz.prog Tryz.f433 [0, 2, 4] = some F433 := by kernel_rfl
abbrev F434.fr := fr3
def F434.b2 : IR := .ret
def F434.g1 (X2 : IR) : IR := (.seq (.bad 3) X2)
def F434.b1 : IR := F434.g1 F434.b2
def F434.g0 (X1 : IR) : IR := (iSr [iQo 1 (.mv aC0)] (.seq (iSr [iSm 0, iQo 2 (.bin .eql .int aS0 (.c (.int .u64 0)))] (.cond aT2 (iSr [iQo 1 (.mv aC64)] .ret) .skip)) X1))
def F434.b0 : IR := F434.g0 F434.b1
def F434.res : List RV := [.t (.of 1)]
def F434 : Fn := { params := [(.of 0)], res := F434.res, body := F434.b0, init := in3 }
theorem F434.ok : fnA Tryz.prog Tryz.f434 [0, 2, 4] = some F434 := by kernel_rfl
end
end Go.Ev
