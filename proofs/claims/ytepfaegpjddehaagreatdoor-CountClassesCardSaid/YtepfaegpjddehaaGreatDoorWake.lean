import Derived.Test.YtepfaegpjddehaaGreatDoorJoin
set_option linter.unusedSimpArgs false
set_option linter.unusedVariables false
namespace Go.Ev
open Go Go.Proofs
variable {B : Nat}
def s33 (n : Nat) : Bool := Nat.beq n 33
set_option maxRecDepth 100000 in
theorem awake18 : Pure Tryz.prog B 18 [] (· = .bool true) :=
  closed_pureF (S := s33) (J := hookB) (fuel := 1000) (n := 60) tbl_ok mixed (fun _ => hookB_ok) (by kernel_rfl) (by kernel_rfl)
end Go.Ev
