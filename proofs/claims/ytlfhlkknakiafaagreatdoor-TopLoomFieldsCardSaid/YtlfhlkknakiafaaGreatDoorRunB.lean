import Derived.Test.YtlfhlkknakiafaaGreatDoorRunA
set_option linter.unusedSimpArgs false
set_option linter.unusedVariables false
namespace Go.Ev
open Go Go.Proofs
set_option maxRecDepth 100000
def dedK (ls : List (List Int)) : List (List Int) := ls.foldl (fun out l => if out.contains l then out else out ++ [l]) []
def diaL (n : Nat) (d : Int) (k : Nat) : List Int := (List.range n).map fun (r : Nat) => (n : Int) * (r : Int) + (((k : Int) + d * (r : Int)) % (n : Int))
def sqL (k : Nat) (n : Nat) : List (List Int) :=
  dedK (rcL n ++ (if k = 0 then [] else [diaL n 1 0, diaL n (-1) (n - 1)]) ++ (if k = 2 then (List.range n).map (diaL n 1) ++ (List.range n).map (diaL n (-1)) else []))
def kinS (k : Nat) : List UInt8 := if k = 0 then sem else if k = 1 then [109, 97, 103, 105, 99] else [112, 97, 110, 100, 105, 97, 103, 111, 110, 97, 108]
noncomputable def sqK (k n : Nat) : AV := .agg [I ((n * n : Nat) : Int), encT (sqL k n)]
noncomputable def kZ (n k : Nat) : Bool := rk gG 66 [.str (kinS k), I (n : Int)] (sqK k n)
theorem run66_9_0 : kZ 9 0 = true := by kernel_rfl
theorem run66_9_1 : kZ 9 1 = true := by kernel_rfl
theorem run66_9_2 : kZ 9 2 = true := by kernel_rfl
end Go.Ev
