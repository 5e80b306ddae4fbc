import Derived.Test.YtlfhlkknakiafaaGreatDoorRunC
import Derived.Test.YtlfhlkknakiafaaGreatDoorRunD
import Derived.Test.YtlfhlkknakiafaaGreatDoorRunE
set_option linter.unusedSimpArgs false
set_option linter.unusedVariables false
namespace Go.Ev
open Go Go.Proofs
set_option maxRecDepth 100000
noncomputable def mE (n k : Nat) : List AV × AV := ([.str (kinS k), I (n : Int)], sqK k n)
noncomputable def mT (f : Nat) : List (List AV × AV) := bif Nat.beq f 66 then [mE 12 0, mE 12 1, mE 12 2, mE 10 1, mE 9 0, mE 9 1, mE 9 2, mE 7 1] else []
theorem wC {n k : Nat} (h : kZ n k = true) : ∀ B, Pure Tryz.prog B 66 (mE n k).1 (· = (mE n k).2) := fun _ => yS (fun _ => yG) h
theorem mT_ok (f : Nat) : MemoOk Tryz.prog f (mT f) := by
  unfold mT
  cases hf : Nat.beq f 66 with
  | false => intro e he; cases he
  | true =>
    have : f = 66 := Nat.eq_of_beq_eq_true hf
    subst this
    intro e he
    rw [cond_true] at he
    simp only [List.mem_cons, List.not_mem_nil, or_false] at he
    rcases he with rfl | rfl | rfl | rfl | rfl | rfl | rfl | rfl
    · exact wC run66_12_0
    · exact wC run66_12_1
    · exact wC run66_12_2
    · exact wC run66_10_1
    · exact wC run66_9_0
    · exact wC run66_9_1
    · exact wC run66_9_2
    · exact wC run66_7_1
theorem memo_J (B : Nat) : JOk Tryz.prog B (memoJ mT gG) := memo_ok mT_ok yG
noncomputable def k8 (n i k : Nat) : Bool := rk (memoJ mT gG) 16 [gV (n * 3) (big n i k), .lst 1 2 [.str norl, .str sem]] (.bool true)
end Go.Ev
