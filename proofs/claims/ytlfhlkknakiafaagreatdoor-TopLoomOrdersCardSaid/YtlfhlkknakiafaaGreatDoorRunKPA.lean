import Derived.Test.YtlfhlkknakiafaaGreatDoorRunD
import Derived.Test.YtlfhlkknakiafaaGreatDoorEvD
set_option linter.unusedSimpArgs false
set_option linter.unusedVariables false
namespace Go.Ev
open Go Go.Proofs
set_option maxRecDepth 100000
noncomputable def figV (n:Nat) (l:List Int):AV:=.agg [I (n:Int),encI l]
noncomputable def is16 (k:Nat):Bool:=rk zc3 178 [figV 16 aK,.str (rQ k)] (.bool true)
theorem zzx:is16 0=true:=by kernel_rfl
theorem zzy:is16 1=true:=by kernel_rfl
theorem zz0:is16 2=true:=by kernel_rfl
noncomputable def isX (f:Nat):List (List AV×AV×MK):=bif Nat.beq f 178 then [([figV 16 aK,.str (rQ 2)],.bool true,.plain),([figV 16 aK,.str (rQ 1)],.bool true,.plain),([figV 16 aK,.str (rQ 0)],.bool true,.plain)] else []
theorem zz1 (f:Nat):∀ e∈isX f,MKok Tryz.prog f e:=by
  unfold isX
  cases hf:Nat.beq f 178 with
  | false=>intro e he;cases he
  | true =>
    obtain rfl:=Nat.eq_of_beq_eq_true hf
    intro e he
    rw [cond_true] at he
    simp only [List.mem_cons,List.not_mem_nil,or_false] at he
    rcases he with rfl | rfl | rfl
    · exact ⟨by kernel_rfl,fun B=>gF qS zz0,.bool true⟩
    · exact ⟨by kernel_rfl,fun B=>gF qS zzy,.bool true⟩
    · exact ⟨by kernel_rfl,fun B=>gF qS zzx,.bool true⟩
noncomputable def zrr:JT:=zj6 isX zc3
theorem zge (B:Nat):JOk Tryz.prog B zrr:=zf8 zz1 (qS B)
end Go.Ev
