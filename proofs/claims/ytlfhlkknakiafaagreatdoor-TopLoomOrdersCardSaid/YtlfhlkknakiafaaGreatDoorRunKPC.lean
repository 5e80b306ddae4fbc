import Derived.Test.YtlfhlkknakiafaaGreatDoorRunKPB
set_option linter.unusedSimpArgs false
set_option linter.unusedVariables false
namespace Go.Ev
open Go Go.Proofs
set_option maxRecDepth 100000
theorem qd7:(upTo 256).isPerm aK=true:=by kernel_rfl
theorem qd8:(upTo 256).Pairwise (· <= ·):=by decide +kernel
theorem zxx:aK.length=256:=by decide +kernel
theorem qd9 {B:Nat}:Pure Tryz.prog B 147 [encI aK] (· = .bool true):=by
  have h:=zgf (B:=B) (f:=aK) zc4 (by rw [zxx];decide)
  have e:srt aK=upTo aK.length:=by rw [zxx];exact (zbx (List.isPerm_iff.1 qd7) qd8).symm
  rw [decide_eq_true e] at h
  exact h
noncomputable def mpX (f:Nat):List (List AV×AV×MK):=bif Nat.beq f 255 then [([figV 16 aK],.bool true,.plain)] else bif Nat.beq f 147 then [([encI aK],.bool true,.plain)] else []
theorem zz2 (f:Nat):∀ e∈mpX f,MKok Tryz.prog f e:=by
  unfold mpX
  cases hf:Nat.beq f 255 with
  | false =>
    rw [cond_false]
    cases hg:Nat.beq f 147 with
    | false=>intro e he;cases he
    | true =>
      obtain rfl:=Nat.eq_of_beq_eq_true hg
      intro e he
      rw [cond_true,List.mem_singleton] at he
      subst he
      exact ⟨by kernel_rfl,fun B=>qd9,.bool true⟩
  | true =>
    obtain rfl:=Nat.eq_of_beq_eq_true hf
    intro e he
    rw [cond_true,List.mem_singleton] at he
    subst he
    exact ⟨by kernel_rfl,fun B=>gF zge mp16,.bool true⟩
theorem kp16:rk (zj6 mpX zrr) 73 [gV 16 aK] (kv [0,1,2,3,5])=true:=by kernel_rfl
theorem qd6:P73 16 aK [0,1,2,3,5]:=fun B=>gF (fun B=>zf8 zz2 (zge B)) kp16
end Go.Ev
