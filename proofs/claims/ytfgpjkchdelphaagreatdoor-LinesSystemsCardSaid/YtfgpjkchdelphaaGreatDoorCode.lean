import Derived.Test.YtfgpjkchdelphaaGreatDoorIrT
import Derived.KernelRfl
set_option linter.unusedSimpArgs false
set_option linter.unusedVariables false
namespace Go.Ev
open Go Go.Proofs
set_option maxRecDepth 100000
variable {N : Nat} {C : Calls Prop} {K0 : Kw Prop} {K R : Ks Prop} {h : T Blk} {nx : Pa} {x0 x1 x2 x3 x4 x5 x6 a0 a1 : AV}
theorem F49.g2_eq (X3 : IR) (O : Outs Prop) (t : T AV) : IR.run (F49.g2 X3) C N O K t h nx = IR.run X3 C N (O.blk 0 K) K t h nx := by kernel_rfl
theorem F49.tab : T.get none (.of 49) tbl = some F49 := by kernel_rfl
theorem F49.go : callFn tbl N C (.of 49) [a0, a1] h nx K0 =
 sLen a0 fun v1 =>
 sLen a1 fun v2 =>
 sBin .neq .int v1 v2 fun v3 =>
 sCond v3 (K0 (.bool false) h nx) (IR.run F49.b2 C N (fnO F49.res K0) (IR.run F49.b9 C N (fnO F49.res K0) (retK F49.res K0)) (F49.fr a0 a1 (.bool false) (I 0) v3 .undef .undef) h nx) := by
 rw [callFn_of F49.tab]; kernel_rfl
theorem F49.L2 (Inv : Nat → AV → T Blk → Pa → Prop) {m : Nat} (hm : m < N) (hi : Inv m x3 h nx)
  (step : ∀ (m : Nat) (z2 z3 z5 z6 : AV) (h : T Blk) (nx : Pa) (R : Ks Prop), Inv m z3 h nx → (∀ (m' : Nat) (w2 w3 w5 w6 : AV) (h' : T Blk) (nx' : Pa), m' < m → Inv m' w3 h' nx' → R (F49.fr x0 x1 w2 w3 x4 w5 w6) h' nx' = .ok True) →
   (sLen x0 fun v1 =>
 sBin .lss .int z3 v1 fun v2 =>
 sCond v2 (sIaddr 1 x0 z3 fun v3 =>
 sLoad v3 h fun v4 =>
 sIaddr 1 x1 z3 fun v5 =>
 sLoad v5 h fun v6 =>
 sBin .neq .int v4 v6 fun v7 =>
 sCond v7 (K0 (.bool false) h nx) (sBin .add .int z3 (I 1) fun v8 =>
 R (F49.fr x0 x1 z2 v8 x4 v2 v7) h nx)) (K (F49.fr x0 x1 z2 z3 x4 v2 z6) h nx)) = .ok True) :
  IR.run F49.b2 C N (fnO F49.res K0) K (F49.fr x0 x1 x2 x3 x4 x5 x6) h nx = .ok True := by
 rw [F49.b2, F49.g2_eq, F49.b3]
 refine loop_ok (fun m tm h nx => ∃ z2 z3 z5 z6, tm = (F49.fr x0 x1 z2 z3 x4 z5 z6) ∧ Inv m z3 h nx) ?_ hm ⟨_, _, _, _, rfl, hi⟩
 rintro m tm h nx R ⟨z2, z3, z5, z6, rfl, hi⟩ hR
 refine Eq.trans ?_ (step m z2 z3 z5 z6 h nx R hi fun m' w2 w3 w5 w6 h' nx' hlt hi' => hR m' _ h' nx' hlt ⟨_, _, _, _, rfl, hi'⟩)
 kernel_rfl
theorem F49.k9 : IR.run F49.b9 C N (fnO F49.res K0) K (F49.fr x0 x1 x2 x3 x4 x5 x6) h nx =
 K0 (.bool true) h nx := by kernel_rfl
end Go.Ev
namespace Go.Ev
open Go Go.Proofs
set_option maxRecDepth 100000
variable {N : Nat} {C : Calls Prop} {K0 : Kw Prop} {K R : Ks Prop} {h : T Blk} {nx : Pa} {x0 x1 x2 x3 x4 x5 x6 x7 x8 a0 a1 : AV}
theorem F86.g1_eq (X2 : IR) (O : Outs Prop) (t : T AV) : IR.run (F86.g1 X2) C N O K t h nx = IR.run X2 C N (O.blk 0 K) K t h nx := by kernel_rfl
theorem F86.tab : T.get none (.of 86) tbl = some F86 := by kernel_rfl
theorem F86.go : callFn tbl N C (.of 86) [a0] h nx K0 =
 sLen a0 fun v1 =>
 IR.run F86.b1 C N (fnO F86.res K0) (IR.run F86.b8 C N (fnO F86.res K0) (retK F86.res K0)) (F86.fr a0 (I 0) .undef a0 v1 (I 0) .undef .undef) h nx := by
 rw [callFn_of F86.tab]; kernel_rfl
theorem F86.L1 (Inv : Nat → AV → T Blk → Pa → Prop) {m : Nat} (hm : m < N) (hi : Inv m x5 h nx)
  (step : ∀ (m : Nat) (z1 z2 z5 z6 z7 : AV) (h : T Blk) (nx : Pa) (R : Ks Prop), Inv m z5 h nx → (∀ (m' : Nat) (w1 w2 w5 w6 w7 : AV) (h' : T Blk) (nx' : Pa), m' < m → Inv m' w5 h' nx' → R (F86.fr x0 w1 w2 x3 x4 w5 w6 w7) h' nx' = .ok True) →
   (sBin .lss .int z5 x4 fun v1 =>
 sCond v1 (sIaddr 1 x3 z5 fun v2 =>
 sLoad v2 h fun v3 =>
 sBin .neq .int v3 (I 0) fun v4 =>
 sCond v4 (K0 v3 h nx) (sBin .add .int z5 (I 1) fun v5 =>
 R (F86.fr x0 z1 v3 x3 x4 v5 v1 v4) h nx)) (K (F86.fr x0 z1 z2 x3 x4 z5 v1 z7) h nx)) = .ok True) :
  IR.run F86.b1 C N (fnO F86.res K0) K (F86.fr x0 x1 x2 x3 x4 x5 x6 x7) h nx = .ok True := by
 rw [F86.b1, F86.g1_eq, F86.b2]
 refine loop_ok (fun m tm h nx => ∃ z1 z2 z5 z6 z7, tm = (F86.fr x0 z1 z2 x3 x4 z5 z6 z7) ∧ Inv m z5 h nx) ?_ hm ⟨_, _, _, _, _, rfl, hi⟩
 rintro m tm h nx R ⟨z1, z2, z5, z6, z7, rfl, hi⟩ hR
 refine Eq.trans ?_ (step m z1 z2 z5 z6 z7 h nx R hi fun m' w1 w2 w5 w6 w7 h' nx' hlt hi' => hR m' _ h' nx' hlt ⟨_, _, _, _, _, rfl, hi'⟩)
 kernel_rfl
theorem F86.k8 : IR.run F86.b8 C N (fnO F86.res K0) K (F86.fr x0 x1 x2 x3 x4 x5 x6 x7) h nx =
 K0 (I 0) h nx := by kernel_rfl
theorem F88.tab : T.get none (.of 88) tbl = some F88 := by kernel_rfl
theorem F88.go : callFn tbl N C (.of 88) [a0, a1] h nx K0 =
 sCond a0 (K0 a1 h nx) (K0 (I 0) h nx) := by
 rw [callFn_of F88.tab]; kernel_rfl
end Go.Ev
namespace Go.Ev
open Go Go.Proofs
set_option maxRecDepth 100000
variable {N : Nat} {C : Calls Prop} {K0 : Kw Prop} {K R : Ks Prop} {h : T Blk} {nx : Pa} {x0 x1 x2 x3 x4 x5 x6 x7 x8 a0 a1 a2 : AV}
end Go.Ev
namespace Go.Ev
open Go Go.Proofs
set_option maxRecDepth 100000
variable {N : Nat} {C : Calls Prop} {K0 : Kw Prop} {K R : Ks Prop} {h : T Blk} {nx : Pa} {x0 x1 x2 x3 x4 x5 x6 x7 x8 x9 x10 x11 x12 x13 a0 : AV}
end Go.Ev
namespace Go.Ev
open Go Go.Proofs
set_option maxRecDepth 100000
variable {N : Nat} {C : Calls Prop} {K0 : Kw Prop} {K R : Ks Prop} {h : T Blk} {nx : Pa} {x0 x1 x2 x3 x4 x5 x6 x7 a0 a1 a2 : AV}
theorem F87.tab : T.get none (.of 87) tbl = some F87 := by kernel_rfl
theorem F87.go : callFn tbl N C (.of 87) [a0, a1, a2] h nx K0 =
 sBox a0 h nx fun v1 h2 n3 =>
 sBox a1 h2 n3 fun v4 h5 n6 =>
 C.fn 173 (.of 173) [a2, (.fn 174 (.of 174) [v1, v4])] h5 n6 fun v7 h8 n9 =>
 C.fn 88 (.of 88) [v7, (I 3)] h8 n9 fun v10 h11 n12 =>
 K0 v10 h11 n12 := by
 rw [callFn_of F87.tab]; kernel_rfl
theorem F174.tab : T.get none (.of 174) tbl = some F174 := by kernel_rfl
theorem F174.go : callFn tbl N C (.of 174) [a0, a1, a2] h nx K0 =
 sLoad a1 h fun v1 =>
 sBin .lss .int a0 v1 fun v2 =>
 sG v2 false (fun k => k a0) fun v3 =>
 sG v2 false (fun k => sLoad a2 h k) fun v4 =>
 sG v2 false (fun k => sBin .gtr .int v3 v4 k) fun v5 =>
 sPick v2 (.bool true) v5 fun v6 =>
 K0 v6 h nx := by
 rw [callFn_of F174.tab]; kernel_rfl
theorem F173.tab : T.get none (.of 173) tbl = some F173 := by kernel_rfl
theorem F173.go : callFn tbl N C (.of 173) [a0, a1] h nx K0 =
 C.fn 184 (.of 184) [a0, a1] h nx fun v1 h2 n3 =>
 sBin .geq .int v1 (I 0) fun v4 =>
 K0 v4 h2 n3 := by
 rw [callFn_of F173.tab]; kernel_rfl
theorem F184.g1_eq (X2 : IR) (O : Outs Prop) (t : T AV) : IR.run (F184.g1 X2) C N O K t h nx = IR.run X2 C N (O.blk 0 K) K t h nx := by kernel_rfl
theorem F184.tab : T.get none (.of 184) tbl = some F184 := by kernel_rfl
theorem F184.go : callFn tbl N C (.of 184) [a0, a1] h nx K0 =
 sLen a0 fun v1 =>
 IR.run F184.b1 C N (fnO F184.res K0) (IR.run F184.b8 C N (fnO F184.res K0) (retK F184.res K0)) (F184.fr a0 a1 (I 0) .undef v1 (I 0) .undef .undef) h nx := by
 rw [callFn_of F184.tab]; kernel_rfl
theorem F184.L1 (Inv : Nat → AV → T Blk → Pa → Prop) {m : Nat} (hm : m < N) (hi : Inv m x5 h nx)
  (step : ∀ (m : Nat) (z2 z3 z5 z6 z7 : AV) (h : T Blk) (nx : Pa) (R : Ks Prop), Inv m z5 h nx → (∀ (m' : Nat) (w2 w3 w5 w6 w7 : AV) (h' : T Blk) (nx' : Pa), m' < m → Inv m' w5 h' nx' → R (F184.fr x0 x1 w2 w3 x4 w5 w6 w7) h' nx' = .ok True) →
   (sBin .lss .int z5 x4 fun v1 =>
 sCond v1 (sIaddr 1 x0 z5 fun v2 =>
 sLoad v2 h fun v3 =>
 sCall C x1 [v3] h nx fun v4 h5 n6 =>
 sCond v4 (K0 z5 h5 n6) (sBin .add .int z5 (I 1) fun v7 =>
 R (F184.fr x0 x1 z2 z5 x4 v7 v1 v4) h5 n6)) (K (F184.fr x0 x1 z2 z3 x4 z5 v1 z7) h nx)) = .ok True) :
  IR.run F184.b1 C N (fnO F184.res K0) K (F184.fr x0 x1 x2 x3 x4 x5 x6 x7) h nx = .ok True := by
 rw [F184.b1, F184.g1_eq, F184.b2]
 refine loop_ok (fun m tm h nx => ∃ z2 z3 z5 z6 z7, tm = (F184.fr x0 x1 z2 z3 x4 z5 z6 z7) ∧ Inv m z5 h nx) ?_ hm ⟨_, _, _, _, _, rfl, hi⟩
 rintro m tm h nx R ⟨z2, z3, z5, z6, z7, rfl, hi⟩ hR
 refine Eq.trans ?_ (step m z2 z3 z5 z6 z7 h nx R hi fun m' w2 w3 w5 w6 w7 h' nx' hlt hi' => hR m' _ h' nx' hlt ⟨_, _, _, _, _, rfl, hi'⟩)
 kernel_rfl
theorem F184.k8 : IR.run F184.b8 C N (fnO F184.res K0) K (F184.fr x0 x1 x2 x3 x4 x5 x6 x7) h nx =
 K0 (I (-1)) h nx := by kernel_rfl
end Go.Ev
namespace Go.Ev
open Go Go.Proofs
set_option maxRecDepth 100000
variable {N : Nat} {C : Calls Prop} {K0 : Kw Prop} {K R : Ks Prop} {h : T Blk} {nx : Pa} {x0 x1 x2 x3 x4 x5 x6 x7 x8 x9 x10 x11 x12 x13 a0 a1 : AV}
end Go.Ev
namespace Go.Ev
open Go Go.Proofs
set_option maxRecDepth 100000
variable {N : Nat} {C : Calls Prop} {K0 : Kw Prop} {K R : Ks Prop} {h : T Blk} {nx : Pa} {x0 x1 x2 x3 x4 x5 x6 x7 a0 a1 : AV}
end Go.Ev
namespace Go.Ev
open Go Go.Proofs
set_option maxRecDepth 100000
variable {N : Nat} {C : Calls Prop} {K0 : Kw Prop} {K R : Ks Prop} {h : T Blk} {nx : Pa} {x0 x1 x2 x3 x4 x5 x6 a0 a1 : AV}
end Go.Ev
namespace Go.Ev
open Go Go.Proofs
set_option maxRecDepth 100000
variable {N : Nat} {C : Calls Prop} {K0 : Kw Prop} {K R : Ks Prop} {h : T Blk} {nx : Pa} {x0 x1 x2 x3 x4 x5 x6 x7 x8 x9 x10 x11 x12 x13 a0 a1 : AV}
end Go.Ev
namespace Go.Ev
open Go Go.Proofs
set_option maxRecDepth 100000
variable {N : Nat} {C : Calls Prop} {K0 : Kw Prop} {K R : Ks Prop} {h : T Blk} {nx : Pa} {x0 x1 x2 x3 x4 x5 x6 x7 x8 x9 x10 a0 a1 : AV}
end Go.Ev
