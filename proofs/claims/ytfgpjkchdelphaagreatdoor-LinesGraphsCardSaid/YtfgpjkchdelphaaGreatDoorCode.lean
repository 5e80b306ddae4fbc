import Derived.Test.YtfgpjkchdelphaaGreatDoorIrT
import Derived.KernelRfl
set_option linter.unusedSimpArgs false
set_option linter.unusedVariables false
namespace Go.Ev
open Go Go.Proofs
set_option maxRecDepth 100000
variable {N : Nat} {C : Calls Prop} {K0 : Kw Prop} {K R : Ks Prop} {h : T Blk} {nx : Pa} {x0 x1 x2 x3 x4 x5 x6 a0 a1 : AV}
theorem F49.g2_eq (X3 : IR) (O : Outs Prop) (t : T AV) : IR.run (F49.g2 X3) C N O K t h nx = IR.run X3 C N (O.blk 0 K) K t h nx := by kernel_rfl
theorem F49.tab : T.get none (.of 49) tbl = some F49 := by kernel_rfl
theorem F49.go : callFn tbl N C (.of 49) [a0, a1] h nx K0 =
 sLen a0 fun v1 =>
 sLen a1 fun v2 =>
 sBin .neq .int v1 v2 fun v3 =>
 sCond v3 (K0 (.bool false) h nx) (IR.run F49.b2 C N (fnO F49.res K0) (IR.run F49.b9 C N (fnO F49.res K0) (retK F49.res K0)) (F49.fr a0 a1 (.bool false) (I 0) v3 .undef .undef) h nx) := by
 rw [callFn_of F49.tab]; kernel_rfl
theorem F49.L2 (Inv : Nat → AV → T Blk → Pa → Prop) {m : Nat} (hm : m < N) (hi : Inv m x3 h nx)
  (step : ∀ (m : Nat) (z2 z3 z5 z6 : AV) (h : T Blk) (nx : Pa) (R : Ks Prop), Inv m z3 h nx → (∀ (m' : Nat) (w2 w3 w5 w6 : AV) (h' : T Blk) (nx' : Pa), m' < m → Inv m' w3 h' nx' → R (F49.fr x0 x1 w2 w3 x4 w5 w6) h' nx' = .ok True) →
   (sLen x0 fun v1 =>
 sBin .lss .int z3 v1 fun v2 =>
 sCond v2 (sIaddr 1 x0 z3 fun v3 =>
 sLoad v3 h fun v4 =>
 sIaddr 1 x1 z3 fun v5 =>
 sLoad v5 h fun v6 =>
 sBin .neq .int v4 v6 fun v7 =>
 sCond v7 (K0 (.bool false) h nx) (sBin .add .int z3 (I 1) fun v8 =>
 R (F49.fr x0 x1 z2 v8 x4 v2 v7) h nx)) (K (F49.fr x0 x1 z2 z3 x4 v2 z6) h nx)) = .ok True) :
  IR.run F49.b2 C N (fnO F49.res K0) K (F49.fr x0 x1 x2 x3 x4 x5 x6) h nx = .ok True := by
 rw [F49.b2, F49.g2_eq, F49.b3]
 refine loop_ok (fun m tm h nx => ∃ z2 z3 z5 z6, tm = (F49.fr x0 x1 z2 z3 x4 z5 z6) ∧ Inv m z3 h nx) ?_ hm ⟨_, _, _, _, rfl, hi⟩
 rintro m tm h nx R ⟨z2, z3, z5, z6, rfl, hi⟩ hR
 refine Eq.trans ?_ (step m z2 z3 z5 z6 h nx R hi fun m' w2 w3 w5 w6 h' nx' hlt hi' => hR m' _ h' nx' hlt ⟨_, _, _, _, rfl, hi'⟩)
 kernel_rfl
theorem F49.k9 : IR.run F49.b9 C N (fnO F49.res K0) K (F49.fr x0 x1 x2 x3 x4 x5 x6) h nx =
 K0 (.bool true) h nx := by kernel_rfl
end Go.Ev
namespace Go.Ev
open Go Go.Proofs
set_option maxRecDepth 100000
variable {N : Nat} {C : Calls Prop} {K0 : Kw Prop} {K R : Ks Prop} {h : T Blk} {nx : Pa} {x0 x1 x2 x3 x4 x5 x6 x7 x8 a0 a1 : AV}
theorem F90.g1_eq (X2 : IR) (O : Outs Prop) (t : T AV) : IR.run (F90.g1 X2) C N O K t h nx = IR.run X2 C N (O.blk 0 K) K t h nx := by kernel_rfl
theorem F90.tab : T.get none (.of 90) tbl = some F90 := by kernel_rfl
theorem F90.go : callFn tbl N C (.of 90) [a0, a1] h nx K0 =
 IR.run F90.b1 C N (fnO F90.res K0) (IR.run F90.b8 C N (fnO F90.res K0) (retK F90.res K0)) (F90.fr a0 a1 (.bool false) (I 0) .undef .undef) h nx := by
 rw [callFn_of F90.tab]; kernel_rfl
theorem F90.L1 (Inv : Nat → AV → T Blk → Pa → Prop) {m : Nat} (hm : m < N) (hi : Inv m x3 h nx)
  (step : ∀ (m : Nat) (z2 z3 z4 z5 : AV) (h : T Blk) (nx : Pa) (R : Ks Prop), Inv m z3 h nx → (∀ (m' : Nat) (w2 w3 w4 w5 : AV) (h' : T Blk) (nx' : Pa), m' < m → Inv m' w3 h' nx' → R (F90.fr x0 x1 w2 w3 w4 w5) h' nx' = .ok True) →
   (sLen x0 fun v1 =>
 sBin .lss .int z3 v1 fun v2 =>
 sCond v2 (sIaddr 1 x0 z3 fun v3 =>
 sLoad v3 h fun v4 =>
 C.fn 49 (.of 49) [v4, x1] h nx fun v5 h6 n7 =>
 sCond v5 (K0 (.bool true) h6 n7) (sBin .add .int z3 (I 1) fun v8 =>
 R (F90.fr x0 x1 z2 v8 v2 v5) h6 n7)) (K (F90.fr x0 x1 z2 z3 v2 z5) h nx)) = .ok True) :
  IR.run F90.b1 C N (fnO F90.res K0) K (F90.fr x0 x1 x2 x3 x4 x5) h nx = .ok True := by
 rw [F90.b1, F90.g1_eq, F90.b2]
 refine loop_ok (fun m tm h nx => ∃ z2 z3 z4 z5, tm = (F90.fr x0 x1 z2 z3 z4 z5) ∧ Inv m z3 h nx) ?_ hm ⟨_, _, _, _, rfl, hi⟩
 rintro m tm h nx R ⟨z2, z3, z4, z5, rfl, hi⟩ hR
 refine Eq.trans ?_ (step m z2 z3 z4 z5 h nx R hi fun m' w2 w3 w4 w5 h' nx' hlt hi' => hR m' _ h' nx' hlt ⟨_, _, _, _, rfl, hi'⟩)
 kernel_rfl
theorem F90.k8 : IR.run F90.b8 C N (fnO F90.res K0) K (F90.fr x0 x1 x2 x3 x4 x5) h nx =
 K0 (.bool false) h nx := by kernel_rfl
theorem F86.g1_eq (X2 : IR) (O : Outs Prop) (t : T AV) : IR.run (F86.g1 X2) C N O K t h nx = IR.run X2 C N (O.blk 0 K) K t h nx := by kernel_rfl
theorem F86.tab : T.get none (.of 86) tbl = some F86 := by kernel_rfl
theorem F86.go : callFn tbl N C (.of 86) [a0] h nx K0 =
 sLen a0 fun v1 =>
 IR.run F86.b1 C N (fnO F86.res K0) (IR.run F86.b8 C N (fnO F86.res K0) (retK F86.res K0)) (F86.fr a0 (I 0) .undef a0 v1 (I 0) .undef .undef) h nx := by
 rw [callFn_of F86.tab]; kernel_rfl
theorem F86.L1 (Inv : Nat → AV → T Blk → Pa → Prop) {m : Nat} (hm : m < N) (hi : Inv m x5 h nx)
  (step : ∀ (m : Nat) (z1 z2 z5 z6 z7 : AV) (h : T Blk) (nx : Pa) (R : Ks Prop), Inv m z5 h nx → (∀ (m' : Nat) (w1 w2 w5 w6 w7 : AV) (h' : T Blk) (nx' : Pa), m' < m → Inv m' w5 h' nx' → R (F86.fr x0 w1 w2 x3 x4 w5 w6 w7) h' nx' = .ok True) →
   (sBin .lss .int z5 x4 fun v1 =>
 sCond v1 (sIaddr 1 x3 z5 fun v2 =>
 sLoad v2 h fun v3 =>
 sBin .neq .int v3 (I 0) fun v4 =>
 sCond v4 (K0 v3 h nx) (sBin .add .int z5 (I 1) fun v5 =>
 R (F86.fr x0 z1 v3 x3 x4 v5 v1 v4) h nx)) (K (F86.fr x0 z1 z2 x3 x4 z5 v1 z7) h nx)) = .ok True) :
  IR.run F86.b1 C N (fnO F86.res K0) K (F86.fr x0 x1 x2 x3 x4 x5 x6 x7) h nx = .ok True := by
 rw [F86.b1, F86.g1_eq, F86.b2]
 refine loop_ok (fun m tm h nx => ∃ z1 z2 z5 z6 z7, tm = (F86.fr x0 z1 z2 x3 x4 z5 z6 z7) ∧ Inv m z5 h nx) ?_ hm ⟨_, _, _, _, _, rfl, hi⟩
 rintro m tm h nx R ⟨z1, z2, z5, z6, z7, rfl, hi⟩ hR
 refine Eq.trans ?_ (step m z1 z2 z5 z6 z7 h nx R hi fun m' w1 w2 w5 w6 w7 h' nx' hlt hi' => hR m' _ h' nx' hlt ⟨_, _, _, _, _, rfl, hi'⟩)
 kernel_rfl
theorem F86.k8 : IR.run F86.b8 C N (fnO F86.res K0) K (F86.fr x0 x1 x2 x3 x4 x5 x6 x7) h nx =
 K0 (I 0) h nx := by kernel_rfl
theorem F88.tab : T.get none (.of 88) tbl = some F88 := by kernel_rfl
theorem F88.go : callFn tbl N C (.of 88) [a0, a1] h nx K0 =
 sCond a0 (K0 a1 h nx) (K0 (I 0) h nx) := by
 rw [callFn_of F88.tab]; kernel_rfl
end Go.Ev
namespace Go.Ev
open Go Go.Proofs
set_option maxRecDepth 100000
variable {N : Nat} {C : Calls Prop} {K0 : Kw Prop} {K R : Ks Prop} {h : T Blk} {nx : Pa} {x0 x1 x2 x3 x4 x5 x6 x7 x8 a0 a1 a2 : AV}
end Go.Ev
namespace Go.Ev
open Go Go.Proofs
set_option maxRecDepth 100000
variable {N : Nat} {C : Calls Prop} {K0 : Kw Prop} {K R : Ks Prop} {h : T Blk} {nx : Pa} {x0 x1 x2 x3 x4 x5 x6 x7 x8 x9 x10 x11 x12 x13 a0 : AV}
end Go.Ev
namespace Go.Ev
open Go Go.Proofs
set_option maxRecDepth 100000
variable {N : Nat} {C : Calls Prop} {K0 : Kw Prop} {K R : Ks Prop} {h : T Blk} {nx : Pa} {x0 x1 x2 x3 x4 x5 x6 x7 a0 a1 a2 : AV}
theorem F87.tab : T.get none (.of 87) tbl = some F87 := by kernel_rfl
theorem F87.go : callFn tbl N C (.of 87) [a0, a1, a2] h nx K0 =
 sBox a0 h nx fun v1 h2 n3 =>
 sBox a1 h2 n3 fun v4 h5 n6 =>
 C.fn 173 (.of 173) [a2, (.fn 174 (.of 174) [v1, v4])] h5 n6 fun v7 h8 n9 =>
 C.fn 88 (.of 88) [v7, (I 3)] h8 n9 fun v10 h11 n12 =>
 K0 v10 h11 n12 := by
 rw [callFn_of F87.tab]; kernel_rfl
theorem F174.tab : T.get none (.of 174) tbl = some F174 := by kernel_rfl
theorem F174.go : callFn tbl N C (.of 174) [a0, a1, a2] h nx K0 =
 sLoad a1 h fun v1 =>
 sBin .lss .int a0 v1 fun v2 =>
 sG v2 false (fun k => k a0) fun v3 =>
 sG v2 false (fun k => sLoad a2 h k) fun v4 =>
 sG v2 false (fun k => sBin .gtr .int v3 v4 k) fun v5 =>
 sPick v2 (.bool true) v5 fun v6 =>
 K0 v6 h nx := by
 rw [callFn_of F174.tab]; kernel_rfl
theorem F173.tab : T.get none (.of 173) tbl = some F173 := by kernel_rfl
theorem F173.go : callFn tbl N C (.of 173) [a0, a1] h nx K0 =
 C.fn 184 (.of 184) [a0, a1] h nx fun v1 h2 n3 =>
 sBin .geq .int v1 (I 0) fun v4 =>
 K0 v4 h2 n3 := by
 rw [callFn_of F173.tab]; kernel_rfl
theorem F184.g1_eq (X2 : IR) (O : Outs Prop) (t : T AV) : IR.run (F184.g1 X2) C N O K t h nx = IR.run X2 C N (O.blk 0 K) K t h nx := by kernel_rfl
theorem F184.tab : T.get none (.of 184) tbl = some F184 := by kernel_rfl
theorem F184.go : callFn tbl N C (.of 184) [a0, a1] h nx K0 =
 sLen a0 fun v1 =>
 IR.run F184.b1 C N (fnO F184.res K0) (IR.run F184.b8 C N (fnO F184.res K0) (retK F184.res K0)) (F184.fr a0 a1 (I 0) .undef v1 (I 0) .undef .undef) h nx := by
 rw [callFn_of F184.tab]; kernel_rfl
theorem F184.L1 (Inv : Nat → AV → T Blk → Pa → Prop) {m : Nat} (hm : m < N) (hi : Inv m x5 h nx)
  (step : ∀ (m : Nat) (z2 z3 z5 z6 z7 : AV) (h : T Blk) (nx : Pa) (R : Ks Prop), Inv m z5 h nx → (∀ (m' : Nat) (w2 w3 w5 w6 w7 : AV) (h' : T Blk) (nx' : Pa), m' < m → Inv m' w5 h' nx' → R (F184.fr x0 x1 w2 w3 x4 w5 w6 w7) h' nx' = .ok True) →
   (sBin .lss .int z5 x4 fun v1 =>
 sCond v1 (sIaddr 1 x0 z5 fun v2 =>
 sLoad v2 h fun v3 =>
 sCall C x1 [v3] h nx fun v4 h5 n6 =>
 sCond v4 (K0 z5 h5 n6) (sBin .add .int z5 (I 1) fun v7 =>
 R (F184.fr x0 x1 z2 z5 x4 v7 v1 v4) h5 n6)) (K (F184.fr x0 x1 z2 z3 x4 z5 v1 z7) h nx)) = .ok True) :
  IR.run F184.b1 C N (fnO F184.res K0) K (F184.fr x0 x1 x2 x3 x4 x5 x6 x7) h nx = .ok True := by
 rw [F184.b1, F184.g1_eq, F184.b2]
 refine loop_ok (fun m tm h nx => ∃ z2 z3 z5 z6 z7, tm = (F184.fr x0 x1 z2 z3 x4 z5 z6 z7) ∧ Inv m z5 h nx) ?_ hm ⟨_, _, _, _, _, rfl, hi⟩
 rintro m tm h nx R ⟨z2, z3, z5, z6, z7, rfl, hi⟩ hR
 refine Eq.trans ?_ (step m z2 z3 z5 z6 z7 h nx R hi fun m' w2 w3 w5 w6 w7 h' nx' hlt hi' => hR m' _ h' nx' hlt ⟨_, _, _, _, _, rfl, hi'⟩)
 kernel_rfl
theorem F184.k8 : IR.run F184.b8 C N (fnO F184.res K0) K (F184.fr x0 x1 x2 x3 x4 x5 x6 x7) h nx =
 K0 (I (-1)) h nx := by kernel_rfl
end Go.Ev
namespace Go.Ev
open Go Go.Proofs
set_option maxRecDepth 100000
variable {N : Nat} {C : Calls Prop} {K0 : Kw Prop} {K R : Ks Prop} {h : T Blk} {nx : Pa} {x0 x1 x2 x3 x4 x5 x6 x7 x8 x9 x10 x11 x12 x13 a0 a1 : AV}
end Go.Ev
namespace Go.Ev
open Go Go.Proofs
set_option maxRecDepth 100000
variable {N : Nat} {C : Calls Prop} {K0 : Kw Prop} {K R : Ks Prop} {h : T Blk} {nx : Pa} {x0 x1 x2 x3 x4 x5 x6 x7 a0 a1 : AV}
theorem F171.tab : T.get none (.of 171) tbl = some F171 := by kernel_rfl
theorem F171.go : callFn tbl N C (.of 171) [a0] h nx K0 =
 sBox a0 h nx fun v1 h2 n3 =>
 K0 (.fn 244 (.of 244) [v1]) h2 n3 := by
 rw [callFn_of F171.tab]; kernel_rfl
theorem F170.tab : T.get none (.of 170) tbl = some F170 := by kernel_rfl
theorem F170.go : callFn tbl N C (.of 170) [a0] h nx K0 =
 C.fn 242 (.of 242) [a0] h nx fun v1 h2 n3 =>
 C.fn 243 (.of 243) [v1] h2 n3 fun v4 h5 n6 =>
 K0 v1 h5 n6 := by
 rw [callFn_of F170.tab]; kernel_rfl
theorem F242.tab : T.get none (.of 242) tbl = some F242 := by kernel_rfl
theorem F242.go : callFn tbl N C (.of 242) [a0] h nx K0 =
 C.fn 282 (.of 282) [.nils, a0] h nx fun v1 h2 n3 =>
 K0 v1 h2 n3 := by
 rw [callFn_of F242.tab]; kernel_rfl
theorem F244.g1_eq (X2 : IR) (O : Outs Prop) (t : T AV) : IR.run (F244.g1 X2) C N O K t h nx = IR.run X2 C N (O.blk 0 K) K t h nx := by kernel_rfl
theorem F244.tab : T.get none (.of 244) tbl = some F244 := by kernel_rfl
theorem F244.go : callFn tbl N C (.of 244) [a0, a1] h nx K0 =
 sLoad a1 h fun v1 =>
 sLen v1 fun v2 =>
 IR.run F244.b1 C N (fnO F244.res K0) (retK F244.res K0) (F244.fr a0 a1 .undef v1 v2 (I 0) .undef .undef) h nx := by
 rw [callFn_of F244.tab]; kernel_rfl
theorem F244.L1 (Inv : Nat → AV → T Blk → Pa → Prop) {m : Nat} (hm : m < N) (hi : Inv m x5 h nx)
  (step : ∀ (m : Nat) (z2 z5 z6 z7 : AV) (h : T Blk) (nx : Pa) (R : Ks Prop), Inv m z5 h nx → (∀ (m' : Nat) (w2 w5 w6 w7 : AV) (h' : T Blk) (nx' : Pa), m' < m → Inv m' w5 h' nx' → R (F244.fr x0 x1 w2 x3 x4 w5 w6 w7) h' nx' = .ok True) →
   (sBin .lss .int z5 x4 fun v1 =>
 sCond v1 (sIaddr 1 x3 z5 fun v2 =>
 sLoad v2 h fun v3 =>
 sCall C x0 [v3] h nx fun v4 h5 n6 =>
 sNot v4 fun v7 =>
 sCond v7 (K0 (.tup []) h5 n6) (sBin .add .int z5 (I 1) fun v8 =>
 R (F244.fr x0 x1 v3 x3 x4 v8 v1 v7) h5 n6)) (K (F244.fr x0 x1 z2 x3 x4 z5 v1 z7) h nx)) = .ok True) :
  IR.run F244.b1 C N (fnO F244.res K0) K (F244.fr x0 x1 x2 x3 x4 x5 x6 x7) h nx = .ok True := by
 rw [F244.b1, F244.g1_eq, F244.b2]
 refine loop_ok (fun m tm h nx => ∃ z2 z5 z6 z7, tm = (F244.fr x0 x1 z2 x3 x4 z5 z6 z7) ∧ Inv m z5 h nx) ?_ hm ⟨_, _, _, _, rfl, hi⟩
 rintro m tm h nx R ⟨z2, z5, z6, z7, rfl, hi⟩ hR
 refine Eq.trans ?_ (step m z2 z5 z6 z7 h nx R hi fun m' w2 w5 w6 w7 h' nx' hlt hi' => hR m' _ h' nx' hlt ⟨_, _, _, _, rfl, hi'⟩)
 kernel_rfl
end Go.Ev
namespace Go.Ev
open Go Go.Proofs
set_option maxRecDepth 100000
variable {N : Nat} {C : Calls Prop} {K0 : Kw Prop} {K R : Ks Prop} {h : T Blk} {nx : Pa} {x0 x1 x2 x3 x4 x5 x6 a0 a1 : AV}
theorem F282.tab : T.get none (.of 282) tbl = some F282 := by kernel_rfl
theorem F282.go : callFn tbl N C (.of 282) [a0, a1] h nx K0 =
 sBox a0 h nx fun v1 h2 n3 =>
 IR.run (.rf (.t (.of 5)) [(.of 6)] F282.b3 F282.b4) C N ((fnO F282.res K0).blk 0 (IR.run F282.b6 C N (fnO F282.res K0) (retK F282.res K0))) (IR.run F282.b6 C N (fnO F282.res K0) (retK F282.res K0)) (F282.fr a0 a1 v1 .nils .undef a1 .undef) h2 n3 := by
 rw [callFn_of F282.tab]; kernel_rfl
theorem F282.k6 : IR.run F282.b6 C N (fnO F282.res K0) K (F282.fr x0 x1 x2 x3 x4 x5 x6) h nx =
 sLoad x2 h fun v1 =>
 K0 v1 h nx := by kernel_rfl
theorem F282.y4 {N : Nat} {C : Calls Prop} {K0 : Kw Prop} {id nx : Pa} {j : Jump} {h h1 : T Blk} {x0 x1 x2 x3 x4 x5 x6 z0 : AV} (hl : T.get .no id h = .loop .ready j (F282.fr x0 x1 x2 x3 x4 x5 x6) [.of 6] F282.b3 F282.b4) (he : h1 = T.set .no (.loop .busy j (F282.fr x0 x1 x2 x3 x4 x5 x6) [.of 6] F282.b3 F282.b4) id h) :
 callYld N C id [z0] h nx K0 =
 sLoad x2 h1 fun v1 =>
 sBslice 1 1 [(I 0)] [(0, 1, z0)] h1 nx fun v2 h3 n4 =>
 sApp 1 8 v1 v2 h3 n4 fun v5 h6 n7 =>
 sStore 1 x2 v5 h6 n7 fun v8 h9 n10 =>
 roundEnd id K0 .none true .e h9 n10 := by
 subst he
 rw [rnd_of hl (tm1 := (F282.fr x0 x1 x2 x3 x4 x5 z0)) (tm2 := (F282.fr x0 x1 x2 x3 z0 x5 z0)) (by intro k; kernel_rfl) (by intro O K h nx; kernel_rfl)]; kernel_rfl
end Go.Ev
namespace Go.Ev
open Go Go.Proofs
set_option maxRecDepth 100000
variable {N : Nat} {C : Calls Prop} {K0 : Kw Prop} {K R : Ks Prop} {h : T Blk} {nx : Pa} {x0 x1 x2 x3 x4 x5 x6 x7 x8 x9 x10 x11 x12 x13 a0 a1 : AV}
theorem F20.g2_eq (X3 : IR) (O : Outs Prop) (t : T AV) : IR.run (F20.g2 X3) C N O K t h nx = IR.run X3 C N (O.blk 0 K) K t h nx := by kernel_rfl
theorem F20.tab : T.get none (.of 20) tbl = some F20 := by kernel_rfl
theorem F20.go : callFn tbl N C (.of 20) [a0] h nx K0 =
 sBox a0 h nx fun v1 h2 n3 =>
 sFaddr 0 v1 fun v4 =>
 sLoad v4 h2 fun v5 =>
 sFaddr 1 v1 fun v6 =>
 sLoad v6 h2 fun v7 =>
 sLen v7 fun v8 =>
 sBin .gtr .int v8 (I 32) fun v9 =>
 sBslice 1 1 [(I 0)] [(0, 1, v5)] h2 n3 fun v10 h11 n12 =>
 (sBin .gtr .int v8 (I 32) fun v36 => sSame v36 v9 ((sLen v7 fun v35 => sSame v35 v8 ((sLoad v6 h11 fun v34 => sSame v34 v7 ((sFaddr 1 v1 fun v33 => sSame v33 v6 (C.fn 87 (.of 87) [(I 1), (I 16), v10] h11 n12 fun v13 h14 n15 =>
 (sBin .gtr .int v8 (I 32) fun v32 => sSame v32 v9 ((sLen v7 fun v31 => sSame v31 v8 ((sLoad v6 h14 fun v30 => sSame v30 v7 ((sFaddr 1 v1 fun v29 => sSame v29 v6 (C.fn 88 (.of 88) [v9, (I 5)] h14 n15 fun v16 h17 n18 =>
 sBslice 1 2 [(I 0)] [(0, 1, v13), (1, 1, v16)] h17 n18 fun v19 h20 n21 =>
 C.fn 86 (.of 86) [v19] h20 n21 fun v22 h23 n24 =>
 sBin .neq .int v22 (I 0) fun v25 =>
 sCond v25 (K0 v22 h23 n24) (sFaddr 1 v1 fun v26 =>
 sLoad v26 h23 fun v27 =>
 sLen v27 fun v28 =>
 IR.run F20.b2 C N (fnO F20.res K0) (IR.run F20.b10 C N (fnO F20.res K0) (retK F20.res K0)) (F20.fr a0 v1 (I 0) v22 .undef .undef .undef .undef v25 v27 v28 (I 0) .undef .undef) h23 n24))))))))))))))))) := by
 rw [callFn_of F20.tab]; kernel_rfl
theorem F20.L2 (Inv : Nat → AV → T Blk → Pa → Prop) {m : Nat} (hm : m < N) (hi : Inv m x11 h nx)
  (step : ∀ (m : Nat) (z2 z4 z5 z6 z7 z11 z12 z13 : AV) (h : T Blk) (nx : Pa) (R : Ks Prop), Inv m z11 h nx → (∀ (m' : Nat) (w2 w4 w5 w6 w7 w11 w12 w13 : AV) (h' : T Blk) (nx' : Pa), m' < m → Inv m' w11 h' nx' → R (F20.fr x0 x1 w2 x3 w4 w5 w6 w7 x8 x9 x10 w11 w12 w13) h' nx' = .ok True) →
   (sBin .lss .int z11 x10 fun v1 =>
 sCond v1 (sIaddr 2 x9 z11 fun v2 =>
 sLoadN 2 v2 h fun v3 =>
 sAlloc [(I 0), (I 0)] h nx fun v4 h5 n6 =>
 sStore 2 v4 v3 h5 n6 fun v7 h8 n9 =>
 sAaddr 1 2 v4 (I 0) fun v10 =>
 sLoad v10 h8 fun v11 =>
 sBin .geq .int v11 (I 0) fun v12 =>
 sG v12 true (fun k => sAaddr 1 2 v4 (I 0) k) fun v13 =>
 sG v12 true (fun k => sLoad v13 h8 k) fun v14 =>
 sG v12 true (fun k => sFaddr 0 x1 k) fun v15 =>
 sG v12 true (fun k => sLoad v15 h8 k) fun v16 =>
 sG v12 true (fun k => sBin .lss .int v14 v16 k) fun v17 =>
 sPick v12 v17 (.bool false) fun v18 =>
 sG v18 true (fun k => sAaddr 1 2 v4 (I 1) k) fun v19 =>
 sG v18 true (fun k => sLoad v19 h8 k) fun v20 =>
 sG v18 true (fun k => sBin .geq .int v20 (I 0) k) fun v21 =>
 sPick v18 v21 (.bool false) fun v22 =>
 sG v22 true (fun k => sAaddr 1 2 v4 (I 1) k) fun v23 =>
 sG v22 true (fun k => sLoad v23 h8 k) fun v24 =>
 sG v22 true (fun k => sFaddr 0 x1 k) fun v25 =>
 sG v22 true (fun k => sLoad v25 h8 k) fun v26 =>
 sG v22 true (fun k => sBin .lss .int v24 v26 k) fun v27 =>
 sPick v22 v27 (.bool false) fun v28 =>
 (IR.run F20.b8 C N (((fnO F20.res K0).blk 0 K).blk 1 (IR.run F20.b9 C N ((fnO F20.res K0).blk 0 K) R)) (IR.run F20.b9 C N ((fnO F20.res K0).blk 0 K) R)) (F20.fr x0 x1 z2 x3 z11 v4 v28 z7 x8 x9 x10 z11 v1 z13) h8 n9) (K (F20.fr x0 x1 z2 x3 z4 z5 z6 z7 x8 x9 x10 z11 v1 z13) h nx)) = .ok True) :
  IR.run F20.b2 C N (fnO F20.res K0) K (F20.fr x0 x1 x2 x3 x4 x5 x6 x7 x8 x9 x10 x11 x12 x13) h nx = .ok True := by
 rw [F20.b2, F20.g2_eq, F20.b3]
 refine loop_ok (fun m tm h nx => ∃ z2 z4 z5 z6 z7 z11 z12 z13, tm = (F20.fr x0 x1 z2 x3 z4 z5 z6 z7 x8 x9 x10 z11 z12 z13) ∧ Inv m z11 h nx) ?_ hm ⟨_, _, _, _, _, _, _, _, rfl, hi⟩
 rintro m tm h nx R ⟨z2, z4, z5, z6, z7, z11, z12, z13, rfl, hi⟩ hR
 refine Eq.trans ?_ (step m z2 z4 z5 z6 z7 z11 z12 z13 h nx R hi fun m' w2 w4 w5 w6 w7 w11 w12 w13 h' nx' hlt hi' => hR m' _ h' nx' hlt ⟨_, _, _, _, _, _, _, _, rfl, hi'⟩)
 kernel_rfl
theorem F20.k10 : IR.run F20.b10 C N (fnO F20.res K0) K (F20.fr x0 x1 x2 x3 x4 x5 x6 x7 x8 x9 x10 x11 x12 x13) h nx =
 K0 (I 0) h nx := by kernel_rfl
theorem F20.k9 {E0 : Ks Prop} : IR.run F20.b9 C N ((fnO F20.res K0).blk 0 E0) K (F20.fr x0 x1 x2 x3 x4 x5 x6 x7 x8 x9 x10 x11 x12 x13) h nx =
 sBin .add .int x11 (I 1) fun v1 =>
 K (F20.fr x0 x1 x2 x3 x4 x5 x6 x7 x8 x9 x10 v1 x12 x13) h nx := by kernel_rfl
theorem F20.k8 {E0 E1 : Ks Prop} : IR.run F20.b8 C N (((fnO F20.res K0).blk 0 E0).blk 1 E1) K (F20.fr x0 x1 x2 x3 x4 x5 x6 x7 x8 x9 x10 x11 x12 x13) h nx =
 sNot x6 fun v1 =>
 sAaddr 1 2 x5 (I 0) fun v2 =>
 sLoad v2 h fun v3 =>
 sAaddr 1 2 x5 (I 1) fun v4 =>
 sLoad v4 h fun v5 =>
 sBin .geq .int v3 v5 fun v6 =>
 sFaddr 1 x1 fun v7 =>
 sLoad v7 h fun v8 =>
 sSlice 2 v8 none (some x4) none fun v9 =>
 sLoadN 2 x5 h fun v10 =>
 C.fn 88 (.of 88) [v1, (I 10)] h nx fun v11 h12 n13 =>
 (sLoadN 2 x5 h12 fun v42 => sSame v42 v10 ((sSlice 2 v8 none (some x4) none fun v41 => sSame v41 v9 (sSame x4 x4 ((sLoad v7 h12 fun v40 => sSame v40 v8 ((sFaddr 1 x1 fun v39 => sSame v39 v7 ((sBin .geq .int v3 v5 fun v38 => sSame v38 v6 ((sLoad v4 h12 fun v37 => sSame v37 v5 ((sAaddr 1 2 x5 (I 1) fun v36 => sSame v36 v4 ((sLoad v2 h12 fun v35 => sSame v35 v3 ((sAaddr 1 2 x5 (I 0) fun v34 => sSame v34 v2 (C.fn 88 (.of 88) [v6, (I 11)] h12 n13 fun v14 h15 n16 =>
 (sLoadN 2 x5 h15 fun v33 => sSame v33 v10 ((sSlice 2 v8 none (some x4) none fun v32 => sSame v32 v9 (sSame x4 x4 ((sLoad v7 h15 fun v31 => sSame v31 v8 ((sFaddr 1 x1 fun v30 => sSame v30 v7 (C.fn 91 (.of 91) [v9, v10] h15 n16 fun v17 h18 n19 =>
 C.fn 88 (.of 88) [v17, (I 9)] h18 n19 fun v20 h21 n22 =>
 sBslice 1 3 [(I 0)] [(0, 1, v11), (1, 1, v14), (2, 1, v20)] h21 n22 fun v23 h24 n25 =>
 C.fn 86 (.of 86) [v23] h24 n25 fun v26 h27 n28 =>
 sBin .neq .int v26 (I 0) fun v29 =>
 sCond v29 (K0 v26 h27 n28) (K (F20.fr x0 x1 x2 x3 x4 x5 x6 v26 x8 x9 x10 x11 x12 v29) h27 n28))))))))))))))))))))))))))))) := by kernel_rfl
theorem F21.g11_eq (X12 : IR) (O : Outs Prop) (t : T AV) : IR.run (F21.g11 X12) C N O K t h nx = IR.run X12 C N (O.blk 2 K) K t h nx := by kernel_rfl
theorem F21.g3_eq (X4 : IR) (O : Outs Prop) (t : T AV) : IR.run (F21.g3 X4) C N O K t h nx = IR.run X4 C N (O.blk 0 K) K t h nx := by kernel_rfl
theorem F21.tab : T.get none (.of 21) tbl = some F21 := by kernel_rfl
theorem F21.go : callFn tbl N C (.of 21) [a0] h nx K0 =
 sBox a0 h nx fun v1 h2 n3 =>
 sFaddr 0 v1 fun v4 =>
 sLoad v4 h2 fun v5 =>
 sBin .lss .int v5 (I 1) fun v6 =>
 sG v6 false (fun k => sFaddr 0 v1 k) fun v7 =>
 sG v6 false (fun k => sLoad v7 h2 k) fun v8 =>
 sG v6 false (fun k => sBin .gtr .int v8 (I 16) k) fun v9 =>
 sPick v6 (.bool true) v9 fun v10 =>
 sCond v10 (K0 (I 3) h2 n3) (sFaddr 1 v1 fun v11 =>
 sLoad v11 h2 fun v12 =>
 sLen v12 fun v13 =>
 sBin .gtr .int v13 (I 32) fun v14 =>
 sCond v14 (K0 (I 5) h2 n3) (IR.run F21.b3 C N (fnO F21.res K0) (IR.run F21.b19 C N (fnO F21.res K0) (retK F21.res K0)) (F21.fr a0 v1 (I 0) (I 0) .undef .undef v10 v14 .undef .undef .undef .undef .undef) h2 n3)) := by
 rw [callFn_of F21.tab]; kernel_rfl
theorem F21.L3 (Inv : Nat → AV → T Blk → Pa → Prop) {m : Nat} (hm : m < N) (hi : Inv m x3 h nx)
  (step : ∀ (m : Nat) (z2 z3 z4 z5 z8 z9 z10 z11 z12 : AV) (h : T Blk) (nx : Pa) (R : Ks Prop), Inv m z3 h nx → (∀ (m' : Nat) (w2 w3 w4 w5 w8 w9 w10 w11 w12 : AV) (h' : T Blk) (nx' : Pa), m' < m → Inv m' w3 h' nx' → R (F21.fr x0 x1 w2 w3 w4 w5 x6 x7 w8 w9 w10 w11 w12) h' nx' = .ok True) →
   (sFaddr 1 x1 fun v1 =>
 sLoad v1 h fun v2 =>
 sLen v2 fun v3 =>
 sBin .lss .int z3 v3 fun v4 =>
 sCond v4 (sFaddr 1 x1 fun v5 =>
 sLoad v5 h fun v6 =>
 sIaddr 2 v6 z3 fun v7 =>
 sLoadN 2 v7 h fun v8 =>
 sAlloc [(I 0), (I 0)] h nx fun v9 h10 n11 =>
 sStore 2 v9 v8 h10 n11 fun v12 h13 n14 =>
 sAaddr 1 2 v9 (I 0) fun v15 =>
 sLoad v15 h13 fun v16 =>
 sBin .lss .int v16 (I 0) fun v17 =>
 sG v17 false (fun k => sAaddr 1 2 v9 (I 0) k) fun v18 =>
 sG v17 false (fun k => sLoad v18 h13 k) fun v19 =>
 sG v17 false (fun k => sFaddr 0 x1 k) fun v20 =>
 sG v17 false (fun k => sLoad v20 h13 k) fun v21 =>
 sG v17 false (fun k => sBin .geq .int v19 v21 k) fun v22 =>
 sPick v17 (.bool true) v22 fun v23 =>
 sG v23 false (fun k => sAaddr 1 2 v9 (I 1) k) fun v24 =>
 sG v23 false (fun k => sLoad v24 h13 k) fun v25 =>
 sG v23 false (fun k => sBin .lss .int v25 (I 0) k) fun v26 =>
 sPick v23 (.bool true) v26 fun v27 =>
 sG v27 false (fun k => sAaddr 1 2 v9 (I 1) k) fun v28 =>
 sG v27 false (fun k => sLoad v28 h13 k) fun v29 =>
 sG v27 false (fun k => sFaddr 0 x1 k) fun v30 =>
 sG v27 false (fun k => sLoad v30 h13 k) fun v31 =>
 sG v27 false (fun k => sBin .geq .int v29 v31 k) fun v32 =>
 sPick v27 (.bool true) v32 fun v33 =>
 sCond v33 (K0 (I 10) h13 n14) ((IR.run F21.b9 C N (((fnO F21.res K0).blk 0 K).blk 1 (IR.run F21.b18 C N ((fnO F21.res K0).blk 0 K) R)) (IR.run F21.b18 C N ((fnO F21.res K0).blk 0 K) R)) (F21.fr x0 x1 z2 z3 v9 z5 x6 x7 v4 v33 z10 z11 z12) h13 n14)) (K (F21.fr x0 x1 z2 z3 z4 z5 x6 x7 v4 z9 z10 z11 z12) h nx)) = .ok True) :
  IR.run F21.b3 C N (fnO F21.res K0) K (F21.fr x0 x1 x2 x3 x4 x5 x6 x7 x8 x9 x10 x11 x12) h nx = .ok True := by
 rw [F21.b3, F21.g3_eq, F21.b4]
 refine loop_ok (fun m tm h nx => ∃ z2 z3 z4 z5 z8 z9 z10 z11 z12, tm = (F21.fr x0 x1 z2 z3 z4 z5 x6 x7 z8 z9 z10 z11 z12) ∧ Inv m z3 h nx) ?_ hm ⟨_, _, _, _, _, _, _, _, _, rfl, hi⟩
 rintro m tm h nx R ⟨z2, z3, z4, z5, z8, z9, z10, z11, z12, rfl, hi⟩ hR
 refine Eq.trans ?_ (step m z2 z3 z4 z5 z8 z9 z10 z11 z12 h nx R hi fun m' w2 w3 w4 w5 w8 w9 w10 w11 w12 h' nx' hlt hi' => hR m' _ h' nx' hlt ⟨_, _, _, _, _, _, _, _, _, rfl, hi'⟩)
 kernel_rfl
theorem F21.k19 : IR.run F21.b19 C N (fnO F21.res K0) K (F21.fr x0 x1 x2 x3 x4 x5 x6 x7 x8 x9 x10 x11 x12) h nx =
 K0 (I 0) h nx := by kernel_rfl
theorem F21.k18 {E0 : Ks Prop} : IR.run F21.b18 C N ((fnO F21.res K0).blk 0 E0) K (F21.fr x0 x1 x2 x3 x4 x5 x6 x7 x8 x9 x10 x11 x12) h nx =
 sBin .add .int x3 (I 1) fun v1 =>
 K (F21.fr x0 x1 x2 v1 x4 x5 x6 x7 x8 x9 x10 x11 x12) h nx := by kernel_rfl
theorem F21.k9 {E0 E1 : Ks Prop} : IR.run F21.b9 C N (((fnO F21.res K0).blk 0 E0).blk 1 E1) K (F21.fr x0 x1 x2 x3 x4 x5 x6 x7 x8 x9 x10 x11 x12) h nx =
 sAaddr 1 2 x4 (I 0) fun v1 =>
 sLoad v1 h fun v2 =>
 sAaddr 1 2 x4 (I 1) fun v3 =>
 sLoad v3 h fun v4 =>
 sBin .geq .int v2 v4 fun v5 =>
 sCond v5 (K0 (I 11) h nx) (IR.run F21.b11 C N (((fnO F21.res K0).blk 0 E0).blk 1 E1) K (F21.fr x0 x1 x2 x3 x4 (I 0) x6 x7 x8 x9 v5 x11 x12) h nx) := by kernel_rfl
theorem F21.L11 {E0 E1 : Ks Prop} (Inv : Nat → AV → T Blk → Pa → Prop) {m : Nat} (hm : m < N) (hi : Inv m x5 h nx)
  (step : ∀ (m : Nat) (z2 z5 z11 z12 : AV) (h : T Blk) (nx : Pa) (R : Ks Prop), Inv m z5 h nx → (∀ (m' : Nat) (w2 w5 w11 w12 : AV) (h' : T Blk) (nx' : Pa), m' < m → Inv m' w5 h' nx' → R (F21.fr x0 x1 w2 x3 x4 w5 x6 x7 x8 x9 x10 w11 w12) h' nx' = .ok True) →
   (sBin .lss .int z5 x3 fun v1 =>
 sCond v1 (sFaddr 1 x1 fun v2 =>
 sLoad v2 h fun v3 =>
 sIaddr 2 v3 z5 fun v4 =>
 sLoadN 2 v4 h fun v5 =>
 sLoadN 2 x4 h fun v6 =>
 sBin .eql (.agg 2) v5 v6 fun v7 =>
 sCond v7 (K0 (I 9) h nx) (sBin .add .int z5 (I 1) fun v8 =>
 R (F21.fr x0 x1 z2 x3 x4 v8 x6 x7 x8 x9 x10 v1 v7) h nx)) (K (F21.fr x0 x1 z2 x3 x4 z5 x6 x7 x8 x9 x10 v1 z12) h nx)) = .ok True) :
  IR.run F21.b11 C N (((fnO F21.res K0).blk 0 E0).blk 1 E1) K (F21.fr x0 x1 x2 x3 x4 x5 x6 x7 x8 x9 x10 x11 x12) h nx = .ok True := by
 rw [F21.b11, F21.g11_eq, F21.b12]
 refine loop_ok (fun m tm h nx => ∃ z2 z5 z11 z12, tm = (F21.fr x0 x1 z2 x3 x4 z5 x6 x7 x8 x9 x10 z11 z12) ∧ Inv m z5 h nx) ?_ hm ⟨_, _, _, _, rfl, hi⟩
 rintro m tm h nx R ⟨z2, z5, z11, z12, rfl, hi⟩ hR
 refine Eq.trans ?_ (step m z2 z5 z11 z12 h nx R hi fun m' w2 w5 w11 w12 h' nx' hlt hi' => hR m' _ h' nx' hlt ⟨_, _, _, _, rfl, hi'⟩)
 kernel_rfl
theorem F91.tab : T.get none (.of 91) tbl = some F91 := by kernel_rfl
theorem F91.go : callFn tbl N C (.of 91) [a0, a1] h nx K0 =
 sBox a1 h nx fun v1 h2 n3 =>
 sLoadN 2 v1 h2 fun v4 =>
 C.fn 178 (.of 178) [a0, v4] h2 n3 fun v5 h6 n7 =>
 sBin .geq .int v5 (I 0) fun v8 =>
 K0 v8 h6 n7 := by
 rw [callFn_of F91.tab]; kernel_rfl
theorem F178.g1_eq (X2 : IR) (O : Outs Prop) (t : T AV) : IR.run (F178.g1 X2) C N O K t h nx = IR.run X2 C N (O.blk 0 K) K t h nx := by kernel_rfl
theorem F178.tab : T.get none (.of 178) tbl = some F178 := by kernel_rfl
theorem F178.go : callFn tbl N C (.of 178) [a0, a1] h nx K0 =
 sBox a1 h nx fun v1 h2 n3 =>
 sLen a0 fun v4 =>
 IR.run F178.b1 C N (fnO F178.res K0) (IR.run F178.b8 C N (fnO F178.res K0) (retK F178.res K0)) (F178.fr a0 a1 v1 (I 0) .undef v4 (I 0) .undef .undef) h2 n3 := by
 rw [callFn_of F178.tab]; kernel_rfl
theorem F178.L1 (Inv : Nat → AV → T Blk → Pa → Prop) {m : Nat} (hm : m < N) (hi : Inv m x6 h nx)
  (step : ∀ (m : Nat) (z3 z4 z6 z7 z8 : AV) (h : T Blk) (nx : Pa) (R : Ks Prop), Inv m z6 h nx → (∀ (m' : Nat) (w3 w4 w6 w7 w8 : AV) (h' : T Blk) (nx' : Pa), m' < m → Inv m' w6 h' nx' → R (F178.fr x0 x1 x2 w3 w4 x5 w6 w7 w8) h' nx' = .ok True) →
   (sBin .lss .int z6 x5 fun v1 =>
 sCond v1 (sLoadN 2 x2 h fun v2 =>
 sIaddr 2 x0 z6 fun v3 =>
 sLoadN 2 v3 h fun v4 =>
 sBin .eql (.agg 2) v2 v4 fun v5 =>
 sCond v5 (K0 z6 h nx) (sBin .add .int z6 (I 1) fun v6 =>
 R (F178.fr x0 x1 x2 z3 z6 x5 v6 v1 v5) h nx)) (K (F178.fr x0 x1 x2 z3 z4 x5 z6 v1 z8) h nx)) = .ok True) :
  IR.run F178.b1 C N (fnO F178.res K0) K (F178.fr x0 x1 x2 x3 x4 x5 x6 x7 x8) h nx = .ok True := by
 rw [F178.b1, F178.g1_eq, F178.b2]
 refine loop_ok (fun m tm h nx => ∃ z3 z4 z6 z7 z8, tm = (F178.fr x0 x1 x2 z3 z4 x5 z6 z7 z8) ∧ Inv m z6 h nx) ?_ hm ⟨_, _, _, _, _, rfl, hi⟩
 rintro m tm h nx R ⟨z3, z4, z6, z7, z8, rfl, hi⟩ hR
 refine Eq.trans ?_ (step m z3 z4 z6 z7 z8 h nx R hi fun m' w3 w4 w6 w7 w8 h' nx' hlt hi' => hR m' _ h' nx' hlt ⟨_, _, _, _, _, rfl, hi'⟩)
 kernel_rfl
theorem F178.k8 : IR.run F178.b8 C N (fnO F178.res K0) K (F178.fr x0 x1 x2 x3 x4 x5 x6 x7 x8) h nx =
 K0 (I (-1)) h nx := by kernel_rfl
end Go.Ev
namespace Go.Ev
open Go Go.Proofs
set_option maxRecDepth 100000
variable {N : Nat} {C : Calls Prop} {K0 : Kw Prop} {K R : Ks Prop} {h : T Blk} {nx : Pa} {x0 x1 x2 x3 x4 x5 x6 x7 x8 x9 x10 a0 a1 : AV}
theorem F46.g7_eq (X8 : IR) (O : Outs Prop) (t : T AV) : IR.run (F46.g7 X8) C N O K t h nx = IR.run X8 C N (O.blk 2 K) K t h nx := by kernel_rfl
theorem F46.g1_eq (X2 : IR) (O : Outs Prop) (t : T AV) : IR.run (F46.g1 X2) C N O K t h nx = IR.run X2 C N (O.blk 0 K) K t h nx := by kernel_rfl
theorem F46.tab : T.get none (.of 46) tbl = some F46 := by kernel_rfl
theorem F46.go : callFn tbl N C (.of 46) [a0] h nx K0 =
 IR.run F46.b1 C N (fnO F46.res K0) (IR.run F46.b16 C N (fnO F46.res K0) (retK F46.res K0)) (F46.fr a0 (.bool false) (I 1) .undef .undef .undef .undef .undef) h nx := by
 rw [callFn_of F46.tab]; kernel_rfl
theorem F46.L1 (Inv : Nat → AV → T Blk → Pa → Prop) {m : Nat} (hm : m < N) (hi : Inv m x2 h nx)
  (step : ∀ (m : Nat) (z1 z2 z3 z4 z5 z6 z7 : AV) (h : T Blk) (nx : Pa) (R : Ks Prop), Inv m z2 h nx → (∀ (m' : Nat) (w1 w2 w3 w4 w5 w6 w7 : AV) (h' : T Blk) (nx' : Pa), m' < m → Inv m' w2 h' nx' → R (F46.fr x0 w1 w2 w3 w4 w5 w6 w7) h' nx' = .ok True) →
   (sLen x0 fun v1 =>
 sBin .leq .int z2 v1 fun v2 =>
 sCond v2 (IR.run F46.b7 C N (((fnO F46.res K0).blk 0 K).blk 1 (IR.run F46.b15 C N ((fnO F46.res K0).blk 0 K) R)) (IR.run F46.b14 C N (((fnO F46.res K0).blk 0 K).blk 1 (IR.run F46.b15 C N ((fnO F46.res K0).blk 0 K) R)) (IR.run F46.b15 C N ((fnO F46.res K0).blk 0 K) R)) (F46.fr x0 z1 z2 (.bool false) (I 0) v2 z6 z7) h nx) (K (F46.fr x0 z1 z2 z3 z4 v2 z6 z7) h nx)) = .ok True) :
  IR.run F46.b1 C N (fnO F46.res K0) K (F46.fr x0 x1 x2 x3 x4 x5 x6 x7) h nx = .ok True := by
 rw [F46.b1, F46.g1_eq, F46.b2]
 refine loop_ok (fun m tm h nx => ∃ z1 z2 z3 z4 z5 z6 z7, tm = (F46.fr x0 z1 z2 z3 z4 z5 z6 z7) ∧ Inv m z2 h nx) ?_ hm ⟨_, _, _, _, _, _, _, rfl, hi⟩
 rintro m tm h nx R ⟨z1, z2, z3, z4, z5, z6, z7, rfl, hi⟩ hR
 refine Eq.trans ?_ (step m z1 z2 z3 z4 z5 z6 z7 h nx R hi fun m' w1 w2 w3 w4 w5 w6 w7 h' nx' hlt hi' => hR m' _ h' nx' hlt ⟨_, _, _, _, _, _, _, rfl, hi'⟩)
 kernel_rfl
theorem F46.k16 : IR.run F46.b16 C N (fnO F46.res K0) K (F46.fr x0 x1 x2 x3 x4 x5 x6 x7) h nx =
 K0 (.bool true) h nx := by kernel_rfl
theorem F46.k15 {E0 : Ks Prop} : IR.run F46.b15 C N ((fnO F46.res K0).blk 0 E0) K (F46.fr x0 x1 x2 x3 x4 x5 x6 x7) h nx =
 sBin .add .int x2 (I 1) fun v1 =>
 K (F46.fr x0 x1 v1 x3 x4 x5 x6 x7) h nx := by kernel_rfl
theorem F46.L7 {E0 E1 : Ks Prop} (Inv : Nat → AV → AV → T Blk → Pa → Prop) {m : Nat} (hm : m < N) (hi : Inv m x3 x4 h nx)
  (step : ∀ (m : Nat) (z3 z4 z6 : AV) (h : T Blk) (nx : Pa) (R : Ks Prop), Inv m z3 z4 h nx → (∀ (m' : Nat) (w3 w4 w6 : AV) (h' : T Blk) (nx' : Pa), m' < m → Inv m' w3 w4 h' nx' → R (F46.fr x0 x1 x2 w3 w4 x5 w6 x7) h' nx' = .ok True) →
   (sLen x0 fun v1 =>
 sBin .lss .int z4 v1 fun v2 =>
 sCond v2 (sG z3 false (fun k => k x0) fun v3 =>
 sG z3 false (fun k => k z4) fun v4 =>
 sG z3 false (fun k => sIaddr 1 v3 v4 k) fun v5 =>
 sG z3 false (fun k => sLoad v5 h k) fun v6 =>
 sG z3 false (fun k => k x2) fun v7 =>
 sG z3 false (fun k => sBin .eql .int v6 v7 k) fun v8 =>
 sPick z3 (.bool true) v8 fun v9 =>
 sBin .add .int z4 (I 1) fun v10 =>
 R (F46.fr x0 x1 x2 v9 v10 x5 v2 x7) h nx) (K (F46.fr x0 x1 x2 z3 z4 x5 v2 x7) h nx)) = .ok True) :
  IR.run F46.b7 C N (((fnO F46.res K0).blk 0 E0).blk 1 E1) K (F46.fr x0 x1 x2 x3 x4 x5 x6 x7) h nx = .ok True := by
 rw [F46.b7, F46.g7_eq, F46.b8]
 refine loop_ok (fun m tm h nx => ∃ z3 z4 z6, tm = (F46.fr x0 x1 x2 z3 z4 x5 z6 x7) ∧ Inv m z3 z4 h nx) ?_ hm ⟨_, _, _, rfl, hi⟩
 rintro m tm h nx R ⟨z3, z4, z6, rfl, hi⟩ hR
 refine Eq.trans ?_ (step m z3 z4 z6 h nx R hi fun m' w3 w4 w6 h' nx' hlt hi' => hR m' _ h' nx' hlt ⟨_, _, _, rfl, hi'⟩)
 kernel_rfl
theorem F46.k14 {E0 E1 : Ks Prop} : IR.run F46.b14 C N (((fnO F46.res K0).blk 0 E0).blk 1 E1) K (F46.fr x0 x1 x2 x3 x4 x5 x6 x7) h nx =
 sNot x3 fun v1 =>
 sCond v1 (K0 (.bool false) h nx) (K (F46.fr x0 x1 x2 x3 x4 x5 x6 v1) h nx) := by kernel_rfl
theorem F136.g1_eq (X2 : IR) (O : Outs Prop) (t : T AV) : IR.run (F136.g1 X2) C N O K t h nx = IR.run X2 C N (O.blk 0 K) K t h nx := by kernel_rfl
theorem F136.tab : T.get none (.of 136) tbl = some F136 := by kernel_rfl
theorem F136.go : callFn tbl N C (.of 136) [a0] h nx K0 =
 C.fn 171 (.of 171) [a0] h nx fun v1 h2 n3 =>
 C.fn 170 (.of 170) [v1] h2 n3 fun v4 h5 n6 =>
 sLen v4 fun v7 =>
 IR.run F136.b1 C N (fnO F136.res K0) (IR.run F136.b8 C N (fnO F136.res K0) (retK F136.res K0)) (F136.fr a0 (.bool false) .undef .undef v4 v7 (I 0) .undef .undef) h5 n6 := by
 rw [callFn_of F136.tab]; kernel_rfl
theorem F136.L1 (Inv : Nat → AV → T Blk → Pa → Prop) {m : Nat} (hm : m < N) (hi : Inv m x6 h nx)
  (step : ∀ (m : Nat) (z1 z2 z3 z6 z7 z8 : AV) (h : T Blk) (nx : Pa) (R : Ks Prop), Inv m z6 h nx → (∀ (m' : Nat) (w1 w2 w3 w6 w7 w8 : AV) (h' : T Blk) (nx' : Pa), m' < m → Inv m' w6 h' nx' → R (F136.fr x0 w1 w2 w3 x4 x5 w6 w7 w8) h' nx' = .ok True) →
   (sBin .lss .int z6 x5 fun v1 =>
 sCond v1 (sIaddr 1 x4 z6 fun v2 =>
 sLoad v2 h fun v3 =>
 sBin .add .int z6 (I 1) fun v4 =>
 sBin .neq .int v3 v4 fun v5 =>
 sCond v5 (K0 (.bool false) h nx) (sBin .add .int z6 (I 1) fun v6 =>
 R (F136.fr x0 z1 z6 v3 x4 x5 v6 v1 v5) h nx)) (K (F136.fr x0 z1 z2 z3 x4 x5 z6 v1 z8) h nx)) = .ok True) :
  IR.run F136.b1 C N (fnO F136.res K0) K (F136.fr x0 x1 x2 x3 x4 x5 x6 x7 x8) h nx = .ok True := by
 rw [F136.b1, F136.g1_eq, F136.b2]
 refine loop_ok (fun m tm h nx => ∃ z1 z2 z3 z6 z7 z8, tm = (F136.fr x0 z1 z2 z3 x4 x5 z6 z7 z8) ∧ Inv m z6 h nx) ?_ hm ⟨_, _, _, _, _, _, rfl, hi⟩
 rintro m tm h nx R ⟨z1, z2, z3, z6, z7, z8, rfl, hi⟩ hR
 refine Eq.trans ?_ (step m z1 z2 z3 z6 z7 z8 h nx R hi fun m' w1 w2 w3 w6 w7 w8 h' nx' hlt hi' => hR m' _ h' nx' hlt ⟨_, _, _, _, _, _, rfl, hi'⟩)
 kernel_rfl
theorem F136.k8 : IR.run F136.b8 C N (fnO F136.res K0) K (F136.fr x0 x1 x2 x3 x4 x5 x6 x7 x8) h nx =
 K0 (.bool true) h nx := by kernel_rfl
end Go.Ev
