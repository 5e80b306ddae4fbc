import Derived.Test.YtfgpjkchdelphaaGreatDoorIrT
import Derived.KernelRfl
set_option linter.unusedSimpArgs false
set_option linter.unusedVariables false
namespace Go.Ev
open Go Go.Proofs
set_option maxRecDepth 100000
variable {N : Nat} {C : Calls Prop} {K0 : Kw Prop} {K R : Ks Prop} {h : T Blk} {nx : Pa} {x0 x1 x2 x3 x4 x5 x6 a0 a1 : AV}
theorem F49.g2_eq (X3 : IR) (O : Outs Prop) (t : T AV) : IR.run (F49.g2 X3) C N O K t h nx = IR.run X3 C N (O.blk 0 K) K t h nx := by kernel_rfl
theorem F49.tab : T.get none (.of 49) tbl = some F49 := by kernel_rfl
theorem F49.go : callFn tbl N C (.of 49) [a0, a1] h nx K0 =
 sLen a0 fun v1 =>
 sLen a1 fun v2 =>
 sBin .neq .int v1 v2 fun v3 =>
 sCond v3 (K0 (.bool false) h nx) (IR.run F49.b2 C N (fnO F49.res K0) (IR.run F49.b9 C N (fnO F49.res K0) (retK F49.res K0)) (F49.fr a0 a1 (.bool false) (I 0) v3 .undef .undef) h nx) := by
 rw [callFn_of F49.tab]; kernel_rfl
theorem F49.L2 (Inv : Nat → AV → T Blk → Pa → Prop) {m : Nat} (hm : m < N) (hi : Inv m x3 h nx)
  (step : ∀ (m : Nat) (z2 z3 z5 z6 : AV) (h : T Blk) (nx : Pa) (R : Ks Prop), Inv m z3 h nx → (∀ (m' : Nat) (w2 w3 w5 w6 : AV) (h' : T Blk) (nx' : Pa), m' < m → Inv m' w3 h' nx' → R (F49.fr x0 x1 w2 w3 x4 w5 w6) h' nx' = .ok True) →
   (sLen x0 fun v1 =>
 sBin .lss .int z3 v1 fun v2 =>
 sCond v2 (sIaddr 1 x0 z3 fun v3 =>
 sLoad v3 h fun v4 =>
 sIaddr 1 x1 z3 fun v5 =>
 sLoad v5 h fun v6 =>
 sBin .neq .int v4 v6 fun v7 =>
 sCond v7 (K0 (.bool false) h nx) (sBin .add .int z3 (I 1) fun v8 =>
 R (F49.fr x0 x1 z2 v8 x4 v2 v7) h nx)) (K (F49.fr x0 x1 z2 z3 x4 v2 z6) h nx)) = .ok True) :
  IR.run F49.b2 C N (fnO F49.res K0) K (F49.fr x0 x1 x2 x3 x4 x5 x6) h nx = .ok True := by
 rw [F49.b2, F49.g2_eq, F49.b3]
 refine loop_ok (fun m tm h nx => ∃ z2 z3 z5 z6, tm = (F49.fr x0 x1 z2 z3 x4 z5 z6) ∧ Inv m z3 h nx) ?_ hm ⟨_, _, _, _, rfl, hi⟩
 rintro m tm h nx R ⟨z2, z3, z5, z6, rfl, hi⟩ hR
 refine Eq.trans ?_ (step m z2 z3 z5 z6 h nx R hi fun m' w2 w3 w5 w6 h' nx' hlt hi' => hR m' _ h' nx' hlt ⟨_, _, _, _, rfl, hi'⟩)
 kernel_rfl
theorem F49.k9 : IR.run F49.b9 C N (fnO F49.res K0) K (F49.fr x0 x1 x2 x3 x4 x5 x6) h nx =
 K0 (.bool true) h nx := by kernel_rfl
end Go.Ev
namespace Go.Ev
open Go Go.Proofs
set_option maxRecDepth 100000
variable {N : Nat} {C : Calls Prop} {K0 : Kw Prop} {K R : Ks Prop} {h : T Blk} {nx : Pa} {x0 x1 x2 x3 x4 x5 x6 x7 x8 a0 a1 : AV}
theorem F176.tab : T.get none (.of 176) tbl = some F176 := by kernel_rfl
theorem F176.go : callFn tbl N C (.of 176) [a0, a1] h nx K0 =
 sLoad a1 h fun v1 =>
 C.fn 177 (.of 177) [a0, v1] h nx fun v2 h3 n4 =>
 K0 v2 h3 n4 := by
 rw [callFn_of F176.tab]; kernel_rfl
theorem F175.tab : T.get none (.of 175) tbl = some F175 := by kernel_rfl
theorem F175.go : callFn tbl N C (.of 175) [a0, a1] h nx K0 =
 C.fn 245 (.of 245) [a0, a1] h nx fun v1 h2 n3 =>
 sBin .geq .int v1 (I 0) fun v4 =>
 K0 v4 h2 n3 := by
 rw [callFn_of F175.tab]; kernel_rfl
theorem F245.g1_eq (X2 : IR) (O : Outs Prop) (t : T AV) : IR.run (F245.g1 X2) C N O K t h nx = IR.run X2 C N (O.blk 0 K) K t h nx := by kernel_rfl
theorem F245.tab : T.get none (.of 245) tbl = some F245 := by kernel_rfl
theorem F245.go : callFn tbl N C (.of 245) [a0, a1] h nx K0 =
 sLen a0 fun v1 =>
 IR.run F245.b1 C N (fnO F245.res K0) (IR.run F245.b8 C N (fnO F245.res K0) (retK F245.res K0)) (F245.fr a0 a1 (I 0) .undef v1 (I 0) .undef .undef) h nx := by
 rw [callFn_of F245.tab]; kernel_rfl
theorem F245.L1 (Inv : Nat → AV → T Blk → Pa → Prop) {m : Nat} (hm : m < N) (hi : Inv m x5 h nx)
  (step : ∀ (m : Nat) (z2 z3 z5 z6 z7 : AV) (h : T Blk) (nx : Pa) (R : Ks Prop), Inv m z5 h nx → (∀ (m' : Nat) (w2 w3 w5 w6 w7 : AV) (h' : T Blk) (nx' : Pa), m' < m → Inv m' w5 h' nx' → R (F245.fr x0 x1 w2 w3 x4 w5 w6 w7) h' nx' = .ok True) →
   (sBin .lss .int z5 x4 fun v1 =>
 sCond v1 (sIaddr 1 x0 z5 fun v2 =>
 sLoad v2 h fun v3 =>
 sCall C x1 [v3] h nx fun v4 h5 n6 =>
 sCond v4 (K0 z5 h5 n6) (sBin .add .int z5 (I 1) fun v7 =>
 R (F245.fr x0 x1 z2 z5 x4 v7 v1 v4) h5 n6)) (K (F245.fr x0 x1 z2 z3 x4 z5 v1 z7) h nx)) = .ok True) :
  IR.run F245.b1 C N (fnO F245.res K0) K (F245.fr x0 x1 x2 x3 x4 x5 x6 x7) h nx = .ok True := by
 rw [F245.b1, F245.g1_eq, F245.b2]
 refine loop_ok (fun m tm h nx => ∃ z2 z3 z5 z6 z7, tm = (F245.fr x0 x1 z2 z3 x4 z5 z6 z7) ∧ Inv m z5 h nx) ?_ hm ⟨_, _, _, _, _, rfl, hi⟩
 rintro m tm h nx R ⟨z2, z3, z5, z6, z7, rfl, hi⟩ hR
 refine Eq.trans ?_ (step m z2 z3 z5 z6 z7 h nx R hi fun m' w2 w3 w5 w6 w7 h' nx' hlt hi' => hR m' _ h' nx' hlt ⟨_, _, _, _, _, rfl, hi'⟩)
 kernel_rfl
theorem F245.k8 : IR.run F245.b8 C N (fnO F245.res K0) K (F245.fr x0 x1 x2 x3 x4 x5 x6 x7) h nx =
 K0 (I (-1)) h nx := by kernel_rfl
theorem F177.g2_eq (X3 : IR) (O : Outs Prop) (t : T AV) : IR.run (F177.g2 X3) C N O K t h nx = IR.run X3 C N (O.blk 0 K) K t h nx := by kernel_rfl
theorem F177.tab : T.get none (.of 177) tbl = some F177 := by kernel_rfl
theorem F177.go : callFn tbl N C (.of 177) [a0, a1] h nx K0 =
 sLen a0 fun v1 =>
 sLen a1 fun v2 =>
 sBin .neq .int v1 v2 fun v3 =>
 sCond v3 (K0 (.bool false) h nx) (sLen a0 fun v4 =>
 IR.run F177.b2 C N (fnO F177.res K0) (IR.run F177.b9 C N (fnO F177.res K0) (retK F177.res K0)) (F177.fr a0 a1 (.bool false) .undef v3 v4 (I 0) .undef .undef) h nx) := by
 rw [callFn_of F177.tab]; kernel_rfl
theorem F177.L2 (Inv : Nat → AV → T Blk → Pa → Prop) {m : Nat} (hm : m < N) (hi : Inv m x6 h nx)
  (step : ∀ (m : Nat) (z2 z3 z6 z7 z8 : AV) (h : T Blk) (nx : Pa) (R : Ks Prop), Inv m z6 h nx → (∀ (m' : Nat) (w2 w3 w6 w7 w8 : AV) (h' : T Blk) (nx' : Pa), m' < m → Inv m' w6 h' nx' → R (F177.fr x0 x1 w2 w3 x4 x5 w6 w7 w8) h' nx' = .ok True) →
   (sBin .lss .int z6 x5 fun v1 =>
 sCond v1 (sIaddr 1 x0 z6 fun v2 =>
 sLoad v2 h fun v3 =>
 sIaddr 1 x1 z6 fun v4 =>
 sLoad v4 h fun v5 =>
 sBin .neq .int v3 v5 fun v6 =>
 sCond v6 (K0 (.bool false) h nx) (sBin .add .int z6 (I 1) fun v7 =>
 R (F177.fr x0 x1 z2 z6 x4 x5 v7 v1 v6) h nx)) (K (F177.fr x0 x1 z2 z3 x4 x5 z6 v1 z8) h nx)) = .ok True) :
  IR.run F177.b2 C N (fnO F177.res K0) K (F177.fr x0 x1 x2 x3 x4 x5 x6 x7 x8) h nx = .ok True := by
 rw [F177.b2, F177.g2_eq, F177.b3]
 refine loop_ok (fun m tm h nx => ∃ z2 z3 z6 z7 z8, tm = (F177.fr x0 x1 z2 z3 x4 x5 z6 z7 z8) ∧ Inv m z6 h nx) ?_ hm ⟨_, _, _, _, _, rfl, hi⟩
 rintro m tm h nx R ⟨z2, z3, z6, z7, z8, rfl, hi⟩ hR
 refine Eq.trans ?_ (step m z2 z3 z6 z7 z8 h nx R hi fun m' w2 w3 w6 w7 w8 h' nx' hlt hi' => hR m' _ h' nx' hlt ⟨_, _, _, _, _, rfl, hi'⟩)
 kernel_rfl
theorem F177.k9 : IR.run F177.b9 C N (fnO F177.res K0) K (F177.fr x0 x1 x2 x3 x4 x5 x6 x7 x8) h nx =
 K0 (.bool true) h nx := by kernel_rfl
theorem F90.g1_eq (X2 : IR) (O : Outs Prop) (t : T AV) : IR.run (F90.g1 X2) C N O K t h nx = IR.run X2 C N (O.blk 0 K) K t h nx := by kernel_rfl
theorem F90.tab : T.get none (.of 90) tbl = some F90 := by kernel_rfl
theorem F90.go : callFn tbl N C (.of 90) [a0, a1] h nx K0 =
 IR.run F90.b1 C N (fnO F90.res K0) (IR.run F90.b8 C N (fnO F90.res K0) (retK F90.res K0)) (F90.fr a0 a1 (.bool false) (I 0) .undef .undef) h nx := by
 rw [callFn_of F90.tab]; kernel_rfl
theorem F90.L1 (Inv : Nat → AV → T Blk → Pa → Prop) {m : Nat} (hm : m < N) (hi : Inv m x3 h nx)
  (step : ∀ (m : Nat) (z2 z3 z4 z5 : AV) (h : T Blk) (nx : Pa) (R : Ks Prop), Inv m z3 h nx → (∀ (m' : Nat) (w2 w3 w4 w5 : AV) (h' : T Blk) (nx' : Pa), m' < m → Inv m' w3 h' nx' → R (F90.fr x0 x1 w2 w3 w4 w5) h' nx' = .ok True) →
   (sLen x0 fun v1 =>
 sBin .lss .int z3 v1 fun v2 =>
 sCond v2 (sIaddr 1 x0 z3 fun v3 =>
 sLoad v3 h fun v4 =>
 C.fn 49 (.of 49) [v4, x1] h nx fun v5 h6 n7 =>
 sCond v5 (K0 (.bool true) h6 n7) (sBin .add .int z3 (I 1) fun v8 =>
 R (F90.fr x0 x1 z2 v8 v2 v5) h6 n7)) (K (F90.fr x0 x1 z2 z3 v2 z5) h nx)) = .ok True) :
  IR.run F90.b1 C N (fnO F90.res K0) K (F90.fr x0 x1 x2 x3 x4 x5) h nx = .ok True := by
 rw [F90.b1, F90.g1_eq, F90.b2]
 refine loop_ok (fun m tm h nx => ∃ z2 z3 z4 z5, tm = (F90.fr x0 x1 z2 z3 z4 z5) ∧ Inv m z3 h nx) ?_ hm ⟨_, _, _, _, rfl, hi⟩
 rintro m tm h nx R ⟨z2, z3, z4, z5, rfl, hi⟩ hR
 refine Eq.trans ?_ (step m z2 z3 z4 z5 h nx R hi fun m' w2 w3 w4 w5 h' nx' hlt hi' => hR m' _ h' nx' hlt ⟨_, _, _, _, rfl, hi'⟩)
 kernel_rfl
theorem F90.k8 : IR.run F90.b8 C N (fnO F90.res K0) K (F90.fr x0 x1 x2 x3 x4 x5) h nx =
 K0 (.bool false) h nx := by kernel_rfl
theorem F86.g1_eq (X2 : IR) (O : Outs Prop) (t : T AV) : IR.run (F86.g1 X2) C N O K t h nx = IR.run X2 C N (O.blk 0 K) K t h nx := by kernel_rfl
theorem F86.tab : T.get none (.of 86) tbl = some F86 := by kernel_rfl
theorem F86.go : callFn tbl N C (.of 86) [a0] h nx K0 =
 sLen a0 fun v1 =>
 IR.run F86.b1 C N (fnO F86.res K0) (IR.run F86.b8 C N (fnO F86.res K0) (retK F86.res K0)) (F86.fr a0 (I 0) .undef a0 v1 (I 0) .undef .undef) h nx := by
 rw [callFn_of F86.tab]; kernel_rfl
theorem F86.L1 (Inv : Nat → AV → T Blk → Pa → Prop) {m : Nat} (hm : m < N) (hi : Inv m x5 h nx)
  (step : ∀ (m : Nat) (z1 z2 z5 z6 z7 : AV) (h : T Blk) (nx : Pa) (R : Ks Prop), Inv m z5 h nx → (∀ (m' : Nat) (w1 w2 w5 w6 w7 : AV) (h' : T Blk) (nx' : Pa), m' < m → Inv m' w5 h' nx' → R (F86.fr x0 w1 w2 x3 x4 w5 w6 w7) h' nx' = .ok True) →
   (sBin .lss .int z5 x4 fun v1 =>
 sCond v1 (sIaddr 1 x3 z5 fun v2 =>
 sLoad v2 h fun v3 =>
 sBin .neq .int v3 (I 0) fun v4 =>
 sCond v4 (K0 v3 h nx) (sBin .add .int z5 (I 1) fun v5 =>
 R (F86.fr x0 z1 v3 x3 x4 v5 v1 v4) h nx)) (K (F86.fr x0 z1 z2 x3 x4 z5 v1 z7) h nx)) = .ok True) :
  IR.run F86.b1 C N (fnO F86.res K0) K (F86.fr x0 x1 x2 x3 x4 x5 x6 x7) h nx = .ok True := by
 rw [F86.b1, F86.g1_eq, F86.b2]
 refine loop_ok (fun m tm h nx => ∃ z1 z2 z5 z6 z7, tm = (F86.fr x0 z1 z2 x3 x4 z5 z6 z7) ∧ Inv m z5 h nx) ?_ hm ⟨_, _, _, _, _, rfl, hi⟩
 rintro m tm h nx R ⟨z1, z2, z5, z6, z7, rfl, hi⟩ hR
 refine Eq.trans ?_ (step m z1 z2 z5 z6 z7 h nx R hi fun m' w1 w2 w5 w6 w7 h' nx' hlt hi' => hR m' _ h' nx' hlt ⟨_, _, _, _, _, rfl, hi'⟩)
 kernel_rfl
theorem F86.k8 : IR.run F86.b8 C N (fnO F86.res K0) K (F86.fr x0 x1 x2 x3 x4 x5 x6 x7) h nx =
 K0 (I 0) h nx := by kernel_rfl
theorem F88.tab : T.get none (.of 88) tbl = some F88 := by kernel_rfl
theorem F88.go : callFn tbl N C (.of 88) [a0, a1] h nx K0 =
 sCond a0 (K0 a1 h nx) (K0 (I 0) h nx) := by
 rw [callFn_of F88.tab]; kernel_rfl
end Go.Ev
namespace Go.Ev
open Go Go.Proofs
set_option maxRecDepth 100000
variable {N : Nat} {C : Calls Prop} {K0 : Kw Prop} {K R : Ks Prop} {h : T Blk} {nx : Pa} {x0 x1 x2 x3 x4 x5 x6 x7 x8 a0 a1 a2 : AV}
theorem F16.g2_eq (X3 : IR) (O : Outs Prop) (t : T AV) : IR.run (F16.g2 X3) C N O K t h nx = IR.run X3 C N (O.blk 0 K) K t h nx := by kernel_rfl
theorem F16.tab : T.get none (.of 16) tbl = some F16 := by kernel_rfl
theorem F16.go : callFn tbl N C (.of 16) [a0, a1, a2] h nx K0 =
 sBox a0 h nx fun v1 h2 n3 =>
 sFaddr 1 v1 fun v4 =>
 sLoad v4 h2 fun v5 =>
 sLen v5 fun v6 =>
 sBin .gtr .int v6 a2 fun v7 =>
 sCond v7 (K0 (.bool false) h2 n3) (IR.run F16.b2 C N (fnO F16.res K0) (IR.run F16.b9 C N (fnO F16.res K0) (retK F16.res K0)) (F16.fr a0 a1 a2 v1 (.bool false) (I 0) v7 .undef .undef) h2 n3) := by
 rw [callFn_of F16.tab]; kernel_rfl
theorem F16.L2 (Inv : Nat → AV → T Blk → Pa → Prop) {m : Nat} (hm : m < N) (hi : Inv m x5 h nx)
  (step : ∀ (m : Nat) (z4 z5 z7 z8 : AV) (h : T Blk) (nx : Pa) (R : Ks Prop), Inv m z5 h nx → (∀ (m' : Nat) (w4 w5 w7 w8 : AV) (h' : T Blk) (nx' : Pa), m' < m → Inv m' w5 h' nx' → R (F16.fr x0 x1 x2 x3 w4 w5 x6 w7 w8) h' nx' = .ok True) →
   (sFaddr 1 x3 fun v1 =>
 sLoad v1 h fun v2 =>
 sLen v2 fun v3 =>
 sBin .lss .int z5 v3 fun v4 =>
 sCond v4 (sFaddr 1 x3 fun v5 =>
 sLoad v5 h fun v6 =>
 sIaddr 1 v6 z5 fun v7 =>
 sLoad v7 h fun v8 =>
 sLen v8 fun v9 =>
 sBin .gtr .int v9 x1 fun v10 =>
 sCond v10 (K0 (.bool false) h nx) (sBin .add .int z5 (I 1) fun v11 =>
 R (F16.fr x0 x1 x2 x3 z4 v11 x6 v4 v10) h nx)) (K (F16.fr x0 x1 x2 x3 z4 z5 x6 v4 z8) h nx)) = .ok True) :
  IR.run F16.b2 C N (fnO F16.res K0) K (F16.fr x0 x1 x2 x3 x4 x5 x6 x7 x8) h nx = .ok True := by
 rw [F16.b2, F16.g2_eq, F16.b3]
 refine loop_ok (fun m tm h nx => ∃ z4 z5 z7 z8, tm = (F16.fr x0 x1 x2 x3 z4 z5 x6 z7 z8) ∧ Inv m z5 h nx) ?_ hm ⟨_, _, _, _, rfl, hi⟩
 rintro m tm h nx R ⟨z4, z5, z7, z8, rfl, hi⟩ hR
 refine Eq.trans ?_ (step m z4 z5 z7 z8 h nx R hi fun m' w4 w5 w7 w8 h' nx' hlt hi' => hR m' _ h' nx' hlt ⟨_, _, _, _, rfl, hi'⟩)
 kernel_rfl
theorem F16.k9 : IR.run F16.b9 C N (fnO F16.res K0) K (F16.fr x0 x1 x2 x3 x4 x5 x6 x7 x8) h nx =
 K0 (.bool true) h nx := by kernel_rfl
end Go.Ev
namespace Go.Ev
open Go Go.Proofs
set_option maxRecDepth 100000
variable {N : Nat} {C : Calls Prop} {K0 : Kw Prop} {K R : Ks Prop} {h : T Blk} {nx : Pa} {x0 x1 x2 x3 x4 x5 x6 x7 x8 x9 x10 x11 x12 x13 a0 : AV}
theorem F19.g10_eq (X11 : IR) (O : Outs Prop) (t : T AV) : IR.run (F19.g10 X11) C N O K t h nx = IR.run X11 C N (O.blk 2 K) K t h nx := by kernel_rfl
theorem F19.g3_eq (X4 : IR) (O : Outs Prop) (t : T AV) : IR.run (F19.g3 X4) C N O K t h nx = IR.run X4 C N (O.blk 0 K) K t h nx := by kernel_rfl
theorem F19.tab : T.get none (.of 19) tbl = some F19 := by kernel_rfl
theorem F19.go : callFn tbl N C (.of 19) [a0] h nx K0 =
 sBox a0 h nx fun v1 h2 n3 =>
 sFaddr 0 v1 fun v4 =>
 sLoad v4 h2 fun v5 =>
 sBin .lss .int v5 (I 1) fun v6 =>
 sG v6 false (fun k => sFaddr 0 v1 k) fun v7 =>
 sG v6 false (fun k => sLoad v7 h2 k) fun v8 =>
 sG v6 false (fun k => sBin .gtr .int v8 (I 256) k) fun v9 =>
 sPick v6 (.bool true) v9 fun v10 =>
 sCond v10 (K0 (I 3) h2 n3) (sFaddr 1 v1 fun v11 =>
 sLoad v11 h2 fun v12 =>
 sLen v12 fun v13 =>
 sBin .gtr .int v13 (I 128) fun v14 =>
 sCond v14 (K0 (I 5) h2 n3) (IR.run F19.b3 C N (fnO F19.res K0) (IR.run F19.b20 C N (fnO F19.res K0) (retK F19.res K0)) (F19.fr a0 v1 (I 0) (I 0) .undef .undef v10 v14 .undef .undef .undef .undef .undef .undef) h2 n3)) := by
 rw [callFn_of F19.tab]; kernel_rfl
theorem F19.L3 (Inv : Nat → AV → T Blk → Pa → Prop) {m : Nat} (hm : m < N) (hi : Inv m x3 h nx)
  (step : ∀ (m : Nat) (z2 z3 z4 z5 z8 z9 z10 z11 z12 z13 : AV) (h : T Blk) (nx : Pa) (R : Ks Prop), Inv m z3 h nx → (∀ (m' : Nat) (w2 w3 w4 w5 w8 w9 w10 w11 w12 w13 : AV) (h' : T Blk) (nx' : Pa), m' < m → Inv m' w3 h' nx' → R (F19.fr x0 x1 w2 w3 w4 w5 x6 x7 w8 w9 w10 w11 w12 w13) h' nx' = .ok True) →
   (sFaddr 1 x1 fun v1 =>
 sLoad v1 h fun v2 =>
 sLen v2 fun v3 =>
 sBin .lss .int z3 v3 fun v4 =>
 sCond v4 (sFaddr 1 x1 fun v5 =>
 sLoad v5 h fun v6 =>
 sIaddr 1 v6 z3 fun v7 =>
 sLoad v7 h fun v8 =>
 sLen v8 fun v9 =>
 sBin .eql .int v9 (I 0) fun v10 =>
 sCond v10 (K0 (I 12) h nx) (IR.run F19.b10 C N (((fnO F19.res K0).blk 0 K).blk 1 (IR.run F19.b19 C N ((fnO F19.res K0).blk 0 K) R)) (IR.run F19.b18 C N (((fnO F19.res K0).blk 0 K).blk 1 (IR.run F19.b19 C N ((fnO F19.res K0).blk 0 K) R)) (IR.run F19.b19 C N ((fnO F19.res K0).blk 0 K) R)) (F19.fr x0 x1 z2 z3 v8 (I 0) x6 x7 v4 v10 z10 z11 z12 z13) h nx)) (K (F19.fr x0 x1 z2 z3 z4 z5 x6 x7 v4 z9 z10 z11 z12 z13) h nx)) = .ok True) :
  IR.run F19.b3 C N (fnO F19.res K0) K (F19.fr x0 x1 x2 x3 x4 x5 x6 x7 x8 x9 x10 x11 x12 x13) h nx = .ok True := by
 rw [F19.b3, F19.g3_eq, F19.b4]
 refine loop_ok (fun m tm h nx => ∃ z2 z3 z4 z5 z8 z9 z10 z11 z12 z13, tm = (F19.fr x0 x1 z2 z3 z4 z5 x6 x7 z8 z9 z10 z11 z12 z13) ∧ Inv m z3 h nx) ?_ hm ⟨_, _, _, _, _, _, _, _, _, _, rfl, hi⟩
 rintro m tm h nx R ⟨z2, z3, z4, z5, z8, z9, z10, z11, z12, z13, rfl, hi⟩ hR
 refine Eq.trans ?_ (step m z2 z3 z4 z5 z8 z9 z10 z11 z12 z13 h nx R hi fun m' w2 w3 w4 w5 w8 w9 w10 w11 w12 w13 h' nx' hlt hi' => hR m' _ h' nx' hlt ⟨_, _, _, _, _, _, _, _, _, _, rfl, hi'⟩)
 kernel_rfl
theorem F19.k20 : IR.run F19.b20 C N (fnO F19.res K0) K (F19.fr x0 x1 x2 x3 x4 x5 x6 x7 x8 x9 x10 x11 x12 x13) h nx =
 K0 (I 0) h nx := by kernel_rfl
theorem F19.k19 {E0 : Ks Prop} : IR.run F19.b19 C N ((fnO F19.res K0).blk 0 E0) K (F19.fr x0 x1 x2 x3 x4 x5 x6 x7 x8 x9 x10 x11 x12 x13) h nx =
 sBin .add .int x3 (I 1) fun v1 =>
 K (F19.fr x0 x1 x2 v1 x4 x5 x6 x7 x8 x9 x10 x11 x12 x13) h nx := by kernel_rfl
theorem F19.L10 {E0 E1 : Ks Prop} (Inv : Nat → AV → T Blk → Pa → Prop) {m : Nat} (hm : m < N) (hi : Inv m x5 h nx)
  (step : ∀ (m : Nat) (z2 z5 z10 z11 z12 : AV) (h : T Blk) (nx : Pa) (R : Ks Prop), Inv m z5 h nx → (∀ (m' : Nat) (w2 w5 w10 w11 w12 : AV) (h' : T Blk) (nx' : Pa), m' < m → Inv m' w5 h' nx' → R (F19.fr x0 x1 w2 x3 x4 w5 x6 x7 x8 x9 w10 w11 w12 x13) h' nx' = .ok True) →
   (sLen x4 fun v1 =>
 sBin .lss .int z5 v1 fun v2 =>
 sCond v2 (sIaddr 1 x4 z5 fun v3 =>
 sLoad v3 h fun v4 =>
 sBin .lss .int v4 (I 0) fun v5 =>
 sG v5 false (fun k => k x4) fun v6 =>
 sG v5 false (fun k => k z5) fun v7 =>
 sG v5 false (fun k => sIaddr 1 v6 v7 k) fun v8 =>
 sG v5 false (fun k => sLoad v8 h k) fun v9 =>
 sG v5 false (fun k => sFaddr 0 x1 k) fun v10 =>
 sG v5 false (fun k => sLoad v10 h k) fun v11 =>
 sG v5 false (fun k => sBin .geq .int v9 v11 k) fun v12 =>
 sPick v5 (.bool true) v12 fun v13 =>
 sCond v13 (K0 (I 10) h nx) ((IR.run F19.b16 C N (((((fnO F19.res K0).blk 0 E0).blk 1 E1).blk 2 K).blk 3 (IR.run F19.b17 C N ((((fnO F19.res K0).blk 0 E0).blk 1 E1).blk 2 K) R)) (IR.run F19.b17 C N ((((fnO F19.res K0).blk 0 E0).blk 1 E1).blk 2 K) R)) (F19.fr x0 x1 z2 x3 x4 z5 x6 x7 x8 x9 v2 v13 z12 x13) h nx)) (K (F19.fr x0 x1 z2 x3 x4 z5 x6 x7 x8 x9 v2 z11 z12 x13) h nx)) = .ok True) :
  IR.run F19.b10 C N (((fnO F19.res K0).blk 0 E0).blk 1 E1) K (F19.fr x0 x1 x2 x3 x4 x5 x6 x7 x8 x9 x10 x11 x12 x13) h nx = .ok True := by
 rw [F19.b10, F19.g10_eq, F19.b11]
 refine loop_ok (fun m tm h nx => ∃ z2 z5 z10 z11 z12, tm = (F19.fr x0 x1 z2 x3 x4 z5 x6 x7 x8 x9 z10 z11 z12 x13) ∧ Inv m z5 h nx) ?_ hm ⟨_, _, _, _, _, rfl, hi⟩
 rintro m tm h nx R ⟨z2, z5, z10, z11, z12, rfl, hi⟩ hR
 refine Eq.trans ?_ (step m z2 z5 z10 z11 z12 h nx R hi fun m' w2 w5 w10 w11 w12 h' nx' hlt hi' => hR m' _ h' nx' hlt ⟨_, _, _, _, _, rfl, hi'⟩)
 kernel_rfl
theorem F19.k18 {E0 E1 : Ks Prop} : IR.run F19.b18 C N (((fnO F19.res K0).blk 0 E0).blk 1 E1) K (F19.fr x0 x1 x2 x3 x4 x5 x6 x7 x8 x9 x10 x11 x12 x13) h nx =
 sFaddr 1 x1 fun v1 =>
 sLoad v1 h fun v2 =>
 sSlice 1 v2 none (some x3) none fun v3 =>
 C.fn 90 (.of 90) [v3, x4] h nx fun v4 h5 n6 =>
 sCond v4 (K0 (I 9) h5 n6) (K (F19.fr x0 x1 x2 x3 x4 x5 x6 x7 x8 x9 x10 x11 x12 v4) h5 n6) := by kernel_rfl
theorem F19.k17 {E0 E1 E2 : Ks Prop} : IR.run F19.b17 C N ((((fnO F19.res K0).blk 0 E0).blk 1 E1).blk 2 E2) K (F19.fr x0 x1 x2 x3 x4 x5 x6 x7 x8 x9 x10 x11 x12 x13) h nx =
 sBin .add .int x5 (I 1) fun v1 =>
 K (F19.fr x0 x1 x2 x3 x4 v1 x6 x7 x8 x9 x10 x11 x12 x13) h nx := by kernel_rfl
theorem F19.k16 {E0 E1 E2 E3 : Ks Prop} : IR.run F19.b16 C N (((((fnO F19.res K0).blk 0 E0).blk 1 E1).blk 2 E2).blk 3 E3) K (F19.fr x0 x1 x2 x3 x4 x5 x6 x7 x8 x9 x10 x11 x12 x13) h nx =
 sBin .gtr .int x5 (I 0) fun v1 =>
 sG v1 true (fun k => k x4) fun v2 =>
 sG v1 true (fun k => k x5) fun v3 =>
 sG v1 true (fun k => sIaddr 1 v2 v3 k) fun v4 =>
 sG v1 true (fun k => sLoad v4 h k) fun v5 =>
 sG v1 true (fun k => k x4) fun v6 =>
 sG v1 true (fun k => k x5) fun v7 =>
 sG v1 true (fun k => sBin .sub .int v7 (I 1) k) fun v8 =>
 sG v1 true (fun k => sIaddr 1 v6 v8 k) fun v9 =>
 sG v1 true (fun k => sLoad v9 h k) fun v10 =>
 sG v1 true (fun k => sBin .leq .int v5 v10 k) fun v11 =>
 sPick v1 v11 (.bool false) fun v12 =>
 sCond v12 (K0 (I 11) h nx) (K (F19.fr x0 x1 x2 x3 x4 x5 x6 x7 x8 x9 x10 x11 v12 x13) h nx) := by kernel_rfl
end Go.Ev
namespace Go.Ev
open Go Go.Proofs
set_option maxRecDepth 100000
variable {N : Nat} {C : Calls Prop} {K0 : Kw Prop} {K R : Ks Prop} {h : T Blk} {nx : Pa} {x0 x1 x2 x3 x4 x5 x6 x7 a0 a1 a2 : AV}
theorem F87.tab : T.get none (.of 87) tbl = some F87 := by kernel_rfl
theorem F87.go : callFn tbl N C (.of 87) [a0, a1, a2] h nx K0 =
 sBox a0 h nx fun v1 h2 n3 =>
 sBox a1 h2 n3 fun v4 h5 n6 =>
 C.fn 173 (.of 173) [a2, (.fn 174 (.of 174) [v1, v4])] h5 n6 fun v7 h8 n9 =>
 C.fn 88 (.of 88) [v7, (I 3)] h8 n9 fun v10 h11 n12 =>
 K0 v10 h11 n12 := by
 rw [callFn_of F87.tab]; kernel_rfl
theorem F174.tab : T.get none (.of 174) tbl = some F174 := by kernel_rfl
theorem F174.go : callFn tbl N C (.of 174) [a0, a1, a2] h nx K0 =
 sLoad a1 h fun v1 =>
 sBin .lss .int a0 v1 fun v2 =>
 sG v2 false (fun k => k a0) fun v3 =>
 sG v2 false (fun k => sLoad a2 h k) fun v4 =>
 sG v2 false (fun k => sBin .gtr .int v3 v4 k) fun v5 =>
 sPick v2 (.bool true) v5 fun v6 =>
 K0 v6 h nx := by
 rw [callFn_of F174.tab]; kernel_rfl
theorem F173.tab : T.get none (.of 173) tbl = some F173 := by kernel_rfl
theorem F173.go : callFn tbl N C (.of 173) [a0, a1] h nx K0 =
 C.fn 184 (.of 184) [a0, a1] h nx fun v1 h2 n3 =>
 sBin .geq .int v1 (I 0) fun v4 =>
 K0 v4 h2 n3 := by
 rw [callFn_of F173.tab]; kernel_rfl
theorem F184.g1_eq (X2 : IR) (O : Outs Prop) (t : T AV) : IR.run (F184.g1 X2) C N O K t h nx = IR.run X2 C N (O.blk 0 K) K t h nx := by kernel_rfl
theorem F184.tab : T.get none (.of 184) tbl = some F184 := by kernel_rfl
theorem F184.go : callFn tbl N C (.of 184) [a0, a1] h nx K0 =
 sLen a0 fun v1 =>
 IR.run F184.b1 C N (fnO F184.res K0) (IR.run F184.b8 C N (fnO F184.res K0) (retK F184.res K0)) (F184.fr a0 a1 (I 0) .undef v1 (I 0) .undef .undef) h nx := by
 rw [callFn_of F184.tab]; kernel_rfl
theorem F184.L1 (Inv : Nat → AV → T Blk → Pa → Prop) {m : Nat} (hm : m < N) (hi : Inv m x5 h nx)
  (step : ∀ (m : Nat) (z2 z3 z5 z6 z7 : AV) (h : T Blk) (nx : Pa) (R : Ks Prop), Inv m z5 h nx → (∀ (m' : Nat) (w2 w3 w5 w6 w7 : AV) (h' : T Blk) (nx' : Pa), m' < m → Inv m' w5 h' nx' → R (F184.fr x0 x1 w2 w3 x4 w5 w6 w7) h' nx' = .ok True) →
   (sBin .lss .int z5 x4 fun v1 =>
 sCond v1 (sIaddr 1 x0 z5 fun v2 =>
 sLoad v2 h fun v3 =>
 sCall C x1 [v3] h nx fun v4 h5 n6 =>
 sCond v4 (K0 z5 h5 n6) (sBin .add .int z5 (I 1) fun v7 =>
 R (F184.fr x0 x1 z2 z5 x4 v7 v1 v4) h5 n6)) (K (F184.fr x0 x1 z2 z3 x4 z5 v1 z7) h nx)) = .ok True) :
  IR.run F184.b1 C N (fnO F184.res K0) K (F184.fr x0 x1 x2 x3 x4 x5 x6 x7) h nx = .ok True := by
 rw [F184.b1, F184.g1_eq, F184.b2]
 refine loop_ok (fun m tm h nx => ∃ z2 z3 z5 z6 z7, tm = (F184.fr x0 x1 z2 z3 x4 z5 z6 z7) ∧ Inv m z5 h nx) ?_ hm ⟨_, _, _, _, _, rfl, hi⟩
 rintro m tm h nx R ⟨z2, z3, z5, z6, z7, rfl, hi⟩ hR
 refine Eq.trans ?_ (step m z2 z3 z5 z6 z7 h nx R hi fun m' w2 w3 w5 w6 w7 h' nx' hlt hi' => hR m' _ h' nx' hlt ⟨_, _, _, _, _, rfl, hi'⟩)
 kernel_rfl
theorem F184.k8 : IR.run F184.b8 C N (fnO F184.res K0) K (F184.fr x0 x1 x2 x3 x4 x5 x6 x7) h nx =
 K0 (I (-1)) h nx := by kernel_rfl
end Go.Ev
namespace Go.Ev
open Go Go.Proofs
set_option maxRecDepth 100000
variable {N : Nat} {C : Calls Prop} {K0 : Kw Prop} {K R : Ks Prop} {h : T Blk} {nx : Pa} {x0 x1 x2 x3 x4 x5 x6 x7 x8 x9 x10 x11 x12 x13 a0 a1 : AV}
theorem F18.g2_eq (X3 : IR) (O : Outs Prop) (t : T AV) : IR.run (F18.g2 X3) C N O K t h nx = IR.run X3 C N (O.blk 0 K) K t h nx := by kernel_rfl
theorem F18.tab : T.get none (.of 18) tbl = some F18 := by kernel_rfl
theorem F18.go : callFn tbl N C (.of 18) [a0] h nx K0 =
 sBox a0 h nx fun v1 h2 n3 =>
 sFaddr 0 v1 fun v4 =>
 sLoad v4 h2 fun v5 =>
 sFaddr 1 v1 fun v6 =>
 sLoad v6 h2 fun v7 =>
 sLen v7 fun v8 =>
 sBin .gtr .int v8 (I 128) fun v9 =>
 sBslice 1 1 [(I 0)] [(0, 1, v5)] h2 n3 fun v10 h11 n12 =>
 (sBin .gtr .int v8 (I 128) fun v36 => sSame v36 v9 ((sLen v7 fun v35 => sSame v35 v8 ((sLoad v6 h11 fun v34 => sSame v34 v7 ((sFaddr 1 v1 fun v33 => sSame v33 v6 (C.fn 87 (.of 87) [(I 1), (I 256), v10] h11 n12 fun v13 h14 n15 =>
 (sBin .gtr .int v8 (I 128) fun v32 => sSame v32 v9 ((sLen v7 fun v31 => sSame v31 v8 ((sLoad v6 h14 fun v30 => sSame v30 v7 ((sFaddr 1 v1 fun v29 => sSame v29 v6 (C.fn 88 (.of 88) [v9, (I 5)] h14 n15 fun v16 h17 n18 =>
 sBslice 1 2 [(I 0)] [(0, 1, v13), (1, 1, v16)] h17 n18 fun v19 h20 n21 =>
 C.fn 86 (.of 86) [v19] h20 n21 fun v22 h23 n24 =>
 sBin .neq .int v22 (I 0) fun v25 =>
 sCond v25 (K0 v22 h23 n24) (sFaddr 1 v1 fun v26 =>
 sLoad v26 h23 fun v27 =>
 sLen v27 fun v28 =>
 IR.run F18.b2 C N (fnO F18.res K0) (IR.run F18.b9 C N (fnO F18.res K0) (retK F18.res K0)) (F18.fr a0 v1 (I 0) v22 .undef .undef v25 v28 (I 0) .undef .undef) h23 n24))))))))))))))))) := by
 rw [callFn_of F18.tab]; kernel_rfl
theorem F18.L2 (Inv : Nat → AV → T Blk → Pa → Prop) {m : Nat} (hm : m < N) (hi : Inv m x8 h nx)
  (step : ∀ (m : Nat) (z2 z4 z5 z8 z9 z10 : AV) (h : T Blk) (nx : Pa) (R : Ks Prop), Inv m z8 h nx → (∀ (m' : Nat) (w2 w4 w5 w8 w9 w10 : AV) (h' : T Blk) (nx' : Pa), m' < m → Inv m' w8 h' nx' → R (F18.fr x0 x1 w2 x3 w4 w5 x6 x7 w8 w9 w10) h' nx' = .ok True) →
   (sBin .lss .int z8 x7 fun v1 =>
 sCond v1 (sLoadN 2 x1 h fun v2 =>
 C.fn 89 (.of 89) [v2, z8] h nx fun v3 h4 n5 =>
 sBin .neq .int v3 (I 0) fun v6 =>
 sCond v6 (K0 v3 h4 n5) (sBin .add .int z8 (I 1) fun v7 =>
 R (F18.fr x0 x1 z2 x3 z8 v3 x6 x7 v7 v1 v6) h4 n5)) (K (F18.fr x0 x1 z2 x3 z4 z5 x6 x7 z8 v1 z10) h nx)) = .ok True) :
  IR.run F18.b2 C N (fnO F18.res K0) K (F18.fr x0 x1 x2 x3 x4 x5 x6 x7 x8 x9 x10) h nx = .ok True := by
 rw [F18.b2, F18.g2_eq, F18.b3]
 refine loop_ok (fun m tm h nx => ∃ z2 z4 z5 z8 z9 z10, tm = (F18.fr x0 x1 z2 x3 z4 z5 x6 x7 z8 z9 z10) ∧ Inv m z8 h nx) ?_ hm ⟨_, _, _, _, _, _, rfl, hi⟩
 rintro m tm h nx R ⟨z2, z4, z5, z8, z9, z10, rfl, hi⟩ hR
 refine Eq.trans ?_ (step m z2 z4 z5 z8 z9 z10 h nx R hi fun m' w2 w4 w5 w8 w9 w10 h' nx' hlt hi' => hR m' _ h' nx' hlt ⟨_, _, _, _, _, _, rfl, hi'⟩)
 kernel_rfl
theorem F18.k9 : IR.run F18.b9 C N (fnO F18.res K0) K (F18.fr x0 x1 x2 x3 x4 x5 x6 x7 x8 x9 x10) h nx =
 K0 (I 0) h nx := by kernel_rfl
theorem F89.g2_eq (X3 : IR) (O : Outs Prop) (t : T AV) : IR.run (F89.g2 X3) C N O K t h nx = IR.run X3 C N (O.blk 0 K) K t h nx := by kernel_rfl
theorem F89.tab : T.get none (.of 89) tbl = some F89 := by kernel_rfl
theorem F89.go : callFn tbl N C (.of 89) [a0, a1] h nx K0 =
 sBox a0 h nx fun v1 h2 n3 =>
 sFaddr 1 v1 fun v4 =>
 sLoad v4 h2 fun v5 =>
 sIaddr 1 v5 a1 fun v6 =>
 sLoad v6 h2 fun v7 =>
 sAlloc [.nils] h2 n3 fun v8 h9 n10 =>
 sStore 1 v8 v7 h9 n10 fun v11 h12 n13 =>
 sLoad v8 h12 fun v14 =>
 sLen v14 fun v15 =>
 sBin .eql .int v15 (I 0) fun v16 =>
 sCond v16 (K0 (I 12) h12 n13) (sLoad v8 h12 fun v17 =>
 sLen v17 fun v18 =>
 IR.run F89.b2 C N (fnO F89.res K0) (IR.run F89.b9 C N (fnO F89.res K0) (retK F89.res K0)) (F89.fr a0 a1 v1 (I 0) v8 .undef .undef .undef v16 v17 v18 (I 0) .undef .undef) h12 n13) := by
 rw [callFn_of F89.tab]; kernel_rfl
theorem F89.L2 (Inv : Nat → AV → T Blk → Pa → Prop) {m : Nat} (hm : m < N) (hi : Inv m x11 h nx)
  (step : ∀ (m : Nat) (z3 z5 z6 z7 z11 z12 z13 : AV) (h : T Blk) (nx : Pa) (R : Ks Prop), Inv m z11 h nx → (∀ (m' : Nat) (w3 w5 w6 w7 w11 w12 w13 : AV) (h' : T Blk) (nx' : Pa), m' < m → Inv m' w11 h' nx' → R (F89.fr x0 x1 x2 w3 x4 w5 w6 w7 x8 x9 x10 w11 w12 w13) h' nx' = .ok True) →
   (sBin .lss .int z11 x10 fun v1 =>
 sCond v1 (sIaddr 1 x9 z11 fun v2 =>
 sLoad v2 h fun v3 =>
 sBin .lss .int v3 (I 0) fun v4 =>
 sG v4 false (fun k => k v3) fun v5 =>
 sG v4 false (fun k => sFaddr 0 x2 k) fun v6 =>
 sG v4 false (fun k => sLoad v6 h k) fun v7 =>
 sG v4 false (fun k => sBin .geq .int v5 v7 k) fun v8 =>
 sPick v4 (.bool true) v8 fun v9 =>
 C.fn 88 (.of 88) [v9, (I 10)] h nx fun v10 h11 n12 =>
 sBin .gtr .int z11 (I 0) fun v13 =>
 sG v13 true (fun k => sLoad x4 h11 k) fun v14 =>
 sG v13 true (fun k => k z11) fun v15 =>
 sG v13 true (fun k => sBin .sub .int v15 (I 1) k) fun v16 =>
 sG v13 true (fun k => sIaddr 1 v14 v16 k) fun v17 =>
 sG v13 true (fun k => sLoad v17 h11 k) fun v18 =>
 sG v13 true (fun k => k v3) fun v19 =>
 sG v13 true (fun k => sBin .geq .int v18 v19 k) fun v20 =>
 sPick v13 v20 (.bool false) fun v21 =>
 C.fn 88 (.of 88) [v21, (I 11)] h11 n12 fun v22 h23 n24 =>
 sBslice 1 2 [(I 0)] [(0, 1, v10), (1, 1, v22)] h23 n24 fun v25 h26 n27 =>
 C.fn 86 (.of 86) [v25] h26 n27 fun v28 h29 n30 =>
 sBin .neq .int v28 (I 0) fun v31 =>
 sCond v31 (K0 v28 h29 n30) (sBin .add .int z11 (I 1) fun v32 =>
 R (F89.fr x0 x1 x2 z3 x4 z11 v3 v28 x8 x9 x10 v32 v1 v31) h29 n30)) (K (F89.fr x0 x1 x2 z3 x4 z5 z6 z7 x8 x9 x10 z11 v1 z13) h nx)) = .ok True) :
  IR.run F89.b2 C N (fnO F89.res K0) K (F89.fr x0 x1 x2 x3 x4 x5 x6 x7 x8 x9 x10 x11 x12 x13) h nx = .ok True := by
 rw [F89.b2, F89.g2_eq, F89.b3]
 refine loop_ok (fun m tm h nx => ∃ z3 z5 z6 z7 z11 z12 z13, tm = (F89.fr x0 x1 x2 z3 x4 z5 z6 z7 x8 x9 x10 z11 z12 z13) ∧ Inv m z11 h nx) ?_ hm ⟨_, _, _, _, _, _, _, rfl, hi⟩
 rintro m tm h nx R ⟨z3, z5, z6, z7, z11, z12, z13, rfl, hi⟩ hR
 refine Eq.trans ?_ (step m z3 z5 z6 z7 z11 z12 z13 h nx R hi fun m' w3 w5 w6 w7 w11 w12 w13 h' nx' hlt hi' => hR m' _ h' nx' hlt ⟨_, _, _, _, _, _, _, rfl, hi'⟩)
 kernel_rfl
theorem F89.k9 : IR.run F89.b9 C N (fnO F89.res K0) K (F89.fr x0 x1 x2 x3 x4 x5 x6 x7 x8 x9 x10 x11 x12 x13) h nx =
 sFaddr 1 x2 fun v1 =>
 sLoad v1 h fun v2 =>
 sSlice 1 v2 none (some x1) none fun v3 =>
 C.fn 175 (.of 175) [v3, (.fn 176 (.of 176) [x4])] h nx fun v4 h5 n6 =>
 C.fn 88 (.of 88) [v4, (I 9)] h5 n6 fun v7 h8 n9 =>
 K0 v7 h8 n9 := by kernel_rfl
end Go.Ev
namespace Go.Ev
open Go Go.Proofs
set_option maxRecDepth 100000
variable {N : Nat} {C : Calls Prop} {K0 : Kw Prop} {K R : Ks Prop} {h : T Blk} {nx : Pa} {x0 x1 x2 x3 x4 x5 x6 x7 a0 a1 : AV}
end Go.Ev
namespace Go.Ev
open Go Go.Proofs
set_option maxRecDepth 100000
variable {N : Nat} {C : Calls Prop} {K0 : Kw Prop} {K R : Ks Prop} {h : T Blk} {nx : Pa} {x0 x1 x2 x3 x4 x5 x6 a0 a1 : AV}
end Go.Ev
namespace Go.Ev
open Go Go.Proofs
set_option maxRecDepth 100000
variable {N : Nat} {C : Calls Prop} {K0 : Kw Prop} {K R : Ks Prop} {h : T Blk} {nx : Pa} {x0 x1 x2 x3 x4 x5 x6 x7 x8 x9 x10 x11 x12 x13 a0 a1 : AV}
end Go.Ev
namespace Go.Ev
open Go Go.Proofs
set_option maxRecDepth 100000
variable {N : Nat} {C : Calls Prop} {K0 : Kw Prop} {K R : Ks Prop} {h : T Blk} {nx : Pa} {x0 x1 x2 x3 x4 x5 x6 x7 x8 x9 x10 a0 a1 : AV}
theorem F183.tab : T.get none (.of 183) tbl = some F183 := by kernel_rfl
theorem F183.go : callFn tbl N C (.of 183) [a0] h nx K0 =
 C.fn 87 (.of 87) [(I (-999999999)), (I 999999999), a0] h nx fun v1 h2 n3 =>
 K0 v1 h2 n3 := by
 rw [callFn_of F183.tab]; kernel_rfl
theorem F102.g1_eq (X2 : IR) (O : Outs Prop) (t : T AV) : IR.run (F102.g1 X2) C N O K t h nx = IR.run X2 C N (O.blk 0 K) K t h nx := by kernel_rfl
theorem F102.tab : T.get none (.of 102) tbl = some F102 := by kernel_rfl
theorem F102.go : callFn tbl N C (.of 102) [a0] h nx K0 =
 IR.run F102.b1 C N (fnO F102.res K0) (IR.run F102.b8 C N (fnO F102.res K0) (retK F102.res K0)) (F102.fr a0 (I 0) (I 0) .undef .undef) h nx := by
 rw [callFn_of F102.tab]; kernel_rfl
theorem F102.L1 (Inv : Nat → AV → T Blk → Pa → Prop) {m : Nat} (hm : m < N) (hi : Inv m x2 h nx)
  (step : ∀ (m : Nat) (z1 z2 z3 z4 : AV) (h : T Blk) (nx : Pa) (R : Ks Prop), Inv m z2 h nx → (∀ (m' : Nat) (w1 w2 w3 w4 : AV) (h' : T Blk) (nx' : Pa), m' < m → Inv m' w2 h' nx' → R (F102.fr x0 w1 w2 w3 w4) h' nx' = .ok True) →
   (sLen x0 fun v1 =>
 sBin .lss .int z2 v1 fun v2 =>
 sCond v2 (sIaddr 1 x0 z2 fun v3 =>
 sLoad v3 h fun v4 =>
 sBin .lss .int v4 (I (-999999999)) fun v5 =>
 sG v5 false (fun k => k x0) fun v6 =>
 sG v5 false (fun k => k z2) fun v7 =>
 sG v5 false (fun k => sIaddr 1 v6 v7 k) fun v8 =>
 sG v5 false (fun k => sLoad v8 h k) fun v9 =>
 sG v5 false (fun k => sBin .gtr .int v9 (I 999999999) k) fun v10 =>
 sPick v5 (.bool true) v10 fun v11 =>
 sCond v11 (K0 (I 3) h nx) (sBin .add .int z2 (I 1) fun v12 =>
 R (F102.fr x0 z1 v12 v2 v11) h nx)) (K (F102.fr x0 z1 z2 v2 z4) h nx)) = .ok True) :
  IR.run F102.b1 C N (fnO F102.res K0) K (F102.fr x0 x1 x2 x3 x4) h nx = .ok True := by
 rw [F102.b1, F102.g1_eq, F102.b2]
 refine loop_ok (fun m tm h nx => ∃ z1 z2 z3 z4, tm = (F102.fr x0 z1 z2 z3 z4) ∧ Inv m z2 h nx) ?_ hm ⟨_, _, _, _, rfl, hi⟩
 rintro m tm h nx R ⟨z1, z2, z3, z4, rfl, hi⟩ hR
 refine Eq.trans ?_ (step m z1 z2 z3 z4 h nx R hi fun m' w1 w2 w3 w4 h' nx' hlt hi' => hR m' _ h' nx' hlt ⟨_, _, _, _, rfl, hi'⟩)
 kernel_rfl
theorem F102.k8 : IR.run F102.b8 C N (fnO F102.res K0) K (F102.fr x0 x1 x2 x3 x4) h nx =
 K0 (I 0) h nx := by kernel_rfl
end Go.Ev
namespace Go.Ev
open Go Go.Proofs
set_option maxRecDepth 100000
variable {N : Nat} {C : Calls Prop} {K0 : Kw Prop} {K R : Ks Prop} {h : T Blk} {nx : Pa} {x0 x1 x2 x3 x4 x5 x6 x7 x8 x9 a0 a1 : AV}
theorem F48.tab : T.get none (.of 48) tbl = some F48 := by kernel_rfl
theorem F48.go : callFn tbl N C (.of 48) [a0, a1] h nx K0 =
 sBox a0 h nx fun v1 h2 n3 =>
 sLoadN 2 v1 h2 fun v4 =>
 C.fn 94 (.of 94) [v4, a1] h2 n3 fun v5 h6 n7 =>
 sBin .neq .int v5 (I 0) fun v8 =>
 sCond v8 (K0 (.tup [.nils, v5]) h6 n7) (sLoadN 2 v1 h6 fun v9 =>
 C.fn 139 (.of 139) [v9, a1] h6 n7 fun v10 h11 n12 =>
 K0 (.tup [v10, (I 0)]) h11 n12) := by
 rw [callFn_of F48.tab]; kernel_rfl
theorem F43.tab : T.get none (.of 43) tbl = some F43 := by kernel_rfl
theorem F43.go : callFn tbl N C (.of 43) [a0, a1] h nx K0 =
 sBox a0 h nx fun v1 h2 n3 =>
 sLoadN 2 v1 h2 fun v4 =>
 C.fn 94 (.of 94) [v4, a1] h2 n3 fun v5 h6 n7 =>
 sBin .neq .int v5 (I 0) fun v8 =>
 sCond v8 (K0 (.tup [(.bool false), v5]) h6 n7) (sLoadN 2 v1 h6 fun v9 =>
 C.fn 95 (.of 95) [v9, a1] h6 n7 fun v10 h11 n12 =>
 sBin .lss .int v10 (I 0) fun v13 =>
 K0 (.tup [v13, (I 0)]) h11 n12) := by
 rw [callFn_of F43.tab]; kernel_rfl
theorem F58.tab : T.get none (.of 58) tbl = some F58 := by kernel_rfl
theorem F58.go : callFn tbl N C (.of 58) [a0, a1] h nx K0 =
 sBox a0 h nx fun v1 h2 n3 =>
 sLoadN 2 v1 h2 fun v4 =>
 C.fn 94 (.of 94) [v4, a1] h2 n3 fun v5 h6 n7 =>
 sBin .neq .int v5 (I 0) fun v8 =>
 sCond v8 (K0 (.tup [(I 0), v5]) h6 n7) (sLoadN 2 v1 h6 fun v9 =>
 C.fn 95 (.of 95) [v9, a1] h6 n7 fun v10 h11 n12 =>
 sBin .lss .int v10 (I 0) fun v13 =>
 sCond v13 (K0 (.tup [(I 0), (I 7)]) h11 n12) (K0 (.tup [v10, (I 0)]) h11 n12)) := by
 rw [callFn_of F58.tab]; kernel_rfl
theorem F59.g1_eq (X2 : IR) (O : Outs Prop) (t : T AV) : IR.run (F59.g1 X2) C N O K t h nx = IR.run X2 C N (O.blk 0 K) K t h nx := by kernel_rfl
theorem F59.tab : T.get none (.of 59) tbl = some F59 := by kernel_rfl
theorem F59.go : callFn tbl N C (.of 59) [a0, a1] h nx K0 =
 sBox a0 h nx fun v1 h2 n3 =>
 IR.run F59.b1 C N (fnO F59.res K0) (IR.run F59.b8 C N (fnO F59.res K0) (retK F59.res K0)) (F59.fr a0 a1 v1 .nils .nils (I 0) .undef) h2 n3 := by
 rw [callFn_of F59.tab]; kernel_rfl
theorem F59.L1 (Inv : Nat → AV → AV → T Blk → Pa → Prop) {m : Nat} (hm : m < N) (hi : Inv m x4 x5 h nx)
  (step : ∀ (m : Nat) (z4 z5 z6 : AV) (h : T Blk) (nx : Pa) (R : Ks Prop), Inv m z4 z5 h nx → (∀ (m' : Nat) (w4 w5 w6 : AV) (h' : T Blk) (nx' : Pa), m' < m → Inv m' w4 w5 h' nx' → R (F59.fr x0 x1 x2 x3 w4 w5 w6) h' nx' = .ok True) →
   (sFaddr 1 x2 fun v1 =>
 sLoad v1 h fun v2 =>
 sLen v2 fun v3 =>
 sBin .lss .int z5 v3 fun v4 =>
 sCond v4 (sFaddr 1 x2 fun v5 =>
 sLoad v5 h fun v6 =>
 sIaddr 1 v6 z5 fun v7 =>
 sLoad v7 h fun v8 =>
 C.fn 143 (.of 143) [v8, x1] h nx fun v9 h10 n11 =>
 sBslice 1 1 [(I 0)] [(0, 1, v9)] h10 n11 fun v12 h13 n14 =>
 sApp 1 8 z4 v12 h13 n14 fun v15 h16 n17 =>
 sBin .add .int z5 (I 1) fun v18 =>
 R (F59.fr x0 x1 x2 x3 v15 v18 v4) h16 n17) (K (F59.fr x0 x1 x2 x3 z4 z5 v4) h nx)) = .ok True) :
  IR.run F59.b1 C N (fnO F59.res K0) K (F59.fr x0 x1 x2 x3 x4 x5 x6) h nx = .ok True := by
 rw [F59.b1, F59.g1_eq, F59.b2]
 refine loop_ok (fun m tm h nx => ∃ z4 z5 z6, tm = (F59.fr x0 x1 x2 x3 z4 z5 z6) ∧ Inv m z4 z5 h nx) ?_ hm ⟨_, _, _, rfl, hi⟩
 rintro m tm h nx R ⟨z4, z5, z6, rfl, hi⟩ hR
 refine Eq.trans ?_ (step m z4 z5 z6 h nx R hi fun m' w4 w5 w6 h' nx' hlt hi' => hR m' _ h' nx' hlt ⟨_, _, _, rfl, hi'⟩)
 kernel_rfl
theorem F59.k8 : IR.run F59.b8 C N (fnO F59.res K0) K (F59.fr x0 x1 x2 x3 x4 x5 x6) h nx =
 K0 x4 h nx := by kernel_rfl
theorem F28.tab : T.get none (.of 28) tbl = some F28 := by kernel_rfl
theorem F28.go : callFn tbl N C (.of 28) [a0, a1] h nx K0 =
 sBox a0 h nx fun v1 h2 n3 =>
 sLoadN 2 v1 h2 fun v4 =>
 C.fn 60 (.of 60) [v4, a1] h2 n3 fun v5 h6 n7 =>
 sBin .lss .int v5 (I 0) fun v8 =>
 K0 v8 h6 n7 := by
 rw [callFn_of F28.tab]; kernel_rfl
theorem F60.g1_eq (X2 : IR) (O : Outs Prop) (t : T AV) : IR.run (F60.g1 X2) C N O K t h nx = IR.run X2 C N (O.blk 0 K) K t h nx := by kernel_rfl
theorem F60.tab : T.get none (.of 60) tbl = some F60 := by kernel_rfl
theorem F60.go : callFn tbl N C (.of 60) [a0, a1] h nx K0 =
 sBox a0 h nx fun v1 h2 n3 =>
 sLoadN 2 v1 h2 fun v4 =>
 C.fn 59 (.of 59) [v4, a1] h2 n3 fun v5 h6 n7 =>
 IR.run F60.b1 C N (fnO F60.res K0) (IR.run F60.b8 C N (fnO F60.res K0) (retK F60.res K0)) (F60.fr a0 a1 v1 (I 0) v5 (I 0) .undef .undef) h6 n7 := by
 rw [callFn_of F60.tab]; kernel_rfl
theorem F60.L1 (Inv : Nat → AV → T Blk → Pa → Prop) {m : Nat} (hm : m < N) (hi : Inv m x5 h nx)
  (step : ∀ (m : Nat) (z3 z5 z6 z7 : AV) (h : T Blk) (nx : Pa) (R : Ks Prop), Inv m z5 h nx → (∀ (m' : Nat) (w3 w5 w6 w7 : AV) (h' : T Blk) (nx' : Pa), m' < m → Inv m' w5 h' nx' → R (F60.fr x0 x1 x2 w3 x4 w5 w6 w7) h' nx' = .ok True) →
   (sLen x4 fun v1 =>
 sBin .lss .int z5 v1 fun v2 =>
 sCond v2 (sIaddr 1 x4 z5 fun v3 =>
 sLoad v3 h fun v4 =>
 sIaddr 1 x4 (I 0) fun v5 =>
 sLoad v5 h fun v6 =>
 sBin .neq .int v4 v6 fun v7 =>
 sCond v7 (K0 z5 h nx) (sBin .add .int z5 (I 1) fun v8 =>
 R (F60.fr x0 x1 x2 z3 x4 v8 v2 v7) h nx)) (K (F60.fr x0 x1 x2 z3 x4 z5 v2 z7) h nx)) = .ok True) :
  IR.run F60.b1 C N (fnO F60.res K0) K (F60.fr x0 x1 x2 x3 x4 x5 x6 x7) h nx = .ok True := by
 rw [F60.b1, F60.g1_eq, F60.b2]
 refine loop_ok (fun m tm h nx => ∃ z3 z5 z6 z7, tm = (F60.fr x0 x1 x2 z3 x4 z5 z6 z7) ∧ Inv m z5 h nx) ?_ hm ⟨_, _, _, _, rfl, hi⟩
 rintro m tm h nx R ⟨z3, z5, z6, z7, rfl, hi⟩ hR
 refine Eq.trans ?_ (step m z3 z5 z6 z7 h nx R hi fun m' w3 w5 w6 w7 h' nx' hlt hi' => hR m' _ h' nx' hlt ⟨_, _, _, _, rfl, hi'⟩)
 kernel_rfl
theorem F60.k8 : IR.run F60.b8 C N (fnO F60.res K0) K (F60.fr x0 x1 x2 x3 x4 x5 x6 x7) h nx =
 K0 (I (-1)) h nx := by kernel_rfl
theorem F27.tab : T.get none (.of 27) tbl = some F27 := by kernel_rfl
theorem F27.go : callFn tbl N C (.of 27) [a0, a1] h nx K0 =
 sBox a0 h nx fun v1 h2 n3 =>
 sLen a1 fun v4 =>
 sFaddr 0 v1 fun v5 =>
 sLoad v5 h2 fun v6 =>
 sBin .neq .int v4 v6 fun v7 =>
 sCond v7 (K0 (I 2) h2 n3) (C.fn 102 (.of 102) [a1] h2 n3 fun v8 h9 n10 =>
 K0 v8 h9 n10) := by
 rw [callFn_of F27.tab]; kernel_rfl
theorem F143.g1_eq (X2 : IR) (O : Outs Prop) (t : T AV) : IR.run (F143.g1 X2) C N O K t h nx = IR.run X2 C N (O.blk 0 K) K t h nx := by kernel_rfl
theorem F143.tab : T.get none (.of 143) tbl = some F143 := by kernel_rfl
theorem F143.go : callFn tbl N C (.of 143) [a0, a1] h nx K0 =
 IR.run F143.b1 C N (fnO F143.res K0) (IR.run F143.b8 C N (fnO F143.res K0) (retK F143.res K0)) (F143.fr a0 a1 (I 0) (I 0) (I 0) .undef) h nx := by
 rw [callFn_of F143.tab]; kernel_rfl
theorem F143.L1 (Inv : Nat → AV → AV → T Blk → Pa → Prop) {m : Nat} (hm : m < N) (hi : Inv m x3 x4 h nx)
  (step : ∀ (m : Nat) (z3 z4 z5 : AV) (h : T Blk) (nx : Pa) (R : Ks Prop), Inv m z3 z4 h nx → (∀ (m' : Nat) (w3 w4 w5 : AV) (h' : T Blk) (nx' : Pa), m' < m → Inv m' w3 w4 h' nx' → R (F143.fr x0 x1 x2 w3 w4 w5) h' nx' = .ok True) →
   (sLen x0 fun v1 =>
 sBin .lss .int z4 v1 fun v2 =>
 sCond v2 (sIaddr 1 x0 z4 fun v3 =>
 sLoad v3 h fun v4 =>
 sIaddr 1 x1 v4 fun v5 =>
 sLoad v5 h fun v6 =>
 sBin .add .int z3 v6 fun v7 =>
 sBin .add .int z4 (I 1) fun v8 =>
 R (F143.fr x0 x1 x2 v7 v8 v2) h nx) (K (F143.fr x0 x1 x2 z3 z4 v2) h nx)) = .ok True) :
  IR.run F143.b1 C N (fnO F143.res K0) K (F143.fr x0 x1 x2 x3 x4 x5) h nx = .ok True := by
 rw [F143.b1, F143.g1_eq, F143.b2]
 refine loop_ok (fun m tm h nx => ∃ z3 z4 z5, tm = (F143.fr x0 x1 x2 z3 z4 z5) ∧ Inv m z3 z4 h nx) ?_ hm ⟨_, _, _, rfl, hi⟩
 rintro m tm h nx R ⟨z3, z4, z5, rfl, hi⟩ hR
 refine Eq.trans ?_ (step m z3 z4 z5 h nx R hi fun m' w3 w4 w5 h' nx' hlt hi' => hR m' _ h' nx' hlt ⟨_, _, _, rfl, hi'⟩)
 kernel_rfl
theorem F143.k8 : IR.run F143.b8 C N (fnO F143.res K0) K (F143.fr x0 x1 x2 x3 x4 x5) h nx =
 K0 x3 h nx := by kernel_rfl
theorem F139.g1_eq (X2 : IR) (O : Outs Prop) (t : T AV) : IR.run (F139.g1 X2) C N O K t h nx = IR.run X2 C N (O.blk 0 K) K t h nx := by kernel_rfl
theorem F139.tab : T.get none (.of 139) tbl = some F139 := by kernel_rfl
theorem F139.go : callFn tbl N C (.of 139) [a0, a1] h nx K0 =
 sBox a0 h nx fun v1 h2 n3 =>
 sFaddr 1 v1 fun v4 =>
 sLoad v4 h2 fun v5 =>
 sLen v5 fun v6 =>
 IR.run F139.b1 C N (fnO F139.res K0) (IR.run F139.b8 C N (fnO F139.res K0) (retK F139.res K0)) (F139.fr a0 a1 v1 .nils .nils .undef v5 v6 (I 0) .undef) h2 n3 := by
 rw [callFn_of F139.tab]; kernel_rfl
theorem F139.L1 (Inv : Nat → AV → AV → T Blk → Pa → Prop) {m : Nat} (hm : m < N) (hi : Inv m x4 x8 h nx)
  (step : ∀ (m : Nat) (z4 z5 z8 z9 : AV) (h : T Blk) (nx : Pa) (R : Ks Prop), Inv m z4 z8 h nx → (∀ (m' : Nat) (w4 w5 w8 w9 : AV) (h' : T Blk) (nx' : Pa), m' < m → Inv m' w4 w8 h' nx' → R (F139.fr x0 x1 x2 x3 w4 w5 x6 x7 w8 w9) h' nx' = .ok True) →
   (sBin .lss .int z8 x7 fun v1 =>
 sCond v1 (sIaddr 1 x6 z8 fun v2 =>
 sLoad v2 h fun v3 =>
 C.fn 219 (.of 219) [v3, x1] h nx fun v4 h5 n6 =>
 sBslice 1 1 [(I 0)] [(0, 1, v4)] h5 n6 fun v7 h8 n9 =>
 sApp 1 8 z4 v7 h8 n9 fun v10 h11 n12 =>
 sBin .add .int z8 (I 1) fun v13 =>
 R (F139.fr x0 x1 x2 x3 v10 v3 x6 x7 v13 v1) h11 n12) (K (F139.fr x0 x1 x2 x3 z4 z5 x6 x7 z8 v1) h nx)) = .ok True) :
  IR.run F139.b1 C N (fnO F139.res K0) K (F139.fr x0 x1 x2 x3 x4 x5 x6 x7 x8 x9) h nx = .ok True := by
 rw [F139.b1, F139.g1_eq, F139.b2]
 refine loop_ok (fun m tm h nx => ∃ z4 z5 z8 z9, tm = (F139.fr x0 x1 x2 x3 z4 z5 x6 x7 z8 z9) ∧ Inv m z4 z8 h nx) ?_ hm ⟨_, _, _, _, rfl, hi⟩
 rintro m tm h nx R ⟨z4, z5, z8, z9, rfl, hi⟩ hR
 refine Eq.trans ?_ (step m z4 z5 z8 z9 h nx R hi fun m' w4 w5 w8 w9 h' nx' hlt hi' => hR m' _ h' nx' hlt ⟨_, _, _, _, rfl, hi'⟩)
 kernel_rfl
theorem F139.k8 : IR.run F139.b8 C N (fnO F139.res K0) K (F139.fr x0 x1 x2 x3 x4 x5 x6 x7 x8 x9) h nx =
 K0 x4 h nx := by kernel_rfl
theorem F95.tab : T.get none (.of 95) tbl = some F95 := by kernel_rfl
theorem F95.go : callFn tbl N C (.of 95) [a0, a1] h nx K0 =
 sBox a0 h nx fun v1 h2 n3 =>
 sLoadN 2 v1 h2 fun v4 =>
 C.fn 139 (.of 139) [v4, a1] h2 n3 fun v5 h6 n7 =>
 sAlloc [.nils] h6 n7 fun v8 h9 n10 =>
 sStore 1 v8 v5 h9 n10 fun v11 h12 n13 =>
 sLoad v8 h12 fun v14 =>
 C.fn 184 (.of 184) [v14, (.fn 185 (.of 185) [v8])] h12 n13 fun v15 h16 n17 =>
 K0 v15 h16 n17 := by
 rw [callFn_of F95.tab]; kernel_rfl
theorem F185.tab : T.get none (.of 185) tbl = some F185 := by kernel_rfl
theorem F185.go : callFn tbl N C (.of 185) [a0, a1] h nx K0 =
 sLoad a1 h fun v1 =>
 sIaddr 1 v1 (I 0) fun v2 =>
 sLoad v2 h fun v3 =>
 sBin .neq .int a0 v3 fun v4 =>
 K0 v4 h nx := by
 rw [callFn_of F185.tab]; kernel_rfl
theorem F94.tab : T.get none (.of 94) tbl = some F94 := by kernel_rfl
theorem F94.go : callFn tbl N C (.of 94) [a0, a1] h nx K0 =
 sBox a0 h nx fun v1 h2 n3 =>
 sLoadN 2 v1 h2 fun v4 =>
 sLen a1 fun v5 =>
 sFaddr 0 v1 fun v6 =>
 sLoad v6 h2 fun v7 =>
 sBin .neq .int v5 v7 fun v8 =>
 C.fn 18 (.of 18) [v4] h2 n3 fun v9 h10 n11 =>
 sSame a1 a1 ((sBin .neq .int v5 v7 fun v27 => sSame v27 v8 ((sLoad v6 h10 fun v26 => sSame v26 v7 ((sFaddr 0 v1 fun v25 => sSame v25 v6 ((sLen a1 fun v24 => sSame v24 v5 (sSame a1 a1 (C.fn 88 (.of 88) [v8, (I 2)] h10 n11 fun v12 h13 n14 =>
 sSame a1 a1 (C.fn 183 (.of 183) [a1] h13 n14 fun v15 h16 n17 =>
 sBslice 1 3 [(I 0)] [(0, 1, v9), (1, 1, v12), (2, 1, v15)] h16 n17 fun v18 h19 n20 =>
 C.fn 86 (.of 86) [v18] h19 n20 fun v21 h22 n23 =>
 K0 v21 h22 n23))))))))))) := by
 rw [callFn_of F94.tab]; kernel_rfl
theorem F219.g1_eq (X2 : IR) (O : Outs Prop) (t : T AV) : IR.run (F219.g1 X2) C N O K t h nx = IR.run X2 C N (O.blk 0 K) K t h nx := by kernel_rfl
theorem F219.tab : T.get none (.of 219) tbl = some F219 := by kernel_rfl
theorem F219.go : callFn tbl N C (.of 219) [a0, a1] h nx K0 =
 sLen a0 fun v1 =>
 IR.run F219.b1 C N (fnO F219.res K0) (IR.run F219.b8 C N (fnO F219.res K0) (retK F219.res K0)) (F219.fr a0 a1 (I 0) (I 0) .undef a0 v1 (I 0) .undef) h nx := by
 rw [callFn_of F219.tab]; kernel_rfl
theorem F219.L1 (Inv : Nat → AV → AV → T Blk → Pa → Prop) {m : Nat} (hm : m < N) (hi : Inv m x3 x7 h nx)
  (step : ∀ (m : Nat) (z3 z4 z7 z8 : AV) (h : T Blk) (nx : Pa) (R : Ks Prop), Inv m z3 z7 h nx → (∀ (m' : Nat) (w3 w4 w7 w8 : AV) (h' : T Blk) (nx' : Pa), m' < m → Inv m' w3 w7 h' nx' → R (F219.fr x0 x1 x2 w3 w4 x5 x6 w7 w8) h' nx' = .ok True) →
   (sBin .lss .int z7 x6 fun v1 =>
 sCond v1 (sIaddr 1 x5 z7 fun v2 =>
 sLoad v2 h fun v3 =>
 sIaddr 1 x1 v3 fun v4 =>
 sLoad v4 h fun v5 =>
 sBin .add .int z3 v5 fun v6 =>
 sBin .add .int z7 (I 1) fun v7 =>
 R (F219.fr x0 x1 x2 v6 v3 x5 x6 v7 v1) h nx) (K (F219.fr x0 x1 x2 z3 z4 x5 x6 z7 v1) h nx)) = .ok True) :
  IR.run F219.b1 C N (fnO F219.res K0) K (F219.fr x0 x1 x2 x3 x4 x5 x6 x7 x8) h nx = .ok True := by
 rw [F219.b1, F219.g1_eq, F219.b2]
 refine loop_ok (fun m tm h nx => ∃ z3 z4 z7 z8, tm = (F219.fr x0 x1 x2 z3 z4 x5 x6 z7 z8) ∧ Inv m z3 z7 h nx) ?_ hm ⟨_, _, _, _, rfl, hi⟩
 rintro m tm h nx R ⟨z3, z4, z7, z8, rfl, hi⟩ hR
 refine Eq.trans ?_ (step m z3 z4 z7 z8 h nx R hi fun m' w3 w4 w7 w8 h' nx' hlt hi' => hR m' _ h' nx' hlt ⟨_, _, _, _, rfl, hi'⟩)
 kernel_rfl
theorem F219.k8 : IR.run F219.b8 C N (fnO F219.res K0) K (F219.fr x0 x1 x2 x3 x4 x5 x6 x7 x8) h nx =
 K0 x3 h nx := by kernel_rfl
end Go.Ev
namespace Go.Ev
open Go Go.Proofs
set_option maxRecDepth 100000
variable {N : Nat} {C : Calls Prop} {K0 : Kw Prop} {K R : Ks Prop} {h : T Blk} {nx : Pa} {x0 x1 x2 x3 x4 x5 x6 x7 x8 x9 x10 x11 x12 x13 x14 x15 a0 a1 : AV}
noncomputable def F12.r6 : List RO := [.p .push (some ((.s 0), false)) (.mv (.t (.of 6))), .p .push (some ((.s 1), false)) (.loadN 2 (.t (.of 2))), .p .push (some ((.s 2), false)) (.mv (.t (.of 1))), .w .push (some ((.s 3), false)) (.call (.c (.fn 28 (.of 28) [])) [(.s 1), (.s 0)]), .p .push (some ((.s 4), false)) (.bin .neq .bool (.s 3) (.s 0)), .q (.of 14) (.pick (.s 5) (.c (.bool true)) (.s 0))]
noncomputable def F12.r4 : List RO := [.p .push (some ((.s 0), false)) (.mv (.t (.of 4))), .p .push (some ((.s 1), false)) (.loadN 2 (.t (.of 2))), .p .push (some ((.s 2), false)) (.mv (.t (.of 1))), .w .push (some ((.s 3), false)) (.call (.c (.fn 59 (.of 59) [])) [(.s 1), (.s 0)]), .w .push (some ((.s 4), false)) (.call (.c (.fn 49 (.of 49) [])) [(.s 3), (.s 0)]), .p .push (some ((.s 5), false)) (.not (.s 0)), .s (.pick (.s 6) (.c (.bool true)) (.s 0)), .s (.mv (.s 0)), .p .push (some ((.s 0), false)) (.mv (.t (.of 6))), .p .push (some ((.s 1), false)) (.loadN 2 (.t (.of 2))), .p .push (some ((.s 2), false)) (.mv (.t (.of 1))), .w .push (some ((.s 3), false)) (.call (.c (.fn 28 (.of 28) [])) [(.s 1), (.s 0)]), .p .push (some ((.s 4), false)) (.bin .neq .bool (.s 3) (.s 0)), .q (.of 14) (.pick (.s 5) (.c (.bool true)) (.s 0))]
noncomputable def F12.r2 : List RO := [.p .push (some ((.s 0), false)) (.mv (.t (.of 7))), .p .push (some ((.s 1), false)) (.bin .neq .int (.s 0) (.c (I 0))), .s (.pick (.s 2) (.c (.bool true)) (.s 0)), .s (.mv (.s 0)), .p .push (some ((.s 0), false)) (.mv (.t (.of 4))), .p .push (some ((.s 1), false)) (.loadN 2 (.t (.of 2))), .p .push (some ((.s 2), false)) (.mv (.t (.of 1))), .w .push (some ((.s 3), false)) (.call (.c (.fn 59 (.of 59) [])) [(.s 1), (.s 0)]), .w .push (some ((.s 4), false)) (.call (.c (.fn 49 (.of 49) [])) [(.s 3), (.s 0)]), .p .push (some ((.s 5), false)) (.not (.s 0)), .s (.pick (.s 6) (.c (.bool true)) (.s 0)), .s (.mv (.s 0)), .p .push (some ((.s 0), false)) (.mv (.t (.of 6))), .p .push (some ((.s 1), false)) (.loadN 2 (.t (.of 2))), .p .push (some ((.s 2), false)) (.mv (.t (.of 1))), .w .push (some ((.s 3), false)) (.call (.c (.fn 28 (.of 28) [])) [(.s 1), (.s 0)]), .p .push (some ((.s 4), false)) (.bin .neq .bool (.s 3) (.s 0)), .q (.of 14) (.pick (.s 5) (.c (.bool true)) (.s 0))]
theorem F12.tab : T.get none (.of 12) tbl = some F12 := by kernel_rfl
theorem F12.go : callFn tbl N C (.of 12) [a0, a1] h nx K0 =
 sBox a0 h nx fun v1 h2 n3 =>
 sLoadN 2 v1 h2 fun v4 =>
 C.fn 16 (.of 16) [v4, (I 40), (I 130)] h2 n3 fun v5 h6 n7 =>
 sNot v5 fun v8 =>
 sG v8 false (fun k => k a1) fun v9 =>
 sG v8 false (fun k => sLen v9 k) fun v10 =>
 sG v8 false (fun k => sBin .gtr .int v10 (I 300) k) fun v11 =>
 sPick v8 (.bool true) v11 fun v12 =>
 sCond v12 (C.fn 17 (.of 17) [] h6 n7 fun v13 h14 n15 =>
 K0 v13 h14 n15) (sLoadN 2 v1 h6 fun v16 =>
 C.fn 48 (.of 48) [v16, a1] h6 n7 fun v17 h18 n19 =>
 sExt 0 v17 fun v20 =>
 sExt 1 v17 fun v21 =>
 sLoadN 2 v1 h18 fun v22 =>
 C.fn 43 (.of 43) [v22, a1] h18 n19 fun v23 h24 n25 =>
 sExt 0 v23 fun v26 =>
 sExt 1 v23 fun v27 =>
 sLoadN 2 v1 h24 fun v28 =>
 C.fn 58 (.of 58) [v28, a1] h24 n25 fun v29 h30 n31 =>
 sExt 0 v29 fun v32 =>
 sExt 1 v29 fun v33 =>
 sLoadN 2 v1 h30 fun v34 =>
 C.fn 19 (.of 19) [v34] h30 n31 fun v35 h36 n37 =>
 sBin .eql .int v35 (I 0) fun v38 =>
 sCond v38 (sLoadN 2 v1 h36 fun v39 =>
 C.fn 27 (.of 27) [v39, a1] h36 n37 fun v40 h41 n42 =>
 (IR.run F12.b2 C N (fnO F12.res K0) (retK F12.res K0)) (F12.fr a0 a1 v1 (.bool false) v20 v21 v26 v27 v32 v33 v40 v12 v38 .undef .undef .undef) h41 n42) ((IR.run F12.b2 C N (fnO F12.res K0) (retK F12.res K0)) (F12.fr a0 a1 v1 (.bool false) v20 v21 v26 v27 v32 v33 v35 v12 v38 .undef .undef .undef) h36 n37)) := by
 rw [callFn_of F12.tab]; kernel_rfl
theorem F12.k2 : IR.run F12.b2 C N (fnO F12.res K0) K (F12.fr x0 x1 x2 x3 x4 x5 x6 x7 x8 x9 x10 x11 x12 x13 x14 x15) h nx =
 sBin .neq .int x10 (I 0) fun v1 =>
 sCond v1 (sLen x4 fun v2 =>
 sBin .eql .int v2 (I 0) fun v3 =>
 sG v3 true (fun k => k x5) fun v4 =>
 sG v3 true (fun k => k x10) fun v5 =>
 sG v3 true (fun k => sBin .eql .int v4 v5 k) fun v6 =>
 sPick v3 v6 (.bool false) fun v7 =>
 sG v7 true (fun k => k x6) fun v8 =>
 sG v7 true (fun k => sNot v8 k) fun v9 =>
 sPick v7 v9 (.bool false) fun v10 =>
 sG v10 true (fun k => k x7) fun v11 =>
 sG v10 true (fun k => k x10) fun v12 =>
 sG v10 true (fun k => sBin .eql .int v11 v12 k) fun v13 =>
 sPick v10 v13 (.bool false) fun v14 =>
 sG v14 true (fun k => k x8) fun v15 =>
 sG v14 true (fun k => sBin .eql .int v15 (I 0) k) fun v16 =>
 sPick v14 v16 (.bool false) fun v17 =>
 sG v17 true (fun k => k x9) fun v18 =>
 sG v17 true (fun k => k x10) fun v19 =>
 sG v17 true (fun k => sBin .eql .int v18 v19 k) fun v20 =>
 sPick v17 v20 (.bool false) fun v21 =>
 sGW v21 true (fun k => C.fn 17 (.of 17) [] h nx k) h nx fun v22 h23 n24 =>
 sPick v21 v22 (.bool false) fun v25 =>
 K0 v25 h23 n24) ((IR.run F12.b3 C N (fnO F12.res K0) K) (F12.fr x0 x1 x2 x3 x4 x5 x6 x7 x8 x9 x10 x11 x12 v1 x14 x15) h nx) := by kernel_rfl
theorem F12.k3a {tv : T AV} : IR.run F12.b3 C N (fnO F12.res K0) K tv h nx = evOps (.s (.mv (.t (.of 5))) :: .s (.bin .neq .int (.s 0) (.c (I 0))) :: .s (.mv (.s 0)) :: F12.r2) C ⟨tv, []⟩ h nx (fun tm h nx => Tm.rec (fun t _ => (IR.run (.cond (.t (.of 14)) (.seq (.reg [.q (.of 3) (.mv (.c (.bool false)))]) .ret) .skip) C N (fnO F12.res K0) (IR.run F12.b4 C N (fnO F12.res K0) K)) t h nx) tm) := by kernel_rfl
theorem F12.k3b {K' : Tm → T Blk → Pa → OP} {l : List RO} : evOps (.s (.mv (.t (.of 5))) :: .s (.bin .neq .int (.s 0) (.c (I 0))) :: .s (.mv (.s 0)) :: l) C ⟨(F12.fr x0 x1 x2 x3 x4 x5 x6 x7 x8 x9 x10 x11 x12 x13 x14 x15), []⟩ h nx K' =
 sBin .neq .int x5 (I 0) fun v1 =>
 evOps l C ⟨(F12.fr x0 x1 x2 x3 x4 x5 x6 x7 x8 x9 x10 x11 x12 x13 x14 x15), v1 :: v1 :: x5 :: []⟩ h nx K' := by kernel_rfl
theorem F12.k3 : IR.run F12.b3 C N (fnO F12.res K0) K (F12.fr x0 x1 x2 x3 x4 x5 x6 x7 x8 x9 x10 x11 x12 x13 x14 x15) h nx =
 sBin .neq .int x5 (I 0) fun v1 =>
 evOps F12.r2 C ⟨(F12.fr x0 x1 x2 x3 x4 x5 x6 x7 x8 x9 x10 x11 x12 x13 x14 x15), v1 :: v1 :: x5 :: []⟩ h nx (fun tm h nx => (IR.run (.cond (.t (.of 14)) (.seq (.reg [.q (.of 3) (.mv (.c (.bool false)))]) .ret) .skip) C N (fnO F12.res K0) (IR.run F12.b4 C N (fnO F12.res K0) K)) tm.v h nx) := by
 have eK : (fun (tm : Tm) h nx => Tm.rec (motive := fun _ => OP) (fun t _ => (IR.run (.cond (.t (.of 14)) (.seq (.reg [.q (.of 3) (.mv (.c (.bool false)))]) .ret) .skip) C N (fnO F12.res K0) (IR.run F12.b4 C N (fnO F12.res K0) K)) t h nx) tm) = (fun (tm : Tm) h nx => (IR.run (.cond (.t (.of 14)) (.seq (.reg [.q (.of 3) (.mv (.c (.bool false)))]) .ret) .skip) C N (fnO F12.res K0) (IR.run F12.b4 C N (fnO F12.res K0) K)) tm.v h nx) := by
  funext tm h nx; cases tm; rfl
 rw [← eK]
 exact F12.k3a.trans F12.k3b
theorem F12.r2_f {s1 s2 : AV} : evOps F12.r2 C ⟨(F12.fr x0 x1 x2 x3 x4 x5 x6 x7 x8 x9 x10 x11 x12 x13 x14 x15), (.bool false) :: s1 :: s2 :: []⟩ h nx (fun tm h nx => K tm.v h nx) =
 sBin .neq .int x7 (I 0) fun v1 =>
 evOps F12.r4 C ⟨(F12.fr x0 x1 x2 x3 x4 x5 x6 x7 x8 x9 x10 x11 x12 x13 x14 x15), v1 :: v1 :: v1 :: x7 :: (.bool false) :: s1 :: s2 :: []⟩ h nx (fun tm h nx => K tm.v h nx) := by kernel_rfl
theorem F12.k4 : IR.run F12.b4 C N (fnO F12.res K0) K (F12.fr x0 x1 x2 x3 x4 x5 x6 x7 x8 x9 x10 x11 x12 x13 x14 x15) h nx =
 sCond x6 (sBin .eql .int x8 (I 0) fun v1 =>
 sG v1 true (fun k => k x9) fun v2 =>
 sG v1 true (fun k => sBin .eql .int v2 (I 7) k) fun v3 =>
 sPick v1 v3 (.bool false) fun v4 =>
 sGW v4 true (fun k => C.fn 17 (.of 17) [] h nx k) h nx fun v5 h6 n7 =>
 sPick v4 v5 (.bool false) fun v8 =>
 K0 v8 h6 n7) (sBin .eql .int x9 (I 0) fun v9 =>
 sG v9 true (fun k => k x8) fun v10 =>
 sG v9 true (fun k => sLoadN 2 x2 h k) fun v11 =>
 sG v9 true (fun k => k x1) fun v12 =>
 sGW v9 true (fun k => C.fn 60 (.of 60) [v11, v12] h nx k) h nx fun v13 h14 n15 =>
 sG v9 true (fun k => sBin .eql .int v10 v13 k) fun v16 =>
 sPick v9 v16 (.bool false) fun v17 =>
 sGW v17 true (fun k => C.fn 17 (.of 17) [] h14 n15 k) h14 n15 fun v18 h19 n20 =>
 sPick v17 v18 (.bool false) fun v21 =>
 K0 v21 h19 n20) := by kernel_rfl
theorem F12.r4_f {s1 s2 s3 s4 s5 s6 : AV} : evOps F12.r4 C ⟨(F12.fr x0 x1 x2 x3 x4 x5 x6 x7 x8 x9 x10 x11 x12 x13 x14 x15), (.bool false) :: s1 :: s2 :: s3 :: s4 :: s5 :: s6 :: []⟩ h nx (fun tm h nx => K tm.v h nx) =
 sLoadN 2 x2 h fun v1 =>
 C.fn 59 (.of 59) [v1, x1] h nx fun v2 h3 n4 =>
 C.fn 49 (.of 49) [x4, v2] h3 n4 fun v5 h6 n7 =>
 sNot v5 fun v8 =>
 evOps F12.r6 C ⟨(F12.fr x0 x1 x2 x3 x4 x5 x6 x7 x8 x9 x10 x11 x12 x13 x14 x15), v8 :: v8 :: v8 :: v5 :: v2 :: x1 :: v1 :: x4 :: (.bool false) :: s1 :: s2 :: s3 :: s4 :: s5 :: s6 :: []⟩ h6 n7 (fun tm h nx => K tm.v h nx) := by kernel_rfl
theorem F12.r6_f {s1 s2 s3 s4 s5 s6 s7 s8 s9 s10 s11 s12 s13 s14 : AV} : evOps F12.r6 C ⟨(F12.fr x0 x1 x2 x3 x4 x5 x6 x7 x8 x9 x10 x11 x12 x13 x14 x15), (.bool false) :: s1 :: s2 :: s3 :: s4 :: s5 :: s6 :: s7 :: s8 :: s9 :: s10 :: s11 :: s12 :: s13 :: s14 :: []⟩ h nx (fun tm h nx => K tm.v h nx) =
 sLoadN 2 x2 h fun v1 =>
 C.fn 28 (.of 28) [v1, x1] h nx fun v2 h3 n4 =>
 sBin .neq .bool x6 v2 fun v5 =>
 K (F12.fr x0 x1 x2 x3 x4 x5 x6 x7 x8 x9 x10 x11 x12 x13 v5 x15) h3 n4 := by kernel_rfl
end Go.Ev
