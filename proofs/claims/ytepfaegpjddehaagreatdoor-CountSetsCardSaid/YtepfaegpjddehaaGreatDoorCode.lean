/- The code of functions between loops. Printed by a program. -/
import Derived.Test.YtepfaegpjddehaaGreatDoorIrT
import Derived.KernelRfl
set_option linter.unusedSimpArgs false
set_option linter.unusedVariables false
namespace Go.Ev
open Go Go.Proofs
set_option maxRecDepth 100000
/-! talisman/count.SetCount -/
theorem F20.g3_eq (X4 : IR) (C : Calls Prop) (N : Nat) (O : Outs Prop) (K : Ks Prop) (x0 x1 x2 x3 x4 x5 x6 x7 x8 x9 x10 x11 x12 x13 x14 x15 x16 x17 x18 x19 x20 : AV) (h : T Blk) (nx : Pa) : IR.run (F20.g3 X4) C N O K (F20.fr x0 x1 x2 x3 x4 x5 x6 x7 x8 x9 x10 x11 x12 x13 x14 x15 x16 x17 x18 x19 x20) h nx =
  IR.run X4 C N (O.blk 0 K) K (F20.fr x0 x1 x2 x3 x4 x5 x6 x7 x8 x9 x10 x11 x12 x13 x14 x15 x16 x17 x18 x19 x20) h nx := by kernel_rfl
theorem F20.g23_eq (X24 : IR) (C : Calls Prop) (N : Nat) (O : Outs Prop) (K : Ks Prop) (x0 x1 x2 x3 x4 x5 x6 x7 x8 x9 x10 x11 x12 x13 x14 x15 x16 x17 x18 x19 x20 : AV) (h : T Blk) (nx : Pa) : IR.run (F20.g23 X24) C N O K (F20.fr x0 x1 x2 x3 x4 x5 x6 x7 x8 x9 x10 x11 x12 x13 x14 x15 x16 x17 x18 x19 x20) h nx =
  IR.run X24 C N (O.blk 6 K) K (F20.fr x0 x1 x2 x3 x4 x5 x6 x7 x8 x9 x10 x11 x12 x13 x14 x15 x16 x17 x18 x19 x20) h nx := by kernel_rfl
theorem F20.g17_eq (X18 : IR) (C : Calls Prop) (N : Nat) (O : Outs Prop) (K : Ks Prop) (x0 x1 x2 x3 x4 x5 x6 x7 x8 x9 x10 x11 x12 x13 x14 x15 x16 x17 x18 x19 x20 : AV) (h : T Blk) (nx : Pa) : IR.run (F20.g17 X18) C N O K (F20.fr x0 x1 x2 x3 x4 x5 x6 x7 x8 x9 x10 x11 x12 x13 x14 x15 x16 x17 x18 x19 x20) h nx =
  IR.run X18 C N (O.blk 4 K) K (F20.fr x0 x1 x2 x3 x4 x5 x6 x7 x8 x9 x10 x11 x12 x13 x14 x15 x16 x17 x18 x19 x20) h nx := by kernel_rfl
theorem F20.g11_eq (X12 : IR) (C : Calls Prop) (N : Nat) (O : Outs Prop) (K : Ks Prop) (x0 x1 x2 x3 x4 x5 x6 x7 x8 x9 x10 x11 x12 x13 x14 x15 x16 x17 x18 x19 x20 : AV) (h : T Blk) (nx : Pa) : IR.run (F20.g11 X12) C N O K (F20.fr x0 x1 x2 x3 x4 x5 x6 x7 x8 x9 x10 x11 x12 x13 x14 x15 x16 x17 x18 x19 x20) h nx =
  IR.run X12 C N (O.blk 2 K) K (F20.fr x0 x1 x2 x3 x4 x5 x6 x7 x8 x9 x10 x11 x12 x13 x14 x15 x16 x17 x18 x19 x20) h nx := by kernel_rfl
theorem F20.tab : T.get none (.of 20) tbl = some F20 := by kernel_rfl
theorem F20.go {N B : Nat} {K0 : Kw Prop} (y0 y1 y2 : AV) (h : T Blk) (nx : Pa) : callFn tbl N (CS Tryz.prog B) (.of 20) [y0, y1, y2] h nx K0 =
  (CS Tryz.prog B).fn 76 (.of 76) [y0, y1] h nx fun v1 h2 n3 =>
  sBin .neq .int v1 (I 0) fun v4 =>
  sCond v4 (K0 (.tup [(I 0), v1]) h2 n3) ((CS Tryz.prog B).fn 78 (.of 78) [(I 1), y0, y1] h2 n3 fun v5 h6 n7 =>
  sExt 0 v5 fun v8 =>
  sExt 1 v5 fun v9 =>
  sBin .lss .int y2 v8 fun v10 =>
  sG v10 false (fun k => k y2) fun v11 =>
  sG v10 false (fun k => k v9) fun v12 =>
  sG v10 false (fun k => sBin .gtr .int v11 v12 k) fun v13 =>
  sPick v10 (.bool true) v13 fun v14 =>
  sCond v14 (K0 (.tup [(I 0), (I 0)]) h6 n7) (sBin .add .int y1 (I 1) fun v15 =>
  sMkslice 1 24 [.nils] v15 v15 h6 n7 fun v16 h17 n18 =>
  sLen v16 fun v19 =>
  IR.run F20.b3 (CS Tryz.prog B) N (fnO F20.res K0) (IR.run F20.b10 (CS Tryz.prog B) N (fnO F20.res K0) (retK F20.res K0)) (F20.fr y0 y1 y2 (I 0) (I 0) v1 v8 v9 v16 .undef .undef .undef .undef v4 v14 v19 (I 0) .undef .undef .undef .undef) h17 n18)) := by
  rw [callFn_of F20.tab]; kernel_rfl
theorem F20.e3 {N B : Nat} {K0 : Kw Prop} {K R : Ks Prop} (x0 x1 x2 x3 x4 x5 x6 x7 x8 x9 x10 x11 x12 x13 x14 x15 x16 x17 x18 x19 x20 : AV) (h : T Blk) (nx : Pa) : IR.run F20.b5 (CS Tryz.prog B) N ((fnO F20.res K0).blk 0 K) R (F20.fr x0 x1 x2 x3 x4 x5 x6 x7 x8 x9 x10 x11 x12 x13 x14 x15 x16 x17 x18 x19 x20) h nx =
  sBin .lss .int x16 x15 fun v1 =>
  sCond v1 (sBin .add .int x2 (I 1) fun v2 =>
  sMkslice 1 8 [(I 0)] v2 v2 h nx fun v3 h4 n5 =>
  sIaddr 1 x8 x16 fun v6 =>
  sStore 1 v6 v3 h4 n5 fun v7 h8 n9 =>
  sBin .add .int x16 (I 1) fun v10 =>
  R (F20.fr x0 x1 x2 x3 x4 x5 x6 x7 x8 x16 x10 x11 x12 x13 x14 x15 v10 v1 x18 x19 x20) h8 n9) (K (F20.fr x0 x1 x2 x3 x4 x5 x6 x7 x8 x9 x10 x11 x12 x13 x14 x15 x16 v1 x18 x19 x20) h nx) := by kernel_rfl
/-- loop 3: changes x9, x16, x17; the invariant speaks of x16 -/
theorem F20.L3 {N B : Nat} {K0 : Kw Prop} {K : Ks Prop} {x0 x1 x2 x3 x4 x5 x6 x7 x8 x9 x10 x11 x12 x13 x14 x15 x16 x17 x18 x19 x20 : AV} {h : T Blk} {nx : Pa} (Inv : Nat → AV → T Blk → Pa → Prop) {m : Nat} (hm : m < N) (hi : Inv m x16 h nx)
    (step : ∀ (m : Nat) (z9 z16 z17 : AV) (h : T Blk) (nx : Pa) (R : Ks Prop), Inv m z16 h nx → (∀ (m' : Nat) (w9 w16 w17 : AV) (h' : T Blk) (nx' : Pa), m' < m → Inv m' w16 h' nx' → R (F20.fr x0 x1 x2 x3 x4 x5 x6 x7 x8 w9 x10 x11 x12 x13 x14 x15 w16 w17 x18 x19 x20) h' nx' = .ok True) →
      (sBin .lss .int z16 x15 fun v1 =>
  sCond v1 (sBin .add .int x2 (I 1) fun v2 =>
  sMkslice 1 8 [(I 0)] v2 v2 h nx fun v3 h4 n5 =>
  sIaddr 1 x8 z16 fun v6 =>
  sStore 1 v6 v3 h4 n5 fun v7 h8 n9 =>
  sBin .add .int z16 (I 1) fun v10 =>
  R (F20.fr x0 x1 x2 x3 x4 x5 x6 x7 x8 z16 x10 x11 x12 x13 x14 x15 v10 v1 x18 x19 x20) h8 n9) (K (F20.fr x0 x1 x2 x3 x4 x5 x6 x7 x8 z9 x10 x11 x12 x13 x14 x15 z16 v1 x18 x19 x20) h nx)) = .ok True) :
    IR.run F20.b3 (CS Tryz.prog B) N (fnO F20.res K0) K (F20.fr x0 x1 x2 x3 x4 x5 x6 x7 x8 x9 x10 x11 x12 x13 x14 x15 x16 x17 x18 x19 x20) h nx = .ok True := by
  rw [F20.b3, F20.g3_eq, F20.b4]
  refine loop_ok (fun m tm h nx => ∃ z9 z16 z17, tm = (F20.fr x0 x1 x2 x3 x4 x5 x6 x7 x8 z9 x10 x11 x12 x13 x14 x15 z16 z17 x18 x19 x20) ∧ Inv m z16 h nx) ?_ hm ⟨_, _, _, rfl, hi⟩
  rintro m tm h nx R ⟨z9, z16, z17, rfl, hi⟩ hR
  rw [F20.e3]
  exact step m z9 z16 z17 h nx R hi fun m' w9 w16 w17 h' nx' hlt hi' => hR m' _ h' nx' hlt ⟨_, _, _, rfl, hi'⟩
theorem F20.k10 {N B : Nat} {K0 : Kw Prop} {K : Ks Prop} (x0 x1 x2 x3 x4 x5 x6 x7 x8 x9 x10 x11 x12 x13 x14 x15 x16 x17 x18 x19 x20 : AV) (h : T Blk) (nx : Pa) : IR.run F20.b10 (CS Tryz.prog B) N (fnO F20.res K0) K (F20.fr x0 x1 x2 x3 x4 x5 x6 x7 x8 x9 x10 x11 x12 x13 x14 x15 x16 x17 x18 x19 x20) h nx =
  sIaddr 1 x8 (I 0) fun v1 =>
  sLoad v1 h fun v2 =>
  sIaddr 1 v2 (I 0) fun v3 =>
  sStore 1 v3 (I 1) h nx fun v4 h5 n6 =>
  IR.run F20.b11 (CS Tryz.prog B) N (fnO F20.res K0) (IR.run F20.b32 (CS Tryz.prog B) N (fnO F20.res K0) K) (F20.fr x0 x1 x2 x3 x4 x5 x6 x7 x8 x9 (I 1) x11 x12 x13 x14 x15 x16 x17 x18 x19 x20) h5 n6 := by kernel_rfl
theorem F20.k9 {N B : Nat} {K0 : Kw Prop} {E0 : Ks Prop} {K : Ks Prop} (x0 x1 x2 x3 x4 x5 x6 x7 x8 x9 x10 x11 x12 x13 x14 x15 x16 x17 x18 x19 x20 : AV) (h : T Blk) (nx : Pa) : IR.run F20.b9 (CS Tryz.prog B) N ((fnO F20.res K0).blk 0 E0) K (F20.fr x0 x1 x2 x3 x4 x5 x6 x7 x8 x9 x10 x11 x12 x13 x14 x15 x16 x17 x18 x19 x20) h nx =
  sBin .add .int x16 (I 1) fun v1 =>
  K (F20.fr x0 x1 x2 x3 x4 x5 x6 x7 x8 x9 x10 x11 x12 x13 x14 x15 v1 x17 x18 x19 x20) h nx := by kernel_rfl
theorem F20.e11 {N B : Nat} {K0 : Kw Prop} {K R : Ks Prop} (x0 x1 x2 x3 x4 x5 x6 x7 x8 x9 x10 x11 x12 x13 x14 x15 x16 x17 x18 x19 x20 : AV) (h : T Blk) (nx : Pa) : IR.run F20.b13 (CS Tryz.prog B) N ((fnO F20.res K0).blk 2 K) R (F20.fr x0 x1 x2 x3 x4 x5 x6 x7 x8 x9 x10 x11 x12 x13 x14 x15 x16 x17 x18 x19 x20) h nx =
  sBin .leq .int x10 x0 fun v1 =>
  sCond v1 (IR.run F20.b17 (CS Tryz.prog B) N (((fnO F20.res K0).blk 2 K).blk 3 (IR.run F20.b31 (CS Tryz.prog B) N ((fnO F20.res K0).blk 2 K) R)) (IR.run F20.b31 (CS Tryz.prog B) N ((fnO F20.res K0).blk 2 K) R) (F20.fr x0 x1 x2 x3 x4 x5 x6 x7 x8 x9 x10 x1 x12 x13 x14 x15 x16 x17 v1 x19 x20) h nx) (K (F20.fr x0 x1 x2 x3 x4 x5 x6 x7 x8 x9 x10 x11 x12 x13 x14 x15 x16 x17 v1 x19 x20) h nx) := by kernel_rfl
/-- loop 11: changes x10, x11, x12, x18, x19, x20; the invariant speaks of x10 -/
theorem F20.L11 {N B : Nat} {K0 : Kw Prop} {K : Ks Prop} {x0 x1 x2 x3 x4 x5 x6 x7 x8 x9 x10 x11 x12 x13 x14 x15 x16 x17 x18 x19 x20 : AV} {h : T Blk} {nx : Pa} (Inv : Nat → AV → T Blk → Pa → Prop) {m : Nat} (hm : m < N) (hi : Inv m x10 h nx)
    (step : ∀ (m : Nat) (z10 z11 z12 z18 z19 z20 : AV) (h : T Blk) (nx : Pa) (R : Ks Prop), Inv m z10 h nx → (∀ (m' : Nat) (w10 w11 w12 w18 w19 w20 : AV) (h' : T Blk) (nx' : Pa), m' < m → Inv m' w10 h' nx' → R (F20.fr x0 x1 x2 x3 x4 x5 x6 x7 x8 x9 w10 w11 w12 x13 x14 x15 x16 x17 w18 w19 w20) h' nx' = .ok True) →
      (sBin .leq .int z10 x0 fun v1 =>
  sCond v1 (IR.run F20.b17 (CS Tryz.prog B) N (((fnO F20.res K0).blk 2 K).blk 3 (IR.run F20.b31 (CS Tryz.prog B) N ((fnO F20.res K0).blk 2 K) R)) (IR.run F20.b31 (CS Tryz.prog B) N ((fnO F20.res K0).blk 2 K) R) (F20.fr x0 x1 x2 x3 x4 x5 x6 x7 x8 x9 z10 x1 z12 x13 x14 x15 x16 x17 v1 z19 z20) h nx) (K (F20.fr x0 x1 x2 x3 x4 x5 x6 x7 x8 x9 z10 z11 z12 x13 x14 x15 x16 x17 v1 z19 z20) h nx)) = .ok True) :
    IR.run F20.b11 (CS Tryz.prog B) N (fnO F20.res K0) K (F20.fr x0 x1 x2 x3 x4 x5 x6 x7 x8 x9 x10 x11 x12 x13 x14 x15 x16 x17 x18 x19 x20) h nx = .ok True := by
  rw [F20.b11, F20.g11_eq, F20.b12]
  refine loop_ok (fun m tm h nx => ∃ z10 z11 z12 z18 z19 z20, tm = (F20.fr x0 x1 x2 x3 x4 x5 x6 x7 x8 x9 z10 z11 z12 x13 x14 x15 x16 x17 z18 z19 z20) ∧ Inv m z10 h nx) ?_ hm ⟨_, _, _, _, _, _, rfl, hi⟩
  rintro m tm h nx R ⟨z10, z11, z12, z18, z19, z20, rfl, hi⟩ hR
  rw [F20.e11]
  exact step m z10 z11 z12 z18 z19 z20 h nx R hi fun m' w10 w11 w12 w18 w19 w20 h' nx' hlt hi' => hR m' _ h' nx' hlt ⟨_, _, _, _, _, _, rfl, hi'⟩
theorem F20.k32 {N B : Nat} {K0 : Kw Prop} {K : Ks Prop} (x0 x1 x2 x3 x4 x5 x6 x7 x8 x9 x10 x11 x12 x13 x14 x15 x16 x17 x18 x19 x20 : AV) (h : T Blk) (nx : Pa) : IR.run F20.b32 (CS Tryz.prog B) N (fnO F20.res K0) K (F20.fr x0 x1 x2 x3 x4 x5 x6 x7 x8 x9 x10 x11 x12 x13 x14 x15 x16 x17 x18 x19 x20) h nx =
  sIaddr 1 x8 x1 fun v1 =>
  sLoad v1 h fun v2 =>
  sIaddr 1 v2 x2 fun v3 =>
  sLoad v3 h fun v4 =>
  K0 (.tup [v4, (I 0)]) h nx := by kernel_rfl
theorem F20.k31 {N B : Nat} {K0 : Kw Prop} {E2 : Ks Prop} {K : Ks Prop} (x0 x1 x2 x3 x4 x5 x6 x7 x8 x9 x10 x11 x12 x13 x14 x15 x16 x17 x18 x19 x20 : AV) (h : T Blk) (nx : Pa) : IR.run F20.b31 (CS Tryz.prog B) N ((fnO F20.res K0).blk 2 E2) K (F20.fr x0 x1 x2 x3 x4 x5 x6 x7 x8 x9 x10 x11 x12 x13 x14 x15 x16 x17 x18 x19 x20) h nx =
  sBin .add .int x10 (I 1) fun v1 =>
  K (F20.fr x0 x1 x2 x3 x4 x5 x6 x7 x8 x9 v1 x11 x12 x13 x14 x15 x16 x17 x18 x19 x20) h nx := by kernel_rfl
theorem F20.e17 {N B : Nat} {K0 : Kw Prop} {E2 E3 : Ks Prop} {K R : Ks Prop} (x0 x1 x2 x3 x4 x5 x6 x7 x8 x9 x10 x11 x12 x13 x14 x15 x16 x17 x18 x19 x20 : AV) (h : T Blk) (nx : Pa) : IR.run F20.b19 (CS Tryz.prog B) N ((((fnO F20.res K0).blk 2 E2).blk 3 E3).blk 4 K) R (F20.fr x0 x1 x2 x3 x4 x5 x6 x7 x8 x9 x10 x11 x12 x13 x14 x15 x16 x17 x18 x19 x20) h nx =
  sBin .gtr .int x11 (I 0) fun v1 =>
  sCond v1 (IR.run F20.b23 (CS Tryz.prog B) N (((((fnO F20.res K0).blk 2 E2).blk 3 E3).blk 4 K).blk 5 (IR.run F20.b30 (CS Tryz.prog B) N ((((fnO F20.res K0).blk 2 E2).blk 3 E3).blk 4 K) R)) (IR.run F20.b30 (CS Tryz.prog B) N ((((fnO F20.res K0).blk 2 E2).blk 3 E3).blk 4 K) R) (F20.fr x0 x1 x2 x3 x4 x5 x6 x7 x8 x9 x10 x11 x2 x13 x14 x15 x16 x17 x18 v1 x20) h nx) (K (F20.fr x0 x1 x2 x3 x4 x5 x6 x7 x8 x9 x10 x11 x12 x13 x14 x15 x16 x17 x18 v1 x20) h nx) := by kernel_rfl
/-- loop 17: changes x11, x12, x19, x20; the invariant speaks of x11 -/
theorem F20.L17 {N B : Nat} {K0 : Kw Prop} {E2 E3 : Ks Prop} {K : Ks Prop} {x0 x1 x2 x3 x4 x5 x6 x7 x8 x9 x10 x11 x12 x13 x14 x15 x16 x17 x18 x19 x20 : AV} {h : T Blk} {nx : Pa} (Inv : Nat → AV → T Blk → Pa → Prop) {m : Nat} (hm : m < N) (hi : Inv m x11 h nx)
    (step : ∀ (m : Nat) (z11 z12 z19 z20 : AV) (h : T Blk) (nx : Pa) (R : Ks Prop), Inv m z11 h nx → (∀ (m' : Nat) (w11 w12 w19 w20 : AV) (h' : T Blk) (nx' : Pa), m' < m → Inv m' w11 h' nx' → R (F20.fr x0 x1 x2 x3 x4 x5 x6 x7 x8 x9 x10 w11 w12 x13 x14 x15 x16 x17 x18 w19 w20) h' nx' = .ok True) →
      (sBin .gtr .int z11 (I 0) fun v1 =>
  sCond v1 (IR.run F20.b23 (CS Tryz.prog B) N (((((fnO F20.res K0).blk 2 E2).blk 3 E3).blk 4 K).blk 5 (IR.run F20.b30 (CS Tryz.prog B) N ((((fnO F20.res K0).blk 2 E2).blk 3 E3).blk 4 K) R)) (IR.run F20.b30 (CS Tryz.prog B) N ((((fnO F20.res K0).blk 2 E2).blk 3 E3).blk 4 K) R) (F20.fr x0 x1 x2 x3 x4 x5 x6 x7 x8 x9 x10 z11 x2 x13 x14 x15 x16 x17 x18 v1 z20) h nx) (K (F20.fr x0 x1 x2 x3 x4 x5 x6 x7 x8 x9 x10 z11 z12 x13 x14 x15 x16 x17 x18 v1 z20) h nx)) = .ok True) :
    IR.run F20.b17 (CS Tryz.prog B) N (((fnO F20.res K0).blk 2 E2).blk 3 E3) K (F20.fr x0 x1 x2 x3 x4 x5 x6 x7 x8 x9 x10 x11 x12 x13 x14 x15 x16 x17 x18 x19 x20) h nx = .ok True := by
  rw [F20.b17, F20.g17_eq, F20.b18]
  refine loop_ok (fun m tm h nx => ∃ z11 z12 z19 z20, tm = (F20.fr x0 x1 x2 x3 x4 x5 x6 x7 x8 x9 x10 z11 z12 x13 x14 x15 x16 x17 x18 z19 z20) ∧ Inv m z11 h nx) ?_ hm ⟨_, _, _, _, rfl, hi⟩
  rintro m tm h nx R ⟨z11, z12, z19, z20, rfl, hi⟩ hR
  rw [F20.e17]
  exact step m z11 z12 z19 z20 h nx R hi fun m' w11 w12 w19 w20 h' nx' hlt hi' => hR m' _ h' nx' hlt ⟨_, _, _, _, rfl, hi'⟩
theorem F20.k30 {N B : Nat} {K0 : Kw Prop} {E2 E3 E4 : Ks Prop} {K : Ks Prop} (x0 x1 x2 x3 x4 x5 x6 x7 x8 x9 x10 x11 x12 x13 x14 x15 x16 x17 x18 x19 x20 : AV) (h : T Blk) (nx : Pa) : IR.run F20.b30 (CS Tryz.prog B) N ((((fnO F20.res K0).blk 2 E2).blk 3 E3).blk 4 E4) K (F20.fr x0 x1 x2 x3 x4 x5 x6 x7 x8 x9 x10 x11 x12 x13 x14 x15 x16 x17 x18 x19 x20) h nx =
  sBin .sub .int x11 (I 1) fun v1 =>
  K (F20.fr x0 x1 x2 x3 x4 x5 x6 x7 x8 x9 x10 v1 x12 x13 x14 x15 x16 x17 x18 x19 x20) h nx := by kernel_rfl
theorem F20.e23 {N B : Nat} {K0 : Kw Prop} {E2 E3 E4 E5 : Ks Prop} {K R : Ks Prop} (x0 x1 x2 x3 x4 x5 x6 x7 x8 x9 x10 x11 x12 x13 x14 x15 x16 x17 x18 x19 x20 : AV) (h : T Blk) (nx : Pa) : IR.run F20.b25 (CS Tryz.prog B) N ((((((fnO F20.res K0).blk 2 E2).blk 3 E3).blk 4 E4).blk 5 E5).blk 6 K) R (F20.fr x0 x1 x2 x3 x4 x5 x6 x7 x8 x9 x10 x11 x12 x13 x14 x15 x16 x17 x18 x19 x20) h nx =
  sBin .geq .int x12 x10 fun v1 =>
  sCond v1 (sIaddr 1 x8 x11 fun v2 =>
  sLoad v2 h fun v3 =>
  sIaddr 1 v3 x12 fun v4 =>
  sLoad v4 h fun v5 =>
  sBin .sub .int x11 (I 1) fun v6 =>
  sIaddr 1 x8 v6 fun v7 =>
  sLoad v7 h fun v8 =>
  sBin .sub .int x12 x10 fun v9 =>
  sIaddr 1 v8 v9 fun v10 =>
  sLoad v10 h fun v11 =>
  sBin .add .int v5 v11 fun v12 =>
  sIaddr 1 v3 x12 fun v13 =>
  sStore 1 v13 v12 h nx fun v14 h15 n16 =>
  sBin .sub .int x12 (I 1) fun v17 =>
  R (F20.fr x0 x1 x2 x3 x4 x5 x6 x7 x8 x9 x10 x11 v17 x13 x14 x15 x16 x17 x18 x19 v1) h15 n16) (K (F20.fr x0 x1 x2 x3 x4 x5 x6 x7 x8 x9 x10 x11 x12 x13 x14 x15 x16 x17 x18 x19 v1) h nx) := by kernel_rfl
/-- loop 23: changes x12, x20; the invariant speaks of x12 -/
theorem F20.L23 {N B : Nat} {K0 : Kw Prop} {E2 E3 E4 E5 : Ks Prop} {K : Ks Prop} {x0 x1 x2 x3 x4 x5 x6 x7 x8 x9 x10 x11 x12 x13 x14 x15 x16 x17 x18 x19 x20 : AV} {h : T Blk} {nx : Pa} (Inv : Nat → AV → T Blk → Pa → Prop) {m : Nat} (hm : m < N) (hi : Inv m x12 h nx)
    (step : ∀ (m : Nat) (z12 z20 : AV) (h : T Blk) (nx : Pa) (R : Ks Prop), Inv m z12 h nx → (∀ (m' : Nat) (w12 w20 : AV) (h' : T Blk) (nx' : Pa), m' < m → Inv m' w12 h' nx' → R (F20.fr x0 x1 x2 x3 x4 x5 x6 x7 x8 x9 x10 x11 w12 x13 x14 x15 x16 x17 x18 x19 w20) h' nx' = .ok True) →
      (sBin .geq .int z12 x10 fun v1 =>
  sCond v1 (sIaddr 1 x8 x11 fun v2 =>
  sLoad v2 h fun v3 =>
  sIaddr 1 v3 z12 fun v4 =>
  sLoad v4 h fun v5 =>
  sBin .sub .int x11 (I 1) fun v6 =>
  sIaddr 1 x8 v6 fun v7 =>
  sLoad v7 h fun v8 =>
  sBin .sub .int z12 x10 fun v9 =>
  sIaddr 1 v8 v9 fun v10 =>
  sLoad v10 h fun v11 =>
  sBin .add .int v5 v11 fun v12 =>
  sIaddr 1 v3 z12 fun v13 =>
  sStore 1 v13 v12 h nx fun v14 h15 n16 =>
  sBin .sub .int z12 (I 1) fun v17 =>
  R (F20.fr x0 x1 x2 x3 x4 x5 x6 x7 x8 x9 x10 x11 v17 x13 x14 x15 x16 x17 x18 x19 v1) h15 n16) (K (F20.fr x0 x1 x2 x3 x4 x5 x6 x7 x8 x9 x10 x11 z12 x13 x14 x15 x16 x17 x18 x19 v1) h nx)) = .ok True) :
    IR.run F20.b23 (CS Tryz.prog B) N (((((fnO F20.res K0).blk 2 E2).blk 3 E3).blk 4 E4).blk 5 E5) K (F20.fr x0 x1 x2 x3 x4 x5 x6 x7 x8 x9 x10 x11 x12 x13 x14 x15 x16 x17 x18 x19 x20) h nx = .ok True := by
  rw [F20.b23, F20.g23_eq, F20.b24]
  refine loop_ok (fun m tm h nx => ∃ z12 z20, tm = (F20.fr x0 x1 x2 x3 x4 x5 x6 x7 x8 x9 x10 x11 z12 x13 x14 x15 x16 x17 x18 x19 z20) ∧ Inv m z12 h nx) ?_ hm ⟨_, _, rfl, hi⟩
  rintro m tm h nx R ⟨z12, z20, rfl, hi⟩ hR
  rw [F20.e23]
  exact step m z12 z20 h nx R hi fun m' w12 w20 h' nx' hlt hi' => hR m' _ h' nx' hlt ⟨_, _, rfl, hi'⟩
theorem F20.k29 {N B : Nat} {K0 : Kw Prop} {E2 E3 E4 E5 E6 : Ks Prop} {K : Ks Prop} (x0 x1 x2 x3 x4 x5 x6 x7 x8 x9 x10 x11 x12 x13 x14 x15 x16 x17 x18 x19 x20 : AV) (h : T Blk) (nx : Pa) : IR.run F20.b29 (CS Tryz.prog B) N ((((((fnO F20.res K0).blk 2 E2).blk 3 E3).blk 4 E4).blk 5 E5).blk 6 E6) K (F20.fr x0 x1 x2 x3 x4 x5 x6 x7 x8 x9 x10 x11 x12 x13 x14 x15 x16 x17 x18 x19 x20) h nx =
  sBin .sub .int x12 (I 1) fun v1 =>
  K (F20.fr x0 x1 x2 x3 x4 x5 x6 x7 x8 x9 x10 x11 v1 x13 x14 x15 x16 x17 x18 x19 x20) h nx := by kernel_rfl
/-! talisman/talismanref07.SetCount -/
theorem F22.g1_eq (X2 : IR) (C : Calls Prop) (N : Nat) (O : Outs Prop) (K : Ks Prop) (x0 x1 x2 x3 x4 x5 x6 x7 x8 x9 x10 x11 x12 x13 x14 : AV) (h : T Blk) (nx : Pa) : IR.run (F22.g1 X2) C N O K (F22.fr x0 x1 x2 x3 x4 x5 x6 x7 x8 x9 x10 x11 x12 x13 x14) h nx =
  IR.run X2 C N (O.blk 0 K) K (F22.fr x0 x1 x2 x3 x4 x5 x6 x7 x8 x9 x10 x11 x12 x13 x14) h nx := by kernel_rfl
theorem F22.g21_eq (X22 : IR) (C : Calls Prop) (N : Nat) (O : Outs Prop) (K : Ks Prop) (x0 x1 x2 x3 x4 x5 x6 x7 x8 x9 x10 x11 x12 x13 x14 : AV) (h : T Blk) (nx : Pa) : IR.run (F22.g21 X22) C N O K (F22.fr x0 x1 x2 x3 x4 x5 x6 x7 x8 x9 x10 x11 x12 x13 x14) h nx =
  IR.run X22 C N (O.blk 6 K) K (F22.fr x0 x1 x2 x3 x4 x5 x6 x7 x8 x9 x10 x11 x12 x13 x14) h nx := by kernel_rfl
theorem F22.g15_eq (X16 : IR) (C : Calls Prop) (N : Nat) (O : Outs Prop) (K : Ks Prop) (x0 x1 x2 x3 x4 x5 x6 x7 x8 x9 x10 x11 x12 x13 x14 : AV) (h : T Blk) (nx : Pa) : IR.run (F22.g15 X16) C N O K (F22.fr x0 x1 x2 x3 x4 x5 x6 x7 x8 x9 x10 x11 x12 x13 x14) h nx =
  IR.run X16 C N (O.blk 4 K) K (F22.fr x0 x1 x2 x3 x4 x5 x6 x7 x8 x9 x10 x11 x12 x13 x14) h nx := by kernel_rfl
theorem F22.g9_eq (X10 : IR) (C : Calls Prop) (N : Nat) (O : Outs Prop) (K : Ks Prop) (x0 x1 x2 x3 x4 x5 x6 x7 x8 x9 x10 x11 x12 x13 x14 : AV) (h : T Blk) (nx : Pa) : IR.run (F22.g9 X10) C N O K (F22.fr x0 x1 x2 x3 x4 x5 x6 x7 x8 x9 x10 x11 x12 x13 x14) h nx =
  IR.run X10 C N (O.blk 2 K) K (F22.fr x0 x1 x2 x3 x4 x5 x6 x7 x8 x9 x10 x11 x12 x13 x14) h nx := by kernel_rfl
theorem F22.tab : T.get none (.of 22) tbl = some F22 := by kernel_rfl
theorem F22.go {N B : Nat} {K0 : Kw Prop} (y0 y1 y2 : AV) (h : T Blk) (nx : Pa) : callFn tbl N (CS Tryz.prog B) (.of 22) [y0, y1, y2] h nx K0 =
  sBin .add .int y1 (I 1) fun v1 =>
  sMkslice 1 24 [.nils] v1 v1 h nx fun v2 h3 n4 =>
  sBin .add .int y0 (I 1) fun v5 =>
  sBin .mul .int y0 v5 fun v6 =>
  sBin .quo .int v6 (I 2) fun v7 =>
  IR.run F22.b1 (CS Tryz.prog B) N (fnO F22.res K0) (IR.run F22.b8 (CS Tryz.prog B) N (fnO F22.res K0) (retK F22.res K0)) (F22.fr y0 y1 y2 (I 0) v2 v7 (I 0) .undef .undef .undef .undef .undef .undef .undef .undef) h3 n4 := by
  rw [callFn_of F22.tab]; kernel_rfl
theorem F22.e1 {N B : Nat} {K0 : Kw Prop} {K R : Ks Prop} (x0 x1 x2 x3 x4 x5 x6 x7 x8 x9 x10 x11 x12 x13 x14 : AV) (h : T Blk) (nx : Pa) : IR.run F22.b3 (CS Tryz.prog B) N ((fnO F22.res K0).blk 0 K) R (F22.fr x0 x1 x2 x3 x4 x5 x6 x7 x8 x9 x10 x11 x12 x13 x14) h nx =
  sBin .leq .int x6 x1 fun v1 =>
  sCond v1 (sBin .add .int x5 (I 1) fun v2 =>
  sMkslice 1 8 [(I 0)] v2 v2 h nx fun v3 h4 n5 =>
  sIaddr 1 x4 x6 fun v6 =>
  sStore 1 v6 v3 h4 n5 fun v7 h8 n9 =>
  sBin .add .int x6 (I 1) fun v10 =>
  R (F22.fr x0 x1 x2 x3 x4 x5 v10 x7 x8 x9 v1 x11 x12 x13 x14) h8 n9) (K (F22.fr x0 x1 x2 x3 x4 x5 x6 x7 x8 x9 v1 x11 x12 x13 x14) h nx) := by kernel_rfl
/-- loop 1: changes x6, x10; the invariant speaks of x6 -/
theorem F22.L1 {N B : Nat} {K0 : Kw Prop} {K : Ks Prop} {x0 x1 x2 x3 x4 x5 x6 x7 x8 x9 x10 x11 x12 x13 x14 : AV} {h : T Blk} {nx : Pa} (Inv : Nat → AV → T Blk → Pa → Prop) {m : Nat} (hm : m < N) (hi : Inv m x6 h nx)
    (step : ∀ (m : Nat) (z6 z10 : AV) (h : T Blk) (nx : Pa) (R : Ks Prop), Inv m z6 h nx → (∀ (m' : Nat) (w6 w10 : AV) (h' : T Blk) (nx' : Pa), m' < m → Inv m' w6 h' nx' → R (F22.fr x0 x1 x2 x3 x4 x5 w6 x7 x8 x9 w10 x11 x12 x13 x14) h' nx' = .ok True) →
      (sBin .leq .int z6 x1 fun v1 =>
  sCond v1 (sBin .add .int x5 (I 1) fun v2 =>
  sMkslice 1 8 [(I 0)] v2 v2 h nx fun v3 h4 n5 =>
  sIaddr 1 x4 z6 fun v6 =>
  sStore 1 v6 v3 h4 n5 fun v7 h8 n9 =>
  sBin .add .int z6 (I 1) fun v10 =>
  R (F22.fr x0 x1 x2 x3 x4 x5 v10 x7 x8 x9 v1 x11 x12 x13 x14) h8 n9) (K (F22.fr x0 x1 x2 x3 x4 x5 z6 x7 x8 x9 v1 x11 x12 x13 x14) h nx)) = .ok True) :
    IR.run F22.b1 (CS Tryz.prog B) N (fnO F22.res K0) K (F22.fr x0 x1 x2 x3 x4 x5 x6 x7 x8 x9 x10 x11 x12 x13 x14) h nx = .ok True := by
  rw [F22.b1, F22.g1_eq, F22.b2]
  refine loop_ok (fun m tm h nx => ∃ z6 z10, tm = (F22.fr x0 x1 x2 x3 x4 x5 z6 x7 x8 x9 z10 x11 x12 x13 x14) ∧ Inv m z6 h nx) ?_ hm ⟨_, _, rfl, hi⟩
  rintro m tm h nx R ⟨z6, z10, rfl, hi⟩ hR
  rw [F22.e1]
  exact step m z6 z10 h nx R hi fun m' w6 w10 h' nx' hlt hi' => hR m' _ h' nx' hlt ⟨_, _, rfl, hi'⟩
theorem F22.k8 {N B : Nat} {K0 : Kw Prop} {K : Ks Prop} (x0 x1 x2 x3 x4 x5 x6 x7 x8 x9 x10 x11 x12 x13 x14 : AV) (h : T Blk) (nx : Pa) : IR.run F22.b8 (CS Tryz.prog B) N (fnO F22.res K0) K (F22.fr x0 x1 x2 x3 x4 x5 x6 x7 x8 x9 x10 x11 x12 x13 x14) h nx =
  sIaddr 1 x4 (I 0) fun v1 =>
  sLoad v1 h fun v2 =>
  sIaddr 1 v2 (I 0) fun v3 =>
  sStore 1 v3 (I 1) h nx fun v4 h5 n6 =>
  IR.run F22.b9 (CS Tryz.prog B) N (fnO F22.res K0) (IR.run F22.b30 (CS Tryz.prog B) N (fnO F22.res K0) K) (F22.fr x0 x1 x2 x3 x4 x5 x6 (I 1) x8 x9 x10 x11 x12 x13 x14) h5 n6 := by kernel_rfl
theorem F22.k7 {N B : Nat} {K0 : Kw Prop} {E0 : Ks Prop} {K : Ks Prop} (x0 x1 x2 x3 x4 x5 x6 x7 x8 x9 x10 x11 x12 x13 x14 : AV) (h : T Blk) (nx : Pa) : IR.run F22.b7 (CS Tryz.prog B) N ((fnO F22.res K0).blk 0 E0) K (F22.fr x0 x1 x2 x3 x4 x5 x6 x7 x8 x9 x10 x11 x12 x13 x14) h nx =
  sBin .add .int x6 (I 1) fun v1 =>
  K (F22.fr x0 x1 x2 x3 x4 x5 v1 x7 x8 x9 x10 x11 x12 x13 x14) h nx := by kernel_rfl
theorem F22.e9 {N B : Nat} {K0 : Kw Prop} {K R : Ks Prop} (x0 x1 x2 x3 x4 x5 x6 x7 x8 x9 x10 x11 x12 x13 x14 : AV) (h : T Blk) (nx : Pa) : IR.run F22.b11 (CS Tryz.prog B) N ((fnO F22.res K0).blk 2 K) R (F22.fr x0 x1 x2 x3 x4 x5 x6 x7 x8 x9 x10 x11 x12 x13 x14) h nx =
  sBin .leq .int x7 x0 fun v1 =>
  sCond v1 (IR.run F22.b15 (CS Tryz.prog B) N (((fnO F22.res K0).blk 2 K).blk 3 (IR.run F22.b29 (CS Tryz.prog B) N ((fnO F22.res K0).blk 2 K) R)) (IR.run F22.b29 (CS Tryz.prog B) N ((fnO F22.res K0).blk 2 K) R) (F22.fr x0 x1 x2 x3 x4 x5 x6 x7 x1 x9 x10 v1 x12 x13 x14) h nx) (K (F22.fr x0 x1 x2 x3 x4 x5 x6 x7 x8 x9 x10 v1 x12 x13 x14) h nx) := by kernel_rfl
/-- loop 9: changes x7, x8, x9, x11, x12, x13; the invariant speaks of x7 -/
theorem F22.L9 {N B : Nat} {K0 : Kw Prop} {K : Ks Prop} {x0 x1 x2 x3 x4 x5 x6 x7 x8 x9 x10 x11 x12 x13 x14 : AV} {h : T Blk} {nx : Pa} (Inv : Nat → AV → T Blk → Pa → Prop) {m : Nat} (hm : m < N) (hi : Inv m x7 h nx)
    (step : ∀ (m : Nat) (z7 z8 z9 z11 z12 z13 : AV) (h : T Blk) (nx : Pa) (R : Ks Prop), Inv m z7 h nx → (∀ (m' : Nat) (w7 w8 w9 w11 w12 w13 : AV) (h' : T Blk) (nx' : Pa), m' < m → Inv m' w7 h' nx' → R (F22.fr x0 x1 x2 x3 x4 x5 x6 w7 w8 w9 x10 w11 w12 w13 x14) h' nx' = .ok True) →
      (sBin .leq .int z7 x0 fun v1 =>
  sCond v1 (IR.run F22.b15 (CS Tryz.prog B) N (((fnO F22.res K0).blk 2 K).blk 3 (IR.run F22.b29 (CS Tryz.prog B) N ((fnO F22.res K0).blk 2 K) R)) (IR.run F22.b29 (CS Tryz.prog B) N ((fnO F22.res K0).blk 2 K) R) (F22.fr x0 x1 x2 x3 x4 x5 x6 z7 x1 z9 x10 v1 z12 z13 x14) h nx) (K (F22.fr x0 x1 x2 x3 x4 x5 x6 z7 z8 z9 x10 v1 z12 z13 x14) h nx)) = .ok True) :
    IR.run F22.b9 (CS Tryz.prog B) N (fnO F22.res K0) K (F22.fr x0 x1 x2 x3 x4 x5 x6 x7 x8 x9 x10 x11 x12 x13 x14) h nx = .ok True := by
  rw [F22.b9, F22.g9_eq, F22.b10]
  refine loop_ok (fun m tm h nx => ∃ z7 z8 z9 z11 z12 z13, tm = (F22.fr x0 x1 x2 x3 x4 x5 x6 z7 z8 z9 x10 z11 z12 z13 x14) ∧ Inv m z7 h nx) ?_ hm ⟨_, _, _, _, _, _, rfl, hi⟩
  rintro m tm h nx R ⟨z7, z8, z9, z11, z12, z13, rfl, hi⟩ hR
  rw [F22.e9]
  exact step m z7 z8 z9 z11 z12 z13 h nx R hi fun m' w7 w8 w9 w11 w12 w13 h' nx' hlt hi' => hR m' _ h' nx' hlt ⟨_, _, _, _, _, _, rfl, hi'⟩
theorem F22.k30 {N B : Nat} {K0 : Kw Prop} {K : Ks Prop} (x0 x1 x2 x3 x4 x5 x6 x7 x8 x9 x10 x11 x12 x13 x14 : AV) (h : T Blk) (nx : Pa) : IR.run F22.b30 (CS Tryz.prog B) N (fnO F22.res K0) K (F22.fr x0 x1 x2 x3 x4 x5 x6 x7 x8 x9 x10 x11 x12 x13 x14) h nx =
  sBin .lss .int x2 (I 0) fun v1 =>
  sG v1 false (fun k => k x2) fun v2 =>
  sG v1 false (fun k => k x5) fun v3 =>
  sG v1 false (fun k => sBin .gtr .int v2 v3 k) fun v4 =>
  sPick v1 (.bool true) v4 fun v5 =>
  sCond v5 (K0 (I 0) h nx) (sIaddr 1 x4 x1 fun v6 =>
  sLoad v6 h fun v7 =>
  sIaddr 1 v7 x2 fun v8 =>
  sLoad v8 h fun v9 =>
  K0 v9 h nx) := by kernel_rfl
theorem F22.k29 {N B : Nat} {K0 : Kw Prop} {E2 : Ks Prop} {K : Ks Prop} (x0 x1 x2 x3 x4 x5 x6 x7 x8 x9 x10 x11 x12 x13 x14 : AV) (h : T Blk) (nx : Pa) : IR.run F22.b29 (CS Tryz.prog B) N ((fnO F22.res K0).blk 2 E2) K (F22.fr x0 x1 x2 x3 x4 x5 x6 x7 x8 x9 x10 x11 x12 x13 x14) h nx =
  sBin .add .int x7 (I 1) fun v1 =>
  K (F22.fr x0 x1 x2 x3 x4 x5 x6 v1 x8 x9 x10 x11 x12 x13 x14) h nx := by kernel_rfl
theorem F22.e15 {N B : Nat} {K0 : Kw Prop} {E2 E3 : Ks Prop} {K R : Ks Prop} (x0 x1 x2 x3 x4 x5 x6 x7 x8 x9 x10 x11 x12 x13 x14 : AV) (h : T Blk) (nx : Pa) : IR.run F22.b17 (CS Tryz.prog B) N ((((fnO F22.res K0).blk 2 E2).blk 3 E3).blk 4 K) R (F22.fr x0 x1 x2 x3 x4 x5 x6 x7 x8 x9 x10 x11 x12 x13 x14) h nx =
  sBin .geq .int x8 (I 1) fun v1 =>
  sCond v1 (IR.run F22.b21 (CS Tryz.prog B) N (((((fnO F22.res K0).blk 2 E2).blk 3 E3).blk 4 K).blk 5 (IR.run F22.b28 (CS Tryz.prog B) N ((((fnO F22.res K0).blk 2 E2).blk 3 E3).blk 4 K) R)) (IR.run F22.b28 (CS Tryz.prog B) N ((((fnO F22.res K0).blk 2 E2).blk 3 E3).blk 4 K) R) (F22.fr x0 x1 x2 x3 x4 x5 x6 x7 x8 x5 x10 x11 v1 x13 x14) h nx) (K (F22.fr x0 x1 x2 x3 x4 x5 x6 x7 x8 x9 x10 x11 v1 x13 x14) h nx) := by kernel_rfl
/-- loop 15: changes x8, x9, x12, x13; the invariant speaks of x8 -/
theorem F22.L15 {N B : Nat} {K0 : Kw Prop} {E2 E3 : Ks Prop} {K : Ks Prop} {x0 x1 x2 x3 x4 x5 x6 x7 x8 x9 x10 x11 x12 x13 x14 : AV} {h : T Blk} {nx : Pa} (Inv : Nat → AV → T Blk → Pa → Prop) {m : Nat} (hm : m < N) (hi : Inv m x8 h nx)
    (step : ∀ (m : Nat) (z8 z9 z12 z13 : AV) (h : T Blk) (nx : Pa) (R : Ks Prop), Inv m z8 h nx → (∀ (m' : Nat) (w8 w9 w12 w13 : AV) (h' : T Blk) (nx' : Pa), m' < m → Inv m' w8 h' nx' → R (F22.fr x0 x1 x2 x3 x4 x5 x6 x7 w8 w9 x10 x11 w12 w13 x14) h' nx' = .ok True) →
      (sBin .geq .int z8 (I 1) fun v1 =>
  sCond v1 (IR.run F22.b21 (CS Tryz.prog B) N (((((fnO F22.res K0).blk 2 E2).blk 3 E3).blk 4 K).blk 5 (IR.run F22.b28 (CS Tryz.prog B) N ((((fnO F22.res K0).blk 2 E2).blk 3 E3).blk 4 K) R)) (IR.run F22.b28 (CS Tryz.prog B) N ((((fnO F22.res K0).blk 2 E2).blk 3 E3).blk 4 K) R) (F22.fr x0 x1 x2 x3 x4 x5 x6 x7 z8 x5 x10 x11 v1 z13 x14) h nx) (K (F22.fr x0 x1 x2 x3 x4 x5 x6 x7 z8 z9 x10 x11 v1 z13 x14) h nx)) = .ok True) :
    IR.run F22.b15 (CS Tryz.prog B) N (((fnO F22.res K0).blk 2 E2).blk 3 E3) K (F22.fr x0 x1 x2 x3 x4 x5 x6 x7 x8 x9 x10 x11 x12 x13 x14) h nx = .ok True := by
  rw [F22.b15, F22.g15_eq, F22.b16]
  refine loop_ok (fun m tm h nx => ∃ z8 z9 z12 z13, tm = (F22.fr x0 x1 x2 x3 x4 x5 x6 x7 z8 z9 x10 x11 z12 z13 x14) ∧ Inv m z8 h nx) ?_ hm ⟨_, _, _, _, rfl, hi⟩
  rintro m tm h nx R ⟨z8, z9, z12, z13, rfl, hi⟩ hR
  rw [F22.e15]
  exact step m z8 z9 z12 z13 h nx R hi fun m' w8 w9 w12 w13 h' nx' hlt hi' => hR m' _ h' nx' hlt ⟨_, _, _, _, rfl, hi'⟩
theorem F22.k28 {N B : Nat} {K0 : Kw Prop} {E2 E3 E4 : Ks Prop} {K : Ks Prop} (x0 x1 x2 x3 x4 x5 x6 x7 x8 x9 x10 x11 x12 x13 x14 : AV) (h : T Blk) (nx : Pa) : IR.run F22.b28 (CS Tryz.prog B) N ((((fnO F22.res K0).blk 2 E2).blk 3 E3).blk 4 E4) K (F22.fr x0 x1 x2 x3 x4 x5 x6 x7 x8 x9 x10 x11 x12 x13 x14) h nx =
  sBin .sub .int x8 (I 1) fun v1 =>
  K (F22.fr x0 x1 x2 x3 x4 x5 x6 x7 v1 x9 x10 x11 x12 x13 x14) h nx := by kernel_rfl
theorem F22.e21 {N B : Nat} {K0 : Kw Prop} {E2 E3 E4 E5 : Ks Prop} {K R : Ks Prop} (x0 x1 x2 x3 x4 x5 x6 x7 x8 x9 x10 x11 x12 x13 x14 : AV) (h : T Blk) (nx : Pa) : IR.run F22.b23 (CS Tryz.prog B) N ((((((fnO F22.res K0).blk 2 E2).blk 3 E3).blk 4 E4).blk 5 E5).blk 6 K) R (F22.fr x0 x1 x2 x3 x4 x5 x6 x7 x8 x9 x10 x11 x12 x13 x14) h nx =
  sBin .geq .int x9 x7 fun v1 =>
  sCond v1 (sIaddr 1 x4 x8 fun v2 =>
  sLoad v2 h fun v3 =>
  sIaddr 1 x4 x8 fun v4 =>
  sLoad v4 h fun v5 =>
  sIaddr 1 v5 x9 fun v6 =>
  sLoad v6 h fun v7 =>
  sBin .sub .int x8 (I 1) fun v8 =>
  sIaddr 1 x4 v8 fun v9 =>
  sLoad v9 h fun v10 =>
  sBin .sub .int x9 x7 fun v11 =>
  sIaddr 1 v10 v11 fun v12 =>
  sLoad v12 h fun v13 =>
  sBin .add .int v7 v13 fun v14 =>
  sIaddr 1 v3 x9 fun v15 =>
  sStore 1 v15 v14 h nx fun v16 h17 n18 =>
  sBin .sub .int x9 (I 1) fun v19 =>
  R (F22.fr x0 x1 x2 x3 x4 x5 x6 x7 x8 v19 x10 x11 x12 v1 x14) h17 n18) (K (F22.fr x0 x1 x2 x3 x4 x5 x6 x7 x8 x9 x10 x11 x12 v1 x14) h nx) := by kernel_rfl
/-- loop 21: changes x9, x13; the invariant speaks of x9 -/
theorem F22.L21 {N B : Nat} {K0 : Kw Prop} {E2 E3 E4 E5 : Ks Prop} {K : Ks Prop} {x0 x1 x2 x3 x4 x5 x6 x7 x8 x9 x10 x11 x12 x13 x14 : AV} {h : T Blk} {nx : Pa} (Inv : Nat → AV → T Blk → Pa → Prop) {m : Nat} (hm : m < N) (hi : Inv m x9 h nx)
    (step : ∀ (m : Nat) (z9 z13 : AV) (h : T Blk) (nx : Pa) (R : Ks Prop), Inv m z9 h nx → (∀ (m' : Nat) (w9 w13 : AV) (h' : T Blk) (nx' : Pa), m' < m → Inv m' w9 h' nx' → R (F22.fr x0 x1 x2 x3 x4 x5 x6 x7 x8 w9 x10 x11 x12 w13 x14) h' nx' = .ok True) →
      (sBin .geq .int z9 x7 fun v1 =>
  sCond v1 (sIaddr 1 x4 x8 fun v2 =>
  sLoad v2 h fun v3 =>
  sIaddr 1 x4 x8 fun v4 =>
  sLoad v4 h fun v5 =>
  sIaddr 1 v5 z9 fun v6 =>
  sLoad v6 h fun v7 =>
  sBin .sub .int x8 (I 1) fun v8 =>
  sIaddr 1 x4 v8 fun v9 =>
  sLoad v9 h fun v10 =>
  sBin .sub .int z9 x7 fun v11 =>
  sIaddr 1 v10 v11 fun v12 =>
  sLoad v12 h fun v13 =>
  sBin .add .int v7 v13 fun v14 =>
  sIaddr 1 v3 z9 fun v15 =>
  sStore 1 v15 v14 h nx fun v16 h17 n18 =>
  sBin .sub .int z9 (I 1) fun v19 =>
  R (F22.fr x0 x1 x2 x3 x4 x5 x6 x7 x8 v19 x10 x11 x12 v1 x14) h17 n18) (K (F22.fr x0 x1 x2 x3 x4 x5 x6 x7 x8 z9 x10 x11 x12 v1 x14) h nx)) = .ok True) :
    IR.run F22.b21 (CS Tryz.prog B) N (((((fnO F22.res K0).blk 2 E2).blk 3 E3).blk 4 E4).blk 5 E5) K (F22.fr x0 x1 x2 x3 x4 x5 x6 x7 x8 x9 x10 x11 x12 x13 x14) h nx = .ok True := by
  rw [F22.b21, F22.g21_eq, F22.b22]
  refine loop_ok (fun m tm h nx => ∃ z9 z13, tm = (F22.fr x0 x1 x2 x3 x4 x5 x6 x7 x8 z9 x10 x11 x12 z13 x14) ∧ Inv m z9 h nx) ?_ hm ⟨_, _, rfl, hi⟩
  rintro m tm h nx R ⟨z9, z13, rfl, hi⟩ hR
  rw [F22.e21]
  exact step m z9 z13 h nx R hi fun m' w9 w13 h' nx' hlt hi' => hR m' _ h' nx' hlt ⟨_, _, rfl, hi'⟩
theorem F22.k27 {N B : Nat} {K0 : Kw Prop} {E2 E3 E4 E5 E6 : Ks Prop} {K : Ks Prop} (x0 x1 x2 x3 x4 x5 x6 x7 x8 x9 x10 x11 x12 x13 x14 : AV) (h : T Blk) (nx : Pa) : IR.run F22.b27 (CS Tryz.prog B) N ((((((fnO F22.res K0).blk 2 E2).blk 3 E3).blk 4 E4).blk 5 E5).blk 6 E6) K (F22.fr x0 x1 x2 x3 x4 x5 x6 x7 x8 x9 x10 x11 x12 x13 x14) h nx =
  sBin .sub .int x9 (I 1) fun v1 =>
  K (F22.fr x0 x1 x2 x3 x4 x5 x6 x7 x8 v1 x10 x11 x12 x13 x14) h nx := by kernel_rfl
/-! talisman/count.Sets -/
theorem F19.tab : T.get none (.of 19) tbl = some F19 := by kernel_rfl
theorem F19.go {N B : Nat} {K0 : Kw Prop} (y0 y1 y2 : AV) (h : T Blk) (nx : Pa) : callFn tbl N (CS Tryz.prog B) (.of 19) [y0, y1, y2] h nx K0 =
  sBox y0 h nx fun v1 h2 n3 =>
  sBox y1 h2 n3 fun v4 h5 n6 =>
  sLoad v1 h5 fun v7 =>
  sLoad v4 h5 fun v8 =>
  (CS Tryz.prog B).fn 76 (.of 76) [v7, v8] h5 n6 fun v9 h10 n11 =>
  sBin .neq .int v9 (I 0) fun v12 =>
  sCond v12 (K0 (.tup [.nils, v9]) h10 n11) (sAlloc [.nils] h10 n11 fun v13 h14 n15 =>
  sAlloc [.nils] h14 n15 fun v16 h17 n18 =>
  sAlloc [.nilf] h17 n18 fun v19 h20 n21 =>
  sStore 1 v19 (.fn 77 (.of 77) [v4, v16, v1, v13, v19]) h20 n21 fun v22 h23 n24 =>
  sLoad v19 h23 fun v25 =>
  sCall (CS Tryz.prog B) v25 [(I 1), y2] h23 n24 fun v26 h27 n28 =>
  sNot v26 fun v29 =>
  sCond v29 (K0 (.tup [.nils, (I 5)]) h27 n28) (sLoad v13 h27 fun v30 =>
  K0 (.tup [v30, (I 0)]) h27 n28)) := by
  rw [callFn_of F19.tab]; kernel_rfl
/-! talisman/count.Sets$1 -/
theorem F77.g3_eq (X4 : IR) (C : Calls Prop) (N : Nat) (O : Outs Prop) (K : Ks Prop) (x0 x1 x2 x3 x4 x5 x6 x7 x8 x9 x10 x11 x12 x13 x14 x15 x16 : AV) (h : T Blk) (nx : Pa) : IR.run (F77.g3 X4) C N O K (F77.fr x0 x1 x2 x3 x4 x5 x6 x7 x8 x9 x10 x11 x12 x13 x14 x15 x16) h nx =
  IR.run X4 C N (O.blk 0 K) K (F77.fr x0 x1 x2 x3 x4 x5 x6 x7 x8 x9 x10 x11 x12 x13 x14 x15 x16) h nx := by kernel_rfl
theorem F77.tab : T.get none (.of 77) tbl = some F77 := by kernel_rfl
theorem F77.go {N B : Nat} {K0 : Kw Prop} (y0 y1 y2 y3 y4 y5 y6 : AV) (h : T Blk) (nx : Pa) : callFn tbl N (CS Tryz.prog B) (.of 77) [y0, y1, y2, y3, y4, y5, y6] h nx K0 =
  sLoad y2 h fun v1 =>
  sLoad y3 h fun v2 =>
  sLen v2 fun v3 =>
  sBin .sub .int v1 v3 fun v4 =>
  sLoad y4 h fun v5 =>
  (CS Tryz.prog B).fn 78 (.of 78) [y0, v5, v4] h nx fun v6 h7 n8 =>
  sExt 0 v6 fun v9 =>
  sExt 1 v6 fun v10 =>
  sLoad y4 h7 fun v11 =>
  sBin .sub .int v11 y0 fun v12 =>
  sBin .add .int v12 (I 1) fun v13 =>
  sBin .gtr .int v4 v13 fun v14 =>
  sG v14 false (fun k => k y1) fun v15 =>
  sG v14 false (fun k => k v9) fun v16 =>
  sG v14 false (fun k => sBin .lss .int v15 v16 k) fun v17 =>
  sPick v14 (.bool true) v17 fun v18 =>
  sG v18 false (fun k => k y1) fun v19 =>
  sG v18 false (fun k => k v10) fun v20 =>
  sG v18 false (fun k => sBin .gtr .int v19 v20 k) fun v21 =>
  sPick v18 (.bool true) v21 fun v22 =>
  sCond v22 (K0 (.bool true) h7 n8) ((IR.run F77.b1 (CS Tryz.prog B) N (fnO F77.res K0) (retK F77.res K0)) (F77.fr y0 y1 y2 y3 y4 y5 y6 (.bool false) v4 v9 v10 .undef .undef v22 .undef .undef .undef) h7 n8) := by
  rw [callFn_of F77.tab]; kernel_rfl
theorem F77.k1 {N B : Nat} {K0 : Kw Prop} {K : Ks Prop} (x0 x1 x2 x3 x4 x5 x6 x7 x8 x9 x10 x11 x12 x13 x14 x15 x16 : AV) (h : T Blk) (nx : Pa) : IR.run F77.b1 (CS Tryz.prog B) N (fnO F77.res K0) K (F77.fr x0 x1 x2 x3 x4 x5 x6 x7 x8 x9 x10 x11 x12 x13 x14 x15 x16) h nx =
  sBin .eql .int x8 (I 0) fun v1 =>
  sCond v1 (sLoad x5 h fun v2 =>
  sLoad x3 h fun v3 =>
  (CS Tryz.prog B).fn 79 (.of 79) [v3] h nx fun v4 h5 n6 =>
  (sLoad x5 h5 fun v20 => sSame v20 v2 (sBslice 1 1 [.nils] [(0, 1, v4)] h5 n6 fun v7 h8 n9 =>
  (sLoad x5 h8 fun v19 => sSame v19 v2 (sApp 1 24 v2 v7 h8 n9 fun v10 h11 n12 =>
  sStore 1 x5 v10 h11 n12 fun v13 h14 n15 =>
  sLoad x5 h14 fun v16 =>
  sLen v16 fun v17 =>
  sBin .leq .int v17 (I 1024) fun v18 =>
  K0 v18 h14 n15))))) (IR.run F77.b3 (CS Tryz.prog B) N (fnO F77.res K0) (IR.run F77.b10 (CS Tryz.prog B) N (fnO F77.res K0) K) (F77.fr x0 x1 x2 x3 x4 x5 x6 x7 x8 x9 x10 x0 x12 x13 v1 x15 x16) h nx) := by kernel_rfl
theorem F77.e3 {N B : Nat} {K0 : Kw Prop} {K R : Ks Prop} (x0 x1 x2 x3 x4 x5 x6 x7 x8 x9 x10 x11 x12 x13 x14 x15 x16 : AV) (h : T Blk) (nx : Pa) : IR.run F77.b5 (CS Tryz.prog B) N ((fnO F77.res K0).blk 0 K) R (F77.fr x0 x1 x2 x3 x4 x5 x6 x7 x8 x9 x10 x11 x12 x13 x14 x15 x16) h nx =
  sLoad x4 h fun v1 =>
  sBin .leq .int x11 v1 fun v2 =>
  sCond v2 (sLoad x3 h fun v3 =>
  sBslice 1 1 [(I 0)] [(0, 1, x11)] h nx fun v4 h5 n6 =>
  sApp 1 8 v3 v4 h5 n6 fun v7 h8 n9 =>
  sStore 1 x3 v7 h8 n9 fun v10 h11 n12 =>
  sLoad x6 h11 fun v13 =>
  sBin .add .int x11 (I 1) fun v14 =>
  sBin .sub .int x1 x11 fun v15 =>
  sCall (CS Tryz.prog B) v13 [v14, v15] h11 n12 fun v16 h17 n18 =>
  sLoad x3 h17 fun v19 =>
  sLoad x3 h17 fun v20 =>
  sLen v20 fun v21 =>
  sBin .sub .int v21 (I 1) fun v22 =>
  sSlice 1 v19 none (some v22) none fun v23 =>
  sStore 1 x3 v23 h17 n18 fun v24 h25 n26 =>
  sNot v16 fun v27 =>
  sCond v27 (K0 (.bool false) h25 n26) (sBin .add .int x11 (I 1) fun v28 =>
  R (F77.fr x0 x1 x2 x3 x4 x5 x6 x7 x8 x9 x10 v28 v16 x13 x14 v2 v27) h25 n26)) (K (F77.fr x0 x1 x2 x3 x4 x5 x6 x7 x8 x9 x10 x11 x12 x13 x14 v2 x16) h nx) := by kernel_rfl
/-- loop 3: changes x7, x11, x12, x15, x16; the invariant speaks of x11 -/
theorem F77.L3 {N B : Nat} {K0 : Kw Prop} {K : Ks Prop} {x0 x1 x2 x3 x4 x5 x6 x7 x8 x9 x10 x11 x12 x13 x14 x15 x16 : AV} {h : T Blk} {nx : Pa} (Inv : Nat → AV → T Blk → Pa → Prop) {m : Nat} (hm : m < N) (hi : Inv m x11 h nx)
    (step : ∀ (m : Nat) (z7 z11 z12 z15 z16 : AV) (h : T Blk) (nx : Pa) (R : Ks Prop), Inv m z11 h nx → (∀ (m' : Nat) (w7 w11 w12 w15 w16 : AV) (h' : T Blk) (nx' : Pa), m' < m → Inv m' w11 h' nx' → R (F77.fr x0 x1 x2 x3 x4 x5 x6 w7 x8 x9 x10 w11 w12 x13 x14 w15 w16) h' nx' = .ok True) →
      (sLoad x4 h fun v1 =>
  sBin .leq .int z11 v1 fun v2 =>
  sCond v2 (sLoad x3 h fun v3 =>
  sBslice 1 1 [(I 0)] [(0, 1, z11)] h nx fun v4 h5 n6 =>
  sApp 1 8 v3 v4 h5 n6 fun v7 h8 n9 =>
  sStore 1 x3 v7 h8 n9 fun v10 h11 n12 =>
  sLoad x6 h11 fun v13 =>
  sBin .add .int z11 (I 1) fun v14 =>
  sBin .sub .int x1 z11 fun v15 =>
  sCall (CS Tryz.prog B) v13 [v14, v15] h11 n12 fun v16 h17 n18 =>
  sLoad x3 h17 fun v19 =>
  sLoad x3 h17 fun v20 =>
  sLen v20 fun v21 =>
  sBin .sub .int v21 (I 1) fun v22 =>
  sSlice 1 v19 none (some v22) none fun v23 =>
  sStore 1 x3 v23 h17 n18 fun v24 h25 n26 =>
  sNot v16 fun v27 =>
  sCond v27 (K0 (.bool false) h25 n26) (sBin .add .int z11 (I 1) fun v28 =>
  R (F77.fr x0 x1 x2 x3 x4 x5 x6 z7 x8 x9 x10 v28 v16 x13 x14 v2 v27) h25 n26)) (K (F77.fr x0 x1 x2 x3 x4 x5 x6 z7 x8 x9 x10 z11 z12 x13 x14 v2 z16) h nx)) = .ok True) :
    IR.run F77.b3 (CS Tryz.prog B) N (fnO F77.res K0) K (F77.fr x0 x1 x2 x3 x4 x5 x6 x7 x8 x9 x10 x11 x12 x13 x14 x15 x16) h nx = .ok True := by
  rw [F77.b3, F77.g3_eq, F77.b4]
  refine loop_ok (fun m tm h nx => ∃ z7 z11 z12 z15 z16, tm = (F77.fr x0 x1 x2 x3 x4 x5 x6 z7 x8 x9 x10 z11 z12 x13 x14 z15 z16) ∧ Inv m z11 h nx) ?_ hm ⟨_, _, _, _, _, rfl, hi⟩
  rintro m tm h nx R ⟨z7, z11, z12, z15, z16, rfl, hi⟩ hR
  rw [F77.e3]
  exact step m z7 z11 z12 z15 z16 h nx R hi fun m' w7 w11 w12 w15 w16 h' nx' hlt hi' => hR m' _ h' nx' hlt ⟨_, _, _, _, _, rfl, hi'⟩
theorem F77.k10 {N B : Nat} {K0 : Kw Prop} {K : Ks Prop} (x0 x1 x2 x3 x4 x5 x6 x7 x8 x9 x10 x11 x12 x13 x14 x15 x16 : AV) (h : T Blk) (nx : Pa) : IR.run F77.b10 (CS Tryz.prog B) N (fnO F77.res K0) K (F77.fr x0 x1 x2 x3 x4 x5 x6 x7 x8 x9 x10 x11 x12 x13 x14 x15 x16) h nx =
  K0 (.bool true) h nx := by kernel_rfl
theorem F77.k9 {N B : Nat} {K0 : Kw Prop} {E0 : Ks Prop} {K : Ks Prop} (x0 x1 x2 x3 x4 x5 x6 x7 x8 x9 x10 x11 x12 x13 x14 x15 x16 : AV) (h : T Blk) (nx : Pa) : IR.run F77.b9 (CS Tryz.prog B) N ((fnO F77.res K0).blk 0 E0) K (F77.fr x0 x1 x2 x3 x4 x5 x6 x7 x8 x9 x10 x11 x12 x13 x14 x15 x16) h nx =
  sBin .add .int x11 (I 1) fun v1 =>
  K (F77.fr x0 x1 x2 x3 x4 x5 x6 x7 x8 x9 x10 v1 x12 x13 x14 x15 x16) h nx := by kernel_rfl
/-! slices.Clone[[]int,int] -/
theorem F79.tab : T.get none (.of 79) tbl = some F79 := by kernel_rfl
theorem F79.go {N B : Nat} {K0 : Kw Prop} (y0 : AV) (h : T Blk) (nx : Pa) : callFn tbl N (CS Tryz.prog B) (.of 79) [y0] h nx K0 =
  sBin .eql (.nil .sl) y0 .nils fun v1 =>
  sCond v1 (K0 .nils h nx) (sBslice 1 0 [(I 0)] [] h nx fun v2 h3 n4 =>
  sApp 1 8 v2 y0 h3 n4 fun v5 h6 n7 =>
  K0 v5 h6 n7) := by
  rw [callFn_of F79.tab]; kernel_rfl
/-! talisman/talismanref07.Sets -/
theorem F24.g3_eq (X4 : IR) (C : Calls Prop) (N : Nat) (O : Outs Prop) (K : Ks Prop) (x0 x1 x2 x3 x4 x5 x6 x7 x8 x9 x10 : AV) (h : T Blk) (nx : Pa) : IR.run (F24.g3 X4) C N O K (F24.fr x0 x1 x2 x3 x4 x5 x6 x7 x8 x9 x10) h nx =
  IR.run X4 C N (O.blk 0 K) K (F24.fr x0 x1 x2 x3 x4 x5 x6 x7 x8 x9 x10) h nx := by kernel_rfl
theorem F24.tab : T.get none (.of 24) tbl = some F24 := by kernel_rfl
theorem F24.go {N B : Nat} {K0 : Kw Prop} (y0 y1 y2 y3 y4 : AV) (h : T Blk) (nx : Pa) : callFn tbl N (CS Tryz.prog B) (.of 24) [y0, y1, y2, y3, y4] h nx K0 =
  sBin .eql .int y3 (I 0) fun v1 =>
  sCond v1 (sBin .eql .int y4 (I 0) fun v2 =>
  sCond v2 (sBslice 1 0 [(I 0)] [] h nx fun v3 h4 n5 =>
  sApp 1 8 v3 y0 h4 n5 fun v6 h7 n8 =>
  sBslice 1 1 [.nils] [(0, 1, v6)] h7 n8 fun v9 h10 n11 =>
  K0 v9 h10 n11) (K0 .nils h nx)) (IR.run F24.b3 (CS Tryz.prog B) N (fnO F24.res K0) (IR.run F24.b10 (CS Tryz.prog B) N (fnO F24.res K0) (retK F24.res K0)) (F24.fr y0 y1 y2 y3 y4 .nils .nils y1 v1 .undef .undef) h nx) := by
  rw [callFn_of F24.tab]; kernel_rfl
theorem F24.e3 {N B : Nat} {K0 : Kw Prop} {K R : Ks Prop} (x0 x1 x2 x3 x4 x5 x6 x7 x8 x9 x10 : AV) (h : T Blk) (nx : Pa) : IR.run F24.b5 (CS Tryz.prog B) N ((fnO F24.res K0).blk 0 K) R (F24.fr x0 x1 x2 x3 x4 x5 x6 x7 x8 x9 x10) h nx =
  sBin .leq .int x7 x2 fun v1 =>
  sG v1 true (fun k => k x3) fun v2 =>
  sG v1 true (fun k => k x7) fun v3 =>
  sG v1 true (fun k => sBin .mul .int v2 v3 k) fun v4 =>
  sG v1 true (fun k => k x3) fun v5 =>
  sG v1 true (fun k => k x3) fun v6 =>
  sG v1 true (fun k => sBin .sub .int v6 (I 1) k) fun v7 =>
  sG v1 true (fun k => sBin .mul .int v5 v7 k) fun v8 =>
  sG v1 true (fun k => sBin .quo .int v8 (I 2) k) fun v9 =>
  sG v1 true (fun k => sBin .add .int v4 v9 k) fun v10 =>
  sG v1 true (fun k => k x4) fun v11 =>
  sG v1 true (fun k => sBin .leq .int v10 v11 k) fun v12 =>
  sPick v1 v12 (.bool false) fun v13 =>
  sCond v13 ((IR.run F24.b6 (CS Tryz.prog B) N ((fnO F24.res K0).blk 0 K) R) (F24.fr x0 x1 x2 x3 x4 x5 x6 x7 x8 x9 v13) h nx) (K (F24.fr x0 x1 x2 x3 x4 x5 x6 x7 x8 x9 v13) h nx) := by kernel_rfl
/-- loop 3: changes x6, x7, x10; the invariant speaks of x6, x7 -/
theorem F24.L3 {N B : Nat} {K0 : Kw Prop} {K : Ks Prop} {x0 x1 x2 x3 x4 x5 x6 x7 x8 x9 x10 : AV} {h : T Blk} {nx : Pa} (Inv : Nat → AV → AV → T Blk → Pa → Prop) {m : Nat} (hm : m < N) (hi : Inv m x6 x7 h nx)
    (step : ∀ (m : Nat) (z6 z7 z10 : AV) (h : T Blk) (nx : Pa) (R : Ks Prop), Inv m z6 z7 h nx → (∀ (m' : Nat) (w6 w7 w10 : AV) (h' : T Blk) (nx' : Pa), m' < m → Inv m' w6 w7 h' nx' → R (F24.fr x0 x1 x2 x3 x4 x5 w6 w7 x8 x9 w10) h' nx' = .ok True) →
      (sBin .leq .int z7 x2 fun v1 =>
  sG v1 true (fun k => k x3) fun v2 =>
  sG v1 true (fun k => k z7) fun v3 =>
  sG v1 true (fun k => sBin .mul .int v2 v3 k) fun v4 =>
  sG v1 true (fun k => k x3) fun v5 =>
  sG v1 true (fun k => k x3) fun v6 =>
  sG v1 true (fun k => sBin .sub .int v6 (I 1) k) fun v7 =>
  sG v1 true (fun k => sBin .mul .int v5 v7 k) fun v8 =>
  sG v1 true (fun k => sBin .quo .int v8 (I 2) k) fun v9 =>
  sG v1 true (fun k => sBin .add .int v4 v9 k) fun v10 =>
  sG v1 true (fun k => k x4) fun v11 =>
  sG v1 true (fun k => sBin .leq .int v10 v11 k) fun v12 =>
  sPick v1 v12 (.bool false) fun v13 =>
  sCond v13 ((IR.run F24.b6 (CS Tryz.prog B) N ((fnO F24.res K0).blk 0 K) R) (F24.fr x0 x1 x2 x3 x4 x5 z6 z7 x8 x9 v13) h nx) (K (F24.fr x0 x1 x2 x3 x4 x5 z6 z7 x8 x9 v13) h nx)) = .ok True) :
    IR.run F24.b3 (CS Tryz.prog B) N (fnO F24.res K0) K (F24.fr x0 x1 x2 x3 x4 x5 x6 x7 x8 x9 x10) h nx = .ok True := by
  rw [F24.b3, F24.g3_eq, F24.b4]
  refine loop_ok (fun m tm h nx => ∃ z6 z7 z10, tm = (F24.fr x0 x1 x2 x3 x4 x5 z6 z7 x8 x9 z10) ∧ Inv m z6 z7 h nx) ?_ hm ⟨_, _, _, rfl, hi⟩
  rintro m tm h nx R ⟨z6, z7, z10, rfl, hi⟩ hR
  rw [F24.e3]
  exact step m z6 z7 z10 h nx R hi fun m' w6 w7 w10 h' nx' hlt hi' => hR m' _ h' nx' hlt ⟨_, _, _, rfl, hi'⟩
theorem F24.k10 {N B : Nat} {K0 : Kw Prop} {K : Ks Prop} (x0 x1 x2 x3 x4 x5 x6 x7 x8 x9 x10 : AV) (h : T Blk) (nx : Pa) : IR.run F24.b10 (CS Tryz.prog B) N (fnO F24.res K0) K (F24.fr x0 x1 x2 x3 x4 x5 x6 x7 x8 x9 x10) h nx =
  K0 x6 h nx := by kernel_rfl
theorem F24.k6 {N B : Nat} {K0 : Kw Prop} {E0 : Ks Prop} {K : Ks Prop} (x0 x1 x2 x3 x4 x5 x6 x7 x8 x9 x10 : AV) (h : T Blk) (nx : Pa) : IR.run F24.b6 (CS Tryz.prog B) N ((fnO F24.res K0).blk 0 E0) K (F24.fr x0 x1 x2 x3 x4 x5 x6 x7 x8 x9 x10) h nx =
  sBslice 1 0 [(I 0)] [] h nx fun v1 h2 n3 =>
  sApp 1 8 v1 x0 h2 n3 fun v4 h5 n6 =>
  sBslice 1 1 [(I 0)] [(0, 1, x7)] h5 n6 fun v7 h8 n9 =>
  sApp 1 8 v4 v7 h8 n9 fun v10 h11 n12 =>
  sBin .add .int x7 (I 1) fun v13 =>
  sBin .sub .int x3 (I 1) fun v14 =>
  sBin .sub .int x4 x7 fun v15 =>
  (CS Tryz.prog B).fn 24 (.of 24) [v10, v13, x2, v14, v15] h11 n12 fun v16 h17 n18 =>
  sApp 1 24 x6 v16 h17 n18 fun v19 h20 n21 =>
  sBin .add .int x7 (I 1) fun v22 =>
  K (F24.fr x0 x1 x2 x3 x4 x5 v19 v22 x8 x9 x10) h20 n21 := by kernel_rfl
theorem F24.k9 {N B : Nat} {K0 : Kw Prop} {E0 : Ks Prop} {K : Ks Prop} (x0 x1 x2 x3 x4 x5 x6 x7 x8 x9 x10 : AV) (h : T Blk) (nx : Pa) : IR.run F24.b9 (CS Tryz.prog B) N ((fnO F24.res K0).blk 0 E0) K (F24.fr x0 x1 x2 x3 x4 x5 x6 x7 x8 x9 x10) h nx =
  sBin .add .int x7 (I 1) fun v1 =>
  K (F24.fr x0 x1 x2 x3 x4 x5 x6 v1 x8 x9 x10) h nx := by kernel_rfl
/-! talisman/talismanref07.SameTable -/
theorem F23.g2_eq (X3 : IR) (C : Calls Prop) (N : Nat) (O : Outs Prop) (K : Ks Prop) (x0 x1 x2 x3 x4 x5 x6 : AV) (h : T Blk) (nx : Pa) : IR.run (F23.g2 X3) C N O K (F23.fr x0 x1 x2 x3 x4 x5 x6) h nx =
  IR.run X3 C N (O.blk 0 K) K (F23.fr x0 x1 x2 x3 x4 x5 x6) h nx := by kernel_rfl
theorem F23.tab : T.get none (.of 23) tbl = some F23 := by kernel_rfl
theorem F23.go {N B : Nat} {K0 : Kw Prop} (y0 y1 : AV) (h : T Blk) (nx : Pa) : callFn tbl N (CS Tryz.prog B) (.of 23) [y0, y1] h nx K0 =
  sLen y0 fun v1 =>
  sLen y1 fun v2 =>
  sBin .neq .int v1 v2 fun v3 =>
  sCond v3 (K0 (.bool false) h nx) (IR.run F23.b2 (CS Tryz.prog B) N (fnO F23.res K0) (IR.run F23.b9 (CS Tryz.prog B) N (fnO F23.res K0) (retK F23.res K0)) (F23.fr y0 y1 (.bool false) (I 0) v3 .undef .undef) h nx) := by
  rw [callFn_of F23.tab]; kernel_rfl
theorem F23.e2 {N B : Nat} {K0 : Kw Prop} {K R : Ks Prop} (x0 x1 x2 x3 x4 x5 x6 : AV) (h : T Blk) (nx : Pa) : IR.run F23.b4 (CS Tryz.prog B) N ((fnO F23.res K0).blk 0 K) R (F23.fr x0 x1 x2 x3 x4 x5 x6) h nx =
  sLen x0 fun v1 =>
  sBin .lss .int x3 v1 fun v2 =>
  sCond v2 (sIaddr 1 x0 x3 fun v3 =>
  sLoad v3 h fun v4 =>
  sIaddr 1 x1 x3 fun v5 =>
  sLoad v5 h fun v6 =>
  (CS Tryz.prog B).fn 35 (.of 35) [v4, v6] h nx fun v7 h8 n9 =>
  sNot v7 fun v10 =>
  sCond v10 (K0 (.bool false) h8 n9) (sBin .add .int x3 (I 1) fun v11 =>
  R (F23.fr x0 x1 x2 v11 x4 v2 v10) h8 n9)) (K (F23.fr x0 x1 x2 x3 x4 v2 x6) h nx) := by kernel_rfl
/-- loop 2: changes x2, x3, x5, x6; the invariant speaks of x3 -/
theorem F23.L2 {N B : Nat} {K0 : Kw Prop} {K : Ks Prop} {x0 x1 x2 x3 x4 x5 x6 : AV} {h : T Blk} {nx : Pa} (Inv : Nat → AV → T Blk → Pa → Prop) {m : Nat} (hm : m < N) (hi : Inv m x3 h nx)
    (step : ∀ (m : Nat) (z2 z3 z5 z6 : AV) (h : T Blk) (nx : Pa) (R : Ks Prop), Inv m z3 h nx → (∀ (m' : Nat) (w2 w3 w5 w6 : AV) (h' : T Blk) (nx' : Pa), m' < m → Inv m' w3 h' nx' → R (F23.fr x0 x1 w2 w3 x4 w5 w6) h' nx' = .ok True) →
      (sLen x0 fun v1 =>
  sBin .lss .int z3 v1 fun v2 =>
  sCond v2 (sIaddr 1 x0 z3 fun v3 =>
  sLoad v3 h fun v4 =>
  sIaddr 1 x1 z3 fun v5 =>
  sLoad v5 h fun v6 =>
  (CS Tryz.prog B).fn 35 (.of 35) [v4, v6] h nx fun v7 h8 n9 =>
  sNot v7 fun v10 =>
  sCond v10 (K0 (.bool false) h8 n9) (sBin .add .int z3 (I 1) fun v11 =>
  R (F23.fr x0 x1 z2 v11 x4 v2 v10) h8 n9)) (K (F23.fr x0 x1 z2 z3 x4 v2 z6) h nx)) = .ok True) :
    IR.run F23.b2 (CS Tryz.prog B) N (fnO F23.res K0) K (F23.fr x0 x1 x2 x3 x4 x5 x6) h nx = .ok True := by
  rw [F23.b2, F23.g2_eq, F23.b3]
  refine loop_ok (fun m tm h nx => ∃ z2 z3 z5 z6, tm = (F23.fr x0 x1 z2 z3 x4 z5 z6) ∧ Inv m z3 h nx) ?_ hm ⟨_, _, _, _, rfl, hi⟩
  rintro m tm h nx R ⟨z2, z3, z5, z6, rfl, hi⟩ hR
  rw [F23.e2]
  exact step m z2 z3 z5 z6 h nx R hi fun m' w2 w3 w5 w6 h' nx' hlt hi' => hR m' _ h' nx' hlt ⟨_, _, _, _, rfl, hi'⟩
theorem F23.k9 {N B : Nat} {K0 : Kw Prop} {K : Ks Prop} (x0 x1 x2 x3 x4 x5 x6 : AV) (h : T Blk) (nx : Pa) : IR.run F23.b9 (CS Tryz.prog B) N (fnO F23.res K0) K (F23.fr x0 x1 x2 x3 x4 x5 x6) h nx =
  K0 (.bool true) h nx := by kernel_rfl
theorem F23.k8 {N B : Nat} {K0 : Kw Prop} {E0 : Ks Prop} {K : Ks Prop} (x0 x1 x2 x3 x4 x5 x6 : AV) (h : T Blk) (nx : Pa) : IR.run F23.b8 (CS Tryz.prog B) N ((fnO F23.res K0).blk 0 E0) K (F23.fr x0 x1 x2 x3 x4 x5 x6) h nx =
  sBin .add .int x3 (I 1) fun v1 =>
  K (F23.fr x0 x1 x2 v1 x4 x5 x6) h nx := by kernel_rfl
/-! talisman/talismanref01.SameInts -/
theorem F35.g2_eq (X3 : IR) (C : Calls Prop) (N : Nat) (O : Outs Prop) (K : Ks Prop) (x0 x1 x2 x3 x4 x5 x6 : AV) (h : T Blk) (nx : Pa) : IR.run (F35.g2 X3) C N O K (F35.fr x0 x1 x2 x3 x4 x5 x6) h nx =
  IR.run X3 C N (O.blk 0 K) K (F35.fr x0 x1 x2 x3 x4 x5 x6) h nx := by kernel_rfl
theorem F35.tab : T.get none (.of 35) tbl = some F35 := by kernel_rfl
theorem F35.go {N B : Nat} {K0 : Kw Prop} (y0 y1 : AV) (h : T Blk) (nx : Pa) : callFn tbl N (CS Tryz.prog B) (.of 35) [y0, y1] h nx K0 =
  sLen y0 fun v1 =>
  sLen y1 fun v2 =>
  sBin .neq .int v1 v2 fun v3 =>
  sCond v3 (K0 (.bool false) h nx) (IR.run F35.b2 (CS Tryz.prog B) N (fnO F35.res K0) (IR.run F35.b9 (CS Tryz.prog B) N (fnO F35.res K0) (retK F35.res K0)) (F35.fr y0 y1 (.bool false) (I 0) v3 .undef .undef) h nx) := by
  rw [callFn_of F35.tab]; kernel_rfl
theorem F35.e2 {N B : Nat} {K0 : Kw Prop} {K R : Ks Prop} (x0 x1 x2 x3 x4 x5 x6 : AV) (h : T Blk) (nx : Pa) : IR.run F35.b4 (CS Tryz.prog B) N ((fnO F35.res K0).blk 0 K) R (F35.fr x0 x1 x2 x3 x4 x5 x6) h nx =
  sLen x0 fun v1 =>
  sBin .lss .int x3 v1 fun v2 =>
  sCond v2 (sIaddr 1 x0 x3 fun v3 =>
  sLoad v3 h fun v4 =>
  sIaddr 1 x1 x3 fun v5 =>
  sLoad v5 h fun v6 =>
  sBin .neq .int v4 v6 fun v7 =>
  sCond v7 (K0 (.bool false) h nx) (sBin .add .int x3 (I 1) fun v8 =>
  R (F35.fr x0 x1 x2 v8 x4 v2 v7) h nx)) (K (F35.fr x0 x1 x2 x3 x4 v2 x6) h nx) := by kernel_rfl
/-- loop 2: changes x2, x3, x5, x6; the invariant speaks of x3 -/
theorem F35.L2 {N B : Nat} {K0 : Kw Prop} {K : Ks Prop} {x0 x1 x2 x3 x4 x5 x6 : AV} {h : T Blk} {nx : Pa} (Inv : Nat → AV → T Blk → Pa → Prop) {m : Nat} (hm : m < N) (hi : Inv m x3 h nx)
    (step : ∀ (m : Nat) (z2 z3 z5 z6 : AV) (h : T Blk) (nx : Pa) (R : Ks Prop), Inv m z3 h nx → (∀ (m' : Nat) (w2 w3 w5 w6 : AV) (h' : T Blk) (nx' : Pa), m' < m → Inv m' w3 h' nx' → R (F35.fr x0 x1 w2 w3 x4 w5 w6) h' nx' = .ok True) →
      (sLen x0 fun v1 =>
  sBin .lss .int z3 v1 fun v2 =>
  sCond v2 (sIaddr 1 x0 z3 fun v3 =>
  sLoad v3 h fun v4 =>
  sIaddr 1 x1 z3 fun v5 =>
  sLoad v5 h fun v6 =>
  sBin .neq .int v4 v6 fun v7 =>
  sCond v7 (K0 (.bool false) h nx) (sBin .add .int z3 (I 1) fun v8 =>
  R (F35.fr x0 x1 z2 v8 x4 v2 v7) h nx)) (K (F35.fr x0 x1 z2 z3 x4 v2 z6) h nx)) = .ok True) :
    IR.run F35.b2 (CS Tryz.prog B) N (fnO F35.res K0) K (F35.fr x0 x1 x2 x3 x4 x5 x6) h nx = .ok True := by
  rw [F35.b2, F35.g2_eq, F35.b3]
  refine loop_ok (fun m tm h nx => ∃ z2 z3 z5 z6, tm = (F35.fr x0 x1 z2 z3 x4 z5 z6) ∧ Inv m z3 h nx) ?_ hm ⟨_, _, _, _, rfl, hi⟩
  rintro m tm h nx R ⟨z2, z3, z5, z6, rfl, hi⟩ hR
  rw [F35.e2]
  exact step m z2 z3 z5 z6 h nx R hi fun m' w2 w3 w5 w6 h' nx' hlt hi' => hR m' _ h' nx' hlt ⟨_, _, _, _, rfl, hi'⟩
theorem F35.k9 {N B : Nat} {K0 : Kw Prop} {K : Ks Prop} (x0 x1 x2 x3 x4 x5 x6 : AV) (h : T Blk) (nx : Pa) : IR.run F35.b9 (CS Tryz.prog B) N (fnO F35.res K0) K (F35.fr x0 x1 x2 x3 x4 x5 x6) h nx =
  K0 (.bool true) h nx := by kernel_rfl
theorem F35.k8 {N B : Nat} {K0 : Kw Prop} {E0 : Ks Prop} {K : Ks Prop} (x0 x1 x2 x3 x4 x5 x6 : AV) (h : T Blk) (nx : Pa) : IR.run F35.b8 (CS Tryz.prog B) N ((fnO F35.res K0).blk 0 E0) K (F35.fr x0 x1 x2 x3 x4 x5 x6) h nx =
  sBin .add .int x3 (I 1) fun v1 =>
  K (F35.fr x0 x1 x2 v1 x4 x5 x6) h nx := by kernel_rfl
/-! talisman/count.span -/
theorem F78.tab : T.get none (.of 78) tbl = some F78 := by kernel_rfl
theorem F78.go {N B : Nat} {K0 : Kw Prop} (y0 y1 y2 : AV) (h : T Blk) (nx : Pa) : callFn tbl N (CS Tryz.prog B) (.of 78) [y0, y1, y2] h nx K0 =
  sBin .mul .int y2 y0 fun v1 =>
  sBin .sub .int y2 (I 1) fun v2 =>
  sBin .mul .int y2 v2 fun v3 =>
  sBin .quo .int v3 (I 2) fun v4 =>
  sBin .add .int v1 v4 fun v5 =>
  sBin .mul .int y2 y1 fun v6 =>
  sBin .sub .int y2 (I 1) fun v7 =>
  sBin .mul .int y2 v7 fun v8 =>
  sBin .quo .int v8 (I 2) fun v9 =>
  sBin .sub .int v6 v9 fun v10 =>
  K0 (.tup [v5, v10]) h nx := by
  rw [callFn_of F78.tab]; kernel_rfl
/-! talisman/count.checkSets -/
theorem F76.tab : T.get none (.of 76) tbl = some F76 := by kernel_rfl
theorem F76.go {N B : Nat} {K0 : Kw Prop} (y0 y1 : AV) (h : T Blk) (nx : Pa) : callFn tbl N (CS Tryz.prog B) (.of 76) [y0, y1] h nx K0 =
  sBin .lss .int y0 (I 0) fun v1 =>
  sG v1 false (fun k => k y0) fun v2 =>
  sG v1 false (fun k => sBin .gtr .int v2 (I 64) k) fun v3 =>
  sPick v1 (.bool true) v3 fun v4 =>
  sG v4 false (fun k => k y1) fun v5 =>
  sG v4 false (fun k => sBin .lss .int v5 (I 0) k) fun v6 =>
  sPick v4 (.bool true) v6 fun v7 =>
  sG v7 false (fun k => k y1) fun v8 =>
  sG v7 false (fun k => k y0) fun v9 =>
  sG v7 false (fun k => sBin .gtr .int v8 v9 k) fun v10 =>
  sPick v7 (.bool true) v10 fun v11 =>
  (CS Tryz.prog B).fn 82 (.of 82) [v11, (I 3)] h nx fun v12 h13 n14 =>
  K0 v12 h13 n14 := by
  rw [callFn_of F76.tab]; kernel_rfl
/-! talisman/count.when -/
theorem F82.tab : T.get none (.of 82) tbl = some F82 := by kernel_rfl
theorem F82.go {N B : Nat} {K0 : Kw Prop} (y0 y1 : AV) (h : T Blk) (nx : Pa) : callFn tbl N (CS Tryz.prog B) (.of 82) [y0, y1] h nx K0 =
  sCond y0 (K0 y1 h nx) (K0 (I 0) h nx) := by
  rw [callFn_of F82.tab]; kernel_rfl
/-! talisman/talismanref07.CheckSets -/
theorem F21.tab : T.get none (.of 21) tbl = some F21 := by kernel_rfl
theorem F21.go {N B : Nat} {K0 : Kw Prop} (y0 y1 : AV) (h : T Blk) (nx : Pa) : callFn tbl N (CS Tryz.prog B) (.of 21) [y0, y1] h nx K0 =
  sBin .lss .int y0 (I 0) fun v1 =>
  sG v1 false (fun k => k y0) fun v2 =>
  sG v1 false (fun k => sBin .gtr .int v2 (I 64) k) fun v3 =>
  sPick v1 (.bool true) v3 fun v4 =>
  sG v4 false (fun k => k y1) fun v5 =>
  sG v4 false (fun k => sBin .lss .int v5 (I 0) k) fun v6 =>
  sPick v4 (.bool true) v6 fun v7 =>
  sG v7 false (fun k => k y1) fun v8 =>
  sG v7 false (fun k => k y0) fun v9 =>
  sG v7 false (fun k => sBin .gtr .int v8 v9 k) fun v10 =>
  sPick v7 (.bool true) v10 fun v11 =>
  sCond v11 (K0 (I 3) h nx) (K0 (I 0) h nx) := by
  rw [callFn_of F21.tab]; kernel_rfl
end Go.Ev
/- The code of functions between loops. Printed by a program. -/
namespace Go.Ev
open Go Go.Proofs
set_option maxRecDepth 100000
/-! talisman/count.tally -/
theorem F89.g7_eq (X8 : IR) (C : Calls Prop) (N : Nat) (O : Outs Prop) (K : Ks Prop) (x0 x1 x2 x3 x4 x5 x6 x7 x8 x9 x10 x11 x12 x13 x14 x15 x16 x17 x18 x19 x20 x21 x22 x23 x24 x25 x26 x27 x28 x29 x30 x31 x32 x33 : AV) (h : T Blk) (nx : Pa) : IR.run (F89.g7 X8) C N O K (F89.fr x0 x1 x2 x3 x4 x5 x6 x7 x8 x9 x10 x11 x12 x13 x14 x15 x16 x17 x18 x19 x20 x21 x22 x23 x24 x25 x26 x27 x28 x29 x30 x31 x32 x33) h nx =
  IR.run X8 C N (O.blk 2 K) K (F89.fr x0 x1 x2 x3 x4 x5 x6 x7 x8 x9 x10 x11 x12 x13 x14 x15 x16 x17 x18 x19 x20 x21 x22 x23 x24 x25 x26 x27 x28 x29 x30 x31 x32 x33) h nx := by kernel_rfl
theorem F89.g1_eq (X2 : IR) (C : Calls Prop) (N : Nat) (O : Outs Prop) (K : Ks Prop) (x0 x1 x2 x3 x4 x5 x6 x7 x8 x9 x10 x11 x12 x13 x14 x15 x16 x17 x18 x19 x20 x21 x22 x23 x24 x25 x26 x27 x28 x29 x30 x31 x32 x33 : AV) (h : T Blk) (nx : Pa) : IR.run (F89.g1 X2) C N O K (F89.fr x0 x1 x2 x3 x4 x5 x6 x7 x8 x9 x10 x11 x12 x13 x14 x15 x16 x17 x18 x19 x20 x21 x22 x23 x24 x25 x26 x27 x28 x29 x30 x31 x32 x33) h nx =
  IR.run X2 C N (O.blk 0 K) K (F89.fr x0 x1 x2 x3 x4 x5 x6 x7 x8 x9 x10 x11 x12 x13 x14 x15 x16 x17 x18 x19 x20 x21 x22 x23 x24 x25 x26 x27 x28 x29 x30 x31 x32 x33) h nx := by kernel_rfl
theorem F89.g33_eq (X34 : IR) (C : Calls Prop) (N : Nat) (O : Outs Prop) (K : Ks Prop) (x0 x1 x2 x3 x4 x5 x6 x7 x8 x9 x10 x11 x12 x13 x14 x15 x16 x17 x18 x19 x20 x21 x22 x23 x24 x25 x26 x27 x28 x29 x30 x31 x32 x33 : AV) (h : T Blk) (nx : Pa) : IR.run (F89.g33 X34) C N O K (F89.fr x0 x1 x2 x3 x4 x5 x6 x7 x8 x9 x10 x11 x12 x13 x14 x15 x16 x17 x18 x19 x20 x21 x22 x23 x24 x25 x26 x27 x28 x29 x30 x31 x32 x33) h nx =
  IR.run X34 C N (O.blk 10 K) K (F89.fr x0 x1 x2 x3 x4 x5 x6 x7 x8 x9 x10 x11 x12 x13 x14 x15 x16 x17 x18 x19 x20 x21 x22 x23 x24 x25 x26 x27 x28 x29 x30 x31 x32 x33) h nx := by kernel_rfl
theorem F89.g27_eq (X28 : IR) (C : Calls Prop) (N : Nat) (O : Outs Prop) (K : Ks Prop) (x0 x1 x2 x3 x4 x5 x6 x7 x8 x9 x10 x11 x12 x13 x14 x15 x16 x17 x18 x19 x20 x21 x22 x23 x24 x25 x26 x27 x28 x29 x30 x31 x32 x33 : AV) (h : T Blk) (nx : Pa) : IR.run (F89.g27 X28) C N O K (F89.fr x0 x1 x2 x3 x4 x5 x6 x7 x8 x9 x10 x11 x12 x13 x14 x15 x16 x17 x18 x19 x20 x21 x22 x23 x24 x25 x26 x27 x28 x29 x30 x31 x32 x33) h nx =
  IR.run X28 C N (O.blk 8 K) K (F89.fr x0 x1 x2 x3 x4 x5 x6 x7 x8 x9 x10 x11 x12 x13 x14 x15 x16 x17 x18 x19 x20 x21 x22 x23 x24 x25 x26 x27 x28 x29 x30 x31 x32 x33) h nx := by kernel_rfl
theorem F89.g22_eq (X23 : IR) (C : Calls Prop) (N : Nat) (O : Outs Prop) (K : Ks Prop) (x0 x1 x2 x3 x4 x5 x6 x7 x8 x9 x10 x11 x12 x13 x14 x15 x16 x17 x18 x19 x20 x21 x22 x23 x24 x25 x26 x27 x28 x29 x30 x31 x32 x33 : AV) (h : T Blk) (nx : Pa) : IR.run (F89.g22 X23) C N O K (F89.fr x0 x1 x2 x3 x4 x5 x6 x7 x8 x9 x10 x11 x12 x13 x14 x15 x16 x17 x18 x19 x20 x21 x22 x23 x24 x25 x26 x27 x28 x29 x30 x31 x32 x33) h nx =
  IR.run X23 C N (O.blk 6 K) K (F89.fr x0 x1 x2 x3 x4 x5 x6 x7 x8 x9 x10 x11 x12 x13 x14 x15 x16 x17 x18 x19 x20 x21 x22 x23 x24 x25 x26 x27 x28 x29 x30 x31 x32 x33) h nx := by kernel_rfl
theorem F89.g16_eq (X17 : IR) (C : Calls Prop) (N : Nat) (O : Outs Prop) (K : Ks Prop) (x0 x1 x2 x3 x4 x5 x6 x7 x8 x9 x10 x11 x12 x13 x14 x15 x16 x17 x18 x19 x20 x21 x22 x23 x24 x25 x26 x27 x28 x29 x30 x31 x32 x33 : AV) (h : T Blk) (nx : Pa) : IR.run (F89.g16 X17) C N O K (F89.fr x0 x1 x2 x3 x4 x5 x6 x7 x8 x9 x10 x11 x12 x13 x14 x15 x16 x17 x18 x19 x20 x21 x22 x23 x24 x25 x26 x27 x28 x29 x30 x31 x32 x33) h nx =
  IR.run X17 C N (O.blk 4 K) K (F89.fr x0 x1 x2 x3 x4 x5 x6 x7 x8 x9 x10 x11 x12 x13 x14 x15 x16 x17 x18 x19 x20 x21 x22 x23 x24 x25 x26 x27 x28 x29 x30 x31 x32 x33) h nx := by kernel_rfl
theorem F89.tab : T.get none (.of 89) tbl = some F89 := by kernel_rfl
theorem F89.go {N B : Nat} {K0 : Kw Prop} (y0 y1 y2 y3 : AV) (h : T Blk) (nx : Pa) : callFn tbl N (CS Tryz.prog B) (.of 89) [y0, y1, y2, y3] h nx K0 =
  sBox y0 h nx fun v1 h2 n3 =>
  sFaddr 0 v1 fun v4 =>
  sLoad v4 h2 fun v5 =>
  sMkslice 1 24 [.nils] v5 v5 h2 n3 fun v6 h7 n8 =>
  sFaddr 1 v1 fun v9 =>
  sLoad v9 h7 fun v10 =>
  sLen v10 fun v11 =>
  IR.run F89.b1 (CS Tryz.prog B) N (fnO F89.res K0) (IR.run F89.b15 (CS Tryz.prog B) N (fnO F89.res K0) (retK F89.res K0)) (F89.fr y0 y1 y2 y3 v1 .nilm v6 .undef .undef .undef .undef .undef .undef .undef .undef .undef .undef .undef v10 v11 (I 0) .undef .undef .undef .undef .undef .undef .undef .undef .undef .undef .undef .undef .undef) h7 n8 := by
  rw [callFn_of F89.tab]; kernel_rfl
theorem F89.e1 {N B : Nat} {K0 : Kw Prop} {K R : Ks Prop} (x0 x1 x2 x3 x4 x5 x6 x7 x8 x9 x10 x11 x12 x13 x14 x15 x16 x17 x18 x19 x20 x21 x22 x23 x24 x25 x26 x27 x28 x29 x30 x31 x32 x33 : AV) (h : T Blk) (nx : Pa) : IR.run F89.b3 (CS Tryz.prog B) N ((fnO F89.res K0).blk 0 K) R (F89.fr x0 x1 x2 x3 x4 x5 x6 x7 x8 x9 x10 x11 x12 x13 x14 x15 x16 x17 x18 x19 x20 x21 x22 x23 x24 x25 x26 x27 x28 x29 x30 x31 x32 x33) h nx =
  sBin .lss .int x20 x19 fun v1 =>
  sCond v1 (sIaddr 1 x18 x20 fun v2 =>
  sLoad v2 h fun v3 =>
  sLen v3 fun v4 =>
  IR.run F89.b7 (CS Tryz.prog B) N (((fnO F89.res K0).blk 0 K).blk 1 (IR.run F89.b14 (CS Tryz.prog B) N ((fnO F89.res K0).blk 0 K) R)) (IR.run F89.b14 (CS Tryz.prog B) N ((fnO F89.res K0).blk 0 K) R) (F89.fr x0 x1 x2 x3 x4 x5 x6 x20 v3 x9 x10 x11 x12 x13 x14 x15 x16 x17 x18 x19 x20 v1 v3 v4 (I 0) x25 x26 x27 x28 x29 x30 x31 x32 x33) h nx) (K (F89.fr x0 x1 x2 x3 x4 x5 x6 x7 x8 x9 x10 x11 x12 x13 x14 x15 x16 x17 x18 x19 x20 v1 x22 x23 x24 x25 x26 x27 x28 x29 x30 x31 x32 x33) h nx) := by kernel_rfl
/-- loop 1: changes x7, x8, x9, x20, x21, x22, x23, x24, x25; the invariant speaks of x20 -/
theorem F89.L1 {N B : Nat} {K0 : Kw Prop} {K : Ks Prop} {x0 x1 x2 x3 x4 x5 x6 x7 x8 x9 x10 x11 x12 x13 x14 x15 x16 x17 x18 x19 x20 x21 x22 x23 x24 x25 x26 x27 x28 x29 x30 x31 x32 x33 : AV} {h : T Blk} {nx : Pa} (Inv : Nat → AV → T Blk → Pa → Prop) {m : Nat} (hm : m < N) (hi : Inv m x20 h nx)
    (step : ∀ (m : Nat) (z7 z8 z9 z20 z21 z22 z23 z24 z25 : AV) (h : T Blk) (nx : Pa) (R : Ks Prop), Inv m z20 h nx → (∀ (m' : Nat) (w7 w8 w9 w20 w21 w22 w23 w24 w25 : AV) (h' : T Blk) (nx' : Pa), m' < m → Inv m' w20 h' nx' → R (F89.fr x0 x1 x2 x3 x4 x5 x6 w7 w8 w9 x10 x11 x12 x13 x14 x15 x16 x17 x18 x19 w20 w21 w22 w23 w24 w25 x26 x27 x28 x29 x30 x31 x32 x33) h' nx' = .ok True) →
      (sBin .lss .int z20 x19 fun v1 =>
  sCond v1 (sIaddr 1 x18 z20 fun v2 =>
  sLoad v2 h fun v3 =>
  sLen v3 fun v4 =>
  IR.run F89.b7 (CS Tryz.prog B) N (((fnO F89.res K0).blk 0 K).blk 1 (IR.run F89.b14 (CS Tryz.prog B) N ((fnO F89.res K0).blk 0 K) R)) (IR.run F89.b14 (CS Tryz.prog B) N ((fnO F89.res K0).blk 0 K) R) (F89.fr x0 x1 x2 x3 x4 x5 x6 z20 v3 z9 x10 x11 x12 x13 x14 x15 x16 x17 x18 x19 z20 v1 v3 v4 (I 0) z25 x26 x27 x28 x29 x30 x31 x32 x33) h nx) (K (F89.fr x0 x1 x2 x3 x4 x5 x6 z7 z8 z9 x10 x11 x12 x13 x14 x15 x16 x17 x18 x19 z20 v1 z22 z23 z24 z25 x26 x27 x28 x29 x30 x31 x32 x33) h nx)) = .ok True) :
    IR.run F89.b1 (CS Tryz.prog B) N (fnO F89.res K0) K (F89.fr x0 x1 x2 x3 x4 x5 x6 x7 x8 x9 x10 x11 x12 x13 x14 x15 x16 x17 x18 x19 x20 x21 x22 x23 x24 x25 x26 x27 x28 x29 x30 x31 x32 x33) h nx = .ok True := by
  rw [F89.b1, F89.g1_eq, F89.b2]
  refine loop_ok (fun m tm h nx => ∃ z7 z8 z9 z20 z21 z22 z23 z24 z25, tm = (F89.fr x0 x1 x2 x3 x4 x5 x6 z7 z8 z9 x10 x11 x12 x13 x14 x15 x16 x17 x18 x19 z20 z21 z22 z23 z24 z25 x26 x27 x28 x29 x30 x31 x32 x33) ∧ Inv m z20 h nx) ?_ hm ⟨_, _, _, _, _, _, _, _, _, rfl, hi⟩
  rintro m tm h nx R ⟨z7, z8, z9, z20, z21, z22, z23, z24, z25, rfl, hi⟩ hR
  rw [F89.e1]
  exact step m z7 z8 z9 z20 z21 z22 z23 z24 z25 h nx R hi fun m' w7 w8 w9 w20 w21 w22 w23 w24 w25 h' nx' hlt hi' => hR m' _ h' nx' hlt ⟨_, _, _, _, _, _, _, _, _, rfl, hi'⟩
theorem F89.k15 {N B : Nat} {K0 : Kw Prop} {K : Ks Prop} (x0 x1 x2 x3 x4 x5 x6 x7 x8 x9 x10 x11 x12 x13 x14 x15 x16 x17 x18 x19 x20 x21 x22 x23 x24 x25 x26 x27 x28 x29 x30 x31 x32 x33 : AV) (h : T Blk) (nx : Pa) : IR.run F89.b15 (CS Tryz.prog B) N (fnO F89.res K0) K (F89.fr x0 x1 x2 x3 x4 x5 x6 x7 x8 x9 x10 x11 x12 x13 x14 x15 x16 x17 x18 x19 x20 x21 x22 x23 x24 x25 x26 x27 x28 x29 x30 x31 x32 x33) h nx =
  sMkmap h nx fun v1 h2 n3 =>
  sBuild [(.int .u8 0), (.int .u8 0), (.int .u8 0), (.int .u8 0), (.int .u8 0), (.int .u8 0), (.int .u8 0), (.int .u8 0), (.int .u8 0), (.int .u8 0), (.int .u8 0), (.int .u8 0), (.int .u8 0), (.int .u8 0), (.int .u8 0), (.int .u8 0), (.int .u8 0), (.int .u8 0), (.int .u8 0), (.int .u8 0), (.int .u8 0), (.int .u8 0), (.int .u8 0), (.int .u8 0), (.int .u8 0), (.int .u8 0), (.int .u8 0), (.int .u8 0), (.int .u8 0), (.int .u8 0), (.int .u8 0), (.int .u8 0), (.int .u8 0), (.int .u8 0), (.int .u8 0), (.int .u8 0), (.int .u8 0), (.int .u8 0), (.int .u8 0), (.int .u8 0), (.int .u8 0), (.int .u8 0), (.int .u8 0), (.int .u8 0), (.int .u8 0), (.int .u8 0), (.int .u8 0), (.int .u8 0), (.int .u8 0), (.int .u8 0), (.int .u8 0), (.int .u8 0), (.int .u8 0), (.int .u8 0), (.int .u8 0), (.int .u8 0), (.int .u8 0), (.int .u8 0), (.int .u8 0), (.int .u8 0), (.int .u8 0), (.int .u8 0), (.int .u8 0), (.int .u8 0), (.int .u8 0), (.int .u8 0), (.int .u8 0), (.int .u8 0), (.int .u8 0), (.int .u8 0), (.int .u8 0), (.int .u8 0), (.int .u8 0), (.int .u8 0), (.int .u8 0), (.int .u8 0), (.int .u8 0), (.int .u8 0), (.int .u8 0), (.int .u8 0), (.int .u8 0), (.int .u8 0), (.int .u8 0), (.int .u8 0), (.int .u8 0), (.int .u8 0), (.int .u8 0), (.int .u8 0), (.int .u8 0), (.int .u8 0), (.int .u8 0), (.int .u8 0), (.int .u8 0), (.int .u8 0), (.int .u8 0), (.int .u8 0), (.int .u8 0), (.int .u8 0), (.int .u8 0), (.int .u8 0), (.int .u8 0), (.int .u8 0), (.int .u8 0), (.int .u8 0), (.int .u8 0), (.int .u8 0), (.int .u8 0), (.int .u8 0), (.int .u8 0), (.int .u8 0), (.int .u8 0), (.int .u8 0), (.int .u8 0), (.int .u8 0), (.int .u8 0), (.int .u8 0), (.int .u8 0), (.int .u8 0), (.int .u8 0), (.int .u8 0), (.int .u8 0), (.int .u8 0), (.int .u8 0), (.int .u8 0), (.int .u8 0), (.int .u8 0), (.int .u8 0), (.int .u8 0)] [] fun v4 =>
  sMapup (.agg 128) v1 v4 (I 1) h2 n3 fun v5 h6 n7 =>
  IR.run F89.b16 (CS Tryz.prog B) N (fnO F89.res K0) (IR.run F89.b44 (CS Tryz.prog B) N (fnO F89.res K0) K) (F89.fr x0 x1 x2 x3 x4 x5 x6 x7 x8 x9 v1 x1 x12 x13 x14 x15 x16 x17 x18 x19 x20 x21 x22 x23 x24 x25 x26 x27 x28 x29 x30 x31 x32 x33) h6 n7 := by kernel_rfl
theorem F89.k14 {N B : Nat} {K0 : Kw Prop} {E0 : Ks Prop} {K : Ks Prop} (x0 x1 x2 x3 x4 x5 x6 x7 x8 x9 x10 x11 x12 x13 x14 x15 x16 x17 x18 x19 x20 x21 x22 x23 x24 x25 x26 x27 x28 x29 x30 x31 x32 x33 : AV) (h : T Blk) (nx : Pa) : IR.run F89.b14 (CS Tryz.prog B) N ((fnO F89.res K0).blk 0 E0) K (F89.fr x0 x1 x2 x3 x4 x5 x6 x7 x8 x9 x10 x11 x12 x13 x14 x15 x16 x17 x18 x19 x20 x21 x22 x23 x24 x25 x26 x27 x28 x29 x30 x31 x32 x33) h nx =
  sBin .add .int x20 (I 1) fun v1 =>
  K (F89.fr x0 x1 x2 x3 x4 x5 x6 x7 x8 x9 x10 x11 x12 x13 x14 x15 x16 x17 x18 x19 v1 x21 x22 x23 x24 x25 x26 x27 x28 x29 x30 x31 x32 x33) h nx := by kernel_rfl
theorem F89.e7 {N B : Nat} {K0 : Kw Prop} {E0 E1 : Ks Prop} {K R : Ks Prop} (x0 x1 x2 x3 x4 x5 x6 x7 x8 x9 x10 x11 x12 x13 x14 x15 x16 x17 x18 x19 x20 x21 x22 x23 x24 x25 x26 x27 x28 x29 x30 x31 x32 x33 : AV) (h : T Blk) (nx : Pa) : IR.run F89.b9 (CS Tryz.prog B) N ((((fnO F89.res K0).blk 0 E0).blk 1 E1).blk 2 K) R (F89.fr x0 x1 x2 x3 x4 x5 x6 x7 x8 x9 x10 x11 x12 x13 x14 x15 x16 x17 x18 x19 x20 x21 x22 x23 x24 x25 x26 x27 x28 x29 x30 x31 x32 x33) h nx =
  sBin .lss .int x24 x23 fun v1 =>
  sCond v1 (sIaddr 1 x22 x24 fun v2 =>
  sLoad v2 h fun v3 =>
  sIaddr 1 x6 v3 fun v4 =>
  sLoad v4 h fun v5 =>
  sBslice 1 1 [(I 0)] [(0, 1, x7)] h nx fun v6 h7 n8 =>
  sApp 1 8 v5 v6 h7 n8 fun v9 h10 n11 =>
  sIaddr 1 x6 v3 fun v12 =>
  sStore 1 v12 v9 h10 n11 fun v13 h14 n15 =>
  sBin .add .int x24 (I 1) fun v16 =>
  R (F89.fr x0 x1 x2 x3 x4 x5 x6 x7 x8 v3 x10 x11 x12 x13 x14 x15 x16 x17 x18 x19 x20 x21 x22 x23 v16 v1 x26 x27 x28 x29 x30 x31 x32 x33) h14 n15) (K (F89.fr x0 x1 x2 x3 x4 x5 x6 x7 x8 x9 x10 x11 x12 x13 x14 x15 x16 x17 x18 x19 x20 x21 x22 x23 x24 v1 x26 x27 x28 x29 x30 x31 x32 x33) h nx) := by kernel_rfl
/-- loop 7: changes x9, x24, x25; the invariant speaks of x24 -/
theorem F89.L7 {N B : Nat} {K0 : Kw Prop} {E0 E1 : Ks Prop} {K : Ks Prop} {x0 x1 x2 x3 x4 x5 x6 x7 x8 x9 x10 x11 x12 x13 x14 x15 x16 x17 x18 x19 x20 x21 x22 x23 x24 x25 x26 x27 x28 x29 x30 x31 x32 x33 : AV} {h : T Blk} {nx : Pa} (Inv : Nat → AV → T Blk → Pa → Prop) {m : Nat} (hm : m < N) (hi : Inv m x24 h nx)
    (step : ∀ (m : Nat) (z9 z24 z25 : AV) (h : T Blk) (nx : Pa) (R : Ks Prop), Inv m z24 h nx → (∀ (m' : Nat) (w9 w24 w25 : AV) (h' : T Blk) (nx' : Pa), m' < m → Inv m' w24 h' nx' → R (F89.fr x0 x1 x2 x3 x4 x5 x6 x7 x8 w9 x10 x11 x12 x13 x14 x15 x16 x17 x18 x19 x20 x21 x22 x23 w24 w25 x26 x27 x28 x29 x30 x31 x32 x33) h' nx' = .ok True) →
      (sBin .lss .int z24 x23 fun v1 =>
  sCond v1 (sIaddr 1 x22 z24 fun v2 =>
  sLoad v2 h fun v3 =>
  sIaddr 1 x6 v3 fun v4 =>
  sLoad v4 h fun v5 =>
  sBslice 1 1 [(I 0)] [(0, 1, x7)] h nx fun v6 h7 n8 =>
  sApp 1 8 v5 v6 h7 n8 fun v9 h10 n11 =>
  sIaddr 1 x6 v3 fun v12 =>
  sStore 1 v12 v9 h10 n11 fun v13 h14 n15 =>
  sBin .add .int z24 (I 1) fun v16 =>
  R (F89.fr x0 x1 x2 x3 x4 x5 x6 x7 x8 v3 x10 x11 x12 x13 x14 x15 x16 x17 x18 x19 x20 x21 x22 x23 v16 v1 x26 x27 x28 x29 x30 x31 x32 x33) h14 n15) (K (F89.fr x0 x1 x2 x3 x4 x5 x6 x7 x8 z9 x10 x11 x12 x13 x14 x15 x16 x17 x18 x19 x20 x21 x22 x23 z24 v1 x26 x27 x28 x29 x30 x31 x32 x33) h nx)) = .ok True) :
    IR.run F89.b7 (CS Tryz.prog B) N (((fnO F89.res K0).blk 0 E0).blk 1 E1) K (F89.fr x0 x1 x2 x3 x4 x5 x6 x7 x8 x9 x10 x11 x12 x13 x14 x15 x16 x17 x18 x19 x20 x21 x22 x23 x24 x25 x26 x27 x28 x29 x30 x31 x32 x33) h nx = .ok True := by
  rw [F89.b7, F89.g7_eq, F89.b8]
  refine loop_ok (fun m tm h nx => ∃ z9 z24 z25, tm = (F89.fr x0 x1 x2 x3 x4 x5 x6 x7 x8 z9 x10 x11 x12 x13 x14 x15 x16 x17 x18 x19 x20 x21 x22 x23 z24 z25 x26 x27 x28 x29 x30 x31 x32 x33) ∧ Inv m z24 h nx) ?_ hm ⟨_, _, _, rfl, hi⟩
  rintro m tm h nx R ⟨z9, z24, z25, rfl, hi⟩ hR
  rw [F89.e7]
  exact step m z9 z24 z25 h nx R hi fun m' w9 w24 w25 h' nx' hlt hi' => hR m' _ h' nx' hlt ⟨_, _, _, rfl, hi'⟩
theorem F89.e16 {N B : Nat} {K0 : Kw Prop} {K R : Ks Prop} (x0 x1 x2 x3 x4 x5 x6 x7 x8 x9 x10 x11 x12 x13 x14 x15 x16 x17 x18 x19 x20 x21 x22 x23 x24 x25 x26 x27 x28 x29 x30 x31 x32 x33 : AV) (h : T Blk) (nx : Pa) : IR.run F89.b18 (CS Tryz.prog B) N ((fnO F89.res K0).blk 4 K) R (F89.fr x0 x1 x2 x3 x4 x5 x6 x7 x8 x9 x10 x11 x12 x13 x14 x15 x16 x17 x18 x19 x20 x21 x22 x23 x24 x25 x26 x27 x28 x29 x30 x31 x32 x33) h nx =
  sBin .lss .int x11 x2 fun v1 =>
  sCond v1 (sMkmap h nx fun v2 h3 n4 =>
  sRange x10 h3 n4 fun v5 h6 n7 =>
  IR.run F89.b22 (CS Tryz.prog B) N (((fnO F89.res K0).blk 4 K).blk 5 (IR.run F89.b43 (CS Tryz.prog B) N ((fnO F89.res K0).blk 4 K) R)) (IR.run F89.b42 (CS Tryz.prog B) N (((fnO F89.res K0).blk 4 K).blk 5 (IR.run F89.b43 (CS Tryz.prog B) N ((fnO F89.res K0).blk 4 K) R)) (IR.run F89.b43 (CS Tryz.prog B) N ((fnO F89.res K0).blk 4 K) R)) (F89.fr x0 x1 x2 x3 x4 x5 x6 x7 x8 x9 x10 x11 v2 x13 x14 x15 x16 x17 x18 x19 x20 x21 x22 x23 x24 x25 v1 v5 x28 x29 x30 x31 x32 x33) h6 n7) (K (F89.fr x0 x1 x2 x3 x4 x5 x6 x7 x8 x9 x10 x11 x12 x13 x14 x15 x16 x17 x18 x19 x20 x21 x22 x23 x24 x25 v1 x27 x28 x29 x30 x31 x32 x33) h nx) := by kernel_rfl
/-- loop 16: changes x10, x11, x12, x13, x14, x15, x16, x17, x26, x27, x28, x29, x30, x31, x32, x33; the invariant speaks of x10, x11 -/
theorem F89.L16 {N B : Nat} {K0 : Kw Prop} {K : Ks Prop} {x0 x1 x2 x3 x4 x5 x6 x7 x8 x9 x10 x11 x12 x13 x14 x15 x16 x17 x18 x19 x20 x21 x22 x23 x24 x25 x26 x27 x28 x29 x30 x31 x32 x33 : AV} {h : T Blk} {nx : Pa} (Inv : Nat → AV → AV → T Blk → Pa → Prop) {m : Nat} (hm : m < N) (hi : Inv m x10 x11 h nx)
    (step : ∀ (m : Nat) (z10 z11 z12 z13 z14 z15 z16 z17 z26 z27 z28 z29 z30 z31 z32 z33 : AV) (h : T Blk) (nx : Pa) (R : Ks Prop), Inv m z10 z11 h nx → (∀ (m' : Nat) (w10 w11 w12 w13 w14 w15 w16 w17 w26 w27 w28 w29 w30 w31 w32 w33 : AV) (h' : T Blk) (nx' : Pa), m' < m → Inv m' w10 w11 h' nx' → R (F89.fr x0 x1 x2 x3 x4 x5 x6 x7 x8 x9 w10 w11 w12 w13 w14 w15 w16 w17 x18 x19 x20 x21 x22 x23 x24 x25 w26 w27 w28 w29 w30 w31 w32 w33) h' nx' = .ok True) →
      (sBin .lss .int z11 x2 fun v1 =>
  sCond v1 (sMkmap h nx fun v2 h3 n4 =>
  sRange z10 h3 n4 fun v5 h6 n7 =>
  IR.run F89.b22 (CS Tryz.prog B) N (((fnO F89.res K0).blk 4 K).blk 5 (IR.run F89.b43 (CS Tryz.prog B) N ((fnO F89.res K0).blk 4 K) R)) (IR.run F89.b42 (CS Tryz.prog B) N (((fnO F89.res K0).blk 4 K).blk 5 (IR.run F89.b43 (CS Tryz.prog B) N ((fnO F89.res K0).blk 4 K) R)) (IR.run F89.b43 (CS Tryz.prog B) N ((fnO F89.res K0).blk 4 K) R)) (F89.fr x0 x1 x2 x3 x4 x5 x6 x7 x8 x9 z10 z11 v2 z13 z14 z15 z16 z17 x18 x19 x20 x21 x22 x23 x24 x25 v1 v5 z28 z29 z30 z31 z32 z33) h6 n7) (K (F89.fr x0 x1 x2 x3 x4 x5 x6 x7 x8 x9 z10 z11 z12 z13 z14 z15 z16 z17 x18 x19 x20 x21 x22 x23 x24 x25 v1 z27 z28 z29 z30 z31 z32 z33) h nx)) = .ok True) :
    IR.run F89.b16 (CS Tryz.prog B) N (fnO F89.res K0) K (F89.fr x0 x1 x2 x3 x4 x5 x6 x7 x8 x9 x10 x11 x12 x13 x14 x15 x16 x17 x18 x19 x20 x21 x22 x23 x24 x25 x26 x27 x28 x29 x30 x31 x32 x33) h nx = .ok True := by
  rw [F89.b16, F89.g16_eq, F89.b17]
  refine loop_ok (fun m tm h nx => ∃ z10 z11 z12 z13 z14 z15 z16 z17 z26 z27 z28 z29 z30 z31 z32 z33, tm = (F89.fr x0 x1 x2 x3 x4 x5 x6 x7 x8 x9 z10 z11 z12 z13 z14 z15 z16 z17 x18 x19 x20 x21 x22 x23 x24 x25 z26 z27 z28 z29 z30 z31 z32 z33) ∧ Inv m z10 z11 h nx) ?_ hm ⟨_, _, _, _, _, _, _, _, _, _, _, _, _, _, _, _, rfl, hi⟩
  rintro m tm h nx R ⟨z10, z11, z12, z13, z14, z15, z16, z17, z26, z27, z28, z29, z30, z31, z32, z33, rfl, hi⟩ hR
  rw [F89.e16]
  exact step m z10 z11 z12 z13 z14 z15 z16 z17 z26 z27 z28 z29 z30 z31 z32 z33 h nx R hi fun m' w10 w11 w12 w13 w14 w15 w16 w17 w26 w27 w28 w29 w30 w31 w32 w33 h' nx' hlt hi' => hR m' _ h' nx' hlt ⟨_, _, _, _, _, _, _, _, _, _, _, _, _, _, _, _, rfl, hi'⟩
theorem F89.k44 {N B : Nat} {K0 : Kw Prop} {K : Ks Prop} (x0 x1 x2 x3 x4 x5 x6 x7 x8 x9 x10 x11 x12 x13 x14 x15 x16 x17 x18 x19 x20 x21 x22 x23 x24 x25 x26 x27 x28 x29 x30 x31 x32 x33 : AV) (h : T Blk) (nx : Pa) : IR.run F89.b44 (CS Tryz.prog B) N (fnO F89.res K0) K (F89.fr x0 x1 x2 x3 x4 x5 x6 x7 x8 x9 x10 x11 x12 x13 x14 x15 x16 x17 x18 x19 x20 x21 x22 x23 x24 x25 x26 x27 x28 x29 x30 x31 x32 x33) h nx =
  K0 x10 h nx := by kernel_rfl
theorem F89.k13 {N B : Nat} {K0 : Kw Prop} {E0 E1 E2 : Ks Prop} {K : Ks Prop} (x0 x1 x2 x3 x4 x5 x6 x7 x8 x9 x10 x11 x12 x13 x14 x15 x16 x17 x18 x19 x20 x21 x22 x23 x24 x25 x26 x27 x28 x29 x30 x31 x32 x33 : AV) (h : T Blk) (nx : Pa) : IR.run F89.b13 (CS Tryz.prog B) N ((((fnO F89.res K0).blk 0 E0).blk 1 E1).blk 2 E2) K (F89.fr x0 x1 x2 x3 x4 x5 x6 x7 x8 x9 x10 x11 x12 x13 x14 x15 x16 x17 x18 x19 x20 x21 x22 x23 x24 x25 x26 x27 x28 x29 x30 x31 x32 x33) h nx =
  sBin .add .int x24 (I 1) fun v1 =>
  K (F89.fr x0 x1 x2 x3 x4 x5 x6 x7 x8 x9 x10 x11 x12 x13 x14 x15 x16 x17 x18 x19 x20 x21 x22 x23 v1 x25 x26 x27 x28 x29 x30 x31 x32 x33) h nx := by kernel_rfl
theorem F89.k43 {N B : Nat} {K0 : Kw Prop} {E4 : Ks Prop} {K : Ks Prop} (x0 x1 x2 x3 x4 x5 x6 x7 x8 x9 x10 x11 x12 x13 x14 x15 x16 x17 x18 x19 x20 x21 x22 x23 x24 x25 x26 x27 x28 x29 x30 x31 x32 x33 : AV) (h : T Blk) (nx : Pa) : IR.run F89.b43 (CS Tryz.prog B) N ((fnO F89.res K0).blk 4 E4) K (F89.fr x0 x1 x2 x3 x4 x5 x6 x7 x8 x9 x10 x11 x12 x13 x14 x15 x16 x17 x18 x19 x20 x21 x22 x23 x24 x25 x26 x27 x28 x29 x30 x31 x32 x33) h nx =
  sBin .add .int x11 (I 1) fun v1 =>
  K (F89.fr x0 x1 x2 x3 x4 x5 x6 x7 x8 x9 x10 v1 x12 x13 x14 x15 x16 x17 x18 x19 x20 x21 x22 x23 x24 x25 x26 x27 x28 x29 x30 x31 x32 x33) h nx := by kernel_rfl
theorem F89.e22 {N B : Nat} {K0 : Kw Prop} {E4 E5 : Ks Prop} {K R : Ks Prop} (x0 x1 x2 x3 x4 x5 x6 x7 x8 x9 x10 x11 x12 x13 x14 x15 x16 x17 x18 x19 x20 x21 x22 x23 x24 x25 x26 x27 x28 x29 x30 x31 x32 x33 : AV) (h : T Blk) (nx : Pa) : IR.run F89.b24 (CS Tryz.prog B) N ((((fnO F89.res K0).blk 4 E4).blk 5 E5).blk 6 K) R (F89.fr x0 x1 x2 x3 x4 x5 x6 x7 x8 x9 x10 x11 x12 x13 x14 x15 x16 x17 x18 x19 x20 x21 x22 x23 x24 x25 x26 x27 x28 x29 x30 x31 x32 x33) h nx =
  sNext (CS Tryz.prog B) x27 h nx fun v1 h2 n3 =>
  sExt 0 v1 fun v4 =>
  sCond v4 (sEntry x27 h2 fun v5 =>
  sExt 0 v5 fun v6 =>
  sExt 1 v5 fun v7 =>
  sAlloc [(.int .u8 0), (.int .u8 0), (.int .u8 0), (.int .u8 0), (.int .u8 0), (.int .u8 0), (.int .u8 0), (.int .u8 0), (.int .u8 0), (.int .u8 0), (.int .u8 0), (.int .u8 0), (.int .u8 0), (.int .u8 0), (.int .u8 0), (.int .u8 0), (.int .u8 0), (.int .u8 0), (.int .u8 0), (.int .u8 0), (.int .u8 0), (.int .u8 0), (.int .u8 0), (.int .u8 0), (.int .u8 0), (.int .u8 0), (.int .u8 0), (.int .u8 0), (.int .u8 0), (.int .u8 0), (.int .u8 0), (.int .u8 0), (.int .u8 0), (.int .u8 0), (.int .u8 0), (.int .u8 0), (.int .u8 0), (.int .u8 0), (.int .u8 0), (.int .u8 0), (.int .u8 0), (.int .u8 0), (.int .u8 0), (.int .u8 0), (.int .u8 0), (.int .u8 0), (.int .u8 0), (.int .u8 0), (.int .u8 0), (.int .u8 0), (.int .u8 0), (.int .u8 0), (.int .u8 0), (.int .u8 0), (.int .u8 0), (.int .u8 0), (.int .u8 0), (.int .u8 0), (.int .u8 0), (.int .u8 0), (.int .u8 0), (.int .u8 0), (.int .u8 0), (.int .u8 0), (.int .u8 0), (.int .u8 0), (.int .u8 0), (.int .u8 0), (.int .u8 0), (.int .u8 0), (.int .u8 0), (.int .u8 0), (.int .u8 0), (.int .u8 0), (.int .u8 0), (.int .u8 0), (.int .u8 0), (.int .u8 0), (.int .u8 0), (.int .u8 0), (.int .u8 0), (.int .u8 0), (.int .u8 0), (.int .u8 0), (.int .u8 0), (.int .u8 0), (.int .u8 0), (.int .u8 0), (.int .u8 0), (.int .u8 0), (.int .u8 0), (.int .u8 0), (.int .u8 0), (.int .u8 0), (.int .u8 0), (.int .u8 0), (.int .u8 0), (.int .u8 0), (.int .u8 0), (.int .u8 0), (.int .u8 0), (.int .u8 0), (.int .u8 0), (.int .u8 0), (.int .u8 0), (.int .u8 0), (.int .u8 0), (.int .u8 0), (.int .u8 0), (.int .u8 0), (.int .u8 0), (.int .u8 0), (.int .u8 0), (.int .u8 0), (.int .u8 0), (.int .u8 0), (.int .u8 0), (.int .u8 0), (.int .u8 0), (.int .u8 0), (.int .u8 0), (.int .u8 0), (.int .u8 0), (.int .u8 0), (.int .u8 0), (.int .u8 0), (.int .u8 0), (.int .u8 0)] h2 n3 fun v8 h9 n10 =>
  sStore 128 v8 v6 h9 n10 fun v11 h12 n13 =>
  IR.run F89.b27 (CS Tryz.prog B) N (((((fnO F89.res K0).blk 4 E4).blk 5 E5).blk 6 K).blk 7 R) R (F89.fr x0 x1 x2 x3 x4 x5 x6 x7 x8 x9 x10 x11 x12 v8 v7 (I 0) x16 x17 x18 x19 x20 x21 x22 x23 x24 x25 x26 x27 v4 x29 x30 x31 x32 x33) h12 n13) (K (F89.fr x0 x1 x2 x3 x4 x5 x6 x7 x8 x9 x10 x11 x12 x13 x14 x15 x16 x17 x18 x19 x20 x21 x22 x23 x24 x25 x26 x27 v4 x29 x30 x31 x32 x33) h2 n3) := by kernel_rfl
/-- loop 22: changes x13, x14, x15, x16, x17, x28, x29, x30, x31, x32, x33; the invariant speaks of  -/
theorem F89.L22 {N B : Nat} {K0 : Kw Prop} {E4 E5 : Ks Prop} {K : Ks Prop} {x0 x1 x2 x3 x4 x5 x6 x7 x8 x9 x10 x11 x12 x13 x14 x15 x16 x17 x18 x19 x20 x21 x22 x23 x24 x25 x26 x27 x28 x29 x30 x31 x32 x33 : AV} {h : T Blk} {nx : Pa} (Inv : Nat → T Blk → Pa → Prop) {m : Nat} (hm : m < N) (hi : Inv m  h nx)
    (step : ∀ (m : Nat) (z13 z14 z15 z16 z17 z28 z29 z30 z31 z32 z33 : AV) (h : T Blk) (nx : Pa) (R : Ks Prop), Inv m  h nx → (∀ (m' : Nat) (w13 w14 w15 w16 w17 w28 w29 w30 w31 w32 w33 : AV) (h' : T Blk) (nx' : Pa), m' < m → Inv m'  h' nx' → R (F89.fr x0 x1 x2 x3 x4 x5 x6 x7 x8 x9 x10 x11 x12 w13 w14 w15 w16 w17 x18 x19 x20 x21 x22 x23 x24 x25 x26 x27 w28 w29 w30 w31 w32 w33) h' nx' = .ok True) →
      (sNext (CS Tryz.prog B) x27 h nx fun v1 h2 n3 =>
  sExt 0 v1 fun v4 =>
  sCond v4 (sEntry x27 h2 fun v5 =>
  sExt 0 v5 fun v6 =>
  sExt 1 v5 fun v7 =>
  sAlloc [(.int .u8 0), (.int .u8 0), (.int .u8 0), (.int .u8 0), (.int .u8 0), (.int .u8 0), (.int .u8 0), (.int .u8 0), (.int .u8 0), (.int .u8 0), (.int .u8 0), (.int .u8 0), (.int .u8 0), (.int .u8 0), (.int .u8 0), (.int .u8 0), (.int .u8 0), (.int .u8 0), (.int .u8 0), (.int .u8 0), (.int .u8 0), (.int .u8 0), (.int .u8 0), (.int .u8 0), (.int .u8 0), (.int .u8 0), (.int .u8 0), (.int .u8 0), (.int .u8 0), (.int .u8 0), (.int .u8 0), (.int .u8 0), (.int .u8 0), (.int .u8 0), (.int .u8 0), (.int .u8 0), (.int .u8 0), (.int .u8 0), (.int .u8 0), (.int .u8 0), (.int .u8 0), (.int .u8 0), (.int .u8 0), (.int .u8 0), (.int .u8 0), (.int .u8 0), (.int .u8 0), (.int .u8 0), (.int .u8 0), (.int .u8 0), (.int .u8 0), (.int .u8 0), (.int .u8 0), (.int .u8 0), (.int .u8 0), (.int .u8 0), (.int .u8 0), (.int .u8 0), (.int .u8 0), (.int .u8 0), (.int .u8 0), (.int .u8 0), (.int .u8 0), (.int .u8 0), (.int .u8 0), (.int .u8 0), (.int .u8 0), (.int .u8 0), (.int .u8 0), (.int .u8 0), (.int .u8 0), (.int .u8 0), (.int .u8 0), (.int .u8 0), (.int .u8 0), (.int .u8 0), (.int .u8 0), (.int .u8 0), (.int .u8 0), (.int .u8 0), (.int .u8 0), (.int .u8 0), (.int .u8 0), (.int .u8 0), (.int .u8 0), (.int .u8 0), (.int .u8 0), (.int .u8 0), (.int .u8 0), (.int .u8 0), (.int .u8 0), (.int .u8 0), (.int .u8 0), (.int .u8 0), (.int .u8 0), (.int .u8 0), (.int .u8 0), (.int .u8 0), (.int .u8 0), (.int .u8 0), (.int .u8 0), (.int .u8 0), (.int .u8 0), (.int .u8 0), (.int .u8 0), (.int .u8 0), (.int .u8 0), (.int .u8 0), (.int .u8 0), (.int .u8 0), (.int .u8 0), (.int .u8 0), (.int .u8 0), (.int .u8 0), (.int .u8 0), (.int .u8 0), (.int .u8 0), (.int .u8 0), (.int .u8 0), (.int .u8 0), (.int .u8 0), (.int .u8 0), (.int .u8 0), (.int .u8 0), (.int .u8 0), (.int .u8 0), (.int .u8 0), (.int .u8 0)] h2 n3 fun v8 h9 n10 =>
  sStore 128 v8 v6 h9 n10 fun v11 h12 n13 =>
  IR.run F89.b27 (CS Tryz.prog B) N (((((fnO F89.res K0).blk 4 E4).blk 5 E5).blk 6 K).blk 7 R) R (F89.fr x0 x1 x2 x3 x4 x5 x6 x7 x8 x9 x10 x11 x12 v8 v7 (I 0) z16 z17 x18 x19 x20 x21 x22 x23 x24 x25 x26 x27 v4 z29 z30 z31 z32 z33) h12 n13) (K (F89.fr x0 x1 x2 x3 x4 x5 x6 x7 x8 x9 x10 x11 x12 z13 z14 z15 z16 z17 x18 x19 x20 x21 x22 x23 x24 x25 x26 x27 v4 z29 z30 z31 z32 z33) h2 n3)) = .ok True) :
    IR.run F89.b22 (CS Tryz.prog B) N (((fnO F89.res K0).blk 4 E4).blk 5 E5) K (F89.fr x0 x1 x2 x3 x4 x5 x6 x7 x8 x9 x10 x11 x12 x13 x14 x15 x16 x17 x18 x19 x20 x21 x22 x23 x24 x25 x26 x27 x28 x29 x30 x31 x32 x33) h nx = .ok True := by
  rw [F89.b22, F89.g22_eq, F89.b23]
  refine loop_ok (fun m tm h nx => ∃ z13 z14 z15 z16 z17 z28 z29 z30 z31 z32 z33, tm = (F89.fr x0 x1 x2 x3 x4 x5 x6 x7 x8 x9 x10 x11 x12 z13 z14 z15 z16 z17 x18 x19 x20 x21 x22 x23 x24 x25 x26 x27 z28 z29 z30 z31 z32 z33) ∧ Inv m  h nx) ?_ hm ⟨_, _, _, _, _, _, _, _, _, _, _, rfl, hi⟩
  rintro m tm h nx R ⟨z13, z14, z15, z16, z17, z28, z29, z30, z31, z32, z33, rfl, hi⟩ hR
  rw [F89.e22]
  exact step m z13 z14 z15 z16 z17 z28 z29 z30 z31 z32 z33 h nx R hi fun m' w13 w14 w15 w16 w17 w28 w29 w30 w31 w32 w33 h' nx' hlt hi' => hR m' _ h' nx' hlt ⟨_, _, _, _, _, _, _, _, _, _, _, rfl, hi'⟩
theorem F89.k42 {N B : Nat} {K0 : Kw Prop} {E4 E5 : Ks Prop} {K : Ks Prop} (x0 x1 x2 x3 x4 x5 x6 x7 x8 x9 x10 x11 x12 x13 x14 x15 x16 x17 x18 x19 x20 x21 x22 x23 x24 x25 x26 x27 x28 x29 x30 x31 x32 x33 : AV) (h : T Blk) (nx : Pa) : IR.run F89.b42 (CS Tryz.prog B) N (((fnO F89.res K0).blk 4 E4).blk 5 E5) K (F89.fr x0 x1 x2 x3 x4 x5 x6 x7 x8 x9 x10 x11 x12 x13 x14 x15 x16 x17 x18 x19 x20 x21 x22 x23 x24 x25 x26 x27 x28 x29 x30 x31 x32 x33) h nx =
  K (F89.fr x0 x1 x2 x3 x4 x5 x6 x7 x8 x9 x12 x11 x12 x13 x14 x15 x16 x17 x18 x19 x20 x21 x22 x23 x24 x25 x26 x27 x28 x29 x30 x31 x32 x33) h nx := by kernel_rfl
theorem F89.e27 {N B : Nat} {K0 : Kw Prop} {E4 E5 E6 E7 : Ks Prop} {K R : Ks Prop} (x0 x1 x2 x3 x4 x5 x6 x7 x8 x9 x10 x11 x12 x13 x14 x15 x16 x17 x18 x19 x20 x21 x22 x23 x24 x25 x26 x27 x28 x29 x30 x31 x32 x33 : AV) (h : T Blk) (nx : Pa) : IR.run F89.b29 (CS Tryz.prog B) N ((((((fnO F89.res K0).blk 4 E4).blk 5 E5).blk 6 E6).blk 7 E7).blk 8 K) R (F89.fr x0 x1 x2 x3 x4 x5 x6 x7 x8 x9 x10 x11 x12 x13 x14 x15 x16 x17 x18 x19 x20 x21 x22 x23 x24 x25 x26 x27 x28 x29 x30 x31 x32 x33) h nx =
  sBin .leq .int x15 x3 fun v1 =>
  sCond v1 (sLoadN 128 x13 h fun v2 =>
  sAlloc [(.int .u8 0), (.int .u8 0), (.int .u8 0), (.int .u8 0), (.int .u8 0), (.int .u8 0), (.int .u8 0), (.int .u8 0), (.int .u8 0), (.int .u8 0), (.int .u8 0), (.int .u8 0), (.int .u8 0), (.int .u8 0), (.int .u8 0), (.int .u8 0), (.int .u8 0), (.int .u8 0), (.int .u8 0), (.int .u8 0), (.int .u8 0), (.int .u8 0), (.int .u8 0), (.int .u8 0), (.int .u8 0), (.int .u8 0), (.int .u8 0), (.int .u8 0), (.int .u8 0), (.int .u8 0), (.int .u8 0), (.int .u8 0), (.int .u8 0), (.int .u8 0), (.int .u8 0), (.int .u8 0), (.int .u8 0), (.int .u8 0), (.int .u8 0), (.int .u8 0), (.int .u8 0), (.int .u8 0), (.int .u8 0), (.int .u8 0), (.int .u8 0), (.int .u8 0), (.int .u8 0), (.int .u8 0), (.int .u8 0), (.int .u8 0), (.int .u8 0), (.int .u8 0), (.int .u8 0), (.int .u8 0), (.int .u8 0), (.int .u8 0), (.int .u8 0), (.int .u8 0), (.int .u8 0), (.int .u8 0), (.int .u8 0), (.int .u8 0), (.int .u8 0), (.int .u8 0), (.int .u8 0), (.int .u8 0), (.int .u8 0), (.int .u8 0), (.int .u8 0), (.int .u8 0), (.int .u8 0), (.int .u8 0), (.int .u8 0), (.int .u8 0), (.int .u8 0), (.int .u8 0), (.int .u8 0), (.int .u8 0), (.int .u8 0), (.int .u8 0), (.int .u8 0), (.int .u8 0), (.int .u8 0), (.int .u8 0), (.int .u8 0), (.int .u8 0), (.int .u8 0), (.int .u8 0), (.int .u8 0), (.int .u8 0), (.int .u8 0), (.int .u8 0), (.int .u8 0), (.int .u8 0), (.int .u8 0), (.int .u8 0), (.int .u8 0), (.int .u8 0), (.int .u8 0), (.int .u8 0), (.int .u8 0), (.int .u8 0), (.int .u8 0), (.int .u8 0), (.int .u8 0), (.int .u8 0), (.int .u8 0), (.int .u8 0), (.int .u8 0), (.int .u8 0), (.int .u8 0), (.int .u8 0), (.int .u8 0), (.int .u8 0), (.int .u8 0), (.int .u8 0), (.int .u8 0), (.int .u8 0), (.int .u8 0), (.int .u8 0), (.int .u8 0), (.int .u8 0), (.int .u8 0), (.int .u8 0), (.int .u8 0), (.int .u8 0), (.int .u8 0), (.int .u8 0)] h nx fun v3 h4 n5 =>
  sStore 128 v3 v2 h4 n5 fun v6 h7 n8 =>
  sIaddr 1 x6 x11 fun v9 =>
  sLoad v9 h7 fun v10 =>
  sLen v10 fun v11 =>
  IR.run F89.b33 (CS Tryz.prog B) N (((((((fnO F89.res K0).blk 4 E4).blk 5 E5).blk 6 E6).blk 7 E7).blk 8 K).blk 9 (IR.run F89.b41 (CS Tryz.prog B) N ((((((fnO F89.res K0).blk 4 E4).blk 5 E5).blk 6 E6).blk 7 E7).blk 8 K) R)) (IR.run F89.b40 (CS Tryz.prog B) N (((((((fnO F89.res K0).blk 4 E4).blk 5 E5).blk 6 E6).blk 7 E7).blk 8 K).blk 9 (IR.run F89.b41 (CS Tryz.prog B) N ((((((fnO F89.res K0).blk 4 E4).blk 5 E5).blk 6 E6).blk 7 E7).blk 8 K) R)) (IR.run F89.b41 (CS Tryz.prog B) N ((((((fnO F89.res K0).blk 4 E4).blk 5 E5).blk 6 E6).blk 7 E7).blk 8 K) R)) (F89.fr x0 x1 x2 x3 x4 x5 x6 x7 x8 x9 x10 x11 x12 x13 x14 x15 v3 x17 x18 x19 x20 x21 x22 x23 x24 x25 x26 x27 x28 v1 v10 v11 (I 0) x33) h7 n8) (K (F89.fr x0 x1 x2 x3 x4 x5 x6 x7 x8 x9 x10 x11 x12 x13 x14 x15 x16 x17 x18 x19 x20 x21 x22 x23 x24 x25 x26 x27 x28 v1 x30 x31 x32 x33) h nx) := by kernel_rfl
/-- loop 27: changes x15, x16, x17, x29, x30, x31, x32, x33; the invariant speaks of x15 -/
theorem F89.L27 {N B : Nat} {K0 : Kw Prop} {E4 E5 E6 E7 : Ks Prop} {K : Ks Prop} {x0 x1 x2 x3 x4 x5 x6 x7 x8 x9 x10 x11 x12 x13 x14 x15 x16 x17 x18 x19 x20 x21 x22 x23 x24 x25 x26 x27 x28 x29 x30 x31 x32 x33 : AV} {h : T Blk} {nx : Pa} (Inv : Nat → AV → T Blk → Pa → Prop) {m : Nat} (hm : m < N) (hi : Inv m x15 h nx)
    (step : ∀ (m : Nat) (z15 z16 z17 z29 z30 z31 z32 z33 : AV) (h : T Blk) (nx : Pa) (R : Ks Prop), Inv m z15 h nx → (∀ (m' : Nat) (w15 w16 w17 w29 w30 w31 w32 w33 : AV) (h' : T Blk) (nx' : Pa), m' < m → Inv m' w15 h' nx' → R (F89.fr x0 x1 x2 x3 x4 x5 x6 x7 x8 x9 x10 x11 x12 x13 x14 w15 w16 w17 x18 x19 x20 x21 x22 x23 x24 x25 x26 x27 x28 w29 w30 w31 w32 w33) h' nx' = .ok True) →
      (sBin .leq .int z15 x3 fun v1 =>
  sCond v1 (sLoadN 128 x13 h fun v2 =>
  sAlloc [(.int .u8 0), (.int .u8 0), (.int .u8 0), (.int .u8 0), (.int .u8 0), (.int .u8 0), (.int .u8 0), (.int .u8 0), (.int .u8 0), (.int .u8 0), (.int .u8 0), (.int .u8 0), (.int .u8 0), (.int .u8 0), (.int .u8 0), (.int .u8 0), (.int .u8 0), (.int .u8 0), (.int .u8 0), (.int .u8 0), (.int .u8 0), (.int .u8 0), (.int .u8 0), (.int .u8 0), (.int .u8 0), (.int .u8 0), (.int .u8 0), (.int .u8 0), (.int .u8 0), (.int .u8 0), (.int .u8 0), (.int .u8 0), (.int .u8 0), (.int .u8 0), (.int .u8 0), (.int .u8 0), (.int .u8 0), (.int .u8 0), (.int .u8 0), (.int .u8 0), (.int .u8 0), (.int .u8 0), (.int .u8 0), (.int .u8 0), (.int .u8 0), (.int .u8 0), (.int .u8 0), (.int .u8 0), (.int .u8 0), (.int .u8 0), (.int .u8 0), (.int .u8 0), (.int .u8 0), (.int .u8 0), (.int .u8 0), (.int .u8 0), (.int .u8 0), (.int .u8 0), (.int .u8 0), (.int .u8 0), (.int .u8 0), (.int .u8 0), (.int .u8 0), (.int .u8 0), (.int .u8 0), (.int .u8 0), (.int .u8 0), (.int .u8 0), (.int .u8 0), (.int .u8 0), (.int .u8 0), (.int .u8 0), (.int .u8 0), (.int .u8 0), (.int .u8 0), (.int .u8 0), (.int .u8 0), (.int .u8 0), (.int .u8 0), (.int .u8 0), (.int .u8 0), (.int .u8 0), (.int .u8 0), (.int .u8 0), (.int .u8 0), (.int .u8 0), (.int .u8 0), (.int .u8 0), (.int .u8 0), (.int .u8 0), (.int .u8 0), (.int .u8 0), (.int .u8 0), (.int .u8 0), (.int .u8 0), (.int .u8 0), (.int .u8 0), (.int .u8 0), (.int .u8 0), (.int .u8 0), (.int .u8 0), (.int .u8 0), (.int .u8 0), (.int .u8 0), (.int .u8 0), (.int .u8 0), (.int .u8 0), (.int .u8 0), (.int .u8 0), (.int .u8 0), (.int .u8 0), (.int .u8 0), (.int .u8 0), (.int .u8 0), (.int .u8 0), (.int .u8 0), (.int .u8 0), (.int .u8 0), (.int .u8 0), (.int .u8 0), (.int .u8 0), (.int .u8 0), (.int .u8 0), (.int .u8 0), (.int .u8 0), (.int .u8 0), (.int .u8 0), (.int .u8 0)] h nx fun v3 h4 n5 =>
  sStore 128 v3 v2 h4 n5 fun v6 h7 n8 =>
  sIaddr 1 x6 x11 fun v9 =>
  sLoad v9 h7 fun v10 =>
  sLen v10 fun v11 =>
  IR.run F89.b33 (CS Tryz.prog B) N (((((((fnO F89.res K0).blk 4 E4).blk 5 E5).blk 6 E6).blk 7 E7).blk 8 K).blk 9 (IR.run F89.b41 (CS Tryz.prog B) N ((((((fnO F89.res K0).blk 4 E4).blk 5 E5).blk 6 E6).blk 7 E7).blk 8 K) R)) (IR.run F89.b40 (CS Tryz.prog B) N (((((((fnO F89.res K0).blk 4 E4).blk 5 E5).blk 6 E6).blk 7 E7).blk 8 K).blk 9 (IR.run F89.b41 (CS Tryz.prog B) N ((((((fnO F89.res K0).blk 4 E4).blk 5 E5).blk 6 E6).blk 7 E7).blk 8 K) R)) (IR.run F89.b41 (CS Tryz.prog B) N ((((((fnO F89.res K0).blk 4 E4).blk 5 E5).blk 6 E6).blk 7 E7).blk 8 K) R)) (F89.fr x0 x1 x2 x3 x4 x5 x6 x7 x8 x9 x10 x11 x12 x13 x14 z15 v3 z17 x18 x19 x20 x21 x22 x23 x24 x25 x26 x27 x28 v1 v10 v11 (I 0) z33) h7 n8) (K (F89.fr x0 x1 x2 x3 x4 x5 x6 x7 x8 x9 x10 x11 x12 x13 x14 z15 z16 z17 x18 x19 x20 x21 x22 x23 x24 x25 x26 x27 x28 v1 z30 z31 z32 z33) h nx)) = .ok True) :
    IR.run F89.b27 (CS Tryz.prog B) N (((((fnO F89.res K0).blk 4 E4).blk 5 E5).blk 6 E6).blk 7 E7) K (F89.fr x0 x1 x2 x3 x4 x5 x6 x7 x8 x9 x10 x11 x12 x13 x14 x15 x16 x17 x18 x19 x20 x21 x22 x23 x24 x25 x26 x27 x28 x29 x30 x31 x32 x33) h nx = .ok True := by
  rw [F89.b27, F89.g27_eq, F89.b28]
  refine loop_ok (fun m tm h nx => ∃ z15 z16 z17 z29 z30 z31 z32 z33, tm = (F89.fr x0 x1 x2 x3 x4 x5 x6 x7 x8 x9 x10 x11 x12 x13 x14 z15 z16 z17 x18 x19 x20 x21 x22 x23 x24 x25 x26 x27 x28 z29 z30 z31 z32 z33) ∧ Inv m z15 h nx) ?_ hm ⟨_, _, _, _, _, _, _, _, rfl, hi⟩
  rintro m tm h nx R ⟨z15, z16, z17, z29, z30, z31, z32, z33, rfl, hi⟩ hR
  rw [F89.e27]
  exact step m z15 z16 z17 z29 z30 z31 z32 z33 h nx R hi fun m' w15 w16 w17 w29 w30 w31 w32 w33 h' nx' hlt hi' => hR m' _ h' nx' hlt ⟨_, _, _, _, _, _, _, _, rfl, hi'⟩
theorem F89.k41 {N B : Nat} {K0 : Kw Prop} {E4 E5 E6 E7 E8 : Ks Prop} {K : Ks Prop} (x0 x1 x2 x3 x4 x5 x6 x7 x8 x9 x10 x11 x12 x13 x14 x15 x16 x17 x18 x19 x20 x21 x22 x23 x24 x25 x26 x27 x28 x29 x30 x31 x32 x33 : AV) (h : T Blk) (nx : Pa) : IR.run F89.b41 (CS Tryz.prog B) N ((((((fnO F89.res K0).blk 4 E4).blk 5 E5).blk 6 E6).blk 7 E7).blk 8 E8) K (F89.fr x0 x1 x2 x3 x4 x5 x6 x7 x8 x9 x10 x11 x12 x13 x14 x15 x16 x17 x18 x19 x20 x21 x22 x23 x24 x25 x26 x27 x28 x29 x30 x31 x32 x33) h nx =
  sBin .add .int x15 (I 1) fun v1 =>
  K (F89.fr x0 x1 x2 x3 x4 x5 x6 x7 x8 x9 x10 x11 x12 x13 x14 v1 x16 x17 x18 x19 x20 x21 x22 x23 x24 x25 x26 x27 x28 x29 x30 x31 x32 x33) h nx := by kernel_rfl
theorem F89.e33 {N B : Nat} {K0 : Kw Prop} {E4 E5 E6 E7 E8 E9 : Ks Prop} {K R : Ks Prop} (x0 x1 x2 x3 x4 x5 x6 x7 x8 x9 x10 x11 x12 x13 x14 x15 x16 x17 x18 x19 x20 x21 x22 x23 x24 x25 x26 x27 x28 x29 x30 x31 x32 x33 : AV) (h : T Blk) (nx : Pa) : IR.run F89.b35 (CS Tryz.prog B) N ((((((((fnO F89.res K0).blk 4 E4).blk 5 E5).blk 6 E6).blk 7 E7).blk 8 E8).blk 9 E9).blk 10 K) R (F89.fr x0 x1 x2 x3 x4 x5 x6 x7 x8 x9 x10 x11 x12 x13 x14 x15 x16 x17 x18 x19 x20 x21 x22 x23 x24 x25 x26 x27 x28 x29 x30 x31 x32 x33) h nx =
  sBin .lss .int x32 x31 fun v1 =>
  sCond v1 (sIaddr 1 x30 x32 fun v2 =>
  sLoad v2 h fun v3 =>
  sAaddr 1 128 x16 v3 fun v4 =>
  sLoad v4 h fun v5 =>
  sConv .u8 x15 fun v6 =>
  sBin .add .int v5 v6 fun v7 =>
  sAaddr 1 128 x16 v3 fun v8 =>
  sStore 1 v8 v7 h nx fun v9 h10 n11 =>
  sBin .add .int x32 (I 1) fun v12 =>
  R (F89.fr x0 x1 x2 x3 x4 x5 x6 x7 x8 x9 x10 x11 x12 x13 x14 x15 x16 v3 x18 x19 x20 x21 x22 x23 x24 x25 x26 x27 x28 x29 x30 x31 v12 v1) h10 n11) (K (F89.fr x0 x1 x2 x3 x4 x5 x6 x7 x8 x9 x10 x11 x12 x13 x14 x15 x16 x17 x18 x19 x20 x21 x22 x23 x24 x25 x26 x27 x28 x29 x30 x31 x32 v1) h nx) := by kernel_rfl
/-- loop 33: changes x17, x32, x33; the invariant speaks of x32 -/
theorem F89.L33 {N B : Nat} {K0 : Kw Prop} {E4 E5 E6 E7 E8 E9 : Ks Prop} {K : Ks Prop} {x0 x1 x2 x3 x4 x5 x6 x7 x8 x9 x10 x11 x12 x13 x14 x15 x16 x17 x18 x19 x20 x21 x22 x23 x24 x25 x26 x27 x28 x29 x30 x31 x32 x33 : AV} {h : T Blk} {nx : Pa} (Inv : Nat → AV → T Blk → Pa → Prop) {m : Nat} (hm : m < N) (hi : Inv m x32 h nx)
    (step : ∀ (m : Nat) (z17 z32 z33 : AV) (h : T Blk) (nx : Pa) (R : Ks Prop), Inv m z32 h nx → (∀ (m' : Nat) (w17 w32 w33 : AV) (h' : T Blk) (nx' : Pa), m' < m → Inv m' w32 h' nx' → R (F89.fr x0 x1 x2 x3 x4 x5 x6 x7 x8 x9 x10 x11 x12 x13 x14 x15 x16 w17 x18 x19 x20 x21 x22 x23 x24 x25 x26 x27 x28 x29 x30 x31 w32 w33) h' nx' = .ok True) →
      (sBin .lss .int z32 x31 fun v1 =>
  sCond v1 (sIaddr 1 x30 z32 fun v2 =>
  sLoad v2 h fun v3 =>
  sAaddr 1 128 x16 v3 fun v4 =>
  sLoad v4 h fun v5 =>
  sConv .u8 x15 fun v6 =>
  sBin .add .int v5 v6 fun v7 =>
  sAaddr 1 128 x16 v3 fun v8 =>
  sStore 1 v8 v7 h nx fun v9 h10 n11 =>
  sBin .add .int z32 (I 1) fun v12 =>
  R (F89.fr x0 x1 x2 x3 x4 x5 x6 x7 x8 x9 x10 x11 x12 x13 x14 x15 x16 v3 x18 x19 x20 x21 x22 x23 x24 x25 x26 x27 x28 x29 x30 x31 v12 v1) h10 n11) (K (F89.fr x0 x1 x2 x3 x4 x5 x6 x7 x8 x9 x10 x11 x12 x13 x14 x15 x16 z17 x18 x19 x20 x21 x22 x23 x24 x25 x26 x27 x28 x29 x30 x31 z32 v1) h nx)) = .ok True) :
    IR.run F89.b33 (CS Tryz.prog B) N (((((((fnO F89.res K0).blk 4 E4).blk 5 E5).blk 6 E6).blk 7 E7).blk 8 E8).blk 9 E9) K (F89.fr x0 x1 x2 x3 x4 x5 x6 x7 x8 x9 x10 x11 x12 x13 x14 x15 x16 x17 x18 x19 x20 x21 x22 x23 x24 x25 x26 x27 x28 x29 x30 x31 x32 x33) h nx = .ok True := by
  rw [F89.b33, F89.g33_eq, F89.b34]
  refine loop_ok (fun m tm h nx => ∃ z17 z32 z33, tm = (F89.fr x0 x1 x2 x3 x4 x5 x6 x7 x8 x9 x10 x11 x12 x13 x14 x15 x16 z17 x18 x19 x20 x21 x22 x23 x24 x25 x26 x27 x28 x29 x30 x31 z32 z33) ∧ Inv m z32 h nx) ?_ hm ⟨_, _, _, rfl, hi⟩
  rintro m tm h nx R ⟨z17, z32, z33, rfl, hi⟩ hR
  rw [F89.e33]
  exact step m z17 z32 z33 h nx R hi fun m' w17 w32 w33 h' nx' hlt hi' => hR m' _ h' nx' hlt ⟨_, _, _, rfl, hi'⟩
theorem F89.k40 {N B : Nat} {K0 : Kw Prop} {E4 E5 E6 E7 E8 E9 : Ks Prop} {K : Ks Prop} (x0 x1 x2 x3 x4 x5 x6 x7 x8 x9 x10 x11 x12 x13 x14 x15 x16 x17 x18 x19 x20 x21 x22 x23 x24 x25 x26 x27 x28 x29 x30 x31 x32 x33 : AV) (h : T Blk) (nx : Pa) : IR.run F89.b40 (CS Tryz.prog B) N (((((((fnO F89.res K0).blk 4 E4).blk 5 E5).blk 6 E6).blk 7 E7).blk 8 E8).blk 9 E9) K (F89.fr x0 x1 x2 x3 x4 x5 x6 x7 x8 x9 x10 x11 x12 x13 x14 x15 x16 x17 x18 x19 x20 x21 x22 x23 x24 x25 x26 x27 x28 x29 x30 x31 x32 x33) h nx =
  sLoadN 128 x16 h fun v1 =>
  sLook (.agg 128) (I 0) false x12 v1 h fun v2 =>
  sBin .add .int v2 x14 fun v3 =>
  sMapent (.agg 128) (I 0) x12 v1 h nx fun v4 h5 n6 =>
  (sBin .add .int v2 x14 fun v12 => sSame v12 v3 ((sLook (.agg 128) (I 0) false x12 v1 h5 fun v11 => sSame v11 v2 (sExt 1 v4 fun v7 =>
  sEntst x12 v7 v3 h5 n6 fun v8 h9 n10 =>
  K (F89.fr x0 x1 x2 x3 x4 x5 x6 x7 x8 x9 x10 x11 x12 x13 x14 x15 x16 x17 x18 x19 x20 x21 x22 x23 x24 x25 x26 x27 x28 x29 x30 x31 x32 x33) h9 n10)))) := by kernel_rfl
theorem F89.k39 {N B : Nat} {K0 : Kw Prop} {E4 E5 E6 E7 E8 E9 E10 : Ks Prop} {K : Ks Prop} (x0 x1 x2 x3 x4 x5 x6 x7 x8 x9 x10 x11 x12 x13 x14 x15 x16 x17 x18 x19 x20 x21 x22 x23 x24 x25 x26 x27 x28 x29 x30 x31 x32 x33 : AV) (h : T Blk) (nx : Pa) : IR.run F89.b39 (CS Tryz.prog B) N ((((((((fnO F89.res K0).blk 4 E4).blk 5 E5).blk 6 E6).blk 7 E7).blk 8 E8).blk 9 E9).blk 10 E10) K (F89.fr x0 x1 x2 x3 x4 x5 x6 x7 x8 x9 x10 x11 x12 x13 x14 x15 x16 x17 x18 x19 x20 x21 x22 x23 x24 x25 x26 x27 x28 x29 x30 x31 x32 x33) h nx =
  sBin .add .int x32 (I 1) fun v1 =>
  K (F89.fr x0 x1 x2 x3 x4 x5 x6 x7 x8 x9 x10 x11 x12 x13 x14 x15 x16 x17 x18 x19 x20 x21 x22 x23 x24 x25 x26 x27 x28 x29 x30 x31 v1 x33) h nx := by kernel_rfl
end Go.Ev
/- The code of functions between loops. Printed by a program. -/
namespace Go.Ev
open Go Go.Proofs
set_option maxRecDepth 100000
/-! talisman/talismanlaw07.CountSets -/
theorem F3.tab : T.get none (.of 3) tbl = some F3 := by kernel_rfl
theorem F3.go {N B : Nat} {K0 : Kw Prop} (y0 y1 y2 : AV) (h : T Blk) (nx : Pa) : callFn tbl N (CS Tryz.prog B) (.of 3) [y0, y1, y2] h nx K0 =
  sBin .gtr .int y0 (I 20) fun v1 =>
  sG v1 true (fun k => k y0) fun v2 =>
  sG v1 true (fun k => sBin .leq .int v2 (I 64) k) fun v3 =>
  sPick v1 v3 (.bool false) fun v4 =>
  sCond v4 ((CS Tryz.prog B).fn 18 (.of 18) [] h nx fun v5 h6 n7 =>
  K0 v5 h6 n7) ((CS Tryz.prog B).fn 19 (.of 19) [y0, y1, y2] h nx fun v8 h9 n10 =>
  sExt 0 v8 fun v11 =>
  sExt 1 v8 fun v12 =>
  (CS Tryz.prog B).fn 20 (.of 20) [y0, y1, y2] h9 n10 fun v13 h14 n15 =>
  sExt 0 v13 fun v16 =>
  sExt 1 v13 fun v17 =>
  (CS Tryz.prog B).fn 21 (.of 21) [y0, y1] h14 n15 fun v18 h19 n20 =>
  sBin .neq .int v18 (I 0) fun v21 =>
  sCond v21 (sLen v11 fun v22 =>
  sBin .eql .int v22 (I 0) fun v23 =>
  sG v23 true (fun k => k v12) fun v24 =>
  sG v23 true (fun k => k v18) fun v25 =>
  sG v23 true (fun k => sBin .eql .int v24 v25 k) fun v26 =>
  sPick v23 v26 (.bool false) fun v27 =>
  sG v27 true (fun k => k v16) fun v28 =>
  sG v27 true (fun k => sBin .eql .int v28 (I 0) k) fun v29 =>
  sPick v27 v29 (.bool false) fun v30 =>
  sG v30 true (fun k => k v17) fun v31 =>
  sG v30 true (fun k => k v18) fun v32 =>
  sG v30 true (fun k => sBin .eql .int v31 v32 k) fun v33 =>
  sPick v30 v33 (.bool false) fun v34 =>
  sGW v34 true (fun k => (CS Tryz.prog B).fn 18 (.of 18) [] h19 n20 k) h19 n20 fun v35 h36 n37 =>
  sPick v34 v35 (.bool false) fun v38 =>
  K0 v38 h36 n37) ((IR.run F3.b2 (CS Tryz.prog B) N (fnO F3.res K0) (retK F3.res K0)) (F3.fr y0 y1 y2 (.bool false) v11 v12 v16 v17 v18 .undef v4 v21 .undef .undef) h19 n20)) := by
  rw [callFn_of F3.tab]; kernel_rfl
theorem F3.k2 {N B : Nat} {K0 : Kw Prop} {K : Ks Prop} (x0 x1 x2 x3 x4 x5 x6 x7 x8 x9 x10 x11 x12 x13 : AV) (h : T Blk) (nx : Pa) : IR.run F3.b2 (CS Tryz.prog B) N (fnO F3.res K0) K (F3.fr x0 x1 x2 x3 x4 x5 x6 x7 x8 x9 x10 x11 x12 x13) h nx =
  (CS Tryz.prog B).fn 22 (.of 22) [x0, x1, x2] h nx fun v1 h2 n3 =>
  sBin .neq .int x7 (I 0) fun v4 =>
  sG v4 false (fun k => k x6) fun v5 =>
  sG v4 false (fun k => k v1) fun v6 =>
  sG v4 false (fun k => sBin .neq .int v5 v6 k) fun v7 =>
  sPick v4 (.bool true) v7 fun v8 =>
  sCond v8 (K0 (.bool false) h2 n3) (sBin .gtr .int v1 (I 1024) fun v9 =>
  sCond v9 (sLen x4 fun v10 =>
  sBin .eql .int v10 (I 0) fun v11 =>
  sG v11 true (fun k => k x5) fun v12 =>
  sG v11 true (fun k => sBin .eql .int v12 (I 5) k) fun v13 =>
  sPick v11 v13 (.bool false) fun v14 =>
  sGW v14 true (fun k => (CS Tryz.prog B).fn 18 (.of 18) [] h2 n3 k) h2 n3 fun v15 h16 n17 =>
  sPick v14 v15 (.bool false) fun v18 =>
  K0 v18 h16 n17) ((IR.run F3.b4 (CS Tryz.prog B) N (fnO F3.res K0) K) (F3.fr x0 x1 x2 x3 x4 x5 x6 x7 x8 v1 x10 x11 v8 v9) h2 n3)) := by kernel_rfl
theorem F3.k4 {N B : Nat} {K0 : Kw Prop} {K : Ks Prop} (x0 x1 x2 x3 x4 x5 x6 x7 x8 x9 x10 x11 x12 x13 : AV) (h : T Blk) (nx : Pa) : IR.run F3.b4 (CS Tryz.prog B) N (fnO F3.res K0) K (F3.fr x0 x1 x2 x3 x4 x5 x6 x7 x8 x9 x10 x11 x12 x13) h nx =
  sBin .eql .int x5 (I 0) fun v1 =>
  sG v1 true (fun k => k x4) fun v2 =>
  sG v1 true (fun k => k x0) fun v3 =>
  sG v1 true (fun k => k x1) fun v4 =>
  sG v1 true (fun k => k x2) fun v5 =>
  sGW v1 true (fun k => (CS Tryz.prog B).fn 24 (.of 24) [.nils, (I 1), v3, v4, v5] h nx k) h nx fun v6 h7 n8 =>
  sGW v1 true (fun k => (CS Tryz.prog B).fn 23 (.of 23) [v2, v6] h7 n8 k) h7 n8 fun v9 h10 n11 =>
  sPick v1 v9 (.bool false) fun v12 =>
  sGW v12 true (fun k => (CS Tryz.prog B).fn 18 (.of 18) [] h10 n11 k) h10 n11 fun v13 h14 n15 =>
  sPick v12 v13 (.bool false) fun v16 =>
  K0 v16 h14 n15 := by kernel_rfl
end Go.Ev
/- The code of functions between loops. Printed by a program. -/
namespace Go.Ev
open Go Go.Proofs
set_option maxRecDepth 100000
/-! talisman/count.Bounded -/
theorem F31.g9_eq (X10 : IR) (C : Calls Prop) (N : Nat) (O : Outs Prop) (K : Ks Prop) (x0 x1 x2 x3 x4 x5 x6 x7 x8 x9 x10 x11 x12 x13 x14 x15 x16 x17 x18 x19 x20 x21 x22 : AV) (h : T Blk) (nx : Pa) : IR.run (F31.g9 X10) C N O K (F31.fr x0 x1 x2 x3 x4 x5 x6 x7 x8 x9 x10 x11 x12 x13 x14 x15 x16 x17 x18 x19 x20 x21 x22) h nx =
  IR.run X10 C N (O.blk 2 K) K (F31.fr x0 x1 x2 x3 x4 x5 x6 x7 x8 x9 x10 x11 x12 x13 x14 x15 x16 x17 x18 x19 x20 x21 x22) h nx := by kernel_rfl
theorem F31.g4_eq (X5 : IR) (C : Calls Prop) (N : Nat) (O : Outs Prop) (K : Ks Prop) (x0 x1 x2 x3 x4 x5 x6 x7 x8 x9 x10 x11 x12 x13 x14 x15 x16 x17 x18 x19 x20 x21 x22 : AV) (h : T Blk) (nx : Pa) : IR.run (F31.g4 X5) C N O K (F31.fr x0 x1 x2 x3 x4 x5 x6 x7 x8 x9 x10 x11 x12 x13 x14 x15 x16 x17 x18 x19 x20 x21 x22) h nx =
  IR.run X5 C N (O.blk 0 K) K (F31.fr x0 x1 x2 x3 x4 x5 x6 x7 x8 x9 x10 x11 x12 x13 x14 x15 x16 x17 x18 x19 x20 x21 x22) h nx := by kernel_rfl
theorem F31.tab : T.get none (.of 31) tbl = some F31 := by kernel_rfl
theorem F31.go {N B : Nat} {K0 : Kw Prop} (y0 y1 y2 : AV) (h : T Blk) (nx : Pa) : callFn tbl N (CS Tryz.prog B) (.of 31) [y0, y1, y2] h nx K0 =
  sBox y0 h nx fun v1 h2 n3 =>
  sLoadN 2 v1 h2 fun v4 =>
  (CS Tryz.prog B).fn 87 (.of 87) [v4, y1] h2 n3 fun v5 h6 n7 =>
  sBin .neq .int v5 (I 0) fun v8 =>
  sCond v8 (K0 (.tup [(I 0), v5]) h6 n7) (sFaddr 0 v1 fun v9 =>
  sLoad v9 h6 fun v10 =>
  sBin .quo .int v10 (I 2) fun v11 =>
  sFaddr 0 v1 fun v12 =>
  sLoad v12 h6 fun v13 =>
  sBin .sub .int v13 v11 fun v14 =>
  (CS Tryz.prog B).fn 88 (.of 88) [v14, y1] h6 n7 fun v15 h16 n17 =>
  sCond v15 (K0 (.tup [(I 0), (I 20)]) h16 n17) (sFaddr 1 v1 fun v18 =>
  sLoad v18 h16 fun v19 =>
  sLen v19 fun v20 =>
  sBin .gtr .int v20 (I 0) fun v21 =>
  sG v21 true (fun k => k y2) fun v22 =>
  sG v21 true (fun k => sBin .lss .int v22 (I 0) k) fun v23 =>
  sG v21 true (fun k => k v23) fun v24 =>
  sG v24 false (fun k => k y2) fun v25 =>
  sG v24 false (fun k => sBin .gtr .int v25 (I 255) k) fun v26 =>
  sG v21 true (fun k => sPick v24 (.bool true) v26 k) fun v27 =>
  sPick v21 v27 (.bool false) fun v28 =>
  sCond v28 (K0 (.tup [(I 0), (I 0)]) h16 n17) ((IR.run F31.b3 (CS Tryz.prog B) N (fnO F31.res K0) (retK F31.res K0)) (F31.fr y0 y1 y2 v1 (I 0) (I 0) v5 v11 .undef .undef .undef .undef .undef .undef v8 v15 v28 .undef .undef .undef .undef .undef .undef) h16 n17))) := by
  rw [callFn_of F31.tab]; kernel_rfl
theorem F31.k3 {N B : Nat} {K0 : Kw Prop} {K : Ks Prop} (x0 x1 x2 x3 x4 x5 x6 x7 x8 x9 x10 x11 x12 x13 x14 x15 x16 x17 x18 x19 x20 x21 x22 : AV) (h : T Blk) (nx : Pa) : IR.run F31.b3 (CS Tryz.prog B) N (fnO F31.res K0) K (F31.fr x0 x1 x2 x3 x4 x5 x6 x7 x8 x9 x10 x11 x12 x13 x14 x15 x16 x17 x18 x19 x20 x21 x22) h nx =
  sLoadN 2 x3 h fun v1 =>
  sFaddr 0 x3 fun v2 =>
  sLoad v2 h fun v3 =>
  (CS Tryz.prog B).fn 89 (.of 89) [v1, x7, v3, x1] h nx fun v4 h5 n6 =>
  sLoadN 2 x3 h5 fun v7 =>
  (CS Tryz.prog B).fn 89 (.of 89) [v7, (I 0), x7, x1] h5 n6 fun v8 h9 n10 =>
  sRange v8 h9 n10 fun v11 h12 n13 =>
  IR.run F31.b4 (CS Tryz.prog B) N (fnO F31.res K0) (IR.run F31.b18 (CS Tryz.prog B) N (fnO F31.res K0) K) (F31.fr x0 x1 x2 x3 x4 x5 x6 x7 v4 (I 0) x10 x11 x12 x13 x14 x15 x16 v11 x18 x19 x20 x21 x22) h12 n13 := by kernel_rfl
theorem F31.e4 {N B : Nat} {K0 : Kw Prop} {K R : Ks Prop} (x0 x1 x2 x3 x4 x5 x6 x7 x8 x9 x10 x11 x12 x13 x14 x15 x16 x17 x18 x19 x20 x21 x22 : AV) (h : T Blk) (nx : Pa) : IR.run F31.b6 (CS Tryz.prog B) N ((fnO F31.res K0).blk 0 K) R (F31.fr x0 x1 x2 x3 x4 x5 x6 x7 x8 x9 x10 x11 x12 x13 x14 x15 x16 x17 x18 x19 x20 x21 x22) h nx =
  sNext (CS Tryz.prog B) x17 h nx fun v1 h2 n3 =>
  sExt 0 v1 fun v4 =>
  sCond v4 (sEntry x17 h2 fun v5 =>
  sExt 0 v5 fun v6 =>
  sExt 1 v5 fun v7 =>
  sAlloc [(.int .u8 0), (.int .u8 0), (.int .u8 0), (.int .u8 0), (.int .u8 0), (.int .u8 0), (.int .u8 0), (.int .u8 0), (.int .u8 0), (.int .u8 0), (.int .u8 0), (.int .u8 0), (.int .u8 0), (.int .u8 0), (.int .u8 0), (.int .u8 0), (.int .u8 0), (.int .u8 0), (.int .u8 0), (.int .u8 0), (.int .u8 0), (.int .u8 0), (.int .u8 0), (.int .u8 0), (.int .u8 0), (.int .u8 0), (.int .u8 0), (.int .u8 0), (.int .u8 0), (.int .u8 0), (.int .u8 0), (.int .u8 0), (.int .u8 0), (.int .u8 0), (.int .u8 0), (.int .u8 0), (.int .u8 0), (.int .u8 0), (.int .u8 0), (.int .u8 0), (.int .u8 0), (.int .u8 0), (.int .u8 0), (.int .u8 0), (.int .u8 0), (.int .u8 0), (.int .u8 0), (.int .u8 0), (.int .u8 0), (.int .u8 0), (.int .u8 0), (.int .u8 0), (.int .u8 0), (.int .u8 0), (.int .u8 0), (.int .u8 0), (.int .u8 0), (.int .u8 0), (.int .u8 0), (.int .u8 0), (.int .u8 0), (.int .u8 0), (.int .u8 0), (.int .u8 0), (.int .u8 0), (.int .u8 0), (.int .u8 0), (.int .u8 0), (.int .u8 0), (.int .u8 0), (.int .u8 0), (.int .u8 0), (.int .u8 0), (.int .u8 0), (.int .u8 0), (.int .u8 0), (.int .u8 0), (.int .u8 0), (.int .u8 0), (.int .u8 0), (.int .u8 0), (.int .u8 0), (.int .u8 0), (.int .u8 0), (.int .u8 0), (.int .u8 0), (.int .u8 0), (.int .u8 0), (.int .u8 0), (.int .u8 0), (.int .u8 0), (.int .u8 0), (.int .u8 0), (.int .u8 0), (.int .u8 0), (.int .u8 0), (.int .u8 0), (.int .u8 0), (.int .u8 0), (.int .u8 0), (.int .u8 0), (.int .u8 0), (.int .u8 0), (.int .u8 0), (.int .u8 0), (.int .u8 0), (.int .u8 0), (.int .u8 0), (.int .u8 0), (.int .u8 0), (.int .u8 0), (.int .u8 0), (.int .u8 0), (.int .u8 0), (.int .u8 0), (.int .u8 0), (.int .u8 0), (.int .u8 0), (.int .u8 0), (.int .u8 0), (.int .u8 0), (.int .u8 0), (.int .u8 0), (.int .u8 0), (.int .u8 0), (.int .u8 0), (.int .u8 0), (.int .u8 0)] h2 n3 fun v8 h9 n10 =>
  sStore 128 v8 v6 h9 n10 fun v11 h12 n13 =>
  sAlloc [(.int .u8 0), (.int .u8 0), (.int .u8 0), (.int .u8 0), (.int .u8 0), (.int .u8 0), (.int .u8 0), (.int .u8 0), (.int .u8 0), (.int .u8 0), (.int .u8 0), (.int .u8 0), (.int .u8 0), (.int .u8 0), (.int .u8 0), (.int .u8 0), (.int .u8 0), (.int .u8 0), (.int .u8 0), (.int .u8 0), (.int .u8 0), (.int .u8 0), (.int .u8 0), (.int .u8 0), (.int .u8 0), (.int .u8 0), (.int .u8 0), (.int .u8 0), (.int .u8 0), (.int .u8 0), (.int .u8 0), (.int .u8 0), (.int .u8 0), (.int .u8 0), (.int .u8 0), (.int .u8 0), (.int .u8 0), (.int .u8 0), (.int .u8 0), (.int .u8 0), (.int .u8 0), (.int .u8 0), (.int .u8 0), (.int .u8 0), (.int .u8 0), (.int .u8 0), (.int .u8 0), (.int .u8 0), (.int .u8 0), (.int .u8 0), (.int .u8 0), (.int .u8 0), (.int .u8 0), (.int .u8 0), (.int .u8 0), (.int .u8 0), (.int .u8 0), (.int .u8 0), (.int .u8 0), (.int .u8 0), (.int .u8 0), (.int .u8 0), (.int .u8 0), (.int .u8 0), (.int .u8 0), (.int .u8 0), (.int .u8 0), (.int .u8 0), (.int .u8 0), (.int .u8 0), (.int .u8 0), (.int .u8 0), (.int .u8 0), (.int .u8 0), (.int .u8 0), (.int .u8 0), (.int .u8 0), (.int .u8 0), (.int .u8 0), (.int .u8 0), (.int .u8 0), (.int .u8 0), (.int .u8 0), (.int .u8 0), (.int .u8 0), (.int .u8 0), (.int .u8 0), (.int .u8 0), (.int .u8 0), (.int .u8 0), (.int .u8 0), (.int .u8 0), (.int .u8 0), (.int .u8 0), (.int .u8 0), (.int .u8 0), (.int .u8 0), (.int .u8 0), (.int .u8 0), (.int .u8 0), (.int .u8 0), (.int .u8 0), (.int .u8 0), (.int .u8 0), (.int .u8 0), (.int .u8 0), (.int .u8 0), (.int .u8 0), (.int .u8 0), (.int .u8 0), (.int .u8 0), (.int .u8 0), (.int .u8 0), (.int .u8 0), (.int .u8 0), (.int .u8 0), (.int .u8 0), (.int .u8 0), (.int .u8 0), (.int .u8 0), (.int .u8 0), (.int .u8 0), (.int .u8 0), (.int .u8 0), (.int .u8 0), (.int .u8 0), (.int .u8 0), (.int .u8 0)] h12 n13 fun v14 h15 n16 =>
  sFaddr 1 x3 fun v17 =>
  sLoad v17 h15 fun v18 =>
  sLen v18 fun v19 =>
  IR.run F31.b9 (CS Tryz.prog B) N (((fnO F31.res K0).blk 0 K).blk 1 R) (IR.run F31.b17 (CS Tryz.prog B) N (((fnO F31.res K0).blk 0 K).blk 1 R) R) (F31.fr x0 x1 x2 x3 x4 x5 x6 x7 x8 x9 v8 v7 v14 x13 x14 x15 x16 x17 v4 v19 (I 0) x21 x22) h15 n16) (K (F31.fr x0 x1 x2 x3 x4 x5 x6 x7 x8 x9 x10 x11 x12 x13 x14 x15 x16 x17 v4 x19 x20 x21 x22) h2 n3) := by kernel_rfl
/-- loop 4: changes x9, x10, x11, x12, x13, x18, x19, x20, x21, x22; the invariant speaks of x9 -/
theorem F31.L4 {N B : Nat} {K0 : Kw Prop} {K : Ks Prop} {x0 x1 x2 x3 x4 x5 x6 x7 x8 x9 x10 x11 x12 x13 x14 x15 x16 x17 x18 x19 x20 x21 x22 : AV} {h : T Blk} {nx : Pa} (Inv : Nat → AV → T Blk → Pa → Prop) {m : Nat} (hm : m < N) (hi : Inv m x9 h nx)
    (step : ∀ (m : Nat) (z9 z10 z11 z12 z13 z18 z19 z20 z21 z22 : AV) (h : T Blk) (nx : Pa) (R : Ks Prop), Inv m z9 h nx → (∀ (m' : Nat) (w9 w10 w11 w12 w13 w18 w19 w20 w21 w22 : AV) (h' : T Blk) (nx' : Pa), m' < m → Inv m' w9 h' nx' → R (F31.fr x0 x1 x2 x3 x4 x5 x6 x7 x8 w9 w10 w11 w12 w13 x14 x15 x16 x17 w18 w19 w20 w21 w22) h' nx' = .ok True) →
      (sNext (CS Tryz.prog B) x17 h nx fun v1 h2 n3 =>
  sExt 0 v1 fun v4 =>
  sCond v4 (sEntry x17 h2 fun v5 =>
  sExt 0 v5 fun v6 =>
  sExt 1 v5 fun v7 =>
  sAlloc [(.int .u8 0), (.int .u8 0), (.int .u8 0), (.int .u8 0), (.int .u8 0), (.int .u8 0), (.int .u8 0), (.int .u8 0), (.int .u8 0), (.int .u8 0), (.int .u8 0), (.int .u8 0), (.int .u8 0), (.int .u8 0), (.int .u8 0), (.int .u8 0), (.int .u8 0), (.int .u8 0), (.int .u8 0), (.int .u8 0), (.int .u8 0), (.int .u8 0), (.int .u8 0), (.int .u8 0), (.int .u8 0), (.int .u8 0), (.int .u8 0), (.int .u8 0), (.int .u8 0), (.int .u8 0), (.int .u8 0), (.int .u8 0), (.int .u8 0), (.int .u8 0), (.int .u8 0), (.int .u8 0), (.int .u8 0), (.int .u8 0), (.int .u8 0), (.int .u8 0), (.int .u8 0), (.int .u8 0), (.int .u8 0), (.int .u8 0), (.int .u8 0), (.int .u8 0), (.int .u8 0), (.int .u8 0), (.int .u8 0), (.int .u8 0), (.int .u8 0), (.int .u8 0), (.int .u8 0), (.int .u8 0), (.int .u8 0), (.int .u8 0), (.int .u8 0), (.int .u8 0), (.int .u8 0), (.int .u8 0), (.int .u8 0), (.int .u8 0), (.int .u8 0), (.int .u8 0), (.int .u8 0), (.int .u8 0), (.int .u8 0), (.int .u8 0), (.int .u8 0), (.int .u8 0), (.int .u8 0), (.int .u8 0), (.int .u8 0), (.int .u8 0), (.int .u8 0), (.int .u8 0), (.int .u8 0), (.int .u8 0), (.int .u8 0), (.int .u8 0), (.int .u8 0), (.int .u8 0), (.int .u8 0), (.int .u8 0), (.int .u8 0), (.int .u8 0), (.int .u8 0), (.int .u8 0), (.int .u8 0), (.int .u8 0), (.int .u8 0), (.int .u8 0), (.int .u8 0), (.int .u8 0), (.int .u8 0), (.int .u8 0), (.int .u8 0), (.int .u8 0), (.int .u8 0), (.int .u8 0), (.int .u8 0), (.int .u8 0), (.int .u8 0), (.int .u8 0), (.int .u8 0), (.int .u8 0), (.int .u8 0), (.int .u8 0), (.int .u8 0), (.int .u8 0), (.int .u8 0), (.int .u8 0), (.int .u8 0), (.int .u8 0), (.int .u8 0), (.int .u8 0), (.int .u8 0), (.int .u8 0), (.int .u8 0), (.int .u8 0), (.int .u8 0), (.int .u8 0), (.int .u8 0), (.int .u8 0), (.int .u8 0), (.int .u8 0), (.int .u8 0), (.int .u8 0)] h2 n3 fun v8 h9 n10 =>
  sStore 128 v8 v6 h9 n10 fun v11 h12 n13 =>
  sAlloc [(.int .u8 0), (.int .u8 0), (.int .u8 0), (.int .u8 0), (.int .u8 0), (.int .u8 0), (.int .u8 0), (.int .u8 0), (.int .u8 0), (.int .u8 0), (.int .u8 0), (.int .u8 0), (.int .u8 0), (.int .u8 0), (.int .u8 0), (.int .u8 0), (.int .u8 0), (.int .u8 0), (.int .u8 0), (.int .u8 0), (.int .u8 0), (.int .u8 0), (.int .u8 0), (.int .u8 0), (.int .u8 0), (.int .u8 0), (.int .u8 0), (.int .u8 0), (.int .u8 0), (.int .u8 0), (.int .u8 0), (.int .u8 0), (.int .u8 0), (.int .u8 0), (.int .u8 0), (.int .u8 0), (.int .u8 0), (.int .u8 0), (.int .u8 0), (.int .u8 0), (.int .u8 0), (.int .u8 0), (.int .u8 0), (.int .u8 0), (.int .u8 0), (.int .u8 0), (.int .u8 0), (.int .u8 0), (.int .u8 0), (.int .u8 0), (.int .u8 0), (.int .u8 0), (.int .u8 0), (.int .u8 0), (.int .u8 0), (.int .u8 0), (.int .u8 0), (.int .u8 0), (.int .u8 0), (.int .u8 0), (.int .u8 0), (.int .u8 0), (.int .u8 0), (.int .u8 0), (.int .u8 0), (.int .u8 0), (.int .u8 0), (.int .u8 0), (.int .u8 0), (.int .u8 0), (.int .u8 0), (.int .u8 0), (.int .u8 0), (.int .u8 0), (.int .u8 0), (.int .u8 0), (.int .u8 0), (.int .u8 0), (.int .u8 0), (.int .u8 0), (.int .u8 0), (.int .u8 0), (.int .u8 0), (.int .u8 0), (.int .u8 0), (.int .u8 0), (.int .u8 0), (.int .u8 0), (.int .u8 0), (.int .u8 0), (.int .u8 0), (.int .u8 0), (.int .u8 0), (.int .u8 0), (.int .u8 0), (.int .u8 0), (.int .u8 0), (.int .u8 0), (.int .u8 0), (.int .u8 0), (.int .u8 0), (.int .u8 0), (.int .u8 0), (.int .u8 0), (.int .u8 0), (.int .u8 0), (.int .u8 0), (.int .u8 0), (.int .u8 0), (.int .u8 0), (.int .u8 0), (.int .u8 0), (.int .u8 0), (.int .u8 0), (.int .u8 0), (.int .u8 0), (.int .u8 0), (.int .u8 0), (.int .u8 0), (.int .u8 0), (.int .u8 0), (.int .u8 0), (.int .u8 0), (.int .u8 0), (.int .u8 0), (.int .u8 0), (.int .u8 0), (.int .u8 0)] h12 n13 fun v14 h15 n16 =>
  sFaddr 1 x3 fun v17 =>
  sLoad v17 h15 fun v18 =>
  sLen v18 fun v19 =>
  IR.run F31.b9 (CS Tryz.prog B) N (((fnO F31.res K0).blk 0 K).blk 1 R) (IR.run F31.b17 (CS Tryz.prog B) N (((fnO F31.res K0).blk 0 K).blk 1 R) R) (F31.fr x0 x1 x2 x3 x4 x5 x6 x7 x8 z9 v8 v7 v14 z13 x14 x15 x16 x17 v4 v19 (I 0) z21 z22) h15 n16) (K (F31.fr x0 x1 x2 x3 x4 x5 x6 x7 x8 z9 z10 z11 z12 z13 x14 x15 x16 x17 v4 z19 z20 z21 z22) h2 n3)) = .ok True) :
    IR.run F31.b4 (CS Tryz.prog B) N (fnO F31.res K0) K (F31.fr x0 x1 x2 x3 x4 x5 x6 x7 x8 x9 x10 x11 x12 x13 x14 x15 x16 x17 x18 x19 x20 x21 x22) h nx = .ok True := by
  rw [F31.b4, F31.g4_eq, F31.b5]
  refine loop_ok (fun m tm h nx => ∃ z9 z10 z11 z12 z13 z18 z19 z20 z21 z22, tm = (F31.fr x0 x1 x2 x3 x4 x5 x6 x7 x8 z9 z10 z11 z12 z13 x14 x15 x16 x17 z18 z19 z20 z21 z22) ∧ Inv m z9 h nx) ?_ hm ⟨_, _, _, _, _, _, _, _, _, _, rfl, hi⟩
  rintro m tm h nx R ⟨z9, z10, z11, z12, z13, z18, z19, z20, z21, z22, rfl, hi⟩ hR
  rw [F31.e4]
  exact step m z9 z10 z11 z12 z13 z18 z19 z20 z21 z22 h nx R hi fun m' w9 w10 w11 w12 w13 w18 w19 w20 w21 w22 h' nx' hlt hi' => hR m' _ h' nx' hlt ⟨_, _, _, _, _, _, _, _, _, _, rfl, hi'⟩
theorem F31.k18 {N B : Nat} {K0 : Kw Prop} {K : Ks Prop} (x0 x1 x2 x3 x4 x5 x6 x7 x8 x9 x10 x11 x12 x13 x14 x15 x16 x17 x18 x19 x20 x21 x22 : AV) (h : T Blk) (nx : Pa) : IR.run F31.b18 (CS Tryz.prog B) N (fnO F31.res K0) K (F31.fr x0 x1 x2 x3 x4 x5 x6 x7 x8 x9 x10 x11 x12 x13 x14 x15 x16 x17 x18 x19 x20 x21 x22) h nx =
  K0 (.tup [x9, (I 0)]) h nx := by kernel_rfl
theorem F31.e9 {N B : Nat} {K0 : Kw Prop} {E0 E1 : Ks Prop} {K R : Ks Prop} (x0 x1 x2 x3 x4 x5 x6 x7 x8 x9 x10 x11 x12 x13 x14 x15 x16 x17 x18 x19 x20 x21 x22 : AV) (h : T Blk) (nx : Pa) : IR.run F31.b11 (CS Tryz.prog B) N ((((fnO F31.res K0).blk 0 E0).blk 1 E1).blk 2 K) R (F31.fr x0 x1 x2 x3 x4 x5 x6 x7 x8 x9 x10 x11 x12 x13 x14 x15 x16 x17 x18 x19 x20 x21 x22) h nx =
  sBin .lss .int x20 x19 fun v1 =>
  sCond v1 (sAaddr 1 128 x10 x20 fun v2 =>
  sLoad v2 h fun v3 =>
  sConv .i64 v3 fun v4 =>
  sBin .gtr .int v4 x2 fun v5 =>
  sCond v5 (E1 (F31.fr x0 x1 x2 x3 x4 x5 x6 x7 x8 x9 x10 x11 x12 x20 x14 x15 x16 x17 x18 x19 x20 v1 v5) h nx) (sConv .u8 x2 fun v6 =>
  sAaddr 1 128 x10 x20 fun v7 =>
  sLoad v7 h fun v8 =>
  sBin .sub .int v6 v8 fun v9 =>
  sAaddr 1 128 x12 x20 fun v10 =>
  sStore 1 v10 v9 h nx fun v11 h12 n13 =>
  sBin .add .int x20 (I 1) fun v14 =>
  R (F31.fr x0 x1 x2 x3 x4 x5 x6 x7 x8 x9 x10 x11 x12 x20 x14 x15 x16 x17 x18 x19 v14 v1 v5) h12 n13)) (K (F31.fr x0 x1 x2 x3 x4 x5 x6 x7 x8 x9 x10 x11 x12 x13 x14 x15 x16 x17 x18 x19 x20 v1 x22) h nx) := by kernel_rfl
/-- loop 9: changes x13, x20, x21, x22; the invariant speaks of x20 -/
theorem F31.L9 {N B : Nat} {K0 : Kw Prop} {E0 E1 : Ks Prop} {K : Ks Prop} {x0 x1 x2 x3 x4 x5 x6 x7 x8 x9 x10 x11 x12 x13 x14 x15 x16 x17 x18 x19 x20 x21 x22 : AV} {h : T Blk} {nx : Pa} (Inv : Nat → AV → T Blk → Pa → Prop) {m : Nat} (hm : m < N) (hi : Inv m x20 h nx)
    (step : ∀ (m : Nat) (z13 z20 z21 z22 : AV) (h : T Blk) (nx : Pa) (R : Ks Prop), Inv m z20 h nx → (∀ (m' : Nat) (w13 w20 w21 w22 : AV) (h' : T Blk) (nx' : Pa), m' < m → Inv m' w20 h' nx' → R (F31.fr x0 x1 x2 x3 x4 x5 x6 x7 x8 x9 x10 x11 x12 w13 x14 x15 x16 x17 x18 x19 w20 w21 w22) h' nx' = .ok True) →
      (sBin .lss .int z20 x19 fun v1 =>
  sCond v1 (sAaddr 1 128 x10 z20 fun v2 =>
  sLoad v2 h fun v3 =>
  sConv .i64 v3 fun v4 =>
  sBin .gtr .int v4 x2 fun v5 =>
  sCond v5 (E1 (F31.fr x0 x1 x2 x3 x4 x5 x6 x7 x8 x9 x10 x11 x12 z20 x14 x15 x16 x17 x18 x19 z20 v1 v5) h nx) (sConv .u8 x2 fun v6 =>
  sAaddr 1 128 x10 z20 fun v7 =>
  sLoad v7 h fun v8 =>
  sBin .sub .int v6 v8 fun v9 =>
  sAaddr 1 128 x12 z20 fun v10 =>
  sStore 1 v10 v9 h nx fun v11 h12 n13 =>
  sBin .add .int z20 (I 1) fun v14 =>
  R (F31.fr x0 x1 x2 x3 x4 x5 x6 x7 x8 x9 x10 x11 x12 z20 x14 x15 x16 x17 x18 x19 v14 v1 v5) h12 n13)) (K (F31.fr x0 x1 x2 x3 x4 x5 x6 x7 x8 x9 x10 x11 x12 z13 x14 x15 x16 x17 x18 x19 z20 v1 z22) h nx)) = .ok True) :
    IR.run F31.b9 (CS Tryz.prog B) N (((fnO F31.res K0).blk 0 E0).blk 1 E1) K (F31.fr x0 x1 x2 x3 x4 x5 x6 x7 x8 x9 x10 x11 x12 x13 x14 x15 x16 x17 x18 x19 x20 x21 x22) h nx = .ok True := by
  rw [F31.b9, F31.g9_eq, F31.b10]
  refine loop_ok (fun m tm h nx => ∃ z13 z20 z21 z22, tm = (F31.fr x0 x1 x2 x3 x4 x5 x6 x7 x8 x9 x10 x11 x12 z13 x14 x15 x16 x17 x18 x19 z20 z21 z22) ∧ Inv m z20 h nx) ?_ hm ⟨_, _, _, _, rfl, hi⟩
  rintro m tm h nx R ⟨z13, z20, z21, z22, rfl, hi⟩ hR
  rw [F31.e9]
  exact step m z13 z20 z21 z22 h nx R hi fun m' w13 w20 w21 w22 h' nx' hlt hi' => hR m' _ h' nx' hlt ⟨_, _, _, _, rfl, hi'⟩
theorem F31.k17 {N B : Nat} {K0 : Kw Prop} {E0 E1 : Ks Prop} {K : Ks Prop} (x0 x1 x2 x3 x4 x5 x6 x7 x8 x9 x10 x11 x12 x13 x14 x15 x16 x17 x18 x19 x20 x21 x22 : AV) (h : T Blk) (nx : Pa) : IR.run F31.b17 (CS Tryz.prog B) N (((fnO F31.res K0).blk 0 E0).blk 1 E1) K (F31.fr x0 x1 x2 x3 x4 x5 x6 x7 x8 x9 x10 x11 x12 x13 x14 x15 x16 x17 x18 x19 x20 x21 x22) h nx =
  sLoadN 128 x12 h fun v1 =>
  sLook (.agg 128) (I 0) false x8 v1 h fun v2 =>
  sBin .mul .int x11 v2 fun v3 =>
  sBin .add .int x9 v3 fun v4 =>
  K (F31.fr x0 x1 x2 x3 x4 x5 x6 x7 x8 v4 x10 x11 x12 x13 x14 x15 x16 x17 x18 x19 x20 x21 x22) h nx := by kernel_rfl
theorem F31.k16 {N B : Nat} {K0 : Kw Prop} {E0 E1 E2 : Ks Prop} {K : Ks Prop} (x0 x1 x2 x3 x4 x5 x6 x7 x8 x9 x10 x11 x12 x13 x14 x15 x16 x17 x18 x19 x20 x21 x22 : AV) (h : T Blk) (nx : Pa) : IR.run F31.b16 (CS Tryz.prog B) N ((((fnO F31.res K0).blk 0 E0).blk 1 E1).blk 2 E2) K (F31.fr x0 x1 x2 x3 x4 x5 x6 x7 x8 x9 x10 x11 x12 x13 x14 x15 x16 x17 x18 x19 x20 x21 x22) h nx =
  sBin .add .int x20 (I 1) fun v1 =>
  K (F31.fr x0 x1 x2 x3 x4 x5 x6 x7 x8 x9 x10 x11 x12 x13 x14 x15 x16 x17 x18 x19 v1 x21 x22) h nx := by kernel_rfl
end Go.Ev
