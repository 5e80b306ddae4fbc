import Derived.Test.YtepfaegpjddehaaGreatDoorIrT
import Derived.KernelRfl
set_option linter.unusedSimpArgs false
set_option linter.unusedVariables false
namespace Go.Ev
open Go Go.Proofs
set_option maxRecDepth 100000
theorem F35.g2_eq (X3 : IR) (C : Calls Prop) (N : Nat) (O : Outs Prop) (K : Ks Prop) (x0 x1 x2 x3 x4 x5 x6 : AV) (h : T Blk) (nx : Pa) : IR.run (F35.g2 X3) C N O K (F35.fr x0 x1 x2 x3 x4 x5 x6) h nx =
  IR.run X3 C N (O.blk 0 K) K (F35.fr x0 x1 x2 x3 x4 x5 x6) h nx := by kernel_rfl
theorem F35.tab : T.get none (.of 35) tbl = some F35 := by kernel_rfl
theorem F35.go {N : Nat} {C : Calls Prop} {K0 : Kw Prop} (y0 y1 : AV) (h : T Blk) (nx : Pa) : callFn tbl N C (.of 35) [y0, y1] h nx K0 =
  sLen y0 fun v1 =>
  sLen y1 fun v2 =>
  sBin .neq .int v1 v2 fun v3 =>
  sCond v3 (K0 (.bool false) h nx) (IR.run F35.b2 C N (fnO F35.res K0) (IR.run F35.b9 C N (fnO F35.res K0) (retK F35.res K0)) (F35.fr y0 y1 (.bool false) (I 0) v3 .undef .undef) h nx) := by
  rw [callFn_of F35.tab]; kernel_rfl
theorem F35.e2 {N : Nat} {C : Calls Prop} {K0 : Kw Prop} {K R : Ks Prop} (x0 x1 x2 x3 x4 x5 x6 : AV) (h : T Blk) (nx : Pa) : IR.run F35.b4 C N ((fnO F35.res K0).blk 0 K) R (F35.fr x0 x1 x2 x3 x4 x5 x6) h nx =
  sLen x0 fun v1 =>
  sBin .lss .int x3 v1 fun v2 =>
  sCond v2 (sIaddr 1 x0 x3 fun v3 =>
  sLoad v3 h fun v4 =>
  sIaddr 1 x1 x3 fun v5 =>
  sLoad v5 h fun v6 =>
  sBin .neq .int v4 v6 fun v7 =>
  sCond v7 (K0 (.bool false) h nx) (sBin .add .int x3 (I 1) fun v8 =>
  R (F35.fr x0 x1 x2 v8 x4 v2 v7) h nx)) (K (F35.fr x0 x1 x2 x3 x4 v2 x6) h nx) := by kernel_rfl
theorem F35.L2 {N : Nat} {C : Calls Prop} {K0 : Kw Prop} {K : Ks Prop} {x0 x1 x2 x3 x4 x5 x6 : AV} {h : T Blk} {nx : Pa} (Inv : Nat → AV → T Blk → Pa → Prop) {m : Nat} (hm : m < N) (hi : Inv m x3 h nx)
    (step : ∀ (m : Nat) (z2 z3 z5 z6 : AV) (h : T Blk) (nx : Pa) (R : Ks Prop), Inv m z3 h nx → (∀ (m' : Nat) (w2 w3 w5 w6 : AV) (h' : T Blk) (nx' : Pa), m' < m → Inv m' w3 h' nx' → R (F35.fr x0 x1 w2 w3 x4 w5 w6) h' nx' = .ok True) →
      (sLen x0 fun v1 =>
  sBin .lss .int z3 v1 fun v2 =>
  sCond v2 (sIaddr 1 x0 z3 fun v3 =>
  sLoad v3 h fun v4 =>
  sIaddr 1 x1 z3 fun v5 =>
  sLoad v5 h fun v6 =>
  sBin .neq .int v4 v6 fun v7 =>
  sCond v7 (K0 (.bool false) h nx) (sBin .add .int z3 (I 1) fun v8 =>
  R (F35.fr x0 x1 z2 v8 x4 v2 v7) h nx)) (K (F35.fr x0 x1 z2 z3 x4 v2 z6) h nx)) = .ok True) :
    IR.run F35.b2 C N (fnO F35.res K0) K (F35.fr x0 x1 x2 x3 x4 x5 x6) h nx = .ok True := by
  rw [F35.b2, F35.g2_eq, F35.b3]
  refine loop_ok (fun m tm h nx => ∃ z2 z3 z5 z6, tm = (F35.fr x0 x1 z2 z3 x4 z5 z6) ∧ Inv m z3 h nx) ?_ hm ⟨_, _, _, _, rfl, hi⟩
  rintro m tm h nx R ⟨z2, z3, z5, z6, rfl, hi⟩ hR
  rw [F35.e2]
  exact step m z2 z3 z5 z6 h nx R hi fun m' w2 w3 w5 w6 h' nx' hlt hi' => hR m' _ h' nx' hlt ⟨_, _, _, _, rfl, hi'⟩
theorem F35.k9 {N : Nat} {C : Calls Prop} {K0 : Kw Prop} {K : Ks Prop} (x0 x1 x2 x3 x4 x5 x6 : AV) (h : T Blk) (nx : Pa) : IR.run F35.b9 C N (fnO F35.res K0) K (F35.fr x0 x1 x2 x3 x4 x5 x6) h nx =
  K0 (.bool true) h nx := by kernel_rfl
theorem F79.tab : T.get none (.of 79) tbl = some F79 := by kernel_rfl
theorem F79.go {N : Nat} {C : Calls Prop} {K0 : Kw Prop} (y0 : AV) (h : T Blk) (nx : Pa) : callFn tbl N C (.of 79) [y0] h nx K0 =
  sBin .eql (.nil .sl) y0 .nils fun v1 =>
  sCond v1 (K0 .nils h nx) (sBslice 1 0 [(I 0)] [] h nx fun v2 h3 n4 =>
  sApp 1 8 v2 y0 h3 n4 fun v5 h6 n7 =>
  K0 v5 h6 n7) := by
  rw [callFn_of F79.tab]; kernel_rfl
theorem F82.tab : T.get none (.of 82) tbl = some F82 := by kernel_rfl
theorem F82.go {N : Nat} {C : Calls Prop} {K0 : Kw Prop} (y0 y1 : AV) (h : T Blk) (nx : Pa) : callFn tbl N C (.of 82) [y0, y1] h nx K0 =
  sCond y0 (K0 y1 h nx) (K0 (I 0) h nx) := by
  rw [callFn_of F82.tab]; kernel_rfl
end Go.Ev
namespace Go.Ev
open Go Go.Proofs
set_option maxRecDepth 100000
theorem F89.g7_eq (X8 : IR) (C : Calls Prop) (N : Nat) (O : Outs Prop) (K : Ks Prop) (x0 x1 x2 x3 x4 x5 x6 x7 x8 x9 x10 x11 x12 x13 x14 x15 x16 x17 x18 x19 x20 x21 x22 x23 x24 x25 x26 x27 x28 x29 x30 x31 x32 x33 : AV) (h : T Blk) (nx : Pa) : IR.run (F89.g7 X8) C N O K (F89.fr x0 x1 x2 x3 x4 x5 x6 x7 x8 x9 x10 x11 x12 x13 x14 x15 x16 x17 x18 x19 x20 x21 x22 x23 x24 x25 x26 x27 x28 x29 x30 x31 x32 x33) h nx =
  IR.run X8 C N (O.blk 2 K) K (F89.fr x0 x1 x2 x3 x4 x5 x6 x7 x8 x9 x10 x11 x12 x13 x14 x15 x16 x17 x18 x19 x20 x21 x22 x23 x24 x25 x26 x27 x28 x29 x30 x31 x32 x33) h nx := by kernel_rfl
theorem F89.g1_eq (X2 : IR) (C : Calls Prop) (N : Nat) (O : Outs Prop) (K : Ks Prop) (x0 x1 x2 x3 x4 x5 x6 x7 x8 x9 x10 x11 x12 x13 x14 x15 x16 x17 x18 x19 x20 x21 x22 x23 x24 x25 x26 x27 x28 x29 x30 x31 x32 x33 : AV) (h : T Blk) (nx : Pa) : IR.run (F89.g1 X2) C N O K (F89.fr x0 x1 x2 x3 x4 x5 x6 x7 x8 x9 x10 x11 x12 x13 x14 x15 x16 x17 x18 x19 x20 x21 x22 x23 x24 x25 x26 x27 x28 x29 x30 x31 x32 x33) h nx =
  IR.run X2 C N (O.blk 0 K) K (F89.fr x0 x1 x2 x3 x4 x5 x6 x7 x8 x9 x10 x11 x12 x13 x14 x15 x16 x17 x18 x19 x20 x21 x22 x23 x24 x25 x26 x27 x28 x29 x30 x31 x32 x33) h nx := by kernel_rfl
theorem F89.g33_eq (X34 : IR) (C : Calls Prop) (N : Nat) (O : Outs Prop) (K : Ks Prop) (x0 x1 x2 x3 x4 x5 x6 x7 x8 x9 x10 x11 x12 x13 x14 x15 x16 x17 x18 x19 x20 x21 x22 x23 x24 x25 x26 x27 x28 x29 x30 x31 x32 x33 : AV) (h : T Blk) (nx : Pa) : IR.run (F89.g33 X34) C N O K (F89.fr x0 x1 x2 x3 x4 x5 x6 x7 x8 x9 x10 x11 x12 x13 x14 x15 x16 x17 x18 x19 x20 x21 x22 x23 x24 x25 x26 x27 x28 x29 x30 x31 x32 x33) h nx =
  IR.run X34 C N (O.blk 10 K) K (F89.fr x0 x1 x2 x3 x4 x5 x6 x7 x8 x9 x10 x11 x12 x13 x14 x15 x16 x17 x18 x19 x20 x21 x22 x23 x24 x25 x26 x27 x28 x29 x30 x31 x32 x33) h nx := by kernel_rfl
theorem F89.g27_eq (X28 : IR) (C : Calls Prop) (N : Nat) (O : Outs Prop) (K : Ks Prop) (x0 x1 x2 x3 x4 x5 x6 x7 x8 x9 x10 x11 x12 x13 x14 x15 x16 x17 x18 x19 x20 x21 x22 x23 x24 x25 x26 x27 x28 x29 x30 x31 x32 x33 : AV) (h : T Blk) (nx : Pa) : IR.run (F89.g27 X28) C N O K (F89.fr x0 x1 x2 x3 x4 x5 x6 x7 x8 x9 x10 x11 x12 x13 x14 x15 x16 x17 x18 x19 x20 x21 x22 x23 x24 x25 x26 x27 x28 x29 x30 x31 x32 x33) h nx =
  IR.run X28 C N (O.blk 8 K) K (F89.fr x0 x1 x2 x3 x4 x5 x6 x7 x8 x9 x10 x11 x12 x13 x14 x15 x16 x17 x18 x19 x20 x21 x22 x23 x24 x25 x26 x27 x28 x29 x30 x31 x32 x33) h nx := by kernel_rfl
theorem F89.g22_eq (X23 : IR) (C : Calls Prop) (N : Nat) (O : Outs Prop) (K : Ks Prop) (x0 x1 x2 x3 x4 x5 x6 x7 x8 x9 x10 x11 x12 x13 x14 x15 x16 x17 x18 x19 x20 x21 x22 x23 x24 x25 x26 x27 x28 x29 x30 x31 x32 x33 : AV) (h : T Blk) (nx : Pa) : IR.run (F89.g22 X23) C N O K (F89.fr x0 x1 x2 x3 x4 x5 x6 x7 x8 x9 x10 x11 x12 x13 x14 x15 x16 x17 x18 x19 x20 x21 x22 x23 x24 x25 x26 x27 x28 x29 x30 x31 x32 x33) h nx =
  IR.run X23 C N (O.blk 6 K) K (F89.fr x0 x1 x2 x3 x4 x5 x6 x7 x8 x9 x10 x11 x12 x13 x14 x15 x16 x17 x18 x19 x20 x21 x22 x23 x24 x25 x26 x27 x28 x29 x30 x31 x32 x33) h nx := by kernel_rfl
theorem F89.g16_eq (X17 : IR) (C : Calls Prop) (N : Nat) (O : Outs Prop) (K : Ks Prop) (x0 x1 x2 x3 x4 x5 x6 x7 x8 x9 x10 x11 x12 x13 x14 x15 x16 x17 x18 x19 x20 x21 x22 x23 x24 x25 x26 x27 x28 x29 x30 x31 x32 x33 : AV) (h : T Blk) (nx : Pa) : IR.run (F89.g16 X17) C N O K (F89.fr x0 x1 x2 x3 x4 x5 x6 x7 x8 x9 x10 x11 x12 x13 x14 x15 x16 x17 x18 x19 x20 x21 x22 x23 x24 x25 x26 x27 x28 x29 x30 x31 x32 x33) h nx =
  IR.run X17 C N (O.blk 4 K) K (F89.fr x0 x1 x2 x3 x4 x5 x6 x7 x8 x9 x10 x11 x12 x13 x14 x15 x16 x17 x18 x19 x20 x21 x22 x23 x24 x25 x26 x27 x28 x29 x30 x31 x32 x33) h nx := by kernel_rfl
theorem F89.tab : T.get none (.of 89) tbl = some F89 := by kernel_rfl
theorem F89.go {N : Nat} {C : Calls Prop} {K0 : Kw Prop} (y0 y1 y2 y3 : AV) (h : T Blk) (nx : Pa) : callFn tbl N C (.of 89) [y0, y1, y2, y3] h nx K0 =
  sBox y0 h nx fun v1 h2 n3 =>
  sFaddr 0 v1 fun v4 =>
  sLoad v4 h2 fun v5 =>
  sMkslice 1 24 [.nils] v5 v5 h2 n3 fun v6 h7 n8 =>
  sFaddr 1 v1 fun v9 =>
  sLoad v9 h7 fun v10 =>
  sLen v10 fun v11 =>
  IR.run F89.b1 C N (fnO F89.res K0) (IR.run F89.b15 C N (fnO F89.res K0) (retK F89.res K0)) (F89.fr y0 y1 y2 y3 v1 .nilm v6 .undef .undef .undef .undef .undef .undef .undef .undef .undef .undef .undef v10 v11 (I 0) .undef .undef .undef .undef .undef .undef .undef .undef .undef .undef .undef .undef .undef) h7 n8 := by
  rw [callFn_of F89.tab]; kernel_rfl
theorem F89.e1 {N : Nat} {C : Calls Prop} {K0 : Kw Prop} {K R : Ks Prop} (x0 x1 x2 x3 x4 x5 x6 x7 x8 x9 x10 x11 x12 x13 x14 x15 x16 x17 x18 x19 x20 x21 x22 x23 x24 x25 x26 x27 x28 x29 x30 x31 x32 x33 : AV) (h : T Blk) (nx : Pa) : IR.run F89.b3 C N ((fnO F89.res K0).blk 0 K) R (F89.fr x0 x1 x2 x3 x4 x5 x6 x7 x8 x9 x10 x11 x12 x13 x14 x15 x16 x17 x18 x19 x20 x21 x22 x23 x24 x25 x26 x27 x28 x29 x30 x31 x32 x33) h nx =
  sBin .lss .int x20 x19 fun v1 =>
  sCond v1 (sIaddr 1 x18 x20 fun v2 =>
  sLoad v2 h fun v3 =>
  sLen v3 fun v4 =>
  IR.run F89.b7 C N (((fnO F89.res K0).blk 0 K).blk 1 (IR.run F89.b14 C N ((fnO F89.res K0).blk 0 K) R)) (IR.run F89.b14 C N ((fnO F89.res K0).blk 0 K) R) (F89.fr x0 x1 x2 x3 x4 x5 x6 x20 v3 x9 x10 x11 x12 x13 x14 x15 x16 x17 x18 x19 x20 v1 v3 v4 (I 0) x25 x26 x27 x28 x29 x30 x31 x32 x33) h nx) (K (F89.fr x0 x1 x2 x3 x4 x5 x6 x7 x8 x9 x10 x11 x12 x13 x14 x15 x16 x17 x18 x19 x20 v1 x22 x23 x24 x25 x26 x27 x28 x29 x30 x31 x32 x33) h nx) := by kernel_rfl
theorem F89.L1 {N : Nat} {C : Calls Prop} {K0 : Kw Prop} {K : Ks Prop} {x0 x1 x2 x3 x4 x5 x6 x7 x8 x9 x10 x11 x12 x13 x14 x15 x16 x17 x18 x19 x20 x21 x22 x23 x24 x25 x26 x27 x28 x29 x30 x31 x32 x33 : AV} {h : T Blk} {nx : Pa} (Inv : Nat → AV → T Blk → Pa → Prop) {m : Nat} (hm : m < N) (hi : Inv m x20 h nx)
    (step : ∀ (m : Nat) (z7 z8 z9 z20 z21 z22 z23 z24 z25 : AV) (h : T Blk) (nx : Pa) (R : Ks Prop), Inv m z20 h nx → (∀ (m' : Nat) (w7 w8 w9 w20 w21 w22 w23 w24 w25 : AV) (h' : T Blk) (nx' : Pa), m' < m → Inv m' w20 h' nx' → R (F89.fr x0 x1 x2 x3 x4 x5 x6 w7 w8 w9 x10 x11 x12 x13 x14 x15 x16 x17 x18 x19 w20 w21 w22 w23 w24 w25 x26 x27 x28 x29 x30 x31 x32 x33) h' nx' = .ok True) →
      (sBin .lss .int z20 x19 fun v1 =>
  sCond v1 (sIaddr 1 x18 z20 fun v2 =>
  sLoad v2 h fun v3 =>
  sLen v3 fun v4 =>
  IR.run F89.b7 C N (((fnO F89.res K0).blk 0 K).blk 1 (IR.run F89.b14 C N ((fnO F89.res K0).blk 0 K) R)) (IR.run F89.b14 C N ((fnO F89.res K0).blk 0 K) R) (F89.fr x0 x1 x2 x3 x4 x5 x6 z20 v3 z9 x10 x11 x12 x13 x14 x15 x16 x17 x18 x19 z20 v1 v3 v4 (I 0) z25 x26 x27 x28 x29 x30 x31 x32 x33) h nx) (K (F89.fr x0 x1 x2 x3 x4 x5 x6 z7 z8 z9 x10 x11 x12 x13 x14 x15 x16 x17 x18 x19 z20 v1 z22 z23 z24 z25 x26 x27 x28 x29 x30 x31 x32 x33) h nx)) = .ok True) :
    IR.run F89.b1 C N (fnO F89.res K0) K (F89.fr x0 x1 x2 x3 x4 x5 x6 x7 x8 x9 x10 x11 x12 x13 x14 x15 x16 x17 x18 x19 x20 x21 x22 x23 x24 x25 x26 x27 x28 x29 x30 x31 x32 x33) h nx = .ok True := by
  rw [F89.b1, F89.g1_eq, F89.b2]
  refine loop_ok (fun m tm h nx => ∃ z7 z8 z9 z20 z21 z22 z23 z24 z25, tm = (F89.fr x0 x1 x2 x3 x4 x5 x6 z7 z8 z9 x10 x11 x12 x13 x14 x15 x16 x17 x18 x19 z20 z21 z22 z23 z24 z25 x26 x27 x28 x29 x30 x31 x32 x33) ∧ Inv m z20 h nx) ?_ hm ⟨_, _, _, _, _, _, _, _, _, rfl, hi⟩
  rintro m tm h nx R ⟨z7, z8, z9, z20, z21, z22, z23, z24, z25, rfl, hi⟩ hR
  rw [F89.e1]
  exact step m z7 z8 z9 z20 z21 z22 z23 z24 z25 h nx R hi fun m' w7 w8 w9 w20 w21 w22 w23 w24 w25 h' nx' hlt hi' => hR m' _ h' nx' hlt ⟨_, _, _, _, _, _, _, _, _, rfl, hi'⟩
theorem F89.k15 {N : Nat} {C : Calls Prop} {K0 : Kw Prop} {K : Ks Prop} (x0 x1 x2 x3 x4 x5 x6 x7 x8 x9 x10 x11 x12 x13 x14 x15 x16 x17 x18 x19 x20 x21 x22 x23 x24 x25 x26 x27 x28 x29 x30 x31 x32 x33 : AV) (h : T Blk) (nx : Pa) : IR.run F89.b15 C N (fnO F89.res K0) K (F89.fr x0 x1 x2 x3 x4 x5 x6 x7 x8 x9 x10 x11 x12 x13 x14 x15 x16 x17 x18 x19 x20 x21 x22 x23 x24 x25 x26 x27 x28 x29 x30 x31 x32 x33) h nx =
  sMkmap h nx fun v1 h2 n3 =>
  sBuild [(.int .u8 0), (.int .u8 0), (.int .u8 0), (.int .u8 0), (.int .u8 0), (.int .u8 0), (.int .u8 0), (.int .u8 0), (.int .u8 0), (.int .u8 0), (.int .u8 0), (.int .u8 0), (.int .u8 0), (.int .u8 0), (.int .u8 0), (.int .u8 0), (.int .u8 0), (.int .u8 0), (.int .u8 0), (.int .u8 0), (.int .u8 0), (.int .u8 0), (.int .u8 0), (.int .u8 0), (.int .u8 0), (.int .u8 0), (.int .u8 0), (.int .u8 0), (.int .u8 0), (.int .u8 0), (.int .u8 0), (.int .u8 0), (.int .u8 0), (.int .u8 0), (.int .u8 0), (.int .u8 0), (.int .u8 0), (.int .u8 0), (.int .u8 0), (.int .u8 0), (.int .u8 0), (.int .u8 0), (.int .u8 0), (.int .u8 0), (.int .u8 0), (.int .u8 0), (.int .u8 0), (.int .u8 0), (.int .u8 0), (.int .u8 0), (.int .u8 0), (.int .u8 0), (.int .u8 0), (.int .u8 0), (.int .u8 0), (.int .u8 0), (.int .u8 0), (.int .u8 0), (.int .u8 0), (.int .u8 0), (.int .u8 0), (.int .u8 0), (.int .u8 0), (.int .u8 0), (.int .u8 0), (.int .u8 0), (.int .u8 0), (.int .u8 0), (.int .u8 0), (.int .u8 0), (.int .u8 0), (.int .u8 0), (.int .u8 0), (.int .u8 0), (.int .u8 0), (.int .u8 0), (.int .u8 0), (.int .u8 0), (.int .u8 0), (.int .u8 0), (.int .u8 0), (.int .u8 0), (.int .u8 0), (.int .u8 0), (.int .u8 0), (.int .u8 0), (.int .u8 0), (.int .u8 0), (.int .u8 0), (.int .u8 0), (.int .u8 0), (.int .u8 0), (.int .u8 0), (.int .u8 0), (.int .u8 0), (.int .u8 0), (.int .u8 0), (.int .u8 0), (.int .u8 0), (.int .u8 0), (.int .u8 0), (.int .u8 0), (.int .u8 0), (.int .u8 0), (.int .u8 0), (.int .u8 0), (.int .u8 0), (.int .u8 0), (.int .u8 0), (.int .u8 0), (.int .u8 0), (.int .u8 0), (.int .u8 0), (.int .u8 0), (.int .u8 0), (.int .u8 0), (.int .u8 0), (.int .u8 0), (.int .u8 0), (.int .u8 0), (.int .u8 0), (.int .u8 0), (.int .u8 0), (.int .u8 0), (.int .u8 0), (.int .u8 0), (.int .u8 0), (.int .u8 0)] [] fun v4 =>
  sMapup (.agg 128) v1 v4 (I 1) h2 n3 fun v5 h6 n7 =>
  IR.run F89.b16 C N (fnO F89.res K0) (IR.run F89.b44 C N (fnO F89.res K0) K) (F89.fr x0 x1 x2 x3 x4 x5 x6 x7 x8 x9 v1 x1 x12 x13 x14 x15 x16 x17 x18 x19 x20 x21 x22 x23 x24 x25 x26 x27 x28 x29 x30 x31 x32 x33) h6 n7 := by kernel_rfl
theorem F89.k14 {N : Nat} {C : Calls Prop} {K0 : Kw Prop} {E0 : Ks Prop} {K : Ks Prop} (x0 x1 x2 x3 x4 x5 x6 x7 x8 x9 x10 x11 x12 x13 x14 x15 x16 x17 x18 x19 x20 x21 x22 x23 x24 x25 x26 x27 x28 x29 x30 x31 x32 x33 : AV) (h : T Blk) (nx : Pa) : IR.run F89.b14 C N ((fnO F89.res K0).blk 0 E0) K (F89.fr x0 x1 x2 x3 x4 x5 x6 x7 x8 x9 x10 x11 x12 x13 x14 x15 x16 x17 x18 x19 x20 x21 x22 x23 x24 x25 x26 x27 x28 x29 x30 x31 x32 x33) h nx =
  sBin .add .int x20 (I 1) fun v1 =>
  K (F89.fr x0 x1 x2 x3 x4 x5 x6 x7 x8 x9 x10 x11 x12 x13 x14 x15 x16 x17 x18 x19 v1 x21 x22 x23 x24 x25 x26 x27 x28 x29 x30 x31 x32 x33) h nx := by kernel_rfl
theorem F89.e7 {N : Nat} {C : Calls Prop} {K0 : Kw Prop} {E0 E1 : Ks Prop} {K R : Ks Prop} (x0 x1 x2 x3 x4 x5 x6 x7 x8 x9 x10 x11 x12 x13 x14 x15 x16 x17 x18 x19 x20 x21 x22 x23 x24 x25 x26 x27 x28 x29 x30 x31 x32 x33 : AV) (h : T Blk) (nx : Pa) : IR.run F89.b9 C N ((((fnO F89.res K0).blk 0 E0).blk 1 E1).blk 2 K) R (F89.fr x0 x1 x2 x3 x4 x5 x6 x7 x8 x9 x10 x11 x12 x13 x14 x15 x16 x17 x18 x19 x20 x21 x22 x23 x24 x25 x26 x27 x28 x29 x30 x31 x32 x33) h nx =
  sBin .lss .int x24 x23 fun v1 =>
  sCond v1 (sIaddr 1 x22 x24 fun v2 =>
  sLoad v2 h fun v3 =>
  sIaddr 1 x6 v3 fun v4 =>
  sLoad v4 h fun v5 =>
  sBslice 1 1 [(I 0)] [(0, 1, x7)] h nx fun v6 h7 n8 =>
  sApp 1 8 v5 v6 h7 n8 fun v9 h10 n11 =>
  sIaddr 1 x6 v3 fun v12 =>
  sStore 1 v12 v9 h10 n11 fun v13 h14 n15 =>
  sBin .add .int x24 (I 1) fun v16 =>
  R (F89.fr x0 x1 x2 x3 x4 x5 x6 x7 x8 v3 x10 x11 x12 x13 x14 x15 x16 x17 x18 x19 x20 x21 x22 x23 v16 v1 x26 x27 x28 x29 x30 x31 x32 x33) h14 n15) (K (F89.fr x0 x1 x2 x3 x4 x5 x6 x7 x8 x9 x10 x11 x12 x13 x14 x15 x16 x17 x18 x19 x20 x21 x22 x23 x24 v1 x26 x27 x28 x29 x30 x31 x32 x33) h nx) := by kernel_rfl
theorem F89.L7 {N : Nat} {C : Calls Prop} {K0 : Kw Prop} {E0 E1 : Ks Prop} {K : Ks Prop} {x0 x1 x2 x3 x4 x5 x6 x7 x8 x9 x10 x11 x12 x13 x14 x15 x16 x17 x18 x19 x20 x21 x22 x23 x24 x25 x26 x27 x28 x29 x30 x31 x32 x33 : AV} {h : T Blk} {nx : Pa} (Inv : Nat → AV → T Blk → Pa → Prop) {m : Nat} (hm : m < N) (hi : Inv m x24 h nx)
    (step : ∀ (m : Nat) (z9 z24 z25 : AV) (h : T Blk) (nx : Pa) (R : Ks Prop), Inv m z24 h nx → (∀ (m' : Nat) (w9 w24 w25 : AV) (h' : T Blk) (nx' : Pa), m' < m → Inv m' w24 h' nx' → R (F89.fr x0 x1 x2 x3 x4 x5 x6 x7 x8 w9 x10 x11 x12 x13 x14 x15 x16 x17 x18 x19 x20 x21 x22 x23 w24 w25 x26 x27 x28 x29 x30 x31 x32 x33) h' nx' = .ok True) →
      (sBin .lss .int z24 x23 fun v1 =>
  sCond v1 (sIaddr 1 x22 z24 fun v2 =>
  sLoad v2 h fun v3 =>
  sIaddr 1 x6 v3 fun v4 =>
  sLoad v4 h fun v5 =>
  sBslice 1 1 [(I 0)] [(0, 1, x7)] h nx fun v6 h7 n8 =>
  sApp 1 8 v5 v6 h7 n8 fun v9 h10 n11 =>
  sIaddr 1 x6 v3 fun v12 =>
  sStore 1 v12 v9 h10 n11 fun v13 h14 n15 =>
  sBin .add .int z24 (I 1) fun v16 =>
  R (F89.fr x0 x1 x2 x3 x4 x5 x6 x7 x8 v3 x10 x11 x12 x13 x14 x15 x16 x17 x18 x19 x20 x21 x22 x23 v16 v1 x26 x27 x28 x29 x30 x31 x32 x33) h14 n15) (K (F89.fr x0 x1 x2 x3 x4 x5 x6 x7 x8 z9 x10 x11 x12 x13 x14 x15 x16 x17 x18 x19 x20 x21 x22 x23 z24 v1 x26 x27 x28 x29 x30 x31 x32 x33) h nx)) = .ok True) :
    IR.run F89.b7 C N (((fnO F89.res K0).blk 0 E0).blk 1 E1) K (F89.fr x0 x1 x2 x3 x4 x5 x6 x7 x8 x9 x10 x11 x12 x13 x14 x15 x16 x17 x18 x19 x20 x21 x22 x23 x24 x25 x26 x27 x28 x29 x30 x31 x32 x33) h nx = .ok True := by
  rw [F89.b7, F89.g7_eq, F89.b8]
  refine loop_ok (fun m tm h nx => ∃ z9 z24 z25, tm = (F89.fr x0 x1 x2 x3 x4 x5 x6 x7 x8 z9 x10 x11 x12 x13 x14 x15 x16 x17 x18 x19 x20 x21 x22 x23 z24 z25 x26 x27 x28 x29 x30 x31 x32 x33) ∧ Inv m z24 h nx) ?_ hm ⟨_, _, _, rfl, hi⟩
  rintro m tm h nx R ⟨z9, z24, z25, rfl, hi⟩ hR
  rw [F89.e7]
  exact step m z9 z24 z25 h nx R hi fun m' w9 w24 w25 h' nx' hlt hi' => hR m' _ h' nx' hlt ⟨_, _, _, rfl, hi'⟩
theorem F89.e16 {N : Nat} {C : Calls Prop} {K0 : Kw Prop} {K R : Ks Prop} (x0 x1 x2 x3 x4 x5 x6 x7 x8 x9 x10 x11 x12 x13 x14 x15 x16 x17 x18 x19 x20 x21 x22 x23 x24 x25 x26 x27 x28 x29 x30 x31 x32 x33 : AV) (h : T Blk) (nx : Pa) : IR.run F89.b18 C N ((fnO F89.res K0).blk 4 K) R (F89.fr x0 x1 x2 x3 x4 x5 x6 x7 x8 x9 x10 x11 x12 x13 x14 x15 x16 x17 x18 x19 x20 x21 x22 x23 x24 x25 x26 x27 x28 x29 x30 x31 x32 x33) h nx =
  sBin .lss .int x11 x2 fun v1 =>
  sCond v1 (sMkmap h nx fun v2 h3 n4 =>
  sRange x10 h3 n4 fun v5 h6 n7 =>
  IR.run F89.b22 C N (((fnO F89.res K0).blk 4 K).blk 5 (IR.run F89.b43 C N ((fnO F89.res K0).blk 4 K) R)) (IR.run F89.b42 C N (((fnO F89.res K0).blk 4 K).blk 5 (IR.run F89.b43 C N ((fnO F89.res K0).blk 4 K) R)) (IR.run F89.b43 C N ((fnO F89.res K0).blk 4 K) R)) (F89.fr x0 x1 x2 x3 x4 x5 x6 x7 x8 x9 x10 x11 v2 x13 x14 x15 x16 x17 x18 x19 x20 x21 x22 x23 x24 x25 v1 v5 x28 x29 x30 x31 x32 x33) h6 n7) (K (F89.fr x0 x1 x2 x3 x4 x5 x6 x7 x8 x9 x10 x11 x12 x13 x14 x15 x16 x17 x18 x19 x20 x21 x22 x23 x24 x25 v1 x27 x28 x29 x30 x31 x32 x33) h nx) := by kernel_rfl
theorem F89.L16 {N : Nat} {C : Calls Prop} {K0 : Kw Prop} {K : Ks Prop} {x0 x1 x2 x3 x4 x5 x6 x7 x8 x9 x10 x11 x12 x13 x14 x15 x16 x17 x18 x19 x20 x21 x22 x23 x24 x25 x26 x27 x28 x29 x30 x31 x32 x33 : AV} {h : T Blk} {nx : Pa} (Inv : Nat → AV → AV → T Blk → Pa → Prop) {m : Nat} (hm : m < N) (hi : Inv m x10 x11 h nx)
    (step : ∀ (m : Nat) (z10 z11 z12 z13 z14 z15 z16 z17 z26 z27 z28 z29 z30 z31 z32 z33 : AV) (h : T Blk) (nx : Pa) (R : Ks Prop), Inv m z10 z11 h nx → (∀ (m' : Nat) (w10 w11 w12 w13 w14 w15 w16 w17 w26 w27 w28 w29 w30 w31 w32 w33 : AV) (h' : T Blk) (nx' : Pa), m' < m → Inv m' w10 w11 h' nx' → R (F89.fr x0 x1 x2 x3 x4 x5 x6 x7 x8 x9 w10 w11 w12 w13 w14 w15 w16 w17 x18 x19 x20 x21 x22 x23 x24 x25 w26 w27 w28 w29 w30 w31 w32 w33) h' nx' = .ok True) →
      (sBin .lss .int z11 x2 fun v1 =>
  sCond v1 (sMkmap h nx fun v2 h3 n4 =>
  sRange z10 h3 n4 fun v5 h6 n7 =>
  IR.run F89.b22 C N (((fnO F89.res K0).blk 4 K).blk 5 (IR.run F89.b43 C N ((fnO F89.res K0).blk 4 K) R)) (IR.run F89.b42 C N (((fnO F89.res K0).blk 4 K).blk 5 (IR.run F89.b43 C N ((fnO F89.res K0).blk 4 K) R)) (IR.run F89.b43 C N ((fnO F89.res K0).blk 4 K) R)) (F89.fr x0 x1 x2 x3 x4 x5 x6 x7 x8 x9 z10 z11 v2 z13 z14 z15 z16 z17 x18 x19 x20 x21 x22 x23 x24 x25 v1 v5 z28 z29 z30 z31 z32 z33) h6 n7) (K (F89.fr x0 x1 x2 x3 x4 x5 x6 x7 x8 x9 z10 z11 z12 z13 z14 z15 z16 z17 x18 x19 x20 x21 x22 x23 x24 x25 v1 z27 z28 z29 z30 z31 z32 z33) h nx)) = .ok True) :
    IR.run F89.b16 C N (fnO F89.res K0) K (F89.fr x0 x1 x2 x3 x4 x5 x6 x7 x8 x9 x10 x11 x12 x13 x14 x15 x16 x17 x18 x19 x20 x21 x22 x23 x24 x25 x26 x27 x28 x29 x30 x31 x32 x33) h nx = .ok True := by
  rw [F89.b16, F89.g16_eq, F89.b17]
  refine loop_ok (fun m tm h nx => ∃ z10 z11 z12 z13 z14 z15 z16 z17 z26 z27 z28 z29 z30 z31 z32 z33, tm = (F89.fr x0 x1 x2 x3 x4 x5 x6 x7 x8 x9 z10 z11 z12 z13 z14 z15 z16 z17 x18 x19 x20 x21 x22 x23 x24 x25 z26 z27 z28 z29 z30 z31 z32 z33) ∧ Inv m z10 z11 h nx) ?_ hm ⟨_, _, _, _, _, _, _, _, _, _, _, _, _, _, _, _, rfl, hi⟩
  rintro m tm h nx R ⟨z10, z11, z12, z13, z14, z15, z16, z17, z26, z27, z28, z29, z30, z31, z32, z33, rfl, hi⟩ hR
  rw [F89.e16]
  exact step m z10 z11 z12 z13 z14 z15 z16 z17 z26 z27 z28 z29 z30 z31 z32 z33 h nx R hi fun m' w10 w11 w12 w13 w14 w15 w16 w17 w26 w27 w28 w29 w30 w31 w32 w33 h' nx' hlt hi' => hR m' _ h' nx' hlt ⟨_, _, _, _, _, _, _, _, _, _, _, _, _, _, _, _, rfl, hi'⟩
theorem F89.k44 {N : Nat} {C : Calls Prop} {K0 : Kw Prop} {K : Ks Prop} (x0 x1 x2 x3 x4 x5 x6 x7 x8 x9 x10 x11 x12 x13 x14 x15 x16 x17 x18 x19 x20 x21 x22 x23 x24 x25 x26 x27 x28 x29 x30 x31 x32 x33 : AV) (h : T Blk) (nx : Pa) : IR.run F89.b44 C N (fnO F89.res K0) K (F89.fr x0 x1 x2 x3 x4 x5 x6 x7 x8 x9 x10 x11 x12 x13 x14 x15 x16 x17 x18 x19 x20 x21 x22 x23 x24 x25 x26 x27 x28 x29 x30 x31 x32 x33) h nx =
  K0 x10 h nx := by kernel_rfl
theorem F89.k43 {N : Nat} {C : Calls Prop} {K0 : Kw Prop} {E4 : Ks Prop} {K : Ks Prop} (x0 x1 x2 x3 x4 x5 x6 x7 x8 x9 x10 x11 x12 x13 x14 x15 x16 x17 x18 x19 x20 x21 x22 x23 x24 x25 x26 x27 x28 x29 x30 x31 x32 x33 : AV) (h : T Blk) (nx : Pa) : IR.run F89.b43 C N ((fnO F89.res K0).blk 4 E4) K (F89.fr x0 x1 x2 x3 x4 x5 x6 x7 x8 x9 x10 x11 x12 x13 x14 x15 x16 x17 x18 x19 x20 x21 x22 x23 x24 x25 x26 x27 x28 x29 x30 x31 x32 x33) h nx =
  sBin .add .int x11 (I 1) fun v1 =>
  K (F89.fr x0 x1 x2 x3 x4 x5 x6 x7 x8 x9 x10 v1 x12 x13 x14 x15 x16 x17 x18 x19 x20 x21 x22 x23 x24 x25 x26 x27 x28 x29 x30 x31 x32 x33) h nx := by kernel_rfl
theorem F89.e22 {N : Nat} {C : Calls Prop} {K0 : Kw Prop} {E4 E5 : Ks Prop} {K R : Ks Prop} (x0 x1 x2 x3 x4 x5 x6 x7 x8 x9 x10 x11 x12 x13 x14 x15 x16 x17 x18 x19 x20 x21 x22 x23 x24 x25 x26 x27 x28 x29 x30 x31 x32 x33 : AV) (h : T Blk) (nx : Pa) : IR.run F89.b24 C N ((((fnO F89.res K0).blk 4 E4).blk 5 E5).blk 6 K) R (F89.fr x0 x1 x2 x3 x4 x5 x6 x7 x8 x9 x10 x11 x12 x13 x14 x15 x16 x17 x18 x19 x20 x21 x22 x23 x24 x25 x26 x27 x28 x29 x30 x31 x32 x33) h nx =
  sNext C x27 h nx fun v1 h2 n3 =>
  sExt 0 v1 fun v4 =>
  sCond v4 (sEntry x27 h2 fun v5 =>
  sExt 0 v5 fun v6 =>
  sExt 1 v5 fun v7 =>
  sAlloc [(.int .u8 0), (.int .u8 0), (.int .u8 0), (.int .u8 0), (.int .u8 0), (.int .u8 0), (.int .u8 0), (.int .u8 0), (.int .u8 0), (.int .u8 0), (.int .u8 0), (.int .u8 0), (.int .u8 0), (.int .u8 0), (.int .u8 0), (.int .u8 0), (.int .u8 0), (.int .u8 0), (.int .u8 0), (.int .u8 0), (.int .u8 0), (.int .u8 0), (.int .u8 0), (.int .u8 0), (.int .u8 0), (.int .u8 0), (.int .u8 0), (.int .u8 0), (.int .u8 0), (.int .u8 0), (.int .u8 0), (.int .u8 0), (.int .u8 0), (.int .u8 0), (.int .u8 0), (.int .u8 0), (.int .u8 0), (.int .u8 0), (.int .u8 0), (.int .u8 0), (.int .u8 0), (.int .u8 0), (.int .u8 0), (.int .u8 0), (.int .u8 0), (.int .u8 0), (.int .u8 0), (.int .u8 0), (.int .u8 0), (.int .u8 0), (.int .u8 0), (.int .u8 0), (.int .u8 0), (.int .u8 0), (.int .u8 0), (.int .u8 0), (.int .u8 0), (.int .u8 0), (.int .u8 0), (.int .u8 0), (.int .u8 0), (.int .u8 0), (.int .u8 0), (.int .u8 0), (.int .u8 0), (.int .u8 0), (.int .u8 0), (.int .u8 0), (.int .u8 0), (.int .u8 0), (.int .u8 0), (.int .u8 0), (.int .u8 0), (.int .u8 0), (.int .u8 0), (.int .u8 0), (.int .u8 0), (.int .u8 0), (.int .u8 0), (.int .u8 0), (.int .u8 0), (.int .u8 0), (.int .u8 0), (.int .u8 0), (.int .u8 0), (.int .u8 0), (.int .u8 0), (.int .u8 0), (.int .u8 0), (.int .u8 0), (.int .u8 0), (.int .u8 0), (.int .u8 0), (.int .u8 0), (.int .u8 0), (.int .u8 0), (.int .u8 0), (.int .u8 0), (.int .u8 0), (.int .u8 0), (.int .u8 0), (.int .u8 0), (.int .u8 0), (.int .u8 0), (.int .u8 0), (.int .u8 0), (.int .u8 0), (.int .u8 0), (.int .u8 0), (.int .u8 0), (.int .u8 0), (.int .u8 0), (.int .u8 0), (.int .u8 0), (.int .u8 0), (.int .u8 0), (.int .u8 0), (.int .u8 0), (.int .u8 0), (.int .u8 0), (.int .u8 0), (.int .u8 0), (.int .u8 0), (.int .u8 0), (.int .u8 0), (.int .u8 0), (.int .u8 0), (.int .u8 0)] h2 n3 fun v8 h9 n10 =>
  sStore 128 v8 v6 h9 n10 fun v11 h12 n13 =>
  IR.run F89.b27 C N (((((fnO F89.res K0).blk 4 E4).blk 5 E5).blk 6 K).blk 7 R) R (F89.fr x0 x1 x2 x3 x4 x5 x6 x7 x8 x9 x10 x11 x12 v8 v7 (I 0) x16 x17 x18 x19 x20 x21 x22 x23 x24 x25 x26 x27 v4 x29 x30 x31 x32 x33) h12 n13) (K (F89.fr x0 x1 x2 x3 x4 x5 x6 x7 x8 x9 x10 x11 x12 x13 x14 x15 x16 x17 x18 x19 x20 x21 x22 x23 x24 x25 x26 x27 v4 x29 x30 x31 x32 x33) h2 n3) := by kernel_rfl
theorem F89.L22 {N : Nat} {C : Calls Prop} {K0 : Kw Prop} {E4 E5 : Ks Prop} {K : Ks Prop} {x0 x1 x2 x3 x4 x5 x6 x7 x8 x9 x10 x11 x12 x13 x14 x15 x16 x17 x18 x19 x20 x21 x22 x23 x24 x25 x26 x27 x28 x29 x30 x31 x32 x33 : AV} {h : T Blk} {nx : Pa} (Inv : Nat → T Blk → Pa → Prop) {m : Nat} (hm : m < N) (hi : Inv m  h nx)
    (step : ∀ (m : Nat) (z13 z14 z15 z16 z17 z28 z29 z30 z31 z32 z33 : AV) (h : T Blk) (nx : Pa) (R : Ks Prop), Inv m  h nx → (∀ (m' : Nat) (w13 w14 w15 w16 w17 w28 w29 w30 w31 w32 w33 : AV) (h' : T Blk) (nx' : Pa), m' < m → Inv m'  h' nx' → R (F89.fr x0 x1 x2 x3 x4 x5 x6 x7 x8 x9 x10 x11 x12 w13 w14 w15 w16 w17 x18 x19 x20 x21 x22 x23 x24 x25 x26 x27 w28 w29 w30 w31 w32 w33) h' nx' = .ok True) →
      (sNext C x27 h nx fun v1 h2 n3 =>
  sExt 0 v1 fun v4 =>
  sCond v4 (sEntry x27 h2 fun v5 =>
  sExt 0 v5 fun v6 =>
  sExt 1 v5 fun v7 =>
  sAlloc [(.int .u8 0), (.int .u8 0), (.int .u8 0), (.int .u8 0), (.int .u8 0), (.int .u8 0), (.int .u8 0), (.int .u8 0), (.int .u8 0), (.int .u8 0), (.int .u8 0), (.int .u8 0), (.int .u8 0), (.int .u8 0), (.int .u8 0), (.int .u8 0), (.int .u8 0), (.int .u8 0), (.int .u8 0), (.int .u8 0), (.int .u8 0), (.int .u8 0), (.int .u8 0), (.int .u8 0), (.int .u8 0), (.int .u8 0), (.int .u8 0), (.int .u8 0), (.int .u8 0), (.int .u8 0), (.int .u8 0), (.int .u8 0), (.int .u8 0), (.int .u8 0), (.int .u8 0), (.int .u8 0), (.int .u8 0), (.int .u8 0), (.int .u8 0), (.int .u8 0), (.int .u8 0), (.int .u8 0), (.int .u8 0), (.int .u8 0), (.int .u8 0), (.int .u8 0), (.int .u8 0), (.int .u8 0), (.int .u8 0), (.int .u8 0), (.int .u8 0), (.int .u8 0), (.int .u8 0), (.int .u8 0), (.int .u8 0), (.int .u8 0), (.int .u8 0), (.int .u8 0), (.int .u8 0), (.int .u8 0), (.int .u8 0), (.int .u8 0), (.int .u8 0), (.int .u8 0), (.int .u8 0), (.int .u8 0), (.int .u8 0), (.int .u8 0), (.int .u8 0), (.int .u8 0), (.int .u8 0), (.int .u8 0), (.int .u8 0), (.int .u8 0), (.int .u8 0), (.int .u8 0), (.int .u8 0), (.int .u8 0), (.int .u8 0), (.int .u8 0), (.int .u8 0), (.int .u8 0), (.int .u8 0), (.int .u8 0), (.int .u8 0), (.int .u8 0), (.int .u8 0), (.int .u8 0), (.int .u8 0), (.int .u8 0), (.int .u8 0), (.int .u8 0), (.int .u8 0), (.int .u8 0), (.int .u8 0), (.int .u8 0), (.int .u8 0), (.int .u8 0), (.int .u8 0), (.int .u8 0), (.int .u8 0), (.int .u8 0), (.int .u8 0), (.int .u8 0), (.int .u8 0), (.int .u8 0), (.int .u8 0), (.int .u8 0), (.int .u8 0), (.int .u8 0), (.int .u8 0), (.int .u8 0), (.int .u8 0), (.int .u8 0), (.int .u8 0), (.int .u8 0), (.int .u8 0), (.int .u8 0), (.int .u8 0), (.int .u8 0), (.int .u8 0), (.int .u8 0), (.int .u8 0), (.int .u8 0), (.int .u8 0), (.int .u8 0), (.int .u8 0), (.int .u8 0)] h2 n3 fun v8 h9 n10 =>
  sStore 128 v8 v6 h9 n10 fun v11 h12 n13 =>
  IR.run F89.b27 C N (((((fnO F89.res K0).blk 4 E4).blk 5 E5).blk 6 K).blk 7 R) R (F89.fr x0 x1 x2 x3 x4 x5 x6 x7 x8 x9 x10 x11 x12 v8 v7 (I 0) z16 z17 x18 x19 x20 x21 x22 x23 x24 x25 x26 x27 v4 z29 z30 z31 z32 z33) h12 n13) (K (F89.fr x0 x1 x2 x3 x4 x5 x6 x7 x8 x9 x10 x11 x12 z13 z14 z15 z16 z17 x18 x19 x20 x21 x22 x23 x24 x25 x26 x27 v4 z29 z30 z31 z32 z33) h2 n3)) = .ok True) :
    IR.run F89.b22 C N (((fnO F89.res K0).blk 4 E4).blk 5 E5) K (F89.fr x0 x1 x2 x3 x4 x5 x6 x7 x8 x9 x10 x11 x12 x13 x14 x15 x16 x17 x18 x19 x20 x21 x22 x23 x24 x25 x26 x27 x28 x29 x30 x31 x32 x33) h nx = .ok True := by
  rw [F89.b22, F89.g22_eq, F89.b23]
  refine loop_ok (fun m tm h nx => ∃ z13 z14 z15 z16 z17 z28 z29 z30 z31 z32 z33, tm = (F89.fr x0 x1 x2 x3 x4 x5 x6 x7 x8 x9 x10 x11 x12 z13 z14 z15 z16 z17 x18 x19 x20 x21 x22 x23 x24 x25 x26 x27 z28 z29 z30 z31 z32 z33) ∧ Inv m  h nx) ?_ hm ⟨_, _, _, _, _, _, _, _, _, _, _, rfl, hi⟩
  rintro m tm h nx R ⟨z13, z14, z15, z16, z17, z28, z29, z30, z31, z32, z33, rfl, hi⟩ hR
  rw [F89.e22]
  exact step m z13 z14 z15 z16 z17 z28 z29 z30 z31 z32 z33 h nx R hi fun m' w13 w14 w15 w16 w17 w28 w29 w30 w31 w32 w33 h' nx' hlt hi' => hR m' _ h' nx' hlt ⟨_, _, _, _, _, _, _, _, _, _, _, rfl, hi'⟩
theorem F89.k42 {N : Nat} {C : Calls Prop} {K0 : Kw Prop} {E4 E5 : Ks Prop} {K : Ks Prop} (x0 x1 x2 x3 x4 x5 x6 x7 x8 x9 x10 x11 x12 x13 x14 x15 x16 x17 x18 x19 x20 x21 x22 x23 x24 x25 x26 x27 x28 x29 x30 x31 x32 x33 : AV) (h : T Blk) (nx : Pa) : IR.run F89.b42 C N (((fnO F89.res K0).blk 4 E4).blk 5 E5) K (F89.fr x0 x1 x2 x3 x4 x5 x6 x7 x8 x9 x10 x11 x12 x13 x14 x15 x16 x17 x18 x19 x20 x21 x22 x23 x24 x25 x26 x27 x28 x29 x30 x31 x32 x33) h nx =
  K (F89.fr x0 x1 x2 x3 x4 x5 x6 x7 x8 x9 x12 x11 x12 x13 x14 x15 x16 x17 x18 x19 x20 x21 x22 x23 x24 x25 x26 x27 x28 x29 x30 x31 x32 x33) h nx := by kernel_rfl
theorem F89.e27 {N : Nat} {C : Calls Prop} {K0 : Kw Prop} {E4 E5 E6 E7 : Ks Prop} {K R : Ks Prop} (x0 x1 x2 x3 x4 x5 x6 x7 x8 x9 x10 x11 x12 x13 x14 x15 x16 x17 x18 x19 x20 x21 x22 x23 x24 x25 x26 x27 x28 x29 x30 x31 x32 x33 : AV) (h : T Blk) (nx : Pa) : IR.run F89.b29 C N ((((((fnO F89.res K0).blk 4 E4).blk 5 E5).blk 6 E6).blk 7 E7).blk 8 K) R (F89.fr x0 x1 x2 x3 x4 x5 x6 x7 x8 x9 x10 x11 x12 x13 x14 x15 x16 x17 x18 x19 x20 x21 x22 x23 x24 x25 x26 x27 x28 x29 x30 x31 x32 x33) h nx =
  sBin .leq .int x15 x3 fun v1 =>
  sCond v1 (sLoadN 128 x13 h fun v2 =>
  sAlloc [(.int .u8 0), (.int .u8 0), (.int .u8 0), (.int .u8 0), (.int .u8 0), (.int .u8 0), (.int .u8 0), (.int .u8 0), (.int .u8 0), (.int .u8 0), (.int .u8 0), (.int .u8 0), (.int .u8 0), (.int .u8 0), (.int .u8 0), (.int .u8 0), (.int .u8 0), (.int .u8 0), (.int .u8 0), (.int .u8 0), (.int .u8 0), (.int .u8 0), (.int .u8 0), (.int .u8 0), (.int .u8 0), (.int .u8 0), (.int .u8 0), (.int .u8 0), (.int .u8 0), (.int .u8 0), (.int .u8 0), (.int .u8 0), (.int .u8 0), (.int .u8 0), (.int .u8 0), (.int .u8 0), (.int .u8 0), (.int .u8 0), (.int .u8 0), (.int .u8 0), (.int .u8 0), (.int .u8 0), (.int .u8 0), (.int .u8 0), (.int .u8 0), (.int .u8 0), (.int .u8 0), (.int .u8 0), (.int .u8 0), (.int .u8 0), (.int .u8 0), (.int .u8 0), (.int .u8 0), (.int .u8 0), (.int .u8 0), (.int .u8 0), (.int .u8 0), (.int .u8 0), (.int .u8 0), (.int .u8 0), (.int .u8 0), (.int .u8 0), (.int .u8 0), (.int .u8 0), (.int .u8 0), (.int .u8 0), (.int .u8 0), (.int .u8 0), (.int .u8 0), (.int .u8 0), (.int .u8 0), (.int .u8 0), (.int .u8 0), (.int .u8 0), (.int .u8 0), (.int .u8 0), (.int .u8 0), (.int .u8 0), (.int .u8 0), (.int .u8 0), (.int .u8 0), (.int .u8 0), (.int .u8 0), (.int .u8 0), (.int .u8 0), (.int .u8 0), (.int .u8 0), (.int .u8 0), (.int .u8 0), (.int .u8 0), (.int .u8 0), (.int .u8 0), (.int .u8 0), (.int .u8 0), (.int .u8 0), (.int .u8 0), (.int .u8 0), (.int .u8 0), (.int .u8 0), (.int .u8 0), (.int .u8 0), (.int .u8 0), (.int .u8 0), (.int .u8 0), (.int .u8 0), (.int .u8 0), (.int .u8 0), (.int .u8 0), (.int .u8 0), (.int .u8 0), (.int .u8 0), (.int .u8 0), (.int .u8 0), (.int .u8 0), (.int .u8 0), (.int .u8 0), (.int .u8 0), (.int .u8 0), (.int .u8 0), (.int .u8 0), (.int .u8 0), (.int .u8 0), (.int .u8 0), (.int .u8 0), (.int .u8 0), (.int .u8 0), (.int .u8 0), (.int .u8 0)] h nx fun v3 h4 n5 =>
  sStore 128 v3 v2 h4 n5 fun v6 h7 n8 =>
  sIaddr 1 x6 x11 fun v9 =>
  sLoad v9 h7 fun v10 =>
  sLen v10 fun v11 =>
  IR.run F89.b33 C N (((((((fnO F89.res K0).blk 4 E4).blk 5 E5).blk 6 E6).blk 7 E7).blk 8 K).blk 9 (IR.run F89.b41 C N ((((((fnO F89.res K0).blk 4 E4).blk 5 E5).blk 6 E6).blk 7 E7).blk 8 K) R)) (IR.run F89.b40 C N (((((((fnO F89.res K0).blk 4 E4).blk 5 E5).blk 6 E6).blk 7 E7).blk 8 K).blk 9 (IR.run F89.b41 C N ((((((fnO F89.res K0).blk 4 E4).blk 5 E5).blk 6 E6).blk 7 E7).blk 8 K) R)) (IR.run F89.b41 C N ((((((fnO F89.res K0).blk 4 E4).blk 5 E5).blk 6 E6).blk 7 E7).blk 8 K) R)) (F89.fr x0 x1 x2 x3 x4 x5 x6 x7 x8 x9 x10 x11 x12 x13 x14 x15 v3 x17 x18 x19 x20 x21 x22 x23 x24 x25 x26 x27 x28 v1 v10 v11 (I 0) x33) h7 n8) (K (F89.fr x0 x1 x2 x3 x4 x5 x6 x7 x8 x9 x10 x11 x12 x13 x14 x15 x16 x17 x18 x19 x20 x21 x22 x23 x24 x25 x26 x27 x28 v1 x30 x31 x32 x33) h nx) := by kernel_rfl
theorem F89.L27 {N : Nat} {C : Calls Prop} {K0 : Kw Prop} {E4 E5 E6 E7 : Ks Prop} {K : Ks Prop} {x0 x1 x2 x3 x4 x5 x6 x7 x8 x9 x10 x11 x12 x13 x14 x15 x16 x17 x18 x19 x20 x21 x22 x23 x24 x25 x26 x27 x28 x29 x30 x31 x32 x33 : AV} {h : T Blk} {nx : Pa} (Inv : Nat → AV → T Blk → Pa → Prop) {m : Nat} (hm : m < N) (hi : Inv m x15 h nx)
    (step : ∀ (m : Nat) (z15 z16 z17 z29 z30 z31 z32 z33 : AV) (h : T Blk) (nx : Pa) (R : Ks Prop), Inv m z15 h nx → (∀ (m' : Nat) (w15 w16 w17 w29 w30 w31 w32 w33 : AV) (h' : T Blk) (nx' : Pa), m' < m → Inv m' w15 h' nx' → R (F89.fr x0 x1 x2 x3 x4 x5 x6 x7 x8 x9 x10 x11 x12 x13 x14 w15 w16 w17 x18 x19 x20 x21 x22 x23 x24 x25 x26 x27 x28 w29 w30 w31 w32 w33) h' nx' = .ok True) →
      (sBin .leq .int z15 x3 fun v1 =>
  sCond v1 (sLoadN 128 x13 h fun v2 =>
  sAlloc [(.int .u8 0), (.int .u8 0), (.int .u8 0), (.int .u8 0), (.int .u8 0), (.int .u8 0), (.int .u8 0), (.int .u8 0), (.int .u8 0), (.int .u8 0), (.int .u8 0), (.int .u8 0), (.int .u8 0), (.int .u8 0), (.int .u8 0), (.int .u8 0), (.int .u8 0), (.int .u8 0), (.int .u8 0), (.int .u8 0), (.int .u8 0), (.int .u8 0), (.int .u8 0), (.int .u8 0), (.int .u8 0), (.int .u8 0), (.int .u8 0), (.int .u8 0), (.int .u8 0), (.int .u8 0), (.int .u8 0), (.int .u8 0), (.int .u8 0), (.int .u8 0), (.int .u8 0), (.int .u8 0), (.int .u8 0), (.int .u8 0), (.int .u8 0), (.int .u8 0), (.int .u8 0), (.int .u8 0), (.int .u8 0), (.int .u8 0), (.int .u8 0), (.int .u8 0), (.int .u8 0), (.int .u8 0), (.int .u8 0), (.int .u8 0), (.int .u8 0), (.int .u8 0), (.int .u8 0), (.int .u8 0), (.int .u8 0), (.int .u8 0), (.int .u8 0), (.int .u8 0), (.int .u8 0), (.int .u8 0), (.int .u8 0), (.int .u8 0), (.int .u8 0), (.int .u8 0), (.int .u8 0), (.int .u8 0), (.int .u8 0), (.int .u8 0), (.int .u8 0), (.int .u8 0), (.int .u8 0), (.int .u8 0), (.int .u8 0), (.int .u8 0), (.int .u8 0), (.int .u8 0), (.int .u8 0), (.int .u8 0), (.int .u8 0), (.int .u8 0), (.int .u8 0), (.int .u8 0), (.int .u8 0), (.int .u8 0), (.int .u8 0), (.int .u8 0), (.int .u8 0), (.int .u8 0), (.int .u8 0), (.int .u8 0), (.int .u8 0), (.int .u8 0), (.int .u8 0), (.int .u8 0), (.int .u8 0), (.int .u8 0), (.int .u8 0), (.int .u8 0), (.int .u8 0), (.int .u8 0), (.int .u8 0), (.int .u8 0), (.int .u8 0), (.int .u8 0), (.int .u8 0), (.int .u8 0), (.int .u8 0), (.int .u8 0), (.int .u8 0), (.int .u8 0), (.int .u8 0), (.int .u8 0), (.int .u8 0), (.int .u8 0), (.int .u8 0), (.int .u8 0), (.int .u8 0), (.int .u8 0), (.int .u8 0), (.int .u8 0), (.int .u8 0), (.int .u8 0), (.int .u8 0), (.int .u8 0), (.int .u8 0), (.int .u8 0), (.int .u8 0), (.int .u8 0)] h nx fun v3 h4 n5 =>
  sStore 128 v3 v2 h4 n5 fun v6 h7 n8 =>
  sIaddr 1 x6 x11 fun v9 =>
  sLoad v9 h7 fun v10 =>
  sLen v10 fun v11 =>
  IR.run F89.b33 C N (((((((fnO F89.res K0).blk 4 E4).blk 5 E5).blk 6 E6).blk 7 E7).blk 8 K).blk 9 (IR.run F89.b41 C N ((((((fnO F89.res K0).blk 4 E4).blk 5 E5).blk 6 E6).blk 7 E7).blk 8 K) R)) (IR.run F89.b40 C N (((((((fnO F89.res K0).blk 4 E4).blk 5 E5).blk 6 E6).blk 7 E7).blk 8 K).blk 9 (IR.run F89.b41 C N ((((((fnO F89.res K0).blk 4 E4).blk 5 E5).blk 6 E6).blk 7 E7).blk 8 K) R)) (IR.run F89.b41 C N ((((((fnO F89.res K0).blk 4 E4).blk 5 E5).blk 6 E6).blk 7 E7).blk 8 K) R)) (F89.fr x0 x1 x2 x3 x4 x5 x6 x7 x8 x9 x10 x11 x12 x13 x14 z15 v3 z17 x18 x19 x20 x21 x22 x23 x24 x25 x26 x27 x28 v1 v10 v11 (I 0) z33) h7 n8) (K (F89.fr x0 x1 x2 x3 x4 x5 x6 x7 x8 x9 x10 x11 x12 x13 x14 z15 z16 z17 x18 x19 x20 x21 x22 x23 x24 x25 x26 x27 x28 v1 z30 z31 z32 z33) h nx)) = .ok True) :
    IR.run F89.b27 C N (((((fnO F89.res K0).blk 4 E4).blk 5 E5).blk 6 E6).blk 7 E7) K (F89.fr x0 x1 x2 x3 x4 x5 x6 x7 x8 x9 x10 x11 x12 x13 x14 x15 x16 x17 x18 x19 x20 x21 x22 x23 x24 x25 x26 x27 x28 x29 x30 x31 x32 x33) h nx = .ok True := by
  rw [F89.b27, F89.g27_eq, F89.b28]
  refine loop_ok (fun m tm h nx => ∃ z15 z16 z17 z29 z30 z31 z32 z33, tm = (F89.fr x0 x1 x2 x3 x4 x5 x6 x7 x8 x9 x10 x11 x12 x13 x14 z15 z16 z17 x18 x19 x20 x21 x22 x23 x24 x25 x26 x27 x28 z29 z30 z31 z32 z33) ∧ Inv m z15 h nx) ?_ hm ⟨_, _, _, _, _, _, _, _, rfl, hi⟩
  rintro m tm h nx R ⟨z15, z16, z17, z29, z30, z31, z32, z33, rfl, hi⟩ hR
  rw [F89.e27]
  exact step m z15 z16 z17 z29 z30 z31 z32 z33 h nx R hi fun m' w15 w16 w17 w29 w30 w31 w32 w33 h' nx' hlt hi' => hR m' _ h' nx' hlt ⟨_, _, _, _, _, _, _, _, rfl, hi'⟩
theorem F89.k41 {N : Nat} {C : Calls Prop} {K0 : Kw Prop} {E4 E5 E6 E7 E8 : Ks Prop} {K : Ks Prop} (x0 x1 x2 x3 x4 x5 x6 x7 x8 x9 x10 x11 x12 x13 x14 x15 x16 x17 x18 x19 x20 x21 x22 x23 x24 x25 x26 x27 x28 x29 x30 x31 x32 x33 : AV) (h : T Blk) (nx : Pa) : IR.run F89.b41 C N ((((((fnO F89.res K0).blk 4 E4).blk 5 E5).blk 6 E6).blk 7 E7).blk 8 E8) K (F89.fr x0 x1 x2 x3 x4 x5 x6 x7 x8 x9 x10 x11 x12 x13 x14 x15 x16 x17 x18 x19 x20 x21 x22 x23 x24 x25 x26 x27 x28 x29 x30 x31 x32 x33) h nx =
  sBin .add .int x15 (I 1) fun v1 =>
  K (F89.fr x0 x1 x2 x3 x4 x5 x6 x7 x8 x9 x10 x11 x12 x13 x14 v1 x16 x17 x18 x19 x20 x21 x22 x23 x24 x25 x26 x27 x28 x29 x30 x31 x32 x33) h nx := by kernel_rfl
theorem F89.e33 {N : Nat} {C : Calls Prop} {K0 : Kw Prop} {E4 E5 E6 E7 E8 E9 : Ks Prop} {K R : Ks Prop} (x0 x1 x2 x3 x4 x5 x6 x7 x8 x9 x10 x11 x12 x13 x14 x15 x16 x17 x18 x19 x20 x21 x22 x23 x24 x25 x26 x27 x28 x29 x30 x31 x32 x33 : AV) (h : T Blk) (nx : Pa) : IR.run F89.b35 C N ((((((((fnO F89.res K0).blk 4 E4).blk 5 E5).blk 6 E6).blk 7 E7).blk 8 E8).blk 9 E9).blk 10 K) R (F89.fr x0 x1 x2 x3 x4 x5 x6 x7 x8 x9 x10 x11 x12 x13 x14 x15 x16 x17 x18 x19 x20 x21 x22 x23 x24 x25 x26 x27 x28 x29 x30 x31 x32 x33) h nx =
  sBin .lss .int x32 x31 fun v1 =>
  sCond v1 (sIaddr 1 x30 x32 fun v2 =>
  sLoad v2 h fun v3 =>
  sAaddr 1 128 x16 v3 fun v4 =>
  sLoad v4 h fun v5 =>
  sConv .u8 x15 fun v6 =>
  sBin .add .int v5 v6 fun v7 =>
  sAaddr 1 128 x16 v3 fun v8 =>
  sStore 1 v8 v7 h nx fun v9 h10 n11 =>
  sBin .add .int x32 (I 1) fun v12 =>
  R (F89.fr x0 x1 x2 x3 x4 x5 x6 x7 x8 x9 x10 x11 x12 x13 x14 x15 x16 v3 x18 x19 x20 x21 x22 x23 x24 x25 x26 x27 x28 x29 x30 x31 v12 v1) h10 n11) (K (F89.fr x0 x1 x2 x3 x4 x5 x6 x7 x8 x9 x10 x11 x12 x13 x14 x15 x16 x17 x18 x19 x20 x21 x22 x23 x24 x25 x26 x27 x28 x29 x30 x31 x32 v1) h nx) := by kernel_rfl
theorem F89.L33 {N : Nat} {C : Calls Prop} {K0 : Kw Prop} {E4 E5 E6 E7 E8 E9 : Ks Prop} {K : Ks Prop} {x0 x1 x2 x3 x4 x5 x6 x7 x8 x9 x10 x11 x12 x13 x14 x15 x16 x17 x18 x19 x20 x21 x22 x23 x24 x25 x26 x27 x28 x29 x30 x31 x32 x33 : AV} {h : T Blk} {nx : Pa} (Inv : Nat → AV → T Blk → Pa → Prop) {m : Nat} (hm : m < N) (hi : Inv m x32 h nx)
    (step : ∀ (m : Nat) (z17 z32 z33 : AV) (h : T Blk) (nx : Pa) (R : Ks Prop), Inv m z32 h nx → (∀ (m' : Nat) (w17 w32 w33 : AV) (h' : T Blk) (nx' : Pa), m' < m → Inv m' w32 h' nx' → R (F89.fr x0 x1 x2 x3 x4 x5 x6 x7 x8 x9 x10 x11 x12 x13 x14 x15 x16 w17 x18 x19 x20 x21 x22 x23 x24 x25 x26 x27 x28 x29 x30 x31 w32 w33) h' nx' = .ok True) →
      (sBin .lss .int z32 x31 fun v1 =>
  sCond v1 (sIaddr 1 x30 z32 fun v2 =>
  sLoad v2 h fun v3 =>
  sAaddr 1 128 x16 v3 fun v4 =>
  sLoad v4 h fun v5 =>
  sConv .u8 x15 fun v6 =>
  sBin .add .int v5 v6 fun v7 =>
  sAaddr 1 128 x16 v3 fun v8 =>
  sStore 1 v8 v7 h nx fun v9 h10 n11 =>
  sBin .add .int z32 (I 1) fun v12 =>
  R (F89.fr x0 x1 x2 x3 x4 x5 x6 x7 x8 x9 x10 x11 x12 x13 x14 x15 x16 v3 x18 x19 x20 x21 x22 x23 x24 x25 x26 x27 x28 x29 x30 x31 v12 v1) h10 n11) (K (F89.fr x0 x1 x2 x3 x4 x5 x6 x7 x8 x9 x10 x11 x12 x13 x14 x15 x16 z17 x18 x19 x20 x21 x22 x23 x24 x25 x26 x27 x28 x29 x30 x31 z32 v1) h nx)) = .ok True) :
    IR.run F89.b33 C N (((((((fnO F89.res K0).blk 4 E4).blk 5 E5).blk 6 E6).blk 7 E7).blk 8 E8).blk 9 E9) K (F89.fr x0 x1 x2 x3 x4 x5 x6 x7 x8 x9 x10 x11 x12 x13 x14 x15 x16 x17 x18 x19 x20 x21 x22 x23 x24 x25 x26 x27 x28 x29 x30 x31 x32 x33) h nx = .ok True := by
  rw [F89.b33, F89.g33_eq, F89.b34]
  refine loop_ok (fun m tm h nx => ∃ z17 z32 z33, tm = (F89.fr x0 x1 x2 x3 x4 x5 x6 x7 x8 x9 x10 x11 x12 x13 x14 x15 x16 z17 x18 x19 x20 x21 x22 x23 x24 x25 x26 x27 x28 x29 x30 x31 z32 z33) ∧ Inv m z32 h nx) ?_ hm ⟨_, _, _, rfl, hi⟩
  rintro m tm h nx R ⟨z17, z32, z33, rfl, hi⟩ hR
  rw [F89.e33]
  exact step m z17 z32 z33 h nx R hi fun m' w17 w32 w33 h' nx' hlt hi' => hR m' _ h' nx' hlt ⟨_, _, _, rfl, hi'⟩
theorem F89.k40 {N : Nat} {C : Calls Prop} {K0 : Kw Prop} {E4 E5 E6 E7 E8 E9 : Ks Prop} {K : Ks Prop} (x0 x1 x2 x3 x4 x5 x6 x7 x8 x9 x10 x11 x12 x13 x14 x15 x16 x17 x18 x19 x20 x21 x22 x23 x24 x25 x26 x27 x28 x29 x30 x31 x32 x33 : AV) (h : T Blk) (nx : Pa) : IR.run F89.b40 C N (((((((fnO F89.res K0).blk 4 E4).blk 5 E5).blk 6 E6).blk 7 E7).blk 8 E8).blk 9 E9) K (F89.fr x0 x1 x2 x3 x4 x5 x6 x7 x8 x9 x10 x11 x12 x13 x14 x15 x16 x17 x18 x19 x20 x21 x22 x23 x24 x25 x26 x27 x28 x29 x30 x31 x32 x33) h nx =
  sLoadN 128 x16 h fun v1 =>
  sLook (.agg 128) (I 0) false x12 v1 h fun v2 =>
  sBin .add .int v2 x14 fun v3 =>
  sMapent (.agg 128) (I 0) x12 v1 h nx fun v4 h5 n6 =>
  (sBin .add .int v2 x14 fun v12 => sSame v12 v3 ((sLook (.agg 128) (I 0) false x12 v1 h5 fun v11 => sSame v11 v2 (sExt 1 v4 fun v7 =>
  sEntst x12 v7 v3 h5 n6 fun v8 h9 n10 =>
  K (F89.fr x0 x1 x2 x3 x4 x5 x6 x7 x8 x9 x10 x11 x12 x13 x14 x15 x16 x17 x18 x19 x20 x21 x22 x23 x24 x25 x26 x27 x28 x29 x30 x31 x32 x33) h9 n10)))) := by kernel_rfl
end Go.Ev
namespace Go.Ev
open Go Go.Proofs
set_option maxRecDepth 100000
theorem F31.g9_eq (X10 : IR) (C : Calls Prop) (N : Nat) (O : Outs Prop) (K : Ks Prop) (x0 x1 x2 x3 x4 x5 x6 x7 x8 x9 x10 x11 x12 x13 x14 x15 x16 x17 x18 x19 x20 x21 x22 : AV) (h : T Blk) (nx : Pa) : IR.run (F31.g9 X10) C N O K (F31.fr x0 x1 x2 x3 x4 x5 x6 x7 x8 x9 x10 x11 x12 x13 x14 x15 x16 x17 x18 x19 x20 x21 x22) h nx =
  IR.run X10 C N (O.blk 2 K) K (F31.fr x0 x1 x2 x3 x4 x5 x6 x7 x8 x9 x10 x11 x12 x13 x14 x15 x16 x17 x18 x19 x20 x21 x22) h nx := by kernel_rfl
theorem F31.g4_eq (X5 : IR) (C : Calls Prop) (N : Nat) (O : Outs Prop) (K : Ks Prop) (x0 x1 x2 x3 x4 x5 x6 x7 x8 x9 x10 x11 x12 x13 x14 x15 x16 x17 x18 x19 x20 x21 x22 : AV) (h : T Blk) (nx : Pa) : IR.run (F31.g4 X5) C N O K (F31.fr x0 x1 x2 x3 x4 x5 x6 x7 x8 x9 x10 x11 x12 x13 x14 x15 x16 x17 x18 x19 x20 x21 x22) h nx =
  IR.run X5 C N (O.blk 0 K) K (F31.fr x0 x1 x2 x3 x4 x5 x6 x7 x8 x9 x10 x11 x12 x13 x14 x15 x16 x17 x18 x19 x20 x21 x22) h nx := by kernel_rfl
theorem F31.tab : T.get none (.of 31) tbl = some F31 := by kernel_rfl
theorem F31.go {N : Nat} {C : Calls Prop} {K0 : Kw Prop} (y0 y1 y2 : AV) (h : T Blk) (nx : Pa) : callFn tbl N C (.of 31) [y0, y1, y2] h nx K0 =
  sBox y0 h nx fun v1 h2 n3 =>
  sLoadN 2 v1 h2 fun v4 =>
  C.fn 87 (.of 87) [v4, y1] h2 n3 fun v5 h6 n7 =>
  sBin .neq .int v5 (I 0) fun v8 =>
  sCond v8 (K0 (.tup [(I 0), v5]) h6 n7) (sFaddr 0 v1 fun v9 =>
  sLoad v9 h6 fun v10 =>
  sBin .quo .int v10 (I 2) fun v11 =>
  sFaddr 0 v1 fun v12 =>
  sLoad v12 h6 fun v13 =>
  sBin .sub .int v13 v11 fun v14 =>
  C.fn 88 (.of 88) [v14, y1] h6 n7 fun v15 h16 n17 =>
  sCond v15 (K0 (.tup [(I 0), (I 20)]) h16 n17) (sFaddr 1 v1 fun v18 =>
  sLoad v18 h16 fun v19 =>
  sLen v19 fun v20 =>
  sBin .gtr .int v20 (I 0) fun v21 =>
  sG v21 true (fun k => k y2) fun v22 =>
  sG v21 true (fun k => sBin .lss .int v22 (I 0) k) fun v23 =>
  sG v21 true (fun k => k v23) fun v24 =>
  sG v24 false (fun k => k y2) fun v25 =>
  sG v24 false (fun k => sBin .gtr .int v25 (I 255) k) fun v26 =>
  sG v21 true (fun k => sPick v24 (.bool true) v26 k) fun v27 =>
  sPick v21 v27 (.bool false) fun v28 =>
  sCond v28 (K0 (.tup [(I 0), (I 0)]) h16 n17) ((IR.run F31.b3 C N (fnO F31.res K0) (retK F31.res K0)) (F31.fr y0 y1 y2 v1 (I 0) (I 0) v5 v11 .undef .undef .undef .undef .undef .undef v8 v15 v28 .undef .undef .undef .undef .undef .undef) h16 n17))) := by
  rw [callFn_of F31.tab]; kernel_rfl
theorem F31.k3 {N : Nat} {C : Calls Prop} {K0 : Kw Prop} {K : Ks Prop} (x0 x1 x2 x3 x4 x5 x6 x7 x8 x9 x10 x11 x12 x13 x14 x15 x16 x17 x18 x19 x20 x21 x22 : AV) (h : T Blk) (nx : Pa) : IR.run F31.b3 C N (fnO F31.res K0) K (F31.fr x0 x1 x2 x3 x4 x5 x6 x7 x8 x9 x10 x11 x12 x13 x14 x15 x16 x17 x18 x19 x20 x21 x22) h nx =
  sLoadN 2 x3 h fun v1 =>
  sFaddr 0 x3 fun v2 =>
  sLoad v2 h fun v3 =>
  C.fn 89 (.of 89) [v1, x7, v3, x1] h nx fun v4 h5 n6 =>
  sLoadN 2 x3 h5 fun v7 =>
  C.fn 89 (.of 89) [v7, (I 0), x7, x1] h5 n6 fun v8 h9 n10 =>
  sRange v8 h9 n10 fun v11 h12 n13 =>
  IR.run F31.b4 C N (fnO F31.res K0) (IR.run F31.b18 C N (fnO F31.res K0) K) (F31.fr x0 x1 x2 x3 x4 x5 x6 x7 v4 (I 0) x10 x11 x12 x13 x14 x15 x16 v11 x18 x19 x20 x21 x22) h12 n13 := by kernel_rfl
theorem F31.e4 {N : Nat} {C : Calls Prop} {K0 : Kw Prop} {K R : Ks Prop} (x0 x1 x2 x3 x4 x5 x6 x7 x8 x9 x10 x11 x12 x13 x14 x15 x16 x17 x18 x19 x20 x21 x22 : AV) (h : T Blk) (nx : Pa) : IR.run F31.b6 C N ((fnO F31.res K0).blk 0 K) R (F31.fr x0 x1 x2 x3 x4 x5 x6 x7 x8 x9 x10 x11 x12 x13 x14 x15 x16 x17 x18 x19 x20 x21 x22) h nx =
  sNext C x17 h nx fun v1 h2 n3 =>
  sExt 0 v1 fun v4 =>
  sCond v4 (sEntry x17 h2 fun v5 =>
  sExt 0 v5 fun v6 =>
  sExt 1 v5 fun v7 =>
  sAlloc [(.int .u8 0), (.int .u8 0), (.int .u8 0), (.int .u8 0), (.int .u8 0), (.int .u8 0), (.int .u8 0), (.int .u8 0), (.int .u8 0), (.int .u8 0), (.int .u8 0), (.int .u8 0), (.int .u8 0), (.int .u8 0), (.int .u8 0), (.int .u8 0), (.int .u8 0), (.int .u8 0), (.int .u8 0), (.int .u8 0), (.int .u8 0), (.int .u8 0), (.int .u8 0), (.int .u8 0), (.int .u8 0), (.int .u8 0), (.int .u8 0), (.int .u8 0), (.int .u8 0), (.int .u8 0), (.int .u8 0), (.int .u8 0), (.int .u8 0), (.int .u8 0), (.int .u8 0), (.int .u8 0), (.int .u8 0), (.int .u8 0), (.int .u8 0), (.int .u8 0), (.int .u8 0), (.int .u8 0), (.int .u8 0), (.int .u8 0), (.int .u8 0), (.int .u8 0), (.int .u8 0), (.int .u8 0), (.int .u8 0), (.int .u8 0), (.int .u8 0), (.int .u8 0), (.int .u8 0), (.int .u8 0), (.int .u8 0), (.int .u8 0), (.int .u8 0), (.int .u8 0), (.int .u8 0), (.int .u8 0), (.int .u8 0), (.int .u8 0), (.int .u8 0), (.int .u8 0), (.int .u8 0), (.int .u8 0), (.int .u8 0), (.int .u8 0), (.int .u8 0), (.int .u8 0), (.int .u8 0), (.int .u8 0), (.int .u8 0), (.int .u8 0), (.int .u8 0), (.int .u8 0), (.int .u8 0), (.int .u8 0), (.int .u8 0), (.int .u8 0), (.int .u8 0), (.int .u8 0), (.int .u8 0), (.int .u8 0), (.int .u8 0), (.int .u8 0), (.int .u8 0), (.int .u8 0), (.int .u8 0), (.int .u8 0), (.int .u8 0), (.int .u8 0), (.int .u8 0), (.int .u8 0), (.int .u8 0), (.int .u8 0), (.int .u8 0), (.int .u8 0), (.int .u8 0), (.int .u8 0), (.int .u8 0), (.int .u8 0), (.int .u8 0), (.int .u8 0), (.int .u8 0), (.int .u8 0), (.int .u8 0), (.int .u8 0), (.int .u8 0), (.int .u8 0), (.int .u8 0), (.int .u8 0), (.int .u8 0), (.int .u8 0), (.int .u8 0), (.int .u8 0), (.int .u8 0), (.int .u8 0), (.int .u8 0), (.int .u8 0), (.int .u8 0), (.int .u8 0), (.int .u8 0), (.int .u8 0), (.int .u8 0), (.int .u8 0), (.int .u8 0), (.int .u8 0)] h2 n3 fun v8 h9 n10 =>
  sStore 128 v8 v6 h9 n10 fun v11 h12 n13 =>
  sAlloc [(.int .u8 0), (.int .u8 0), (.int .u8 0), (.int .u8 0), (.int .u8 0), (.int .u8 0), (.int .u8 0), (.int .u8 0), (.int .u8 0), (.int .u8 0), (.int .u8 0), (.int .u8 0), (.int .u8 0), (.int .u8 0), (.int .u8 0), (.int .u8 0), (.int .u8 0), (.int .u8 0), (.int .u8 0), (.int .u8 0), (.int .u8 0), (.int .u8 0), (.int .u8 0), (.int .u8 0), (.int .u8 0), (.int .u8 0), (.int .u8 0), (.int .u8 0), (.int .u8 0), (.int .u8 0), (.int .u8 0), (.int .u8 0), (.int .u8 0), (.int .u8 0), (.int .u8 0), (.int .u8 0), (.int .u8 0), (.int .u8 0), (.int .u8 0), (.int .u8 0), (.int .u8 0), (.int .u8 0), (.int .u8 0), (.int .u8 0), (.int .u8 0), (.int .u8 0), (.int .u8 0), (.int .u8 0), (.int .u8 0), (.int .u8 0), (.int .u8 0), (.int .u8 0), (.int .u8 0), (.int .u8 0), (.int .u8 0), (.int .u8 0), (.int .u8 0), (.int .u8 0), (.int .u8 0), (.int .u8 0), (.int .u8 0), (.int .u8 0), (.int .u8 0), (.int .u8 0), (.int .u8 0), (.int .u8 0), (.int .u8 0), (.int .u8 0), (.int .u8 0), (.int .u8 0), (.int .u8 0), (.int .u8 0), (.int .u8 0), (.int .u8 0), (.int .u8 0), (.int .u8 0), (.int .u8 0), (.int .u8 0), (.int .u8 0), (.int .u8 0), (.int .u8 0), (.int .u8 0), (.int .u8 0), (.int .u8 0), (.int .u8 0), (.int .u8 0), (.int .u8 0), (.int .u8 0), (.int .u8 0), (.int .u8 0), (.int .u8 0), (.int .u8 0), (.int .u8 0), (.int .u8 0), (.int .u8 0), (.int .u8 0), (.int .u8 0), (.int .u8 0), (.int .u8 0), (.int .u8 0), (.int .u8 0), (.int .u8 0), (.int .u8 0), (.int .u8 0), (.int .u8 0), (.int .u8 0), (.int .u8 0), (.int .u8 0), (.int .u8 0), (.int .u8 0), (.int .u8 0), (.int .u8 0), (.int .u8 0), (.int .u8 0), (.int .u8 0), (.int .u8 0), (.int .u8 0), (.int .u8 0), (.int .u8 0), (.int .u8 0), (.int .u8 0), (.int .u8 0), (.int .u8 0), (.int .u8 0), (.int .u8 0), (.int .u8 0), (.int .u8 0), (.int .u8 0)] h12 n13 fun v14 h15 n16 =>
  sFaddr 1 x3 fun v17 =>
  sLoad v17 h15 fun v18 =>
  sLen v18 fun v19 =>
  IR.run F31.b9 C N (((fnO F31.res K0).blk 0 K).blk 1 R) (IR.run F31.b17 C N (((fnO F31.res K0).blk 0 K).blk 1 R) R) (F31.fr x0 x1 x2 x3 x4 x5 x6 x7 x8 x9 v8 v7 v14 x13 x14 x15 x16 x17 v4 v19 (I 0) x21 x22) h15 n16) (K (F31.fr x0 x1 x2 x3 x4 x5 x6 x7 x8 x9 x10 x11 x12 x13 x14 x15 x16 x17 v4 x19 x20 x21 x22) h2 n3) := by kernel_rfl
theorem F31.L4 {N : Nat} {C : Calls Prop} {K0 : Kw Prop} {K : Ks Prop} {x0 x1 x2 x3 x4 x5 x6 x7 x8 x9 x10 x11 x12 x13 x14 x15 x16 x17 x18 x19 x20 x21 x22 : AV} {h : T Blk} {nx : Pa} (Inv : Nat → AV → T Blk → Pa → Prop) {m : Nat} (hm : m < N) (hi : Inv m x9 h nx)
    (step : ∀ (m : Nat) (z9 z10 z11 z12 z13 z18 z19 z20 z21 z22 : AV) (h : T Blk) (nx : Pa) (R : Ks Prop), Inv m z9 h nx → (∀ (m' : Nat) (w9 w10 w11 w12 w13 w18 w19 w20 w21 w22 : AV) (h' : T Blk) (nx' : Pa), m' < m → Inv m' w9 h' nx' → R (F31.fr x0 x1 x2 x3 x4 x5 x6 x7 x8 w9 w10 w11 w12 w13 x14 x15 x16 x17 w18 w19 w20 w21 w22) h' nx' = .ok True) →
      (sNext C x17 h nx fun v1 h2 n3 =>
  sExt 0 v1 fun v4 =>
  sCond v4 (sEntry x17 h2 fun v5 =>
  sExt 0 v5 fun v6 =>
  sExt 1 v5 fun v7 =>
  sAlloc [(.int .u8 0), (.int .u8 0), (.int .u8 0), (.int .u8 0), (.int .u8 0), (.int .u8 0), (.int .u8 0), (.int .u8 0), (.int .u8 0), (.int .u8 0), (.int .u8 0), (.int .u8 0), (.int .u8 0), (.int .u8 0), (.int .u8 0), (.int .u8 0), (.int .u8 0), (.int .u8 0), (.int .u8 0), (.int .u8 0), (.int .u8 0), (.int .u8 0), (.int .u8 0), (.int .u8 0), (.int .u8 0), (.int .u8 0), (.int .u8 0), (.int .u8 0), (.int .u8 0), (.int .u8 0), (.int .u8 0), (.int .u8 0), (.int .u8 0), (.int .u8 0), (.int .u8 0), (.int .u8 0), (.int .u8 0), (.int .u8 0), (.int .u8 0), (.int .u8 0), (.int .u8 0), (.int .u8 0), (.int .u8 0), (.int .u8 0), (.int .u8 0), (.int .u8 0), (.int .u8 0), (.int .u8 0), (.int .u8 0), (.int .u8 0), (.int .u8 0), (.int .u8 0), (.int .u8 0), (.int .u8 0), (.int .u8 0), (.int .u8 0), (.int .u8 0), (.int .u8 0), (.int .u8 0), (.int .u8 0), (.int .u8 0), (.int .u8 0), (.int .u8 0), (.int .u8 0), (.int .u8 0), (.int .u8 0), (.int .u8 0), (.int .u8 0), (.int .u8 0), (.int .u8 0), (.int .u8 0), (.int .u8 0), (.int .u8 0), (.int .u8 0), (.int .u8 0), (.int .u8 0), (.int .u8 0), (.int .u8 0), (.int .u8 0), (.int .u8 0), (.int .u8 0), (.int .u8 0), (.int .u8 0), (.int .u8 0), (.int .u8 0), (.int .u8 0), (.int .u8 0), (.int .u8 0), (.int .u8 0), (.int .u8 0), (.int .u8 0), (.int .u8 0), (.int .u8 0), (.int .u8 0), (.int .u8 0), (.int .u8 0), (.int .u8 0), (.int .u8 0), (.int .u8 0), (.int .u8 0), (.int .u8 0), (.int .u8 0), (.int .u8 0), (.int .u8 0), (.int .u8 0), (.int .u8 0), (.int .u8 0), (.int .u8 0), (.int .u8 0), (.int .u8 0), (.int .u8 0), (.int .u8 0), (.int .u8 0), (.int .u8 0), (.int .u8 0), (.int .u8 0), (.int .u8 0), (.int .u8 0), (.int .u8 0), (.int .u8 0), (.int .u8 0), (.int .u8 0), (.int .u8 0), (.int .u8 0), (.int .u8 0), (.int .u8 0), (.int .u8 0), (.int .u8 0)] h2 n3 fun v8 h9 n10 =>
  sStore 128 v8 v6 h9 n10 fun v11 h12 n13 =>
  sAlloc [(.int .u8 0), (.int .u8 0), (.int .u8 0), (.int .u8 0), (.int .u8 0), (.int .u8 0), (.int .u8 0), (.int .u8 0), (.int .u8 0), (.int .u8 0), (.int .u8 0), (.int .u8 0), (.int .u8 0), (.int .u8 0), (.int .u8 0), (.int .u8 0), (.int .u8 0), (.int .u8 0), (.int .u8 0), (.int .u8 0), (.int .u8 0), (.int .u8 0), (.int .u8 0), (.int .u8 0), (.int .u8 0), (.int .u8 0), (.int .u8 0), (.int .u8 0), (.int .u8 0), (.int .u8 0), (.int .u8 0), (.int .u8 0), (.int .u8 0), (.int .u8 0), (.int .u8 0), (.int .u8 0), (.int .u8 0), (.int .u8 0), (.int .u8 0), (.int .u8 0), (.int .u8 0), (.int .u8 0), (.int .u8 0), (.int .u8 0), (.int .u8 0), (.int .u8 0), (.int .u8 0), (.int .u8 0), (.int .u8 0), (.int .u8 0), (.int .u8 0), (.int .u8 0), (.int .u8 0), (.int .u8 0), (.int .u8 0), (.int .u8 0), (.int .u8 0), (.int .u8 0), (.int .u8 0), (.int .u8 0), (.int .u8 0), (.int .u8 0), (.int .u8 0), (.int .u8 0), (.int .u8 0), (.int .u8 0), (.int .u8 0), (.int .u8 0), (.int .u8 0), (.int .u8 0), (.int .u8 0), (.int .u8 0), (.int .u8 0), (.int .u8 0), (.int .u8 0), (.int .u8 0), (.int .u8 0), (.int .u8 0), (.int .u8 0), (.int .u8 0), (.int .u8 0), (.int .u8 0), (.int .u8 0), (.int .u8 0), (.int .u8 0), (.int .u8 0), (.int .u8 0), (.int .u8 0), (.int .u8 0), (.int .u8 0), (.int .u8 0), (.int .u8 0), (.int .u8 0), (.int .u8 0), (.int .u8 0), (.int .u8 0), (.int .u8 0), (.int .u8 0), (.int .u8 0), (.int .u8 0), (.int .u8 0), (.int .u8 0), (.int .u8 0), (.int .u8 0), (.int .u8 0), (.int .u8 0), (.int .u8 0), (.int .u8 0), (.int .u8 0), (.int .u8 0), (.int .u8 0), (.int .u8 0), (.int .u8 0), (.int .u8 0), (.int .u8 0), (.int .u8 0), (.int .u8 0), (.int .u8 0), (.int .u8 0), (.int .u8 0), (.int .u8 0), (.int .u8 0), (.int .u8 0), (.int .u8 0), (.int .u8 0), (.int .u8 0), (.int .u8 0), (.int .u8 0)] h12 n13 fun v14 h15 n16 =>
  sFaddr 1 x3 fun v17 =>
  sLoad v17 h15 fun v18 =>
  sLen v18 fun v19 =>
  IR.run F31.b9 C N (((fnO F31.res K0).blk 0 K).blk 1 R) (IR.run F31.b17 C N (((fnO F31.res K0).blk 0 K).blk 1 R) R) (F31.fr x0 x1 x2 x3 x4 x5 x6 x7 x8 z9 v8 v7 v14 z13 x14 x15 x16 x17 v4 v19 (I 0) z21 z22) h15 n16) (K (F31.fr x0 x1 x2 x3 x4 x5 x6 x7 x8 z9 z10 z11 z12 z13 x14 x15 x16 x17 v4 z19 z20 z21 z22) h2 n3)) = .ok True) :
    IR.run F31.b4 C N (fnO F31.res K0) K (F31.fr x0 x1 x2 x3 x4 x5 x6 x7 x8 x9 x10 x11 x12 x13 x14 x15 x16 x17 x18 x19 x20 x21 x22) h nx = .ok True := by
  rw [F31.b4, F31.g4_eq, F31.b5]
  refine loop_ok (fun m tm h nx => ∃ z9 z10 z11 z12 z13 z18 z19 z20 z21 z22, tm = (F31.fr x0 x1 x2 x3 x4 x5 x6 x7 x8 z9 z10 z11 z12 z13 x14 x15 x16 x17 z18 z19 z20 z21 z22) ∧ Inv m z9 h nx) ?_ hm ⟨_, _, _, _, _, _, _, _, _, _, rfl, hi⟩
  rintro m tm h nx R ⟨z9, z10, z11, z12, z13, z18, z19, z20, z21, z22, rfl, hi⟩ hR
  rw [F31.e4]
  exact step m z9 z10 z11 z12 z13 z18 z19 z20 z21 z22 h nx R hi fun m' w9 w10 w11 w12 w13 w18 w19 w20 w21 w22 h' nx' hlt hi' => hR m' _ h' nx' hlt ⟨_, _, _, _, _, _, _, _, _, _, rfl, hi'⟩
theorem F31.k18 {N : Nat} {C : Calls Prop} {K0 : Kw Prop} {K : Ks Prop} (x0 x1 x2 x3 x4 x5 x6 x7 x8 x9 x10 x11 x12 x13 x14 x15 x16 x17 x18 x19 x20 x21 x22 : AV) (h : T Blk) (nx : Pa) : IR.run F31.b18 C N (fnO F31.res K0) K (F31.fr x0 x1 x2 x3 x4 x5 x6 x7 x8 x9 x10 x11 x12 x13 x14 x15 x16 x17 x18 x19 x20 x21 x22) h nx =
  K0 (.tup [x9, (I 0)]) h nx := by kernel_rfl
theorem F31.e9 {N : Nat} {C : Calls Prop} {K0 : Kw Prop} {E0 E1 : Ks Prop} {K R : Ks Prop} (x0 x1 x2 x3 x4 x5 x6 x7 x8 x9 x10 x11 x12 x13 x14 x15 x16 x17 x18 x19 x20 x21 x22 : AV) (h : T Blk) (nx : Pa) : IR.run F31.b11 C N ((((fnO F31.res K0).blk 0 E0).blk 1 E1).blk 2 K) R (F31.fr x0 x1 x2 x3 x4 x5 x6 x7 x8 x9 x10 x11 x12 x13 x14 x15 x16 x17 x18 x19 x20 x21 x22) h nx =
  sBin .lss .int x20 x19 fun v1 =>
  sCond v1 (sAaddr 1 128 x10 x20 fun v2 =>
  sLoad v2 h fun v3 =>
  sConv .i64 v3 fun v4 =>
  sBin .gtr .int v4 x2 fun v5 =>
  sCond v5 (E1 (F31.fr x0 x1 x2 x3 x4 x5 x6 x7 x8 x9 x10 x11 x12 x20 x14 x15 x16 x17 x18 x19 x20 v1 v5) h nx) (sConv .u8 x2 fun v6 =>
  sAaddr 1 128 x10 x20 fun v7 =>
  sLoad v7 h fun v8 =>
  sBin .sub .int v6 v8 fun v9 =>
  sAaddr 1 128 x12 x20 fun v10 =>
  sStore 1 v10 v9 h nx fun v11 h12 n13 =>
  sBin .add .int x20 (I 1) fun v14 =>
  R (F31.fr x0 x1 x2 x3 x4 x5 x6 x7 x8 x9 x10 x11 x12 x20 x14 x15 x16 x17 x18 x19 v14 v1 v5) h12 n13)) (K (F31.fr x0 x1 x2 x3 x4 x5 x6 x7 x8 x9 x10 x11 x12 x13 x14 x15 x16 x17 x18 x19 x20 v1 x22) h nx) := by kernel_rfl
theorem F31.L9 {N : Nat} {C : Calls Prop} {K0 : Kw Prop} {E0 E1 : Ks Prop} {K : Ks Prop} {x0 x1 x2 x3 x4 x5 x6 x7 x8 x9 x10 x11 x12 x13 x14 x15 x16 x17 x18 x19 x20 x21 x22 : AV} {h : T Blk} {nx : Pa} (Inv : Nat → AV → T Blk → Pa → Prop) {m : Nat} (hm : m < N) (hi : Inv m x20 h nx)
    (step : ∀ (m : Nat) (z13 z20 z21 z22 : AV) (h : T Blk) (nx : Pa) (R : Ks Prop), Inv m z20 h nx → (∀ (m' : Nat) (w13 w20 w21 w22 : AV) (h' : T Blk) (nx' : Pa), m' < m → Inv m' w20 h' nx' → R (F31.fr x0 x1 x2 x3 x4 x5 x6 x7 x8 x9 x10 x11 x12 w13 x14 x15 x16 x17 x18 x19 w20 w21 w22) h' nx' = .ok True) →
      (sBin .lss .int z20 x19 fun v1 =>
  sCond v1 (sAaddr 1 128 x10 z20 fun v2 =>
  sLoad v2 h fun v3 =>
  sConv .i64 v3 fun v4 =>
  sBin .gtr .int v4 x2 fun v5 =>
  sCond v5 (E1 (F31.fr x0 x1 x2 x3 x4 x5 x6 x7 x8 x9 x10 x11 x12 z20 x14 x15 x16 x17 x18 x19 z20 v1 v5) h nx) (sConv .u8 x2 fun v6 =>
  sAaddr 1 128 x10 z20 fun v7 =>
  sLoad v7 h fun v8 =>
  sBin .sub .int v6 v8 fun v9 =>
  sAaddr 1 128 x12 z20 fun v10 =>
  sStore 1 v10 v9 h nx fun v11 h12 n13 =>
  sBin .add .int z20 (I 1) fun v14 =>
  R (F31.fr x0 x1 x2 x3 x4 x5 x6 x7 x8 x9 x10 x11 x12 z20 x14 x15 x16 x17 x18 x19 v14 v1 v5) h12 n13)) (K (F31.fr x0 x1 x2 x3 x4 x5 x6 x7 x8 x9 x10 x11 x12 z13 x14 x15 x16 x17 x18 x19 z20 v1 z22) h nx)) = .ok True) :
    IR.run F31.b9 C N (((fnO F31.res K0).blk 0 E0).blk 1 E1) K (F31.fr x0 x1 x2 x3 x4 x5 x6 x7 x8 x9 x10 x11 x12 x13 x14 x15 x16 x17 x18 x19 x20 x21 x22) h nx = .ok True := by
  rw [F31.b9, F31.g9_eq, F31.b10]
  refine loop_ok (fun m tm h nx => ∃ z13 z20 z21 z22, tm = (F31.fr x0 x1 x2 x3 x4 x5 x6 x7 x8 x9 x10 x11 x12 z13 x14 x15 x16 x17 x18 x19 z20 z21 z22) ∧ Inv m z20 h nx) ?_ hm ⟨_, _, _, _, rfl, hi⟩
  rintro m tm h nx R ⟨z13, z20, z21, z22, rfl, hi⟩ hR
  rw [F31.e9]
  exact step m z13 z20 z21 z22 h nx R hi fun m' w13 w20 w21 w22 h' nx' hlt hi' => hR m' _ h' nx' hlt ⟨_, _, _, _, rfl, hi'⟩
theorem F31.k17 {N : Nat} {C : Calls Prop} {K0 : Kw Prop} {E0 E1 : Ks Prop} {K : Ks Prop} (x0 x1 x2 x3 x4 x5 x6 x7 x8 x9 x10 x11 x12 x13 x14 x15 x16 x17 x18 x19 x20 x21 x22 : AV) (h : T Blk) (nx : Pa) : IR.run F31.b17 C N (((fnO F31.res K0).blk 0 E0).blk 1 E1) K (F31.fr x0 x1 x2 x3 x4 x5 x6 x7 x8 x9 x10 x11 x12 x13 x14 x15 x16 x17 x18 x19 x20 x21 x22) h nx =
  sLoadN 128 x12 h fun v1 =>
  sLook (.agg 128) (I 0) false x8 v1 h fun v2 =>
  sBin .mul .int x11 v2 fun v3 =>
  sBin .add .int x9 v3 fun v4 =>
  K (F31.fr x0 x1 x2 x3 x4 x5 x6 x7 x8 v4 x10 x11 x12 x13 x14 x15 x16 x17 x18 x19 x20 x21 x22) h nx := by kernel_rfl
end Go.Ev
namespace Go.Ev
open Go Go.Proofs
set_option maxRecDepth 100000
theorem F44.tab : T.get none (.of 44) tbl = some F44 := by kernel_rfl
theorem F44.go {N : Nat} {C : Calls Prop} {K0 : Kw Prop} (y0 y1 y2 : AV) (h : T Blk) (nx : Pa) : callFn tbl N C (.of 44) [y0, y1, y2] h nx K0 =
  sBox y0 h nx fun v1 h2 n3 =>
  sLoadN 2 v1 h2 fun v4 =>
  C.fn 25 (.of 25) [v4, y1, y2] h2 n3 fun v5 h6 n7 =>
  sG v5 true (fun k => sLoadN 2 v1 h6 k) fun v8 =>
  sGW v5 true (fun k => C.fn 27 (.of 27) [v8] h6 n7 k) h6 n7 fun v9 h10 n11 =>
  sG v5 true (fun k => sBin .eql .int v9 (I 0) k) fun v12 =>
  sPick v5 v12 (.bool false) fun v13 =>
  sG v13 true (fun k => sFaddr 0 v1 k) fun v14 =>
  sG v13 true (fun k => sLoad v14 h10 k) fun v15 =>
  sG v13 true (fun k => k y1) fun v16 =>
  sG v13 true (fun k => sBin .leq .int v15 v16 k) fun v17 =>
  sPick v13 v17 (.bool false) fun v18 =>
  K0 v18 h10 n11 := by
  rw [callFn_of F44.tab]; kernel_rfl
theorem F47.tab : T.get none (.of 47) tbl = some F47 := by kernel_rfl
theorem F47.go {N : Nat} {C : Calls Prop} {K0 : Kw Prop} (y0 y1 : AV) (h : T Blk) (nx : Pa) : callFn tbl N C (.of 47) [y0, y1] h nx K0 =
  sBox y0 h nx fun v1 h2 n3 =>
  C.fn 104 (.of 104) [y1] h2 n3 fun v4 h5 n6 =>
  sBin .neq .int v4 (I 0) fun v7 =>
  sCond v7 (K0 (I 3) h5 n6) (sFaddr 0 v1 fun v8 =>
  sLoad v8 h5 fun v9 =>
  sLen v9 fun v10 =>
  sBin .neq .int v10 y1 fun v11 =>
  sCond v11 (K0 (I 2) h5 n6) (sFaddr 0 v1 fun v12 =>
  sLoad v12 h5 fun v13 =>
  C.fn 45 (.of 45) [v13] h5 n6 fun v14 h15 n16 =>
  K0 v14 h15 n16)) := by
  rw [callFn_of F47.tab]; kernel_rfl
theorem F48.g7_eq (X8 : IR) (C : Calls Prop) (N : Nat) (O : Outs Prop) (K : Ks Prop) (x0 x1 x2 x3 x4 x5 x6 x7 x8 x9 x10 : AV) (h : T Blk) (nx : Pa) : IR.run (F48.g7 X8) C N O K (F48.fr x0 x1 x2 x3 x4 x5 x6 x7 x8 x9 x10) h nx =
  IR.run X8 C N (O.blk 2 K) K (F48.fr x0 x1 x2 x3 x4 x5 x6 x7 x8 x9 x10) h nx := by kernel_rfl
theorem F48.g1_eq (X2 : IR) (C : Calls Prop) (N : Nat) (O : Outs Prop) (K : Ks Prop) (x0 x1 x2 x3 x4 x5 x6 x7 x8 x9 x10 : AV) (h : T Blk) (nx : Pa) : IR.run (F48.g1 X2) C N O K (F48.fr x0 x1 x2 x3 x4 x5 x6 x7 x8 x9 x10) h nx =
  IR.run X2 C N (O.blk 0 K) K (F48.fr x0 x1 x2 x3 x4 x5 x6 x7 x8 x9 x10) h nx := by kernel_rfl
theorem F48.tab : T.get none (.of 48) tbl = some F48 := by kernel_rfl
theorem F48.go {N : Nat} {C : Calls Prop} {K0 : Kw Prop} (y0 y1 : AV) (h : T Blk) (nx : Pa) : callFn tbl N C (.of 48) [y0, y1] h nx K0 =
  sBox y0 h nx fun v1 h2 n3 =>
  IR.run F48.b1 C N (fnO F48.res K0) (IR.run F48.b16 C N (fnO F48.res K0) (retK F48.res K0)) (F48.fr y0 y1 v1 (.bool false) (I 0) .undef .undef .undef .undef .undef .undef) h2 n3 := by
  rw [callFn_of F48.tab]; kernel_rfl
theorem F48.e1 {N : Nat} {C : Calls Prop} {K0 : Kw Prop} {K R : Ks Prop} (x0 x1 x2 x3 x4 x5 x6 x7 x8 x9 x10 : AV) (h : T Blk) (nx : Pa) : IR.run F48.b3 C N ((fnO F48.res K0).blk 0 K) R (F48.fr x0 x1 x2 x3 x4 x5 x6 x7 x8 x9 x10) h nx =
  sFaddr 1 x2 fun v1 =>
  sLoad v1 h fun v2 =>
  sLen v2 fun v3 =>
  sBin .lss .int x4 v3 fun v4 =>
  sCond v4 (sFaddr 1 x2 fun v5 =>
  sLoad v5 h fun v6 =>
  sIaddr 1 v6 x4 fun v7 =>
  sLoad v7 h fun v8 =>
  C.fn 105 (.of 105) [x1, v8] h nx fun v9 h10 n11 =>
  IR.run F48.b7 C N (((fnO F48.res K0).blk 0 K).blk 1 (IR.run F48.b15 C N ((fnO F48.res K0).blk 0 K) R)) (IR.run F48.b14 C N (((fnO F48.res K0).blk 0 K).blk 1 (IR.run F48.b15 C N ((fnO F48.res K0).blk 0 K) R)) (IR.run F48.b15 C N ((fnO F48.res K0).blk 0 K) R)) (F48.fr x0 x1 x2 x3 x4 v9 (.bool false) (I 0) v4 x9 x10) h10 n11) (K (F48.fr x0 x1 x2 x3 x4 x5 x6 x7 v4 x9 x10) h nx) := by kernel_rfl
theorem F48.L1 {N : Nat} {C : Calls Prop} {K0 : Kw Prop} {K : Ks Prop} {x0 x1 x2 x3 x4 x5 x6 x7 x8 x9 x10 : AV} {h : T Blk} {nx : Pa} (Inv : Nat → AV → T Blk → Pa → Prop) {m : Nat} (hm : m < N) (hi : Inv m x4 h nx)
    (step : ∀ (m : Nat) (z3 z4 z5 z6 z7 z8 z9 z10 : AV) (h : T Blk) (nx : Pa) (R : Ks Prop), Inv m z4 h nx → (∀ (m' : Nat) (w3 w4 w5 w6 w7 w8 w9 w10 : AV) (h' : T Blk) (nx' : Pa), m' < m → Inv m' w4 h' nx' → R (F48.fr x0 x1 x2 w3 w4 w5 w6 w7 w8 w9 w10) h' nx' = .ok True) →
      (sFaddr 1 x2 fun v1 =>
  sLoad v1 h fun v2 =>
  sLen v2 fun v3 =>
  sBin .lss .int z4 v3 fun v4 =>
  sCond v4 (sFaddr 1 x2 fun v5 =>
  sLoad v5 h fun v6 =>
  sIaddr 1 v6 z4 fun v7 =>
  sLoad v7 h fun v8 =>
  C.fn 105 (.of 105) [x1, v8] h nx fun v9 h10 n11 =>
  IR.run F48.b7 C N (((fnO F48.res K0).blk 0 K).blk 1 (IR.run F48.b15 C N ((fnO F48.res K0).blk 0 K) R)) (IR.run F48.b14 C N (((fnO F48.res K0).blk 0 K).blk 1 (IR.run F48.b15 C N ((fnO F48.res K0).blk 0 K) R)) (IR.run F48.b15 C N ((fnO F48.res K0).blk 0 K) R)) (F48.fr x0 x1 x2 z3 z4 v9 (.bool false) (I 0) v4 z9 z10) h10 n11) (K (F48.fr x0 x1 x2 z3 z4 z5 z6 z7 v4 z9 z10) h nx)) = .ok True) :
    IR.run F48.b1 C N (fnO F48.res K0) K (F48.fr x0 x1 x2 x3 x4 x5 x6 x7 x8 x9 x10) h nx = .ok True := by
  rw [F48.b1, F48.g1_eq, F48.b2]
  refine loop_ok (fun m tm h nx => ∃ z3 z4 z5 z6 z7 z8 z9 z10, tm = (F48.fr x0 x1 x2 z3 z4 z5 z6 z7 z8 z9 z10) ∧ Inv m z4 h nx) ?_ hm ⟨_, _, _, _, _, _, _, _, rfl, hi⟩
  rintro m tm h nx R ⟨z3, z4, z5, z6, z7, z8, z9, z10, rfl, hi⟩ hR
  rw [F48.e1]
  exact step m z3 z4 z5 z6 z7 z8 z9 z10 h nx R hi fun m' w3 w4 w5 w6 w7 w8 w9 w10 h' nx' hlt hi' => hR m' _ h' nx' hlt ⟨_, _, _, _, _, _, _, _, rfl, hi'⟩
theorem F48.k16 {N : Nat} {C : Calls Prop} {K0 : Kw Prop} {K : Ks Prop} (x0 x1 x2 x3 x4 x5 x6 x7 x8 x9 x10 : AV) (h : T Blk) (nx : Pa) : IR.run F48.b16 C N (fnO F48.res K0) K (F48.fr x0 x1 x2 x3 x4 x5 x6 x7 x8 x9 x10) h nx =
  K0 (.bool true) h nx := by kernel_rfl
theorem F48.k15 {N : Nat} {C : Calls Prop} {K0 : Kw Prop} {E0 : Ks Prop} {K : Ks Prop} (x0 x1 x2 x3 x4 x5 x6 x7 x8 x9 x10 : AV) (h : T Blk) (nx : Pa) : IR.run F48.b15 C N ((fnO F48.res K0).blk 0 E0) K (F48.fr x0 x1 x2 x3 x4 x5 x6 x7 x8 x9 x10) h nx =
  sBin .add .int x4 (I 1) fun v1 =>
  K (F48.fr x0 x1 x2 x3 v1 x5 x6 x7 x8 x9 x10) h nx := by kernel_rfl
theorem F48.e7 {N : Nat} {C : Calls Prop} {K0 : Kw Prop} {E0 E1 : Ks Prop} {K R : Ks Prop} (x0 x1 x2 x3 x4 x5 x6 x7 x8 x9 x10 : AV) (h : T Blk) (nx : Pa) : IR.run F48.b9 C N ((((fnO F48.res K0).blk 0 E0).blk 1 E1).blk 2 K) R (F48.fr x0 x1 x2 x3 x4 x5 x6 x7 x8 x9 x10) h nx =
  sFaddr 1 x2 fun v1 =>
  sLoad v1 h fun v2 =>
  sLen v2 fun v3 =>
  sBin .lss .int x7 v3 fun v4 =>
  sCond v4 (sG x6 false (fun k => k x5) fun v5 =>
  sG x6 false (fun k => sFaddr 1 x2 k) fun v6 =>
  sG x6 false (fun k => sLoad v6 h k) fun v7 =>
  sG x6 false (fun k => k x7) fun v8 =>
  sG x6 false (fun k => sIaddr 1 v7 v8 k) fun v9 =>
  sG x6 false (fun k => sLoad v9 h k) fun v10 =>
  sGW x6 false (fun k => C.fn 35 (.of 35) [v5, v10] h nx k) h nx fun v11 h12 n13 =>
  sPick x6 (.bool true) v11 fun v14 =>
  sBin .add .int x7 (I 1) fun v15 =>
  R (F48.fr x0 x1 x2 x3 x4 x5 v14 v15 x8 v4 x10) h12 n13) (K (F48.fr x0 x1 x2 x3 x4 x5 x6 x7 x8 v4 x10) h nx) := by kernel_rfl
theorem F48.L7 {N : Nat} {C : Calls Prop} {K0 : Kw Prop} {E0 E1 : Ks Prop} {K : Ks Prop} {x0 x1 x2 x3 x4 x5 x6 x7 x8 x9 x10 : AV} {h : T Blk} {nx : Pa} (Inv : Nat → AV → AV → T Blk → Pa → Prop) {m : Nat} (hm : m < N) (hi : Inv m x6 x7 h nx)
    (step : ∀ (m : Nat) (z6 z7 z9 : AV) (h : T Blk) (nx : Pa) (R : Ks Prop), Inv m z6 z7 h nx → (∀ (m' : Nat) (w6 w7 w9 : AV) (h' : T Blk) (nx' : Pa), m' < m → Inv m' w6 w7 h' nx' → R (F48.fr x0 x1 x2 x3 x4 x5 w6 w7 x8 w9 x10) h' nx' = .ok True) →
      (sFaddr 1 x2 fun v1 =>
  sLoad v1 h fun v2 =>
  sLen v2 fun v3 =>
  sBin .lss .int z7 v3 fun v4 =>
  sCond v4 (sG z6 false (fun k => k x5) fun v5 =>
  sG z6 false (fun k => sFaddr 1 x2 k) fun v6 =>
  sG z6 false (fun k => sLoad v6 h k) fun v7 =>
  sG z6 false (fun k => k z7) fun v8 =>
  sG z6 false (fun k => sIaddr 1 v7 v8 k) fun v9 =>
  sG z6 false (fun k => sLoad v9 h k) fun v10 =>
  sGW z6 false (fun k => C.fn 35 (.of 35) [v5, v10] h nx k) h nx fun v11 h12 n13 =>
  sPick z6 (.bool true) v11 fun v14 =>
  sBin .add .int z7 (I 1) fun v15 =>
  R (F48.fr x0 x1 x2 x3 x4 x5 v14 v15 x8 v4 x10) h12 n13) (K (F48.fr x0 x1 x2 x3 x4 x5 z6 z7 x8 v4 x10) h nx)) = .ok True) :
    IR.run F48.b7 C N (((fnO F48.res K0).blk 0 E0).blk 1 E1) K (F48.fr x0 x1 x2 x3 x4 x5 x6 x7 x8 x9 x10) h nx = .ok True := by
  rw [F48.b7, F48.g7_eq, F48.b8]
  refine loop_ok (fun m tm h nx => ∃ z6 z7 z9, tm = (F48.fr x0 x1 x2 x3 x4 x5 z6 z7 x8 z9 x10) ∧ Inv m z6 z7 h nx) ?_ hm ⟨_, _, _, rfl, hi⟩
  rintro m tm h nx R ⟨z6, z7, z9, rfl, hi⟩ hR
  rw [F48.e7]
  exact step m z6 z7 z9 h nx R hi fun m' w6 w7 w9 h' nx' hlt hi' => hR m' _ h' nx' hlt ⟨_, _, _, rfl, hi'⟩
theorem F48.k14 {N : Nat} {C : Calls Prop} {K0 : Kw Prop} {E0 E1 : Ks Prop} {K : Ks Prop} (x0 x1 x2 x3 x4 x5 x6 x7 x8 x9 x10 : AV) (h : T Blk) (nx : Pa) : IR.run F48.b14 C N (((fnO F48.res K0).blk 0 E0).blk 1 E1) K (F48.fr x0 x1 x2 x3 x4 x5 x6 x7 x8 x9 x10) h nx =
  sNot x6 fun v1 =>
  sCond v1 (K0 (.bool false) h nx) (K (F48.fr x0 x1 x2 x3 x4 x5 x6 x7 x8 x9 v1) h nx) := by kernel_rfl
theorem F50.g1_eq (X2 : IR) (C : Calls Prop) (N : Nat) (O : Outs Prop) (K : Ks Prop) (x0 x1 x2 x3 x4 : AV) (h : T Blk) (nx : Pa) : IR.run (F50.g1 X2) C N O K (F50.fr x0 x1 x2 x3 x4) h nx =
  IR.run X2 C N (O.blk 0 K) K (F50.fr x0 x1 x2 x3 x4) h nx := by kernel_rfl
theorem F50.tab : T.get none (.of 50) tbl = some F50 := by kernel_rfl
theorem F50.go {N : Nat} {C : Calls Prop} {K0 : Kw Prop} (y0 : AV) (h : T Blk) (nx : Pa) : callFn tbl N C (.of 50) [y0] h nx K0 =
  IR.run F50.b1 C N (fnO F50.res K0) (IR.run F50.b8 C N (fnO F50.res K0) (retK F50.res K0)) (F50.fr y0 .nils .nils (I 0) .undef) h nx := by
  rw [callFn_of F50.tab]; kernel_rfl
theorem F50.e1 {N : Nat} {C : Calls Prop} {K0 : Kw Prop} {K R : Ks Prop} (x0 x1 x2 x3 x4 : AV) (h : T Blk) (nx : Pa) : IR.run F50.b3 C N ((fnO F50.res K0).blk 0 K) R (F50.fr x0 x1 x2 x3 x4) h nx =
  sLen x0 fun v1 =>
  sBin .lss .int x3 v1 fun v2 =>
  sCond v2 (sLen x0 fun v3 =>
  sBin .add .int v3 (I 1) fun v4 =>
  sIaddr 1 x0 x3 fun v5 =>
  sLoad v5 h fun v6 =>
  sBin .sub .int v4 v6 fun v7 =>
  sBslice 1 1 [(I 0)] [(0, 1, v7)] h nx fun v8 h9 n10 =>
  sApp 1 8 x2 v8 h9 n10 fun v11 h12 n13 =>
  sBin .add .int x3 (I 1) fun v14 =>
  R (F50.fr x0 x1 v11 v14 v2) h12 n13) (K (F50.fr x0 x1 x2 x3 v2) h nx) := by kernel_rfl
theorem F50.L1 {N : Nat} {C : Calls Prop} {K0 : Kw Prop} {K : Ks Prop} {x0 x1 x2 x3 x4 : AV} {h : T Blk} {nx : Pa} (Inv : Nat → AV → AV → T Blk → Pa → Prop) {m : Nat} (hm : m < N) (hi : Inv m x2 x3 h nx)
    (step : ∀ (m : Nat) (z2 z3 z4 : AV) (h : T Blk) (nx : Pa) (R : Ks Prop), Inv m z2 z3 h nx → (∀ (m' : Nat) (w2 w3 w4 : AV) (h' : T Blk) (nx' : Pa), m' < m → Inv m' w2 w3 h' nx' → R (F50.fr x0 x1 w2 w3 w4) h' nx' = .ok True) →
      (sLen x0 fun v1 =>
  sBin .lss .int z3 v1 fun v2 =>
  sCond v2 (sLen x0 fun v3 =>
  sBin .add .int v3 (I 1) fun v4 =>
  sIaddr 1 x0 z3 fun v5 =>
  sLoad v5 h fun v6 =>
  sBin .sub .int v4 v6 fun v7 =>
  sBslice 1 1 [(I 0)] [(0, 1, v7)] h nx fun v8 h9 n10 =>
  sApp 1 8 z2 v8 h9 n10 fun v11 h12 n13 =>
  sBin .add .int z3 (I 1) fun v14 =>
  R (F50.fr x0 x1 v11 v14 v2) h12 n13) (K (F50.fr x0 x1 z2 z3 v2) h nx)) = .ok True) :
    IR.run F50.b1 C N (fnO F50.res K0) K (F50.fr x0 x1 x2 x3 x4) h nx = .ok True := by
  rw [F50.b1, F50.g1_eq, F50.b2]
  refine loop_ok (fun m tm h nx => ∃ z2 z3 z4, tm = (F50.fr x0 x1 z2 z3 z4) ∧ Inv m z2 z3 h nx) ?_ hm ⟨_, _, _, rfl, hi⟩
  rintro m tm h nx R ⟨z2, z3, z4, rfl, hi⟩ hR
  rw [F50.e1]
  exact step m z2 z3 z4 h nx R hi fun m' w2 w3 w4 h' nx' hlt hi' => hR m' _ h' nx' hlt ⟨_, _, _, rfl, hi'⟩
theorem F50.k8 {N : Nat} {C : Calls Prop} {K0 : Kw Prop} {K : Ks Prop} (x0 x1 x2 x3 x4 : AV) (h : T Blk) (nx : Pa) : IR.run F50.b8 C N (fnO F50.res K0) K (F50.fr x0 x1 x2 x3 x4) h nx =
  K0 x2 h nx := by kernel_rfl
theorem F104.tab : T.get none (.of 104) tbl = some F104 := by kernel_rfl
theorem F104.go {N : Nat} {C : Calls Prop} {K0 : Kw Prop} (y0 : AV) (h : T Blk) (nx : Pa) : callFn tbl N C (.of 104) [y0] h nx K0 =
  sBin .lss .int y0 (I 0) fun v1 =>
  sG v1 false (fun k => k y0) fun v2 =>
  sG v1 false (fun k => sBin .gtr .int v2 (I 256) k) fun v3 =>
  sPick v1 (.bool true) v3 fun v4 =>
  sCond v4 (K0 (I 3) h nx) (K0 (I 0) h nx) := by
  rw [callFn_of F104.tab]; kernel_rfl
theorem F105.g7_eq (X8 : IR) (C : Calls Prop) (N : Nat) (O : Outs Prop) (K : Ks Prop) (x0 x1 x2 x3 x4 x5 x6 x7 x8 : AV) (h : T Blk) (nx : Pa) : IR.run (F105.g7 X8) C N O K (F105.fr x0 x1 x2 x3 x4 x5 x6 x7 x8) h nx =
  IR.run X8 C N (O.blk 2 K) K (F105.fr x0 x1 x2 x3 x4 x5 x6 x7 x8) h nx := by kernel_rfl
theorem F105.g1_eq (X2 : IR) (C : Calls Prop) (N : Nat) (O : Outs Prop) (K : Ks Prop) (x0 x1 x2 x3 x4 x5 x6 x7 x8 : AV) (h : T Blk) (nx : Pa) : IR.run (F105.g1 X2) C N O K (F105.fr x0 x1 x2 x3 x4 x5 x6 x7 x8) h nx =
  IR.run X2 C N (O.blk 0 K) K (F105.fr x0 x1 x2 x3 x4 x5 x6 x7 x8) h nx := by kernel_rfl
theorem F105.tab : T.get none (.of 105) tbl = some F105 := by kernel_rfl
theorem F105.go {N : Nat} {C : Calls Prop} {K0 : Kw Prop} (y0 y1 : AV) (h : T Blk) (nx : Pa) : callFn tbl N C (.of 105) [y0, y1] h nx K0 =
  IR.run F105.b1 C N (fnO F105.res K0) (IR.run F105.b14 C N (fnO F105.res K0) (retK F105.res K0)) (F105.fr y0 y1 .nils .nils (I 0) .undef .undef .undef .undef) h nx := by
  rw [callFn_of F105.tab]; kernel_rfl
theorem F105.e1 {N : Nat} {C : Calls Prop} {K0 : Kw Prop} {K R : Ks Prop} (x0 x1 x2 x3 x4 x5 x6 x7 x8 : AV) (h : T Blk) (nx : Pa) : IR.run F105.b3 C N ((fnO F105.res K0).blk 0 K) R (F105.fr x0 x1 x2 x3 x4 x5 x6 x7 x8) h nx =
  sLen x1 fun v1 =>
  sBin .lss .int x4 v1 fun v2 =>
  sCond v2 (sIaddr 1 x1 x4 fun v3 =>
  sLoad v3 h fun v4 =>
  sIaddr 1 x0 v4 fun v5 =>
  sLoad v5 h fun v6 =>
  IR.run F105.b7 C N (((fnO F105.res K0).blk 0 K).blk 1 (IR.run F105.b13 C N ((fnO F105.res K0).blk 0 K) R)) (IR.run F105.b12 C N (((fnO F105.res K0).blk 0 K).blk 1 (IR.run F105.b13 C N ((fnO F105.res K0).blk 0 K) R)) (IR.run F105.b13 C N ((fnO F105.res K0).blk 0 K) R)) (F105.fr x0 x1 x2 x3 x4 v6 (I 0) v2 x8) h nx) (K (F105.fr x0 x1 x2 x3 x4 x5 x6 v2 x8) h nx) := by kernel_rfl
theorem F105.L1 {N : Nat} {C : Calls Prop} {K0 : Kw Prop} {K : Ks Prop} {x0 x1 x2 x3 x4 x5 x6 x7 x8 : AV} {h : T Blk} {nx : Pa} (Inv : Nat → AV → AV → T Blk → Pa → Prop) {m : Nat} (hm : m < N) (hi : Inv m x3 x4 h nx)
    (step : ∀ (m : Nat) (z3 z4 z5 z6 z7 z8 : AV) (h : T Blk) (nx : Pa) (R : Ks Prop), Inv m z3 z4 h nx → (∀ (m' : Nat) (w3 w4 w5 w6 w7 w8 : AV) (h' : T Blk) (nx' : Pa), m' < m → Inv m' w3 w4 h' nx' → R (F105.fr x0 x1 x2 w3 w4 w5 w6 w7 w8) h' nx' = .ok True) →
      (sLen x1 fun v1 =>
  sBin .lss .int z4 v1 fun v2 =>
  sCond v2 (sIaddr 1 x1 z4 fun v3 =>
  sLoad v3 h fun v4 =>
  sIaddr 1 x0 v4 fun v5 =>
  sLoad v5 h fun v6 =>
  IR.run F105.b7 C N (((fnO F105.res K0).blk 0 K).blk 1 (IR.run F105.b13 C N ((fnO F105.res K0).blk 0 K) R)) (IR.run F105.b12 C N (((fnO F105.res K0).blk 0 K).blk 1 (IR.run F105.b13 C N ((fnO F105.res K0).blk 0 K) R)) (IR.run F105.b13 C N ((fnO F105.res K0).blk 0 K) R)) (F105.fr x0 x1 x2 z3 z4 v6 (I 0) v2 z8) h nx) (K (F105.fr x0 x1 x2 z3 z4 z5 z6 v2 z8) h nx)) = .ok True) :
    IR.run F105.b1 C N (fnO F105.res K0) K (F105.fr x0 x1 x2 x3 x4 x5 x6 x7 x8) h nx = .ok True := by
  rw [F105.b1, F105.g1_eq, F105.b2]
  refine loop_ok (fun m tm h nx => ∃ z3 z4 z5 z6 z7 z8, tm = (F105.fr x0 x1 x2 z3 z4 z5 z6 z7 z8) ∧ Inv m z3 z4 h nx) ?_ hm ⟨_, _, _, _, _, _, rfl, hi⟩
  rintro m tm h nx R ⟨z3, z4, z5, z6, z7, z8, rfl, hi⟩ hR
  rw [F105.e1]
  exact step m z3 z4 z5 z6 z7 z8 h nx R hi fun m' w3 w4 w5 w6 w7 w8 h' nx' hlt hi' => hR m' _ h' nx' hlt ⟨_, _, _, _, _, _, rfl, hi'⟩
theorem F105.k14 {N : Nat} {C : Calls Prop} {K0 : Kw Prop} {K : Ks Prop} (x0 x1 x2 x3 x4 x5 x6 x7 x8 : AV) (h : T Blk) (nx : Pa) : IR.run F105.b14 C N (fnO F105.res K0) K (F105.fr x0 x1 x2 x3 x4 x5 x6 x7 x8) h nx =
  K0 x3 h nx := by kernel_rfl
theorem F105.k13 {N : Nat} {C : Calls Prop} {K0 : Kw Prop} {E0 : Ks Prop} {K : Ks Prop} (x0 x1 x2 x3 x4 x5 x6 x7 x8 : AV) (h : T Blk) (nx : Pa) : IR.run F105.b13 C N ((fnO F105.res K0).blk 0 E0) K (F105.fr x0 x1 x2 x3 x4 x5 x6 x7 x8) h nx =
  sBin .add .int x4 (I 1) fun v1 =>
  K (F105.fr x0 x1 x2 x3 v1 x5 x6 x7 x8) h nx := by kernel_rfl
theorem F105.e7 {N : Nat} {C : Calls Prop} {K0 : Kw Prop} {E0 E1 : Ks Prop} {K R : Ks Prop} (x0 x1 x2 x3 x4 x5 x6 x7 x8 : AV) (h : T Blk) (nx : Pa) : IR.run F105.b9 C N ((((fnO F105.res K0).blk 0 E0).blk 1 E1).blk 2 K) R (F105.fr x0 x1 x2 x3 x4 x5 x6 x7 x8) h nx =
  sLen x3 fun v1 =>
  sBin .lss .int x6 v1 fun v2 =>
  sG v2 true (fun k => k x3) fun v3 =>
  sG v2 true (fun k => k x6) fun v4 =>
  sG v2 true (fun k => sIaddr 1 v3 v4 k) fun v5 =>
  sG v2 true (fun k => sLoad v5 h k) fun v6 =>
  sG v2 true (fun k => k x5) fun v7 =>
  sG v2 true (fun k => sBin .lss .int v6 v7 k) fun v8 =>
  sPick v2 v8 (.bool false) fun v9 =>
  sCond v9 ((IR.run F105.b10 C N ((((fnO F105.res K0).blk 0 E0).blk 1 E1).blk 2 K) R) (F105.fr x0 x1 x2 x3 x4 x5 x6 x7 v9) h nx) (K (F105.fr x0 x1 x2 x3 x4 x5 x6 x7 v9) h nx) := by kernel_rfl
theorem F105.L7 {N : Nat} {C : Calls Prop} {K0 : Kw Prop} {E0 E1 : Ks Prop} {K : Ks Prop} {x0 x1 x2 x3 x4 x5 x6 x7 x8 : AV} {h : T Blk} {nx : Pa} (Inv : Nat → AV → T Blk → Pa → Prop) {m : Nat} (hm : m < N) (hi : Inv m x6 h nx)
    (step : ∀ (m : Nat) (z6 z8 : AV) (h : T Blk) (nx : Pa) (R : Ks Prop), Inv m z6 h nx → (∀ (m' : Nat) (w6 w8 : AV) (h' : T Blk) (nx' : Pa), m' < m → Inv m' w6 h' nx' → R (F105.fr x0 x1 x2 x3 x4 x5 w6 x7 w8) h' nx' = .ok True) →
      (sLen x3 fun v1 =>
  sBin .lss .int z6 v1 fun v2 =>
  sG v2 true (fun k => k x3) fun v3 =>
  sG v2 true (fun k => k z6) fun v4 =>
  sG v2 true (fun k => sIaddr 1 v3 v4 k) fun v5 =>
  sG v2 true (fun k => sLoad v5 h k) fun v6 =>
  sG v2 true (fun k => k x5) fun v7 =>
  sG v2 true (fun k => sBin .lss .int v6 v7 k) fun v8 =>
  sPick v2 v8 (.bool false) fun v9 =>
  sCond v9 ((IR.run F105.b10 C N ((((fnO F105.res K0).blk 0 E0).blk 1 E1).blk 2 K) R) (F105.fr x0 x1 x2 x3 x4 x5 z6 x7 v9) h nx) (K (F105.fr x0 x1 x2 x3 x4 x5 z6 x7 v9) h nx)) = .ok True) :
    IR.run F105.b7 C N (((fnO F105.res K0).blk 0 E0).blk 1 E1) K (F105.fr x0 x1 x2 x3 x4 x5 x6 x7 x8) h nx = .ok True := by
  rw [F105.b7, F105.g7_eq, F105.b8]
  refine loop_ok (fun m tm h nx => ∃ z6 z8, tm = (F105.fr x0 x1 x2 x3 x4 x5 z6 x7 z8) ∧ Inv m z6 h nx) ?_ hm ⟨_, _, rfl, hi⟩
  rintro m tm h nx R ⟨z6, z8, rfl, hi⟩ hR
  rw [F105.e7]
  exact step m z6 z8 h nx R hi fun m' w6 w8 h' nx' hlt hi' => hR m' _ h' nx' hlt ⟨_, _, rfl, hi'⟩
theorem F105.k12 {N : Nat} {C : Calls Prop} {K0 : Kw Prop} {E0 E1 : Ks Prop} {K : Ks Prop} (x0 x1 x2 x3 x4 x5 x6 x7 x8 : AV) (h : T Blk) (nx : Pa) : IR.run F105.b12 C N (((fnO F105.res K0).blk 0 E0).blk 1 E1) K (F105.fr x0 x1 x2 x3 x4 x5 x6 x7 x8) h nx =
  sChk ((fillA (repl 0 [(I 0)]) []).isSome && true) (sSlice 1 x3 none (some x6) none fun v1 =>
  sChk ((fillA (repl 1 [(I 0)]) [(0, 1, x5)]).isSome && true) (sSlice 1 x3 (some x6) none none fun v2 =>
  sBslice 1 0 [(I 0)] [] h nx fun v3 h4 n5 =>
  (sSlice 1 x3 (some x6) none none fun v24 => sSame v24 v2 (sSame x6 x6 (sSame x3 x3 (sSame x5 x5 ((sSlice 1 x3 none (some x6) none fun v23 => sSame v23 v1 (sSame x6 x6 (sSame x3 x3 (sApp 1 8 v3 v1 h4 n5 fun v6 h7 n8 =>
  (sSlice 1 x3 (some x6) none none fun v22 => sSame v22 v2 (sSame x6 x6 (sSame x3 x3 (sSame x5 x5 ((sSlice 1 x3 none (some x6) none fun v21 => sSame v21 v1 (sSame x6 x6 (sSame x3 x3 (sBslice 1 1 [(I 0)] [(0, 1, x5)] h7 n8 fun v9 h10 n11 =>
  (sSlice 1 x3 (some x6) none none fun v20 => sSame v20 v2 (sSame x6 x6 (sSame x3 x3 ((sSlice 1 x3 none (some x6) none fun v19 => sSame v19 v1 (sSame x6 x6 (sSame x3 x3 (sApp 1 8 v6 v9 h10 n11 fun v12 h13 n14 =>
  (sSlice 1 x3 (some x6) none none fun v18 => sSame v18 v2 (sSame x6 x6 (sSame x3 x3 (sApp 1 8 v12 v2 h13 n14 fun v15 h16 n17 =>
  K (F105.fr x0 x1 x2 v15 x4 x5 x6 x7 x8) h16 n17)))))))))))))))))))))))))))))))) := by kernel_rfl
theorem F105.k10 {N : Nat} {C : Calls Prop} {K0 : Kw Prop} {E0 E1 E2 : Ks Prop} {K : Ks Prop} (x0 x1 x2 x3 x4 x5 x6 x7 x8 : AV) (h : T Blk) (nx : Pa) : IR.run F105.b10 C N ((((fnO F105.res K0).blk 0 E0).blk 1 E1).blk 2 E2) K (F105.fr x0 x1 x2 x3 x4 x5 x6 x7 x8) h nx =
  sBin .add .int x6 (I 1) fun v1 =>
  K (F105.fr x0 x1 x2 x3 x4 x5 v1 x7 x8) h nx := by kernel_rfl
end Go.Ev
namespace Go.Ev
open Go Go.Proofs
set_option maxRecDepth 100000
theorem F45.g2_eq (X3 : IR) (C : Calls Prop) (N : Nat) (O : Outs Prop) (K : Ks Prop) (x0 x1 x2 x3 x4 x5 x6 : AV) (h : T Blk) (nx : Pa) : IR.run (F45.g2 X3) C N O K (F45.fr x0 x1 x2 x3 x4 x5 x6) h nx =
  IR.run X3 C N (O.blk 0 K) K (F45.fr x0 x1 x2 x3 x4 x5 x6) h nx := by kernel_rfl
theorem F45.tab : T.get none (.of 45) tbl = some F45 := by kernel_rfl
theorem F45.go {N : Nat} {C : Calls Prop} {K0 : Kw Prop} (y0 : AV) (h : T Blk) (nx : Pa) : callFn tbl N C (.of 45) [y0] h nx K0 =
  sLen y0 fun v1 =>
  sBin .gtr .int v1 (I 256) fun v2 =>
  sCond v2 (K0 (I 5) h nx) (sLen y0 fun v3 =>
  sMkslice 1 1 [(.bool false)] v3 v3 h nx fun v4 h5 n6 =>
  IR.run F45.b2 C N (fnO F45.res K0) (IR.run F45.b10 C N (fnO F45.res K0) (retK F45.res K0)) (F45.fr y0 (I 0) v4 (I 0) v2 .undef .undef) h5 n6) := by
  rw [callFn_of F45.tab]; kernel_rfl
theorem F45.e2 {N : Nat} {C : Calls Prop} {K0 : Kw Prop} {K R : Ks Prop} (x0 x1 x2 x3 x4 x5 x6 : AV) (h : T Blk) (nx : Pa) : IR.run F45.b4 C N ((fnO F45.res K0).blk 0 K) R (F45.fr x0 x1 x2 x3 x4 x5 x6) h nx =
  sLen x0 fun v1 =>
  sBin .lss .int x3 v1 fun v2 =>
  sCond v2 (sIaddr 1 x0 x3 fun v3 =>
  sLoad v3 h fun v4 =>
  sBin .lss .int v4 (I 0) fun v5 =>
  sG v5 false (fun k => k x0) fun v6 =>
  sG v5 false (fun k => k x3) fun v7 =>
  sG v5 false (fun k => sIaddr 1 v6 v7 k) fun v8 =>
  sG v5 false (fun k => sLoad v8 h k) fun v9 =>
  sG v5 false (fun k => k x0) fun v10 =>
  sG v5 false (fun k => sLen v10 k) fun v11 =>
  sG v5 false (fun k => sBin .geq .int v9 v11 k) fun v12 =>
  sPick v5 (.bool true) v12 fun v13 =>
  sG v13 false (fun k => k x2) fun v14 =>
  sG v13 false (fun k => k x0) fun v15 =>
  sG v13 false (fun k => k x3) fun v16 =>
  sG v13 false (fun k => sIaddr 1 v15 v16 k) fun v17 =>
  sG v13 false (fun k => sLoad v17 h k) fun v18 =>
  sG v13 false (fun k => sIaddr 1 v14 v18 k) fun v19 =>
  sG v13 false (fun k => sLoad v19 h k) fun v20 =>
  sPick v13 (.bool true) v20 fun v21 =>
  sCond v21 (K0 (I 14) h nx) ((IR.run F45.b8 C N (((fnO F45.res K0).blk 0 K).blk 1 (IR.run F45.b9 C N ((fnO F45.res K0).blk 0 K) R)) (IR.run F45.b9 C N ((fnO F45.res K0).blk 0 K) R)) (F45.fr x0 x1 x2 x3 x4 v2 v21) h nx)) (K (F45.fr x0 x1 x2 x3 x4 v2 x6) h nx) := by kernel_rfl
theorem F45.L2 {N : Nat} {C : Calls Prop} {K0 : Kw Prop} {K : Ks Prop} {x0 x1 x2 x3 x4 x5 x6 : AV} {h : T Blk} {nx : Pa} (Inv : Nat → AV → T Blk → Pa → Prop) {m : Nat} (hm : m < N) (hi : Inv m x3 h nx)
    (step : ∀ (m : Nat) (z1 z3 z5 z6 : AV) (h : T Blk) (nx : Pa) (R : Ks Prop), Inv m z3 h nx → (∀ (m' : Nat) (w1 w3 w5 w6 : AV) (h' : T Blk) (nx' : Pa), m' < m → Inv m' w3 h' nx' → R (F45.fr x0 w1 x2 w3 x4 w5 w6) h' nx' = .ok True) →
      (sLen x0 fun v1 =>
  sBin .lss .int z3 v1 fun v2 =>
  sCond v2 (sIaddr 1 x0 z3 fun v3 =>
  sLoad v3 h fun v4 =>
  sBin .lss .int v4 (I 0) fun v5 =>
  sG v5 false (fun k => k x0) fun v6 =>
  sG v5 false (fun k => k z3) fun v7 =>
  sG v5 false (fun k => sIaddr 1 v6 v7 k) fun v8 =>
  sG v5 false (fun k => sLoad v8 h k) fun v9 =>
  sG v5 false (fun k => k x0) fun v10 =>
  sG v5 false (fun k => sLen v10 k) fun v11 =>
  sG v5 false (fun k => sBin .geq .int v9 v11 k) fun v12 =>
  sPick v5 (.bool true) v12 fun v13 =>
  sG v13 false (fun k => k x2) fun v14 =>
  sG v13 false (fun k => k x0) fun v15 =>
  sG v13 false (fun k => k z3) fun v16 =>
  sG v13 false (fun k => sIaddr 1 v15 v16 k) fun v17 =>
  sG v13 false (fun k => sLoad v17 h k) fun v18 =>
  sG v13 false (fun k => sIaddr 1 v14 v18 k) fun v19 =>
  sG v13 false (fun k => sLoad v19 h k) fun v20 =>
  sPick v13 (.bool true) v20 fun v21 =>
  sCond v21 (K0 (I 14) h nx) ((IR.run F45.b8 C N (((fnO F45.res K0).blk 0 K).blk 1 (IR.run F45.b9 C N ((fnO F45.res K0).blk 0 K) R)) (IR.run F45.b9 C N ((fnO F45.res K0).blk 0 K) R)) (F45.fr x0 z1 x2 z3 x4 v2 v21) h nx)) (K (F45.fr x0 z1 x2 z3 x4 v2 z6) h nx)) = .ok True) :
    IR.run F45.b2 C N (fnO F45.res K0) K (F45.fr x0 x1 x2 x3 x4 x5 x6) h nx = .ok True := by
  rw [F45.b2, F45.g2_eq, F45.b3]
  refine loop_ok (fun m tm h nx => ∃ z1 z3 z5 z6, tm = (F45.fr x0 z1 x2 z3 x4 z5 z6) ∧ Inv m z3 h nx) ?_ hm ⟨_, _, _, _, rfl, hi⟩
  rintro m tm h nx R ⟨z1, z3, z5, z6, rfl, hi⟩ hR
  rw [F45.e2]
  exact step m z1 z3 z5 z6 h nx R hi fun m' w1 w3 w5 w6 h' nx' hlt hi' => hR m' _ h' nx' hlt ⟨_, _, _, _, rfl, hi'⟩
theorem F45.k10 {N : Nat} {C : Calls Prop} {K0 : Kw Prop} {K : Ks Prop} (x0 x1 x2 x3 x4 x5 x6 : AV) (h : T Blk) (nx : Pa) : IR.run F45.b10 C N (fnO F45.res K0) K (F45.fr x0 x1 x2 x3 x4 x5 x6) h nx =
  K0 (I 0) h nx := by kernel_rfl
theorem F45.k9 {N : Nat} {C : Calls Prop} {K0 : Kw Prop} {E0 : Ks Prop} {K : Ks Prop} (x0 x1 x2 x3 x4 x5 x6 : AV) (h : T Blk) (nx : Pa) : IR.run F45.b9 C N ((fnO F45.res K0).blk 0 E0) K (F45.fr x0 x1 x2 x3 x4 x5 x6) h nx =
  sBin .add .int x3 (I 1) fun v1 =>
  K (F45.fr x0 x1 x2 v1 x4 x5 x6) h nx := by kernel_rfl
theorem F45.k8 {N : Nat} {C : Calls Prop} {K0 : Kw Prop} {E0 E1 : Ks Prop} {K : Ks Prop} (x0 x1 x2 x3 x4 x5 x6 : AV) (h : T Blk) (nx : Pa) : IR.run F45.b8 C N (((fnO F45.res K0).blk 0 E0).blk 1 E1) K (F45.fr x0 x1 x2 x3 x4 x5 x6) h nx =
  sIaddr 1 x0 x3 fun v1 =>
  sLoad v1 h fun v2 =>
  sIaddr 1 x2 v2 fun v3 =>
  sStore 1 v3 (.bool true) h nx fun v4 h5 n6 =>
  K (F45.fr x0 x1 x2 x3 x4 x5 x6) h5 n6 := by kernel_rfl
end Go.Ev
namespace Go.Ev
open Go Go.Proofs
set_option maxRecDepth 100000
theorem F49.g1_eq (X2 : IR) (C : Calls Prop) (N : Nat) (O : Outs Prop) (K : Ks Prop) (x0 x1 x2 x3 x4 x5 x6 x7 x8 : AV) (h : T Blk) (nx : Pa) : IR.run (F49.g1 X2) C N O K (F49.fr x0 x1 x2 x3 x4 x5 x6 x7 x8) h nx =
  IR.run X2 C N (O.blk 0 K) K (F49.fr x0 x1 x2 x3 x4 x5 x6 x7 x8) h nx := by kernel_rfl
theorem F49.tab : T.get none (.of 49) tbl = some F49 := by kernel_rfl
theorem F49.go {N : Nat} {C : Calls Prop} {K0 : Kw Prop} (y0 y1 : AV) (h : T Blk) (nx : Pa) : callFn tbl N C (.of 49) [y0, y1] h nx K0 =
  sBox y0 h nx fun v1 h2 n3 =>
  sLen y1 fun v4 =>
  sMkslice 1 8 [(I 0)] v4 v4 h2 n3 fun v5 h6 n7 =>
  IR.run F49.b1 C N (fnO F49.res K0) (IR.run F49.b9 C N (fnO F49.res K0) (retK F49.res K0)) (F49.fr y0 y1 v1 .nils v5 (I 0) .undef .undef .undef) h6 n7 := by
  rw [callFn_of F49.tab]; kernel_rfl
theorem F49.e1 {N : Nat} {C : Calls Prop} {K0 : Kw Prop} {K R : Ks Prop} (x0 x1 x2 x3 x4 x5 x6 x7 x8 : AV) (h : T Blk) (nx : Pa) : IR.run F49.b3 C N ((fnO F49.res K0).blk 0 K) R (F49.fr x0 x1 x2 x3 x4 x5 x6 x7 x8) h nx =
  sLen x1 fun v1 =>
  sBin .lss .int x5 v1 fun v2 =>
  sCond v2 (sIaddr 1 x1 x5 fun v3 =>
  sLoad v3 h fun v4 =>
  sFaddr 1 x2 fun v5 =>
  sLoad v5 h fun v6 =>
  sCond v6 (sLen x1 fun v7 =>
  sBin .add .int v7 (I 1) fun v8 =>
  sBin .sub .int v8 v4 fun v9 =>
  sFaddr 0 x2 fun v10 =>
  sLoad v10 h fun v11 =>
  sIaddr 1 v11 x5 fun v12 =>
  sLoad v12 h fun v13 =>
  sIaddr 1 x4 v13 fun v14 =>
  sStore 1 v14 v9 h nx fun v15 h16 n17 =>
  sBin .add .int x5 (I 1) fun v18 =>
  R (F49.fr x0 x1 x2 x3 x4 v18 v9 v2 v6) h16 n17) (sFaddr 0 x2 fun v19 =>
  sLoad v19 h fun v20 =>
  sIaddr 1 v20 x5 fun v21 =>
  sLoad v21 h fun v22 =>
  sIaddr 1 x4 v22 fun v23 =>
  sStore 1 v23 v4 h nx fun v24 h25 n26 =>
  sBin .add .int x5 (I 1) fun v27 =>
  R (F49.fr x0 x1 x2 x3 x4 v27 v4 v2 v6) h25 n26)) (K (F49.fr x0 x1 x2 x3 x4 x5 x6 v2 x8) h nx) := by kernel_rfl
theorem F49.L1 {N : Nat} {C : Calls Prop} {K0 : Kw Prop} {K : Ks Prop} {x0 x1 x2 x3 x4 x5 x6 x7 x8 : AV} {h : T Blk} {nx : Pa} (Inv : Nat → AV → T Blk → Pa → Prop) {m : Nat} (hm : m < N) (hi : Inv m x5 h nx)
    (step : ∀ (m : Nat) (z5 z6 z7 z8 : AV) (h : T Blk) (nx : Pa) (R : Ks Prop), Inv m z5 h nx → (∀ (m' : Nat) (w5 w6 w7 w8 : AV) (h' : T Blk) (nx' : Pa), m' < m → Inv m' w5 h' nx' → R (F49.fr x0 x1 x2 x3 x4 w5 w6 w7 w8) h' nx' = .ok True) →
      (sLen x1 fun v1 =>
  sBin .lss .int z5 v1 fun v2 =>
  sCond v2 (sIaddr 1 x1 z5 fun v3 =>
  sLoad v3 h fun v4 =>
  sFaddr 1 x2 fun v5 =>
  sLoad v5 h fun v6 =>
  sCond v6 (sLen x1 fun v7 =>
  sBin .add .int v7 (I 1) fun v8 =>
  sBin .sub .int v8 v4 fun v9 =>
  sFaddr 0 x2 fun v10 =>
  sLoad v10 h fun v11 =>
  sIaddr 1 v11 z5 fun v12 =>
  sLoad v12 h fun v13 =>
  sIaddr 1 x4 v13 fun v14 =>
  sStore 1 v14 v9 h nx fun v15 h16 n17 =>
  sBin .add .int z5 (I 1) fun v18 =>
  R (F49.fr x0 x1 x2 x3 x4 v18 v9 v2 v6) h16 n17) (sFaddr 0 x2 fun v19 =>
  sLoad v19 h fun v20 =>
  sIaddr 1 v20 z5 fun v21 =>
  sLoad v21 h fun v22 =>
  sIaddr 1 x4 v22 fun v23 =>
  sStore 1 v23 v4 h nx fun v24 h25 n26 =>
  sBin .add .int z5 (I 1) fun v27 =>
  R (F49.fr x0 x1 x2 x3 x4 v27 v4 v2 v6) h25 n26)) (K (F49.fr x0 x1 x2 x3 x4 z5 z6 v2 z8) h nx)) = .ok True) :
    IR.run F49.b1 C N (fnO F49.res K0) K (F49.fr x0 x1 x2 x3 x4 x5 x6 x7 x8) h nx = .ok True := by
  rw [F49.b1, F49.g1_eq, F49.b2]
  refine loop_ok (fun m tm h nx => ∃ z5 z6 z7 z8, tm = (F49.fr x0 x1 x2 x3 x4 z5 z6 z7 z8) ∧ Inv m z5 h nx) ?_ hm ⟨_, _, _, _, rfl, hi⟩
  rintro m tm h nx R ⟨z5, z6, z7, z8, rfl, hi⟩ hR
  rw [F49.e1]
  exact step m z5 z6 z7 z8 h nx R hi fun m' w5 w6 w7 w8 h' nx' hlt hi' => hR m' _ h' nx' hlt ⟨_, _, _, _, rfl, hi'⟩
theorem F49.k9 {N : Nat} {C : Calls Prop} {K0 : Kw Prop} {K : Ks Prop} (x0 x1 x2 x3 x4 x5 x6 x7 x8 : AV) (h : T Blk) (nx : Pa) : IR.run F49.b9 C N (fnO F49.res K0) K (F49.fr x0 x1 x2 x3 x4 x5 x6 x7 x8) h nx =
  K0 x4 h nx := by kernel_rfl
end Go.Ev
namespace Go.Ev
open Go Go.Proofs
set_option maxRecDepth 100000
theorem F149.tab : T.get none (.of 149) tbl = some F149 := by kernel_rfl
theorem F149.go {N : Nat} {C : Calls Prop} {K0 : Kw Prop} (y0 y1 : AV) (h : T Blk) (nx : Pa) : callFn tbl N C (.of 149) [y0, y1] h nx K0 =
  sLoad y1 h fun v1 =>
  C.fn 150 (.of 150) [y0, v1] h nx fun v2 h3 n4 =>
  K0 v2 h3 n4 := by
  rw [callFn_of F149.tab]; kernel_rfl
theorem F148.tab : T.get none (.of 148) tbl = some F148 := by kernel_rfl
theorem F148.go {N : Nat} {C : Calls Prop} {K0 : Kw Prop} (y0 y1 : AV) (h : T Blk) (nx : Pa) : callFn tbl N C (.of 148) [y0, y1] h nx K0 =
  C.fn 172 (.of 172) [y0, y1] h nx fun v1 h2 n3 =>
  sBin .geq .int v1 (I 0) fun v4 =>
  K0 v4 h2 n3 := by
  rw [callFn_of F148.tab]; kernel_rfl
theorem F172.g1_eq (X2 : IR) (C : Calls Prop) (N : Nat) (O : Outs Prop) (K : Ks Prop) (x0 x1 x2 x3 x4 x5 x6 x7 : AV) (h : T Blk) (nx : Pa) : IR.run (F172.g1 X2) C N O K (F172.fr x0 x1 x2 x3 x4 x5 x6 x7) h nx =
  IR.run X2 C N (O.blk 0 K) K (F172.fr x0 x1 x2 x3 x4 x5 x6 x7) h nx := by kernel_rfl
theorem F172.tab : T.get none (.of 172) tbl = some F172 := by kernel_rfl
theorem F172.go {N : Nat} {C : Calls Prop} {K0 : Kw Prop} (y0 y1 : AV) (h : T Blk) (nx : Pa) : callFn tbl N C (.of 172) [y0, y1] h nx K0 =
  sLen y0 fun v1 =>
  IR.run F172.b1 C N (fnO F172.res K0) (IR.run F172.b8 C N (fnO F172.res K0) (retK F172.res K0)) (F172.fr y0 y1 (I 0) .undef v1 (I 0) .undef .undef) h nx := by
  rw [callFn_of F172.tab]; kernel_rfl
theorem F172.e1 {N : Nat} {C : Calls Prop} {K0 : Kw Prop} {K R : Ks Prop} (x0 x1 x2 x3 x4 x5 x6 x7 : AV) (h : T Blk) (nx : Pa) : IR.run F172.b3 C N ((fnO F172.res K0).blk 0 K) R (F172.fr x0 x1 x2 x3 x4 x5 x6 x7) h nx =
  sBin .lss .int x5 x4 fun v1 =>
  sCond v1 (sIaddr 1 x0 x5 fun v2 =>
  sLoad v2 h fun v3 =>
  sCall C x1 [v3] h nx fun v4 h5 n6 =>
  sCond v4 (K0 x5 h5 n6) (sBin .add .int x5 (I 1) fun v7 =>
  R (F172.fr x0 x1 x2 x5 x4 v7 v1 v4) h5 n6)) (K (F172.fr x0 x1 x2 x3 x4 x5 v1 x7) h nx) := by kernel_rfl
theorem F172.L1 {N : Nat} {C : Calls Prop} {K0 : Kw Prop} {K : Ks Prop} {x0 x1 x2 x3 x4 x5 x6 x7 : AV} {h : T Blk} {nx : Pa} (Inv : Nat → AV → T Blk → Pa → Prop) {m : Nat} (hm : m < N) (hi : Inv m x5 h nx)
    (step : ∀ (m : Nat) (z2 z3 z5 z6 z7 : AV) (h : T Blk) (nx : Pa) (R : Ks Prop), Inv m z5 h nx → (∀ (m' : Nat) (w2 w3 w5 w6 w7 : AV) (h' : T Blk) (nx' : Pa), m' < m → Inv m' w5 h' nx' → R (F172.fr x0 x1 w2 w3 x4 w5 w6 w7) h' nx' = .ok True) →
      (sBin .lss .int z5 x4 fun v1 =>
  sCond v1 (sIaddr 1 x0 z5 fun v2 =>
  sLoad v2 h fun v3 =>
  sCall C x1 [v3] h nx fun v4 h5 n6 =>
  sCond v4 (K0 z5 h5 n6) (sBin .add .int z5 (I 1) fun v7 =>
  R (F172.fr x0 x1 z2 z5 x4 v7 v1 v4) h5 n6)) (K (F172.fr x0 x1 z2 z3 x4 z5 v1 z7) h nx)) = .ok True) :
    IR.run F172.b1 C N (fnO F172.res K0) K (F172.fr x0 x1 x2 x3 x4 x5 x6 x7) h nx = .ok True := by
  rw [F172.b1, F172.g1_eq, F172.b2]
  refine loop_ok (fun m tm h nx => ∃ z2 z3 z5 z6 z7, tm = (F172.fr x0 x1 z2 z3 x4 z5 z6 z7) ∧ Inv m z5 h nx) ?_ hm ⟨_, _, _, _, _, rfl, hi⟩
  rintro m tm h nx R ⟨z2, z3, z5, z6, z7, rfl, hi⟩ hR
  rw [F172.e1]
  exact step m z2 z3 z5 z6 z7 h nx R hi fun m' w2 w3 w5 w6 w7 h' nx' hlt hi' => hR m' _ h' nx' hlt ⟨_, _, _, _, _, rfl, hi'⟩
theorem F172.k8 {N : Nat} {C : Calls Prop} {K0 : Kw Prop} {K : Ks Prop} (x0 x1 x2 x3 x4 x5 x6 x7 : AV) (h : T Blk) (nx : Pa) : IR.run F172.b8 C N (fnO F172.res K0) K (F172.fr x0 x1 x2 x3 x4 x5 x6 x7) h nx =
  K0 (I (-1)) h nx := by kernel_rfl
theorem F150.g2_eq (X3 : IR) (C : Calls Prop) (N : Nat) (O : Outs Prop) (K : Ks Prop) (x0 x1 x2 x3 x4 x5 x6 x7 x8 : AV) (h : T Blk) (nx : Pa) : IR.run (F150.g2 X3) C N O K (F150.fr x0 x1 x2 x3 x4 x5 x6 x7 x8) h nx =
  IR.run X3 C N (O.blk 0 K) K (F150.fr x0 x1 x2 x3 x4 x5 x6 x7 x8) h nx := by kernel_rfl
theorem F150.tab : T.get none (.of 150) tbl = some F150 := by kernel_rfl
theorem F150.go {N : Nat} {C : Calls Prop} {K0 : Kw Prop} (y0 y1 : AV) (h : T Blk) (nx : Pa) : callFn tbl N C (.of 150) [y0, y1] h nx K0 =
  sLen y0 fun v1 =>
  sLen y1 fun v2 =>
  sBin .neq .int v1 v2 fun v3 =>
  sCond v3 (K0 (.bool false) h nx) (sLen y0 fun v4 =>
  IR.run F150.b2 C N (fnO F150.res K0) (IR.run F150.b9 C N (fnO F150.res K0) (retK F150.res K0)) (F150.fr y0 y1 (.bool false) .undef v3 v4 (I 0) .undef .undef) h nx) := by
  rw [callFn_of F150.tab]; kernel_rfl
theorem F150.e2 {N : Nat} {C : Calls Prop} {K0 : Kw Prop} {K R : Ks Prop} (x0 x1 x2 x3 x4 x5 x6 x7 x8 : AV) (h : T Blk) (nx : Pa) : IR.run F150.b4 C N ((fnO F150.res K0).blk 0 K) R (F150.fr x0 x1 x2 x3 x4 x5 x6 x7 x8) h nx =
  sBin .lss .int x6 x5 fun v1 =>
  sCond v1 (sIaddr 1 x0 x6 fun v2 =>
  sLoad v2 h fun v3 =>
  sIaddr 1 x1 x6 fun v4 =>
  sLoad v4 h fun v5 =>
  sBin .neq .int v3 v5 fun v6 =>
  sCond v6 (K0 (.bool false) h nx) (sBin .add .int x6 (I 1) fun v7 =>
  R (F150.fr x0 x1 x2 x6 x4 x5 v7 v1 v6) h nx)) (K (F150.fr x0 x1 x2 x3 x4 x5 x6 v1 x8) h nx) := by kernel_rfl
theorem F150.L2 {N : Nat} {C : Calls Prop} {K0 : Kw Prop} {K : Ks Prop} {x0 x1 x2 x3 x4 x5 x6 x7 x8 : AV} {h : T Blk} {nx : Pa} (Inv : Nat → AV → T Blk → Pa → Prop) {m : Nat} (hm : m < N) (hi : Inv m x6 h nx)
    (step : ∀ (m : Nat) (z2 z3 z6 z7 z8 : AV) (h : T Blk) (nx : Pa) (R : Ks Prop), Inv m z6 h nx → (∀ (m' : Nat) (w2 w3 w6 w7 w8 : AV) (h' : T Blk) (nx' : Pa), m' < m → Inv m' w6 h' nx' → R (F150.fr x0 x1 w2 w3 x4 x5 w6 w7 w8) h' nx' = .ok True) →
      (sBin .lss .int z6 x5 fun v1 =>
  sCond v1 (sIaddr 1 x0 z6 fun v2 =>
  sLoad v2 h fun v3 =>
  sIaddr 1 x1 z6 fun v4 =>
  sLoad v4 h fun v5 =>
  sBin .neq .int v3 v5 fun v6 =>
  sCond v6 (K0 (.bool false) h nx) (sBin .add .int z6 (I 1) fun v7 =>
  R (F150.fr x0 x1 z2 z6 x4 x5 v7 v1 v6) h nx)) (K (F150.fr x0 x1 z2 z3 x4 x5 z6 v1 z8) h nx)) = .ok True) :
    IR.run F150.b2 C N (fnO F150.res K0) K (F150.fr x0 x1 x2 x3 x4 x5 x6 x7 x8) h nx = .ok True := by
  rw [F150.b2, F150.g2_eq, F150.b3]
  refine loop_ok (fun m tm h nx => ∃ z2 z3 z6 z7 z8, tm = (F150.fr x0 x1 z2 z3 x4 x5 z6 z7 z8) ∧ Inv m z6 h nx) ?_ hm ⟨_, _, _, _, _, rfl, hi⟩
  rintro m tm h nx R ⟨z2, z3, z6, z7, z8, rfl, hi⟩ hR
  rw [F150.e2]
  exact step m z2 z3 z6 z7 z8 h nx R hi fun m' w2 w3 w6 w7 w8 h' nx' hlt hi' => hR m' _ h' nx' hlt ⟨_, _, _, _, _, rfl, hi'⟩
theorem F150.k9 {N : Nat} {C : Calls Prop} {K0 : Kw Prop} {K : Ks Prop} (x0 x1 x2 x3 x4 x5 x6 x7 x8 : AV) (h : T Blk) (nx : Pa) : IR.run F150.b9 C N (fnO F150.res K0) K (F150.fr x0 x1 x2 x3 x4 x5 x6 x7 x8) h nx =
  K0 (.bool true) h nx := by kernel_rfl
theorem F84.g1_eq (X2 : IR) (C : Calls Prop) (N : Nat) (O : Outs Prop) (K : Ks Prop) (x0 x1 x2 x3 x4 x5 : AV) (h : T Blk) (nx : Pa) : IR.run (F84.g1 X2) C N O K (F84.fr x0 x1 x2 x3 x4 x5) h nx =
  IR.run X2 C N (O.blk 0 K) K (F84.fr x0 x1 x2 x3 x4 x5) h nx := by kernel_rfl
theorem F84.tab : T.get none (.of 84) tbl = some F84 := by kernel_rfl
theorem F84.go {N : Nat} {C : Calls Prop} {K0 : Kw Prop} (y0 y1 : AV) (h : T Blk) (nx : Pa) : callFn tbl N C (.of 84) [y0, y1] h nx K0 =
  IR.run F84.b1 C N (fnO F84.res K0) (IR.run F84.b8 C N (fnO F84.res K0) (retK F84.res K0)) (F84.fr y0 y1 (.bool false) (I 0) .undef .undef) h nx := by
  rw [callFn_of F84.tab]; kernel_rfl
theorem F84.e1 {N : Nat} {C : Calls Prop} {K0 : Kw Prop} {K R : Ks Prop} (x0 x1 x2 x3 x4 x5 : AV) (h : T Blk) (nx : Pa) : IR.run F84.b3 C N ((fnO F84.res K0).blk 0 K) R (F84.fr x0 x1 x2 x3 x4 x5) h nx =
  sLen x0 fun v1 =>
  sBin .lss .int x3 v1 fun v2 =>
  sCond v2 (sIaddr 1 x0 x3 fun v3 =>
  sLoad v3 h fun v4 =>
  C.fn 35 (.of 35) [v4, x1] h nx fun v5 h6 n7 =>
  sCond v5 (K0 (.bool true) h6 n7) (sBin .add .int x3 (I 1) fun v8 =>
  R (F84.fr x0 x1 x2 v8 v2 v5) h6 n7)) (K (F84.fr x0 x1 x2 x3 v2 x5) h nx) := by kernel_rfl
theorem F84.L1 {N : Nat} {C : Calls Prop} {K0 : Kw Prop} {K : Ks Prop} {x0 x1 x2 x3 x4 x5 : AV} {h : T Blk} {nx : Pa} (Inv : Nat → AV → T Blk → Pa → Prop) {m : Nat} (hm : m < N) (hi : Inv m x3 h nx)
    (step : ∀ (m : Nat) (z2 z3 z4 z5 : AV) (h : T Blk) (nx : Pa) (R : Ks Prop), Inv m z3 h nx → (∀ (m' : Nat) (w2 w3 w4 w5 : AV) (h' : T Blk) (nx' : Pa), m' < m → Inv m' w3 h' nx' → R (F84.fr x0 x1 w2 w3 w4 w5) h' nx' = .ok True) →
      (sLen x0 fun v1 =>
  sBin .lss .int z3 v1 fun v2 =>
  sCond v2 (sIaddr 1 x0 z3 fun v3 =>
  sLoad v3 h fun v4 =>
  C.fn 35 (.of 35) [v4, x1] h nx fun v5 h6 n7 =>
  sCond v5 (K0 (.bool true) h6 n7) (sBin .add .int z3 (I 1) fun v8 =>
  R (F84.fr x0 x1 z2 v8 v2 v5) h6 n7)) (K (F84.fr x0 x1 z2 z3 v2 z5) h nx)) = .ok True) :
    IR.run F84.b1 C N (fnO F84.res K0) K (F84.fr x0 x1 x2 x3 x4 x5) h nx = .ok True := by
  rw [F84.b1, F84.g1_eq, F84.b2]
  refine loop_ok (fun m tm h nx => ∃ z2 z3 z4 z5, tm = (F84.fr x0 x1 z2 z3 z4 z5) ∧ Inv m z3 h nx) ?_ hm ⟨_, _, _, _, rfl, hi⟩
  rintro m tm h nx R ⟨z2, z3, z4, z5, rfl, hi⟩ hR
  rw [F84.e1]
  exact step m z2 z3 z4 z5 h nx R hi fun m' w2 w3 w4 w5 h' nx' hlt hi' => hR m' _ h' nx' hlt ⟨_, _, _, _, rfl, hi'⟩
theorem F84.k8 {N : Nat} {C : Calls Prop} {K0 : Kw Prop} {K : Ks Prop} (x0 x1 x2 x3 x4 x5 : AV) (h : T Blk) (nx : Pa) : IR.run F84.b8 C N (fnO F84.res K0) K (F84.fr x0 x1 x2 x3 x4 x5) h nx =
  K0 (.bool false) h nx := by kernel_rfl
theorem F121.g1_eq (X2 : IR) (C : Calls Prop) (N : Nat) (O : Outs Prop) (K : Ks Prop) (x0 x1 x2 x3 x4 x5 x6 x7 : AV) (h : T Blk) (nx : Pa) : IR.run (F121.g1 X2) C N O K (F121.fr x0 x1 x2 x3 x4 x5 x6 x7) h nx =
  IR.run X2 C N (O.blk 0 K) K (F121.fr x0 x1 x2 x3 x4 x5 x6 x7) h nx := by kernel_rfl
theorem F121.tab : T.get none (.of 121) tbl = some F121 := by kernel_rfl
theorem F121.go {N : Nat} {C : Calls Prop} {K0 : Kw Prop} (y0 : AV) (h : T Blk) (nx : Pa) : callFn tbl N C (.of 121) [y0] h nx K0 =
  sLen y0 fun v1 =>
  IR.run F121.b1 C N (fnO F121.res K0) (IR.run F121.b8 C N (fnO F121.res K0) (retK F121.res K0)) (F121.fr y0 (I 0) .undef y0 v1 (I 0) .undef .undef) h nx := by
  rw [callFn_of F121.tab]; kernel_rfl
theorem F121.e1 {N : Nat} {C : Calls Prop} {K0 : Kw Prop} {K R : Ks Prop} (x0 x1 x2 x3 x4 x5 x6 x7 : AV) (h : T Blk) (nx : Pa) : IR.run F121.b3 C N ((fnO F121.res K0).blk 0 K) R (F121.fr x0 x1 x2 x3 x4 x5 x6 x7) h nx =
  sBin .lss .int x5 x4 fun v1 =>
  sCond v1 (sIaddr 1 x3 x5 fun v2 =>
  sLoad v2 h fun v3 =>
  sBin .neq .int v3 (I 0) fun v4 =>
  sCond v4 (K0 v3 h nx) (sBin .add .int x5 (I 1) fun v5 =>
  R (F121.fr x0 x1 v3 x3 x4 v5 v1 v4) h nx)) (K (F121.fr x0 x1 x2 x3 x4 x5 v1 x7) h nx) := by kernel_rfl
theorem F121.L1 {N : Nat} {C : Calls Prop} {K0 : Kw Prop} {K : Ks Prop} {x0 x1 x2 x3 x4 x5 x6 x7 : AV} {h : T Blk} {nx : Pa} (Inv : Nat → AV → T Blk → Pa → Prop) {m : Nat} (hm : m < N) (hi : Inv m x5 h nx)
    (step : ∀ (m : Nat) (z1 z2 z5 z6 z7 : AV) (h : T Blk) (nx : Pa) (R : Ks Prop), Inv m z5 h nx → (∀ (m' : Nat) (w1 w2 w5 w6 w7 : AV) (h' : T Blk) (nx' : Pa), m' < m → Inv m' w5 h' nx' → R (F121.fr x0 w1 w2 x3 x4 w5 w6 w7) h' nx' = .ok True) →
      (sBin .lss .int z5 x4 fun v1 =>
  sCond v1 (sIaddr 1 x3 z5 fun v2 =>
  sLoad v2 h fun v3 =>
  sBin .neq .int v3 (I 0) fun v4 =>
  sCond v4 (K0 v3 h nx) (sBin .add .int z5 (I 1) fun v5 =>
  R (F121.fr x0 z1 v3 x3 x4 v5 v1 v4) h nx)) (K (F121.fr x0 z1 z2 x3 x4 z5 v1 z7) h nx)) = .ok True) :
    IR.run F121.b1 C N (fnO F121.res K0) K (F121.fr x0 x1 x2 x3 x4 x5 x6 x7) h nx = .ok True := by
  rw [F121.b1, F121.g1_eq, F121.b2]
  refine loop_ok (fun m tm h nx => ∃ z1 z2 z5 z6 z7, tm = (F121.fr x0 z1 z2 x3 x4 z5 z6 z7) ∧ Inv m z5 h nx) ?_ hm ⟨_, _, _, _, _, rfl, hi⟩
  rintro m tm h nx R ⟨z1, z2, z5, z6, z7, rfl, hi⟩ hR
  rw [F121.e1]
  exact step m z1 z2 z5 z6 z7 h nx R hi fun m' w1 w2 w5 w6 w7 h' nx' hlt hi' => hR m' _ h' nx' hlt ⟨_, _, _, _, _, rfl, hi'⟩
theorem F121.k8 {N : Nat} {C : Calls Prop} {K0 : Kw Prop} {K : Ks Prop} (x0 x1 x2 x3 x4 x5 x6 x7 : AV) (h : T Blk) (nx : Pa) : IR.run F121.b8 C N (fnO F121.res K0) K (F121.fr x0 x1 x2 x3 x4 x5 x6 x7) h nx =
  K0 (I 0) h nx := by kernel_rfl
theorem F123.tab : T.get none (.of 123) tbl = some F123 := by kernel_rfl
theorem F123.go {N : Nat} {C : Calls Prop} {K0 : Kw Prop} (y0 y1 : AV) (h : T Blk) (nx : Pa) : callFn tbl N C (.of 123) [y0, y1] h nx K0 =
  sCond y0 (K0 y1 h nx) (K0 (I 0) h nx) := by
  rw [callFn_of F123.tab]; kernel_rfl
end Go.Ev
namespace Go.Ev
open Go Go.Proofs
set_option maxRecDepth 100000
theorem F25.g2_eq (X3 : IR) (C : Calls Prop) (N : Nat) (O : Outs Prop) (K : Ks Prop) (x0 x1 x2 x3 x4 x5 x6 x7 x8 : AV) (h : T Blk) (nx : Pa) : IR.run (F25.g2 X3) C N O K (F25.fr x0 x1 x2 x3 x4 x5 x6 x7 x8) h nx =
  IR.run X3 C N (O.blk 0 K) K (F25.fr x0 x1 x2 x3 x4 x5 x6 x7 x8) h nx := by kernel_rfl
theorem F25.tab : T.get none (.of 25) tbl = some F25 := by kernel_rfl
theorem F25.go {N : Nat} {C : Calls Prop} {K0 : Kw Prop} (y0 y1 y2 : AV) (h : T Blk) (nx : Pa) : callFn tbl N C (.of 25) [y0, y1, y2] h nx K0 =
  sBox y0 h nx fun v1 h2 n3 =>
  sFaddr 1 v1 fun v4 =>
  sLoad v4 h2 fun v5 =>
  sLen v5 fun v6 =>
  sBin .gtr .int v6 y2 fun v7 =>
  sCond v7 (K0 (.bool false) h2 n3) (IR.run F25.b2 C N (fnO F25.res K0) (IR.run F25.b9 C N (fnO F25.res K0) (retK F25.res K0)) (F25.fr y0 y1 y2 v1 (.bool false) (I 0) v7 .undef .undef) h2 n3) := by
  rw [callFn_of F25.tab]; kernel_rfl
theorem F25.e2 {N : Nat} {C : Calls Prop} {K0 : Kw Prop} {K R : Ks Prop} (x0 x1 x2 x3 x4 x5 x6 x7 x8 : AV) (h : T Blk) (nx : Pa) : IR.run F25.b4 C N ((fnO F25.res K0).blk 0 K) R (F25.fr x0 x1 x2 x3 x4 x5 x6 x7 x8) h nx =
  sFaddr 1 x3 fun v1 =>
  sLoad v1 h fun v2 =>
  sLen v2 fun v3 =>
  sBin .lss .int x5 v3 fun v4 =>
  sCond v4 (sFaddr 1 x3 fun v5 =>
  sLoad v5 h fun v6 =>
  sIaddr 1 v6 x5 fun v7 =>
  sLoad v7 h fun v8 =>
  sLen v8 fun v9 =>
  sBin .gtr .int v9 x1 fun v10 =>
  sCond v10 (K0 (.bool false) h nx) (sBin .add .int x5 (I 1) fun v11 =>
  R (F25.fr x0 x1 x2 x3 x4 v11 x6 v4 v10) h nx)) (K (F25.fr x0 x1 x2 x3 x4 x5 x6 v4 x8) h nx) := by kernel_rfl
theorem F25.L2 {N : Nat} {C : Calls Prop} {K0 : Kw Prop} {K : Ks Prop} {x0 x1 x2 x3 x4 x5 x6 x7 x8 : AV} {h : T Blk} {nx : Pa} (Inv : Nat → AV → T Blk → Pa → Prop) {m : Nat} (hm : m < N) (hi : Inv m x5 h nx)
    (step : ∀ (m : Nat) (z4 z5 z7 z8 : AV) (h : T Blk) (nx : Pa) (R : Ks Prop), Inv m z5 h nx → (∀ (m' : Nat) (w4 w5 w7 w8 : AV) (h' : T Blk) (nx' : Pa), m' < m → Inv m' w5 h' nx' → R (F25.fr x0 x1 x2 x3 w4 w5 x6 w7 w8) h' nx' = .ok True) →
      (sFaddr 1 x3 fun v1 =>
  sLoad v1 h fun v2 =>
  sLen v2 fun v3 =>
  sBin .lss .int z5 v3 fun v4 =>
  sCond v4 (sFaddr 1 x3 fun v5 =>
  sLoad v5 h fun v6 =>
  sIaddr 1 v6 z5 fun v7 =>
  sLoad v7 h fun v8 =>
  sLen v8 fun v9 =>
  sBin .gtr .int v9 x1 fun v10 =>
  sCond v10 (K0 (.bool false) h nx) (sBin .add .int z5 (I 1) fun v11 =>
  R (F25.fr x0 x1 x2 x3 z4 v11 x6 v4 v10) h nx)) (K (F25.fr x0 x1 x2 x3 z4 z5 x6 v4 z8) h nx)) = .ok True) :
    IR.run F25.b2 C N (fnO F25.res K0) K (F25.fr x0 x1 x2 x3 x4 x5 x6 x7 x8) h nx = .ok True := by
  rw [F25.b2, F25.g2_eq, F25.b3]
  refine loop_ok (fun m tm h nx => ∃ z4 z5 z7 z8, tm = (F25.fr x0 x1 x2 x3 z4 z5 x6 z7 z8) ∧ Inv m z5 h nx) ?_ hm ⟨_, _, _, _, rfl, hi⟩
  rintro m tm h nx R ⟨z4, z5, z7, z8, rfl, hi⟩ hR
  rw [F25.e2]
  exact step m z4 z5 z7 z8 h nx R hi fun m' w4 w5 w7 w8 h' nx' hlt hi' => hR m' _ h' nx' hlt ⟨_, _, _, _, rfl, hi'⟩
theorem F25.k9 {N : Nat} {C : Calls Prop} {K0 : Kw Prop} {K : Ks Prop} (x0 x1 x2 x3 x4 x5 x6 x7 x8 : AV) (h : T Blk) (nx : Pa) : IR.run F25.b9 C N (fnO F25.res K0) K (F25.fr x0 x1 x2 x3 x4 x5 x6 x7 x8) h nx =
  K0 (.bool true) h nx := by kernel_rfl
end Go.Ev
namespace Go.Ev
open Go Go.Proofs
set_option maxRecDepth 100000
theorem F27.g10_eq (X11 : IR) (C : Calls Prop) (N : Nat) (O : Outs Prop) (K : Ks Prop) (x0 x1 x2 x3 x4 x5 x6 x7 x8 x9 x10 x11 x12 x13 : AV) (h : T Blk) (nx : Pa) : IR.run (F27.g10 X11) C N O K (F27.fr x0 x1 x2 x3 x4 x5 x6 x7 x8 x9 x10 x11 x12 x13) h nx =
  IR.run X11 C N (O.blk 2 K) K (F27.fr x0 x1 x2 x3 x4 x5 x6 x7 x8 x9 x10 x11 x12 x13) h nx := by kernel_rfl
theorem F27.g3_eq (X4 : IR) (C : Calls Prop) (N : Nat) (O : Outs Prop) (K : Ks Prop) (x0 x1 x2 x3 x4 x5 x6 x7 x8 x9 x10 x11 x12 x13 : AV) (h : T Blk) (nx : Pa) : IR.run (F27.g3 X4) C N O K (F27.fr x0 x1 x2 x3 x4 x5 x6 x7 x8 x9 x10 x11 x12 x13) h nx =
  IR.run X4 C N (O.blk 0 K) K (F27.fr x0 x1 x2 x3 x4 x5 x6 x7 x8 x9 x10 x11 x12 x13) h nx := by kernel_rfl
theorem F27.tab : T.get none (.of 27) tbl = some F27 := by kernel_rfl
theorem F27.go {N : Nat} {C : Calls Prop} {K0 : Kw Prop} (y0 : AV) (h : T Blk) (nx : Pa) : callFn tbl N C (.of 27) [y0] h nx K0 =
  sBox y0 h nx fun v1 h2 n3 =>
  sFaddr 0 v1 fun v4 =>
  sLoad v4 h2 fun v5 =>
  sBin .lss .int v5 (I 1) fun v6 =>
  sG v6 false (fun k => sFaddr 0 v1 k) fun v7 =>
  sG v6 false (fun k => sLoad v7 h2 k) fun v8 =>
  sG v6 false (fun k => sBin .gtr .int v8 (I 256) k) fun v9 =>
  sPick v6 (.bool true) v9 fun v10 =>
  sCond v10 (K0 (I 3) h2 n3) (sFaddr 1 v1 fun v11 =>
  sLoad v11 h2 fun v12 =>
  sLen v12 fun v13 =>
  sBin .gtr .int v13 (I 128) fun v14 =>
  sCond v14 (K0 (I 5) h2 n3) (IR.run F27.b3 C N (fnO F27.res K0) (IR.run F27.b20 C N (fnO F27.res K0) (retK F27.res K0)) (F27.fr y0 v1 (I 0) (I 0) .undef .undef v10 v14 .undef .undef .undef .undef .undef .undef) h2 n3)) := by
  rw [callFn_of F27.tab]; kernel_rfl
theorem F27.e3 {N : Nat} {C : Calls Prop} {K0 : Kw Prop} {K R : Ks Prop} (x0 x1 x2 x3 x4 x5 x6 x7 x8 x9 x10 x11 x12 x13 : AV) (h : T Blk) (nx : Pa) : IR.run F27.b5 C N ((fnO F27.res K0).blk 0 K) R (F27.fr x0 x1 x2 x3 x4 x5 x6 x7 x8 x9 x10 x11 x12 x13) h nx =
  sFaddr 1 x1 fun v1 =>
  sLoad v1 h fun v2 =>
  sLen v2 fun v3 =>
  sBin .lss .int x3 v3 fun v4 =>
  sCond v4 (sFaddr 1 x1 fun v5 =>
  sLoad v5 h fun v6 =>
  sIaddr 1 v6 x3 fun v7 =>
  sLoad v7 h fun v8 =>
  sLen v8 fun v9 =>
  sBin .eql .int v9 (I 0) fun v10 =>
  sCond v10 (K0 (I 12) h nx) (IR.run F27.b10 C N (((fnO F27.res K0).blk 0 K).blk 1 (IR.run F27.b19 C N ((fnO F27.res K0).blk 0 K) R)) (IR.run F27.b18 C N (((fnO F27.res K0).blk 0 K).blk 1 (IR.run F27.b19 C N ((fnO F27.res K0).blk 0 K) R)) (IR.run F27.b19 C N ((fnO F27.res K0).blk 0 K) R)) (F27.fr x0 x1 x2 x3 v8 (I 0) x6 x7 v4 v10 x10 x11 x12 x13) h nx)) (K (F27.fr x0 x1 x2 x3 x4 x5 x6 x7 v4 x9 x10 x11 x12 x13) h nx) := by kernel_rfl
theorem F27.L3 {N : Nat} {C : Calls Prop} {K0 : Kw Prop} {K : Ks Prop} {x0 x1 x2 x3 x4 x5 x6 x7 x8 x9 x10 x11 x12 x13 : AV} {h : T Blk} {nx : Pa} (Inv : Nat → AV → T Blk → Pa → Prop) {m : Nat} (hm : m < N) (hi : Inv m x3 h nx)
    (step : ∀ (m : Nat) (z2 z3 z4 z5 z8 z9 z10 z11 z12 z13 : AV) (h : T Blk) (nx : Pa) (R : Ks Prop), Inv m z3 h nx → (∀ (m' : Nat) (w2 w3 w4 w5 w8 w9 w10 w11 w12 w13 : AV) (h' : T Blk) (nx' : Pa), m' < m → Inv m' w3 h' nx' → R (F27.fr x0 x1 w2 w3 w4 w5 x6 x7 w8 w9 w10 w11 w12 w13) h' nx' = .ok True) →
      (sFaddr 1 x1 fun v1 =>
  sLoad v1 h fun v2 =>
  sLen v2 fun v3 =>
  sBin .lss .int z3 v3 fun v4 =>
  sCond v4 (sFaddr 1 x1 fun v5 =>
  sLoad v5 h fun v6 =>
  sIaddr 1 v6 z3 fun v7 =>
  sLoad v7 h fun v8 =>
  sLen v8 fun v9 =>
  sBin .eql .int v9 (I 0) fun v10 =>
  sCond v10 (K0 (I 12) h nx) (IR.run F27.b10 C N (((fnO F27.res K0).blk 0 K).blk 1 (IR.run F27.b19 C N ((fnO F27.res K0).blk 0 K) R)) (IR.run F27.b18 C N (((fnO F27.res K0).blk 0 K).blk 1 (IR.run F27.b19 C N ((fnO F27.res K0).blk 0 K) R)) (IR.run F27.b19 C N ((fnO F27.res K0).blk 0 K) R)) (F27.fr x0 x1 z2 z3 v8 (I 0) x6 x7 v4 v10 z10 z11 z12 z13) h nx)) (K (F27.fr x0 x1 z2 z3 z4 z5 x6 x7 v4 z9 z10 z11 z12 z13) h nx)) = .ok True) :
    IR.run F27.b3 C N (fnO F27.res K0) K (F27.fr x0 x1 x2 x3 x4 x5 x6 x7 x8 x9 x10 x11 x12 x13) h nx = .ok True := by
  rw [F27.b3, F27.g3_eq, F27.b4]
  refine loop_ok (fun m tm h nx => ∃ z2 z3 z4 z5 z8 z9 z10 z11 z12 z13, tm = (F27.fr x0 x1 z2 z3 z4 z5 x6 x7 z8 z9 z10 z11 z12 z13) ∧ Inv m z3 h nx) ?_ hm ⟨_, _, _, _, _, _, _, _, _, _, rfl, hi⟩
  rintro m tm h nx R ⟨z2, z3, z4, z5, z8, z9, z10, z11, z12, z13, rfl, hi⟩ hR
  rw [F27.e3]
  exact step m z2 z3 z4 z5 z8 z9 z10 z11 z12 z13 h nx R hi fun m' w2 w3 w4 w5 w8 w9 w10 w11 w12 w13 h' nx' hlt hi' => hR m' _ h' nx' hlt ⟨_, _, _, _, _, _, _, _, _, _, rfl, hi'⟩
theorem F27.k20 {N : Nat} {C : Calls Prop} {K0 : Kw Prop} {K : Ks Prop} (x0 x1 x2 x3 x4 x5 x6 x7 x8 x9 x10 x11 x12 x13 : AV) (h : T Blk) (nx : Pa) : IR.run F27.b20 C N (fnO F27.res K0) K (F27.fr x0 x1 x2 x3 x4 x5 x6 x7 x8 x9 x10 x11 x12 x13) h nx =
  K0 (I 0) h nx := by kernel_rfl
theorem F27.k19 {N : Nat} {C : Calls Prop} {K0 : Kw Prop} {E0 : Ks Prop} {K : Ks Prop} (x0 x1 x2 x3 x4 x5 x6 x7 x8 x9 x10 x11 x12 x13 : AV) (h : T Blk) (nx : Pa) : IR.run F27.b19 C N ((fnO F27.res K0).blk 0 E0) K (F27.fr x0 x1 x2 x3 x4 x5 x6 x7 x8 x9 x10 x11 x12 x13) h nx =
  sBin .add .int x3 (I 1) fun v1 =>
  K (F27.fr x0 x1 x2 v1 x4 x5 x6 x7 x8 x9 x10 x11 x12 x13) h nx := by kernel_rfl
theorem F27.e10 {N : Nat} {C : Calls Prop} {K0 : Kw Prop} {E0 E1 : Ks Prop} {K R : Ks Prop} (x0 x1 x2 x3 x4 x5 x6 x7 x8 x9 x10 x11 x12 x13 : AV) (h : T Blk) (nx : Pa) : IR.run F27.b12 C N ((((fnO F27.res K0).blk 0 E0).blk 1 E1).blk 2 K) R (F27.fr x0 x1 x2 x3 x4 x5 x6 x7 x8 x9 x10 x11 x12 x13) h nx =
  sLen x4 fun v1 =>
  sBin .lss .int x5 v1 fun v2 =>
  sCond v2 (sIaddr 1 x4 x5 fun v3 =>
  sLoad v3 h fun v4 =>
  sBin .lss .int v4 (I 0) fun v5 =>
  sG v5 false (fun k => k x4) fun v6 =>
  sG v5 false (fun k => k x5) fun v7 =>
  sG v5 false (fun k => sIaddr 1 v6 v7 k) fun v8 =>
  sG v5 false (fun k => sLoad v8 h k) fun v9 =>
  sG v5 false (fun k => sFaddr 0 x1 k) fun v10 =>
  sG v5 false (fun k => sLoad v10 h k) fun v11 =>
  sG v5 false (fun k => sBin .geq .int v9 v11 k) fun v12 =>
  sPick v5 (.bool true) v12 fun v13 =>
  sCond v13 (K0 (I 10) h nx) ((IR.run F27.b16 C N (((((fnO F27.res K0).blk 0 E0).blk 1 E1).blk 2 K).blk 3 (IR.run F27.b17 C N ((((fnO F27.res K0).blk 0 E0).blk 1 E1).blk 2 K) R)) (IR.run F27.b17 C N ((((fnO F27.res K0).blk 0 E0).blk 1 E1).blk 2 K) R)) (F27.fr x0 x1 x2 x3 x4 x5 x6 x7 x8 x9 v2 v13 x12 x13) h nx)) (K (F27.fr x0 x1 x2 x3 x4 x5 x6 x7 x8 x9 v2 x11 x12 x13) h nx) := by kernel_rfl
theorem F27.L10 {N : Nat} {C : Calls Prop} {K0 : Kw Prop} {E0 E1 : Ks Prop} {K : Ks Prop} {x0 x1 x2 x3 x4 x5 x6 x7 x8 x9 x10 x11 x12 x13 : AV} {h : T Blk} {nx : Pa} (Inv : Nat → AV → T Blk → Pa → Prop) {m : Nat} (hm : m < N) (hi : Inv m x5 h nx)
    (step : ∀ (m : Nat) (z2 z5 z10 z11 z12 : AV) (h : T Blk) (nx : Pa) (R : Ks Prop), Inv m z5 h nx → (∀ (m' : Nat) (w2 w5 w10 w11 w12 : AV) (h' : T Blk) (nx' : Pa), m' < m → Inv m' w5 h' nx' → R (F27.fr x0 x1 w2 x3 x4 w5 x6 x7 x8 x9 w10 w11 w12 x13) h' nx' = .ok True) →
      (sLen x4 fun v1 =>
  sBin .lss .int z5 v1 fun v2 =>
  sCond v2 (sIaddr 1 x4 z5 fun v3 =>
  sLoad v3 h fun v4 =>
  sBin .lss .int v4 (I 0) fun v5 =>
  sG v5 false (fun k => k x4) fun v6 =>
  sG v5 false (fun k => k z5) fun v7 =>
  sG v5 false (fun k => sIaddr 1 v6 v7 k) fun v8 =>
  sG v5 false (fun k => sLoad v8 h k) fun v9 =>
  sG v5 false (fun k => sFaddr 0 x1 k) fun v10 =>
  sG v5 false (fun k => sLoad v10 h k) fun v11 =>
  sG v5 false (fun k => sBin .geq .int v9 v11 k) fun v12 =>
  sPick v5 (.bool true) v12 fun v13 =>
  sCond v13 (K0 (I 10) h nx) ((IR.run F27.b16 C N (((((fnO F27.res K0).blk 0 E0).blk 1 E1).blk 2 K).blk 3 (IR.run F27.b17 C N ((((fnO F27.res K0).blk 0 E0).blk 1 E1).blk 2 K) R)) (IR.run F27.b17 C N ((((fnO F27.res K0).blk 0 E0).blk 1 E1).blk 2 K) R)) (F27.fr x0 x1 z2 x3 x4 z5 x6 x7 x8 x9 v2 v13 z12 x13) h nx)) (K (F27.fr x0 x1 z2 x3 x4 z5 x6 x7 x8 x9 v2 z11 z12 x13) h nx)) = .ok True) :
    IR.run F27.b10 C N (((fnO F27.res K0).blk 0 E0).blk 1 E1) K (F27.fr x0 x1 x2 x3 x4 x5 x6 x7 x8 x9 x10 x11 x12 x13) h nx = .ok True := by
  rw [F27.b10, F27.g10_eq, F27.b11]
  refine loop_ok (fun m tm h nx => ∃ z2 z5 z10 z11 z12, tm = (F27.fr x0 x1 z2 x3 x4 z5 x6 x7 x8 x9 z10 z11 z12 x13) ∧ Inv m z5 h nx) ?_ hm ⟨_, _, _, _, _, rfl, hi⟩
  rintro m tm h nx R ⟨z2, z5, z10, z11, z12, rfl, hi⟩ hR
  rw [F27.e10]
  exact step m z2 z5 z10 z11 z12 h nx R hi fun m' w2 w5 w10 w11 w12 h' nx' hlt hi' => hR m' _ h' nx' hlt ⟨_, _, _, _, _, rfl, hi'⟩
theorem F27.k18 {N : Nat} {C : Calls Prop} {K0 : Kw Prop} {E0 E1 : Ks Prop} {K : Ks Prop} (x0 x1 x2 x3 x4 x5 x6 x7 x8 x9 x10 x11 x12 x13 : AV) (h : T Blk) (nx : Pa) : IR.run F27.b18 C N (((fnO F27.res K0).blk 0 E0).blk 1 E1) K (F27.fr x0 x1 x2 x3 x4 x5 x6 x7 x8 x9 x10 x11 x12 x13) h nx =
  sFaddr 1 x1 fun v1 =>
  sLoad v1 h fun v2 =>
  sSlice 1 v2 none (some x3) none fun v3 =>
  C.fn 84 (.of 84) [v3, x4] h nx fun v4 h5 n6 =>
  sCond v4 (K0 (I 9) h5 n6) (K (F27.fr x0 x1 x2 x3 x4 x5 x6 x7 x8 x9 x10 x11 x12 v4) h5 n6) := by kernel_rfl
theorem F27.k17 {N : Nat} {C : Calls Prop} {K0 : Kw Prop} {E0 E1 E2 : Ks Prop} {K : Ks Prop} (x0 x1 x2 x3 x4 x5 x6 x7 x8 x9 x10 x11 x12 x13 : AV) (h : T Blk) (nx : Pa) : IR.run F27.b17 C N ((((fnO F27.res K0).blk 0 E0).blk 1 E1).blk 2 E2) K (F27.fr x0 x1 x2 x3 x4 x5 x6 x7 x8 x9 x10 x11 x12 x13) h nx =
  sBin .add .int x5 (I 1) fun v1 =>
  K (F27.fr x0 x1 x2 x3 x4 v1 x6 x7 x8 x9 x10 x11 x12 x13) h nx := by kernel_rfl
theorem F27.k16 {N : Nat} {C : Calls Prop} {K0 : Kw Prop} {E0 E1 E2 E3 : Ks Prop} {K : Ks Prop} (x0 x1 x2 x3 x4 x5 x6 x7 x8 x9 x10 x11 x12 x13 : AV) (h : T Blk) (nx : Pa) : IR.run F27.b16 C N (((((fnO F27.res K0).blk 0 E0).blk 1 E1).blk 2 E2).blk 3 E3) K (F27.fr x0 x1 x2 x3 x4 x5 x6 x7 x8 x9 x10 x11 x12 x13) h nx =
  sBin .gtr .int x5 (I 0) fun v1 =>
  sG v1 true (fun k => k x4) fun v2 =>
  sG v1 true (fun k => k x5) fun v3 =>
  sG v1 true (fun k => sIaddr 1 v2 v3 k) fun v4 =>
  sG v1 true (fun k => sLoad v4 h k) fun v5 =>
  sG v1 true (fun k => k x4) fun v6 =>
  sG v1 true (fun k => k x5) fun v7 =>
  sG v1 true (fun k => sBin .sub .int v7 (I 1) k) fun v8 =>
  sG v1 true (fun k => sIaddr 1 v6 v8 k) fun v9 =>
  sG v1 true (fun k => sLoad v9 h k) fun v10 =>
  sG v1 true (fun k => sBin .leq .int v5 v10 k) fun v11 =>
  sPick v1 v11 (.bool false) fun v12 =>
  sCond v12 (K0 (I 11) h nx) (K (F27.fr x0 x1 x2 x3 x4 x5 x6 x7 x8 x9 x10 x11 v12 x13) h nx) := by kernel_rfl
end Go.Ev
namespace Go.Ev
open Go Go.Proofs
set_option maxRecDepth 100000
theorem F122.tab : T.get none (.of 122) tbl = some F122 := by kernel_rfl
theorem F122.go {N : Nat} {C : Calls Prop} {K0 : Kw Prop} (y0 y1 y2 : AV) (h : T Blk) (nx : Pa) : callFn tbl N C (.of 122) [y0, y1, y2] h nx K0 =
  sBox y0 h nx fun v1 h2 n3 =>
  sBox y1 h2 n3 fun v4 h5 n6 =>
  C.fn 131 (.of 131) [y2, (.fn 147 (.of 147) [v1, v4])] h5 n6 fun v7 h8 n9 =>
  C.fn 123 (.of 123) [v7, (I 3)] h8 n9 fun v10 h11 n12 =>
  K0 v10 h11 n12 := by
  rw [callFn_of F122.tab]; kernel_rfl
theorem F147.tab : T.get none (.of 147) tbl = some F147 := by kernel_rfl
theorem F147.go {N : Nat} {C : Calls Prop} {K0 : Kw Prop} (y0 y1 y2 : AV) (h : T Blk) (nx : Pa) : callFn tbl N C (.of 147) [y0, y1, y2] h nx K0 =
  sLoad y1 h fun v1 =>
  sBin .lss .int y0 v1 fun v2 =>
  sG v2 false (fun k => k y0) fun v3 =>
  sG v2 false (fun k => sLoad y2 h k) fun v4 =>
  sG v2 false (fun k => sBin .gtr .int v3 v4 k) fun v5 =>
  sPick v2 (.bool true) v5 fun v6 =>
  K0 v6 h nx := by
  rw [callFn_of F147.tab]; kernel_rfl
theorem F131.tab : T.get none (.of 131) tbl = some F131 := by kernel_rfl
theorem F131.go {N : Nat} {C : Calls Prop} {K0 : Kw Prop} (y0 y1 : AV) (h : T Blk) (nx : Pa) : callFn tbl N C (.of 131) [y0, y1] h nx K0 =
  C.fn 165 (.of 165) [y0, y1] h nx fun v1 h2 n3 =>
  sBin .geq .int v1 (I 0) fun v4 =>
  K0 v4 h2 n3 := by
  rw [callFn_of F131.tab]; kernel_rfl
theorem F165.g1_eq (X2 : IR) (C : Calls Prop) (N : Nat) (O : Outs Prop) (K : Ks Prop) (x0 x1 x2 x3 x4 x5 x6 x7 : AV) (h : T Blk) (nx : Pa) : IR.run (F165.g1 X2) C N O K (F165.fr x0 x1 x2 x3 x4 x5 x6 x7) h nx =
  IR.run X2 C N (O.blk 0 K) K (F165.fr x0 x1 x2 x3 x4 x5 x6 x7) h nx := by kernel_rfl
theorem F165.tab : T.get none (.of 165) tbl = some F165 := by kernel_rfl
theorem F165.go {N : Nat} {C : Calls Prop} {K0 : Kw Prop} (y0 y1 : AV) (h : T Blk) (nx : Pa) : callFn tbl N C (.of 165) [y0, y1] h nx K0 =
  sLen y0 fun v1 =>
  IR.run F165.b1 C N (fnO F165.res K0) (IR.run F165.b8 C N (fnO F165.res K0) (retK F165.res K0)) (F165.fr y0 y1 (I 0) .undef v1 (I 0) .undef .undef) h nx := by
  rw [callFn_of F165.tab]; kernel_rfl
theorem F165.e1 {N : Nat} {C : Calls Prop} {K0 : Kw Prop} {K R : Ks Prop} (x0 x1 x2 x3 x4 x5 x6 x7 : AV) (h : T Blk) (nx : Pa) : IR.run F165.b3 C N ((fnO F165.res K0).blk 0 K) R (F165.fr x0 x1 x2 x3 x4 x5 x6 x7) h nx =
  sBin .lss .int x5 x4 fun v1 =>
  sCond v1 (sIaddr 1 x0 x5 fun v2 =>
  sLoad v2 h fun v3 =>
  sCall C x1 [v3] h nx fun v4 h5 n6 =>
  sCond v4 (K0 x5 h5 n6) (sBin .add .int x5 (I 1) fun v7 =>
  R (F165.fr x0 x1 x2 x5 x4 v7 v1 v4) h5 n6)) (K (F165.fr x0 x1 x2 x3 x4 x5 v1 x7) h nx) := by kernel_rfl
theorem F165.L1 {N : Nat} {C : Calls Prop} {K0 : Kw Prop} {K : Ks Prop} {x0 x1 x2 x3 x4 x5 x6 x7 : AV} {h : T Blk} {nx : Pa} (Inv : Nat → AV → T Blk → Pa → Prop) {m : Nat} (hm : m < N) (hi : Inv m x5 h nx)
    (step : ∀ (m : Nat) (z2 z3 z5 z6 z7 : AV) (h : T Blk) (nx : Pa) (R : Ks Prop), Inv m z5 h nx → (∀ (m' : Nat) (w2 w3 w5 w6 w7 : AV) (h' : T Blk) (nx' : Pa), m' < m → Inv m' w5 h' nx' → R (F165.fr x0 x1 w2 w3 x4 w5 w6 w7) h' nx' = .ok True) →
      (sBin .lss .int z5 x4 fun v1 =>
  sCond v1 (sIaddr 1 x0 z5 fun v2 =>
  sLoad v2 h fun v3 =>
  sCall C x1 [v3] h nx fun v4 h5 n6 =>
  sCond v4 (K0 z5 h5 n6) (sBin .add .int z5 (I 1) fun v7 =>
  R (F165.fr x0 x1 z2 z5 x4 v7 v1 v4) h5 n6)) (K (F165.fr x0 x1 z2 z3 x4 z5 v1 z7) h nx)) = .ok True) :
    IR.run F165.b1 C N (fnO F165.res K0) K (F165.fr x0 x1 x2 x3 x4 x5 x6 x7) h nx = .ok True := by
  rw [F165.b1, F165.g1_eq, F165.b2]
  refine loop_ok (fun m tm h nx => ∃ z2 z3 z5 z6 z7, tm = (F165.fr x0 x1 z2 z3 x4 z5 z6 z7) ∧ Inv m z5 h nx) ?_ hm ⟨_, _, _, _, _, rfl, hi⟩
  rintro m tm h nx R ⟨z2, z3, z5, z6, z7, rfl, hi⟩ hR
  rw [F165.e1]
  exact step m z2 z3 z5 z6 z7 h nx R hi fun m' w2 w3 w5 w6 w7 h' nx' hlt hi' => hR m' _ h' nx' hlt ⟨_, _, _, _, _, rfl, hi'⟩
theorem F165.k8 {N : Nat} {C : Calls Prop} {K0 : Kw Prop} {K : Ks Prop} (x0 x1 x2 x3 x4 x5 x6 x7 : AV) (h : T Blk) (nx : Pa) : IR.run F165.b8 C N (fnO F165.res K0) K (F165.fr x0 x1 x2 x3 x4 x5 x6 x7) h nx =
  K0 (I (-1)) h nx := by kernel_rfl
theorem F80.g1_eq (X2 : IR) (C : Calls Prop) (N : Nat) (O : Outs Prop) (K : Ks Prop) (x0 x1 x2 x3 x4 x5 x6 x7 : AV) (h : T Blk) (nx : Pa) : IR.run (F80.g1 X2) C N O K (F80.fr x0 x1 x2 x3 x4 x5 x6 x7) h nx =
  IR.run X2 C N (O.blk 0 K) K (F80.fr x0 x1 x2 x3 x4 x5 x6 x7) h nx := by kernel_rfl
theorem F80.tab : T.get none (.of 80) tbl = some F80 := by kernel_rfl
theorem F80.go {N : Nat} {C : Calls Prop} {K0 : Kw Prop} (y0 : AV) (h : T Blk) (nx : Pa) : callFn tbl N C (.of 80) [y0] h nx K0 =
  sLen y0 fun v1 =>
  IR.run F80.b1 C N (fnO F80.res K0) (IR.run F80.b8 C N (fnO F80.res K0) (retK F80.res K0)) (F80.fr y0 (I 0) .undef y0 v1 (I 0) .undef .undef) h nx := by
  rw [callFn_of F80.tab]; kernel_rfl
theorem F80.e1 {N : Nat} {C : Calls Prop} {K0 : Kw Prop} {K R : Ks Prop} (x0 x1 x2 x3 x4 x5 x6 x7 : AV) (h : T Blk) (nx : Pa) : IR.run F80.b3 C N ((fnO F80.res K0).blk 0 K) R (F80.fr x0 x1 x2 x3 x4 x5 x6 x7) h nx =
  sBin .lss .int x5 x4 fun v1 =>
  sCond v1 (sIaddr 1 x3 x5 fun v2 =>
  sLoad v2 h fun v3 =>
  sBin .neq .int v3 (I 0) fun v4 =>
  sCond v4 (K0 v3 h nx) (sBin .add .int x5 (I 1) fun v5 =>
  R (F80.fr x0 x1 v3 x3 x4 v5 v1 v4) h nx)) (K (F80.fr x0 x1 x2 x3 x4 x5 v1 x7) h nx) := by kernel_rfl
theorem F80.L1 {N : Nat} {C : Calls Prop} {K0 : Kw Prop} {K : Ks Prop} {x0 x1 x2 x3 x4 x5 x6 x7 : AV} {h : T Blk} {nx : Pa} (Inv : Nat → AV → T Blk → Pa → Prop) {m : Nat} (hm : m < N) (hi : Inv m x5 h nx)
    (step : ∀ (m : Nat) (z1 z2 z5 z6 z7 : AV) (h : T Blk) (nx : Pa) (R : Ks Prop), Inv m z5 h nx → (∀ (m' : Nat) (w1 w2 w5 w6 w7 : AV) (h' : T Blk) (nx' : Pa), m' < m → Inv m' w5 h' nx' → R (F80.fr x0 w1 w2 x3 x4 w5 w6 w7) h' nx' = .ok True) →
      (sBin .lss .int z5 x4 fun v1 =>
  sCond v1 (sIaddr 1 x3 z5 fun v2 =>
  sLoad v2 h fun v3 =>
  sBin .neq .int v3 (I 0) fun v4 =>
  sCond v4 (K0 v3 h nx) (sBin .add .int z5 (I 1) fun v5 =>
  R (F80.fr x0 z1 v3 x3 x4 v5 v1 v4) h nx)) (K (F80.fr x0 z1 z2 x3 x4 z5 v1 z7) h nx)) = .ok True) :
    IR.run F80.b1 C N (fnO F80.res K0) K (F80.fr x0 x1 x2 x3 x4 x5 x6 x7) h nx = .ok True := by
  rw [F80.b1, F80.g1_eq, F80.b2]
  refine loop_ok (fun m tm h nx => ∃ z1 z2 z5 z6 z7, tm = (F80.fr x0 z1 z2 x3 x4 z5 z6 z7) ∧ Inv m z5 h nx) ?_ hm ⟨_, _, _, _, _, rfl, hi⟩
  rintro m tm h nx R ⟨z1, z2, z5, z6, z7, rfl, hi⟩ hR
  rw [F80.e1]
  exact step m z1 z2 z5 z6 z7 h nx R hi fun m' w1 w2 w5 w6 w7 h' nx' hlt hi' => hR m' _ h' nx' hlt ⟨_, _, _, _, _, rfl, hi'⟩
theorem F80.k8 {N : Nat} {C : Calls Prop} {K0 : Kw Prop} {K : Ks Prop} (x0 x1 x2 x3 x4 x5 x6 x7 : AV) (h : T Blk) (nx : Pa) : IR.run F80.b8 C N (fnO F80.res K0) K (F80.fr x0 x1 x2 x3 x4 x5 x6 x7) h nx =
  K0 (I 0) h nx := by kernel_rfl
end Go.Ev
namespace Go.Ev
open Go Go.Proofs
set_option maxRecDepth 100000
theorem F81.g2_eq (X3 : IR) (C : Calls Prop) (N : Nat) (O : Outs Prop) (K : Ks Prop) (x0 x1 x2 x3 x4 x5 x6 x7 x8 x9 x10 : AV) (h : T Blk) (nx : Pa) : IR.run (F81.g2 X3) C N O K (F81.fr x0 x1 x2 x3 x4 x5 x6 x7 x8 x9 x10) h nx =
  IR.run X3 C N (O.blk 0 K) K (F81.fr x0 x1 x2 x3 x4 x5 x6 x7 x8 x9 x10) h nx := by kernel_rfl
theorem F81.tab : T.get none (.of 81) tbl = some F81 := by kernel_rfl
theorem F81.go {N : Nat} {C : Calls Prop} {K0 : Kw Prop} (y0 : AV) (h : T Blk) (nx : Pa) : callFn tbl N C (.of 81) [y0] h nx K0 =
  sBox y0 h nx fun v1 h2 n3 =>
  sFaddr 0 v1 fun v4 =>
  sLoad v4 h2 fun v5 =>
  sFaddr 1 v1 fun v6 =>
  sLoad v6 h2 fun v7 =>
  sLen v7 fun v8 =>
  sBin .gtr .int v8 (I 128) fun v9 =>
  sBslice 1 1 [(I 0)] [(0, 1, v5)] h2 n3 fun v10 h11 n12 =>
  (sBin .gtr .int v8 (I 128) fun v36 => sSame v36 v9 ((sLen v7 fun v35 => sSame v35 v8 ((sLoad v6 h11 fun v34 => sSame v34 v7 ((sFaddr 1 v1 fun v33 => sSame v33 v6 (C.fn 122 (.of 122) [(I 1), (I 256), v10] h11 n12 fun v13 h14 n15 =>
  (sBin .gtr .int v8 (I 128) fun v32 => sSame v32 v9 ((sLen v7 fun v31 => sSame v31 v8 ((sLoad v6 h14 fun v30 => sSame v30 v7 ((sFaddr 1 v1 fun v29 => sSame v29 v6 (C.fn 123 (.of 123) [v9, (I 5)] h14 n15 fun v16 h17 n18 =>
  sBslice 1 2 [(I 0)] [(0, 1, v13), (1, 1, v16)] h17 n18 fun v19 h20 n21 =>
  C.fn 121 (.of 121) [v19] h20 n21 fun v22 h23 n24 =>
  sBin .neq .int v22 (I 0) fun v25 =>
  sCond v25 (K0 v22 h23 n24) (sFaddr 1 v1 fun v26 =>
  sLoad v26 h23 fun v27 =>
  sLen v27 fun v28 =>
  IR.run F81.b2 C N (fnO F81.res K0) (IR.run F81.b9 C N (fnO F81.res K0) (retK F81.res K0)) (F81.fr y0 v1 (I 0) v22 .undef .undef v25 v28 (I 0) .undef .undef) h23 n24))))))))))))))))) := by
  rw [callFn_of F81.tab]; kernel_rfl
theorem F81.e2 {N : Nat} {C : Calls Prop} {K0 : Kw Prop} {K R : Ks Prop} (x0 x1 x2 x3 x4 x5 x6 x7 x8 x9 x10 : AV) (h : T Blk) (nx : Pa) : IR.run F81.b4 C N ((fnO F81.res K0).blk 0 K) R (F81.fr x0 x1 x2 x3 x4 x5 x6 x7 x8 x9 x10) h nx =
  sBin .lss .int x8 x7 fun v1 =>
  sCond v1 (sLoadN 2 x1 h fun v2 =>
  C.fn 124 (.of 124) [v2, x8] h nx fun v3 h4 n5 =>
  sBin .neq .int v3 (I 0) fun v6 =>
  sCond v6 (K0 v3 h4 n5) (sBin .add .int x8 (I 1) fun v7 =>
  R (F81.fr x0 x1 x2 x3 x8 v3 x6 x7 v7 v1 v6) h4 n5)) (K (F81.fr x0 x1 x2 x3 x4 x5 x6 x7 x8 v1 x10) h nx) := by kernel_rfl
theorem F81.L2 {N : Nat} {C : Calls Prop} {K0 : Kw Prop} {K : Ks Prop} {x0 x1 x2 x3 x4 x5 x6 x7 x8 x9 x10 : AV} {h : T Blk} {nx : Pa} (Inv : Nat → AV → T Blk → Pa → Prop) {m : Nat} (hm : m < N) (hi : Inv m x8 h nx)
    (step : ∀ (m : Nat) (z2 z4 z5 z8 z9 z10 : AV) (h : T Blk) (nx : Pa) (R : Ks Prop), Inv m z8 h nx → (∀ (m' : Nat) (w2 w4 w5 w8 w9 w10 : AV) (h' : T Blk) (nx' : Pa), m' < m → Inv m' w8 h' nx' → R (F81.fr x0 x1 w2 x3 w4 w5 x6 x7 w8 w9 w10) h' nx' = .ok True) →
      (sBin .lss .int z8 x7 fun v1 =>
  sCond v1 (sLoadN 2 x1 h fun v2 =>
  C.fn 124 (.of 124) [v2, z8] h nx fun v3 h4 n5 =>
  sBin .neq .int v3 (I 0) fun v6 =>
  sCond v6 (K0 v3 h4 n5) (sBin .add .int z8 (I 1) fun v7 =>
  R (F81.fr x0 x1 z2 x3 z8 v3 x6 x7 v7 v1 v6) h4 n5)) (K (F81.fr x0 x1 z2 x3 z4 z5 x6 x7 z8 v1 z10) h nx)) = .ok True) :
    IR.run F81.b2 C N (fnO F81.res K0) K (F81.fr x0 x1 x2 x3 x4 x5 x6 x7 x8 x9 x10) h nx = .ok True := by
  rw [F81.b2, F81.g2_eq, F81.b3]
  refine loop_ok (fun m tm h nx => ∃ z2 z4 z5 z8 z9 z10, tm = (F81.fr x0 x1 z2 x3 z4 z5 x6 x7 z8 z9 z10) ∧ Inv m z8 h nx) ?_ hm ⟨_, _, _, _, _, _, rfl, hi⟩
  rintro m tm h nx R ⟨z2, z4, z5, z8, z9, z10, rfl, hi⟩ hR
  rw [F81.e2]
  exact step m z2 z4 z5 z8 z9 z10 h nx R hi fun m' w2 w4 w5 w8 w9 w10 h' nx' hlt hi' => hR m' _ h' nx' hlt ⟨_, _, _, _, _, _, rfl, hi'⟩
theorem F81.k9 {N : Nat} {C : Calls Prop} {K0 : Kw Prop} {K : Ks Prop} (x0 x1 x2 x3 x4 x5 x6 x7 x8 x9 x10 : AV) (h : T Blk) (nx : Pa) : IR.run F81.b9 C N (fnO F81.res K0) K (F81.fr x0 x1 x2 x3 x4 x5 x6 x7 x8 x9 x10) h nx =
  K0 (I 0) h nx := by kernel_rfl
theorem F124.g2_eq (X3 : IR) (C : Calls Prop) (N : Nat) (O : Outs Prop) (K : Ks Prop) (x0 x1 x2 x3 x4 x5 x6 x7 x8 x9 x10 x11 x12 x13 : AV) (h : T Blk) (nx : Pa) : IR.run (F124.g2 X3) C N O K (F124.fr x0 x1 x2 x3 x4 x5 x6 x7 x8 x9 x10 x11 x12 x13) h nx =
  IR.run X3 C N (O.blk 0 K) K (F124.fr x0 x1 x2 x3 x4 x5 x6 x7 x8 x9 x10 x11 x12 x13) h nx := by kernel_rfl
theorem F124.tab : T.get none (.of 124) tbl = some F124 := by kernel_rfl
theorem F124.go {N : Nat} {C : Calls Prop} {K0 : Kw Prop} (y0 y1 : AV) (h : T Blk) (nx : Pa) : callFn tbl N C (.of 124) [y0, y1] h nx K0 =
  sBox y0 h nx fun v1 h2 n3 =>
  sFaddr 1 v1 fun v4 =>
  sLoad v4 h2 fun v5 =>
  sIaddr 1 v5 y1 fun v6 =>
  sLoad v6 h2 fun v7 =>
  sAlloc [.nils] h2 n3 fun v8 h9 n10 =>
  sStore 1 v8 v7 h9 n10 fun v11 h12 n13 =>
  sLoad v8 h12 fun v14 =>
  sLen v14 fun v15 =>
  sBin .eql .int v15 (I 0) fun v16 =>
  sCond v16 (K0 (I 12) h12 n13) (sLoad v8 h12 fun v17 =>
  sLen v17 fun v18 =>
  IR.run F124.b2 C N (fnO F124.res K0) (IR.run F124.b9 C N (fnO F124.res K0) (retK F124.res K0)) (F124.fr y0 y1 v1 (I 0) v8 .undef .undef .undef v16 v17 v18 (I 0) .undef .undef) h12 n13) := by
  rw [callFn_of F124.tab]; kernel_rfl
theorem F124.e2 {N : Nat} {C : Calls Prop} {K0 : Kw Prop} {K R : Ks Prop} (x0 x1 x2 x3 x4 x5 x6 x7 x8 x9 x10 x11 x12 x13 : AV) (h : T Blk) (nx : Pa) : IR.run F124.b4 C N ((fnO F124.res K0).blk 0 K) R (F124.fr x0 x1 x2 x3 x4 x5 x6 x7 x8 x9 x10 x11 x12 x13) h nx =
  sBin .lss .int x11 x10 fun v1 =>
  sCond v1 (sIaddr 1 x9 x11 fun v2 =>
  sLoad v2 h fun v3 =>
  sBin .lss .int v3 (I 0) fun v4 =>
  sG v4 false (fun k => k v3) fun v5 =>
  sG v4 false (fun k => sFaddr 0 x2 k) fun v6 =>
  sG v4 false (fun k => sLoad v6 h k) fun v7 =>
  sG v4 false (fun k => sBin .geq .int v5 v7 k) fun v8 =>
  sPick v4 (.bool true) v8 fun v9 =>
  C.fn 123 (.of 123) [v9, (I 10)] h nx fun v10 h11 n12 =>
  sBin .gtr .int x11 (I 0) fun v13 =>
  sG v13 true (fun k => sLoad x4 h11 k) fun v14 =>
  sG v13 true (fun k => k x11) fun v15 =>
  sG v13 true (fun k => sBin .sub .int v15 (I 1) k) fun v16 =>
  sG v13 true (fun k => sIaddr 1 v14 v16 k) fun v17 =>
  sG v13 true (fun k => sLoad v17 h11 k) fun v18 =>
  sG v13 true (fun k => k v3) fun v19 =>
  sG v13 true (fun k => sBin .geq .int v18 v19 k) fun v20 =>
  sPick v13 v20 (.bool false) fun v21 =>
  C.fn 123 (.of 123) [v21, (I 11)] h11 n12 fun v22 h23 n24 =>
  sBslice 1 2 [(I 0)] [(0, 1, v10), (1, 1, v22)] h23 n24 fun v25 h26 n27 =>
  C.fn 121 (.of 121) [v25] h26 n27 fun v28 h29 n30 =>
  sBin .neq .int v28 (I 0) fun v31 =>
  sCond v31 (K0 v28 h29 n30) (sBin .add .int x11 (I 1) fun v32 =>
  R (F124.fr x0 x1 x2 x3 x4 x11 v3 v28 x8 x9 x10 v32 v1 v31) h29 n30)) (K (F124.fr x0 x1 x2 x3 x4 x5 x6 x7 x8 x9 x10 x11 v1 x13) h nx) := by kernel_rfl
theorem F124.L2 {N : Nat} {C : Calls Prop} {K0 : Kw Prop} {K : Ks Prop} {x0 x1 x2 x3 x4 x5 x6 x7 x8 x9 x10 x11 x12 x13 : AV} {h : T Blk} {nx : Pa} (Inv : Nat → AV → T Blk → Pa → Prop) {m : Nat} (hm : m < N) (hi : Inv m x11 h nx)
    (step : ∀ (m : Nat) (z3 z5 z6 z7 z11 z12 z13 : AV) (h : T Blk) (nx : Pa) (R : Ks Prop), Inv m z11 h nx → (∀ (m' : Nat) (w3 w5 w6 w7 w11 w12 w13 : AV) (h' : T Blk) (nx' : Pa), m' < m → Inv m' w11 h' nx' → R (F124.fr x0 x1 x2 w3 x4 w5 w6 w7 x8 x9 x10 w11 w12 w13) h' nx' = .ok True) →
      (sBin .lss .int z11 x10 fun v1 =>
  sCond v1 (sIaddr 1 x9 z11 fun v2 =>
  sLoad v2 h fun v3 =>
  sBin .lss .int v3 (I 0) fun v4 =>
  sG v4 false (fun k => k v3) fun v5 =>
  sG v4 false (fun k => sFaddr 0 x2 k) fun v6 =>
  sG v4 false (fun k => sLoad v6 h k) fun v7 =>
  sG v4 false (fun k => sBin .geq .int v5 v7 k) fun v8 =>
  sPick v4 (.bool true) v8 fun v9 =>
  C.fn 123 (.of 123) [v9, (I 10)] h nx fun v10 h11 n12 =>
  sBin .gtr .int z11 (I 0) fun v13 =>
  sG v13 true (fun k => sLoad x4 h11 k) fun v14 =>
  sG v13 true (fun k => k z11) fun v15 =>
  sG v13 true (fun k => sBin .sub .int v15 (I 1) k) fun v16 =>
  sG v13 true (fun k => sIaddr 1 v14 v16 k) fun v17 =>
  sG v13 true (fun k => sLoad v17 h11 k) fun v18 =>
  sG v13 true (fun k => k v3) fun v19 =>
  sG v13 true (fun k => sBin .geq .int v18 v19 k) fun v20 =>
  sPick v13 v20 (.bool false) fun v21 =>
  C.fn 123 (.of 123) [v21, (I 11)] h11 n12 fun v22 h23 n24 =>
  sBslice 1 2 [(I 0)] [(0, 1, v10), (1, 1, v22)] h23 n24 fun v25 h26 n27 =>
  C.fn 121 (.of 121) [v25] h26 n27 fun v28 h29 n30 =>
  sBin .neq .int v28 (I 0) fun v31 =>
  sCond v31 (K0 v28 h29 n30) (sBin .add .int z11 (I 1) fun v32 =>
  R (F124.fr x0 x1 x2 z3 x4 z11 v3 v28 x8 x9 x10 v32 v1 v31) h29 n30)) (K (F124.fr x0 x1 x2 z3 x4 z5 z6 z7 x8 x9 x10 z11 v1 z13) h nx)) = .ok True) :
    IR.run F124.b2 C N (fnO F124.res K0) K (F124.fr x0 x1 x2 x3 x4 x5 x6 x7 x8 x9 x10 x11 x12 x13) h nx = .ok True := by
  rw [F124.b2, F124.g2_eq, F124.b3]
  refine loop_ok (fun m tm h nx => ∃ z3 z5 z6 z7 z11 z12 z13, tm = (F124.fr x0 x1 x2 z3 x4 z5 z6 z7 x8 x9 x10 z11 z12 z13) ∧ Inv m z11 h nx) ?_ hm ⟨_, _, _, _, _, _, _, rfl, hi⟩
  rintro m tm h nx R ⟨z3, z5, z6, z7, z11, z12, z13, rfl, hi⟩ hR
  rw [F124.e2]
  exact step m z3 z5 z6 z7 z11 z12 z13 h nx R hi fun m' w3 w5 w6 w7 w11 w12 w13 h' nx' hlt hi' => hR m' _ h' nx' hlt ⟨_, _, _, _, _, _, _, rfl, hi'⟩
theorem F124.k9 {N : Nat} {C : Calls Prop} {K0 : Kw Prop} {K : Ks Prop} (x0 x1 x2 x3 x4 x5 x6 x7 x8 x9 x10 x11 x12 x13 : AV) (h : T Blk) (nx : Pa) : IR.run F124.b9 C N (fnO F124.res K0) K (F124.fr x0 x1 x2 x3 x4 x5 x6 x7 x8 x9 x10 x11 x12 x13) h nx =
  sFaddr 1 x2 fun v1 =>
  sLoad v1 h fun v2 =>
  sSlice 1 v2 none (some x1) none fun v3 =>
  C.fn 148 (.of 148) [v3, (.fn 149 (.of 149) [x4])] h nx fun v4 h5 n6 =>
  C.fn 123 (.of 123) [v4, (I 9)] h5 n6 fun v7 h8 n9 =>
  K0 v7 h8 n9 := by kernel_rfl
end Go.Ev
namespace Go.Ev
open Go Go.Proofs
set_option maxRecDepth 100000
theorem F95.g7_eq (X8 : IR) (C : Calls Prop) (N : Nat) (O : Outs Prop) (K : Ks Prop) (x0 x1 x2 x3 x4 x5 x6 x7 x8 x9 x10 x11 x12 x13 : AV) (h : T Blk) (nx : Pa) : IR.run (F95.g7 X8) C N O K (F95.fr x0 x1 x2 x3 x4 x5 x6 x7 x8 x9 x10 x11 x12 x13) h nx =
  IR.run X8 C N (O.blk 2 K) K (F95.fr x0 x1 x2 x3 x4 x5 x6 x7 x8 x9 x10 x11 x12 x13) h nx := by kernel_rfl
theorem F95.g1_eq (X2 : IR) (C : Calls Prop) (N : Nat) (O : Outs Prop) (K : Ks Prop) (x0 x1 x2 x3 x4 x5 x6 x7 x8 x9 x10 x11 x12 x13 : AV) (h : T Blk) (nx : Pa) : IR.run (F95.g1 X2) C N O K (F95.fr x0 x1 x2 x3 x4 x5 x6 x7 x8 x9 x10 x11 x12 x13) h nx =
  IR.run X2 C N (O.blk 0 K) K (F95.fr x0 x1 x2 x3 x4 x5 x6 x7 x8 x9 x10 x11 x12 x13) h nx := by kernel_rfl
theorem F95.tab : T.get none (.of 95) tbl = some F95 := by kernel_rfl
theorem F95.go {N : Nat} {C : Calls Prop} {K0 : Kw Prop} (y0 : AV) (h : T Blk) (nx : Pa) : callFn tbl N C (.of 95) [y0] h nx K0 =
  sBox y0 h nx fun v1 h2 n3 =>
  sFaddr 0 v1 fun v4 =>
  sLoad v4 h2 fun v5 =>
  sMkslice 1 8 [(I 0)] v5 v5 h2 n3 fun v6 h7 n8 =>
  sFaddr 1 v1 fun v9 =>
  sLoad v9 h7 fun v10 =>
  sLen v10 fun v11 =>
  IR.run F95.b1 C N (fnO F95.res K0) (IR.run F95.b15 C N (fnO F95.res K0) (retK F95.res K0)) (F95.fr y0 v1 .nils v6 .undef .undef v10 v11 (I 0) .undef .undef .undef .undef .undef) h7 n8 := by
  rw [callFn_of F95.tab]; kernel_rfl
theorem F95.e1 {N : Nat} {C : Calls Prop} {K0 : Kw Prop} {K R : Ks Prop} (x0 x1 x2 x3 x4 x5 x6 x7 x8 x9 x10 x11 x12 x13 : AV) (h : T Blk) (nx : Pa) : IR.run F95.b3 C N ((fnO F95.res K0).blk 0 K) R (F95.fr x0 x1 x2 x3 x4 x5 x6 x7 x8 x9 x10 x11 x12 x13) h nx =
  sBin .lss .int x8 x7 fun v1 =>
  sCond v1 (sIaddr 1 x6 x8 fun v2 =>
  sLoad v2 h fun v3 =>
  sLen v3 fun v4 =>
  IR.run F95.b7 C N (((fnO F95.res K0).blk 0 K).blk 1 (IR.run F95.b14 C N ((fnO F95.res K0).blk 0 K) R)) (IR.run F95.b14 C N ((fnO F95.res K0).blk 0 K) R) (F95.fr x0 x1 x2 x3 v3 x5 x6 x7 x8 v1 v3 v4 (I 0) x13) h nx) (K (F95.fr x0 x1 x2 x3 x4 x5 x6 x7 x8 v1 x10 x11 x12 x13) h nx) := by kernel_rfl
theorem F95.L1 {N : Nat} {C : Calls Prop} {K0 : Kw Prop} {K : Ks Prop} {x0 x1 x2 x3 x4 x5 x6 x7 x8 x9 x10 x11 x12 x13 : AV} {h : T Blk} {nx : Pa} (Inv : Nat → AV → T Blk → Pa → Prop) {m : Nat} (hm : m < N) (hi : Inv m x8 h nx)
    (step : ∀ (m : Nat) (z4 z5 z8 z9 z10 z11 z12 z13 : AV) (h : T Blk) (nx : Pa) (R : Ks Prop), Inv m z8 h nx → (∀ (m' : Nat) (w4 w5 w8 w9 w10 w11 w12 w13 : AV) (h' : T Blk) (nx' : Pa), m' < m → Inv m' w8 h' nx' → R (F95.fr x0 x1 x2 x3 w4 w5 x6 x7 w8 w9 w10 w11 w12 w13) h' nx' = .ok True) →
      (sBin .lss .int z8 x7 fun v1 =>
  sCond v1 (sIaddr 1 x6 z8 fun v2 =>
  sLoad v2 h fun v3 =>
  sLen v3 fun v4 =>
  IR.run F95.b7 C N (((fnO F95.res K0).blk 0 K).blk 1 (IR.run F95.b14 C N ((fnO F95.res K0).blk 0 K) R)) (IR.run F95.b14 C N ((fnO F95.res K0).blk 0 K) R) (F95.fr x0 x1 x2 x3 v3 z5 x6 x7 z8 v1 v3 v4 (I 0) z13) h nx) (K (F95.fr x0 x1 x2 x3 z4 z5 x6 x7 z8 v1 z10 z11 z12 z13) h nx)) = .ok True) :
    IR.run F95.b1 C N (fnO F95.res K0) K (F95.fr x0 x1 x2 x3 x4 x5 x6 x7 x8 x9 x10 x11 x12 x13) h nx = .ok True := by
  rw [F95.b1, F95.g1_eq, F95.b2]
  refine loop_ok (fun m tm h nx => ∃ z4 z5 z8 z9 z10 z11 z12 z13, tm = (F95.fr x0 x1 x2 x3 z4 z5 x6 x7 z8 z9 z10 z11 z12 z13) ∧ Inv m z8 h nx) ?_ hm ⟨_, _, _, _, _, _, _, _, rfl, hi⟩
  rintro m tm h nx R ⟨z4, z5, z8, z9, z10, z11, z12, z13, rfl, hi⟩ hR
  rw [F95.e1]
  exact step m z4 z5 z8 z9 z10 z11 z12 z13 h nx R hi fun m' w4 w5 w8 w9 w10 w11 w12 w13 h' nx' hlt hi' => hR m' _ h' nx' hlt ⟨_, _, _, _, _, _, _, _, rfl, hi'⟩
theorem F95.k15 {N : Nat} {C : Calls Prop} {K0 : Kw Prop} {K : Ks Prop} (x0 x1 x2 x3 x4 x5 x6 x7 x8 x9 x10 x11 x12 x13 : AV) (h : T Blk) (nx : Pa) : IR.run F95.b15 C N (fnO F95.res K0) K (F95.fr x0 x1 x2 x3 x4 x5 x6 x7 x8 x9 x10 x11 x12 x13) h nx =
  K0 x3 h nx := by kernel_rfl
theorem F95.k14 {N : Nat} {C : Calls Prop} {K0 : Kw Prop} {E0 : Ks Prop} {K : Ks Prop} (x0 x1 x2 x3 x4 x5 x6 x7 x8 x9 x10 x11 x12 x13 : AV) (h : T Blk) (nx : Pa) : IR.run F95.b14 C N ((fnO F95.res K0).blk 0 E0) K (F95.fr x0 x1 x2 x3 x4 x5 x6 x7 x8 x9 x10 x11 x12 x13) h nx =
  sBin .add .int x8 (I 1) fun v1 =>
  K (F95.fr x0 x1 x2 x3 x4 x5 x6 x7 v1 x9 x10 x11 x12 x13) h nx := by kernel_rfl
theorem F95.e7 {N : Nat} {C : Calls Prop} {K0 : Kw Prop} {E0 E1 : Ks Prop} {K R : Ks Prop} (x0 x1 x2 x3 x4 x5 x6 x7 x8 x9 x10 x11 x12 x13 : AV) (h : T Blk) (nx : Pa) : IR.run F95.b9 C N ((((fnO F95.res K0).blk 0 E0).blk 1 E1).blk 2 K) R (F95.fr x0 x1 x2 x3 x4 x5 x6 x7 x8 x9 x10 x11 x12 x13) h nx =
  sBin .lss .int x12 x11 fun v1 =>
  sCond v1 (sIaddr 1 x10 x12 fun v2 =>
  sLoad v2 h fun v3 =>
  sIaddr 1 x3 v3 fun v4 =>
  sLoad v4 h fun v5 =>
  sBin .add .int v5 (I 1) fun v6 =>
  sIaddr 1 x3 v3 fun v7 =>
  sStore 1 v7 v6 h nx fun v8 h9 n10 =>
  sBin .add .int x12 (I 1) fun v11 =>
  R (F95.fr x0 x1 x2 x3 x4 v3 x6 x7 x8 x9 x10 x11 v11 v1) h9 n10) (K (F95.fr x0 x1 x2 x3 x4 x5 x6 x7 x8 x9 x10 x11 x12 v1) h nx) := by kernel_rfl
theorem F95.L7 {N : Nat} {C : Calls Prop} {K0 : Kw Prop} {E0 E1 : Ks Prop} {K : Ks Prop} {x0 x1 x2 x3 x4 x5 x6 x7 x8 x9 x10 x11 x12 x13 : AV} {h : T Blk} {nx : Pa} (Inv : Nat → AV → T Blk → Pa → Prop) {m : Nat} (hm : m < N) (hi : Inv m x12 h nx)
    (step : ∀ (m : Nat) (z5 z12 z13 : AV) (h : T Blk) (nx : Pa) (R : Ks Prop), Inv m z12 h nx → (∀ (m' : Nat) (w5 w12 w13 : AV) (h' : T Blk) (nx' : Pa), m' < m → Inv m' w12 h' nx' → R (F95.fr x0 x1 x2 x3 x4 w5 x6 x7 x8 x9 x10 x11 w12 w13) h' nx' = .ok True) →
      (sBin .lss .int z12 x11 fun v1 =>
  sCond v1 (sIaddr 1 x10 z12 fun v2 =>
  sLoad v2 h fun v3 =>
  sIaddr 1 x3 v3 fun v4 =>
  sLoad v4 h fun v5 =>
  sBin .add .int v5 (I 1) fun v6 =>
  sIaddr 1 x3 v3 fun v7 =>
  sStore 1 v7 v6 h nx fun v8 h9 n10 =>
  sBin .add .int z12 (I 1) fun v11 =>
  R (F95.fr x0 x1 x2 x3 x4 v3 x6 x7 x8 x9 x10 x11 v11 v1) h9 n10) (K (F95.fr x0 x1 x2 x3 x4 z5 x6 x7 x8 x9 x10 x11 z12 v1) h nx)) = .ok True) :
    IR.run F95.b7 C N (((fnO F95.res K0).blk 0 E0).blk 1 E1) K (F95.fr x0 x1 x2 x3 x4 x5 x6 x7 x8 x9 x10 x11 x12 x13) h nx = .ok True := by
  rw [F95.b7, F95.g7_eq, F95.b8]
  refine loop_ok (fun m tm h nx => ∃ z5 z12 z13, tm = (F95.fr x0 x1 x2 x3 x4 z5 x6 x7 x8 x9 x10 x11 z12 z13) ∧ Inv m z12 h nx) ?_ hm ⟨_, _, _, rfl, hi⟩
  rintro m tm h nx R ⟨z5, z12, z13, rfl, hi⟩ hR
  rw [F95.e7]
  exact step m z5 z12 z13 h nx R hi fun m' w5 w12 w13 h' nx' hlt hi' => hR m' _ h' nx' hlt ⟨_, _, _, rfl, hi'⟩
theorem F85.g7_eq (X8 : IR) (C : Calls Prop) (N : Nat) (O : Outs Prop) (K : Ks Prop) (x0 x1 x2 x3 x4 x5 x6 : AV) (h : T Blk) (nx : Pa) : IR.run (F85.g7 X8) C N O K (F85.fr x0 x1 x2 x3 x4 x5 x6) h nx =
  IR.run X8 C N (O.blk 2 K) K (F85.fr x0 x1 x2 x3 x4 x5 x6) h nx := by kernel_rfl
theorem F85.g1_eq (X2 : IR) (C : Calls Prop) (N : Nat) (O : Outs Prop) (K : Ks Prop) (x0 x1 x2 x3 x4 x5 x6 : AV) (h : T Blk) (nx : Pa) : IR.run (F85.g1 X2) C N O K (F85.fr x0 x1 x2 x3 x4 x5 x6) h nx =
  IR.run X2 C N (O.blk 0 K) K (F85.fr x0 x1 x2 x3 x4 x5 x6) h nx := by kernel_rfl
theorem F85.tab : T.get none (.of 85) tbl = some F85 := by kernel_rfl
theorem F85.go {N : Nat} {C : Calls Prop} {K0 : Kw Prop} (y0 : AV) (h : T Blk) (nx : Pa) : callFn tbl N C (.of 85) [y0] h nx K0 =
  sBslice 1 0 [(I 0)] [] h nx fun v1 h2 n3 =>
  sApp 1 8 v1 y0 h2 n3 fun v4 h5 n6 =>
  IR.run F85.b1 C N (fnO F85.res K0) (IR.run F85.b15 C N (fnO F85.res K0) (retK F85.res K0)) (F85.fr y0 .nils v4 (I 1) .undef .undef .undef) h5 n6 := by
  rw [callFn_of F85.tab]; kernel_rfl
theorem F85.e1 {N : Nat} {C : Calls Prop} {K0 : Kw Prop} {K R : Ks Prop} (x0 x1 x2 x3 x4 x5 x6 : AV) (h : T Blk) (nx : Pa) : IR.run F85.b3 C N ((fnO F85.res K0).blk 0 K) R (F85.fr x0 x1 x2 x3 x4 x5 x6) h nx =
  sLen x2 fun v1 =>
  sBin .lss .int x3 v1 fun v2 =>
  sCond v2 (IR.run F85.b7 C N (((fnO F85.res K0).blk 0 K).blk 1 (IR.run F85.b14 C N ((fnO F85.res K0).blk 0 K) R)) (IR.run F85.b14 C N ((fnO F85.res K0).blk 0 K) R) (F85.fr x0 x1 x2 x3 x3 v2 x6) h nx) (K (F85.fr x0 x1 x2 x3 x4 v2 x6) h nx) := by kernel_rfl
theorem F85.L1 {N : Nat} {C : Calls Prop} {K0 : Kw Prop} {K : Ks Prop} {x0 x1 x2 x3 x4 x5 x6 : AV} {h : T Blk} {nx : Pa} (Inv : Nat → AV → T Blk → Pa → Prop) {m : Nat} (hm : m < N) (hi : Inv m x3 h nx)
    (step : ∀ (m : Nat) (z3 z4 z5 z6 : AV) (h : T Blk) (nx : Pa) (R : Ks Prop), Inv m z3 h nx → (∀ (m' : Nat) (w3 w4 w5 w6 : AV) (h' : T Blk) (nx' : Pa), m' < m → Inv m' w3 h' nx' → R (F85.fr x0 x1 x2 w3 w4 w5 w6) h' nx' = .ok True) →
      (sLen x2 fun v1 =>
  sBin .lss .int z3 v1 fun v2 =>
  sCond v2 (IR.run F85.b7 C N (((fnO F85.res K0).blk 0 K).blk 1 (IR.run F85.b14 C N ((fnO F85.res K0).blk 0 K) R)) (IR.run F85.b14 C N ((fnO F85.res K0).blk 0 K) R) (F85.fr x0 x1 x2 z3 z3 v2 z6) h nx) (K (F85.fr x0 x1 x2 z3 z4 v2 z6) h nx)) = .ok True) :
    IR.run F85.b1 C N (fnO F85.res K0) K (F85.fr x0 x1 x2 x3 x4 x5 x6) h nx = .ok True := by
  rw [F85.b1, F85.g1_eq, F85.b2]
  refine loop_ok (fun m tm h nx => ∃ z3 z4 z5 z6, tm = (F85.fr x0 x1 x2 z3 z4 z5 z6) ∧ Inv m z3 h nx) ?_ hm ⟨_, _, _, _, rfl, hi⟩
  rintro m tm h nx R ⟨z3, z4, z5, z6, rfl, hi⟩ hR
  rw [F85.e1]
  exact step m z3 z4 z5 z6 h nx R hi fun m' w3 w4 w5 w6 h' nx' hlt hi' => hR m' _ h' nx' hlt ⟨_, _, _, _, rfl, hi'⟩
theorem F85.k15 {N : Nat} {C : Calls Prop} {K0 : Kw Prop} {K : Ks Prop} (x0 x1 x2 x3 x4 x5 x6 : AV) (h : T Blk) (nx : Pa) : IR.run F85.b15 C N (fnO F85.res K0) K (F85.fr x0 x1 x2 x3 x4 x5 x6) h nx =
  K0 x2 h nx := by kernel_rfl
theorem F85.k14 {N : Nat} {C : Calls Prop} {K0 : Kw Prop} {E0 : Ks Prop} {K : Ks Prop} (x0 x1 x2 x3 x4 x5 x6 : AV) (h : T Blk) (nx : Pa) : IR.run F85.b14 C N ((fnO F85.res K0).blk 0 E0) K (F85.fr x0 x1 x2 x3 x4 x5 x6) h nx =
  sBin .add .int x3 (I 1) fun v1 =>
  K (F85.fr x0 x1 x2 v1 x4 x5 x6) h nx := by kernel_rfl
theorem F85.e7 {N : Nat} {C : Calls Prop} {K0 : Kw Prop} {E0 E1 : Ks Prop} {K R : Ks Prop} (x0 x1 x2 x3 x4 x5 x6 : AV) (h : T Blk) (nx : Pa) : IR.run F85.b9 C N ((((fnO F85.res K0).blk 0 E0).blk 1 E1).blk 2 K) R (F85.fr x0 x1 x2 x3 x4 x5 x6) h nx =
  sBin .gtr .int x4 (I 0) fun v1 =>
  sG v1 true (fun k => k x2) fun v2 =>
  sG v1 true (fun k => k x4) fun v3 =>
  sG v1 true (fun k => sIaddr 1 v2 v3 k) fun v4 =>
  sG v1 true (fun k => sLoad v4 h k) fun v5 =>
  sG v1 true (fun k => k x2) fun v6 =>
  sG v1 true (fun k => k x4) fun v7 =>
  sG v1 true (fun k => sBin .sub .int v7 (I 1) k) fun v8 =>
  sG v1 true (fun k => sIaddr 1 v6 v8 k) fun v9 =>
  sG v1 true (fun k => sLoad v9 h k) fun v10 =>
  sG v1 true (fun k => sBin .lss .int v5 v10 k) fun v11 =>
  sPick v1 v11 (.bool false) fun v12 =>
  sCond v12 ((IR.run F85.b10 C N ((((fnO F85.res K0).blk 0 E0).blk 1 E1).blk 2 K) R) (F85.fr x0 x1 x2 x3 x4 x5 v12) h nx) (K (F85.fr x0 x1 x2 x3 x4 x5 v12) h nx) := by kernel_rfl
theorem F85.L7 {N : Nat} {C : Calls Prop} {K0 : Kw Prop} {E0 E1 : Ks Prop} {K : Ks Prop} {x0 x1 x2 x3 x4 x5 x6 : AV} {h : T Blk} {nx : Pa} (Inv : Nat → AV → T Blk → Pa → Prop) {m : Nat} (hm : m < N) (hi : Inv m x4 h nx)
    (step : ∀ (m : Nat) (z4 z6 : AV) (h : T Blk) (nx : Pa) (R : Ks Prop), Inv m z4 h nx → (∀ (m' : Nat) (w4 w6 : AV) (h' : T Blk) (nx' : Pa), m' < m → Inv m' w4 h' nx' → R (F85.fr x0 x1 x2 x3 w4 x5 w6) h' nx' = .ok True) →
      (sBin .gtr .int z4 (I 0) fun v1 =>
  sG v1 true (fun k => k x2) fun v2 =>
  sG v1 true (fun k => k z4) fun v3 =>
  sG v1 true (fun k => sIaddr 1 v2 v3 k) fun v4 =>
  sG v1 true (fun k => sLoad v4 h k) fun v5 =>
  sG v1 true (fun k => k x2) fun v6 =>
  sG v1 true (fun k => k z4) fun v7 =>
  sG v1 true (fun k => sBin .sub .int v7 (I 1) k) fun v8 =>
  sG v1 true (fun k => sIaddr 1 v6 v8 k) fun v9 =>
  sG v1 true (fun k => sLoad v9 h k) fun v10 =>
  sG v1 true (fun k => sBin .lss .int v5 v10 k) fun v11 =>
  sPick v1 v11 (.bool false) fun v12 =>
  sCond v12 ((IR.run F85.b10 C N ((((fnO F85.res K0).blk 0 E0).blk 1 E1).blk 2 K) R) (F85.fr x0 x1 x2 x3 z4 x5 v12) h nx) (K (F85.fr x0 x1 x2 x3 z4 x5 v12) h nx)) = .ok True) :
    IR.run F85.b7 C N (((fnO F85.res K0).blk 0 E0).blk 1 E1) K (F85.fr x0 x1 x2 x3 x4 x5 x6) h nx = .ok True := by
  rw [F85.b7, F85.g7_eq, F85.b8]
  refine loop_ok (fun m tm h nx => ∃ z4 z6, tm = (F85.fr x0 x1 x2 x3 z4 x5 z6) ∧ Inv m z4 h nx) ?_ hm ⟨_, _, rfl, hi⟩
  rintro m tm h nx R ⟨z4, z6, rfl, hi⟩ hR
  rw [F85.e7]
  exact step m z4 z6 h nx R hi fun m' w4 w6 h' nx' hlt hi' => hR m' _ h' nx' hlt ⟨_, _, rfl, hi'⟩
theorem F85.k10 {N : Nat} {C : Calls Prop} {K0 : Kw Prop} {E0 E1 E2 : Ks Prop} {K : Ks Prop} (x0 x1 x2 x3 x4 x5 x6 : AV) (h : T Blk) (nx : Pa) : IR.run F85.b10 C N ((((fnO F85.res K0).blk 0 E0).blk 1 E1).blk 2 E2) K (F85.fr x0 x1 x2 x3 x4 x5 x6) h nx =
  sBin .sub .int x4 (I 1) fun v1 =>
  sBin .sub .int x4 (I 1) fun v2 =>
  sIaddr 1 x2 v2 fun v3 =>
  sLoad v3 h fun v4 =>
  sIaddr 1 x2 x4 fun v5 =>
  sLoad v5 h fun v6 =>
  sIaddr 1 x2 x4 fun v7 =>
  sStore 1 v7 v4 h nx fun v8 h9 n10 =>
  (sBin .sub .int x4 (I 1) fun v16 => sSame v16 v1 (sSame x4 x4 (sSame x2 x2 (sIaddr 1 x2 v1 fun v11 =>
  sStore 1 v11 v6 h9 n10 fun v12 h13 n14 =>
  sBin .sub .int x4 (I 1) fun v15 =>
  K (F85.fr x0 x1 x2 x3 v15 x5 x6) h13 n14)))) := by kernel_rfl
end Go.Ev
namespace Go.Ev
open Go Go.Proofs
set_option maxRecDepth 100000
end Go.Ev
namespace Go.Ev
open Go Go.Proofs
set_option maxRecDepth 100000
theorem F36.g2_eq (X3 : IR) (C : Calls Prop) (N : Nat) (O : Outs Prop) (K : Ks Prop) (x0 x1 x2 x3 x4 x5 x6 x7 x8 x9 x10 x11 x12 x13 x14 x15 x16 x17 : AV) (h : T Blk) (nx : Pa) : IR.run (F36.g2 X3) C N O K (F36.fr x0 x1 x2 x3 x4 x5 x6 x7 x8 x9 x10 x11 x12 x13 x14 x15 x16 x17) h nx =
  IR.run X3 C N (O.blk 0 K) K (F36.fr x0 x1 x2 x3 x4 x5 x6 x7 x8 x9 x10 x11 x12 x13 x14 x15 x16 x17) h nx := by kernel_rfl
theorem F36.tab : T.get none (.of 36) tbl = some F36 := by kernel_rfl
theorem F36.go {N : Nat} {C : Calls Prop} {K0 : Kw Prop} (y0 y1 : AV) (h : T Blk) (nx : Pa) : callFn tbl N C (.of 36) [y0, y1] h nx K0 =
  sBox y0 h nx fun v1 h2 n3 =>
  sLoadN 2 v1 h2 fun v4 =>
  sLen y1 fun v5 =>
  sFaddr 0 v1 fun v6 =>
  sLoad v6 h2 fun v7 =>
  sBin .neq .int v5 v7 fun v8 =>
  C.fn 81 (.of 81) [v4] h2 n3 fun v9 h10 n11 =>
  sSame y1 y1 ((sBin .neq .int v5 v7 fun v44 => sSame v44 v8 ((sLoad v6 h10 fun v43 => sSame v43 v7 ((sFaddr 0 v1 fun v42 => sSame v42 v6 ((sLen y1 fun v41 => sSame v41 v5 (sSame y1 y1 (C.fn 82 (.of 82) [v8, (I 2)] h10 n11 fun v12 h13 n14 =>
  sSame y1 y1 (C.fn 94 (.of 94) [y1] h13 n14 fun v15 h16 n17 =>
  C.fn 82 (.of 82) [v15, (I 3)] h16 n17 fun v18 h19 n20 =>
  sBslice 1 3 [(I 0)] [(0, 1, v9), (1, 1, v12), (2, 1, v18)] h19 n20 fun v21 h22 n23 =>
  C.fn 80 (.of 80) [v21] h22 n23 fun v24 h25 n26 =>
  sBin .neq .int v24 (I 0) fun v27 =>
  sCond v27 (K0 (.tup [.nils, v24]) h25 n26) (sLen y1 fun v28 =>
  sMkslice 1 8 [(I 0)] v28 v28 h25 n26 fun v29 h30 n31 =>
  sLen y1 fun v32 =>
  sMkslice 1 1 [(.bool false)] v32 v32 h30 n31 fun v33 h34 n35 =>
  sLoadN 2 v1 h34 fun v36 =>
  C.fn 95 (.of 95) [v36] h34 n35 fun v37 h38 n39 =>
  sLen v37 fun v40 =>
  IR.run F36.b2 C N (fnO F36.res K0) (IR.run F36.b10 C N (fnO F36.res K0) (retK F36.res K0)) (F36.fr y0 y1 v1 .nils (I 0) v24 v29 v33 .undef .undef .undef .undef v27 v37 v40 (I 0) .undef .undef) h38 n39)))))))))))) := by
  rw [callFn_of F36.tab]; kernel_rfl
theorem F36.e2 {N : Nat} {C : Calls Prop} {K0 : Kw Prop} {K R : Ks Prop} (x0 x1 x2 x3 x4 x5 x6 x7 x8 x9 x10 x11 x12 x13 x14 x15 x16 x17 : AV) (h : T Blk) (nx : Pa) : IR.run F36.b4 C N ((fnO F36.res K0).blk 0 K) R (F36.fr x0 x1 x2 x3 x4 x5 x6 x7 x8 x9 x10 x11 x12 x13 x14 x15 x16 x17) h nx =
  sBin .lss .int x15 x14 fun v1 =>
  sCond v1 (sIaddr 1 x13 x15 fun v2 =>
  sLoad v2 h fun v3 =>
  sIaddr 1 x1 x15 fun v4 =>
  sLoad v4 h fun v5 =>
  sBin .lss .int v5 (I 1) fun v6 =>
  sG v6 false (fun k => k v5) fun v7 =>
  sG v6 false (fun k => k x1) fun v8 =>
  sG v6 false (fun k => sLen v8 k) fun v9 =>
  sG v6 false (fun k => sBin .gtr .int v7 v9 k) fun v10 =>
  sPick v6 (.bool true) v10 fun v11 =>
  sG v11 false (fun k => k x7) fun v12 =>
  sG v11 false (fun k => k v5) fun v13 =>
  sG v11 false (fun k => sBin .sub .int v13 (I 1) k) fun v14 =>
  sG v11 false (fun k => sIaddr 1 v12 v14 k) fun v15 =>
  sG v11 false (fun k => sLoad v15 h k) fun v16 =>
  sPick v11 (.bool true) v16 fun v17 =>
  sCond v17 (K0 (.tup [.nils, (I 1)]) h nx) ((IR.run F36.b8 C N (((fnO F36.res K0).blk 0 K).blk 1 (IR.run F36.b9 C N ((fnO F36.res K0).blk 0 K) R)) (IR.run F36.b9 C N ((fnO F36.res K0).blk 0 K) R)) (F36.fr x0 x1 x2 x3 x4 x5 x6 x7 x15 v3 v5 x11 x12 x13 x14 x15 v1 v17) h nx)) (K (F36.fr x0 x1 x2 x3 x4 x5 x6 x7 x8 x9 x10 x11 x12 x13 x14 x15 v1 x17) h nx) := by kernel_rfl
theorem F36.L2 {N : Nat} {C : Calls Prop} {K0 : Kw Prop} {K : Ks Prop} {x0 x1 x2 x3 x4 x5 x6 x7 x8 x9 x10 x11 x12 x13 x14 x15 x16 x17 : AV} {h : T Blk} {nx : Pa} (Inv : Nat → AV → T Blk → Pa → Prop) {m : Nat} (hm : m < N) (hi : Inv m x15 h nx)
    (step : ∀ (m : Nat) (z3 z4 z8 z9 z10 z15 z16 z17 : AV) (h : T Blk) (nx : Pa) (R : Ks Prop), Inv m z15 h nx → (∀ (m' : Nat) (w3 w4 w8 w9 w10 w15 w16 w17 : AV) (h' : T Blk) (nx' : Pa), m' < m → Inv m' w15 h' nx' → R (F36.fr x0 x1 x2 w3 w4 x5 x6 x7 w8 w9 w10 x11 x12 x13 x14 w15 w16 w17) h' nx' = .ok True) →
      (sBin .lss .int z15 x14 fun v1 =>
  sCond v1 (sIaddr 1 x13 z15 fun v2 =>
  sLoad v2 h fun v3 =>
  sIaddr 1 x1 z15 fun v4 =>
  sLoad v4 h fun v5 =>
  sBin .lss .int v5 (I 1) fun v6 =>
  sG v6 false (fun k => k v5) fun v7 =>
  sG v6 false (fun k => k x1) fun v8 =>
  sG v6 false (fun k => sLen v8 k) fun v9 =>
  sG v6 false (fun k => sBin .gtr .int v7 v9 k) fun v10 =>
  sPick v6 (.bool true) v10 fun v11 =>
  sG v11 false (fun k => k x7) fun v12 =>
  sG v11 false (fun k => k v5) fun v13 =>
  sG v11 false (fun k => sBin .sub .int v13 (I 1) k) fun v14 =>
  sG v11 false (fun k => sIaddr 1 v12 v14 k) fun v15 =>
  sG v11 false (fun k => sLoad v15 h k) fun v16 =>
  sPick v11 (.bool true) v16 fun v17 =>
  sCond v17 (K0 (.tup [.nils, (I 1)]) h nx) ((IR.run F36.b8 C N (((fnO F36.res K0).blk 0 K).blk 1 (IR.run F36.b9 C N ((fnO F36.res K0).blk 0 K) R)) (IR.run F36.b9 C N ((fnO F36.res K0).blk 0 K) R)) (F36.fr x0 x1 x2 z3 z4 x5 x6 x7 z15 v3 v5 x11 x12 x13 x14 z15 v1 v17) h nx)) (K (F36.fr x0 x1 x2 z3 z4 x5 x6 x7 z8 z9 z10 x11 x12 x13 x14 z15 v1 z17) h nx)) = .ok True) :
    IR.run F36.b2 C N (fnO F36.res K0) K (F36.fr x0 x1 x2 x3 x4 x5 x6 x7 x8 x9 x10 x11 x12 x13 x14 x15 x16 x17) h nx = .ok True := by
  rw [F36.b2, F36.g2_eq, F36.b3]
  refine loop_ok (fun m tm h nx => ∃ z3 z4 z8 z9 z10 z15 z16 z17, tm = (F36.fr x0 x1 x2 z3 z4 x5 x6 x7 z8 z9 z10 x11 x12 x13 x14 z15 z16 z17) ∧ Inv m z15 h nx) ?_ hm ⟨_, _, _, _, _, _, _, _, rfl, hi⟩
  rintro m tm h nx R ⟨z3, z4, z8, z9, z10, z15, z16, z17, rfl, hi⟩ hR
  rw [F36.e2]
  exact step m z3 z4 z8 z9 z10 z15 z16 z17 h nx R hi fun m' w3 w4 w8 w9 w10 w15 w16 w17 h' nx' hlt hi' => hR m' _ h' nx' hlt ⟨_, _, _, _, _, _, _, _, rfl, hi'⟩
theorem F36.k10 {N : Nat} {C : Calls Prop} {K0 : Kw Prop} {K : Ks Prop} (x0 x1 x2 x3 x4 x5 x6 x7 x8 x9 x10 x11 x12 x13 x14 x15 x16 x17 : AV) (h : T Blk) (nx : Pa) : IR.run F36.b10 C N (fnO F36.res K0) K (F36.fr x0 x1 x2 x3 x4 x5 x6 x7 x8 x9 x10 x11 x12 x13 x14 x15 x16 x17) h nx =
  C.fn 79 (.of 79) [x6] h nx fun v1 h2 n3 =>
  C.fn 96 (.of 96) [v1] h2 n3 fun v4 h5 n6 =>
  sBslice 1 2 [.nils] [(0, 1, x6), (1, 1, v1)] h5 n6 fun v7 h8 n9 =>
  C.fn 97 (.of 97) [v7, (.fn 92 (.of 92) [])] h8 n9 fun v10 h11 n12 =>
  K0 (.tup [v10, (I 0)]) h11 n12 := by kernel_rfl
theorem F36.k9 {N : Nat} {C : Calls Prop} {K0 : Kw Prop} {E0 : Ks Prop} {K : Ks Prop} (x0 x1 x2 x3 x4 x5 x6 x7 x8 x9 x10 x11 x12 x13 x14 x15 x16 x17 : AV) (h : T Blk) (nx : Pa) : IR.run F36.b9 C N ((fnO F36.res K0).blk 0 E0) K (F36.fr x0 x1 x2 x3 x4 x5 x6 x7 x8 x9 x10 x11 x12 x13 x14 x15 x16 x17) h nx =
  sBin .add .int x15 (I 1) fun v1 =>
  K (F36.fr x0 x1 x2 x3 x4 x5 x6 x7 x8 x9 x10 x11 x12 x13 x14 v1 x16 x17) h nx := by kernel_rfl
theorem F36.k8 {N : Nat} {C : Calls Prop} {K0 : Kw Prop} {E0 E1 : Ks Prop} {K : Ks Prop} (x0 x1 x2 x3 x4 x5 x6 x7 x8 x9 x10 x11 x12 x13 x14 x15 x16 x17 : AV) (h : T Blk) (nx : Pa) : IR.run F36.b8 C N (((fnO F36.res K0).blk 0 E0).blk 1 E1) K (F36.fr x0 x1 x2 x3 x4 x5 x6 x7 x8 x9 x10 x11 x12 x13 x14 x15 x16 x17) h nx =
  sBin .sub .int x10 (I 1) fun v1 =>
  sBin .sub .int x10 (I 1) fun v2 =>
  sIaddr 1 x7 v1 fun v3 =>
  sStore 1 v3 (.bool true) h nx fun v4 h5 n6 =>
  sIaddr 1 x6 v2 fun v7 =>
  sStore 1 v7 x9 h5 n6 fun v8 h9 n10 =>
  K (F36.fr x0 x1 x2 x3 x4 x5 x6 x7 x8 x9 x10 x11 x12 x13 x14 x15 x16 x17) h9 n10 := by kernel_rfl
theorem F94.tab : T.get none (.of 94) tbl = some F94 := by kernel_rfl
theorem F94.go {N : Nat} {C : Calls Prop} {K0 : Kw Prop} (y0 : AV) (h : T Blk) (nx : Pa) : callFn tbl N C (.of 94) [y0] h nx K0 =
  C.fn 131 (.of 131) [y0, (.fn 132 (.of 132) [])] h nx fun v1 h2 n3 =>
  K0 v1 h2 n3 := by
  rw [callFn_of F94.tab]; kernel_rfl
theorem F132.tab : T.get none (.of 132) tbl = some F132 := by kernel_rfl
theorem F132.go {N : Nat} {C : Calls Prop} {K0 : Kw Prop} (y0 : AV) (h : T Blk) (nx : Pa) : callFn tbl N C (.of 132) [y0] h nx K0 =
  sBin .lss .int y0 (I (-999999999)) fun v1 =>
  sG v1 false (fun k => k y0) fun v2 =>
  sG v1 false (fun k => sBin .gtr .int v2 (I 999999999) k) fun v3 =>
  sPick v1 (.bool true) v3 fun v4 =>
  K0 v4 h nx := by
  rw [callFn_of F132.tab]; kernel_rfl
theorem F38.g1_eq (X2 : IR) (C : Calls Prop) (N : Nat) (O : Outs Prop) (K : Ks Prop) (x0 x1 x2 x3 x4 x5 : AV) (h : T Blk) (nx : Pa) : IR.run (F38.g1 X2) C N O K (F38.fr x0 x1 x2 x3 x4 x5) h nx =
  IR.run X2 C N (O.blk 0 K) K (F38.fr x0 x1 x2 x3 x4 x5) h nx := by kernel_rfl
theorem F38.tab : T.get none (.of 38) tbl = some F38 := by kernel_rfl
theorem F38.go {N : Nat} {C : Calls Prop} {K0 : Kw Prop} (y0 : AV) (h : T Blk) (nx : Pa) : callFn tbl N C (.of 38) [y0] h nx K0 =
  C.fn 85 (.of 85) [y0] h nx fun v1 h2 n3 =>
  IR.run F38.b1 C N (fnO F38.res K0) (IR.run F38.b8 C N (fnO F38.res K0) (retK F38.res K0)) (F38.fr y0 (.bool false) v1 (I 0) .undef .undef) h2 n3 := by
  rw [callFn_of F38.tab]; kernel_rfl
theorem F38.e1 {N : Nat} {C : Calls Prop} {K0 : Kw Prop} {K R : Ks Prop} (x0 x1 x2 x3 x4 x5 : AV) (h : T Blk) (nx : Pa) : IR.run F38.b3 C N ((fnO F38.res K0).blk 0 K) R (F38.fr x0 x1 x2 x3 x4 x5) h nx =
  sLen x2 fun v1 =>
  sBin .lss .int x3 v1 fun v2 =>
  sCond v2 (sIaddr 1 x2 x3 fun v3 =>
  sLoad v3 h fun v4 =>
  sBin .add .int x3 (I 1) fun v5 =>
  sBin .neq .int v4 v5 fun v6 =>
  sCond v6 (K0 (.bool false) h nx) (sBin .add .int x3 (I 1) fun v7 =>
  R (F38.fr x0 x1 x2 v7 v2 v6) h nx)) (K (F38.fr x0 x1 x2 x3 v2 x5) h nx) := by kernel_rfl
theorem F38.L1 {N : Nat} {C : Calls Prop} {K0 : Kw Prop} {K : Ks Prop} {x0 x1 x2 x3 x4 x5 : AV} {h : T Blk} {nx : Pa} (Inv : Nat → AV → T Blk → Pa → Prop) {m : Nat} (hm : m < N) (hi : Inv m x3 h nx)
    (step : ∀ (m : Nat) (z1 z3 z4 z5 : AV) (h : T Blk) (nx : Pa) (R : Ks Prop), Inv m z3 h nx → (∀ (m' : Nat) (w1 w3 w4 w5 : AV) (h' : T Blk) (nx' : Pa), m' < m → Inv m' w3 h' nx' → R (F38.fr x0 w1 x2 w3 w4 w5) h' nx' = .ok True) →
      (sLen x2 fun v1 =>
  sBin .lss .int z3 v1 fun v2 =>
  sCond v2 (sIaddr 1 x2 z3 fun v3 =>
  sLoad v3 h fun v4 =>
  sBin .add .int z3 (I 1) fun v5 =>
  sBin .neq .int v4 v5 fun v6 =>
  sCond v6 (K0 (.bool false) h nx) (sBin .add .int z3 (I 1) fun v7 =>
  R (F38.fr x0 z1 x2 v7 v2 v6) h nx)) (K (F38.fr x0 z1 x2 z3 v2 z5) h nx)) = .ok True) :
    IR.run F38.b1 C N (fnO F38.res K0) K (F38.fr x0 x1 x2 x3 x4 x5) h nx = .ok True := by
  rw [F38.b1, F38.g1_eq, F38.b2]
  refine loop_ok (fun m tm h nx => ∃ z1 z3 z4 z5, tm = (F38.fr x0 z1 x2 z3 z4 z5) ∧ Inv m z3 h nx) ?_ hm ⟨_, _, _, _, rfl, hi⟩
  rintro m tm h nx R ⟨z1, z3, z4, z5, rfl, hi⟩ hR
  rw [F38.e1]
  exact step m z1 z3 z4 z5 h nx R hi fun m' w1 w3 w4 w5 h' nx' hlt hi' => hR m' _ h' nx' hlt ⟨_, _, _, _, rfl, hi'⟩
theorem F38.k8 {N : Nat} {C : Calls Prop} {K0 : Kw Prop} {K : Ks Prop} (x0 x1 x2 x3 x4 x5 : AV) (h : T Blk) (nx : Pa) : IR.run F38.b8 C N (fnO F38.res K0) K (F38.fr x0 x1 x2 x3 x4 x5) h nx =
  K0 (.bool true) h nx := by kernel_rfl
theorem F96.g1_eq (X2 : IR) (C : Calls Prop) (N : Nat) (O : Outs Prop) (K : Ks Prop) (x0 x1 x2 x3 : AV) (h : T Blk) (nx : Pa) : IR.run (F96.g1 X2) C N O K (F96.fr x0 x1 x2 x3) h nx =
  IR.run X2 C N (O.blk 0 K) K (F96.fr x0 x1 x2 x3) h nx := by kernel_rfl
theorem F96.tab : T.get none (.of 96) tbl = some F96 := by kernel_rfl
theorem F96.go {N : Nat} {C : Calls Prop} {K0 : Kw Prop} (y0 : AV) (h : T Blk) (nx : Pa) : callFn tbl N C (.of 96) [y0] h nx K0 =
  sLen y0 fun v1 =>
  sBin .sub .int v1 (I 1) fun v2 =>
  IR.run F96.b1 C N (fnO F96.res K0) (retK F96.res K0) (F96.fr y0 (I 0) v2 .undef) h nx := by
  rw [callFn_of F96.tab]; kernel_rfl
theorem F96.e1 {N : Nat} {C : Calls Prop} {K0 : Kw Prop} {K R : Ks Prop} (x0 x1 x2 x3 : AV) (h : T Blk) (nx : Pa) : IR.run F96.b3 C N ((fnO F96.res K0).blk 0 K) R (F96.fr x0 x1 x2 x3) h nx =
  sBin .lss .int x1 x2 fun v1 =>
  sCond v1 (sIaddr 1 x0 x2 fun v2 =>
  sLoad v2 h fun v3 =>
  sIaddr 1 x0 x1 fun v4 =>
  sLoad v4 h fun v5 =>
  sIaddr 1 x0 x1 fun v6 =>
  sStore 1 v6 v3 h nx fun v7 h8 n9 =>
  sSame x2 x2 (sSame x0 x0 (sIaddr 1 x0 x2 fun v10 =>
  sStore 1 v10 v5 h8 n9 fun v11 h12 n13 =>
  sBin .add .int x1 (I 1) fun v14 =>
  sBin .sub .int x2 (I 1) fun v15 =>
  R (F96.fr x0 v14 v15 v1) h12 n13))) (K (F96.fr x0 x1 x2 v1) h nx) := by kernel_rfl
theorem F96.L1 {N : Nat} {C : Calls Prop} {K0 : Kw Prop} {K : Ks Prop} {x0 x1 x2 x3 : AV} {h : T Blk} {nx : Pa} (Inv : Nat → AV → AV → T Blk → Pa → Prop) {m : Nat} (hm : m < N) (hi : Inv m x1 x2 h nx)
    (step : ∀ (m : Nat) (z1 z2 z3 : AV) (h : T Blk) (nx : Pa) (R : Ks Prop), Inv m z1 z2 h nx → (∀ (m' : Nat) (w1 w2 w3 : AV) (h' : T Blk) (nx' : Pa), m' < m → Inv m' w1 w2 h' nx' → R (F96.fr x0 w1 w2 w3) h' nx' = .ok True) →
      (sBin .lss .int z1 z2 fun v1 =>
  sCond v1 (sIaddr 1 x0 z2 fun v2 =>
  sLoad v2 h fun v3 =>
  sIaddr 1 x0 z1 fun v4 =>
  sLoad v4 h fun v5 =>
  sIaddr 1 x0 z1 fun v6 =>
  sStore 1 v6 v3 h nx fun v7 h8 n9 =>
  sSame z2 z2 (sSame x0 x0 (sIaddr 1 x0 z2 fun v10 =>
  sStore 1 v10 v5 h8 n9 fun v11 h12 n13 =>
  sBin .add .int z1 (I 1) fun v14 =>
  sBin .sub .int z2 (I 1) fun v15 =>
  R (F96.fr x0 v14 v15 v1) h12 n13))) (K (F96.fr x0 z1 z2 v1) h nx)) = .ok True) :
    IR.run F96.b1 C N (fnO F96.res K0) K (F96.fr x0 x1 x2 x3) h nx = .ok True := by
  rw [F96.b1, F96.g1_eq, F96.b2]
  refine loop_ok (fun m tm h nx => ∃ z1 z2 z3, tm = (F96.fr x0 z1 z2 z3) ∧ Inv m z1 z2 h nx) ?_ hm ⟨_, _, _, rfl, hi⟩
  rintro m tm h nx R ⟨z1, z2, z3, rfl, hi⟩ hR
  rw [F96.e1]
  exact step m z1 z2 z3 h nx R hi fun m' w1 w2 w3 h' nx' hlt hi' => hR m' _ h' nx' hlt ⟨_, _, _, rfl, hi'⟩
theorem F97.g2_eq (X3 : IR) (C : Calls Prop) (N : Nat) (O : Outs Prop) (K : Ks Prop) (x0 x1 x2 x3 x4 x5 x6 x7 : AV) (h : T Blk) (nx : Pa) : IR.run (F97.g2 X3) C N O K (F97.fr x0 x1 x2 x3 x4 x5 x6 x7) h nx =
  IR.run X3 C N (O.blk 0 K) K (F97.fr x0 x1 x2 x3 x4 x5 x6 x7) h nx := by kernel_rfl
theorem F97.tab : T.get none (.of 97) tbl = some F97 := by kernel_rfl
theorem F97.go {N : Nat} {C : Calls Prop} {K0 : Kw Prop} (y0 y1 : AV) (h : T Blk) (nx : Pa) : callFn tbl N C (.of 97) [y0, y1] h nx K0 =
  sLen y0 fun v1 =>
  sBin .lss .int v1 (I 1) fun v2 =>
  sCond v2 (.no 102) (sIaddr 1 y0 (I 0) fun v3 =>
  sLoad v3 h fun v4 =>
  IR.run F97.b2 C N (fnO F97.res K0) (IR.run F97.b9 C N (fnO F97.res K0) (retK F97.res K0)) (F97.fr y0 y1 .nils v4 (I 1) v2 .undef .undef) h nx) := by
  rw [callFn_of F97.tab]; kernel_rfl
theorem F97.e2 {N : Nat} {C : Calls Prop} {K0 : Kw Prop} {K R : Ks Prop} (x0 x1 x2 x3 x4 x5 x6 x7 : AV) (h : T Blk) (nx : Pa) : IR.run F97.b4 C N ((fnO F97.res K0).blk 0 K) R (F97.fr x0 x1 x2 x3 x4 x5 x6 x7) h nx =
  sLen x0 fun v1 =>
  sBin .lss .int x4 v1 fun v2 =>
  sCond v2 (sIaddr 1 x0 x4 fun v3 =>
  sLoad v3 h fun v4 =>
  sCall C x1 [v4, x3] h nx fun v5 h6 n7 =>
  sBin .lss .int v5 (I 0) fun v8 =>
  sCond v8 (sIaddr 1 x0 x4 fun v9 =>
  sLoad v9 h6 fun v10 =>
  sBin .add .int x4 (I 1) fun v11 =>
  R (F97.fr x0 x1 x2 v10 v11 x5 v2 v8) h6 n7) (sBin .add .int x4 (I 1) fun v12 =>
  R (F97.fr x0 x1 x2 x3 v12 x5 v2 v8) h6 n7)) (K (F97.fr x0 x1 x2 x3 x4 x5 v2 x7) h nx) := by kernel_rfl
theorem F97.L2 {N : Nat} {C : Calls Prop} {K0 : Kw Prop} {K : Ks Prop} {x0 x1 x2 x3 x4 x5 x6 x7 : AV} {h : T Blk} {nx : Pa} (Inv : Nat → AV → AV → T Blk → Pa → Prop) {m : Nat} (hm : m < N) (hi : Inv m x3 x4 h nx)
    (step : ∀ (m : Nat) (z3 z4 z6 z7 : AV) (h : T Blk) (nx : Pa) (R : Ks Prop), Inv m z3 z4 h nx → (∀ (m' : Nat) (w3 w4 w6 w7 : AV) (h' : T Blk) (nx' : Pa), m' < m → Inv m' w3 w4 h' nx' → R (F97.fr x0 x1 x2 w3 w4 x5 w6 w7) h' nx' = .ok True) →
      (sLen x0 fun v1 =>
  sBin .lss .int z4 v1 fun v2 =>
  sCond v2 (sIaddr 1 x0 z4 fun v3 =>
  sLoad v3 h fun v4 =>
  sCall C x1 [v4, z3] h nx fun v5 h6 n7 =>
  sBin .lss .int v5 (I 0) fun v8 =>
  sCond v8 (sIaddr 1 x0 z4 fun v9 =>
  sLoad v9 h6 fun v10 =>
  sBin .add .int z4 (I 1) fun v11 =>
  R (F97.fr x0 x1 x2 v10 v11 x5 v2 v8) h6 n7) (sBin .add .int z4 (I 1) fun v12 =>
  R (F97.fr x0 x1 x2 z3 v12 x5 v2 v8) h6 n7)) (K (F97.fr x0 x1 x2 z3 z4 x5 v2 z7) h nx)) = .ok True) :
    IR.run F97.b2 C N (fnO F97.res K0) K (F97.fr x0 x1 x2 x3 x4 x5 x6 x7) h nx = .ok True := by
  rw [F97.b2, F97.g2_eq, F97.b3]
  refine loop_ok (fun m tm h nx => ∃ z3 z4 z6 z7, tm = (F97.fr x0 x1 x2 z3 z4 x5 z6 z7) ∧ Inv m z3 z4 h nx) ?_ hm ⟨_, _, _, _, rfl, hi⟩
  rintro m tm h nx R ⟨z3, z4, z6, z7, rfl, hi⟩ hR
  rw [F97.e2]
  exact step m z3 z4 z6 z7 h nx R hi fun m' w3 w4 w6 w7 h' nx' hlt hi' => hR m' _ h' nx' hlt ⟨_, _, _, _, rfl, hi'⟩
theorem F97.k9 {N : Nat} {C : Calls Prop} {K0 : Kw Prop} {K : Ks Prop} (x0 x1 x2 x3 x4 x5 x6 x7 : AV) (h : T Blk) (nx : Pa) : IR.run F97.b9 C N (fnO F97.res K0) K (F97.fr x0 x1 x2 x3 x4 x5 x6 x7) h nx =
  K0 x3 h nx := by kernel_rfl
theorem F92.g1_eq (X2 : IR) (C : Calls Prop) (N : Nat) (O : Outs Prop) (K : Ks Prop) (x0 x1 x2 x3 x4 x5 x6 x7 x8 x9 x10 x11 x12 x13 : AV) (h : T Blk) (nx : Pa) : IR.run (F92.g1 X2) C N O K (F92.fr x0 x1 x2 x3 x4 x5 x6 x7 x8 x9 x10 x11 x12 x13) h nx =
  IR.run X2 C N (O.blk 0 K) K (F92.fr x0 x1 x2 x3 x4 x5 x6 x7 x8 x9 x10 x11 x12 x13) h nx := by kernel_rfl
theorem F92.tab : T.get none (.of 92) tbl = some F92 := by kernel_rfl
theorem F92.go {N : Nat} {C : Calls Prop} {K0 : Kw Prop} (y0 y1 : AV) (h : T Blk) (nx : Pa) : callFn tbl N C (.of 92) [y0, y1] h nx K0 =
  sLen y0 fun v1 =>
  IR.run F92.b1 C N (fnO F92.res K0) (IR.run F92.b9 C N (fnO F92.res K0) (retK F92.res K0)) (F92.fr y0 y1 (I 0) .undef .undef .undef .undef y0 v1 (I 0) .undef .undef .undef .undef) h nx := by
  rw [callFn_of F92.tab]; kernel_rfl
theorem F92.e1 {N : Nat} {C : Calls Prop} {K0 : Kw Prop} {K R : Ks Prop} (x0 x1 x2 x3 x4 x5 x6 x7 x8 x9 x10 x11 x12 x13 : AV) (h : T Blk) (nx : Pa) : IR.run F92.b3 C N ((fnO F92.res K0).blk 0 K) R (F92.fr x0 x1 x2 x3 x4 x5 x6 x7 x8 x9 x10 x11 x12 x13) h nx =
  sBin .lss .int x9 x8 fun v1 =>
  sCond v1 (sIaddr 1 x7 x9 fun v2 =>
  sLoad v2 h fun v3 =>
  sLen x1 fun v4 =>
  sBin .geq .int x9 v4 fun v5 =>
  sCond v5 (K0 (I 1) h nx) (sIaddr 1 x1 x9 fun v6 =>
  sLoad v6 h fun v7 =>
  C.fn 130 (.of 130) [v3, v7] h nx fun v8 h9 n10 =>
  sBin .neq .int v8 (I 0) fun v11 =>
  sCond v11 (K0 v8 h9 n10) (sBin .add .int x9 (I 1) fun v12 =>
  R (F92.fr x0 x1 x2 x9 v3 v7 v8 x7 x8 v12 v1 v5 v11 x13) h9 n10))) (K (F92.fr x0 x1 x2 x3 x4 x5 x6 x7 x8 x9 v1 x11 x12 x13) h nx) := by kernel_rfl
theorem F92.L1 {N : Nat} {C : Calls Prop} {K0 : Kw Prop} {K : Ks Prop} {x0 x1 x2 x3 x4 x5 x6 x7 x8 x9 x10 x11 x12 x13 : AV} {h : T Blk} {nx : Pa} (Inv : Nat → AV → T Blk → Pa → Prop) {m : Nat} (hm : m < N) (hi : Inv m x9 h nx)
    (step : ∀ (m : Nat) (z2 z3 z4 z5 z6 z9 z10 z11 z12 : AV) (h : T Blk) (nx : Pa) (R : Ks Prop), Inv m z9 h nx → (∀ (m' : Nat) (w2 w3 w4 w5 w6 w9 w10 w11 w12 : AV) (h' : T Blk) (nx' : Pa), m' < m → Inv m' w9 h' nx' → R (F92.fr x0 x1 w2 w3 w4 w5 w6 x7 x8 w9 w10 w11 w12 x13) h' nx' = .ok True) →
      (sBin .lss .int z9 x8 fun v1 =>
  sCond v1 (sIaddr 1 x7 z9 fun v2 =>
  sLoad v2 h fun v3 =>
  sLen x1 fun v4 =>
  sBin .geq .int z9 v4 fun v5 =>
  sCond v5 (K0 (I 1) h nx) (sIaddr 1 x1 z9 fun v6 =>
  sLoad v6 h fun v7 =>
  C.fn 130 (.of 130) [v3, v7] h nx fun v8 h9 n10 =>
  sBin .neq .int v8 (I 0) fun v11 =>
  sCond v11 (K0 v8 h9 n10) (sBin .add .int z9 (I 1) fun v12 =>
  R (F92.fr x0 x1 z2 z9 v3 v7 v8 x7 x8 v12 v1 v5 v11 x13) h9 n10))) (K (F92.fr x0 x1 z2 z3 z4 z5 z6 x7 x8 z9 v1 z11 z12 x13) h nx)) = .ok True) :
    IR.run F92.b1 C N (fnO F92.res K0) K (F92.fr x0 x1 x2 x3 x4 x5 x6 x7 x8 x9 x10 x11 x12 x13) h nx = .ok True := by
  rw [F92.b1, F92.g1_eq, F92.b2]
  refine loop_ok (fun m tm h nx => ∃ z2 z3 z4 z5 z6 z9 z10 z11 z12, tm = (F92.fr x0 x1 z2 z3 z4 z5 z6 x7 x8 z9 z10 z11 z12 x13) ∧ Inv m z9 h nx) ?_ hm ⟨_, _, _, _, _, _, _, _, _, rfl, hi⟩
  rintro m tm h nx R ⟨z2, z3, z4, z5, z6, z9, z10, z11, z12, rfl, hi⟩ hR
  rw [F92.e1]
  exact step m z2 z3 z4 z5 z6 z9 z10 z11 z12 h nx R hi fun m' w2 w3 w4 w5 w6 w9 w10 w11 w12 h' nx' hlt hi' => hR m' _ h' nx' hlt ⟨_, _, _, _, _, _, _, _, _, rfl, hi'⟩
theorem F92.k9 {N : Nat} {C : Calls Prop} {K0 : Kw Prop} {K : Ks Prop} (x0 x1 x2 x3 x4 x5 x6 x7 x8 x9 x10 x11 x12 x13 : AV) (h : T Blk) (nx : Pa) : IR.run F92.b9 C N (fnO F92.res K0) K (F92.fr x0 x1 x2 x3 x4 x5 x6 x7 x8 x9 x10 x11 x12 x13) h nx =
  sLen x0 fun v1 =>
  sLen x1 fun v2 =>
  sBin .lss .int v1 v2 fun v3 =>
  sCond v3 (K0 (I (-1)) h nx) (K0 (I 0) h nx) := by kernel_rfl
theorem F130.tab : T.get none (.of 130) tbl = some F130 := by kernel_rfl
theorem F130.go {N : Nat} {C : Calls Prop} {K0 : Kw Prop} (y0 y1 : AV) (h : T Blk) (nx : Pa) : callFn tbl N C (.of 130) [y0, y1] h nx K0 =
  C.fn 164 (.of 164) [y0] h nx fun v1 h2 n3 =>
  C.fn 164 (.of 164) [y1] h2 n3 fun v4 h5 n6 =>
  sCond v1 (sCond v4 (K0 (I 0) h5 n6) (K0 (I (-1)) h5 n6)) (sCond v4 (K0 (I 1) h5 n6) (sBin .lss .int y0 y1 fun v7 =>
  sCond v7 (K0 (I (-1)) h5 n6) (sBin .gtr .int y0 y1 fun v8 =>
  sCond v8 (K0 (I 1) h5 n6) (K0 (I 0) h5 n6)))) := by
  rw [callFn_of F130.tab]; kernel_rfl
theorem F164.tab : T.get none (.of 164) tbl = some F164 := by kernel_rfl
theorem F164.go {N : Nat} {C : Calls Prop} {K0 : Kw Prop} (y0 : AV) (h : T Blk) (nx : Pa) : callFn tbl N C (.of 164) [y0] h nx K0 =
  sBin .neq .int y0 y0 fun v1 =>
  K0 v1 h nx := by
  rw [callFn_of F164.tab]; kernel_rfl
end Go.Ev
namespace Go.Ev
open Go Go.Proofs
set_option maxRecDepth 100000
theorem F10.tab : T.get none (.of 10) tbl = some F10 := by kernel_rfl
theorem F10.go {N : Nat} {C : Calls Prop} {K0 : Kw Prop} (y0 y1 y2 : AV) (h : T Blk) (nx : Pa) : callFn tbl N C (.of 10) [y0, y1, y2] h nx K0 =
  sBox y0 h nx fun v1 h2 n3 =>
  sBox y2 h2 n3 fun v4 h5 n6 =>
  sLoadN 2 v1 h5 fun v7 =>
  C.fn 44 (.of 44) [v7, (I 12), (I 16)] h5 n6 fun v8 h9 n10 =>
  sNot v8 fun v11 =>
  sG v11 false (fun k => k y1) fun v12 =>
  sG v11 false (fun k => sLen v12 k) fun v13 =>
  sG v11 false (fun k => sFaddr 0 v1 k) fun v14 =>
  sG v11 false (fun k => sLoad v14 h9 k) fun v15 =>
  sG v11 false (fun k => sBin .neq .int v13 v15 k) fun v16 =>
  sPick v11 (.bool true) v16 fun v17 =>
  sG v17 false (fun k => k y1) fun v18 =>
  sGW v17 false (fun k => C.fn 38 (.of 38) [v18] h9 n10 k) h9 n10 fun v19 h20 n21 =>
  sG v17 false (fun k => sNot v19 k) fun v22 =>
  sPick v17 (.bool true) v22 fun v23 =>
  sG v23 false (fun k => sLoadN 2 v4 h20 k) fun v24 =>
  sG v23 false (fun k => sFaddr 0 v1 k) fun v25 =>
  sG v23 false (fun k => sLoad v25 h20 k) fun v26 =>
  sGW v23 false (fun k => C.fn 47 (.of 47) [v24, v26] h20 n21 k) h20 n21 fun v27 h28 n29 =>
  sG v23 false (fun k => sBin .neq .int v27 (I 0) k) fun v30 =>
  sPick v23 (.bool true) v30 fun v31 =>
  sG v31 false (fun k => sLoadN 2 v1 h28 k) fun v32 =>
  sG v31 false (fun k => sFaddr 0 v4 k) fun v33 =>
  sG v31 false (fun k => sLoad v33 h28 k) fun v34 =>
  sGW v31 false (fun k => C.fn 48 (.of 48) [v32, v34] h28 n29 k) h28 n29 fun v35 h36 n37 =>
  sG v31 false (fun k => sNot v35 k) fun v38 =>
  sPick v31 (.bool true) v38 fun v39 =>
  sCond v39 (C.fn 18 (.of 18) [] h36 n37 fun v40 h41 n42 =>
  K0 v40 h41 n42) ((IR.run F10.b1 C N (fnO F10.res K0) (retK F10.res K0)) (F10.fr y0 y1 y2 v1 v4 (.bool false) .undef .undef .undef .undef .undef .undef v39) h36 n37) := by
  rw [callFn_of F10.tab]; kernel_rfl
theorem F10.k1 {N : Nat} {C : Calls Prop} {K0 : Kw Prop} {K : Ks Prop} (x0 x1 x2 x3 x4 x5 x6 x7 x8 x9 x10 x11 x12 : AV) (h : T Blk) (nx : Pa) : IR.run F10.b1 C N (fnO F10.res K0) K (F10.fr x0 x1 x2 x3 x4 x5 x6 x7 x8 x9 x10 x11 x12) h nx =
  sLoadN 2 x3 h fun v1 =>
  C.fn 36 (.of 36) [v1, x1] h nx fun v2 h3 n4 =>
  sExt 0 v2 fun v5 =>
  sExt 1 v2 fun v6 =>
  sLoadN 2 x3 h3 fun v7 =>
  sLoadN 2 x4 h3 fun v8 =>
  C.fn 49 (.of 49) [v8, x1] h3 n4 fun v9 h10 n11 =>
  (sLoadN 2 x3 h10 fun v52 => sSame v52 v7 (C.fn 36 (.of 36) [v7, v9] h10 n11 fun v12 h13 n14 =>
  sExt 0 v12 fun v15 =>
  sExt 1 v12 fun v16 =>
  sLoadN 2 x3 h13 fun v17 =>
  C.fn 50 (.of 50) [x1] h13 n14 fun v18 h19 n20 =>
  (sLoadN 2 x3 h19 fun v51 => sSame v51 v17 (C.fn 36 (.of 36) [v17, v18] h19 n20 fun v21 h22 n23 =>
  sExt 0 v21 fun v24 =>
  sExt 1 v21 fun v25 =>
  sBin .add .int v6 v16 fun v26 =>
  sBin .add .int v26 v25 fun v27 =>
  sBin .eql .int v27 (I 0) fun v28 =>
  sG v28 true (fun k => k v5) fun v29 =>
  sG v28 true (fun k => sLen v29 k) fun v30 =>
  sG v28 true (fun k => sFaddr 0 x3 k) fun v31 =>
  sG v28 true (fun k => sLoad v31 h22 k) fun v32 =>
  sG v28 true (fun k => sBin .eql .int v30 v32 k) fun v33 =>
  sPick v28 v33 (.bool false) fun v34 =>
  sG v34 true (fun k => k v5) fun v35 =>
  sG v34 true (fun k => k v15) fun v36 =>
  sGW v34 true (fun k => C.fn 35 (.of 35) [v35, v36] h22 n23 k) h22 n23 fun v37 h38 n39 =>
  sPick v34 v37 (.bool false) fun v40 =>
  sG v40 true (fun k => k v5) fun v41 =>
  sG v40 true (fun k => k v24) fun v42 =>
  sGW v40 true (fun k => C.fn 35 (.of 35) [v41, v42] h38 n39 k) h38 n39 fun v43 h44 n45 =>
  sPick v40 v43 (.bool false) fun v46 =>
  sGW v46 true (fun k => C.fn 18 (.of 18) [] h44 n45 k) h44 n45 fun v47 h48 n49 =>
  sPick v46 v47 (.bool false) fun v50 =>
  K0 v50 h48 n49)))) := by kernel_rfl
end Go.Ev
