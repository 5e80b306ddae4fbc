import Derived.Test.YtepfaegpjddehaaGreatDoorIrT
import Derived.KernelRfl
set_option linter.unusedSimpArgs false
set_option linter.unusedVariables false
namespace Go.Ev
open Go Go.Proofs
set_option maxRecDepth 100000
variable {N : Nat} {C : Calls Prop} {K0 : Kw Prop} {K R : Ks Prop} {h : T Blk} {nx : Pa} {x0 x1 x2 x3 x4 x5 x6 x7 x8 x9 x10 x11 x12 x13 x14 x15 x16 x17 x18 x19 x20 a0 a1 a2 a3 a4 a5 a6 : AV}
theorem F79.tab : T.get none (.of 79) tbl = some F79 := by kernel_rfl
theorem F79.go : zQ tbl N C (.of 79) [a0] h nx K0 =
 sBin .eql (.nil .sl) a0 .nils fun v1 =>
 zH v1 (K0 .nils h nx) (yX 1 0 [(I 0)] [] h nx fun v2 h3 n4 =>
 sApp 1 8 v2 a0 h3 n4 fun v5 h6 n7 =>
 K0 v5 h6 n7) := by
 rw [zL F79.tab]; kernel_rfl
theorem F35.g2_eq (X3 : IR) (C : Calls Prop) (N : Nat) (O : Outs Prop) (K : Ks Prop) (x0 x1 x2 x3 x4 x5 x6 : AV) (h : T Blk) (nx : Pa) : IR.run (F35.g2 X3) C N O K (F35.fr x0 x1 x2 x3 x4 x5 x6) h nx =
 IR.run X3 C N (O.blk 0 K) K (F35.fr x0 x1 x2 x3 x4 x5 x6) h nx := by kernel_rfl
theorem F35.tab : T.get none (.of 35) tbl = some F35 := by kernel_rfl
theorem F35.go : zQ tbl N C (.of 35) [a0, a1] h nx K0 =
 sLen a0 fun v1 =>
 sLen a1 fun v2 =>
 sBin .neq .int v1 v2 fun v3 =>
 zH v3 (K0 (.bool false) h nx) (IR.run F35.b2 C N (fnO F35.res K0) (IR.run F35.b9 C N (fnO F35.res K0) (retK F35.res K0)) (F35.fr a0 a1 (.bool false) (I 0) v3 .undef .undef) h nx) := by
 rw [zL F35.tab]; kernel_rfl
theorem F35.e2 : IR.run F35.b4 C N ((fnO F35.res K0).blk 0 K) R (F35.fr x0 x1 x2 x3 x4 x5 x6) h nx =
 sLen x0 fun v1 =>
 sBin .lss .int x3 v1 fun v2 =>
 zH v2 (zE 1 x0 x3 fun v3 =>
 zA v3 h fun v4 =>
 zE 1 x1 x3 fun v5 =>
 zA v5 h fun v6 =>
 sBin .neq .int v4 v6 fun v7 =>
 zH v7 (K0 (.bool false) h nx) (sBin .add .int x3 (I 1) fun v8 =>
 R (F35.fr x0 x1 x2 v8 x4 v2 v7) h nx)) (K (F35.fr x0 x1 x2 x3 x4 v2 x6) h nx) := by kernel_rfl
theorem F35.L2 (Inv : Nat → AV → T Blk → Pa → Prop) {m : Nat} (hm : m < N) (hi : Inv m x3 h nx)
  (step : ∀ (m : Nat) (z2 z3 z5 z6 : AV) (h : T Blk) (nx : Pa) (R : Ks Prop), Inv m z3 h nx → (∀ (m' : Nat) (w2 w3 w5 w6 : AV) (h' : T Blk) (nx' : Pa), m' < m → Inv m' w3 h' nx' → R (F35.fr x0 x1 w2 w3 x4 w5 w6) h' nx' = .ok True) →
   (sLen x0 fun v1 =>
 sBin .lss .int z3 v1 fun v2 =>
 zH v2 (zE 1 x0 z3 fun v3 =>
 zA v3 h fun v4 =>
 zE 1 x1 z3 fun v5 =>
 zA v5 h fun v6 =>
 sBin .neq .int v4 v6 fun v7 =>
 zH v7 (K0 (.bool false) h nx) (sBin .add .int z3 (I 1) fun v8 =>
 R (F35.fr x0 x1 z2 v8 x4 v2 v7) h nx)) (K (F35.fr x0 x1 z2 z3 x4 v2 z6) h nx)) = .ok True) :
  IR.run F35.b2 C N (fnO F35.res K0) K (F35.fr x0 x1 x2 x3 x4 x5 x6) h nx = .ok True := by
 rw [F35.b2, F35.g2_eq, F35.b3]
 refine zX (fun m tm h nx => ∃ z2 z3 z5 z6, tm = (F35.fr x0 x1 z2 z3 x4 z5 z6) ∧ Inv m z3 h nx) ?_ hm ⟨_, _, _, _, rfl, hi⟩
 rintro m tm h nx R ⟨z2, z3, z5, z6, rfl, hi⟩ hR
 rw [F35.e2]
 exact step m z2 z3 z5 z6 h nx R hi fun m' w2 w3 w5 w6 h' nx' hlt hi' => hR m' _ h' nx' hlt ⟨_, _, _, _, rfl, hi'⟩
theorem F35.k9 : IR.run F35.b9 C N (fnO F35.res K0) K (F35.fr x0 x1 x2 x3 x4 x5 x6) h nx =
 K0 (.bool true) h nx := by kernel_rfl
theorem F82.tab : T.get none (.of 82) tbl = some F82 := by kernel_rfl
theorem F82.go : zQ tbl N C (.of 82) [a0, a1] h nx K0 =
 zH a0 (K0 a1 h nx) (K0 (I 0) h nx) := by
 rw [zL F82.tab]; kernel_rfl
end Go.Ev
namespace Go.Ev
open Go Go.Proofs
set_option maxRecDepth 100000
variable {N : Nat} {C : Calls Prop} {K0 : Kw Prop} {K R : Ks Prop} {h : T Blk} {nx : Pa} {x0 x1 x2 x3 x4 x5 x6 x7 x8 x9 x10 x11 x12 x13 x14 x15 x16 x17 x18 x19 x20 x21 x22 x23 x24 x25 x26 x27 x28 x29 x30 x31 x32 x33 a0 a1 a2 a3 : AV}
theorem F89.g7_eq (X8 : IR) (C : Calls Prop) (N : Nat) (O : Outs Prop) (K : Ks Prop) (x0 x1 x2 x3 x4 x5 x6 x7 x8 x9 x10 x11 x12 x13 x14 x15 x16 x17 x18 x19 x20 x21 x22 x23 x24 x25 x26 x27 x28 x29 x30 x31 x32 x33 : AV) (h : T Blk) (nx : Pa) : IR.run (F89.g7 X8) C N O K (F89.fr x0 x1 x2 x3 x4 x5 x6 x7 x8 x9 x10 x11 x12 x13 x14 x15 x16 x17 x18 x19 x20 x21 x22 x23 x24 x25 x26 x27 x28 x29 x30 x31 x32 x33) h nx =
 IR.run X8 C N (O.blk 2 K) K (F89.fr x0 x1 x2 x3 x4 x5 x6 x7 x8 x9 x10 x11 x12 x13 x14 x15 x16 x17 x18 x19 x20 x21 x22 x23 x24 x25 x26 x27 x28 x29 x30 x31 x32 x33) h nx := by kernel_rfl
theorem F89.g1_eq (X2 : IR) (C : Calls Prop) (N : Nat) (O : Outs Prop) (K : Ks Prop) (x0 x1 x2 x3 x4 x5 x6 x7 x8 x9 x10 x11 x12 x13 x14 x15 x16 x17 x18 x19 x20 x21 x22 x23 x24 x25 x26 x27 x28 x29 x30 x31 x32 x33 : AV) (h : T Blk) (nx : Pa) : IR.run (F89.g1 X2) C N O K (F89.fr x0 x1 x2 x3 x4 x5 x6 x7 x8 x9 x10 x11 x12 x13 x14 x15 x16 x17 x18 x19 x20 x21 x22 x23 x24 x25 x26 x27 x28 x29 x30 x31 x32 x33) h nx =
 IR.run X2 C N (O.blk 0 K) K (F89.fr x0 x1 x2 x3 x4 x5 x6 x7 x8 x9 x10 x11 x12 x13 x14 x15 x16 x17 x18 x19 x20 x21 x22 x23 x24 x25 x26 x27 x28 x29 x30 x31 x32 x33) h nx := by kernel_rfl
theorem F89.g33_eq (X34 : IR) (C : Calls Prop) (N : Nat) (O : Outs Prop) (K : Ks Prop) (x0 x1 x2 x3 x4 x5 x6 x7 x8 x9 x10 x11 x12 x13 x14 x15 x16 x17 x18 x19 x20 x21 x22 x23 x24 x25 x26 x27 x28 x29 x30 x31 x32 x33 : AV) (h : T Blk) (nx : Pa) : IR.run (F89.g33 X34) C N O K (F89.fr x0 x1 x2 x3 x4 x5 x6 x7 x8 x9 x10 x11 x12 x13 x14 x15 x16 x17 x18 x19 x20 x21 x22 x23 x24 x25 x26 x27 x28 x29 x30 x31 x32 x33) h nx =
 IR.run X34 C N (O.blk 10 K) K (F89.fr x0 x1 x2 x3 x4 x5 x6 x7 x8 x9 x10 x11 x12 x13 x14 x15 x16 x17 x18 x19 x20 x21 x22 x23 x24 x25 x26 x27 x28 x29 x30 x31 x32 x33) h nx := by kernel_rfl
theorem F89.g27_eq (X28 : IR) (C : Calls Prop) (N : Nat) (O : Outs Prop) (K : Ks Prop) (x0 x1 x2 x3 x4 x5 x6 x7 x8 x9 x10 x11 x12 x13 x14 x15 x16 x17 x18 x19 x20 x21 x22 x23 x24 x25 x26 x27 x28 x29 x30 x31 x32 x33 : AV) (h : T Blk) (nx : Pa) : IR.run (F89.g27 X28) C N O K (F89.fr x0 x1 x2 x3 x4 x5 x6 x7 x8 x9 x10 x11 x12 x13 x14 x15 x16 x17 x18 x19 x20 x21 x22 x23 x24 x25 x26 x27 x28 x29 x30 x31 x32 x33) h nx =
 IR.run X28 C N (O.blk 8 K) K (F89.fr x0 x1 x2 x3 x4 x5 x6 x7 x8 x9 x10 x11 x12 x13 x14 x15 x16 x17 x18 x19 x20 x21 x22 x23 x24 x25 x26 x27 x28 x29 x30 x31 x32 x33) h nx := by kernel_rfl
theorem F89.g22_eq (X23 : IR) (C : Calls Prop) (N : Nat) (O : Outs Prop) (K : Ks Prop) (x0 x1 x2 x3 x4 x5 x6 x7 x8 x9 x10 x11 x12 x13 x14 x15 x16 x17 x18 x19 x20 x21 x22 x23 x24 x25 x26 x27 x28 x29 x30 x31 x32 x33 : AV) (h : T Blk) (nx : Pa) : IR.run (F89.g22 X23) C N O K (F89.fr x0 x1 x2 x3 x4 x5 x6 x7 x8 x9 x10 x11 x12 x13 x14 x15 x16 x17 x18 x19 x20 x21 x22 x23 x24 x25 x26 x27 x28 x29 x30 x31 x32 x33) h nx =
 IR.run X23 C N (O.blk 6 K) K (F89.fr x0 x1 x2 x3 x4 x5 x6 x7 x8 x9 x10 x11 x12 x13 x14 x15 x16 x17 x18 x19 x20 x21 x22 x23 x24 x25 x26 x27 x28 x29 x30 x31 x32 x33) h nx := by kernel_rfl
theorem F89.g16_eq (X17 : IR) (C : Calls Prop) (N : Nat) (O : Outs Prop) (K : Ks Prop) (x0 x1 x2 x3 x4 x5 x6 x7 x8 x9 x10 x11 x12 x13 x14 x15 x16 x17 x18 x19 x20 x21 x22 x23 x24 x25 x26 x27 x28 x29 x30 x31 x32 x33 : AV) (h : T Blk) (nx : Pa) : IR.run (F89.g16 X17) C N O K (F89.fr x0 x1 x2 x3 x4 x5 x6 x7 x8 x9 x10 x11 x12 x13 x14 x15 x16 x17 x18 x19 x20 x21 x22 x23 x24 x25 x26 x27 x28 x29 x30 x31 x32 x33) h nx =
 IR.run X17 C N (O.blk 4 K) K (F89.fr x0 x1 x2 x3 x4 x5 x6 x7 x8 x9 x10 x11 x12 x13 x14 x15 x16 x17 x18 x19 x20 x21 x22 x23 x24 x25 x26 x27 x28 x29 x30 x31 x32 x33) h nx := by kernel_rfl
theorem F89.tab : T.get none (.of 89) tbl = some F89 := by kernel_rfl
theorem F89.go : zQ tbl N C (.of 89) [a0, a1, a2, a3] h nx K0 =
 sBox a0 h nx fun v1 h2 n3 =>
 zN 0 v1 fun v4 =>
 zA v4 h2 fun v5 =>
 uC 1 24 [.nils] v5 v5 h2 n3 fun v6 h7 n8 =>
 zN 1 v1 fun v9 =>
 zA v9 h7 fun v10 =>
 sLen v10 fun v11 =>
 IR.run F89.b1 C N (fnO F89.res K0) (IR.run F89.b15 C N (fnO F89.res K0) (retK F89.res K0)) (F89.fr a0 a1 a2 a3 v1 .nilm v6 .undef .undef .undef .undef .undef .undef .undef .undef .undef .undef .undef v10 v11 (I 0) .undef .undef .undef .undef .undef .undef .undef .undef .undef .undef .undef .undef .undef) h7 n8 := by
 rw [zL F89.tab]; kernel_rfl
theorem F89.e1 : IR.run F89.b3 C N ((fnO F89.res K0).blk 0 K) R (F89.fr x0 x1 x2 x3 x4 x5 x6 x7 x8 x9 x10 x11 x12 x13 x14 x15 x16 x17 x18 x19 x20 x21 x22 x23 x24 x25 x26 x27 x28 x29 x30 x31 x32 x33) h nx =
 sBin .lss .int x20 x19 fun v1 =>
 zH v1 (zE 1 x18 x20 fun v2 =>
 zA v2 h fun v3 =>
 sLen v3 fun v4 =>
 IR.run F89.b7 C N (((fnO F89.res K0).blk 0 K).blk 1 (IR.run F89.b14 C N ((fnO F89.res K0).blk 0 K) R)) (IR.run F89.b14 C N ((fnO F89.res K0).blk 0 K) R) (F89.fr x0 x1 x2 x3 x4 x5 x6 x20 v3 x9 x10 x11 x12 x13 x14 x15 x16 x17 x18 x19 x20 v1 v3 v4 (I 0) x25 x26 x27 x28 x29 x30 x31 x32 x33) h nx) (K (F89.fr x0 x1 x2 x3 x4 x5 x6 x7 x8 x9 x10 x11 x12 x13 x14 x15 x16 x17 x18 x19 x20 v1 x22 x23 x24 x25 x26 x27 x28 x29 x30 x31 x32 x33) h nx) := by kernel_rfl
theorem F89.L1 (Inv : Nat → AV → T Blk → Pa → Prop) {m : Nat} (hm : m < N) (hi : Inv m x20 h nx)
  (step : ∀ (m : Nat) (z7 z8 z9 z20 z21 z22 z23 z24 z25 : AV) (h : T Blk) (nx : Pa) (R : Ks Prop), Inv m z20 h nx → (∀ (m' : Nat) (w7 w8 w9 w20 w21 w22 w23 w24 w25 : AV) (h' : T Blk) (nx' : Pa), m' < m → Inv m' w20 h' nx' → R (F89.fr x0 x1 x2 x3 x4 x5 x6 w7 w8 w9 x10 x11 x12 x13 x14 x15 x16 x17 x18 x19 w20 w21 w22 w23 w24 w25 x26 x27 x28 x29 x30 x31 x32 x33) h' nx' = .ok True) →
   (sBin .lss .int z20 x19 fun v1 =>
 zH v1 (zE 1 x18 z20 fun v2 =>
 zA v2 h fun v3 =>
 sLen v3 fun v4 =>
 IR.run F89.b7 C N (((fnO F89.res K0).blk 0 K).blk 1 (IR.run F89.b14 C N ((fnO F89.res K0).blk 0 K) R)) (IR.run F89.b14 C N ((fnO F89.res K0).blk 0 K) R) (F89.fr x0 x1 x2 x3 x4 x5 x6 z20 v3 z9 x10 x11 x12 x13 x14 x15 x16 x17 x18 x19 z20 v1 v3 v4 (I 0) z25 x26 x27 x28 x29 x30 x31 x32 x33) h nx) (K (F89.fr x0 x1 x2 x3 x4 x5 x6 z7 z8 z9 x10 x11 x12 x13 x14 x15 x16 x17 x18 x19 z20 v1 z22 z23 z24 z25 x26 x27 x28 x29 x30 x31 x32 x33) h nx)) = .ok True) :
  IR.run F89.b1 C N (fnO F89.res K0) K (F89.fr x0 x1 x2 x3 x4 x5 x6 x7 x8 x9 x10 x11 x12 x13 x14 x15 x16 x17 x18 x19 x20 x21 x22 x23 x24 x25 x26 x27 x28 x29 x30 x31 x32 x33) h nx = .ok True := by
 rw [F89.b1, F89.g1_eq, F89.b2]
 refine zX (fun m tm h nx => ∃ z7 z8 z9 z20 z21 z22 z23 z24 z25, tm = (F89.fr x0 x1 x2 x3 x4 x5 x6 z7 z8 z9 x10 x11 x12 x13 x14 x15 x16 x17 x18 x19 z20 z21 z22 z23 z24 z25 x26 x27 x28 x29 x30 x31 x32 x33) ∧ Inv m z20 h nx) ?_ hm ⟨_, _, _, _, _, _, _, _, _, rfl, hi⟩
 rintro m tm h nx R ⟨z7, z8, z9, z20, z21, z22, z23, z24, z25, rfl, hi⟩ hR
 rw [F89.e1]
 exact step m z7 z8 z9 z20 z21 z22 z23 z24 z25 h nx R hi fun m' w7 w8 w9 w20 w21 w22 w23 w24 w25 h' nx' hlt hi' => hR m' _ h' nx' hlt ⟨_, _, _, _, _, _, _, _, _, rfl, hi'⟩
theorem F89.k15 : IR.run F89.b15 C N (fnO F89.res K0) K (F89.fr x0 x1 x2 x3 x4 x5 x6 x7 x8 x9 x10 x11 x12 x13 x14 x15 x16 x17 x18 x19 x20 x21 x22 x23 x24 x25 x26 x27 x28 x29 x30 x31 x32 x33) h nx =
 sMkmap h nx fun v1 h2 n3 =>
 sBuild zU [] fun v4 =>
 sMapup (.agg 128) v1 v4 (I 1) h2 n3 fun v5 h6 n7 =>
 IR.run F89.b16 C N (fnO F89.res K0) (IR.run F89.b44 C N (fnO F89.res K0) K) (F89.fr x0 x1 x2 x3 x4 x5 x6 x7 x8 x9 v1 x1 x12 x13 x14 x15 x16 x17 x18 x19 x20 x21 x22 x23 x24 x25 x26 x27 x28 x29 x30 x31 x32 x33) h6 n7 := by kernel_rfl
theorem F89.k14 {E0 : Ks Prop} : IR.run F89.b14 C N ((fnO F89.res K0).blk 0 E0) K (F89.fr x0 x1 x2 x3 x4 x5 x6 x7 x8 x9 x10 x11 x12 x13 x14 x15 x16 x17 x18 x19 x20 x21 x22 x23 x24 x25 x26 x27 x28 x29 x30 x31 x32 x33) h nx =
 sBin .add .int x20 (I 1) fun v1 =>
 K (F89.fr x0 x1 x2 x3 x4 x5 x6 x7 x8 x9 x10 x11 x12 x13 x14 x15 x16 x17 x18 x19 v1 x21 x22 x23 x24 x25 x26 x27 x28 x29 x30 x31 x32 x33) h nx := by kernel_rfl
theorem F89.e7 {E0 E1 : Ks Prop} : IR.run F89.b9 C N ((((fnO F89.res K0).blk 0 E0).blk 1 E1).blk 2 K) R (F89.fr x0 x1 x2 x3 x4 x5 x6 x7 x8 x9 x10 x11 x12 x13 x14 x15 x16 x17 x18 x19 x20 x21 x22 x23 x24 x25 x26 x27 x28 x29 x30 x31 x32 x33) h nx =
 sBin .lss .int x24 x23 fun v1 =>
 zH v1 (zE 1 x22 x24 fun v2 =>
 zA v2 h fun v3 =>
 zE 1 x6 v3 fun v4 =>
 zA v4 h fun v5 =>
 yX 1 1 [(I 0)] [(0, 1, x7)] h nx fun v6 h7 n8 =>
 sApp 1 8 v5 v6 h7 n8 fun v9 h10 n11 =>
 zE 1 x6 v3 fun v12 =>
 yG 1 v12 v9 h10 n11 fun v13 h14 n15 =>
 sBin .add .int x24 (I 1) fun v16 =>
 R (F89.fr x0 x1 x2 x3 x4 x5 x6 x7 x8 v3 x10 x11 x12 x13 x14 x15 x16 x17 x18 x19 x20 x21 x22 x23 v16 v1 x26 x27 x28 x29 x30 x31 x32 x33) h14 n15) (K (F89.fr x0 x1 x2 x3 x4 x5 x6 x7 x8 x9 x10 x11 x12 x13 x14 x15 x16 x17 x18 x19 x20 x21 x22 x23 x24 v1 x26 x27 x28 x29 x30 x31 x32 x33) h nx) := by kernel_rfl
theorem F89.L7 {E0 E1 : Ks Prop} (Inv : Nat → AV → T Blk → Pa → Prop) {m : Nat} (hm : m < N) (hi : Inv m x24 h nx)
  (step : ∀ (m : Nat) (z9 z24 z25 : AV) (h : T Blk) (nx : Pa) (R : Ks Prop), Inv m z24 h nx → (∀ (m' : Nat) (w9 w24 w25 : AV) (h' : T Blk) (nx' : Pa), m' < m → Inv m' w24 h' nx' → R (F89.fr x0 x1 x2 x3 x4 x5 x6 x7 x8 w9 x10 x11 x12 x13 x14 x15 x16 x17 x18 x19 x20 x21 x22 x23 w24 w25 x26 x27 x28 x29 x30 x31 x32 x33) h' nx' = .ok True) →
   (sBin .lss .int z24 x23 fun v1 =>
 zH v1 (zE 1 x22 z24 fun v2 =>
 zA v2 h fun v3 =>
 zE 1 x6 v3 fun v4 =>
 zA v4 h fun v5 =>
 yX 1 1 [(I 0)] [(0, 1, x7)] h nx fun v6 h7 n8 =>
 sApp 1 8 v5 v6 h7 n8 fun v9 h10 n11 =>
 zE 1 x6 v3 fun v12 =>
 yG 1 v12 v9 h10 n11 fun v13 h14 n15 =>
 sBin .add .int z24 (I 1) fun v16 =>
 R (F89.fr x0 x1 x2 x3 x4 x5 x6 x7 x8 v3 x10 x11 x12 x13 x14 x15 x16 x17 x18 x19 x20 x21 x22 x23 v16 v1 x26 x27 x28 x29 x30 x31 x32 x33) h14 n15) (K (F89.fr x0 x1 x2 x3 x4 x5 x6 x7 x8 z9 x10 x11 x12 x13 x14 x15 x16 x17 x18 x19 x20 x21 x22 x23 z24 v1 x26 x27 x28 x29 x30 x31 x32 x33) h nx)) = .ok True) :
  IR.run F89.b7 C N (((fnO F89.res K0).blk 0 E0).blk 1 E1) K (F89.fr x0 x1 x2 x3 x4 x5 x6 x7 x8 x9 x10 x11 x12 x13 x14 x15 x16 x17 x18 x19 x20 x21 x22 x23 x24 x25 x26 x27 x28 x29 x30 x31 x32 x33) h nx = .ok True := by
 rw [F89.b7, F89.g7_eq, F89.b8]
 refine zX (fun m tm h nx => ∃ z9 z24 z25, tm = (F89.fr x0 x1 x2 x3 x4 x5 x6 x7 x8 z9 x10 x11 x12 x13 x14 x15 x16 x17 x18 x19 x20 x21 x22 x23 z24 z25 x26 x27 x28 x29 x30 x31 x32 x33) ∧ Inv m z24 h nx) ?_ hm ⟨_, _, _, rfl, hi⟩
 rintro m tm h nx R ⟨z9, z24, z25, rfl, hi⟩ hR
 rw [F89.e7]
 exact step m z9 z24 z25 h nx R hi fun m' w9 w24 w25 h' nx' hlt hi' => hR m' _ h' nx' hlt ⟨_, _, _, rfl, hi'⟩
theorem F89.e16 : IR.run F89.b18 C N ((fnO F89.res K0).blk 4 K) R (F89.fr x0 x1 x2 x3 x4 x5 x6 x7 x8 x9 x10 x11 x12 x13 x14 x15 x16 x17 x18 x19 x20 x21 x22 x23 x24 x25 x26 x27 x28 x29 x30 x31 x32 x33) h nx =
 sBin .lss .int x11 x2 fun v1 =>
 zH v1 (sMkmap h nx fun v2 h3 n4 =>
 sRange x10 h3 n4 fun v5 h6 n7 =>
 IR.run F89.b22 C N (((fnO F89.res K0).blk 4 K).blk 5 (IR.run F89.b43 C N ((fnO F89.res K0).blk 4 K) R)) (IR.run F89.b42 C N (((fnO F89.res K0).blk 4 K).blk 5 (IR.run F89.b43 C N ((fnO F89.res K0).blk 4 K) R)) (IR.run F89.b43 C N ((fnO F89.res K0).blk 4 K) R)) (F89.fr x0 x1 x2 x3 x4 x5 x6 x7 x8 x9 x10 x11 v2 x13 x14 x15 x16 x17 x18 x19 x20 x21 x22 x23 x24 x25 v1 v5 x28 x29 x30 x31 x32 x33) h6 n7) (K (F89.fr x0 x1 x2 x3 x4 x5 x6 x7 x8 x9 x10 x11 x12 x13 x14 x15 x16 x17 x18 x19 x20 x21 x22 x23 x24 x25 v1 x27 x28 x29 x30 x31 x32 x33) h nx) := by kernel_rfl
theorem F89.L16 (Inv : Nat → AV → AV → T Blk → Pa → Prop) {m : Nat} (hm : m < N) (hi : Inv m x10 x11 h nx)
  (step : ∀ (m : Nat) (z10 z11 z12 z13 z14 z15 z16 z17 z26 z27 z28 z29 z30 z31 z32 z33 : AV) (h : T Blk) (nx : Pa) (R : Ks Prop), Inv m z10 z11 h nx → (∀ (m' : Nat) (w10 w11 w12 w13 w14 w15 w16 w17 w26 w27 w28 w29 w30 w31 w32 w33 : AV) (h' : T Blk) (nx' : Pa), m' < m → Inv m' w10 w11 h' nx' → R (F89.fr x0 x1 x2 x3 x4 x5 x6 x7 x8 x9 w10 w11 w12 w13 w14 w15 w16 w17 x18 x19 x20 x21 x22 x23 x24 x25 w26 w27 w28 w29 w30 w31 w32 w33) h' nx' = .ok True) →
   (sBin .lss .int z11 x2 fun v1 =>
 zH v1 (sMkmap h nx fun v2 h3 n4 =>
 sRange z10 h3 n4 fun v5 h6 n7 =>
 IR.run F89.b22 C N (((fnO F89.res K0).blk 4 K).blk 5 (IR.run F89.b43 C N ((fnO F89.res K0).blk 4 K) R)) (IR.run F89.b42 C N (((fnO F89.res K0).blk 4 K).blk 5 (IR.run F89.b43 C N ((fnO F89.res K0).blk 4 K) R)) (IR.run F89.b43 C N ((fnO F89.res K0).blk 4 K) R)) (F89.fr x0 x1 x2 x3 x4 x5 x6 x7 x8 x9 z10 z11 v2 z13 z14 z15 z16 z17 x18 x19 x20 x21 x22 x23 x24 x25 v1 v5 z28 z29 z30 z31 z32 z33) h6 n7) (K (F89.fr x0 x1 x2 x3 x4 x5 x6 x7 x8 x9 z10 z11 z12 z13 z14 z15 z16 z17 x18 x19 x20 x21 x22 x23 x24 x25 v1 z27 z28 z29 z30 z31 z32 z33) h nx)) = .ok True) :
  IR.run F89.b16 C N (fnO F89.res K0) K (F89.fr x0 x1 x2 x3 x4 x5 x6 x7 x8 x9 x10 x11 x12 x13 x14 x15 x16 x17 x18 x19 x20 x21 x22 x23 x24 x25 x26 x27 x28 x29 x30 x31 x32 x33) h nx = .ok True := by
 rw [F89.b16, F89.g16_eq, F89.b17]
 refine zX (fun m tm h nx => ∃ z10 z11 z12 z13 z14 z15 z16 z17 z26 z27 z28 z29 z30 z31 z32 z33, tm = (F89.fr x0 x1 x2 x3 x4 x5 x6 x7 x8 x9 z10 z11 z12 z13 z14 z15 z16 z17 x18 x19 x20 x21 x22 x23 x24 x25 z26 z27 z28 z29 z30 z31 z32 z33) ∧ Inv m z10 z11 h nx) ?_ hm ⟨_, _, _, _, _, _, _, _, _, _, _, _, _, _, _, _, rfl, hi⟩
 rintro m tm h nx R ⟨z10, z11, z12, z13, z14, z15, z16, z17, z26, z27, z28, z29, z30, z31, z32, z33, rfl, hi⟩ hR
 rw [F89.e16]
 exact step m z10 z11 z12 z13 z14 z15 z16 z17 z26 z27 z28 z29 z30 z31 z32 z33 h nx R hi fun m' w10 w11 w12 w13 w14 w15 w16 w17 w26 w27 w28 w29 w30 w31 w32 w33 h' nx' hlt hi' => hR m' _ h' nx' hlt ⟨_, _, _, _, _, _, _, _, _, _, _, _, _, _, _, _, rfl, hi'⟩
theorem F89.k44 : IR.run F89.b44 C N (fnO F89.res K0) K (F89.fr x0 x1 x2 x3 x4 x5 x6 x7 x8 x9 x10 x11 x12 x13 x14 x15 x16 x17 x18 x19 x20 x21 x22 x23 x24 x25 x26 x27 x28 x29 x30 x31 x32 x33) h nx =
 K0 x10 h nx := by kernel_rfl
theorem F89.k43 {E4 : Ks Prop} : IR.run F89.b43 C N ((fnO F89.res K0).blk 4 E4) K (F89.fr x0 x1 x2 x3 x4 x5 x6 x7 x8 x9 x10 x11 x12 x13 x14 x15 x16 x17 x18 x19 x20 x21 x22 x23 x24 x25 x26 x27 x28 x29 x30 x31 x32 x33) h nx =
 sBin .add .int x11 (I 1) fun v1 =>
 K (F89.fr x0 x1 x2 x3 x4 x5 x6 x7 x8 x9 x10 v1 x12 x13 x14 x15 x16 x17 x18 x19 x20 x21 x22 x23 x24 x25 x26 x27 x28 x29 x30 x31 x32 x33) h nx := by kernel_rfl
theorem F89.e22 {E4 E5 : Ks Prop} : IR.run F89.b24 C N ((((fnO F89.res K0).blk 4 E4).blk 5 E5).blk 6 K) R (F89.fr x0 x1 x2 x3 x4 x5 x6 x7 x8 x9 x10 x11 x12 x13 x14 x15 x16 x17 x18 x19 x20 x21 x22 x23 x24 x25 x26 x27 x28 x29 x30 x31 x32 x33) h nx =
 sNext C x27 h nx fun v1 h2 n3 =>
 sExt 0 v1 fun v4 =>
 zH v4 (sEntry x27 h2 fun v5 =>
 sExt 0 v5 fun v6 =>
 sExt 1 v5 fun v7 =>
 jS zU h2 n3 fun v8 h9 n10 =>
 yG 128 v8 v6 h9 n10 fun v11 h12 n13 =>
 IR.run F89.b27 C N (((((fnO F89.res K0).blk 4 E4).blk 5 E5).blk 6 K).blk 7 R) R (F89.fr x0 x1 x2 x3 x4 x5 x6 x7 x8 x9 x10 x11 x12 v8 v7 (I 0) x16 x17 x18 x19 x20 x21 x22 x23 x24 x25 x26 x27 v4 x29 x30 x31 x32 x33) h12 n13) (K (F89.fr x0 x1 x2 x3 x4 x5 x6 x7 x8 x9 x10 x11 x12 x13 x14 x15 x16 x17 x18 x19 x20 x21 x22 x23 x24 x25 x26 x27 v4 x29 x30 x31 x32 x33) h2 n3) := by kernel_rfl
theorem F89.L22 {E4 E5 : Ks Prop} (Inv : Nat → T Blk → Pa → Prop) {m : Nat} (hm : m < N) (hi : Inv m  h nx)
  (step : ∀ (m : Nat) (z13 z14 z15 z16 z17 z28 z29 z30 z31 z32 z33 : AV) (h : T Blk) (nx : Pa) (R : Ks Prop), Inv m  h nx → (∀ (m' : Nat) (w13 w14 w15 w16 w17 w28 w29 w30 w31 w32 w33 : AV) (h' : T Blk) (nx' : Pa), m' < m → Inv m'  h' nx' → R (F89.fr x0 x1 x2 x3 x4 x5 x6 x7 x8 x9 x10 x11 x12 w13 w14 w15 w16 w17 x18 x19 x20 x21 x22 x23 x24 x25 x26 x27 w28 w29 w30 w31 w32 w33) h' nx' = .ok True) →
   (sNext C x27 h nx fun v1 h2 n3 =>
 sExt 0 v1 fun v4 =>
 zH v4 (sEntry x27 h2 fun v5 =>
 sExt 0 v5 fun v6 =>
 sExt 1 v5 fun v7 =>
 jS zU h2 n3 fun v8 h9 n10 =>
 yG 128 v8 v6 h9 n10 fun v11 h12 n13 =>
 IR.run F89.b27 C N (((((fnO F89.res K0).blk 4 E4).blk 5 E5).blk 6 K).blk 7 R) R (F89.fr x0 x1 x2 x3 x4 x5 x6 x7 x8 x9 x10 x11 x12 v8 v7 (I 0) z16 z17 x18 x19 x20 x21 x22 x23 x24 x25 x26 x27 v4 z29 z30 z31 z32 z33) h12 n13) (K (F89.fr x0 x1 x2 x3 x4 x5 x6 x7 x8 x9 x10 x11 x12 z13 z14 z15 z16 z17 x18 x19 x20 x21 x22 x23 x24 x25 x26 x27 v4 z29 z30 z31 z32 z33) h2 n3)) = .ok True) :
  IR.run F89.b22 C N (((fnO F89.res K0).blk 4 E4).blk 5 E5) K (F89.fr x0 x1 x2 x3 x4 x5 x6 x7 x8 x9 x10 x11 x12 x13 x14 x15 x16 x17 x18 x19 x20 x21 x22 x23 x24 x25 x26 x27 x28 x29 x30 x31 x32 x33) h nx = .ok True := by
 rw [F89.b22, F89.g22_eq, F89.b23]
 refine zX (fun m tm h nx => ∃ z13 z14 z15 z16 z17 z28 z29 z30 z31 z32 z33, tm = (F89.fr x0 x1 x2 x3 x4 x5 x6 x7 x8 x9 x10 x11 x12 z13 z14 z15 z16 z17 x18 x19 x20 x21 x22 x23 x24 x25 x26 x27 z28 z29 z30 z31 z32 z33) ∧ Inv m  h nx) ?_ hm ⟨_, _, _, _, _, _, _, _, _, _, _, rfl, hi⟩
 rintro m tm h nx R ⟨z13, z14, z15, z16, z17, z28, z29, z30, z31, z32, z33, rfl, hi⟩ hR
 rw [F89.e22]
 exact step m z13 z14 z15 z16 z17 z28 z29 z30 z31 z32 z33 h nx R hi fun m' w13 w14 w15 w16 w17 w28 w29 w30 w31 w32 w33 h' nx' hlt hi' => hR m' _ h' nx' hlt ⟨_, _, _, _, _, _, _, _, _, _, _, rfl, hi'⟩
theorem F89.k42 {E4 E5 : Ks Prop} : IR.run F89.b42 C N (((fnO F89.res K0).blk 4 E4).blk 5 E5) K (F89.fr x0 x1 x2 x3 x4 x5 x6 x7 x8 x9 x10 x11 x12 x13 x14 x15 x16 x17 x18 x19 x20 x21 x22 x23 x24 x25 x26 x27 x28 x29 x30 x31 x32 x33) h nx =
 K (F89.fr x0 x1 x2 x3 x4 x5 x6 x7 x8 x9 x12 x11 x12 x13 x14 x15 x16 x17 x18 x19 x20 x21 x22 x23 x24 x25 x26 x27 x28 x29 x30 x31 x32 x33) h nx := by kernel_rfl
theorem F89.e27 {E4 E5 E6 E7 : Ks Prop} : IR.run F89.b29 C N ((((((fnO F89.res K0).blk 4 E4).blk 5 E5).blk 6 E6).blk 7 E7).blk 8 K) R (F89.fr x0 x1 x2 x3 x4 x5 x6 x7 x8 x9 x10 x11 x12 x13 x14 x15 x16 x17 x18 x19 x20 x21 x22 x23 x24 x25 x26 x27 x28 x29 x30 x31 x32 x33) h nx =
 sBin .leq .int x15 x3 fun v1 =>
 zH v1 (yJ 128 x13 h fun v2 =>
 jS zU h nx fun v3 h4 n5 =>
 yG 128 v3 v2 h4 n5 fun v6 h7 n8 =>
 zE 1 x6 x11 fun v9 =>
 zA v9 h7 fun v10 =>
 sLen v10 fun v11 =>
 IR.run F89.b33 C N (((((((fnO F89.res K0).blk 4 E4).blk 5 E5).blk 6 E6).blk 7 E7).blk 8 K).blk 9 (IR.run F89.b41 C N ((((((fnO F89.res K0).blk 4 E4).blk 5 E5).blk 6 E6).blk 7 E7).blk 8 K) R)) (IR.run F89.b40 C N (((((((fnO F89.res K0).blk 4 E4).blk 5 E5).blk 6 E6).blk 7 E7).blk 8 K).blk 9 (IR.run F89.b41 C N ((((((fnO F89.res K0).blk 4 E4).blk 5 E5).blk 6 E6).blk 7 E7).blk 8 K) R)) (IR.run F89.b41 C N ((((((fnO F89.res K0).blk 4 E4).blk 5 E5).blk 6 E6).blk 7 E7).blk 8 K) R)) (F89.fr x0 x1 x2 x3 x4 x5 x6 x7 x8 x9 x10 x11 x12 x13 x14 x15 v3 x17 x18 x19 x20 x21 x22 x23 x24 x25 x26 x27 x28 v1 v10 v11 (I 0) x33) h7 n8) (K (F89.fr x0 x1 x2 x3 x4 x5 x6 x7 x8 x9 x10 x11 x12 x13 x14 x15 x16 x17 x18 x19 x20 x21 x22 x23 x24 x25 x26 x27 x28 v1 x30 x31 x32 x33) h nx) := by kernel_rfl
theorem F89.L27 {E4 E5 E6 E7 : Ks Prop} (Inv : Nat → AV → T Blk → Pa → Prop) {m : Nat} (hm : m < N) (hi : Inv m x15 h nx)
  (step : ∀ (m : Nat) (z15 z16 z17 z29 z30 z31 z32 z33 : AV) (h : T Blk) (nx : Pa) (R : Ks Prop), Inv m z15 h nx → (∀ (m' : Nat) (w15 w16 w17 w29 w30 w31 w32 w33 : AV) (h' : T Blk) (nx' : Pa), m' < m → Inv m' w15 h' nx' → R (F89.fr x0 x1 x2 x3 x4 x5 x6 x7 x8 x9 x10 x11 x12 x13 x14 w15 w16 w17 x18 x19 x20 x21 x22 x23 x24 x25 x26 x27 x28 w29 w30 w31 w32 w33) h' nx' = .ok True) →
   (sBin .leq .int z15 x3 fun v1 =>
 zH v1 (yJ 128 x13 h fun v2 =>
 jS zU h nx fun v3 h4 n5 =>
 yG 128 v3 v2 h4 n5 fun v6 h7 n8 =>
 zE 1 x6 x11 fun v9 =>
 zA v9 h7 fun v10 =>
 sLen v10 fun v11 =>
 IR.run F89.b33 C N (((((((fnO F89.res K0).blk 4 E4).blk 5 E5).blk 6 E6).blk 7 E7).blk 8 K).blk 9 (IR.run F89.b41 C N ((((((fnO F89.res K0).blk 4 E4).blk 5 E5).blk 6 E6).blk 7 E7).blk 8 K) R)) (IR.run F89.b40 C N (((((((fnO F89.res K0).blk 4 E4).blk 5 E5).blk 6 E6).blk 7 E7).blk 8 K).blk 9 (IR.run F89.b41 C N ((((((fnO F89.res K0).blk 4 E4).blk 5 E5).blk 6 E6).blk 7 E7).blk 8 K) R)) (IR.run F89.b41 C N ((((((fnO F89.res K0).blk 4 E4).blk 5 E5).blk 6 E6).blk 7 E7).blk 8 K) R)) (F89.fr x0 x1 x2 x3 x4 x5 x6 x7 x8 x9 x10 x11 x12 x13 x14 z15 v3 z17 x18 x19 x20 x21 x22 x23 x24 x25 x26 x27 x28 v1 v10 v11 (I 0) z33) h7 n8) (K (F89.fr x0 x1 x2 x3 x4 x5 x6 x7 x8 x9 x10 x11 x12 x13 x14 z15 z16 z17 x18 x19 x20 x21 x22 x23 x24 x25 x26 x27 x28 v1 z30 z31 z32 z33) h nx)) = .ok True) :
  IR.run F89.b27 C N (((((fnO F89.res K0).blk 4 E4).blk 5 E5).blk 6 E6).blk 7 E7) K (F89.fr x0 x1 x2 x3 x4 x5 x6 x7 x8 x9 x10 x11 x12 x13 x14 x15 x16 x17 x18 x19 x20 x21 x22 x23 x24 x25 x26 x27 x28 x29 x30 x31 x32 x33) h nx = .ok True := by
 rw [F89.b27, F89.g27_eq, F89.b28]
 refine zX (fun m tm h nx => ∃ z15 z16 z17 z29 z30 z31 z32 z33, tm = (F89.fr x0 x1 x2 x3 x4 x5 x6 x7 x8 x9 x10 x11 x12 x13 x14 z15 z16 z17 x18 x19 x20 x21 x22 x23 x24 x25 x26 x27 x28 z29 z30 z31 z32 z33) ∧ Inv m z15 h nx) ?_ hm ⟨_, _, _, _, _, _, _, _, rfl, hi⟩
 rintro m tm h nx R ⟨z15, z16, z17, z29, z30, z31, z32, z33, rfl, hi⟩ hR
 rw [F89.e27]
 exact step m z15 z16 z17 z29 z30 z31 z32 z33 h nx R hi fun m' w15 w16 w17 w29 w30 w31 w32 w33 h' nx' hlt hi' => hR m' _ h' nx' hlt ⟨_, _, _, _, _, _, _, _, rfl, hi'⟩
theorem F89.k41 {E4 E5 E6 E7 E8 : Ks Prop} : IR.run F89.b41 C N ((((((fnO F89.res K0).blk 4 E4).blk 5 E5).blk 6 E6).blk 7 E7).blk 8 E8) K (F89.fr x0 x1 x2 x3 x4 x5 x6 x7 x8 x9 x10 x11 x12 x13 x14 x15 x16 x17 x18 x19 x20 x21 x22 x23 x24 x25 x26 x27 x28 x29 x30 x31 x32 x33) h nx =
 sBin .add .int x15 (I 1) fun v1 =>
 K (F89.fr x0 x1 x2 x3 x4 x5 x6 x7 x8 x9 x10 x11 x12 x13 x14 v1 x16 x17 x18 x19 x20 x21 x22 x23 x24 x25 x26 x27 x28 x29 x30 x31 x32 x33) h nx := by kernel_rfl
theorem F89.e33 {E4 E5 E6 E7 E8 E9 : Ks Prop} : IR.run F89.b35 C N ((((((((fnO F89.res K0).blk 4 E4).blk 5 E5).blk 6 E6).blk 7 E7).blk 8 E8).blk 9 E9).blk 10 K) R (F89.fr x0 x1 x2 x3 x4 x5 x6 x7 x8 x9 x10 x11 x12 x13 x14 x15 x16 x17 x18 x19 x20 x21 x22 x23 x24 x25 x26 x27 x28 x29 x30 x31 x32 x33) h nx =
 sBin .lss .int x32 x31 fun v1 =>
 zH v1 (zE 1 x30 x32 fun v2 =>
 zA v2 h fun v3 =>
 yY 1 128 x16 v3 fun v4 =>
 zA v4 h fun v5 =>
 sConv .u8 x15 fun v6 =>
 sBin .add .int v5 v6 fun v7 =>
 yY 1 128 x16 v3 fun v8 =>
 yG 1 v8 v7 h nx fun v9 h10 n11 =>
 sBin .add .int x32 (I 1) fun v12 =>
 R (F89.fr x0 x1 x2 x3 x4 x5 x6 x7 x8 x9 x10 x11 x12 x13 x14 x15 x16 v3 x18 x19 x20 x21 x22 x23 x24 x25 x26 x27 x28 x29 x30 x31 v12 v1) h10 n11) (K (F89.fr x0 x1 x2 x3 x4 x5 x6 x7 x8 x9 x10 x11 x12 x13 x14 x15 x16 x17 x18 x19 x20 x21 x22 x23 x24 x25 x26 x27 x28 x29 x30 x31 x32 v1) h nx) := by kernel_rfl
theorem F89.L33 {E4 E5 E6 E7 E8 E9 : Ks Prop} (Inv : Nat → AV → T Blk → Pa → Prop) {m : Nat} (hm : m < N) (hi : Inv m x32 h nx)
  (step : ∀ (m : Nat) (z17 z32 z33 : AV) (h : T Blk) (nx : Pa) (R : Ks Prop), Inv m z32 h nx → (∀ (m' : Nat) (w17 w32 w33 : AV) (h' : T Blk) (nx' : Pa), m' < m → Inv m' w32 h' nx' → R (F89.fr x0 x1 x2 x3 x4 x5 x6 x7 x8 x9 x10 x11 x12 x13 x14 x15 x16 w17 x18 x19 x20 x21 x22 x23 x24 x25 x26 x27 x28 x29 x30 x31 w32 w33) h' nx' = .ok True) →
   (sBin .lss .int z32 x31 fun v1 =>
 zH v1 (zE 1 x30 z32 fun v2 =>
 zA v2 h fun v3 =>
 yY 1 128 x16 v3 fun v4 =>
 zA v4 h fun v5 =>
 sConv .u8 x15 fun v6 =>
 sBin .add .int v5 v6 fun v7 =>
 yY 1 128 x16 v3 fun v8 =>
 yG 1 v8 v7 h nx fun v9 h10 n11 =>
 sBin .add .int z32 (I 1) fun v12 =>
 R (F89.fr x0 x1 x2 x3 x4 x5 x6 x7 x8 x9 x10 x11 x12 x13 x14 x15 x16 v3 x18 x19 x20 x21 x22 x23 x24 x25 x26 x27 x28 x29 x30 x31 v12 v1) h10 n11) (K (F89.fr x0 x1 x2 x3 x4 x5 x6 x7 x8 x9 x10 x11 x12 x13 x14 x15 x16 z17 x18 x19 x20 x21 x22 x23 x24 x25 x26 x27 x28 x29 x30 x31 z32 v1) h nx)) = .ok True) :
  IR.run F89.b33 C N (((((((fnO F89.res K0).blk 4 E4).blk 5 E5).blk 6 E6).blk 7 E7).blk 8 E8).blk 9 E9) K (F89.fr x0 x1 x2 x3 x4 x5 x6 x7 x8 x9 x10 x11 x12 x13 x14 x15 x16 x17 x18 x19 x20 x21 x22 x23 x24 x25 x26 x27 x28 x29 x30 x31 x32 x33) h nx = .ok True := by
 rw [F89.b33, F89.g33_eq, F89.b34]
 refine zX (fun m tm h nx => ∃ z17 z32 z33, tm = (F89.fr x0 x1 x2 x3 x4 x5 x6 x7 x8 x9 x10 x11 x12 x13 x14 x15 x16 z17 x18 x19 x20 x21 x22 x23 x24 x25 x26 x27 x28 x29 x30 x31 z32 z33) ∧ Inv m z32 h nx) ?_ hm ⟨_, _, _, rfl, hi⟩
 rintro m tm h nx R ⟨z17, z32, z33, rfl, hi⟩ hR
 rw [F89.e33]
 exact step m z17 z32 z33 h nx R hi fun m' w17 w32 w33 h' nx' hlt hi' => hR m' _ h' nx' hlt ⟨_, _, _, rfl, hi'⟩
theorem F89.k40 {E4 E5 E6 E7 E8 E9 : Ks Prop} : IR.run F89.b40 C N (((((((fnO F89.res K0).blk 4 E4).blk 5 E5).blk 6 E6).blk 7 E7).blk 8 E8).blk 9 E9) K (F89.fr x0 x1 x2 x3 x4 x5 x6 x7 x8 x9 x10 x11 x12 x13 x14 x15 x16 x17 x18 x19 x20 x21 x22 x23 x24 x25 x26 x27 x28 x29 x30 x31 x32 x33) h nx =
 yJ 128 x16 h fun v1 =>
 sLook (.agg 128) (I 0) false x12 v1 h fun v2 =>
 sBin .add .int v2 x14 fun v3 =>
 sMapent (.agg 128) (I 0) x12 v1 h nx fun v4 h5 n6 =>
 (sBin .add .int v2 x14 fun v12 => yZ v12 v3 ((sLook (.agg 128) (I 0) false x12 v1 h5 fun v11 => yZ v11 v2 (sExt 1 v4 fun v7 =>
 sEntst x12 v7 v3 h5 n6 fun v8 h9 n10 =>
 K (F89.fr x0 x1 x2 x3 x4 x5 x6 x7 x8 x9 x10 x11 x12 x13 x14 x15 x16 x17 x18 x19 x20 x21 x22 x23 x24 x25 x26 x27 x28 x29 x30 x31 x32 x33) h9 n10)))) := by kernel_rfl
end Go.Ev
namespace Go.Ev
open Go Go.Proofs
set_option maxRecDepth 100000
variable {N : Nat} {C : Calls Prop} {K0 : Kw Prop} {K R : Ks Prop} {h : T Blk} {nx : Pa} {x0 x1 x2 x3 x4 x5 x6 x7 x8 x9 x10 x11 x12 x13 x14 x15 x16 x17 x18 x19 x20 x21 x22 a0 a1 a2 : AV}
theorem F31.g9_eq (X10 : IR) (C : Calls Prop) (N : Nat) (O : Outs Prop) (K : Ks Prop) (x0 x1 x2 x3 x4 x5 x6 x7 x8 x9 x10 x11 x12 x13 x14 x15 x16 x17 x18 x19 x20 x21 x22 : AV) (h : T Blk) (nx : Pa) : IR.run (F31.g9 X10) C N O K (F31.fr x0 x1 x2 x3 x4 x5 x6 x7 x8 x9 x10 x11 x12 x13 x14 x15 x16 x17 x18 x19 x20 x21 x22) h nx =
 IR.run X10 C N (O.blk 2 K) K (F31.fr x0 x1 x2 x3 x4 x5 x6 x7 x8 x9 x10 x11 x12 x13 x14 x15 x16 x17 x18 x19 x20 x21 x22) h nx := by kernel_rfl
theorem F31.g4_eq (X5 : IR) (C : Calls Prop) (N : Nat) (O : Outs Prop) (K : Ks Prop) (x0 x1 x2 x3 x4 x5 x6 x7 x8 x9 x10 x11 x12 x13 x14 x15 x16 x17 x18 x19 x20 x21 x22 : AV) (h : T Blk) (nx : Pa) : IR.run (F31.g4 X5) C N O K (F31.fr x0 x1 x2 x3 x4 x5 x6 x7 x8 x9 x10 x11 x12 x13 x14 x15 x16 x17 x18 x19 x20 x21 x22) h nx =
 IR.run X5 C N (O.blk 0 K) K (F31.fr x0 x1 x2 x3 x4 x5 x6 x7 x8 x9 x10 x11 x12 x13 x14 x15 x16 x17 x18 x19 x20 x21 x22) h nx := by kernel_rfl
theorem F31.tab : T.get none (.of 31) tbl = some F31 := by kernel_rfl
theorem F31.go : zQ tbl N C (.of 31) [a0, a1, a2] h nx K0 =
 sBox a0 h nx fun v1 h2 n3 =>
 yJ 2 v1 h2 fun v4 =>
 C.fn 87 (.of 87) [v4, a1] h2 n3 fun v5 h6 n7 =>
 sBin .neq .int v5 (I 0) fun v8 =>
 zH v8 (K0 (.tup [(I 0), v5]) h6 n7) (zN 0 v1 fun v9 =>
 zA v9 h6 fun v10 =>
 sBin .quo .int v10 (I 2) fun v11 =>
 zN 0 v1 fun v12 =>
 zA v12 h6 fun v13 =>
 sBin .sub .int v13 v11 fun v14 =>
 C.fn 88 (.of 88) [v14, a1] h6 n7 fun v15 h16 n17 =>
 zH v15 (K0 (.tup [(I 0), (I 20)]) h16 n17) (zN 1 v1 fun v18 =>
 zA v18 h16 fun v19 =>
 sLen v19 fun v20 =>
 sBin .gtr .int v20 (I 0) fun v21 =>
 sG v21 true (fun k => k a2) fun v22 =>
 sG v21 true (fun k => sBin .lss .int v22 (I 0) k) fun v23 =>
 sG v21 true (fun k => k v23) fun v24 =>
 sG v24 false (fun k => k a2) fun v25 =>
 sG v24 false (fun k => sBin .gtr .int v25 (I 255) k) fun v26 =>
 sG v21 true (fun k => jL v24 (.bool true) v26 k) fun v27 =>
 jL v21 v27 (.bool false) fun v28 =>
 zH v28 (K0 (.tup [(I 0), (I 0)]) h16 n17) ((IR.run F31.b3 C N (fnO F31.res K0) (retK F31.res K0)) (F31.fr a0 a1 a2 v1 (I 0) (I 0) v5 v11 .undef .undef .undef .undef .undef .undef v8 v15 v28 .undef .undef .undef .undef .undef .undef) h16 n17))) := by
 rw [zL F31.tab]; kernel_rfl
theorem F31.k3 : IR.run F31.b3 C N (fnO F31.res K0) K (F31.fr x0 x1 x2 x3 x4 x5 x6 x7 x8 x9 x10 x11 x12 x13 x14 x15 x16 x17 x18 x19 x20 x21 x22) h nx =
 yJ 2 x3 h fun v1 =>
 zN 0 x3 fun v2 =>
 zA v2 h fun v3 =>
 C.fn 89 (.of 89) [v1, x7, v3, x1] h nx fun v4 h5 n6 =>
 yJ 2 x3 h5 fun v7 =>
 C.fn 89 (.of 89) [v7, (I 0), x7, x1] h5 n6 fun v8 h9 n10 =>
 sRange v8 h9 n10 fun v11 h12 n13 =>
 IR.run F31.b4 C N (fnO F31.res K0) (IR.run F31.b18 C N (fnO F31.res K0) K) (F31.fr x0 x1 x2 x3 x4 x5 x6 x7 v4 (I 0) x10 x11 x12 x13 x14 x15 x16 v11 x18 x19 x20 x21 x22) h12 n13 := by kernel_rfl
theorem F31.e4 : IR.run F31.b6 C N ((fnO F31.res K0).blk 0 K) R (F31.fr x0 x1 x2 x3 x4 x5 x6 x7 x8 x9 x10 x11 x12 x13 x14 x15 x16 x17 x18 x19 x20 x21 x22) h nx =
 sNext C x17 h nx fun v1 h2 n3 =>
 sExt 0 v1 fun v4 =>
 zH v4 (sEntry x17 h2 fun v5 =>
 sExt 0 v5 fun v6 =>
 sExt 1 v5 fun v7 =>
 jS zU h2 n3 fun v8 h9 n10 =>
 yG 128 v8 v6 h9 n10 fun v11 h12 n13 =>
 jS zU h12 n13 fun v14 h15 n16 =>
 zN 1 x3 fun v17 =>
 zA v17 h15 fun v18 =>
 sLen v18 fun v19 =>
 IR.run F31.b9 C N (((fnO F31.res K0).blk 0 K).blk 1 R) (IR.run F31.b17 C N (((fnO F31.res K0).blk 0 K).blk 1 R) R) (F31.fr x0 x1 x2 x3 x4 x5 x6 x7 x8 x9 v8 v7 v14 x13 x14 x15 x16 x17 v4 v19 (I 0) x21 x22) h15 n16) (K (F31.fr x0 x1 x2 x3 x4 x5 x6 x7 x8 x9 x10 x11 x12 x13 x14 x15 x16 x17 v4 x19 x20 x21 x22) h2 n3) := by kernel_rfl
theorem F31.L4 (Inv : Nat → AV → T Blk → Pa → Prop) {m : Nat} (hm : m < N) (hi : Inv m x9 h nx)
  (step : ∀ (m : Nat) (z9 z10 z11 z12 z13 z18 z19 z20 z21 z22 : AV) (h : T Blk) (nx : Pa) (R : Ks Prop), Inv m z9 h nx → (∀ (m' : Nat) (w9 w10 w11 w12 w13 w18 w19 w20 w21 w22 : AV) (h' : T Blk) (nx' : Pa), m' < m → Inv m' w9 h' nx' → R (F31.fr x0 x1 x2 x3 x4 x5 x6 x7 x8 w9 w10 w11 w12 w13 x14 x15 x16 x17 w18 w19 w20 w21 w22) h' nx' = .ok True) →
   (sNext C x17 h nx fun v1 h2 n3 =>
 sExt 0 v1 fun v4 =>
 zH v4 (sEntry x17 h2 fun v5 =>
 sExt 0 v5 fun v6 =>
 sExt 1 v5 fun v7 =>
 jS zU h2 n3 fun v8 h9 n10 =>
 yG 128 v8 v6 h9 n10 fun v11 h12 n13 =>
 jS zU h12 n13 fun v14 h15 n16 =>
 zN 1 x3 fun v17 =>
 zA v17 h15 fun v18 =>
 sLen v18 fun v19 =>
 IR.run F31.b9 C N (((fnO F31.res K0).blk 0 K).blk 1 R) (IR.run F31.b17 C N (((fnO F31.res K0).blk 0 K).blk 1 R) R) (F31.fr x0 x1 x2 x3 x4 x5 x6 x7 x8 z9 v8 v7 v14 z13 x14 x15 x16 x17 v4 v19 (I 0) z21 z22) h15 n16) (K (F31.fr x0 x1 x2 x3 x4 x5 x6 x7 x8 z9 z10 z11 z12 z13 x14 x15 x16 x17 v4 z19 z20 z21 z22) h2 n3)) = .ok True) :
  IR.run F31.b4 C N (fnO F31.res K0) K (F31.fr x0 x1 x2 x3 x4 x5 x6 x7 x8 x9 x10 x11 x12 x13 x14 x15 x16 x17 x18 x19 x20 x21 x22) h nx = .ok True := by
 rw [F31.b4, F31.g4_eq, F31.b5]
 refine zX (fun m tm h nx => ∃ z9 z10 z11 z12 z13 z18 z19 z20 z21 z22, tm = (F31.fr x0 x1 x2 x3 x4 x5 x6 x7 x8 z9 z10 z11 z12 z13 x14 x15 x16 x17 z18 z19 z20 z21 z22) ∧ Inv m z9 h nx) ?_ hm ⟨_, _, _, _, _, _, _, _, _, _, rfl, hi⟩
 rintro m tm h nx R ⟨z9, z10, z11, z12, z13, z18, z19, z20, z21, z22, rfl, hi⟩ hR
 rw [F31.e4]
 exact step m z9 z10 z11 z12 z13 z18 z19 z20 z21 z22 h nx R hi fun m' w9 w10 w11 w12 w13 w18 w19 w20 w21 w22 h' nx' hlt hi' => hR m' _ h' nx' hlt ⟨_, _, _, _, _, _, _, _, _, _, rfl, hi'⟩
theorem F31.k18 : IR.run F31.b18 C N (fnO F31.res K0) K (F31.fr x0 x1 x2 x3 x4 x5 x6 x7 x8 x9 x10 x11 x12 x13 x14 x15 x16 x17 x18 x19 x20 x21 x22) h nx =
 K0 (.tup [x9, (I 0)]) h nx := by kernel_rfl
theorem F31.e9 {E0 E1 : Ks Prop} : IR.run F31.b11 C N ((((fnO F31.res K0).blk 0 E0).blk 1 E1).blk 2 K) R (F31.fr x0 x1 x2 x3 x4 x5 x6 x7 x8 x9 x10 x11 x12 x13 x14 x15 x16 x17 x18 x19 x20 x21 x22) h nx =
 sBin .lss .int x20 x19 fun v1 =>
 zH v1 (yY 1 128 x10 x20 fun v2 =>
 zA v2 h fun v3 =>
 sConv .i64 v3 fun v4 =>
 sBin .gtr .int v4 x2 fun v5 =>
 zH v5 (E1 (F31.fr x0 x1 x2 x3 x4 x5 x6 x7 x8 x9 x10 x11 x12 x20 x14 x15 x16 x17 x18 x19 x20 v1 v5) h nx) (sConv .u8 x2 fun v6 =>
 yY 1 128 x10 x20 fun v7 =>
 zA v7 h fun v8 =>
 sBin .sub .int v6 v8 fun v9 =>
 yY 1 128 x12 x20 fun v10 =>
 yG 1 v10 v9 h nx fun v11 h12 n13 =>
 sBin .add .int x20 (I 1) fun v14 =>
 R (F31.fr x0 x1 x2 x3 x4 x5 x6 x7 x8 x9 x10 x11 x12 x20 x14 x15 x16 x17 x18 x19 v14 v1 v5) h12 n13)) (K (F31.fr x0 x1 x2 x3 x4 x5 x6 x7 x8 x9 x10 x11 x12 x13 x14 x15 x16 x17 x18 x19 x20 v1 x22) h nx) := by kernel_rfl
theorem F31.L9 {E0 E1 : Ks Prop} (Inv : Nat → AV → T Blk → Pa → Prop) {m : Nat} (hm : m < N) (hi : Inv m x20 h nx)
  (step : ∀ (m : Nat) (z13 z20 z21 z22 : AV) (h : T Blk) (nx : Pa) (R : Ks Prop), Inv m z20 h nx → (∀ (m' : Nat) (w13 w20 w21 w22 : AV) (h' : T Blk) (nx' : Pa), m' < m → Inv m' w20 h' nx' → R (F31.fr x0 x1 x2 x3 x4 x5 x6 x7 x8 x9 x10 x11 x12 w13 x14 x15 x16 x17 x18 x19 w20 w21 w22) h' nx' = .ok True) →
   (sBin .lss .int z20 x19 fun v1 =>
 zH v1 (yY 1 128 x10 z20 fun v2 =>
 zA v2 h fun v3 =>
 sConv .i64 v3 fun v4 =>
 sBin .gtr .int v4 x2 fun v5 =>
 zH v5 (E1 (F31.fr x0 x1 x2 x3 x4 x5 x6 x7 x8 x9 x10 x11 x12 z20 x14 x15 x16 x17 x18 x19 z20 v1 v5) h nx) (sConv .u8 x2 fun v6 =>
 yY 1 128 x10 z20 fun v7 =>
 zA v7 h fun v8 =>
 sBin .sub .int v6 v8 fun v9 =>
 yY 1 128 x12 z20 fun v10 =>
 yG 1 v10 v9 h nx fun v11 h12 n13 =>
 sBin .add .int z20 (I 1) fun v14 =>
 R (F31.fr x0 x1 x2 x3 x4 x5 x6 x7 x8 x9 x10 x11 x12 z20 x14 x15 x16 x17 x18 x19 v14 v1 v5) h12 n13)) (K (F31.fr x0 x1 x2 x3 x4 x5 x6 x7 x8 x9 x10 x11 x12 z13 x14 x15 x16 x17 x18 x19 z20 v1 z22) h nx)) = .ok True) :
  IR.run F31.b9 C N (((fnO F31.res K0).blk 0 E0).blk 1 E1) K (F31.fr x0 x1 x2 x3 x4 x5 x6 x7 x8 x9 x10 x11 x12 x13 x14 x15 x16 x17 x18 x19 x20 x21 x22) h nx = .ok True := by
 rw [F31.b9, F31.g9_eq, F31.b10]
 refine zX (fun m tm h nx => ∃ z13 z20 z21 z22, tm = (F31.fr x0 x1 x2 x3 x4 x5 x6 x7 x8 x9 x10 x11 x12 z13 x14 x15 x16 x17 x18 x19 z20 z21 z22) ∧ Inv m z20 h nx) ?_ hm ⟨_, _, _, _, rfl, hi⟩
 rintro m tm h nx R ⟨z13, z20, z21, z22, rfl, hi⟩ hR
 rw [F31.e9]
 exact step m z13 z20 z21 z22 h nx R hi fun m' w13 w20 w21 w22 h' nx' hlt hi' => hR m' _ h' nx' hlt ⟨_, _, _, _, rfl, hi'⟩
theorem F31.k17 {E0 E1 : Ks Prop} : IR.run F31.b17 C N (((fnO F31.res K0).blk 0 E0).blk 1 E1) K (F31.fr x0 x1 x2 x3 x4 x5 x6 x7 x8 x9 x10 x11 x12 x13 x14 x15 x16 x17 x18 x19 x20 x21 x22) h nx =
 yJ 128 x12 h fun v1 =>
 sLook (.agg 128) (I 0) false x8 v1 h fun v2 =>
 sBin .mul .int x11 v2 fun v3 =>
 sBin .add .int x9 v3 fun v4 =>
 K (F31.fr x0 x1 x2 x3 x4 x5 x6 x7 x8 v4 x10 x11 x12 x13 x14 x15 x16 x17 x18 x19 x20 x21 x22) h nx := by kernel_rfl
end Go.Ev
namespace Go.Ev
open Go Go.Proofs
set_option maxRecDepth 100000
variable {N : Nat} {C : Calls Prop} {K0 : Kw Prop} {K R : Ks Prop} {h : T Blk} {nx : Pa} {x0 x1 x2 x3 x4 x5 x6 x7 x8 a0 a1 : AV}
theorem F149.tab : T.get none (.of 149) tbl = some F149 := by kernel_rfl
theorem F149.go : zQ tbl N C (.of 149) [a0, a1] h nx K0 =
 zA a1 h fun v1 =>
 C.fn 150 (.of 150) [a0, v1] h nx fun v2 h3 n4 =>
 K0 v2 h3 n4 := by
 rw [zL F149.tab]; kernel_rfl
theorem F148.tab : T.get none (.of 148) tbl = some F148 := by kernel_rfl
theorem F148.go : zQ tbl N C (.of 148) [a0, a1] h nx K0 =
 C.fn 172 (.of 172) [a0, a1] h nx fun v1 h2 n3 =>
 sBin .geq .int v1 (I 0) fun v4 =>
 K0 v4 h2 n3 := by
 rw [zL F148.tab]; kernel_rfl
theorem F172.g1_eq (X2 : IR) (C : Calls Prop) (N : Nat) (O : Outs Prop) (K : Ks Prop) (x0 x1 x2 x3 x4 x5 x6 x7 : AV) (h : T Blk) (nx : Pa) : IR.run (F172.g1 X2) C N O K (F172.fr x0 x1 x2 x3 x4 x5 x6 x7) h nx =
 IR.run X2 C N (O.blk 0 K) K (F172.fr x0 x1 x2 x3 x4 x5 x6 x7) h nx := by kernel_rfl
theorem F172.tab : T.get none (.of 172) tbl = some F172 := by kernel_rfl
theorem F172.go : zQ tbl N C (.of 172) [a0, a1] h nx K0 =
 sLen a0 fun v1 =>
 IR.run F172.b1 C N (fnO F172.res K0) (IR.run F172.b8 C N (fnO F172.res K0) (retK F172.res K0)) (F172.fr a0 a1 (I 0) .undef v1 (I 0) .undef .undef) h nx := by
 rw [zL F172.tab]; kernel_rfl
theorem F172.e1 : IR.run F172.b3 C N ((fnO F172.res K0).blk 0 K) R (F172.fr x0 x1 x2 x3 x4 x5 x6 x7) h nx =
 sBin .lss .int x5 x4 fun v1 =>
 zH v1 (zE 1 x0 x5 fun v2 =>
 zA v2 h fun v3 =>
 sCall C x1 [v3] h nx fun v4 h5 n6 =>
 zH v4 (K0 x5 h5 n6) (sBin .add .int x5 (I 1) fun v7 =>
 R (F172.fr x0 x1 x2 x5 x4 v7 v1 v4) h5 n6)) (K (F172.fr x0 x1 x2 x3 x4 x5 v1 x7) h nx) := by kernel_rfl
theorem F172.L1 (Inv : Nat → AV → T Blk → Pa → Prop) {m : Nat} (hm : m < N) (hi : Inv m x5 h nx)
  (step : ∀ (m : Nat) (z2 z3 z5 z6 z7 : AV) (h : T Blk) (nx : Pa) (R : Ks Prop), Inv m z5 h nx → (∀ (m' : Nat) (w2 w3 w5 w6 w7 : AV) (h' : T Blk) (nx' : Pa), m' < m → Inv m' w5 h' nx' → R (F172.fr x0 x1 w2 w3 x4 w5 w6 w7) h' nx' = .ok True) →
   (sBin .lss .int z5 x4 fun v1 =>
 zH v1 (zE 1 x0 z5 fun v2 =>
 zA v2 h fun v3 =>
 sCall C x1 [v3] h nx fun v4 h5 n6 =>
 zH v4 (K0 z5 h5 n6) (sBin .add .int z5 (I 1) fun v7 =>
 R (F172.fr x0 x1 z2 z5 x4 v7 v1 v4) h5 n6)) (K (F172.fr x0 x1 z2 z3 x4 z5 v1 z7) h nx)) = .ok True) :
  IR.run F172.b1 C N (fnO F172.res K0) K (F172.fr x0 x1 x2 x3 x4 x5 x6 x7) h nx = .ok True := by
 rw [F172.b1, F172.g1_eq, F172.b2]
 refine zX (fun m tm h nx => ∃ z2 z3 z5 z6 z7, tm = (F172.fr x0 x1 z2 z3 x4 z5 z6 z7) ∧ Inv m z5 h nx) ?_ hm ⟨_, _, _, _, _, rfl, hi⟩
 rintro m tm h nx R ⟨z2, z3, z5, z6, z7, rfl, hi⟩ hR
 rw [F172.e1]
 exact step m z2 z3 z5 z6 z7 h nx R hi fun m' w2 w3 w5 w6 w7 h' nx' hlt hi' => hR m' _ h' nx' hlt ⟨_, _, _, _, _, rfl, hi'⟩
theorem F172.k8 : IR.run F172.b8 C N (fnO F172.res K0) K (F172.fr x0 x1 x2 x3 x4 x5 x6 x7) h nx =
 K0 (I (-1)) h nx := by kernel_rfl
theorem F150.g2_eq (X3 : IR) (C : Calls Prop) (N : Nat) (O : Outs Prop) (K : Ks Prop) (x0 x1 x2 x3 x4 x5 x6 x7 x8 : AV) (h : T Blk) (nx : Pa) : IR.run (F150.g2 X3) C N O K (F150.fr x0 x1 x2 x3 x4 x5 x6 x7 x8) h nx =
 IR.run X3 C N (O.blk 0 K) K (F150.fr x0 x1 x2 x3 x4 x5 x6 x7 x8) h nx := by kernel_rfl
theorem F150.tab : T.get none (.of 150) tbl = some F150 := by kernel_rfl
theorem F150.go : zQ tbl N C (.of 150) [a0, a1] h nx K0 =
 sLen a0 fun v1 =>
 sLen a1 fun v2 =>
 sBin .neq .int v1 v2 fun v3 =>
 zH v3 (K0 (.bool false) h nx) (sLen a0 fun v4 =>
 IR.run F150.b2 C N (fnO F150.res K0) (IR.run F150.b9 C N (fnO F150.res K0) (retK F150.res K0)) (F150.fr a0 a1 (.bool false) .undef v3 v4 (I 0) .undef .undef) h nx) := by
 rw [zL F150.tab]; kernel_rfl
theorem F150.e2 : IR.run F150.b4 C N ((fnO F150.res K0).blk 0 K) R (F150.fr x0 x1 x2 x3 x4 x5 x6 x7 x8) h nx =
 sBin .lss .int x6 x5 fun v1 =>
 zH v1 (zE 1 x0 x6 fun v2 =>
 zA v2 h fun v3 =>
 zE 1 x1 x6 fun v4 =>
 zA v4 h fun v5 =>
 sBin .neq .int v3 v5 fun v6 =>
 zH v6 (K0 (.bool false) h nx) (sBin .add .int x6 (I 1) fun v7 =>
 R (F150.fr x0 x1 x2 x6 x4 x5 v7 v1 v6) h nx)) (K (F150.fr x0 x1 x2 x3 x4 x5 x6 v1 x8) h nx) := by kernel_rfl
theorem F150.L2 (Inv : Nat → AV → T Blk → Pa → Prop) {m : Nat} (hm : m < N) (hi : Inv m x6 h nx)
  (step : ∀ (m : Nat) (z2 z3 z6 z7 z8 : AV) (h : T Blk) (nx : Pa) (R : Ks Prop), Inv m z6 h nx → (∀ (m' : Nat) (w2 w3 w6 w7 w8 : AV) (h' : T Blk) (nx' : Pa), m' < m → Inv m' w6 h' nx' → R (F150.fr x0 x1 w2 w3 x4 x5 w6 w7 w8) h' nx' = .ok True) →
   (sBin .lss .int z6 x5 fun v1 =>
 zH v1 (zE 1 x0 z6 fun v2 =>
 zA v2 h fun v3 =>
 zE 1 x1 z6 fun v4 =>
 zA v4 h fun v5 =>
 sBin .neq .int v3 v5 fun v6 =>
 zH v6 (K0 (.bool false) h nx) (sBin .add .int z6 (I 1) fun v7 =>
 R (F150.fr x0 x1 z2 z6 x4 x5 v7 v1 v6) h nx)) (K (F150.fr x0 x1 z2 z3 x4 x5 z6 v1 z8) h nx)) = .ok True) :
  IR.run F150.b2 C N (fnO F150.res K0) K (F150.fr x0 x1 x2 x3 x4 x5 x6 x7 x8) h nx = .ok True := by
 rw [F150.b2, F150.g2_eq, F150.b3]
 refine zX (fun m tm h nx => ∃ z2 z3 z6 z7 z8, tm = (F150.fr x0 x1 z2 z3 x4 x5 z6 z7 z8) ∧ Inv m z6 h nx) ?_ hm ⟨_, _, _, _, _, rfl, hi⟩
 rintro m tm h nx R ⟨z2, z3, z6, z7, z8, rfl, hi⟩ hR
 rw [F150.e2]
 exact step m z2 z3 z6 z7 z8 h nx R hi fun m' w2 w3 w6 w7 w8 h' nx' hlt hi' => hR m' _ h' nx' hlt ⟨_, _, _, _, _, rfl, hi'⟩
theorem F150.k9 : IR.run F150.b9 C N (fnO F150.res K0) K (F150.fr x0 x1 x2 x3 x4 x5 x6 x7 x8) h nx =
 K0 (.bool true) h nx := by kernel_rfl
theorem F84.g1_eq (X2 : IR) (C : Calls Prop) (N : Nat) (O : Outs Prop) (K : Ks Prop) (x0 x1 x2 x3 x4 x5 : AV) (h : T Blk) (nx : Pa) : IR.run (F84.g1 X2) C N O K (F84.fr x0 x1 x2 x3 x4 x5) h nx =
 IR.run X2 C N (O.blk 0 K) K (F84.fr x0 x1 x2 x3 x4 x5) h nx := by kernel_rfl
theorem F84.tab : T.get none (.of 84) tbl = some F84 := by kernel_rfl
theorem F84.go : zQ tbl N C (.of 84) [a0, a1] h nx K0 =
 IR.run F84.b1 C N (fnO F84.res K0) (IR.run F84.b8 C N (fnO F84.res K0) (retK F84.res K0)) (F84.fr a0 a1 (.bool false) (I 0) .undef .undef) h nx := by
 rw [zL F84.tab]; kernel_rfl
theorem F84.e1 : IR.run F84.b3 C N ((fnO F84.res K0).blk 0 K) R (F84.fr x0 x1 x2 x3 x4 x5) h nx =
 sLen x0 fun v1 =>
 sBin .lss .int x3 v1 fun v2 =>
 zH v2 (zE 1 x0 x3 fun v3 =>
 zA v3 h fun v4 =>
 C.fn 35 (.of 35) [v4, x1] h nx fun v5 h6 n7 =>
 zH v5 (K0 (.bool true) h6 n7) (sBin .add .int x3 (I 1) fun v8 =>
 R (F84.fr x0 x1 x2 v8 v2 v5) h6 n7)) (K (F84.fr x0 x1 x2 x3 v2 x5) h nx) := by kernel_rfl
theorem F84.L1 (Inv : Nat → AV → T Blk → Pa → Prop) {m : Nat} (hm : m < N) (hi : Inv m x3 h nx)
  (step : ∀ (m : Nat) (z2 z3 z4 z5 : AV) (h : T Blk) (nx : Pa) (R : Ks Prop), Inv m z3 h nx → (∀ (m' : Nat) (w2 w3 w4 w5 : AV) (h' : T Blk) (nx' : Pa), m' < m → Inv m' w3 h' nx' → R (F84.fr x0 x1 w2 w3 w4 w5) h' nx' = .ok True) →
   (sLen x0 fun v1 =>
 sBin .lss .int z3 v1 fun v2 =>
 zH v2 (zE 1 x0 z3 fun v3 =>
 zA v3 h fun v4 =>
 C.fn 35 (.of 35) [v4, x1] h nx fun v5 h6 n7 =>
 zH v5 (K0 (.bool true) h6 n7) (sBin .add .int z3 (I 1) fun v8 =>
 R (F84.fr x0 x1 z2 v8 v2 v5) h6 n7)) (K (F84.fr x0 x1 z2 z3 v2 z5) h nx)) = .ok True) :
  IR.run F84.b1 C N (fnO F84.res K0) K (F84.fr x0 x1 x2 x3 x4 x5) h nx = .ok True := by
 rw [F84.b1, F84.g1_eq, F84.b2]
 refine zX (fun m tm h nx => ∃ z2 z3 z4 z5, tm = (F84.fr x0 x1 z2 z3 z4 z5) ∧ Inv m z3 h nx) ?_ hm ⟨_, _, _, _, rfl, hi⟩
 rintro m tm h nx R ⟨z2, z3, z4, z5, rfl, hi⟩ hR
 rw [F84.e1]
 exact step m z2 z3 z4 z5 h nx R hi fun m' w2 w3 w4 w5 h' nx' hlt hi' => hR m' _ h' nx' hlt ⟨_, _, _, _, rfl, hi'⟩
theorem F84.k8 : IR.run F84.b8 C N (fnO F84.res K0) K (F84.fr x0 x1 x2 x3 x4 x5) h nx =
 K0 (.bool false) h nx := by kernel_rfl
theorem F121.g1_eq (X2 : IR) (C : Calls Prop) (N : Nat) (O : Outs Prop) (K : Ks Prop) (x0 x1 x2 x3 x4 x5 x6 x7 : AV) (h : T Blk) (nx : Pa) : IR.run (F121.g1 X2) C N O K (F121.fr x0 x1 x2 x3 x4 x5 x6 x7) h nx =
 IR.run X2 C N (O.blk 0 K) K (F121.fr x0 x1 x2 x3 x4 x5 x6 x7) h nx := by kernel_rfl
theorem F121.tab : T.get none (.of 121) tbl = some F121 := by kernel_rfl
theorem F121.go : zQ tbl N C (.of 121) [a0] h nx K0 =
 sLen a0 fun v1 =>
 IR.run F121.b1 C N (fnO F121.res K0) (IR.run F121.b8 C N (fnO F121.res K0) (retK F121.res K0)) (F121.fr a0 (I 0) .undef a0 v1 (I 0) .undef .undef) h nx := by
 rw [zL F121.tab]; kernel_rfl
theorem F121.e1 : IR.run F121.b3 C N ((fnO F121.res K0).blk 0 K) R (F121.fr x0 x1 x2 x3 x4 x5 x6 x7) h nx =
 sBin .lss .int x5 x4 fun v1 =>
 zH v1 (zE 1 x3 x5 fun v2 =>
 zA v2 h fun v3 =>
 sBin .neq .int v3 (I 0) fun v4 =>
 zH v4 (K0 v3 h nx) (sBin .add .int x5 (I 1) fun v5 =>
 R (F121.fr x0 x1 v3 x3 x4 v5 v1 v4) h nx)) (K (F121.fr x0 x1 x2 x3 x4 x5 v1 x7) h nx) := by kernel_rfl
theorem F121.L1 (Inv : Nat → AV → T Blk → Pa → Prop) {m : Nat} (hm : m < N) (hi : Inv m x5 h nx)
  (step : ∀ (m : Nat) (z1 z2 z5 z6 z7 : AV) (h : T Blk) (nx : Pa) (R : Ks Prop), Inv m z5 h nx → (∀ (m' : Nat) (w1 w2 w5 w6 w7 : AV) (h' : T Blk) (nx' : Pa), m' < m → Inv m' w5 h' nx' → R (F121.fr x0 w1 w2 x3 x4 w5 w6 w7) h' nx' = .ok True) →
   (sBin .lss .int z5 x4 fun v1 =>
 zH v1 (zE 1 x3 z5 fun v2 =>
 zA v2 h fun v3 =>
 sBin .neq .int v3 (I 0) fun v4 =>
 zH v4 (K0 v3 h nx) (sBin .add .int z5 (I 1) fun v5 =>
 R (F121.fr x0 z1 v3 x3 x4 v5 v1 v4) h nx)) (K (F121.fr x0 z1 z2 x3 x4 z5 v1 z7) h nx)) = .ok True) :
  IR.run F121.b1 C N (fnO F121.res K0) K (F121.fr x0 x1 x2 x3 x4 x5 x6 x7) h nx = .ok True := by
 rw [F121.b1, F121.g1_eq, F121.b2]
 refine zX (fun m tm h nx => ∃ z1 z2 z5 z6 z7, tm = (F121.fr x0 z1 z2 x3 x4 z5 z6 z7) ∧ Inv m z5 h nx) ?_ hm ⟨_, _, _, _, _, rfl, hi⟩
 rintro m tm h nx R ⟨z1, z2, z5, z6, z7, rfl, hi⟩ hR
 rw [F121.e1]
 exact step m z1 z2 z5 z6 z7 h nx R hi fun m' w1 w2 w5 w6 w7 h' nx' hlt hi' => hR m' _ h' nx' hlt ⟨_, _, _, _, _, rfl, hi'⟩
theorem F121.k8 : IR.run F121.b8 C N (fnO F121.res K0) K (F121.fr x0 x1 x2 x3 x4 x5 x6 x7) h nx =
 K0 (I 0) h nx := by kernel_rfl
theorem F123.tab : T.get none (.of 123) tbl = some F123 := by kernel_rfl
theorem F123.go : zQ tbl N C (.of 123) [a0, a1] h nx K0 =
 zH a0 (K0 a1 h nx) (K0 (I 0) h nx) := by
 rw [zL F123.tab]; kernel_rfl
end Go.Ev
namespace Go.Ev
open Go Go.Proofs
set_option maxRecDepth 100000
variable {N : Nat} {C : Calls Prop} {K0 : Kw Prop} {K R : Ks Prop} {h : T Blk} {nx : Pa} {x0 x1 x2 x3 x4 x5 x6 x7 x8 a0 a1 a2 : AV}
theorem F25.g2_eq (X3 : IR) (C : Calls Prop) (N : Nat) (O : Outs Prop) (K : Ks Prop) (x0 x1 x2 x3 x4 x5 x6 x7 x8 : AV) (h : T Blk) (nx : Pa) : IR.run (F25.g2 X3) C N O K (F25.fr x0 x1 x2 x3 x4 x5 x6 x7 x8) h nx =
 IR.run X3 C N (O.blk 0 K) K (F25.fr x0 x1 x2 x3 x4 x5 x6 x7 x8) h nx := by kernel_rfl
theorem F25.tab : T.get none (.of 25) tbl = some F25 := by kernel_rfl
theorem F25.go : zQ tbl N C (.of 25) [a0, a1, a2] h nx K0 =
 sBox a0 h nx fun v1 h2 n3 =>
 zN 1 v1 fun v4 =>
 zA v4 h2 fun v5 =>
 sLen v5 fun v6 =>
 sBin .gtr .int v6 a2 fun v7 =>
 zH v7 (K0 (.bool false) h2 n3) (IR.run F25.b2 C N (fnO F25.res K0) (IR.run F25.b9 C N (fnO F25.res K0) (retK F25.res K0)) (F25.fr a0 a1 a2 v1 (.bool false) (I 0) v7 .undef .undef) h2 n3) := by
 rw [zL F25.tab]; kernel_rfl
theorem F25.e2 : IR.run F25.b4 C N ((fnO F25.res K0).blk 0 K) R (F25.fr x0 x1 x2 x3 x4 x5 x6 x7 x8) h nx =
 zN 1 x3 fun v1 =>
 zA v1 h fun v2 =>
 sLen v2 fun v3 =>
 sBin .lss .int x5 v3 fun v4 =>
 zH v4 (zN 1 x3 fun v5 =>
 zA v5 h fun v6 =>
 zE 1 v6 x5 fun v7 =>
 zA v7 h fun v8 =>
 sLen v8 fun v9 =>
 sBin .gtr .int v9 x1 fun v10 =>
 zH v10 (K0 (.bool false) h nx) (sBin .add .int x5 (I 1) fun v11 =>
 R (F25.fr x0 x1 x2 x3 x4 v11 x6 v4 v10) h nx)) (K (F25.fr x0 x1 x2 x3 x4 x5 x6 v4 x8) h nx) := by kernel_rfl
theorem F25.L2 (Inv : Nat → AV → T Blk → Pa → Prop) {m : Nat} (hm : m < N) (hi : Inv m x5 h nx)
  (step : ∀ (m : Nat) (z4 z5 z7 z8 : AV) (h : T Blk) (nx : Pa) (R : Ks Prop), Inv m z5 h nx → (∀ (m' : Nat) (w4 w5 w7 w8 : AV) (h' : T Blk) (nx' : Pa), m' < m → Inv m' w5 h' nx' → R (F25.fr x0 x1 x2 x3 w4 w5 x6 w7 w8) h' nx' = .ok True) →
   (zN 1 x3 fun v1 =>
 zA v1 h fun v2 =>
 sLen v2 fun v3 =>
 sBin .lss .int z5 v3 fun v4 =>
 zH v4 (zN 1 x3 fun v5 =>
 zA v5 h fun v6 =>
 zE 1 v6 z5 fun v7 =>
 zA v7 h fun v8 =>
 sLen v8 fun v9 =>
 sBin .gtr .int v9 x1 fun v10 =>
 zH v10 (K0 (.bool false) h nx) (sBin .add .int z5 (I 1) fun v11 =>
 R (F25.fr x0 x1 x2 x3 z4 v11 x6 v4 v10) h nx)) (K (F25.fr x0 x1 x2 x3 z4 z5 x6 v4 z8) h nx)) = .ok True) :
  IR.run F25.b2 C N (fnO F25.res K0) K (F25.fr x0 x1 x2 x3 x4 x5 x6 x7 x8) h nx = .ok True := by
 rw [F25.b2, F25.g2_eq, F25.b3]
 refine zX (fun m tm h nx => ∃ z4 z5 z7 z8, tm = (F25.fr x0 x1 x2 x3 z4 z5 x6 z7 z8) ∧ Inv m z5 h nx) ?_ hm ⟨_, _, _, _, rfl, hi⟩
 rintro m tm h nx R ⟨z4, z5, z7, z8, rfl, hi⟩ hR
 rw [F25.e2]
 exact step m z4 z5 z7 z8 h nx R hi fun m' w4 w5 w7 w8 h' nx' hlt hi' => hR m' _ h' nx' hlt ⟨_, _, _, _, rfl, hi'⟩
theorem F25.k9 : IR.run F25.b9 C N (fnO F25.res K0) K (F25.fr x0 x1 x2 x3 x4 x5 x6 x7 x8) h nx =
 K0 (.bool true) h nx := by kernel_rfl
end Go.Ev
namespace Go.Ev
open Go Go.Proofs
set_option maxRecDepth 100000
variable {N : Nat} {C : Calls Prop} {K0 : Kw Prop} {K R : Ks Prop} {h : T Blk} {nx : Pa} {x0 x1 x2 x3 x4 x5 x6 x7 x8 x9 x10 x11 x12 x13 a0 : AV}
theorem F27.g10_eq (X11 : IR) (C : Calls Prop) (N : Nat) (O : Outs Prop) (K : Ks Prop) (x0 x1 x2 x3 x4 x5 x6 x7 x8 x9 x10 x11 x12 x13 : AV) (h : T Blk) (nx : Pa) : IR.run (F27.g10 X11) C N O K (F27.fr x0 x1 x2 x3 x4 x5 x6 x7 x8 x9 x10 x11 x12 x13) h nx =
 IR.run X11 C N (O.blk 2 K) K (F27.fr x0 x1 x2 x3 x4 x5 x6 x7 x8 x9 x10 x11 x12 x13) h nx := by kernel_rfl
theorem F27.g3_eq (X4 : IR) (C : Calls Prop) (N : Nat) (O : Outs Prop) (K : Ks Prop) (x0 x1 x2 x3 x4 x5 x6 x7 x8 x9 x10 x11 x12 x13 : AV) (h : T Blk) (nx : Pa) : IR.run (F27.g3 X4) C N O K (F27.fr x0 x1 x2 x3 x4 x5 x6 x7 x8 x9 x10 x11 x12 x13) h nx =
 IR.run X4 C N (O.blk 0 K) K (F27.fr x0 x1 x2 x3 x4 x5 x6 x7 x8 x9 x10 x11 x12 x13) h nx := by kernel_rfl
theorem F27.tab : T.get none (.of 27) tbl = some F27 := by kernel_rfl
theorem F27.go : zQ tbl N C (.of 27) [a0] h nx K0 =
 sBox a0 h nx fun v1 h2 n3 =>
 zN 0 v1 fun v4 =>
 zA v4 h2 fun v5 =>
 sBin .lss .int v5 (I 1) fun v6 =>
 sG v6 false (fun k => zN 0 v1 k) fun v7 =>
 sG v6 false (fun k => zA v7 h2 k) fun v8 =>
 sG v6 false (fun k => sBin .gtr .int v8 (I 256) k) fun v9 =>
 jL v6 (.bool true) v9 fun v10 =>
 zH v10 (K0 (I 3) h2 n3) (zN 1 v1 fun v11 =>
 zA v11 h2 fun v12 =>
 sLen v12 fun v13 =>
 sBin .gtr .int v13 (I 128) fun v14 =>
 zH v14 (K0 (I 5) h2 n3) (IR.run F27.b3 C N (fnO F27.res K0) (IR.run F27.b20 C N (fnO F27.res K0) (retK F27.res K0)) (F27.fr a0 v1 (I 0) (I 0) .undef .undef v10 v14 .undef .undef .undef .undef .undef .undef) h2 n3)) := by
 rw [zL F27.tab]; kernel_rfl
theorem F27.e3 : IR.run F27.b5 C N ((fnO F27.res K0).blk 0 K) R (F27.fr x0 x1 x2 x3 x4 x5 x6 x7 x8 x9 x10 x11 x12 x13) h nx =
 zN 1 x1 fun v1 =>
 zA v1 h fun v2 =>
 sLen v2 fun v3 =>
 sBin .lss .int x3 v3 fun v4 =>
 zH v4 (zN 1 x1 fun v5 =>
 zA v5 h fun v6 =>
 zE 1 v6 x3 fun v7 =>
 zA v7 h fun v8 =>
 sLen v8 fun v9 =>
 sBin .eql .int v9 (I 0) fun v10 =>
 zH v10 (K0 (I 12) h nx) (IR.run F27.b10 C N (((fnO F27.res K0).blk 0 K).blk 1 (IR.run F27.b19 C N ((fnO F27.res K0).blk 0 K) R)) (IR.run F27.b18 C N (((fnO F27.res K0).blk 0 K).blk 1 (IR.run F27.b19 C N ((fnO F27.res K0).blk 0 K) R)) (IR.run F27.b19 C N ((fnO F27.res K0).blk 0 K) R)) (F27.fr x0 x1 x2 x3 v8 (I 0) x6 x7 v4 v10 x10 x11 x12 x13) h nx)) (K (F27.fr x0 x1 x2 x3 x4 x5 x6 x7 v4 x9 x10 x11 x12 x13) h nx) := by kernel_rfl
theorem F27.L3 (Inv : Nat → AV → T Blk → Pa → Prop) {m : Nat} (hm : m < N) (hi : Inv m x3 h nx)
  (step : ∀ (m : Nat) (z2 z3 z4 z5 z8 z9 z10 z11 z12 z13 : AV) (h : T Blk) (nx : Pa) (R : Ks Prop), Inv m z3 h nx → (∀ (m' : Nat) (w2 w3 w4 w5 w8 w9 w10 w11 w12 w13 : AV) (h' : T Blk) (nx' : Pa), m' < m → Inv m' w3 h' nx' → R (F27.fr x0 x1 w2 w3 w4 w5 x6 x7 w8 w9 w10 w11 w12 w13) h' nx' = .ok True) →
   (zN 1 x1 fun v1 =>
 zA v1 h fun v2 =>
 sLen v2 fun v3 =>
 sBin .lss .int z3 v3 fun v4 =>
 zH v4 (zN 1 x1 fun v5 =>
 zA v5 h fun v6 =>
 zE 1 v6 z3 fun v7 =>
 zA v7 h fun v8 =>
 sLen v8 fun v9 =>
 sBin .eql .int v9 (I 0) fun v10 =>
 zH v10 (K0 (I 12) h nx) (IR.run F27.b10 C N (((fnO F27.res K0).blk 0 K).blk 1 (IR.run F27.b19 C N ((fnO F27.res K0).blk 0 K) R)) (IR.run F27.b18 C N (((fnO F27.res K0).blk 0 K).blk 1 (IR.run F27.b19 C N ((fnO F27.res K0).blk 0 K) R)) (IR.run F27.b19 C N ((fnO F27.res K0).blk 0 K) R)) (F27.fr x0 x1 z2 z3 v8 (I 0) x6 x7 v4 v10 z10 z11 z12 z13) h nx)) (K (F27.fr x0 x1 z2 z3 z4 z5 x6 x7 v4 z9 z10 z11 z12 z13) h nx)) = .ok True) :
  IR.run F27.b3 C N (fnO F27.res K0) K (F27.fr x0 x1 x2 x3 x4 x5 x6 x7 x8 x9 x10 x11 x12 x13) h nx = .ok True := by
 rw [F27.b3, F27.g3_eq, F27.b4]
 refine zX (fun m tm h nx => ∃ z2 z3 z4 z5 z8 z9 z10 z11 z12 z13, tm = (F27.fr x0 x1 z2 z3 z4 z5 x6 x7 z8 z9 z10 z11 z12 z13) ∧ Inv m z3 h nx) ?_ hm ⟨_, _, _, _, _, _, _, _, _, _, rfl, hi⟩
 rintro m tm h nx R ⟨z2, z3, z4, z5, z8, z9, z10, z11, z12, z13, rfl, hi⟩ hR
 rw [F27.e3]
 exact step m z2 z3 z4 z5 z8 z9 z10 z11 z12 z13 h nx R hi fun m' w2 w3 w4 w5 w8 w9 w10 w11 w12 w13 h' nx' hlt hi' => hR m' _ h' nx' hlt ⟨_, _, _, _, _, _, _, _, _, _, rfl, hi'⟩
theorem F27.k20 : IR.run F27.b20 C N (fnO F27.res K0) K (F27.fr x0 x1 x2 x3 x4 x5 x6 x7 x8 x9 x10 x11 x12 x13) h nx =
 K0 (I 0) h nx := by kernel_rfl
theorem F27.k19 {E0 : Ks Prop} : IR.run F27.b19 C N ((fnO F27.res K0).blk 0 E0) K (F27.fr x0 x1 x2 x3 x4 x5 x6 x7 x8 x9 x10 x11 x12 x13) h nx =
 sBin .add .int x3 (I 1) fun v1 =>
 K (F27.fr x0 x1 x2 v1 x4 x5 x6 x7 x8 x9 x10 x11 x12 x13) h nx := by kernel_rfl
theorem F27.e10 {E0 E1 : Ks Prop} : IR.run F27.b12 C N ((((fnO F27.res K0).blk 0 E0).blk 1 E1).blk 2 K) R (F27.fr x0 x1 x2 x3 x4 x5 x6 x7 x8 x9 x10 x11 x12 x13) h nx =
 sLen x4 fun v1 =>
 sBin .lss .int x5 v1 fun v2 =>
 zH v2 (zE 1 x4 x5 fun v3 =>
 zA v3 h fun v4 =>
 sBin .lss .int v4 (I 0) fun v5 =>
 sG v5 false (fun k => k x4) fun v6 =>
 sG v5 false (fun k => k x5) fun v7 =>
 sG v5 false (fun k => zE 1 v6 v7 k) fun v8 =>
 sG v5 false (fun k => zA v8 h k) fun v9 =>
 sG v5 false (fun k => zN 0 x1 k) fun v10 =>
 sG v5 false (fun k => zA v10 h k) fun v11 =>
 sG v5 false (fun k => sBin .geq .int v9 v11 k) fun v12 =>
 jL v5 (.bool true) v12 fun v13 =>
 zH v13 (K0 (I 10) h nx) ((IR.run F27.b16 C N (((((fnO F27.res K0).blk 0 E0).blk 1 E1).blk 2 K).blk 3 (IR.run F27.b17 C N ((((fnO F27.res K0).blk 0 E0).blk 1 E1).blk 2 K) R)) (IR.run F27.b17 C N ((((fnO F27.res K0).blk 0 E0).blk 1 E1).blk 2 K) R)) (F27.fr x0 x1 x2 x3 x4 x5 x6 x7 x8 x9 v2 v13 x12 x13) h nx)) (K (F27.fr x0 x1 x2 x3 x4 x5 x6 x7 x8 x9 v2 x11 x12 x13) h nx) := by kernel_rfl
theorem F27.L10 {E0 E1 : Ks Prop} (Inv : Nat → AV → T Blk → Pa → Prop) {m : Nat} (hm : m < N) (hi : Inv m x5 h nx)
  (step : ∀ (m : Nat) (z2 z5 z10 z11 z12 : AV) (h : T Blk) (nx : Pa) (R : Ks Prop), Inv m z5 h nx → (∀ (m' : Nat) (w2 w5 w10 w11 w12 : AV) (h' : T Blk) (nx' : Pa), m' < m → Inv m' w5 h' nx' → R (F27.fr x0 x1 w2 x3 x4 w5 x6 x7 x8 x9 w10 w11 w12 x13) h' nx' = .ok True) →
   (sLen x4 fun v1 =>
 sBin .lss .int z5 v1 fun v2 =>
 zH v2 (zE 1 x4 z5 fun v3 =>
 zA v3 h fun v4 =>
 sBin .lss .int v4 (I 0) fun v5 =>
 sG v5 false (fun k => k x4) fun v6 =>
 sG v5 false (fun k => k z5) fun v7 =>
 sG v5 false (fun k => zE 1 v6 v7 k) fun v8 =>
 sG v5 false (fun k => zA v8 h k) fun v9 =>
 sG v5 false (fun k => zN 0 x1 k) fun v10 =>
 sG v5 false (fun k => zA v10 h k) fun v11 =>
 sG v5 false (fun k => sBin .geq .int v9 v11 k) fun v12 =>
 jL v5 (.bool true) v12 fun v13 =>
 zH v13 (K0 (I 10) h nx) ((IR.run F27.b16 C N (((((fnO F27.res K0).blk 0 E0).blk 1 E1).blk 2 K).blk 3 (IR.run F27.b17 C N ((((fnO F27.res K0).blk 0 E0).blk 1 E1).blk 2 K) R)) (IR.run F27.b17 C N ((((fnO F27.res K0).blk 0 E0).blk 1 E1).blk 2 K) R)) (F27.fr x0 x1 z2 x3 x4 z5 x6 x7 x8 x9 v2 v13 z12 x13) h nx)) (K (F27.fr x0 x1 z2 x3 x4 z5 x6 x7 x8 x9 v2 z11 z12 x13) h nx)) = .ok True) :
  IR.run F27.b10 C N (((fnO F27.res K0).blk 0 E0).blk 1 E1) K (F27.fr x0 x1 x2 x3 x4 x5 x6 x7 x8 x9 x10 x11 x12 x13) h nx = .ok True := by
 rw [F27.b10, F27.g10_eq, F27.b11]
 refine zX (fun m tm h nx => ∃ z2 z5 z10 z11 z12, tm = (F27.fr x0 x1 z2 x3 x4 z5 x6 x7 x8 x9 z10 z11 z12 x13) ∧ Inv m z5 h nx) ?_ hm ⟨_, _, _, _, _, rfl, hi⟩
 rintro m tm h nx R ⟨z2, z5, z10, z11, z12, rfl, hi⟩ hR
 rw [F27.e10]
 exact step m z2 z5 z10 z11 z12 h nx R hi fun m' w2 w5 w10 w11 w12 h' nx' hlt hi' => hR m' _ h' nx' hlt ⟨_, _, _, _, _, rfl, hi'⟩
theorem F27.k18 {E0 E1 : Ks Prop} : IR.run F27.b18 C N (((fnO F27.res K0).blk 0 E0).blk 1 E1) K (F27.fr x0 x1 x2 x3 x4 x5 x6 x7 x8 x9 x10 x11 x12 x13) h nx =
 zN 1 x1 fun v1 =>
 zA v1 h fun v2 =>
 sSlice 1 v2 none (some x3) none fun v3 =>
 C.fn 84 (.of 84) [v3, x4] h nx fun v4 h5 n6 =>
 zH v4 (K0 (I 9) h5 n6) (K (F27.fr x0 x1 x2 x3 x4 x5 x6 x7 x8 x9 x10 x11 x12 v4) h5 n6) := by kernel_rfl
theorem F27.k17 {E0 E1 E2 : Ks Prop} : IR.run F27.b17 C N ((((fnO F27.res K0).blk 0 E0).blk 1 E1).blk 2 E2) K (F27.fr x0 x1 x2 x3 x4 x5 x6 x7 x8 x9 x10 x11 x12 x13) h nx =
 sBin .add .int x5 (I 1) fun v1 =>
 K (F27.fr x0 x1 x2 x3 x4 v1 x6 x7 x8 x9 x10 x11 x12 x13) h nx := by kernel_rfl
theorem F27.k16 {E0 E1 E2 E3 : Ks Prop} : IR.run F27.b16 C N (((((fnO F27.res K0).blk 0 E0).blk 1 E1).blk 2 E2).blk 3 E3) K (F27.fr x0 x1 x2 x3 x4 x5 x6 x7 x8 x9 x10 x11 x12 x13) h nx =
 sBin .gtr .int x5 (I 0) fun v1 =>
 sG v1 true (fun k => k x4) fun v2 =>
 sG v1 true (fun k => k x5) fun v3 =>
 sG v1 true (fun k => zE 1 v2 v3 k) fun v4 =>
 sG v1 true (fun k => zA v4 h k) fun v5 =>
 sG v1 true (fun k => k x4) fun v6 =>
 sG v1 true (fun k => k x5) fun v7 =>
 sG v1 true (fun k => sBin .sub .int v7 (I 1) k) fun v8 =>
 sG v1 true (fun k => zE 1 v6 v8 k) fun v9 =>
 sG v1 true (fun k => zA v9 h k) fun v10 =>
 sG v1 true (fun k => sBin .leq .int v5 v10 k) fun v11 =>
 jL v1 v11 (.bool false) fun v12 =>
 zH v12 (K0 (I 11) h nx) (K (F27.fr x0 x1 x2 x3 x4 x5 x6 x7 x8 x9 x10 x11 v12 x13) h nx) := by kernel_rfl
end Go.Ev
namespace Go.Ev
open Go Go.Proofs
set_option maxRecDepth 100000
variable {N : Nat} {C : Calls Prop} {K0 : Kw Prop} {K R : Ks Prop} {h : T Blk} {nx : Pa} {x0 x1 x2 x3 x4 x5 x6 x7 a0 a1 a2 : AV}
theorem F122.tab : T.get none (.of 122) tbl = some F122 := by kernel_rfl
theorem F122.go : zQ tbl N C (.of 122) [a0, a1, a2] h nx K0 =
 sBox a0 h nx fun v1 h2 n3 =>
 sBox a1 h2 n3 fun v4 h5 n6 =>
 C.fn 131 (.of 131) [a2, (.fn 147 (.of 147) [v1, v4])] h5 n6 fun v7 h8 n9 =>
 C.fn 123 (.of 123) [v7, (I 3)] h8 n9 fun v10 h11 n12 =>
 K0 v10 h11 n12 := by
 rw [zL F122.tab]; kernel_rfl
theorem F147.tab : T.get none (.of 147) tbl = some F147 := by kernel_rfl
theorem F147.go : zQ tbl N C (.of 147) [a0, a1, a2] h nx K0 =
 zA a1 h fun v1 =>
 sBin .lss .int a0 v1 fun v2 =>
 sG v2 false (fun k => k a0) fun v3 =>
 sG v2 false (fun k => zA a2 h k) fun v4 =>
 sG v2 false (fun k => sBin .gtr .int v3 v4 k) fun v5 =>
 jL v2 (.bool true) v5 fun v6 =>
 K0 v6 h nx := by
 rw [zL F147.tab]; kernel_rfl
theorem F131.tab : T.get none (.of 131) tbl = some F131 := by kernel_rfl
theorem F131.go : zQ tbl N C (.of 131) [a0, a1] h nx K0 =
 C.fn 165 (.of 165) [a0, a1] h nx fun v1 h2 n3 =>
 sBin .geq .int v1 (I 0) fun v4 =>
 K0 v4 h2 n3 := by
 rw [zL F131.tab]; kernel_rfl
theorem F165.g1_eq (X2 : IR) (C : Calls Prop) (N : Nat) (O : Outs Prop) (K : Ks Prop) (x0 x1 x2 x3 x4 x5 x6 x7 : AV) (h : T Blk) (nx : Pa) : IR.run (F165.g1 X2) C N O K (F165.fr x0 x1 x2 x3 x4 x5 x6 x7) h nx =
 IR.run X2 C N (O.blk 0 K) K (F165.fr x0 x1 x2 x3 x4 x5 x6 x7) h nx := by kernel_rfl
theorem F165.tab : T.get none (.of 165) tbl = some F165 := by kernel_rfl
theorem F165.go : zQ tbl N C (.of 165) [a0, a1] h nx K0 =
 sLen a0 fun v1 =>
 IR.run F165.b1 C N (fnO F165.res K0) (IR.run F165.b8 C N (fnO F165.res K0) (retK F165.res K0)) (F165.fr a0 a1 (I 0) .undef v1 (I 0) .undef .undef) h nx := by
 rw [zL F165.tab]; kernel_rfl
theorem F165.e1 : IR.run F165.b3 C N ((fnO F165.res K0).blk 0 K) R (F165.fr x0 x1 x2 x3 x4 x5 x6 x7) h nx =
 sBin .lss .int x5 x4 fun v1 =>
 zH v1 (zE 1 x0 x5 fun v2 =>
 zA v2 h fun v3 =>
 sCall C x1 [v3] h nx fun v4 h5 n6 =>
 zH v4 (K0 x5 h5 n6) (sBin .add .int x5 (I 1) fun v7 =>
 R (F165.fr x0 x1 x2 x5 x4 v7 v1 v4) h5 n6)) (K (F165.fr x0 x1 x2 x3 x4 x5 v1 x7) h nx) := by kernel_rfl
theorem F165.L1 (Inv : Nat → AV → T Blk → Pa → Prop) {m : Nat} (hm : m < N) (hi : Inv m x5 h nx)
  (step : ∀ (m : Nat) (z2 z3 z5 z6 z7 : AV) (h : T Blk) (nx : Pa) (R : Ks Prop), Inv m z5 h nx → (∀ (m' : Nat) (w2 w3 w5 w6 w7 : AV) (h' : T Blk) (nx' : Pa), m' < m → Inv m' w5 h' nx' → R (F165.fr x0 x1 w2 w3 x4 w5 w6 w7) h' nx' = .ok True) →
   (sBin .lss .int z5 x4 fun v1 =>
 zH v1 (zE 1 x0 z5 fun v2 =>
 zA v2 h fun v3 =>
 sCall C x1 [v3] h nx fun v4 h5 n6 =>
 zH v4 (K0 z5 h5 n6) (sBin .add .int z5 (I 1) fun v7 =>
 R (F165.fr x0 x1 z2 z5 x4 v7 v1 v4) h5 n6)) (K (F165.fr x0 x1 z2 z3 x4 z5 v1 z7) h nx)) = .ok True) :
  IR.run F165.b1 C N (fnO F165.res K0) K (F165.fr x0 x1 x2 x3 x4 x5 x6 x7) h nx = .ok True := by
 rw [F165.b1, F165.g1_eq, F165.b2]
 refine zX (fun m tm h nx => ∃ z2 z3 z5 z6 z7, tm = (F165.fr x0 x1 z2 z3 x4 z5 z6 z7) ∧ Inv m z5 h nx) ?_ hm ⟨_, _, _, _, _, rfl, hi⟩
 rintro m tm h nx R ⟨z2, z3, z5, z6, z7, rfl, hi⟩ hR
 rw [F165.e1]
 exact step m z2 z3 z5 z6 z7 h nx R hi fun m' w2 w3 w5 w6 w7 h' nx' hlt hi' => hR m' _ h' nx' hlt ⟨_, _, _, _, _, rfl, hi'⟩
theorem F165.k8 : IR.run F165.b8 C N (fnO F165.res K0) K (F165.fr x0 x1 x2 x3 x4 x5 x6 x7) h nx =
 K0 (I (-1)) h nx := by kernel_rfl
theorem F80.g1_eq (X2 : IR) (C : Calls Prop) (N : Nat) (O : Outs Prop) (K : Ks Prop) (x0 x1 x2 x3 x4 x5 x6 x7 : AV) (h : T Blk) (nx : Pa) : IR.run (F80.g1 X2) C N O K (F80.fr x0 x1 x2 x3 x4 x5 x6 x7) h nx =
 IR.run X2 C N (O.blk 0 K) K (F80.fr x0 x1 x2 x3 x4 x5 x6 x7) h nx := by kernel_rfl
theorem F80.tab : T.get none (.of 80) tbl = some F80 := by kernel_rfl
theorem F80.go : zQ tbl N C (.of 80) [a0] h nx K0 =
 sLen a0 fun v1 =>
 IR.run F80.b1 C N (fnO F80.res K0) (IR.run F80.b8 C N (fnO F80.res K0) (retK F80.res K0)) (F80.fr a0 (I 0) .undef a0 v1 (I 0) .undef .undef) h nx := by
 rw [zL F80.tab]; kernel_rfl
theorem F80.e1 : IR.run F80.b3 C N ((fnO F80.res K0).blk 0 K) R (F80.fr x0 x1 x2 x3 x4 x5 x6 x7) h nx =
 sBin .lss .int x5 x4 fun v1 =>
 zH v1 (zE 1 x3 x5 fun v2 =>
 zA v2 h fun v3 =>
 sBin .neq .int v3 (I 0) fun v4 =>
 zH v4 (K0 v3 h nx) (sBin .add .int x5 (I 1) fun v5 =>
 R (F80.fr x0 x1 v3 x3 x4 v5 v1 v4) h nx)) (K (F80.fr x0 x1 x2 x3 x4 x5 v1 x7) h nx) := by kernel_rfl
theorem F80.L1 (Inv : Nat → AV → T Blk → Pa → Prop) {m : Nat} (hm : m < N) (hi : Inv m x5 h nx)
  (step : ∀ (m : Nat) (z1 z2 z5 z6 z7 : AV) (h : T Blk) (nx : Pa) (R : Ks Prop), Inv m z5 h nx → (∀ (m' : Nat) (w1 w2 w5 w6 w7 : AV) (h' : T Blk) (nx' : Pa), m' < m → Inv m' w5 h' nx' → R (F80.fr x0 w1 w2 x3 x4 w5 w6 w7) h' nx' = .ok True) →
   (sBin .lss .int z5 x4 fun v1 =>
 zH v1 (zE 1 x3 z5 fun v2 =>
 zA v2 h fun v3 =>
 sBin .neq .int v3 (I 0) fun v4 =>
 zH v4 (K0 v3 h nx) (sBin .add .int z5 (I 1) fun v5 =>
 R (F80.fr x0 z1 v3 x3 x4 v5 v1 v4) h nx)) (K (F80.fr x0 z1 z2 x3 x4 z5 v1 z7) h nx)) = .ok True) :
  IR.run F80.b1 C N (fnO F80.res K0) K (F80.fr x0 x1 x2 x3 x4 x5 x6 x7) h nx = .ok True := by
 rw [F80.b1, F80.g1_eq, F80.b2]
 refine zX (fun m tm h nx => ∃ z1 z2 z5 z6 z7, tm = (F80.fr x0 z1 z2 x3 x4 z5 z6 z7) ∧ Inv m z5 h nx) ?_ hm ⟨_, _, _, _, _, rfl, hi⟩
 rintro m tm h nx R ⟨z1, z2, z5, z6, z7, rfl, hi⟩ hR
 rw [F80.e1]
 exact step m z1 z2 z5 z6 z7 h nx R hi fun m' w1 w2 w5 w6 w7 h' nx' hlt hi' => hR m' _ h' nx' hlt ⟨_, _, _, _, _, rfl, hi'⟩
theorem F80.k8 : IR.run F80.b8 C N (fnO F80.res K0) K (F80.fr x0 x1 x2 x3 x4 x5 x6 x7) h nx =
 K0 (I 0) h nx := by kernel_rfl
end Go.Ev
namespace Go.Ev
open Go Go.Proofs
set_option maxRecDepth 100000
variable {N : Nat} {C : Calls Prop} {K0 : Kw Prop} {K R : Ks Prop} {h : T Blk} {nx : Pa} {x0 x1 x2 x3 x4 x5 x6 x7 x8 x9 x10 x11 x12 x13 a0 a1 : AV}
theorem F81.g2_eq (X3 : IR) (C : Calls Prop) (N : Nat) (O : Outs Prop) (K : Ks Prop) (x0 x1 x2 x3 x4 x5 x6 x7 x8 x9 x10 : AV) (h : T Blk) (nx : Pa) : IR.run (F81.g2 X3) C N O K (F81.fr x0 x1 x2 x3 x4 x5 x6 x7 x8 x9 x10) h nx =
 IR.run X3 C N (O.blk 0 K) K (F81.fr x0 x1 x2 x3 x4 x5 x6 x7 x8 x9 x10) h nx := by kernel_rfl
theorem F81.tab : T.get none (.of 81) tbl = some F81 := by kernel_rfl
theorem F81.go : zQ tbl N C (.of 81) [a0] h nx K0 =
 sBox a0 h nx fun v1 h2 n3 =>
 zN 0 v1 fun v4 =>
 zA v4 h2 fun v5 =>
 zN 1 v1 fun v6 =>
 zA v6 h2 fun v7 =>
 sLen v7 fun v8 =>
 sBin .gtr .int v8 (I 128) fun v9 =>
 yX 1 1 [(I 0)] [(0, 1, v5)] h2 n3 fun v10 h11 n12 =>
 (sBin .gtr .int v8 (I 128) fun v36 => yZ v36 v9 ((sLen v7 fun v35 => yZ v35 v8 ((zA v6 h11 fun v34 => yZ v34 v7 ((zN 1 v1 fun v33 => yZ v33 v6 (C.fn 122 (.of 122) [(I 1), (I 256), v10] h11 n12 fun v13 h14 n15 =>
 (sBin .gtr .int v8 (I 128) fun v32 => yZ v32 v9 ((sLen v7 fun v31 => yZ v31 v8 ((zA v6 h14 fun v30 => yZ v30 v7 ((zN 1 v1 fun v29 => yZ v29 v6 (C.fn 123 (.of 123) [v9, (I 5)] h14 n15 fun v16 h17 n18 =>
 yX 1 2 [(I 0)] [(0, 1, v13), (1, 1, v16)] h17 n18 fun v19 h20 n21 =>
 C.fn 121 (.of 121) [v19] h20 n21 fun v22 h23 n24 =>
 sBin .neq .int v22 (I 0) fun v25 =>
 zH v25 (K0 v22 h23 n24) (zN 1 v1 fun v26 =>
 zA v26 h23 fun v27 =>
 sLen v27 fun v28 =>
 IR.run F81.b2 C N (fnO F81.res K0) (IR.run F81.b9 C N (fnO F81.res K0) (retK F81.res K0)) (F81.fr a0 v1 (I 0) v22 .undef .undef v25 v28 (I 0) .undef .undef) h23 n24))))))))))))))))) := by
 rw [zL F81.tab]; kernel_rfl
theorem F81.e2 : IR.run F81.b4 C N ((fnO F81.res K0).blk 0 K) R (F81.fr x0 x1 x2 x3 x4 x5 x6 x7 x8 x9 x10) h nx =
 sBin .lss .int x8 x7 fun v1 =>
 zH v1 (yJ 2 x1 h fun v2 =>
 C.fn 124 (.of 124) [v2, x8] h nx fun v3 h4 n5 =>
 sBin .neq .int v3 (I 0) fun v6 =>
 zH v6 (K0 v3 h4 n5) (sBin .add .int x8 (I 1) fun v7 =>
 R (F81.fr x0 x1 x2 x3 x8 v3 x6 x7 v7 v1 v6) h4 n5)) (K (F81.fr x0 x1 x2 x3 x4 x5 x6 x7 x8 v1 x10) h nx) := by kernel_rfl
theorem F81.L2 (Inv : Nat → AV → T Blk → Pa → Prop) {m : Nat} (hm : m < N) (hi : Inv m x8 h nx)
  (step : ∀ (m : Nat) (z2 z4 z5 z8 z9 z10 : AV) (h : T Blk) (nx : Pa) (R : Ks Prop), Inv m z8 h nx → (∀ (m' : Nat) (w2 w4 w5 w8 w9 w10 : AV) (h' : T Blk) (nx' : Pa), m' < m → Inv m' w8 h' nx' → R (F81.fr x0 x1 w2 x3 w4 w5 x6 x7 w8 w9 w10) h' nx' = .ok True) →
   (sBin .lss .int z8 x7 fun v1 =>
 zH v1 (yJ 2 x1 h fun v2 =>
 C.fn 124 (.of 124) [v2, z8] h nx fun v3 h4 n5 =>
 sBin .neq .int v3 (I 0) fun v6 =>
 zH v6 (K0 v3 h4 n5) (sBin .add .int z8 (I 1) fun v7 =>
 R (F81.fr x0 x1 z2 x3 z8 v3 x6 x7 v7 v1 v6) h4 n5)) (K (F81.fr x0 x1 z2 x3 z4 z5 x6 x7 z8 v1 z10) h nx)) = .ok True) :
  IR.run F81.b2 C N (fnO F81.res K0) K (F81.fr x0 x1 x2 x3 x4 x5 x6 x7 x8 x9 x10) h nx = .ok True := by
 rw [F81.b2, F81.g2_eq, F81.b3]
 refine zX (fun m tm h nx => ∃ z2 z4 z5 z8 z9 z10, tm = (F81.fr x0 x1 z2 x3 z4 z5 x6 x7 z8 z9 z10) ∧ Inv m z8 h nx) ?_ hm ⟨_, _, _, _, _, _, rfl, hi⟩
 rintro m tm h nx R ⟨z2, z4, z5, z8, z9, z10, rfl, hi⟩ hR
 rw [F81.e2]
 exact step m z2 z4 z5 z8 z9 z10 h nx R hi fun m' w2 w4 w5 w8 w9 w10 h' nx' hlt hi' => hR m' _ h' nx' hlt ⟨_, _, _, _, _, _, rfl, hi'⟩
theorem F81.k9 : IR.run F81.b9 C N (fnO F81.res K0) K (F81.fr x0 x1 x2 x3 x4 x5 x6 x7 x8 x9 x10) h nx =
 K0 (I 0) h nx := by kernel_rfl
theorem F124.g2_eq (X3 : IR) (C : Calls Prop) (N : Nat) (O : Outs Prop) (K : Ks Prop) (x0 x1 x2 x3 x4 x5 x6 x7 x8 x9 x10 x11 x12 x13 : AV) (h : T Blk) (nx : Pa) : IR.run (F124.g2 X3) C N O K (F124.fr x0 x1 x2 x3 x4 x5 x6 x7 x8 x9 x10 x11 x12 x13) h nx =
 IR.run X3 C N (O.blk 0 K) K (F124.fr x0 x1 x2 x3 x4 x5 x6 x7 x8 x9 x10 x11 x12 x13) h nx := by kernel_rfl
theorem F124.tab : T.get none (.of 124) tbl = some F124 := by kernel_rfl
theorem F124.go : zQ tbl N C (.of 124) [a0, a1] h nx K0 =
 sBox a0 h nx fun v1 h2 n3 =>
 zN 1 v1 fun v4 =>
 zA v4 h2 fun v5 =>
 zE 1 v5 a1 fun v6 =>
 zA v6 h2 fun v7 =>
 jS [.nils] h2 n3 fun v8 h9 n10 =>
 yG 1 v8 v7 h9 n10 fun v11 h12 n13 =>
 zA v8 h12 fun v14 =>
 sLen v14 fun v15 =>
 sBin .eql .int v15 (I 0) fun v16 =>
 zH v16 (K0 (I 12) h12 n13) (zA v8 h12 fun v17 =>
 sLen v17 fun v18 =>
 IR.run F124.b2 C N (fnO F124.res K0) (IR.run F124.b9 C N (fnO F124.res K0) (retK F124.res K0)) (F124.fr a0 a1 v1 (I 0) v8 .undef .undef .undef v16 v17 v18 (I 0) .undef .undef) h12 n13) := by
 rw [zL F124.tab]; kernel_rfl
theorem F124.e2 : IR.run F124.b4 C N ((fnO F124.res K0).blk 0 K) R (F124.fr x0 x1 x2 x3 x4 x5 x6 x7 x8 x9 x10 x11 x12 x13) h nx =
 sBin .lss .int x11 x10 fun v1 =>
 zH v1 (zE 1 x9 x11 fun v2 =>
 zA v2 h fun v3 =>
 sBin .lss .int v3 (I 0) fun v4 =>
 sG v4 false (fun k => k v3) fun v5 =>
 sG v4 false (fun k => zN 0 x2 k) fun v6 =>
 sG v4 false (fun k => zA v6 h k) fun v7 =>
 sG v4 false (fun k => sBin .geq .int v5 v7 k) fun v8 =>
 jL v4 (.bool true) v8 fun v9 =>
 C.fn 123 (.of 123) [v9, (I 10)] h nx fun v10 h11 n12 =>
 sBin .gtr .int x11 (I 0) fun v13 =>
 sG v13 true (fun k => zA x4 h11 k) fun v14 =>
 sG v13 true (fun k => k x11) fun v15 =>
 sG v13 true (fun k => sBin .sub .int v15 (I 1) k) fun v16 =>
 sG v13 true (fun k => zE 1 v14 v16 k) fun v17 =>
 sG v13 true (fun k => zA v17 h11 k) fun v18 =>
 sG v13 true (fun k => k v3) fun v19 =>
 sG v13 true (fun k => sBin .geq .int v18 v19 k) fun v20 =>
 jL v13 v20 (.bool false) fun v21 =>
 C.fn 123 (.of 123) [v21, (I 11)] h11 n12 fun v22 h23 n24 =>
 yX 1 2 [(I 0)] [(0, 1, v10), (1, 1, v22)] h23 n24 fun v25 h26 n27 =>
 C.fn 121 (.of 121) [v25] h26 n27 fun v28 h29 n30 =>
 sBin .neq .int v28 (I 0) fun v31 =>
 zH v31 (K0 v28 h29 n30) (sBin .add .int x11 (I 1) fun v32 =>
 R (F124.fr x0 x1 x2 x3 x4 x11 v3 v28 x8 x9 x10 v32 v1 v31) h29 n30)) (K (F124.fr x0 x1 x2 x3 x4 x5 x6 x7 x8 x9 x10 x11 v1 x13) h nx) := by kernel_rfl
theorem F124.L2 (Inv : Nat → AV → T Blk → Pa → Prop) {m : Nat} (hm : m < N) (hi : Inv m x11 h nx)
  (step : ∀ (m : Nat) (z3 z5 z6 z7 z11 z12 z13 : AV) (h : T Blk) (nx : Pa) (R : Ks Prop), Inv m z11 h nx → (∀ (m' : Nat) (w3 w5 w6 w7 w11 w12 w13 : AV) (h' : T Blk) (nx' : Pa), m' < m → Inv m' w11 h' nx' → R (F124.fr x0 x1 x2 w3 x4 w5 w6 w7 x8 x9 x10 w11 w12 w13) h' nx' = .ok True) →
   (sBin .lss .int z11 x10 fun v1 =>
 zH v1 (zE 1 x9 z11 fun v2 =>
 zA v2 h fun v3 =>
 sBin .lss .int v3 (I 0) fun v4 =>
 sG v4 false (fun k => k v3) fun v5 =>
 sG v4 false (fun k => zN 0 x2 k) fun v6 =>
 sG v4 false (fun k => zA v6 h k) fun v7 =>
 sG v4 false (fun k => sBin .geq .int v5 v7 k) fun v8 =>
 jL v4 (.bool true) v8 fun v9 =>
 C.fn 123 (.of 123) [v9, (I 10)] h nx fun v10 h11 n12 =>
 sBin .gtr .int z11 (I 0) fun v13 =>
 sG v13 true (fun k => zA x4 h11 k) fun v14 =>
 sG v13 true (fun k => k z11) fun v15 =>
 sG v13 true (fun k => sBin .sub .int v15 (I 1) k) fun v16 =>
 sG v13 true (fun k => zE 1 v14 v16 k) fun v17 =>
 sG v13 true (fun k => zA v17 h11 k) fun v18 =>
 sG v13 true (fun k => k v3) fun v19 =>
 sG v13 true (fun k => sBin .geq .int v18 v19 k) fun v20 =>
 jL v13 v20 (.bool false) fun v21 =>
 C.fn 123 (.of 123) [v21, (I 11)] h11 n12 fun v22 h23 n24 =>
 yX 1 2 [(I 0)] [(0, 1, v10), (1, 1, v22)] h23 n24 fun v25 h26 n27 =>
 C.fn 121 (.of 121) [v25] h26 n27 fun v28 h29 n30 =>
 sBin .neq .int v28 (I 0) fun v31 =>
 zH v31 (K0 v28 h29 n30) (sBin .add .int z11 (I 1) fun v32 =>
 R (F124.fr x0 x1 x2 z3 x4 z11 v3 v28 x8 x9 x10 v32 v1 v31) h29 n30)) (K (F124.fr x0 x1 x2 z3 x4 z5 z6 z7 x8 x9 x10 z11 v1 z13) h nx)) = .ok True) :
  IR.run F124.b2 C N (fnO F124.res K0) K (F124.fr x0 x1 x2 x3 x4 x5 x6 x7 x8 x9 x10 x11 x12 x13) h nx = .ok True := by
 rw [F124.b2, F124.g2_eq, F124.b3]
 refine zX (fun m tm h nx => ∃ z3 z5 z6 z7 z11 z12 z13, tm = (F124.fr x0 x1 x2 z3 x4 z5 z6 z7 x8 x9 x10 z11 z12 z13) ∧ Inv m z11 h nx) ?_ hm ⟨_, _, _, _, _, _, _, rfl, hi⟩
 rintro m tm h nx R ⟨z3, z5, z6, z7, z11, z12, z13, rfl, hi⟩ hR
 rw [F124.e2]
 exact step m z3 z5 z6 z7 z11 z12 z13 h nx R hi fun m' w3 w5 w6 w7 w11 w12 w13 h' nx' hlt hi' => hR m' _ h' nx' hlt ⟨_, _, _, _, _, _, _, rfl, hi'⟩
theorem F124.k9 : IR.run F124.b9 C N (fnO F124.res K0) K (F124.fr x0 x1 x2 x3 x4 x5 x6 x7 x8 x9 x10 x11 x12 x13) h nx =
 zN 1 x2 fun v1 =>
 zA v1 h fun v2 =>
 sSlice 1 v2 none (some x1) none fun v3 =>
 C.fn 148 (.of 148) [v3, (.fn 149 (.of 149) [x4])] h nx fun v4 h5 n6 =>
 C.fn 123 (.of 123) [v4, (I 9)] h5 n6 fun v7 h8 n9 =>
 K0 v7 h8 n9 := by kernel_rfl
end Go.Ev
namespace Go.Ev
open Go Go.Proofs
set_option maxRecDepth 100000
variable {N : Nat} {C : Calls Prop} {K0 : Kw Prop} {K R : Ks Prop} {h : T Blk} {nx : Pa} {x0 x1 x2 x3 x4 x5 x6 x7 x8 x9 x10 x11 x12 x13 x14 x15 x16 x17 x18 x19 x20 x21 x22 x23 x24 x25 x26 a0 a1 a2 a3 a4 a5 a6 a7 : AV}
theorem F137.g1_eq (X2 : IR) (C : Calls Prop) (N : Nat) (O : Outs Prop) (K : Ks Prop) (x0 x1 x2 x3 x4 x5 x6 x7 x8 x9 : AV) (h : T Blk) (nx : Pa) : IR.run (F137.g1 X2) C N O K (F137.fr x0 x1 x2 x3 x4 x5 x6 x7 x8 x9) h nx =
 IR.run X2 C N (O.blk 0 K) K (F137.fr x0 x1 x2 x3 x4 x5 x6 x7 x8 x9) h nx := by kernel_rfl
theorem F137.tab : T.get none (.of 137) tbl = some F137 := by kernel_rfl
theorem F137.go : zQ tbl N C (.of 137) [a0] h nx K0 =
 sBox a0 h nx fun v1 h2 n3 =>
 zN 0 v1 fun v4 =>
 zA v4 h2 fun v5 =>
 uC 1 24 [.nils] v5 v5 h2 n3 fun v6 h7 n8 =>
 zN 1 v1 fun v9 =>
 zA v9 h7 fun v10 =>
 sLen v10 fun v11 =>
 IR.run F137.b1 C N (fnO F137.res K0) (IR.run F137.b8 C N (fnO F137.res K0) (retK F137.res K0)) (F137.fr a0 v1 .nils v6 .undef .undef v10 v11 (I 0) .undef) h7 n8 := by
 rw [zL F137.tab]; kernel_rfl
theorem F137.e1 : IR.run F137.b3 C N ((fnO F137.res K0).blk 0 K) R (F137.fr x0 x1 x2 x3 x4 x5 x6 x7 x8 x9) h nx =
 sBin .lss .int x8 x7 fun v1 =>
 zH v1 (zE 1 x6 x8 fun v2 =>
 zA v2 h fun v3 =>
 sLen v3 fun v4 =>
 sBin .sub .int v4 (I 1) fun v5 =>
 zE 1 v3 v5 fun v6 =>
 zA v6 h fun v7 =>
 zE 1 x3 v7 fun v8 =>
 zA v8 h fun v9 =>
 yX 1 1 [.nils] [(0, 1, v3)] h nx fun v10 h11 n12 =>
 sApp 1 24 v9 v10 h11 n12 fun v13 h14 n15 =>
 zE 1 x3 v7 fun v16 =>
 yG 1 v16 v13 h14 n15 fun v17 h18 n19 =>
 sBin .add .int x8 (I 1) fun v20 =>
 R (F137.fr x0 x1 x2 x3 v3 v7 x6 x7 v20 v1) h18 n19) (K (F137.fr x0 x1 x2 x3 x4 x5 x6 x7 x8 v1) h nx) := by kernel_rfl
theorem F137.L1 (Inv : Nat → AV → T Blk → Pa → Prop) {m : Nat} (hm : m < N) (hi : Inv m x8 h nx)
  (step : ∀ (m : Nat) (z4 z5 z8 z9 : AV) (h : T Blk) (nx : Pa) (R : Ks Prop), Inv m z8 h nx → (∀ (m' : Nat) (w4 w5 w8 w9 : AV) (h' : T Blk) (nx' : Pa), m' < m → Inv m' w8 h' nx' → R (F137.fr x0 x1 x2 x3 w4 w5 x6 x7 w8 w9) h' nx' = .ok True) →
   (sBin .lss .int z8 x7 fun v1 =>
 zH v1 (zE 1 x6 z8 fun v2 =>
 zA v2 h fun v3 =>
 sLen v3 fun v4 =>
 sBin .sub .int v4 (I 1) fun v5 =>
 zE 1 v3 v5 fun v6 =>
 zA v6 h fun v7 =>
 zE 1 x3 v7 fun v8 =>
 zA v8 h fun v9 =>
 yX 1 1 [.nils] [(0, 1, v3)] h nx fun v10 h11 n12 =>
 sApp 1 24 v9 v10 h11 n12 fun v13 h14 n15 =>
 zE 1 x3 v7 fun v16 =>
 yG 1 v16 v13 h14 n15 fun v17 h18 n19 =>
 sBin .add .int z8 (I 1) fun v20 =>
 R (F137.fr x0 x1 x2 x3 v3 v7 x6 x7 v20 v1) h18 n19) (K (F137.fr x0 x1 x2 x3 z4 z5 x6 x7 z8 v1) h nx)) = .ok True) :
  IR.run F137.b1 C N (fnO F137.res K0) K (F137.fr x0 x1 x2 x3 x4 x5 x6 x7 x8 x9) h nx = .ok True := by
 rw [F137.b1, F137.g1_eq, F137.b2]
 refine zX (fun m tm h nx => ∃ z4 z5 z8 z9, tm = (F137.fr x0 x1 x2 x3 z4 z5 x6 x7 z8 z9) ∧ Inv m z8 h nx) ?_ hm ⟨_, _, _, _, rfl, hi⟩
 rintro m tm h nx R ⟨z4, z5, z8, z9, rfl, hi⟩ hR
 rw [F137.e1]
 exact step m z4 z5 z8 z9 h nx R hi fun m' w4 w5 w8 w9 h' nx' hlt hi' => hR m' _ h' nx' hlt ⟨_, _, _, _, rfl, hi'⟩
theorem F137.k8 : IR.run F137.b8 C N (fnO F137.res K0) K (F137.fr x0 x1 x2 x3 x4 x5 x6 x7 x8 x9) h nx =
 K0 x3 h nx := by kernel_rfl
theorem F107.tab : T.get none (.of 107) tbl = some F107 := by kernel_rfl
theorem F107.go : zQ tbl N C (.of 107) [a0, a1] h nx K0 =
 sBox a0 h nx fun v1 h2 n3 =>
 sBox a1 h2 n3 fun v4 h5 n6 =>
 K0 (.fn 136 (.of 136) [v1, v4]) h5 n6 := by
 rw [zL F107.tab]; kernel_rfl
theorem F136.tab : T.get none (.of 136) tbl = some F136 := by kernel_rfl
theorem F136.go : zQ tbl N C (.of 136) [a0, a1, a2] h nx K0 =
 sBox a0 h nx fun v1 h2 n3 =>
 zN 0 a1 fun v4 =>
 zA v4 h2 fun v5 =>
 uC 1 8 [(I 0)] v5 v5 h2 n3 fun v6 h7 n8 =>
 jS [.nils] h7 n8 fun v9 h10 n11 =>
 yG 1 v9 v6 h10 n11 fun v12 h13 n14 =>
 yJ 2 a1 h13 fun v15 =>
 C.fn 137 (.of 137) [v15] h13 n14 fun v16 h17 n18 =>
 jS [.nils] h17 n18 fun v19 h20 n21 =>
 yG 1 v19 v16 h20 n21 fun v22 h23 n24 =>
 jS [(.int .u64 0)] h23 n24 fun v25 h26 n27 =>
 jS [.nilf] h26 n27 fun v28 h29 n30 =>
 yG 1 v28 (.fn 138 (.of 138) [a1, v1, v9, v25, v19, a2, v28]) h29 n30 fun v31 h32 n33 =>
 zA v28 h32 fun v34 =>
 sCall C v34 [(I 0)] h32 n33 fun v35 h36 n37 =>
 K0 (.tup []) h36 n37 := by
 rw [zL F136.tab]; kernel_rfl
theorem F138.g15_eq (X16 : IR) (C : Calls Prop) (N : Nat) (O : Outs Prop) (K : Ks Prop) (x0 x1 x2 x3 x4 x5 x6 x7 x8 x9 x10 x11 x12 x13 x14 x15 x16 x17 x18 x19 x20 x21 x22 x23 x24 x25 x26 : AV) (h : T Blk) (nx : Pa) : IR.run (F138.g15 X16) C N O K (F138.fr x0 x1 x2 x3 x4 x5 x6 x7 x8 x9 x10 x11 x12 x13 x14 x15 x16 x17 x18 x19 x20 x21 x22 x23 x24 x25 x26) h nx =
 IR.run X16 C N (O.blk 4 K) K (F138.fr x0 x1 x2 x3 x4 x5 x6 x7 x8 x9 x10 x11 x12 x13 x14 x15 x16 x17 x18 x19 x20 x21 x22 x23 x24 x25 x26) h nx := by kernel_rfl
theorem F138.g9_eq (X10 : IR) (C : Calls Prop) (N : Nat) (O : Outs Prop) (K : Ks Prop) (x0 x1 x2 x3 x4 x5 x6 x7 x8 x9 x10 x11 x12 x13 x14 x15 x16 x17 x18 x19 x20 x21 x22 x23 x24 x25 x26 : AV) (h : T Blk) (nx : Pa) : IR.run (F138.g9 X10) C N O K (F138.fr x0 x1 x2 x3 x4 x5 x6 x7 x8 x9 x10 x11 x12 x13 x14 x15 x16 x17 x18 x19 x20 x21 x22 x23 x24 x25 x26) h nx =
 IR.run X10 C N (O.blk 2 K) K (F138.fr x0 x1 x2 x3 x4 x5 x6 x7 x8 x9 x10 x11 x12 x13 x14 x15 x16 x17 x18 x19 x20 x21 x22 x23 x24 x25 x26) h nx := by kernel_rfl
theorem F138.g2_eq (X3 : IR) (C : Calls Prop) (N : Nat) (O : Outs Prop) (K : Ks Prop) (x0 x1 x2 x3 x4 x5 x6 x7 x8 x9 x10 x11 x12 x13 x14 x15 x16 x17 x18 x19 x20 x21 x22 x23 x24 x25 x26 : AV) (h : T Blk) (nx : Pa) : IR.run (F138.g2 X3) C N O K (F138.fr x0 x1 x2 x3 x4 x5 x6 x7 x8 x9 x10 x11 x12 x13 x14 x15 x16 x17 x18 x19 x20 x21 x22 x23 x24 x25 x26) h nx =
 IR.run X3 C N (O.blk 0 K) K (F138.fr x0 x1 x2 x3 x4 x5 x6 x7 x8 x9 x10 x11 x12 x13 x14 x15 x16 x17 x18 x19 x20 x21 x22 x23 x24 x25 x26) h nx := by kernel_rfl
theorem F138.tab : T.get none (.of 138) tbl = some F138 := by kernel_rfl
theorem F138.go : zQ tbl N C (.of 138) [a0, a1, a2, a3, a4, a5, a6, a7] h nx K0 =
 zN 0 a1 fun v1 =>
 zA v1 h fun v2 =>
 sBin .eql .int a0 v2 fun v3 =>
 zH v3 (zA a2 h fun v4 =>
 zA a3 h fun v5 =>
 sCall C v4 [v5] h nx fun v6 h7 n8 =>
 K0 v6 h7 n8) (IR.run F138.b2 C N (fnO F138.res K0) (IR.run F138.b26 C N (fnO F138.res K0) (retK F138.res K0)) (F138.fr a0 a1 a2 a3 a4 a5 a6 a7 (.bool false) (I 1) .undef .undef .undef .undef v3 .undef .undef .undef .undef .undef .undef .undef .undef .undef .undef .undef .undef) h nx) := by
 rw [zL F138.tab]; kernel_rfl
theorem F138.e2 : IR.run F138.b4 C N ((fnO F138.res K0).blk 0 K) R (F138.fr x0 x1 x2 x3 x4 x5 x6 x7 x8 x9 x10 x11 x12 x13 x14 x15 x16 x17 x18 x19 x20 x21 x22 x23 x24 x25 x26) h nx =
 zN 0 x1 fun v1 =>
 zA v1 h fun v2 =>
 sBin .leq .int x9 v2 fun v3 =>
 zH v3 (zA x4 h fun v4 =>
 sBin .shr .int v4 x9 fun v5 =>
 sBin .and .int v5 (.int .u64 1) fun v6 =>
 sBin .eql .int v6 (.int .u64 1) fun v7 =>
 zH v7 (sBin .add .int x9 (I 1) fun v8 =>
 R (F138.fr x0 x1 x2 x3 x4 x5 x6 x7 x8 v8 x10 x11 x12 x13 x14 v3 v7 x17 x18 x19 x20 x21 x22 x23 x24 x25 x26) h nx) (zA x3 h fun v9 =>
 zE 1 v9 x0 fun v10 =>
 yG 1 v10 x9 h nx fun v11 h12 n13 =>
 zA x5 h12 fun v14 =>
 zE 1 v14 x0 fun v15 =>
 zA v15 h12 fun v16 =>
 sLen v16 fun v17 =>
 IR.run F138.b9 C N (((fnO F138.res K0).blk 0 K).blk 1 (IR.run F138.b25 C N ((fnO F138.res K0).blk 0 K) R)) (IR.run F138.b24 C N (((fnO F138.res K0).blk 0 K).blk 1 (IR.run F138.b25 C N ((fnO F138.res K0).blk 0 K) R)) (IR.run F138.b25 C N ((fnO F138.res K0).blk 0 K) R)) (F138.fr x0 x1 x2 x3 x4 x5 x6 x7 x8 x9 x10 x11 x12 x13 x14 v3 v7 v16 v17 (I 0) x20 x21 x22 x23 x24 x25 x26) h12 n13)) (K (F138.fr x0 x1 x2 x3 x4 x5 x6 x7 x8 x9 x10 x11 x12 x13 x14 v3 x16 x17 x18 x19 x20 x21 x22 x23 x24 x25 x26) h nx) := by kernel_rfl
theorem F138.L2 (Inv : Nat → AV → T Blk → Pa → Prop) {m : Nat} (hm : m < N) (hi : Inv m x9 h nx)
  (step : ∀ (m : Nat) (z8 z9 z10 z11 z12 z13 z15 z16 z17 z18 z19 z20 z21 z22 z23 z24 z25 z26 : AV) (h : T Blk) (nx : Pa) (R : Ks Prop), Inv m z9 h nx → (∀ (m' : Nat) (w8 w9 w10 w11 w12 w13 w15 w16 w17 w18 w19 w20 w21 w22 w23 w24 w25 w26 : AV) (h' : T Blk) (nx' : Pa), m' < m → Inv m' w9 h' nx' → R (F138.fr x0 x1 x2 x3 x4 x5 x6 x7 w8 w9 w10 w11 w12 w13 x14 w15 w16 w17 w18 w19 w20 w21 w22 w23 w24 w25 w26) h' nx' = .ok True) →
   (zN 0 x1 fun v1 =>
 zA v1 h fun v2 =>
 sBin .leq .int z9 v2 fun v3 =>
 zH v3 (zA x4 h fun v4 =>
 sBin .shr .int v4 z9 fun v5 =>
 sBin .and .int v5 (.int .u64 1) fun v6 =>
 sBin .eql .int v6 (.int .u64 1) fun v7 =>
 zH v7 (sBin .add .int z9 (I 1) fun v8 =>
 R (F138.fr x0 x1 x2 x3 x4 x5 x6 x7 z8 v8 z10 z11 z12 z13 x14 v3 v7 z17 z18 z19 z20 z21 z22 z23 z24 z25 z26) h nx) (zA x3 h fun v9 =>
 zE 1 v9 x0 fun v10 =>
 yG 1 v10 z9 h nx fun v11 h12 n13 =>
 zA x5 h12 fun v14 =>
 zE 1 v14 x0 fun v15 =>
 zA v15 h12 fun v16 =>
 sLen v16 fun v17 =>
 IR.run F138.b9 C N (((fnO F138.res K0).blk 0 K).blk 1 (IR.run F138.b25 C N ((fnO F138.res K0).blk 0 K) R)) (IR.run F138.b24 C N (((fnO F138.res K0).blk 0 K).blk 1 (IR.run F138.b25 C N ((fnO F138.res K0).blk 0 K) R)) (IR.run F138.b25 C N ((fnO F138.res K0).blk 0 K) R)) (F138.fr x0 x1 x2 x3 x4 x5 x6 x7 z8 z9 z10 z11 z12 z13 x14 v3 v7 v16 v17 (I 0) z20 z21 z22 z23 z24 z25 z26) h12 n13)) (K (F138.fr x0 x1 x2 x3 x4 x5 x6 x7 z8 z9 z10 z11 z12 z13 x14 v3 z16 z17 z18 z19 z20 z21 z22 z23 z24 z25 z26) h nx)) = .ok True) :
  IR.run F138.b2 C N (fnO F138.res K0) K (F138.fr x0 x1 x2 x3 x4 x5 x6 x7 x8 x9 x10 x11 x12 x13 x14 x15 x16 x17 x18 x19 x20 x21 x22 x23 x24 x25 x26) h nx = .ok True := by
 rw [F138.b2, F138.g2_eq, F138.b3]
 refine zX (fun m tm h nx => ∃ z8 z9 z10 z11 z12 z13 z15 z16 z17 z18 z19 z20 z21 z22 z23 z24 z25 z26, tm = (F138.fr x0 x1 x2 x3 x4 x5 x6 x7 z8 z9 z10 z11 z12 z13 x14 z15 z16 z17 z18 z19 z20 z21 z22 z23 z24 z25 z26) ∧ Inv m z9 h nx) ?_ hm ⟨_, _, _, _, _, _, _, _, _, _, _, _, _, _, _, _, _, _, rfl, hi⟩
 rintro m tm h nx R ⟨z8, z9, z10, z11, z12, z13, z15, z16, z17, z18, z19, z20, z21, z22, z23, z24, z25, z26, rfl, hi⟩ hR
 rw [F138.e2]
 exact step m z8 z9 z10 z11 z12 z13 z15 z16 z17 z18 z19 z20 z21 z22 z23 z24 z25 z26 h nx R hi fun m' w8 w9 w10 w11 w12 w13 w15 w16 w17 w18 w19 w20 w21 w22 w23 w24 w25 w26 h' nx' hlt hi' => hR m' _ h' nx' hlt ⟨_, _, _, _, _, _, _, _, _, _, _, _, _, _, _, _, _, _, rfl, hi'⟩
theorem F138.k26 : IR.run F138.b26 C N (fnO F138.res K0) K (F138.fr x0 x1 x2 x3 x4 x5 x6 x7 x8 x9 x10 x11 x12 x13 x14 x15 x16 x17 x18 x19 x20 x21 x22 x23 x24 x25 x26) h nx =
 K0 (.bool true) h nx := by kernel_rfl
theorem F138.k25 {E0 : Ks Prop} : IR.run F138.b25 C N ((fnO F138.res K0).blk 0 E0) K (F138.fr x0 x1 x2 x3 x4 x5 x6 x7 x8 x9 x10 x11 x12 x13 x14 x15 x16 x17 x18 x19 x20 x21 x22 x23 x24 x25 x26) h nx =
 sBin .add .int x9 (I 1) fun v1 =>
 K (F138.fr x0 x1 x2 x3 x4 x5 x6 x7 x8 v1 x10 x11 x12 x13 x14 x15 x16 x17 x18 x19 x20 x21 x22 x23 x24 x25 x26) h nx := by kernel_rfl
theorem F138.e9 {E0 E1 : Ks Prop} : IR.run F138.b11 C N ((((fnO F138.res K0).blk 0 E0).blk 1 E1).blk 2 K) R (F138.fr x0 x1 x2 x3 x4 x5 x6 x7 x8 x9 x10 x11 x12 x13 x14 x15 x16 x17 x18 x19 x20 x21 x22 x23 x24 x25 x26) h nx =
 sBin .lss .int x19 x18 fun v1 =>
 zH v1 (zE 1 x17 x19 fun v2 =>
 zA v2 h fun v3 =>
 zA x6 h fun v4 =>
 sLen v3 fun v5 =>
 IR.run F138.b15 C N (((((fnO F138.res K0).blk 0 E0).blk 1 E1).blk 2 K).blk 3 (IR.run F138.b23 C N ((((fnO F138.res K0).blk 0 E0).blk 1 E1).blk 2 K) R)) (IR.run F138.b22 C N (((((fnO F138.res K0).blk 0 E0).blk 1 E1).blk 2 K).blk 3 (IR.run F138.b23 C N ((((fnO F138.res K0).blk 0 E0).blk 1 E1).blk 2 K) R)) (IR.run F138.b23 C N ((((fnO F138.res K0).blk 0 E0).blk 1 E1).blk 2 K) R)) (F138.fr x0 x1 x2 x3 x4 x5 x6 x7 x8 x9 v3 v4 x12 x13 x14 x15 x16 x17 x18 x19 v1 v3 v5 (I 0) x24 x25 x26) h nx) (K (F138.fr x0 x1 x2 x3 x4 x5 x6 x7 x8 x9 x10 x11 x12 x13 x14 x15 x16 x17 x18 x19 v1 x21 x22 x23 x24 x25 x26) h nx) := by kernel_rfl
theorem F138.L9 {E0 E1 : Ks Prop} (Inv : Nat → AV → T Blk → Pa → Prop) {m : Nat} (hm : m < N) (hi : Inv m x19 h nx)
  (step : ∀ (m : Nat) (z10 z11 z12 z19 z20 z21 z22 z23 z24 z25 : AV) (h : T Blk) (nx : Pa) (R : Ks Prop), Inv m z19 h nx → (∀ (m' : Nat) (w10 w11 w12 w19 w20 w21 w22 w23 w24 w25 : AV) (h' : T Blk) (nx' : Pa), m' < m → Inv m' w19 h' nx' → R (F138.fr x0 x1 x2 x3 x4 x5 x6 x7 x8 x9 w10 w11 w12 x13 x14 x15 x16 x17 x18 w19 w20 w21 w22 w23 w24 w25 x26) h' nx' = .ok True) →
   (sBin .lss .int z19 x18 fun v1 =>
 zH v1 (zE 1 x17 z19 fun v2 =>
 zA v2 h fun v3 =>
 zA x6 h fun v4 =>
 sLen v3 fun v5 =>
 IR.run F138.b15 C N (((((fnO F138.res K0).blk 0 E0).blk 1 E1).blk 2 K).blk 3 (IR.run F138.b23 C N ((((fnO F138.res K0).blk 0 E0).blk 1 E1).blk 2 K) R)) (IR.run F138.b22 C N (((((fnO F138.res K0).blk 0 E0).blk 1 E1).blk 2 K).blk 3 (IR.run F138.b23 C N ((((fnO F138.res K0).blk 0 E0).blk 1 E1).blk 2 K) R)) (IR.run F138.b23 C N ((((fnO F138.res K0).blk 0 E0).blk 1 E1).blk 2 K) R)) (F138.fr x0 x1 x2 x3 x4 x5 x6 x7 x8 x9 v3 v4 z12 x13 x14 x15 x16 x17 x18 z19 v1 v3 v5 (I 0) z24 z25 x26) h nx) (K (F138.fr x0 x1 x2 x3 x4 x5 x6 x7 x8 x9 z10 z11 z12 x13 x14 x15 x16 x17 x18 z19 v1 z21 z22 z23 z24 z25 x26) h nx)) = .ok True) :
  IR.run F138.b9 C N (((fnO F138.res K0).blk 0 E0).blk 1 E1) K (F138.fr x0 x1 x2 x3 x4 x5 x6 x7 x8 x9 x10 x11 x12 x13 x14 x15 x16 x17 x18 x19 x20 x21 x22 x23 x24 x25 x26) h nx = .ok True := by
 rw [F138.b9, F138.g9_eq, F138.b10]
 refine zX (fun m tm h nx => ∃ z10 z11 z12 z19 z20 z21 z22 z23 z24 z25, tm = (F138.fr x0 x1 x2 x3 x4 x5 x6 x7 x8 x9 z10 z11 z12 x13 x14 x15 x16 x17 x18 z19 z20 z21 z22 z23 z24 z25 x26) ∧ Inv m z19 h nx) ?_ hm ⟨_, _, _, _, _, _, _, _, _, _, rfl, hi⟩
 rintro m tm h nx R ⟨z10, z11, z12, z19, z20, z21, z22, z23, z24, z25, rfl, hi⟩ hR
 rw [F138.e9]
 exact step m z10 z11 z12 z19 z20 z21 z22 z23 z24 z25 h nx R hi fun m' w10 w11 w12 w19 w20 w21 w22 w23 w24 w25 h' nx' hlt hi' => hR m' _ h' nx' hlt ⟨_, _, _, _, _, _, _, _, _, _, rfl, hi'⟩
theorem F138.k24 {E0 E1 : Ks Prop} : IR.run F138.b24 C N (((fnO F138.res K0).blk 0 E0).blk 1 E1) K (F138.fr x0 x1 x2 x3 x4 x5 x6 x7 x8 x9 x10 x11 x12 x13 x14 x15 x16 x17 x18 x19 x20 x21 x22 x23 x24 x25 x26) h nx =
 zA x4 h fun v1 =>
 sBin .shl .int (.int .u64 1) x9 fun v2 =>
 sBin .or .int v1 v2 fun v3 =>
 yG 1 x4 v3 h nx fun v4 h5 n6 =>
 zA x7 h5 fun v7 =>
 sBin .add .int x0 (I 1) fun v8 =>
 sCall C v7 [v8] h5 n6 fun v9 h10 n11 =>
 zA x4 h10 fun v12 =>
 sBin .shl .int (.int .u64 1) x9 fun v13 =>
 sBin .andNot .int v12 v13 fun v14 =>
 yG 1 x4 v14 h10 n11 fun v15 h16 n17 =>
 sNot v9 fun v18 =>
 zH v18 (K0 (.bool false) h16 n17) (K (F138.fr x0 x1 x2 x3 x4 x5 x6 x7 x8 x9 x10 x11 x12 v9 x14 x15 x16 x17 x18 x19 x20 x21 x22 x23 x24 x25 v18) h16 n17) := by kernel_rfl
theorem F138.k23 {E0 E1 E2 : Ks Prop} : IR.run F138.b23 C N ((((fnO F138.res K0).blk 0 E0).blk 1 E1).blk 2 E2) K (F138.fr x0 x1 x2 x3 x4 x5 x6 x7 x8 x9 x10 x11 x12 x13 x14 x15 x16 x17 x18 x19 x20 x21 x22 x23 x24 x25 x26) h nx =
 sBin .add .int x19 (I 1) fun v1 =>
 K (F138.fr x0 x1 x2 x3 x4 x5 x6 x7 x8 x9 x10 x11 x12 x13 x14 x15 x16 x17 x18 v1 x20 x21 x22 x23 x24 x25 x26) h nx := by kernel_rfl
theorem F138.e15 {E0 E1 E2 E3 : Ks Prop} : IR.run F138.b17 C N ((((((fnO F138.res K0).blk 0 E0).blk 1 E1).blk 2 E2).blk 3 E3).blk 4 K) R (F138.fr x0 x1 x2 x3 x4 x5 x6 x7 x8 x9 x10 x11 x12 x13 x14 x15 x16 x17 x18 x19 x20 x21 x22 x23 x24 x25 x26) h nx =
 sBin .lss .int x23 x22 fun v1 =>
 zH v1 (zE 1 x21 x23 fun v2 =>
 zA v2 h fun v3 =>
 zA x3 h fun v4 =>
 zE 1 v4 v3 fun v5 =>
 zA v5 h fun v6 =>
 sBin .sub .int x11 v6 fun v7 =>
 sBin .add .int x23 (I 1) fun v8 =>
 R (F138.fr x0 x1 x2 x3 x4 x5 x6 x7 x8 x9 x10 v7 v3 x13 x14 x15 x16 x17 x18 x19 x20 x21 x22 v8 v1 x25 x26) h nx) (K (F138.fr x0 x1 x2 x3 x4 x5 x6 x7 x8 x9 x10 x11 x12 x13 x14 x15 x16 x17 x18 x19 x20 x21 x22 x23 v1 x25 x26) h nx) := by kernel_rfl
theorem F138.L15 {E0 E1 E2 E3 : Ks Prop} (Inv : Nat → AV → AV → T Blk → Pa → Prop) {m : Nat} (hm : m < N) (hi : Inv m x11 x23 h nx)
  (step : ∀ (m : Nat) (z11 z12 z23 z24 : AV) (h : T Blk) (nx : Pa) (R : Ks Prop), Inv m z11 z23 h nx → (∀ (m' : Nat) (w11 w12 w23 w24 : AV) (h' : T Blk) (nx' : Pa), m' < m → Inv m' w11 w23 h' nx' → R (F138.fr x0 x1 x2 x3 x4 x5 x6 x7 x8 x9 x10 w11 w12 x13 x14 x15 x16 x17 x18 x19 x20 x21 x22 w23 w24 x25 x26) h' nx' = .ok True) →
   (sBin .lss .int z23 x22 fun v1 =>
 zH v1 (zE 1 x21 z23 fun v2 =>
 zA v2 h fun v3 =>
 zA x3 h fun v4 =>
 zE 1 v4 v3 fun v5 =>
 zA v5 h fun v6 =>
 sBin .sub .int z11 v6 fun v7 =>
 sBin .add .int z23 (I 1) fun v8 =>
 R (F138.fr x0 x1 x2 x3 x4 x5 x6 x7 x8 x9 x10 v7 v3 x13 x14 x15 x16 x17 x18 x19 x20 x21 x22 v8 v1 x25 x26) h nx) (K (F138.fr x0 x1 x2 x3 x4 x5 x6 x7 x8 x9 x10 z11 z12 x13 x14 x15 x16 x17 x18 x19 x20 x21 x22 z23 v1 x25 x26) h nx)) = .ok True) :
  IR.run F138.b15 C N (((((fnO F138.res K0).blk 0 E0).blk 1 E1).blk 2 E2).blk 3 E3) K (F138.fr x0 x1 x2 x3 x4 x5 x6 x7 x8 x9 x10 x11 x12 x13 x14 x15 x16 x17 x18 x19 x20 x21 x22 x23 x24 x25 x26) h nx = .ok True := by
 rw [F138.b15, F138.g15_eq, F138.b16]
 refine zX (fun m tm h nx => ∃ z11 z12 z23 z24, tm = (F138.fr x0 x1 x2 x3 x4 x5 x6 x7 x8 x9 x10 z11 z12 x13 x14 x15 x16 x17 x18 x19 x20 x21 x22 z23 z24 x25 x26) ∧ Inv m z11 z23 h nx) ?_ hm ⟨_, _, _, _, rfl, hi⟩
 rintro m tm h nx R ⟨z11, z12, z23, z24, rfl, hi⟩ hR
 rw [F138.e15]
 exact step m z11 z12 z23 z24 h nx R hi fun m' w11 w12 w23 w24 h' nx' hlt hi' => hR m' _ h' nx' hlt ⟨_, _, _, _, rfl, hi'⟩
theorem F138.k22 {E0 E1 E2 E3 : Ks Prop} : IR.run F138.b22 C N (((((fnO F138.res K0).blk 0 E0).blk 1 E1).blk 2 E2).blk 3 E3) K (F138.fr x0 x1 x2 x3 x4 x5 x6 x7 x8 x9 x10 x11 x12 x13 x14 x15 x16 x17 x18 x19 x20 x21 x22 x23 x24 x25 x26) h nx =
 sBin .neq .int x11 (I 0) fun v1 =>
 zH v1 (E1 (F138.fr x0 x1 x2 x3 x4 x5 x6 x7 x8 x9 x10 x11 x12 x13 x14 x15 x16 x17 x18 x19 x20 x21 x22 x23 x24 v1 x26) h nx) (K (F138.fr x0 x1 x2 x3 x4 x5 x6 x7 x8 x9 x10 x11 x12 x13 x14 x15 x16 x17 x18 x19 x20 x21 x22 x23 x24 v1 x26) h nx) := by kernel_rfl
theorem F106.tab : T.get none (.of 106) tbl = some F106 := by kernel_rfl
theorem F106.go : zQ tbl N C (.of 106) [a0] h nx K0 =
 sBox a0 h nx fun v1 h2 n3 =>
 yJ 2 v1 h2 fun v4 =>
 zN 0 v1 fun v5 =>
 zA v5 h2 fun v6 =>
 sBin .gtr .int v6 (I 9) fun v7 =>
 C.fn 81 (.of 81) [v4] h2 n3 fun v8 h9 n10 =>
 (sBin .gtr .int v6 (I 9) fun v22 => yZ v22 v7 ((zA v5 h9 fun v21 => yZ v21 v6 ((zN 0 v1 fun v20 => yZ v20 v5 (C.fn 82 (.of 82) [v7, (I 20)] h9 n10 fun v11 h12 n13 =>
 yX 1 2 [(I 0)] [(0, 1, v8), (1, 1, v11)] h12 n13 fun v14 h15 n16 =>
 C.fn 80 (.of 80) [v14] h15 n16 fun v17 h18 n19 =>
 K0 v17 h18 n19)))))) := by
 rw [zL F106.tab]; kernel_rfl
theorem F52.tab : T.get none (.of 52) tbl = some F52 := by kernel_rfl
theorem F52.go : zQ tbl N C (.of 52) [a0, a1] h nx K0 =
 sBox a0 h nx fun v1 h2 n3 =>
 jS [.nils] h2 n3 fun v4 h5 n6 =>
 jS [(I 0)] h5 n6 fun v7 h8 n9 =>
 yJ 2 v1 h8 fun v10 =>
 C.fn 106 (.of 106) [v10] h8 n9 fun v11 h12 n13 =>
 sBin .neq .int v11 (I 0) fun v14 =>
 zH v14 (yG 1 v4 .nils h12 n13 fun v15 h16 n17 =>
 yG 1 v7 v11 h16 n17 fun v18 h19 n20 =>
 zA v4 h19 fun v21 => zA v7 h19 fun v22 => K0 (.tup [v21, v22]) h19 n20) (jS [.nils] h12 n13 fun v23 h24 n25 =>
 yJ 2 v1 h24 fun v26 =>
 C.fn 107 (.of 107) [v26, a1] h24 n25 fun v27 h28 n29 =>
 IR.run (.rf (.t (.of 9)) [(.of 10)] F52.b4 F52.b5) C N ((fnO F52.res K0).blk 0 (IR.run F52.b8 C N (fnO F52.res K0) (retK F52.res K0))) (IR.run F52.b8 C N (fnO F52.res K0) (retK F52.res K0)) (F52.fr a0 a1 v1 v4 v7 v11 v23 .undef v14 v27 .undef .undef) h28 n29) := by
 rw [zL F52.tab]; kernel_rfl
theorem F52.k8 : IR.run F52.b8 C N (fnO F52.res K0) K (F52.fr x0 x1 x2 x3 x4 x5 x6 x7 x8 x9 x10 x11) h nx =
 zA x6 h fun v1 =>
 yG 1 x3 v1 h nx fun v2 h3 n4 =>
 yG 1 x4 (I 0) h3 n4 fun v5 h6 n7 =>
 zA x3 h6 fun v8 => zA x4 h6 fun v9 => K0 (.tup [v8, v9]) h6 n7 := by kernel_rfl
theorem F52.y5 {N : Nat} {C : Calls Prop} {K0 : Kw Prop} {id nx : Pa} {j : Jump} {h h1 : T Blk} {x0 x1 x2 x3 x4 x5 x6 x7 x8 x9 x10 x11 z0 : AV} (hl : T.get .no id h = .loop .ready j (F52.fr x0 x1 x2 x3 x4 x5 x6 x7 x8 x9 x10 x11) [.of 10] F52.b4 F52.b5) (he : h1 = T.set .no (.loop .busy j (F52.fr x0 x1 x2 x3 x4 x5 x6 x7 x8 x9 x10 x11) [.of 10] F52.b4 F52.b5) id h) :
 callYld N C id [z0] h nx K0 =
 zA x6 h1 fun v1 =>
 sLen v1 fun v2 =>
 sBin .eql .int v2 (I 1024) fun v3 =>
 zH v3 (yG 1 x3 .nils h1 nx fun v4 h5 n6 =>
 yG 1 x4 (I 5) h5 n6 fun v7 h8 n9 =>
 jN id K0 .ret false .e h8 n9) (zA x6 h1 fun v10 =>
 C.fn 79 (.of 79) [z0] h1 nx fun v11 h12 n13 =>
 (zA x6 h12 fun v24 => yZ v24 v10 (yX 1 1 [.nils] [(0, 1, v11)] h12 n13 fun v14 h15 n16 =>
 (zA x6 h15 fun v23 => yZ v23 v10 (sApp 1 24 v10 v14 h15 n16 fun v17 h18 n19 =>
 yG 1 x6 v17 h18 n19 fun v20 h21 n22 =>
 jN id K0 .none true .e h21 n22))))) := by
 subst he
 rw [rnd_of hl (tm1 := (F52.fr x0 x1 x2 x3 x4 x5 x6 x7 x8 x9 z0 x11)) (tm2 := (F52.fr x0 x1 x2 x3 x4 x5 x6 z0 x8 x9 z0 x11)) (by intro k; kernel_rfl) (by intro O K h nx; kernel_rfl)]; kernel_rfl
theorem F53.g2_eq (X3 : IR) (C : Calls Prop) (N : Nat) (O : Outs Prop) (K : Ks Prop) (x0 x1 x2 x3 x4 x5 x6 x7 x8 x9 x10 x11 x12 x13 x14 x15 x16 x17 x18 x19 x20 : AV) (h : T Blk) (nx : Pa) : IR.run (F53.g2 X3) C N O K (F53.fr x0 x1 x2 x3 x4 x5 x6 x7 x8 x9 x10 x11 x12 x13 x14 x15 x16 x17 x18 x19 x20) h nx =
 IR.run X3 C N (O.blk 0 K) K (F53.fr x0 x1 x2 x3 x4 x5 x6 x7 x8 x9 x10 x11 x12 x13 x14 x15 x16 x17 x18 x19 x20) h nx := by kernel_rfl
theorem F53.g15_eq (X16 : IR) (C : Calls Prop) (N : Nat) (O : Outs Prop) (K : Ks Prop) (x0 x1 x2 x3 x4 x5 x6 x7 x8 x9 x10 x11 x12 x13 x14 x15 x16 x17 x18 x19 x20 : AV) (h : T Blk) (nx : Pa) : IR.run (F53.g15 X16) C N O K (F53.fr x0 x1 x2 x3 x4 x5 x6 x7 x8 x9 x10 x11 x12 x13 x14 x15 x16 x17 x18 x19 x20) h nx =
 IR.run X16 C N (O.blk 4 K) K (F53.fr x0 x1 x2 x3 x4 x5 x6 x7 x8 x9 x10 x11 x12 x13 x14 x15 x16 x17 x18 x19 x20) h nx := by kernel_rfl
theorem F53.tab : T.get none (.of 53) tbl = some F53 := by kernel_rfl
theorem F53.go : zQ tbl N C (.of 53) [a0, a1] h nx K0 =
 sBox a0 h nx fun v1 h2 n3 =>
 yJ 2 v1 h2 fun v4 =>
 C.fn 106 (.of 106) [v4] h2 n3 fun v5 h6 n7 =>
 sBin .neq .int v5 (I 0) fun v8 =>
 zH v8 (K0 (.tup [.nils, v5]) h6 n7) (zN 0 v1 fun v9 =>
 zA v9 h6 fun v10 =>
 uC 1 24 [.nils] v10 v10 h6 n7 fun v11 h12 n13 =>
 jS [.nils] h12 n13 fun v14 h15 n16 =>
 yG 1 v14 v11 h15 n16 fun v17 h18 n19 =>
 zA v14 h18 fun v20 =>
 sLen v20 fun v21 =>
 IR.run F53.b2 C N (fnO F53.res K0) (IR.run F53.b9 C N (fnO F53.res K0) (retK F53.res K0)) (F53.fr a0 a1 v1 .nils (I 0) v5 v14 .undef .undef .undef .undef v8 v21 (I 0) .undef .undef .undef .undef .undef .undef .undef) h18 n19) := by
 rw [zL F53.tab]; kernel_rfl
theorem F53.e2 : IR.run F53.b4 C N ((fnO F53.res K0).blk 0 K) R (F53.fr x0 x1 x2 x3 x4 x5 x6 x7 x8 x9 x10 x11 x12 x13 x14 x15 x16 x17 x18 x19 x20) h nx =
 sBin .lss .int x13 x12 fun v1 =>
 zH v1 (zA x6 h fun v2 =>
 zN 0 x2 fun v3 =>
 zA v3 h fun v4 =>
 uC 1 8 [(I 0)] v4 v4 h nx fun v5 h6 n7 =>
 yZ x13 x13 ((zA x6 h6 fun v13 => yZ v13 v2 (zE 1 v2 x13 fun v8 =>
 yG 1 v8 v5 h6 n7 fun v9 h10 n11 =>
 sBin .add .int x13 (I 1) fun v12 =>
 R (F53.fr x0 x1 x2 x3 x4 x5 x6 x13 x8 x9 x10 x11 x12 v12 v1 x15 x16 x17 x18 x19 x20) h10 n11)))) (K (F53.fr x0 x1 x2 x3 x4 x5 x6 x7 x8 x9 x10 x11 x12 x13 v1 x15 x16 x17 x18 x19 x20) h nx) := by kernel_rfl
theorem F53.L2 (Inv : Nat → AV → AV → T Blk → Pa → Prop) {m : Nat} (hm : m < N) (hi : Inv m x7 x13 h nx)
  (step : ∀ (m : Nat) (z7 z13 z14 : AV) (h : T Blk) (nx : Pa) (R : Ks Prop), Inv m z7 z13 h nx → (∀ (m' : Nat) (w7 w13 w14 : AV) (h' : T Blk) (nx' : Pa), m' < m → Inv m' w7 w13 h' nx' → R (F53.fr x0 x1 x2 x3 x4 x5 x6 w7 x8 x9 x10 x11 x12 w13 w14 x15 x16 x17 x18 x19 x20) h' nx' = .ok True) →
   (sBin .lss .int z13 x12 fun v1 =>
 zH v1 (zA x6 h fun v2 =>
 zN 0 x2 fun v3 =>
 zA v3 h fun v4 =>
 uC 1 8 [(I 0)] v4 v4 h nx fun v5 h6 n7 =>
 yZ z13 z13 ((zA x6 h6 fun v13 => yZ v13 v2 (zE 1 v2 z13 fun v8 =>
 yG 1 v8 v5 h6 n7 fun v9 h10 n11 =>
 sBin .add .int z13 (I 1) fun v12 =>
 R (F53.fr x0 x1 x2 x3 x4 x5 x6 z13 x8 x9 x10 x11 x12 v12 v1 x15 x16 x17 x18 x19 x20) h10 n11)))) (K (F53.fr x0 x1 x2 x3 x4 x5 x6 z7 x8 x9 x10 x11 x12 z13 v1 x15 x16 x17 x18 x19 x20) h nx)) = .ok True) :
  IR.run F53.b2 C N (fnO F53.res K0) K (F53.fr x0 x1 x2 x3 x4 x5 x6 x7 x8 x9 x10 x11 x12 x13 x14 x15 x16 x17 x18 x19 x20) h nx = .ok True := by
 rw [F53.b2, F53.g2_eq, F53.b3]
 refine zX (fun m tm h nx => ∃ z7 z13 z14, tm = (F53.fr x0 x1 x2 x3 x4 x5 x6 z7 x8 x9 x10 x11 x12 z13 z14 x15 x16 x17 x18 x19 x20) ∧ Inv m z7 z13 h nx) ?_ hm ⟨_, _, _, rfl, hi⟩
 rintro m tm h nx R ⟨z7, z13, z14, rfl, hi⟩ hR
 rw [F53.e2]
 exact step m z7 z13 z14 h nx R hi fun m' w7 w13 w14 h' nx' hlt hi' => hR m' _ h' nx' hlt ⟨_, _, _, rfl, hi'⟩
theorem F53.k9 : IR.run F53.b9 C N (fnO F53.res K0) K (F53.fr x0 x1 x2 x3 x4 x5 x6 x7 x8 x9 x10 x11 x12 x13 x14 x15 x16 x17 x18 x19 x20) h nx =
 yJ 2 x2 h fun v1 =>
 C.fn 107 (.of 107) [v1, x1] h nx fun v2 h3 n4 =>
 IR.run (.rf (.t (.of 15)) [(.of 16)] F53.b12 F53.b13) C N ((fnO F53.res K0).blk 2 (IR.run F53.b22 C N (fnO F53.res K0) K)) (IR.run F53.b22 C N (fnO F53.res K0) K) (F53.fr x0 x1 x2 x3 x4 x5 x6 x7 x8 x9 x10 x11 x12 x13 x14 v2 x16 x17 x18 x19 x20) h3 n4 := by kernel_rfl
theorem F53.k22 : IR.run F53.b22 C N (fnO F53.res K0) K (F53.fr x0 x1 x2 x3 x4 x5 x6 x7 x8 x9 x10 x11 x12 x13 x14 x15 x16 x17 x18 x19 x20) h nx =
 zA x6 h fun v1 =>
 K0 (.tup [v1, (I 0)]) h nx := by kernel_rfl
theorem F53.y13 {N : Nat} {C : Calls Prop} {K0 : Kw Prop} {id nx : Pa} {j : Jump} {h h1 : T Blk} {x0 x1 x2 x3 x4 x5 x6 x7 x8 x9 x10 x11 x12 x13 x14 x15 x16 x17 x18 x19 x20 z0 : AV} (hl : T.get .no id h = .loop .ready j (F53.fr x0 x1 x2 x3 x4 x5 x6 x7 x8 x9 x10 x11 x12 x13 x14 x15 x16 x17 x18 x19 x20) [.of 16] F53.b12 F53.b13) (he : h1 = T.set .no (.loop .busy j (F53.fr x0 x1 x2 x3 x4 x5 x6 x7 x8 x9 x10 x11 x12 x13 x14 x15 x16 x17 x18 x19 x20) [.of 16] F53.b12 F53.b13) id h) :
 callYld N C id [z0] h nx K0 =
 sLen z0 fun v1 =>
 IR.run F53.b15 C N ((rO id K0).blk 3 (jN id K0 .none true)) (jN id K0 .none true) (F53.fr x0 x1 x2 x3 x4 x5 x6 x7 z0 x9 x10 x11 x12 x13 x14 x15 z0 z0 v1 (I 0) x20) h1 nx := by
 subst he
 rw [rnd_of hl (tm1 := (F53.fr x0 x1 x2 x3 x4 x5 x6 x7 x8 x9 x10 x11 x12 x13 x14 x15 z0 x17 x18 x19 x20)) (tm2 := (F53.fr x0 x1 x2 x3 x4 x5 x6 x7 z0 x9 x10 x11 x12 x13 x14 x15 z0 x17 x18 x19 x20)) (by intro k; kernel_rfl) (by intro O K h nx; kernel_rfl)]; kernel_rfl
theorem F53.e15 {id : Pa} {E3 : Ks Prop} : IR.run F53.b17 C N (((rO id K0).blk 3 E3).blk 4 K) R (F53.fr x0 x1 x2 x3 x4 x5 x6 x7 x8 x9 x10 x11 x12 x13 x14 x15 x16 x17 x18 x19 x20) h nx =
 sBin .lss .int x19 x18 fun v1 =>
 zH v1 (zE 1 x17 x19 fun v2 =>
 zA v2 h fun v3 =>
 zA x6 h fun v4 =>
 zE 1 v4 x19 fun v5 =>
 zA v5 h fun v6 =>
 sBin .sub .int v3 (I 1) fun v7 =>
 zE 1 v6 v7 fun v8 =>
 zA v8 h fun v9 =>
 sBin .add .int v9 (I 1) fun v10 =>
 zE 1 v6 v7 fun v11 =>
 yG 1 v11 v10 h nx fun v12 h13 n14 =>
 sBin .add .int x19 (I 1) fun v15 =>
 R (F53.fr x0 x1 x2 x3 x4 x5 x6 x7 x8 x19 v3 x11 x12 x13 x14 x15 x16 x17 x18 v15 v1) h13 n14) (K (F53.fr x0 x1 x2 x3 x4 x5 x6 x7 x8 x9 x10 x11 x12 x13 x14 x15 x16 x17 x18 x19 v1) h nx) := by kernel_rfl
theorem F53.L15 {id : Pa} {E3 : Ks Prop} (Inv : Nat → AV → T Blk → Pa → Prop) {m : Nat} (hm : m < N) (hi : Inv m x19 h nx)
  (step : ∀ (m : Nat) (z9 z10 z19 z20 : AV) (h : T Blk) (nx : Pa) (R : Ks Prop), Inv m z19 h nx → (∀ (m' : Nat) (w9 w10 w19 w20 : AV) (h' : T Blk) (nx' : Pa), m' < m → Inv m' w19 h' nx' → R (F53.fr x0 x1 x2 x3 x4 x5 x6 x7 x8 w9 w10 x11 x12 x13 x14 x15 x16 x17 x18 w19 w20) h' nx' = .ok True) →
   (sBin .lss .int z19 x18 fun v1 =>
 zH v1 (zE 1 x17 z19 fun v2 =>
 zA v2 h fun v3 =>
 zA x6 h fun v4 =>
 zE 1 v4 z19 fun v5 =>
 zA v5 h fun v6 =>
 sBin .sub .int v3 (I 1) fun v7 =>
 zE 1 v6 v7 fun v8 =>
 zA v8 h fun v9 =>
 sBin .add .int v9 (I 1) fun v10 =>
 zE 1 v6 v7 fun v11 =>
 yG 1 v11 v10 h nx fun v12 h13 n14 =>
 sBin .add .int z19 (I 1) fun v15 =>
 R (F53.fr x0 x1 x2 x3 x4 x5 x6 x7 x8 z19 v3 x11 x12 x13 x14 x15 x16 x17 x18 v15 v1) h13 n14) (K (F53.fr x0 x1 x2 x3 x4 x5 x6 x7 x8 z9 z10 x11 x12 x13 x14 x15 x16 x17 x18 z19 v1) h nx)) = .ok True) :
  IR.run F53.b15 C N ((rO id K0).blk 3 E3) K (F53.fr x0 x1 x2 x3 x4 x5 x6 x7 x8 x9 x10 x11 x12 x13 x14 x15 x16 x17 x18 x19 x20) h nx = .ok True := by
 rw [F53.b15, F53.g15_eq, F53.b16]
 refine zX (fun m tm h nx => ∃ z9 z10 z19 z20, tm = (F53.fr x0 x1 x2 x3 x4 x5 x6 x7 x8 z9 z10 x11 x12 x13 x14 x15 x16 x17 x18 z19 z20) ∧ Inv m z19 h nx) ?_ hm ⟨_, _, _, _, rfl, hi⟩
 rintro m tm h nx R ⟨z9, z10, z19, z20, rfl, hi⟩ hR
 rw [F53.e15]
 exact step m z9 z10 z19 z20 h nx R hi fun m' w9 w10 w19 w20 h' nx' hlt hi' => hR m' _ h' nx' hlt ⟨_, _, _, _, rfl, hi'⟩
end Go.Ev
namespace Go.Ev
open Go Go.Proofs
set_option maxRecDepth 100000
variable {N : Nat} {C : Calls Prop} {K0 : Kw Prop} {K R : Ks Prop} {h : T Blk} {nx : Pa} {x0 x1 x2 x3 x4 x5 x6 x7 x8 x9 x10 x11 x12 x13 a0 a1 : AV}
theorem F83.g1_eq (X2 : IR) (C : Calls Prop) (N : Nat) (O : Outs Prop) (K : Ks Prop) (x0 x1 x2 x3 x4 x5 x6 x7 x8 x9 x10 x11 x12 x13 : AV) (h : T Blk) (nx : Pa) : IR.run (F83.g1 X2) C N O K (F83.fr x0 x1 x2 x3 x4 x5 x6 x7 x8 x9 x10 x11 x12 x13) h nx =
 IR.run X2 C N (O.blk 0 K) K (F83.fr x0 x1 x2 x3 x4 x5 x6 x7 x8 x9 x10 x11 x12 x13) h nx := by kernel_rfl
theorem F83.tab : T.get none (.of 83) tbl = some F83 := by kernel_rfl
theorem F83.go : zQ tbl N C (.of 83) [a0] h nx K0 =
 sBox a0 h nx fun v1 h2 n3 =>
 yJ 2 v1 h2 fun v4 =>
 C.fn 95 (.of 95) [v4] h2 n3 fun v5 h6 n7 =>
 C.fn 126 (.of 126) [v5] h6 n7 fun v8 h9 n10 =>
 C.fn 125 (.of 125) [v8] h9 n10 fun v11 h12 n13 =>
 sLen v11 fun v14 =>
 IR.run F83.b1 C N (fnO F83.res K0) (IR.run F83.b8 C N (fnO F83.res K0) (retK F83.res K0)) (F83.fr a0 v1 (I 0) (I 0) v11 (I 0) (I 0) .undef .undef .undef v11 v14 (I 0) .undef) h12 n13 := by
 rw [zL F83.tab]; kernel_rfl
theorem F83.e1 : IR.run F83.b3 C N ((fnO F83.res K0).blk 0 K) R (F83.fr x0 x1 x2 x3 x4 x5 x6 x7 x8 x9 x10 x11 x12 x13) h nx =
 sBin .lss .int x12 x11 fun v1 =>
 zH v1 (zE 1 x10 x12 fun v2 =>
 zA v2 h fun v3 =>
 sBin .add .int x12 (I 1) fun v4 =>
 sBin .mul .int v3 v4 fun v5 =>
 sBin .add .int x6 v5 fun v6 =>
 sLen x4 fun v7 =>
 sBin .sub .int v7 x12 fun v8 =>
 sBin .mul .int v3 v8 fun v9 =>
 sBin .add .int x5 v9 fun v10 =>
 sBin .add .int x12 (I 1) fun v11 =>
 R (F83.fr x0 x1 x2 x3 x4 v10 v6 x12 v3 x9 x10 x11 v11 v1) h nx) (K (F83.fr x0 x1 x2 x3 x4 x5 x6 x7 x8 x9 x10 x11 x12 v1) h nx) := by kernel_rfl
theorem F83.L1 (Inv : Nat → AV → AV → AV → T Blk → Pa → Prop) {m : Nat} (hm : m < N) (hi : Inv m x5 x6 x12 h nx)
  (step : ∀ (m : Nat) (z5 z6 z7 z8 z12 z13 : AV) (h : T Blk) (nx : Pa) (R : Ks Prop), Inv m z5 z6 z12 h nx → (∀ (m' : Nat) (w5 w6 w7 w8 w12 w13 : AV) (h' : T Blk) (nx' : Pa), m' < m → Inv m' w5 w6 w12 h' nx' → R (F83.fr x0 x1 x2 x3 x4 w5 w6 w7 w8 x9 x10 x11 w12 w13) h' nx' = .ok True) →
   (sBin .lss .int z12 x11 fun v1 =>
 zH v1 (zE 1 x10 z12 fun v2 =>
 zA v2 h fun v3 =>
 sBin .add .int z12 (I 1) fun v4 =>
 sBin .mul .int v3 v4 fun v5 =>
 sBin .add .int z6 v5 fun v6 =>
 sLen x4 fun v7 =>
 sBin .sub .int v7 z12 fun v8 =>
 sBin .mul .int v3 v8 fun v9 =>
 sBin .add .int z5 v9 fun v10 =>
 sBin .add .int z12 (I 1) fun v11 =>
 R (F83.fr x0 x1 x2 x3 x4 v10 v6 z12 v3 x9 x10 x11 v11 v1) h nx) (K (F83.fr x0 x1 x2 x3 x4 z5 z6 z7 z8 x9 x10 x11 z12 v1) h nx)) = .ok True) :
  IR.run F83.b1 C N (fnO F83.res K0) K (F83.fr x0 x1 x2 x3 x4 x5 x6 x7 x8 x9 x10 x11 x12 x13) h nx = .ok True := by
 rw [F83.b1, F83.g1_eq, F83.b2]
 refine zX (fun m tm h nx => ∃ z5 z6 z7 z8 z12 z13, tm = (F83.fr x0 x1 x2 x3 x4 z5 z6 z7 z8 x9 x10 x11 z12 z13) ∧ Inv m z5 z6 z12 h nx) ?_ hm ⟨_, _, _, _, _, _, rfl, hi⟩
 rintro m tm h nx R ⟨z5, z6, z7, z8, z12, z13, rfl, hi⟩ hR
 rw [F83.e1]
 exact step m z5 z6 z7 z8 z12 z13 h nx R hi fun m' w5 w6 w7 w8 w12 w13 h' nx' hlt hi' => hR m' _ h' nx' hlt ⟨_, _, _, _, _, _, rfl, hi'⟩
theorem F83.k8 : IR.run F83.b8 C N (fnO F83.res K0) K (F83.fr x0 x1 x2 x3 x4 x5 x6 x7 x8 x9 x10 x11 x12 x13) h nx =
 zN 1 x1 fun v1 =>
 zA v1 h fun v2 =>
 sLen v2 fun v3 =>
 sBin .add .int x5 v3 fun v4 =>
 sBin .sub .int v4 (I 1) fun v5 =>
 sBin .quo .int v5 v3 fun v6 =>
 sBin .quo .int x6 v3 fun v7 =>
 K0 (.tup [v6, v7]) h nx := by kernel_rfl
theorem F95.g7_eq (X8 : IR) (C : Calls Prop) (N : Nat) (O : Outs Prop) (K : Ks Prop) (x0 x1 x2 x3 x4 x5 x6 x7 x8 x9 x10 x11 x12 x13 : AV) (h : T Blk) (nx : Pa) : IR.run (F95.g7 X8) C N O K (F95.fr x0 x1 x2 x3 x4 x5 x6 x7 x8 x9 x10 x11 x12 x13) h nx =
 IR.run X8 C N (O.blk 2 K) K (F95.fr x0 x1 x2 x3 x4 x5 x6 x7 x8 x9 x10 x11 x12 x13) h nx := by kernel_rfl
theorem F95.g1_eq (X2 : IR) (C : Calls Prop) (N : Nat) (O : Outs Prop) (K : Ks Prop) (x0 x1 x2 x3 x4 x5 x6 x7 x8 x9 x10 x11 x12 x13 : AV) (h : T Blk) (nx : Pa) : IR.run (F95.g1 X2) C N O K (F95.fr x0 x1 x2 x3 x4 x5 x6 x7 x8 x9 x10 x11 x12 x13) h nx =
 IR.run X2 C N (O.blk 0 K) K (F95.fr x0 x1 x2 x3 x4 x5 x6 x7 x8 x9 x10 x11 x12 x13) h nx := by kernel_rfl
theorem F95.tab : T.get none (.of 95) tbl = some F95 := by kernel_rfl
theorem F95.go : zQ tbl N C (.of 95) [a0] h nx K0 =
 sBox a0 h nx fun v1 h2 n3 =>
 zN 0 v1 fun v4 =>
 zA v4 h2 fun v5 =>
 uC 1 8 [(I 0)] v5 v5 h2 n3 fun v6 h7 n8 =>
 zN 1 v1 fun v9 =>
 zA v9 h7 fun v10 =>
 sLen v10 fun v11 =>
 IR.run F95.b1 C N (fnO F95.res K0) (IR.run F95.b15 C N (fnO F95.res K0) (retK F95.res K0)) (F95.fr a0 v1 .nils v6 .undef .undef v10 v11 (I 0) .undef .undef .undef .undef .undef) h7 n8 := by
 rw [zL F95.tab]; kernel_rfl
theorem F95.e1 : IR.run F95.b3 C N ((fnO F95.res K0).blk 0 K) R (F95.fr x0 x1 x2 x3 x4 x5 x6 x7 x8 x9 x10 x11 x12 x13) h nx =
 sBin .lss .int x8 x7 fun v1 =>
 zH v1 (zE 1 x6 x8 fun v2 =>
 zA v2 h fun v3 =>
 sLen v3 fun v4 =>
 IR.run F95.b7 C N (((fnO F95.res K0).blk 0 K).blk 1 (IR.run F95.b14 C N ((fnO F95.res K0).blk 0 K) R)) (IR.run F95.b14 C N ((fnO F95.res K0).blk 0 K) R) (F95.fr x0 x1 x2 x3 v3 x5 x6 x7 x8 v1 v3 v4 (I 0) x13) h nx) (K (F95.fr x0 x1 x2 x3 x4 x5 x6 x7 x8 v1 x10 x11 x12 x13) h nx) := by kernel_rfl
theorem F95.L1 (Inv : Nat → AV → T Blk → Pa → Prop) {m : Nat} (hm : m < N) (hi : Inv m x8 h nx)
  (step : ∀ (m : Nat) (z4 z5 z8 z9 z10 z11 z12 z13 : AV) (h : T Blk) (nx : Pa) (R : Ks Prop), Inv m z8 h nx → (∀ (m' : Nat) (w4 w5 w8 w9 w10 w11 w12 w13 : AV) (h' : T Blk) (nx' : Pa), m' < m → Inv m' w8 h' nx' → R (F95.fr x0 x1 x2 x3 w4 w5 x6 x7 w8 w9 w10 w11 w12 w13) h' nx' = .ok True) →
   (sBin .lss .int z8 x7 fun v1 =>
 zH v1 (zE 1 x6 z8 fun v2 =>
 zA v2 h fun v3 =>
 sLen v3 fun v4 =>
 IR.run F95.b7 C N (((fnO F95.res K0).blk 0 K).blk 1 (IR.run F95.b14 C N ((fnO F95.res K0).blk 0 K) R)) (IR.run F95.b14 C N ((fnO F95.res K0).blk 0 K) R) (F95.fr x0 x1 x2 x3 v3 z5 x6 x7 z8 v1 v3 v4 (I 0) z13) h nx) (K (F95.fr x0 x1 x2 x3 z4 z5 x6 x7 z8 v1 z10 z11 z12 z13) h nx)) = .ok True) :
  IR.run F95.b1 C N (fnO F95.res K0) K (F95.fr x0 x1 x2 x3 x4 x5 x6 x7 x8 x9 x10 x11 x12 x13) h nx = .ok True := by
 rw [F95.b1, F95.g1_eq, F95.b2]
 refine zX (fun m tm h nx => ∃ z4 z5 z8 z9 z10 z11 z12 z13, tm = (F95.fr x0 x1 x2 x3 z4 z5 x6 x7 z8 z9 z10 z11 z12 z13) ∧ Inv m z8 h nx) ?_ hm ⟨_, _, _, _, _, _, _, _, rfl, hi⟩
 rintro m tm h nx R ⟨z4, z5, z8, z9, z10, z11, z12, z13, rfl, hi⟩ hR
 rw [F95.e1]
 exact step m z4 z5 z8 z9 z10 z11 z12 z13 h nx R hi fun m' w4 w5 w8 w9 w10 w11 w12 w13 h' nx' hlt hi' => hR m' _ h' nx' hlt ⟨_, _, _, _, _, _, _, _, rfl, hi'⟩
theorem F95.k15 : IR.run F95.b15 C N (fnO F95.res K0) K (F95.fr x0 x1 x2 x3 x4 x5 x6 x7 x8 x9 x10 x11 x12 x13) h nx =
 K0 x3 h nx := by kernel_rfl
theorem F95.k14 {E0 : Ks Prop} : IR.run F95.b14 C N ((fnO F95.res K0).blk 0 E0) K (F95.fr x0 x1 x2 x3 x4 x5 x6 x7 x8 x9 x10 x11 x12 x13) h nx =
 sBin .add .int x8 (I 1) fun v1 =>
 K (F95.fr x0 x1 x2 x3 x4 x5 x6 x7 v1 x9 x10 x11 x12 x13) h nx := by kernel_rfl
theorem F95.e7 {E0 E1 : Ks Prop} : IR.run F95.b9 C N ((((fnO F95.res K0).blk 0 E0).blk 1 E1).blk 2 K) R (F95.fr x0 x1 x2 x3 x4 x5 x6 x7 x8 x9 x10 x11 x12 x13) h nx =
 sBin .lss .int x12 x11 fun v1 =>
 zH v1 (zE 1 x10 x12 fun v2 =>
 zA v2 h fun v3 =>
 zE 1 x3 v3 fun v4 =>
 zA v4 h fun v5 =>
 sBin .add .int v5 (I 1) fun v6 =>
 zE 1 x3 v3 fun v7 =>
 yG 1 v7 v6 h nx fun v8 h9 n10 =>
 sBin .add .int x12 (I 1) fun v11 =>
 R (F95.fr x0 x1 x2 x3 x4 v3 x6 x7 x8 x9 x10 x11 v11 v1) h9 n10) (K (F95.fr x0 x1 x2 x3 x4 x5 x6 x7 x8 x9 x10 x11 x12 v1) h nx) := by kernel_rfl
theorem F95.L7 {E0 E1 : Ks Prop} (Inv : Nat → AV → T Blk → Pa → Prop) {m : Nat} (hm : m < N) (hi : Inv m x12 h nx)
  (step : ∀ (m : Nat) (z5 z12 z13 : AV) (h : T Blk) (nx : Pa) (R : Ks Prop), Inv m z12 h nx → (∀ (m' : Nat) (w5 w12 w13 : AV) (h' : T Blk) (nx' : Pa), m' < m → Inv m' w12 h' nx' → R (F95.fr x0 x1 x2 x3 x4 w5 x6 x7 x8 x9 x10 x11 w12 w13) h' nx' = .ok True) →
   (sBin .lss .int z12 x11 fun v1 =>
 zH v1 (zE 1 x10 z12 fun v2 =>
 zA v2 h fun v3 =>
 zE 1 x3 v3 fun v4 =>
 zA v4 h fun v5 =>
 sBin .add .int v5 (I 1) fun v6 =>
 zE 1 x3 v3 fun v7 =>
 yG 1 v7 v6 h nx fun v8 h9 n10 =>
 sBin .add .int z12 (I 1) fun v11 =>
 R (F95.fr x0 x1 x2 x3 x4 v3 x6 x7 x8 x9 x10 x11 v11 v1) h9 n10) (K (F95.fr x0 x1 x2 x3 x4 z5 x6 x7 x8 x9 x10 x11 z12 v1) h nx)) = .ok True) :
  IR.run F95.b7 C N (((fnO F95.res K0).blk 0 E0).blk 1 E1) K (F95.fr x0 x1 x2 x3 x4 x5 x6 x7 x8 x9 x10 x11 x12 x13) h nx = .ok True := by
 rw [F95.b7, F95.g7_eq, F95.b8]
 refine zX (fun m tm h nx => ∃ z5 z12 z13, tm = (F95.fr x0 x1 x2 x3 x4 z5 x6 x7 x8 x9 x10 x11 z12 z13) ∧ Inv m z12 h nx) ?_ hm ⟨_, _, _, rfl, hi⟩
 rintro m tm h nx R ⟨z5, z12, z13, rfl, hi⟩ hR
 rw [F95.e7]
 exact step m z5 z12 z13 h nx R hi fun m' w5 w12 w13 h' nx' hlt hi' => hR m' _ h' nx' hlt ⟨_, _, _, rfl, hi'⟩
theorem F126.tab : T.get none (.of 126) tbl = some F126 := by kernel_rfl
theorem F126.go : zQ tbl N C (.of 126) [a0] h nx K0 =
 sBox a0 h nx fun v1 h2 n3 =>
 K0 (.fn 153 (.of 153) [v1]) h2 n3 := by
 rw [zL F126.tab]; kernel_rfl
theorem F125.tab : T.get none (.of 125) tbl = some F125 := by kernel_rfl
theorem F125.go : zQ tbl N C (.of 125) [a0] h nx K0 =
 C.fn 151 (.of 151) [a0] h nx fun v1 h2 n3 =>
 C.fn 152 (.of 152) [v1] h2 n3 fun v4 h5 n6 =>
 K0 v1 h5 n6 := by
 rw [zL F125.tab]; kernel_rfl
theorem F151.tab : T.get none (.of 151) tbl = some F151 := by kernel_rfl
theorem F151.go : zQ tbl N C (.of 151) [a0] h nx K0 =
 C.fn 173 (.of 173) [.nils, a0] h nx fun v1 h2 n3 =>
 K0 v1 h2 n3 := by
 rw [zL F151.tab]; kernel_rfl
theorem F153.g1_eq (X2 : IR) (C : Calls Prop) (N : Nat) (O : Outs Prop) (K : Ks Prop) (x0 x1 x2 x3 x4 x5 x6 x7 : AV) (h : T Blk) (nx : Pa) : IR.run (F153.g1 X2) C N O K (F153.fr x0 x1 x2 x3 x4 x5 x6 x7) h nx =
 IR.run X2 C N (O.blk 0 K) K (F153.fr x0 x1 x2 x3 x4 x5 x6 x7) h nx := by kernel_rfl
theorem F153.tab : T.get none (.of 153) tbl = some F153 := by kernel_rfl
theorem F153.go : zQ tbl N C (.of 153) [a0, a1] h nx K0 =
 zA a1 h fun v1 =>
 sLen v1 fun v2 =>
 IR.run F153.b1 C N (fnO F153.res K0) (retK F153.res K0) (F153.fr a0 a1 .undef v1 v2 (I 0) .undef .undef) h nx := by
 rw [zL F153.tab]; kernel_rfl
theorem F153.e1 : IR.run F153.b3 C N ((fnO F153.res K0).blk 0 K) R (F153.fr x0 x1 x2 x3 x4 x5 x6 x7) h nx =
 sBin .lss .int x5 x4 fun v1 =>
 zH v1 (zE 1 x3 x5 fun v2 =>
 zA v2 h fun v3 =>
 sCall C x0 [v3] h nx fun v4 h5 n6 =>
 sNot v4 fun v7 =>
 zH v7 (K0 (.tup []) h5 n6) (sBin .add .int x5 (I 1) fun v8 =>
 R (F153.fr x0 x1 v3 x3 x4 v8 v1 v7) h5 n6)) (K (F153.fr x0 x1 x2 x3 x4 x5 v1 x7) h nx) := by kernel_rfl
theorem F153.L1 (Inv : Nat → AV → T Blk → Pa → Prop) {m : Nat} (hm : m < N) (hi : Inv m x5 h nx)
  (step : ∀ (m : Nat) (z2 z5 z6 z7 : AV) (h : T Blk) (nx : Pa) (R : Ks Prop), Inv m z5 h nx → (∀ (m' : Nat) (w2 w5 w6 w7 : AV) (h' : T Blk) (nx' : Pa), m' < m → Inv m' w5 h' nx' → R (F153.fr x0 x1 w2 x3 x4 w5 w6 w7) h' nx' = .ok True) →
   (sBin .lss .int z5 x4 fun v1 =>
 zH v1 (zE 1 x3 z5 fun v2 =>
 zA v2 h fun v3 =>
 sCall C x0 [v3] h nx fun v4 h5 n6 =>
 sNot v4 fun v7 =>
 zH v7 (K0 (.tup []) h5 n6) (sBin .add .int z5 (I 1) fun v8 =>
 R (F153.fr x0 x1 v3 x3 x4 v8 v1 v7) h5 n6)) (K (F153.fr x0 x1 z2 x3 x4 z5 v1 z7) h nx)) = .ok True) :
  IR.run F153.b1 C N (fnO F153.res K0) K (F153.fr x0 x1 x2 x3 x4 x5 x6 x7) h nx = .ok True := by
 rw [F153.b1, F153.g1_eq, F153.b2]
 refine zX (fun m tm h nx => ∃ z2 z5 z6 z7, tm = (F153.fr x0 x1 z2 x3 x4 z5 z6 z7) ∧ Inv m z5 h nx) ?_ hm ⟨_, _, _, _, rfl, hi⟩
 rintro m tm h nx R ⟨z2, z5, z6, z7, rfl, hi⟩ hR
 rw [F153.e1]
 exact step m z2 z5 z6 z7 h nx R hi fun m' w2 w5 w6 w7 h' nx' hlt hi' => hR m' _ h' nx' hlt ⟨_, _, _, _, rfl, hi'⟩
theorem F85.g7_eq (X8 : IR) (C : Calls Prop) (N : Nat) (O : Outs Prop) (K : Ks Prop) (x0 x1 x2 x3 x4 x5 x6 : AV) (h : T Blk) (nx : Pa) : IR.run (F85.g7 X8) C N O K (F85.fr x0 x1 x2 x3 x4 x5 x6) h nx =
 IR.run X8 C N (O.blk 2 K) K (F85.fr x0 x1 x2 x3 x4 x5 x6) h nx := by kernel_rfl
theorem F85.g1_eq (X2 : IR) (C : Calls Prop) (N : Nat) (O : Outs Prop) (K : Ks Prop) (x0 x1 x2 x3 x4 x5 x6 : AV) (h : T Blk) (nx : Pa) : IR.run (F85.g1 X2) C N O K (F85.fr x0 x1 x2 x3 x4 x5 x6) h nx =
 IR.run X2 C N (O.blk 0 K) K (F85.fr x0 x1 x2 x3 x4 x5 x6) h nx := by kernel_rfl
theorem F85.tab : T.get none (.of 85) tbl = some F85 := by kernel_rfl
theorem F85.go : zQ tbl N C (.of 85) [a0] h nx K0 =
 yX 1 0 [(I 0)] [] h nx fun v1 h2 n3 =>
 sApp 1 8 v1 a0 h2 n3 fun v4 h5 n6 =>
 IR.run F85.b1 C N (fnO F85.res K0) (IR.run F85.b15 C N (fnO F85.res K0) (retK F85.res K0)) (F85.fr a0 .nils v4 (I 1) .undef .undef .undef) h5 n6 := by
 rw [zL F85.tab]; kernel_rfl
theorem F85.e1 : IR.run F85.b3 C N ((fnO F85.res K0).blk 0 K) R (F85.fr x0 x1 x2 x3 x4 x5 x6) h nx =
 sLen x2 fun v1 =>
 sBin .lss .int x3 v1 fun v2 =>
 zH v2 (IR.run F85.b7 C N (((fnO F85.res K0).blk 0 K).blk 1 (IR.run F85.b14 C N ((fnO F85.res K0).blk 0 K) R)) (IR.run F85.b14 C N ((fnO F85.res K0).blk 0 K) R) (F85.fr x0 x1 x2 x3 x3 v2 x6) h nx) (K (F85.fr x0 x1 x2 x3 x4 v2 x6) h nx) := by kernel_rfl
theorem F85.L1 (Inv : Nat → AV → T Blk → Pa → Prop) {m : Nat} (hm : m < N) (hi : Inv m x3 h nx)
  (step : ∀ (m : Nat) (z3 z4 z5 z6 : AV) (h : T Blk) (nx : Pa) (R : Ks Prop), Inv m z3 h nx → (∀ (m' : Nat) (w3 w4 w5 w6 : AV) (h' : T Blk) (nx' : Pa), m' < m → Inv m' w3 h' nx' → R (F85.fr x0 x1 x2 w3 w4 w5 w6) h' nx' = .ok True) →
   (sLen x2 fun v1 =>
 sBin .lss .int z3 v1 fun v2 =>
 zH v2 (IR.run F85.b7 C N (((fnO F85.res K0).blk 0 K).blk 1 (IR.run F85.b14 C N ((fnO F85.res K0).blk 0 K) R)) (IR.run F85.b14 C N ((fnO F85.res K0).blk 0 K) R) (F85.fr x0 x1 x2 z3 z3 v2 z6) h nx) (K (F85.fr x0 x1 x2 z3 z4 v2 z6) h nx)) = .ok True) :
  IR.run F85.b1 C N (fnO F85.res K0) K (F85.fr x0 x1 x2 x3 x4 x5 x6) h nx = .ok True := by
 rw [F85.b1, F85.g1_eq, F85.b2]
 refine zX (fun m tm h nx => ∃ z3 z4 z5 z6, tm = (F85.fr x0 x1 x2 z3 z4 z5 z6) ∧ Inv m z3 h nx) ?_ hm ⟨_, _, _, _, rfl, hi⟩
 rintro m tm h nx R ⟨z3, z4, z5, z6, rfl, hi⟩ hR
 rw [F85.e1]
 exact step m z3 z4 z5 z6 h nx R hi fun m' w3 w4 w5 w6 h' nx' hlt hi' => hR m' _ h' nx' hlt ⟨_, _, _, _, rfl, hi'⟩
theorem F85.k15 : IR.run F85.b15 C N (fnO F85.res K0) K (F85.fr x0 x1 x2 x3 x4 x5 x6) h nx =
 K0 x2 h nx := by kernel_rfl
theorem F85.k14 {E0 : Ks Prop} : IR.run F85.b14 C N ((fnO F85.res K0).blk 0 E0) K (F85.fr x0 x1 x2 x3 x4 x5 x6) h nx =
 sBin .add .int x3 (I 1) fun v1 =>
 K (F85.fr x0 x1 x2 v1 x4 x5 x6) h nx := by kernel_rfl
theorem F85.e7 {E0 E1 : Ks Prop} : IR.run F85.b9 C N ((((fnO F85.res K0).blk 0 E0).blk 1 E1).blk 2 K) R (F85.fr x0 x1 x2 x3 x4 x5 x6) h nx =
 sBin .gtr .int x4 (I 0) fun v1 =>
 sG v1 true (fun k => k x2) fun v2 =>
 sG v1 true (fun k => k x4) fun v3 =>
 sG v1 true (fun k => zE 1 v2 v3 k) fun v4 =>
 sG v1 true (fun k => zA v4 h k) fun v5 =>
 sG v1 true (fun k => k x2) fun v6 =>
 sG v1 true (fun k => k x4) fun v7 =>
 sG v1 true (fun k => sBin .sub .int v7 (I 1) k) fun v8 =>
 sG v1 true (fun k => zE 1 v6 v8 k) fun v9 =>
 sG v1 true (fun k => zA v9 h k) fun v10 =>
 sG v1 true (fun k => sBin .lss .int v5 v10 k) fun v11 =>
 jL v1 v11 (.bool false) fun v12 =>
 zH v12 ((IR.run F85.b10 C N ((((fnO F85.res K0).blk 0 E0).blk 1 E1).blk 2 K) R) (F85.fr x0 x1 x2 x3 x4 x5 v12) h nx) (K (F85.fr x0 x1 x2 x3 x4 x5 v12) h nx) := by kernel_rfl
theorem F85.L7 {E0 E1 : Ks Prop} (Inv : Nat → AV → T Blk → Pa → Prop) {m : Nat} (hm : m < N) (hi : Inv m x4 h nx)
  (step : ∀ (m : Nat) (z4 z6 : AV) (h : T Blk) (nx : Pa) (R : Ks Prop), Inv m z4 h nx → (∀ (m' : Nat) (w4 w6 : AV) (h' : T Blk) (nx' : Pa), m' < m → Inv m' w4 h' nx' → R (F85.fr x0 x1 x2 x3 w4 x5 w6) h' nx' = .ok True) →
   (sBin .gtr .int z4 (I 0) fun v1 =>
 sG v1 true (fun k => k x2) fun v2 =>
 sG v1 true (fun k => k z4) fun v3 =>
 sG v1 true (fun k => zE 1 v2 v3 k) fun v4 =>
 sG v1 true (fun k => zA v4 h k) fun v5 =>
 sG v1 true (fun k => k x2) fun v6 =>
 sG v1 true (fun k => k z4) fun v7 =>
 sG v1 true (fun k => sBin .sub .int v7 (I 1) k) fun v8 =>
 sG v1 true (fun k => zE 1 v6 v8 k) fun v9 =>
 sG v1 true (fun k => zA v9 h k) fun v10 =>
 sG v1 true (fun k => sBin .lss .int v5 v10 k) fun v11 =>
 jL v1 v11 (.bool false) fun v12 =>
 zH v12 ((IR.run F85.b10 C N ((((fnO F85.res K0).blk 0 E0).blk 1 E1).blk 2 K) R) (F85.fr x0 x1 x2 x3 z4 x5 v12) h nx) (K (F85.fr x0 x1 x2 x3 z4 x5 v12) h nx)) = .ok True) :
  IR.run F85.b7 C N (((fnO F85.res K0).blk 0 E0).blk 1 E1) K (F85.fr x0 x1 x2 x3 x4 x5 x6) h nx = .ok True := by
 rw [F85.b7, F85.g7_eq, F85.b8]
 refine zX (fun m tm h nx => ∃ z4 z6, tm = (F85.fr x0 x1 x2 x3 z4 x5 z6) ∧ Inv m z4 h nx) ?_ hm ⟨_, _, rfl, hi⟩
 rintro m tm h nx R ⟨z4, z6, rfl, hi⟩ hR
 rw [F85.e7]
 exact step m z4 z6 h nx R hi fun m' w4 w6 h' nx' hlt hi' => hR m' _ h' nx' hlt ⟨_, _, rfl, hi'⟩
theorem F85.k10 {E0 E1 E2 : Ks Prop} : IR.run F85.b10 C N ((((fnO F85.res K0).blk 0 E0).blk 1 E1).blk 2 E2) K (F85.fr x0 x1 x2 x3 x4 x5 x6) h nx =
 sBin .sub .int x4 (I 1) fun v1 =>
 sBin .sub .int x4 (I 1) fun v2 =>
 zE 1 x2 v2 fun v3 =>
 zA v3 h fun v4 =>
 zE 1 x2 x4 fun v5 =>
 zA v5 h fun v6 =>
 zE 1 x2 x4 fun v7 =>
 yG 1 v7 v4 h nx fun v8 h9 n10 =>
 (sBin .sub .int x4 (I 1) fun v16 => yZ v16 v1 (yZ x4 x4 (yZ x2 x2 (zE 1 x2 v1 fun v11 =>
 yG 1 v11 v6 h9 n10 fun v12 h13 n14 =>
 sBin .sub .int x4 (I 1) fun v15 =>
 K (F85.fr x0 x1 x2 x3 v15 x5 x6) h13 n14)))) := by kernel_rfl
end Go.Ev
namespace Go.Ev
open Go Go.Proofs
set_option maxRecDepth 100000
variable {N : Nat} {C : Calls Prop} {K0 : Kw Prop} {K R : Ks Prop} {h : T Blk} {nx : Pa} {x0 x1 x2 x3 x4 x5 x6 a0 a1 : AV}
theorem F173.tab : T.get none (.of 173) tbl = some F173 := by kernel_rfl
theorem F173.go : zQ tbl N C (.of 173) [a0, a1] h nx K0 =
 sBox a0 h nx fun v1 h2 n3 =>
 IR.run (.rf (.t (.of 5)) [(.of 6)] F173.b3 F173.b4) C N ((fnO F173.res K0).blk 0 (IR.run F173.b6 C N (fnO F173.res K0) (retK F173.res K0))) (IR.run F173.b6 C N (fnO F173.res K0) (retK F173.res K0)) (F173.fr a0 a1 v1 .nils .undef a1 .undef) h2 n3 := by
 rw [zL F173.tab]; kernel_rfl
theorem F173.k6 : IR.run F173.b6 C N (fnO F173.res K0) K (F173.fr x0 x1 x2 x3 x4 x5 x6) h nx =
 zA x2 h fun v1 =>
 K0 v1 h nx := by kernel_rfl
theorem F173.y4 {N : Nat} {C : Calls Prop} {K0 : Kw Prop} {id nx : Pa} {j : Jump} {h h1 : T Blk} {x0 x1 x2 x3 x4 x5 x6 z0 : AV} (hl : T.get .no id h = .loop .ready j (F173.fr x0 x1 x2 x3 x4 x5 x6) [.of 6] F173.b3 F173.b4) (he : h1 = T.set .no (.loop .busy j (F173.fr x0 x1 x2 x3 x4 x5 x6) [.of 6] F173.b3 F173.b4) id h) :
 callYld N C id [z0] h nx K0 =
 zA x2 h1 fun v1 =>
 yX 1 1 [(I 0)] [(0, 1, z0)] h1 nx fun v2 h3 n4 =>
 sApp 1 8 v1 v2 h3 n4 fun v5 h6 n7 =>
 yG 1 x2 v5 h6 n7 fun v8 h9 n10 =>
 jN id K0 .none true .e h9 n10 := by
 subst he
 rw [rnd_of hl (tm1 := (F173.fr x0 x1 x2 x3 x4 x5 z0)) (tm2 := (F173.fr x0 x1 x2 x3 z0 x5 z0)) (by intro k; kernel_rfl) (by intro O K h nx; kernel_rfl)]; kernel_rfl
end Go.Ev
namespace Go.Ev
open Go Go.Proofs
set_option maxRecDepth 100000
variable {N : Nat} {C : Calls Prop} {K0 : Kw Prop} {K R : Ks Prop} {h : T Blk} {nx : Pa} {x0 x1 x2 x3 x4 x5 x6 x7 x8 x9 x10 x11 x12 x13 x14 a0 a1 a2 a3 : AV}
theorem F62.g2_eq (X3 : IR) (C : Calls Prop) (N : Nat) (O : Outs Prop) (K : Ks Prop) (x0 x1 x2 x3 x4 x5 x6 x7 x8 : AV) (h : T Blk) (nx : Pa) : IR.run (F62.g2 X3) C N O K (F62.fr x0 x1 x2 x3 x4 x5 x6 x7 x8) h nx =
 IR.run X3 C N (O.blk 0 K) K (F62.fr x0 x1 x2 x3 x4 x5 x6 x7 x8) h nx := by kernel_rfl
theorem F62.tab : T.get none (.of 62) tbl = some F62 := by kernel_rfl
theorem F62.go : zQ tbl N C (.of 62) [a0] h nx K0 =
 sBox a0 h nx fun v1 h2 n3 =>
 zN 0 v1 fun v4 =>
 zA v4 h2 fun v5 =>
 sBin .leq .int v5 (I 6) fun v6 =>
 sG v6 false (fun k => zN 0 v1 k) fun v7 =>
 sG v6 false (fun k => zA v7 h2 k) fun v8 =>
 sG v6 false (fun k => sBin .gtr .int v8 (I 9) k) fun v9 =>
 jL v6 (.bool true) v9 fun v10 =>
 zH v10 (K0 (.bool true) h2 n3) (IR.run F62.b2 C N (fnO F62.res K0) (IR.run F62.b9 C N (fnO F62.res K0) (retK F62.res K0)) (F62.fr a0 v1 (.bool false) (I 0) (I 0) .undef v10 .undef .undef) h2 n3) := by
 rw [zL F62.tab]; kernel_rfl
theorem F62.e2 : IR.run F62.b4 C N ((fnO F62.res K0).blk 0 K) R (F62.fr x0 x1 x2 x3 x4 x5 x6 x7 x8) h nx =
 zN 1 x1 fun v1 =>
 zA v1 h fun v2 =>
 sLen v2 fun v3 =>
 sBin .lss .int x4 v3 fun v4 =>
 zH v4 (zN 1 x1 fun v5 =>
 zA v5 h fun v6 =>
 zE 1 v6 x4 fun v7 =>
 zA v7 h fun v8 =>
 sLen v8 fun v9 =>
 sBin .sub .int v9 (I 1) fun v10 =>
 zE 1 v8 v10 fun v11 =>
 zA v11 h fun v12 =>
 sBin .leq .int v12 (I 5) fun v13 =>
 zH v13 (sBin .add .int x3 (I 1) fun v14 =>
 sBin .add .int x4 (I 1) fun v15 =>
 R (F62.fr x0 x1 x2 v14 v15 v8 x6 v4 v13) h nx) (sBin .add .int x4 (I 1) fun v16 =>
 R (F62.fr x0 x1 x2 x3 v16 v8 x6 v4 v13) h nx)) (K (F62.fr x0 x1 x2 x3 x4 x5 x6 v4 x8) h nx) := by kernel_rfl
theorem F62.L2 (Inv : Nat → AV → AV → T Blk → Pa → Prop) {m : Nat} (hm : m < N) (hi : Inv m x3 x4 h nx)
  (step : ∀ (m : Nat) (z3 z4 z5 z7 z8 : AV) (h : T Blk) (nx : Pa) (R : Ks Prop), Inv m z3 z4 h nx → (∀ (m' : Nat) (w3 w4 w5 w7 w8 : AV) (h' : T Blk) (nx' : Pa), m' < m → Inv m' w3 w4 h' nx' → R (F62.fr x0 x1 x2 w3 w4 w5 x6 w7 w8) h' nx' = .ok True) →
   (zN 1 x1 fun v1 =>
 zA v1 h fun v2 =>
 sLen v2 fun v3 =>
 sBin .lss .int z4 v3 fun v4 =>
 zH v4 (zN 1 x1 fun v5 =>
 zA v5 h fun v6 =>
 zE 1 v6 z4 fun v7 =>
 zA v7 h fun v8 =>
 sLen v8 fun v9 =>
 sBin .sub .int v9 (I 1) fun v10 =>
 zE 1 v8 v10 fun v11 =>
 zA v11 h fun v12 =>
 sBin .leq .int v12 (I 5) fun v13 =>
 zH v13 (sBin .add .int z3 (I 1) fun v14 =>
 sBin .add .int z4 (I 1) fun v15 =>
 R (F62.fr x0 x1 x2 v14 v15 v8 x6 v4 v13) h nx) (sBin .add .int z4 (I 1) fun v16 =>
 R (F62.fr x0 x1 x2 z3 v16 v8 x6 v4 v13) h nx)) (K (F62.fr x0 x1 x2 z3 z4 z5 x6 v4 z8) h nx)) = .ok True) :
  IR.run F62.b2 C N (fnO F62.res K0) K (F62.fr x0 x1 x2 x3 x4 x5 x6 x7 x8) h nx = .ok True := by
 rw [F62.b2, F62.g2_eq, F62.b3]
 refine zX (fun m tm h nx => ∃ z3 z4 z5 z7 z8, tm = (F62.fr x0 x1 x2 z3 z4 z5 x6 z7 z8) ∧ Inv m z3 z4 h nx) ?_ hm ⟨_, _, _, _, _, rfl, hi⟩
 rintro m tm h nx R ⟨z3, z4, z5, z7, z8, rfl, hi⟩ hR
 rw [F62.e2]
 exact step m z3 z4 z5 z7 z8 h nx R hi fun m' w3 w4 w5 w7 w8 h' nx' hlt hi' => hR m' _ h' nx' hlt ⟨_, _, _, _, _, rfl, hi'⟩
theorem F62.k9 : IR.run F62.b9 C N (fnO F62.res K0) K (F62.fr x0 x1 x2 x3 x4 x5 x6 x7 x8) h nx =
 sBin .geq .int x3 (I 2) fun v1 =>
 K0 v1 h nx := by kernel_rfl
end Go.Ev
namespace Go.Ev
open Go Go.Proofs
set_option maxRecDepth 100000
variable {N : Nat} {C : Calls Prop} {K0 : Kw Prop} {K R : Ks Prop} {h : T Blk} {nx : Pa} {x0 x1 x2 x3 x4 x5 x6 x7 x8 x9 x10 x11 x12 x13 a0 a1 a2 a3 : AV}
end Go.Ev
namespace Go.Ev
open Go Go.Proofs
set_option maxRecDepth 100000
variable {N : Nat} {C : Calls Prop} {K0 : Kw Prop} {K R : Ks Prop} {h : T Blk} {nx : Pa} {x0 x1 x2 x3 x4 x5 x6 x7 x8 x9 x10 x11 a0 : AV}
theorem F26.tab : T.get none (.of 26) tbl = some F26 := by kernel_rfl
theorem F26.go : zQ tbl N C (.of 26) [a0] h nx K0 =
 sBox a0 h nx fun v1 h2 n3 =>
 yJ 2 v1 h2 fun v4 =>
 zN 1 v1 fun v5 =>
 zA v5 h2 fun v6 =>
 sLen v6 fun v7 =>
 sBin .eql .int v7 (I 0) fun v8 =>
 C.fn 81 (.of 81) [v4] h2 n3 fun v9 h10 n11 =>
 (sBin .eql .int v7 (I 0) fun v31 => yZ v31 v8 ((sLen v6 fun v30 => yZ v30 v7 ((zA v5 h10 fun v29 => yZ v29 v6 ((zN 1 v1 fun v28 => yZ v28 v5 (C.fn 82 (.of 82) [v8, (I 12)] h10 n11 fun v12 h13 n14 =>
 yX 1 2 [(I 0)] [(0, 1, v9), (1, 1, v12)] h13 n14 fun v15 h16 n17 =>
 C.fn 80 (.of 80) [v15] h16 n17 fun v18 h19 n20 =>
 sBin .neq .int v18 (I 0) fun v21 =>
 zH v21 (K0 (.tup [(I 0), (I 0), v18]) h19 n20) (yJ 2 v1 h19 fun v22 =>
 C.fn 83 (.of 83) [v22] h19 n20 fun v23 h24 n25 =>
 sExt 0 v23 fun v26 =>
 sExt 1 v23 fun v27 =>
 K0 (.tup [v26, v27, (I 0)]) h24 n25))))))))) := by
 rw [zL F26.tab]; kernel_rfl
end Go.Ev
namespace Go.Ev
open Go Go.Proofs
set_option maxRecDepth 100000
variable {N : Nat} {C : Calls Prop} {K0 : Kw Prop} {K R : Ks Prop} {h : T Blk} {nx : Pa} {x0 x1 x2 x3 x4 x5 x6 x7 x8 x9 x10 x11 a0 a1 : AV}
theorem F113.g1_eq (X2 : IR) (C : Calls Prop) (N : Nat) (O : Outs Prop) (K : Ks Prop) (x0 x1 x2 x3 x4 x5 x6 x7 x8 x9 x10 x11 : AV) (h : T Blk) (nx : Pa) : IR.run (F113.g1 X2) C N O K (F113.fr x0 x1 x2 x3 x4 x5 x6 x7 x8 x9 x10 x11) h nx =
 IR.run X2 C N (O.blk 0 K) K (F113.fr x0 x1 x2 x3 x4 x5 x6 x7 x8 x9 x10 x11) h nx := by kernel_rfl
theorem F113.tab : T.get none (.of 113) tbl = some F113 := by kernel_rfl
theorem F113.go : zQ tbl N C (.of 113) [a0] h nx K0 =
 sBox a0 h nx fun v1 h2 n3 =>
 yJ 2 v1 h2 fun v4 =>
 C.fn 83 (.of 83) [v4] h2 n3 fun v5 h6 n7 =>
 sExt 0 v5 fun v8 =>
 sExt 1 v5 fun v9 =>
 IR.run F113.b1 C N (fnO F113.res K0) (IR.run F113.b14 C N (fnO F113.res K0) (retK F113.res K0)) (F113.fr a0 v1 .nils .nils v8 v9 v8 .undef .undef .undef .undef .undef) h6 n7 := by
 rw [zL F113.tab]; kernel_rfl
theorem F113.e1 : IR.run F113.b3 C N ((fnO F113.res K0).blk 0 K) R (F113.fr x0 x1 x2 x3 x4 x5 x6 x7 x8 x9 x10 x11) h nx =
 sBin .leq .int x6 x5 fun v1 =>
 zH v1 (jS [(I 0)] h nx fun v2 h3 n4 =>
 yG 1 v2 (I 0) h3 n4 fun v5 h6 n7 =>
 yJ 2 x1 h6 fun v8 =>
 C.fn 107 (.of 107) [v8, x6] h6 n7 fun v9 h10 n11 =>
 IR.run (.rf (.t (.of 9)) [(.of 10)] F113.b9 F113.b10) C N ((((fnO F113.res K0).blk 0 K).blk 1 (IR.run F113.b13 C N ((fnO F113.res K0).blk 0 K) R)).blk 2 (IR.run F113.b12 C N (((fnO F113.res K0).blk 0 K).blk 1 (IR.run F113.b13 C N ((fnO F113.res K0).blk 0 K) R)) (IR.run F113.b13 C N ((fnO F113.res K0).blk 0 K) R))) (IR.run F113.b12 C N (((fnO F113.res K0).blk 0 K).blk 1 (IR.run F113.b13 C N ((fnO F113.res K0).blk 0 K) R)) (IR.run F113.b13 C N ((fnO F113.res K0).blk 0 K) R)) (F113.fr x0 x1 x2 x3 x4 x5 x6 v2 v1 v9 x10 x11) h10 n11) (K (F113.fr x0 x1 x2 x3 x4 x5 x6 x7 v1 x9 x10 x11) h nx) := by kernel_rfl
theorem F113.L1 (Inv : Nat → AV → AV → AV → AV → T Blk → Pa → Prop) {m : Nat} (hm : m < N) (hi : Inv m x3 x6 x10 x11 h nx)
  (step : ∀ (m : Nat) (z3 z6 z7 z8 z9 z10 z11 : AV) (h : T Blk) (nx : Pa) (R : Ks Prop), Inv m z3 z6 z10 z11 h nx → (∀ (m' : Nat) (w3 w6 w7 w8 w9 w10 w11 : AV) (h' : T Blk) (nx' : Pa), m' < m → Inv m' w3 w6 w10 w11 h' nx' → R (F113.fr x0 x1 x2 w3 x4 x5 w6 w7 w8 w9 w10 w11) h' nx' = .ok True) →
   (sBin .leq .int z6 x5 fun v1 =>
 zH v1 (jS [(I 0)] h nx fun v2 h3 n4 =>
 yG 1 v2 (I 0) h3 n4 fun v5 h6 n7 =>
 yJ 2 x1 h6 fun v8 =>
 C.fn 107 (.of 107) [v8, z6] h6 n7 fun v9 h10 n11 =>
 IR.run (.rf (.t (.of 9)) [(.of 10)] F113.b9 F113.b10) C N ((((fnO F113.res K0).blk 0 K).blk 1 (IR.run F113.b13 C N ((fnO F113.res K0).blk 0 K) R)).blk 2 (IR.run F113.b12 C N (((fnO F113.res K0).blk 0 K).blk 1 (IR.run F113.b13 C N ((fnO F113.res K0).blk 0 K) R)) (IR.run F113.b13 C N ((fnO F113.res K0).blk 0 K) R))) (IR.run F113.b12 C N (((fnO F113.res K0).blk 0 K).blk 1 (IR.run F113.b13 C N ((fnO F113.res K0).blk 0 K) R)) (IR.run F113.b13 C N ((fnO F113.res K0).blk 0 K) R)) (F113.fr x0 x1 x2 z3 x4 x5 z6 v2 v1 v9 z10 z11) h10 n11) (K (F113.fr x0 x1 x2 z3 x4 x5 z6 z7 v1 z9 z10 z11) h nx)) = .ok True) :
  IR.run F113.b1 C N (fnO F113.res K0) K (F113.fr x0 x1 x2 x3 x4 x5 x6 x7 x8 x9 x10 x11) h nx = .ok True := by
 rw [F113.b1, F113.g1_eq, F113.b2]
 refine zX (fun m tm h nx => ∃ z3 z6 z7 z8 z9 z10 z11, tm = (F113.fr x0 x1 x2 z3 x4 x5 z6 z7 z8 z9 z10 z11) ∧ Inv m z3 z6 z10 z11 h nx) ?_ hm ⟨_, _, _, _, _, _, _, rfl, hi⟩
 rintro m tm h nx R ⟨z3, z6, z7, z8, z9, z10, z11, rfl, hi⟩ hR
 rw [F113.e1]
 exact step m z3 z6 z7 z8 z9 z10 z11 h nx R hi fun m' w3 w6 w7 w8 w9 w10 w11 h' nx' hlt hi' => hR m' _ h' nx' hlt ⟨_, _, _, _, _, _, _, rfl, hi'⟩
theorem F113.k14 : IR.run F113.b14 C N (fnO F113.res K0) K (F113.fr x0 x1 x2 x3 x4 x5 x6 x7 x8 x9 x10 x11) h nx =
 K0 x3 h nx := by kernel_rfl
theorem F113.k13 {E0 : Ks Prop} : IR.run F113.b13 C N ((fnO F113.res K0).blk 0 E0) K (F113.fr x0 x1 x2 x3 x4 x5 x6 x7 x8 x9 x10 x11) h nx =
 sBin .add .int x6 (I 1) fun v1 =>
 K (F113.fr x0 x1 x2 x3 x4 x5 v1 x7 x8 x9 x10 x11) h nx := by kernel_rfl
theorem F113.k12 {E0 E1 : Ks Prop} : IR.run F113.b12 C N (((fnO F113.res K0).blk 0 E0).blk 1 E1) K (F113.fr x0 x1 x2 x3 x4 x5 x6 x7 x8 x9 x10 x11) h nx =
 zA x7 h fun v1 =>
 sBin .gtr .int v1 (I 0) fun v2 =>
 zH v2 (zA x7 h fun v3 =>
 sBuild [(I 0), (I 0)] [(0, 1, x6), (1, 1, v3)] fun v4 =>
 yX 2 1 [(I 0), (I 0)] [(0, 2, v4)] h nx fun v5 h6 n7 =>
 sApp 2 16 x3 v5 h6 n7 fun v8 h9 n10 =>
 K (F113.fr x0 x1 x2 v8 x4 x5 x6 x7 x8 x9 x10 v2) h9 n10) (K (F113.fr x0 x1 x2 x3 x4 x5 x6 x7 x8 x9 x10 v2) h nx) := by kernel_rfl
theorem F113.y10 {N : Nat} {C : Calls Prop} {K0 : Kw Prop} {id nx : Pa} {j : Jump} {h h1 : T Blk} {x0 x1 x2 x3 x4 x5 x6 x7 x8 x9 x10 x11 z0 : AV} (hl : T.get .no id h = .loop .ready j (F113.fr x0 x1 x2 x3 x4 x5 x6 x7 x8 x9 x10 x11) [.of 10] F113.b9 F113.b10) (he : h1 = T.set .no (.loop .busy j (F113.fr x0 x1 x2 x3 x4 x5 x6 x7 x8 x9 x10 x11) [.of 10] F113.b9 F113.b10) id h) :
 callYld N C id [z0] h nx K0 =
 zA x7 h1 fun v1 =>
 sBin .add .int v1 (I 1) fun v2 =>
 yG 1 x7 v2 h1 nx fun v3 h4 n5 =>
 jN id K0 .none true .e h4 n5 := by
 subst he
 rw [rnd_of hl (tm1 := (F113.fr x0 x1 x2 x3 x4 x5 x6 x7 x8 x9 z0 x11)) (tm2 := (F113.fr x0 x1 x2 x3 x4 x5 x6 x7 x8 x9 z0 x11)) (by intro k; kernel_rfl) (by intro O K h nx; kernel_rfl)]; kernel_rfl
end Go.Ev
namespace Go.Ev
open Go Go.Proofs
set_option maxRecDepth 100000
variable {N : Nat} {C : Calls Prop} {K0 : Kw Prop} {K R : Ks Prop} {h : T Blk} {nx : Pa} {x0 x1 x2 x3 x4 x5 x6 x7 x8 x9 x10 x11 x12 x13 x14 x15 a0 : AV}
theorem F63.tab : T.get none (.of 63) tbl = some F63 := by kernel_rfl
theorem F63.go : zQ tbl N C (.of 63) [a0] h nx K0 =
 sBox a0 h nx fun v1 h2 n3 =>
 yJ 2 v1 h2 fun v4 =>
 zN 1 v1 fun v5 =>
 zA v5 h2 fun v6 =>
 sLen v6 fun v7 =>
 sBin .eql .int v7 (I 0) fun v8 =>
 C.fn 106 (.of 106) [v4] h2 n3 fun v9 h10 n11 =>
 (sBin .eql .int v7 (I 0) fun v29 => yZ v29 v8 ((sLen v6 fun v28 => yZ v28 v7 ((zA v5 h10 fun v27 => yZ v27 v6 ((zN 1 v1 fun v26 => yZ v26 v5 (C.fn 82 (.of 82) [v8, (I 12)] h10 n11 fun v12 h13 n14 =>
 yX 1 2 [(I 0)] [(0, 1, v9), (1, 1, v12)] h13 n14 fun v15 h16 n17 =>
 C.fn 80 (.of 80) [v15] h16 n17 fun v18 h19 n20 =>
 sBin .neq .int v18 (I 0) fun v21 =>
 zH v21 (K0 (.tup [.nils, v18]) h19 n20) (yJ 2 v1 h19 fun v22 =>
 C.fn 113 (.of 113) [v22] h19 n20 fun v23 h24 n25 =>
 K0 (.tup [v23, (I 0)]) h24 n25))))))))) := by
 rw [zL F63.tab]; kernel_rfl
theorem F64.g2_eq (X3 : IR) (C : Calls Prop) (N : Nat) (O : Outs Prop) (K : Ks Prop) (x0 x1 x2 x3 x4 x5 x6 x7 x8 x9 x10 x11 x12 x13 x14 x15 : AV) (h : T Blk) (nx : Pa) : IR.run (F64.g2 X3) C N O K (F64.fr x0 x1 x2 x3 x4 x5 x6 x7 x8 x9 x10 x11 x12 x13 x14 x15) h nx =
 IR.run X3 C N (O.blk 0 K) K (F64.fr x0 x1 x2 x3 x4 x5 x6 x7 x8 x9 x10 x11 x12 x13 x14 x15) h nx := by kernel_rfl
theorem F64.g11_eq (X12 : IR) (C : Calls Prop) (N : Nat) (O : Outs Prop) (K : Ks Prop) (x0 x1 x2 x3 x4 x5 x6 x7 x8 x9 x10 x11 x12 x13 x14 x15 : AV) (h : T Blk) (nx : Pa) : IR.run (F64.g11 X12) C N O K (F64.fr x0 x1 x2 x3 x4 x5 x6 x7 x8 x9 x10 x11 x12 x13 x14 x15) h nx =
 IR.run X12 C N (O.blk 2 K) K (F64.fr x0 x1 x2 x3 x4 x5 x6 x7 x8 x9 x10 x11 x12 x13 x14 x15) h nx := by kernel_rfl
theorem F64.tab : T.get none (.of 64) tbl = some F64 := by kernel_rfl
theorem F64.go : zQ tbl N C (.of 64) [a0] h nx K0 =
 sBox a0 h nx fun v1 h2 n3 =>
 yJ 2 v1 h2 fun v4 =>
 C.fn 106 (.of 106) [v4] h2 n3 fun v5 h6 n7 =>
 sBin .neq .int v5 (I 0) fun v8 =>
 zH v8 (K0 (.tup [(I 0), v5]) h6 n7) (zN 1 v1 fun v9 =>
 zA v9 h6 fun v10 =>
 sLen v10 fun v11 =>
 sBin .eql .int v11 (I 0) fun v12 =>
 zH v12 (IR.run F64.b2 C N (fnO F64.res K0) (IR.run F64.b9 C N (fnO F64.res K0) (IR.run F64.b10 C N (fnO F64.res K0) (retK F64.res K0))) (F64.fr a0 v1 (I 0) (I 0) v5 (I 1) (I 2) .undef .undef v8 v12 .undef .undef .undef .undef .undef) h6 n7) ((IR.run F64.b10 C N (fnO F64.res K0) (retK F64.res K0)) (F64.fr a0 v1 (I 0) (I 0) v5 .undef .undef .undef .undef v8 v12 .undef .undef .undef .undef .undef) h6 n7)) := by
 rw [zL F64.tab]; kernel_rfl
theorem F64.e2 : IR.run F64.b4 C N ((fnO F64.res K0).blk 0 K) R (F64.fr x0 x1 x2 x3 x4 x5 x6 x7 x8 x9 x10 x11 x12 x13 x14 x15) h nx =
 zN 0 x1 fun v1 =>
 zA v1 h fun v2 =>
 sBin .leq .int x6 v2 fun v3 =>
 zH v3 (sBin .mul .int x5 x6 fun v4 =>
 sBin .add .int x6 (I 1) fun v5 =>
 R (F64.fr x0 x1 x2 x3 x4 v4 v5 x7 x8 x9 x10 v3 x12 x13 x14 x15) h nx) (K (F64.fr x0 x1 x2 x3 x4 x5 x6 x7 x8 x9 x10 v3 x12 x13 x14 x15) h nx) := by kernel_rfl
theorem F64.L2 (Inv : Nat → AV → AV → T Blk → Pa → Prop) {m : Nat} (hm : m < N) (hi : Inv m x5 x6 h nx)
  (step : ∀ (m : Nat) (z5 z6 z11 : AV) (h : T Blk) (nx : Pa) (R : Ks Prop), Inv m z5 z6 h nx → (∀ (m' : Nat) (w5 w6 w11 : AV) (h' : T Blk) (nx' : Pa), m' < m → Inv m' w5 w6 h' nx' → R (F64.fr x0 x1 x2 x3 x4 w5 w6 x7 x8 x9 x10 w11 x12 x13 x14 x15) h' nx' = .ok True) →
   (zN 0 x1 fun v1 =>
 zA v1 h fun v2 =>
 sBin .leq .int z6 v2 fun v3 =>
 zH v3 (sBin .mul .int z5 z6 fun v4 =>
 sBin .add .int z6 (I 1) fun v5 =>
 R (F64.fr x0 x1 x2 x3 x4 v4 v5 x7 x8 x9 x10 v3 x12 x13 x14 x15) h nx) (K (F64.fr x0 x1 x2 x3 x4 z5 z6 x7 x8 x9 x10 v3 x12 x13 x14 x15) h nx)) = .ok True) :
  IR.run F64.b2 C N (fnO F64.res K0) K (F64.fr x0 x1 x2 x3 x4 x5 x6 x7 x8 x9 x10 x11 x12 x13 x14 x15) h nx = .ok True := by
 rw [F64.b2, F64.g2_eq, F64.b3]
 refine zX (fun m tm h nx => ∃ z5 z6 z11, tm = (F64.fr x0 x1 x2 x3 x4 z5 z6 x7 x8 x9 x10 z11 x12 x13 x14 x15) ∧ Inv m z5 z6 h nx) ?_ hm ⟨_, _, _, rfl, hi⟩
 rintro m tm h nx R ⟨z5, z6, z11, rfl, hi⟩ hR
 rw [F64.e2]
 exact step m z5 z6 z11 h nx R hi fun m' w5 w6 w11 h' nx' hlt hi' => hR m' _ h' nx' hlt ⟨_, _, _, rfl, hi'⟩
theorem F64.k9 : IR.run F64.b9 C N (fnO F64.res K0) K (F64.fr x0 x1 x2 x3 x4 x5 x6 x7 x8 x9 x10 x11 x12 x13 x14 x15) h nx =
 K0 (.tup [x5, (I 0)]) h nx := by kernel_rfl
theorem F64.k10 : IR.run F64.b10 C N (fnO F64.res K0) K (F64.fr x0 x1 x2 x3 x4 x5 x6 x7 x8 x9 x10 x11 x12 x13 x14 x15) h nx =
 yJ 2 x1 h fun v1 =>
 C.fn 113 (.of 113) [v1] h nx fun v2 h3 n4 =>
 sLen v2 fun v5 =>
 IR.run F64.b11 C N (fnO F64.res K0) (IR.run F64.b18 C N (fnO F64.res K0) K) (F64.fr x0 x1 x2 x3 x4 x5 x6 (I 0) x8 x9 x10 x11 v2 v5 (I 0) x15) h3 n4 := by kernel_rfl
theorem F64.e11 : IR.run F64.b13 C N ((fnO F64.res K0).blk 2 K) R (F64.fr x0 x1 x2 x3 x4 x5 x6 x7 x8 x9 x10 x11 x12 x13 x14 x15) h nx =
 sBin .lss .int x14 x13 fun v1 =>
 zH v1 (zE 2 x12 x14 fun v2 =>
 yJ 2 v2 h fun v3 =>
 jS [(I 0), (I 0)] h nx fun v4 h5 n6 =>
 yG 2 v4 v3 h5 n6 fun v7 h8 n9 =>
 yY 1 2 v4 (I 1) fun v10 =>
 zA v10 h8 fun v11 =>
 sBin .add .int x7 v11 fun v12 =>
 sBin .add .int x14 (I 1) fun v13 =>
 R (F64.fr x0 x1 x2 x3 x4 x5 x6 v12 v4 x9 x10 x11 x12 x13 v13 v1) h8 n9) (K (F64.fr x0 x1 x2 x3 x4 x5 x6 x7 x8 x9 x10 x11 x12 x13 x14 v1) h nx) := by kernel_rfl
theorem F64.L11 (Inv : Nat → AV → AV → T Blk → Pa → Prop) {m : Nat} (hm : m < N) (hi : Inv m x7 x14 h nx)
  (step : ∀ (m : Nat) (z7 z8 z14 z15 : AV) (h : T Blk) (nx : Pa) (R : Ks Prop), Inv m z7 z14 h nx → (∀ (m' : Nat) (w7 w8 w14 w15 : AV) (h' : T Blk) (nx' : Pa), m' < m → Inv m' w7 w14 h' nx' → R (F64.fr x0 x1 x2 x3 x4 x5 x6 w7 w8 x9 x10 x11 x12 x13 w14 w15) h' nx' = .ok True) →
   (sBin .lss .int z14 x13 fun v1 =>
 zH v1 (zE 2 x12 z14 fun v2 =>
 yJ 2 v2 h fun v3 =>
 jS [(I 0), (I 0)] h nx fun v4 h5 n6 =>
 yG 2 v4 v3 h5 n6 fun v7 h8 n9 =>
 yY 1 2 v4 (I 1) fun v10 =>
 zA v10 h8 fun v11 =>
 sBin .add .int z7 v11 fun v12 =>
 sBin .add .int z14 (I 1) fun v13 =>
 R (F64.fr x0 x1 x2 x3 x4 x5 x6 v12 v4 x9 x10 x11 x12 x13 v13 v1) h8 n9) (K (F64.fr x0 x1 x2 x3 x4 x5 x6 z7 z8 x9 x10 x11 x12 x13 z14 v1) h nx)) = .ok True) :
  IR.run F64.b11 C N (fnO F64.res K0) K (F64.fr x0 x1 x2 x3 x4 x5 x6 x7 x8 x9 x10 x11 x12 x13 x14 x15) h nx = .ok True := by
 rw [F64.b11, F64.g11_eq, F64.b12]
 refine zX (fun m tm h nx => ∃ z7 z8 z14 z15, tm = (F64.fr x0 x1 x2 x3 x4 x5 x6 z7 z8 x9 x10 x11 x12 x13 z14 z15) ∧ Inv m z7 z14 h nx) ?_ hm ⟨_, _, _, _, rfl, hi⟩
 rintro m tm h nx R ⟨z7, z8, z14, z15, rfl, hi⟩ hR
 rw [F64.e11]
 exact step m z7 z8 z14 z15 h nx R hi fun m' w7 w8 w14 w15 h' nx' hlt hi' => hR m' _ h' nx' hlt ⟨_, _, _, _, rfl, hi'⟩
theorem F64.k18 : IR.run F64.b18 C N (fnO F64.res K0) K (F64.fr x0 x1 x2 x3 x4 x5 x6 x7 x8 x9 x10 x11 x12 x13 x14 x15) h nx =
 K0 (.tup [x7, (I 0)]) h nx := by kernel_rfl
end Go.Ev
namespace Go.Ev
open Go Go.Proofs
set_option maxRecDepth 100000
variable {N : Nat} {C : Calls Prop} {K0 : Kw Prop} {K R : Ks Prop} {h : T Blk} {nx : Pa} {x0 x1 x2 x3 x4 x5 x6 a0 a1 a2 : AV}
theorem F44.tab : T.get none (.of 44) tbl = some F44 := by kernel_rfl
theorem F44.go : zQ tbl N C (.of 44) [a0, a1, a2] h nx K0 =
 sBox a0 h nx fun v1 h2 n3 =>
 yJ 2 v1 h2 fun v4 =>
 C.fn 25 (.of 25) [v4, a1, a2] h2 n3 fun v5 h6 n7 =>
 sG v5 true (fun k => yJ 2 v1 h6 k) fun v8 =>
 sGW v5 true (fun k => C.fn 27 (.of 27) [v8] h6 n7 k) h6 n7 fun v9 h10 n11 =>
 sG v5 true (fun k => sBin .eql .int v9 (I 0) k) fun v12 =>
 jL v5 v12 (.bool false) fun v13 =>
 sG v13 true (fun k => zN 0 v1 k) fun v14 =>
 sG v13 true (fun k => zA v14 h10 k) fun v15 =>
 sG v13 true (fun k => k a1) fun v16 =>
 sG v13 true (fun k => sBin .leq .int v15 v16 k) fun v17 =>
 jL v13 v17 (.bool false) fun v18 =>
 K0 v18 h10 n11 := by
 rw [zL F44.tab]; kernel_rfl
end Go.Ev
namespace Go.Ev
open Go Go.Proofs
set_option maxRecDepth 100000
variable {N : Nat} {C : Calls Prop} {K0 : Kw Prop} {K R : Ks Prop} {h : T Blk} {nx : Pa} {x0 x1 x2 x3 x4 x5 x6 x7 x8 a0 a1 : AV}
end Go.Ev
namespace Go.Ev
open Go Go.Proofs
set_option maxRecDepth 100000
variable {N : Nat} {C : Calls Prop} {K0 : Kw Prop} {K R : Ks Prop} {h : T Blk} {nx : Pa} {x0 x1 x2 x3 x4 x5 x6 x7 x8 x9 x10 a0 a1 : AV}
end Go.Ev
namespace Go.Ev
open Go Go.Proofs
set_option maxRecDepth 100000
variable {N : Nat} {C : Calls Prop} {K0 : Kw Prop} {K R : Ks Prop} {h : T Blk} {nx : Pa} {x0 x1 x2 x3 x4 x5 x6 x7 x8 x9 x10 x11 x12 x13 x14 x15 x16 x17 a0 a1 : AV}
theorem F38.g1_eq (X2 : IR) (C : Calls Prop) (N : Nat) (O : Outs Prop) (K : Ks Prop) (x0 x1 x2 x3 x4 x5 : AV) (h : T Blk) (nx : Pa) : IR.run (F38.g1 X2) C N O K (F38.fr x0 x1 x2 x3 x4 x5) h nx =
 IR.run X2 C N (O.blk 0 K) K (F38.fr x0 x1 x2 x3 x4 x5) h nx := by kernel_rfl
theorem F38.tab : T.get none (.of 38) tbl = some F38 := by kernel_rfl
theorem F38.go : zQ tbl N C (.of 38) [a0] h nx K0 =
 C.fn 85 (.of 85) [a0] h nx fun v1 h2 n3 =>
 IR.run F38.b1 C N (fnO F38.res K0) (IR.run F38.b8 C N (fnO F38.res K0) (retK F38.res K0)) (F38.fr a0 (.bool false) v1 (I 0) .undef .undef) h2 n3 := by
 rw [zL F38.tab]; kernel_rfl
theorem F38.e1 : IR.run F38.b3 C N ((fnO F38.res K0).blk 0 K) R (F38.fr x0 x1 x2 x3 x4 x5) h nx =
 sLen x2 fun v1 =>
 sBin .lss .int x3 v1 fun v2 =>
 zH v2 (zE 1 x2 x3 fun v3 =>
 zA v3 h fun v4 =>
 sBin .add .int x3 (I 1) fun v5 =>
 sBin .neq .int v4 v5 fun v6 =>
 zH v6 (K0 (.bool false) h nx) (sBin .add .int x3 (I 1) fun v7 =>
 R (F38.fr x0 x1 x2 v7 v2 v6) h nx)) (K (F38.fr x0 x1 x2 x3 v2 x5) h nx) := by kernel_rfl
theorem F38.L1 (Inv : Nat → AV → T Blk → Pa → Prop) {m : Nat} (hm : m < N) (hi : Inv m x3 h nx)
  (step : ∀ (m : Nat) (z1 z3 z4 z5 : AV) (h : T Blk) (nx : Pa) (R : Ks Prop), Inv m z3 h nx → (∀ (m' : Nat) (w1 w3 w4 w5 : AV) (h' : T Blk) (nx' : Pa), m' < m → Inv m' w3 h' nx' → R (F38.fr x0 w1 x2 w3 w4 w5) h' nx' = .ok True) →
   (sLen x2 fun v1 =>
 sBin .lss .int z3 v1 fun v2 =>
 zH v2 (zE 1 x2 z3 fun v3 =>
 zA v3 h fun v4 =>
 sBin .add .int z3 (I 1) fun v5 =>
 sBin .neq .int v4 v5 fun v6 =>
 zH v6 (K0 (.bool false) h nx) (sBin .add .int z3 (I 1) fun v7 =>
 R (F38.fr x0 z1 x2 v7 v2 v6) h nx)) (K (F38.fr x0 z1 x2 z3 v2 z5) h nx)) = .ok True) :
  IR.run F38.b1 C N (fnO F38.res K0) K (F38.fr x0 x1 x2 x3 x4 x5) h nx = .ok True := by
 rw [F38.b1, F38.g1_eq, F38.b2]
 refine zX (fun m tm h nx => ∃ z1 z3 z4 z5, tm = (F38.fr x0 z1 x2 z3 z4 z5) ∧ Inv m z3 h nx) ?_ hm ⟨_, _, _, _, rfl, hi⟩
 rintro m tm h nx R ⟨z1, z3, z4, z5, rfl, hi⟩ hR
 rw [F38.e1]
 exact step m z1 z3 z4 z5 h nx R hi fun m' w1 w3 w4 w5 h' nx' hlt hi' => hR m' _ h' nx' hlt ⟨_, _, _, _, rfl, hi'⟩
theorem F38.k8 : IR.run F38.b8 C N (fnO F38.res K0) K (F38.fr x0 x1 x2 x3 x4 x5) h nx =
 K0 (.bool true) h nx := by kernel_rfl
theorem F74.g1_eq (X2 : IR) (C : Calls Prop) (N : Nat) (O : Outs Prop) (K : Ks Prop) (x0 x1 x2 x3 x4 x5 : AV) (h : T Blk) (nx : Pa) : IR.run (F74.g1 X2) C N O K (F74.fr x0 x1 x2 x3 x4 x5) h nx =
 IR.run X2 C N (O.blk 0 K) K (F74.fr x0 x1 x2 x3 x4 x5) h nx := by kernel_rfl
theorem F74.tab : T.get none (.of 74) tbl = some F74 := by kernel_rfl
theorem F74.go : zQ tbl N C (.of 74) [a0, a1] h nx K0 =
 IR.run F74.b1 C N (fnO F74.res K0) (IR.run F74.b8 C N (fnO F74.res K0) (retK F74.res K0)) (F74.fr a0 a1 (.bool false) (I 0) .undef .undef) h nx := by
 rw [zL F74.tab]; kernel_rfl
theorem F74.e1 : IR.run F74.b3 C N ((fnO F74.res K0).blk 0 K) R (F74.fr x0 x1 x2 x3 x4 x5) h nx =
 sLen x0 fun v1 =>
 sBin .lss .int x3 v1 fun v2 =>
 sG v2 true (fun k => k x3) fun v3 =>
 sG v2 true (fun k => k x1) fun v4 =>
 sG v2 true (fun k => sLen v4 k) fun v5 =>
 sG v2 true (fun k => sBin .lss .int v3 v5 k) fun v6 =>
 jL v2 v6 (.bool false) fun v7 =>
 zH v7 ((IR.run F74.b4 C N ((fnO F74.res K0).blk 0 K) R) (F74.fr x0 x1 x2 x3 v7 x5) h nx) (K (F74.fr x0 x1 x2 x3 v7 x5) h nx) := by kernel_rfl
theorem F74.L1 (Inv : Nat → AV → T Blk → Pa → Prop) {m : Nat} (hm : m < N) (hi : Inv m x3 h nx)
  (step : ∀ (m : Nat) (z2 z3 z4 z5 : AV) (h : T Blk) (nx : Pa) (R : Ks Prop), Inv m z3 h nx → (∀ (m' : Nat) (w2 w3 w4 w5 : AV) (h' : T Blk) (nx' : Pa), m' < m → Inv m' w3 h' nx' → R (F74.fr x0 x1 w2 w3 w4 w5) h' nx' = .ok True) →
   (sLen x0 fun v1 =>
 sBin .lss .int z3 v1 fun v2 =>
 sG v2 true (fun k => k z3) fun v3 =>
 sG v2 true (fun k => k x1) fun v4 =>
 sG v2 true (fun k => sLen v4 k) fun v5 =>
 sG v2 true (fun k => sBin .lss .int v3 v5 k) fun v6 =>
 jL v2 v6 (.bool false) fun v7 =>
 zH v7 ((IR.run F74.b4 C N ((fnO F74.res K0).blk 0 K) R) (F74.fr x0 x1 z2 z3 v7 z5) h nx) (K (F74.fr x0 x1 z2 z3 v7 z5) h nx)) = .ok True) :
  IR.run F74.b1 C N (fnO F74.res K0) K (F74.fr x0 x1 x2 x3 x4 x5) h nx = .ok True := by
 rw [F74.b1, F74.g1_eq, F74.b2]
 refine zX (fun m tm h nx => ∃ z2 z3 z4 z5, tm = (F74.fr x0 x1 z2 z3 z4 z5) ∧ Inv m z3 h nx) ?_ hm ⟨_, _, _, _, rfl, hi⟩
 rintro m tm h nx R ⟨z2, z3, z4, z5, rfl, hi⟩ hR
 rw [F74.e1]
 exact step m z2 z3 z4 z5 h nx R hi fun m' w2 w3 w4 w5 h' nx' hlt hi' => hR m' _ h' nx' hlt ⟨_, _, _, _, rfl, hi'⟩
theorem F74.k8 : IR.run F74.b8 C N (fnO F74.res K0) K (F74.fr x0 x1 x2 x3 x4 x5) h nx =
 sLen x0 fun v1 =>
 sLen x1 fun v2 =>
 sBin .lss .int v1 v2 fun v3 =>
 K0 v3 h nx := by kernel_rfl
theorem F74.k4 {E0 : Ks Prop} : IR.run F74.b4 C N ((fnO F74.res K0).blk 0 E0) K (F74.fr x0 x1 x2 x3 x4 x5) h nx =
 zE 1 x0 x3 fun v1 =>
 zA v1 h fun v2 =>
 zE 1 x1 x3 fun v3 =>
 zA v3 h fun v4 =>
 sBin .neq .int v2 v4 fun v5 =>
 zH v5 (zE 1 x0 x3 fun v6 =>
 zA v6 h fun v7 =>
 zE 1 x1 x3 fun v8 =>
 zA v8 h fun v9 =>
 sBin .lss .int v7 v9 fun v10 =>
 K0 v10 h nx) (sBin .add .int x3 (I 1) fun v11 =>
 K (F74.fr x0 x1 x2 v11 x4 v5) h nx) := by kernel_rfl
end Go.Ev
namespace Go.Ev
open Go Go.Proofs
set_option maxRecDepth 100000
variable {N : Nat} {C : Calls Prop} {K0 : Kw Prop} {K R : Ks Prop} {h : T Blk} {nx : Pa} {x0 x1 x2 x3 x4 x5 x6 x7 x8 x9 x10 x11 x12 x13 x14 x15 x16 x17 x18 x19 x20 x21 x22 x23 x24 x25 x26 x27 x28 x29 x30 x31 x32 x33 x34 x35 x36 x37 a0 a1 a2 : AV}
end Go.Ev
namespace Go.Ev
open Go Go.Proofs
set_option maxRecDepth 100000
variable {N : Nat} {C : Calls Prop} {K0 : Kw Prop} {K R : Ks Prop} {h : T Blk} {nx : Pa} {x0 x1 x2 x3 x4 x5 x6 x7 x8 x9 x10 x11 x12 x13 x14 x15 x16 x17 x18 x19 x20 x21 x22 x23 x24 x25 x26 x27 x28 x29 x30 a0 : AV}
theorem F17.g12_eq (X13 : IR) (C : Calls Prop) (N : Nat) (O : Outs Prop) (K : Ks Prop) (x0 x1 x2 x3 x4 x5 x6 x7 x8 x9 x10 x11 x12 x13 x14 x15 x16 x17 x18 x19 x20 x21 x22 x23 x24 x25 x26 x27 x28 x29 x30 : AV) (h : T Blk) (nx : Pa) : IR.run (F17.g12 X13) C N O K (F17.fr x0 x1 x2 x3 x4 x5 x6 x7 x8 x9 x10 x11 x12 x13 x14 x15 x16 x17 x18 x19 x20 x21 x22 x23 x24 x25 x26 x27 x28 x29 x30) h nx =
 IR.run X13 C N (O.blk 2 K) K (F17.fr x0 x1 x2 x3 x4 x5 x6 x7 x8 x9 x10 x11 x12 x13 x14 x15 x16 x17 x18 x19 x20 x21 x22 x23 x24 x25 x26 x27 x28 x29 x30) h nx := by kernel_rfl
theorem F17.g26_eq (X27 : IR) (C : Calls Prop) (N : Nat) (O : Outs Prop) (K : Ks Prop) (x0 x1 x2 x3 x4 x5 x6 x7 x8 x9 x10 x11 x12 x13 x14 x15 x16 x17 x18 x19 x20 x21 x22 x23 x24 x25 x26 x27 x28 x29 x30 : AV) (h : T Blk) (nx : Pa) : IR.run (F17.g26 X27) C N O K (F17.fr x0 x1 x2 x3 x4 x5 x6 x7 x8 x9 x10 x11 x12 x13 x14 x15 x16 x17 x18 x19 x20 x21 x22 x23 x24 x25 x26 x27 x28 x29 x30) h nx =
 IR.run X27 C N (O.blk 6 K) K (F17.fr x0 x1 x2 x3 x4 x5 x6 x7 x8 x9 x10 x11 x12 x13 x14 x15 x16 x17 x18 x19 x20 x21 x22 x23 x24 x25 x26 x27 x28 x29 x30) h nx := by kernel_rfl
theorem F17.g20_eq (X21 : IR) (C : Calls Prop) (N : Nat) (O : Outs Prop) (K : Ks Prop) (x0 x1 x2 x3 x4 x5 x6 x7 x8 x9 x10 x11 x12 x13 x14 x15 x16 x17 x18 x19 x20 x21 x22 x23 x24 x25 x26 x27 x28 x29 x30 : AV) (h : T Blk) (nx : Pa) : IR.run (F17.g20 X21) C N O K (F17.fr x0 x1 x2 x3 x4 x5 x6 x7 x8 x9 x10 x11 x12 x13 x14 x15 x16 x17 x18 x19 x20 x21 x22 x23 x24 x25 x26 x27 x28 x29 x30) h nx =
 IR.run X21 C N (O.blk 4 K) K (F17.fr x0 x1 x2 x3 x4 x5 x6 x7 x8 x9 x10 x11 x12 x13 x14 x15 x16 x17 x18 x19 x20 x21 x22 x23 x24 x25 x26 x27 x28 x29 x30) h nx := by kernel_rfl
theorem F17.g3_eq (X4 : IR) (C : Calls Prop) (N : Nat) (O : Outs Prop) (K : Ks Prop) (x0 x1 x2 x3 x4 x5 x6 x7 x8 x9 x10 x11 x12 x13 x14 x15 x16 x17 x18 x19 x20 x21 x22 x23 x24 x25 x26 x27 x28 x29 x30 : AV) (h : T Blk) (nx : Pa) : IR.run (F17.g3 X4) C N O K (F17.fr x0 x1 x2 x3 x4 x5 x6 x7 x8 x9 x10 x11 x12 x13 x14 x15 x16 x17 x18 x19 x20 x21 x22 x23 x24 x25 x26 x27 x28 x29 x30) h nx =
 IR.run X4 C N (O.blk 0 K) K (F17.fr x0 x1 x2 x3 x4 x5 x6 x7 x8 x9 x10 x11 x12 x13 x14 x15 x16 x17 x18 x19 x20 x21 x22 x23 x24 x25 x26 x27 x28 x29 x30) h nx := by kernel_rfl
noncomputable def F17.r11 : List (RO × Nat × List WO) := [(.p .push (some ((.s 14), false)) (.pick (.s 11) (.s 0) (.c (.bool false))), 0, []), (.q (.of 27) (.pick (.s 15) (.c (.bool true)) (.s 0)), 0, [])]
noncomputable def F17.r10 : List (RO × Nat × List WO) := [(.p .push (some ((.s 0), true)) (.mv (.t (.of 12))), 0, []), (.p .push (some ((.s 1), true)) (.mv (.t (.of 16))), 0, []), (.p .push (some ((.s 2), true)) (.bin .sub .int (.s 0) (.c (I 1))), 0, []), (.p .push (some ((.s 3), true)) (.iaddr 1 (.s 2) (.s 0)), 0, []), (.p .push (some ((.s 4), true)) (.load (.s 0)), 0, []), (.p .push (some ((.s 5), true)) (.mv (.t (.of 12))), 0, []), (.p .push (some ((.s 6), true)) (.mv (.t (.of 16))), 0, []), (.p .push (some ((.s 7), true)) (.iaddr 1 (.s 1) (.s 0)), 0, []), (.p .push (some ((.s 8), true)) (.load (.s 0)), 0, []), (.w .push (some ((.s 9), true)) (.call (.c (.fn 74 (.of 74) [])) [(.s 4), (.s 0)]), 0, []), (.p .push (some ((.s 10), true)) (.not (.s 0)), 0, []), (.p .push (some ((.s 14), false)) (.pick (.s 11) (.s 0) (.c (.bool false))), 0, []), (.q (.of 27) (.pick (.s 15) (.c (.bool true)) (.s 0)), 0, [])]
noncomputable def F17.r9 : List (RO × Nat × List WO) := [(.p .push (some ((.s 0), false)) (.mv (.t (.of 16))), 0, []), (.p .push (some ((.s 1), false)) (.bin .gtr .int (.s 0) (.c (I 0))), 0, []), (.p .push (some ((.s 2), false)) (.mv (.s 0)), 0, []), (.p .push (some ((.s 0), true)) (.mv (.t (.of 12))), 0, []), (.p .push (some ((.s 1), true)) (.mv (.t (.of 16))), 0, []), (.p .push (some ((.s 2), true)) (.bin .sub .int (.s 0) (.c (I 1))), 0, []), (.p .push (some ((.s 3), true)) (.iaddr 1 (.s 2) (.s 0)), 0, []), (.p .push (some ((.s 4), true)) (.load (.s 0)), 0, []), (.p .push (some ((.s 5), true)) (.mv (.t (.of 12))), 0, []), (.p .push (some ((.s 6), true)) (.mv (.t (.of 16))), 0, []), (.p .push (some ((.s 7), true)) (.iaddr 1 (.s 1) (.s 0)), 0, []), (.p .push (some ((.s 8), true)) (.load (.s 0)), 0, []), (.w .push (some ((.s 9), true)) (.call (.c (.fn 74 (.of 74) [])) [(.s 4), (.s 0)]), 0, []), (.p .push (some ((.s 10), true)) (.not (.s 0)), 0, []), (.p .push (some ((.s 14), false)) (.pick (.s 11) (.s 0) (.c (.bool false))), 0, []), (.q (.of 27) (.pick (.s 15) (.c (.bool true)) (.s 0)), 0, [])]
noncomputable def F17.r8 : List (RO × Nat × List WO) := [(.p .push (some ((.s 0), false)) (.loadN 2 (.t (.of 1))), 0, []), (.p .push (some ((.s 1), false)) (.mv (.t (.of 12))), 0, []), (.p .push (some ((.s 2), false)) (.mv (.t (.of 16))), 0, []), (.p .push (some ((.s 3), false)) (.iaddr 1 (.s 1) (.s 0)), 0, []), (.p .push (some ((.s 4), false)) (.load (.s 0)), 0, []), (.p .push (some ((.s 5), false)) (.mv (.t (.of 5))), 1, []), (.p .push (some ((.s 6), false)) (.mv (.t (.of 11))), 1, []), (.p .push (some ((.s 7), false)) (.iaddr 2 (.s 1) (.s 0)), 1, []), (.p .push (some ((.s 8), false)) (.aaddr 1 2 (.s 0) (.c (I 0))), 1, []), (.p .push (some ((.s 9), false)) (.load (.s 0)), 1, []), (.w .push (some ((.s 10), false)) (.call (.c (.fn 73 (.of 73) [])) [(.s 9), (.s 5)]), 0, []), (.p .push (some ((.s 11), false)) (.iaddr 1 (.s 0) (.c (I 0))), 0, []), (.p .push (some ((.s 12), false)) (.load (.s 0)), 0, []), (.p .push (some ((.s 13), false)) (.bin .neq .int (.s 0) (.s 3)), 0, []), (.s (.pick (.s 14) (.c (.bool true)) (.s 0)), 0, []), (.s (.mv (.s 0)), 0, []), (.p .push (some ((.s 0), false)) (.mv (.t (.of 16))), 0, []), (.p .push (some ((.s 1), false)) (.bin .gtr .int (.s 0) (.c (I 0))), 0, []), (.p .push (some ((.s 2), false)) (.mv (.s 0)), 0, []), (.p .push (some ((.s 0), true)) (.mv (.t (.of 12))), 0, []), (.p .push (some ((.s 1), true)) (.mv (.t (.of 16))), 0, []), (.p .push (some ((.s 2), true)) (.bin .sub .int (.s 0) (.c (I 1))), 0, []), (.p .push (some ((.s 3), true)) (.iaddr 1 (.s 2) (.s 0)), 0, []), (.p .push (some ((.s 4), true)) (.load (.s 0)), 0, []), (.p .push (some ((.s 5), true)) (.mv (.t (.of 12))), 0, []), (.p .push (some ((.s 6), true)) (.mv (.t (.of 16))), 0, []), (.p .push (some ((.s 7), true)) (.iaddr 1 (.s 1) (.s 0)), 0, []), (.p .push (some ((.s 8), true)) (.load (.s 0)), 0, []), (.w .push (some ((.s 9), true)) (.call (.c (.fn 74 (.of 74) [])) [(.s 4), (.s 0)]), 0, []), (.p .push (some ((.s 10), true)) (.not (.s 0)), 0, []), (.p .push (some ((.s 14), false)) (.pick (.s 11) (.s 0) (.c (.bool false))), 0, []), (.q (.of 27) (.pick (.s 15) (.c (.bool true)) (.s 0)), 0, [])]
noncomputable def F17.r7 : List (RO × Nat × List WO) := [(.p .push (some ((.s 0), false)) (.loadN 2 (.t (.of 1))), 0, []), (.p .push (some ((.s 1), false)) (.mv (.t (.of 12))), 0, []), (.p .push (some ((.s 2), false)) (.mv (.t (.of 16))), 0, []), (.p .push (some ((.s 3), false)) (.iaddr 1 (.s 1) (.s 0)), 0, []), (.p .push (some ((.s 4), false)) (.load (.s 0)), 0, []), (.w .push (some ((.s 5), false)) (.call (.c (.fn 72 (.of 72) [])) [(.s 4), (.s 0)]), 0, []), (.p .push (some ((.s 6), false)) (.not (.s 0)), 0, []), (.s (.pick (.s 7) (.c (.bool true)) (.s 0)), 0, []), (.s (.mv (.s 0)), 0, []), (.p .push (some ((.s 0), false)) (.loadN 2 (.t (.of 1))), 0, []), (.p .push (some ((.s 1), false)) (.mv (.t (.of 12))), 0, []), (.p .push (some ((.s 2), false)) (.mv (.t (.of 16))), 0, []), (.p .push (some ((.s 3), false)) (.iaddr 1 (.s 1) (.s 0)), 0, []), (.p .push (some ((.s 4), false)) (.load (.s 0)), 0, []), (.p .push (some ((.s 5), false)) (.mv (.t (.of 5))), 1, []), (.p .push (some ((.s 6), false)) (.mv (.t (.of 11))), 1, []), (.p .push (some ((.s 7), false)) (.iaddr 2 (.s 1) (.s 0)), 1, []), (.p .push (some ((.s 8), false)) (.aaddr 1 2 (.s 0) (.c (I 0))), 1, []), (.p .push (some ((.s 9), false)) (.load (.s 0)), 1, []), (.w .push (some ((.s 10), false)) (.call (.c (.fn 73 (.of 73) [])) [(.s 9), (.s 5)]), 0, []), (.p .push (some ((.s 11), false)) (.iaddr 1 (.s 0) (.c (I 0))), 0, []), (.p .push (some ((.s 12), false)) (.load (.s 0)), 0, []), (.p .push (some ((.s 13), false)) (.bin .neq .int (.s 0) (.s 3)), 0, []), (.s (.pick (.s 14) (.c (.bool true)) (.s 0)), 0, []), (.s (.mv (.s 0)), 0, []), (.p .push (some ((.s 0), false)) (.mv (.t (.of 16))), 0, []), (.p .push (some ((.s 1), false)) (.bin .gtr .int (.s 0) (.c (I 0))), 0, []), (.p .push (some ((.s 2), false)) (.mv (.s 0)), 0, []), (.p .push (some ((.s 0), true)) (.mv (.t (.of 12))), 0, []), (.p .push (some ((.s 1), true)) (.mv (.t (.of 16))), 0, []), (.p .push (some ((.s 2), true)) (.bin .sub .int (.s 0) (.c (I 1))), 0, []), (.p .push (some ((.s 3), true)) (.iaddr 1 (.s 2) (.s 0)), 0, []), (.p .push (some ((.s 4), true)) (.load (.s 0)), 0, []), (.p .push (some ((.s 5), true)) (.mv (.t (.of 12))), 0, []), (.p .push (some ((.s 6), true)) (.mv (.t (.of 16))), 0, []), (.p .push (some ((.s 7), true)) (.iaddr 1 (.s 1) (.s 0)), 0, []), (.p .push (some ((.s 8), true)) (.load (.s 0)), 0, []), (.w .push (some ((.s 9), true)) (.call (.c (.fn 74 (.of 74) [])) [(.s 4), (.s 0)]), 0, []), (.p .push (some ((.s 10), true)) (.not (.s 0)), 0, []), (.p .push (some ((.s 14), false)) (.pick (.s 11) (.s 0) (.c (.bool false))), 0, []), (.q (.of 27) (.pick (.s 15) (.c (.bool true)) (.s 0)), 0, [])]
noncomputable def F17.r6 : List (RO × Nat × List WO) := [(.p .push (some ((.s 0), false)) (.loadN 2 (.t (.of 1))), 0, []), (.p .push (some ((.s 1), false)) (.mv (.t (.of 12))), 0, []), (.p .push (some ((.s 2), false)) (.mv (.t (.of 16))), 0, []), (.p .push (some ((.s 3), false)) (.iaddr 1 (.s 1) (.s 0)), 0, []), (.p .push (some ((.s 4), false)) (.load (.s 0)), 0, []), (.w .push (some ((.s 5), false)) (.call (.c (.fn 71 (.of 71) [])) [(.s 4), (.s 0)]), 0, []), (.p .push (some ((.s 6), false)) (.bin .neq .int (.s 0) (.c (I 0))), 0, []), (.s (.pick (.s 7) (.c (.bool true)) (.s 0)), 0, []), (.s (.mv (.s 0)), 0, []), (.p .push (some ((.s 0), false)) (.loadN 2 (.t (.of 1))), 0, []), (.p .push (some ((.s 1), false)) (.mv (.t (.of 12))), 0, []), (.p .push (some ((.s 2), false)) (.mv (.t (.of 16))), 0, []), (.p .push (some ((.s 3), false)) (.iaddr 1 (.s 1) (.s 0)), 0, []), (.p .push (some ((.s 4), false)) (.load (.s 0)), 0, []), (.w .push (some ((.s 5), false)) (.call (.c (.fn 72 (.of 72) [])) [(.s 4), (.s 0)]), 0, []), (.p .push (some ((.s 6), false)) (.not (.s 0)), 0, []), (.s (.pick (.s 7) (.c (.bool true)) (.s 0)), 0, []), (.s (.mv (.s 0)), 0, []), (.p .push (some ((.s 0), false)) (.loadN 2 (.t (.of 1))), 0, []), (.p .push (some ((.s 1), false)) (.mv (.t (.of 12))), 0, []), (.p .push (some ((.s 2), false)) (.mv (.t (.of 16))), 0, []), (.p .push (some ((.s 3), false)) (.iaddr 1 (.s 1) (.s 0)), 0, []), (.p .push (some ((.s 4), false)) (.load (.s 0)), 0, []), (.p .push (some ((.s 5), false)) (.mv (.t (.of 5))), 1, []), (.p .push (some ((.s 6), false)) (.mv (.t (.of 11))), 1, []), (.p .push (some ((.s 7), false)) (.iaddr 2 (.s 1) (.s 0)), 1, []), (.p .push (some ((.s 8), false)) (.aaddr 1 2 (.s 0) (.c (I 0))), 1, []), (.p .push (some ((.s 9), false)) (.load (.s 0)), 1, []), (.w .push (some ((.s 10), false)) (.call (.c (.fn 73 (.of 73) [])) [(.s 9), (.s 5)]), 0, []), (.p .push (some ((.s 11), false)) (.iaddr 1 (.s 0) (.c (I 0))), 0, []), (.p .push (some ((.s 12), false)) (.load (.s 0)), 0, []), (.p .push (some ((.s 13), false)) (.bin .neq .int (.s 0) (.s 3)), 0, []), (.s (.pick (.s 14) (.c (.bool true)) (.s 0)), 0, []), (.s (.mv (.s 0)), 0, []), (.p .push (some ((.s 0), false)) (.mv (.t (.of 16))), 0, []), (.p .push (some ((.s 1), false)) (.bin .gtr .int (.s 0) (.c (I 0))), 0, []), (.p .push (some ((.s 2), false)) (.mv (.s 0)), 0, []), (.p .push (some ((.s 0), true)) (.mv (.t (.of 12))), 0, []), (.p .push (some ((.s 1), true)) (.mv (.t (.of 16))), 0, []), (.p .push (some ((.s 2), true)) (.bin .sub .int (.s 0) (.c (I 1))), 0, []), (.p .push (some ((.s 3), true)) (.iaddr 1 (.s 2) (.s 0)), 0, []), (.p .push (some ((.s 4), true)) (.load (.s 0)), 0, []), (.p .push (some ((.s 5), true)) (.mv (.t (.of 12))), 0, []), (.p .push (some ((.s 6), true)) (.mv (.t (.of 16))), 0, []), (.p .push (some ((.s 7), true)) (.iaddr 1 (.s 1) (.s 0)), 0, []), (.p .push (some ((.s 8), true)) (.load (.s 0)), 0, []), (.w .push (some ((.s 9), true)) (.call (.c (.fn 74 (.of 74) [])) [(.s 4), (.s 0)]), 0, []), (.p .push (some ((.s 10), true)) (.not (.s 0)), 0, []), (.p .push (some ((.s 14), false)) (.pick (.s 11) (.s 0) (.c (.bool false))), 0, []), (.q (.of 27) (.pick (.s 15) (.c (.bool true)) (.s 0)), 0, [])]
noncomputable def F17.r5 : List (RO × Nat × List WO) := [(.p .push (some ((.s 0), false)) (.mv (.t (.of 12))), 0, []), (.p .push (some ((.s 1), false)) (.mv (.t (.of 16))), 0, []), (.p .push (some ((.s 2), false)) (.iaddr 1 (.s 1) (.s 0)), 0, []), (.p .push (some ((.s 3), false)) (.load (.s 0)), 0, []), (.w .push (some ((.s 4), false)) (.call (.c (.fn 38 (.of 38) [])) [(.s 0)]), 0, []), (.p .push (some ((.s 5), false)) (.not (.s 0)), 0, []), (.s (.pick (.s 6) (.c (.bool true)) (.s 0)), 0, []), (.s (.mv (.s 0)), 0, []), (.p .push (some ((.s 0), false)) (.loadN 2 (.t (.of 1))), 0, []), (.p .push (some ((.s 1), false)) (.mv (.t (.of 12))), 0, []), (.p .push (some ((.s 2), false)) (.mv (.t (.of 16))), 0, []), (.p .push (some ((.s 3), false)) (.iaddr 1 (.s 1) (.s 0)), 0, []), (.p .push (some ((.s 4), false)) (.load (.s 0)), 0, []), (.w .push (some ((.s 5), false)) (.call (.c (.fn 71 (.of 71) [])) [(.s 4), (.s 0)]), 0, []), (.p .push (some ((.s 6), false)) (.bin .neq .int (.s 0) (.c (I 0))), 0, []), (.s (.pick (.s 7) (.c (.bool true)) (.s 0)), 0, []), (.s (.mv (.s 0)), 0, []), (.p .push (some ((.s 0), false)) (.loadN 2 (.t (.of 1))), 0, []), (.p .push (some ((.s 1), false)) (.mv (.t (.of 12))), 0, []), (.p .push (some ((.s 2), false)) (.mv (.t (.of 16))), 0, []), (.p .push (some ((.s 3), false)) (.iaddr 1 (.s 1) (.s 0)), 0, []), (.p .push (some ((.s 4), false)) (.load (.s 0)), 0, []), (.w .push (some ((.s 5), false)) (.call (.c (.fn 72 (.of 72) [])) [(.s 4), (.s 0)]), 0, []), (.p .push (some ((.s 6), false)) (.not (.s 0)), 0, []), (.s (.pick (.s 7) (.c (.bool true)) (.s 0)), 0, []), (.s (.mv (.s 0)), 0, []), (.p .push (some ((.s 0), false)) (.loadN 2 (.t (.of 1))), 0, []), (.p .push (some ((.s 1), false)) (.mv (.t (.of 12))), 0, []), (.p .push (some ((.s 2), false)) (.mv (.t (.of 16))), 0, []), (.p .push (some ((.s 3), false)) (.iaddr 1 (.s 1) (.s 0)), 0, []), (.p .push (some ((.s 4), false)) (.load (.s 0)), 0, []), (.p .push (some ((.s 5), false)) (.mv (.t (.of 5))), 1, []), (.p .push (some ((.s 6), false)) (.mv (.t (.of 11))), 1, []), (.p .push (some ((.s 7), false)) (.iaddr 2 (.s 1) (.s 0)), 1, []), (.p .push (some ((.s 8), false)) (.aaddr 1 2 (.s 0) (.c (I 0))), 1, []), (.p .push (some ((.s 9), false)) (.load (.s 0)), 1, []), (.w .push (some ((.s 10), false)) (.call (.c (.fn 73 (.of 73) [])) [(.s 9), (.s 5)]), 0, []), (.p .push (some ((.s 11), false)) (.iaddr 1 (.s 0) (.c (I 0))), 0, []), (.p .push (some ((.s 12), false)) (.load (.s 0)), 0, []), (.p .push (some ((.s 13), false)) (.bin .neq .int (.s 0) (.s 3)), 0, []), (.s (.pick (.s 14) (.c (.bool true)) (.s 0)), 0, []), (.s (.mv (.s 0)), 0, []), (.p .push (some ((.s 0), false)) (.mv (.t (.of 16))), 0, []), (.p .push (some ((.s 1), false)) (.bin .gtr .int (.s 0) (.c (I 0))), 0, []), (.p .push (some ((.s 2), false)) (.mv (.s 0)), 0, []), (.p .push (some ((.s 0), true)) (.mv (.t (.of 12))), 0, []), (.p .push (some ((.s 1), true)) (.mv (.t (.of 16))), 0, []), (.p .push (some ((.s 2), true)) (.bin .sub .int (.s 0) (.c (I 1))), 0, []), (.p .push (some ((.s 3), true)) (.iaddr 1 (.s 2) (.s 0)), 0, []), (.p .push (some ((.s 4), true)) (.load (.s 0)), 0, []), (.p .push (some ((.s 5), true)) (.mv (.t (.of 12))), 0, []), (.p .push (some ((.s 6), true)) (.mv (.t (.of 16))), 0, []), (.p .push (some ((.s 7), true)) (.iaddr 1 (.s 1) (.s 0)), 0, []), (.p .push (some ((.s 8), true)) (.load (.s 0)), 0, []), (.w .push (some ((.s 9), true)) (.call (.c (.fn 74 (.of 74) [])) [(.s 4), (.s 0)]), 0, []), (.p .push (some ((.s 10), true)) (.not (.s 0)), 0, []), (.p .push (some ((.s 14), false)) (.pick (.s 11) (.s 0) (.c (.bool false))), 0, []), (.q (.of 27) (.pick (.s 15) (.c (.bool true)) (.s 0)), 0, [])]
noncomputable def F17.r4 : List (RO × Nat × List WO) := [(.p .push (some ((.s 15), false)) (.pick (.s 12) (.s 0) (.c (.bool false))), 0, []), (.q (.of 23) (.pick (.s 16) (.c (.bool true)) (.s 0)), 0, [])]
noncomputable def F17.r3 : List (RO × Nat × List WO) := [(.p .push (some ((.s 0), true)) (.mv (.t (.of 5))), 0, []), (.p .push (some ((.s 1), true)) (.mv (.t (.of 11))), 0, []), (.p .push (some ((.s 2), true)) (.iaddr 2 (.s 1) (.s 0)), 0, []), (.p .push (some ((.s 3), true)) (.aaddr 1 2 (.s 0) (.c (I 0))), 0, []), (.p .push (some ((.s 4), true)) (.load (.s 0)), 0, []), (.p .push (some ((.s 5), true)) (.mv (.t (.of 5))), 0, []), (.p .push (some ((.s 6), true)) (.mv (.t (.of 11))), 0, []), (.p .push (some ((.s 7), true)) (.bin .sub .int (.s 0) (.c (I 1))), 0, []), (.p .push (some ((.s 8), true)) (.iaddr 2 (.s 2) (.s 0)), 0, []), (.p .push (some ((.s 9), true)) (.aaddr 1 2 (.s 0) (.c (I 0))), 0, []), (.p .push (some ((.s 10), true)) (.load (.s 0)), 0, []), (.p .push (some ((.s 11), true)) (.bin .leq .int (.s 6) (.s 0)), 0, []), (.p .push (some ((.s 15), false)) (.pick (.s 12) (.s 0) (.c (.bool false))), 0, []), (.q (.of 23) (.pick (.s 16) (.c (.bool true)) (.s 0)), 0, [])]
noncomputable def F17.r2 : List (RO × Nat × List WO) := [(.p .push (some ((.s 0), false)) (.mv (.t (.of 11))), 0, []), (.p .push (some ((.s 1), false)) (.bin .gtr .int (.s 0) (.c (I 0))), 0, []), (.p .push (some ((.s 2), false)) (.mv (.s 0)), 0, []), (.p .push (some ((.s 0), true)) (.mv (.t (.of 5))), 0, []), (.p .push (some ((.s 1), true)) (.mv (.t (.of 11))), 0, []), (.p .push (some ((.s 2), true)) (.iaddr 2 (.s 1) (.s 0)), 0, []), (.p .push (some ((.s 3), true)) (.aaddr 1 2 (.s 0) (.c (I 0))), 0, []), (.p .push (some ((.s 4), true)) (.load (.s 0)), 0, []), (.p .push (some ((.s 5), true)) (.mv (.t (.of 5))), 0, []), (.p .push (some ((.s 6), true)) (.mv (.t (.of 11))), 0, []), (.p .push (some ((.s 7), true)) (.bin .sub .int (.s 0) (.c (I 1))), 0, []), (.p .push (some ((.s 8), true)) (.iaddr 2 (.s 2) (.s 0)), 0, []), (.p .push (some ((.s 9), true)) (.aaddr 1 2 (.s 0) (.c (I 0))), 0, []), (.p .push (some ((.s 10), true)) (.load (.s 0)), 0, []), (.p .push (some ((.s 11), true)) (.bin .leq .int (.s 6) (.s 0)), 0, []), (.p .push (some ((.s 15), false)) (.pick (.s 12) (.s 0) (.c (.bool false))), 0, []), (.q (.of 23) (.pick (.s 16) (.c (.bool true)) (.s 0)), 0, [])]
noncomputable def F17.r1 : List (RO × Nat × List WO) := [(.p .push (some ((.s 0), false)) (.mv (.t (.of 5))), 0, []), (.p .push (some ((.s 1), false)) (.mv (.t (.of 11))), 0, []), (.p .push (some ((.s 2), false)) (.iaddr 2 (.s 1) (.s 0)), 0, []), (.p .push (some ((.s 3), false)) (.aaddr 1 2 (.s 0) (.c (I 1))), 0, []), (.p .push (some ((.s 4), false)) (.load (.s 0)), 0, []), (.p .push (some ((.s 5), false)) (.bin .lss .int (.s 0) (.c (I 1))), 0, []), (.s (.pick (.s 6) (.c (.bool true)) (.s 0)), 0, []), (.s (.mv (.s 0)), 0, []), (.p .push (some ((.s 0), false)) (.mv (.t (.of 11))), 0, []), (.p .push (some ((.s 1), false)) (.bin .gtr .int (.s 0) (.c (I 0))), 0, []), (.p .push (some ((.s 2), false)) (.mv (.s 0)), 0, []), (.p .push (some ((.s 0), true)) (.mv (.t (.of 5))), 0, []), (.p .push (some ((.s 1), true)) (.mv (.t (.of 11))), 0, []), (.p .push (some ((.s 2), true)) (.iaddr 2 (.s 1) (.s 0)), 0, []), (.p .push (some ((.s 3), true)) (.aaddr 1 2 (.s 0) (.c (I 0))), 0, []), (.p .push (some ((.s 4), true)) (.load (.s 0)), 0, []), (.p .push (some ((.s 5), true)) (.mv (.t (.of 5))), 0, []), (.p .push (some ((.s 6), true)) (.mv (.t (.of 11))), 0, []), (.p .push (some ((.s 7), true)) (.bin .sub .int (.s 0) (.c (I 1))), 0, []), (.p .push (some ((.s 8), true)) (.iaddr 2 (.s 2) (.s 0)), 0, []), (.p .push (some ((.s 9), true)) (.aaddr 1 2 (.s 0) (.c (I 0))), 0, []), (.p .push (some ((.s 10), true)) (.load (.s 0)), 0, []), (.p .push (some ((.s 11), true)) (.bin .leq .int (.s 6) (.s 0)), 0, []), (.p .push (some ((.s 15), false)) (.pick (.s 12) (.s 0) (.c (.bool false))), 0, []), (.q (.of 23) (.pick (.s 16) (.c (.bool true)) (.s 0)), 0, [])]
noncomputable def F17.r0 : List (RO × Nat × List WO) := [(.p .push (some ((.s 0), false)) (.mv (.t (.of 5))), 0, []), (.p .push (some ((.s 1), false)) (.mv (.t (.of 11))), 0, []), (.p .push (some ((.s 2), false)) (.iaddr 2 (.s 1) (.s 0)), 0, []), (.p .push (some ((.s 3), false)) (.aaddr 1 2 (.s 0) (.c (I 0))), 0, []), (.p .push (some ((.s 4), false)) (.load (.s 0)), 0, []), (.p .push (some ((.s 5), false)) (.mv (.t (.of 8))), 0, []), (.p .push (some ((.s 6), false)) (.bin .gtr .int (.s 1) (.s 0)), 0, []), (.s (.pick (.s 7) (.c (.bool true)) (.s 0)), 0, []), (.s (.mv (.s 0)), 0, []), (.p .push (some ((.s 0), false)) (.mv (.t (.of 5))), 0, []), (.p .push (some ((.s 1), false)) (.mv (.t (.of 11))), 0, []), (.p .push (some ((.s 2), false)) (.iaddr 2 (.s 1) (.s 0)), 0, []), (.p .push (some ((.s 3), false)) (.aaddr 1 2 (.s 0) (.c (I 1))), 0, []), (.p .push (some ((.s 4), false)) (.load (.s 0)), 0, []), (.p .push (some ((.s 5), false)) (.bin .lss .int (.s 0) (.c (I 1))), 0, []), (.s (.pick (.s 6) (.c (.bool true)) (.s 0)), 0, []), (.s (.mv (.s 0)), 0, []), (.p .push (some ((.s 0), false)) (.mv (.t (.of 11))), 0, []), (.p .push (some ((.s 1), false)) (.bin .gtr .int (.s 0) (.c (I 0))), 0, []), (.p .push (some ((.s 2), false)) (.mv (.s 0)), 0, []), (.p .push (some ((.s 0), true)) (.mv (.t (.of 5))), 0, []), (.p .push (some ((.s 1), true)) (.mv (.t (.of 11))), 0, []), (.p .push (some ((.s 2), true)) (.iaddr 2 (.s 1) (.s 0)), 0, []), (.p .push (some ((.s 3), true)) (.aaddr 1 2 (.s 0) (.c (I 0))), 0, []), (.p .push (some ((.s 4), true)) (.load (.s 0)), 0, []), (.p .push (some ((.s 5), true)) (.mv (.t (.of 5))), 0, []), (.p .push (some ((.s 6), true)) (.mv (.t (.of 11))), 0, []), (.p .push (some ((.s 7), true)) (.bin .sub .int (.s 0) (.c (I 1))), 0, []), (.p .push (some ((.s 8), true)) (.iaddr 2 (.s 2) (.s 0)), 0, []), (.p .push (some ((.s 9), true)) (.aaddr 1 2 (.s 0) (.c (I 0))), 0, []), (.p .push (some ((.s 10), true)) (.load (.s 0)), 0, []), (.p .push (some ((.s 11), true)) (.bin .leq .int (.s 6) (.s 0)), 0, []), (.p .push (some ((.s 15), false)) (.pick (.s 12) (.s 0) (.c (.bool false))), 0, []), (.q (.of 23) (.pick (.s 16) (.c (.bool true)) (.s 0)), 0, [])]
theorem F17.tab : T.get none (.of 17) tbl = some F17 := by kernel_rfl
theorem F17.go : zQ tbl N C (.of 17) [a0] h nx K0 =
 sBox a0 h nx fun v1 h2 n3 =>
 yJ 2 v1 h2 fun v4 =>
 C.fn 44 (.of 44) [v4, (I 9), (I 12)] h2 n3 fun v5 h6 n7 =>
 sNot v5 fun v8 =>
 sG v8 false (fun k => yJ 2 v1 h6 k) fun v9 =>
 sGW v8 false (fun k => C.fn 62 (.of 62) [v9] h6 n7 k) h6 n7 fun v10 h11 n12 =>
 sG v8 false (fun k => sNot v10 k) fun v13 =>
 jL v8 (.bool true) v13 fun v14 =>
 sG v14 false (fun k => zN 1 v1 k) fun v15 =>
 sG v14 false (fun k => zA v15 h11 k) fun v16 =>
 sG v14 false (fun k => sLen v16 k) fun v17 =>
 sG v14 false (fun k => sBin .eql .int v17 (I 0) k) fun v18 =>
 jL v14 (.bool true) v18 fun v19 =>
 zH v19 (C.fn 18 (.of 18) [] h11 n12 fun v20 h21 n22 =>
 K0 v20 h21 n22) ((IR.run F17.b1 C N (fnO F17.res K0) (retK F17.res K0)) (F17.fr a0 v1 (.bool false) .undef .undef .undef .undef .undef .undef .undef .undef .undef .undef .undef .undef .undef .undef .undef .undef .undef v19 .undef .undef .undef .undef .undef .undef .undef .undef .undef .undef) h11 n12) := by
 rw [zL F17.tab]; kernel_rfl
theorem F17.k1 : IR.run F17.b1 C N (fnO F17.res K0) K (F17.fr x0 x1 x2 x3 x4 x5 x6 x7 x8 x9 x10 x11 x12 x13 x14 x15 x16 x17 x18 x19 x20 x21 x22 x23 x24 x25 x26 x27 x28 x29 x30) h nx =
 yJ 2 x1 h fun v1 =>
 C.fn 64 (.of 64) [v1] h nx fun v2 h3 n4 =>
 sExt 0 v2 fun v5 =>
 sExt 1 v2 fun v6 =>
 yJ 2 x1 h3 fun v7 =>
 C.fn 63 (.of 63) [v7] h3 n4 fun v8 h9 n10 =>
 sExt 0 v8 fun v11 =>
 sExt 1 v8 fun v12 =>
 yJ 2 x1 h9 fun v13 =>
 C.fn 26 (.of 26) [v13] h9 n10 fun v14 h15 n16 =>
 sExt 0 v14 fun v17 =>
 sExt 1 v14 fun v18 =>
 sExt 2 v14 fun v19 =>
 sBin .add .int v6 v12 fun v20 =>
 sBin .add .int v20 v19 fun v21 =>
 sBin .neq .int v21 (I 0) fun v22 =>
 zH v22 (K0 (.bool false) h15 n16) (IR.run F17.b3 C N (fnO F17.res K0) (IR.run F17.b36 C N (fnO F17.res K0) K) (F17.fr x0 x1 x2 v5 v6 v11 v12 v17 v18 v19 (I 0) (I 0) x12 x13 x14 x15 x16 x17 x18 x19 x20 v22 x22 x23 x24 x25 x26 x27 x28 x29 x30) h15 n16) := by kernel_rfl
theorem F17.e3 : IR.run F17.b5 C N ((fnO F17.res K0).blk 0 K) R (F17.fr x0 x1 x2 x3 x4 x5 x6 x7 x8 x9 x10 x11 x12 x13 x14 x15 x16 x17 x18 x19 x20 x21 x22 x23 x24 x25 x26 x27 x28 x29 x30) h nx =
 sLen x5 fun v1 =>
 sBin .lss .int x11 v1 fun v2 =>
 zH v2 (zE 2 x5 x11 fun v3 =>
 yY 1 2 v3 (I 1) fun v4 =>
 zA v4 h fun v5 =>
 sBin .add .int x10 v5 fun v6 =>
 zE 2 x5 x11 fun v7 =>
 yY 1 2 v7 (I 0) fun v8 =>
 zA v8 h fun v9 =>
 sBin .lss .int v9 x7 fun v10 =>
 evD F17.r0 [] C ⟨(F17.fr x0 x1 x2 x3 x4 x5 x6 x7 x8 x9 v6 x11 x12 x13 x14 x15 x16 x17 x18 x19 x20 x21 v2 x23 x24 x25 x26 x27 x28 x29 x30), v10 :: v10 :: x7 :: v9 :: v8 :: v7 :: x11 :: x5 :: []⟩ h nx (fun tm h nx => (IR.run (.cond (.t (.of 23)) (.seq (.reg [.q (.of 2) (.mv (.c (.bool false)))]) .ret) .skip) C N (((fnO F17.res K0).blk 0 K).blk 1 (IR.run F17.b35 C N ((fnO F17.res K0).blk 0 K) R)) (IR.run F17.b9 C N (((fnO F17.res K0).blk 0 K).blk 1 (IR.run F17.b35 C N ((fnO F17.res K0).blk 0 K) R)) (IR.run F17.b35 C N ((fnO F17.res K0).blk 0 K) R))) tm.v h nx)) (K (F17.fr x0 x1 x2 x3 x4 x5 x6 x7 x8 x9 x10 x11 x12 x13 x14 x15 x16 x17 x18 x19 x20 x21 v2 x23 x24 x25 x26 x27 x28 x29 x30) h nx) := by kernel_rfl
theorem F17.L3 (Inv : Nat → AV → AV → T Blk → Pa → Prop) {m : Nat} (hm : m < N) (hi : Inv m x10 x11 h nx)
  (step : ∀ (m : Nat) (z2 z10 z11 z12 z13 z14 z15 z16 z17 z18 z19 z22 z23 z24 z25 z26 z27 z28 z29 z30 : AV) (h : T Blk) (nx : Pa) (R : Ks Prop), Inv m z10 z11 h nx → (∀ (m' : Nat) (w2 w10 w11 w12 w13 w14 w15 w16 w17 w18 w19 w22 w23 w24 w25 w26 w27 w28 w29 w30 : AV) (h' : T Blk) (nx' : Pa), m' < m → Inv m' w10 w11 h' nx' → R (F17.fr x0 x1 w2 x3 x4 x5 x6 x7 x8 x9 w10 w11 w12 w13 w14 w15 w16 w17 w18 w19 x20 x21 w22 w23 w24 w25 w26 w27 w28 w29 w30) h' nx' = .ok True) →
   (sLen x5 fun v1 =>
 sBin .lss .int z11 v1 fun v2 =>
 zH v2 (zE 2 x5 z11 fun v3 =>
 yY 1 2 v3 (I 1) fun v4 =>
 zA v4 h fun v5 =>
 sBin .add .int z10 v5 fun v6 =>
 zE 2 x5 z11 fun v7 =>
 yY 1 2 v7 (I 0) fun v8 =>
 zA v8 h fun v9 =>
 sBin .lss .int v9 x7 fun v10 =>
 evD F17.r0 [] C ⟨(F17.fr x0 x1 z2 x3 x4 x5 x6 x7 x8 x9 v6 z11 z12 z13 z14 z15 z16 z17 z18 z19 x20 x21 v2 z23 z24 z25 z26 z27 z28 z29 z30), v10 :: v10 :: x7 :: v9 :: v8 :: v7 :: z11 :: x5 :: []⟩ h nx (fun tm h nx => (IR.run (.cond (.t (.of 23)) (.seq (.reg [.q (.of 2) (.mv (.c (.bool false)))]) .ret) .skip) C N (((fnO F17.res K0).blk 0 K).blk 1 (IR.run F17.b35 C N ((fnO F17.res K0).blk 0 K) R)) (IR.run F17.b9 C N (((fnO F17.res K0).blk 0 K).blk 1 (IR.run F17.b35 C N ((fnO F17.res K0).blk 0 K) R)) (IR.run F17.b35 C N ((fnO F17.res K0).blk 0 K) R))) tm.v h nx)) (K (F17.fr x0 x1 z2 x3 x4 x5 x6 x7 x8 x9 z10 z11 z12 z13 z14 z15 z16 z17 z18 z19 x20 x21 v2 z23 z24 z25 z26 z27 z28 z29 z30) h nx)) = .ok True) :
  IR.run F17.b3 C N (fnO F17.res K0) K (F17.fr x0 x1 x2 x3 x4 x5 x6 x7 x8 x9 x10 x11 x12 x13 x14 x15 x16 x17 x18 x19 x20 x21 x22 x23 x24 x25 x26 x27 x28 x29 x30) h nx = .ok True := by
 rw [F17.b3, F17.g3_eq, F17.b4]
 refine zX (fun m tm h nx => ∃ z2 z10 z11 z12 z13 z14 z15 z16 z17 z18 z19 z22 z23 z24 z25 z26 z27 z28 z29 z30, tm = (F17.fr x0 x1 z2 x3 x4 x5 x6 x7 x8 x9 z10 z11 z12 z13 z14 z15 z16 z17 z18 z19 x20 x21 z22 z23 z24 z25 z26 z27 z28 z29 z30) ∧ Inv m z10 z11 h nx) ?_ hm ⟨_, _, _, _, _, _, _, _, _, _, _, _, _, _, _, _, _, _, _, _, rfl, hi⟩
 rintro m tm h nx R ⟨z2, z10, z11, z12, z13, z14, z15, z16, z17, z18, z19, z22, z23, z24, z25, z26, z27, z28, z29, z30, rfl, hi⟩ hR
 rw [F17.e3]
 exact step m z2 z10 z11 z12 z13 z14 z15 z16 z17 z18 z19 z22 z23 z24 z25 z26 z27 z28 z29 z30 h nx R hi fun m' w2 w10 w11 w12 w13 w14 w15 w16 w17 w18 w19 w22 w23 w24 w25 w26 w27 w28 w29 w30 h' nx' hlt hi' => hR m' _ h' nx' hlt ⟨_, _, _, _, _, _, _, _, _, _, _, _, _, _, _, _, _, _, _, _, rfl, hi'⟩
theorem F17.k36 : IR.run F17.b36 C N (fnO F17.res K0) K (F17.fr x0 x1 x2 x3 x4 x5 x6 x7 x8 x9 x10 x11 x12 x13 x14 x15 x16 x17 x18 x19 x20 x21 x22 x23 x24 x25 x26 x27 x28 x29 x30) h nx =
 sBin .eql .int x10 x3 fun v1 =>
 sGW v1 true (fun k => C.fn 18 (.of 18) [] h nx k) h nx fun v2 h3 n4 =>
 jL v1 v2 (.bool false) fun v5 =>
 K0 v5 h3 n4 := by kernel_rfl
theorem F17.k35 {E0 : Ks Prop} : IR.run F17.b35 C N ((fnO F17.res K0).blk 0 E0) K (F17.fr x0 x1 x2 x3 x4 x5 x6 x7 x8 x9 x10 x11 x12 x13 x14 x15 x16 x17 x18 x19 x20 x21 x22 x23 x24 x25 x26 x27 x28 x29 x30) h nx =
 sBin .add .int x11 (I 1) fun v1 =>
 K (F17.fr x0 x1 x2 x3 x4 x5 x6 x7 x8 x9 x10 v1 x12 x13 x14 x15 x16 x17 x18 x19 x20 x21 x22 x23 x24 x25 x26 x27 x28 x29 x30) h nx := by kernel_rfl
theorem F17.r0_f {s1 s2 s3 s4 s5 s6 s7 : AV} : evD F17.r0 [] C ⟨(F17.fr x0 x1 x2 x3 x4 x5 x6 x7 x8 x9 x10 x11 x12 x13 x14 x15 x16 x17 x18 x19 x20 x21 x22 x23 x24 x25 x26 x27 x28 x29 x30), (.bool false) :: s1 :: s2 :: s3 :: s4 :: s5 :: s6 :: s7 :: []⟩ h nx (fun tm h nx => K tm.v h nx) =
 zE 2 x5 x11 fun v1 =>
 yY 1 2 v1 (I 0) fun v2 =>
 zA v2 h fun v3 =>
 sBin .gtr .int v3 x8 fun v4 =>
 evD F17.r1 [] C ⟨(F17.fr x0 x1 x2 x3 x4 x5 x6 x7 x8 x9 x10 x11 x12 x13 x14 x15 x16 x17 x18 x19 x20 x21 x22 x23 x24 x25 x26 x27 x28 x29 x30), v4 :: v4 :: v4 :: x8 :: v3 :: v2 :: v1 :: x11 :: x5 :: (.bool false) :: s1 :: s2 :: s3 :: s4 :: s5 :: s6 :: s7 :: []⟩ h nx (fun tm h nx => K tm.v h nx) := by kernel_rfl
theorem F17.k9 {E0 E1 : Ks Prop} : IR.run F17.b9 C N (((fnO F17.res K0).blk 0 E0).blk 1 E1) K (F17.fr x0 x1 x2 x3 x4 x5 x6 x7 x8 x9 x10 x11 x12 x13 x14 x15 x16 x17 x18 x19 x20 x21 x22 x23 x24 x25 x26 x27 x28 x29 x30) h nx =
 yJ 2 x1 h fun v1 =>
 zE 2 x5 x11 fun v2 =>
 yY 1 2 v2 (I 0) fun v3 =>
 zA v3 h fun v4 =>
 C.fn 52 (.of 52) [v1, v4] h nx fun v5 h6 n7 =>
 sExt 0 v5 fun v8 =>
 sExt 1 v5 fun v9 =>
 yJ 2 x1 h6 fun v10 =>
 zE 2 x5 x11 fun v11 =>
 yY 1 2 v11 (I 0) fun v12 =>
 zA v12 h6 fun v13 =>
 C.fn 53 (.of 53) [v10, v13] h6 n7 fun v14 h15 n16 =>
 sExt 0 v14 fun v17 =>
 sExt 1 v14 fun v18 =>
 sBin .eql .int v9 (I 5) fun v19 =>
 sG v19 true (fun k => k x5) fun v20 =>
 sG v19 true (fun k => k x11) fun v21 =>
 sG v19 true (fun k => zE 2 v20 v21 k) fun v22 =>
 sG v19 true (fun k => yY 1 2 v22 (I 1) k) fun v23 =>
 sG v19 true (fun k => zA v23 h15 k) fun v24 =>
 sG v19 true (fun k => sBin .gtr .int v24 (I 1024) k) fun v25 =>
 jL v19 v25 (.bool false) fun v26 =>
 zH v26 (E1 (F17.fr x0 x1 x2 x3 x4 x5 x6 x7 x8 x9 x10 x11 v8 v9 v17 v18 x16 x17 x18 x19 x20 x21 x22 x23 v26 x25 x26 x27 x28 x29 x30) h15 n16) ((IR.run F17.b10 C N (((fnO F17.res K0).blk 0 E0).blk 1 E1) K) (F17.fr x0 x1 x2 x3 x4 x5 x6 x7 x8 x9 x10 x11 v8 v9 v17 v18 x16 x17 x18 x19 x20 x21 x22 x23 v26 x25 x26 x27 x28 x29 x30) h15 n16) := by kernel_rfl
theorem F17.r1_f {s1 s2 s3 s4 s5 s6 s7 s8 s9 s10 s11 s12 s13 s14 s15 s16 : AV} : evD F17.r1 [] C ⟨(F17.fr x0 x1 x2 x3 x4 x5 x6 x7 x8 x9 x10 x11 x12 x13 x14 x15 x16 x17 x18 x19 x20 x21 x22 x23 x24 x25 x26 x27 x28 x29 x30), (.bool false) :: s1 :: s2 :: s3 :: s4 :: s5 :: s6 :: s7 :: s8 :: s9 :: s10 :: s11 :: s12 :: s13 :: s14 :: s15 :: s16 :: []⟩ h nx (fun tm h nx => K tm.v h nx) =
 zE 2 x5 x11 fun v1 =>
 yY 1 2 v1 (I 1) fun v2 =>
 zA v2 h fun v3 =>
 sBin .lss .int v3 (I 1) fun v4 =>
 evD F17.r2 [] C ⟨(F17.fr x0 x1 x2 x3 x4 x5 x6 x7 x8 x9 x10 x11 x12 x13 x14 x15 x16 x17 x18 x19 x20 x21 x22 x23 x24 x25 x26 x27 x28 x29 x30), v4 :: v4 :: v4 :: v3 :: v2 :: v1 :: x11 :: x5 :: (.bool false) :: s1 :: s2 :: s3 :: s4 :: s5 :: s6 :: s7 :: s8 :: s9 :: s10 :: s11 :: s12 :: s13 :: s14 :: s15 :: s16 :: []⟩ h nx (fun tm h nx => K tm.v h nx) := by kernel_rfl
theorem F17.k10 {E0 E1 : Ks Prop} : IR.run F17.b10 C N (((fnO F17.res K0).blk 0 E0).blk 1 E1) K (F17.fr x0 x1 x2 x3 x4 x5 x6 x7 x8 x9 x10 x11 x12 x13 x14 x15 x16 x17 x18 x19 x20 x21 x22 x23 x24 x25 x26 x27 x28 x29 x30) h nx =
 sBin .neq .int x13 (I 0) fun v1 =>
 sG v1 false (fun k => k x15) fun v2 =>
 sG v1 false (fun k => sBin .neq .int v2 (I 0) k) fun v3 =>
 jL v1 (.bool true) v3 fun v4 =>
 sG v4 false (fun k => k x12) fun v5 =>
 sG v4 false (fun k => sLen v5 k) fun v6 =>
 sG v4 false (fun k => k x5) fun v7 =>
 sG v4 false (fun k => k x11) fun v8 =>
 sG v4 false (fun k => zE 2 v7 v8 k) fun v9 =>
 sG v4 false (fun k => yY 1 2 v9 (I 1) k) fun v10 =>
 sG v4 false (fun k => zA v10 h k) fun v11 =>
 sG v4 false (fun k => sBin .neq .int v6 v11 k) fun v12 =>
 jL v4 (.bool true) v12 fun v13 =>
 sG v13 false (fun k => k x14) fun v14 =>
 sG v13 false (fun k => sLen v14 k) fun v15 =>
 sG v13 false (fun k => zN 0 x1 k) fun v16 =>
 sG v13 false (fun k => zA v16 h k) fun v17 =>
 sG v13 false (fun k => sBin .neq .int v15 v17 k) fun v18 =>
 jL v13 (.bool true) v18 fun v19 =>
 zH v19 (K0 (.bool false) h nx) ((IR.run F17.b11 C N (((fnO F17.res K0).blk 0 E0).blk 1 E1) K) (F17.fr x0 x1 x2 x3 x4 x5 x6 x7 x8 x9 x10 x11 x12 x13 x14 x15 x16 x17 x18 x19 x20 x21 x22 x23 x24 v19 x26 x27 x28 x29 x30) h nx) := by kernel_rfl
theorem F17.r2_f {s1 s2 s3 s4 s5 s6 s7 s8 s9 s10 s11 s12 s13 s14 s15 s16 s17 s18 s19 s20 s21 s22 s23 s24 : AV} : evD F17.r2 [] C ⟨(F17.fr x0 x1 x2 x3 x4 x5 x6 x7 x8 x9 x10 x11 x12 x13 x14 x15 x16 x17 x18 x19 x20 x21 x22 x23 x24 x25 x26 x27 x28 x29 x30), (.bool false) :: s1 :: s2 :: s3 :: s4 :: s5 :: s6 :: s7 :: s8 :: s9 :: s10 :: s11 :: s12 :: s13 :: s14 :: s15 :: s16 :: s17 :: s18 :: s19 :: s20 :: s21 :: s22 :: s23 :: s24 :: []⟩ h nx (fun tm h nx => K tm.v h nx) =
 sBin .gtr .int x11 (I 0) fun v1 =>
 evD F17.r3 [] C ⟨(F17.fr x0 x1 x2 x3 x4 x5 x6 x7 x8 x9 x10 x11 x12 x13 x14 x15 x16 x17 x18 x19 x20 x21 x22 x23 x24 x25 x26 x27 x28 x29 x30), v1 :: v1 :: x11 :: (.bool false) :: s1 :: s2 :: s3 :: s4 :: s5 :: s6 :: s7 :: s8 :: s9 :: s10 :: s11 :: s12 :: s13 :: s14 :: s15 :: s16 :: s17 :: s18 :: s19 :: s20 :: s21 :: s22 :: s23 :: s24 :: []⟩ h nx (fun tm h nx => K tm.v h nx) := by kernel_rfl
theorem F17.k11 {E0 E1 : Ks Prop} : IR.run F17.b11 C N (((fnO F17.res K0).blk 0 E0).blk 1 E1) K (F17.fr x0 x1 x2 x3 x4 x5 x6 x7 x8 x9 x10 x11 x12 x13 x14 x15 x16 x17 x18 x19 x20 x21 x22 x23 x24 x25 x26 x27 x28 x29 x30) h nx =
 IR.run F17.b12 C N (((fnO F17.res K0).blk 0 E0).blk 1 E1) (IR.run F17.b19 C N (((fnO F17.res K0).blk 0 E0).blk 1 E1) K) (F17.fr x0 x1 x2 x3 x4 x5 x6 x7 x8 x9 x10 x11 x12 x13 x14 x15 (I 0) x17 x18 x19 x20 x21 x22 x23 x24 x25 x26 x27 x28 x29 x30) h nx := by kernel_rfl
theorem F17.r3_t {s1 s2 s3 s4 s5 s6 s7 s8 s9 s10 s11 s12 s13 s14 s15 s16 s17 s18 s19 s20 s21 s22 s23 s24 s25 s26 s27 : AV} : evD F17.r3 [] C ⟨(F17.fr x0 x1 x2 x3 x4 x5 x6 x7 x8 x9 x10 x11 x12 x13 x14 x15 x16 x17 x18 x19 x20 x21 x22 x23 x24 x25 x26 x27 x28 x29 x30), (.bool true) :: s1 :: s2 :: s3 :: s4 :: s5 :: s6 :: s7 :: s8 :: s9 :: s10 :: s11 :: s12 :: s13 :: s14 :: s15 :: s16 :: s17 :: s18 :: s19 :: s20 :: s21 :: s22 :: s23 :: s24 :: s25 :: s26 :: s27 :: []⟩ h nx (fun tm h nx => K tm.v h nx) =
 zE 2 x5 x11 fun v1 =>
 yY 1 2 v1 (I 0) fun v2 =>
 zA v2 h fun v3 =>
 sBin .sub .int x11 (I 1) fun v4 =>
 zE 2 x5 v4 fun v5 =>
 yY 1 2 v5 (I 0) fun v6 =>
 zA v6 h fun v7 =>
 sBin .leq .int v3 v7 fun v8 =>
 evD F17.r4 [] C ⟨(F17.fr x0 x1 x2 x3 x4 x5 x6 x7 x8 x9 x10 x11 x12 x13 x14 x15 x16 x17 x18 x19 x20 x21 x22 x23 x24 x25 x26 x27 x28 x29 x30), v8 :: v7 :: v6 :: v5 :: v4 :: x11 :: x5 :: v3 :: v2 :: v1 :: x11 :: x5 :: (.bool true) :: s1 :: s2 :: s3 :: s4 :: s5 :: s6 :: s7 :: s8 :: s9 :: s10 :: s11 :: s12 :: s13 :: s14 :: s15 :: s16 :: s17 :: s18 :: s19 :: s20 :: s21 :: s22 :: s23 :: s24 :: s25 :: s26 :: s27 :: []⟩ h nx (fun tm h nx => K tm.v h nx) := by kernel_rfl
theorem F17.r3_f {s1 s2 s3 s4 s5 s6 s7 s8 s9 s10 s11 s12 s13 s14 s15 s16 s17 s18 s19 s20 s21 s22 s23 s24 s25 s26 s27 : AV} : evD F17.r3 [] C ⟨(F17.fr x0 x1 x2 x3 x4 x5 x6 x7 x8 x9 x10 x11 x12 x13 x14 x15 x16 x17 x18 x19 x20 x21 x22 x23 x24 x25 x26 x27 x28 x29 x30), (.bool false) :: s1 :: s2 :: s3 :: s4 :: s5 :: s6 :: s7 :: s8 :: s9 :: s10 :: s11 :: s12 :: s13 :: s14 :: s15 :: s16 :: s17 :: s18 :: s19 :: s20 :: s21 :: s22 :: s23 :: s24 :: s25 :: s26 :: s27 :: []⟩ h nx (fun tm h nx => K tm.v h nx) =
 evD F17.r4 [] C ⟨(F17.fr x0 x1 x2 x3 x4 x5 x6 x7 x8 x9 x10 x11 x12 x13 x14 x15 x16 x17 x18 x19 x20 x21 x22 x23 x24 x25 x26 x27 x28 x29 x30), .undef :: .undef :: .undef :: .undef :: .undef :: .undef :: .undef :: .undef :: .undef :: .undef :: .undef :: .undef :: (.bool false) :: s1 :: s2 :: s3 :: s4 :: s5 :: s6 :: s7 :: s8 :: s9 :: s10 :: s11 :: s12 :: s13 :: s14 :: s15 :: s16 :: s17 :: s18 :: s19 :: s20 :: s21 :: s22 :: s23 :: s24 :: s25 :: s26 :: s27 :: []⟩ h nx (fun tm h nx => K tm.v h nx) := by kernel_rfl
theorem F17.e12 {E0 E1 : Ks Prop} : IR.run F17.b14 C N ((((fnO F17.res K0).blk 0 E0).blk 1 E1).blk 2 K) R (F17.fr x0 x1 x2 x3 x4 x5 x6 x7 x8 x9 x10 x11 x12 x13 x14 x15 x16 x17 x18 x19 x20 x21 x22 x23 x24 x25 x26 x27 x28 x29 x30) h nx =
 sLen x12 fun v1 =>
 sBin .lss .int x16 v1 fun v2 =>
 zH v2 (zE 1 x12 x16 fun v3 =>
 zA v3 h fun v4 =>
 sLen v4 fun v5 =>
 zN 0 x1 fun v6 =>
 zA v6 h fun v7 =>
 sBin .neq .int v5 v7 fun v8 =>
 evD F17.r5 [] C ⟨(F17.fr x0 x1 x2 x3 x4 x5 x6 x7 x8 x9 x10 x11 x12 x13 x14 x15 x16 x17 x18 x19 x20 x21 x22 x23 x24 x25 v2 x27 x28 x29 x30), v8 :: v8 :: v7 :: v6 :: v5 :: v4 :: v3 :: x16 :: x12 :: []⟩ h nx (fun tm h nx => (IR.run (.cond (.t (.of 27)) (.seq (.reg [.q (.of 2) (.mv (.c (.bool false)))]) .ret) .skip) C N (((((fnO F17.res K0).blk 0 E0).blk 1 E1).blk 2 K).blk 3 (IR.run F17.b18 C N ((((fnO F17.res K0).blk 0 E0).blk 1 E1).blk 2 K) R)) (IR.run F17.b18 C N ((((fnO F17.res K0).blk 0 E0).blk 1 E1).blk 2 K) R)) tm.v h nx)) (K (F17.fr x0 x1 x2 x3 x4 x5 x6 x7 x8 x9 x10 x11 x12 x13 x14 x15 x16 x17 x18 x19 x20 x21 x22 x23 x24 x25 v2 x27 x28 x29 x30) h nx) := by kernel_rfl
theorem F17.L12 {E0 E1 : Ks Prop} (Inv : Nat → AV → T Blk → Pa → Prop) {m : Nat} (hm : m < N) (hi : Inv m x16 h nx)
  (step : ∀ (m : Nat) (z2 z16 z26 z27 : AV) (h : T Blk) (nx : Pa) (R : Ks Prop), Inv m z16 h nx → (∀ (m' : Nat) (w2 w16 w26 w27 : AV) (h' : T Blk) (nx' : Pa), m' < m → Inv m' w16 h' nx' → R (F17.fr x0 x1 w2 x3 x4 x5 x6 x7 x8 x9 x10 x11 x12 x13 x14 x15 w16 x17 x18 x19 x20 x21 x22 x23 x24 x25 w26 w27 x28 x29 x30) h' nx' = .ok True) →
   (sLen x12 fun v1 =>
 sBin .lss .int z16 v1 fun v2 =>
 zH v2 (zE 1 x12 z16 fun v3 =>
 zA v3 h fun v4 =>
 sLen v4 fun v5 =>
 zN 0 x1 fun v6 =>
 zA v6 h fun v7 =>
 sBin .neq .int v5 v7 fun v8 =>
 evD F17.r5 [] C ⟨(F17.fr x0 x1 z2 x3 x4 x5 x6 x7 x8 x9 x10 x11 x12 x13 x14 x15 z16 x17 x18 x19 x20 x21 x22 x23 x24 x25 v2 z27 x28 x29 x30), v8 :: v8 :: v7 :: v6 :: v5 :: v4 :: v3 :: z16 :: x12 :: []⟩ h nx (fun tm h nx => (IR.run (.cond (.t (.of 27)) (.seq (.reg [.q (.of 2) (.mv (.c (.bool false)))]) .ret) .skip) C N (((((fnO F17.res K0).blk 0 E0).blk 1 E1).blk 2 K).blk 3 (IR.run F17.b18 C N ((((fnO F17.res K0).blk 0 E0).blk 1 E1).blk 2 K) R)) (IR.run F17.b18 C N ((((fnO F17.res K0).blk 0 E0).blk 1 E1).blk 2 K) R)) tm.v h nx)) (K (F17.fr x0 x1 z2 x3 x4 x5 x6 x7 x8 x9 x10 x11 x12 x13 x14 x15 z16 x17 x18 x19 x20 x21 x22 x23 x24 x25 v2 z27 x28 x29 x30) h nx)) = .ok True) :
  IR.run F17.b12 C N (((fnO F17.res K0).blk 0 E0).blk 1 E1) K (F17.fr x0 x1 x2 x3 x4 x5 x6 x7 x8 x9 x10 x11 x12 x13 x14 x15 x16 x17 x18 x19 x20 x21 x22 x23 x24 x25 x26 x27 x28 x29 x30) h nx = .ok True := by
 rw [F17.b12, F17.g12_eq, F17.b13]
 refine zX (fun m tm h nx => ∃ z2 z16 z26 z27, tm = (F17.fr x0 x1 z2 x3 x4 x5 x6 x7 x8 x9 x10 x11 x12 x13 x14 x15 z16 x17 x18 x19 x20 x21 x22 x23 x24 x25 z26 z27 x28 x29 x30) ∧ Inv m z16 h nx) ?_ hm ⟨_, _, _, _, rfl, hi⟩
 rintro m tm h nx R ⟨z2, z16, z26, z27, rfl, hi⟩ hR
 rw [F17.e12]
 exact step m z2 z16 z26 z27 h nx R hi fun m' w2 w16 w26 w27 h' nx' hlt hi' => hR m' _ h' nx' hlt ⟨_, _, _, _, rfl, hi'⟩
theorem F17.k19 {E0 E1 : Ks Prop} : IR.run F17.b19 C N (((fnO F17.res K0).blk 0 E0).blk 1 E1) K (F17.fr x0 x1 x2 x3 x4 x5 x6 x7 x8 x9 x10 x11 x12 x13 x14 x15 x16 x17 x18 x19 x20 x21 x22 x23 x24 x25 x26 x27 x28 x29 x30) h nx =
 IR.run F17.b20 C N (((fnO F17.res K0).blk 0 E0).blk 1 E1) K (F17.fr x0 x1 x2 x3 x4 x5 x6 x7 x8 x9 x10 x11 x12 x13 x14 x15 x16 (I 0) x18 x19 x20 x21 x22 x23 x24 x25 x26 x27 x28 x29 x30) h nx := by kernel_rfl
theorem F17.r4_f {s0 s1 s2 s3 s4 s5 s6 s7 s8 s9 s10 s11 s12 s13 s14 s16 s17 s18 s19 s20 s21 s22 s23 s24 s25 s26 s27 s28 s29 s30 s31 s32 s33 s34 s35 s36 s37 s38 s39 : AV} : evD F17.r4 [] C ⟨(F17.fr x0 x1 x2 x3 x4 x5 x6 x7 x8 x9 x10 x11 x12 x13 x14 x15 x16 x17 x18 x19 x20 x21 x22 x23 x24 x25 x26 x27 x28 x29 x30), s0 :: s1 :: s2 :: s3 :: s4 :: s5 :: s6 :: s7 :: s8 :: s9 :: s10 :: s11 :: s12 :: s13 :: s14 :: (.bool false) :: s16 :: s17 :: s18 :: s19 :: s20 :: s21 :: s22 :: s23 :: s24 :: s25 :: s26 :: s27 :: s28 :: s29 :: s30 :: s31 :: s32 :: s33 :: s34 :: s35 :: s36 :: s37 :: s38 :: s39 :: []⟩ h nx (fun tm h nx => K tm.v h nx) =
 jL s12 s0 (.bool false) fun v1 =>
 K (F17.fr x0 x1 x2 x3 x4 x5 x6 x7 x8 x9 x10 x11 x12 x13 x14 x15 x16 x17 x18 x19 x20 x21 x22 v1 x24 x25 x26 x27 x28 x29 x30) h nx := by kernel_rfl
theorem F17.k18 {E0 E1 E2 : Ks Prop} : IR.run F17.b18 C N ((((fnO F17.res K0).blk 0 E0).blk 1 E1).blk 2 E2) K (F17.fr x0 x1 x2 x3 x4 x5 x6 x7 x8 x9 x10 x11 x12 x13 x14 x15 x16 x17 x18 x19 x20 x21 x22 x23 x24 x25 x26 x27 x28 x29 x30) h nx =
 sBin .add .int x16 (I 1) fun v1 =>
 K (F17.fr x0 x1 x2 x3 x4 x5 x6 x7 x8 x9 x10 x11 x12 x13 x14 x15 v1 x17 x18 x19 x20 x21 x22 x23 x24 x25 x26 x27 x28 x29 x30) h nx := by kernel_rfl
theorem F17.r5_f {s1 s2 s3 s4 s5 s6 s7 s8 : AV} : evD F17.r5 [] C ⟨(F17.fr x0 x1 x2 x3 x4 x5 x6 x7 x8 x9 x10 x11 x12 x13 x14 x15 x16 x17 x18 x19 x20 x21 x22 x23 x24 x25 x26 x27 x28 x29 x30), (.bool false) :: s1 :: s2 :: s3 :: s4 :: s5 :: s6 :: s7 :: s8 :: []⟩ h nx (fun tm h nx => K tm.v h nx) =
 zE 1 x12 x16 fun v1 =>
 zA v1 h fun v2 =>
 C.fn 38 (.of 38) [v2] h nx fun v3 h4 n5 =>
 sNot v3 fun v6 =>
 evD F17.r6 [] C ⟨(F17.fr x0 x1 x2 x3 x4 x5 x6 x7 x8 x9 x10 x11 x12 x13 x14 x15 x16 x17 x18 x19 x20 x21 x22 x23 x24 x25 x26 x27 x28 x29 x30), v6 :: v6 :: v6 :: v3 :: v2 :: v1 :: x16 :: x12 :: (.bool false) :: s1 :: s2 :: s3 :: s4 :: s5 :: s6 :: s7 :: s8 :: []⟩ h4 n5 (fun tm h nx => K tm.v h nx) := by kernel_rfl
theorem F17.e20 {E0 E1 : Ks Prop} : IR.run F17.b22 C N ((((fnO F17.res K0).blk 0 E0).blk 1 E1).blk 4 K) R (F17.fr x0 x1 x2 x3 x4 x5 x6 x7 x8 x9 x10 x11 x12 x13 x14 x15 x16 x17 x18 x19 x20 x21 x22 x23 x24 x25 x26 x27 x28 x29 x30) h nx =
 zN 0 x1 fun v1 =>
 zA v1 h fun v2 =>
 sBin .lss .int x17 v2 fun v3 =>
 zH v3 (IR.run F17.b26 C N (((((fnO F17.res K0).blk 0 E0).blk 1 E1).blk 4 K).blk 5 (IR.run F17.b34 C N ((((fnO F17.res K0).blk 0 E0).blk 1 E1).blk 4 K) R)) (IR.run F17.b33 C N (((((fnO F17.res K0).blk 0 E0).blk 1 E1).blk 4 K).blk 5 (IR.run F17.b34 C N ((((fnO F17.res K0).blk 0 E0).blk 1 E1).blk 4 K) R)) (IR.run F17.b34 C N ((((fnO F17.res K0).blk 0 E0).blk 1 E1).blk 4 K) R)) (F17.fr x0 x1 x2 x3 x4 x5 x6 x7 x8 x9 x10 x11 x12 x13 x14 x15 x16 x17 (I 0) (I 0) x20 x21 x22 x23 x24 x25 x26 x27 v3 x29 x30) h nx) (K (F17.fr x0 x1 x2 x3 x4 x5 x6 x7 x8 x9 x10 x11 x12 x13 x14 x15 x16 x17 x18 x19 x20 x21 x22 x23 x24 x25 x26 x27 v3 x29 x30) h nx) := by kernel_rfl
theorem F17.L20 {E0 E1 : Ks Prop} (Inv : Nat → AV → T Blk → Pa → Prop) {m : Nat} (hm : m < N) (hi : Inv m x17 h nx)
  (step : ∀ (m : Nat) (z2 z17 z18 z19 z28 z29 z30 : AV) (h : T Blk) (nx : Pa) (R : Ks Prop), Inv m z17 h nx → (∀ (m' : Nat) (w2 w17 w18 w19 w28 w29 w30 : AV) (h' : T Blk) (nx' : Pa), m' < m → Inv m' w17 h' nx' → R (F17.fr x0 x1 w2 x3 x4 x5 x6 x7 x8 x9 x10 x11 x12 x13 x14 x15 x16 w17 w18 w19 x20 x21 x22 x23 x24 x25 x26 x27 w28 w29 w30) h' nx' = .ok True) →
   (zN 0 x1 fun v1 =>
 zA v1 h fun v2 =>
 sBin .lss .int z17 v2 fun v3 =>
 zH v3 (IR.run F17.b26 C N (((((fnO F17.res K0).blk 0 E0).blk 1 E1).blk 4 K).blk 5 (IR.run F17.b34 C N ((((fnO F17.res K0).blk 0 E0).blk 1 E1).blk 4 K) R)) (IR.run F17.b33 C N (((((fnO F17.res K0).blk 0 E0).blk 1 E1).blk 4 K).blk 5 (IR.run F17.b34 C N ((((fnO F17.res K0).blk 0 E0).blk 1 E1).blk 4 K) R)) (IR.run F17.b34 C N ((((fnO F17.res K0).blk 0 E0).blk 1 E1).blk 4 K) R)) (F17.fr x0 x1 z2 x3 x4 x5 x6 x7 x8 x9 x10 x11 x12 x13 x14 x15 x16 z17 (I 0) (I 0) x20 x21 x22 x23 x24 x25 x26 x27 v3 z29 z30) h nx) (K (F17.fr x0 x1 z2 x3 x4 x5 x6 x7 x8 x9 x10 x11 x12 x13 x14 x15 x16 z17 z18 z19 x20 x21 x22 x23 x24 x25 x26 x27 v3 z29 z30) h nx)) = .ok True) :
  IR.run F17.b20 C N (((fnO F17.res K0).blk 0 E0).blk 1 E1) K (F17.fr x0 x1 x2 x3 x4 x5 x6 x7 x8 x9 x10 x11 x12 x13 x14 x15 x16 x17 x18 x19 x20 x21 x22 x23 x24 x25 x26 x27 x28 x29 x30) h nx = .ok True := by
 rw [F17.b20, F17.g20_eq, F17.b21]
 refine zX (fun m tm h nx => ∃ z2 z17 z18 z19 z28 z29 z30, tm = (F17.fr x0 x1 z2 x3 x4 x5 x6 x7 x8 x9 x10 x11 x12 x13 x14 x15 x16 z17 z18 z19 x20 x21 x22 x23 x24 x25 x26 x27 z28 z29 z30) ∧ Inv m z17 h nx) ?_ hm ⟨_, _, _, _, _, _, _, rfl, hi⟩
 rintro m tm h nx R ⟨z2, z17, z18, z19, z28, z29, z30, rfl, hi⟩ hR
 rw [F17.e20]
 exact step m z2 z17 z18 z19 z28 z29 z30 h nx R hi fun m' w2 w17 w18 w19 w28 w29 w30 h' nx' hlt hi' => hR m' _ h' nx' hlt ⟨_, _, _, _, _, _, _, rfl, hi'⟩
theorem F17.r6_f {s1 s2 s3 s4 s5 s6 s7 s8 s9 s10 s11 s12 s13 s14 s15 s16 : AV} : evD F17.r6 [] C ⟨(F17.fr x0 x1 x2 x3 x4 x5 x6 x7 x8 x9 x10 x11 x12 x13 x14 x15 x16 x17 x18 x19 x20 x21 x22 x23 x24 x25 x26 x27 x28 x29 x30), (.bool false) :: s1 :: s2 :: s3 :: s4 :: s5 :: s6 :: s7 :: s8 :: s9 :: s10 :: s11 :: s12 :: s13 :: s14 :: s15 :: s16 :: []⟩ h nx (fun tm h nx => K tm.v h nx) =
 yJ 2 x1 h fun v1 =>
 zE 1 x12 x16 fun v2 =>
 zA v2 h fun v3 =>
 C.fn 71 (.of 71) [v1, v3] h nx fun v4 h5 n6 =>
 sBin .neq .int v4 (I 0) fun v7 =>
 evD F17.r7 [] C ⟨(F17.fr x0 x1 x2 x3 x4 x5 x6 x7 x8 x9 x10 x11 x12 x13 x14 x15 x16 x17 x18 x19 x20 x21 x22 x23 x24 x25 x26 x27 x28 x29 x30), v7 :: v7 :: v7 :: v4 :: v3 :: v2 :: x16 :: x12 :: v1 :: (.bool false) :: s1 :: s2 :: s3 :: s4 :: s5 :: s6 :: s7 :: s8 :: s9 :: s10 :: s11 :: s12 :: s13 :: s14 :: s15 :: s16 :: []⟩ h5 n6 (fun tm h nx => K tm.v h nx) := by kernel_rfl
theorem F17.k34 {E0 E1 E4 : Ks Prop} : IR.run F17.b34 C N ((((fnO F17.res K0).blk 0 E0).blk 1 E1).blk 4 E4) K (F17.fr x0 x1 x2 x3 x4 x5 x6 x7 x8 x9 x10 x11 x12 x13 x14 x15 x16 x17 x18 x19 x20 x21 x22 x23 x24 x25 x26 x27 x28 x29 x30) h nx =
 sBin .add .int x17 (I 1) fun v1 =>
 K (F17.fr x0 x1 x2 x3 x4 x5 x6 x7 x8 x9 x10 x11 x12 x13 x14 x15 x16 v1 x18 x19 x20 x21 x22 x23 x24 x25 x26 x27 x28 x29 x30) h nx := by kernel_rfl
theorem F17.e26 {E0 E1 E4 E5 : Ks Prop} : IR.run F17.b28 C N ((((((fnO F17.res K0).blk 0 E0).blk 1 E1).blk 4 E4).blk 5 E5).blk 6 K) R (F17.fr x0 x1 x2 x3 x4 x5 x6 x7 x8 x9 x10 x11 x12 x13 x14 x15 x16 x17 x18 x19 x20 x21 x22 x23 x24 x25 x26 x27 x28 x29 x30) h nx =
 zE 1 x14 x17 fun v1 =>
 zA v1 h fun v2 =>
 sLen v2 fun v3 =>
 sBin .lss .int x19 v3 fun v4 =>
 zH v4 (zE 1 x14 x17 fun v5 =>
 zA v5 h fun v6 =>
 zE 1 v6 x19 fun v7 =>
 zA v7 h fun v8 =>
 sBin .add .int x18 v8 fun v9 =>
 sBin .add .int x19 (I 1) fun v10 =>
 R (F17.fr x0 x1 x2 x3 x4 x5 x6 x7 x8 x9 x10 x11 x12 x13 x14 x15 x16 x17 v9 v10 x20 x21 x22 x23 x24 x25 x26 x27 x28 v4 x30) h nx) (K (F17.fr x0 x1 x2 x3 x4 x5 x6 x7 x8 x9 x10 x11 x12 x13 x14 x15 x16 x17 x18 x19 x20 x21 x22 x23 x24 x25 x26 x27 x28 v4 x30) h nx) := by kernel_rfl
theorem F17.L26 {E0 E1 E4 E5 : Ks Prop} (Inv : Nat → AV → AV → T Blk → Pa → Prop) {m : Nat} (hm : m < N) (hi : Inv m x18 x19 h nx)
  (step : ∀ (m : Nat) (z18 z19 z29 : AV) (h : T Blk) (nx : Pa) (R : Ks Prop), Inv m z18 z19 h nx → (∀ (m' : Nat) (w18 w19 w29 : AV) (h' : T Blk) (nx' : Pa), m' < m → Inv m' w18 w19 h' nx' → R (F17.fr x0 x1 x2 x3 x4 x5 x6 x7 x8 x9 x10 x11 x12 x13 x14 x15 x16 x17 w18 w19 x20 x21 x22 x23 x24 x25 x26 x27 x28 w29 x30) h' nx' = .ok True) →
   (zE 1 x14 x17 fun v1 =>
 zA v1 h fun v2 =>
 sLen v2 fun v3 =>
 sBin .lss .int z19 v3 fun v4 =>
 zH v4 (zE 1 x14 x17 fun v5 =>
 zA v5 h fun v6 =>
 zE 1 v6 z19 fun v7 =>
 zA v7 h fun v8 =>
 sBin .add .int z18 v8 fun v9 =>
 sBin .add .int z19 (I 1) fun v10 =>
 R (F17.fr x0 x1 x2 x3 x4 x5 x6 x7 x8 x9 x10 x11 x12 x13 x14 x15 x16 x17 v9 v10 x20 x21 x22 x23 x24 x25 x26 x27 x28 v4 x30) h nx) (K (F17.fr x0 x1 x2 x3 x4 x5 x6 x7 x8 x9 x10 x11 x12 x13 x14 x15 x16 x17 z18 z19 x20 x21 x22 x23 x24 x25 x26 x27 x28 v4 x30) h nx)) = .ok True) :
  IR.run F17.b26 C N (((((fnO F17.res K0).blk 0 E0).blk 1 E1).blk 4 E4).blk 5 E5) K (F17.fr x0 x1 x2 x3 x4 x5 x6 x7 x8 x9 x10 x11 x12 x13 x14 x15 x16 x17 x18 x19 x20 x21 x22 x23 x24 x25 x26 x27 x28 x29 x30) h nx = .ok True := by
 rw [F17.b26, F17.g26_eq, F17.b27]
 refine zX (fun m tm h nx => ∃ z18 z19 z29, tm = (F17.fr x0 x1 x2 x3 x4 x5 x6 x7 x8 x9 x10 x11 x12 x13 x14 x15 x16 x17 z18 z19 x20 x21 x22 x23 x24 x25 x26 x27 x28 z29 x30) ∧ Inv m z18 z19 h nx) ?_ hm ⟨_, _, _, rfl, hi⟩
 rintro m tm h nx R ⟨z18, z19, z29, rfl, hi⟩ hR
 rw [F17.e26]
 exact step m z18 z19 z29 h nx R hi fun m' w18 w19 w29 h' nx' hlt hi' => hR m' _ h' nx' hlt ⟨_, _, _, rfl, hi'⟩
theorem F17.k33 {E0 E1 E4 E5 : Ks Prop} : IR.run F17.b33 C N (((((fnO F17.res K0).blk 0 E0).blk 1 E1).blk 4 E4).blk 5 E5) K (F17.fr x0 x1 x2 x3 x4 x5 x6 x7 x8 x9 x10 x11 x12 x13 x14 x15 x16 x17 x18 x19 x20 x21 x22 x23 x24 x25 x26 x27 x28 x29 x30) h nx =
 zE 1 x14 x17 fun v1 =>
 zA v1 h fun v2 =>
 sLen v2 fun v3 =>
 zN 0 x1 fun v4 =>
 zA v4 h fun v5 =>
 sBin .neq .int v3 v5 fun v6 =>
 sG v6 false (fun k => k x18) fun v7 =>
 sG v6 false (fun k => k x12) fun v8 =>
 sG v6 false (fun k => sLen v8 k) fun v9 =>
 sG v6 false (fun k => sBin .neq .int v7 v9 k) fun v10 =>
 jL v6 (.bool true) v10 fun v11 =>
 zH v11 (K0 (.bool false) h nx) (K (F17.fr x0 x1 x2 x3 x4 x5 x6 x7 x8 x9 x10 x11 x12 x13 x14 x15 x16 x17 x18 x19 x20 x21 x22 x23 x24 x25 x26 x27 x28 x29 v11) h nx) := by kernel_rfl
theorem F17.r7_f {s1 s2 s3 s4 s5 s6 s7 s8 s9 s10 s11 s12 s13 s14 s15 s16 s17 s18 s19 s20 s21 s22 s23 s24 s25 : AV} : evD F17.r7 [] C ⟨(F17.fr x0 x1 x2 x3 x4 x5 x6 x7 x8 x9 x10 x11 x12 x13 x14 x15 x16 x17 x18 x19 x20 x21 x22 x23 x24 x25 x26 x27 x28 x29 x30), (.bool false) :: s1 :: s2 :: s3 :: s4 :: s5 :: s6 :: s7 :: s8 :: s9 :: s10 :: s11 :: s12 :: s13 :: s14 :: s15 :: s16 :: s17 :: s18 :: s19 :: s20 :: s21 :: s22 :: s23 :: s24 :: s25 :: []⟩ h nx (fun tm h nx => K tm.v h nx) =
 yJ 2 x1 h fun v1 =>
 zE 1 x12 x16 fun v2 =>
 zA v2 h fun v3 =>
 C.fn 72 (.of 72) [v1, v3] h nx fun v4 h5 n6 =>
 sNot v4 fun v7 =>
 evD F17.r8 [] C ⟨(F17.fr x0 x1 x2 x3 x4 x5 x6 x7 x8 x9 x10 x11 x12 x13 x14 x15 x16 x17 x18 x19 x20 x21 x22 x23 x24 x25 x26 x27 x28 x29 x30), v7 :: v7 :: v7 :: v4 :: v3 :: v2 :: x16 :: x12 :: v1 :: (.bool false) :: s1 :: s2 :: s3 :: s4 :: s5 :: s6 :: s7 :: s8 :: s9 :: s10 :: s11 :: s12 :: s13 :: s14 :: s15 :: s16 :: s17 :: s18 :: s19 :: s20 :: s21 :: s22 :: s23 :: s24 :: s25 :: []⟩ h5 n6 (fun tm h nx => K tm.v h nx) := by kernel_rfl
theorem F17.r8_f {s1 s2 s3 s4 s5 s6 s7 s8 s9 s10 s11 s12 s13 s14 s15 s16 s17 s18 s19 s20 s21 s22 s23 s24 s25 s26 s27 s28 s29 s30 s31 s32 s33 s34 : AV} : evD F17.r8 [] C ⟨(F17.fr x0 x1 x2 x3 x4 x5 x6 x7 x8 x9 x10 x11 x12 x13 x14 x15 x16 x17 x18 x19 x20 x21 x22 x23 x24 x25 x26 x27 x28 x29 x30), (.bool false) :: s1 :: s2 :: s3 :: s4 :: s5 :: s6 :: s7 :: s8 :: s9 :: s10 :: s11 :: s12 :: s13 :: s14 :: s15 :: s16 :: s17 :: s18 :: s19 :: s20 :: s21 :: s22 :: s23 :: s24 :: s25 :: s26 :: s27 :: s28 :: s29 :: s30 :: s31 :: s32 :: s33 :: s34 :: []⟩ h nx (fun tm h nx => K tm.v h nx) =
 yJ 2 x1 h fun v1 =>
 zE 1 x12 x16 fun v2 =>
 zA v2 h fun v3 =>
 zE 2 x5 x11 fun v4 =>
 yY 1 2 v4 (I 0) fun v5 =>
 zA v5 h fun v6 =>
 C.fn 73 (.of 73) [v1, v3] h nx fun v7 h8 n9 =>
 (zA v5 h8 fun v15 => yZ v15 v6 ((yY 1 2 v4 (I 0) fun v14 => yZ v14 v5 ((zE 2 x5 x11 fun v13 => yZ v13 v4 (yZ x11 x11 (yZ x5 x5 (zE 1 v7 (I 0) fun v10 =>
 zA v10 h8 fun v11 =>
 sBin .neq .int v11 v6 fun v12 =>
 evD F17.r9 [] C ⟨(F17.fr x0 x1 x2 x3 x4 x5 x6 x7 x8 x9 x10 x11 x12 x13 x14 x15 x16 x17 x18 x19 x20 x21 x22 x23 x24 x25 x26 x27 x28 x29 x30), v12 :: v12 :: v12 :: v11 :: v10 :: v7 :: v6 :: v5 :: v4 :: x11 :: x5 :: v3 :: v2 :: x16 :: x12 :: v1 :: (.bool false) :: s1 :: s2 :: s3 :: s4 :: s5 :: s6 :: s7 :: s8 :: s9 :: s10 :: s11 :: s12 :: s13 :: s14 :: s15 :: s16 :: s17 :: s18 :: s19 :: s20 :: s21 :: s22 :: s23 :: s24 :: s25 :: s26 :: s27 :: s28 :: s29 :: s30 :: s31 :: s32 :: s33 :: s34 :: []⟩ h8 n9 (fun tm h nx => K tm.v h nx))))))))) := by kernel_rfl
theorem F17.r9_f {s1 s2 s3 s4 s5 s6 s7 s8 s9 s10 s11 s12 s13 s14 s15 s16 s17 s18 s19 s20 s21 s22 s23 s24 s25 s26 s27 s28 s29 s30 s31 s32 s33 s34 s35 s36 s37 s38 s39 s40 s41 s42 s43 s44 s45 s46 s47 s48 s49 s50 : AV} : evD F17.r9 [] C ⟨(F17.fr x0 x1 x2 x3 x4 x5 x6 x7 x8 x9 x10 x11 x12 x13 x14 x15 x16 x17 x18 x19 x20 x21 x22 x23 x24 x25 x26 x27 x28 x29 x30), (.bool false) :: s1 :: s2 :: s3 :: s4 :: s5 :: s6 :: s7 :: s8 :: s9 :: s10 :: s11 :: s12 :: s13 :: s14 :: s15 :: s16 :: s17 :: s18 :: s19 :: s20 :: s21 :: s22 :: s23 :: s24 :: s25 :: s26 :: s27 :: s28 :: s29 :: s30 :: s31 :: s32 :: s33 :: s34 :: s35 :: s36 :: s37 :: s38 :: s39 :: s40 :: s41 :: s42 :: s43 :: s44 :: s45 :: s46 :: s47 :: s48 :: s49 :: s50 :: []⟩ h nx (fun tm h nx => K tm.v h nx) =
 sBin .gtr .int x16 (I 0) fun v1 =>
 evD F17.r10 [] C ⟨(F17.fr x0 x1 x2 x3 x4 x5 x6 x7 x8 x9 x10 x11 x12 x13 x14 x15 x16 x17 x18 x19 x20 x21 x22 x23 x24 x25 x26 x27 x28 x29 x30), v1 :: v1 :: x16 :: (.bool false) :: s1 :: s2 :: s3 :: s4 :: s5 :: s6 :: s7 :: s8 :: s9 :: s10 :: s11 :: s12 :: s13 :: s14 :: s15 :: s16 :: s17 :: s18 :: s19 :: s20 :: s21 :: s22 :: s23 :: s24 :: s25 :: s26 :: s27 :: s28 :: s29 :: s30 :: s31 :: s32 :: s33 :: s34 :: s35 :: s36 :: s37 :: s38 :: s39 :: s40 :: s41 :: s42 :: s43 :: s44 :: s45 :: s46 :: s47 :: s48 :: s49 :: s50 :: []⟩ h nx (fun tm h nx => K tm.v h nx) := by kernel_rfl
theorem F17.r10_t {s1 s2 s3 s4 s5 s6 s7 s8 s9 s10 s11 s12 s13 s14 s15 s16 s17 s18 s19 s20 s21 s22 s23 s24 s25 s26 s27 s28 s29 s30 s31 s32 s33 s34 s35 s36 s37 s38 s39 s40 s41 s42 s43 s44 s45 s46 s47 s48 s49 s50 s51 s52 s53 : AV} : evD F17.r10 [] C ⟨(F17.fr x0 x1 x2 x3 x4 x5 x6 x7 x8 x9 x10 x11 x12 x13 x14 x15 x16 x17 x18 x19 x20 x21 x22 x23 x24 x25 x26 x27 x28 x29 x30), (.bool true) :: s1 :: s2 :: s3 :: s4 :: s5 :: s6 :: s7 :: s8 :: s9 :: s10 :: s11 :: s12 :: s13 :: s14 :: s15 :: s16 :: s17 :: s18 :: s19 :: s20 :: s21 :: s22 :: s23 :: s24 :: s25 :: s26 :: s27 :: s28 :: s29 :: s30 :: s31 :: s32 :: s33 :: s34 :: s35 :: s36 :: s37 :: s38 :: s39 :: s40 :: s41 :: s42 :: s43 :: s44 :: s45 :: s46 :: s47 :: s48 :: s49 :: s50 :: s51 :: s52 :: s53 :: []⟩ h nx (fun tm h nx => K tm.v h nx) =
 sBin .sub .int x16 (I 1) fun v1 =>
 zE 1 x12 v1 fun v2 =>
 zA v2 h fun v3 =>
 zE 1 x12 x16 fun v4 =>
 zA v4 h fun v5 =>
 C.fn 74 (.of 74) [v3, v5] h nx fun v6 h7 n8 =>
 sNot v6 fun v9 =>
 evD F17.r11 [] C ⟨(F17.fr x0 x1 x2 x3 x4 x5 x6 x7 x8 x9 x10 x11 x12 x13 x14 x15 x16 x17 x18 x19 x20 x21 x22 x23 x24 x25 x26 x27 x28 x29 x30), v9 :: v6 :: v5 :: v4 :: x16 :: x12 :: v3 :: v2 :: v1 :: x16 :: x12 :: (.bool true) :: s1 :: s2 :: s3 :: s4 :: s5 :: s6 :: s7 :: s8 :: s9 :: s10 :: s11 :: s12 :: s13 :: s14 :: s15 :: s16 :: s17 :: s18 :: s19 :: s20 :: s21 :: s22 :: s23 :: s24 :: s25 :: s26 :: s27 :: s28 :: s29 :: s30 :: s31 :: s32 :: s33 :: s34 :: s35 :: s36 :: s37 :: s38 :: s39 :: s40 :: s41 :: s42 :: s43 :: s44 :: s45 :: s46 :: s47 :: s48 :: s49 :: s50 :: s51 :: s52 :: s53 :: []⟩ h7 n8 (fun tm h nx => K tm.v h nx) := by kernel_rfl
theorem F17.r10_f {s1 s2 s3 s4 s5 s6 s7 s8 s9 s10 s11 s12 s13 s14 s15 s16 s17 s18 s19 s20 s21 s22 s23 s24 s25 s26 s27 s28 s29 s30 s31 s32 s33 s34 s35 s36 s37 s38 s39 s40 s41 s42 s43 s44 s45 s46 s47 s48 s49 s50 s51 s52 s53 : AV} : evD F17.r10 [] C ⟨(F17.fr x0 x1 x2 x3 x4 x5 x6 x7 x8 x9 x10 x11 x12 x13 x14 x15 x16 x17 x18 x19 x20 x21 x22 x23 x24 x25 x26 x27 x28 x29 x30), (.bool false) :: s1 :: s2 :: s3 :: s4 :: s5 :: s6 :: s7 :: s8 :: s9 :: s10 :: s11 :: s12 :: s13 :: s14 :: s15 :: s16 :: s17 :: s18 :: s19 :: s20 :: s21 :: s22 :: s23 :: s24 :: s25 :: s26 :: s27 :: s28 :: s29 :: s30 :: s31 :: s32 :: s33 :: s34 :: s35 :: s36 :: s37 :: s38 :: s39 :: s40 :: s41 :: s42 :: s43 :: s44 :: s45 :: s46 :: s47 :: s48 :: s49 :: s50 :: s51 :: s52 :: s53 :: []⟩ h nx (fun tm h nx => K tm.v h nx) =
 evD F17.r11 [] C ⟨(F17.fr x0 x1 x2 x3 x4 x5 x6 x7 x8 x9 x10 x11 x12 x13 x14 x15 x16 x17 x18 x19 x20 x21 x22 x23 x24 x25 x26 x27 x28 x29 x30), .undef :: .undef :: .undef :: .undef :: .undef :: .undef :: .undef :: .undef :: .undef :: .undef :: .undef :: (.bool false) :: s1 :: s2 :: s3 :: s4 :: s5 :: s6 :: s7 :: s8 :: s9 :: s10 :: s11 :: s12 :: s13 :: s14 :: s15 :: s16 :: s17 :: s18 :: s19 :: s20 :: s21 :: s22 :: s23 :: s24 :: s25 :: s26 :: s27 :: s28 :: s29 :: s30 :: s31 :: s32 :: s33 :: s34 :: s35 :: s36 :: s37 :: s38 :: s39 :: s40 :: s41 :: s42 :: s43 :: s44 :: s45 :: s46 :: s47 :: s48 :: s49 :: s50 :: s51 :: s52 :: s53 :: []⟩ h nx (fun tm h nx => K tm.v h nx) := by kernel_rfl
theorem F17.r11_f {s0 s1 s2 s3 s4 s5 s6 s7 s8 s9 s10 s11 s12 s13 s15 s16 s17 s18 s19 s20 s21 s22 s23 s24 s25 s26 s27 s28 s29 s30 s31 s32 s33 s34 s35 s36 s37 s38 s39 s40 s41 s42 s43 s44 s45 s46 s47 s48 s49 s50 s51 s52 s53 s54 s55 s56 s57 s58 s59 s60 s61 s62 s63 s64 : AV} : evD F17.r11 [] C ⟨(F17.fr x0 x1 x2 x3 x4 x5 x6 x7 x8 x9 x10 x11 x12 x13 x14 x15 x16 x17 x18 x19 x20 x21 x22 x23 x24 x25 x26 x27 x28 x29 x30), s0 :: s1 :: s2 :: s3 :: s4 :: s5 :: s6 :: s7 :: s8 :: s9 :: s10 :: s11 :: s12 :: s13 :: (.bool false) :: s15 :: s16 :: s17 :: s18 :: s19 :: s20 :: s21 :: s22 :: s23 :: s24 :: s25 :: s26 :: s27 :: s28 :: s29 :: s30 :: s31 :: s32 :: s33 :: s34 :: s35 :: s36 :: s37 :: s38 :: s39 :: s40 :: s41 :: s42 :: s43 :: s44 :: s45 :: s46 :: s47 :: s48 :: s49 :: s50 :: s51 :: s52 :: s53 :: s54 :: s55 :: s56 :: s57 :: s58 :: s59 :: s60 :: s61 :: s62 :: s63 :: s64 :: []⟩ h nx (fun tm h nx => K tm.v h nx) =
 jL s11 s0 (.bool false) fun v1 =>
 K (F17.fr x0 x1 x2 x3 x4 x5 x6 x7 x8 x9 x10 x11 x12 x13 x14 x15 x16 x17 x18 x19 x20 x21 x22 x23 x24 x25 x26 v1 x28 x29 x30) h nx := by kernel_rfl
end Go.Ev
namespace Go.Ev
open Go Go.Proofs
set_option maxRecDepth 100000
variable {N : Nat} {C : Calls Prop} {K0 : Kw Prop} {K R : Ks Prop} {h : T Blk} {nx : Pa} {x0 x1 x2 x3 x4 x5 x6 x7 a0 a1 : AV}
theorem F71.tab : T.get none (.of 71) tbl = some F71 := by kernel_rfl
theorem F71.go : zQ tbl N C (.of 71) [a0, a1] h nx K0 =
 sBox a0 h nx fun v1 h2 n3 =>
 sLen a1 fun v4 =>
 zN 0 v1 fun v5 =>
 zA v5 h2 fun v6 =>
 sBin .neq .int v4 v6 fun v7 =>
 zH v7 (K0 (I 2) h2 n3) (C.fn 118 (.of 118) [a1] h2 n3 fun v8 h9 n10 =>
 K0 v8 h9 n10) := by
 rw [zL F71.tab]; kernel_rfl
theorem F72.tab : T.get none (.of 72) tbl = some F72 := by kernel_rfl
theorem F72.go : zQ tbl N C (.of 72) [a0, a1] h nx K0 =
 sBox a0 h nx fun v1 h2 n3 =>
 yJ 2 v1 h2 fun v4 =>
 C.fn 119 (.of 119) [v4, a1] h2 n3 fun v5 h6 n7 =>
 sBin .lss .int v5 (I 0) fun v8 =>
 K0 v8 h6 n7 := by
 rw [zL F72.tab]; kernel_rfl
theorem F73.g1_eq (X2 : IR) (C : Calls Prop) (N : Nat) (O : Outs Prop) (K : Ks Prop) (x0 x1 x2 x3 x4 x5 x6 : AV) (h : T Blk) (nx : Pa) : IR.run (F73.g1 X2) C N O K (F73.fr x0 x1 x2 x3 x4 x5 x6) h nx =
 IR.run X2 C N (O.blk 0 K) K (F73.fr x0 x1 x2 x3 x4 x5 x6) h nx := by kernel_rfl
theorem F73.tab : T.get none (.of 73) tbl = some F73 := by kernel_rfl
theorem F73.go : zQ tbl N C (.of 73) [a0, a1] h nx K0 =
 sBox a0 h nx fun v1 h2 n3 =>
 IR.run F73.b1 C N (fnO F73.res K0) (IR.run F73.b8 C N (fnO F73.res K0) (retK F73.res K0)) (F73.fr a0 a1 v1 .nils .nils (I 0) .undef) h2 n3 := by
 rw [zL F73.tab]; kernel_rfl
theorem F73.e1 : IR.run F73.b3 C N ((fnO F73.res K0).blk 0 K) R (F73.fr x0 x1 x2 x3 x4 x5 x6) h nx =
 zN 1 x2 fun v1 =>
 zA v1 h fun v2 =>
 sLen v2 fun v3 =>
 sBin .lss .int x5 v3 fun v4 =>
 zH v4 (zN 1 x2 fun v5 =>
 zA v5 h fun v6 =>
 zE 1 v6 x5 fun v7 =>
 zA v7 h fun v8 =>
 C.fn 120 (.of 120) [v8, x1] h nx fun v9 h10 n11 =>
 yX 1 1 [(I 0)] [(0, 1, v9)] h10 n11 fun v12 h13 n14 =>
 sApp 1 8 x4 v12 h13 n14 fun v15 h16 n17 =>
 sBin .add .int x5 (I 1) fun v18 =>
 R (F73.fr x0 x1 x2 x3 v15 v18 v4) h16 n17) (K (F73.fr x0 x1 x2 x3 x4 x5 v4) h nx) := by kernel_rfl
theorem F73.L1 (Inv : Nat → AV → AV → T Blk → Pa → Prop) {m : Nat} (hm : m < N) (hi : Inv m x4 x5 h nx)
  (step : ∀ (m : Nat) (z4 z5 z6 : AV) (h : T Blk) (nx : Pa) (R : Ks Prop), Inv m z4 z5 h nx → (∀ (m' : Nat) (w4 w5 w6 : AV) (h' : T Blk) (nx' : Pa), m' < m → Inv m' w4 w5 h' nx' → R (F73.fr x0 x1 x2 x3 w4 w5 w6) h' nx' = .ok True) →
   (zN 1 x2 fun v1 =>
 zA v1 h fun v2 =>
 sLen v2 fun v3 =>
 sBin .lss .int z5 v3 fun v4 =>
 zH v4 (zN 1 x2 fun v5 =>
 zA v5 h fun v6 =>
 zE 1 v6 z5 fun v7 =>
 zA v7 h fun v8 =>
 C.fn 120 (.of 120) [v8, x1] h nx fun v9 h10 n11 =>
 yX 1 1 [(I 0)] [(0, 1, v9)] h10 n11 fun v12 h13 n14 =>
 sApp 1 8 z4 v12 h13 n14 fun v15 h16 n17 =>
 sBin .add .int z5 (I 1) fun v18 =>
 R (F73.fr x0 x1 x2 x3 v15 v18 v4) h16 n17) (K (F73.fr x0 x1 x2 x3 z4 z5 v4) h nx)) = .ok True) :
  IR.run F73.b1 C N (fnO F73.res K0) K (F73.fr x0 x1 x2 x3 x4 x5 x6) h nx = .ok True := by
 rw [F73.b1, F73.g1_eq, F73.b2]
 refine zX (fun m tm h nx => ∃ z4 z5 z6, tm = (F73.fr x0 x1 x2 x3 z4 z5 z6) ∧ Inv m z4 z5 h nx) ?_ hm ⟨_, _, _, rfl, hi⟩
 rintro m tm h nx R ⟨z4, z5, z6, rfl, hi⟩ hR
 rw [F73.e1]
 exact step m z4 z5 z6 h nx R hi fun m' w4 w5 w6 h' nx' hlt hi' => hR m' _ h' nx' hlt ⟨_, _, _, rfl, hi'⟩
theorem F73.k8 : IR.run F73.b8 C N (fnO F73.res K0) K (F73.fr x0 x1 x2 x3 x4 x5 x6) h nx =
 K0 x4 h nx := by kernel_rfl
theorem F118.g1_eq (X2 : IR) (C : Calls Prop) (N : Nat) (O : Outs Prop) (K : Ks Prop) (x0 x1 x2 x3 x4 : AV) (h : T Blk) (nx : Pa) : IR.run (F118.g1 X2) C N O K (F118.fr x0 x1 x2 x3 x4) h nx =
 IR.run X2 C N (O.blk 0 K) K (F118.fr x0 x1 x2 x3 x4) h nx := by kernel_rfl
theorem F118.tab : T.get none (.of 118) tbl = some F118 := by kernel_rfl
theorem F118.go : zQ tbl N C (.of 118) [a0] h nx K0 =
 IR.run F118.b1 C N (fnO F118.res K0) (IR.run F118.b8 C N (fnO F118.res K0) (retK F118.res K0)) (F118.fr a0 (I 0) (I 0) .undef .undef) h nx := by
 rw [zL F118.tab]; kernel_rfl
theorem F118.e1 : IR.run F118.b3 C N ((fnO F118.res K0).blk 0 K) R (F118.fr x0 x1 x2 x3 x4) h nx =
 sLen x0 fun v1 =>
 sBin .lss .int x2 v1 fun v2 =>
 zH v2 (zE 1 x0 x2 fun v3 =>
 zA v3 h fun v4 =>
 sBin .lss .int v4 (I (-999999999)) fun v5 =>
 sG v5 false (fun k => k x0) fun v6 =>
 sG v5 false (fun k => k x2) fun v7 =>
 sG v5 false (fun k => zE 1 v6 v7 k) fun v8 =>
 sG v5 false (fun k => zA v8 h k) fun v9 =>
 sG v5 false (fun k => sBin .gtr .int v9 (I 999999999) k) fun v10 =>
 jL v5 (.bool true) v10 fun v11 =>
 zH v11 (K0 (I 3) h nx) (sBin .add .int x2 (I 1) fun v12 =>
 R (F118.fr x0 x1 v12 v2 v11) h nx)) (K (F118.fr x0 x1 x2 v2 x4) h nx) := by kernel_rfl
theorem F118.L1 (Inv : Nat → AV → T Blk → Pa → Prop) {m : Nat} (hm : m < N) (hi : Inv m x2 h nx)
  (step : ∀ (m : Nat) (z1 z2 z3 z4 : AV) (h : T Blk) (nx : Pa) (R : Ks Prop), Inv m z2 h nx → (∀ (m' : Nat) (w1 w2 w3 w4 : AV) (h' : T Blk) (nx' : Pa), m' < m → Inv m' w2 h' nx' → R (F118.fr x0 w1 w2 w3 w4) h' nx' = .ok True) →
   (sLen x0 fun v1 =>
 sBin .lss .int z2 v1 fun v2 =>
 zH v2 (zE 1 x0 z2 fun v3 =>
 zA v3 h fun v4 =>
 sBin .lss .int v4 (I (-999999999)) fun v5 =>
 sG v5 false (fun k => k x0) fun v6 =>
 sG v5 false (fun k => k z2) fun v7 =>
 sG v5 false (fun k => zE 1 v6 v7 k) fun v8 =>
 sG v5 false (fun k => zA v8 h k) fun v9 =>
 sG v5 false (fun k => sBin .gtr .int v9 (I 999999999) k) fun v10 =>
 jL v5 (.bool true) v10 fun v11 =>
 zH v11 (K0 (I 3) h nx) (sBin .add .int z2 (I 1) fun v12 =>
 R (F118.fr x0 z1 v12 v2 v11) h nx)) (K (F118.fr x0 z1 z2 v2 z4) h nx)) = .ok True) :
  IR.run F118.b1 C N (fnO F118.res K0) K (F118.fr x0 x1 x2 x3 x4) h nx = .ok True := by
 rw [F118.b1, F118.g1_eq, F118.b2]
 refine zX (fun m tm h nx => ∃ z1 z2 z3 z4, tm = (F118.fr x0 z1 z2 z3 z4) ∧ Inv m z2 h nx) ?_ hm ⟨_, _, _, _, rfl, hi⟩
 rintro m tm h nx R ⟨z1, z2, z3, z4, rfl, hi⟩ hR
 rw [F118.e1]
 exact step m z1 z2 z3 z4 h nx R hi fun m' w1 w2 w3 w4 h' nx' hlt hi' => hR m' _ h' nx' hlt ⟨_, _, _, _, rfl, hi'⟩
theorem F118.k8 : IR.run F118.b8 C N (fnO F118.res K0) K (F118.fr x0 x1 x2 x3 x4) h nx =
 K0 (I 0) h nx := by kernel_rfl
theorem F119.g1_eq (X2 : IR) (C : Calls Prop) (N : Nat) (O : Outs Prop) (K : Ks Prop) (x0 x1 x2 x3 x4 x5 x6 x7 : AV) (h : T Blk) (nx : Pa) : IR.run (F119.g1 X2) C N O K (F119.fr x0 x1 x2 x3 x4 x5 x6 x7) h nx =
 IR.run X2 C N (O.blk 0 K) K (F119.fr x0 x1 x2 x3 x4 x5 x6 x7) h nx := by kernel_rfl
theorem F119.tab : T.get none (.of 119) tbl = some F119 := by kernel_rfl
theorem F119.go : zQ tbl N C (.of 119) [a0, a1] h nx K0 =
 sBox a0 h nx fun v1 h2 n3 =>
 yJ 2 v1 h2 fun v4 =>
 C.fn 73 (.of 73) [v4, a1] h2 n3 fun v5 h6 n7 =>
 IR.run F119.b1 C N (fnO F119.res K0) (IR.run F119.b8 C N (fnO F119.res K0) (retK F119.res K0)) (F119.fr a0 a1 v1 (I 0) v5 (I 0) .undef .undef) h6 n7 := by
 rw [zL F119.tab]; kernel_rfl
theorem F119.e1 : IR.run F119.b3 C N ((fnO F119.res K0).blk 0 K) R (F119.fr x0 x1 x2 x3 x4 x5 x6 x7) h nx =
 sLen x4 fun v1 =>
 sBin .lss .int x5 v1 fun v2 =>
 zH v2 (zE 1 x4 x5 fun v3 =>
 zA v3 h fun v4 =>
 zE 1 x4 (I 0) fun v5 =>
 zA v5 h fun v6 =>
 sBin .neq .int v4 v6 fun v7 =>
 zH v7 (K0 x5 h nx) (sBin .add .int x5 (I 1) fun v8 =>
 R (F119.fr x0 x1 x2 x3 x4 v8 v2 v7) h nx)) (K (F119.fr x0 x1 x2 x3 x4 x5 v2 x7) h nx) := by kernel_rfl
theorem F119.L1 (Inv : Nat → AV → T Blk → Pa → Prop) {m : Nat} (hm : m < N) (hi : Inv m x5 h nx)
  (step : ∀ (m : Nat) (z3 z5 z6 z7 : AV) (h : T Blk) (nx : Pa) (R : Ks Prop), Inv m z5 h nx → (∀ (m' : Nat) (w3 w5 w6 w7 : AV) (h' : T Blk) (nx' : Pa), m' < m → Inv m' w5 h' nx' → R (F119.fr x0 x1 x2 w3 x4 w5 w6 w7) h' nx' = .ok True) →
   (sLen x4 fun v1 =>
 sBin .lss .int z5 v1 fun v2 =>
 zH v2 (zE 1 x4 z5 fun v3 =>
 zA v3 h fun v4 =>
 zE 1 x4 (I 0) fun v5 =>
 zA v5 h fun v6 =>
 sBin .neq .int v4 v6 fun v7 =>
 zH v7 (K0 z5 h nx) (sBin .add .int z5 (I 1) fun v8 =>
 R (F119.fr x0 x1 x2 z3 x4 v8 v2 v7) h nx)) (K (F119.fr x0 x1 x2 z3 x4 z5 v2 z7) h nx)) = .ok True) :
  IR.run F119.b1 C N (fnO F119.res K0) K (F119.fr x0 x1 x2 x3 x4 x5 x6 x7) h nx = .ok True := by
 rw [F119.b1, F119.g1_eq, F119.b2]
 refine zX (fun m tm h nx => ∃ z3 z5 z6 z7, tm = (F119.fr x0 x1 x2 z3 x4 z5 z6 z7) ∧ Inv m z5 h nx) ?_ hm ⟨_, _, _, _, rfl, hi⟩
 rintro m tm h nx R ⟨z3, z5, z6, z7, rfl, hi⟩ hR
 rw [F119.e1]
 exact step m z3 z5 z6 z7 h nx R hi fun m' w3 w5 w6 w7 h' nx' hlt hi' => hR m' _ h' nx' hlt ⟨_, _, _, _, rfl, hi'⟩
theorem F119.k8 : IR.run F119.b8 C N (fnO F119.res K0) K (F119.fr x0 x1 x2 x3 x4 x5 x6 x7) h nx =
 K0 (I (-1)) h nx := by kernel_rfl
theorem F120.g1_eq (X2 : IR) (C : Calls Prop) (N : Nat) (O : Outs Prop) (K : Ks Prop) (x0 x1 x2 x3 x4 x5 : AV) (h : T Blk) (nx : Pa) : IR.run (F120.g1 X2) C N O K (F120.fr x0 x1 x2 x3 x4 x5) h nx =
 IR.run X2 C N (O.blk 0 K) K (F120.fr x0 x1 x2 x3 x4 x5) h nx := by kernel_rfl
theorem F120.tab : T.get none (.of 120) tbl = some F120 := by kernel_rfl
theorem F120.go : zQ tbl N C (.of 120) [a0, a1] h nx K0 =
 IR.run F120.b1 C N (fnO F120.res K0) (IR.run F120.b8 C N (fnO F120.res K0) (retK F120.res K0)) (F120.fr a0 a1 (I 0) (I 0) (I 0) .undef) h nx := by
 rw [zL F120.tab]; kernel_rfl
theorem F120.e1 : IR.run F120.b3 C N ((fnO F120.res K0).blk 0 K) R (F120.fr x0 x1 x2 x3 x4 x5) h nx =
 sLen x0 fun v1 =>
 sBin .lss .int x4 v1 fun v2 =>
 zH v2 (zE 1 x0 x4 fun v3 =>
 zA v3 h fun v4 =>
 zE 1 x1 v4 fun v5 =>
 zA v5 h fun v6 =>
 sBin .add .int x3 v6 fun v7 =>
 sBin .add .int x4 (I 1) fun v8 =>
 R (F120.fr x0 x1 x2 v7 v8 v2) h nx) (K (F120.fr x0 x1 x2 x3 x4 v2) h nx) := by kernel_rfl
theorem F120.L1 (Inv : Nat → AV → AV → T Blk → Pa → Prop) {m : Nat} (hm : m < N) (hi : Inv m x3 x4 h nx)
  (step : ∀ (m : Nat) (z3 z4 z5 : AV) (h : T Blk) (nx : Pa) (R : Ks Prop), Inv m z3 z4 h nx → (∀ (m' : Nat) (w3 w4 w5 : AV) (h' : T Blk) (nx' : Pa), m' < m → Inv m' w3 w4 h' nx' → R (F120.fr x0 x1 x2 w3 w4 w5) h' nx' = .ok True) →
   (sLen x0 fun v1 =>
 sBin .lss .int z4 v1 fun v2 =>
 zH v2 (zE 1 x0 z4 fun v3 =>
 zA v3 h fun v4 =>
 zE 1 x1 v4 fun v5 =>
 zA v5 h fun v6 =>
 sBin .add .int z3 v6 fun v7 =>
 sBin .add .int z4 (I 1) fun v8 =>
 R (F120.fr x0 x1 x2 v7 v8 v2) h nx) (K (F120.fr x0 x1 x2 z3 z4 v2) h nx)) = .ok True) :
  IR.run F120.b1 C N (fnO F120.res K0) K (F120.fr x0 x1 x2 x3 x4 x5) h nx = .ok True := by
 rw [F120.b1, F120.g1_eq, F120.b2]
 refine zX (fun m tm h nx => ∃ z3 z4 z5, tm = (F120.fr x0 x1 x2 z3 z4 z5) ∧ Inv m z3 z4 h nx) ?_ hm ⟨_, _, _, rfl, hi⟩
 rintro m tm h nx R ⟨z3, z4, z5, rfl, hi⟩ hR
 rw [F120.e1]
 exact step m z3 z4 z5 h nx R hi fun m' w3 w4 w5 h' nx' hlt hi' => hR m' _ h' nx' hlt ⟨_, _, _, rfl, hi'⟩
theorem F120.k8 : IR.run F120.b8 C N (fnO F120.res K0) K (F120.fr x0 x1 x2 x3 x4 x5) h nx =
 K0 x3 h nx := by kernel_rfl
end Go.Ev
