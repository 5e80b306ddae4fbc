import Derived.Test.YtepfaegpjddehaaGreatDoorIrT
import Derived.KernelRfl
set_option linter.unusedSimpArgs false
set_option linter.unusedVariables false
namespace Go.Ev
open Go Go.Proofs
set_option maxRecDepth 100000
variable {N : Nat} {C : Calls Prop} {K0 : Kw Prop} {K R : Ks Prop} {h : T Blk} {nx : Pa} {x0 x1 x2 x3 x4 x5 x6 x7 x8 x9 x10 x11 x12 x13 x14 x15 x16 x17 x18 x19 x20 a0 a1 a2 a3 a4 a5 a6 : AV}
theorem F79.tab : T.get none (.of 79) tbl = some F79 := by kernel_rfl
theorem F79.go : zV tbl N C (.of 79) [a0] h nx K0 =
 sBin .eql (.nil .sl) a0 .nils fun v1 =>
 zG v1 (K0 .nils h nx) (jE 1 0 [(I 0)] [] h nx fun v2 h3 n4 =>
 sApp 1 8 v2 a0 h3 n4 fun v5 h6 n7 =>
 K0 v5 h6 n7) := by
 rw [zL F79.tab]; kernel_rfl
theorem F35.g2_eq (X3 : IR) (C : Calls Prop) (N : Nat) (O : Outs Prop) (K : Ks Prop) (x0 x1 x2 x3 x4 x5 x6 : AV) (h : T Blk) (nx : Pa) : IR.run (F35.g2 X3) C N O K (F35.fr x0 x1 x2 x3 x4 x5 x6) h nx =
 IR.run X3 C N (O.blk 0 K) K (F35.fr x0 x1 x2 x3 x4 x5 x6) h nx := by kernel_rfl
theorem F35.tab : T.get none (.of 35) tbl = some F35 := by kernel_rfl
theorem F35.go : zV tbl N C (.of 35) [a0, a1] h nx K0 =
 sLen a0 fun v1 =>
 sLen a1 fun v2 =>
 sBin .neq .int v1 v2 fun v3 =>
 zG v3 (K0 (.bool false) h nx) (IR.run F35.b2 C N (fnO F35.res K0) (IR.run F35.b9 C N (fnO F35.res K0) (retK F35.res K0)) (F35.fr a0 a1 (.bool false) (I 0) v3 .undef .undef) h nx) := by
 rw [zL F35.tab]; kernel_rfl
theorem F35.e2 : IR.run F35.b4 C N ((fnO F35.res K0).blk 0 K) R (F35.fr x0 x1 x2 x3 x4 x5 x6) h nx =
 sLen x0 fun v1 =>
 sBin .lss .int x3 v1 fun v2 =>
 zG v2 (zF 1 x0 x3 fun v3 =>
 zA v3 h fun v4 =>
 zF 1 x1 x3 fun v5 =>
 zA v5 h fun v6 =>
 sBin .neq .int v4 v6 fun v7 =>
 zG v7 (K0 (.bool false) h nx) (sBin .add .int x3 (I 1) fun v8 =>
 R (F35.fr x0 x1 x2 v8 x4 v2 v7) h nx)) (K (F35.fr x0 x1 x2 x3 x4 v2 x6) h nx) := by kernel_rfl
theorem F35.L2 (Inv : Nat → AV → T Blk → Pa → Prop) {m : Nat} (hm : m < N) (hi : Inv m x3 h nx)
  (step : ∀ (m : Nat) (z2 z3 z5 z6 : AV) (h : T Blk) (nx : Pa) (R : Ks Prop), Inv m z3 h nx → (∀ (m' : Nat) (w2 w3 w5 w6 : AV) (h' : T Blk) (nx' : Pa), m' < m → Inv m' w3 h' nx' → R (F35.fr x0 x1 w2 w3 x4 w5 w6) h' nx' = .ok True) →
   (sLen x0 fun v1 =>
 sBin .lss .int z3 v1 fun v2 =>
 zG v2 (zF 1 x0 z3 fun v3 =>
 zA v3 h fun v4 =>
 zF 1 x1 z3 fun v5 =>
 zA v5 h fun v6 =>
 sBin .neq .int v4 v6 fun v7 =>
 zG v7 (K0 (.bool false) h nx) (sBin .add .int z3 (I 1) fun v8 =>
 R (F35.fr x0 x1 z2 v8 x4 v2 v7) h nx)) (K (F35.fr x0 x1 z2 z3 x4 v2 z6) h nx)) = .ok True) :
  IR.run F35.b2 C N (fnO F35.res K0) K (F35.fr x0 x1 x2 x3 x4 x5 x6) h nx = .ok True := by
 rw [F35.b2, F35.g2_eq, F35.b3]
 refine yU (fun m tm h nx => ∃ z2 z3 z5 z6, tm = (F35.fr x0 x1 z2 z3 x4 z5 z6) ∧ Inv m z3 h nx) ?_ hm ⟨_, _, _, _, rfl, hi⟩
 rintro m tm h nx R ⟨z2, z3, z5, z6, rfl, hi⟩ hR
 rw [F35.e2]
 exact step m z2 z3 z5 z6 h nx R hi fun m' w2 w3 w5 w6 h' nx' hlt hi' => hR m' _ h' nx' hlt ⟨_, _, _, _, rfl, hi'⟩
theorem F35.k9 : IR.run F35.b9 C N (fnO F35.res K0) K (F35.fr x0 x1 x2 x3 x4 x5 x6) h nx =
 K0 (.bool true) h nx := by kernel_rfl
theorem F82.tab : T.get none (.of 82) tbl = some F82 := by kernel_rfl
theorem F82.go : zV tbl N C (.of 82) [a0, a1] h nx K0 =
 zG a0 (K0 a1 h nx) (K0 (I 0) h nx) := by
 rw [zL F82.tab]; kernel_rfl
end Go.Ev
namespace Go.Ev
open Go Go.Proofs
set_option maxRecDepth 100000
variable {N : Nat} {C : Calls Prop} {K0 : Kw Prop} {K R : Ks Prop} {h : T Blk} {nx : Pa} {x0 x1 x2 x3 x4 x5 x6 x7 x8 x9 x10 x11 x12 x13 x14 x15 x16 x17 x18 x19 x20 x21 x22 x23 x24 x25 x26 x27 x28 x29 x30 x31 x32 x33 a0 a1 a2 a3 : AV}
theorem F89.g7_eq (X8 : IR) (C : Calls Prop) (N : Nat) (O : Outs Prop) (K : Ks Prop) (x0 x1 x2 x3 x4 x5 x6 x7 x8 x9 x10 x11 x12 x13 x14 x15 x16 x17 x18 x19 x20 x21 x22 x23 x24 x25 x26 x27 x28 x29 x30 x31 x32 x33 : AV) (h : T Blk) (nx : Pa) : IR.run (F89.g7 X8) C N O K (F89.fr x0 x1 x2 x3 x4 x5 x6 x7 x8 x9 x10 x11 x12 x13 x14 x15 x16 x17 x18 x19 x20 x21 x22 x23 x24 x25 x26 x27 x28 x29 x30 x31 x32 x33) h nx =
 IR.run X8 C N (O.blk 2 K) K (F89.fr x0 x1 x2 x3 x4 x5 x6 x7 x8 x9 x10 x11 x12 x13 x14 x15 x16 x17 x18 x19 x20 x21 x22 x23 x24 x25 x26 x27 x28 x29 x30 x31 x32 x33) h nx := by kernel_rfl
theorem F89.g1_eq (X2 : IR) (C : Calls Prop) (N : Nat) (O : Outs Prop) (K : Ks Prop) (x0 x1 x2 x3 x4 x5 x6 x7 x8 x9 x10 x11 x12 x13 x14 x15 x16 x17 x18 x19 x20 x21 x22 x23 x24 x25 x26 x27 x28 x29 x30 x31 x32 x33 : AV) (h : T Blk) (nx : Pa) : IR.run (F89.g1 X2) C N O K (F89.fr x0 x1 x2 x3 x4 x5 x6 x7 x8 x9 x10 x11 x12 x13 x14 x15 x16 x17 x18 x19 x20 x21 x22 x23 x24 x25 x26 x27 x28 x29 x30 x31 x32 x33) h nx =
 IR.run X2 C N (O.blk 0 K) K (F89.fr x0 x1 x2 x3 x4 x5 x6 x7 x8 x9 x10 x11 x12 x13 x14 x15 x16 x17 x18 x19 x20 x21 x22 x23 x24 x25 x26 x27 x28 x29 x30 x31 x32 x33) h nx := by kernel_rfl
theorem F89.g33_eq (X34 : IR) (C : Calls Prop) (N : Nat) (O : Outs Prop) (K : Ks Prop) (x0 x1 x2 x3 x4 x5 x6 x7 x8 x9 x10 x11 x12 x13 x14 x15 x16 x17 x18 x19 x20 x21 x22 x23 x24 x25 x26 x27 x28 x29 x30 x31 x32 x33 : AV) (h : T Blk) (nx : Pa) : IR.run (F89.g33 X34) C N O K (F89.fr x0 x1 x2 x3 x4 x5 x6 x7 x8 x9 x10 x11 x12 x13 x14 x15 x16 x17 x18 x19 x20 x21 x22 x23 x24 x25 x26 x27 x28 x29 x30 x31 x32 x33) h nx =
 IR.run X34 C N (O.blk 10 K) K (F89.fr x0 x1 x2 x3 x4 x5 x6 x7 x8 x9 x10 x11 x12 x13 x14 x15 x16 x17 x18 x19 x20 x21 x22 x23 x24 x25 x26 x27 x28 x29 x30 x31 x32 x33) h nx := by kernel_rfl
theorem F89.g27_eq (X28 : IR) (C : Calls Prop) (N : Nat) (O : Outs Prop) (K : Ks Prop) (x0 x1 x2 x3 x4 x5 x6 x7 x8 x9 x10 x11 x12 x13 x14 x15 x16 x17 x18 x19 x20 x21 x22 x23 x24 x25 x26 x27 x28 x29 x30 x31 x32 x33 : AV) (h : T Blk) (nx : Pa) : IR.run (F89.g27 X28) C N O K (F89.fr x0 x1 x2 x3 x4 x5 x6 x7 x8 x9 x10 x11 x12 x13 x14 x15 x16 x17 x18 x19 x20 x21 x22 x23 x24 x25 x26 x27 x28 x29 x30 x31 x32 x33) h nx =
 IR.run X28 C N (O.blk 8 K) K (F89.fr x0 x1 x2 x3 x4 x5 x6 x7 x8 x9 x10 x11 x12 x13 x14 x15 x16 x17 x18 x19 x20 x21 x22 x23 x24 x25 x26 x27 x28 x29 x30 x31 x32 x33) h nx := by kernel_rfl
theorem F89.g22_eq (X23 : IR) (C : Calls Prop) (N : Nat) (O : Outs Prop) (K : Ks Prop) (x0 x1 x2 x3 x4 x5 x6 x7 x8 x9 x10 x11 x12 x13 x14 x15 x16 x17 x18 x19 x20 x21 x22 x23 x24 x25 x26 x27 x28 x29 x30 x31 x32 x33 : AV) (h : T Blk) (nx : Pa) : IR.run (F89.g22 X23) C N O K (F89.fr x0 x1 x2 x3 x4 x5 x6 x7 x8 x9 x10 x11 x12 x13 x14 x15 x16 x17 x18 x19 x20 x21 x22 x23 x24 x25 x26 x27 x28 x29 x30 x31 x32 x33) h nx =
 IR.run X23 C N (O.blk 6 K) K (F89.fr x0 x1 x2 x3 x4 x5 x6 x7 x8 x9 x10 x11 x12 x13 x14 x15 x16 x17 x18 x19 x20 x21 x22 x23 x24 x25 x26 x27 x28 x29 x30 x31 x32 x33) h nx := by kernel_rfl
theorem F89.g16_eq (X17 : IR) (C : Calls Prop) (N : Nat) (O : Outs Prop) (K : Ks Prop) (x0 x1 x2 x3 x4 x5 x6 x7 x8 x9 x10 x11 x12 x13 x14 x15 x16 x17 x18 x19 x20 x21 x22 x23 x24 x25 x26 x27 x28 x29 x30 x31 x32 x33 : AV) (h : T Blk) (nx : Pa) : IR.run (F89.g16 X17) C N O K (F89.fr x0 x1 x2 x3 x4 x5 x6 x7 x8 x9 x10 x11 x12 x13 x14 x15 x16 x17 x18 x19 x20 x21 x22 x23 x24 x25 x26 x27 x28 x29 x30 x31 x32 x33) h nx =
 IR.run X17 C N (O.blk 4 K) K (F89.fr x0 x1 x2 x3 x4 x5 x6 x7 x8 x9 x10 x11 x12 x13 x14 x15 x16 x17 x18 x19 x20 x21 x22 x23 x24 x25 x26 x27 x28 x29 x30 x31 x32 x33) h nx := by kernel_rfl
theorem F89.tab : T.get none (.of 89) tbl = some F89 := by kernel_rfl
theorem F89.go : zV tbl N C (.of 89) [a0, a1, a2, a3] h nx K0 =
 sBox a0 h nx fun v1 h2 n3 =>
 zN 0 v1 fun v4 =>
 zA v4 h2 fun v5 =>
 sMkslice 1 24 [.nils] v5 v5 h2 n3 fun v6 h7 n8 =>
 zN 1 v1 fun v9 =>
 zA v9 h7 fun v10 =>
 sLen v10 fun v11 =>
 IR.run F89.b1 C N (fnO F89.res K0) (IR.run F89.b15 C N (fnO F89.res K0) (retK F89.res K0)) (F89.fr a0 a1 a2 a3 v1 .nilm v6 .undef .undef .undef .undef .undef .undef .undef .undef .undef .undef .undef v10 v11 (I 0) .undef .undef .undef .undef .undef .undef .undef .undef .undef .undef .undef .undef .undef) h7 n8 := by
 rw [zL F89.tab]; kernel_rfl
theorem F89.e1 : IR.run F89.b3 C N ((fnO F89.res K0).blk 0 K) R (F89.fr x0 x1 x2 x3 x4 x5 x6 x7 x8 x9 x10 x11 x12 x13 x14 x15 x16 x17 x18 x19 x20 x21 x22 x23 x24 x25 x26 x27 x28 x29 x30 x31 x32 x33) h nx =
 sBin .lss .int x20 x19 fun v1 =>
 zG v1 (zF 1 x18 x20 fun v2 =>
 zA v2 h fun v3 =>
 sLen v3 fun v4 =>
 IR.run F89.b7 C N (((fnO F89.res K0).blk 0 K).blk 1 (IR.run F89.b14 C N ((fnO F89.res K0).blk 0 K) R)) (IR.run F89.b14 C N ((fnO F89.res K0).blk 0 K) R) (F89.fr x0 x1 x2 x3 x4 x5 x6 x20 v3 x9 x10 x11 x12 x13 x14 x15 x16 x17 x18 x19 x20 v1 v3 v4 (I 0) x25 x26 x27 x28 x29 x30 x31 x32 x33) h nx) (K (F89.fr x0 x1 x2 x3 x4 x5 x6 x7 x8 x9 x10 x11 x12 x13 x14 x15 x16 x17 x18 x19 x20 v1 x22 x23 x24 x25 x26 x27 x28 x29 x30 x31 x32 x33) h nx) := by kernel_rfl
theorem F89.L1 (Inv : Nat → AV → T Blk → Pa → Prop) {m : Nat} (hm : m < N) (hi : Inv m x20 h nx)
  (step : ∀ (m : Nat) (z7 z8 z9 z20 z21 z22 z23 z24 z25 : AV) (h : T Blk) (nx : Pa) (R : Ks Prop), Inv m z20 h nx → (∀ (m' : Nat) (w7 w8 w9 w20 w21 w22 w23 w24 w25 : AV) (h' : T Blk) (nx' : Pa), m' < m → Inv m' w20 h' nx' → R (F89.fr x0 x1 x2 x3 x4 x5 x6 w7 w8 w9 x10 x11 x12 x13 x14 x15 x16 x17 x18 x19 w20 w21 w22 w23 w24 w25 x26 x27 x28 x29 x30 x31 x32 x33) h' nx' = .ok True) →
   (sBin .lss .int z20 x19 fun v1 =>
 zG v1 (zF 1 x18 z20 fun v2 =>
 zA v2 h fun v3 =>
 sLen v3 fun v4 =>
 IR.run F89.b7 C N (((fnO F89.res K0).blk 0 K).blk 1 (IR.run F89.b14 C N ((fnO F89.res K0).blk 0 K) R)) (IR.run F89.b14 C N ((fnO F89.res K0).blk 0 K) R) (F89.fr x0 x1 x2 x3 x4 x5 x6 z20 v3 z9 x10 x11 x12 x13 x14 x15 x16 x17 x18 x19 z20 v1 v3 v4 (I 0) z25 x26 x27 x28 x29 x30 x31 x32 x33) h nx) (K (F89.fr x0 x1 x2 x3 x4 x5 x6 z7 z8 z9 x10 x11 x12 x13 x14 x15 x16 x17 x18 x19 z20 v1 z22 z23 z24 z25 x26 x27 x28 x29 x30 x31 x32 x33) h nx)) = .ok True) :
  IR.run F89.b1 C N (fnO F89.res K0) K (F89.fr x0 x1 x2 x3 x4 x5 x6 x7 x8 x9 x10 x11 x12 x13 x14 x15 x16 x17 x18 x19 x20 x21 x22 x23 x24 x25 x26 x27 x28 x29 x30 x31 x32 x33) h nx = .ok True := by
 rw [F89.b1, F89.g1_eq, F89.b2]
 refine yU (fun m tm h nx => ∃ z7 z8 z9 z20 z21 z22 z23 z24 z25, tm = (F89.fr x0 x1 x2 x3 x4 x5 x6 z7 z8 z9 x10 x11 x12 x13 x14 x15 x16 x17 x18 x19 z20 z21 z22 z23 z24 z25 x26 x27 x28 x29 x30 x31 x32 x33) ∧ Inv m z20 h nx) ?_ hm ⟨_, _, _, _, _, _, _, _, _, rfl, hi⟩
 rintro m tm h nx R ⟨z7, z8, z9, z20, z21, z22, z23, z24, z25, rfl, hi⟩ hR
 rw [F89.e1]
 exact step m z7 z8 z9 z20 z21 z22 z23 z24 z25 h nx R hi fun m' w7 w8 w9 w20 w21 w22 w23 w24 w25 h' nx' hlt hi' => hR m' _ h' nx' hlt ⟨_, _, _, _, _, _, _, _, _, rfl, hi'⟩
theorem F89.k15 : IR.run F89.b15 C N (fnO F89.res K0) K (F89.fr x0 x1 x2 x3 x4 x5 x6 x7 x8 x9 x10 x11 x12 x13 x14 x15 x16 x17 x18 x19 x20 x21 x22 x23 x24 x25 x26 x27 x28 x29 x30 x31 x32 x33) h nx =
 sMkmap h nx fun v1 h2 n3 =>
 sBuild zU [] fun v4 =>
 sMapup (.agg 128) v1 v4 (I 1) h2 n3 fun v5 h6 n7 =>
 IR.run F89.b16 C N (fnO F89.res K0) (IR.run F89.b44 C N (fnO F89.res K0) K) (F89.fr x0 x1 x2 x3 x4 x5 x6 x7 x8 x9 v1 x1 x12 x13 x14 x15 x16 x17 x18 x19 x20 x21 x22 x23 x24 x25 x26 x27 x28 x29 x30 x31 x32 x33) h6 n7 := by kernel_rfl
theorem F89.k14 {E0 : Ks Prop} : IR.run F89.b14 C N ((fnO F89.res K0).blk 0 E0) K (F89.fr x0 x1 x2 x3 x4 x5 x6 x7 x8 x9 x10 x11 x12 x13 x14 x15 x16 x17 x18 x19 x20 x21 x22 x23 x24 x25 x26 x27 x28 x29 x30 x31 x32 x33) h nx =
 sBin .add .int x20 (I 1) fun v1 =>
 K (F89.fr x0 x1 x2 x3 x4 x5 x6 x7 x8 x9 x10 x11 x12 x13 x14 x15 x16 x17 x18 x19 v1 x21 x22 x23 x24 x25 x26 x27 x28 x29 x30 x31 x32 x33) h nx := by kernel_rfl
theorem F89.e7 {E0 E1 : Ks Prop} : IR.run F89.b9 C N ((((fnO F89.res K0).blk 0 E0).blk 1 E1).blk 2 K) R (F89.fr x0 x1 x2 x3 x4 x5 x6 x7 x8 x9 x10 x11 x12 x13 x14 x15 x16 x17 x18 x19 x20 x21 x22 x23 x24 x25 x26 x27 x28 x29 x30 x31 x32 x33) h nx =
 sBin .lss .int x24 x23 fun v1 =>
 zG v1 (zF 1 x22 x24 fun v2 =>
 zA v2 h fun v3 =>
 zF 1 x6 v3 fun v4 =>
 zA v4 h fun v5 =>
 jE 1 1 [(I 0)] [(0, 1, x7)] h nx fun v6 h7 n8 =>
 sApp 1 8 v5 v6 h7 n8 fun v9 h10 n11 =>
 zF 1 x6 v3 fun v12 =>
 zQ 1 v12 v9 h10 n11 fun v13 h14 n15 =>
 sBin .add .int x24 (I 1) fun v16 =>
 R (F89.fr x0 x1 x2 x3 x4 x5 x6 x7 x8 v3 x10 x11 x12 x13 x14 x15 x16 x17 x18 x19 x20 x21 x22 x23 v16 v1 x26 x27 x28 x29 x30 x31 x32 x33) h14 n15) (K (F89.fr x0 x1 x2 x3 x4 x5 x6 x7 x8 x9 x10 x11 x12 x13 x14 x15 x16 x17 x18 x19 x20 x21 x22 x23 x24 v1 x26 x27 x28 x29 x30 x31 x32 x33) h nx) := by kernel_rfl
theorem F89.L7 {E0 E1 : Ks Prop} (Inv : Nat → AV → T Blk → Pa → Prop) {m : Nat} (hm : m < N) (hi : Inv m x24 h nx)
  (step : ∀ (m : Nat) (z9 z24 z25 : AV) (h : T Blk) (nx : Pa) (R : Ks Prop), Inv m z24 h nx → (∀ (m' : Nat) (w9 w24 w25 : AV) (h' : T Blk) (nx' : Pa), m' < m → Inv m' w24 h' nx' → R (F89.fr x0 x1 x2 x3 x4 x5 x6 x7 x8 w9 x10 x11 x12 x13 x14 x15 x16 x17 x18 x19 x20 x21 x22 x23 w24 w25 x26 x27 x28 x29 x30 x31 x32 x33) h' nx' = .ok True) →
   (sBin .lss .int z24 x23 fun v1 =>
 zG v1 (zF 1 x22 z24 fun v2 =>
 zA v2 h fun v3 =>
 zF 1 x6 v3 fun v4 =>
 zA v4 h fun v5 =>
 jE 1 1 [(I 0)] [(0, 1, x7)] h nx fun v6 h7 n8 =>
 sApp 1 8 v5 v6 h7 n8 fun v9 h10 n11 =>
 zF 1 x6 v3 fun v12 =>
 zQ 1 v12 v9 h10 n11 fun v13 h14 n15 =>
 sBin .add .int z24 (I 1) fun v16 =>
 R (F89.fr x0 x1 x2 x3 x4 x5 x6 x7 x8 v3 x10 x11 x12 x13 x14 x15 x16 x17 x18 x19 x20 x21 x22 x23 v16 v1 x26 x27 x28 x29 x30 x31 x32 x33) h14 n15) (K (F89.fr x0 x1 x2 x3 x4 x5 x6 x7 x8 z9 x10 x11 x12 x13 x14 x15 x16 x17 x18 x19 x20 x21 x22 x23 z24 v1 x26 x27 x28 x29 x30 x31 x32 x33) h nx)) = .ok True) :
  IR.run F89.b7 C N (((fnO F89.res K0).blk 0 E0).blk 1 E1) K (F89.fr x0 x1 x2 x3 x4 x5 x6 x7 x8 x9 x10 x11 x12 x13 x14 x15 x16 x17 x18 x19 x20 x21 x22 x23 x24 x25 x26 x27 x28 x29 x30 x31 x32 x33) h nx = .ok True := by
 rw [F89.b7, F89.g7_eq, F89.b8]
 refine yU (fun m tm h nx => ∃ z9 z24 z25, tm = (F89.fr x0 x1 x2 x3 x4 x5 x6 x7 x8 z9 x10 x11 x12 x13 x14 x15 x16 x17 x18 x19 x20 x21 x22 x23 z24 z25 x26 x27 x28 x29 x30 x31 x32 x33) ∧ Inv m z24 h nx) ?_ hm ⟨_, _, _, rfl, hi⟩
 rintro m tm h nx R ⟨z9, z24, z25, rfl, hi⟩ hR
 rw [F89.e7]
 exact step m z9 z24 z25 h nx R hi fun m' w9 w24 w25 h' nx' hlt hi' => hR m' _ h' nx' hlt ⟨_, _, _, rfl, hi'⟩
theorem F89.e16 : IR.run F89.b18 C N ((fnO F89.res K0).blk 4 K) R (F89.fr x0 x1 x2 x3 x4 x5 x6 x7 x8 x9 x10 x11 x12 x13 x14 x15 x16 x17 x18 x19 x20 x21 x22 x23 x24 x25 x26 x27 x28 x29 x30 x31 x32 x33) h nx =
 sBin .lss .int x11 x2 fun v1 =>
 zG v1 (sMkmap h nx fun v2 h3 n4 =>
 sRange x10 h3 n4 fun v5 h6 n7 =>
 IR.run F89.b22 C N (((fnO F89.res K0).blk 4 K).blk 5 (IR.run F89.b43 C N ((fnO F89.res K0).blk 4 K) R)) (IR.run F89.b42 C N (((fnO F89.res K0).blk 4 K).blk 5 (IR.run F89.b43 C N ((fnO F89.res K0).blk 4 K) R)) (IR.run F89.b43 C N ((fnO F89.res K0).blk 4 K) R)) (F89.fr x0 x1 x2 x3 x4 x5 x6 x7 x8 x9 x10 x11 v2 x13 x14 x15 x16 x17 x18 x19 x20 x21 x22 x23 x24 x25 v1 v5 x28 x29 x30 x31 x32 x33) h6 n7) (K (F89.fr x0 x1 x2 x3 x4 x5 x6 x7 x8 x9 x10 x11 x12 x13 x14 x15 x16 x17 x18 x19 x20 x21 x22 x23 x24 x25 v1 x27 x28 x29 x30 x31 x32 x33) h nx) := by kernel_rfl
theorem F89.L16 (Inv : Nat → AV → AV → T Blk → Pa → Prop) {m : Nat} (hm : m < N) (hi : Inv m x10 x11 h nx)
  (step : ∀ (m : Nat) (z10 z11 z12 z13 z14 z15 z16 z17 z26 z27 z28 z29 z30 z31 z32 z33 : AV) (h : T Blk) (nx : Pa) (R : Ks Prop), Inv m z10 z11 h nx → (∀ (m' : Nat) (w10 w11 w12 w13 w14 w15 w16 w17 w26 w27 w28 w29 w30 w31 w32 w33 : AV) (h' : T Blk) (nx' : Pa), m' < m → Inv m' w10 w11 h' nx' → R (F89.fr x0 x1 x2 x3 x4 x5 x6 x7 x8 x9 w10 w11 w12 w13 w14 w15 w16 w17 x18 x19 x20 x21 x22 x23 x24 x25 w26 w27 w28 w29 w30 w31 w32 w33) h' nx' = .ok True) →
   (sBin .lss .int z11 x2 fun v1 =>
 zG v1 (sMkmap h nx fun v2 h3 n4 =>
 sRange z10 h3 n4 fun v5 h6 n7 =>
 IR.run F89.b22 C N (((fnO F89.res K0).blk 4 K).blk 5 (IR.run F89.b43 C N ((fnO F89.res K0).blk 4 K) R)) (IR.run F89.b42 C N (((fnO F89.res K0).blk 4 K).blk 5 (IR.run F89.b43 C N ((fnO F89.res K0).blk 4 K) R)) (IR.run F89.b43 C N ((fnO F89.res K0).blk 4 K) R)) (F89.fr x0 x1 x2 x3 x4 x5 x6 x7 x8 x9 z10 z11 v2 z13 z14 z15 z16 z17 x18 x19 x20 x21 x22 x23 x24 x25 v1 v5 z28 z29 z30 z31 z32 z33) h6 n7) (K (F89.fr x0 x1 x2 x3 x4 x5 x6 x7 x8 x9 z10 z11 z12 z13 z14 z15 z16 z17 x18 x19 x20 x21 x22 x23 x24 x25 v1 z27 z28 z29 z30 z31 z32 z33) h nx)) = .ok True) :
  IR.run F89.b16 C N (fnO F89.res K0) K (F89.fr x0 x1 x2 x3 x4 x5 x6 x7 x8 x9 x10 x11 x12 x13 x14 x15 x16 x17 x18 x19 x20 x21 x22 x23 x24 x25 x26 x27 x28 x29 x30 x31 x32 x33) h nx = .ok True := by
 rw [F89.b16, F89.g16_eq, F89.b17]
 refine yU (fun m tm h nx => ∃ z10 z11 z12 z13 z14 z15 z16 z17 z26 z27 z28 z29 z30 z31 z32 z33, tm = (F89.fr x0 x1 x2 x3 x4 x5 x6 x7 x8 x9 z10 z11 z12 z13 z14 z15 z16 z17 x18 x19 x20 x21 x22 x23 x24 x25 z26 z27 z28 z29 z30 z31 z32 z33) ∧ Inv m z10 z11 h nx) ?_ hm ⟨_, _, _, _, _, _, _, _, _, _, _, _, _, _, _, _, rfl, hi⟩
 rintro m tm h nx R ⟨z10, z11, z12, z13, z14, z15, z16, z17, z26, z27, z28, z29, z30, z31, z32, z33, rfl, hi⟩ hR
 rw [F89.e16]
 exact step m z10 z11 z12 z13 z14 z15 z16 z17 z26 z27 z28 z29 z30 z31 z32 z33 h nx R hi fun m' w10 w11 w12 w13 w14 w15 w16 w17 w26 w27 w28 w29 w30 w31 w32 w33 h' nx' hlt hi' => hR m' _ h' nx' hlt ⟨_, _, _, _, _, _, _, _, _, _, _, _, _, _, _, _, rfl, hi'⟩
theorem F89.k44 : IR.run F89.b44 C N (fnO F89.res K0) K (F89.fr x0 x1 x2 x3 x4 x5 x6 x7 x8 x9 x10 x11 x12 x13 x14 x15 x16 x17 x18 x19 x20 x21 x22 x23 x24 x25 x26 x27 x28 x29 x30 x31 x32 x33) h nx =
 K0 x10 h nx := by kernel_rfl
theorem F89.k43 {E4 : Ks Prop} : IR.run F89.b43 C N ((fnO F89.res K0).blk 4 E4) K (F89.fr x0 x1 x2 x3 x4 x5 x6 x7 x8 x9 x10 x11 x12 x13 x14 x15 x16 x17 x18 x19 x20 x21 x22 x23 x24 x25 x26 x27 x28 x29 x30 x31 x32 x33) h nx =
 sBin .add .int x11 (I 1) fun v1 =>
 K (F89.fr x0 x1 x2 x3 x4 x5 x6 x7 x8 x9 x10 v1 x12 x13 x14 x15 x16 x17 x18 x19 x20 x21 x22 x23 x24 x25 x26 x27 x28 x29 x30 x31 x32 x33) h nx := by kernel_rfl
theorem F89.e22 {E4 E5 : Ks Prop} : IR.run F89.b24 C N ((((fnO F89.res K0).blk 4 E4).blk 5 E5).blk 6 K) R (F89.fr x0 x1 x2 x3 x4 x5 x6 x7 x8 x9 x10 x11 x12 x13 x14 x15 x16 x17 x18 x19 x20 x21 x22 x23 x24 x25 x26 x27 x28 x29 x30 x31 x32 x33) h nx =
 sNext C x27 h nx fun v1 h2 n3 =>
 sExt 0 v1 fun v4 =>
 zG v4 (sEntry x27 h2 fun v5 =>
 sExt 0 v5 fun v6 =>
 sExt 1 v5 fun v7 =>
 jO zU h2 n3 fun v8 h9 n10 =>
 zQ 128 v8 v6 h9 n10 fun v11 h12 n13 =>
 IR.run F89.b27 C N (((((fnO F89.res K0).blk 4 E4).blk 5 E5).blk 6 K).blk 7 R) R (F89.fr x0 x1 x2 x3 x4 x5 x6 x7 x8 x9 x10 x11 x12 v8 v7 (I 0) x16 x17 x18 x19 x20 x21 x22 x23 x24 x25 x26 x27 v4 x29 x30 x31 x32 x33) h12 n13) (K (F89.fr x0 x1 x2 x3 x4 x5 x6 x7 x8 x9 x10 x11 x12 x13 x14 x15 x16 x17 x18 x19 x20 x21 x22 x23 x24 x25 x26 x27 v4 x29 x30 x31 x32 x33) h2 n3) := by kernel_rfl
theorem F89.L22 {E4 E5 : Ks Prop} (Inv : Nat → T Blk → Pa → Prop) {m : Nat} (hm : m < N) (hi : Inv m  h nx)
  (step : ∀ (m : Nat) (z13 z14 z15 z16 z17 z28 z29 z30 z31 z32 z33 : AV) (h : T Blk) (nx : Pa) (R : Ks Prop), Inv m  h nx → (∀ (m' : Nat) (w13 w14 w15 w16 w17 w28 w29 w30 w31 w32 w33 : AV) (h' : T Blk) (nx' : Pa), m' < m → Inv m'  h' nx' → R (F89.fr x0 x1 x2 x3 x4 x5 x6 x7 x8 x9 x10 x11 x12 w13 w14 w15 w16 w17 x18 x19 x20 x21 x22 x23 x24 x25 x26 x27 w28 w29 w30 w31 w32 w33) h' nx' = .ok True) →
   (sNext C x27 h nx fun v1 h2 n3 =>
 sExt 0 v1 fun v4 =>
 zG v4 (sEntry x27 h2 fun v5 =>
 sExt 0 v5 fun v6 =>
 sExt 1 v5 fun v7 =>
 jO zU h2 n3 fun v8 h9 n10 =>
 zQ 128 v8 v6 h9 n10 fun v11 h12 n13 =>
 IR.run F89.b27 C N (((((fnO F89.res K0).blk 4 E4).blk 5 E5).blk 6 K).blk 7 R) R (F89.fr x0 x1 x2 x3 x4 x5 x6 x7 x8 x9 x10 x11 x12 v8 v7 (I 0) z16 z17 x18 x19 x20 x21 x22 x23 x24 x25 x26 x27 v4 z29 z30 z31 z32 z33) h12 n13) (K (F89.fr x0 x1 x2 x3 x4 x5 x6 x7 x8 x9 x10 x11 x12 z13 z14 z15 z16 z17 x18 x19 x20 x21 x22 x23 x24 x25 x26 x27 v4 z29 z30 z31 z32 z33) h2 n3)) = .ok True) :
  IR.run F89.b22 C N (((fnO F89.res K0).blk 4 E4).blk 5 E5) K (F89.fr x0 x1 x2 x3 x4 x5 x6 x7 x8 x9 x10 x11 x12 x13 x14 x15 x16 x17 x18 x19 x20 x21 x22 x23 x24 x25 x26 x27 x28 x29 x30 x31 x32 x33) h nx = .ok True := by
 rw [F89.b22, F89.g22_eq, F89.b23]
 refine yU (fun m tm h nx => ∃ z13 z14 z15 z16 z17 z28 z29 z30 z31 z32 z33, tm = (F89.fr x0 x1 x2 x3 x4 x5 x6 x7 x8 x9 x10 x11 x12 z13 z14 z15 z16 z17 x18 x19 x20 x21 x22 x23 x24 x25 x26 x27 z28 z29 z30 z31 z32 z33) ∧ Inv m  h nx) ?_ hm ⟨_, _, _, _, _, _, _, _, _, _, _, rfl, hi⟩
 rintro m tm h nx R ⟨z13, z14, z15, z16, z17, z28, z29, z30, z31, z32, z33, rfl, hi⟩ hR
 rw [F89.e22]
 exact step m z13 z14 z15 z16 z17 z28 z29 z30 z31 z32 z33 h nx R hi fun m' w13 w14 w15 w16 w17 w28 w29 w30 w31 w32 w33 h' nx' hlt hi' => hR m' _ h' nx' hlt ⟨_, _, _, _, _, _, _, _, _, _, _, rfl, hi'⟩
theorem F89.k42 {E4 E5 : Ks Prop} : IR.run F89.b42 C N (((fnO F89.res K0).blk 4 E4).blk 5 E5) K (F89.fr x0 x1 x2 x3 x4 x5 x6 x7 x8 x9 x10 x11 x12 x13 x14 x15 x16 x17 x18 x19 x20 x21 x22 x23 x24 x25 x26 x27 x28 x29 x30 x31 x32 x33) h nx =
 K (F89.fr x0 x1 x2 x3 x4 x5 x6 x7 x8 x9 x12 x11 x12 x13 x14 x15 x16 x17 x18 x19 x20 x21 x22 x23 x24 x25 x26 x27 x28 x29 x30 x31 x32 x33) h nx := by kernel_rfl
theorem F89.e27 {E4 E5 E6 E7 : Ks Prop} : IR.run F89.b29 C N ((((((fnO F89.res K0).blk 4 E4).blk 5 E5).blk 6 E6).blk 7 E7).blk 8 K) R (F89.fr x0 x1 x2 x3 x4 x5 x6 x7 x8 x9 x10 x11 x12 x13 x14 x15 x16 x17 x18 x19 x20 x21 x22 x23 x24 x25 x26 x27 x28 x29 x30 x31 x32 x33) h nx =
 sBin .leq .int x15 x3 fun v1 =>
 zG v1 (yB 128 x13 h fun v2 =>
 jO zU h nx fun v3 h4 n5 =>
 zQ 128 v3 v2 h4 n5 fun v6 h7 n8 =>
 zF 1 x6 x11 fun v9 =>
 zA v9 h7 fun v10 =>
 sLen v10 fun v11 =>
 IR.run F89.b33 C N (((((((fnO F89.res K0).blk 4 E4).blk 5 E5).blk 6 E6).blk 7 E7).blk 8 K).blk 9 (IR.run F89.b41 C N ((((((fnO F89.res K0).blk 4 E4).blk 5 E5).blk 6 E6).blk 7 E7).blk 8 K) R)) (IR.run F89.b40 C N (((((((fnO F89.res K0).blk 4 E4).blk 5 E5).blk 6 E6).blk 7 E7).blk 8 K).blk 9 (IR.run F89.b41 C N ((((((fnO F89.res K0).blk 4 E4).blk 5 E5).blk 6 E6).blk 7 E7).blk 8 K) R)) (IR.run F89.b41 C N ((((((fnO F89.res K0).blk 4 E4).blk 5 E5).blk 6 E6).blk 7 E7).blk 8 K) R)) (F89.fr x0 x1 x2 x3 x4 x5 x6 x7 x8 x9 x10 x11 x12 x13 x14 x15 v3 x17 x18 x19 x20 x21 x22 x23 x24 x25 x26 x27 x28 v1 v10 v11 (I 0) x33) h7 n8) (K (F89.fr x0 x1 x2 x3 x4 x5 x6 x7 x8 x9 x10 x11 x12 x13 x14 x15 x16 x17 x18 x19 x20 x21 x22 x23 x24 x25 x26 x27 x28 v1 x30 x31 x32 x33) h nx) := by kernel_rfl
theorem F89.L27 {E4 E5 E6 E7 : Ks Prop} (Inv : Nat → AV → T Blk → Pa → Prop) {m : Nat} (hm : m < N) (hi : Inv m x15 h nx)
  (step : ∀ (m : Nat) (z15 z16 z17 z29 z30 z31 z32 z33 : AV) (h : T Blk) (nx : Pa) (R : Ks Prop), Inv m z15 h nx → (∀ (m' : Nat) (w15 w16 w17 w29 w30 w31 w32 w33 : AV) (h' : T Blk) (nx' : Pa), m' < m → Inv m' w15 h' nx' → R (F89.fr x0 x1 x2 x3 x4 x5 x6 x7 x8 x9 x10 x11 x12 x13 x14 w15 w16 w17 x18 x19 x20 x21 x22 x23 x24 x25 x26 x27 x28 w29 w30 w31 w32 w33) h' nx' = .ok True) →
   (sBin .leq .int z15 x3 fun v1 =>
 zG v1 (yB 128 x13 h fun v2 =>
 jO zU h nx fun v3 h4 n5 =>
 zQ 128 v3 v2 h4 n5 fun v6 h7 n8 =>
 zF 1 x6 x11 fun v9 =>
 zA v9 h7 fun v10 =>
 sLen v10 fun v11 =>
 IR.run F89.b33 C N (((((((fnO F89.res K0).blk 4 E4).blk 5 E5).blk 6 E6).blk 7 E7).blk 8 K).blk 9 (IR.run F89.b41 C N ((((((fnO F89.res K0).blk 4 E4).blk 5 E5).blk 6 E6).blk 7 E7).blk 8 K) R)) (IR.run F89.b40 C N (((((((fnO F89.res K0).blk 4 E4).blk 5 E5).blk 6 E6).blk 7 E7).blk 8 K).blk 9 (IR.run F89.b41 C N ((((((fnO F89.res K0).blk 4 E4).blk 5 E5).blk 6 E6).blk 7 E7).blk 8 K) R)) (IR.run F89.b41 C N ((((((fnO F89.res K0).blk 4 E4).blk 5 E5).blk 6 E6).blk 7 E7).blk 8 K) R)) (F89.fr x0 x1 x2 x3 x4 x5 x6 x7 x8 x9 x10 x11 x12 x13 x14 z15 v3 z17 x18 x19 x20 x21 x22 x23 x24 x25 x26 x27 x28 v1 v10 v11 (I 0) z33) h7 n8) (K (F89.fr x0 x1 x2 x3 x4 x5 x6 x7 x8 x9 x10 x11 x12 x13 x14 z15 z16 z17 x18 x19 x20 x21 x22 x23 x24 x25 x26 x27 x28 v1 z30 z31 z32 z33) h nx)) = .ok True) :
  IR.run F89.b27 C N (((((fnO F89.res K0).blk 4 E4).blk 5 E5).blk 6 E6).blk 7 E7) K (F89.fr x0 x1 x2 x3 x4 x5 x6 x7 x8 x9 x10 x11 x12 x13 x14 x15 x16 x17 x18 x19 x20 x21 x22 x23 x24 x25 x26 x27 x28 x29 x30 x31 x32 x33) h nx = .ok True := by
 rw [F89.b27, F89.g27_eq, F89.b28]
 refine yU (fun m tm h nx => ∃ z15 z16 z17 z29 z30 z31 z32 z33, tm = (F89.fr x0 x1 x2 x3 x4 x5 x6 x7 x8 x9 x10 x11 x12 x13 x14 z15 z16 z17 x18 x19 x20 x21 x22 x23 x24 x25 x26 x27 x28 z29 z30 z31 z32 z33) ∧ Inv m z15 h nx) ?_ hm ⟨_, _, _, _, _, _, _, _, rfl, hi⟩
 rintro m tm h nx R ⟨z15, z16, z17, z29, z30, z31, z32, z33, rfl, hi⟩ hR
 rw [F89.e27]
 exact step m z15 z16 z17 z29 z30 z31 z32 z33 h nx R hi fun m' w15 w16 w17 w29 w30 w31 w32 w33 h' nx' hlt hi' => hR m' _ h' nx' hlt ⟨_, _, _, _, _, _, _, _, rfl, hi'⟩
theorem F89.k41 {E4 E5 E6 E7 E8 : Ks Prop} : IR.run F89.b41 C N ((((((fnO F89.res K0).blk 4 E4).blk 5 E5).blk 6 E6).blk 7 E7).blk 8 E8) K (F89.fr x0 x1 x2 x3 x4 x5 x6 x7 x8 x9 x10 x11 x12 x13 x14 x15 x16 x17 x18 x19 x20 x21 x22 x23 x24 x25 x26 x27 x28 x29 x30 x31 x32 x33) h nx =
 sBin .add .int x15 (I 1) fun v1 =>
 K (F89.fr x0 x1 x2 x3 x4 x5 x6 x7 x8 x9 x10 x11 x12 x13 x14 v1 x16 x17 x18 x19 x20 x21 x22 x23 x24 x25 x26 x27 x28 x29 x30 x31 x32 x33) h nx := by kernel_rfl
theorem F89.e33 {E4 E5 E6 E7 E8 E9 : Ks Prop} : IR.run F89.b35 C N ((((((((fnO F89.res K0).blk 4 E4).blk 5 E5).blk 6 E6).blk 7 E7).blk 8 E8).blk 9 E9).blk 10 K) R (F89.fr x0 x1 x2 x3 x4 x5 x6 x7 x8 x9 x10 x11 x12 x13 x14 x15 x16 x17 x18 x19 x20 x21 x22 x23 x24 x25 x26 x27 x28 x29 x30 x31 x32 x33) h nx =
 sBin .lss .int x32 x31 fun v1 =>
 zG v1 (zF 1 x30 x32 fun v2 =>
 zA v2 h fun v3 =>
 zO 1 128 x16 v3 fun v4 =>
 zA v4 h fun v5 =>
 sConv .u8 x15 fun v6 =>
 sBin .add .int v5 v6 fun v7 =>
 zO 1 128 x16 v3 fun v8 =>
 zQ 1 v8 v7 h nx fun v9 h10 n11 =>
 sBin .add .int x32 (I 1) fun v12 =>
 R (F89.fr x0 x1 x2 x3 x4 x5 x6 x7 x8 x9 x10 x11 x12 x13 x14 x15 x16 v3 x18 x19 x20 x21 x22 x23 x24 x25 x26 x27 x28 x29 x30 x31 v12 v1) h10 n11) (K (F89.fr x0 x1 x2 x3 x4 x5 x6 x7 x8 x9 x10 x11 x12 x13 x14 x15 x16 x17 x18 x19 x20 x21 x22 x23 x24 x25 x26 x27 x28 x29 x30 x31 x32 v1) h nx) := by kernel_rfl
theorem F89.L33 {E4 E5 E6 E7 E8 E9 : Ks Prop} (Inv : Nat → AV → T Blk → Pa → Prop) {m : Nat} (hm : m < N) (hi : Inv m x32 h nx)
  (step : ∀ (m : Nat) (z17 z32 z33 : AV) (h : T Blk) (nx : Pa) (R : Ks Prop), Inv m z32 h nx → (∀ (m' : Nat) (w17 w32 w33 : AV) (h' : T Blk) (nx' : Pa), m' < m → Inv m' w32 h' nx' → R (F89.fr x0 x1 x2 x3 x4 x5 x6 x7 x8 x9 x10 x11 x12 x13 x14 x15 x16 w17 x18 x19 x20 x21 x22 x23 x24 x25 x26 x27 x28 x29 x30 x31 w32 w33) h' nx' = .ok True) →
   (sBin .lss .int z32 x31 fun v1 =>
 zG v1 (zF 1 x30 z32 fun v2 =>
 zA v2 h fun v3 =>
 zO 1 128 x16 v3 fun v4 =>
 zA v4 h fun v5 =>
 sConv .u8 x15 fun v6 =>
 sBin .add .int v5 v6 fun v7 =>
 zO 1 128 x16 v3 fun v8 =>
 zQ 1 v8 v7 h nx fun v9 h10 n11 =>
 sBin .add .int z32 (I 1) fun v12 =>
 R (F89.fr x0 x1 x2 x3 x4 x5 x6 x7 x8 x9 x10 x11 x12 x13 x14 x15 x16 v3 x18 x19 x20 x21 x22 x23 x24 x25 x26 x27 x28 x29 x30 x31 v12 v1) h10 n11) (K (F89.fr x0 x1 x2 x3 x4 x5 x6 x7 x8 x9 x10 x11 x12 x13 x14 x15 x16 z17 x18 x19 x20 x21 x22 x23 x24 x25 x26 x27 x28 x29 x30 x31 z32 v1) h nx)) = .ok True) :
  IR.run F89.b33 C N (((((((fnO F89.res K0).blk 4 E4).blk 5 E5).blk 6 E6).blk 7 E7).blk 8 E8).blk 9 E9) K (F89.fr x0 x1 x2 x3 x4 x5 x6 x7 x8 x9 x10 x11 x12 x13 x14 x15 x16 x17 x18 x19 x20 x21 x22 x23 x24 x25 x26 x27 x28 x29 x30 x31 x32 x33) h nx = .ok True := by
 rw [F89.b33, F89.g33_eq, F89.b34]
 refine yU (fun m tm h nx => ∃ z17 z32 z33, tm = (F89.fr x0 x1 x2 x3 x4 x5 x6 x7 x8 x9 x10 x11 x12 x13 x14 x15 x16 z17 x18 x19 x20 x21 x22 x23 x24 x25 x26 x27 x28 x29 x30 x31 z32 z33) ∧ Inv m z32 h nx) ?_ hm ⟨_, _, _, rfl, hi⟩
 rintro m tm h nx R ⟨z17, z32, z33, rfl, hi⟩ hR
 rw [F89.e33]
 exact step m z17 z32 z33 h nx R hi fun m' w17 w32 w33 h' nx' hlt hi' => hR m' _ h' nx' hlt ⟨_, _, _, rfl, hi'⟩
theorem F89.k40 {E4 E5 E6 E7 E8 E9 : Ks Prop} : IR.run F89.b40 C N (((((((fnO F89.res K0).blk 4 E4).blk 5 E5).blk 6 E6).blk 7 E7).blk 8 E8).blk 9 E9) K (F89.fr x0 x1 x2 x3 x4 x5 x6 x7 x8 x9 x10 x11 x12 x13 x14 x15 x16 x17 x18 x19 x20 x21 x22 x23 x24 x25 x26 x27 x28 x29 x30 x31 x32 x33) h nx =
 yB 128 x16 h fun v1 =>
 sLook (.agg 128) (I 0) false x12 v1 h fun v2 =>
 sBin .add .int v2 x14 fun v3 =>
 sMapent (.agg 128) (I 0) x12 v1 h nx fun v4 h5 n6 =>
 (sBin .add .int v2 x14 fun v12 => yF v12 v3 ((sLook (.agg 128) (I 0) false x12 v1 h5 fun v11 => yF v11 v2 (sExt 1 v4 fun v7 =>
 sEntst x12 v7 v3 h5 n6 fun v8 h9 n10 =>
 K (F89.fr x0 x1 x2 x3 x4 x5 x6 x7 x8 x9 x10 x11 x12 x13 x14 x15 x16 x17 x18 x19 x20 x21 x22 x23 x24 x25 x26 x27 x28 x29 x30 x31 x32 x33) h9 n10)))) := by kernel_rfl
end Go.Ev
namespace Go.Ev
open Go Go.Proofs
set_option maxRecDepth 100000
variable {N : Nat} {C : Calls Prop} {K0 : Kw Prop} {K R : Ks Prop} {h : T Blk} {nx : Pa} {x0 x1 x2 x3 x4 x5 x6 x7 x8 x9 x10 x11 x12 x13 x14 x15 x16 x17 x18 x19 x20 x21 x22 a0 a1 a2 : AV}
theorem F31.g9_eq (X10 : IR) (C : Calls Prop) (N : Nat) (O : Outs Prop) (K : Ks Prop) (x0 x1 x2 x3 x4 x5 x6 x7 x8 x9 x10 x11 x12 x13 x14 x15 x16 x17 x18 x19 x20 x21 x22 : AV) (h : T Blk) (nx : Pa) : IR.run (F31.g9 X10) C N O K (F31.fr x0 x1 x2 x3 x4 x5 x6 x7 x8 x9 x10 x11 x12 x13 x14 x15 x16 x17 x18 x19 x20 x21 x22) h nx =
 IR.run X10 C N (O.blk 2 K) K (F31.fr x0 x1 x2 x3 x4 x5 x6 x7 x8 x9 x10 x11 x12 x13 x14 x15 x16 x17 x18 x19 x20 x21 x22) h nx := by kernel_rfl
theorem F31.g4_eq (X5 : IR) (C : Calls Prop) (N : Nat) (O : Outs Prop) (K : Ks Prop) (x0 x1 x2 x3 x4 x5 x6 x7 x8 x9 x10 x11 x12 x13 x14 x15 x16 x17 x18 x19 x20 x21 x22 : AV) (h : T Blk) (nx : Pa) : IR.run (F31.g4 X5) C N O K (F31.fr x0 x1 x2 x3 x4 x5 x6 x7 x8 x9 x10 x11 x12 x13 x14 x15 x16 x17 x18 x19 x20 x21 x22) h nx =
 IR.run X5 C N (O.blk 0 K) K (F31.fr x0 x1 x2 x3 x4 x5 x6 x7 x8 x9 x10 x11 x12 x13 x14 x15 x16 x17 x18 x19 x20 x21 x22) h nx := by kernel_rfl
theorem F31.tab : T.get none (.of 31) tbl = some F31 := by kernel_rfl
theorem F31.go : zV tbl N C (.of 31) [a0, a1, a2] h nx K0 =
 sBox a0 h nx fun v1 h2 n3 =>
 yB 2 v1 h2 fun v4 =>
 C.fn 87 (.of 87) [v4, a1] h2 n3 fun v5 h6 n7 =>
 sBin .neq .int v5 (I 0) fun v8 =>
 zG v8 (K0 (.tup [(I 0), v5]) h6 n7) (zN 0 v1 fun v9 =>
 zA v9 h6 fun v10 =>
 sBin .quo .int v10 (I 2) fun v11 =>
 zN 0 v1 fun v12 =>
 zA v12 h6 fun v13 =>
 sBin .sub .int v13 v11 fun v14 =>
 C.fn 88 (.of 88) [v14, a1] h6 n7 fun v15 h16 n17 =>
 zG v15 (K0 (.tup [(I 0), (I 20)]) h16 n17) (zN 1 v1 fun v18 =>
 zA v18 h16 fun v19 =>
 sLen v19 fun v20 =>
 sBin .gtr .int v20 (I 0) fun v21 =>
 sG v21 true (fun k => k a2) fun v22 =>
 sG v21 true (fun k => sBin .lss .int v22 (I 0) k) fun v23 =>
 sG v21 true (fun k => k v23) fun v24 =>
 sG v24 false (fun k => k a2) fun v25 =>
 sG v24 false (fun k => sBin .gtr .int v25 (I 255) k) fun v26 =>
 sG v21 true (fun k => jD v24 (.bool true) v26 k) fun v27 =>
 jD v21 v27 (.bool false) fun v28 =>
 zG v28 (K0 (.tup [(I 0), (I 0)]) h16 n17) ((IR.run F31.b3 C N (fnO F31.res K0) (retK F31.res K0)) (F31.fr a0 a1 a2 v1 (I 0) (I 0) v5 v11 .undef .undef .undef .undef .undef .undef v8 v15 v28 .undef .undef .undef .undef .undef .undef) h16 n17))) := by
 rw [zL F31.tab]; kernel_rfl
theorem F31.k3 : IR.run F31.b3 C N (fnO F31.res K0) K (F31.fr x0 x1 x2 x3 x4 x5 x6 x7 x8 x9 x10 x11 x12 x13 x14 x15 x16 x17 x18 x19 x20 x21 x22) h nx =
 yB 2 x3 h fun v1 =>
 zN 0 x3 fun v2 =>
 zA v2 h fun v3 =>
 C.fn 89 (.of 89) [v1, x7, v3, x1] h nx fun v4 h5 n6 =>
 yB 2 x3 h5 fun v7 =>
 C.fn 89 (.of 89) [v7, (I 0), x7, x1] h5 n6 fun v8 h9 n10 =>
 sRange v8 h9 n10 fun v11 h12 n13 =>
 IR.run F31.b4 C N (fnO F31.res K0) (IR.run F31.b18 C N (fnO F31.res K0) K) (F31.fr x0 x1 x2 x3 x4 x5 x6 x7 v4 (I 0) x10 x11 x12 x13 x14 x15 x16 v11 x18 x19 x20 x21 x22) h12 n13 := by kernel_rfl
theorem F31.e4 : IR.run F31.b6 C N ((fnO F31.res K0).blk 0 K) R (F31.fr x0 x1 x2 x3 x4 x5 x6 x7 x8 x9 x10 x11 x12 x13 x14 x15 x16 x17 x18 x19 x20 x21 x22) h nx =
 sNext C x17 h nx fun v1 h2 n3 =>
 sExt 0 v1 fun v4 =>
 zG v4 (sEntry x17 h2 fun v5 =>
 sExt 0 v5 fun v6 =>
 sExt 1 v5 fun v7 =>
 jO zU h2 n3 fun v8 h9 n10 =>
 zQ 128 v8 v6 h9 n10 fun v11 h12 n13 =>
 jO zU h12 n13 fun v14 h15 n16 =>
 zN 1 x3 fun v17 =>
 zA v17 h15 fun v18 =>
 sLen v18 fun v19 =>
 IR.run F31.b9 C N (((fnO F31.res K0).blk 0 K).blk 1 R) (IR.run F31.b17 C N (((fnO F31.res K0).blk 0 K).blk 1 R) R) (F31.fr x0 x1 x2 x3 x4 x5 x6 x7 x8 x9 v8 v7 v14 x13 x14 x15 x16 x17 v4 v19 (I 0) x21 x22) h15 n16) (K (F31.fr x0 x1 x2 x3 x4 x5 x6 x7 x8 x9 x10 x11 x12 x13 x14 x15 x16 x17 v4 x19 x20 x21 x22) h2 n3) := by kernel_rfl
theorem F31.L4 (Inv : Nat → AV → T Blk → Pa → Prop) {m : Nat} (hm : m < N) (hi : Inv m x9 h nx)
  (step : ∀ (m : Nat) (z9 z10 z11 z12 z13 z18 z19 z20 z21 z22 : AV) (h : T Blk) (nx : Pa) (R : Ks Prop), Inv m z9 h nx → (∀ (m' : Nat) (w9 w10 w11 w12 w13 w18 w19 w20 w21 w22 : AV) (h' : T Blk) (nx' : Pa), m' < m → Inv m' w9 h' nx' → R (F31.fr x0 x1 x2 x3 x4 x5 x6 x7 x8 w9 w10 w11 w12 w13 x14 x15 x16 x17 w18 w19 w20 w21 w22) h' nx' = .ok True) →
   (sNext C x17 h nx fun v1 h2 n3 =>
 sExt 0 v1 fun v4 =>
 zG v4 (sEntry x17 h2 fun v5 =>
 sExt 0 v5 fun v6 =>
 sExt 1 v5 fun v7 =>
 jO zU h2 n3 fun v8 h9 n10 =>
 zQ 128 v8 v6 h9 n10 fun v11 h12 n13 =>
 jO zU h12 n13 fun v14 h15 n16 =>
 zN 1 x3 fun v17 =>
 zA v17 h15 fun v18 =>
 sLen v18 fun v19 =>
 IR.run F31.b9 C N (((fnO F31.res K0).blk 0 K).blk 1 R) (IR.run F31.b17 C N (((fnO F31.res K0).blk 0 K).blk 1 R) R) (F31.fr x0 x1 x2 x3 x4 x5 x6 x7 x8 z9 v8 v7 v14 z13 x14 x15 x16 x17 v4 v19 (I 0) z21 z22) h15 n16) (K (F31.fr x0 x1 x2 x3 x4 x5 x6 x7 x8 z9 z10 z11 z12 z13 x14 x15 x16 x17 v4 z19 z20 z21 z22) h2 n3)) = .ok True) :
  IR.run F31.b4 C N (fnO F31.res K0) K (F31.fr x0 x1 x2 x3 x4 x5 x6 x7 x8 x9 x10 x11 x12 x13 x14 x15 x16 x17 x18 x19 x20 x21 x22) h nx = .ok True := by
 rw [F31.b4, F31.g4_eq, F31.b5]
 refine yU (fun m tm h nx => ∃ z9 z10 z11 z12 z13 z18 z19 z20 z21 z22, tm = (F31.fr x0 x1 x2 x3 x4 x5 x6 x7 x8 z9 z10 z11 z12 z13 x14 x15 x16 x17 z18 z19 z20 z21 z22) ∧ Inv m z9 h nx) ?_ hm ⟨_, _, _, _, _, _, _, _, _, _, rfl, hi⟩
 rintro m tm h nx R ⟨z9, z10, z11, z12, z13, z18, z19, z20, z21, z22, rfl, hi⟩ hR
 rw [F31.e4]
 exact step m z9 z10 z11 z12 z13 z18 z19 z20 z21 z22 h nx R hi fun m' w9 w10 w11 w12 w13 w18 w19 w20 w21 w22 h' nx' hlt hi' => hR m' _ h' nx' hlt ⟨_, _, _, _, _, _, _, _, _, _, rfl, hi'⟩
theorem F31.k18 : IR.run F31.b18 C N (fnO F31.res K0) K (F31.fr x0 x1 x2 x3 x4 x5 x6 x7 x8 x9 x10 x11 x12 x13 x14 x15 x16 x17 x18 x19 x20 x21 x22) h nx =
 K0 (.tup [x9, (I 0)]) h nx := by kernel_rfl
theorem F31.e9 {E0 E1 : Ks Prop} : IR.run F31.b11 C N ((((fnO F31.res K0).blk 0 E0).blk 1 E1).blk 2 K) R (F31.fr x0 x1 x2 x3 x4 x5 x6 x7 x8 x9 x10 x11 x12 x13 x14 x15 x16 x17 x18 x19 x20 x21 x22) h nx =
 sBin .lss .int x20 x19 fun v1 =>
 zG v1 (zO 1 128 x10 x20 fun v2 =>
 zA v2 h fun v3 =>
 sConv .i64 v3 fun v4 =>
 sBin .gtr .int v4 x2 fun v5 =>
 zG v5 (E1 (F31.fr x0 x1 x2 x3 x4 x5 x6 x7 x8 x9 x10 x11 x12 x20 x14 x15 x16 x17 x18 x19 x20 v1 v5) h nx) (sConv .u8 x2 fun v6 =>
 zO 1 128 x10 x20 fun v7 =>
 zA v7 h fun v8 =>
 sBin .sub .int v6 v8 fun v9 =>
 zO 1 128 x12 x20 fun v10 =>
 zQ 1 v10 v9 h nx fun v11 h12 n13 =>
 sBin .add .int x20 (I 1) fun v14 =>
 R (F31.fr x0 x1 x2 x3 x4 x5 x6 x7 x8 x9 x10 x11 x12 x20 x14 x15 x16 x17 x18 x19 v14 v1 v5) h12 n13)) (K (F31.fr x0 x1 x2 x3 x4 x5 x6 x7 x8 x9 x10 x11 x12 x13 x14 x15 x16 x17 x18 x19 x20 v1 x22) h nx) := by kernel_rfl
theorem F31.L9 {E0 E1 : Ks Prop} (Inv : Nat → AV → T Blk → Pa → Prop) {m : Nat} (hm : m < N) (hi : Inv m x20 h nx)
  (step : ∀ (m : Nat) (z13 z20 z21 z22 : AV) (h : T Blk) (nx : Pa) (R : Ks Prop), Inv m z20 h nx → (∀ (m' : Nat) (w13 w20 w21 w22 : AV) (h' : T Blk) (nx' : Pa), m' < m → Inv m' w20 h' nx' → R (F31.fr x0 x1 x2 x3 x4 x5 x6 x7 x8 x9 x10 x11 x12 w13 x14 x15 x16 x17 x18 x19 w20 w21 w22) h' nx' = .ok True) →
   (sBin .lss .int z20 x19 fun v1 =>
 zG v1 (zO 1 128 x10 z20 fun v2 =>
 zA v2 h fun v3 =>
 sConv .i64 v3 fun v4 =>
 sBin .gtr .int v4 x2 fun v5 =>
 zG v5 (E1 (F31.fr x0 x1 x2 x3 x4 x5 x6 x7 x8 x9 x10 x11 x12 z20 x14 x15 x16 x17 x18 x19 z20 v1 v5) h nx) (sConv .u8 x2 fun v6 =>
 zO 1 128 x10 z20 fun v7 =>
 zA v7 h fun v8 =>
 sBin .sub .int v6 v8 fun v9 =>
 zO 1 128 x12 z20 fun v10 =>
 zQ 1 v10 v9 h nx fun v11 h12 n13 =>
 sBin .add .int z20 (I 1) fun v14 =>
 R (F31.fr x0 x1 x2 x3 x4 x5 x6 x7 x8 x9 x10 x11 x12 z20 x14 x15 x16 x17 x18 x19 v14 v1 v5) h12 n13)) (K (F31.fr x0 x1 x2 x3 x4 x5 x6 x7 x8 x9 x10 x11 x12 z13 x14 x15 x16 x17 x18 x19 z20 v1 z22) h nx)) = .ok True) :
  IR.run F31.b9 C N (((fnO F31.res K0).blk 0 E0).blk 1 E1) K (F31.fr x0 x1 x2 x3 x4 x5 x6 x7 x8 x9 x10 x11 x12 x13 x14 x15 x16 x17 x18 x19 x20 x21 x22) h nx = .ok True := by
 rw [F31.b9, F31.g9_eq, F31.b10]
 refine yU (fun m tm h nx => ∃ z13 z20 z21 z22, tm = (F31.fr x0 x1 x2 x3 x4 x5 x6 x7 x8 x9 x10 x11 x12 z13 x14 x15 x16 x17 x18 x19 z20 z21 z22) ∧ Inv m z20 h nx) ?_ hm ⟨_, _, _, _, rfl, hi⟩
 rintro m tm h nx R ⟨z13, z20, z21, z22, rfl, hi⟩ hR
 rw [F31.e9]
 exact step m z13 z20 z21 z22 h nx R hi fun m' w13 w20 w21 w22 h' nx' hlt hi' => hR m' _ h' nx' hlt ⟨_, _, _, _, rfl, hi'⟩
theorem F31.k17 {E0 E1 : Ks Prop} : IR.run F31.b17 C N (((fnO F31.res K0).blk 0 E0).blk 1 E1) K (F31.fr x0 x1 x2 x3 x4 x5 x6 x7 x8 x9 x10 x11 x12 x13 x14 x15 x16 x17 x18 x19 x20 x21 x22) h nx =
 yB 128 x12 h fun v1 =>
 sLook (.agg 128) (I 0) false x8 v1 h fun v2 =>
 sBin .mul .int x11 v2 fun v3 =>
 sBin .add .int x9 v3 fun v4 =>
 K (F31.fr x0 x1 x2 x3 x4 x5 x6 x7 x8 v4 x10 x11 x12 x13 x14 x15 x16 x17 x18 x19 x20 x21 x22) h nx := by kernel_rfl
end Go.Ev
namespace Go.Ev
open Go Go.Proofs
set_option maxRecDepth 100000
variable {N : Nat} {C : Calls Prop} {K0 : Kw Prop} {K R : Ks Prop} {h : T Blk} {nx : Pa} {x0 x1 x2 x3 x4 x5 x6 x7 x8 a0 a1 : AV}
theorem F121.g1_eq (X2 : IR) (C : Calls Prop) (N : Nat) (O : Outs Prop) (K : Ks Prop) (x0 x1 x2 x3 x4 x5 x6 x7 : AV) (h : T Blk) (nx : Pa) : IR.run (F121.g1 X2) C N O K (F121.fr x0 x1 x2 x3 x4 x5 x6 x7) h nx =
 IR.run X2 C N (O.blk 0 K) K (F121.fr x0 x1 x2 x3 x4 x5 x6 x7) h nx := by kernel_rfl
theorem F121.tab : T.get none (.of 121) tbl = some F121 := by kernel_rfl
theorem F121.go : zV tbl N C (.of 121) [a0] h nx K0 =
 sLen a0 fun v1 =>
 IR.run F121.b1 C N (fnO F121.res K0) (IR.run F121.b8 C N (fnO F121.res K0) (retK F121.res K0)) (F121.fr a0 (I 0) .undef a0 v1 (I 0) .undef .undef) h nx := by
 rw [zL F121.tab]; kernel_rfl
theorem F121.e1 : IR.run F121.b3 C N ((fnO F121.res K0).blk 0 K) R (F121.fr x0 x1 x2 x3 x4 x5 x6 x7) h nx =
 sBin .lss .int x5 x4 fun v1 =>
 zG v1 (zF 1 x3 x5 fun v2 =>
 zA v2 h fun v3 =>
 sBin .neq .int v3 (I 0) fun v4 =>
 zG v4 (K0 v3 h nx) (sBin .add .int x5 (I 1) fun v5 =>
 R (F121.fr x0 x1 v3 x3 x4 v5 v1 v4) h nx)) (K (F121.fr x0 x1 x2 x3 x4 x5 v1 x7) h nx) := by kernel_rfl
theorem F121.L1 (Inv : Nat → AV → T Blk → Pa → Prop) {m : Nat} (hm : m < N) (hi : Inv m x5 h nx)
  (step : ∀ (m : Nat) (z1 z2 z5 z6 z7 : AV) (h : T Blk) (nx : Pa) (R : Ks Prop), Inv m z5 h nx → (∀ (m' : Nat) (w1 w2 w5 w6 w7 : AV) (h' : T Blk) (nx' : Pa), m' < m → Inv m' w5 h' nx' → R (F121.fr x0 w1 w2 x3 x4 w5 w6 w7) h' nx' = .ok True) →
   (sBin .lss .int z5 x4 fun v1 =>
 zG v1 (zF 1 x3 z5 fun v2 =>
 zA v2 h fun v3 =>
 sBin .neq .int v3 (I 0) fun v4 =>
 zG v4 (K0 v3 h nx) (sBin .add .int z5 (I 1) fun v5 =>
 R (F121.fr x0 z1 v3 x3 x4 v5 v1 v4) h nx)) (K (F121.fr x0 z1 z2 x3 x4 z5 v1 z7) h nx)) = .ok True) :
  IR.run F121.b1 C N (fnO F121.res K0) K (F121.fr x0 x1 x2 x3 x4 x5 x6 x7) h nx = .ok True := by
 rw [F121.b1, F121.g1_eq, F121.b2]
 refine yU (fun m tm h nx => ∃ z1 z2 z5 z6 z7, tm = (F121.fr x0 z1 z2 x3 x4 z5 z6 z7) ∧ Inv m z5 h nx) ?_ hm ⟨_, _, _, _, _, rfl, hi⟩
 rintro m tm h nx R ⟨z1, z2, z5, z6, z7, rfl, hi⟩ hR
 rw [F121.e1]
 exact step m z1 z2 z5 z6 z7 h nx R hi fun m' w1 w2 w5 w6 w7 h' nx' hlt hi' => hR m' _ h' nx' hlt ⟨_, _, _, _, _, rfl, hi'⟩
theorem F121.k8 : IR.run F121.b8 C N (fnO F121.res K0) K (F121.fr x0 x1 x2 x3 x4 x5 x6 x7) h nx =
 K0 (I 0) h nx := by kernel_rfl
theorem F123.tab : T.get none (.of 123) tbl = some F123 := by kernel_rfl
theorem F123.go : zV tbl N C (.of 123) [a0, a1] h nx K0 =
 zG a0 (K0 a1 h nx) (K0 (I 0) h nx) := by
 rw [zL F123.tab]; kernel_rfl
end Go.Ev
namespace Go.Ev
open Go Go.Proofs
set_option maxRecDepth 100000
variable {N : Nat} {C : Calls Prop} {K0 : Kw Prop} {K R : Ks Prop} {h : T Blk} {nx : Pa} {x0 x1 x2 x3 x4 x5 x6 x7 x8 a0 a1 a2 : AV}
end Go.Ev
namespace Go.Ev
open Go Go.Proofs
set_option maxRecDepth 100000
variable {N : Nat} {C : Calls Prop} {K0 : Kw Prop} {K R : Ks Prop} {h : T Blk} {nx : Pa} {x0 x1 x2 x3 x4 x5 x6 x7 x8 x9 x10 x11 x12 x13 a0 : AV}
end Go.Ev
namespace Go.Ev
open Go Go.Proofs
set_option maxRecDepth 100000
variable {N : Nat} {C : Calls Prop} {K0 : Kw Prop} {K R : Ks Prop} {h : T Blk} {nx : Pa} {x0 x1 x2 x3 x4 x5 x6 x7 a0 a1 a2 : AV}
theorem F122.tab : T.get none (.of 122) tbl = some F122 := by kernel_rfl
theorem F122.go : zV tbl N C (.of 122) [a0, a1, a2] h nx K0 =
 sBox a0 h nx fun v1 h2 n3 =>
 sBox a1 h2 n3 fun v4 h5 n6 =>
 C.fn 131 (.of 131) [a2, (.fn 147 (.of 147) [v1, v4])] h5 n6 fun v7 h8 n9 =>
 C.fn 123 (.of 123) [v7, (I 3)] h8 n9 fun v10 h11 n12 =>
 K0 v10 h11 n12 := by
 rw [zL F122.tab]; kernel_rfl
theorem F147.tab : T.get none (.of 147) tbl = some F147 := by kernel_rfl
theorem F147.go : zV tbl N C (.of 147) [a0, a1, a2] h nx K0 =
 zA a1 h fun v1 =>
 sBin .lss .int a0 v1 fun v2 =>
 sG v2 false (fun k => k a0) fun v3 =>
 sG v2 false (fun k => zA a2 h k) fun v4 =>
 sG v2 false (fun k => sBin .gtr .int v3 v4 k) fun v5 =>
 jD v2 (.bool true) v5 fun v6 =>
 K0 v6 h nx := by
 rw [zL F147.tab]; kernel_rfl
theorem F131.tab : T.get none (.of 131) tbl = some F131 := by kernel_rfl
theorem F131.go : zV tbl N C (.of 131) [a0, a1] h nx K0 =
 C.fn 165 (.of 165) [a0, a1] h nx fun v1 h2 n3 =>
 sBin .geq .int v1 (I 0) fun v4 =>
 K0 v4 h2 n3 := by
 rw [zL F131.tab]; kernel_rfl
theorem F165.g1_eq (X2 : IR) (C : Calls Prop) (N : Nat) (O : Outs Prop) (K : Ks Prop) (x0 x1 x2 x3 x4 x5 x6 x7 : AV) (h : T Blk) (nx : Pa) : IR.run (F165.g1 X2) C N O K (F165.fr x0 x1 x2 x3 x4 x5 x6 x7) h nx =
 IR.run X2 C N (O.blk 0 K) K (F165.fr x0 x1 x2 x3 x4 x5 x6 x7) h nx := by kernel_rfl
theorem F165.tab : T.get none (.of 165) tbl = some F165 := by kernel_rfl
theorem F165.go : zV tbl N C (.of 165) [a0, a1] h nx K0 =
 sLen a0 fun v1 =>
 IR.run F165.b1 C N (fnO F165.res K0) (IR.run F165.b8 C N (fnO F165.res K0) (retK F165.res K0)) (F165.fr a0 a1 (I 0) .undef v1 (I 0) .undef .undef) h nx := by
 rw [zL F165.tab]; kernel_rfl
theorem F165.e1 : IR.run F165.b3 C N ((fnO F165.res K0).blk 0 K) R (F165.fr x0 x1 x2 x3 x4 x5 x6 x7) h nx =
 sBin .lss .int x5 x4 fun v1 =>
 zG v1 (zF 1 x0 x5 fun v2 =>
 zA v2 h fun v3 =>
 sCall C x1 [v3] h nx fun v4 h5 n6 =>
 zG v4 (K0 x5 h5 n6) (sBin .add .int x5 (I 1) fun v7 =>
 R (F165.fr x0 x1 x2 x5 x4 v7 v1 v4) h5 n6)) (K (F165.fr x0 x1 x2 x3 x4 x5 v1 x7) h nx) := by kernel_rfl
theorem F165.L1 (Inv : Nat → AV → T Blk → Pa → Prop) {m : Nat} (hm : m < N) (hi : Inv m x5 h nx)
  (step : ∀ (m : Nat) (z2 z3 z5 z6 z7 : AV) (h : T Blk) (nx : Pa) (R : Ks Prop), Inv m z5 h nx → (∀ (m' : Nat) (w2 w3 w5 w6 w7 : AV) (h' : T Blk) (nx' : Pa), m' < m → Inv m' w5 h' nx' → R (F165.fr x0 x1 w2 w3 x4 w5 w6 w7) h' nx' = .ok True) →
   (sBin .lss .int z5 x4 fun v1 =>
 zG v1 (zF 1 x0 z5 fun v2 =>
 zA v2 h fun v3 =>
 sCall C x1 [v3] h nx fun v4 h5 n6 =>
 zG v4 (K0 z5 h5 n6) (sBin .add .int z5 (I 1) fun v7 =>
 R (F165.fr x0 x1 z2 z5 x4 v7 v1 v4) h5 n6)) (K (F165.fr x0 x1 z2 z3 x4 z5 v1 z7) h nx)) = .ok True) :
  IR.run F165.b1 C N (fnO F165.res K0) K (F165.fr x0 x1 x2 x3 x4 x5 x6 x7) h nx = .ok True := by
 rw [F165.b1, F165.g1_eq, F165.b2]
 refine yU (fun m tm h nx => ∃ z2 z3 z5 z6 z7, tm = (F165.fr x0 x1 z2 z3 x4 z5 z6 z7) ∧ Inv m z5 h nx) ?_ hm ⟨_, _, _, _, _, rfl, hi⟩
 rintro m tm h nx R ⟨z2, z3, z5, z6, z7, rfl, hi⟩ hR
 rw [F165.e1]
 exact step m z2 z3 z5 z6 z7 h nx R hi fun m' w2 w3 w5 w6 w7 h' nx' hlt hi' => hR m' _ h' nx' hlt ⟨_, _, _, _, _, rfl, hi'⟩
theorem F165.k8 : IR.run F165.b8 C N (fnO F165.res K0) K (F165.fr x0 x1 x2 x3 x4 x5 x6 x7) h nx =
 K0 (I (-1)) h nx := by kernel_rfl
theorem F80.g1_eq (X2 : IR) (C : Calls Prop) (N : Nat) (O : Outs Prop) (K : Ks Prop) (x0 x1 x2 x3 x4 x5 x6 x7 : AV) (h : T Blk) (nx : Pa) : IR.run (F80.g1 X2) C N O K (F80.fr x0 x1 x2 x3 x4 x5 x6 x7) h nx =
 IR.run X2 C N (O.blk 0 K) K (F80.fr x0 x1 x2 x3 x4 x5 x6 x7) h nx := by kernel_rfl
theorem F80.tab : T.get none (.of 80) tbl = some F80 := by kernel_rfl
theorem F80.go : zV tbl N C (.of 80) [a0] h nx K0 =
 sLen a0 fun v1 =>
 IR.run F80.b1 C N (fnO F80.res K0) (IR.run F80.b8 C N (fnO F80.res K0) (retK F80.res K0)) (F80.fr a0 (I 0) .undef a0 v1 (I 0) .undef .undef) h nx := by
 rw [zL F80.tab]; kernel_rfl
theorem F80.e1 : IR.run F80.b3 C N ((fnO F80.res K0).blk 0 K) R (F80.fr x0 x1 x2 x3 x4 x5 x6 x7) h nx =
 sBin .lss .int x5 x4 fun v1 =>
 zG v1 (zF 1 x3 x5 fun v2 =>
 zA v2 h fun v3 =>
 sBin .neq .int v3 (I 0) fun v4 =>
 zG v4 (K0 v3 h nx) (sBin .add .int x5 (I 1) fun v5 =>
 R (F80.fr x0 x1 v3 x3 x4 v5 v1 v4) h nx)) (K (F80.fr x0 x1 x2 x3 x4 x5 v1 x7) h nx) := by kernel_rfl
theorem F80.L1 (Inv : Nat → AV → T Blk → Pa → Prop) {m : Nat} (hm : m < N) (hi : Inv m x5 h nx)
  (step : ∀ (m : Nat) (z1 z2 z5 z6 z7 : AV) (h : T Blk) (nx : Pa) (R : Ks Prop), Inv m z5 h nx → (∀ (m' : Nat) (w1 w2 w5 w6 w7 : AV) (h' : T Blk) (nx' : Pa), m' < m → Inv m' w5 h' nx' → R (F80.fr x0 w1 w2 x3 x4 w5 w6 w7) h' nx' = .ok True) →
   (sBin .lss .int z5 x4 fun v1 =>
 zG v1 (zF 1 x3 z5 fun v2 =>
 zA v2 h fun v3 =>
 sBin .neq .int v3 (I 0) fun v4 =>
 zG v4 (K0 v3 h nx) (sBin .add .int z5 (I 1) fun v5 =>
 R (F80.fr x0 z1 v3 x3 x4 v5 v1 v4) h nx)) (K (F80.fr x0 z1 z2 x3 x4 z5 v1 z7) h nx)) = .ok True) :
  IR.run F80.b1 C N (fnO F80.res K0) K (F80.fr x0 x1 x2 x3 x4 x5 x6 x7) h nx = .ok True := by
 rw [F80.b1, F80.g1_eq, F80.b2]
 refine yU (fun m tm h nx => ∃ z1 z2 z5 z6 z7, tm = (F80.fr x0 z1 z2 x3 x4 z5 z6 z7) ∧ Inv m z5 h nx) ?_ hm ⟨_, _, _, _, _, rfl, hi⟩
 rintro m tm h nx R ⟨z1, z2, z5, z6, z7, rfl, hi⟩ hR
 rw [F80.e1]
 exact step m z1 z2 z5 z6 z7 h nx R hi fun m' w1 w2 w5 w6 w7 h' nx' hlt hi' => hR m' _ h' nx' hlt ⟨_, _, _, _, _, rfl, hi'⟩
theorem F80.k8 : IR.run F80.b8 C N (fnO F80.res K0) K (F80.fr x0 x1 x2 x3 x4 x5 x6 x7) h nx =
 K0 (I 0) h nx := by kernel_rfl
end Go.Ev
namespace Go.Ev
open Go Go.Proofs
set_option maxRecDepth 100000
variable {N : Nat} {C : Calls Prop} {K0 : Kw Prop} {K R : Ks Prop} {h : T Blk} {nx : Pa} {x0 x1 x2 x3 x4 x5 x6 x7 x8 x9 x10 x11 x12 x13 a0 a1 : AV}
end Go.Ev
namespace Go.Ev
open Go Go.Proofs
set_option maxRecDepth 100000
variable {N : Nat} {C : Calls Prop} {K0 : Kw Prop} {K R : Ks Prop} {h : T Blk} {nx : Pa} {x0 x1 x2 x3 x4 x5 x6 x7 x8 x9 x10 x11 x12 x13 a0 a1 : AV}
theorem F126.tab : T.get none (.of 126) tbl = some F126 := by kernel_rfl
theorem F126.go : zV tbl N C (.of 126) [a0] h nx K0 =
 sBox a0 h nx fun v1 h2 n3 =>
 K0 (.fn 153 (.of 153) [v1]) h2 n3 := by
 rw [zL F126.tab]; kernel_rfl
theorem F125.tab : T.get none (.of 125) tbl = some F125 := by kernel_rfl
theorem F125.go : zV tbl N C (.of 125) [a0] h nx K0 =
 C.fn 151 (.of 151) [a0] h nx fun v1 h2 n3 =>
 C.fn 152 (.of 152) [v1] h2 n3 fun v4 h5 n6 =>
 K0 v1 h5 n6 := by
 rw [zL F125.tab]; kernel_rfl
theorem F151.tab : T.get none (.of 151) tbl = some F151 := by kernel_rfl
theorem F151.go : zV tbl N C (.of 151) [a0] h nx K0 =
 C.fn 173 (.of 173) [.nils, a0] h nx fun v1 h2 n3 =>
 K0 v1 h2 n3 := by
 rw [zL F151.tab]; kernel_rfl
theorem F153.g1_eq (X2 : IR) (C : Calls Prop) (N : Nat) (O : Outs Prop) (K : Ks Prop) (x0 x1 x2 x3 x4 x5 x6 x7 : AV) (h : T Blk) (nx : Pa) : IR.run (F153.g1 X2) C N O K (F153.fr x0 x1 x2 x3 x4 x5 x6 x7) h nx =
 IR.run X2 C N (O.blk 0 K) K (F153.fr x0 x1 x2 x3 x4 x5 x6 x7) h nx := by kernel_rfl
theorem F153.tab : T.get none (.of 153) tbl = some F153 := by kernel_rfl
theorem F153.go : zV tbl N C (.of 153) [a0, a1] h nx K0 =
 zA a1 h fun v1 =>
 sLen v1 fun v2 =>
 IR.run F153.b1 C N (fnO F153.res K0) (retK F153.res K0) (F153.fr a0 a1 .undef v1 v2 (I 0) .undef .undef) h nx := by
 rw [zL F153.tab]; kernel_rfl
theorem F153.e1 : IR.run F153.b3 C N ((fnO F153.res K0).blk 0 K) R (F153.fr x0 x1 x2 x3 x4 x5 x6 x7) h nx =
 sBin .lss .int x5 x4 fun v1 =>
 zG v1 (zF 1 x3 x5 fun v2 =>
 zA v2 h fun v3 =>
 sCall C x0 [v3] h nx fun v4 h5 n6 =>
 sNot v4 fun v7 =>
 zG v7 (K0 (.tup []) h5 n6) (sBin .add .int x5 (I 1) fun v8 =>
 R (F153.fr x0 x1 v3 x3 x4 v8 v1 v7) h5 n6)) (K (F153.fr x0 x1 x2 x3 x4 x5 v1 x7) h nx) := by kernel_rfl
theorem F153.L1 (Inv : Nat → AV → T Blk → Pa → Prop) {m : Nat} (hm : m < N) (hi : Inv m x5 h nx)
  (step : ∀ (m : Nat) (z2 z5 z6 z7 : AV) (h : T Blk) (nx : Pa) (R : Ks Prop), Inv m z5 h nx → (∀ (m' : Nat) (w2 w5 w6 w7 : AV) (h' : T Blk) (nx' : Pa), m' < m → Inv m' w5 h' nx' → R (F153.fr x0 x1 w2 x3 x4 w5 w6 w7) h' nx' = .ok True) →
   (sBin .lss .int z5 x4 fun v1 =>
 zG v1 (zF 1 x3 z5 fun v2 =>
 zA v2 h fun v3 =>
 sCall C x0 [v3] h nx fun v4 h5 n6 =>
 sNot v4 fun v7 =>
 zG v7 (K0 (.tup []) h5 n6) (sBin .add .int z5 (I 1) fun v8 =>
 R (F153.fr x0 x1 v3 x3 x4 v8 v1 v7) h5 n6)) (K (F153.fr x0 x1 z2 x3 x4 z5 v1 z7) h nx)) = .ok True) :
  IR.run F153.b1 C N (fnO F153.res K0) K (F153.fr x0 x1 x2 x3 x4 x5 x6 x7) h nx = .ok True := by
 rw [F153.b1, F153.g1_eq, F153.b2]
 refine yU (fun m tm h nx => ∃ z2 z5 z6 z7, tm = (F153.fr x0 x1 z2 x3 x4 z5 z6 z7) ∧ Inv m z5 h nx) ?_ hm ⟨_, _, _, _, rfl, hi⟩
 rintro m tm h nx R ⟨z2, z5, z6, z7, rfl, hi⟩ hR
 rw [F153.e1]
 exact step m z2 z5 z6 z7 h nx R hi fun m' w2 w5 w6 w7 h' nx' hlt hi' => hR m' _ h' nx' hlt ⟨_, _, _, _, rfl, hi'⟩
end Go.Ev
namespace Go.Ev
open Go Go.Proofs
set_option maxRecDepth 100000
variable {N : Nat} {C : Calls Prop} {K0 : Kw Prop} {K R : Ks Prop} {h : T Blk} {nx : Pa} {x0 x1 x2 x3 x4 x5 x6 a0 a1 : AV}
theorem F173.tab : T.get none (.of 173) tbl = some F173 := by kernel_rfl
theorem F173.go : zV tbl N C (.of 173) [a0, a1] h nx K0 =
 sBox a0 h nx fun v1 h2 n3 =>
 IR.run (.rf (.t (.of 5)) [(.of 6)] F173.b3 F173.b4) C N ((fnO F173.res K0).blk 0 (IR.run F173.b6 C N (fnO F173.res K0) (retK F173.res K0))) (IR.run F173.b6 C N (fnO F173.res K0) (retK F173.res K0)) (F173.fr a0 a1 v1 .nils .undef a1 .undef) h2 n3 := by
 rw [zL F173.tab]; kernel_rfl
theorem F173.k6 : IR.run F173.b6 C N (fnO F173.res K0) K (F173.fr x0 x1 x2 x3 x4 x5 x6) h nx =
 zA x2 h fun v1 =>
 K0 v1 h nx := by kernel_rfl
theorem F173.y4 {N : Nat} {C : Calls Prop} {K0 : Kw Prop} {id nx : Pa} {j : Jump} {h h1 : T Blk} {x0 x1 x2 x3 x4 x5 x6 z0 : AV} (hl : T.get .no id h = .loop .ready j (F173.fr x0 x1 x2 x3 x4 x5 x6) [.of 6] F173.b3 F173.b4) (he : h1 = T.set .no (.loop .busy j (F173.fr x0 x1 x2 x3 x4 x5 x6) [.of 6] F173.b3 F173.b4) id h) :
 callYld N C id [z0] h nx K0 =
 zA x2 h1 fun v1 =>
 jE 1 1 [(I 0)] [(0, 1, z0)] h1 nx fun v2 h3 n4 =>
 sApp 1 8 v1 v2 h3 n4 fun v5 h6 n7 =>
 zQ 1 x2 v5 h6 n7 fun v8 h9 n10 =>
 gF id K0 .none true .e h9 n10 := by
 subst he
 rw [rnd_of hl (tm1 := (F173.fr x0 x1 x2 x3 x4 x5 z0)) (tm2 := (F173.fr x0 x1 x2 x3 z0 x5 z0)) (by intro k; kernel_rfl) (by intro O K h nx; kernel_rfl)]; kernel_rfl
end Go.Ev
namespace Go.Ev
open Go Go.Proofs
set_option maxRecDepth 100000
variable {N : Nat} {C : Calls Prop} {K0 : Kw Prop} {K R : Ks Prop} {h : T Blk} {nx : Pa} {x0 x1 x2 x3 x4 x5 x6 x7 x8 x9 x10 x11 a0 : AV}
end Go.Ev
namespace Go.Ev
open Go Go.Proofs
set_option maxRecDepth 100000
variable {N : Nat} {C : Calls Prop} {K0 : Kw Prop} {K R : Ks Prop} {h : T Blk} {nx : Pa} {x0 x1 x2 x3 x4 x5 x6 x7 x8 x9 x10 x11 x12 x13 x14 x15 x16 x17 x18 x19 x20 x21 x22 x23 x24 x25 x26 a0 a1 a2 a3 a4 a5 a6 a7 : AV}
end Go.Ev
namespace Go.Ev
open Go Go.Proofs
set_option maxRecDepth 100000
variable {N : Nat} {C : Calls Prop} {K0 : Kw Prop} {K R : Ks Prop} {h : T Blk} {nx : Pa} {x0 x1 x2 x3 x4 x5 x6 x7 x8 x9 x10 x11 x12 x13 x14 a0 a1 a2 a3 : AV}
end Go.Ev
namespace Go.Ev
open Go Go.Proofs
set_option maxRecDepth 100000
variable {N : Nat} {C : Calls Prop} {K0 : Kw Prop} {K R : Ks Prop} {h : T Blk} {nx : Pa} {x0 x1 x2 x3 x4 x5 x6 x7 x8 x9 x10 x11 x12 x13 a0 a1 a2 a3 : AV}
end Go.Ev
namespace Go.Ev
open Go Go.Proofs
set_option maxRecDepth 100000
variable {N : Nat} {C : Calls Prop} {K0 : Kw Prop} {K R : Ks Prop} {h : T Blk} {nx : Pa} {x0 x1 x2 x3 x4 x5 x6 x7 x8 x9 x10 x11 a0 a1 : AV}
end Go.Ev
namespace Go.Ev
open Go Go.Proofs
set_option maxRecDepth 100000
variable {N : Nat} {C : Calls Prop} {K0 : Kw Prop} {K R : Ks Prop} {h : T Blk} {nx : Pa} {x0 x1 x2 x3 x4 x5 x6 x7 x8 x9 a0 a1 : AV}
theorem F99.tab : T.get none (.of 99) tbl = some F99 := by kernel_rfl
theorem F99.go : zV tbl N C (.of 99) [a0, a1] h nx K0 =
 sBox a0 h nx fun v1 h2 n3 =>
 sBox a1 h2 n3 fun v4 h5 n6 =>
 zN 1 v1 fun v7 =>
 zA v7 h5 fun v8 =>
 sLen v8 fun v9 =>
 sMkslice 1 8 [(I 0)] v9 v9 h5 n6 fun v10 h11 n12 =>
 jO [.nils] h11 n12 fun v13 h14 n15 =>
 zQ 1 v13 v10 h14 n15 fun v16 h17 n18 =>
 zN 0 v1 fun v19 =>
 zA v19 h17 fun v20 =>
 sMkslice 1 8 [(I 0)] v20 v20 h17 n18 fun v21 h22 n23 =>
 jO [.nils] h22 n23 fun v24 h25 n26 =>
 zQ 1 v24 v21 h25 n26 fun v27 h28 n29 =>
 jO [(.int .u64 0)] h28 n29 fun v30 h31 n32 =>
 jO [.nilf] h31 n32 fun v33 h34 n35 =>
 zQ 1 v33 (.fn 134 (.of 134) [v13, v24, v1, v4, v30, v33]) h34 n35 fun v36 h37 n38 =>
 zA v33 h37 fun v39 =>
 sCall C v39 [(I 0)] h37 n38 fun v40 h41 n42 =>
 K0 (.tup []) h41 n42 := by
 rw [zL F99.tab]; kernel_rfl
theorem F135.g8_eq (X9 : IR) (C : Calls Prop) (N : Nat) (O : Outs Prop) (K : Ks Prop) (x0 x1 x2 x3 x4 x5 x6 x7 x8 x9 : AV) (h : T Blk) (nx : Pa) : IR.run (F135.g8 X9) C N O K (F135.fr x0 x1 x2 x3 x4 x5 x6 x7 x8 x9) h nx =
 IR.run X9 C N (O.blk 2 K) K (F135.fr x0 x1 x2 x3 x4 x5 x6 x7 x8 x9) h nx := by kernel_rfl
theorem F135.g2_eq (X3 : IR) (C : Calls Prop) (N : Nat) (O : Outs Prop) (K : Ks Prop) (x0 x1 x2 x3 x4 x5 x6 x7 x8 x9 : AV) (h : T Blk) (nx : Pa) : IR.run (F135.g2 X3) C N O K (F135.fr x0 x1 x2 x3 x4 x5 x6 x7 x8 x9) h nx =
 IR.run X3 C N (O.blk 0 K) K (F135.fr x0 x1 x2 x3 x4 x5 x6 x7 x8 x9) h nx := by kernel_rfl
theorem F135.tab : T.get none (.of 135) tbl = some F135 := by kernel_rfl
theorem F135.go : zV tbl N C (.of 135) [a0] h nx K0 =
 sLen a0 fun v1 =>
 sBin .lss .int v1 (I 2) fun v2 =>
 zG v2 (K0 a0 h nx) (IR.run F135.b2 C N (fnO F135.res K0) (IR.run F135.b17 C N (fnO F135.res K0) (retK F135.res K0)) (F135.fr a0 .nils (I 1) .undef .undef v2 .undef .undef .undef .undef) h nx) := by
 rw [zL F135.tab]; kernel_rfl
theorem F135.e2 : IR.run F135.b4 C N ((fnO F135.res K0).blk 0 K) R (F135.fr x0 x1 x2 x3 x4 x5 x6 x7 x8 x9) h nx =
 sLen x0 fun v1 =>
 sBin .lss .int x2 v1 fun v2 =>
 zG v2 (zF 1 x0 x2 fun v3 =>
 zA v3 h fun v4 =>
 sBin .sub .int x2 (I 1) fun v5 =>
 zF 1 x0 v5 fun v6 =>
 zA v6 h fun v7 =>
 sBin .eql .int v4 v7 fun v8 =>
 zG v8 (sSlice 1 x0 (some x2) none none fun v9 =>
 IR.run F135.b8 C N (((fnO F135.res K0).blk 0 K).blk 1 (IR.run F135.b16 C N ((fnO F135.res K0).blk 0 K) R)) (IR.run F135.b15 C N (((fnO F135.res K0).blk 0 K).blk 1 (IR.run F135.b16 C N ((fnO F135.res K0).blk 0 K) R)) (IR.run F135.b16 C N ((fnO F135.res K0).blk 0 K) R)) (F135.fr x0 x1 x2 v9 (I 1) x5 v2 v8 x8 x9) h nx) (sBin .add .int x2 (I 1) fun v10 =>
 R (F135.fr x0 x1 v10 x3 x4 x5 v2 v8 x8 x9) h nx)) (K (F135.fr x0 x1 x2 x3 x4 x5 v2 x7 x8 x9) h nx) := by kernel_rfl
theorem F135.L2 (Inv : Nat → AV → T Blk → Pa → Prop) {m : Nat} (hm : m < N) (hi : Inv m x2 h nx)
  (step : ∀ (m : Nat) (z1 z2 z3 z4 z6 z7 z8 z9 : AV) (h : T Blk) (nx : Pa) (R : Ks Prop), Inv m z2 h nx → (∀ (m' : Nat) (w1 w2 w3 w4 w6 w7 w8 w9 : AV) (h' : T Blk) (nx' : Pa), m' < m → Inv m' w2 h' nx' → R (F135.fr x0 w1 w2 w3 w4 x5 w6 w7 w8 w9) h' nx' = .ok True) →
   (sLen x0 fun v1 =>
 sBin .lss .int z2 v1 fun v2 =>
 zG v2 (zF 1 x0 z2 fun v3 =>
 zA v3 h fun v4 =>
 sBin .sub .int z2 (I 1) fun v5 =>
 zF 1 x0 v5 fun v6 =>
 zA v6 h fun v7 =>
 sBin .eql .int v4 v7 fun v8 =>
 zG v8 (sSlice 1 x0 (some z2) none none fun v9 =>
 IR.run F135.b8 C N (((fnO F135.res K0).blk 0 K).blk 1 (IR.run F135.b16 C N ((fnO F135.res K0).blk 0 K) R)) (IR.run F135.b15 C N (((fnO F135.res K0).blk 0 K).blk 1 (IR.run F135.b16 C N ((fnO F135.res K0).blk 0 K) R)) (IR.run F135.b16 C N ((fnO F135.res K0).blk 0 K) R)) (F135.fr x0 z1 z2 v9 (I 1) x5 v2 v8 z8 z9) h nx) (sBin .add .int z2 (I 1) fun v10 =>
 R (F135.fr x0 z1 v10 z3 z4 x5 v2 v8 z8 z9) h nx)) (K (F135.fr x0 z1 z2 z3 z4 x5 v2 z7 z8 z9) h nx)) = .ok True) :
  IR.run F135.b2 C N (fnO F135.res K0) K (F135.fr x0 x1 x2 x3 x4 x5 x6 x7 x8 x9) h nx = .ok True := by
 rw [F135.b2, F135.g2_eq, F135.b3]
 refine yU (fun m tm h nx => ∃ z1 z2 z3 z4 z6 z7 z8 z9, tm = (F135.fr x0 z1 z2 z3 z4 x5 z6 z7 z8 z9) ∧ Inv m z2 h nx) ?_ hm ⟨_, _, _, _, _, _, _, _, rfl, hi⟩
 rintro m tm h nx R ⟨z1, z2, z3, z4, z6, z7, z8, z9, rfl, hi⟩ hR
 rw [F135.e2]
 exact step m z1 z2 z3 z4 z6 z7 z8 z9 h nx R hi fun m' w1 w2 w3 w4 w6 w7 w8 w9 h' nx' hlt hi' => hR m' _ h' nx' hlt ⟨_, _, _, _, _, _, _, _, rfl, hi'⟩
theorem F135.k17 : IR.run F135.b17 C N (fnO F135.res K0) K (F135.fr x0 x1 x2 x3 x4 x5 x6 x7 x8 x9) h nx =
 K0 x0 h nx := by kernel_rfl
theorem F135.e8 {E0 E1 : Ks Prop} : IR.run F135.b10 C N ((((fnO F135.res K0).blk 0 E0).blk 1 E1).blk 2 K) R (F135.fr x0 x1 x2 x3 x4 x5 x6 x7 x8 x9) h nx =
 sLen x3 fun v1 =>
 sBin .lss .int x4 v1 fun v2 =>
 zG v2 (zF 1 x3 x4 fun v3 =>
 zA v3 h fun v4 =>
 sBin .sub .int x4 (I 1) fun v5 =>
 zF 1 x3 v5 fun v6 =>
 zA v6 h fun v7 =>
 sBin .neq .int v4 v7 fun v8 =>
 zG v8 (zF 1 x3 x4 fun v9 =>
 zA v9 h fun v10 =>
 zF 1 x0 x2 fun v11 =>
 zQ 1 v11 v10 h nx fun v12 h13 n14 =>
 sBin .add .int x2 (I 1) fun v15 =>
 sBin .add .int x4 (I 1) fun v16 =>
 R (F135.fr x0 x1 v15 x3 v16 x5 x6 x7 v2 v8) h13 n14) (sBin .add .int x4 (I 1) fun v17 =>
 R (F135.fr x0 x1 x2 x3 v17 x5 x6 x7 v2 v8) h nx)) (K (F135.fr x0 x1 x2 x3 x4 x5 x6 x7 v2 x9) h nx) := by kernel_rfl
theorem F135.L8 {E0 E1 : Ks Prop} (Inv : Nat → AV → AV → T Blk → Pa → Prop) {m : Nat} (hm : m < N) (hi : Inv m x2 x4 h nx)
  (step : ∀ (m : Nat) (z2 z4 z8 z9 : AV) (h : T Blk) (nx : Pa) (R : Ks Prop), Inv m z2 z4 h nx → (∀ (m' : Nat) (w2 w4 w8 w9 : AV) (h' : T Blk) (nx' : Pa), m' < m → Inv m' w2 w4 h' nx' → R (F135.fr x0 x1 w2 x3 w4 x5 x6 x7 w8 w9) h' nx' = .ok True) →
   (sLen x3 fun v1 =>
 sBin .lss .int z4 v1 fun v2 =>
 zG v2 (zF 1 x3 z4 fun v3 =>
 zA v3 h fun v4 =>
 sBin .sub .int z4 (I 1) fun v5 =>
 zF 1 x3 v5 fun v6 =>
 zA v6 h fun v7 =>
 sBin .neq .int v4 v7 fun v8 =>
 zG v8 (zF 1 x3 z4 fun v9 =>
 zA v9 h fun v10 =>
 zF 1 x0 z2 fun v11 =>
 zQ 1 v11 v10 h nx fun v12 h13 n14 =>
 sBin .add .int z2 (I 1) fun v15 =>
 sBin .add .int z4 (I 1) fun v16 =>
 R (F135.fr x0 x1 v15 x3 v16 x5 x6 x7 v2 v8) h13 n14) (sBin .add .int z4 (I 1) fun v17 =>
 R (F135.fr x0 x1 z2 x3 v17 x5 x6 x7 v2 v8) h nx)) (K (F135.fr x0 x1 z2 x3 z4 x5 x6 x7 v2 z9) h nx)) = .ok True) :
  IR.run F135.b8 C N (((fnO F135.res K0).blk 0 E0).blk 1 E1) K (F135.fr x0 x1 x2 x3 x4 x5 x6 x7 x8 x9) h nx = .ok True := by
 rw [F135.b8, F135.g8_eq, F135.b9]
 refine yU (fun m tm h nx => ∃ z2 z4 z8 z9, tm = (F135.fr x0 x1 z2 x3 z4 x5 x6 x7 z8 z9) ∧ Inv m z2 z4 h nx) ?_ hm ⟨_, _, _, _, rfl, hi⟩
 rintro m tm h nx R ⟨z2, z4, z8, z9, rfl, hi⟩ hR
 rw [F135.e8]
 exact step m z2 z4 z8 z9 h nx R hi fun m' w2 w4 w8 w9 h' nx' hlt hi' => hR m' _ h' nx' hlt ⟨_, _, _, _, rfl, hi'⟩
theorem F135.k15 {E0 E1 : Ks Prop} : IR.run F135.b15 C N (((fnO F135.res K0).blk 0 E0).blk 1 E1) K (F135.fr x0 x1 x2 x3 x4 x5 x6 x7 x8 x9) h nx =
 sSlice 1 x0 (some x2) none none fun v1 =>
 sClr 1 [(I 0)] v1 h nx fun v2 h3 n4 =>
 sSlice 1 x0 none (some x2) none fun v5 =>
 K0 v5 h3 n4 := by kernel_rfl
end Go.Ev
namespace Go.Ev
open Go Go.Proofs
set_option maxRecDepth 100000
variable {N : Nat} {C : Calls Prop} {K0 : Kw Prop} {K R : Ks Prop} {h : T Blk} {nx : Pa} {x0 x1 x2 x3 x4 x5 x6 x7 x8 x9 x10 x11 x12 x13 a0 a1 : AV}
theorem F133.g2_eq (X3 : IR) (C : Calls Prop) (N : Nat) (O : Outs Prop) (K : Ks Prop) (x0 x1 x2 x3 x4 x5 x6 x7 x8 x9 x10 x11 x12 x13 : AV) (h : T Blk) (nx : Pa) : IR.run (F133.g2 X3) C N O K (F133.fr x0 x1 x2 x3 x4 x5 x6 x7 x8 x9 x10 x11 x12 x13) h nx =
 IR.run X3 C N (O.blk 0 K) K (F133.fr x0 x1 x2 x3 x4 x5 x6 x7 x8 x9 x10 x11 x12 x13) h nx := by kernel_rfl
theorem F133.tab : T.get none (.of 133) tbl = some F133 := by kernel_rfl
theorem F133.go : zV tbl N C (.of 133) [a0] h nx K0 =
 sBox a0 h nx fun v1 h2 n3 =>
 zN 0 v1 fun v4 =>
 zA v4 h2 fun v5 =>
 zN 1 v1 fun v6 =>
 zA v6 h2 fun v7 =>
 sLen v7 fun v8 =>
 sBin .gtr .int v8 (I 32) fun v9 =>
 jE 1 1 [(I 0)] [(0, 1, v5)] h2 n3 fun v10 h11 n12 =>
 (sBin .gtr .int v8 (I 32) fun v36 => yF v36 v9 ((sLen v7 fun v35 => yF v35 v8 ((zA v6 h11 fun v34 => yF v34 v7 ((zN 1 v1 fun v33 => yF v33 v6 (C.fn 122 (.of 122) [(I 1), (I 16), v10] h11 n12 fun v13 h14 n15 =>
 (sBin .gtr .int v8 (I 32) fun v32 => yF v32 v9 ((sLen v7 fun v31 => yF v31 v8 ((zA v6 h14 fun v30 => yF v30 v7 ((zN 1 v1 fun v29 => yF v29 v6 (C.fn 123 (.of 123) [v9, (I 5)] h14 n15 fun v16 h17 n18 =>
 jE 1 2 [(I 0)] [(0, 1, v13), (1, 1, v16)] h17 n18 fun v19 h20 n21 =>
 C.fn 121 (.of 121) [v19] h20 n21 fun v22 h23 n24 =>
 sBin .neq .int v22 (I 0) fun v25 =>
 zG v25 (K0 v22 h23 n24) (zN 1 v1 fun v26 =>
 zA v26 h23 fun v27 =>
 sLen v27 fun v28 =>
 IR.run F133.b2 C N (fnO F133.res K0) (IR.run F133.b10 C N (fnO F133.res K0) (retK F133.res K0)) (F133.fr a0 v1 (I 0) v22 .undef .undef .undef .undef v25 v27 v28 (I 0) .undef .undef) h23 n24))))))))))))))))) := by
 rw [zL F133.tab]; kernel_rfl
theorem F133.e2 : IR.run F133.b4 C N ((fnO F133.res K0).blk 0 K) R (F133.fr x0 x1 x2 x3 x4 x5 x6 x7 x8 x9 x10 x11 x12 x13) h nx =
 sBin .lss .int x11 x10 fun v1 =>
 zG v1 (zF 2 x9 x11 fun v2 =>
 yB 2 v2 h fun v3 =>
 jO [(I 0), (I 0)] h nx fun v4 h5 n6 =>
 zQ 2 v4 v3 h5 n6 fun v7 h8 n9 =>
 zO 1 2 v4 (I 0) fun v10 =>
 zA v10 h8 fun v11 =>
 sBin .geq .int v11 (I 0) fun v12 =>
 sG v12 true (fun k => zO 1 2 v4 (I 0) k) fun v13 =>
 sG v12 true (fun k => zA v13 h8 k) fun v14 =>
 sG v12 true (fun k => zN 0 x1 k) fun v15 =>
 sG v12 true (fun k => zA v15 h8 k) fun v16 =>
 sG v12 true (fun k => sBin .lss .int v14 v16 k) fun v17 =>
 jD v12 v17 (.bool false) fun v18 =>
 sG v18 true (fun k => zO 1 2 v4 (I 1) k) fun v19 =>
 sG v18 true (fun k => zA v19 h8 k) fun v20 =>
 sG v18 true (fun k => sBin .geq .int v20 (I 0) k) fun v21 =>
 jD v18 v21 (.bool false) fun v22 =>
 sG v22 true (fun k => zO 1 2 v4 (I 1) k) fun v23 =>
 sG v22 true (fun k => zA v23 h8 k) fun v24 =>
 sG v22 true (fun k => zN 0 x1 k) fun v25 =>
 sG v22 true (fun k => zA v25 h8 k) fun v26 =>
 sG v22 true (fun k => sBin .lss .int v24 v26 k) fun v27 =>
 jD v22 v27 (.bool false) fun v28 =>
 (IR.run F133.b8 C N (((fnO F133.res K0).blk 0 K).blk 1 (IR.run F133.b9 C N ((fnO F133.res K0).blk 0 K) R)) (IR.run F133.b9 C N ((fnO F133.res K0).blk 0 K) R)) (F133.fr x0 x1 x2 x3 x11 v4 v28 x7 x8 x9 x10 x11 v1 x13) h8 n9) (K (F133.fr x0 x1 x2 x3 x4 x5 x6 x7 x8 x9 x10 x11 v1 x13) h nx) := by kernel_rfl
theorem F133.L2 (Inv : Nat → AV → T Blk → Pa → Prop) {m : Nat} (hm : m < N) (hi : Inv m x11 h nx)
  (step : ∀ (m : Nat) (z2 z4 z5 z6 z7 z11 z12 z13 : AV) (h : T Blk) (nx : Pa) (R : Ks Prop), Inv m z11 h nx → (∀ (m' : Nat) (w2 w4 w5 w6 w7 w11 w12 w13 : AV) (h' : T Blk) (nx' : Pa), m' < m → Inv m' w11 h' nx' → R (F133.fr x0 x1 w2 x3 w4 w5 w6 w7 x8 x9 x10 w11 w12 w13) h' nx' = .ok True) →
   (sBin .lss .int z11 x10 fun v1 =>
 zG v1 (zF 2 x9 z11 fun v2 =>
 yB 2 v2 h fun v3 =>
 jO [(I 0), (I 0)] h nx fun v4 h5 n6 =>
 zQ 2 v4 v3 h5 n6 fun v7 h8 n9 =>
 zO 1 2 v4 (I 0) fun v10 =>
 zA v10 h8 fun v11 =>
 sBin .geq .int v11 (I 0) fun v12 =>
 sG v12 true (fun k => zO 1 2 v4 (I 0) k) fun v13 =>
 sG v12 true (fun k => zA v13 h8 k) fun v14 =>
 sG v12 true (fun k => zN 0 x1 k) fun v15 =>
 sG v12 true (fun k => zA v15 h8 k) fun v16 =>
 sG v12 true (fun k => sBin .lss .int v14 v16 k) fun v17 =>
 jD v12 v17 (.bool false) fun v18 =>
 sG v18 true (fun k => zO 1 2 v4 (I 1) k) fun v19 =>
 sG v18 true (fun k => zA v19 h8 k) fun v20 =>
 sG v18 true (fun k => sBin .geq .int v20 (I 0) k) fun v21 =>
 jD v18 v21 (.bool false) fun v22 =>
 sG v22 true (fun k => zO 1 2 v4 (I 1) k) fun v23 =>
 sG v22 true (fun k => zA v23 h8 k) fun v24 =>
 sG v22 true (fun k => zN 0 x1 k) fun v25 =>
 sG v22 true (fun k => zA v25 h8 k) fun v26 =>
 sG v22 true (fun k => sBin .lss .int v24 v26 k) fun v27 =>
 jD v22 v27 (.bool false) fun v28 =>
 (IR.run F133.b8 C N (((fnO F133.res K0).blk 0 K).blk 1 (IR.run F133.b9 C N ((fnO F133.res K0).blk 0 K) R)) (IR.run F133.b9 C N ((fnO F133.res K0).blk 0 K) R)) (F133.fr x0 x1 z2 x3 z11 v4 v28 z7 x8 x9 x10 z11 v1 z13) h8 n9) (K (F133.fr x0 x1 z2 x3 z4 z5 z6 z7 x8 x9 x10 z11 v1 z13) h nx)) = .ok True) :
  IR.run F133.b2 C N (fnO F133.res K0) K (F133.fr x0 x1 x2 x3 x4 x5 x6 x7 x8 x9 x10 x11 x12 x13) h nx = .ok True := by
 rw [F133.b2, F133.g2_eq, F133.b3]
 refine yU (fun m tm h nx => ∃ z2 z4 z5 z6 z7 z11 z12 z13, tm = (F133.fr x0 x1 z2 x3 z4 z5 z6 z7 x8 x9 x10 z11 z12 z13) ∧ Inv m z11 h nx) ?_ hm ⟨_, _, _, _, _, _, _, _, rfl, hi⟩
 rintro m tm h nx R ⟨z2, z4, z5, z6, z7, z11, z12, z13, rfl, hi⟩ hR
 rw [F133.e2]
 exact step m z2 z4 z5 z6 z7 z11 z12 z13 h nx R hi fun m' w2 w4 w5 w6 w7 w11 w12 w13 h' nx' hlt hi' => hR m' _ h' nx' hlt ⟨_, _, _, _, _, _, _, _, rfl, hi'⟩
theorem F133.k10 : IR.run F133.b10 C N (fnO F133.res K0) K (F133.fr x0 x1 x2 x3 x4 x5 x6 x7 x8 x9 x10 x11 x12 x13) h nx =
 K0 (I 0) h nx := by kernel_rfl
theorem F133.k9 {E0 : Ks Prop} : IR.run F133.b9 C N ((fnO F133.res K0).blk 0 E0) K (F133.fr x0 x1 x2 x3 x4 x5 x6 x7 x8 x9 x10 x11 x12 x13) h nx =
 sBin .add .int x11 (I 1) fun v1 =>
 K (F133.fr x0 x1 x2 x3 x4 x5 x6 x7 x8 x9 x10 v1 x12 x13) h nx := by kernel_rfl
theorem F133.k8 {E0 E1 : Ks Prop} : IR.run F133.b8 C N (((fnO F133.res K0).blk 0 E0).blk 1 E1) K (F133.fr x0 x1 x2 x3 x4 x5 x6 x7 x8 x9 x10 x11 x12 x13) h nx =
 sNot x6 fun v1 =>
 zO 1 2 x5 (I 0) fun v2 =>
 zA v2 h fun v3 =>
 zO 1 2 x5 (I 1) fun v4 =>
 zA v4 h fun v5 =>
 sBin .geq .int v3 v5 fun v6 =>
 zN 1 x1 fun v7 =>
 zA v7 h fun v8 =>
 sSlice 2 v8 none (some x4) none fun v9 =>
 yB 2 x5 h fun v10 =>
 C.fn 123 (.of 123) [v1, (I 10)] h nx fun v11 h12 n13 =>
 (yB 2 x5 h12 fun v42 => yF v42 v10 ((sSlice 2 v8 none (some x4) none fun v41 => yF v41 v9 (yF x4 x4 ((zA v7 h12 fun v40 => yF v40 v8 ((zN 1 x1 fun v39 => yF v39 v7 ((sBin .geq .int v3 v5 fun v38 => yF v38 v6 ((zA v4 h12 fun v37 => yF v37 v5 ((zO 1 2 x5 (I 1) fun v36 => yF v36 v4 ((zA v2 h12 fun v35 => yF v35 v3 ((zO 1 2 x5 (I 0) fun v34 => yF v34 v2 (C.fn 123 (.of 123) [v6, (I 11)] h12 n13 fun v14 h15 n16 =>
 (yB 2 x5 h15 fun v33 => yF v33 v10 ((sSlice 2 v8 none (some x4) none fun v32 => yF v32 v9 (yF x4 x4 ((zA v7 h15 fun v31 => yF v31 v8 ((zN 1 x1 fun v30 => yF v30 v7 (C.fn 166 (.of 166) [v9, v10] h15 n16 fun v17 h18 n19 =>
 C.fn 123 (.of 123) [v17, (I 9)] h18 n19 fun v20 h21 n22 =>
 jE 1 3 [(I 0)] [(0, 1, v11), (1, 1, v14), (2, 1, v20)] h21 n22 fun v23 h24 n25 =>
 C.fn 121 (.of 121) [v23] h24 n25 fun v26 h27 n28 =>
 sBin .neq .int v26 (I 0) fun v29 =>
 zG v29 (K0 v26 h27 n28) (K (F133.fr x0 x1 x2 x3 x4 x5 x6 v26 x8 x9 x10 x11 x12 v29) h27 n28))))))))))))))))))))))))))))) := by kernel_rfl
theorem F42.g11_eq (X12 : IR) (C : Calls Prop) (N : Nat) (O : Outs Prop) (K : Ks Prop) (x0 x1 x2 x3 x4 x5 x6 x7 x8 x9 x10 x11 x12 : AV) (h : T Blk) (nx : Pa) : IR.run (F42.g11 X12) C N O K (F42.fr x0 x1 x2 x3 x4 x5 x6 x7 x8 x9 x10 x11 x12) h nx =
 IR.run X12 C N (O.blk 2 K) K (F42.fr x0 x1 x2 x3 x4 x5 x6 x7 x8 x9 x10 x11 x12) h nx := by kernel_rfl
theorem F42.g3_eq (X4 : IR) (C : Calls Prop) (N : Nat) (O : Outs Prop) (K : Ks Prop) (x0 x1 x2 x3 x4 x5 x6 x7 x8 x9 x10 x11 x12 : AV) (h : T Blk) (nx : Pa) : IR.run (F42.g3 X4) C N O K (F42.fr x0 x1 x2 x3 x4 x5 x6 x7 x8 x9 x10 x11 x12) h nx =
 IR.run X4 C N (O.blk 0 K) K (F42.fr x0 x1 x2 x3 x4 x5 x6 x7 x8 x9 x10 x11 x12) h nx := by kernel_rfl
theorem F42.tab : T.get none (.of 42) tbl = some F42 := by kernel_rfl
theorem F42.go : zV tbl N C (.of 42) [a0] h nx K0 =
 sBox a0 h nx fun v1 h2 n3 =>
 zN 0 v1 fun v4 =>
 zA v4 h2 fun v5 =>
 sBin .lss .int v5 (I 1) fun v6 =>
 sG v6 false (fun k => zN 0 v1 k) fun v7 =>
 sG v6 false (fun k => zA v7 h2 k) fun v8 =>
 sG v6 false (fun k => sBin .gtr .int v8 (I 16) k) fun v9 =>
 jD v6 (.bool true) v9 fun v10 =>
 zG v10 (K0 (I 3) h2 n3) (zN 1 v1 fun v11 =>
 zA v11 h2 fun v12 =>
 sLen v12 fun v13 =>
 sBin .gtr .int v13 (I 32) fun v14 =>
 zG v14 (K0 (I 5) h2 n3) (IR.run F42.b3 C N (fnO F42.res K0) (IR.run F42.b19 C N (fnO F42.res K0) (retK F42.res K0)) (F42.fr a0 v1 (I 0) (I 0) .undef .undef v10 v14 .undef .undef .undef .undef .undef) h2 n3)) := by
 rw [zL F42.tab]; kernel_rfl
theorem F42.e3 : IR.run F42.b5 C N ((fnO F42.res K0).blk 0 K) R (F42.fr x0 x1 x2 x3 x4 x5 x6 x7 x8 x9 x10 x11 x12) h nx =
 zN 1 x1 fun v1 =>
 zA v1 h fun v2 =>
 sLen v2 fun v3 =>
 sBin .lss .int x3 v3 fun v4 =>
 zG v4 (zN 1 x1 fun v5 =>
 zA v5 h fun v6 =>
 zF 2 v6 x3 fun v7 =>
 yB 2 v7 h fun v8 =>
 jO [(I 0), (I 0)] h nx fun v9 h10 n11 =>
 zQ 2 v9 v8 h10 n11 fun v12 h13 n14 =>
 zO 1 2 v9 (I 0) fun v15 =>
 zA v15 h13 fun v16 =>
 sBin .lss .int v16 (I 0) fun v17 =>
 sG v17 false (fun k => zO 1 2 v9 (I 0) k) fun v18 =>
 sG v17 false (fun k => zA v18 h13 k) fun v19 =>
 sG v17 false (fun k => zN 0 x1 k) fun v20 =>
 sG v17 false (fun k => zA v20 h13 k) fun v21 =>
 sG v17 false (fun k => sBin .geq .int v19 v21 k) fun v22 =>
 jD v17 (.bool true) v22 fun v23 =>
 sG v23 false (fun k => zO 1 2 v9 (I 1) k) fun v24 =>
 sG v23 false (fun k => zA v24 h13 k) fun v25 =>
 sG v23 false (fun k => sBin .lss .int v25 (I 0) k) fun v26 =>
 jD v23 (.bool true) v26 fun v27 =>
 sG v27 false (fun k => zO 1 2 v9 (I 1) k) fun v28 =>
 sG v27 false (fun k => zA v28 h13 k) fun v29 =>
 sG v27 false (fun k => zN 0 x1 k) fun v30 =>
 sG v27 false (fun k => zA v30 h13 k) fun v31 =>
 sG v27 false (fun k => sBin .geq .int v29 v31 k) fun v32 =>
 jD v27 (.bool true) v32 fun v33 =>
 zG v33 (K0 (I 10) h13 n14) ((IR.run F42.b9 C N (((fnO F42.res K0).blk 0 K).blk 1 (IR.run F42.b18 C N ((fnO F42.res K0).blk 0 K) R)) (IR.run F42.b18 C N ((fnO F42.res K0).blk 0 K) R)) (F42.fr x0 x1 x2 x3 v9 x5 x6 x7 v4 v33 x10 x11 x12) h13 n14)) (K (F42.fr x0 x1 x2 x3 x4 x5 x6 x7 v4 x9 x10 x11 x12) h nx) := by kernel_rfl
theorem F42.L3 (Inv : Nat → AV → T Blk → Pa → Prop) {m : Nat} (hm : m < N) (hi : Inv m x3 h nx)
  (step : ∀ (m : Nat) (z2 z3 z4 z5 z8 z9 z10 z11 z12 : AV) (h : T Blk) (nx : Pa) (R : Ks Prop), Inv m z3 h nx → (∀ (m' : Nat) (w2 w3 w4 w5 w8 w9 w10 w11 w12 : AV) (h' : T Blk) (nx' : Pa), m' < m → Inv m' w3 h' nx' → R (F42.fr x0 x1 w2 w3 w4 w5 x6 x7 w8 w9 w10 w11 w12) h' nx' = .ok True) →
   (zN 1 x1 fun v1 =>
 zA v1 h fun v2 =>
 sLen v2 fun v3 =>
 sBin .lss .int z3 v3 fun v4 =>
 zG v4 (zN 1 x1 fun v5 =>
 zA v5 h fun v6 =>
 zF 2 v6 z3 fun v7 =>
 yB 2 v7 h fun v8 =>
 jO [(I 0), (I 0)] h nx fun v9 h10 n11 =>
 zQ 2 v9 v8 h10 n11 fun v12 h13 n14 =>
 zO 1 2 v9 (I 0) fun v15 =>
 zA v15 h13 fun v16 =>
 sBin .lss .int v16 (I 0) fun v17 =>
 sG v17 false (fun k => zO 1 2 v9 (I 0) k) fun v18 =>
 sG v17 false (fun k => zA v18 h13 k) fun v19 =>
 sG v17 false (fun k => zN 0 x1 k) fun v20 =>
 sG v17 false (fun k => zA v20 h13 k) fun v21 =>
 sG v17 false (fun k => sBin .geq .int v19 v21 k) fun v22 =>
 jD v17 (.bool true) v22 fun v23 =>
 sG v23 false (fun k => zO 1 2 v9 (I 1) k) fun v24 =>
 sG v23 false (fun k => zA v24 h13 k) fun v25 =>
 sG v23 false (fun k => sBin .lss .int v25 (I 0) k) fun v26 =>
 jD v23 (.bool true) v26 fun v27 =>
 sG v27 false (fun k => zO 1 2 v9 (I 1) k) fun v28 =>
 sG v27 false (fun k => zA v28 h13 k) fun v29 =>
 sG v27 false (fun k => zN 0 x1 k) fun v30 =>
 sG v27 false (fun k => zA v30 h13 k) fun v31 =>
 sG v27 false (fun k => sBin .geq .int v29 v31 k) fun v32 =>
 jD v27 (.bool true) v32 fun v33 =>
 zG v33 (K0 (I 10) h13 n14) ((IR.run F42.b9 C N (((fnO F42.res K0).blk 0 K).blk 1 (IR.run F42.b18 C N ((fnO F42.res K0).blk 0 K) R)) (IR.run F42.b18 C N ((fnO F42.res K0).blk 0 K) R)) (F42.fr x0 x1 z2 z3 v9 z5 x6 x7 v4 v33 z10 z11 z12) h13 n14)) (K (F42.fr x0 x1 z2 z3 z4 z5 x6 x7 v4 z9 z10 z11 z12) h nx)) = .ok True) :
  IR.run F42.b3 C N (fnO F42.res K0) K (F42.fr x0 x1 x2 x3 x4 x5 x6 x7 x8 x9 x10 x11 x12) h nx = .ok True := by
 rw [F42.b3, F42.g3_eq, F42.b4]
 refine yU (fun m tm h nx => ∃ z2 z3 z4 z5 z8 z9 z10 z11 z12, tm = (F42.fr x0 x1 z2 z3 z4 z5 x6 x7 z8 z9 z10 z11 z12) ∧ Inv m z3 h nx) ?_ hm ⟨_, _, _, _, _, _, _, _, _, rfl, hi⟩
 rintro m tm h nx R ⟨z2, z3, z4, z5, z8, z9, z10, z11, z12, rfl, hi⟩ hR
 rw [F42.e3]
 exact step m z2 z3 z4 z5 z8 z9 z10 z11 z12 h nx R hi fun m' w2 w3 w4 w5 w8 w9 w10 w11 w12 h' nx' hlt hi' => hR m' _ h' nx' hlt ⟨_, _, _, _, _, _, _, _, _, rfl, hi'⟩
theorem F42.k19 : IR.run F42.b19 C N (fnO F42.res K0) K (F42.fr x0 x1 x2 x3 x4 x5 x6 x7 x8 x9 x10 x11 x12) h nx =
 K0 (I 0) h nx := by kernel_rfl
theorem F42.k18 {E0 : Ks Prop} : IR.run F42.b18 C N ((fnO F42.res K0).blk 0 E0) K (F42.fr x0 x1 x2 x3 x4 x5 x6 x7 x8 x9 x10 x11 x12) h nx =
 sBin .add .int x3 (I 1) fun v1 =>
 K (F42.fr x0 x1 x2 v1 x4 x5 x6 x7 x8 x9 x10 x11 x12) h nx := by kernel_rfl
theorem F42.k9 {E0 E1 : Ks Prop} : IR.run F42.b9 C N (((fnO F42.res K0).blk 0 E0).blk 1 E1) K (F42.fr x0 x1 x2 x3 x4 x5 x6 x7 x8 x9 x10 x11 x12) h nx =
 zO 1 2 x4 (I 0) fun v1 =>
 zA v1 h fun v2 =>
 zO 1 2 x4 (I 1) fun v3 =>
 zA v3 h fun v4 =>
 sBin .geq .int v2 v4 fun v5 =>
 zG v5 (K0 (I 11) h nx) (IR.run F42.b11 C N (((fnO F42.res K0).blk 0 E0).blk 1 E1) K (F42.fr x0 x1 x2 x3 x4 (I 0) x6 x7 x8 x9 v5 x11 x12) h nx) := by kernel_rfl
theorem F42.e11 {E0 E1 : Ks Prop} : IR.run F42.b13 C N ((((fnO F42.res K0).blk 0 E0).blk 1 E1).blk 2 K) R (F42.fr x0 x1 x2 x3 x4 x5 x6 x7 x8 x9 x10 x11 x12) h nx =
 sBin .lss .int x5 x3 fun v1 =>
 zG v1 (zN 1 x1 fun v2 =>
 zA v2 h fun v3 =>
 zF 2 v3 x5 fun v4 =>
 yB 2 v4 h fun v5 =>
 yB 2 x4 h fun v6 =>
 sBin .eql (.agg 2) v5 v6 fun v7 =>
 zG v7 (K0 (I 9) h nx) (sBin .add .int x5 (I 1) fun v8 =>
 R (F42.fr x0 x1 x2 x3 x4 v8 x6 x7 x8 x9 x10 v1 v7) h nx)) (K (F42.fr x0 x1 x2 x3 x4 x5 x6 x7 x8 x9 x10 v1 x12) h nx) := by kernel_rfl
theorem F42.L11 {E0 E1 : Ks Prop} (Inv : Nat → AV → T Blk → Pa → Prop) {m : Nat} (hm : m < N) (hi : Inv m x5 h nx)
  (step : ∀ (m : Nat) (z2 z5 z11 z12 : AV) (h : T Blk) (nx : Pa) (R : Ks Prop), Inv m z5 h nx → (∀ (m' : Nat) (w2 w5 w11 w12 : AV) (h' : T Blk) (nx' : Pa), m' < m → Inv m' w5 h' nx' → R (F42.fr x0 x1 w2 x3 x4 w5 x6 x7 x8 x9 x10 w11 w12) h' nx' = .ok True) →
   (sBin .lss .int z5 x3 fun v1 =>
 zG v1 (zN 1 x1 fun v2 =>
 zA v2 h fun v3 =>
 zF 2 v3 z5 fun v4 =>
 yB 2 v4 h fun v5 =>
 yB 2 x4 h fun v6 =>
 sBin .eql (.agg 2) v5 v6 fun v7 =>
 zG v7 (K0 (I 9) h nx) (sBin .add .int z5 (I 1) fun v8 =>
 R (F42.fr x0 x1 z2 x3 x4 v8 x6 x7 x8 x9 x10 v1 v7) h nx)) (K (F42.fr x0 x1 z2 x3 x4 z5 x6 x7 x8 x9 x10 v1 z12) h nx)) = .ok True) :
  IR.run F42.b11 C N (((fnO F42.res K0).blk 0 E0).blk 1 E1) K (F42.fr x0 x1 x2 x3 x4 x5 x6 x7 x8 x9 x10 x11 x12) h nx = .ok True := by
 rw [F42.b11, F42.g11_eq, F42.b12]
 refine yU (fun m tm h nx => ∃ z2 z5 z11 z12, tm = (F42.fr x0 x1 z2 x3 x4 z5 x6 x7 x8 x9 x10 z11 z12) ∧ Inv m z5 h nx) ?_ hm ⟨_, _, _, _, rfl, hi⟩
 rintro m tm h nx R ⟨z2, z5, z11, z12, rfl, hi⟩ hR
 rw [F42.e11]
 exact step m z2 z5 z11 z12 h nx R hi fun m' w2 w5 w11 w12 h' nx' hlt hi' => hR m' _ h' nx' hlt ⟨_, _, _, _, rfl, hi'⟩
theorem F166.tab : T.get none (.of 166) tbl = some F166 := by kernel_rfl
theorem F166.go : zV tbl N C (.of 166) [a0, a1] h nx K0 =
 sBox a1 h nx fun v1 h2 n3 =>
 yB 2 v1 h2 fun v4 =>
 C.fn 180 (.of 180) [a0, v4] h2 n3 fun v5 h6 n7 =>
 sBin .geq .int v5 (I 0) fun v8 =>
 K0 v8 h6 n7 := by
 rw [zL F166.tab]; kernel_rfl
theorem F180.g1_eq (X2 : IR) (C : Calls Prop) (N : Nat) (O : Outs Prop) (K : Ks Prop) (x0 x1 x2 x3 x4 x5 x6 x7 x8 : AV) (h : T Blk) (nx : Pa) : IR.run (F180.g1 X2) C N O K (F180.fr x0 x1 x2 x3 x4 x5 x6 x7 x8) h nx =
 IR.run X2 C N (O.blk 0 K) K (F180.fr x0 x1 x2 x3 x4 x5 x6 x7 x8) h nx := by kernel_rfl
theorem F180.tab : T.get none (.of 180) tbl = some F180 := by kernel_rfl
theorem F180.go : zV tbl N C (.of 180) [a0, a1] h nx K0 =
 sBox a1 h nx fun v1 h2 n3 =>
 sLen a0 fun v4 =>
 IR.run F180.b1 C N (fnO F180.res K0) (IR.run F180.b8 C N (fnO F180.res K0) (retK F180.res K0)) (F180.fr a0 a1 v1 (I 0) .undef v4 (I 0) .undef .undef) h2 n3 := by
 rw [zL F180.tab]; kernel_rfl
theorem F180.e1 : IR.run F180.b3 C N ((fnO F180.res K0).blk 0 K) R (F180.fr x0 x1 x2 x3 x4 x5 x6 x7 x8) h nx =
 sBin .lss .int x6 x5 fun v1 =>
 zG v1 (yB 2 x2 h fun v2 =>
 zF 2 x0 x6 fun v3 =>
 yB 2 v3 h fun v4 =>
 sBin .eql (.agg 2) v2 v4 fun v5 =>
 zG v5 (K0 x6 h nx) (sBin .add .int x6 (I 1) fun v6 =>
 R (F180.fr x0 x1 x2 x3 x6 x5 v6 v1 v5) h nx)) (K (F180.fr x0 x1 x2 x3 x4 x5 x6 v1 x8) h nx) := by kernel_rfl
theorem F180.L1 (Inv : Nat → AV → T Blk → Pa → Prop) {m : Nat} (hm : m < N) (hi : Inv m x6 h nx)
  (step : ∀ (m : Nat) (z3 z4 z6 z7 z8 : AV) (h : T Blk) (nx : Pa) (R : Ks Prop), Inv m z6 h nx → (∀ (m' : Nat) (w3 w4 w6 w7 w8 : AV) (h' : T Blk) (nx' : Pa), m' < m → Inv m' w6 h' nx' → R (F180.fr x0 x1 x2 w3 w4 x5 w6 w7 w8) h' nx' = .ok True) →
   (sBin .lss .int z6 x5 fun v1 =>
 zG v1 (yB 2 x2 h fun v2 =>
 zF 2 x0 z6 fun v3 =>
 yB 2 v3 h fun v4 =>
 sBin .eql (.agg 2) v2 v4 fun v5 =>
 zG v5 (K0 z6 h nx) (sBin .add .int z6 (I 1) fun v6 =>
 R (F180.fr x0 x1 x2 z3 z6 x5 v6 v1 v5) h nx)) (K (F180.fr x0 x1 x2 z3 z4 x5 z6 v1 z8) h nx)) = .ok True) :
  IR.run F180.b1 C N (fnO F180.res K0) K (F180.fr x0 x1 x2 x3 x4 x5 x6 x7 x8) h nx = .ok True := by
 rw [F180.b1, F180.g1_eq, F180.b2]
 refine yU (fun m tm h nx => ∃ z3 z4 z6 z7 z8, tm = (F180.fr x0 x1 x2 z3 z4 x5 z6 z7 z8) ∧ Inv m z6 h nx) ?_ hm ⟨_, _, _, _, _, rfl, hi⟩
 rintro m tm h nx R ⟨z3, z4, z6, z7, z8, rfl, hi⟩ hR
 rw [F180.e1]
 exact step m z3 z4 z6 z7 z8 h nx R hi fun m' w3 w4 w6 w7 w8 h' nx' hlt hi' => hR m' _ h' nx' hlt ⟨_, _, _, _, _, rfl, hi'⟩
theorem F180.k8 : IR.run F180.b8 C N (fnO F180.res K0) K (F180.fr x0 x1 x2 x3 x4 x5 x6 x7 x8) h nx =
 K0 (I (-1)) h nx := by kernel_rfl
end Go.Ev
namespace Go.Ev
open Go Go.Proofs
set_option maxRecDepth 100000
variable {N : Nat} {C : Calls Prop} {K0 : Kw Prop} {K R : Ks Prop} {h : T Blk} {nx : Pa} {x0 x1 x2 x3 x4 x5 x6 x7 x8 x9 x10 x11 x12 x13 x14 a0 a1 a2 : AV}
theorem F8.tab : T.get none (.of 8) tbl = some F8 := by kernel_rfl
theorem F8.go : zV tbl N C (.of 8) [a0] h nx K0 =
 sBox a0 h nx fun v1 h2 n3 =>
 zN 1 v1 fun v4 =>
 zA v4 h2 fun v5 =>
 sLen v5 fun v6 =>
 sBin .gtr .int v6 (I 40) fun v7 =>
 sG v7 false (fun k => zN 1 v1 k) fun v8 =>
 sG v7 false (fun k => zA v8 h2 k) fun v9 =>
 sG v7 false (fun k => sLen v9 k) fun v10 =>
 sG v7 false (fun k => sBin .gtr .int v10 (I 6) k) fun v11 =>
 sG v7 false (fun k => k v11) fun v12 =>
 sG v12 true (fun k => zN 1 v1 k) fun v13 =>
 sG v12 true (fun k => zA v13 h2 k) fun v14 =>
 sG v12 true (fun k => sLen v14 k) fun v15 =>
 sG v12 true (fun k => sBin .leq .int v15 (I 8) k) fun v16 =>
 sG v7 false (fun k => jD v12 v16 (.bool false) k) fun v17 =>
 jD v7 (.bool true) v17 fun v18 =>
 zG v18 (C.fn 18 (.of 18) [] h2 n3 fun v19 h20 n21 =>
 K0 v19 h20 n21) ((IR.run F8.b1 C N (fnO F8.res K0) (retK F8.res K0)) (F8.fr a0 v1 (.bool false) .undef .undef .undef .undef .undef .undef .undef v18 .undef .undef .undef .undef) h2 n3) := by
 rw [zL F8.tab]; kernel_rfl
theorem F8.k1 : IR.run F8.b1 C N (fnO F8.res K0) K (F8.fr x0 x1 x2 x3 x4 x5 x6 x7 x8 x9 x10 x11 x12 x13 x14) h nx =
 yB 2 x1 h fun v1 =>
 C.fn 40 (.of 40) [v1] h nx fun v2 h3 n4 =>
 sExt 0 v2 fun v5 =>
 sExt 1 v2 fun v6 =>
 yB 2 x1 h3 fun v7 =>
 C.fn 41 (.of 41) [v7] h3 n4 fun v8 h9 n10 =>
 sExt 0 v8 fun v11 =>
 sExt 1 v8 fun v12 =>
 yB 2 x1 h9 fun v13 =>
 C.fn 42 (.of 42) [v13] h9 n10 fun v14 h15 n16 =>
 sBin .eql .int v14 (I 0) fun v17 =>
 sG v17 true (fun k => zN 1 x1 k) fun v18 =>
 sG v17 true (fun k => zA v18 h15 k) fun v19 =>
 sG v17 true (fun k => sLen v19 k) fun v20 =>
 sG v17 true (fun k => sBin .gtr .int v20 (I 8) k) fun v21 =>
 jD v17 v21 (.bool false) fun v22 =>
 zG v22 ((IR.run F8.b2 C N (fnO F8.res K0) K) (F8.fr x0 x1 x2 v5 v6 v11 v12 (I 20) x8 x9 x10 v22 x12 x13 x14) h15 n16) ((IR.run F8.b2 C N (fnO F8.res K0) K) (F8.fr x0 x1 x2 v5 v6 v11 v12 v14 x8 x9 x10 v22 x12 x13 x14) h15 n16) := by kernel_rfl
theorem F8.k2 : IR.run F8.b2 C N (fnO F8.res K0) K (F8.fr x0 x1 x2 x3 x4 x5 x6 x7 x8 x9 x10 x11 x12 x13 x14) h nx =
 sBin .neq .int x7 (I 0) fun v1 =>
 zG v1 (sBin .eql .int x3 (I 0) fun v2 =>
 sG v2 true (fun k => k x4) fun v3 =>
 sG v2 true (fun k => k x7) fun v4 =>
 sG v2 true (fun k => sBin .eql .int v3 v4 k) fun v5 =>
 jD v2 v5 (.bool false) fun v6 =>
 sG v6 true (fun k => k x5) fun v7 =>
 sG v6 true (fun k => sLen v7 k) fun v8 =>
 sG v6 true (fun k => sBin .eql .int v8 (I 0) k) fun v9 =>
 jD v6 v9 (.bool false) fun v10 =>
 sG v10 true (fun k => k x6) fun v11 =>
 sG v10 true (fun k => k x7) fun v12 =>
 sG v10 true (fun k => sBin .eql .int v11 v12 k) fun v13 =>
 jD v10 v13 (.bool false) fun v14 =>
 sGW v14 true (fun k => C.fn 18 (.of 18) [] h nx k) h nx fun v15 h16 n17 =>
 jD v14 v15 (.bool false) fun v18 =>
 K0 v18 h16 n17) ((IR.run F8.b3 C N (fnO F8.res K0) K) (F8.fr x0 x1 x2 x3 x4 x5 x6 x7 x8 x9 x10 x11 v1 x13 x14) h nx) := by kernel_rfl
theorem F8.k3 : IR.run F8.b3 C N (fnO F8.res K0) K (F8.fr x0 x1 x2 x3 x4 x5 x6 x7 x8 x9 x10 x11 x12 x13 x14) h nx =
 yB 2 x1 h fun v1 =>
 C.fn 43 (.of 43) [v1, .nils] h nx fun v2 h3 n4 =>
 sExt 0 v2 fun v5 =>
 sExt 1 v2 fun v6 =>
 sBin .neq .int x4 (I 0) fun v7 =>
 sG v7 false (fun k => k x3) fun v8 =>
 sG v7 false (fun k => k v5) fun v9 =>
 sG v7 false (fun k => sBin .neq .int v8 v9 k) fun v10 =>
 jD v7 (.bool true) v10 fun v11 =>
 zG v11 (K0 (.bool false) h3 n4) (sBin .eql .int v5 (I 0) fun v12 =>
 zG v12 (sLen x5 fun v13 =>
 sBin .eql .int v13 (I 0) fun v14 =>
 sG v14 true (fun k => k x6) fun v15 =>
 sG v14 true (fun k => sBin .eql .int v15 (I 7) k) fun v16 =>
 jD v14 v16 (.bool false) fun v17 =>
 sGW v17 true (fun k => C.fn 18 (.of 18) [] h3 n4 k) h3 n4 fun v18 h19 n20 =>
 jD v17 v18 (.bool false) fun v21 =>
 K0 v21 h19 n20) ((IR.run F8.b5 C N (fnO F8.res K0) K) (F8.fr x0 x1 x2 x3 x4 x5 x6 x7 v5 v6 x10 x11 x12 v11 v12) h3 n4)) := by kernel_rfl
theorem F8.k5 : IR.run F8.b5 C N (fnO F8.res K0) K (F8.fr x0 x1 x2 x3 x4 x5 x6 x7 x8 x9 x10 x11 x12 x13 x14) h nx =
 sBin .eql .int x6 (I 0) fun v1 =>
 sG v1 true (fun k => k x5) fun v2 =>
 sG v1 true (fun k => k x9) fun v3 =>
 sGW v1 true (fun k => C.fn 35 (.of 35) [v2, v3] h nx k) h nx fun v4 h5 n6 =>
 jD v1 v4 (.bool false) fun v7 =>
 sGW v7 true (fun k => C.fn 18 (.of 18) [] h5 n6 k) h5 n6 fun v8 h9 n10 =>
 jD v7 v8 (.bool false) fun v11 =>
 K0 v11 h9 n10 := by kernel_rfl
theorem F40.tab : T.get none (.of 40) tbl = some F40 := by kernel_rfl
theorem F40.go : zV tbl N C (.of 40) [a0] h nx K0 =
 sBox a0 h nx fun v1 h2 n3 =>
 yB 2 v1 h2 fun v4 =>
 C.fn 98 (.of 98) [v4] h2 n3 fun v5 h6 n7 =>
 sBin .neq .int v5 (I 0) fun v8 =>
 zG v8 (K0 (.tup [(I 0), v5]) h6 n7) (jO [(I 0)] h6 n7 fun v9 h10 n11 =>
 zQ 1 v9 (I 0) h10 n11 fun v12 h13 n14 =>
 yB 2 v1 h13 fun v15 =>
 C.fn 99 (.of 99) [v15, (.fn 100 (.of 100) [v9])] h13 n14 fun v16 h17 n18 =>
 zA v9 h17 fun v19 =>
 K0 (.tup [v19, (I 0)]) h17 n18) := by
 rw [zL F40.tab]; kernel_rfl
theorem F41.tab : T.get none (.of 41) tbl = some F41 := by kernel_rfl
theorem F41.go : zV tbl N C (.of 41) [a0] h nx K0 =
 sBox a0 h nx fun v1 h2 n3 =>
 yB 2 v1 h2 fun v4 =>
 C.fn 98 (.of 98) [v4] h2 n3 fun v5 h6 n7 =>
 sBin .neq .int v5 (I 0) fun v8 =>
 zG v8 (K0 (.tup [.nils, v5]) h6 n7) (jO [(.bool false)] h6 n7 fun v9 h10 n11 =>
 zQ 1 v9 (.bool false) h10 n11 fun v12 h13 n14 =>
 jO [.nils] h13 n14 fun v15 h16 n17 =>
 yB 2 v1 h16 fun v18 =>
 C.fn 99 (.of 99) [v18, (.fn 101 (.of 101) [v9, v15])] h16 n17 fun v19 h20 n21 =>
 zA v15 h20 fun v22 =>
 zA v9 h20 fun v23 =>
 sNot v23 fun v24 =>
 C.fn 82 (.of 82) [v24, (I 7)] h20 n21 fun v25 h26 n27 =>
 (zA v15 h26 fun v28 => yF v28 v22 (K0 (.tup [v22, v25]) h26 n27))) := by
 rw [zL F41.tab]; kernel_rfl
theorem F98.tab : T.get none (.of 98) tbl = some F98 := by kernel_rfl
theorem F98.go : zV tbl N C (.of 98) [a0] h nx K0 =
 sBox a0 h nx fun v1 h2 n3 =>
 yB 2 v1 h2 fun v4 =>
 zN 1 v1 fun v5 =>
 zA v5 h2 fun v6 =>
 sLen v6 fun v7 =>
 sBin .gtr .int v7 (I 8) fun v8 =>
 C.fn 133 (.of 133) [v4] h2 n3 fun v9 h10 n11 =>
 (sBin .gtr .int v7 (I 8) fun v24 => yF v24 v8 ((sLen v6 fun v23 => yF v23 v7 ((zA v5 h10 fun v22 => yF v22 v6 ((zN 1 v1 fun v21 => yF v21 v5 (C.fn 82 (.of 82) [v8, (I 20)] h10 n11 fun v12 h13 n14 =>
 jE 1 2 [(I 0)] [(0, 1, v9), (1, 1, v12)] h13 n14 fun v15 h16 n17 =>
 C.fn 80 (.of 80) [v15] h16 n17 fun v18 h19 n20 =>
 K0 v18 h19 n20)))))))) := by
 rw [zL F98.tab]; kernel_rfl
theorem F100.tab : T.get none (.of 100) tbl = some F100 := by kernel_rfl
theorem F100.go : zV tbl N C (.of 100) [a0, a1] h nx K0 =
 zA a1 h fun v1 =>
 sBin .add .int v1 (I 1) fun v2 =>
 zQ 1 a1 v2 h nx fun v3 h4 n5 =>
 K0 (.bool true) h4 n5 := by
 rw [zL F100.tab]; kernel_rfl
theorem F101.tab : T.get none (.of 101) tbl = some F101 := by kernel_rfl
theorem F101.go : zV tbl N C (.of 101) [a0, a1, a2] h nx K0 =
 C.fn 79 (.of 79) [a0] h nx fun v1 h2 n3 =>
 zQ 1 a1 (.bool true) h2 n3 fun v4 h5 n6 =>
 zQ 1 a2 v1 h5 n6 fun v7 h8 n9 =>
 K0 (.bool false) h8 n9 := by
 rw [zL F101.tab]; kernel_rfl
theorem F102.g7_eq (X8 : IR) (C : Calls Prop) (N : Nat) (O : Outs Prop) (K : Ks Prop) (x0 x1 x2 x3 x4 x5 x6 : AV) (h : T Blk) (nx : Pa) : IR.run (F102.g7 X8) C N O K (F102.fr x0 x1 x2 x3 x4 x5 x6) h nx =
 IR.run X8 C N (O.blk 2 K) K (F102.fr x0 x1 x2 x3 x4 x5 x6) h nx := by kernel_rfl
theorem F102.g1_eq (X2 : IR) (C : Calls Prop) (N : Nat) (O : Outs Prop) (K : Ks Prop) (x0 x1 x2 x3 x4 x5 x6 : AV) (h : T Blk) (nx : Pa) : IR.run (F102.g1 X2) C N O K (F102.fr x0 x1 x2 x3 x4 x5 x6) h nx =
 IR.run X2 C N (O.blk 0 K) K (F102.fr x0 x1 x2 x3 x4 x5 x6) h nx := by kernel_rfl
theorem F102.tab : T.get none (.of 102) tbl = some F102 := by kernel_rfl
theorem F102.go : zV tbl N C (.of 102) [a0] h nx K0 =
 IR.run F102.b1 C N (fnO F102.res K0) (IR.run F102.b15 C N (fnO F102.res K0) (retK F102.res K0)) (F102.fr a0 (.bool false) (I 0) .undef .undef .undef .undef) h nx := by
 rw [zL F102.tab]; kernel_rfl
theorem F102.e1 : IR.run F102.b3 C N ((fnO F102.res K0).blk 0 K) R (F102.fr x0 x1 x2 x3 x4 x5 x6) h nx =
 sLen x0 fun v1 =>
 sBin .lss .int x2 v1 fun v2 =>
 zG v2 (IR.run F102.b7 C N (((fnO F102.res K0).blk 0 K).blk 1 (IR.run F102.b14 C N ((fnO F102.res K0).blk 0 K) R)) (IR.run F102.b14 C N ((fnO F102.res K0).blk 0 K) R) (F102.fr x0 x1 x2 (I 0) v2 x5 x6) h nx) (K (F102.fr x0 x1 x2 x3 v2 x5 x6) h nx) := by kernel_rfl
theorem F102.L1 (Inv : Nat → AV → T Blk → Pa → Prop) {m : Nat} (hm : m < N) (hi : Inv m x2 h nx)
  (step : ∀ (m : Nat) (z1 z2 z3 z4 z5 z6 : AV) (h : T Blk) (nx : Pa) (R : Ks Prop), Inv m z2 h nx → (∀ (m' : Nat) (w1 w2 w3 w4 w5 w6 : AV) (h' : T Blk) (nx' : Pa), m' < m → Inv m' w2 h' nx' → R (F102.fr x0 w1 w2 w3 w4 w5 w6) h' nx' = .ok True) →
   (sLen x0 fun v1 =>
 sBin .lss .int z2 v1 fun v2 =>
 zG v2 (IR.run F102.b7 C N (((fnO F102.res K0).blk 0 K).blk 1 (IR.run F102.b14 C N ((fnO F102.res K0).blk 0 K) R)) (IR.run F102.b14 C N ((fnO F102.res K0).blk 0 K) R) (F102.fr x0 z1 z2 (I 0) v2 z5 z6) h nx) (K (F102.fr x0 z1 z2 z3 v2 z5 z6) h nx)) = .ok True) :
  IR.run F102.b1 C N (fnO F102.res K0) K (F102.fr x0 x1 x2 x3 x4 x5 x6) h nx = .ok True := by
 rw [F102.b1, F102.g1_eq, F102.b2]
 refine yU (fun m tm h nx => ∃ z1 z2 z3 z4 z5 z6, tm = (F102.fr x0 z1 z2 z3 z4 z5 z6) ∧ Inv m z2 h nx) ?_ hm ⟨_, _, _, _, _, _, rfl, hi⟩
 rintro m tm h nx R ⟨z1, z2, z3, z4, z5, z6, rfl, hi⟩ hR
 rw [F102.e1]
 exact step m z1 z2 z3 z4 z5 z6 h nx R hi fun m' w1 w2 w3 w4 w5 w6 h' nx' hlt hi' => hR m' _ h' nx' hlt ⟨_, _, _, _, _, _, rfl, hi'⟩
theorem F102.k15 : IR.run F102.b15 C N (fnO F102.res K0) K (F102.fr x0 x1 x2 x3 x4 x5 x6) h nx =
 K0 (.bool true) h nx := by kernel_rfl
theorem F102.k14 {E0 : Ks Prop} : IR.run F102.b14 C N ((fnO F102.res K0).blk 0 E0) K (F102.fr x0 x1 x2 x3 x4 x5 x6) h nx =
 sBin .add .int x2 (I 1) fun v1 =>
 K (F102.fr x0 x1 v1 x3 x4 x5 x6) h nx := by kernel_rfl
theorem F102.e7 {E0 E1 : Ks Prop} : IR.run F102.b9 C N ((((fnO F102.res K0).blk 0 E0).blk 1 E1).blk 2 K) R (F102.fr x0 x1 x2 x3 x4 x5 x6) h nx =
 sBin .lss .int x3 x2 fun v1 =>
 zG v1 (zF 1 x0 x2 fun v2 =>
 zA v2 h fun v3 =>
 zF 1 x0 x3 fun v4 =>
 zA v4 h fun v5 =>
 sBin .eql .int v3 v5 fun v6 =>
 zG v6 (K0 (.bool false) h nx) (sBin .add .int x3 (I 1) fun v7 =>
 R (F102.fr x0 x1 x2 v7 x4 v1 v6) h nx)) (K (F102.fr x0 x1 x2 x3 x4 v1 x6) h nx) := by kernel_rfl
theorem F102.L7 {E0 E1 : Ks Prop} (Inv : Nat → AV → T Blk → Pa → Prop) {m : Nat} (hm : m < N) (hi : Inv m x3 h nx)
  (step : ∀ (m : Nat) (z1 z3 z5 z6 : AV) (h : T Blk) (nx : Pa) (R : Ks Prop), Inv m z3 h nx → (∀ (m' : Nat) (w1 w3 w5 w6 : AV) (h' : T Blk) (nx' : Pa), m' < m → Inv m' w3 h' nx' → R (F102.fr x0 w1 x2 w3 x4 w5 w6) h' nx' = .ok True) →
   (sBin .lss .int z3 x2 fun v1 =>
 zG v1 (zF 1 x0 x2 fun v2 =>
 zA v2 h fun v3 =>
 zF 1 x0 z3 fun v4 =>
 zA v4 h fun v5 =>
 sBin .eql .int v3 v5 fun v6 =>
 zG v6 (K0 (.bool false) h nx) (sBin .add .int z3 (I 1) fun v7 =>
 R (F102.fr x0 z1 x2 v7 x4 v1 v6) h nx)) (K (F102.fr x0 z1 x2 z3 x4 v1 z6) h nx)) = .ok True) :
  IR.run F102.b7 C N (((fnO F102.res K0).blk 0 E0).blk 1 E1) K (F102.fr x0 x1 x2 x3 x4 x5 x6) h nx = .ok True := by
 rw [F102.b7, F102.g7_eq, F102.b8]
 refine yU (fun m tm h nx => ∃ z1 z3 z5 z6, tm = (F102.fr x0 z1 x2 z3 x4 z5 z6) ∧ Inv m z3 h nx) ?_ hm ⟨_, _, _, _, rfl, hi⟩
 rintro m tm h nx R ⟨z1, z3, z5, z6, rfl, hi⟩ hR
 rw [F102.e7]
 exact step m z1 z3 z5 z6 h nx R hi fun m' w1 w3 w5 w6 h' nx' hlt hi' => hR m' _ h' nx' hlt ⟨_, _, _, _, rfl, hi'⟩
theorem F103.g1_eq (X2 : IR) (C : Calls Prop) (N : Nat) (O : Outs Prop) (K : Ks Prop) (x0 x1 x2 x3 x4 x5 x6 : AV) (h : T Blk) (nx : Pa) : IR.run (F103.g1 X2) C N O K (F103.fr x0 x1 x2 x3 x4 x5 x6) h nx =
 IR.run X2 C N (O.blk 0 K) K (F103.fr x0 x1 x2 x3 x4 x5 x6) h nx := by kernel_rfl
theorem F103.tab : T.get none (.of 103) tbl = some F103 := by kernel_rfl
theorem F103.go : zV tbl N C (.of 103) [a0, a1] h nx K0 =
 sBox a0 h nx fun v1 h2 n3 =>
 zN 0 v1 fun v4 =>
 zA v4 h2 fun v5 =>
 sMkslice 1 8 [(I 0)] v5 v5 h2 n3 fun v6 h7 n8 =>
 IR.run F103.b1 C N (fnO F103.res K0) (IR.run F103.b8 C N (fnO F103.res K0) (retK F103.res K0)) (F103.fr a0 a1 v1 .nils v6 (I 0) .undef) h7 n8 := by
 rw [zL F103.tab]; kernel_rfl
theorem F103.e1 : IR.run F103.b3 C N ((fnO F103.res K0).blk 0 K) R (F103.fr x0 x1 x2 x3 x4 x5 x6) h nx =
 sLen x1 fun v1 =>
 sBin .lss .int x5 v1 fun v2 =>
 zG v2 (zN 1 x2 fun v3 =>
 zA v3 h fun v4 =>
 zF 2 v4 x5 fun v5 =>
 zO 1 2 v5 (I 0) fun v6 =>
 zA v6 h fun v7 =>
 zF 1 x4 v7 fun v8 =>
 zA v8 h fun v9 =>
 zF 1 x1 x5 fun v10 =>
 zA v10 h fun v11 =>
 sBin .add .int v9 v11 fun v12 =>
 zF 1 x4 v7 fun v13 =>
 zQ 1 v13 v12 h nx fun v14 h15 n16 =>
 zN 1 x2 fun v17 =>
 zA v17 h15 fun v18 =>
 zF 2 v18 x5 fun v19 =>
 zO 1 2 v19 (I 1) fun v20 =>
 zA v20 h15 fun v21 =>
 zF 1 x4 v21 fun v22 =>
 zA v22 h15 fun v23 =>
 zF 1 x1 x5 fun v24 =>
 zA v24 h15 fun v25 =>
 sBin .add .int v23 v25 fun v26 =>
 zF 1 x4 v21 fun v27 =>
 zQ 1 v27 v26 h15 n16 fun v28 h29 n30 =>
 sBin .add .int x5 (I 1) fun v31 =>
 R (F103.fr x0 x1 x2 x3 x4 v31 v2) h29 n30) (K (F103.fr x0 x1 x2 x3 x4 x5 v2) h nx) := by kernel_rfl
theorem F103.L1 (Inv : Nat → AV → T Blk → Pa → Prop) {m : Nat} (hm : m < N) (hi : Inv m x5 h nx)
  (step : ∀ (m : Nat) (z5 z6 : AV) (h : T Blk) (nx : Pa) (R : Ks Prop), Inv m z5 h nx → (∀ (m' : Nat) (w5 w6 : AV) (h' : T Blk) (nx' : Pa), m' < m → Inv m' w5 h' nx' → R (F103.fr x0 x1 x2 x3 x4 w5 w6) h' nx' = .ok True) →
   (sLen x1 fun v1 =>
 sBin .lss .int z5 v1 fun v2 =>
 zG v2 (zN 1 x2 fun v3 =>
 zA v3 h fun v4 =>
 zF 2 v4 z5 fun v5 =>
 zO 1 2 v5 (I 0) fun v6 =>
 zA v6 h fun v7 =>
 zF 1 x4 v7 fun v8 =>
 zA v8 h fun v9 =>
 zF 1 x1 z5 fun v10 =>
 zA v10 h fun v11 =>
 sBin .add .int v9 v11 fun v12 =>
 zF 1 x4 v7 fun v13 =>
 zQ 1 v13 v12 h nx fun v14 h15 n16 =>
 zN 1 x2 fun v17 =>
 zA v17 h15 fun v18 =>
 zF 2 v18 z5 fun v19 =>
 zO 1 2 v19 (I 1) fun v20 =>
 zA v20 h15 fun v21 =>
 zF 1 x4 v21 fun v22 =>
 zA v22 h15 fun v23 =>
 zF 1 x1 z5 fun v24 =>
 zA v24 h15 fun v25 =>
 sBin .add .int v23 v25 fun v26 =>
 zF 1 x4 v21 fun v27 =>
 zQ 1 v27 v26 h15 n16 fun v28 h29 n30 =>
 sBin .add .int z5 (I 1) fun v31 =>
 R (F103.fr x0 x1 x2 x3 x4 v31 v2) h29 n30) (K (F103.fr x0 x1 x2 x3 x4 z5 v2) h nx)) = .ok True) :
  IR.run F103.b1 C N (fnO F103.res K0) K (F103.fr x0 x1 x2 x3 x4 x5 x6) h nx = .ok True := by
 rw [F103.b1, F103.g1_eq, F103.b2]
 refine yU (fun m tm h nx => ∃ z5 z6, tm = (F103.fr x0 x1 x2 x3 x4 z5 z6) ∧ Inv m z5 h nx) ?_ hm ⟨_, _, rfl, hi⟩
 rintro m tm h nx R ⟨z5, z6, rfl, hi⟩ hR
 rw [F103.e1]
 exact step m z5 z6 h nx R hi fun m' w5 w6 h' nx' hlt hi' => hR m' _ h' nx' hlt ⟨_, _, rfl, hi'⟩
theorem F103.k8 : IR.run F103.b8 C N (fnO F103.res K0) K (F103.fr x0 x1 x2 x3 x4 x5 x6) h nx =
 K0 x4 h nx := by kernel_rfl
end Go.Ev
namespace Go.Ev
open Go Go.Proofs
set_option maxRecDepth 100000
variable {N : Nat} {C : Calls Prop} {K0 : Kw Prop} {K R : Ks Prop} {h : T Blk} {nx : Pa} {x0 x1 x2 x3 x4 x5 x6 x7 x8 x9 x10 x11 x12 x13 x14 x15 a0 a1 : AV}
theorem F43.g3_eq (X4 : IR) (C : Calls Prop) (N : Nat) (O : Outs Prop) (K : Ks Prop) (x0 x1 x2 x3 x4 x5 x6 x7 x8 x9 x10 x11 x12 x13 x14 x15 : AV) (h : T Blk) (nx : Pa) : IR.run (F43.g3 X4) C N O K (F43.fr x0 x1 x2 x3 x4 x5 x6 x7 x8 x9 x10 x11 x12 x13 x14 x15) h nx =
 IR.run X4 C N (O.blk 0 K) K (F43.fr x0 x1 x2 x3 x4 x5 x6 x7 x8 x9 x10 x11 x12 x13 x14 x15) h nx := by kernel_rfl
theorem F43.tab : T.get none (.of 43) tbl = some F43 := by kernel_rfl
theorem F43.go : zV tbl N C (.of 43) [a0, a1] h nx K0 =
 sBox a0 h nx fun v1 h2 n3 =>
 sLen a1 fun v4 =>
 zN 1 v1 fun v5 =>
 zA v5 h2 fun v6 =>
 sLen v6 fun v7 =>
 sBin .eql .int v4 v7 fun v8 =>
 zG v8 (yB 2 v1 h2 fun v9 =>
 C.fn 103 (.of 103) [v9, a1] h2 n3 fun v10 h11 n12 =>
 C.fn 102 (.of 102) [v10] h11 n12 fun v13 h14 n15 =>
 zG v13 (K0 (.tup [(I 1), a1]) h14 n15) (K0 (.tup [(I 0), .nils]) h14 n15)) (IR.run F43.b3 C N (fnO F43.res K0) (IR.run F43.b12 C N (fnO F43.res K0) (retK F43.res K0)) (F43.fr a0 a1 v1 (I 0) .nils (I 0) .nils (I 1) .undef .undef .undef v8 .undef .undef .undef .undef) h2 n3) := by
 rw [zL F43.tab]; kernel_rfl
theorem F43.e3 : IR.run F43.b5 C N ((fnO F43.res K0).blk 0 K) R (F43.fr x0 x1 x2 x3 x4 x5 x6 x7 x8 x9 x10 x11 x12 x13 x14 x15) h nx =
 zN 1 x2 fun v1 =>
 zA v1 h fun v2 =>
 sLen v2 fun v3 =>
 sBin .leq .int x7 v3 fun v4 =>
 zG v4 (jE 1 0 [(I 0)] [] h nx fun v5 h6 n7 =>
 sApp 1 8 v5 x1 h6 n7 fun v8 h9 n10 =>
 jE 1 1 [(I 0)] [(0, 1, x7)] h9 n10 fun v11 h12 n13 =>
 sApp 1 8 v8 v11 h12 n13 fun v14 h15 n16 =>
 C.fn 102 (.of 102) [v14] h15 n16 fun v17 h18 n19 =>
 sNot v17 fun v20 =>
 zG v20 (sBin .add .int x7 (I 1) fun v21 =>
 R (F43.fr x0 x1 x2 x3 x4 x5 x6 v21 v14 x9 x10 x11 x12 v4 v20 x15) h18 n19) (yB 2 x2 h18 fun v22 =>
 C.fn 43 (.of 43) [v22, v14] h18 n19 fun v23 h24 n25 =>
 sExt 0 v23 fun v26 =>
 sExt 1 v23 fun v27 =>
 sBin .eql .int x5 (I 0) fun v28 =>
 sG v28 true (fun k => k v26) fun v29 =>
 sG v28 true (fun k => sBin .gtr .int v29 (I 0) k) fun v30 =>
 jD v28 v30 (.bool false) fun v31 =>
 zG v31 (sBin .add .int x5 v26 fun v32 =>
 sBin .add .int x7 (I 1) fun v33 =>
 R (F43.fr x0 x1 x2 x3 x4 v32 v27 v33 v14 v26 v27 x11 x12 v4 v20 v31) h24 n25) (sBin .add .int x5 v26 fun v34 =>
 sBin .add .int x7 (I 1) fun v35 =>
 R (F43.fr x0 x1 x2 x3 x4 v34 x6 v35 v14 v26 v27 x11 x12 v4 v20 v31) h24 n25))) (K (F43.fr x0 x1 x2 x3 x4 x5 x6 x7 x8 x9 x10 x11 x12 v4 x14 x15) h nx) := by kernel_rfl
theorem F43.L3 (Inv : Nat → AV → AV → AV → T Blk → Pa → Prop) {m : Nat} (hm : m < N) (hi : Inv m x5 x6 x7 h nx)
  (step : ∀ (m : Nat) (z5 z6 z7 z8 z9 z10 z13 z14 z15 : AV) (h : T Blk) (nx : Pa) (R : Ks Prop), Inv m z5 z6 z7 h nx → (∀ (m' : Nat) (w5 w6 w7 w8 w9 w10 w13 w14 w15 : AV) (h' : T Blk) (nx' : Pa), m' < m → Inv m' w5 w6 w7 h' nx' → R (F43.fr x0 x1 x2 x3 x4 w5 w6 w7 w8 w9 w10 x11 x12 w13 w14 w15) h' nx' = .ok True) →
   (zN 1 x2 fun v1 =>
 zA v1 h fun v2 =>
 sLen v2 fun v3 =>
 sBin .leq .int z7 v3 fun v4 =>
 zG v4 (jE 1 0 [(I 0)] [] h nx fun v5 h6 n7 =>
 sApp 1 8 v5 x1 h6 n7 fun v8 h9 n10 =>
 jE 1 1 [(I 0)] [(0, 1, z7)] h9 n10 fun v11 h12 n13 =>
 sApp 1 8 v8 v11 h12 n13 fun v14 h15 n16 =>
 C.fn 102 (.of 102) [v14] h15 n16 fun v17 h18 n19 =>
 sNot v17 fun v20 =>
 zG v20 (sBin .add .int z7 (I 1) fun v21 =>
 R (F43.fr x0 x1 x2 x3 x4 z5 z6 v21 v14 z9 z10 x11 x12 v4 v20 z15) h18 n19) (yB 2 x2 h18 fun v22 =>
 C.fn 43 (.of 43) [v22, v14] h18 n19 fun v23 h24 n25 =>
 sExt 0 v23 fun v26 =>
 sExt 1 v23 fun v27 =>
 sBin .eql .int z5 (I 0) fun v28 =>
 sG v28 true (fun k => k v26) fun v29 =>
 sG v28 true (fun k => sBin .gtr .int v29 (I 0) k) fun v30 =>
 jD v28 v30 (.bool false) fun v31 =>
 zG v31 (sBin .add .int z5 v26 fun v32 =>
 sBin .add .int z7 (I 1) fun v33 =>
 R (F43.fr x0 x1 x2 x3 x4 v32 v27 v33 v14 v26 v27 x11 x12 v4 v20 v31) h24 n25) (sBin .add .int z5 v26 fun v34 =>
 sBin .add .int z7 (I 1) fun v35 =>
 R (F43.fr x0 x1 x2 x3 x4 v34 z6 v35 v14 v26 v27 x11 x12 v4 v20 v31) h24 n25))) (K (F43.fr x0 x1 x2 x3 x4 z5 z6 z7 z8 z9 z10 x11 x12 v4 z14 z15) h nx)) = .ok True) :
  IR.run F43.b3 C N (fnO F43.res K0) K (F43.fr x0 x1 x2 x3 x4 x5 x6 x7 x8 x9 x10 x11 x12 x13 x14 x15) h nx = .ok True := by
 rw [F43.b3, F43.g3_eq, F43.b4]
 refine yU (fun m tm h nx => ∃ z5 z6 z7 z8 z9 z10 z13 z14 z15, tm = (F43.fr x0 x1 x2 x3 x4 z5 z6 z7 z8 z9 z10 x11 x12 z13 z14 z15) ∧ Inv m z5 z6 z7 h nx) ?_ hm ⟨_, _, _, _, _, _, _, _, _, rfl, hi⟩
 rintro m tm h nx R ⟨z5, z6, z7, z8, z9, z10, z13, z14, z15, rfl, hi⟩ hR
 rw [F43.e3]
 exact step m z5 z6 z7 z8 z9 z10 z13 z14 z15 h nx R hi fun m' w5 w6 w7 w8 w9 w10 w13 w14 w15 h' nx' hlt hi' => hR m' _ h' nx' hlt ⟨_, _, _, _, _, _, _, _, _, rfl, hi'⟩
theorem F43.k12 : IR.run F43.b12 C N (fnO F43.res K0) K (F43.fr x0 x1 x2 x3 x4 x5 x6 x7 x8 x9 x10 x11 x12 x13 x14 x15) h nx =
 K0 (.tup [x5, x6]) h nx := by kernel_rfl
end Go.Ev
namespace Go.Ev
open Go Go.Proofs
set_option maxRecDepth 100000
variable {N : Nat} {C : Calls Prop} {K0 : Kw Prop} {K R : Ks Prop} {h : T Blk} {nx : Pa} {x0 x1 x2 x3 x4 x5 x6 x7 x8 x9 x10 x11 x12 x13 x14 x15 a0 a1 a2 a3 a4 a5 a6 : AV}
theorem F134.g2_eq (X3 : IR) (C : Calls Prop) (N : Nat) (O : Outs Prop) (K : Ks Prop) (x0 x1 x2 x3 x4 x5 x6 x7 x8 x9 x10 x11 x12 x13 x14 x15 : AV) (h : T Blk) (nx : Pa) : IR.run (F134.g2 X3) C N O K (F134.fr x0 x1 x2 x3 x4 x5 x6 x7 x8 x9 x10 x11 x12 x13 x14 x15) h nx =
 IR.run X3 C N (O.blk 0 K) K (F134.fr x0 x1 x2 x3 x4 x5 x6 x7 x8 x9 x10 x11 x12 x13 x14 x15) h nx := by kernel_rfl
theorem F134.tab : T.get none (.of 134) tbl = some F134 := by kernel_rfl
theorem F134.go : zV tbl N C (.of 134) [a0, a1, a2, a3, a4, a5, a6] h nx K0 =
 zA a1 h fun v1 =>
 sLen v1 fun v2 =>
 sBin .eql .int a0 v2 fun v3 =>
 zG v3 (zA a2 h fun v4 =>
 C.fn 126 (.of 126) [v4] h nx fun v5 h6 n7 =>
 C.fn 125 (.of 125) [v5] h6 n7 fun v8 h9 n10 =>
 zN 0 a3 fun v11 =>
 zA v11 h9 fun v12 =>
 C.fn 135 (.of 135) [v8] h9 n10 fun v13 h14 n15 =>
 (zA v11 h14 fun v25 => yF v25 v12 ((zN 0 a3 fun v24 => yF v24 v11 (sLen v13 fun v16 =>
 sBin .lss .int v16 v12 fun v17 =>
 sG v17 false (fun k => zA a4 h14 k) fun v18 =>
 sG v17 false (fun k => zA a1 h14 k) fun v19 =>
 sGW v17 false (fun k => sCall C v18 [v19] h14 n15 k) h14 n15 fun v20 h21 n22 =>
 jD v17 (.bool true) v20 fun v23 =>
 K0 v23 h21 n22))))) (zN 1 a3 fun v26 =>
 zA v26 h fun v27 =>
 zF 2 v27 a0 fun v28 =>
 yB 2 v28 h fun v29 =>
 jO [(I 0), (I 0)] h nx fun v30 h31 n32 =>
 zQ 2 v30 v29 h31 n32 fun v33 h34 n35 =>
 IR.run F134.b2 C N (fnO F134.res K0) (IR.run F134.b14 C N (fnO F134.res K0) (retK F134.res K0)) (F134.fr a0 a1 a2 a3 a4 a5 a6 (.bool false) .undef v30 (I 1) .undef v3 .undef .undef .undef) h34 n35) := by
 rw [zL F134.tab]; kernel_rfl
theorem F134.e2 : IR.run F134.b4 C N ((fnO F134.res K0).blk 0 K) R (F134.fr x0 x1 x2 x3 x4 x5 x6 x7 x8 x9 x10 x11 x12 x13 x14 x15) h nx =
 zA x1 h fun v1 =>
 sLen v1 fun v2 =>
 sBin .leq .int x10 v2 fun v3 =>
 zG v3 (zA x5 h fun v4 =>
 sBin .shr .int v4 x10 fun v5 =>
 sBin .and .int v5 (.int .u64 1) fun v6 =>
 sBin .eql .int v6 (.int .u64 1) fun v7 =>
 zG v7 (sBin .add .int x10 (I 1) fun v8 =>
 R (F134.fr x0 x1 x2 x3 x4 x5 x6 x7 x8 x9 v8 x11 x12 v3 v7 x15) h nx) (zA x1 h fun v9 =>
 zF 1 v9 x0 fun v10 =>
 zQ 1 v10 x10 h nx fun v11 h12 n13 =>
 zA x5 h12 fun v14 =>
 sBin .shl .int (.int .u64 1) x10 fun v15 =>
 sBin .or .int v14 v15 fun v16 =>
 zQ 1 x5 v16 h12 n13 fun v17 h18 n19 =>
 (IR.run F134.b9 C N (((fnO F134.res K0).blk 0 K).blk 1 (IR.run F134.b13 C N ((fnO F134.res K0).blk 0 K) R)) (IR.run F134.b13 C N ((fnO F134.res K0).blk 0 K) R)) (F134.fr x0 x1 x2 x3 x4 x5 x6 x7 x8 x9 x10 x11 x12 v3 v7 x15) h18 n19)) (K (F134.fr x0 x1 x2 x3 x4 x5 x6 x7 x8 x9 x10 x11 x12 v3 x14 x15) h nx) := by kernel_rfl
theorem F134.L2 (Inv : Nat → AV → T Blk → Pa → Prop) {m : Nat} (hm : m < N) (hi : Inv m x10 h nx)
  (step : ∀ (m : Nat) (z7 z10 z11 z13 z14 z15 : AV) (h : T Blk) (nx : Pa) (R : Ks Prop), Inv m z10 h nx → (∀ (m' : Nat) (w7 w10 w11 w13 w14 w15 : AV) (h' : T Blk) (nx' : Pa), m' < m → Inv m' w10 h' nx' → R (F134.fr x0 x1 x2 x3 x4 x5 x6 w7 x8 x9 w10 w11 x12 w13 w14 w15) h' nx' = .ok True) →
   (zA x1 h fun v1 =>
 sLen v1 fun v2 =>
 sBin .leq .int z10 v2 fun v3 =>
 zG v3 (zA x5 h fun v4 =>
 sBin .shr .int v4 z10 fun v5 =>
 sBin .and .int v5 (.int .u64 1) fun v6 =>
 sBin .eql .int v6 (.int .u64 1) fun v7 =>
 zG v7 (sBin .add .int z10 (I 1) fun v8 =>
 R (F134.fr x0 x1 x2 x3 x4 x5 x6 z7 x8 x9 v8 z11 x12 v3 v7 z15) h nx) (zA x1 h fun v9 =>
 zF 1 v9 x0 fun v10 =>
 zQ 1 v10 z10 h nx fun v11 h12 n13 =>
 zA x5 h12 fun v14 =>
 sBin .shl .int (.int .u64 1) z10 fun v15 =>
 sBin .or .int v14 v15 fun v16 =>
 zQ 1 x5 v16 h12 n13 fun v17 h18 n19 =>
 (IR.run F134.b9 C N (((fnO F134.res K0).blk 0 K).blk 1 (IR.run F134.b13 C N ((fnO F134.res K0).blk 0 K) R)) (IR.run F134.b13 C N ((fnO F134.res K0).blk 0 K) R)) (F134.fr x0 x1 x2 x3 x4 x5 x6 z7 x8 x9 z10 z11 x12 v3 v7 z15) h18 n19)) (K (F134.fr x0 x1 x2 x3 x4 x5 x6 z7 x8 x9 z10 z11 x12 v3 z14 z15) h nx)) = .ok True) :
  IR.run F134.b2 C N (fnO F134.res K0) K (F134.fr x0 x1 x2 x3 x4 x5 x6 x7 x8 x9 x10 x11 x12 x13 x14 x15) h nx = .ok True := by
 rw [F134.b2, F134.g2_eq, F134.b3]
 refine yU (fun m tm h nx => ∃ z7 z10 z11 z13 z14 z15, tm = (F134.fr x0 x1 x2 x3 x4 x5 x6 z7 x8 x9 z10 z11 x12 z13 z14 z15) ∧ Inv m z10 h nx) ?_ hm ⟨_, _, _, _, _, _, rfl, hi⟩
 rintro m tm h nx R ⟨z7, z10, z11, z13, z14, z15, rfl, hi⟩ hR
 rw [F134.e2]
 exact step m z7 z10 z11 z13 z14 z15 h nx R hi fun m' w7 w10 w11 w13 w14 w15 h' nx' hlt hi' => hR m' _ h' nx' hlt ⟨_, _, _, _, _, _, rfl, hi'⟩
theorem F134.k14 : IR.run F134.b14 C N (fnO F134.res K0) K (F134.fr x0 x1 x2 x3 x4 x5 x6 x7 x8 x9 x10 x11 x12 x13 x14 x15) h nx =
 K0 (.bool true) h nx := by kernel_rfl
theorem F134.k13 {E0 : Ks Prop} : IR.run F134.b13 C N ((fnO F134.res K0).blk 0 E0) K (F134.fr x0 x1 x2 x3 x4 x5 x6 x7 x8 x9 x10 x11 x12 x13 x14 x15) h nx =
 sBin .add .int x10 (I 1) fun v1 =>
 K (F134.fr x0 x1 x2 x3 x4 x5 x6 x7 x8 x9 v1 x11 x12 x13 x14 x15) h nx := by kernel_rfl
theorem F134.k9 {E0 E1 : Ks Prop} : IR.run F134.b9 C N (((fnO F134.res K0).blk 0 E0).blk 1 E1) K (F134.fr x0 x1 x2 x3 x4 x5 x6 x7 x8 x9 x10 x11 x12 x13 x14 x15) h nx =
 zA x2 h fun v1 =>
 zO 1 2 x9 (I 0) fun v2 =>
 zA v2 h fun v3 =>
 zA x2 h fun v4 =>
 zO 1 2 x9 (I 1) fun v5 =>
 zA v5 h fun v6 =>
 zA x2 h fun v7 =>
 zO 1 2 x9 (I 0) fun v8 =>
 zA v8 h fun v9 =>
 zF 1 v7 v9 fun v10 =>
 zA v10 h fun v11 =>
 sBin .add .int v11 x10 fun v12 =>
 zA x2 h fun v13 =>
 zO 1 2 x9 (I 1) fun v14 =>
 zA v14 h fun v15 =>
 zF 1 v13 v15 fun v16 =>
 zA v16 h fun v17 =>
 sBin .add .int v17 x10 fun v18 =>
 zF 1 v1 v3 fun v19 =>
 zQ 1 v19 v12 h nx fun v20 h21 n22 =>
 (sBin .add .int v17 x10 fun v30 => yF v30 v18 (yF x10 x10 ((zA v5 h21 fun v29 => yF v29 v6 ((zO 1 2 x9 (I 1) fun v28 => yF v28 v5 ((zA x2 h21 fun v27 => yF v27 v4 (zF 1 v4 v6 fun v23 =>
 zQ 1 v23 v18 h21 n22 fun v24 h25 n26 =>
 (IR.run F134.b10 C N (((fnO F134.res K0).blk 0 E0).blk 1 E1) K) (F134.fr x0 x1 x2 x3 x4 x5 x6 x7 x8 x9 x10 x11 x12 x13 x14 x15) h25 n26))))))))) := by kernel_rfl
theorem F134.k10 {E0 E1 : Ks Prop} : IR.run F134.b10 C N (((fnO F134.res K0).blk 0 E0).blk 1 E1) K (F134.fr x0 x1 x2 x3 x4 x5 x6 x7 x8 x9 x10 x11 x12 x13 x14 x15) h nx =
 zA x6 h fun v1 =>
 sBin .add .int x0 (I 1) fun v2 =>
 sCall C v1 [v2] h nx fun v3 h4 n5 =>
 (IR.run F134.b11 C N (((fnO F134.res K0).blk 0 E0).blk 1 E1) K) (F134.fr x0 x1 x2 x3 x4 x5 x6 x7 x8 x9 x10 v3 x12 x13 x14 x15) h4 n5 := by kernel_rfl
theorem F134.k11 {E0 E1 : Ks Prop} : IR.run F134.b11 C N (((fnO F134.res K0).blk 0 E0).blk 1 E1) K (F134.fr x0 x1 x2 x3 x4 x5 x6 x7 x8 x9 x10 x11 x12 x13 x14 x15) h nx =
 zA x2 h fun v1 =>
 zO 1 2 x9 (I 0) fun v2 =>
 zA v2 h fun v3 =>
 zA x2 h fun v4 =>
 zO 1 2 x9 (I 1) fun v5 =>
 zA v5 h fun v6 =>
 zA x2 h fun v7 =>
 zO 1 2 x9 (I 0) fun v8 =>
 zA v8 h fun v9 =>
 zF 1 v7 v9 fun v10 =>
 zA v10 h fun v11 =>
 sBin .sub .int v11 x10 fun v12 =>
 zA x2 h fun v13 =>
 zO 1 2 x9 (I 1) fun v14 =>
 zA v14 h fun v15 =>
 zF 1 v13 v15 fun v16 =>
 zA v16 h fun v17 =>
 sBin .sub .int v17 x10 fun v18 =>
 zF 1 v1 v3 fun v19 =>
 zQ 1 v19 v12 h nx fun v20 h21 n22 =>
 (sBin .sub .int v17 x10 fun v30 => yF v30 v18 (yF x10 x10 ((zA v5 h21 fun v29 => yF v29 v6 ((zO 1 2 x9 (I 1) fun v28 => yF v28 v5 ((zA x2 h21 fun v27 => yF v27 v4 (zF 1 v4 v6 fun v23 =>
 zQ 1 v23 v18 h21 n22 fun v24 h25 n26 =>
 (IR.run F134.b12 C N (((fnO F134.res K0).blk 0 E0).blk 1 E1) K) (F134.fr x0 x1 x2 x3 x4 x5 x6 x7 x8 x9 x10 x11 x12 x13 x14 x15) h25 n26))))))))) := by kernel_rfl
theorem F134.k12 {E0 E1 : Ks Prop} : IR.run F134.b12 C N (((fnO F134.res K0).blk 0 E0).blk 1 E1) K (F134.fr x0 x1 x2 x3 x4 x5 x6 x7 x8 x9 x10 x11 x12 x13 x14 x15) h nx =
 zA x5 h fun v1 =>
 sBin .shl .int (.int .u64 1) x10 fun v2 =>
 sBin .andNot .int v1 v2 fun v3 =>
 zQ 1 x5 v3 h nx fun v4 h5 n6 =>
 sNot x11 fun v7 =>
 zG v7 (K0 (.bool false) h5 n6) (K (F134.fr x0 x1 x2 x3 x4 x5 x6 x7 x8 x9 x10 x11 x12 x13 x14 v7) h5 n6) := by kernel_rfl
end Go.Ev
