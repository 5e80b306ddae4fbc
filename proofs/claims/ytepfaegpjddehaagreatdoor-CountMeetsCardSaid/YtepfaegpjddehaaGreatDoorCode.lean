import Derived.Test.YtepfaegpjddehaaGreatDoorIrT
import Derived.KernelRfl
set_option linter.unusedSimpArgs false
set_option linter.unusedVariables false
namespace Go.Ev
open Go Go.Proofs
set_option maxRecDepth 100000
variable {N : Nat} {C : Calls Prop} {K0 : Kw Prop} {K R : Ks Prop} {h : T Blk} {nx : Pa} {x0 x1 x2 x3 x4 x5 x6 x7 x8 x9 x10 x11 x12 x13 x14 x15 x16 x17 x18 x19 x20 a0 a1 a2 a3 a4 a5 a6 : AV}
theorem F35.g2_eq (X3 : IR) (C : Calls Prop) (N : Nat) (O : Outs Prop) (K : Ks Prop) (x0 x1 x2 x3 x4 x5 x6 : AV) (h : T Blk) (nx : Pa) : IR.run (F35.g2 X3) C N O K (F35.fr x0 x1 x2 x3 x4 x5 x6) h nx =
 IR.run X3 C N (O.blk 0 K) K (F35.fr x0 x1 x2 x3 x4 x5 x6) h nx := by kernel_rfl
theorem F35.tab : T.get none (.of 35) tbl = some F35 := by kernel_rfl
theorem F35.go : yJ tbl N C (.of 35) [a0, a1] h nx K0 =
 sLen a0 fun v1 =>
 sLen a1 fun v2 =>
 sBin .neq .int v1 v2 fun v3 =>
 zJ v3 (K0 (.bool false) h nx) (IR.run F35.b2 C N (fnO F35.res K0) (IR.run F35.b9 C N (fnO F35.res K0) (retK F35.res K0)) (F35.fr a0 a1 (.bool false) (I 0) v3 .undef .undef) h nx) := by
 rw [zW F35.tab]; kernel_rfl
theorem F35.e2 : IR.run F35.b4 C N ((fnO F35.res K0).blk 0 K) R (F35.fr x0 x1 x2 x3 x4 x5 x6) h nx =
 sLen x0 fun v1 =>
 sBin .lss .int x3 v1 fun v2 =>
 zJ v2 (zK 1 x0 x3 fun v3 =>
 zE v3 h fun v4 =>
 zK 1 x1 x3 fun v5 =>
 zE v5 h fun v6 =>
 sBin .neq .int v4 v6 fun v7 =>
 zJ v7 (K0 (.bool false) h nx) (sBin .add .int x3 (I 1) fun v8 =>
 R (F35.fr x0 x1 x2 v8 x4 v2 v7) h nx)) (K (F35.fr x0 x1 x2 x3 x4 v2 x6) h nx) := by kernel_rfl
theorem F35.L2 (Inv : Nat → AV → T Blk → Pa → Prop) {m : Nat} (hm : m < N) (hi : Inv m x3 h nx)
  (step : ∀ (m : Nat) (z2 z3 z5 z6 : AV) (h : T Blk) (nx : Pa) (R : Ks Prop), Inv m z3 h nx → (∀ (m' : Nat) (w2 w3 w5 w6 : AV) (h' : T Blk) (nx' : Pa), m' < m → Inv m' w3 h' nx' → R (F35.fr x0 x1 w2 w3 x4 w5 w6) h' nx' = .ok True) →
   (sLen x0 fun v1 =>
 sBin .lss .int z3 v1 fun v2 =>
 zJ v2 (zK 1 x0 z3 fun v3 =>
 zE v3 h fun v4 =>
 zK 1 x1 z3 fun v5 =>
 zE v5 h fun v6 =>
 sBin .neq .int v4 v6 fun v7 =>
 zJ v7 (K0 (.bool false) h nx) (sBin .add .int z3 (I 1) fun v8 =>
 R (F35.fr x0 x1 z2 v8 x4 v2 v7) h nx)) (K (F35.fr x0 x1 z2 z3 x4 v2 z6) h nx)) = .ok True) :
  IR.run F35.b2 C N (fnO F35.res K0) K (F35.fr x0 x1 x2 x3 x4 x5 x6) h nx = .ok True := by
 rw [F35.b2, F35.g2_eq, F35.b3]
 refine yL (fun m tm h nx => ∃ z2 z3 z5 z6, tm = (F35.fr x0 x1 z2 z3 x4 z5 z6) ∧ Inv m z3 h nx) ?_ hm ⟨_, _, _, _, rfl, hi⟩
 rintro m tm h nx R ⟨z2, z3, z5, z6, rfl, hi⟩ hR
 rw [F35.e2]
 exact step m z2 z3 z5 z6 h nx R hi fun m' w2 w3 w5 w6 h' nx' hlt hi' => hR m' _ h' nx' hlt ⟨_, _, _, _, rfl, hi'⟩
theorem F35.k9 : IR.run F35.b9 C N (fnO F35.res K0) K (F35.fr x0 x1 x2 x3 x4 x5 x6) h nx =
 K0 (.bool true) h nx := by kernel_rfl
theorem F82.tab : T.get none (.of 82) tbl = some F82 := by kernel_rfl
theorem F82.go : yJ tbl N C (.of 82) [a0, a1] h nx K0 =
 zJ a0 (K0 a1 h nx) (K0 (I 0) h nx) := by
 rw [zW F82.tab]; kernel_rfl
end Go.Ev
namespace Go.Ev
open Go Go.Proofs
set_option maxRecDepth 100000
variable {N : Nat} {C : Calls Prop} {K0 : Kw Prop} {K R : Ks Prop} {h : T Blk} {nx : Pa} {x0 x1 x2 x3 x4 x5 x6 x7 x8 x9 x10 x11 x12 x13 x14 x15 x16 x17 x18 x19 x20 x21 x22 x23 x24 x25 x26 x27 x28 x29 x30 x31 x32 x33 a0 a1 a2 a3 : AV}
theorem F89.g7_eq (X8 : IR) (C : Calls Prop) (N : Nat) (O : Outs Prop) (K : Ks Prop) (x0 x1 x2 x3 x4 x5 x6 x7 x8 x9 x10 x11 x12 x13 x14 x15 x16 x17 x18 x19 x20 x21 x22 x23 x24 x25 x26 x27 x28 x29 x30 x31 x32 x33 : AV) (h : T Blk) (nx : Pa) : IR.run (F89.g7 X8) C N O K (F89.fr x0 x1 x2 x3 x4 x5 x6 x7 x8 x9 x10 x11 x12 x13 x14 x15 x16 x17 x18 x19 x20 x21 x22 x23 x24 x25 x26 x27 x28 x29 x30 x31 x32 x33) h nx =
 IR.run X8 C N (O.blk 2 K) K (F89.fr x0 x1 x2 x3 x4 x5 x6 x7 x8 x9 x10 x11 x12 x13 x14 x15 x16 x17 x18 x19 x20 x21 x22 x23 x24 x25 x26 x27 x28 x29 x30 x31 x32 x33) h nx := by kernel_rfl
theorem F89.g1_eq (X2 : IR) (C : Calls Prop) (N : Nat) (O : Outs Prop) (K : Ks Prop) (x0 x1 x2 x3 x4 x5 x6 x7 x8 x9 x10 x11 x12 x13 x14 x15 x16 x17 x18 x19 x20 x21 x22 x23 x24 x25 x26 x27 x28 x29 x30 x31 x32 x33 : AV) (h : T Blk) (nx : Pa) : IR.run (F89.g1 X2) C N O K (F89.fr x0 x1 x2 x3 x4 x5 x6 x7 x8 x9 x10 x11 x12 x13 x14 x15 x16 x17 x18 x19 x20 x21 x22 x23 x24 x25 x26 x27 x28 x29 x30 x31 x32 x33) h nx =
 IR.run X2 C N (O.blk 0 K) K (F89.fr x0 x1 x2 x3 x4 x5 x6 x7 x8 x9 x10 x11 x12 x13 x14 x15 x16 x17 x18 x19 x20 x21 x22 x23 x24 x25 x26 x27 x28 x29 x30 x31 x32 x33) h nx := by kernel_rfl
theorem F89.g33_eq (X34 : IR) (C : Calls Prop) (N : Nat) (O : Outs Prop) (K : Ks Prop) (x0 x1 x2 x3 x4 x5 x6 x7 x8 x9 x10 x11 x12 x13 x14 x15 x16 x17 x18 x19 x20 x21 x22 x23 x24 x25 x26 x27 x28 x29 x30 x31 x32 x33 : AV) (h : T Blk) (nx : Pa) : IR.run (F89.g33 X34) C N O K (F89.fr x0 x1 x2 x3 x4 x5 x6 x7 x8 x9 x10 x11 x12 x13 x14 x15 x16 x17 x18 x19 x20 x21 x22 x23 x24 x25 x26 x27 x28 x29 x30 x31 x32 x33) h nx =
 IR.run X34 C N (O.blk 10 K) K (F89.fr x0 x1 x2 x3 x4 x5 x6 x7 x8 x9 x10 x11 x12 x13 x14 x15 x16 x17 x18 x19 x20 x21 x22 x23 x24 x25 x26 x27 x28 x29 x30 x31 x32 x33) h nx := by kernel_rfl
theorem F89.g27_eq (X28 : IR) (C : Calls Prop) (N : Nat) (O : Outs Prop) (K : Ks Prop) (x0 x1 x2 x3 x4 x5 x6 x7 x8 x9 x10 x11 x12 x13 x14 x15 x16 x17 x18 x19 x20 x21 x22 x23 x24 x25 x26 x27 x28 x29 x30 x31 x32 x33 : AV) (h : T Blk) (nx : Pa) : IR.run (F89.g27 X28) C N O K (F89.fr x0 x1 x2 x3 x4 x5 x6 x7 x8 x9 x10 x11 x12 x13 x14 x15 x16 x17 x18 x19 x20 x21 x22 x23 x24 x25 x26 x27 x28 x29 x30 x31 x32 x33) h nx =
 IR.run X28 C N (O.blk 8 K) K (F89.fr x0 x1 x2 x3 x4 x5 x6 x7 x8 x9 x10 x11 x12 x13 x14 x15 x16 x17 x18 x19 x20 x21 x22 x23 x24 x25 x26 x27 x28 x29 x30 x31 x32 x33) h nx := by kernel_rfl
theorem F89.g22_eq (X23 : IR) (C : Calls Prop) (N : Nat) (O : Outs Prop) (K : Ks Prop) (x0 x1 x2 x3 x4 x5 x6 x7 x8 x9 x10 x11 x12 x13 x14 x15 x16 x17 x18 x19 x20 x21 x22 x23 x24 x25 x26 x27 x28 x29 x30 x31 x32 x33 : AV) (h : T Blk) (nx : Pa) : IR.run (F89.g22 X23) C N O K (F89.fr x0 x1 x2 x3 x4 x5 x6 x7 x8 x9 x10 x11 x12 x13 x14 x15 x16 x17 x18 x19 x20 x21 x22 x23 x24 x25 x26 x27 x28 x29 x30 x31 x32 x33) h nx =
 IR.run X23 C N (O.blk 6 K) K (F89.fr x0 x1 x2 x3 x4 x5 x6 x7 x8 x9 x10 x11 x12 x13 x14 x15 x16 x17 x18 x19 x20 x21 x22 x23 x24 x25 x26 x27 x28 x29 x30 x31 x32 x33) h nx := by kernel_rfl
theorem F89.g16_eq (X17 : IR) (C : Calls Prop) (N : Nat) (O : Outs Prop) (K : Ks Prop) (x0 x1 x2 x3 x4 x5 x6 x7 x8 x9 x10 x11 x12 x13 x14 x15 x16 x17 x18 x19 x20 x21 x22 x23 x24 x25 x26 x27 x28 x29 x30 x31 x32 x33 : AV) (h : T Blk) (nx : Pa) : IR.run (F89.g16 X17) C N O K (F89.fr x0 x1 x2 x3 x4 x5 x6 x7 x8 x9 x10 x11 x12 x13 x14 x15 x16 x17 x18 x19 x20 x21 x22 x23 x24 x25 x26 x27 x28 x29 x30 x31 x32 x33) h nx =
 IR.run X17 C N (O.blk 4 K) K (F89.fr x0 x1 x2 x3 x4 x5 x6 x7 x8 x9 x10 x11 x12 x13 x14 x15 x16 x17 x18 x19 x20 x21 x22 x23 x24 x25 x26 x27 x28 x29 x30 x31 x32 x33) h nx := by kernel_rfl
theorem F89.tab : T.get none (.of 89) tbl = some F89 := by kernel_rfl
theorem F89.go : yJ tbl N C (.of 89) [a0, a1, a2, a3] h nx K0 =
 sBox a0 h nx fun v1 h2 n3 =>
 zM 0 v1 fun v4 =>
 zE v4 h2 fun v5 =>
 gX 1 24 [.nils] v5 v5 h2 n3 fun v6 h7 n8 =>
 zM 1 v1 fun v9 =>
 zE v9 h7 fun v10 =>
 sLen v10 fun v11 =>
 IR.run F89.b1 C N (fnO F89.res K0) (IR.run F89.b15 C N (fnO F89.res K0) (retK F89.res K0)) (F89.fr a0 a1 a2 a3 v1 .nilm v6 .undef .undef .undef .undef .undef .undef .undef .undef .undef .undef .undef v10 v11 (I 0) .undef .undef .undef .undef .undef .undef .undef .undef .undef .undef .undef .undef .undef) h7 n8 := by
 rw [zW F89.tab]; kernel_rfl
theorem F89.e1 : IR.run F89.b3 C N ((fnO F89.res K0).blk 0 K) R (F89.fr x0 x1 x2 x3 x4 x5 x6 x7 x8 x9 x10 x11 x12 x13 x14 x15 x16 x17 x18 x19 x20 x21 x22 x23 x24 x25 x26 x27 x28 x29 x30 x31 x32 x33) h nx =
 sBin .lss .int x20 x19 fun v1 =>
 zJ v1 (zK 1 x18 x20 fun v2 =>
 zE v2 h fun v3 =>
 sLen v3 fun v4 =>
 IR.run F89.b7 C N (((fnO F89.res K0).blk 0 K).blk 1 (IR.run F89.b14 C N ((fnO F89.res K0).blk 0 K) R)) (IR.run F89.b14 C N ((fnO F89.res K0).blk 0 K) R) (F89.fr x0 x1 x2 x3 x4 x5 x6 x20 v3 x9 x10 x11 x12 x13 x14 x15 x16 x17 x18 x19 x20 v1 v3 v4 (I 0) x25 x26 x27 x28 x29 x30 x31 x32 x33) h nx) (K (F89.fr x0 x1 x2 x3 x4 x5 x6 x7 x8 x9 x10 x11 x12 x13 x14 x15 x16 x17 x18 x19 x20 v1 x22 x23 x24 x25 x26 x27 x28 x29 x30 x31 x32 x33) h nx) := by kernel_rfl
theorem F89.L1 (Inv : Nat → AV → T Blk → Pa → Prop) {m : Nat} (hm : m < N) (hi : Inv m x20 h nx)
  (step : ∀ (m : Nat) (z7 z8 z9 z20 z21 z22 z23 z24 z25 : AV) (h : T Blk) (nx : Pa) (R : Ks Prop), Inv m z20 h nx → (∀ (m' : Nat) (w7 w8 w9 w20 w21 w22 w23 w24 w25 : AV) (h' : T Blk) (nx' : Pa), m' < m → Inv m' w20 h' nx' → R (F89.fr x0 x1 x2 x3 x4 x5 x6 w7 w8 w9 x10 x11 x12 x13 x14 x15 x16 x17 x18 x19 w20 w21 w22 w23 w24 w25 x26 x27 x28 x29 x30 x31 x32 x33) h' nx' = .ok True) →
   (sBin .lss .int z20 x19 fun v1 =>
 zJ v1 (zK 1 x18 z20 fun v2 =>
 zE v2 h fun v3 =>
 sLen v3 fun v4 =>
 IR.run F89.b7 C N (((fnO F89.res K0).blk 0 K).blk 1 (IR.run F89.b14 C N ((fnO F89.res K0).blk 0 K) R)) (IR.run F89.b14 C N ((fnO F89.res K0).blk 0 K) R) (F89.fr x0 x1 x2 x3 x4 x5 x6 z20 v3 z9 x10 x11 x12 x13 x14 x15 x16 x17 x18 x19 z20 v1 v3 v4 (I 0) z25 x26 x27 x28 x29 x30 x31 x32 x33) h nx) (K (F89.fr x0 x1 x2 x3 x4 x5 x6 z7 z8 z9 x10 x11 x12 x13 x14 x15 x16 x17 x18 x19 z20 v1 z22 z23 z24 z25 x26 x27 x28 x29 x30 x31 x32 x33) h nx)) = .ok True) :
  IR.run F89.b1 C N (fnO F89.res K0) K (F89.fr x0 x1 x2 x3 x4 x5 x6 x7 x8 x9 x10 x11 x12 x13 x14 x15 x16 x17 x18 x19 x20 x21 x22 x23 x24 x25 x26 x27 x28 x29 x30 x31 x32 x33) h nx = .ok True := by
 rw [F89.b1, F89.g1_eq, F89.b2]
 refine yL (fun m tm h nx => ∃ z7 z8 z9 z20 z21 z22 z23 z24 z25, tm = (F89.fr x0 x1 x2 x3 x4 x5 x6 z7 z8 z9 x10 x11 x12 x13 x14 x15 x16 x17 x18 x19 z20 z21 z22 z23 z24 z25 x26 x27 x28 x29 x30 x31 x32 x33) ∧ Inv m z20 h nx) ?_ hm ⟨_, _, _, _, _, _, _, _, _, rfl, hi⟩
 rintro m tm h nx R ⟨z7, z8, z9, z20, z21, z22, z23, z24, z25, rfl, hi⟩ hR
 rw [F89.e1]
 exact step m z7 z8 z9 z20 z21 z22 z23 z24 z25 h nx R hi fun m' w7 w8 w9 w20 w21 w22 w23 w24 w25 h' nx' hlt hi' => hR m' _ h' nx' hlt ⟨_, _, _, _, _, _, _, _, _, rfl, hi'⟩
theorem F89.k15 : IR.run F89.b15 C N (fnO F89.res K0) K (F89.fr x0 x1 x2 x3 x4 x5 x6 x7 x8 x9 x10 x11 x12 x13 x14 x15 x16 x17 x18 x19 x20 x21 x22 x23 x24 x25 x26 x27 x28 x29 x30 x31 x32 x33) h nx =
 sMkmap h nx fun v1 h2 n3 =>
 sBuild zU [] fun v4 =>
 sMapup (.agg 128) v1 v4 (I 1) h2 n3 fun v5 h6 n7 =>
 IR.run F89.b16 C N (fnO F89.res K0) (IR.run F89.b44 C N (fnO F89.res K0) K) (F89.fr x0 x1 x2 x3 x4 x5 x6 x7 x8 x9 v1 x1 x12 x13 x14 x15 x16 x17 x18 x19 x20 x21 x22 x23 x24 x25 x26 x27 x28 x29 x30 x31 x32 x33) h6 n7 := by kernel_rfl
theorem F89.k14 {E0 : Ks Prop} : IR.run F89.b14 C N ((fnO F89.res K0).blk 0 E0) K (F89.fr x0 x1 x2 x3 x4 x5 x6 x7 x8 x9 x10 x11 x12 x13 x14 x15 x16 x17 x18 x19 x20 x21 x22 x23 x24 x25 x26 x27 x28 x29 x30 x31 x32 x33) h nx =
 sBin .add .int x20 (I 1) fun v1 =>
 K (F89.fr x0 x1 x2 x3 x4 x5 x6 x7 x8 x9 x10 x11 x12 x13 x14 x15 x16 x17 x18 x19 v1 x21 x22 x23 x24 x25 x26 x27 x28 x29 x30 x31 x32 x33) h nx := by kernel_rfl
theorem F89.e7 {E0 E1 : Ks Prop} : IR.run F89.b9 C N ((((fnO F89.res K0).blk 0 E0).blk 1 E1).blk 2 K) R (F89.fr x0 x1 x2 x3 x4 x5 x6 x7 x8 x9 x10 x11 x12 x13 x14 x15 x16 x17 x18 x19 x20 x21 x22 x23 x24 x25 x26 x27 x28 x29 x30 x31 x32 x33) h nx =
 sBin .lss .int x24 x23 fun v1 =>
 zJ v1 (zK 1 x22 x24 fun v2 =>
 zE v2 h fun v3 =>
 zK 1 x6 v3 fun v4 =>
 zE v4 h fun v5 =>
 jA 1 1 [(I 0)] [(0, 1, x7)] h nx fun v6 h7 n8 =>
 sApp 1 8 v5 v6 h7 n8 fun v9 h10 n11 =>
 zK 1 x6 v3 fun v12 =>
 yU 1 v12 v9 h10 n11 fun v13 h14 n15 =>
 sBin .add .int x24 (I 1) fun v16 =>
 R (F89.fr x0 x1 x2 x3 x4 x5 x6 x7 x8 v3 x10 x11 x12 x13 x14 x15 x16 x17 x18 x19 x20 x21 x22 x23 v16 v1 x26 x27 x28 x29 x30 x31 x32 x33) h14 n15) (K (F89.fr x0 x1 x2 x3 x4 x5 x6 x7 x8 x9 x10 x11 x12 x13 x14 x15 x16 x17 x18 x19 x20 x21 x22 x23 x24 v1 x26 x27 x28 x29 x30 x31 x32 x33) h nx) := by kernel_rfl
theorem F89.L7 {E0 E1 : Ks Prop} (Inv : Nat → AV → T Blk → Pa → Prop) {m : Nat} (hm : m < N) (hi : Inv m x24 h nx)
  (step : ∀ (m : Nat) (z9 z24 z25 : AV) (h : T Blk) (nx : Pa) (R : Ks Prop), Inv m z24 h nx → (∀ (m' : Nat) (w9 w24 w25 : AV) (h' : T Blk) (nx' : Pa), m' < m → Inv m' w24 h' nx' → R (F89.fr x0 x1 x2 x3 x4 x5 x6 x7 x8 w9 x10 x11 x12 x13 x14 x15 x16 x17 x18 x19 x20 x21 x22 x23 w24 w25 x26 x27 x28 x29 x30 x31 x32 x33) h' nx' = .ok True) →
   (sBin .lss .int z24 x23 fun v1 =>
 zJ v1 (zK 1 x22 z24 fun v2 =>
 zE v2 h fun v3 =>
 zK 1 x6 v3 fun v4 =>
 zE v4 h fun v5 =>
 jA 1 1 [(I 0)] [(0, 1, x7)] h nx fun v6 h7 n8 =>
 sApp 1 8 v5 v6 h7 n8 fun v9 h10 n11 =>
 zK 1 x6 v3 fun v12 =>
 yU 1 v12 v9 h10 n11 fun v13 h14 n15 =>
 sBin .add .int z24 (I 1) fun v16 =>
 R (F89.fr x0 x1 x2 x3 x4 x5 x6 x7 x8 v3 x10 x11 x12 x13 x14 x15 x16 x17 x18 x19 x20 x21 x22 x23 v16 v1 x26 x27 x28 x29 x30 x31 x32 x33) h14 n15) (K (F89.fr x0 x1 x2 x3 x4 x5 x6 x7 x8 z9 x10 x11 x12 x13 x14 x15 x16 x17 x18 x19 x20 x21 x22 x23 z24 v1 x26 x27 x28 x29 x30 x31 x32 x33) h nx)) = .ok True) :
  IR.run F89.b7 C N (((fnO F89.res K0).blk 0 E0).blk 1 E1) K (F89.fr x0 x1 x2 x3 x4 x5 x6 x7 x8 x9 x10 x11 x12 x13 x14 x15 x16 x17 x18 x19 x20 x21 x22 x23 x24 x25 x26 x27 x28 x29 x30 x31 x32 x33) h nx = .ok True := by
 rw [F89.b7, F89.g7_eq, F89.b8]
 refine yL (fun m tm h nx => ∃ z9 z24 z25, tm = (F89.fr x0 x1 x2 x3 x4 x5 x6 x7 x8 z9 x10 x11 x12 x13 x14 x15 x16 x17 x18 x19 x20 x21 x22 x23 z24 z25 x26 x27 x28 x29 x30 x31 x32 x33) ∧ Inv m z24 h nx) ?_ hm ⟨_, _, _, rfl, hi⟩
 rintro m tm h nx R ⟨z9, z24, z25, rfl, hi⟩ hR
 rw [F89.e7]
 exact step m z9 z24 z25 h nx R hi fun m' w9 w24 w25 h' nx' hlt hi' => hR m' _ h' nx' hlt ⟨_, _, _, rfl, hi'⟩
theorem F89.e16 : IR.run F89.b18 C N ((fnO F89.res K0).blk 4 K) R (F89.fr x0 x1 x2 x3 x4 x5 x6 x7 x8 x9 x10 x11 x12 x13 x14 x15 x16 x17 x18 x19 x20 x21 x22 x23 x24 x25 x26 x27 x28 x29 x30 x31 x32 x33) h nx =
 sBin .lss .int x11 x2 fun v1 =>
 zJ v1 (sMkmap h nx fun v2 h3 n4 =>
 sRange x10 h3 n4 fun v5 h6 n7 =>
 IR.run F89.b22 C N (((fnO F89.res K0).blk 4 K).blk 5 (IR.run F89.b43 C N ((fnO F89.res K0).blk 4 K) R)) (IR.run F89.b42 C N (((fnO F89.res K0).blk 4 K).blk 5 (IR.run F89.b43 C N ((fnO F89.res K0).blk 4 K) R)) (IR.run F89.b43 C N ((fnO F89.res K0).blk 4 K) R)) (F89.fr x0 x1 x2 x3 x4 x5 x6 x7 x8 x9 x10 x11 v2 x13 x14 x15 x16 x17 x18 x19 x20 x21 x22 x23 x24 x25 v1 v5 x28 x29 x30 x31 x32 x33) h6 n7) (K (F89.fr x0 x1 x2 x3 x4 x5 x6 x7 x8 x9 x10 x11 x12 x13 x14 x15 x16 x17 x18 x19 x20 x21 x22 x23 x24 x25 v1 x27 x28 x29 x30 x31 x32 x33) h nx) := by kernel_rfl
theorem F89.L16 (Inv : Nat → AV → AV → T Blk → Pa → Prop) {m : Nat} (hm : m < N) (hi : Inv m x10 x11 h nx)
  (step : ∀ (m : Nat) (z10 z11 z12 z13 z14 z15 z16 z17 z26 z27 z28 z29 z30 z31 z32 z33 : AV) (h : T Blk) (nx : Pa) (R : Ks Prop), Inv m z10 z11 h nx → (∀ (m' : Nat) (w10 w11 w12 w13 w14 w15 w16 w17 w26 w27 w28 w29 w30 w31 w32 w33 : AV) (h' : T Blk) (nx' : Pa), m' < m → Inv m' w10 w11 h' nx' → R (F89.fr x0 x1 x2 x3 x4 x5 x6 x7 x8 x9 w10 w11 w12 w13 w14 w15 w16 w17 x18 x19 x20 x21 x22 x23 x24 x25 w26 w27 w28 w29 w30 w31 w32 w33) h' nx' = .ok True) →
   (sBin .lss .int z11 x2 fun v1 =>
 zJ v1 (sMkmap h nx fun v2 h3 n4 =>
 sRange z10 h3 n4 fun v5 h6 n7 =>
 IR.run F89.b22 C N (((fnO F89.res K0).blk 4 K).blk 5 (IR.run F89.b43 C N ((fnO F89.res K0).blk 4 K) R)) (IR.run F89.b42 C N (((fnO F89.res K0).blk 4 K).blk 5 (IR.run F89.b43 C N ((fnO F89.res K0).blk 4 K) R)) (IR.run F89.b43 C N ((fnO F89.res K0).blk 4 K) R)) (F89.fr x0 x1 x2 x3 x4 x5 x6 x7 x8 x9 z10 z11 v2 z13 z14 z15 z16 z17 x18 x19 x20 x21 x22 x23 x24 x25 v1 v5 z28 z29 z30 z31 z32 z33) h6 n7) (K (F89.fr x0 x1 x2 x3 x4 x5 x6 x7 x8 x9 z10 z11 z12 z13 z14 z15 z16 z17 x18 x19 x20 x21 x22 x23 x24 x25 v1 z27 z28 z29 z30 z31 z32 z33) h nx)) = .ok True) :
  IR.run F89.b16 C N (fnO F89.res K0) K (F89.fr x0 x1 x2 x3 x4 x5 x6 x7 x8 x9 x10 x11 x12 x13 x14 x15 x16 x17 x18 x19 x20 x21 x22 x23 x24 x25 x26 x27 x28 x29 x30 x31 x32 x33) h nx = .ok True := by
 rw [F89.b16, F89.g16_eq, F89.b17]
 refine yL (fun m tm h nx => ∃ z10 z11 z12 z13 z14 z15 z16 z17 z26 z27 z28 z29 z30 z31 z32 z33, tm = (F89.fr x0 x1 x2 x3 x4 x5 x6 x7 x8 x9 z10 z11 z12 z13 z14 z15 z16 z17 x18 x19 x20 x21 x22 x23 x24 x25 z26 z27 z28 z29 z30 z31 z32 z33) ∧ Inv m z10 z11 h nx) ?_ hm ⟨_, _, _, _, _, _, _, _, _, _, _, _, _, _, _, _, rfl, hi⟩
 rintro m tm h nx R ⟨z10, z11, z12, z13, z14, z15, z16, z17, z26, z27, z28, z29, z30, z31, z32, z33, rfl, hi⟩ hR
 rw [F89.e16]
 exact step m z10 z11 z12 z13 z14 z15 z16 z17 z26 z27 z28 z29 z30 z31 z32 z33 h nx R hi fun m' w10 w11 w12 w13 w14 w15 w16 w17 w26 w27 w28 w29 w30 w31 w32 w33 h' nx' hlt hi' => hR m' _ h' nx' hlt ⟨_, _, _, _, _, _, _, _, _, _, _, _, _, _, _, _, rfl, hi'⟩
theorem F89.k44 : IR.run F89.b44 C N (fnO F89.res K0) K (F89.fr x0 x1 x2 x3 x4 x5 x6 x7 x8 x9 x10 x11 x12 x13 x14 x15 x16 x17 x18 x19 x20 x21 x22 x23 x24 x25 x26 x27 x28 x29 x30 x31 x32 x33) h nx =
 K0 x10 h nx := by kernel_rfl
theorem F89.k43 {E4 : Ks Prop} : IR.run F89.b43 C N ((fnO F89.res K0).blk 4 E4) K (F89.fr x0 x1 x2 x3 x4 x5 x6 x7 x8 x9 x10 x11 x12 x13 x14 x15 x16 x17 x18 x19 x20 x21 x22 x23 x24 x25 x26 x27 x28 x29 x30 x31 x32 x33) h nx =
 sBin .add .int x11 (I 1) fun v1 =>
 K (F89.fr x0 x1 x2 x3 x4 x5 x6 x7 x8 x9 x10 v1 x12 x13 x14 x15 x16 x17 x18 x19 x20 x21 x22 x23 x24 x25 x26 x27 x28 x29 x30 x31 x32 x33) h nx := by kernel_rfl
theorem F89.e22 {E4 E5 : Ks Prop} : IR.run F89.b24 C N ((((fnO F89.res K0).blk 4 E4).blk 5 E5).blk 6 K) R (F89.fr x0 x1 x2 x3 x4 x5 x6 x7 x8 x9 x10 x11 x12 x13 x14 x15 x16 x17 x18 x19 x20 x21 x22 x23 x24 x25 x26 x27 x28 x29 x30 x31 x32 x33) h nx =
 sNext C x27 h nx fun v1 h2 n3 =>
 sExt 0 v1 fun v4 =>
 zJ v4 (sEntry x27 h2 fun v5 =>
 sExt 0 v5 fun v6 =>
 sExt 1 v5 fun v7 =>
 gG zU h2 n3 fun v8 h9 n10 =>
 yU 128 v8 v6 h9 n10 fun v11 h12 n13 =>
 IR.run F89.b27 C N (((((fnO F89.res K0).blk 4 E4).blk 5 E5).blk 6 K).blk 7 R) R (F89.fr x0 x1 x2 x3 x4 x5 x6 x7 x8 x9 x10 x11 x12 v8 v7 (I 0) x16 x17 x18 x19 x20 x21 x22 x23 x24 x25 x26 x27 v4 x29 x30 x31 x32 x33) h12 n13) (K (F89.fr x0 x1 x2 x3 x4 x5 x6 x7 x8 x9 x10 x11 x12 x13 x14 x15 x16 x17 x18 x19 x20 x21 x22 x23 x24 x25 x26 x27 v4 x29 x30 x31 x32 x33) h2 n3) := by kernel_rfl
theorem F89.L22 {E4 E5 : Ks Prop} (Inv : Nat → T Blk → Pa → Prop) {m : Nat} (hm : m < N) (hi : Inv m  h nx)
  (step : ∀ (m : Nat) (z13 z14 z15 z16 z17 z28 z29 z30 z31 z32 z33 : AV) (h : T Blk) (nx : Pa) (R : Ks Prop), Inv m  h nx → (∀ (m' : Nat) (w13 w14 w15 w16 w17 w28 w29 w30 w31 w32 w33 : AV) (h' : T Blk) (nx' : Pa), m' < m → Inv m'  h' nx' → R (F89.fr x0 x1 x2 x3 x4 x5 x6 x7 x8 x9 x10 x11 x12 w13 w14 w15 w16 w17 x18 x19 x20 x21 x22 x23 x24 x25 x26 x27 w28 w29 w30 w31 w32 w33) h' nx' = .ok True) →
   (sNext C x27 h nx fun v1 h2 n3 =>
 sExt 0 v1 fun v4 =>
 zJ v4 (sEntry x27 h2 fun v5 =>
 sExt 0 v5 fun v6 =>
 sExt 1 v5 fun v7 =>
 gG zU h2 n3 fun v8 h9 n10 =>
 yU 128 v8 v6 h9 n10 fun v11 h12 n13 =>
 IR.run F89.b27 C N (((((fnO F89.res K0).blk 4 E4).blk 5 E5).blk 6 K).blk 7 R) R (F89.fr x0 x1 x2 x3 x4 x5 x6 x7 x8 x9 x10 x11 x12 v8 v7 (I 0) z16 z17 x18 x19 x20 x21 x22 x23 x24 x25 x26 x27 v4 z29 z30 z31 z32 z33) h12 n13) (K (F89.fr x0 x1 x2 x3 x4 x5 x6 x7 x8 x9 x10 x11 x12 z13 z14 z15 z16 z17 x18 x19 x20 x21 x22 x23 x24 x25 x26 x27 v4 z29 z30 z31 z32 z33) h2 n3)) = .ok True) :
  IR.run F89.b22 C N (((fnO F89.res K0).blk 4 E4).blk 5 E5) K (F89.fr x0 x1 x2 x3 x4 x5 x6 x7 x8 x9 x10 x11 x12 x13 x14 x15 x16 x17 x18 x19 x20 x21 x22 x23 x24 x25 x26 x27 x28 x29 x30 x31 x32 x33) h nx = .ok True := by
 rw [F89.b22, F89.g22_eq, F89.b23]
 refine yL (fun m tm h nx => ∃ z13 z14 z15 z16 z17 z28 z29 z30 z31 z32 z33, tm = (F89.fr x0 x1 x2 x3 x4 x5 x6 x7 x8 x9 x10 x11 x12 z13 z14 z15 z16 z17 x18 x19 x20 x21 x22 x23 x24 x25 x26 x27 z28 z29 z30 z31 z32 z33) ∧ Inv m  h nx) ?_ hm ⟨_, _, _, _, _, _, _, _, _, _, _, rfl, hi⟩
 rintro m tm h nx R ⟨z13, z14, z15, z16, z17, z28, z29, z30, z31, z32, z33, rfl, hi⟩ hR
 rw [F89.e22]
 exact step m z13 z14 z15 z16 z17 z28 z29 z30 z31 z32 z33 h nx R hi fun m' w13 w14 w15 w16 w17 w28 w29 w30 w31 w32 w33 h' nx' hlt hi' => hR m' _ h' nx' hlt ⟨_, _, _, _, _, _, _, _, _, _, _, rfl, hi'⟩
theorem F89.k42 {E4 E5 : Ks Prop} : IR.run F89.b42 C N (((fnO F89.res K0).blk 4 E4).blk 5 E5) K (F89.fr x0 x1 x2 x3 x4 x5 x6 x7 x8 x9 x10 x11 x12 x13 x14 x15 x16 x17 x18 x19 x20 x21 x22 x23 x24 x25 x26 x27 x28 x29 x30 x31 x32 x33) h nx =
 K (F89.fr x0 x1 x2 x3 x4 x5 x6 x7 x8 x9 x12 x11 x12 x13 x14 x15 x16 x17 x18 x19 x20 x21 x22 x23 x24 x25 x26 x27 x28 x29 x30 x31 x32 x33) h nx := by kernel_rfl
theorem F89.e27 {E4 E5 E6 E7 : Ks Prop} : IR.run F89.b29 C N ((((((fnO F89.res K0).blk 4 E4).blk 5 E5).blk 6 E6).blk 7 E7).blk 8 K) R (F89.fr x0 x1 x2 x3 x4 x5 x6 x7 x8 x9 x10 x11 x12 x13 x14 x15 x16 x17 x18 x19 x20 x21 x22 x23 x24 x25 x26 x27 x28 x29 x30 x31 x32 x33) h nx =
 sBin .leq .int x15 x3 fun v1 =>
 zJ v1 (jG 128 x13 h fun v2 =>
 gG zU h nx fun v3 h4 n5 =>
 yU 128 v3 v2 h4 n5 fun v6 h7 n8 =>
 zK 1 x6 x11 fun v9 =>
 zE v9 h7 fun v10 =>
 sLen v10 fun v11 =>
 IR.run F89.b33 C N (((((((fnO F89.res K0).blk 4 E4).blk 5 E5).blk 6 E6).blk 7 E7).blk 8 K).blk 9 (IR.run F89.b41 C N ((((((fnO F89.res K0).blk 4 E4).blk 5 E5).blk 6 E6).blk 7 E7).blk 8 K) R)) (IR.run F89.b40 C N (((((((fnO F89.res K0).blk 4 E4).blk 5 E5).blk 6 E6).blk 7 E7).blk 8 K).blk 9 (IR.run F89.b41 C N ((((((fnO F89.res K0).blk 4 E4).blk 5 E5).blk 6 E6).blk 7 E7).blk 8 K) R)) (IR.run F89.b41 C N ((((((fnO F89.res K0).blk 4 E4).blk 5 E5).blk 6 E6).blk 7 E7).blk 8 K) R)) (F89.fr x0 x1 x2 x3 x4 x5 x6 x7 x8 x9 x10 x11 x12 x13 x14 x15 v3 x17 x18 x19 x20 x21 x22 x23 x24 x25 x26 x27 x28 v1 v10 v11 (I 0) x33) h7 n8) (K (F89.fr x0 x1 x2 x3 x4 x5 x6 x7 x8 x9 x10 x11 x12 x13 x14 x15 x16 x17 x18 x19 x20 x21 x22 x23 x24 x25 x26 x27 x28 v1 x30 x31 x32 x33) h nx) := by kernel_rfl
theorem F89.L27 {E4 E5 E6 E7 : Ks Prop} (Inv : Nat → AV → T Blk → Pa → Prop) {m : Nat} (hm : m < N) (hi : Inv m x15 h nx)
  (step : ∀ (m : Nat) (z15 z16 z17 z29 z30 z31 z32 z33 : AV) (h : T Blk) (nx : Pa) (R : Ks Prop), Inv m z15 h nx → (∀ (m' : Nat) (w15 w16 w17 w29 w30 w31 w32 w33 : AV) (h' : T Blk) (nx' : Pa), m' < m → Inv m' w15 h' nx' → R (F89.fr x0 x1 x2 x3 x4 x5 x6 x7 x8 x9 x10 x11 x12 x13 x14 w15 w16 w17 x18 x19 x20 x21 x22 x23 x24 x25 x26 x27 x28 w29 w30 w31 w32 w33) h' nx' = .ok True) →
   (sBin .leq .int z15 x3 fun v1 =>
 zJ v1 (jG 128 x13 h fun v2 =>
 gG zU h nx fun v3 h4 n5 =>
 yU 128 v3 v2 h4 n5 fun v6 h7 n8 =>
 zK 1 x6 x11 fun v9 =>
 zE v9 h7 fun v10 =>
 sLen v10 fun v11 =>
 IR.run F89.b33 C N (((((((fnO F89.res K0).blk 4 E4).blk 5 E5).blk 6 E6).blk 7 E7).blk 8 K).blk 9 (IR.run F89.b41 C N ((((((fnO F89.res K0).blk 4 E4).blk 5 E5).blk 6 E6).blk 7 E7).blk 8 K) R)) (IR.run F89.b40 C N (((((((fnO F89.res K0).blk 4 E4).blk 5 E5).blk 6 E6).blk 7 E7).blk 8 K).blk 9 (IR.run F89.b41 C N ((((((fnO F89.res K0).blk 4 E4).blk 5 E5).blk 6 E6).blk 7 E7).blk 8 K) R)) (IR.run F89.b41 C N ((((((fnO F89.res K0).blk 4 E4).blk 5 E5).blk 6 E6).blk 7 E7).blk 8 K) R)) (F89.fr x0 x1 x2 x3 x4 x5 x6 x7 x8 x9 x10 x11 x12 x13 x14 z15 v3 z17 x18 x19 x20 x21 x22 x23 x24 x25 x26 x27 x28 v1 v10 v11 (I 0) z33) h7 n8) (K (F89.fr x0 x1 x2 x3 x4 x5 x6 x7 x8 x9 x10 x11 x12 x13 x14 z15 z16 z17 x18 x19 x20 x21 x22 x23 x24 x25 x26 x27 x28 v1 z30 z31 z32 z33) h nx)) = .ok True) :
  IR.run F89.b27 C N (((((fnO F89.res K0).blk 4 E4).blk 5 E5).blk 6 E6).blk 7 E7) K (F89.fr x0 x1 x2 x3 x4 x5 x6 x7 x8 x9 x10 x11 x12 x13 x14 x15 x16 x17 x18 x19 x20 x21 x22 x23 x24 x25 x26 x27 x28 x29 x30 x31 x32 x33) h nx = .ok True := by
 rw [F89.b27, F89.g27_eq, F89.b28]
 refine yL (fun m tm h nx => ∃ z15 z16 z17 z29 z30 z31 z32 z33, tm = (F89.fr x0 x1 x2 x3 x4 x5 x6 x7 x8 x9 x10 x11 x12 x13 x14 z15 z16 z17 x18 x19 x20 x21 x22 x23 x24 x25 x26 x27 x28 z29 z30 z31 z32 z33) ∧ Inv m z15 h nx) ?_ hm ⟨_, _, _, _, _, _, _, _, rfl, hi⟩
 rintro m tm h nx R ⟨z15, z16, z17, z29, z30, z31, z32, z33, rfl, hi⟩ hR
 rw [F89.e27]
 exact step m z15 z16 z17 z29 z30 z31 z32 z33 h nx R hi fun m' w15 w16 w17 w29 w30 w31 w32 w33 h' nx' hlt hi' => hR m' _ h' nx' hlt ⟨_, _, _, _, _, _, _, _, rfl, hi'⟩
theorem F89.k41 {E4 E5 E6 E7 E8 : Ks Prop} : IR.run F89.b41 C N ((((((fnO F89.res K0).blk 4 E4).blk 5 E5).blk 6 E6).blk 7 E7).blk 8 E8) K (F89.fr x0 x1 x2 x3 x4 x5 x6 x7 x8 x9 x10 x11 x12 x13 x14 x15 x16 x17 x18 x19 x20 x21 x22 x23 x24 x25 x26 x27 x28 x29 x30 x31 x32 x33) h nx =
 sBin .add .int x15 (I 1) fun v1 =>
 K (F89.fr x0 x1 x2 x3 x4 x5 x6 x7 x8 x9 x10 x11 x12 x13 x14 v1 x16 x17 x18 x19 x20 x21 x22 x23 x24 x25 x26 x27 x28 x29 x30 x31 x32 x33) h nx := by kernel_rfl
theorem F89.e33 {E4 E5 E6 E7 E8 E9 : Ks Prop} : IR.run F89.b35 C N ((((((((fnO F89.res K0).blk 4 E4).blk 5 E5).blk 6 E6).blk 7 E7).blk 8 E8).blk 9 E9).blk 10 K) R (F89.fr x0 x1 x2 x3 x4 x5 x6 x7 x8 x9 x10 x11 x12 x13 x14 x15 x16 x17 x18 x19 x20 x21 x22 x23 x24 x25 x26 x27 x28 x29 x30 x31 x32 x33) h nx =
 sBin .lss .int x32 x31 fun v1 =>
 zJ v1 (zK 1 x30 x32 fun v2 =>
 zE v2 h fun v3 =>
 gT 1 128 x16 v3 fun v4 =>
 zE v4 h fun v5 =>
 sConv .u8 x15 fun v6 =>
 sBin .add .int v5 v6 fun v7 =>
 gT 1 128 x16 v3 fun v8 =>
 yU 1 v8 v7 h nx fun v9 h10 n11 =>
 sBin .add .int x32 (I 1) fun v12 =>
 R (F89.fr x0 x1 x2 x3 x4 x5 x6 x7 x8 x9 x10 x11 x12 x13 x14 x15 x16 v3 x18 x19 x20 x21 x22 x23 x24 x25 x26 x27 x28 x29 x30 x31 v12 v1) h10 n11) (K (F89.fr x0 x1 x2 x3 x4 x5 x6 x7 x8 x9 x10 x11 x12 x13 x14 x15 x16 x17 x18 x19 x20 x21 x22 x23 x24 x25 x26 x27 x28 x29 x30 x31 x32 v1) h nx) := by kernel_rfl
theorem F89.L33 {E4 E5 E6 E7 E8 E9 : Ks Prop} (Inv : Nat → AV → T Blk → Pa → Prop) {m : Nat} (hm : m < N) (hi : Inv m x32 h nx)
  (step : ∀ (m : Nat) (z17 z32 z33 : AV) (h : T Blk) (nx : Pa) (R : Ks Prop), Inv m z32 h nx → (∀ (m' : Nat) (w17 w32 w33 : AV) (h' : T Blk) (nx' : Pa), m' < m → Inv m' w32 h' nx' → R (F89.fr x0 x1 x2 x3 x4 x5 x6 x7 x8 x9 x10 x11 x12 x13 x14 x15 x16 w17 x18 x19 x20 x21 x22 x23 x24 x25 x26 x27 x28 x29 x30 x31 w32 w33) h' nx' = .ok True) →
   (sBin .lss .int z32 x31 fun v1 =>
 zJ v1 (zK 1 x30 z32 fun v2 =>
 zE v2 h fun v3 =>
 gT 1 128 x16 v3 fun v4 =>
 zE v4 h fun v5 =>
 sConv .u8 x15 fun v6 =>
 sBin .add .int v5 v6 fun v7 =>
 gT 1 128 x16 v3 fun v8 =>
 yU 1 v8 v7 h nx fun v9 h10 n11 =>
 sBin .add .int z32 (I 1) fun v12 =>
 R (F89.fr x0 x1 x2 x3 x4 x5 x6 x7 x8 x9 x10 x11 x12 x13 x14 x15 x16 v3 x18 x19 x20 x21 x22 x23 x24 x25 x26 x27 x28 x29 x30 x31 v12 v1) h10 n11) (K (F89.fr x0 x1 x2 x3 x4 x5 x6 x7 x8 x9 x10 x11 x12 x13 x14 x15 x16 z17 x18 x19 x20 x21 x22 x23 x24 x25 x26 x27 x28 x29 x30 x31 z32 v1) h nx)) = .ok True) :
  IR.run F89.b33 C N (((((((fnO F89.res K0).blk 4 E4).blk 5 E5).blk 6 E6).blk 7 E7).blk 8 E8).blk 9 E9) K (F89.fr x0 x1 x2 x3 x4 x5 x6 x7 x8 x9 x10 x11 x12 x13 x14 x15 x16 x17 x18 x19 x20 x21 x22 x23 x24 x25 x26 x27 x28 x29 x30 x31 x32 x33) h nx = .ok True := by
 rw [F89.b33, F89.g33_eq, F89.b34]
 refine yL (fun m tm h nx => ∃ z17 z32 z33, tm = (F89.fr x0 x1 x2 x3 x4 x5 x6 x7 x8 x9 x10 x11 x12 x13 x14 x15 x16 z17 x18 x19 x20 x21 x22 x23 x24 x25 x26 x27 x28 x29 x30 x31 z32 z33) ∧ Inv m z32 h nx) ?_ hm ⟨_, _, _, rfl, hi⟩
 rintro m tm h nx R ⟨z17, z32, z33, rfl, hi⟩ hR
 rw [F89.e33]
 exact step m z17 z32 z33 h nx R hi fun m' w17 w32 w33 h' nx' hlt hi' => hR m' _ h' nx' hlt ⟨_, _, _, rfl, hi'⟩
theorem F89.k40 {E4 E5 E6 E7 E8 E9 : Ks Prop} : IR.run F89.b40 C N (((((((fnO F89.res K0).blk 4 E4).blk 5 E5).blk 6 E6).blk 7 E7).blk 8 E8).blk 9 E9) K (F89.fr x0 x1 x2 x3 x4 x5 x6 x7 x8 x9 x10 x11 x12 x13 x14 x15 x16 x17 x18 x19 x20 x21 x22 x23 x24 x25 x26 x27 x28 x29 x30 x31 x32 x33) h nx =
 jG 128 x16 h fun v1 =>
 sLook (.agg 128) (I 0) false x12 v1 h fun v2 =>
 sBin .add .int v2 x14 fun v3 =>
 sMapent (.agg 128) (I 0) x12 v1 h nx fun v4 h5 n6 =>
 (sBin .add .int v2 x14 fun v12 => jF v12 v3 ((sLook (.agg 128) (I 0) false x12 v1 h5 fun v11 => jF v11 v2 (sExt 1 v4 fun v7 =>
 sEntst x12 v7 v3 h5 n6 fun v8 h9 n10 =>
 K (F89.fr x0 x1 x2 x3 x4 x5 x6 x7 x8 x9 x10 x11 x12 x13 x14 x15 x16 x17 x18 x19 x20 x21 x22 x23 x24 x25 x26 x27 x28 x29 x30 x31 x32 x33) h9 n10)))) := by kernel_rfl
end Go.Ev
namespace Go.Ev
open Go Go.Proofs
set_option maxRecDepth 100000
variable {N : Nat} {C : Calls Prop} {K0 : Kw Prop} {K R : Ks Prop} {h : T Blk} {nx : Pa} {x0 x1 x2 x3 x4 x5 x6 x7 x8 x9 x10 x11 x12 x13 x14 x15 x16 x17 x18 x19 x20 x21 x22 a0 a1 a2 : AV}
theorem F31.g9_eq (X10 : IR) (C : Calls Prop) (N : Nat) (O : Outs Prop) (K : Ks Prop) (x0 x1 x2 x3 x4 x5 x6 x7 x8 x9 x10 x11 x12 x13 x14 x15 x16 x17 x18 x19 x20 x21 x22 : AV) (h : T Blk) (nx : Pa) : IR.run (F31.g9 X10) C N O K (F31.fr x0 x1 x2 x3 x4 x5 x6 x7 x8 x9 x10 x11 x12 x13 x14 x15 x16 x17 x18 x19 x20 x21 x22) h nx =
 IR.run X10 C N (O.blk 2 K) K (F31.fr x0 x1 x2 x3 x4 x5 x6 x7 x8 x9 x10 x11 x12 x13 x14 x15 x16 x17 x18 x19 x20 x21 x22) h nx := by kernel_rfl
theorem F31.g4_eq (X5 : IR) (C : Calls Prop) (N : Nat) (O : Outs Prop) (K : Ks Prop) (x0 x1 x2 x3 x4 x5 x6 x7 x8 x9 x10 x11 x12 x13 x14 x15 x16 x17 x18 x19 x20 x21 x22 : AV) (h : T Blk) (nx : Pa) : IR.run (F31.g4 X5) C N O K (F31.fr x0 x1 x2 x3 x4 x5 x6 x7 x8 x9 x10 x11 x12 x13 x14 x15 x16 x17 x18 x19 x20 x21 x22) h nx =
 IR.run X5 C N (O.blk 0 K) K (F31.fr x0 x1 x2 x3 x4 x5 x6 x7 x8 x9 x10 x11 x12 x13 x14 x15 x16 x17 x18 x19 x20 x21 x22) h nx := by kernel_rfl
theorem F31.tab : T.get none (.of 31) tbl = some F31 := by kernel_rfl
theorem F31.go : yJ tbl N C (.of 31) [a0, a1, a2] h nx K0 =
 sBox a0 h nx fun v1 h2 n3 =>
 jG 2 v1 h2 fun v4 =>
 C.fn 87 (.of 87) [v4, a1] h2 n3 fun v5 h6 n7 =>
 sBin .neq .int v5 (I 0) fun v8 =>
 zJ v8 (K0 (.tup [(I 0), v5]) h6 n7) (zM 0 v1 fun v9 =>
 zE v9 h6 fun v10 =>
 sBin .quo .int v10 (I 2) fun v11 =>
 zM 0 v1 fun v12 =>
 zE v12 h6 fun v13 =>
 sBin .sub .int v13 v11 fun v14 =>
 C.fn 88 (.of 88) [v14, a1] h6 n7 fun v15 h16 n17 =>
 zJ v15 (K0 (.tup [(I 0), (I 20)]) h16 n17) (zM 1 v1 fun v18 =>
 zE v18 h16 fun v19 =>
 sLen v19 fun v20 =>
 sBin .gtr .int v20 (I 0) fun v21 =>
 sG v21 true (fun k => k a2) fun v22 =>
 sG v21 true (fun k => sBin .lss .int v22 (I 0) k) fun v23 =>
 sG v21 true (fun k => k v23) fun v24 =>
 sG v24 false (fun k => k a2) fun v25 =>
 sG v24 false (fun k => sBin .gtr .int v25 (I 255) k) fun v26 =>
 sG v21 true (fun k => yV v24 (.bool true) v26 k) fun v27 =>
 yV v21 v27 (.bool false) fun v28 =>
 zJ v28 (K0 (.tup [(I 0), (I 0)]) h16 n17) ((IR.run F31.b3 C N (fnO F31.res K0) (retK F31.res K0)) (F31.fr a0 a1 a2 v1 (I 0) (I 0) v5 v11 .undef .undef .undef .undef .undef .undef v8 v15 v28 .undef .undef .undef .undef .undef .undef) h16 n17))) := by
 rw [zW F31.tab]; kernel_rfl
theorem F31.k3 : IR.run F31.b3 C N (fnO F31.res K0) K (F31.fr x0 x1 x2 x3 x4 x5 x6 x7 x8 x9 x10 x11 x12 x13 x14 x15 x16 x17 x18 x19 x20 x21 x22) h nx =
 jG 2 x3 h fun v1 =>
 zM 0 x3 fun v2 =>
 zE v2 h fun v3 =>
 C.fn 89 (.of 89) [v1, x7, v3, x1] h nx fun v4 h5 n6 =>
 jG 2 x3 h5 fun v7 =>
 C.fn 89 (.of 89) [v7, (I 0), x7, x1] h5 n6 fun v8 h9 n10 =>
 sRange v8 h9 n10 fun v11 h12 n13 =>
 IR.run F31.b4 C N (fnO F31.res K0) (IR.run F31.b18 C N (fnO F31.res K0) K) (F31.fr x0 x1 x2 x3 x4 x5 x6 x7 v4 (I 0) x10 x11 x12 x13 x14 x15 x16 v11 x18 x19 x20 x21 x22) h12 n13 := by kernel_rfl
theorem F31.e4 : IR.run F31.b6 C N ((fnO F31.res K0).blk 0 K) R (F31.fr x0 x1 x2 x3 x4 x5 x6 x7 x8 x9 x10 x11 x12 x13 x14 x15 x16 x17 x18 x19 x20 x21 x22) h nx =
 sNext C x17 h nx fun v1 h2 n3 =>
 sExt 0 v1 fun v4 =>
 zJ v4 (sEntry x17 h2 fun v5 =>
 sExt 0 v5 fun v6 =>
 sExt 1 v5 fun v7 =>
 gG zU h2 n3 fun v8 h9 n10 =>
 yU 128 v8 v6 h9 n10 fun v11 h12 n13 =>
 gG zU h12 n13 fun v14 h15 n16 =>
 zM 1 x3 fun v17 =>
 zE v17 h15 fun v18 =>
 sLen v18 fun v19 =>
 IR.run F31.b9 C N (((fnO F31.res K0).blk 0 K).blk 1 R) (IR.run F31.b17 C N (((fnO F31.res K0).blk 0 K).blk 1 R) R) (F31.fr x0 x1 x2 x3 x4 x5 x6 x7 x8 x9 v8 v7 v14 x13 x14 x15 x16 x17 v4 v19 (I 0) x21 x22) h15 n16) (K (F31.fr x0 x1 x2 x3 x4 x5 x6 x7 x8 x9 x10 x11 x12 x13 x14 x15 x16 x17 v4 x19 x20 x21 x22) h2 n3) := by kernel_rfl
theorem F31.L4 (Inv : Nat → AV → T Blk → Pa → Prop) {m : Nat} (hm : m < N) (hi : Inv m x9 h nx)
  (step : ∀ (m : Nat) (z9 z10 z11 z12 z13 z18 z19 z20 z21 z22 : AV) (h : T Blk) (nx : Pa) (R : Ks Prop), Inv m z9 h nx → (∀ (m' : Nat) (w9 w10 w11 w12 w13 w18 w19 w20 w21 w22 : AV) (h' : T Blk) (nx' : Pa), m' < m → Inv m' w9 h' nx' → R (F31.fr x0 x1 x2 x3 x4 x5 x6 x7 x8 w9 w10 w11 w12 w13 x14 x15 x16 x17 w18 w19 w20 w21 w22) h' nx' = .ok True) →
   (sNext C x17 h nx fun v1 h2 n3 =>
 sExt 0 v1 fun v4 =>
 zJ v4 (sEntry x17 h2 fun v5 =>
 sExt 0 v5 fun v6 =>
 sExt 1 v5 fun v7 =>
 gG zU h2 n3 fun v8 h9 n10 =>
 yU 128 v8 v6 h9 n10 fun v11 h12 n13 =>
 gG zU h12 n13 fun v14 h15 n16 =>
 zM 1 x3 fun v17 =>
 zE v17 h15 fun v18 =>
 sLen v18 fun v19 =>
 IR.run F31.b9 C N (((fnO F31.res K0).blk 0 K).blk 1 R) (IR.run F31.b17 C N (((fnO F31.res K0).blk 0 K).blk 1 R) R) (F31.fr x0 x1 x2 x3 x4 x5 x6 x7 x8 z9 v8 v7 v14 z13 x14 x15 x16 x17 v4 v19 (I 0) z21 z22) h15 n16) (K (F31.fr x0 x1 x2 x3 x4 x5 x6 x7 x8 z9 z10 z11 z12 z13 x14 x15 x16 x17 v4 z19 z20 z21 z22) h2 n3)) = .ok True) :
  IR.run F31.b4 C N (fnO F31.res K0) K (F31.fr x0 x1 x2 x3 x4 x5 x6 x7 x8 x9 x10 x11 x12 x13 x14 x15 x16 x17 x18 x19 x20 x21 x22) h nx = .ok True := by
 rw [F31.b4, F31.g4_eq, F31.b5]
 refine yL (fun m tm h nx => ∃ z9 z10 z11 z12 z13 z18 z19 z20 z21 z22, tm = (F31.fr x0 x1 x2 x3 x4 x5 x6 x7 x8 z9 z10 z11 z12 z13 x14 x15 x16 x17 z18 z19 z20 z21 z22) ∧ Inv m z9 h nx) ?_ hm ⟨_, _, _, _, _, _, _, _, _, _, rfl, hi⟩
 rintro m tm h nx R ⟨z9, z10, z11, z12, z13, z18, z19, z20, z21, z22, rfl, hi⟩ hR
 rw [F31.e4]
 exact step m z9 z10 z11 z12 z13 z18 z19 z20 z21 z22 h nx R hi fun m' w9 w10 w11 w12 w13 w18 w19 w20 w21 w22 h' nx' hlt hi' => hR m' _ h' nx' hlt ⟨_, _, _, _, _, _, _, _, _, _, rfl, hi'⟩
theorem F31.k18 : IR.run F31.b18 C N (fnO F31.res K0) K (F31.fr x0 x1 x2 x3 x4 x5 x6 x7 x8 x9 x10 x11 x12 x13 x14 x15 x16 x17 x18 x19 x20 x21 x22) h nx =
 K0 (.tup [x9, (I 0)]) h nx := by kernel_rfl
theorem F31.e9 {E0 E1 : Ks Prop} : IR.run F31.b11 C N ((((fnO F31.res K0).blk 0 E0).blk 1 E1).blk 2 K) R (F31.fr x0 x1 x2 x3 x4 x5 x6 x7 x8 x9 x10 x11 x12 x13 x14 x15 x16 x17 x18 x19 x20 x21 x22) h nx =
 sBin .lss .int x20 x19 fun v1 =>
 zJ v1 (gT 1 128 x10 x20 fun v2 =>
 zE v2 h fun v3 =>
 sConv .i64 v3 fun v4 =>
 sBin .gtr .int v4 x2 fun v5 =>
 zJ v5 (E1 (F31.fr x0 x1 x2 x3 x4 x5 x6 x7 x8 x9 x10 x11 x12 x20 x14 x15 x16 x17 x18 x19 x20 v1 v5) h nx) (sConv .u8 x2 fun v6 =>
 gT 1 128 x10 x20 fun v7 =>
 zE v7 h fun v8 =>
 sBin .sub .int v6 v8 fun v9 =>
 gT 1 128 x12 x20 fun v10 =>
 yU 1 v10 v9 h nx fun v11 h12 n13 =>
 sBin .add .int x20 (I 1) fun v14 =>
 R (F31.fr x0 x1 x2 x3 x4 x5 x6 x7 x8 x9 x10 x11 x12 x20 x14 x15 x16 x17 x18 x19 v14 v1 v5) h12 n13)) (K (F31.fr x0 x1 x2 x3 x4 x5 x6 x7 x8 x9 x10 x11 x12 x13 x14 x15 x16 x17 x18 x19 x20 v1 x22) h nx) := by kernel_rfl
theorem F31.L9 {E0 E1 : Ks Prop} (Inv : Nat → AV → T Blk → Pa → Prop) {m : Nat} (hm : m < N) (hi : Inv m x20 h nx)
  (step : ∀ (m : Nat) (z13 z20 z21 z22 : AV) (h : T Blk) (nx : Pa) (R : Ks Prop), Inv m z20 h nx → (∀ (m' : Nat) (w13 w20 w21 w22 : AV) (h' : T Blk) (nx' : Pa), m' < m → Inv m' w20 h' nx' → R (F31.fr x0 x1 x2 x3 x4 x5 x6 x7 x8 x9 x10 x11 x12 w13 x14 x15 x16 x17 x18 x19 w20 w21 w22) h' nx' = .ok True) →
   (sBin .lss .int z20 x19 fun v1 =>
 zJ v1 (gT 1 128 x10 z20 fun v2 =>
 zE v2 h fun v3 =>
 sConv .i64 v3 fun v4 =>
 sBin .gtr .int v4 x2 fun v5 =>
 zJ v5 (E1 (F31.fr x0 x1 x2 x3 x4 x5 x6 x7 x8 x9 x10 x11 x12 z20 x14 x15 x16 x17 x18 x19 z20 v1 v5) h nx) (sConv .u8 x2 fun v6 =>
 gT 1 128 x10 z20 fun v7 =>
 zE v7 h fun v8 =>
 sBin .sub .int v6 v8 fun v9 =>
 gT 1 128 x12 z20 fun v10 =>
 yU 1 v10 v9 h nx fun v11 h12 n13 =>
 sBin .add .int z20 (I 1) fun v14 =>
 R (F31.fr x0 x1 x2 x3 x4 x5 x6 x7 x8 x9 x10 x11 x12 z20 x14 x15 x16 x17 x18 x19 v14 v1 v5) h12 n13)) (K (F31.fr x0 x1 x2 x3 x4 x5 x6 x7 x8 x9 x10 x11 x12 z13 x14 x15 x16 x17 x18 x19 z20 v1 z22) h nx)) = .ok True) :
  IR.run F31.b9 C N (((fnO F31.res K0).blk 0 E0).blk 1 E1) K (F31.fr x0 x1 x2 x3 x4 x5 x6 x7 x8 x9 x10 x11 x12 x13 x14 x15 x16 x17 x18 x19 x20 x21 x22) h nx = .ok True := by
 rw [F31.b9, F31.g9_eq, F31.b10]
 refine yL (fun m tm h nx => ∃ z13 z20 z21 z22, tm = (F31.fr x0 x1 x2 x3 x4 x5 x6 x7 x8 x9 x10 x11 x12 z13 x14 x15 x16 x17 x18 x19 z20 z21 z22) ∧ Inv m z20 h nx) ?_ hm ⟨_, _, _, _, rfl, hi⟩
 rintro m tm h nx R ⟨z13, z20, z21, z22, rfl, hi⟩ hR
 rw [F31.e9]
 exact step m z13 z20 z21 z22 h nx R hi fun m' w13 w20 w21 w22 h' nx' hlt hi' => hR m' _ h' nx' hlt ⟨_, _, _, _, rfl, hi'⟩
theorem F31.k17 {E0 E1 : Ks Prop} : IR.run F31.b17 C N (((fnO F31.res K0).blk 0 E0).blk 1 E1) K (F31.fr x0 x1 x2 x3 x4 x5 x6 x7 x8 x9 x10 x11 x12 x13 x14 x15 x16 x17 x18 x19 x20 x21 x22) h nx =
 jG 128 x12 h fun v1 =>
 sLook (.agg 128) (I 0) false x8 v1 h fun v2 =>
 sBin .mul .int x11 v2 fun v3 =>
 sBin .add .int x9 v3 fun v4 =>
 K (F31.fr x0 x1 x2 x3 x4 x5 x6 x7 x8 v4 x10 x11 x12 x13 x14 x15 x16 x17 x18 x19 x20 x21 x22) h nx := by kernel_rfl
end Go.Ev
namespace Go.Ev
open Go Go.Proofs
set_option maxRecDepth 100000
variable {N : Nat} {C : Calls Prop} {K0 : Kw Prop} {K R : Ks Prop} {h : T Blk} {nx : Pa} {x0 x1 x2 x3 x4 x5 x6 x7 x8 a0 a1 : AV}
theorem F149.tab : T.get none (.of 149) tbl = some F149 := by kernel_rfl
theorem F149.go : yJ tbl N C (.of 149) [a0, a1] h nx K0 =
 zE a1 h fun v1 =>
 C.fn 150 (.of 150) [a0, v1] h nx fun v2 h3 n4 =>
 K0 v2 h3 n4 := by
 rw [zW F149.tab]; kernel_rfl
theorem F148.tab : T.get none (.of 148) tbl = some F148 := by kernel_rfl
theorem F148.go : yJ tbl N C (.of 148) [a0, a1] h nx K0 =
 C.fn 172 (.of 172) [a0, a1] h nx fun v1 h2 n3 =>
 sBin .geq .int v1 (I 0) fun v4 =>
 K0 v4 h2 n3 := by
 rw [zW F148.tab]; kernel_rfl
theorem F172.g1_eq (X2 : IR) (C : Calls Prop) (N : Nat) (O : Outs Prop) (K : Ks Prop) (x0 x1 x2 x3 x4 x5 x6 x7 : AV) (h : T Blk) (nx : Pa) : IR.run (F172.g1 X2) C N O K (F172.fr x0 x1 x2 x3 x4 x5 x6 x7) h nx =
 IR.run X2 C N (O.blk 0 K) K (F172.fr x0 x1 x2 x3 x4 x5 x6 x7) h nx := by kernel_rfl
theorem F172.tab : T.get none (.of 172) tbl = some F172 := by kernel_rfl
theorem F172.go : yJ tbl N C (.of 172) [a0, a1] h nx K0 =
 sLen a0 fun v1 =>
 IR.run F172.b1 C N (fnO F172.res K0) (IR.run F172.b8 C N (fnO F172.res K0) (retK F172.res K0)) (F172.fr a0 a1 (I 0) .undef v1 (I 0) .undef .undef) h nx := by
 rw [zW F172.tab]; kernel_rfl
theorem F172.e1 : IR.run F172.b3 C N ((fnO F172.res K0).blk 0 K) R (F172.fr x0 x1 x2 x3 x4 x5 x6 x7) h nx =
 sBin .lss .int x5 x4 fun v1 =>
 zJ v1 (zK 1 x0 x5 fun v2 =>
 zE v2 h fun v3 =>
 sCall C x1 [v3] h nx fun v4 h5 n6 =>
 zJ v4 (K0 x5 h5 n6) (sBin .add .int x5 (I 1) fun v7 =>
 R (F172.fr x0 x1 x2 x5 x4 v7 v1 v4) h5 n6)) (K (F172.fr x0 x1 x2 x3 x4 x5 v1 x7) h nx) := by kernel_rfl
theorem F172.L1 (Inv : Nat → AV → T Blk → Pa → Prop) {m : Nat} (hm : m < N) (hi : Inv m x5 h nx)
  (step : ∀ (m : Nat) (z2 z3 z5 z6 z7 : AV) (h : T Blk) (nx : Pa) (R : Ks Prop), Inv m z5 h nx → (∀ (m' : Nat) (w2 w3 w5 w6 w7 : AV) (h' : T Blk) (nx' : Pa), m' < m → Inv m' w5 h' nx' → R (F172.fr x0 x1 w2 w3 x4 w5 w6 w7) h' nx' = .ok True) →
   (sBin .lss .int z5 x4 fun v1 =>
 zJ v1 (zK 1 x0 z5 fun v2 =>
 zE v2 h fun v3 =>
 sCall C x1 [v3] h nx fun v4 h5 n6 =>
 zJ v4 (K0 z5 h5 n6) (sBin .add .int z5 (I 1) fun v7 =>
 R (F172.fr x0 x1 z2 z5 x4 v7 v1 v4) h5 n6)) (K (F172.fr x0 x1 z2 z3 x4 z5 v1 z7) h nx)) = .ok True) :
  IR.run F172.b1 C N (fnO F172.res K0) K (F172.fr x0 x1 x2 x3 x4 x5 x6 x7) h nx = .ok True := by
 rw [F172.b1, F172.g1_eq, F172.b2]
 refine yL (fun m tm h nx => ∃ z2 z3 z5 z6 z7, tm = (F172.fr x0 x1 z2 z3 x4 z5 z6 z7) ∧ Inv m z5 h nx) ?_ hm ⟨_, _, _, _, _, rfl, hi⟩
 rintro m tm h nx R ⟨z2, z3, z5, z6, z7, rfl, hi⟩ hR
 rw [F172.e1]
 exact step m z2 z3 z5 z6 z7 h nx R hi fun m' w2 w3 w5 w6 w7 h' nx' hlt hi' => hR m' _ h' nx' hlt ⟨_, _, _, _, _, rfl, hi'⟩
theorem F172.k8 : IR.run F172.b8 C N (fnO F172.res K0) K (F172.fr x0 x1 x2 x3 x4 x5 x6 x7) h nx =
 K0 (I (-1)) h nx := by kernel_rfl
theorem F150.g2_eq (X3 : IR) (C : Calls Prop) (N : Nat) (O : Outs Prop) (K : Ks Prop) (x0 x1 x2 x3 x4 x5 x6 x7 x8 : AV) (h : T Blk) (nx : Pa) : IR.run (F150.g2 X3) C N O K (F150.fr x0 x1 x2 x3 x4 x5 x6 x7 x8) h nx =
 IR.run X3 C N (O.blk 0 K) K (F150.fr x0 x1 x2 x3 x4 x5 x6 x7 x8) h nx := by kernel_rfl
theorem F150.tab : T.get none (.of 150) tbl = some F150 := by kernel_rfl
theorem F150.go : yJ tbl N C (.of 150) [a0, a1] h nx K0 =
 sLen a0 fun v1 =>
 sLen a1 fun v2 =>
 sBin .neq .int v1 v2 fun v3 =>
 zJ v3 (K0 (.bool false) h nx) (sLen a0 fun v4 =>
 IR.run F150.b2 C N (fnO F150.res K0) (IR.run F150.b9 C N (fnO F150.res K0) (retK F150.res K0)) (F150.fr a0 a1 (.bool false) .undef v3 v4 (I 0) .undef .undef) h nx) := by
 rw [zW F150.tab]; kernel_rfl
theorem F150.e2 : IR.run F150.b4 C N ((fnO F150.res K0).blk 0 K) R (F150.fr x0 x1 x2 x3 x4 x5 x6 x7 x8) h nx =
 sBin .lss .int x6 x5 fun v1 =>
 zJ v1 (zK 1 x0 x6 fun v2 =>
 zE v2 h fun v3 =>
 zK 1 x1 x6 fun v4 =>
 zE v4 h fun v5 =>
 sBin .neq .int v3 v5 fun v6 =>
 zJ v6 (K0 (.bool false) h nx) (sBin .add .int x6 (I 1) fun v7 =>
 R (F150.fr x0 x1 x2 x6 x4 x5 v7 v1 v6) h nx)) (K (F150.fr x0 x1 x2 x3 x4 x5 x6 v1 x8) h nx) := by kernel_rfl
theorem F150.L2 (Inv : Nat → AV → T Blk → Pa → Prop) {m : Nat} (hm : m < N) (hi : Inv m x6 h nx)
  (step : ∀ (m : Nat) (z2 z3 z6 z7 z8 : AV) (h : T Blk) (nx : Pa) (R : Ks Prop), Inv m z6 h nx → (∀ (m' : Nat) (w2 w3 w6 w7 w8 : AV) (h' : T Blk) (nx' : Pa), m' < m → Inv m' w6 h' nx' → R (F150.fr x0 x1 w2 w3 x4 x5 w6 w7 w8) h' nx' = .ok True) →
   (sBin .lss .int z6 x5 fun v1 =>
 zJ v1 (zK 1 x0 z6 fun v2 =>
 zE v2 h fun v3 =>
 zK 1 x1 z6 fun v4 =>
 zE v4 h fun v5 =>
 sBin .neq .int v3 v5 fun v6 =>
 zJ v6 (K0 (.bool false) h nx) (sBin .add .int z6 (I 1) fun v7 =>
 R (F150.fr x0 x1 z2 z6 x4 x5 v7 v1 v6) h nx)) (K (F150.fr x0 x1 z2 z3 x4 x5 z6 v1 z8) h nx)) = .ok True) :
  IR.run F150.b2 C N (fnO F150.res K0) K (F150.fr x0 x1 x2 x3 x4 x5 x6 x7 x8) h nx = .ok True := by
 rw [F150.b2, F150.g2_eq, F150.b3]
 refine yL (fun m tm h nx => ∃ z2 z3 z6 z7 z8, tm = (F150.fr x0 x1 z2 z3 x4 x5 z6 z7 z8) ∧ Inv m z6 h nx) ?_ hm ⟨_, _, _, _, _, rfl, hi⟩
 rintro m tm h nx R ⟨z2, z3, z6, z7, z8, rfl, hi⟩ hR
 rw [F150.e2]
 exact step m z2 z3 z6 z7 z8 h nx R hi fun m' w2 w3 w6 w7 w8 h' nx' hlt hi' => hR m' _ h' nx' hlt ⟨_, _, _, _, _, rfl, hi'⟩
theorem F150.k9 : IR.run F150.b9 C N (fnO F150.res K0) K (F150.fr x0 x1 x2 x3 x4 x5 x6 x7 x8) h nx =
 K0 (.bool true) h nx := by kernel_rfl
theorem F84.g1_eq (X2 : IR) (C : Calls Prop) (N : Nat) (O : Outs Prop) (K : Ks Prop) (x0 x1 x2 x3 x4 x5 : AV) (h : T Blk) (nx : Pa) : IR.run (F84.g1 X2) C N O K (F84.fr x0 x1 x2 x3 x4 x5) h nx =
 IR.run X2 C N (O.blk 0 K) K (F84.fr x0 x1 x2 x3 x4 x5) h nx := by kernel_rfl
theorem F84.tab : T.get none (.of 84) tbl = some F84 := by kernel_rfl
theorem F84.go : yJ tbl N C (.of 84) [a0, a1] h nx K0 =
 IR.run F84.b1 C N (fnO F84.res K0) (IR.run F84.b8 C N (fnO F84.res K0) (retK F84.res K0)) (F84.fr a0 a1 (.bool false) (I 0) .undef .undef) h nx := by
 rw [zW F84.tab]; kernel_rfl
theorem F84.e1 : IR.run F84.b3 C N ((fnO F84.res K0).blk 0 K) R (F84.fr x0 x1 x2 x3 x4 x5) h nx =
 sLen x0 fun v1 =>
 sBin .lss .int x3 v1 fun v2 =>
 zJ v2 (zK 1 x0 x3 fun v3 =>
 zE v3 h fun v4 =>
 C.fn 35 (.of 35) [v4, x1] h nx fun v5 h6 n7 =>
 zJ v5 (K0 (.bool true) h6 n7) (sBin .add .int x3 (I 1) fun v8 =>
 R (F84.fr x0 x1 x2 v8 v2 v5) h6 n7)) (K (F84.fr x0 x1 x2 x3 v2 x5) h nx) := by kernel_rfl
theorem F84.L1 (Inv : Nat → AV → T Blk → Pa → Prop) {m : Nat} (hm : m < N) (hi : Inv m x3 h nx)
  (step : ∀ (m : Nat) (z2 z3 z4 z5 : AV) (h : T Blk) (nx : Pa) (R : Ks Prop), Inv m z3 h nx → (∀ (m' : Nat) (w2 w3 w4 w5 : AV) (h' : T Blk) (nx' : Pa), m' < m → Inv m' w3 h' nx' → R (F84.fr x0 x1 w2 w3 w4 w5) h' nx' = .ok True) →
   (sLen x0 fun v1 =>
 sBin .lss .int z3 v1 fun v2 =>
 zJ v2 (zK 1 x0 z3 fun v3 =>
 zE v3 h fun v4 =>
 C.fn 35 (.of 35) [v4, x1] h nx fun v5 h6 n7 =>
 zJ v5 (K0 (.bool true) h6 n7) (sBin .add .int z3 (I 1) fun v8 =>
 R (F84.fr x0 x1 z2 v8 v2 v5) h6 n7)) (K (F84.fr x0 x1 z2 z3 v2 z5) h nx)) = .ok True) :
  IR.run F84.b1 C N (fnO F84.res K0) K (F84.fr x0 x1 x2 x3 x4 x5) h nx = .ok True := by
 rw [F84.b1, F84.g1_eq, F84.b2]
 refine yL (fun m tm h nx => ∃ z2 z3 z4 z5, tm = (F84.fr x0 x1 z2 z3 z4 z5) ∧ Inv m z3 h nx) ?_ hm ⟨_, _, _, _, rfl, hi⟩
 rintro m tm h nx R ⟨z2, z3, z4, z5, rfl, hi⟩ hR
 rw [F84.e1]
 exact step m z2 z3 z4 z5 h nx R hi fun m' w2 w3 w4 w5 h' nx' hlt hi' => hR m' _ h' nx' hlt ⟨_, _, _, _, rfl, hi'⟩
theorem F84.k8 : IR.run F84.b8 C N (fnO F84.res K0) K (F84.fr x0 x1 x2 x3 x4 x5) h nx =
 K0 (.bool false) h nx := by kernel_rfl
theorem F121.g1_eq (X2 : IR) (C : Calls Prop) (N : Nat) (O : Outs Prop) (K : Ks Prop) (x0 x1 x2 x3 x4 x5 x6 x7 : AV) (h : T Blk) (nx : Pa) : IR.run (F121.g1 X2) C N O K (F121.fr x0 x1 x2 x3 x4 x5 x6 x7) h nx =
 IR.run X2 C N (O.blk 0 K) K (F121.fr x0 x1 x2 x3 x4 x5 x6 x7) h nx := by kernel_rfl
theorem F121.tab : T.get none (.of 121) tbl = some F121 := by kernel_rfl
theorem F121.go : yJ tbl N C (.of 121) [a0] h nx K0 =
 sLen a0 fun v1 =>
 IR.run F121.b1 C N (fnO F121.res K0) (IR.run F121.b8 C N (fnO F121.res K0) (retK F121.res K0)) (F121.fr a0 (I 0) .undef a0 v1 (I 0) .undef .undef) h nx := by
 rw [zW F121.tab]; kernel_rfl
theorem F121.e1 : IR.run F121.b3 C N ((fnO F121.res K0).blk 0 K) R (F121.fr x0 x1 x2 x3 x4 x5 x6 x7) h nx =
 sBin .lss .int x5 x4 fun v1 =>
 zJ v1 (zK 1 x3 x5 fun v2 =>
 zE v2 h fun v3 =>
 sBin .neq .int v3 (I 0) fun v4 =>
 zJ v4 (K0 v3 h nx) (sBin .add .int x5 (I 1) fun v5 =>
 R (F121.fr x0 x1 v3 x3 x4 v5 v1 v4) h nx)) (K (F121.fr x0 x1 x2 x3 x4 x5 v1 x7) h nx) := by kernel_rfl
theorem F121.L1 (Inv : Nat → AV → T Blk → Pa → Prop) {m : Nat} (hm : m < N) (hi : Inv m x5 h nx)
  (step : ∀ (m : Nat) (z1 z2 z5 z6 z7 : AV) (h : T Blk) (nx : Pa) (R : Ks Prop), Inv m z5 h nx → (∀ (m' : Nat) (w1 w2 w5 w6 w7 : AV) (h' : T Blk) (nx' : Pa), m' < m → Inv m' w5 h' nx' → R (F121.fr x0 w1 w2 x3 x4 w5 w6 w7) h' nx' = .ok True) →
   (sBin .lss .int z5 x4 fun v1 =>
 zJ v1 (zK 1 x3 z5 fun v2 =>
 zE v2 h fun v3 =>
 sBin .neq .int v3 (I 0) fun v4 =>
 zJ v4 (K0 v3 h nx) (sBin .add .int z5 (I 1) fun v5 =>
 R (F121.fr x0 z1 v3 x3 x4 v5 v1 v4) h nx)) (K (F121.fr x0 z1 z2 x3 x4 z5 v1 z7) h nx)) = .ok True) :
  IR.run F121.b1 C N (fnO F121.res K0) K (F121.fr x0 x1 x2 x3 x4 x5 x6 x7) h nx = .ok True := by
 rw [F121.b1, F121.g1_eq, F121.b2]
 refine yL (fun m tm h nx => ∃ z1 z2 z5 z6 z7, tm = (F121.fr x0 z1 z2 x3 x4 z5 z6 z7) ∧ Inv m z5 h nx) ?_ hm ⟨_, _, _, _, _, rfl, hi⟩
 rintro m tm h nx R ⟨z1, z2, z5, z6, z7, rfl, hi⟩ hR
 rw [F121.e1]
 exact step m z1 z2 z5 z6 z7 h nx R hi fun m' w1 w2 w5 w6 w7 h' nx' hlt hi' => hR m' _ h' nx' hlt ⟨_, _, _, _, _, rfl, hi'⟩
theorem F121.k8 : IR.run F121.b8 C N (fnO F121.res K0) K (F121.fr x0 x1 x2 x3 x4 x5 x6 x7) h nx =
 K0 (I 0) h nx := by kernel_rfl
theorem F123.tab : T.get none (.of 123) tbl = some F123 := by kernel_rfl
theorem F123.go : yJ tbl N C (.of 123) [a0, a1] h nx K0 =
 zJ a0 (K0 a1 h nx) (K0 (I 0) h nx) := by
 rw [zW F123.tab]; kernel_rfl
end Go.Ev
namespace Go.Ev
open Go Go.Proofs
set_option maxRecDepth 100000
variable {N : Nat} {C : Calls Prop} {K0 : Kw Prop} {K R : Ks Prop} {h : T Blk} {nx : Pa} {x0 x1 x2 x3 x4 x5 x6 x7 x8 a0 a1 a2 : AV}
theorem F25.g2_eq (X3 : IR) (C : Calls Prop) (N : Nat) (O : Outs Prop) (K : Ks Prop) (x0 x1 x2 x3 x4 x5 x6 x7 x8 : AV) (h : T Blk) (nx : Pa) : IR.run (F25.g2 X3) C N O K (F25.fr x0 x1 x2 x3 x4 x5 x6 x7 x8) h nx =
 IR.run X3 C N (O.blk 0 K) K (F25.fr x0 x1 x2 x3 x4 x5 x6 x7 x8) h nx := by kernel_rfl
theorem F25.tab : T.get none (.of 25) tbl = some F25 := by kernel_rfl
theorem F25.go : yJ tbl N C (.of 25) [a0, a1, a2] h nx K0 =
 sBox a0 h nx fun v1 h2 n3 =>
 zM 1 v1 fun v4 =>
 zE v4 h2 fun v5 =>
 sLen v5 fun v6 =>
 sBin .gtr .int v6 a2 fun v7 =>
 zJ v7 (K0 (.bool false) h2 n3) (IR.run F25.b2 C N (fnO F25.res K0) (IR.run F25.b9 C N (fnO F25.res K0) (retK F25.res K0)) (F25.fr a0 a1 a2 v1 (.bool false) (I 0) v7 .undef .undef) h2 n3) := by
 rw [zW F25.tab]; kernel_rfl
theorem F25.e2 : IR.run F25.b4 C N ((fnO F25.res K0).blk 0 K) R (F25.fr x0 x1 x2 x3 x4 x5 x6 x7 x8) h nx =
 zM 1 x3 fun v1 =>
 zE v1 h fun v2 =>
 sLen v2 fun v3 =>
 sBin .lss .int x5 v3 fun v4 =>
 zJ v4 (zM 1 x3 fun v5 =>
 zE v5 h fun v6 =>
 zK 1 v6 x5 fun v7 =>
 zE v7 h fun v8 =>
 sLen v8 fun v9 =>
 sBin .gtr .int v9 x1 fun v10 =>
 zJ v10 (K0 (.bool false) h nx) (sBin .add .int x5 (I 1) fun v11 =>
 R (F25.fr x0 x1 x2 x3 x4 v11 x6 v4 v10) h nx)) (K (F25.fr x0 x1 x2 x3 x4 x5 x6 v4 x8) h nx) := by kernel_rfl
theorem F25.L2 (Inv : Nat → AV → T Blk → Pa → Prop) {m : Nat} (hm : m < N) (hi : Inv m x5 h nx)
  (step : ∀ (m : Nat) (z4 z5 z7 z8 : AV) (h : T Blk) (nx : Pa) (R : Ks Prop), Inv m z5 h nx → (∀ (m' : Nat) (w4 w5 w7 w8 : AV) (h' : T Blk) (nx' : Pa), m' < m → Inv m' w5 h' nx' → R (F25.fr x0 x1 x2 x3 w4 w5 x6 w7 w8) h' nx' = .ok True) →
   (zM 1 x3 fun v1 =>
 zE v1 h fun v2 =>
 sLen v2 fun v3 =>
 sBin .lss .int z5 v3 fun v4 =>
 zJ v4 (zM 1 x3 fun v5 =>
 zE v5 h fun v6 =>
 zK 1 v6 z5 fun v7 =>
 zE v7 h fun v8 =>
 sLen v8 fun v9 =>
 sBin .gtr .int v9 x1 fun v10 =>
 zJ v10 (K0 (.bool false) h nx) (sBin .add .int z5 (I 1) fun v11 =>
 R (F25.fr x0 x1 x2 x3 z4 v11 x6 v4 v10) h nx)) (K (F25.fr x0 x1 x2 x3 z4 z5 x6 v4 z8) h nx)) = .ok True) :
  IR.run F25.b2 C N (fnO F25.res K0) K (F25.fr x0 x1 x2 x3 x4 x5 x6 x7 x8) h nx = .ok True := by
 rw [F25.b2, F25.g2_eq, F25.b3]
 refine yL (fun m tm h nx => ∃ z4 z5 z7 z8, tm = (F25.fr x0 x1 x2 x3 z4 z5 x6 z7 z8) ∧ Inv m z5 h nx) ?_ hm ⟨_, _, _, _, rfl, hi⟩
 rintro m tm h nx R ⟨z4, z5, z7, z8, rfl, hi⟩ hR
 rw [F25.e2]
 exact step m z4 z5 z7 z8 h nx R hi fun m' w4 w5 w7 w8 h' nx' hlt hi' => hR m' _ h' nx' hlt ⟨_, _, _, _, rfl, hi'⟩
theorem F25.k9 : IR.run F25.b9 C N (fnO F25.res K0) K (F25.fr x0 x1 x2 x3 x4 x5 x6 x7 x8) h nx =
 K0 (.bool true) h nx := by kernel_rfl
end Go.Ev
namespace Go.Ev
open Go Go.Proofs
set_option maxRecDepth 100000
variable {N : Nat} {C : Calls Prop} {K0 : Kw Prop} {K R : Ks Prop} {h : T Blk} {nx : Pa} {x0 x1 x2 x3 x4 x5 x6 x7 x8 x9 x10 x11 x12 x13 a0 : AV}
theorem F27.g10_eq (X11 : IR) (C : Calls Prop) (N : Nat) (O : Outs Prop) (K : Ks Prop) (x0 x1 x2 x3 x4 x5 x6 x7 x8 x9 x10 x11 x12 x13 : AV) (h : T Blk) (nx : Pa) : IR.run (F27.g10 X11) C N O K (F27.fr x0 x1 x2 x3 x4 x5 x6 x7 x8 x9 x10 x11 x12 x13) h nx =
 IR.run X11 C N (O.blk 2 K) K (F27.fr x0 x1 x2 x3 x4 x5 x6 x7 x8 x9 x10 x11 x12 x13) h nx := by kernel_rfl
theorem F27.g3_eq (X4 : IR) (C : Calls Prop) (N : Nat) (O : Outs Prop) (K : Ks Prop) (x0 x1 x2 x3 x4 x5 x6 x7 x8 x9 x10 x11 x12 x13 : AV) (h : T Blk) (nx : Pa) : IR.run (F27.g3 X4) C N O K (F27.fr x0 x1 x2 x3 x4 x5 x6 x7 x8 x9 x10 x11 x12 x13) h nx =
 IR.run X4 C N (O.blk 0 K) K (F27.fr x0 x1 x2 x3 x4 x5 x6 x7 x8 x9 x10 x11 x12 x13) h nx := by kernel_rfl
theorem F27.tab : T.get none (.of 27) tbl = some F27 := by kernel_rfl
theorem F27.go : yJ tbl N C (.of 27) [a0] h nx K0 =
 sBox a0 h nx fun v1 h2 n3 =>
 zM 0 v1 fun v4 =>
 zE v4 h2 fun v5 =>
 sBin .lss .int v5 (I 1) fun v6 =>
 sG v6 false (fun k => zM 0 v1 k) fun v7 =>
 sG v6 false (fun k => zE v7 h2 k) fun v8 =>
 sG v6 false (fun k => sBin .gtr .int v8 (I 256) k) fun v9 =>
 yV v6 (.bool true) v9 fun v10 =>
 zJ v10 (K0 (I 3) h2 n3) (zM 1 v1 fun v11 =>
 zE v11 h2 fun v12 =>
 sLen v12 fun v13 =>
 sBin .gtr .int v13 (I 128) fun v14 =>
 zJ v14 (K0 (I 5) h2 n3) (IR.run F27.b3 C N (fnO F27.res K0) (IR.run F27.b20 C N (fnO F27.res K0) (retK F27.res K0)) (F27.fr a0 v1 (I 0) (I 0) .undef .undef v10 v14 .undef .undef .undef .undef .undef .undef) h2 n3)) := by
 rw [zW F27.tab]; kernel_rfl
theorem F27.e3 : IR.run F27.b5 C N ((fnO F27.res K0).blk 0 K) R (F27.fr x0 x1 x2 x3 x4 x5 x6 x7 x8 x9 x10 x11 x12 x13) h nx =
 zM 1 x1 fun v1 =>
 zE v1 h fun v2 =>
 sLen v2 fun v3 =>
 sBin .lss .int x3 v3 fun v4 =>
 zJ v4 (zM 1 x1 fun v5 =>
 zE v5 h fun v6 =>
 zK 1 v6 x3 fun v7 =>
 zE v7 h fun v8 =>
 sLen v8 fun v9 =>
 sBin .eql .int v9 (I 0) fun v10 =>
 zJ v10 (K0 (I 12) h nx) (IR.run F27.b10 C N (((fnO F27.res K0).blk 0 K).blk 1 (IR.run F27.b19 C N ((fnO F27.res K0).blk 0 K) R)) (IR.run F27.b18 C N (((fnO F27.res K0).blk 0 K).blk 1 (IR.run F27.b19 C N ((fnO F27.res K0).blk 0 K) R)) (IR.run F27.b19 C N ((fnO F27.res K0).blk 0 K) R)) (F27.fr x0 x1 x2 x3 v8 (I 0) x6 x7 v4 v10 x10 x11 x12 x13) h nx)) (K (F27.fr x0 x1 x2 x3 x4 x5 x6 x7 v4 x9 x10 x11 x12 x13) h nx) := by kernel_rfl
theorem F27.L3 (Inv : Nat → AV → T Blk → Pa → Prop) {m : Nat} (hm : m < N) (hi : Inv m x3 h nx)
  (step : ∀ (m : Nat) (z2 z3 z4 z5 z8 z9 z10 z11 z12 z13 : AV) (h : T Blk) (nx : Pa) (R : Ks Prop), Inv m z3 h nx → (∀ (m' : Nat) (w2 w3 w4 w5 w8 w9 w10 w11 w12 w13 : AV) (h' : T Blk) (nx' : Pa), m' < m → Inv m' w3 h' nx' → R (F27.fr x0 x1 w2 w3 w4 w5 x6 x7 w8 w9 w10 w11 w12 w13) h' nx' = .ok True) →
   (zM 1 x1 fun v1 =>
 zE v1 h fun v2 =>
 sLen v2 fun v3 =>
 sBin .lss .int z3 v3 fun v4 =>
 zJ v4 (zM 1 x1 fun v5 =>
 zE v5 h fun v6 =>
 zK 1 v6 z3 fun v7 =>
 zE v7 h fun v8 =>
 sLen v8 fun v9 =>
 sBin .eql .int v9 (I 0) fun v10 =>
 zJ v10 (K0 (I 12) h nx) (IR.run F27.b10 C N (((fnO F27.res K0).blk 0 K).blk 1 (IR.run F27.b19 C N ((fnO F27.res K0).blk 0 K) R)) (IR.run F27.b18 C N (((fnO F27.res K0).blk 0 K).blk 1 (IR.run F27.b19 C N ((fnO F27.res K0).blk 0 K) R)) (IR.run F27.b19 C N ((fnO F27.res K0).blk 0 K) R)) (F27.fr x0 x1 z2 z3 v8 (I 0) x6 x7 v4 v10 z10 z11 z12 z13) h nx)) (K (F27.fr x0 x1 z2 z3 z4 z5 x6 x7 v4 z9 z10 z11 z12 z13) h nx)) = .ok True) :
  IR.run F27.b3 C N (fnO F27.res K0) K (F27.fr x0 x1 x2 x3 x4 x5 x6 x7 x8 x9 x10 x11 x12 x13) h nx = .ok True := by
 rw [F27.b3, F27.g3_eq, F27.b4]
 refine yL (fun m tm h nx => ∃ z2 z3 z4 z5 z8 z9 z10 z11 z12 z13, tm = (F27.fr x0 x1 z2 z3 z4 z5 x6 x7 z8 z9 z10 z11 z12 z13) ∧ Inv m z3 h nx) ?_ hm ⟨_, _, _, _, _, _, _, _, _, _, rfl, hi⟩
 rintro m tm h nx R ⟨z2, z3, z4, z5, z8, z9, z10, z11, z12, z13, rfl, hi⟩ hR
 rw [F27.e3]
 exact step m z2 z3 z4 z5 z8 z9 z10 z11 z12 z13 h nx R hi fun m' w2 w3 w4 w5 w8 w9 w10 w11 w12 w13 h' nx' hlt hi' => hR m' _ h' nx' hlt ⟨_, _, _, _, _, _, _, _, _, _, rfl, hi'⟩
theorem F27.k20 : IR.run F27.b20 C N (fnO F27.res K0) K (F27.fr x0 x1 x2 x3 x4 x5 x6 x7 x8 x9 x10 x11 x12 x13) h nx =
 K0 (I 0) h nx := by kernel_rfl
theorem F27.k19 {E0 : Ks Prop} : IR.run F27.b19 C N ((fnO F27.res K0).blk 0 E0) K (F27.fr x0 x1 x2 x3 x4 x5 x6 x7 x8 x9 x10 x11 x12 x13) h nx =
 sBin .add .int x3 (I 1) fun v1 =>
 K (F27.fr x0 x1 x2 v1 x4 x5 x6 x7 x8 x9 x10 x11 x12 x13) h nx := by kernel_rfl
theorem F27.e10 {E0 E1 : Ks Prop} : IR.run F27.b12 C N ((((fnO F27.res K0).blk 0 E0).blk 1 E1).blk 2 K) R (F27.fr x0 x1 x2 x3 x4 x5 x6 x7 x8 x9 x10 x11 x12 x13) h nx =
 sLen x4 fun v1 =>
 sBin .lss .int x5 v1 fun v2 =>
 zJ v2 (zK 1 x4 x5 fun v3 =>
 zE v3 h fun v4 =>
 sBin .lss .int v4 (I 0) fun v5 =>
 sG v5 false (fun k => k x4) fun v6 =>
 sG v5 false (fun k => k x5) fun v7 =>
 sG v5 false (fun k => zK 1 v6 v7 k) fun v8 =>
 sG v5 false (fun k => zE v8 h k) fun v9 =>
 sG v5 false (fun k => zM 0 x1 k) fun v10 =>
 sG v5 false (fun k => zE v10 h k) fun v11 =>
 sG v5 false (fun k => sBin .geq .int v9 v11 k) fun v12 =>
 yV v5 (.bool true) v12 fun v13 =>
 zJ v13 (K0 (I 10) h nx) ((IR.run F27.b16 C N (((((fnO F27.res K0).blk 0 E0).blk 1 E1).blk 2 K).blk 3 (IR.run F27.b17 C N ((((fnO F27.res K0).blk 0 E0).blk 1 E1).blk 2 K) R)) (IR.run F27.b17 C N ((((fnO F27.res K0).blk 0 E0).blk 1 E1).blk 2 K) R)) (F27.fr x0 x1 x2 x3 x4 x5 x6 x7 x8 x9 v2 v13 x12 x13) h nx)) (K (F27.fr x0 x1 x2 x3 x4 x5 x6 x7 x8 x9 v2 x11 x12 x13) h nx) := by kernel_rfl
theorem F27.L10 {E0 E1 : Ks Prop} (Inv : Nat → AV → T Blk → Pa → Prop) {m : Nat} (hm : m < N) (hi : Inv m x5 h nx)
  (step : ∀ (m : Nat) (z2 z5 z10 z11 z12 : AV) (h : T Blk) (nx : Pa) (R : Ks Prop), Inv m z5 h nx → (∀ (m' : Nat) (w2 w5 w10 w11 w12 : AV) (h' : T Blk) (nx' : Pa), m' < m → Inv m' w5 h' nx' → R (F27.fr x0 x1 w2 x3 x4 w5 x6 x7 x8 x9 w10 w11 w12 x13) h' nx' = .ok True) →
   (sLen x4 fun v1 =>
 sBin .lss .int z5 v1 fun v2 =>
 zJ v2 (zK 1 x4 z5 fun v3 =>
 zE v3 h fun v4 =>
 sBin .lss .int v4 (I 0) fun v5 =>
 sG v5 false (fun k => k x4) fun v6 =>
 sG v5 false (fun k => k z5) fun v7 =>
 sG v5 false (fun k => zK 1 v6 v7 k) fun v8 =>
 sG v5 false (fun k => zE v8 h k) fun v9 =>
 sG v5 false (fun k => zM 0 x1 k) fun v10 =>
 sG v5 false (fun k => zE v10 h k) fun v11 =>
 sG v5 false (fun k => sBin .geq .int v9 v11 k) fun v12 =>
 yV v5 (.bool true) v12 fun v13 =>
 zJ v13 (K0 (I 10) h nx) ((IR.run F27.b16 C N (((((fnO F27.res K0).blk 0 E0).blk 1 E1).blk 2 K).blk 3 (IR.run F27.b17 C N ((((fnO F27.res K0).blk 0 E0).blk 1 E1).blk 2 K) R)) (IR.run F27.b17 C N ((((fnO F27.res K0).blk 0 E0).blk 1 E1).blk 2 K) R)) (F27.fr x0 x1 z2 x3 x4 z5 x6 x7 x8 x9 v2 v13 z12 x13) h nx)) (K (F27.fr x0 x1 z2 x3 x4 z5 x6 x7 x8 x9 v2 z11 z12 x13) h nx)) = .ok True) :
  IR.run F27.b10 C N (((fnO F27.res K0).blk 0 E0).blk 1 E1) K (F27.fr x0 x1 x2 x3 x4 x5 x6 x7 x8 x9 x10 x11 x12 x13) h nx = .ok True := by
 rw [F27.b10, F27.g10_eq, F27.b11]
 refine yL (fun m tm h nx => ∃ z2 z5 z10 z11 z12, tm = (F27.fr x0 x1 z2 x3 x4 z5 x6 x7 x8 x9 z10 z11 z12 x13) ∧ Inv m z5 h nx) ?_ hm ⟨_, _, _, _, _, rfl, hi⟩
 rintro m tm h nx R ⟨z2, z5, z10, z11, z12, rfl, hi⟩ hR
 rw [F27.e10]
 exact step m z2 z5 z10 z11 z12 h nx R hi fun m' w2 w5 w10 w11 w12 h' nx' hlt hi' => hR m' _ h' nx' hlt ⟨_, _, _, _, _, rfl, hi'⟩
theorem F27.k18 {E0 E1 : Ks Prop} : IR.run F27.b18 C N (((fnO F27.res K0).blk 0 E0).blk 1 E1) K (F27.fr x0 x1 x2 x3 x4 x5 x6 x7 x8 x9 x10 x11 x12 x13) h nx =
 zM 1 x1 fun v1 =>
 zE v1 h fun v2 =>
 sSlice 1 v2 none (some x3) none fun v3 =>
 C.fn 84 (.of 84) [v3, x4] h nx fun v4 h5 n6 =>
 zJ v4 (K0 (I 9) h5 n6) (K (F27.fr x0 x1 x2 x3 x4 x5 x6 x7 x8 x9 x10 x11 x12 v4) h5 n6) := by kernel_rfl
theorem F27.k17 {E0 E1 E2 : Ks Prop} : IR.run F27.b17 C N ((((fnO F27.res K0).blk 0 E0).blk 1 E1).blk 2 E2) K (F27.fr x0 x1 x2 x3 x4 x5 x6 x7 x8 x9 x10 x11 x12 x13) h nx =
 sBin .add .int x5 (I 1) fun v1 =>
 K (F27.fr x0 x1 x2 x3 x4 v1 x6 x7 x8 x9 x10 x11 x12 x13) h nx := by kernel_rfl
theorem F27.k16 {E0 E1 E2 E3 : Ks Prop} : IR.run F27.b16 C N (((((fnO F27.res K0).blk 0 E0).blk 1 E1).blk 2 E2).blk 3 E3) K (F27.fr x0 x1 x2 x3 x4 x5 x6 x7 x8 x9 x10 x11 x12 x13) h nx =
 sBin .gtr .int x5 (I 0) fun v1 =>
 sG v1 true (fun k => k x4) fun v2 =>
 sG v1 true (fun k => k x5) fun v3 =>
 sG v1 true (fun k => zK 1 v2 v3 k) fun v4 =>
 sG v1 true (fun k => zE v4 h k) fun v5 =>
 sG v1 true (fun k => k x4) fun v6 =>
 sG v1 true (fun k => k x5) fun v7 =>
 sG v1 true (fun k => sBin .sub .int v7 (I 1) k) fun v8 =>
 sG v1 true (fun k => zK 1 v6 v8 k) fun v9 =>
 sG v1 true (fun k => zE v9 h k) fun v10 =>
 sG v1 true (fun k => sBin .leq .int v5 v10 k) fun v11 =>
 yV v1 v11 (.bool false) fun v12 =>
 zJ v12 (K0 (I 11) h nx) (K (F27.fr x0 x1 x2 x3 x4 x5 x6 x7 x8 x9 x10 x11 v12 x13) h nx) := by kernel_rfl
end Go.Ev
namespace Go.Ev
open Go Go.Proofs
set_option maxRecDepth 100000
variable {N : Nat} {C : Calls Prop} {K0 : Kw Prop} {K R : Ks Prop} {h : T Blk} {nx : Pa} {x0 x1 x2 x3 x4 x5 x6 x7 a0 a1 a2 : AV}
theorem F122.tab : T.get none (.of 122) tbl = some F122 := by kernel_rfl
theorem F122.go : yJ tbl N C (.of 122) [a0, a1, a2] h nx K0 =
 sBox a0 h nx fun v1 h2 n3 =>
 sBox a1 h2 n3 fun v4 h5 n6 =>
 C.fn 131 (.of 131) [a2, (.fn 147 (.of 147) [v1, v4])] h5 n6 fun v7 h8 n9 =>
 C.fn 123 (.of 123) [v7, (I 3)] h8 n9 fun v10 h11 n12 =>
 K0 v10 h11 n12 := by
 rw [zW F122.tab]; kernel_rfl
theorem F147.tab : T.get none (.of 147) tbl = some F147 := by kernel_rfl
theorem F147.go : yJ tbl N C (.of 147) [a0, a1, a2] h nx K0 =
 zE a1 h fun v1 =>
 sBin .lss .int a0 v1 fun v2 =>
 sG v2 false (fun k => k a0) fun v3 =>
 sG v2 false (fun k => zE a2 h k) fun v4 =>
 sG v2 false (fun k => sBin .gtr .int v3 v4 k) fun v5 =>
 yV v2 (.bool true) v5 fun v6 =>
 K0 v6 h nx := by
 rw [zW F147.tab]; kernel_rfl
theorem F131.tab : T.get none (.of 131) tbl = some F131 := by kernel_rfl
theorem F131.go : yJ tbl N C (.of 131) [a0, a1] h nx K0 =
 C.fn 165 (.of 165) [a0, a1] h nx fun v1 h2 n3 =>
 sBin .geq .int v1 (I 0) fun v4 =>
 K0 v4 h2 n3 := by
 rw [zW F131.tab]; kernel_rfl
theorem F165.g1_eq (X2 : IR) (C : Calls Prop) (N : Nat) (O : Outs Prop) (K : Ks Prop) (x0 x1 x2 x3 x4 x5 x6 x7 : AV) (h : T Blk) (nx : Pa) : IR.run (F165.g1 X2) C N O K (F165.fr x0 x1 x2 x3 x4 x5 x6 x7) h nx =
 IR.run X2 C N (O.blk 0 K) K (F165.fr x0 x1 x2 x3 x4 x5 x6 x7) h nx := by kernel_rfl
theorem F165.tab : T.get none (.of 165) tbl = some F165 := by kernel_rfl
theorem F165.go : yJ tbl N C (.of 165) [a0, a1] h nx K0 =
 sLen a0 fun v1 =>
 IR.run F165.b1 C N (fnO F165.res K0) (IR.run F165.b8 C N (fnO F165.res K0) (retK F165.res K0)) (F165.fr a0 a1 (I 0) .undef v1 (I 0) .undef .undef) h nx := by
 rw [zW F165.tab]; kernel_rfl
theorem F165.e1 : IR.run F165.b3 C N ((fnO F165.res K0).blk 0 K) R (F165.fr x0 x1 x2 x3 x4 x5 x6 x7) h nx =
 sBin .lss .int x5 x4 fun v1 =>
 zJ v1 (zK 1 x0 x5 fun v2 =>
 zE v2 h fun v3 =>
 sCall C x1 [v3] h nx fun v4 h5 n6 =>
 zJ v4 (K0 x5 h5 n6) (sBin .add .int x5 (I 1) fun v7 =>
 R (F165.fr x0 x1 x2 x5 x4 v7 v1 v4) h5 n6)) (K (F165.fr x0 x1 x2 x3 x4 x5 v1 x7) h nx) := by kernel_rfl
theorem F165.L1 (Inv : Nat → AV → T Blk → Pa → Prop) {m : Nat} (hm : m < N) (hi : Inv m x5 h nx)
  (step : ∀ (m : Nat) (z2 z3 z5 z6 z7 : AV) (h : T Blk) (nx : Pa) (R : Ks Prop), Inv m z5 h nx → (∀ (m' : Nat) (w2 w3 w5 w6 w7 : AV) (h' : T Blk) (nx' : Pa), m' < m → Inv m' w5 h' nx' → R (F165.fr x0 x1 w2 w3 x4 w5 w6 w7) h' nx' = .ok True) →
   (sBin .lss .int z5 x4 fun v1 =>
 zJ v1 (zK 1 x0 z5 fun v2 =>
 zE v2 h fun v3 =>
 sCall C x1 [v3] h nx fun v4 h5 n6 =>
 zJ v4 (K0 z5 h5 n6) (sBin .add .int z5 (I 1) fun v7 =>
 R (F165.fr x0 x1 z2 z5 x4 v7 v1 v4) h5 n6)) (K (F165.fr x0 x1 z2 z3 x4 z5 v1 z7) h nx)) = .ok True) :
  IR.run F165.b1 C N (fnO F165.res K0) K (F165.fr x0 x1 x2 x3 x4 x5 x6 x7) h nx = .ok True := by
 rw [F165.b1, F165.g1_eq, F165.b2]
 refine yL (fun m tm h nx => ∃ z2 z3 z5 z6 z7, tm = (F165.fr x0 x1 z2 z3 x4 z5 z6 z7) ∧ Inv m z5 h nx) ?_ hm ⟨_, _, _, _, _, rfl, hi⟩
 rintro m tm h nx R ⟨z2, z3, z5, z6, z7, rfl, hi⟩ hR
 rw [F165.e1]
 exact step m z2 z3 z5 z6 z7 h nx R hi fun m' w2 w3 w5 w6 w7 h' nx' hlt hi' => hR m' _ h' nx' hlt ⟨_, _, _, _, _, rfl, hi'⟩
theorem F165.k8 : IR.run F165.b8 C N (fnO F165.res K0) K (F165.fr x0 x1 x2 x3 x4 x5 x6 x7) h nx =
 K0 (I (-1)) h nx := by kernel_rfl
theorem F80.g1_eq (X2 : IR) (C : Calls Prop) (N : Nat) (O : Outs Prop) (K : Ks Prop) (x0 x1 x2 x3 x4 x5 x6 x7 : AV) (h : T Blk) (nx : Pa) : IR.run (F80.g1 X2) C N O K (F80.fr x0 x1 x2 x3 x4 x5 x6 x7) h nx =
 IR.run X2 C N (O.blk 0 K) K (F80.fr x0 x1 x2 x3 x4 x5 x6 x7) h nx := by kernel_rfl
theorem F80.tab : T.get none (.of 80) tbl = some F80 := by kernel_rfl
theorem F80.go : yJ tbl N C (.of 80) [a0] h nx K0 =
 sLen a0 fun v1 =>
 IR.run F80.b1 C N (fnO F80.res K0) (IR.run F80.b8 C N (fnO F80.res K0) (retK F80.res K0)) (F80.fr a0 (I 0) .undef a0 v1 (I 0) .undef .undef) h nx := by
 rw [zW F80.tab]; kernel_rfl
theorem F80.e1 : IR.run F80.b3 C N ((fnO F80.res K0).blk 0 K) R (F80.fr x0 x1 x2 x3 x4 x5 x6 x7) h nx =
 sBin .lss .int x5 x4 fun v1 =>
 zJ v1 (zK 1 x3 x5 fun v2 =>
 zE v2 h fun v3 =>
 sBin .neq .int v3 (I 0) fun v4 =>
 zJ v4 (K0 v3 h nx) (sBin .add .int x5 (I 1) fun v5 =>
 R (F80.fr x0 x1 v3 x3 x4 v5 v1 v4) h nx)) (K (F80.fr x0 x1 x2 x3 x4 x5 v1 x7) h nx) := by kernel_rfl
theorem F80.L1 (Inv : Nat → AV → T Blk → Pa → Prop) {m : Nat} (hm : m < N) (hi : Inv m x5 h nx)
  (step : ∀ (m : Nat) (z1 z2 z5 z6 z7 : AV) (h : T Blk) (nx : Pa) (R : Ks Prop), Inv m z5 h nx → (∀ (m' : Nat) (w1 w2 w5 w6 w7 : AV) (h' : T Blk) (nx' : Pa), m' < m → Inv m' w5 h' nx' → R (F80.fr x0 w1 w2 x3 x4 w5 w6 w7) h' nx' = .ok True) →
   (sBin .lss .int z5 x4 fun v1 =>
 zJ v1 (zK 1 x3 z5 fun v2 =>
 zE v2 h fun v3 =>
 sBin .neq .int v3 (I 0) fun v4 =>
 zJ v4 (K0 v3 h nx) (sBin .add .int z5 (I 1) fun v5 =>
 R (F80.fr x0 z1 v3 x3 x4 v5 v1 v4) h nx)) (K (F80.fr x0 z1 z2 x3 x4 z5 v1 z7) h nx)) = .ok True) :
  IR.run F80.b1 C N (fnO F80.res K0) K (F80.fr x0 x1 x2 x3 x4 x5 x6 x7) h nx = .ok True := by
 rw [F80.b1, F80.g1_eq, F80.b2]
 refine yL (fun m tm h nx => ∃ z1 z2 z5 z6 z7, tm = (F80.fr x0 z1 z2 x3 x4 z5 z6 z7) ∧ Inv m z5 h nx) ?_ hm ⟨_, _, _, _, _, rfl, hi⟩
 rintro m tm h nx R ⟨z1, z2, z5, z6, z7, rfl, hi⟩ hR
 rw [F80.e1]
 exact step m z1 z2 z5 z6 z7 h nx R hi fun m' w1 w2 w5 w6 w7 h' nx' hlt hi' => hR m' _ h' nx' hlt ⟨_, _, _, _, _, rfl, hi'⟩
theorem F80.k8 : IR.run F80.b8 C N (fnO F80.res K0) K (F80.fr x0 x1 x2 x3 x4 x5 x6 x7) h nx =
 K0 (I 0) h nx := by kernel_rfl
end Go.Ev
namespace Go.Ev
open Go Go.Proofs
set_option maxRecDepth 100000
variable {N : Nat} {C : Calls Prop} {K0 : Kw Prop} {K R : Ks Prop} {h : T Blk} {nx : Pa} {x0 x1 x2 x3 x4 x5 x6 x7 x8 x9 x10 x11 x12 x13 a0 a1 : AV}
theorem F81.g2_eq (X3 : IR) (C : Calls Prop) (N : Nat) (O : Outs Prop) (K : Ks Prop) (x0 x1 x2 x3 x4 x5 x6 x7 x8 x9 x10 : AV) (h : T Blk) (nx : Pa) : IR.run (F81.g2 X3) C N O K (F81.fr x0 x1 x2 x3 x4 x5 x6 x7 x8 x9 x10) h nx =
 IR.run X3 C N (O.blk 0 K) K (F81.fr x0 x1 x2 x3 x4 x5 x6 x7 x8 x9 x10) h nx := by kernel_rfl
theorem F81.tab : T.get none (.of 81) tbl = some F81 := by kernel_rfl
theorem F81.go : yJ tbl N C (.of 81) [a0] h nx K0 =
 sBox a0 h nx fun v1 h2 n3 =>
 zM 0 v1 fun v4 =>
 zE v4 h2 fun v5 =>
 zM 1 v1 fun v6 =>
 zE v6 h2 fun v7 =>
 sLen v7 fun v8 =>
 sBin .gtr .int v8 (I 128) fun v9 =>
 jA 1 1 [(I 0)] [(0, 1, v5)] h2 n3 fun v10 h11 n12 =>
 (sBin .gtr .int v8 (I 128) fun v36 => jF v36 v9 ((sLen v7 fun v35 => jF v35 v8 ((zE v6 h11 fun v34 => jF v34 v7 ((zM 1 v1 fun v33 => jF v33 v6 (C.fn 122 (.of 122) [(I 1), (I 256), v10] h11 n12 fun v13 h14 n15 =>
 (sBin .gtr .int v8 (I 128) fun v32 => jF v32 v9 ((sLen v7 fun v31 => jF v31 v8 ((zE v6 h14 fun v30 => jF v30 v7 ((zM 1 v1 fun v29 => jF v29 v6 (C.fn 123 (.of 123) [v9, (I 5)] h14 n15 fun v16 h17 n18 =>
 jA 1 2 [(I 0)] [(0, 1, v13), (1, 1, v16)] h17 n18 fun v19 h20 n21 =>
 C.fn 121 (.of 121) [v19] h20 n21 fun v22 h23 n24 =>
 sBin .neq .int v22 (I 0) fun v25 =>
 zJ v25 (K0 v22 h23 n24) (zM 1 v1 fun v26 =>
 zE v26 h23 fun v27 =>
 sLen v27 fun v28 =>
 IR.run F81.b2 C N (fnO F81.res K0) (IR.run F81.b9 C N (fnO F81.res K0) (retK F81.res K0)) (F81.fr a0 v1 (I 0) v22 .undef .undef v25 v28 (I 0) .undef .undef) h23 n24))))))))))))))))) := by
 rw [zW F81.tab]; kernel_rfl
theorem F81.e2 : IR.run F81.b4 C N ((fnO F81.res K0).blk 0 K) R (F81.fr x0 x1 x2 x3 x4 x5 x6 x7 x8 x9 x10) h nx =
 sBin .lss .int x8 x7 fun v1 =>
 zJ v1 (jG 2 x1 h fun v2 =>
 C.fn 124 (.of 124) [v2, x8] h nx fun v3 h4 n5 =>
 sBin .neq .int v3 (I 0) fun v6 =>
 zJ v6 (K0 v3 h4 n5) (sBin .add .int x8 (I 1) fun v7 =>
 R (F81.fr x0 x1 x2 x3 x8 v3 x6 x7 v7 v1 v6) h4 n5)) (K (F81.fr x0 x1 x2 x3 x4 x5 x6 x7 x8 v1 x10) h nx) := by kernel_rfl
theorem F81.L2 (Inv : Nat → AV → T Blk → Pa → Prop) {m : Nat} (hm : m < N) (hi : Inv m x8 h nx)
  (step : ∀ (m : Nat) (z2 z4 z5 z8 z9 z10 : AV) (h : T Blk) (nx : Pa) (R : Ks Prop), Inv m z8 h nx → (∀ (m' : Nat) (w2 w4 w5 w8 w9 w10 : AV) (h' : T Blk) (nx' : Pa), m' < m → Inv m' w8 h' nx' → R (F81.fr x0 x1 w2 x3 w4 w5 x6 x7 w8 w9 w10) h' nx' = .ok True) →
   (sBin .lss .int z8 x7 fun v1 =>
 zJ v1 (jG 2 x1 h fun v2 =>
 C.fn 124 (.of 124) [v2, z8] h nx fun v3 h4 n5 =>
 sBin .neq .int v3 (I 0) fun v6 =>
 zJ v6 (K0 v3 h4 n5) (sBin .add .int z8 (I 1) fun v7 =>
 R (F81.fr x0 x1 z2 x3 z8 v3 x6 x7 v7 v1 v6) h4 n5)) (K (F81.fr x0 x1 z2 x3 z4 z5 x6 x7 z8 v1 z10) h nx)) = .ok True) :
  IR.run F81.b2 C N (fnO F81.res K0) K (F81.fr x0 x1 x2 x3 x4 x5 x6 x7 x8 x9 x10) h nx = .ok True := by
 rw [F81.b2, F81.g2_eq, F81.b3]
 refine yL (fun m tm h nx => ∃ z2 z4 z5 z8 z9 z10, tm = (F81.fr x0 x1 z2 x3 z4 z5 x6 x7 z8 z9 z10) ∧ Inv m z8 h nx) ?_ hm ⟨_, _, _, _, _, _, rfl, hi⟩
 rintro m tm h nx R ⟨z2, z4, z5, z8, z9, z10, rfl, hi⟩ hR
 rw [F81.e2]
 exact step m z2 z4 z5 z8 z9 z10 h nx R hi fun m' w2 w4 w5 w8 w9 w10 h' nx' hlt hi' => hR m' _ h' nx' hlt ⟨_, _, _, _, _, _, rfl, hi'⟩
theorem F81.k9 : IR.run F81.b9 C N (fnO F81.res K0) K (F81.fr x0 x1 x2 x3 x4 x5 x6 x7 x8 x9 x10) h nx =
 K0 (I 0) h nx := by kernel_rfl
theorem F124.g2_eq (X3 : IR) (C : Calls Prop) (N : Nat) (O : Outs Prop) (K : Ks Prop) (x0 x1 x2 x3 x4 x5 x6 x7 x8 x9 x10 x11 x12 x13 : AV) (h : T Blk) (nx : Pa) : IR.run (F124.g2 X3) C N O K (F124.fr x0 x1 x2 x3 x4 x5 x6 x7 x8 x9 x10 x11 x12 x13) h nx =
 IR.run X3 C N (O.blk 0 K) K (F124.fr x0 x1 x2 x3 x4 x5 x6 x7 x8 x9 x10 x11 x12 x13) h nx := by kernel_rfl
theorem F124.tab : T.get none (.of 124) tbl = some F124 := by kernel_rfl
theorem F124.go : yJ tbl N C (.of 124) [a0, a1] h nx K0 =
 sBox a0 h nx fun v1 h2 n3 =>
 zM 1 v1 fun v4 =>
 zE v4 h2 fun v5 =>
 zK 1 v5 a1 fun v6 =>
 zE v6 h2 fun v7 =>
 gG [.nils] h2 n3 fun v8 h9 n10 =>
 yU 1 v8 v7 h9 n10 fun v11 h12 n13 =>
 zE v8 h12 fun v14 =>
 sLen v14 fun v15 =>
 sBin .eql .int v15 (I 0) fun v16 =>
 zJ v16 (K0 (I 12) h12 n13) (zE v8 h12 fun v17 =>
 sLen v17 fun v18 =>
 IR.run F124.b2 C N (fnO F124.res K0) (IR.run F124.b9 C N (fnO F124.res K0) (retK F124.res K0)) (F124.fr a0 a1 v1 (I 0) v8 .undef .undef .undef v16 v17 v18 (I 0) .undef .undef) h12 n13) := by
 rw [zW F124.tab]; kernel_rfl
theorem F124.e2 : IR.run F124.b4 C N ((fnO F124.res K0).blk 0 K) R (F124.fr x0 x1 x2 x3 x4 x5 x6 x7 x8 x9 x10 x11 x12 x13) h nx =
 sBin .lss .int x11 x10 fun v1 =>
 zJ v1 (zK 1 x9 x11 fun v2 =>
 zE v2 h fun v3 =>
 sBin .lss .int v3 (I 0) fun v4 =>
 sG v4 false (fun k => k v3) fun v5 =>
 sG v4 false (fun k => zM 0 x2 k) fun v6 =>
 sG v4 false (fun k => zE v6 h k) fun v7 =>
 sG v4 false (fun k => sBin .geq .int v5 v7 k) fun v8 =>
 yV v4 (.bool true) v8 fun v9 =>
 C.fn 123 (.of 123) [v9, (I 10)] h nx fun v10 h11 n12 =>
 sBin .gtr .int x11 (I 0) fun v13 =>
 sG v13 true (fun k => zE x4 h11 k) fun v14 =>
 sG v13 true (fun k => k x11) fun v15 =>
 sG v13 true (fun k => sBin .sub .int v15 (I 1) k) fun v16 =>
 sG v13 true (fun k => zK 1 v14 v16 k) fun v17 =>
 sG v13 true (fun k => zE v17 h11 k) fun v18 =>
 sG v13 true (fun k => k v3) fun v19 =>
 sG v13 true (fun k => sBin .geq .int v18 v19 k) fun v20 =>
 yV v13 v20 (.bool false) fun v21 =>
 C.fn 123 (.of 123) [v21, (I 11)] h11 n12 fun v22 h23 n24 =>
 jA 1 2 [(I 0)] [(0, 1, v10), (1, 1, v22)] h23 n24 fun v25 h26 n27 =>
 C.fn 121 (.of 121) [v25] h26 n27 fun v28 h29 n30 =>
 sBin .neq .int v28 (I 0) fun v31 =>
 zJ v31 (K0 v28 h29 n30) (sBin .add .int x11 (I 1) fun v32 =>
 R (F124.fr x0 x1 x2 x3 x4 x11 v3 v28 x8 x9 x10 v32 v1 v31) h29 n30)) (K (F124.fr x0 x1 x2 x3 x4 x5 x6 x7 x8 x9 x10 x11 v1 x13) h nx) := by kernel_rfl
theorem F124.L2 (Inv : Nat → AV → T Blk → Pa → Prop) {m : Nat} (hm : m < N) (hi : Inv m x11 h nx)
  (step : ∀ (m : Nat) (z3 z5 z6 z7 z11 z12 z13 : AV) (h : T Blk) (nx : Pa) (R : Ks Prop), Inv m z11 h nx → (∀ (m' : Nat) (w3 w5 w6 w7 w11 w12 w13 : AV) (h' : T Blk) (nx' : Pa), m' < m → Inv m' w11 h' nx' → R (F124.fr x0 x1 x2 w3 x4 w5 w6 w7 x8 x9 x10 w11 w12 w13) h' nx' = .ok True) →
   (sBin .lss .int z11 x10 fun v1 =>
 zJ v1 (zK 1 x9 z11 fun v2 =>
 zE v2 h fun v3 =>
 sBin .lss .int v3 (I 0) fun v4 =>
 sG v4 false (fun k => k v3) fun v5 =>
 sG v4 false (fun k => zM 0 x2 k) fun v6 =>
 sG v4 false (fun k => zE v6 h k) fun v7 =>
 sG v4 false (fun k => sBin .geq .int v5 v7 k) fun v8 =>
 yV v4 (.bool true) v8 fun v9 =>
 C.fn 123 (.of 123) [v9, (I 10)] h nx fun v10 h11 n12 =>
 sBin .gtr .int z11 (I 0) fun v13 =>
 sG v13 true (fun k => zE x4 h11 k) fun v14 =>
 sG v13 true (fun k => k z11) fun v15 =>
 sG v13 true (fun k => sBin .sub .int v15 (I 1) k) fun v16 =>
 sG v13 true (fun k => zK 1 v14 v16 k) fun v17 =>
 sG v13 true (fun k => zE v17 h11 k) fun v18 =>
 sG v13 true (fun k => k v3) fun v19 =>
 sG v13 true (fun k => sBin .geq .int v18 v19 k) fun v20 =>
 yV v13 v20 (.bool false) fun v21 =>
 C.fn 123 (.of 123) [v21, (I 11)] h11 n12 fun v22 h23 n24 =>
 jA 1 2 [(I 0)] [(0, 1, v10), (1, 1, v22)] h23 n24 fun v25 h26 n27 =>
 C.fn 121 (.of 121) [v25] h26 n27 fun v28 h29 n30 =>
 sBin .neq .int v28 (I 0) fun v31 =>
 zJ v31 (K0 v28 h29 n30) (sBin .add .int z11 (I 1) fun v32 =>
 R (F124.fr x0 x1 x2 z3 x4 z11 v3 v28 x8 x9 x10 v32 v1 v31) h29 n30)) (K (F124.fr x0 x1 x2 z3 x4 z5 z6 z7 x8 x9 x10 z11 v1 z13) h nx)) = .ok True) :
  IR.run F124.b2 C N (fnO F124.res K0) K (F124.fr x0 x1 x2 x3 x4 x5 x6 x7 x8 x9 x10 x11 x12 x13) h nx = .ok True := by
 rw [F124.b2, F124.g2_eq, F124.b3]
 refine yL (fun m tm h nx => ∃ z3 z5 z6 z7 z11 z12 z13, tm = (F124.fr x0 x1 x2 z3 x4 z5 z6 z7 x8 x9 x10 z11 z12 z13) ∧ Inv m z11 h nx) ?_ hm ⟨_, _, _, _, _, _, _, rfl, hi⟩
 rintro m tm h nx R ⟨z3, z5, z6, z7, z11, z12, z13, rfl, hi⟩ hR
 rw [F124.e2]
 exact step m z3 z5 z6 z7 z11 z12 z13 h nx R hi fun m' w3 w5 w6 w7 w11 w12 w13 h' nx' hlt hi' => hR m' _ h' nx' hlt ⟨_, _, _, _, _, _, _, rfl, hi'⟩
theorem F124.k9 : IR.run F124.b9 C N (fnO F124.res K0) K (F124.fr x0 x1 x2 x3 x4 x5 x6 x7 x8 x9 x10 x11 x12 x13) h nx =
 zM 1 x2 fun v1 =>
 zE v1 h fun v2 =>
 sSlice 1 v2 none (some x1) none fun v3 =>
 C.fn 148 (.of 148) [v3, (.fn 149 (.of 149) [x4])] h nx fun v4 h5 n6 =>
 C.fn 123 (.of 123) [v4, (I 9)] h5 n6 fun v7 h8 n9 =>
 K0 v7 h8 n9 := by kernel_rfl
end Go.Ev
namespace Go.Ev
open Go Go.Proofs
set_option maxRecDepth 100000
variable {N : Nat} {C : Calls Prop} {K0 : Kw Prop} {K R : Ks Prop} {h : T Blk} {nx : Pa} {x0 x1 x2 x3 x4 x5 x6 x7 x8 x9 x10 x11 x12 x13 x14 x15 x16 x17 x18 x19 x20 x21 x22 x23 x24 x25 x26 x27 x28 x29 x30 x31 x32 x33 x34 a0 a1 a2 : AV}
theorem F9.g4_eq (X5 : IR) (C : Calls Prop) (N : Nat) (O : Outs Prop) (K : Ks Prop) (x0 x1 x2 x3 x4 x5 x6 x7 x8 x9 x10 x11 x12 x13 x14 x15 x16 x17 x18 x19 x20 x21 x22 x23 x24 x25 x26 x27 x28 x29 x30 x31 x32 x33 x34 : AV) (h : T Blk) (nx : Pa) : IR.run (F9.g4 X5) C N O K (F9.fr x0 x1 x2 x3 x4 x5 x6 x7 x8 x9 x10 x11 x12 x13 x14 x15 x16 x17 x18 x19 x20 x21 x22 x23 x24 x25 x26 x27 x28 x29 x30 x31 x32 x33 x34) h nx =
 IR.run X5 C N (O.blk 0 K) K (F9.fr x0 x1 x2 x3 x4 x5 x6 x7 x8 x9 x10 x11 x12 x13 x14 x15 x16 x17 x18 x19 x20 x21 x22 x23 x24 x25 x26 x27 x28 x29 x30 x31 x32 x33 x34) h nx := by kernel_rfl
theorem F9.g25_eq (X26 : IR) (C : Calls Prop) (N : Nat) (O : Outs Prop) (K : Ks Prop) (x0 x1 x2 x3 x4 x5 x6 x7 x8 x9 x10 x11 x12 x13 x14 x15 x16 x17 x18 x19 x20 x21 x22 x23 x24 x25 x26 x27 x28 x29 x30 x31 x32 x33 x34 : AV) (h : T Blk) (nx : Pa) : IR.run (F9.g25 X26) C N O K (F9.fr x0 x1 x2 x3 x4 x5 x6 x7 x8 x9 x10 x11 x12 x13 x14 x15 x16 x17 x18 x19 x20 x21 x22 x23 x24 x25 x26 x27 x28 x29 x30 x31 x32 x33 x34) h nx =
 IR.run X26 C N (O.blk 6 K) K (F9.fr x0 x1 x2 x3 x4 x5 x6 x7 x8 x9 x10 x11 x12 x13 x14 x15 x16 x17 x18 x19 x20 x21 x22 x23 x24 x25 x26 x27 x28 x29 x30 x31 x32 x33 x34) h nx := by kernel_rfl
theorem F9.g19_eq (X20 : IR) (C : Calls Prop) (N : Nat) (O : Outs Prop) (K : Ks Prop) (x0 x1 x2 x3 x4 x5 x6 x7 x8 x9 x10 x11 x12 x13 x14 x15 x16 x17 x18 x19 x20 x21 x22 x23 x24 x25 x26 x27 x28 x29 x30 x31 x32 x33 x34 : AV) (h : T Blk) (nx : Pa) : IR.run (F9.g19 X20) C N O K (F9.fr x0 x1 x2 x3 x4 x5 x6 x7 x8 x9 x10 x11 x12 x13 x14 x15 x16 x17 x18 x19 x20 x21 x22 x23 x24 x25 x26 x27 x28 x29 x30 x31 x32 x33 x34) h nx =
 IR.run X20 C N (O.blk 4 K) K (F9.fr x0 x1 x2 x3 x4 x5 x6 x7 x8 x9 x10 x11 x12 x13 x14 x15 x16 x17 x18 x19 x20 x21 x22 x23 x24 x25 x26 x27 x28 x29 x30 x31 x32 x33 x34) h nx := by kernel_rfl
theorem F9.g13_eq (X14 : IR) (C : Calls Prop) (N : Nat) (O : Outs Prop) (K : Ks Prop) (x0 x1 x2 x3 x4 x5 x6 x7 x8 x9 x10 x11 x12 x13 x14 x15 x16 x17 x18 x19 x20 x21 x22 x23 x24 x25 x26 x27 x28 x29 x30 x31 x32 x33 x34 : AV) (h : T Blk) (nx : Pa) : IR.run (F9.g13 X14) C N O K (F9.fr x0 x1 x2 x3 x4 x5 x6 x7 x8 x9 x10 x11 x12 x13 x14 x15 x16 x17 x18 x19 x20 x21 x22 x23 x24 x25 x26 x27 x28 x29 x30 x31 x32 x33 x34) h nx =
 IR.run X14 C N (O.blk 2 K) K (F9.fr x0 x1 x2 x3 x4 x5 x6 x7 x8 x9 x10 x11 x12 x13 x14 x15 x16 x17 x18 x19 x20 x21 x22 x23 x24 x25 x26 x27 x28 x29 x30 x31 x32 x33 x34) h nx := by kernel_rfl
theorem F9.tab : T.get none (.of 9) tbl = some F9 := by kernel_rfl
theorem F9.go : yJ tbl N C (.of 9) [a0, a1, a2] h nx K0 =
 sBox a0 h nx fun v1 h2 n3 =>
 jG 2 v1 h2 fun v4 =>
 C.fn 44 (.of 44) [v4, (I 10), (I 12)] h2 n3 fun v5 h6 n7 =>
 sNot v5 fun v8 =>
 sG v8 false (fun k => k a1) fun v9 =>
 sG v8 false (fun k => sLen v9 k) fun v10 =>
 sG v8 false (fun k => zM 0 v1 k) fun v11 =>
 sG v8 false (fun k => zE v11 h6 k) fun v12 =>
 sG v8 false (fun k => sBin .neq .int v10 v12 k) fun v13 =>
 yV v8 (.bool true) v13 fun v14 =>
 sG v14 false (fun k => k a1) fun v15 =>
 sGW v14 false (fun k => C.fn 45 (.of 45) [v15] h6 n7 k) h6 n7 fun v16 h17 n18 =>
 sG v14 false (fun k => sBin .neq .int v16 (I 0) k) fun v19 =>
 yV v14 (.bool true) v19 fun v20 =>
 zJ v20 (C.fn 18 (.of 18) [] h17 n18 fun v21 h22 n23 =>
 K0 v21 h22 n23) ((IR.run F9.b1 C N (fnO F9.res K0) (retK F9.res K0)) (F9.fr a0 a1 a2 v1 (.bool false) .undef .undef .undef .undef .undef .undef .undef .undef .undef .undef .undef .undef .undef .undef .undef .undef .undef .undef .undef .undef .undef v20 .undef .undef .undef .undef .undef .undef .undef .undef) h17 n18) := by
 rw [zW F9.tab]; kernel_rfl
theorem F9.k1 : IR.run F9.b1 C N (fnO F9.res K0) K (F9.fr x0 x1 x2 x3 x4 x5 x6 x7 x8 x9 x10 x11 x12 x13 x14 x15 x16 x17 x18 x19 x20 x21 x22 x23 x24 x25 x26 x27 x28 x29 x30 x31 x32 x33 x34) h nx =
 sConv .i64 x2 fun v1 =>
 sBin .rem .int v1 (I 8) fun v2 =>
 jG 2 x3 h fun v3 =>
 C.fn 31 (.of 31) [v3, (I 2), v2] h nx fun v4 h5 n6 =>
 sExt 0 v4 fun v7 =>
 sExt 1 v4 fun v8 =>
 jG 2 x3 h5 fun v9 =>
 C.fn 46 (.of 46) [v9, x1] h5 n6 fun v10 h11 n12 =>
 C.fn 31 (.of 31) [v10, (I 2), v2] h11 n12 fun v13 h14 n15 =>
 sExt 0 v13 fun v16 =>
 sExt 1 v13 fun v17 =>
 jG 2 x3 h14 fun v18 =>
 C.fn 31 (.of 31) [v18, (I 1), v2] h14 n15 fun v19 h20 n21 =>
 sExt 0 v19 fun v22 =>
 sExt 1 v19 fun v23 =>
 sBin .add .int v8 v17 fun v24 =>
 sBin .add .int v24 v23 fun v25 =>
 sBin .neq .int v25 (I 0) fun v26 =>
 sG v26 false (fun k => k v7) fun v27 =>
 sG v26 false (fun k => k v16) fun v28 =>
 sG v26 false (fun k => sBin .neq .int v27 v28 k) fun v29 =>
 yV v26 (.bool true) v29 fun v30 =>
 sG v30 false (fun k => k v22) fun v31 =>
 sG v30 false (fun k => k v7) fun v32 =>
 sG v30 false (fun k => sBin .gtr .int v31 v32 k) fun v33 =>
 yV v30 (.bool true) v33 fun v34 =>
 sG v34 false (fun k => k v7) fun v35 =>
 sG v34 false (fun k => sBin .lss .int v35 (I 0) k) fun v36 =>
 yV v34 (.bool true) v36 fun v37 =>
 sG v37 false (fun k => k v22) fun v38 =>
 sG v37 false (fun k => sBin .lss .int v38 (I 0) k) fun v39 =>
 yV v37 (.bool true) v39 fun v40 =>
 zJ v40 (K0 (.bool false) h20 n21) ((IR.run F9.b2 C N (fnO F9.res K0) K) (F9.fr x0 x1 x2 x3 x4 v2 v7 v8 v16 v17 v22 v23 x12 x13 x14 x15 x16 x17 x18 x19 x20 x21 x22 x23 x24 x25 x26 v40 x28 x29 x30 x31 x32 x33 x34) h20 n21) := by kernel_rfl
theorem F9.k2 : IR.run F9.b2 C N (fnO F9.res K0) K (F9.fr x0 x1 x2 x3 x4 x5 x6 x7 x8 x9 x10 x11 x12 x13 x14 x15 x16 x17 x18 x19 x20 x21 x22 x23 x24 x25 x26 x27 x28 x29 x30 x31 x32 x33 x34) h nx =
 zM 0 x3 fun v1 =>
 zE v1 h fun v2 =>
 sBin .quo .int v2 (I 2) fun v3 =>
 jG 2 x3 h fun v4 =>
 C.fn 33 (.of 33) [v4, v3, (I 2)] h nx fun v5 h6 n7 =>
 sExt 0 v5 fun v8 =>
 sExt 1 v5 fun v9 =>
 sExt 2 v5 fun v10 =>
 sBin .neq .int v10 (I 0) fun v11 =>
 sG v11 false (fun k => k v8) fun v12 =>
 sG v11 false (fun k => sLen v12 k) fun v13 =>
 sG v11 false (fun k => k v9) fun v14 =>
 sG v11 false (fun k => sLen v14 k) fun v15 =>
 sG v11 false (fun k => sBin .neq .int v13 v15 k) fun v16 =>
 yV v11 (.bool true) v16 fun v17 =>
 zJ v17 (K0 (.bool false) h6 n7) ((IR.run F9.b3 C N (fnO F9.res K0) K) (F9.fr x0 x1 x2 x3 x4 x5 x6 x7 x8 x9 x10 x11 v3 v8 v9 v10 x16 x17 x18 x19 x20 x21 x22 x23 x24 x25 x26 x27 v17 x29 x30 x31 x32 x33 x34) h6 n7) := by kernel_rfl
theorem F9.k3 : IR.run F9.b3 C N (fnO F9.res K0) K (F9.fr x0 x1 x2 x3 x4 x5 x6 x7 x8 x9 x10 x11 x12 x13 x14 x15 x16 x17 x18 x19 x20 x21 x22 x23 x24 x25 x26 x27 x28 x29 x30 x31 x32 x33 x34) h nx =
 zM 0 x3 fun v1 =>
 zE v1 h fun v2 =>
 gX 1 8 [(I 0)] v2 v2 h nx fun v3 h4 n5 =>
 IR.run F9.b4 C N (fnO F9.res K0) (IR.run F9.b11 C N (fnO F9.res K0) K) (F9.fr x0 x1 x2 x3 x4 x5 x6 x7 x8 x9 x10 x11 x12 x13 x14 x15 v3 (I 0) x18 x19 x20 x21 x22 x23 x24 x25 x26 x27 x28 x29 x30 x31 x32 x33 x34) h4 n5 := by kernel_rfl
theorem F9.e4 : IR.run F9.b6 C N ((fnO F9.res K0).blk 0 K) R (F9.fr x0 x1 x2 x3 x4 x5 x6 x7 x8 x9 x10 x11 x12 x13 x14 x15 x16 x17 x18 x19 x20 x21 x22 x23 x24 x25 x26 x27 x28 x29 x30 x31 x32 x33 x34) h nx =
 zM 0 x3 fun v1 =>
 zE v1 h fun v2 =>
 sBin .lss .int x17 v2 fun v3 =>
 zJ v3 (zM 0 x3 fun v4 =>
 zE v4 h fun v5 =>
 sBin .sub .int v5 (I 1) fun v6 =>
 sBin .sub .int v6 x17 fun v7 =>
 zK 1 x16 x17 fun v8 =>
 yU 1 v8 v7 h nx fun v9 h10 n11 =>
 sBin .add .int x17 (I 1) fun v12 =>
 R (F9.fr x0 x1 x2 x3 x4 x5 x6 x7 x8 x9 x10 x11 x12 x13 x14 x15 x16 v12 x18 x19 x20 x21 x22 x23 x24 x25 x26 x27 x28 v3 x30 x31 x32 x33 x34) h10 n11) (K (F9.fr x0 x1 x2 x3 x4 x5 x6 x7 x8 x9 x10 x11 x12 x13 x14 x15 x16 x17 x18 x19 x20 x21 x22 x23 x24 x25 x26 x27 x28 v3 x30 x31 x32 x33 x34) h nx) := by kernel_rfl
theorem F9.L4 (Inv : Nat → AV → T Blk → Pa → Prop) {m : Nat} (hm : m < N) (hi : Inv m x17 h nx)
  (step : ∀ (m : Nat) (z17 z29 : AV) (h : T Blk) (nx : Pa) (R : Ks Prop), Inv m z17 h nx → (∀ (m' : Nat) (w17 w29 : AV) (h' : T Blk) (nx' : Pa), m' < m → Inv m' w17 h' nx' → R (F9.fr x0 x1 x2 x3 x4 x5 x6 x7 x8 x9 x10 x11 x12 x13 x14 x15 x16 w17 x18 x19 x20 x21 x22 x23 x24 x25 x26 x27 x28 w29 x30 x31 x32 x33 x34) h' nx' = .ok True) →
   (zM 0 x3 fun v1 =>
 zE v1 h fun v2 =>
 sBin .lss .int z17 v2 fun v3 =>
 zJ v3 (zM 0 x3 fun v4 =>
 zE v4 h fun v5 =>
 sBin .sub .int v5 (I 1) fun v6 =>
 sBin .sub .int v6 z17 fun v7 =>
 zK 1 x16 z17 fun v8 =>
 yU 1 v8 v7 h nx fun v9 h10 n11 =>
 sBin .add .int z17 (I 1) fun v12 =>
 R (F9.fr x0 x1 x2 x3 x4 x5 x6 x7 x8 x9 x10 x11 x12 x13 x14 x15 x16 v12 x18 x19 x20 x21 x22 x23 x24 x25 x26 x27 x28 v3 x30 x31 x32 x33 x34) h10 n11) (K (F9.fr x0 x1 x2 x3 x4 x5 x6 x7 x8 x9 x10 x11 x12 x13 x14 x15 x16 z17 x18 x19 x20 x21 x22 x23 x24 x25 x26 x27 x28 v3 x30 x31 x32 x33 x34) h nx)) = .ok True) :
  IR.run F9.b4 C N (fnO F9.res K0) K (F9.fr x0 x1 x2 x3 x4 x5 x6 x7 x8 x9 x10 x11 x12 x13 x14 x15 x16 x17 x18 x19 x20 x21 x22 x23 x24 x25 x26 x27 x28 x29 x30 x31 x32 x33 x34) h nx = .ok True := by
 rw [F9.b4, F9.g4_eq, F9.b5]
 refine yL (fun m tm h nx => ∃ z17 z29, tm = (F9.fr x0 x1 x2 x3 x4 x5 x6 x7 x8 x9 x10 x11 x12 x13 x14 x15 x16 z17 x18 x19 x20 x21 x22 x23 x24 x25 x26 x27 x28 z29 x30 x31 x32 x33 x34) ∧ Inv m z17 h nx) ?_ hm ⟨_, _, rfl, hi⟩
 rintro m tm h nx R ⟨z17, z29, rfl, hi⟩ hR
 rw [F9.e4]
 exact step m z17 z29 h nx R hi fun m' w17 w29 h' nx' hlt hi' => hR m' _ h' nx' hlt ⟨_, _, rfl, hi'⟩
theorem F9.k11 : IR.run F9.b11 C N (fnO F9.res K0) K (F9.fr x0 x1 x2 x3 x4 x5 x6 x7 x8 x9 x10 x11 x12 x13 x14 x15 x16 x17 x18 x19 x20 x21 x22 x23 x24 x25 x26 x27 x28 x29 x30 x31 x32 x33 x34) h nx =
 jG 2 x3 h fun v1 =>
 zM 0 x3 fun v2 =>
 zE v2 h fun v3 =>
 sBin .sub .int v3 x12 fun v4 =>
 C.fn 46 (.of 46) [v1, x16] h nx fun v5 h6 n7 =>
 (sBin .sub .int v3 x12 fun v42 => jF v42 v4 (jF x12 x12 ((zE v2 h6 fun v41 => jF v41 v3 ((zM 0 x3 fun v40 => jF v40 v2 (C.fn 33 (.of 33) [v5, v4, (I 2)] h6 n7 fun v8 h9 n10 =>
 sExt 0 v8 fun v11 =>
 sExt 1 v8 fun v12 =>
 sExt 2 v8 fun v13 =>
 sBin .neq .int v13 (I 0) fun v14 =>
 sG v14 false (fun k => k v11) fun v15 =>
 sG v14 false (fun k => sLen v15 k) fun v16 =>
 sG v14 false (fun k => k v12) fun v17 =>
 sG v14 false (fun k => sLen v17 k) fun v18 =>
 sG v14 false (fun k => sBin .neq .int v16 v18 k) fun v19 =>
 yV v14 (.bool true) v19 fun v20 =>
 sG v20 false (fun k => k x13) fun v21 =>
 sG v20 false (fun k => sLen v21 k) fun v22 =>
 sG v20 false (fun k => sBin .gtr .int v22 (I 100) k) fun v23 =>
 yV v20 (.bool true) v23 fun v24 =>
 sG v24 false (fun k => k v11) fun v25 =>
 sG v24 false (fun k => sLen v25 k) fun v26 =>
 sG v24 false (fun k => sBin .gtr .int v26 (I 300) k) fun v27 =>
 yV v24 (.bool true) v27 fun v28 =>
 zJ v28 (sBin .eql .int v13 (I 0) fun v29 =>
 sG v29 true (fun k => k v11) fun v30 =>
 sG v29 true (fun k => sLen v30 k) fun v31 =>
 sG v29 true (fun k => k v12) fun v32 =>
 sG v29 true (fun k => sLen v32 k) fun v33 =>
 sG v29 true (fun k => sBin .eql .int v31 v33 k) fun v34 =>
 yV v29 v34 (.bool false) fun v35 =>
 sGW v35 true (fun k => C.fn 18 (.of 18) [] h9 n10 k) h9 n10 fun v36 h37 n38 =>
 yV v35 v36 (.bool false) fun v39 =>
 K0 v39 h37 n38) ((IR.run F9.b12 C N (fnO F9.res K0) K) (F9.fr x0 x1 x2 x3 x4 x5 x6 x7 x8 x9 x10 x11 x12 x13 x14 x15 x16 x17 v11 v12 v13 x21 x22 x23 x24 x25 x26 x27 x28 x29 v28 x31 x32 x33 x34) h9 n10)))))))) := by kernel_rfl
theorem F9.k12 : IR.run F9.b12 C N (fnO F9.res K0) K (F9.fr x0 x1 x2 x3 x4 x5 x6 x7 x8 x9 x10 x11 x12 x13 x14 x15 x16 x17 x18 x19 x20 x21 x22 x23 x24 x25 x26 x27 x28 x29 x30 x31 x32 x33 x34) h nx =
 IR.run F9.b13 C N (fnO F9.res K0) (IR.run F9.b35 C N (fnO F9.res K0) K) (F9.fr x0 x1 x2 x3 x4 x5 x6 x7 x8 x9 x10 x11 x12 x13 x14 x15 x16 x17 x18 x19 x20 (I 0) (I 0) x23 x24 x25 x26 x27 x28 x29 x30 x31 x32 x33 x34) h nx := by kernel_rfl
theorem F9.e13 : IR.run F9.b15 C N ((fnO F9.res K0).blk 2 K) R (F9.fr x0 x1 x2 x3 x4 x5 x6 x7 x8 x9 x10 x11 x12 x13 x14 x15 x16 x17 x18 x19 x20 x21 x22 x23 x24 x25 x26 x27 x28 x29 x30 x31 x32 x33 x34) h nx =
 sLen x13 fun v1 =>
 sBin .lss .int x22 v1 fun v2 =>
 zJ v2 (IR.run F9.b19 C N (((fnO F9.res K0).blk 2 K).blk 3 (IR.run F9.b34 C N ((fnO F9.res K0).blk 2 K) R)) (IR.run F9.b34 C N ((fnO F9.res K0).blk 2 K) R) (F9.fr x0 x1 x2 x3 x4 x5 x6 x7 x8 x9 x10 x11 x12 x13 x14 x15 x16 x17 x18 x19 x20 x21 x22 (I 0) x24 x25 x26 x27 x28 x29 x30 v2 x32 x33 x34) h nx) (K (F9.fr x0 x1 x2 x3 x4 x5 x6 x7 x8 x9 x10 x11 x12 x13 x14 x15 x16 x17 x18 x19 x20 x21 x22 x23 x24 x25 x26 x27 x28 x29 x30 v2 x32 x33 x34) h nx) := by kernel_rfl
theorem F9.L13 (Inv : Nat → AV → AV → T Blk → Pa → Prop) {m : Nat} (hm : m < N) (hi : Inv m x21 x22 h nx)
  (step : ∀ (m : Nat) (z21 z22 z23 z24 z25 z31 z32 z33 z34 : AV) (h : T Blk) (nx : Pa) (R : Ks Prop), Inv m z21 z22 h nx → (∀ (m' : Nat) (w21 w22 w23 w24 w25 w31 w32 w33 w34 : AV) (h' : T Blk) (nx' : Pa), m' < m → Inv m' w21 w22 h' nx' → R (F9.fr x0 x1 x2 x3 x4 x5 x6 x7 x8 x9 x10 x11 x12 x13 x14 x15 x16 x17 x18 x19 x20 w21 w22 w23 w24 w25 x26 x27 x28 x29 x30 w31 w32 w33 w34) h' nx' = .ok True) →
   (sLen x13 fun v1 =>
 sBin .lss .int z22 v1 fun v2 =>
 zJ v2 (IR.run F9.b19 C N (((fnO F9.res K0).blk 2 K).blk 3 (IR.run F9.b34 C N ((fnO F9.res K0).blk 2 K) R)) (IR.run F9.b34 C N ((fnO F9.res K0).blk 2 K) R) (F9.fr x0 x1 x2 x3 x4 x5 x6 x7 x8 x9 x10 x11 x12 x13 x14 x15 x16 x17 x18 x19 x20 z21 z22 (I 0) z24 z25 x26 x27 x28 x29 x30 v2 z32 z33 z34) h nx) (K (F9.fr x0 x1 x2 x3 x4 x5 x6 x7 x8 x9 x10 x11 x12 x13 x14 x15 x16 x17 x18 x19 x20 z21 z22 z23 z24 z25 x26 x27 x28 x29 x30 v2 z32 z33 z34) h nx)) = .ok True) :
  IR.run F9.b13 C N (fnO F9.res K0) K (F9.fr x0 x1 x2 x3 x4 x5 x6 x7 x8 x9 x10 x11 x12 x13 x14 x15 x16 x17 x18 x19 x20 x21 x22 x23 x24 x25 x26 x27 x28 x29 x30 x31 x32 x33 x34) h nx = .ok True := by
 rw [F9.b13, F9.g13_eq, F9.b14]
 refine yL (fun m tm h nx => ∃ z21 z22 z23 z24 z25 z31 z32 z33 z34, tm = (F9.fr x0 x1 x2 x3 x4 x5 x6 x7 x8 x9 x10 x11 x12 x13 x14 x15 x16 x17 x18 x19 x20 z21 z22 z23 z24 z25 x26 x27 x28 x29 x30 z31 z32 z33 z34) ∧ Inv m z21 z22 h nx) ?_ hm ⟨_, _, _, _, _, _, _, _, _, rfl, hi⟩
 rintro m tm h nx R ⟨z21, z22, z23, z24, z25, z31, z32, z33, z34, rfl, hi⟩ hR
 rw [F9.e13]
 exact step m z21 z22 z23 z24 z25 z31 z32 z33 z34 h nx R hi fun m' w21 w22 w23 w24 w25 w31 w32 w33 w34 h' nx' hlt hi' => hR m' _ h' nx' hlt ⟨_, _, _, _, _, _, _, _, _, rfl, hi'⟩
theorem F9.k35 : IR.run F9.b35 C N (fnO F9.res K0) K (F9.fr x0 x1 x2 x3 x4 x5 x6 x7 x8 x9 x10 x11 x12 x13 x14 x15 x16 x17 x18 x19 x20 x21 x22 x23 x24 x25 x26 x27 x28 x29 x30 x31 x32 x33 x34) h nx =
 sBin .eql .int x21 x6 fun v1 =>
 sGW v1 true (fun k => C.fn 18 (.of 18) [] h nx k) h nx fun v2 h3 n4 =>
 yV v1 v2 (.bool false) fun v5 =>
 K0 v5 h3 n4 := by kernel_rfl
theorem F9.k34 {E2 : Ks Prop} : IR.run F9.b34 C N ((fnO F9.res K0).blk 2 E2) K (F9.fr x0 x1 x2 x3 x4 x5 x6 x7 x8 x9 x10 x11 x12 x13 x14 x15 x16 x17 x18 x19 x20 x21 x22 x23 x24 x25 x26 x27 x28 x29 x30 x31 x32 x33 x34) h nx =
 sBin .add .int x22 (I 1) fun v1 =>
 K (F9.fr x0 x1 x2 x3 x4 x5 x6 x7 x8 x9 x10 x11 x12 x13 x14 x15 x16 x17 x18 x19 x20 x21 v1 x23 x24 x25 x26 x27 x28 x29 x30 x31 x32 x33 x34) h nx := by kernel_rfl
theorem F9.e19 {E2 E3 : Ks Prop} : IR.run F9.b21 C N ((((fnO F9.res K0).blk 2 E2).blk 3 E3).blk 4 K) R (F9.fr x0 x1 x2 x3 x4 x5 x6 x7 x8 x9 x10 x11 x12 x13 x14 x15 x16 x17 x18 x19 x20 x21 x22 x23 x24 x25 x26 x27 x28 x29 x30 x31 x32 x33 x34) h nx =
 sLen x18 fun v1 =>
 sBin .lss .int x23 v1 fun v2 =>
 zJ v2 (zK 1 x13 x22 fun v3 =>
 zE v3 h fun v4 =>
 sLen v4 fun v5 =>
 zM 1 x3 fun v6 =>
 zE v6 h fun v7 =>
 sLen v7 fun v8 =>
 sBin .eql .int v5 v8 fun v9 =>
 sG v9 true (fun k => k x18) fun v10 =>
 sG v9 true (fun k => k x23) fun v11 =>
 sG v9 true (fun k => zK 1 v10 v11 k) fun v12 =>
 sG v9 true (fun k => zE v12 h k) fun v13 =>
 sG v9 true (fun k => sLen v13 k) fun v14 =>
 sG v9 true (fun k => zM 1 x3 k) fun v15 =>
 sG v9 true (fun k => zE v15 h k) fun v16 =>
 sG v9 true (fun k => sLen v16 k) fun v17 =>
 sG v9 true (fun k => sBin .eql .int v14 v17 k) fun v18 =>
 yV v9 v18 (.bool false) fun v19 =>
 IR.run F9.b25 C N (((((fnO F9.res K0).blk 2 E2).blk 3 E3).blk 4 K).blk 5 (IR.run F9.b33 C N ((((fnO F9.res K0).blk 2 E2).blk 3 E3).blk 4 K) R)) (IR.run F9.b32 C N (((((fnO F9.res K0).blk 2 E2).blk 3 E3).blk 4 K).blk 5 (IR.run F9.b33 C N ((((fnO F9.res K0).blk 2 E2).blk 3 E3).blk 4 K) R)) (IR.run F9.b33 C N ((((fnO F9.res K0).blk 2 E2).blk 3 E3).blk 4 K) R)) (F9.fr x0 x1 x2 x3 x4 x5 x6 x7 x8 x9 x10 x11 x12 x13 x14 x15 x16 x17 x18 x19 x20 x21 x22 x23 v19 (I 0) x26 x27 x28 x29 x30 x31 v2 x33 x34) h nx) (K (F9.fr x0 x1 x2 x3 x4 x5 x6 x7 x8 x9 x10 x11 x12 x13 x14 x15 x16 x17 x18 x19 x20 x21 x22 x23 x24 x25 x26 x27 x28 x29 x30 x31 v2 x33 x34) h nx) := by kernel_rfl
theorem F9.L19 {E2 E3 : Ks Prop} (Inv : Nat → AV → AV → T Blk → Pa → Prop) {m : Nat} (hm : m < N) (hi : Inv m x21 x23 h nx)
  (step : ∀ (m : Nat) (z21 z23 z24 z25 z32 z33 z34 : AV) (h : T Blk) (nx : Pa) (R : Ks Prop), Inv m z21 z23 h nx → (∀ (m' : Nat) (w21 w23 w24 w25 w32 w33 w34 : AV) (h' : T Blk) (nx' : Pa), m' < m → Inv m' w21 w23 h' nx' → R (F9.fr x0 x1 x2 x3 x4 x5 x6 x7 x8 x9 x10 x11 x12 x13 x14 x15 x16 x17 x18 x19 x20 w21 x22 w23 w24 w25 x26 x27 x28 x29 x30 x31 w32 w33 w34) h' nx' = .ok True) →
   (sLen x18 fun v1 =>
 sBin .lss .int z23 v1 fun v2 =>
 zJ v2 (zK 1 x13 x22 fun v3 =>
 zE v3 h fun v4 =>
 sLen v4 fun v5 =>
 zM 1 x3 fun v6 =>
 zE v6 h fun v7 =>
 sLen v7 fun v8 =>
 sBin .eql .int v5 v8 fun v9 =>
 sG v9 true (fun k => k x18) fun v10 =>
 sG v9 true (fun k => k z23) fun v11 =>
 sG v9 true (fun k => zK 1 v10 v11 k) fun v12 =>
 sG v9 true (fun k => zE v12 h k) fun v13 =>
 sG v9 true (fun k => sLen v13 k) fun v14 =>
 sG v9 true (fun k => zM 1 x3 k) fun v15 =>
 sG v9 true (fun k => zE v15 h k) fun v16 =>
 sG v9 true (fun k => sLen v16 k) fun v17 =>
 sG v9 true (fun k => sBin .eql .int v14 v17 k) fun v18 =>
 yV v9 v18 (.bool false) fun v19 =>
 IR.run F9.b25 C N (((((fnO F9.res K0).blk 2 E2).blk 3 E3).blk 4 K).blk 5 (IR.run F9.b33 C N ((((fnO F9.res K0).blk 2 E2).blk 3 E3).blk 4 K) R)) (IR.run F9.b32 C N (((((fnO F9.res K0).blk 2 E2).blk 3 E3).blk 4 K).blk 5 (IR.run F9.b33 C N ((((fnO F9.res K0).blk 2 E2).blk 3 E3).blk 4 K) R)) (IR.run F9.b33 C N ((((fnO F9.res K0).blk 2 E2).blk 3 E3).blk 4 K) R)) (F9.fr x0 x1 x2 x3 x4 x5 x6 x7 x8 x9 x10 x11 x12 x13 x14 x15 x16 x17 x18 x19 x20 z21 x22 z23 v19 (I 0) x26 x27 x28 x29 x30 x31 v2 z33 z34) h nx) (K (F9.fr x0 x1 x2 x3 x4 x5 x6 x7 x8 x9 x10 x11 x12 x13 x14 x15 x16 x17 x18 x19 x20 z21 x22 z23 z24 z25 x26 x27 x28 x29 x30 x31 v2 z33 z34) h nx)) = .ok True) :
  IR.run F9.b19 C N (((fnO F9.res K0).blk 2 E2).blk 3 E3) K (F9.fr x0 x1 x2 x3 x4 x5 x6 x7 x8 x9 x10 x11 x12 x13 x14 x15 x16 x17 x18 x19 x20 x21 x22 x23 x24 x25 x26 x27 x28 x29 x30 x31 x32 x33 x34) h nx = .ok True := by
 rw [F9.b19, F9.g19_eq, F9.b20]
 refine yL (fun m tm h nx => ∃ z21 z23 z24 z25 z32 z33 z34, tm = (F9.fr x0 x1 x2 x3 x4 x5 x6 x7 x8 x9 x10 x11 x12 x13 x14 x15 x16 x17 x18 x19 x20 z21 x22 z23 z24 z25 x26 x27 x28 x29 x30 x31 z32 z33 z34) ∧ Inv m z21 z23 h nx) ?_ hm ⟨_, _, _, _, _, _, _, rfl, hi⟩
 rintro m tm h nx R ⟨z21, z23, z24, z25, z32, z33, z34, rfl, hi⟩ hR
 rw [F9.e19]
 exact step m z21 z23 z24 z25 z32 z33 z34 h nx R hi fun m' w21 w23 w24 w25 w32 w33 w34 h' nx' hlt hi' => hR m' _ h' nx' hlt ⟨_, _, _, _, _, _, _, rfl, hi'⟩
theorem F9.k33 {E2 E3 E4 : Ks Prop} : IR.run F9.b33 C N ((((fnO F9.res K0).blk 2 E2).blk 3 E3).blk 4 E4) K (F9.fr x0 x1 x2 x3 x4 x5 x6 x7 x8 x9 x10 x11 x12 x13 x14 x15 x16 x17 x18 x19 x20 x21 x22 x23 x24 x25 x26 x27 x28 x29 x30 x31 x32 x33 x34) h nx =
 sBin .add .int x23 (I 1) fun v1 =>
 K (F9.fr x0 x1 x2 x3 x4 x5 x6 x7 x8 x9 x10 x11 x12 x13 x14 x15 x16 x17 x18 x19 x20 x21 x22 v1 x24 x25 x26 x27 x28 x29 x30 x31 x32 x33 x34) h nx := by kernel_rfl
theorem F9.e25 {E2 E3 E4 E5 : Ks Prop} : IR.run F9.b27 C N ((((((fnO F9.res K0).blk 2 E2).blk 3 E3).blk 4 E4).blk 5 E5).blk 6 K) R (F9.fr x0 x1 x2 x3 x4 x5 x6 x7 x8 x9 x10 x11 x12 x13 x14 x15 x16 x17 x18 x19 x20 x21 x22 x23 x24 x25 x26 x27 x28 x29 x30 x31 x32 x33 x34) h nx =
 sG x24 true (fun k => k x25) fun v1 =>
 sG x24 true (fun k => zM 1 x3 k) fun v2 =>
 sG x24 true (fun k => zE v2 h k) fun v3 =>
 sG x24 true (fun k => sLen v3 k) fun v4 =>
 sG x24 true (fun k => sBin .lss .int v1 v4 k) fun v5 =>
 yV x24 v5 (.bool false) fun v6 =>
 zJ v6 ((IR.run F9.b28 C N ((((((fnO F9.res K0).blk 2 E2).blk 3 E3).blk 4 E4).blk 5 E5).blk 6 K) R) (F9.fr x0 x1 x2 x3 x4 x5 x6 x7 x8 x9 x10 x11 x12 x13 x14 x15 x16 x17 x18 x19 x20 x21 x22 x23 x24 x25 x26 x27 x28 x29 x30 x31 x32 v6 x34) h nx) (K (F9.fr x0 x1 x2 x3 x4 x5 x6 x7 x8 x9 x10 x11 x12 x13 x14 x15 x16 x17 x18 x19 x20 x21 x22 x23 x24 x25 x26 x27 x28 x29 x30 x31 x32 v6 x34) h nx) := by kernel_rfl
theorem F9.L25 {E2 E3 E4 E5 : Ks Prop} (Inv : Nat → AV → AV → T Blk → Pa → Prop) {m : Nat} (hm : m < N) (hi : Inv m x24 x25 h nx)
  (step : ∀ (m : Nat) (z24 z25 z33 : AV) (h : T Blk) (nx : Pa) (R : Ks Prop), Inv m z24 z25 h nx → (∀ (m' : Nat) (w24 w25 w33 : AV) (h' : T Blk) (nx' : Pa), m' < m → Inv m' w24 w25 h' nx' → R (F9.fr x0 x1 x2 x3 x4 x5 x6 x7 x8 x9 x10 x11 x12 x13 x14 x15 x16 x17 x18 x19 x20 x21 x22 x23 w24 w25 x26 x27 x28 x29 x30 x31 x32 w33 x34) h' nx' = .ok True) →
   (sG z24 true (fun k => k z25) fun v1 =>
 sG z24 true (fun k => zM 1 x3 k) fun v2 =>
 sG z24 true (fun k => zE v2 h k) fun v3 =>
 sG z24 true (fun k => sLen v3 k) fun v4 =>
 sG z24 true (fun k => sBin .lss .int v1 v4 k) fun v5 =>
 yV z24 v5 (.bool false) fun v6 =>
 zJ v6 ((IR.run F9.b28 C N ((((((fnO F9.res K0).blk 2 E2).blk 3 E3).blk 4 E4).blk 5 E5).blk 6 K) R) (F9.fr x0 x1 x2 x3 x4 x5 x6 x7 x8 x9 x10 x11 x12 x13 x14 x15 x16 x17 x18 x19 x20 x21 x22 x23 z24 z25 x26 x27 x28 x29 x30 x31 x32 v6 x34) h nx) (K (F9.fr x0 x1 x2 x3 x4 x5 x6 x7 x8 x9 x10 x11 x12 x13 x14 x15 x16 x17 x18 x19 x20 x21 x22 x23 z24 z25 x26 x27 x28 x29 x30 x31 x32 v6 x34) h nx)) = .ok True) :
  IR.run F9.b25 C N (((((fnO F9.res K0).blk 2 E2).blk 3 E3).blk 4 E4).blk 5 E5) K (F9.fr x0 x1 x2 x3 x4 x5 x6 x7 x8 x9 x10 x11 x12 x13 x14 x15 x16 x17 x18 x19 x20 x21 x22 x23 x24 x25 x26 x27 x28 x29 x30 x31 x32 x33 x34) h nx = .ok True := by
 rw [F9.b25, F9.g25_eq, F9.b26]
 refine yL (fun m tm h nx => ∃ z24 z25 z33, tm = (F9.fr x0 x1 x2 x3 x4 x5 x6 x7 x8 x9 x10 x11 x12 x13 x14 x15 x16 x17 x18 x19 x20 x21 x22 x23 z24 z25 x26 x27 x28 x29 x30 x31 x32 z33 x34) ∧ Inv m z24 z25 h nx) ?_ hm ⟨_, _, _, rfl, hi⟩
 rintro m tm h nx R ⟨z24, z25, z33, rfl, hi⟩ hR
 rw [F9.e25]
 exact step m z24 z25 z33 h nx R hi fun m' w24 w25 w33 h' nx' hlt hi' => hR m' _ h' nx' hlt ⟨_, _, _, rfl, hi'⟩
theorem F9.k32 {E2 E3 E4 E5 : Ks Prop} : IR.run F9.b32 C N (((((fnO F9.res K0).blk 2 E2).blk 3 E3).blk 4 E4).blk 5 E5) K (F9.fr x0 x1 x2 x3 x4 x5 x6 x7 x8 x9 x10 x11 x12 x13 x14 x15 x16 x17 x18 x19 x20 x21 x22 x23 x24 x25 x26 x27 x28 x29 x30 x31 x32 x33 x34) h nx =
 zJ x24 (zK 1 x14 x22 fun v1 =>
 zE v1 h fun v2 =>
 zK 1 x19 x23 fun v3 =>
 zE v3 h fun v4 =>
 sBin .mul .int v2 v4 fun v5 =>
 sBin .add .int x21 v5 fun v6 =>
 K (F9.fr x0 x1 x2 x3 x4 x5 x6 x7 x8 x9 x10 x11 x12 x13 x14 x15 x16 x17 x18 x19 x20 v6 x22 x23 x24 x25 x26 x27 x28 x29 x30 x31 x32 x33 x24) h nx) (K (F9.fr x0 x1 x2 x3 x4 x5 x6 x7 x8 x9 x10 x11 x12 x13 x14 x15 x16 x17 x18 x19 x20 x21 x22 x23 x24 x25 x26 x27 x28 x29 x30 x31 x32 x33 x24) h nx) := by kernel_rfl
theorem F9.k28 {E2 E3 E4 E5 E6 : Ks Prop} : IR.run F9.b28 C N ((((((fnO F9.res K0).blk 2 E2).blk 3 E3).blk 4 E4).blk 5 E5).blk 6 E6) K (F9.fr x0 x1 x2 x3 x4 x5 x6 x7 x8 x9 x10 x11 x12 x13 x14 x15 x16 x17 x18 x19 x20 x21 x22 x23 x24 x25 x26 x27 x28 x29 x30 x31 x32 x33 x34) h nx =
 zK 1 x13 x22 fun v1 =>
 zE v1 h fun v2 =>
 zK 1 v2 x25 fun v3 =>
 zE v3 h fun v4 =>
 zK 1 x18 x23 fun v5 =>
 zE v5 h fun v6 =>
 zK 1 v6 x25 fun v7 =>
 zE v7 h fun v8 =>
 sBin .add .int v4 v8 fun v9 =>
 sBin .eql .int v9 x5 fun v10 =>
 sBin .add .int x25 (I 1) fun v11 =>
 K (F9.fr x0 x1 x2 x3 x4 x5 x6 x7 x8 x9 x10 x11 x12 x13 x14 x15 x16 x17 x18 x19 x20 x21 x22 x23 v10 v11 x26 x27 x28 x29 x30 x31 x32 x33 x34) h nx := by kernel_rfl
theorem F46.g7_eq (X8 : IR) (C : Calls Prop) (N : Nat) (O : Outs Prop) (K : Ks Prop) (x0 x1 x2 x3 x4 x5 x6 x7 x8 x9 x10 x11 x12 x13 : AV) (h : T Blk) (nx : Pa) : IR.run (F46.g7 X8) C N O K (F46.fr x0 x1 x2 x3 x4 x5 x6 x7 x8 x9 x10 x11 x12 x13) h nx =
 IR.run X8 C N (O.blk 2 K) K (F46.fr x0 x1 x2 x3 x4 x5 x6 x7 x8 x9 x10 x11 x12 x13) h nx := by kernel_rfl
theorem F46.g15_eq (X16 : IR) (C : Calls Prop) (N : Nat) (O : Outs Prop) (K : Ks Prop) (x0 x1 x2 x3 x4 x5 x6 x7 x8 x9 x10 x11 x12 x13 : AV) (h : T Blk) (nx : Pa) : IR.run (F46.g15 X16) C N O K (F46.fr x0 x1 x2 x3 x4 x5 x6 x7 x8 x9 x10 x11 x12 x13) h nx =
 IR.run X16 C N (O.blk 4 K) K (F46.fr x0 x1 x2 x3 x4 x5 x6 x7 x8 x9 x10 x11 x12 x13) h nx := by kernel_rfl
theorem F46.g1_eq (X2 : IR) (C : Calls Prop) (N : Nat) (O : Outs Prop) (K : Ks Prop) (x0 x1 x2 x3 x4 x5 x6 x7 x8 x9 x10 x11 x12 x13 : AV) (h : T Blk) (nx : Pa) : IR.run (F46.g1 X2) C N O K (F46.fr x0 x1 x2 x3 x4 x5 x6 x7 x8 x9 x10 x11 x12 x13) h nx =
 IR.run X2 C N (O.blk 0 K) K (F46.fr x0 x1 x2 x3 x4 x5 x6 x7 x8 x9 x10 x11 x12 x13) h nx := by kernel_rfl
theorem F46.tab : T.get none (.of 46) tbl = some F46 := by kernel_rfl
theorem F46.go : yJ tbl N C (.of 46) [a0, a1] h nx K0 =
 sBox a0 h nx fun v1 h2 n3 =>
 gG [(I 0), .nils] h2 n3 fun v4 h5 n6 =>
 zM 0 v1 fun v7 =>
 zE v7 h5 fun v8 =>
 sBuild [(I 0), .nils] [(0, 1, v8)] fun v9 =>
 gG [(I 0), .nils] h5 n6 fun v10 h11 n12 =>
 yU 2 v10 v9 h11 n12 fun v13 h14 n15 =>
 IR.run F46.b1 C N (fnO F46.res K0) (IR.run F46.b24 C N (fnO F46.res K0) (retK F46.res K0)) (F46.fr a0 a1 v1 v4 v10 (I 0) .undef .undef .undef .undef .undef .undef .undef .undef) h14 n15 := by
 rw [zW F46.tab]; kernel_rfl
theorem F46.e1 : IR.run F46.b3 C N ((fnO F46.res K0).blk 0 K) R (F46.fr x0 x1 x2 x3 x4 x5 x6 x7 x8 x9 x10 x11 x12 x13) h nx =
 zM 1 x2 fun v1 =>
 zE v1 h fun v2 =>
 sLen v2 fun v3 =>
 sBin .lss .int x5 v3 fun v4 =>
 zJ v4 (zM 0 x2 fun v5 =>
 zE v5 h fun v6 =>
 gX 1 1 [(.bool false)] v6 v6 h nx fun v7 h8 n9 =>
 IR.run F46.b7 C N (((fnO F46.res K0).blk 0 K).blk 1 (IR.run F46.b23 C N ((fnO F46.res K0).blk 0 K) R)) (IR.run F46.b14 C N (((fnO F46.res K0).blk 0 K).blk 1 (IR.run F46.b23 C N ((fnO F46.res K0).blk 0 K) R)) (IR.run F46.b23 C N ((fnO F46.res K0).blk 0 K) R)) (F46.fr x0 x1 x2 x3 x4 x5 v7 (I 0) x8 x9 v4 x11 x12 x13) h8 n9) (K (F46.fr x0 x1 x2 x3 x4 x5 x6 x7 x8 x9 v4 x11 x12 x13) h nx) := by kernel_rfl
theorem F46.L1 (Inv : Nat → AV → T Blk → Pa → Prop) {m : Nat} (hm : m < N) (hi : Inv m x5 h nx)
  (step : ∀ (m : Nat) (z5 z6 z7 z8 z9 z10 z11 z12 z13 : AV) (h : T Blk) (nx : Pa) (R : Ks Prop), Inv m z5 h nx → (∀ (m' : Nat) (w5 w6 w7 w8 w9 w10 w11 w12 w13 : AV) (h' : T Blk) (nx' : Pa), m' < m → Inv m' w5 h' nx' → R (F46.fr x0 x1 x2 x3 x4 w5 w6 w7 w8 w9 w10 w11 w12 w13) h' nx' = .ok True) →
   (zM 1 x2 fun v1 =>
 zE v1 h fun v2 =>
 sLen v2 fun v3 =>
 sBin .lss .int z5 v3 fun v4 =>
 zJ v4 (zM 0 x2 fun v5 =>
 zE v5 h fun v6 =>
 gX 1 1 [(.bool false)] v6 v6 h nx fun v7 h8 n9 =>
 IR.run F46.b7 C N (((fnO F46.res K0).blk 0 K).blk 1 (IR.run F46.b23 C N ((fnO F46.res K0).blk 0 K) R)) (IR.run F46.b14 C N (((fnO F46.res K0).blk 0 K).blk 1 (IR.run F46.b23 C N ((fnO F46.res K0).blk 0 K) R)) (IR.run F46.b23 C N ((fnO F46.res K0).blk 0 K) R)) (F46.fr x0 x1 x2 x3 x4 z5 v7 (I 0) z8 z9 v4 z11 z12 z13) h8 n9) (K (F46.fr x0 x1 x2 x3 x4 z5 z6 z7 z8 z9 v4 z11 z12 z13) h nx)) = .ok True) :
  IR.run F46.b1 C N (fnO F46.res K0) K (F46.fr x0 x1 x2 x3 x4 x5 x6 x7 x8 x9 x10 x11 x12 x13) h nx = .ok True := by
 rw [F46.b1, F46.g1_eq, F46.b2]
 refine yL (fun m tm h nx => ∃ z5 z6 z7 z8 z9 z10 z11 z12 z13, tm = (F46.fr x0 x1 x2 x3 x4 z5 z6 z7 z8 z9 z10 z11 z12 z13) ∧ Inv m z5 h nx) ?_ hm ⟨_, _, _, _, _, _, _, _, _, rfl, hi⟩
 rintro m tm h nx R ⟨z5, z6, z7, z8, z9, z10, z11, z12, z13, rfl, hi⟩ hR
 rw [F46.e1]
 exact step m z5 z6 z7 z8 z9 z10 z11 z12 z13 h nx R hi fun m' w5 w6 w7 w8 w9 w10 w11 w12 w13 h' nx' hlt hi' => hR m' _ h' nx' hlt ⟨_, _, _, _, _, _, _, _, _, rfl, hi'⟩
theorem F46.k24 : IR.run F46.b24 C N (fnO F46.res K0) K (F46.fr x0 x1 x2 x3 x4 x5 x6 x7 x8 x9 x10 x11 x12 x13) h nx =
 jG 2 x4 h fun v1 =>
 yU 2 x3 v1 h nx fun v2 h3 n4 =>
 jG 2 x3 h3 fun v5 => K0 v5 h3 n4 := by kernel_rfl
theorem F46.k23 {E0 : Ks Prop} : IR.run F46.b23 C N ((fnO F46.res K0).blk 0 E0) K (F46.fr x0 x1 x2 x3 x4 x5 x6 x7 x8 x9 x10 x11 x12 x13) h nx =
 sBin .add .int x5 (I 1) fun v1 =>
 K (F46.fr x0 x1 x2 x3 x4 v1 x6 x7 x8 x9 x10 x11 x12 x13) h nx := by kernel_rfl
theorem F46.e7 {E0 E1 : Ks Prop} : IR.run F46.b9 C N ((((fnO F46.res K0).blk 0 E0).blk 1 E1).blk 2 K) R (F46.fr x0 x1 x2 x3 x4 x5 x6 x7 x8 x9 x10 x11 x12 x13) h nx =
 zM 1 x2 fun v1 =>
 zE v1 h fun v2 =>
 zK 1 v2 x5 fun v3 =>
 zE v3 h fun v4 =>
 sLen v4 fun v5 =>
 sBin .lss .int x7 v5 fun v6 =>
 zJ v6 (zM 1 x2 fun v7 =>
 zE v7 h fun v8 =>
 zK 1 v8 x5 fun v9 =>
 zE v9 h fun v10 =>
 zK 1 v10 x7 fun v11 =>
 zE v11 h fun v12 =>
 zK 1 x1 v12 fun v13 =>
 zE v13 h fun v14 =>
 zK 1 x6 v14 fun v15 =>
 yU 1 v15 (.bool true) h nx fun v16 h17 n18 =>
 sBin .add .int x7 (I 1) fun v19 =>
 R (F46.fr x0 x1 x2 x3 x4 x5 x6 v19 x8 x9 x10 v6 x12 x13) h17 n18) (K (F46.fr x0 x1 x2 x3 x4 x5 x6 x7 x8 x9 x10 v6 x12 x13) h nx) := by kernel_rfl
theorem F46.L7 {E0 E1 : Ks Prop} (Inv : Nat → AV → T Blk → Pa → Prop) {m : Nat} (hm : m < N) (hi : Inv m x7 h nx)
  (step : ∀ (m : Nat) (z7 z11 : AV) (h : T Blk) (nx : Pa) (R : Ks Prop), Inv m z7 h nx → (∀ (m' : Nat) (w7 w11 : AV) (h' : T Blk) (nx' : Pa), m' < m → Inv m' w7 h' nx' → R (F46.fr x0 x1 x2 x3 x4 x5 x6 w7 x8 x9 x10 w11 x12 x13) h' nx' = .ok True) →
   (zM 1 x2 fun v1 =>
 zE v1 h fun v2 =>
 zK 1 v2 x5 fun v3 =>
 zE v3 h fun v4 =>
 sLen v4 fun v5 =>
 sBin .lss .int z7 v5 fun v6 =>
 zJ v6 (zM 1 x2 fun v7 =>
 zE v7 h fun v8 =>
 zK 1 v8 x5 fun v9 =>
 zE v9 h fun v10 =>
 zK 1 v10 z7 fun v11 =>
 zE v11 h fun v12 =>
 zK 1 x1 v12 fun v13 =>
 zE v13 h fun v14 =>
 zK 1 x6 v14 fun v15 =>
 yU 1 v15 (.bool true) h nx fun v16 h17 n18 =>
 sBin .add .int z7 (I 1) fun v19 =>
 R (F46.fr x0 x1 x2 x3 x4 x5 x6 v19 x8 x9 x10 v6 x12 x13) h17 n18) (K (F46.fr x0 x1 x2 x3 x4 x5 x6 z7 x8 x9 x10 v6 x12 x13) h nx)) = .ok True) :
  IR.run F46.b7 C N (((fnO F46.res K0).blk 0 E0).blk 1 E1) K (F46.fr x0 x1 x2 x3 x4 x5 x6 x7 x8 x9 x10 x11 x12 x13) h nx = .ok True := by
 rw [F46.b7, F46.g7_eq, F46.b8]
 refine yL (fun m tm h nx => ∃ z7 z11, tm = (F46.fr x0 x1 x2 x3 x4 x5 x6 z7 x8 x9 x10 z11 x12 x13) ∧ Inv m z7 h nx) ?_ hm ⟨_, _, rfl, hi⟩
 rintro m tm h nx R ⟨z7, z11, rfl, hi⟩ hR
 rw [F46.e7]
 exact step m z7 z11 h nx R hi fun m' w7 w11 h' nx' hlt hi' => hR m' _ h' nx' hlt ⟨_, _, rfl, hi'⟩
theorem F46.k14 {E0 E1 : Ks Prop} : IR.run F46.b14 C N (((fnO F46.res K0).blk 0 E0).blk 1 E1) K (F46.fr x0 x1 x2 x3 x4 x5 x6 x7 x8 x9 x10 x11 x12 x13) h nx =
 IR.run F46.b15 C N (((fnO F46.res K0).blk 0 E0).blk 1 E1) (IR.run F46.b22 C N (((fnO F46.res K0).blk 0 E0).blk 1 E1) K) (F46.fr x0 x1 x2 x3 x4 x5 x6 x7 .nils (I 0) x10 x11 x12 x13) h nx := by kernel_rfl
theorem F46.e15 {E0 E1 : Ks Prop} : IR.run F46.b17 C N ((((fnO F46.res K0).blk 0 E0).blk 1 E1).blk 4 K) R (F46.fr x0 x1 x2 x3 x4 x5 x6 x7 x8 x9 x10 x11 x12 x13) h nx =
 zM 0 x2 fun v1 =>
 zE v1 h fun v2 =>
 sBin .lss .int x9 v2 fun v3 =>
 zJ v3 (zK 1 x6 x9 fun v4 =>
 zE v4 h fun v5 =>
 zJ v5 (jA 1 1 [(I 0)] [(0, 1, x9)] h nx fun v6 h7 n8 =>
 sApp 1 8 x8 v6 h7 n8 fun v9 h10 n11 =>
 sBin .add .int x9 (I 1) fun v12 =>
 R (F46.fr x0 x1 x2 x3 x4 x5 x6 x7 v9 v12 x10 x11 v3 v5) h10 n11) (sBin .add .int x9 (I 1) fun v13 =>
 R (F46.fr x0 x1 x2 x3 x4 x5 x6 x7 x8 v13 x10 x11 v3 v5) h nx)) (K (F46.fr x0 x1 x2 x3 x4 x5 x6 x7 x8 x9 x10 x11 v3 x13) h nx) := by kernel_rfl
theorem F46.L15 {E0 E1 : Ks Prop} (Inv : Nat → AV → AV → T Blk → Pa → Prop) {m : Nat} (hm : m < N) (hi : Inv m x8 x9 h nx)
  (step : ∀ (m : Nat) (z8 z9 z12 z13 : AV) (h : T Blk) (nx : Pa) (R : Ks Prop), Inv m z8 z9 h nx → (∀ (m' : Nat) (w8 w9 w12 w13 : AV) (h' : T Blk) (nx' : Pa), m' < m → Inv m' w8 w9 h' nx' → R (F46.fr x0 x1 x2 x3 x4 x5 x6 x7 w8 w9 x10 x11 w12 w13) h' nx' = .ok True) →
   (zM 0 x2 fun v1 =>
 zE v1 h fun v2 =>
 sBin .lss .int z9 v2 fun v3 =>
 zJ v3 (zK 1 x6 z9 fun v4 =>
 zE v4 h fun v5 =>
 zJ v5 (jA 1 1 [(I 0)] [(0, 1, z9)] h nx fun v6 h7 n8 =>
 sApp 1 8 z8 v6 h7 n8 fun v9 h10 n11 =>
 sBin .add .int z9 (I 1) fun v12 =>
 R (F46.fr x0 x1 x2 x3 x4 x5 x6 x7 v9 v12 x10 x11 v3 v5) h10 n11) (sBin .add .int z9 (I 1) fun v13 =>
 R (F46.fr x0 x1 x2 x3 x4 x5 x6 x7 z8 v13 x10 x11 v3 v5) h nx)) (K (F46.fr x0 x1 x2 x3 x4 x5 x6 x7 z8 z9 x10 x11 v3 z13) h nx)) = .ok True) :
  IR.run F46.b15 C N (((fnO F46.res K0).blk 0 E0).blk 1 E1) K (F46.fr x0 x1 x2 x3 x4 x5 x6 x7 x8 x9 x10 x11 x12 x13) h nx = .ok True := by
 rw [F46.b15, F46.g15_eq, F46.b16]
 refine yL (fun m tm h nx => ∃ z8 z9 z12 z13, tm = (F46.fr x0 x1 x2 x3 x4 x5 x6 x7 z8 z9 x10 x11 z12 z13) ∧ Inv m z8 z9 h nx) ?_ hm ⟨_, _, _, _, rfl, hi⟩
 rintro m tm h nx R ⟨z8, z9, z12, z13, rfl, hi⟩ hR
 rw [F46.e15]
 exact step m z8 z9 z12 z13 h nx R hi fun m' w8 w9 w12 w13 h' nx' hlt hi' => hR m' _ h' nx' hlt ⟨_, _, _, _, rfl, hi'⟩
theorem F46.k22 {E0 E1 : Ks Prop} : IR.run F46.b22 C N (((fnO F46.res K0).blk 0 E0).blk 1 E1) K (F46.fr x0 x1 x2 x3 x4 x5 x6 x7 x8 x9 x10 x11 x12 x13) h nx =
 zM 1 x4 fun v1 =>
 zE v1 h fun v2 =>
 jA 1 1 [.nils] [(0, 1, x8)] h nx fun v3 h4 n5 =>
 sApp 1 24 v2 v3 h4 n5 fun v6 h7 n8 =>
 zM 1 x4 fun v9 =>
 yU 1 v9 v6 h7 n8 fun v10 h11 n12 =>
 K (F46.fr x0 x1 x2 x3 x4 x5 x6 x7 x8 x9 x10 x11 x12 x13) h11 n12 := by kernel_rfl
end Go.Ev
namespace Go.Ev
open Go Go.Proofs
set_option maxRecDepth 100000
variable {N : Nat} {C : Calls Prop} {K0 : Kw Prop} {K R : Ks Prop} {h : T Blk} {nx : Pa} {x0 x1 x2 x3 x4 x5 x6 x7 x8 x9 x10 x11 x12 x13 x14 x15 x16 x17 x18 x19 x20 x21 x22 x23 x24 x25 x26 x27 x28 x29 x30 x31 x32 a0 a1 a2 a3 : AV}
theorem F33.g8_eq (X9 : IR) (C : Calls Prop) (N : Nat) (O : Outs Prop) (K : Ks Prop) (x0 x1 x2 x3 x4 x5 x6 x7 x8 x9 x10 x11 x12 x13 x14 x15 x16 x17 x18 x19 x20 x21 x22 x23 x24 x25 x26 x27 x28 x29 x30 x31 x32 : AV) (h : T Blk) (nx : Pa) : IR.run (F33.g8 X9) C N O K (F33.fr x0 x1 x2 x3 x4 x5 x6 x7 x8 x9 x10 x11 x12 x13 x14 x15 x16 x17 x18 x19 x20 x21 x22 x23 x24 x25 x26 x27 x28 x29 x30 x31 x32) h nx =
 IR.run X9 C N (O.blk 2 K) K (F33.fr x0 x1 x2 x3 x4 x5 x6 x7 x8 x9 x10 x11 x12 x13 x14 x15 x16 x17 x18 x19 x20 x21 x22 x23 x24 x25 x26 x27 x28 x29 x30 x31 x32) h nx := by kernel_rfl
theorem F33.g3_eq (X4 : IR) (C : Calls Prop) (N : Nat) (O : Outs Prop) (K : Ks Prop) (x0 x1 x2 x3 x4 x5 x6 x7 x8 x9 x10 x11 x12 x13 x14 x15 x16 x17 x18 x19 x20 x21 x22 x23 x24 x25 x26 x27 x28 x29 x30 x31 x32 : AV) (h : T Blk) (nx : Pa) : IR.run (F33.g3 X4) C N O K (F33.fr x0 x1 x2 x3 x4 x5 x6 x7 x8 x9 x10 x11 x12 x13 x14 x15 x16 x17 x18 x19 x20 x21 x22 x23 x24 x25 x26 x27 x28 x29 x30 x31 x32) h nx =
 IR.run X4 C N (O.blk 0 K) K (F33.fr x0 x1 x2 x3 x4 x5 x6 x7 x8 x9 x10 x11 x12 x13 x14 x15 x16 x17 x18 x19 x20 x21 x22 x23 x24 x25 x26 x27 x28 x29 x30 x31 x32) h nx := by kernel_rfl
theorem F33.g23_eq (X24 : IR) (C : Calls Prop) (N : Nat) (O : Outs Prop) (K : Ks Prop) (x0 x1 x2 x3 x4 x5 x6 x7 x8 x9 x10 x11 x12 x13 x14 x15 x16 x17 x18 x19 x20 x21 x22 x23 x24 x25 x26 x27 x28 x29 x30 x31 x32 : AV) (h : T Blk) (nx : Pa) : IR.run (F33.g23 X24) C N O K (F33.fr x0 x1 x2 x3 x4 x5 x6 x7 x8 x9 x10 x11 x12 x13 x14 x15 x16 x17 x18 x19 x20 x21 x22 x23 x24 x25 x26 x27 x28 x29 x30 x31 x32) h nx =
 IR.run X24 C N (O.blk 6 K) K (F33.fr x0 x1 x2 x3 x4 x5 x6 x7 x8 x9 x10 x11 x12 x13 x14 x15 x16 x17 x18 x19 x20 x21 x22 x23 x24 x25 x26 x27 x28 x29 x30 x31 x32) h nx := by kernel_rfl
theorem F33.g17_eq (X18 : IR) (C : Calls Prop) (N : Nat) (O : Outs Prop) (K : Ks Prop) (x0 x1 x2 x3 x4 x5 x6 x7 x8 x9 x10 x11 x12 x13 x14 x15 x16 x17 x18 x19 x20 x21 x22 x23 x24 x25 x26 x27 x28 x29 x30 x31 x32 : AV) (h : T Blk) (nx : Pa) : IR.run (F33.g17 X18) C N O K (F33.fr x0 x1 x2 x3 x4 x5 x6 x7 x8 x9 x10 x11 x12 x13 x14 x15 x16 x17 x18 x19 x20 x21 x22 x23 x24 x25 x26 x27 x28 x29 x30 x31 x32) h nx =
 IR.run X18 C N (O.blk 4 K) K (F33.fr x0 x1 x2 x3 x4 x5 x6 x7 x8 x9 x10 x11 x12 x13 x14 x15 x16 x17 x18 x19 x20 x21 x22 x23 x24 x25 x26 x27 x28 x29 x30 x31 x32) h nx := by kernel_rfl
theorem F33.tab : T.get none (.of 33) tbl = some F33 := by kernel_rfl
theorem F33.go : yJ tbl N C (.of 33) [a0, a1, a2] h nx K0 =
 sBox a0 h nx fun v1 h2 n3 =>
 jG 2 v1 h2 fun v4 =>
 zM 0 v1 fun v5 =>
 zE v5 h2 fun v6 =>
 sBin .gtr .int v6 (I 16) fun v7 =>
 sBin .lss .int a2 (I 0) fun v8 =>
 C.fn 81 (.of 81) [v4] h2 n3 fun v9 h10 n11 =>
 (sBin .lss .int a2 (I 0) fun v40 => jF v40 v8 (jF a2 a2 ((sBin .gtr .int v6 (I 16) fun v39 => jF v39 v7 ((zE v5 h10 fun v38 => jF v38 v6 ((zM 0 v1 fun v37 => jF v37 v5 (C.fn 82 (.of 82) [v7, (I 20)] h10 n11 fun v12 h13 n14 =>
 (sBin .lss .int a2 (I 0) fun v36 => jF v36 v8 (jF a2 a2 (sG v8 false (fun k => k a2) fun v15 =>
 sG v8 false (fun k => sBin .gtr .int v15 (I 9) k) fun v16 =>
 yV v8 (.bool true) v16 fun v17 =>
 sG v17 false (fun k => k a1) fun v18 =>
 sG v17 false (fun k => sBin .lss .int v18 (I 0) k) fun v19 =>
 yV v17 (.bool true) v19 fun v20 =>
 sG v20 false (fun k => k a1) fun v21 =>
 sG v20 false (fun k => zM 0 v1 k) fun v22 =>
 sG v20 false (fun k => zE v22 h13 k) fun v23 =>
 sG v20 false (fun k => sBin .gtr .int v21 v23 k) fun v24 =>
 yV v20 (.bool true) v24 fun v25 =>
 C.fn 82 (.of 82) [v25, (I 3)] h13 n14 fun v26 h27 n28 =>
 jA 1 3 [(I 0)] [(0, 1, v9), (1, 1, v12), (2, 1, v26)] h27 n28 fun v29 h30 n31 =>
 C.fn 80 (.of 80) [v29] h30 n31 fun v32 h33 n34 =>
 sBin .neq .int v32 (I 0) fun v35 =>
 zJ v35 (K0 (.tup [.nils, .nils, v32]) h33 n34) ((IR.run F33.b1 C N (fnO F33.res K0) (retK F33.res K0)) (F33.fr a0 a1 a2 v1 .nils .nils (I 0) v32 .undef .undef .undef .undef .undef .undef .undef .undef .undef .undef v35 .undef .undef .undef .undef .undef .undef .undef .undef .undef .undef .undef .undef .undef .undef) h33 n34))))))))))))) := by
 rw [zW F33.tab]; kernel_rfl
theorem F33.k1 : IR.run F33.b1 C N (fnO F33.res K0) K (F33.fr x0 x1 x2 x3 x4 x5 x6 x7 x8 x9 x10 x11 x12 x13 x14 x15 x16 x17 x18 x19 x20 x21 x22 x23 x24 x25 x26 x27 x28 x29 x30 x31 x32) h nx =
 C.fn 88 (.of 88) [x1, x2] h nx fun v1 h2 n3 =>
 zJ v1 (K0 (.tup [.nils, .nils, (I 20)]) h2 n3) (jG 2 x3 h2 fun v4 =>
 C.fn 89 (.of 89) [v4, (I 0), x1, x2] h2 n3 fun v5 h6 n7 =>
 sRange v5 h6 n7 fun v8 h9 n10 =>
 IR.run F33.b3 C N (fnO F33.res K0) (IR.run F33.b16 C N (fnO F33.res K0) K) (F33.fr x0 x1 x2 x3 x4 x5 x6 x7 v5 .nils x10 x11 x12 x13 x14 x15 x16 x17 x18 v1 v8 x21 x22 x23 x24 x25 x26 x27 x28 x29 x30 x31 x32) h9 n10) := by kernel_rfl
theorem F33.e3 : IR.run F33.b5 C N ((fnO F33.res K0).blk 0 K) R (F33.fr x0 x1 x2 x3 x4 x5 x6 x7 x8 x9 x10 x11 x12 x13 x14 x15 x16 x17 x18 x19 x20 x21 x22 x23 x24 x25 x26 x27 x28 x29 x30 x31 x32) h nx =
 sNext C x20 h nx fun v1 h2 n3 =>
 sExt 0 v1 fun v4 =>
 zJ v4 (sEntry x20 h2 fun v5 =>
 sExt 0 v5 fun v6 =>
 gG zU h2 n3 fun v7 h8 n9 =>
 yU 128 v7 v6 h8 n9 fun v10 h11 n12 =>
 zM 1 x3 fun v13 =>
 zE v13 h11 fun v14 =>
 sLen v14 fun v15 =>
 gX 1 8 [(I 0)] v15 v15 h11 n12 fun v16 h17 n18 =>
 sLen v16 fun v19 =>
 IR.run F33.b8 C N (((fnO F33.res K0).blk 0 K).blk 1 R) (IR.run F33.b15 C N (((fnO F33.res K0).blk 0 K).blk 1 R) R) (F33.fr x0 x1 x2 x3 x4 x5 x6 x7 x8 x9 v7 v16 x12 x13 x14 x15 x16 x17 x18 x19 x20 v4 v19 (I 0) x24 x25 x26 x27 x28 x29 x30 x31 x32) h17 n18) (K (F33.fr x0 x1 x2 x3 x4 x5 x6 x7 x8 x9 x10 x11 x12 x13 x14 x15 x16 x17 x18 x19 x20 v4 x22 x23 x24 x25 x26 x27 x28 x29 x30 x31 x32) h2 n3) := by kernel_rfl
theorem F33.L3 (Inv : Nat → AV → T Blk → Pa → Prop) {m : Nat} (hm : m < N) (hi : Inv m x9 h nx)
  (step : ∀ (m : Nat) (z9 z10 z11 z12 z21 z22 z23 z24 : AV) (h : T Blk) (nx : Pa) (R : Ks Prop), Inv m z9 h nx → (∀ (m' : Nat) (w9 w10 w11 w12 w21 w22 w23 w24 : AV) (h' : T Blk) (nx' : Pa), m' < m → Inv m' w9 h' nx' → R (F33.fr x0 x1 x2 x3 x4 x5 x6 x7 x8 w9 w10 w11 w12 x13 x14 x15 x16 x17 x18 x19 x20 w21 w22 w23 w24 x25 x26 x27 x28 x29 x30 x31 x32) h' nx' = .ok True) →
   (sNext C x20 h nx fun v1 h2 n3 =>
 sExt 0 v1 fun v4 =>
 zJ v4 (sEntry x20 h2 fun v5 =>
 sExt 0 v5 fun v6 =>
 gG zU h2 n3 fun v7 h8 n9 =>
 yU 128 v7 v6 h8 n9 fun v10 h11 n12 =>
 zM 1 x3 fun v13 =>
 zE v13 h11 fun v14 =>
 sLen v14 fun v15 =>
 gX 1 8 [(I 0)] v15 v15 h11 n12 fun v16 h17 n18 =>
 sLen v16 fun v19 =>
 IR.run F33.b8 C N (((fnO F33.res K0).blk 0 K).blk 1 R) (IR.run F33.b15 C N (((fnO F33.res K0).blk 0 K).blk 1 R) R) (F33.fr x0 x1 x2 x3 x4 x5 x6 x7 x8 z9 v7 v16 z12 x13 x14 x15 x16 x17 x18 x19 x20 v4 v19 (I 0) z24 x25 x26 x27 x28 x29 x30 x31 x32) h17 n18) (K (F33.fr x0 x1 x2 x3 x4 x5 x6 x7 x8 z9 z10 z11 z12 x13 x14 x15 x16 x17 x18 x19 x20 v4 z22 z23 z24 x25 x26 x27 x28 x29 x30 x31 x32) h2 n3)) = .ok True) :
  IR.run F33.b3 C N (fnO F33.res K0) K (F33.fr x0 x1 x2 x3 x4 x5 x6 x7 x8 x9 x10 x11 x12 x13 x14 x15 x16 x17 x18 x19 x20 x21 x22 x23 x24 x25 x26 x27 x28 x29 x30 x31 x32) h nx = .ok True := by
 rw [F33.b3, F33.g3_eq, F33.b4]
 refine yL (fun m tm h nx => ∃ z9 z10 z11 z12 z21 z22 z23 z24, tm = (F33.fr x0 x1 x2 x3 x4 x5 x6 x7 x8 z9 z10 z11 z12 x13 x14 x15 x16 x17 x18 x19 x20 z21 z22 z23 z24 x25 x26 x27 x28 x29 x30 x31 x32) ∧ Inv m z9 h nx) ?_ hm ⟨_, _, _, _, _, _, _, _, rfl, hi⟩
 rintro m tm h nx R ⟨z9, z10, z11, z12, z21, z22, z23, z24, rfl, hi⟩ hR
 rw [F33.e3]
 exact step m z9 z10 z11 z12 z21 z22 z23 z24 h nx R hi fun m' w9 w10 w11 w12 w21 w22 w23 w24 h' nx' hlt hi' => hR m' _ h' nx' hlt ⟨_, _, _, _, _, _, _, _, rfl, hi'⟩
theorem F33.k16 : IR.run F33.b16 C N (fnO F33.res K0) K (F33.fr x0 x1 x2 x3 x4 x5 x6 x7 x8 x9 x10 x11 x12 x13 x14 x15 x16 x17 x18 x19 x20 x21 x22 x23 x24 x25 x26 x27 x28 x29 x30 x31 x32) h nx =
 C.fn 91 (.of 91) [x9, (.fn 92 (.of 92) [])] h nx fun v1 h2 n3 =>
 sLen x9 fun v4 =>
 IR.run F33.b17 C N (fnO F33.res K0) (IR.run F33.b32 C N (fnO F33.res K0) K) (F33.fr x0 x1 x2 x3 x4 x5 x6 x7 x8 x9 x10 x11 x12 .nils x14 x15 x16 x17 x18 x19 x20 x21 x22 x23 x24 x9 v4 (I 0) x28 x29 x30 x31 x32) h2 n3 := by kernel_rfl
theorem F33.e8 {E0 E1 : Ks Prop} : IR.run F33.b10 C N ((((fnO F33.res K0).blk 0 E0).blk 1 E1).blk 2 K) R (F33.fr x0 x1 x2 x3 x4 x5 x6 x7 x8 x9 x10 x11 x12 x13 x14 x15 x16 x17 x18 x19 x20 x21 x22 x23 x24 x25 x26 x27 x28 x29 x30 x31 x32) h nx =
 sBin .lss .int x23 x22 fun v1 =>
 zJ v1 (gT 1 128 x10 x23 fun v2 =>
 zE v2 h fun v3 =>
 sConv .i64 v3 fun v4 =>
 zK 1 x11 x23 fun v5 =>
 yU 1 v5 v4 h nx fun v6 h7 n8 =>
 sBin .add .int x23 (I 1) fun v9 =>
 R (F33.fr x0 x1 x2 x3 x4 x5 x6 x7 x8 x9 x10 x11 x23 x13 x14 x15 x16 x17 x18 x19 x20 x21 x22 v9 v1 x25 x26 x27 x28 x29 x30 x31 x32) h7 n8) (K (F33.fr x0 x1 x2 x3 x4 x5 x6 x7 x8 x9 x10 x11 x12 x13 x14 x15 x16 x17 x18 x19 x20 x21 x22 x23 v1 x25 x26 x27 x28 x29 x30 x31 x32) h nx) := by kernel_rfl
theorem F33.L8 {E0 E1 : Ks Prop} (Inv : Nat → AV → T Blk → Pa → Prop) {m : Nat} (hm : m < N) (hi : Inv m x23 h nx)
  (step : ∀ (m : Nat) (z12 z23 z24 : AV) (h : T Blk) (nx : Pa) (R : Ks Prop), Inv m z23 h nx → (∀ (m' : Nat) (w12 w23 w24 : AV) (h' : T Blk) (nx' : Pa), m' < m → Inv m' w23 h' nx' → R (F33.fr x0 x1 x2 x3 x4 x5 x6 x7 x8 x9 x10 x11 w12 x13 x14 x15 x16 x17 x18 x19 x20 x21 x22 w23 w24 x25 x26 x27 x28 x29 x30 x31 x32) h' nx' = .ok True) →
   (sBin .lss .int z23 x22 fun v1 =>
 zJ v1 (gT 1 128 x10 z23 fun v2 =>
 zE v2 h fun v3 =>
 sConv .i64 v3 fun v4 =>
 zK 1 x11 z23 fun v5 =>
 yU 1 v5 v4 h nx fun v6 h7 n8 =>
 sBin .add .int z23 (I 1) fun v9 =>
 R (F33.fr x0 x1 x2 x3 x4 x5 x6 x7 x8 x9 x10 x11 z23 x13 x14 x15 x16 x17 x18 x19 x20 x21 x22 v9 v1 x25 x26 x27 x28 x29 x30 x31 x32) h7 n8) (K (F33.fr x0 x1 x2 x3 x4 x5 x6 x7 x8 x9 x10 x11 z12 x13 x14 x15 x16 x17 x18 x19 x20 x21 x22 z23 v1 x25 x26 x27 x28 x29 x30 x31 x32) h nx)) = .ok True) :
  IR.run F33.b8 C N (((fnO F33.res K0).blk 0 E0).blk 1 E1) K (F33.fr x0 x1 x2 x3 x4 x5 x6 x7 x8 x9 x10 x11 x12 x13 x14 x15 x16 x17 x18 x19 x20 x21 x22 x23 x24 x25 x26 x27 x28 x29 x30 x31 x32) h nx = .ok True := by
 rw [F33.b8, F33.g8_eq, F33.b9]
 refine yL (fun m tm h nx => ∃ z12 z23 z24, tm = (F33.fr x0 x1 x2 x3 x4 x5 x6 x7 x8 x9 x10 x11 z12 x13 x14 x15 x16 x17 x18 x19 x20 x21 x22 z23 z24 x25 x26 x27 x28 x29 x30 x31 x32) ∧ Inv m z23 h nx) ?_ hm ⟨_, _, _, rfl, hi⟩
 rintro m tm h nx R ⟨z12, z23, z24, rfl, hi⟩ hR
 rw [F33.e8]
 exact step m z12 z23 z24 h nx R hi fun m' w12 w23 w24 h' nx' hlt hi' => hR m' _ h' nx' hlt ⟨_, _, _, rfl, hi'⟩
theorem F33.k15 {E0 E1 : Ks Prop} : IR.run F33.b15 C N (((fnO F33.res K0).blk 0 E0).blk 1 E1) K (F33.fr x0 x1 x2 x3 x4 x5 x6 x7 x8 x9 x10 x11 x12 x13 x14 x15 x16 x17 x18 x19 x20 x21 x22 x23 x24 x25 x26 x27 x28 x29 x30 x31 x32) h nx =
 jA 1 1 [.nils] [(0, 1, x11)] h nx fun v1 h2 n3 =>
 sApp 1 24 x9 v1 h2 n3 fun v4 h5 n6 =>
 K (F33.fr x0 x1 x2 x3 x4 x5 x6 x7 x8 v4 x10 x11 x12 x13 x14 x15 x16 x17 x18 x19 x20 x21 x22 x23 x24 x25 x26 x27 x28 x29 x30 x31 x32) h5 n6 := by kernel_rfl
theorem F33.e17 : IR.run F33.b19 C N ((fnO F33.res K0).blk 4 K) R (F33.fr x0 x1 x2 x3 x4 x5 x6 x7 x8 x9 x10 x11 x12 x13 x14 x15 x16 x17 x18 x19 x20 x21 x22 x23 x24 x25 x26 x27 x28 x29 x30 x31 x32) h nx =
 sBin .lss .int x27 x26 fun v1 =>
 zJ v1 (zK 1 x25 x27 fun v2 =>
 zE v2 h fun v3 =>
 gG zU h nx fun v4 h5 n6 =>
 sLen v3 fun v7 =>
 IR.run F33.b23 C N (((fnO F33.res K0).blk 4 K).blk 5 (IR.run F33.b31 C N ((fnO F33.res K0).blk 4 K) R)) (IR.run F33.b30 C N (((fnO F33.res K0).blk 4 K).blk 5 (IR.run F33.b31 C N ((fnO F33.res K0).blk 4 K) R)) (IR.run F33.b31 C N ((fnO F33.res K0).blk 4 K) R)) (F33.fr x0 x1 x2 x3 x4 x5 x6 x7 x8 x9 x10 x11 x12 x13 v3 v4 x16 x17 x18 x19 x20 x21 x22 x23 x24 x25 x26 x27 v1 v3 v7 (I 0) x32) h5 n6) (K (F33.fr x0 x1 x2 x3 x4 x5 x6 x7 x8 x9 x10 x11 x12 x13 x14 x15 x16 x17 x18 x19 x20 x21 x22 x23 x24 x25 x26 x27 v1 x29 x30 x31 x32) h nx) := by kernel_rfl
theorem F33.L17 (Inv : Nat → AV → AV → T Blk → Pa → Prop) {m : Nat} (hm : m < N) (hi : Inv m x13 x27 h nx)
  (step : ∀ (m : Nat) (z13 z14 z15 z16 z17 z27 z28 z29 z30 z31 z32 : AV) (h : T Blk) (nx : Pa) (R : Ks Prop), Inv m z13 z27 h nx → (∀ (m' : Nat) (w13 w14 w15 w16 w17 w27 w28 w29 w30 w31 w32 : AV) (h' : T Blk) (nx' : Pa), m' < m → Inv m' w13 w27 h' nx' → R (F33.fr x0 x1 x2 x3 x4 x5 x6 x7 x8 x9 x10 x11 x12 w13 w14 w15 w16 w17 x18 x19 x20 x21 x22 x23 x24 x25 x26 w27 w28 w29 w30 w31 w32) h' nx' = .ok True) →
   (sBin .lss .int z27 x26 fun v1 =>
 zJ v1 (zK 1 x25 z27 fun v2 =>
 zE v2 h fun v3 =>
 gG zU h nx fun v4 h5 n6 =>
 sLen v3 fun v7 =>
 IR.run F33.b23 C N (((fnO F33.res K0).blk 4 K).blk 5 (IR.run F33.b31 C N ((fnO F33.res K0).blk 4 K) R)) (IR.run F33.b30 C N (((fnO F33.res K0).blk 4 K).blk 5 (IR.run F33.b31 C N ((fnO F33.res K0).blk 4 K) R)) (IR.run F33.b31 C N ((fnO F33.res K0).blk 4 K) R)) (F33.fr x0 x1 x2 x3 x4 x5 x6 x7 x8 x9 x10 x11 x12 z13 v3 v4 z16 z17 x18 x19 x20 x21 x22 x23 x24 x25 x26 z27 v1 v3 v7 (I 0) z32) h5 n6) (K (F33.fr x0 x1 x2 x3 x4 x5 x6 x7 x8 x9 x10 x11 x12 z13 z14 z15 z16 z17 x18 x19 x20 x21 x22 x23 x24 x25 x26 z27 v1 z29 z30 z31 z32) h nx)) = .ok True) :
  IR.run F33.b17 C N (fnO F33.res K0) K (F33.fr x0 x1 x2 x3 x4 x5 x6 x7 x8 x9 x10 x11 x12 x13 x14 x15 x16 x17 x18 x19 x20 x21 x22 x23 x24 x25 x26 x27 x28 x29 x30 x31 x32) h nx = .ok True := by
 rw [F33.b17, F33.g17_eq, F33.b18]
 refine yL (fun m tm h nx => ∃ z13 z14 z15 z16 z17 z27 z28 z29 z30 z31 z32, tm = (F33.fr x0 x1 x2 x3 x4 x5 x6 x7 x8 x9 x10 x11 x12 z13 z14 z15 z16 z17 x18 x19 x20 x21 x22 x23 x24 x25 x26 z27 z28 z29 z30 z31 z32) ∧ Inv m z13 z27 h nx) ?_ hm ⟨_, _, _, _, _, _, _, _, _, _, _, rfl, hi⟩
 rintro m tm h nx R ⟨z13, z14, z15, z16, z17, z27, z28, z29, z30, z31, z32, rfl, hi⟩ hR
 rw [F33.e17]
 exact step m z13 z14 z15 z16 z17 z27 z28 z29 z30 z31 z32 h nx R hi fun m' w13 w14 w15 w16 w17 w27 w28 w29 w30 w31 w32 h' nx' hlt hi' => hR m' _ h' nx' hlt ⟨_, _, _, _, _, _, _, _, _, _, _, rfl, hi'⟩
theorem F33.k32 : IR.run F33.b32 C N (fnO F33.res K0) K (F33.fr x0 x1 x2 x3 x4 x5 x6 x7 x8 x9 x10 x11 x12 x13 x14 x15 x16 x17 x18 x19 x20 x21 x22 x23 x24 x25 x26 x27 x28 x29 x30 x31 x32) h nx =
 K0 (.tup [x9, x13, (I 0)]) h nx := by kernel_rfl
theorem F33.k31 {E4 : Ks Prop} : IR.run F33.b31 C N ((fnO F33.res K0).blk 4 E4) K (F33.fr x0 x1 x2 x3 x4 x5 x6 x7 x8 x9 x10 x11 x12 x13 x14 x15 x16 x17 x18 x19 x20 x21 x22 x23 x24 x25 x26 x27 x28 x29 x30 x31 x32) h nx =
 sBin .add .int x27 (I 1) fun v1 =>
 K (F33.fr x0 x1 x2 x3 x4 x5 x6 x7 x8 x9 x10 x11 x12 x13 x14 x15 x16 x17 x18 x19 x20 x21 x22 x23 x24 x25 x26 v1 x28 x29 x30 x31 x32) h nx := by kernel_rfl
theorem F33.e23 {E4 E5 : Ks Prop} : IR.run F33.b25 C N ((((fnO F33.res K0).blk 4 E4).blk 5 E5).blk 6 K) R (F33.fr x0 x1 x2 x3 x4 x5 x6 x7 x8 x9 x10 x11 x12 x13 x14 x15 x16 x17 x18 x19 x20 x21 x22 x23 x24 x25 x26 x27 x28 x29 x30 x31 x32) h nx =
 sBin .lss .int x31 x30 fun v1 =>
 zJ v1 (zK 1 x29 x31 fun v2 =>
 zE v2 h fun v3 =>
 sConv .u8 v3 fun v4 =>
 gT 1 128 x15 x31 fun v5 =>
 yU 1 v5 v4 h nx fun v6 h7 n8 =>
 sBin .add .int x31 (I 1) fun v9 =>
 R (F33.fr x0 x1 x2 x3 x4 x5 x6 x7 x8 x9 x10 x11 x12 x13 x14 x15 x31 v3 x18 x19 x20 x21 x22 x23 x24 x25 x26 x27 x28 x29 x30 v9 v1) h7 n8) (K (F33.fr x0 x1 x2 x3 x4 x5 x6 x7 x8 x9 x10 x11 x12 x13 x14 x15 x16 x17 x18 x19 x20 x21 x22 x23 x24 x25 x26 x27 x28 x29 x30 x31 v1) h nx) := by kernel_rfl
theorem F33.L23 {E4 E5 : Ks Prop} (Inv : Nat → AV → T Blk → Pa → Prop) {m : Nat} (hm : m < N) (hi : Inv m x31 h nx)
  (step : ∀ (m : Nat) (z16 z17 z31 z32 : AV) (h : T Blk) (nx : Pa) (R : Ks Prop), Inv m z31 h nx → (∀ (m' : Nat) (w16 w17 w31 w32 : AV) (h' : T Blk) (nx' : Pa), m' < m → Inv m' w31 h' nx' → R (F33.fr x0 x1 x2 x3 x4 x5 x6 x7 x8 x9 x10 x11 x12 x13 x14 x15 w16 w17 x18 x19 x20 x21 x22 x23 x24 x25 x26 x27 x28 x29 x30 w31 w32) h' nx' = .ok True) →
   (sBin .lss .int z31 x30 fun v1 =>
 zJ v1 (zK 1 x29 z31 fun v2 =>
 zE v2 h fun v3 =>
 sConv .u8 v3 fun v4 =>
 gT 1 128 x15 z31 fun v5 =>
 yU 1 v5 v4 h nx fun v6 h7 n8 =>
 sBin .add .int z31 (I 1) fun v9 =>
 R (F33.fr x0 x1 x2 x3 x4 x5 x6 x7 x8 x9 x10 x11 x12 x13 x14 x15 z31 v3 x18 x19 x20 x21 x22 x23 x24 x25 x26 x27 x28 x29 x30 v9 v1) h7 n8) (K (F33.fr x0 x1 x2 x3 x4 x5 x6 x7 x8 x9 x10 x11 x12 x13 x14 x15 z16 z17 x18 x19 x20 x21 x22 x23 x24 x25 x26 x27 x28 x29 x30 z31 v1) h nx)) = .ok True) :
  IR.run F33.b23 C N (((fnO F33.res K0).blk 4 E4).blk 5 E5) K (F33.fr x0 x1 x2 x3 x4 x5 x6 x7 x8 x9 x10 x11 x12 x13 x14 x15 x16 x17 x18 x19 x20 x21 x22 x23 x24 x25 x26 x27 x28 x29 x30 x31 x32) h nx = .ok True := by
 rw [F33.b23, F33.g23_eq, F33.b24]
 refine yL (fun m tm h nx => ∃ z16 z17 z31 z32, tm = (F33.fr x0 x1 x2 x3 x4 x5 x6 x7 x8 x9 x10 x11 x12 x13 x14 x15 z16 z17 x18 x19 x20 x21 x22 x23 x24 x25 x26 x27 x28 x29 x30 z31 z32) ∧ Inv m z31 h nx) ?_ hm ⟨_, _, _, _, rfl, hi⟩
 rintro m tm h nx R ⟨z16, z17, z31, z32, rfl, hi⟩ hR
 rw [F33.e23]
 exact step m z16 z17 z31 z32 h nx R hi fun m' w16 w17 w31 w32 h' nx' hlt hi' => hR m' _ h' nx' hlt ⟨_, _, _, _, rfl, hi'⟩
theorem F33.k30 {E4 E5 : Ks Prop} : IR.run F33.b30 C N (((fnO F33.res K0).blk 4 E4).blk 5 E5) K (F33.fr x0 x1 x2 x3 x4 x5 x6 x7 x8 x9 x10 x11 x12 x13 x14 x15 x16 x17 x18 x19 x20 x21 x22 x23 x24 x25 x26 x27 x28 x29 x30 x31 x32) h nx =
 jG 128 x15 h fun v1 =>
 sLook (.agg 128) (I 0) false x8 v1 h fun v2 =>
 jA 1 1 [(I 0)] [(0, 1, v2)] h nx fun v3 h4 n5 =>
 sApp 1 8 x13 v3 h4 n5 fun v6 h7 n8 =>
 K (F33.fr x0 x1 x2 x3 x4 x5 x6 x7 x8 x9 x10 x11 x12 v6 x14 x15 x16 x17 x18 x19 x20 x21 x22 x23 x24 x25 x26 x27 x28 x29 x30 x31 x32) h7 n8 := by kernel_rfl
end Go.Ev
namespace Go.Ev
open Go Go.Proofs
set_option maxRecDepth 100000
variable {N : Nat} {C : Calls Prop} {K0 : Kw Prop} {K R : Ks Prop} {h : T Blk} {nx : Pa} {x0 x1 x2 x3 x4 x5 x6 x7 x8 x9 x10 x11 x12 x13 a0 a1 a2 a3 : AV}
theorem F87.tab : T.get none (.of 87) tbl = some F87 := by kernel_rfl
theorem F87.go : yJ tbl N C (.of 87) [a0, a1] h nx K0 =
 sBox a0 h nx fun v1 h2 n3 =>
 jG 2 v1 h2 fun v4 =>
 zM 0 v1 fun v5 =>
 zE v5 h2 fun v6 =>
 sBin .gtr .int v6 (I 16) fun v7 =>
 sBin .lss .int a1 (I 0) fun v8 =>
 C.fn 81 (.of 81) [v4] h2 n3 fun v9 h10 n11 =>
 (sBin .lss .int a1 (I 0) fun v31 => jF v31 v8 (jF a1 a1 ((sBin .gtr .int v6 (I 16) fun v30 => jF v30 v7 ((zE v5 h10 fun v29 => jF v29 v6 ((zM 0 v1 fun v28 => jF v28 v5 (C.fn 82 (.of 82) [v7, (I 20)] h10 n11 fun v12 h13 n14 =>
 (sBin .lss .int a1 (I 0) fun v27 => jF v27 v8 (jF a1 a1 (sG v8 false (fun k => k a1) fun v15 =>
 sG v8 false (fun k => sBin .gtr .int v15 (I 9) k) fun v16 =>
 yV v8 (.bool true) v16 fun v17 =>
 C.fn 82 (.of 82) [v17, (I 3)] h13 n14 fun v18 h19 n20 =>
 jA 1 3 [(I 0)] [(0, 1, v9), (1, 1, v12), (2, 1, v18)] h19 n20 fun v21 h22 n23 =>
 C.fn 80 (.of 80) [v21] h22 n23 fun v24 h25 n26 =>
 K0 v24 h25 n26)))))))))))) := by
 rw [zW F87.tab]; kernel_rfl
theorem F88.g1_eq (X2 : IR) (C : Calls Prop) (N : Nat) (O : Outs Prop) (K : Ks Prop) (x0 x1 x2 x3 x4 x5 x6 x7 : AV) (h : T Blk) (nx : Pa) : IR.run (F88.g1 X2) C N O K (F88.fr x0 x1 x2 x3 x4 x5 x6 x7) h nx =
 IR.run X2 C N (O.blk 0 K) K (F88.fr x0 x1 x2 x3 x4 x5 x6 x7) h nx := by kernel_rfl
theorem F88.tab : T.get none (.of 88) tbl = some F88 := by kernel_rfl
theorem F88.go : yJ tbl N C (.of 88) [a0, a1] h nx K0 =
 IR.run F88.b1 C N (fnO F88.res K0) (IR.run F88.b8 C N (fnO F88.res K0) (retK F88.res K0)) (F88.fr a0 a1 (.bool false) (I 1) a0 (I 0) .undef .undef) h nx := by
 rw [zW F88.tab]; kernel_rfl
theorem F88.e1 : IR.run F88.b3 C N ((fnO F88.res K0).blk 0 K) R (F88.fr x0 x1 x2 x3 x4 x5 x6 x7) h nx =
 sBin .lss .int x5 x4 fun v1 =>
 zJ v1 (sBin .add .int x1 (I 1) fun v2 =>
 sBin .mul .int x3 v2 fun v3 =>
 sBin .gtr .int v3 (I 100000) fun v4 =>
 zJ v4 (K0 (.bool true) h nx) (sBin .add .int x5 (I 1) fun v5 =>
 R (F88.fr x0 x1 x2 v3 x4 v5 v1 v4) h nx)) (K (F88.fr x0 x1 x2 x3 x4 x5 v1 x7) h nx) := by kernel_rfl
theorem F88.L1 (Inv : Nat → AV → AV → T Blk → Pa → Prop) {m : Nat} (hm : m < N) (hi : Inv m x3 x5 h nx)
  (step : ∀ (m : Nat) (z2 z3 z5 z6 z7 : AV) (h : T Blk) (nx : Pa) (R : Ks Prop), Inv m z3 z5 h nx → (∀ (m' : Nat) (w2 w3 w5 w6 w7 : AV) (h' : T Blk) (nx' : Pa), m' < m → Inv m' w3 w5 h' nx' → R (F88.fr x0 x1 w2 w3 x4 w5 w6 w7) h' nx' = .ok True) →
   (sBin .lss .int z5 x4 fun v1 =>
 zJ v1 (sBin .add .int x1 (I 1) fun v2 =>
 sBin .mul .int z3 v2 fun v3 =>
 sBin .gtr .int v3 (I 100000) fun v4 =>
 zJ v4 (K0 (.bool true) h nx) (sBin .add .int z5 (I 1) fun v5 =>
 R (F88.fr x0 x1 z2 v3 x4 v5 v1 v4) h nx)) (K (F88.fr x0 x1 z2 z3 x4 z5 v1 z7) h nx)) = .ok True) :
  IR.run F88.b1 C N (fnO F88.res K0) K (F88.fr x0 x1 x2 x3 x4 x5 x6 x7) h nx = .ok True := by
 rw [F88.b1, F88.g1_eq, F88.b2]
 refine yL (fun m tm h nx => ∃ z2 z3 z5 z6 z7, tm = (F88.fr x0 x1 z2 z3 x4 z5 z6 z7) ∧ Inv m z3 z5 h nx) ?_ hm ⟨_, _, _, _, _, rfl, hi⟩
 rintro m tm h nx R ⟨z2, z3, z5, z6, z7, rfl, hi⟩ hR
 rw [F88.e1]
 exact step m z2 z3 z5 z6 z7 h nx R hi fun m' w2 w3 w5 w6 w7 h' nx' hlt hi' => hR m' _ h' nx' hlt ⟨_, _, _, _, _, rfl, hi'⟩
theorem F88.k8 : IR.run F88.b8 C N (fnO F88.res K0) K (F88.fr x0 x1 x2 x3 x4 x5 x6 x7) h nx =
 K0 (.bool false) h nx := by kernel_rfl
end Go.Ev
namespace Go.Ev
open Go Go.Proofs
set_option maxRecDepth 100000
variable {N : Nat} {C : Calls Prop} {K0 : Kw Prop} {K R : Ks Prop} {h : T Blk} {nx : Pa} {x0 x1 x2 x3 x4 x5 x6 x7 x8 x9 x10 x11 a0 a1 a2 a3 : AV}
end Go.Ev
namespace Go.Ev
open Go Go.Proofs
set_option maxRecDepth 100000
variable {N : Nat} {C : Calls Prop} {K0 : Kw Prop} {K R : Ks Prop} {h : T Blk} {nx : Pa} {x0 x1 x2 x3 x4 x5 x6 x7 x8 x9 x10 x11 x12 x13 a0 a1 : AV}
end Go.Ev
namespace Go.Ev
open Go Go.Proofs
set_option maxRecDepth 100000
variable {N : Nat} {C : Calls Prop} {K0 : Kw Prop} {K R : Ks Prop} {h : T Blk} {nx : Pa} {x0 x1 x2 x3 x4 x5 x6 a0 a1 : AV}
end Go.Ev
namespace Go.Ev
open Go Go.Proofs
set_option maxRecDepth 100000
variable {N : Nat} {C : Calls Prop} {K0 : Kw Prop} {K R : Ks Prop} {h : T Blk} {nx : Pa} {x0 x1 x2 x3 x4 x5 x6 x7 x8 x9 x10 x11 x12 x13 x14 x15 x16 x17 a0 a1 : AV}
theorem F164.tab : T.get none (.of 164) tbl = some F164 := by kernel_rfl
theorem F164.go : yJ tbl N C (.of 164) [a0] h nx K0 =
 sBin .neq .int a0 a0 fun v1 =>
 K0 v1 h nx := by
 rw [zW F164.tab]; kernel_rfl
end Go.Ev
namespace Go.Ev
open Go Go.Proofs
set_option maxRecDepth 100000
variable {N : Nat} {C : Calls Prop} {K0 : Kw Prop} {K R : Ks Prop} {h : T Blk} {nx : Pa} {x0 x1 x2 x3 x4 x5 x6 a0 a1 a2 : AV}
theorem F44.tab : T.get none (.of 44) tbl = some F44 := by kernel_rfl
theorem F44.go : yJ tbl N C (.of 44) [a0, a1, a2] h nx K0 =
 sBox a0 h nx fun v1 h2 n3 =>
 jG 2 v1 h2 fun v4 =>
 C.fn 25 (.of 25) [v4, a1, a2] h2 n3 fun v5 h6 n7 =>
 sG v5 true (fun k => jG 2 v1 h6 k) fun v8 =>
 sGW v5 true (fun k => C.fn 27 (.of 27) [v8] h6 n7 k) h6 n7 fun v9 h10 n11 =>
 sG v5 true (fun k => sBin .eql .int v9 (I 0) k) fun v12 =>
 yV v5 v12 (.bool false) fun v13 =>
 sG v13 true (fun k => zM 0 v1 k) fun v14 =>
 sG v13 true (fun k => zE v14 h10 k) fun v15 =>
 sG v13 true (fun k => k a1) fun v16 =>
 sG v13 true (fun k => sBin .leq .int v15 v16 k) fun v17 =>
 yV v13 v17 (.bool false) fun v18 =>
 K0 v18 h10 n11 := by
 rw [zW F44.tab]; kernel_rfl
theorem F45.g2_eq (X3 : IR) (C : Calls Prop) (N : Nat) (O : Outs Prop) (K : Ks Prop) (x0 x1 x2 x3 x4 x5 x6 : AV) (h : T Blk) (nx : Pa) : IR.run (F45.g2 X3) C N O K (F45.fr x0 x1 x2 x3 x4 x5 x6) h nx =
 IR.run X3 C N (O.blk 0 K) K (F45.fr x0 x1 x2 x3 x4 x5 x6) h nx := by kernel_rfl
theorem F45.tab : T.get none (.of 45) tbl = some F45 := by kernel_rfl
theorem F45.go : yJ tbl N C (.of 45) [a0] h nx K0 =
 sLen a0 fun v1 =>
 sBin .gtr .int v1 (I 256) fun v2 =>
 zJ v2 (K0 (I 5) h nx) (sLen a0 fun v3 =>
 gX 1 1 [(.bool false)] v3 v3 h nx fun v4 h5 n6 =>
 IR.run F45.b2 C N (fnO F45.res K0) (IR.run F45.b10 C N (fnO F45.res K0) (retK F45.res K0)) (F45.fr a0 (I 0) v4 (I 0) v2 .undef .undef) h5 n6) := by
 rw [zW F45.tab]; kernel_rfl
theorem F45.e2 : IR.run F45.b4 C N ((fnO F45.res K0).blk 0 K) R (F45.fr x0 x1 x2 x3 x4 x5 x6) h nx =
 sLen x0 fun v1 =>
 sBin .lss .int x3 v1 fun v2 =>
 zJ v2 (zK 1 x0 x3 fun v3 =>
 zE v3 h fun v4 =>
 sBin .lss .int v4 (I 0) fun v5 =>
 sG v5 false (fun k => k x0) fun v6 =>
 sG v5 false (fun k => k x3) fun v7 =>
 sG v5 false (fun k => zK 1 v6 v7 k) fun v8 =>
 sG v5 false (fun k => zE v8 h k) fun v9 =>
 sG v5 false (fun k => k x0) fun v10 =>
 sG v5 false (fun k => sLen v10 k) fun v11 =>
 sG v5 false (fun k => sBin .geq .int v9 v11 k) fun v12 =>
 yV v5 (.bool true) v12 fun v13 =>
 sG v13 false (fun k => k x2) fun v14 =>
 sG v13 false (fun k => k x0) fun v15 =>
 sG v13 false (fun k => k x3) fun v16 =>
 sG v13 false (fun k => zK 1 v15 v16 k) fun v17 =>
 sG v13 false (fun k => zE v17 h k) fun v18 =>
 sG v13 false (fun k => zK 1 v14 v18 k) fun v19 =>
 sG v13 false (fun k => zE v19 h k) fun v20 =>
 yV v13 (.bool true) v20 fun v21 =>
 zJ v21 (K0 (I 14) h nx) ((IR.run F45.b8 C N (((fnO F45.res K0).blk 0 K).blk 1 (IR.run F45.b9 C N ((fnO F45.res K0).blk 0 K) R)) (IR.run F45.b9 C N ((fnO F45.res K0).blk 0 K) R)) (F45.fr x0 x1 x2 x3 x4 v2 v21) h nx)) (K (F45.fr x0 x1 x2 x3 x4 v2 x6) h nx) := by kernel_rfl
theorem F45.L2 (Inv : Nat → AV → T Blk → Pa → Prop) {m : Nat} (hm : m < N) (hi : Inv m x3 h nx)
  (step : ∀ (m : Nat) (z1 z3 z5 z6 : AV) (h : T Blk) (nx : Pa) (R : Ks Prop), Inv m z3 h nx → (∀ (m' : Nat) (w1 w3 w5 w6 : AV) (h' : T Blk) (nx' : Pa), m' < m → Inv m' w3 h' nx' → R (F45.fr x0 w1 x2 w3 x4 w5 w6) h' nx' = .ok True) →
   (sLen x0 fun v1 =>
 sBin .lss .int z3 v1 fun v2 =>
 zJ v2 (zK 1 x0 z3 fun v3 =>
 zE v3 h fun v4 =>
 sBin .lss .int v4 (I 0) fun v5 =>
 sG v5 false (fun k => k x0) fun v6 =>
 sG v5 false (fun k => k z3) fun v7 =>
 sG v5 false (fun k => zK 1 v6 v7 k) fun v8 =>
 sG v5 false (fun k => zE v8 h k) fun v9 =>
 sG v5 false (fun k => k x0) fun v10 =>
 sG v5 false (fun k => sLen v10 k) fun v11 =>
 sG v5 false (fun k => sBin .geq .int v9 v11 k) fun v12 =>
 yV v5 (.bool true) v12 fun v13 =>
 sG v13 false (fun k => k x2) fun v14 =>
 sG v13 false (fun k => k x0) fun v15 =>
 sG v13 false (fun k => k z3) fun v16 =>
 sG v13 false (fun k => zK 1 v15 v16 k) fun v17 =>
 sG v13 false (fun k => zE v17 h k) fun v18 =>
 sG v13 false (fun k => zK 1 v14 v18 k) fun v19 =>
 sG v13 false (fun k => zE v19 h k) fun v20 =>
 yV v13 (.bool true) v20 fun v21 =>
 zJ v21 (K0 (I 14) h nx) ((IR.run F45.b8 C N (((fnO F45.res K0).blk 0 K).blk 1 (IR.run F45.b9 C N ((fnO F45.res K0).blk 0 K) R)) (IR.run F45.b9 C N ((fnO F45.res K0).blk 0 K) R)) (F45.fr x0 z1 x2 z3 x4 v2 v21) h nx)) (K (F45.fr x0 z1 x2 z3 x4 v2 z6) h nx)) = .ok True) :
  IR.run F45.b2 C N (fnO F45.res K0) K (F45.fr x0 x1 x2 x3 x4 x5 x6) h nx = .ok True := by
 rw [F45.b2, F45.g2_eq, F45.b3]
 refine yL (fun m tm h nx => ∃ z1 z3 z5 z6, tm = (F45.fr x0 z1 x2 z3 x4 z5 z6) ∧ Inv m z3 h nx) ?_ hm ⟨_, _, _, _, rfl, hi⟩
 rintro m tm h nx R ⟨z1, z3, z5, z6, rfl, hi⟩ hR
 rw [F45.e2]
 exact step m z1 z3 z5 z6 h nx R hi fun m' w1 w3 w5 w6 h' nx' hlt hi' => hR m' _ h' nx' hlt ⟨_, _, _, _, rfl, hi'⟩
theorem F45.k10 : IR.run F45.b10 C N (fnO F45.res K0) K (F45.fr x0 x1 x2 x3 x4 x5 x6) h nx =
 K0 (I 0) h nx := by kernel_rfl
theorem F45.k9 {E0 : Ks Prop} : IR.run F45.b9 C N ((fnO F45.res K0).blk 0 E0) K (F45.fr x0 x1 x2 x3 x4 x5 x6) h nx =
 sBin .add .int x3 (I 1) fun v1 =>
 K (F45.fr x0 x1 x2 v1 x4 x5 x6) h nx := by kernel_rfl
theorem F45.k8 {E0 E1 : Ks Prop} : IR.run F45.b8 C N (((fnO F45.res K0).blk 0 E0).blk 1 E1) K (F45.fr x0 x1 x2 x3 x4 x5 x6) h nx =
 zK 1 x0 x3 fun v1 =>
 zE v1 h fun v2 =>
 zK 1 x2 v2 fun v3 =>
 yU 1 v3 (.bool true) h nx fun v4 h5 n6 =>
 K (F45.fr x0 x1 x2 x3 x4 x5 x6) h5 n6 := by kernel_rfl
end Go.Ev
namespace Go.Ev
open Go Go.Proofs
set_option maxRecDepth 100000
variable {N : Nat} {C : Calls Prop} {K0 : Kw Prop} {K R : Ks Prop} {h : T Blk} {nx : Pa} {x0 x1 x2 x3 x4 x5 x6 x7 x8 a0 a1 : AV}
end Go.Ev
namespace Go.Ev
open Go Go.Proofs
set_option maxRecDepth 100000
variable {N : Nat} {C : Calls Prop} {K0 : Kw Prop} {K R : Ks Prop} {h : T Blk} {nx : Pa} {x0 x1 x2 x3 x4 x5 x6 x7 x8 x9 x10 a0 a1 : AV}
end Go.Ev
