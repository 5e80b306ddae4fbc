import Derived.Test.YtepfaegpjddehaaGreatDoorIrT
import Derived.KernelRfl
import Derived.Test.YtepfaegpjddehaaGreatDoorEvD
set_option linter.unusedSimpArgs false
set_option linter.unusedVariables false
namespace Go.Ev
open Go Go.Proofs
set_option maxRecDepth 100000
variable {N : Nat} {C : Calls Prop} {K0 : Kw Prop} {K R : Ks Prop} {h : T Blk} {nx : Pa} {x0 x1 x2 x3 x4 x5 x6 x7 x8 x9 x10 x11 x12 x13 x14 x15 x16 x17 x18 x19 x20 a0 a1 a2 a3 a4 a5 a6 : AV}
theorem F79.tab : T.get none (.of 79) tbl = some F79 := by kernel_rfl
theorem F79.go : callFn tbl N C (.of 79) [a0] h nx K0 =
 sBin .eql (.nil .sl) a0 .nils fun v1 =>
 sCond v1 (K0 .nils h nx) (sBslice 1 0 [(I 0)] [] h nx fun v2 h3 n4 =>
 sApp 1 8 v2 a0 h3 n4 fun v5 h6 n7 =>
 K0 v5 h6 n7) := by
 rw [callFn_of F79.tab]; kernel_rfl
theorem F35.g2_eq (X3 : IR) (O : Outs Prop) (t : T AV) : IR.run (F35.g2 X3) C N O K t h nx = IR.run X3 C N (O.blk 0 K) K t h nx := by kernel_rfl
theorem F35.tab : T.get none (.of 35) tbl = some F35 := by kernel_rfl
theorem F35.go : callFn tbl N C (.of 35) [a0, a1] h nx K0 =
 sLen a0 fun v1 =>
 sLen a1 fun v2 =>
 sBin .neq .int v1 v2 fun v3 =>
 sCond v3 (K0 (.bool false) h nx) (IR.run F35.b2 C N (fnO F35.res K0) (IR.run F35.b9 C N (fnO F35.res K0) (retK F35.res K0)) (F35.fr a0 a1 (.bool false) (I 0) v3 .undef .undef) h nx) := by
 rw [callFn_of F35.tab]; kernel_rfl
theorem F35.L2 (Inv : Nat → AV → T Blk → Pa → Prop) {m : Nat} (hm : m < N) (hi : Inv m x3 h nx)
  (step : ∀ (m : Nat) (z2 z3 z5 z6 : AV) (h : T Blk) (nx : Pa) (R : Ks Prop), Inv m z3 h nx → (∀ (m' : Nat) (w2 w3 w5 w6 : AV) (h' : T Blk) (nx' : Pa), m' < m → Inv m' w3 h' nx' → R (F35.fr x0 x1 w2 w3 x4 w5 w6) h' nx' = .ok True) →
   (sLen x0 fun v1 =>
 sBin .lss .int z3 v1 fun v2 =>
 sCond v2 (sIaddr 1 x0 z3 fun v3 =>
 sLoad v3 h fun v4 =>
 sIaddr 1 x1 z3 fun v5 =>
 sLoad v5 h fun v6 =>
 sBin .neq .int v4 v6 fun v7 =>
 sCond v7 (K0 (.bool false) h nx) (sBin .add .int z3 (I 1) fun v8 =>
 R (F35.fr x0 x1 z2 v8 x4 v2 v7) h nx)) (K (F35.fr x0 x1 z2 z3 x4 v2 z6) h nx)) = .ok True) :
  IR.run F35.b2 C N (fnO F35.res K0) K (F35.fr x0 x1 x2 x3 x4 x5 x6) h nx = .ok True := by
 rw [F35.b2, F35.g2_eq, F35.b3]
 refine loop_ok (fun m tm h nx => ∃ z2 z3 z5 z6, tm = (F35.fr x0 x1 z2 z3 x4 z5 z6) ∧ Inv m z3 h nx) ?_ hm ⟨_, _, _, _, rfl, hi⟩
 rintro m tm h nx R ⟨z2, z3, z5, z6, rfl, hi⟩ hR
 refine Eq.trans ?_ (step m z2 z3 z5 z6 h nx R hi fun m' w2 w3 w5 w6 h' nx' hlt hi' => hR m' _ h' nx' hlt ⟨_, _, _, _, rfl, hi'⟩)
 kernel_rfl
theorem F35.k9 : IR.run F35.b9 C N (fnO F35.res K0) K (F35.fr x0 x1 x2 x3 x4 x5 x6) h nx =
 K0 (.bool true) h nx := by kernel_rfl
theorem F82.tab : T.get none (.of 82) tbl = some F82 := by kernel_rfl
theorem F82.go : callFn tbl N C (.of 82) [a0, a1] h nx K0 =
 sCond a0 (K0 a1 h nx) (K0 (I 0) h nx) := by
 rw [callFn_of F82.tab]; kernel_rfl
end Go.Ev
namespace Go.Ev
open Go Go.Proofs
set_option maxRecDepth 100000
variable {N : Nat} {C : Calls Prop} {K0 : Kw Prop} {K R : Ks Prop} {h : T Blk} {nx : Pa} {x0 x1 x2 x3 x4 x5 x6 x7 x8 x9 x10 x11 x12 x13 x14 x15 x16 x17 x18 x19 x20 x21 x22 x23 x24 x25 x26 x27 x28 x29 x30 x31 x32 x33 a0 a1 a2 a3 : AV}
theorem F89.g7_eq (X8 : IR) (O : Outs Prop) (t : T AV) : IR.run (F89.g7 X8) C N O K t h nx = IR.run X8 C N (O.blk 2 K) K t h nx := by kernel_rfl
theorem F89.g1_eq (X2 : IR) (O : Outs Prop) (t : T AV) : IR.run (F89.g1 X2) C N O K t h nx = IR.run X2 C N (O.blk 0 K) K t h nx := by kernel_rfl
theorem F89.g33_eq (X34 : IR) (O : Outs Prop) (t : T AV) : IR.run (F89.g33 X34) C N O K t h nx = IR.run X34 C N (O.blk 10 K) K t h nx := by kernel_rfl
theorem F89.g27_eq (X28 : IR) (O : Outs Prop) (t : T AV) : IR.run (F89.g27 X28) C N O K t h nx = IR.run X28 C N (O.blk 8 K) K t h nx := by kernel_rfl
theorem F89.g22_eq (X23 : IR) (O : Outs Prop) (t : T AV) : IR.run (F89.g22 X23) C N O K t h nx = IR.run X23 C N (O.blk 6 K) K t h nx := by kernel_rfl
theorem F89.g16_eq (X17 : IR) (O : Outs Prop) (t : T AV) : IR.run (F89.g16 X17) C N O K t h nx = IR.run X17 C N (O.blk 4 K) K t h nx := by kernel_rfl
theorem F89.tab : T.get none (.of 89) tbl = some F89 := by kernel_rfl
theorem F89.go : callFn tbl N C (.of 89) [a0, a1, a2, a3] h nx K0 =
 sBox a0 h nx fun v1 h2 n3 =>
 sFaddr 0 v1 fun v4 =>
 sLoad v4 h2 fun v5 =>
 sMkslice 1 24 [.nils] v5 v5 h2 n3 fun v6 h7 n8 =>
 sFaddr 1 v1 fun v9 =>
 sLoad v9 h7 fun v10 =>
 sLen v10 fun v11 =>
 IR.run F89.b1 C N (fnO F89.res K0) (IR.run F89.b15 C N (fnO F89.res K0) (retK F89.res K0)) (F89.fr a0 a1 a2 a3 v1 .nilm v6 .undef .undef .undef .undef .undef .undef .undef .undef .undef .undef .undef v10 v11 (I 0) .undef .undef .undef .undef .undef .undef .undef .undef .undef .undef .undef .undef .undef) h7 n8 := by
 rw [callFn_of F89.tab]; kernel_rfl
theorem F89.L1 (Inv : Nat → AV → T Blk → Pa → Prop) {m : Nat} (hm : m < N) (hi : Inv m x20 h nx)
  (step : ∀ (m : Nat) (z7 z8 z9 z20 z21 z22 z23 z24 z25 : AV) (h : T Blk) (nx : Pa) (R : Ks Prop), Inv m z20 h nx → (∀ (m' : Nat) (w7 w8 w9 w20 w21 w22 w23 w24 w25 : AV) (h' : T Blk) (nx' : Pa), m' < m → Inv m' w20 h' nx' → R (F89.fr x0 x1 x2 x3 x4 x5 x6 w7 w8 w9 x10 x11 x12 x13 x14 x15 x16 x17 x18 x19 w20 w21 w22 w23 w24 w25 x26 x27 x28 x29 x30 x31 x32 x33) h' nx' = .ok True) →
   (sBin .lss .int z20 x19 fun v1 =>
 sCond v1 (sIaddr 1 x18 z20 fun v2 =>
 sLoad v2 h fun v3 =>
 sLen v3 fun v4 =>
 IR.run F89.b7 C N (((fnO F89.res K0).blk 0 K).blk 1 (IR.run F89.b14 C N ((fnO F89.res K0).blk 0 K) R)) (IR.run F89.b14 C N ((fnO F89.res K0).blk 0 K) R) (F89.fr x0 x1 x2 x3 x4 x5 x6 z20 v3 z9 x10 x11 x12 x13 x14 x15 x16 x17 x18 x19 z20 v1 v3 v4 (I 0) z25 x26 x27 x28 x29 x30 x31 x32 x33) h nx) (K (F89.fr x0 x1 x2 x3 x4 x5 x6 z7 z8 z9 x10 x11 x12 x13 x14 x15 x16 x17 x18 x19 z20 v1 z22 z23 z24 z25 x26 x27 x28 x29 x30 x31 x32 x33) h nx)) = .ok True) :
  IR.run F89.b1 C N (fnO F89.res K0) K (F89.fr x0 x1 x2 x3 x4 x5 x6 x7 x8 x9 x10 x11 x12 x13 x14 x15 x16 x17 x18 x19 x20 x21 x22 x23 x24 x25 x26 x27 x28 x29 x30 x31 x32 x33) h nx = .ok True := by
 rw [F89.b1, F89.g1_eq, F89.b2]
 refine loop_ok (fun m tm h nx => ∃ z7 z8 z9 z20 z21 z22 z23 z24 z25, tm = (F89.fr x0 x1 x2 x3 x4 x5 x6 z7 z8 z9 x10 x11 x12 x13 x14 x15 x16 x17 x18 x19 z20 z21 z22 z23 z24 z25 x26 x27 x28 x29 x30 x31 x32 x33) ∧ Inv m z20 h nx) ?_ hm ⟨_, _, _, _, _, _, _, _, _, rfl, hi⟩
 rintro m tm h nx R ⟨z7, z8, z9, z20, z21, z22, z23, z24, z25, rfl, hi⟩ hR
 refine Eq.trans ?_ (step m z7 z8 z9 z20 z21 z22 z23 z24 z25 h nx R hi fun m' w7 w8 w9 w20 w21 w22 w23 w24 w25 h' nx' hlt hi' => hR m' _ h' nx' hlt ⟨_, _, _, _, _, _, _, _, _, rfl, hi'⟩)
 kernel_rfl
theorem F89.k15 : IR.run F89.b15 C N (fnO F89.res K0) K (F89.fr x0 x1 x2 x3 x4 x5 x6 x7 x8 x9 x10 x11 x12 x13 x14 x15 x16 x17 x18 x19 x20 x21 x22 x23 x24 x25 x26 x27 x28 x29 x30 x31 x32 x33) h nx =
 sMkmap h nx fun v1 h2 n3 =>
 sBuild zU [] fun v4 =>
 sMapup (.agg 128) v1 v4 (I 1) h2 n3 fun v5 h6 n7 =>
 IR.run F89.b16 C N (fnO F89.res K0) (IR.run F89.b44 C N (fnO F89.res K0) K) (F89.fr x0 x1 x2 x3 x4 x5 x6 x7 x8 x9 v1 x1 x12 x13 x14 x15 x16 x17 x18 x19 x20 x21 x22 x23 x24 x25 x26 x27 x28 x29 x30 x31 x32 x33) h6 n7 := by kernel_rfl
theorem F89.k14 {E0 : Ks Prop} : IR.run F89.b14 C N ((fnO F89.res K0).blk 0 E0) K (F89.fr x0 x1 x2 x3 x4 x5 x6 x7 x8 x9 x10 x11 x12 x13 x14 x15 x16 x17 x18 x19 x20 x21 x22 x23 x24 x25 x26 x27 x28 x29 x30 x31 x32 x33) h nx =
 sBin .add .int x20 (I 1) fun v1 =>
 K (F89.fr x0 x1 x2 x3 x4 x5 x6 x7 x8 x9 x10 x11 x12 x13 x14 x15 x16 x17 x18 x19 v1 x21 x22 x23 x24 x25 x26 x27 x28 x29 x30 x31 x32 x33) h nx := by kernel_rfl
theorem F89.L7 {E0 E1 : Ks Prop} (Inv : Nat → AV → T Blk → Pa → Prop) {m : Nat} (hm : m < N) (hi : Inv m x24 h nx)
  (step : ∀ (m : Nat) (z9 z24 z25 : AV) (h : T Blk) (nx : Pa) (R : Ks Prop), Inv m z24 h nx → (∀ (m' : Nat) (w9 w24 w25 : AV) (h' : T Blk) (nx' : Pa), m' < m → Inv m' w24 h' nx' → R (F89.fr x0 x1 x2 x3 x4 x5 x6 x7 x8 w9 x10 x11 x12 x13 x14 x15 x16 x17 x18 x19 x20 x21 x22 x23 w24 w25 x26 x27 x28 x29 x30 x31 x32 x33) h' nx' = .ok True) →
   (sBin .lss .int z24 x23 fun v1 =>
 sCond v1 (sIaddr 1 x22 z24 fun v2 =>
 sLoad v2 h fun v3 =>
 sIaddr 1 x6 v3 fun v4 =>
 sLoad v4 h fun v5 =>
 sBslice 1 1 [(I 0)] [(0, 1, x7)] h nx fun v6 h7 n8 =>
 sApp 1 8 v5 v6 h7 n8 fun v9 h10 n11 =>
 sIaddr 1 x6 v3 fun v12 =>
 sStore 1 v12 v9 h10 n11 fun v13 h14 n15 =>
 sBin .add .int z24 (I 1) fun v16 =>
 R (F89.fr x0 x1 x2 x3 x4 x5 x6 x7 x8 v3 x10 x11 x12 x13 x14 x15 x16 x17 x18 x19 x20 x21 x22 x23 v16 v1 x26 x27 x28 x29 x30 x31 x32 x33) h14 n15) (K (F89.fr x0 x1 x2 x3 x4 x5 x6 x7 x8 z9 x10 x11 x12 x13 x14 x15 x16 x17 x18 x19 x20 x21 x22 x23 z24 v1 x26 x27 x28 x29 x30 x31 x32 x33) h nx)) = .ok True) :
  IR.run F89.b7 C N (((fnO F89.res K0).blk 0 E0).blk 1 E1) K (F89.fr x0 x1 x2 x3 x4 x5 x6 x7 x8 x9 x10 x11 x12 x13 x14 x15 x16 x17 x18 x19 x20 x21 x22 x23 x24 x25 x26 x27 x28 x29 x30 x31 x32 x33) h nx = .ok True := by
 rw [F89.b7, F89.g7_eq, F89.b8]
 refine loop_ok (fun m tm h nx => ∃ z9 z24 z25, tm = (F89.fr x0 x1 x2 x3 x4 x5 x6 x7 x8 z9 x10 x11 x12 x13 x14 x15 x16 x17 x18 x19 x20 x21 x22 x23 z24 z25 x26 x27 x28 x29 x30 x31 x32 x33) ∧ Inv m z24 h nx) ?_ hm ⟨_, _, _, rfl, hi⟩
 rintro m tm h nx R ⟨z9, z24, z25, rfl, hi⟩ hR
 refine Eq.trans ?_ (step m z9 z24 z25 h nx R hi fun m' w9 w24 w25 h' nx' hlt hi' => hR m' _ h' nx' hlt ⟨_, _, _, rfl, hi'⟩)
 kernel_rfl
theorem F89.L16 (Inv : Nat → AV → AV → T Blk → Pa → Prop) {m : Nat} (hm : m < N) (hi : Inv m x10 x11 h nx)
  (step : ∀ (m : Nat) (z10 z11 z12 z13 z14 z15 z16 z17 z26 z27 z28 z29 z30 z31 z32 z33 : AV) (h : T Blk) (nx : Pa) (R : Ks Prop), Inv m z10 z11 h nx → (∀ (m' : Nat) (w10 w11 w12 w13 w14 w15 w16 w17 w26 w27 w28 w29 w30 w31 w32 w33 : AV) (h' : T Blk) (nx' : Pa), m' < m → Inv m' w10 w11 h' nx' → R (F89.fr x0 x1 x2 x3 x4 x5 x6 x7 x8 x9 w10 w11 w12 w13 w14 w15 w16 w17 x18 x19 x20 x21 x22 x23 x24 x25 w26 w27 w28 w29 w30 w31 w32 w33) h' nx' = .ok True) →
   (sBin .lss .int z11 x2 fun v1 =>
 sCond v1 (sMkmap h nx fun v2 h3 n4 =>
 sRange z10 h3 n4 fun v5 h6 n7 =>
 IR.run F89.b22 C N (((fnO F89.res K0).blk 4 K).blk 5 (IR.run F89.b43 C N ((fnO F89.res K0).blk 4 K) R)) (IR.run F89.b42 C N (((fnO F89.res K0).blk 4 K).blk 5 (IR.run F89.b43 C N ((fnO F89.res K0).blk 4 K) R)) (IR.run F89.b43 C N ((fnO F89.res K0).blk 4 K) R)) (F89.fr x0 x1 x2 x3 x4 x5 x6 x7 x8 x9 z10 z11 v2 z13 z14 z15 z16 z17 x18 x19 x20 x21 x22 x23 x24 x25 v1 v5 z28 z29 z30 z31 z32 z33) h6 n7) (K (F89.fr x0 x1 x2 x3 x4 x5 x6 x7 x8 x9 z10 z11 z12 z13 z14 z15 z16 z17 x18 x19 x20 x21 x22 x23 x24 x25 v1 z27 z28 z29 z30 z31 z32 z33) h nx)) = .ok True) :
  IR.run F89.b16 C N (fnO F89.res K0) K (F89.fr x0 x1 x2 x3 x4 x5 x6 x7 x8 x9 x10 x11 x12 x13 x14 x15 x16 x17 x18 x19 x20 x21 x22 x23 x24 x25 x26 x27 x28 x29 x30 x31 x32 x33) h nx = .ok True := by
 rw [F89.b16, F89.g16_eq, F89.b17]
 refine loop_ok (fun m tm h nx => ∃ z10 z11 z12 z13 z14 z15 z16 z17 z26 z27 z28 z29 z30 z31 z32 z33, tm = (F89.fr x0 x1 x2 x3 x4 x5 x6 x7 x8 x9 z10 z11 z12 z13 z14 z15 z16 z17 x18 x19 x20 x21 x22 x23 x24 x25 z26 z27 z28 z29 z30 z31 z32 z33) ∧ Inv m z10 z11 h nx) ?_ hm ⟨_, _, _, _, _, _, _, _, _, _, _, _, _, _, _, _, rfl, hi⟩
 rintro m tm h nx R ⟨z10, z11, z12, z13, z14, z15, z16, z17, z26, z27, z28, z29, z30, z31, z32, z33, rfl, hi⟩ hR
 refine Eq.trans ?_ (step m z10 z11 z12 z13 z14 z15 z16 z17 z26 z27 z28 z29 z30 z31 z32 z33 h nx R hi fun m' w10 w11 w12 w13 w14 w15 w16 w17 w26 w27 w28 w29 w30 w31 w32 w33 h' nx' hlt hi' => hR m' _ h' nx' hlt ⟨_, _, _, _, _, _, _, _, _, _, _, _, _, _, _, _, rfl, hi'⟩)
 kernel_rfl
theorem F89.k44 : IR.run F89.b44 C N (fnO F89.res K0) K (F89.fr x0 x1 x2 x3 x4 x5 x6 x7 x8 x9 x10 x11 x12 x13 x14 x15 x16 x17 x18 x19 x20 x21 x22 x23 x24 x25 x26 x27 x28 x29 x30 x31 x32 x33) h nx =
 K0 x10 h nx := by kernel_rfl
theorem F89.k43 {E4 : Ks Prop} : IR.run F89.b43 C N ((fnO F89.res K0).blk 4 E4) K (F89.fr x0 x1 x2 x3 x4 x5 x6 x7 x8 x9 x10 x11 x12 x13 x14 x15 x16 x17 x18 x19 x20 x21 x22 x23 x24 x25 x26 x27 x28 x29 x30 x31 x32 x33) h nx =
 sBin .add .int x11 (I 1) fun v1 =>
 K (F89.fr x0 x1 x2 x3 x4 x5 x6 x7 x8 x9 x10 v1 x12 x13 x14 x15 x16 x17 x18 x19 x20 x21 x22 x23 x24 x25 x26 x27 x28 x29 x30 x31 x32 x33) h nx := by kernel_rfl
theorem F89.L22 {E4 E5 : Ks Prop} (Inv : Nat → T Blk → Pa → Prop) {m : Nat} (hm : m < N) (hi : Inv m  h nx)
  (step : ∀ (m : Nat) (z13 z14 z15 z16 z17 z28 z29 z30 z31 z32 z33 : AV) (h : T Blk) (nx : Pa) (R : Ks Prop), Inv m  h nx → (∀ (m' : Nat) (w13 w14 w15 w16 w17 w28 w29 w30 w31 w32 w33 : AV) (h' : T Blk) (nx' : Pa), m' < m → Inv m'  h' nx' → R (F89.fr x0 x1 x2 x3 x4 x5 x6 x7 x8 x9 x10 x11 x12 w13 w14 w15 w16 w17 x18 x19 x20 x21 x22 x23 x24 x25 x26 x27 w28 w29 w30 w31 w32 w33) h' nx' = .ok True) →
   (sNext C x27 h nx fun v1 h2 n3 =>
 sExt 0 v1 fun v4 =>
 sCond v4 (sEntry x27 h2 fun v5 =>
 sExt 0 v5 fun v6 =>
 sExt 1 v5 fun v7 =>
 sAlloc zU h2 n3 fun v8 h9 n10 =>
 sStore 128 v8 v6 h9 n10 fun v11 h12 n13 =>
 IR.run F89.b27 C N (((((fnO F89.res K0).blk 4 E4).blk 5 E5).blk 6 K).blk 7 R) R (F89.fr x0 x1 x2 x3 x4 x5 x6 x7 x8 x9 x10 x11 x12 v8 v7 (I 0) z16 z17 x18 x19 x20 x21 x22 x23 x24 x25 x26 x27 v4 z29 z30 z31 z32 z33) h12 n13) (K (F89.fr x0 x1 x2 x3 x4 x5 x6 x7 x8 x9 x10 x11 x12 z13 z14 z15 z16 z17 x18 x19 x20 x21 x22 x23 x24 x25 x26 x27 v4 z29 z30 z31 z32 z33) h2 n3)) = .ok True) :
  IR.run F89.b22 C N (((fnO F89.res K0).blk 4 E4).blk 5 E5) K (F89.fr x0 x1 x2 x3 x4 x5 x6 x7 x8 x9 x10 x11 x12 x13 x14 x15 x16 x17 x18 x19 x20 x21 x22 x23 x24 x25 x26 x27 x28 x29 x30 x31 x32 x33) h nx = .ok True := by
 rw [F89.b22, F89.g22_eq, F89.b23]
 refine loop_ok (fun m tm h nx => ∃ z13 z14 z15 z16 z17 z28 z29 z30 z31 z32 z33, tm = (F89.fr x0 x1 x2 x3 x4 x5 x6 x7 x8 x9 x10 x11 x12 z13 z14 z15 z16 z17 x18 x19 x20 x21 x22 x23 x24 x25 x26 x27 z28 z29 z30 z31 z32 z33) ∧ Inv m  h nx) ?_ hm ⟨_, _, _, _, _, _, _, _, _, _, _, rfl, hi⟩
 rintro m tm h nx R ⟨z13, z14, z15, z16, z17, z28, z29, z30, z31, z32, z33, rfl, hi⟩ hR
 refine Eq.trans ?_ (step m z13 z14 z15 z16 z17 z28 z29 z30 z31 z32 z33 h nx R hi fun m' w13 w14 w15 w16 w17 w28 w29 w30 w31 w32 w33 h' nx' hlt hi' => hR m' _ h' nx' hlt ⟨_, _, _, _, _, _, _, _, _, _, _, rfl, hi'⟩)
 kernel_rfl
theorem F89.k42 {E4 E5 : Ks Prop} : IR.run F89.b42 C N (((fnO F89.res K0).blk 4 E4).blk 5 E5) K (F89.fr x0 x1 x2 x3 x4 x5 x6 x7 x8 x9 x10 x11 x12 x13 x14 x15 x16 x17 x18 x19 x20 x21 x22 x23 x24 x25 x26 x27 x28 x29 x30 x31 x32 x33) h nx =
 K (F89.fr x0 x1 x2 x3 x4 x5 x6 x7 x8 x9 x12 x11 x12 x13 x14 x15 x16 x17 x18 x19 x20 x21 x22 x23 x24 x25 x26 x27 x28 x29 x30 x31 x32 x33) h nx := by kernel_rfl
theorem F89.L27 {E4 E5 E6 E7 : Ks Prop} (Inv : Nat → AV → T Blk → Pa → Prop) {m : Nat} (hm : m < N) (hi : Inv m x15 h nx)
  (step : ∀ (m : Nat) (z15 z16 z17 z29 z30 z31 z32 z33 : AV) (h : T Blk) (nx : Pa) (R : Ks Prop), Inv m z15 h nx → (∀ (m' : Nat) (w15 w16 w17 w29 w30 w31 w32 w33 : AV) (h' : T Blk) (nx' : Pa), m' < m → Inv m' w15 h' nx' → R (F89.fr x0 x1 x2 x3 x4 x5 x6 x7 x8 x9 x10 x11 x12 x13 x14 w15 w16 w17 x18 x19 x20 x21 x22 x23 x24 x25 x26 x27 x28 w29 w30 w31 w32 w33) h' nx' = .ok True) →
   (sBin .leq .int z15 x3 fun v1 =>
 sCond v1 (sLoadN 128 x13 h fun v2 =>
 sAlloc zU h nx fun v3 h4 n5 =>
 sStore 128 v3 v2 h4 n5 fun v6 h7 n8 =>
 sIaddr 1 x6 x11 fun v9 =>
 sLoad v9 h7 fun v10 =>
 sLen v10 fun v11 =>
 IR.run F89.b33 C N (((((((fnO F89.res K0).blk 4 E4).blk 5 E5).blk 6 E6).blk 7 E7).blk 8 K).blk 9 (IR.run F89.b41 C N ((((((fnO F89.res K0).blk 4 E4).blk 5 E5).blk 6 E6).blk 7 E7).blk 8 K) R)) (IR.run F89.b40 C N (((((((fnO F89.res K0).blk 4 E4).blk 5 E5).blk 6 E6).blk 7 E7).blk 8 K).blk 9 (IR.run F89.b41 C N ((((((fnO F89.res K0).blk 4 E4).blk 5 E5).blk 6 E6).blk 7 E7).blk 8 K) R)) (IR.run F89.b41 C N ((((((fnO F89.res K0).blk 4 E4).blk 5 E5).blk 6 E6).blk 7 E7).blk 8 K) R)) (F89.fr x0 x1 x2 x3 x4 x5 x6 x7 x8 x9 x10 x11 x12 x13 x14 z15 v3 z17 x18 x19 x20 x21 x22 x23 x24 x25 x26 x27 x28 v1 v10 v11 (I 0) z33) h7 n8) (K (F89.fr x0 x1 x2 x3 x4 x5 x6 x7 x8 x9 x10 x11 x12 x13 x14 z15 z16 z17 x18 x19 x20 x21 x22 x23 x24 x25 x26 x27 x28 v1 z30 z31 z32 z33) h nx)) = .ok True) :
  IR.run F89.b27 C N (((((fnO F89.res K0).blk 4 E4).blk 5 E5).blk 6 E6).blk 7 E7) K (F89.fr x0 x1 x2 x3 x4 x5 x6 x7 x8 x9 x10 x11 x12 x13 x14 x15 x16 x17 x18 x19 x20 x21 x22 x23 x24 x25 x26 x27 x28 x29 x30 x31 x32 x33) h nx = .ok True := by
 rw [F89.b27, F89.g27_eq, F89.b28]
 refine loop_ok (fun m tm h nx => ∃ z15 z16 z17 z29 z30 z31 z32 z33, tm = (F89.fr x0 x1 x2 x3 x4 x5 x6 x7 x8 x9 x10 x11 x12 x13 x14 z15 z16 z17 x18 x19 x20 x21 x22 x23 x24 x25 x26 x27 x28 z29 z30 z31 z32 z33) ∧ Inv m z15 h nx) ?_ hm ⟨_, _, _, _, _, _, _, _, rfl, hi⟩
 rintro m tm h nx R ⟨z15, z16, z17, z29, z30, z31, z32, z33, rfl, hi⟩ hR
 refine Eq.trans ?_ (step m z15 z16 z17 z29 z30 z31 z32 z33 h nx R hi fun m' w15 w16 w17 w29 w30 w31 w32 w33 h' nx' hlt hi' => hR m' _ h' nx' hlt ⟨_, _, _, _, _, _, _, _, rfl, hi'⟩)
 kernel_rfl
theorem F89.k41 {E4 E5 E6 E7 E8 : Ks Prop} : IR.run F89.b41 C N ((((((fnO F89.res K0).blk 4 E4).blk 5 E5).blk 6 E6).blk 7 E7).blk 8 E8) K (F89.fr x0 x1 x2 x3 x4 x5 x6 x7 x8 x9 x10 x11 x12 x13 x14 x15 x16 x17 x18 x19 x20 x21 x22 x23 x24 x25 x26 x27 x28 x29 x30 x31 x32 x33) h nx =
 sBin .add .int x15 (I 1) fun v1 =>
 K (F89.fr x0 x1 x2 x3 x4 x5 x6 x7 x8 x9 x10 x11 x12 x13 x14 v1 x16 x17 x18 x19 x20 x21 x22 x23 x24 x25 x26 x27 x28 x29 x30 x31 x32 x33) h nx := by kernel_rfl
theorem F89.L33 {E4 E5 E6 E7 E8 E9 : Ks Prop} (Inv : Nat → AV → T Blk → Pa → Prop) {m : Nat} (hm : m < N) (hi : Inv m x32 h nx)
  (step : ∀ (m : Nat) (z17 z32 z33 : AV) (h : T Blk) (nx : Pa) (R : Ks Prop), Inv m z32 h nx → (∀ (m' : Nat) (w17 w32 w33 : AV) (h' : T Blk) (nx' : Pa), m' < m → Inv m' w32 h' nx' → R (F89.fr x0 x1 x2 x3 x4 x5 x6 x7 x8 x9 x10 x11 x12 x13 x14 x15 x16 w17 x18 x19 x20 x21 x22 x23 x24 x25 x26 x27 x28 x29 x30 x31 w32 w33) h' nx' = .ok True) →
   (sBin .lss .int z32 x31 fun v1 =>
 sCond v1 (sIaddr 1 x30 z32 fun v2 =>
 sLoad v2 h fun v3 =>
 sAaddr 1 128 x16 v3 fun v4 =>
 sLoad v4 h fun v5 =>
 sConv .u8 x15 fun v6 =>
 sBin .add .int v5 v6 fun v7 =>
 sAaddr 1 128 x16 v3 fun v8 =>
 sStore 1 v8 v7 h nx fun v9 h10 n11 =>
 sBin .add .int z32 (I 1) fun v12 =>
 R (F89.fr x0 x1 x2 x3 x4 x5 x6 x7 x8 x9 x10 x11 x12 x13 x14 x15 x16 v3 x18 x19 x20 x21 x22 x23 x24 x25 x26 x27 x28 x29 x30 x31 v12 v1) h10 n11) (K (F89.fr x0 x1 x2 x3 x4 x5 x6 x7 x8 x9 x10 x11 x12 x13 x14 x15 x16 z17 x18 x19 x20 x21 x22 x23 x24 x25 x26 x27 x28 x29 x30 x31 z32 v1) h nx)) = .ok True) :
  IR.run F89.b33 C N (((((((fnO F89.res K0).blk 4 E4).blk 5 E5).blk 6 E6).blk 7 E7).blk 8 E8).blk 9 E9) K (F89.fr x0 x1 x2 x3 x4 x5 x6 x7 x8 x9 x10 x11 x12 x13 x14 x15 x16 x17 x18 x19 x20 x21 x22 x23 x24 x25 x26 x27 x28 x29 x30 x31 x32 x33) h nx = .ok True := by
 rw [F89.b33, F89.g33_eq, F89.b34]
 refine loop_ok (fun m tm h nx => ∃ z17 z32 z33, tm = (F89.fr x0 x1 x2 x3 x4 x5 x6 x7 x8 x9 x10 x11 x12 x13 x14 x15 x16 z17 x18 x19 x20 x21 x22 x23 x24 x25 x26 x27 x28 x29 x30 x31 z32 z33) ∧ Inv m z32 h nx) ?_ hm ⟨_, _, _, rfl, hi⟩
 rintro m tm h nx R ⟨z17, z32, z33, rfl, hi⟩ hR
 refine Eq.trans ?_ (step m z17 z32 z33 h nx R hi fun m' w17 w32 w33 h' nx' hlt hi' => hR m' _ h' nx' hlt ⟨_, _, _, rfl, hi'⟩)
 kernel_rfl
theorem F89.k40 {E4 E5 E6 E7 E8 E9 : Ks Prop} : IR.run F89.b40 C N (((((((fnO F89.res K0).blk 4 E4).blk 5 E5).blk 6 E6).blk 7 E7).blk 8 E8).blk 9 E9) K (F89.fr x0 x1 x2 x3 x4 x5 x6 x7 x8 x9 x10 x11 x12 x13 x14 x15 x16 x17 x18 x19 x20 x21 x22 x23 x24 x25 x26 x27 x28 x29 x30 x31 x32 x33) h nx =
 sLoadN 128 x16 h fun v1 =>
 sLook (.agg 128) (I 0) false x12 v1 h fun v2 =>
 sBin .add .int v2 x14 fun v3 =>
 sMapent (.agg 128) (I 0) x12 v1 h nx fun v4 h5 n6 =>
 (sBin .add .int v2 x14 fun v12 => sSame v12 v3 ((sLook (.agg 128) (I 0) false x12 v1 h5 fun v11 => sSame v11 v2 (sExt 1 v4 fun v7 =>
 sEntst x12 v7 v3 h5 n6 fun v8 h9 n10 =>
 K (F89.fr x0 x1 x2 x3 x4 x5 x6 x7 x8 x9 x10 x11 x12 x13 x14 x15 x16 x17 x18 x19 x20 x21 x22 x23 x24 x25 x26 x27 x28 x29 x30 x31 x32 x33) h9 n10)))) := by kernel_rfl
end Go.Ev
namespace Go.Ev
open Go Go.Proofs
set_option maxRecDepth 100000
variable {N : Nat} {C : Calls Prop} {K0 : Kw Prop} {K R : Ks Prop} {h : T Blk} {nx : Pa} {x0 x1 x2 x3 x4 x5 x6 x7 x8 x9 x10 x11 x12 x13 x14 x15 x16 x17 x18 x19 x20 x21 x22 a0 a1 a2 : AV}
theorem F31.g9_eq (X10 : IR) (O : Outs Prop) (t : T AV) : IR.run (F31.g9 X10) C N O K t h nx = IR.run X10 C N (O.blk 2 K) K t h nx := by kernel_rfl
theorem F31.g4_eq (X5 : IR) (O : Outs Prop) (t : T AV) : IR.run (F31.g4 X5) C N O K t h nx = IR.run X5 C N (O.blk 0 K) K t h nx := by kernel_rfl
theorem F31.tab : T.get none (.of 31) tbl = some F31 := by kernel_rfl
theorem F31.go : callFn tbl N C (.of 31) [a0, a1, a2] h nx K0 =
 sBox a0 h nx fun v1 h2 n3 =>
 sLoadN 2 v1 h2 fun v4 =>
 C.fn 87 (.of 87) [v4, a1] h2 n3 fun v5 h6 n7 =>
 sBin .neq .int v5 (I 0) fun v8 =>
 sCond v8 (K0 (.tup [(I 0), v5]) h6 n7) (sFaddr 0 v1 fun v9 =>
 sLoad v9 h6 fun v10 =>
 sBin .quo .int v10 (I 2) fun v11 =>
 sFaddr 0 v1 fun v12 =>
 sLoad v12 h6 fun v13 =>
 sBin .sub .int v13 v11 fun v14 =>
 C.fn 88 (.of 88) [v14, a1] h6 n7 fun v15 h16 n17 =>
 sCond v15 (K0 (.tup [(I 0), (I 20)]) h16 n17) (sFaddr 1 v1 fun v18 =>
 sLoad v18 h16 fun v19 =>
 sLen v19 fun v20 =>
 sBin .gtr .int v20 (I 0) fun v21 =>
 sG v21 true (fun k => k a2) fun v22 =>
 sG v21 true (fun k => sBin .lss .int v22 (I 0) k) fun v23 =>
 sG v21 true (fun k => k v23) fun v24 =>
 sG v24 false (fun k => k a2) fun v25 =>
 sG v24 false (fun k => sBin .gtr .int v25 (I 255) k) fun v26 =>
 sG v21 true (fun k => sPick v24 (.bool true) v26 k) fun v27 =>
 sPick v21 v27 (.bool false) fun v28 =>
 sCond v28 (K0 (.tup [(I 0), (I 0)]) h16 n17) ((IR.run F31.b3 C N (fnO F31.res K0) (retK F31.res K0)) (F31.fr a0 a1 a2 v1 (I 0) (I 0) v5 v11 .undef .undef .undef .undef .undef .undef v8 v15 v28 .undef .undef .undef .undef .undef .undef) h16 n17))) := by
 rw [callFn_of F31.tab]; kernel_rfl
theorem F31.k3 : IR.run F31.b3 C N (fnO F31.res K0) K (F31.fr x0 x1 x2 x3 x4 x5 x6 x7 x8 x9 x10 x11 x12 x13 x14 x15 x16 x17 x18 x19 x20 x21 x22) h nx =
 sLoadN 2 x3 h fun v1 =>
 sFaddr 0 x3 fun v2 =>
 sLoad v2 h fun v3 =>
 C.fn 89 (.of 89) [v1, x7, v3, x1] h nx fun v4 h5 n6 =>
 sLoadN 2 x3 h5 fun v7 =>
 C.fn 89 (.of 89) [v7, (I 0), x7, x1] h5 n6 fun v8 h9 n10 =>
 sRange v8 h9 n10 fun v11 h12 n13 =>
 IR.run F31.b4 C N (fnO F31.res K0) (IR.run F31.b18 C N (fnO F31.res K0) K) (F31.fr x0 x1 x2 x3 x4 x5 x6 x7 v4 (I 0) x10 x11 x12 x13 x14 x15 x16 v11 x18 x19 x20 x21 x22) h12 n13 := by kernel_rfl
theorem F31.L4 (Inv : Nat → AV → T Blk → Pa → Prop) {m : Nat} (hm : m < N) (hi : Inv m x9 h nx)
  (step : ∀ (m : Nat) (z9 z10 z11 z12 z13 z18 z19 z20 z21 z22 : AV) (h : T Blk) (nx : Pa) (R : Ks Prop), Inv m z9 h nx → (∀ (m' : Nat) (w9 w10 w11 w12 w13 w18 w19 w20 w21 w22 : AV) (h' : T Blk) (nx' : Pa), m' < m → Inv m' w9 h' nx' → R (F31.fr x0 x1 x2 x3 x4 x5 x6 x7 x8 w9 w10 w11 w12 w13 x14 x15 x16 x17 w18 w19 w20 w21 w22) h' nx' = .ok True) →
   (sNext C x17 h nx fun v1 h2 n3 =>
 sExt 0 v1 fun v4 =>
 sCond v4 (sEntry x17 h2 fun v5 =>
 sExt 0 v5 fun v6 =>
 sExt 1 v5 fun v7 =>
 sAlloc zU h2 n3 fun v8 h9 n10 =>
 sStore 128 v8 v6 h9 n10 fun v11 h12 n13 =>
 sAlloc zU h12 n13 fun v14 h15 n16 =>
 sFaddr 1 x3 fun v17 =>
 sLoad v17 h15 fun v18 =>
 sLen v18 fun v19 =>
 IR.run F31.b9 C N (((fnO F31.res K0).blk 0 K).blk 1 R) (IR.run F31.b17 C N (((fnO F31.res K0).blk 0 K).blk 1 R) R) (F31.fr x0 x1 x2 x3 x4 x5 x6 x7 x8 z9 v8 v7 v14 z13 x14 x15 x16 x17 v4 v19 (I 0) z21 z22) h15 n16) (K (F31.fr x0 x1 x2 x3 x4 x5 x6 x7 x8 z9 z10 z11 z12 z13 x14 x15 x16 x17 v4 z19 z20 z21 z22) h2 n3)) = .ok True) :
  IR.run F31.b4 C N (fnO F31.res K0) K (F31.fr x0 x1 x2 x3 x4 x5 x6 x7 x8 x9 x10 x11 x12 x13 x14 x15 x16 x17 x18 x19 x20 x21 x22) h nx = .ok True := by
 rw [F31.b4, F31.g4_eq, F31.b5]
 refine loop_ok (fun m tm h nx => ∃ z9 z10 z11 z12 z13 z18 z19 z20 z21 z22, tm = (F31.fr x0 x1 x2 x3 x4 x5 x6 x7 x8 z9 z10 z11 z12 z13 x14 x15 x16 x17 z18 z19 z20 z21 z22) ∧ Inv m z9 h nx) ?_ hm ⟨_, _, _, _, _, _, _, _, _, _, rfl, hi⟩
 rintro m tm h nx R ⟨z9, z10, z11, z12, z13, z18, z19, z20, z21, z22, rfl, hi⟩ hR
 refine Eq.trans ?_ (step m z9 z10 z11 z12 z13 z18 z19 z20 z21 z22 h nx R hi fun m' w9 w10 w11 w12 w13 w18 w19 w20 w21 w22 h' nx' hlt hi' => hR m' _ h' nx' hlt ⟨_, _, _, _, _, _, _, _, _, _, rfl, hi'⟩)
 kernel_rfl
theorem F31.k18 : IR.run F31.b18 C N (fnO F31.res K0) K (F31.fr x0 x1 x2 x3 x4 x5 x6 x7 x8 x9 x10 x11 x12 x13 x14 x15 x16 x17 x18 x19 x20 x21 x22) h nx =
 K0 (.tup [x9, (I 0)]) h nx := by kernel_rfl
theorem F31.L9 {E0 E1 : Ks Prop} (Inv : Nat → AV → T Blk → Pa → Prop) {m : Nat} (hm : m < N) (hi : Inv m x20 h nx)
  (step : ∀ (m : Nat) (z13 z20 z21 z22 : AV) (h : T Blk) (nx : Pa) (R : Ks Prop), Inv m z20 h nx → (∀ (m' : Nat) (w13 w20 w21 w22 : AV) (h' : T Blk) (nx' : Pa), m' < m → Inv m' w20 h' nx' → R (F31.fr x0 x1 x2 x3 x4 x5 x6 x7 x8 x9 x10 x11 x12 w13 x14 x15 x16 x17 x18 x19 w20 w21 w22) h' nx' = .ok True) →
   (sBin .lss .int z20 x19 fun v1 =>
 sCond v1 (sAaddr 1 128 x10 z20 fun v2 =>
 sLoad v2 h fun v3 =>
 sConv .i64 v3 fun v4 =>
 sBin .gtr .int v4 x2 fun v5 =>
 sCond v5 (E1 (F31.fr x0 x1 x2 x3 x4 x5 x6 x7 x8 x9 x10 x11 x12 z20 x14 x15 x16 x17 x18 x19 z20 v1 v5) h nx) (sConv .u8 x2 fun v6 =>
 sAaddr 1 128 x10 z20 fun v7 =>
 sLoad v7 h fun v8 =>
 sBin .sub .int v6 v8 fun v9 =>
 sAaddr 1 128 x12 z20 fun v10 =>
 sStore 1 v10 v9 h nx fun v11 h12 n13 =>
 sBin .add .int z20 (I 1) fun v14 =>
 R (F31.fr x0 x1 x2 x3 x4 x5 x6 x7 x8 x9 x10 x11 x12 z20 x14 x15 x16 x17 x18 x19 v14 v1 v5) h12 n13)) (K (F31.fr x0 x1 x2 x3 x4 x5 x6 x7 x8 x9 x10 x11 x12 z13 x14 x15 x16 x17 x18 x19 z20 v1 z22) h nx)) = .ok True) :
  IR.run F31.b9 C N (((fnO F31.res K0).blk 0 E0).blk 1 E1) K (F31.fr x0 x1 x2 x3 x4 x5 x6 x7 x8 x9 x10 x11 x12 x13 x14 x15 x16 x17 x18 x19 x20 x21 x22) h nx = .ok True := by
 rw [F31.b9, F31.g9_eq, F31.b10]
 refine loop_ok (fun m tm h nx => ∃ z13 z20 z21 z22, tm = (F31.fr x0 x1 x2 x3 x4 x5 x6 x7 x8 x9 x10 x11 x12 z13 x14 x15 x16 x17 x18 x19 z20 z21 z22) ∧ Inv m z20 h nx) ?_ hm ⟨_, _, _, _, rfl, hi⟩
 rintro m tm h nx R ⟨z13, z20, z21, z22, rfl, hi⟩ hR
 refine Eq.trans ?_ (step m z13 z20 z21 z22 h nx R hi fun m' w13 w20 w21 w22 h' nx' hlt hi' => hR m' _ h' nx' hlt ⟨_, _, _, _, rfl, hi'⟩)
 kernel_rfl
theorem F31.k17 {E0 E1 : Ks Prop} : IR.run F31.b17 C N (((fnO F31.res K0).blk 0 E0).blk 1 E1) K (F31.fr x0 x1 x2 x3 x4 x5 x6 x7 x8 x9 x10 x11 x12 x13 x14 x15 x16 x17 x18 x19 x20 x21 x22) h nx =
 sLoadN 128 x12 h fun v1 =>
 sLook (.agg 128) (I 0) false x8 v1 h fun v2 =>
 sBin .mul .int x11 v2 fun v3 =>
 sBin .add .int x9 v3 fun v4 =>
 K (F31.fr x0 x1 x2 x3 x4 x5 x6 x7 x8 v4 x10 x11 x12 x13 x14 x15 x16 x17 x18 x19 x20 x21 x22) h nx := by kernel_rfl
end Go.Ev
namespace Go.Ev
open Go Go.Proofs
set_option maxRecDepth 100000
variable {N : Nat} {C : Calls Prop} {K0 : Kw Prop} {K R : Ks Prop} {h : T Blk} {nx : Pa} {x0 x1 x2 x3 x4 x5 x6 a0 a1 a2 : AV}
theorem F45.g2_eq (X3 : IR) (O : Outs Prop) (t : T AV) : IR.run (F45.g2 X3) C N O K t h nx = IR.run X3 C N (O.blk 0 K) K t h nx := by kernel_rfl
theorem F45.tab : T.get none (.of 45) tbl = some F45 := by kernel_rfl
theorem F45.go : callFn tbl N C (.of 45) [a0] h nx K0 =
 sLen a0 fun v1 =>
 sBin .gtr .int v1 (I 256) fun v2 =>
 sCond v2 (K0 (I 5) h nx) (sLen a0 fun v3 =>
 sMkslice 1 1 [(.bool false)] v3 v3 h nx fun v4 h5 n6 =>
 IR.run F45.b2 C N (fnO F45.res K0) (IR.run F45.b10 C N (fnO F45.res K0) (retK F45.res K0)) (F45.fr a0 (I 0) v4 (I 0) v2 .undef .undef) h5 n6) := by
 rw [callFn_of F45.tab]; kernel_rfl
theorem F45.L2 (Inv : Nat → AV → T Blk → Pa → Prop) {m : Nat} (hm : m < N) (hi : Inv m x3 h nx)
  (step : ∀ (m : Nat) (z1 z3 z5 z6 : AV) (h : T Blk) (nx : Pa) (R : Ks Prop), Inv m z3 h nx → (∀ (m' : Nat) (w1 w3 w5 w6 : AV) (h' : T Blk) (nx' : Pa), m' < m → Inv m' w3 h' nx' → R (F45.fr x0 w1 x2 w3 x4 w5 w6) h' nx' = .ok True) →
   (sLen x0 fun v1 =>
 sBin .lss .int z3 v1 fun v2 =>
 sCond v2 (sIaddr 1 x0 z3 fun v3 =>
 sLoad v3 h fun v4 =>
 sBin .lss .int v4 (I 0) fun v5 =>
 sG v5 false (fun k => k x0) fun v6 =>
 sG v5 false (fun k => k z3) fun v7 =>
 sG v5 false (fun k => sIaddr 1 v6 v7 k) fun v8 =>
 sG v5 false (fun k => sLoad v8 h k) fun v9 =>
 sG v5 false (fun k => k x0) fun v10 =>
 sG v5 false (fun k => sLen v10 k) fun v11 =>
 sG v5 false (fun k => sBin .geq .int v9 v11 k) fun v12 =>
 sPick v5 (.bool true) v12 fun v13 =>
 sG v13 false (fun k => k x2) fun v14 =>
 sG v13 false (fun k => k x0) fun v15 =>
 sG v13 false (fun k => k z3) fun v16 =>
 sG v13 false (fun k => sIaddr 1 v15 v16 k) fun v17 =>
 sG v13 false (fun k => sLoad v17 h k) fun v18 =>
 sG v13 false (fun k => sIaddr 1 v14 v18 k) fun v19 =>
 sG v13 false (fun k => sLoad v19 h k) fun v20 =>
 sPick v13 (.bool true) v20 fun v21 =>
 sCond v21 (K0 (I 14) h nx) ((IR.run F45.b8 C N (((fnO F45.res K0).blk 0 K).blk 1 (IR.run F45.b9 C N ((fnO F45.res K0).blk 0 K) R)) (IR.run F45.b9 C N ((fnO F45.res K0).blk 0 K) R)) (F45.fr x0 z1 x2 z3 x4 v2 v21) h nx)) (K (F45.fr x0 z1 x2 z3 x4 v2 z6) h nx)) = .ok True) :
  IR.run F45.b2 C N (fnO F45.res K0) K (F45.fr x0 x1 x2 x3 x4 x5 x6) h nx = .ok True := by
 rw [F45.b2, F45.g2_eq, F45.b3]
 refine loop_ok (fun m tm h nx => ∃ z1 z3 z5 z6, tm = (F45.fr x0 z1 x2 z3 x4 z5 z6) ∧ Inv m z3 h nx) ?_ hm ⟨_, _, _, _, rfl, hi⟩
 rintro m tm h nx R ⟨z1, z3, z5, z6, rfl, hi⟩ hR
 refine Eq.trans ?_ (step m z1 z3 z5 z6 h nx R hi fun m' w1 w3 w5 w6 h' nx' hlt hi' => hR m' _ h' nx' hlt ⟨_, _, _, _, rfl, hi'⟩)
 kernel_rfl
theorem F45.k10 : IR.run F45.b10 C N (fnO F45.res K0) K (F45.fr x0 x1 x2 x3 x4 x5 x6) h nx =
 K0 (I 0) h nx := by kernel_rfl
theorem F45.k9 {E0 : Ks Prop} : IR.run F45.b9 C N ((fnO F45.res K0).blk 0 E0) K (F45.fr x0 x1 x2 x3 x4 x5 x6) h nx =
 sBin .add .int x3 (I 1) fun v1 =>
 K (F45.fr x0 x1 x2 v1 x4 x5 x6) h nx := by kernel_rfl
theorem F45.k8 {E0 E1 : Ks Prop} : IR.run F45.b8 C N (((fnO F45.res K0).blk 0 E0).blk 1 E1) K (F45.fr x0 x1 x2 x3 x4 x5 x6) h nx =
 sIaddr 1 x0 x3 fun v1 =>
 sLoad v1 h fun v2 =>
 sIaddr 1 x2 v2 fun v3 =>
 sStore 1 v3 (.bool true) h nx fun v4 h5 n6 =>
 K (F45.fr x0 x1 x2 x3 x4 x5 x6) h5 n6 := by kernel_rfl
theorem F47.tab : T.get none (.of 47) tbl = some F47 := by kernel_rfl
theorem F47.go : callFn tbl N C (.of 47) [a0, a1] h nx K0 =
 sBox a0 h nx fun v1 h2 n3 =>
 C.fn 104 (.of 104) [a1] h2 n3 fun v4 h5 n6 =>
 sBin .neq .int v4 (I 0) fun v7 =>
 sCond v7 (K0 (I 3) h5 n6) (sFaddr 0 v1 fun v8 =>
 sLoad v8 h5 fun v9 =>
 sLen v9 fun v10 =>
 sBin .neq .int v10 a1 fun v11 =>
 sCond v11 (K0 (I 2) h5 n6) (sFaddr 0 v1 fun v12 =>
 sLoad v12 h5 fun v13 =>
 C.fn 45 (.of 45) [v13] h5 n6 fun v14 h15 n16 =>
 K0 v14 h15 n16)) := by
 rw [callFn_of F47.tab]; kernel_rfl
theorem F104.tab : T.get none (.of 104) tbl = some F104 := by kernel_rfl
theorem F104.go : callFn tbl N C (.of 104) [a0] h nx K0 =
 sBin .lss .int a0 (I 0) fun v1 =>
 sG v1 false (fun k => k a0) fun v2 =>
 sG v1 false (fun k => sBin .gtr .int v2 (I 256) k) fun v3 =>
 sPick v1 (.bool true) v3 fun v4 =>
 sCond v4 (K0 (I 3) h nx) (K0 (I 0) h nx) := by
 rw [callFn_of F104.tab]; kernel_rfl
end Go.Ev
namespace Go.Ev
open Go Go.Proofs
set_option maxRecDepth 100000
variable {N : Nat} {C : Calls Prop} {K0 : Kw Prop} {K R : Ks Prop} {h : T Blk} {nx : Pa} {x0 x1 x2 x3 x4 x5 x6 x7 x8 a0 a1 : AV}
theorem F49.g1_eq (X2 : IR) (O : Outs Prop) (t : T AV) : IR.run (F49.g1 X2) C N O K t h nx = IR.run X2 C N (O.blk 0 K) K t h nx := by kernel_rfl
theorem F49.tab : T.get none (.of 49) tbl = some F49 := by kernel_rfl
theorem F49.go : callFn tbl N C (.of 49) [a0, a1] h nx K0 =
 sBox a0 h nx fun v1 h2 n3 =>
 sLen a1 fun v4 =>
 sMkslice 1 8 [(I 0)] v4 v4 h2 n3 fun v5 h6 n7 =>
 IR.run F49.b1 C N (fnO F49.res K0) (IR.run F49.b9 C N (fnO F49.res K0) (retK F49.res K0)) (F49.fr a0 a1 v1 .nils v5 (I 0) .undef .undef .undef) h6 n7 := by
 rw [callFn_of F49.tab]; kernel_rfl
theorem F49.L1 (Inv : Nat → AV → T Blk → Pa → Prop) {m : Nat} (hm : m < N) (hi : Inv m x5 h nx)
  (step : ∀ (m : Nat) (z5 z6 z7 z8 : AV) (h : T Blk) (nx : Pa) (R : Ks Prop), Inv m z5 h nx → (∀ (m' : Nat) (w5 w6 w7 w8 : AV) (h' : T Blk) (nx' : Pa), m' < m → Inv m' w5 h' nx' → R (F49.fr x0 x1 x2 x3 x4 w5 w6 w7 w8) h' nx' = .ok True) →
   (sLen x1 fun v1 =>
 sBin .lss .int z5 v1 fun v2 =>
 sCond v2 (sIaddr 1 x1 z5 fun v3 =>
 sLoad v3 h fun v4 =>
 sFaddr 1 x2 fun v5 =>
 sLoad v5 h fun v6 =>
 sCond v6 (sLen x1 fun v7 =>
 sBin .add .int v7 (I 1) fun v8 =>
 sBin .sub .int v8 v4 fun v9 =>
 sFaddr 0 x2 fun v10 =>
 sLoad v10 h fun v11 =>
 sIaddr 1 v11 z5 fun v12 =>
 sLoad v12 h fun v13 =>
 sIaddr 1 x4 v13 fun v14 =>
 sStore 1 v14 v9 h nx fun v15 h16 n17 =>
 sBin .add .int z5 (I 1) fun v18 =>
 R (F49.fr x0 x1 x2 x3 x4 v18 v9 v2 v6) h16 n17) (sFaddr 0 x2 fun v19 =>
 sLoad v19 h fun v20 =>
 sIaddr 1 v20 z5 fun v21 =>
 sLoad v21 h fun v22 =>
 sIaddr 1 x4 v22 fun v23 =>
 sStore 1 v23 v4 h nx fun v24 h25 n26 =>
 sBin .add .int z5 (I 1) fun v27 =>
 R (F49.fr x0 x1 x2 x3 x4 v27 v4 v2 v6) h25 n26)) (K (F49.fr x0 x1 x2 x3 x4 z5 z6 v2 z8) h nx)) = .ok True) :
  IR.run F49.b1 C N (fnO F49.res K0) K (F49.fr x0 x1 x2 x3 x4 x5 x6 x7 x8) h nx = .ok True := by
 rw [F49.b1, F49.g1_eq, F49.b2]
 refine loop_ok (fun m tm h nx => ∃ z5 z6 z7 z8, tm = (F49.fr x0 x1 x2 x3 x4 z5 z6 z7 z8) ∧ Inv m z5 h nx) ?_ hm ⟨_, _, _, _, rfl, hi⟩
 rintro m tm h nx R ⟨z5, z6, z7, z8, rfl, hi⟩ hR
 refine Eq.trans ?_ (step m z5 z6 z7 z8 h nx R hi fun m' w5 w6 w7 w8 h' nx' hlt hi' => hR m' _ h' nx' hlt ⟨_, _, _, _, rfl, hi'⟩)
 kernel_rfl
theorem F49.k9 : IR.run F49.b9 C N (fnO F49.res K0) K (F49.fr x0 x1 x2 x3 x4 x5 x6 x7 x8) h nx =
 K0 x4 h nx := by kernel_rfl
end Go.Ev
namespace Go.Ev
open Go Go.Proofs
set_option maxRecDepth 100000
variable {N : Nat} {C : Calls Prop} {K0 : Kw Prop} {K R : Ks Prop} {h : T Blk} {nx : Pa} {x0 x1 x2 x3 x4 x5 x6 x7 x8 x9 x10 a0 a1 : AV}
end Go.Ev
namespace Go.Ev
open Go Go.Proofs
set_option maxRecDepth 100000
variable {N : Nat} {C : Calls Prop} {K0 : Kw Prop} {K R : Ks Prop} {h : T Blk} {nx : Pa} {x0 x1 x2 x3 x4 x5 x6 x7 x8 a0 a1 : AV}
end Go.Ev
namespace Go.Ev
open Go Go.Proofs
set_option maxRecDepth 100000
variable {N : Nat} {C : Calls Prop} {K0 : Kw Prop} {K R : Ks Prop} {h : T Blk} {nx : Pa} {x0 x1 x2 x3 x4 x5 x6 x7 x8 a0 a1 a2 : AV}
end Go.Ev
namespace Go.Ev
open Go Go.Proofs
set_option maxRecDepth 100000
variable {N : Nat} {C : Calls Prop} {K0 : Kw Prop} {K R : Ks Prop} {h : T Blk} {nx : Pa} {x0 x1 x2 x3 x4 x5 x6 x7 x8 x9 x10 x11 x12 x13 a0 : AV}
end Go.Ev
namespace Go.Ev
open Go Go.Proofs
set_option maxRecDepth 100000
variable {N : Nat} {C : Calls Prop} {K0 : Kw Prop} {K R : Ks Prop} {h : T Blk} {nx : Pa} {x0 x1 x2 x3 x4 x5 x6 x7 a0 a1 a2 : AV}
theorem F131.tab : T.get none (.of 131) tbl = some F131 := by kernel_rfl
theorem F131.go : callFn tbl N C (.of 131) [a0, a1] h nx K0 =
 C.fn 165 (.of 165) [a0, a1] h nx fun v1 h2 n3 =>
 sBin .geq .int v1 (I 0) fun v4 =>
 K0 v4 h2 n3 := by
 rw [callFn_of F131.tab]; kernel_rfl
theorem F165.g1_eq (X2 : IR) (O : Outs Prop) (t : T AV) : IR.run (F165.g1 X2) C N O K t h nx = IR.run X2 C N (O.blk 0 K) K t h nx := by kernel_rfl
theorem F165.tab : T.get none (.of 165) tbl = some F165 := by kernel_rfl
theorem F165.go : callFn tbl N C (.of 165) [a0, a1] h nx K0 =
 sLen a0 fun v1 =>
 IR.run F165.b1 C N (fnO F165.res K0) (IR.run F165.b8 C N (fnO F165.res K0) (retK F165.res K0)) (F165.fr a0 a1 (I 0) .undef v1 (I 0) .undef .undef) h nx := by
 rw [callFn_of F165.tab]; kernel_rfl
theorem F165.L1 (Inv : Nat → AV → T Blk → Pa → Prop) {m : Nat} (hm : m < N) (hi : Inv m x5 h nx)
  (step : ∀ (m : Nat) (z2 z3 z5 z6 z7 : AV) (h : T Blk) (nx : Pa) (R : Ks Prop), Inv m z5 h nx → (∀ (m' : Nat) (w2 w3 w5 w6 w7 : AV) (h' : T Blk) (nx' : Pa), m' < m → Inv m' w5 h' nx' → R (F165.fr x0 x1 w2 w3 x4 w5 w6 w7) h' nx' = .ok True) →
   (sBin .lss .int z5 x4 fun v1 =>
 sCond v1 (sIaddr 1 x0 z5 fun v2 =>
 sLoad v2 h fun v3 =>
 sCall C x1 [v3] h nx fun v4 h5 n6 =>
 sCond v4 (K0 z5 h5 n6) (sBin .add .int z5 (I 1) fun v7 =>
 R (F165.fr x0 x1 z2 z5 x4 v7 v1 v4) h5 n6)) (K (F165.fr x0 x1 z2 z3 x4 z5 v1 z7) h nx)) = .ok True) :
  IR.run F165.b1 C N (fnO F165.res K0) K (F165.fr x0 x1 x2 x3 x4 x5 x6 x7) h nx = .ok True := by
 rw [F165.b1, F165.g1_eq, F165.b2]
 refine loop_ok (fun m tm h nx => ∃ z2 z3 z5 z6 z7, tm = (F165.fr x0 x1 z2 z3 x4 z5 z6 z7) ∧ Inv m z5 h nx) ?_ hm ⟨_, _, _, _, _, rfl, hi⟩
 rintro m tm h nx R ⟨z2, z3, z5, z6, z7, rfl, hi⟩ hR
 refine Eq.trans ?_ (step m z2 z3 z5 z6 z7 h nx R hi fun m' w2 w3 w5 w6 w7 h' nx' hlt hi' => hR m' _ h' nx' hlt ⟨_, _, _, _, _, rfl, hi'⟩)
 kernel_rfl
theorem F165.k8 : IR.run F165.b8 C N (fnO F165.res K0) K (F165.fr x0 x1 x2 x3 x4 x5 x6 x7) h nx =
 K0 (I (-1)) h nx := by kernel_rfl
theorem F80.g1_eq (X2 : IR) (O : Outs Prop) (t : T AV) : IR.run (F80.g1 X2) C N O K t h nx = IR.run X2 C N (O.blk 0 K) K t h nx := by kernel_rfl
theorem F80.tab : T.get none (.of 80) tbl = some F80 := by kernel_rfl
theorem F80.go : callFn tbl N C (.of 80) [a0] h nx K0 =
 sLen a0 fun v1 =>
 IR.run F80.b1 C N (fnO F80.res K0) (IR.run F80.b8 C N (fnO F80.res K0) (retK F80.res K0)) (F80.fr a0 (I 0) .undef a0 v1 (I 0) .undef .undef) h nx := by
 rw [callFn_of F80.tab]; kernel_rfl
theorem F80.L1 (Inv : Nat → AV → T Blk → Pa → Prop) {m : Nat} (hm : m < N) (hi : Inv m x5 h nx)
  (step : ∀ (m : Nat) (z1 z2 z5 z6 z7 : AV) (h : T Blk) (nx : Pa) (R : Ks Prop), Inv m z5 h nx → (∀ (m' : Nat) (w1 w2 w5 w6 w7 : AV) (h' : T Blk) (nx' : Pa), m' < m → Inv m' w5 h' nx' → R (F80.fr x0 w1 w2 x3 x4 w5 w6 w7) h' nx' = .ok True) →
   (sBin .lss .int z5 x4 fun v1 =>
 sCond v1 (sIaddr 1 x3 z5 fun v2 =>
 sLoad v2 h fun v3 =>
 sBin .neq .int v3 (I 0) fun v4 =>
 sCond v4 (K0 v3 h nx) (sBin .add .int z5 (I 1) fun v5 =>
 R (F80.fr x0 z1 v3 x3 x4 v5 v1 v4) h nx)) (K (F80.fr x0 z1 z2 x3 x4 z5 v1 z7) h nx)) = .ok True) :
  IR.run F80.b1 C N (fnO F80.res K0) K (F80.fr x0 x1 x2 x3 x4 x5 x6 x7) h nx = .ok True := by
 rw [F80.b1, F80.g1_eq, F80.b2]
 refine loop_ok (fun m tm h nx => ∃ z1 z2 z5 z6 z7, tm = (F80.fr x0 z1 z2 x3 x4 z5 z6 z7) ∧ Inv m z5 h nx) ?_ hm ⟨_, _, _, _, _, rfl, hi⟩
 rintro m tm h nx R ⟨z1, z2, z5, z6, z7, rfl, hi⟩ hR
 refine Eq.trans ?_ (step m z1 z2 z5 z6 z7 h nx R hi fun m' w1 w2 w5 w6 w7 h' nx' hlt hi' => hR m' _ h' nx' hlt ⟨_, _, _, _, _, rfl, hi'⟩)
 kernel_rfl
theorem F80.k8 : IR.run F80.b8 C N (fnO F80.res K0) K (F80.fr x0 x1 x2 x3 x4 x5 x6 x7) h nx =
 K0 (I 0) h nx := by kernel_rfl
end Go.Ev
namespace Go.Ev
open Go Go.Proofs
set_option maxRecDepth 100000
variable {N : Nat} {C : Calls Prop} {K0 : Kw Prop} {K R : Ks Prop} {h : T Blk} {nx : Pa} {x0 x1 x2 x3 x4 x5 x6 x7 x8 x9 x10 x11 x12 x13 a0 a1 : AV}
end Go.Ev
namespace Go.Ev
open Go Go.Proofs
set_option maxRecDepth 100000
variable {N : Nat} {C : Calls Prop} {K0 : Kw Prop} {K R : Ks Prop} {h : T Blk} {nx : Pa} {x0 x1 x2 x3 x4 x5 x6 x7 x8 x9 x10 x11 x12 x13 a0 a1 : AV}
end Go.Ev
namespace Go.Ev
open Go Go.Proofs
set_option maxRecDepth 100000
variable {N : Nat} {C : Calls Prop} {K0 : Kw Prop} {K R : Ks Prop} {h : T Blk} {nx : Pa} {x0 x1 x2 x3 x4 x5 x6 a0 a1 : AV}
end Go.Ev
namespace Go.Ev
open Go Go.Proofs
set_option maxRecDepth 100000
variable {N : Nat} {C : Calls Prop} {K0 : Kw Prop} {K R : Ks Prop} {h : T Blk} {nx : Pa} {x0 x1 x2 x3 x4 x5 x6 x7 x8 x9 x10 x11 x12 x13 x14 x15 x16 x17 a0 a1 : AV}
theorem F94.tab : T.get none (.of 94) tbl = some F94 := by kernel_rfl
theorem F94.go : callFn tbl N C (.of 94) [a0] h nx K0 =
 C.fn 131 (.of 131) [a0, (.fn 132 (.of 132) [])] h nx fun v1 h2 n3 =>
 K0 v1 h2 n3 := by
 rw [callFn_of F94.tab]; kernel_rfl
theorem F132.tab : T.get none (.of 132) tbl = some F132 := by kernel_rfl
theorem F132.go : callFn tbl N C (.of 132) [a0] h nx K0 =
 sBin .lss .int a0 (I (-999999999)) fun v1 =>
 sG v1 false (fun k => k a0) fun v2 =>
 sG v1 false (fun k => sBin .gtr .int v2 (I 999999999) k) fun v3 =>
 sPick v1 (.bool true) v3 fun v4 =>
 K0 v4 h nx := by
 rw [callFn_of F132.tab]; kernel_rfl
theorem F37.g2_eq (X3 : IR) (O : Outs Prop) (t : T AV) : IR.run (F37.g2 X3) C N O K t h nx = IR.run X3 C N (O.blk 0 K) K t h nx := by kernel_rfl
theorem F37.tab : T.get none (.of 37) tbl = some F37 := by kernel_rfl
theorem F37.go : callFn tbl N C (.of 37) [a0, a1] h nx K0 =
 sLen a1 fun v1 =>
 sBin .neq .int v1 a0 fun v2 =>
 sCond v2 (K0 (I 2) h nx) (IR.run F37.b2 C N (fnO F37.res K0) (IR.run F37.b9 C N (fnO F37.res K0) (retK F37.res K0)) (F37.fr a0 a1 (I 0) (I 0) v2 .undef .undef) h nx) := by
 rw [callFn_of F37.tab]; kernel_rfl
theorem F37.L2 (Inv : Nat → AV → T Blk → Pa → Prop) {m : Nat} (hm : m < N) (hi : Inv m x3 h nx)
  (step : ∀ (m : Nat) (z2 z3 z5 z6 : AV) (h : T Blk) (nx : Pa) (R : Ks Prop), Inv m z3 h nx → (∀ (m' : Nat) (w2 w3 w5 w6 : AV) (h' : T Blk) (nx' : Pa), m' < m → Inv m' w3 h' nx' → R (F37.fr x0 x1 w2 w3 x4 w5 w6) h' nx' = .ok True) →
   (sLen x1 fun v1 =>
 sBin .lss .int z3 v1 fun v2 =>
 sCond v2 (sIaddr 1 x1 z3 fun v3 =>
 sLoad v3 h fun v4 =>
 sBin .lss .int v4 (I (-999999999)) fun v5 =>
 sG v5 false (fun k => k x1) fun v6 =>
 sG v5 false (fun k => k z3) fun v7 =>
 sG v5 false (fun k => sIaddr 1 v6 v7 k) fun v8 =>
 sG v5 false (fun k => sLoad v8 h k) fun v9 =>
 sG v5 false (fun k => sBin .gtr .int v9 (I 999999999) k) fun v10 =>
 sPick v5 (.bool true) v10 fun v11 =>
 sCond v11 (K0 (I 3) h nx) (sBin .add .int z3 (I 1) fun v12 =>
 R (F37.fr x0 x1 z2 v12 x4 v2 v11) h nx)) (K (F37.fr x0 x1 z2 z3 x4 v2 z6) h nx)) = .ok True) :
  IR.run F37.b2 C N (fnO F37.res K0) K (F37.fr x0 x1 x2 x3 x4 x5 x6) h nx = .ok True := by
 rw [F37.b2, F37.g2_eq, F37.b3]
 refine loop_ok (fun m tm h nx => ∃ z2 z3 z5 z6, tm = (F37.fr x0 x1 z2 z3 x4 z5 z6) ∧ Inv m z3 h nx) ?_ hm ⟨_, _, _, _, rfl, hi⟩
 rintro m tm h nx R ⟨z2, z3, z5, z6, rfl, hi⟩ hR
 refine Eq.trans ?_ (step m z2 z3 z5 z6 h nx R hi fun m' w2 w3 w5 w6 h' nx' hlt hi' => hR m' _ h' nx' hlt ⟨_, _, _, _, rfl, hi'⟩)
 kernel_rfl
theorem F37.k9 : IR.run F37.b9 C N (fnO F37.res K0) K (F37.fr x0 x1 x2 x3 x4 x5 x6) h nx =
 K0 (I 0) h nx := by kernel_rfl
theorem F74.g1_eq (X2 : IR) (O : Outs Prop) (t : T AV) : IR.run (F74.g1 X2) C N O K t h nx = IR.run X2 C N (O.blk 0 K) K t h nx := by kernel_rfl
theorem F74.tab : T.get none (.of 74) tbl = some F74 := by kernel_rfl
theorem F74.go : callFn tbl N C (.of 74) [a0, a1] h nx K0 =
 IR.run F74.b1 C N (fnO F74.res K0) (IR.run F74.b8 C N (fnO F74.res K0) (retK F74.res K0)) (F74.fr a0 a1 (.bool false) (I 0) .undef .undef) h nx := by
 rw [callFn_of F74.tab]; kernel_rfl
theorem F74.L1 (Inv : Nat → AV → T Blk → Pa → Prop) {m : Nat} (hm : m < N) (hi : Inv m x3 h nx)
  (step : ∀ (m : Nat) (z2 z3 z4 z5 : AV) (h : T Blk) (nx : Pa) (R : Ks Prop), Inv m z3 h nx → (∀ (m' : Nat) (w2 w3 w4 w5 : AV) (h' : T Blk) (nx' : Pa), m' < m → Inv m' w3 h' nx' → R (F74.fr x0 x1 w2 w3 w4 w5) h' nx' = .ok True) →
   (sLen x0 fun v1 =>
 sBin .lss .int z3 v1 fun v2 =>
 sG v2 true (fun k => k z3) fun v3 =>
 sG v2 true (fun k => k x1) fun v4 =>
 sG v2 true (fun k => sLen v4 k) fun v5 =>
 sG v2 true (fun k => sBin .lss .int v3 v5 k) fun v6 =>
 sPick v2 v6 (.bool false) fun v7 =>
 sCond v7 ((IR.run F74.b4 C N ((fnO F74.res K0).blk 0 K) R) (F74.fr x0 x1 z2 z3 v7 z5) h nx) (K (F74.fr x0 x1 z2 z3 v7 z5) h nx)) = .ok True) :
  IR.run F74.b1 C N (fnO F74.res K0) K (F74.fr x0 x1 x2 x3 x4 x5) h nx = .ok True := by
 rw [F74.b1, F74.g1_eq, F74.b2]
 refine loop_ok (fun m tm h nx => ∃ z2 z3 z4 z5, tm = (F74.fr x0 x1 z2 z3 z4 z5) ∧ Inv m z3 h nx) ?_ hm ⟨_, _, _, _, rfl, hi⟩
 rintro m tm h nx R ⟨z2, z3, z4, z5, rfl, hi⟩ hR
 refine Eq.trans ?_ (step m z2 z3 z4 z5 h nx R hi fun m' w2 w3 w4 w5 h' nx' hlt hi' => hR m' _ h' nx' hlt ⟨_, _, _, _, rfl, hi'⟩)
 kernel_rfl
theorem F74.k8 : IR.run F74.b8 C N (fnO F74.res K0) K (F74.fr x0 x1 x2 x3 x4 x5) h nx =
 sLen x0 fun v1 =>
 sLen x1 fun v2 =>
 sBin .lss .int v1 v2 fun v3 =>
 K0 v3 h nx := by kernel_rfl
theorem F74.k4 {E0 : Ks Prop} : IR.run F74.b4 C N ((fnO F74.res K0).blk 0 E0) K (F74.fr x0 x1 x2 x3 x4 x5) h nx =
 sIaddr 1 x0 x3 fun v1 =>
 sLoad v1 h fun v2 =>
 sIaddr 1 x1 x3 fun v3 =>
 sLoad v3 h fun v4 =>
 sBin .neq .int v2 v4 fun v5 =>
 sCond v5 (sIaddr 1 x0 x3 fun v6 =>
 sLoad v6 h fun v7 =>
 sIaddr 1 x1 x3 fun v8 =>
 sLoad v8 h fun v9 =>
 sBin .lss .int v7 v9 fun v10 =>
 K0 v10 h nx) (sBin .add .int x3 (I 1) fun v11 =>
 K (F74.fr x0 x1 x2 v11 x4 v5) h nx) := by kernel_rfl
theorem F92.g1_eq (X2 : IR) (O : Outs Prop) (t : T AV) : IR.run (F92.g1 X2) C N O K t h nx = IR.run X2 C N (O.blk 0 K) K t h nx := by kernel_rfl
theorem F92.tab : T.get none (.of 92) tbl = some F92 := by kernel_rfl
theorem F92.go : callFn tbl N C (.of 92) [a0, a1] h nx K0 =
 sLen a0 fun v1 =>
 IR.run F92.b1 C N (fnO F92.res K0) (IR.run F92.b9 C N (fnO F92.res K0) (retK F92.res K0)) (F92.fr a0 a1 (I 0) .undef .undef .undef .undef a0 v1 (I 0) .undef .undef .undef .undef) h nx := by
 rw [callFn_of F92.tab]; kernel_rfl
theorem F92.L1 (Inv : Nat → AV → T Blk → Pa → Prop) {m : Nat} (hm : m < N) (hi : Inv m x9 h nx)
  (step : ∀ (m : Nat) (z2 z3 z4 z5 z6 z9 z10 z11 z12 : AV) (h : T Blk) (nx : Pa) (R : Ks Prop), Inv m z9 h nx → (∀ (m' : Nat) (w2 w3 w4 w5 w6 w9 w10 w11 w12 : AV) (h' : T Blk) (nx' : Pa), m' < m → Inv m' w9 h' nx' → R (F92.fr x0 x1 w2 w3 w4 w5 w6 x7 x8 w9 w10 w11 w12 x13) h' nx' = .ok True) →
   (sBin .lss .int z9 x8 fun v1 =>
 sCond v1 (sIaddr 1 x7 z9 fun v2 =>
 sLoad v2 h fun v3 =>
 sLen x1 fun v4 =>
 sBin .geq .int z9 v4 fun v5 =>
 sCond v5 (K0 (I 1) h nx) (sIaddr 1 x1 z9 fun v6 =>
 sLoad v6 h fun v7 =>
 C.fn 130 (.of 130) [v3, v7] h nx fun v8 h9 n10 =>
 sBin .neq .int v8 (I 0) fun v11 =>
 sCond v11 (K0 v8 h9 n10) (sBin .add .int z9 (I 1) fun v12 =>
 R (F92.fr x0 x1 z2 z9 v3 v7 v8 x7 x8 v12 v1 v5 v11 x13) h9 n10))) (K (F92.fr x0 x1 z2 z3 z4 z5 z6 x7 x8 z9 v1 z11 z12 x13) h nx)) = .ok True) :
  IR.run F92.b1 C N (fnO F92.res K0) K (F92.fr x0 x1 x2 x3 x4 x5 x6 x7 x8 x9 x10 x11 x12 x13) h nx = .ok True := by
 rw [F92.b1, F92.g1_eq, F92.b2]
 refine loop_ok (fun m tm h nx => ∃ z2 z3 z4 z5 z6 z9 z10 z11 z12, tm = (F92.fr x0 x1 z2 z3 z4 z5 z6 x7 x8 z9 z10 z11 z12 x13) ∧ Inv m z9 h nx) ?_ hm ⟨_, _, _, _, _, _, _, _, _, rfl, hi⟩
 rintro m tm h nx R ⟨z2, z3, z4, z5, z6, z9, z10, z11, z12, rfl, hi⟩ hR
 refine Eq.trans ?_ (step m z2 z3 z4 z5 z6 z9 z10 z11 z12 h nx R hi fun m' w2 w3 w4 w5 w6 w9 w10 w11 w12 h' nx' hlt hi' => hR m' _ h' nx' hlt ⟨_, _, _, _, _, _, _, _, _, rfl, hi'⟩)
 kernel_rfl
theorem F92.k9 : IR.run F92.b9 C N (fnO F92.res K0) K (F92.fr x0 x1 x2 x3 x4 x5 x6 x7 x8 x9 x10 x11 x12 x13) h nx =
 sLen x0 fun v1 =>
 sLen x1 fun v2 =>
 sBin .lss .int v1 v2 fun v3 =>
 sCond v3 (K0 (I (-1)) h nx) (K0 (I 0) h nx) := by kernel_rfl
theorem F130.tab : T.get none (.of 130) tbl = some F130 := by kernel_rfl
theorem F130.go : callFn tbl N C (.of 130) [a0, a1] h nx K0 =
 C.fn 164 (.of 164) [a0] h nx fun v1 h2 n3 =>
 C.fn 164 (.of 164) [a1] h2 n3 fun v4 h5 n6 =>
 sCond v1 (sCond v4 (K0 (I 0) h5 n6) (K0 (I (-1)) h5 n6)) (sCond v4 (K0 (I 1) h5 n6) (sBin .lss .int a0 a1 fun v7 =>
 sCond v7 (K0 (I (-1)) h5 n6) (sBin .gtr .int a0 a1 fun v8 =>
 sCond v8 (K0 (I 1) h5 n6) (K0 (I 0) h5 n6)))) := by
 rw [callFn_of F130.tab]; kernel_rfl
theorem F164.tab : T.get none (.of 164) tbl = some F164 := by kernel_rfl
theorem F164.go : callFn tbl N C (.of 164) [a0] h nx K0 =
 sBin .neq .int a0 a0 fun v1 =>
 K0 v1 h nx := by
 rw [callFn_of F164.tab]; kernel_rfl
end Go.Ev
namespace Go.Ev
open Go Go.Proofs
set_option maxRecDepth 100000
variable {N : Nat} {C : Calls Prop} {K0 : Kw Prop} {K R : Ks Prop} {h : T Blk} {nx : Pa} {x0 x1 x2 x3 x4 x5 x6 x7 x8 x9 x10 x11 x12 x13 x14 x15 x16 x17 a0 a1 a2 : AV}
theorem F143.tab : T.get none (.of 143) tbl = some F143 := by kernel_rfl
theorem F143.go : callFn tbl N C (.of 143) [a0, a1] h nx K0 =
 sBox a0 h nx fun v1 h2 n3 =>
 sBox a1 h2 n3 fun v4 h5 n6 =>
 sFaddr 0 v1 fun v7 =>
 sLoad v7 h5 fun v8 =>
 sFaddr 0 v4 fun v9 =>
 sLoad v9 h5 fun v10 =>
 C.fn 35 (.of 35) [v8, v10] h5 n6 fun v11 h12 n13 =>
 sCond v11 (sFaddr 1 v1 fun v14 =>
 sLoad v14 h12 fun v15 =>
 sNot v15 fun v16 =>
 sG v16 true (fun k => sFaddr 1 v4 k) fun v17 =>
 sG v16 true (fun k => sLoad v17 h12 k) fun v18 =>
 sPick v16 v18 (.bool false) fun v19 =>
 K0 v19 h12 n13) (sFaddr 0 v1 fun v20 =>
 sLoad v20 h12 fun v21 =>
 sFaddr 0 v4 fun v22 =>
 sLoad v22 h12 fun v23 =>
 C.fn 74 (.of 74) [v21, v23] h12 n13 fun v24 h25 n26 =>
 K0 v24 h25 n26) := by
 rw [callFn_of F143.tab]; kernel_rfl
theorem F144.g1_eq (X2 : IR) (O : Outs Prop) (t : T AV) : IR.run (F144.g1 X2) C N O K t h nx = IR.run X2 C N (O.blk 0 K) K t h nx := by kernel_rfl
theorem F144.tab : T.get none (.of 144) tbl = some F144 := by kernel_rfl
theorem F144.go : callFn tbl N C (.of 144) [a0, a1] h nx K0 =
 sBox a1 h nx fun v1 h2 n3 =>
 IR.run F144.b1 C N (fnO F144.res K0) (IR.run F144.b8 C N (fnO F144.res K0) (retK F144.res K0)) (F144.fr a0 a1 v1 (I 0) (I 0) .undef .undef) h2 n3 := by
 rw [callFn_of F144.tab]; kernel_rfl
theorem F144.L1 (Inv : Nat → AV → T Blk → Pa → Prop) {m : Nat} (hm : m < N) (hi : Inv m x4 h nx)
  (step : ∀ (m : Nat) (z3 z4 z5 z6 : AV) (h : T Blk) (nx : Pa) (R : Ks Prop), Inv m z4 h nx → (∀ (m' : Nat) (w3 w4 w5 w6 : AV) (h' : T Blk) (nx' : Pa), m' < m → Inv m' w4 h' nx' → R (F144.fr x0 x1 x2 w3 w4 w5 w6) h' nx' = .ok True) →
   (sLen x0 fun v1 =>
 sBin .lss .int z4 v1 fun v2 =>
 sCond v2 (sIaddr 2 x0 z4 fun v3 =>
 sLoadN 2 v3 h fun v4 =>
 sLoadN 2 x2 h fun v5 =>
 C.fn 169 (.of 169) [v4, v5] h nx fun v6 h7 n8 =>
 sCond v6 (K0 z4 h7 n8) (sBin .add .int z4 (I 1) fun v9 =>
 R (F144.fr x0 x1 x2 z3 v9 v2 v6) h7 n8)) (K (F144.fr x0 x1 x2 z3 z4 v2 z6) h nx)) = .ok True) :
  IR.run F144.b1 C N (fnO F144.res K0) K (F144.fr x0 x1 x2 x3 x4 x5 x6) h nx = .ok True := by
 rw [F144.b1, F144.g1_eq, F144.b2]
 refine loop_ok (fun m tm h nx => ∃ z3 z4 z5 z6, tm = (F144.fr x0 x1 x2 z3 z4 z5 z6) ∧ Inv m z4 h nx) ?_ hm ⟨_, _, _, _, rfl, hi⟩
 rintro m tm h nx R ⟨z3, z4, z5, z6, rfl, hi⟩ hR
 refine Eq.trans ?_ (step m z3 z4 z5 z6 h nx R hi fun m' w3 w4 w5 w6 h' nx' hlt hi' => hR m' _ h' nx' hlt ⟨_, _, _, _, rfl, hi'⟩)
 kernel_rfl
theorem F144.k8 : IR.run F144.b8 C N (fnO F144.res K0) K (F144.fr x0 x1 x2 x3 x4 x5 x6) h nx =
 K0 (I (-1)) h nx := by kernel_rfl
theorem F145.tab : T.get none (.of 145) tbl = some F145 := by kernel_rfl
theorem F145.go : callFn tbl N C (.of 145) [a0, a1] h nx K0 =
 sBox a0 h nx fun v1 h2 n3 =>
 sBox a1 h2 n3 fun v4 h5 n6 =>
 sAlloc [.nils, (.bool false)] h5 n6 fun v7 h8 n9 =>
 sFaddr 0 v1 fun v10 =>
 sLoad v10 h8 fun v11 =>
 sFaddr 0 v4 fun v12 =>
 sLoad v12 h8 fun v13 =>
 sFaddr 1 v1 fun v14 =>
 sLoad v14 h8 fun v15 =>
 sFaddr 1 v4 fun v16 =>
 sLoad v16 h8 fun v17 =>
 sBin .neq .bool v15 v17 fun v18 =>
 C.fn 170 (.of 170) [v11, v13] h8 n9 fun v19 h20 n21 =>
 (sBin .neq .bool v15 v17 fun v31 => sSame v31 v18 ((sLoad v16 h20 fun v30 => sSame v30 v17 ((sFaddr 1 v4 fun v29 => sSame v29 v16 ((sLoad v14 h20 fun v28 => sSame v28 v15 ((sFaddr 1 v1 fun v27 => sSame v27 v14 (sBuild [.nils, (.bool false)] [(0, 1, v19), (1, 1, v18)] fun v22 =>
 sStore 2 v7 v22 h20 n21 fun v23 h24 n25 =>
 sLoadN 2 v7 h24 fun v26 => K0 v26 h24 n25)))))))))) := by
 rw [callFn_of F145.tab]; kernel_rfl
theorem F169.tab : T.get none (.of 169) tbl = some F169 := by kernel_rfl
theorem F169.go : callFn tbl N C (.of 169) [a0, a1] h nx K0 =
 sBox a0 h nx fun v1 h2 n3 =>
 sBox a1 h2 n3 fun v4 h5 n6 =>
 sFaddr 1 v1 fun v7 =>
 sLoad v7 h5 fun v8 =>
 sFaddr 1 v4 fun v9 =>
 sLoad v9 h5 fun v10 =>
 sBin .eql .bool v8 v10 fun v11 =>
 sG v11 true (fun k => sFaddr 0 v1 k) fun v12 =>
 sG v11 true (fun k => sLoad v12 h5 k) fun v13 =>
 sG v11 true (fun k => sFaddr 0 v4 k) fun v14 =>
 sG v11 true (fun k => sLoad v14 h5 k) fun v15 =>
 sGW v11 true (fun k => C.fn 35 (.of 35) [v13, v15] h5 n6 k) h5 n6 fun v16 h17 n18 =>
 sPick v11 v16 (.bool false) fun v19 =>
 K0 v19 h17 n18 := by
 rw [callFn_of F169.tab]; kernel_rfl
theorem F170.g1_eq (X2 : IR) (O : Outs Prop) (t : T AV) : IR.run (F170.g1 X2) C N O K t h nx = IR.run X2 C N (O.blk 0 K) K t h nx := by kernel_rfl
theorem F170.tab : T.get none (.of 170) tbl = some F170 := by kernel_rfl
theorem F170.go : callFn tbl N C (.of 170) [a0, a1] h nx K0 =
 IR.run F170.b1 C N (fnO F170.res K0) (IR.run F170.b8 C N (fnO F170.res K0) (retK F170.res K0)) (F170.fr a0 a1 .nils .nils (I 0) .undef) h nx := by
 rw [callFn_of F170.tab]; kernel_rfl
theorem F170.L1 (Inv : Nat → AV → AV → T Blk → Pa → Prop) {m : Nat} (hm : m < N) (hi : Inv m x3 x4 h nx)
  (step : ∀ (m : Nat) (z3 z4 z5 : AV) (h : T Blk) (nx : Pa) (R : Ks Prop), Inv m z3 z4 h nx → (∀ (m' : Nat) (w3 w4 w5 : AV) (h' : T Blk) (nx' : Pa), m' < m → Inv m' w3 w4 h' nx' → R (F170.fr x0 x1 x2 w3 w4 w5) h' nx' = .ok True) →
   (sLen x1 fun v1 =>
 sBin .lss .int z4 v1 fun v2 =>
 sCond v2 (sIaddr 1 x1 z4 fun v3 =>
 sLoad v3 h fun v4 =>
 sIaddr 1 x0 v4 fun v5 =>
 sLoad v5 h fun v6 =>
 sBslice 1 1 [(I 0)] [(0, 1, v6)] h nx fun v7 h8 n9 =>
 sApp 1 8 z3 v7 h8 n9 fun v10 h11 n12 =>
 sBin .add .int z4 (I 1) fun v13 =>
 R (F170.fr x0 x1 x2 v10 v13 v2) h11 n12) (K (F170.fr x0 x1 x2 z3 z4 v2) h nx)) = .ok True) :
  IR.run F170.b1 C N (fnO F170.res K0) K (F170.fr x0 x1 x2 x3 x4 x5) h nx = .ok True := by
 rw [F170.b1, F170.g1_eq, F170.b2]
 refine loop_ok (fun m tm h nx => ∃ z3 z4 z5, tm = (F170.fr x0 x1 x2 z3 z4 z5) ∧ Inv m z3 z4 h nx) ?_ hm ⟨_, _, _, rfl, hi⟩
 rintro m tm h nx R ⟨z3, z4, z5, rfl, hi⟩ hR
 refine Eq.trans ?_ (step m z3 z4 z5 h nx R hi fun m' w3 w4 w5 h' nx' hlt hi' => hR m' _ h' nx' hlt ⟨_, _, _, rfl, hi'⟩)
 kernel_rfl
theorem F170.k8 : IR.run F170.b8 C N (fnO F170.res K0) K (F170.fr x0 x1 x2 x3 x4 x5) h nx =
 K0 x3 h nx := by kernel_rfl
theorem F110.g4_eq (X5 : IR) (O : Outs Prop) (t : T AV) : IR.run (F110.g4 X5) C N O K t h nx = IR.run X5 C N (O.blk 0 K) K t h nx := by kernel_rfl
theorem F110.g12_eq (X13 : IR) (O : Outs Prop) (t : T AV) : IR.run (F110.g12 X13) C N O K t h nx = IR.run X13 C N (O.blk 2 K) K t h nx := by kernel_rfl
theorem F110.g26_eq (X27 : IR) (O : Outs Prop) (t : T AV) : IR.run (F110.g26 X27) C N O K t h nx = IR.run X27 C N (O.blk 6 K) K t h nx := by kernel_rfl
theorem F110.g20_eq (X21 : IR) (O : Outs Prop) (t : T AV) : IR.run (F110.g20 X21) C N O K t h nx = IR.run X21 C N (O.blk 4 K) K t h nx := by kernel_rfl
theorem F110.tab : T.get none (.of 110) tbl = some F110 := by kernel_rfl
theorem F110.go : callFn tbl N C (.of 110) [a0, a1] h nx K0 =
 C.fn 104 (.of 104) [a1] h nx fun v1 h2 n3 =>
 sBin .neq .int v1 (I 0) fun v4 =>
 sCond v4 (K0 (I 3) h2 n3) (sLen a0 fun v5 =>
 sBin .eql .int v5 (I 0) fun v6 =>
 sCond v6 (K0 (I 12) h2 n3) (sLen a0 fun v7 =>
 sBin .gtr .int v7 (I 1536) fun v8 =>
 sCond v8 (K0 (I 5) h2 n3) (IR.run F110.b4 C N (fnO F110.res K0) (IR.run F110.b11 C N (fnO F110.res K0) (retK F110.res K0)) (F110.fr a0 a1 (I 0) (I 0) .undef .undef .undef .undef v4 v6 v8 .undef .undef .undef .undef .undef .undef .undef) h2 n3))) := by
 rw [callFn_of F110.tab]; kernel_rfl
theorem F110.L4 (Inv : Nat → AV → T Blk → Pa → Prop) {m : Nat} (hm : m < N) (hi : Inv m x3 h nx)
  (step : ∀ (m : Nat) (z2 z3 z4 z11 z12 : AV) (h : T Blk) (nx : Pa) (R : Ks Prop), Inv m z3 h nx → (∀ (m' : Nat) (w2 w3 w4 w11 w12 : AV) (h' : T Blk) (nx' : Pa), m' < m → Inv m' w3 h' nx' → R (F110.fr x0 x1 w2 w3 w4 x5 x6 x7 x8 x9 x10 w11 w12 x13 x14 x15 x16 x17) h' nx' = .ok True) →
   (sLen x0 fun v1 =>
 sBin .lss .int z3 v1 fun v2 =>
 sCond v2 (sIaddr 2 x0 z3 fun v3 =>
 sLoadN 2 v3 h fun v4 =>
 C.fn 47 (.of 47) [v4, x1] h nx fun v5 h6 n7 =>
 sBin .neq .int v5 (I 0) fun v8 =>
 sCond v8 (K0 v5 h6 n7) (sBin .add .int z3 (I 1) fun v9 =>
 R (F110.fr x0 x1 z2 v9 v5 x5 x6 x7 x8 x9 x10 v2 v8 x13 x14 x15 x16 x17) h6 n7)) (K (F110.fr x0 x1 z2 z3 z4 x5 x6 x7 x8 x9 x10 v2 z12 x13 x14 x15 x16 x17) h nx)) = .ok True) :
  IR.run F110.b4 C N (fnO F110.res K0) K (F110.fr x0 x1 x2 x3 x4 x5 x6 x7 x8 x9 x10 x11 x12 x13 x14 x15 x16 x17) h nx = .ok True := by
 rw [F110.b4, F110.g4_eq, F110.b5]
 refine loop_ok (fun m tm h nx => ∃ z2 z3 z4 z11 z12, tm = (F110.fr x0 x1 z2 z3 z4 x5 x6 x7 x8 x9 x10 z11 z12 x13 x14 x15 x16 x17) ∧ Inv m z3 h nx) ?_ hm ⟨_, _, _, _, _, rfl, hi⟩
 rintro m tm h nx R ⟨z2, z3, z4, z11, z12, rfl, hi⟩ hR
 refine Eq.trans ?_ (step m z2 z3 z4 z11 z12 h nx R hi fun m' w2 w3 w4 w11 w12 h' nx' hlt hi' => hR m' _ h' nx' hlt ⟨_, _, _, _, _, rfl, hi'⟩)
 kernel_rfl
theorem F110.k11 : IR.run F110.b11 C N (fnO F110.res K0) K (F110.fr x0 x1 x2 x3 x4 x5 x6 x7 x8 x9 x10 x11 x12 x13 x14 x15 x16 x17) h nx =
 IR.run F110.b12 C N (fnO F110.res K0) (IR.run F110.b19 C N (fnO F110.res K0) K) (F110.fr x0 x1 x2 x3 x4 (I 1) x6 x7 x8 x9 x10 x11 x12 x13 x14 x15 x16 x17) h nx := by kernel_rfl
theorem F110.L12 (Inv : Nat → AV → T Blk → Pa → Prop) {m : Nat} (hm : m < N) (hi : Inv m x5 h nx)
  (step : ∀ (m : Nat) (z2 z5 z13 z14 : AV) (h : T Blk) (nx : Pa) (R : Ks Prop), Inv m z5 h nx → (∀ (m' : Nat) (w2 w5 w13 w14 : AV) (h' : T Blk) (nx' : Pa), m' < m → Inv m' w5 h' nx' → R (F110.fr x0 x1 w2 x3 x4 w5 x6 x7 x8 x9 x10 x11 x12 w13 w14 x15 x16 x17) h' nx' = .ok True) →
   (sLen x0 fun v1 =>
 sBin .lss .int z5 v1 fun v2 =>
 sCond v2 (sBin .sub .int z5 (I 1) fun v3 =>
 sIaddr 2 x0 v3 fun v4 =>
 sLoadN 2 v4 h fun v5 =>
 sIaddr 2 x0 z5 fun v6 =>
 sLoadN 2 v6 h fun v7 =>
 C.fn 143 (.of 143) [v5, v7] h nx fun v8 h9 n10 =>
 sNot v8 fun v11 =>
 sCond v11 (K0 (I 11) h9 n10) (sBin .add .int z5 (I 1) fun v12 =>
 R (F110.fr x0 x1 z2 x3 x4 v12 x6 x7 x8 x9 x10 x11 x12 v2 v11 x15 x16 x17) h9 n10)) (K (F110.fr x0 x1 z2 x3 x4 z5 x6 x7 x8 x9 x10 x11 x12 v2 z14 x15 x16 x17) h nx)) = .ok True) :
  IR.run F110.b12 C N (fnO F110.res K0) K (F110.fr x0 x1 x2 x3 x4 x5 x6 x7 x8 x9 x10 x11 x12 x13 x14 x15 x16 x17) h nx = .ok True := by
 rw [F110.b12, F110.g12_eq, F110.b13]
 refine loop_ok (fun m tm h nx => ∃ z2 z5 z13 z14, tm = (F110.fr x0 x1 z2 x3 x4 z5 x6 x7 x8 x9 x10 x11 x12 z13 z14 x15 x16 x17) ∧ Inv m z5 h nx) ?_ hm ⟨_, _, _, _, rfl, hi⟩
 rintro m tm h nx R ⟨z2, z5, z13, z14, rfl, hi⟩ hR
 refine Eq.trans ?_ (step m z2 z5 z13 z14 h nx R hi fun m' w2 w5 w13 w14 h' nx' hlt hi' => hR m' _ h' nx' hlt ⟨_, _, _, _, rfl, hi'⟩)
 kernel_rfl
theorem F110.k19 : IR.run F110.b19 C N (fnO F110.res K0) K (F110.fr x0 x1 x2 x3 x4 x5 x6 x7 x8 x9 x10 x11 x12 x13 x14 x15 x16 x17) h nx =
 IR.run F110.b20 C N (fnO F110.res K0) (IR.run F110.b34 C N (fnO F110.res K0) K) (F110.fr x0 x1 x2 x3 x4 x5 (I 0) x7 x8 x9 x10 x11 x12 x13 x14 x15 x16 x17) h nx := by kernel_rfl
theorem F110.L20 (Inv : Nat → AV → T Blk → Pa → Prop) {m : Nat} (hm : m < N) (hi : Inv m x6 h nx)
  (step : ∀ (m : Nat) (z2 z6 z7 z15 z16 z17 : AV) (h : T Blk) (nx : Pa) (R : Ks Prop), Inv m z6 h nx → (∀ (m' : Nat) (w2 w6 w7 w15 w16 w17 : AV) (h' : T Blk) (nx' : Pa), m' < m → Inv m' w6 h' nx' → R (F110.fr x0 x1 w2 x3 x4 x5 w6 w7 x8 x9 x10 x11 x12 x13 x14 w15 w16 w17) h' nx' = .ok True) →
   (sLen x0 fun v1 =>
 sBin .lss .int z6 v1 fun v2 =>
 sCond v2 (IR.run F110.b26 C N (((fnO F110.res K0).blk 4 K).blk 5 (IR.run F110.b33 C N ((fnO F110.res K0).blk 4 K) R)) (IR.run F110.b33 C N ((fnO F110.res K0).blk 4 K) R) (F110.fr x0 x1 z2 x3 x4 x5 z6 (I 0) x8 x9 x10 x11 x12 x13 x14 v2 z16 z17) h nx) (K (F110.fr x0 x1 z2 x3 x4 x5 z6 z7 x8 x9 x10 x11 x12 x13 x14 v2 z16 z17) h nx)) = .ok True) :
  IR.run F110.b20 C N (fnO F110.res K0) K (F110.fr x0 x1 x2 x3 x4 x5 x6 x7 x8 x9 x10 x11 x12 x13 x14 x15 x16 x17) h nx = .ok True := by
 rw [F110.b20, F110.g20_eq, F110.b21]
 refine loop_ok (fun m tm h nx => ∃ z2 z6 z7 z15 z16 z17, tm = (F110.fr x0 x1 z2 x3 x4 x5 z6 z7 x8 x9 x10 x11 x12 x13 x14 z15 z16 z17) ∧ Inv m z6 h nx) ?_ hm ⟨_, _, _, _, _, _, rfl, hi⟩
 rintro m tm h nx R ⟨z2, z6, z7, z15, z16, z17, rfl, hi⟩ hR
 refine Eq.trans ?_ (step m z2 z6 z7 z15 z16 z17 h nx R hi fun m' w2 w6 w7 w15 w16 w17 h' nx' hlt hi' => hR m' _ h' nx' hlt ⟨_, _, _, _, _, _, rfl, hi'⟩)
 kernel_rfl
theorem F110.k34 : IR.run F110.b34 C N (fnO F110.res K0) K (F110.fr x0 x1 x2 x3 x4 x5 x6 x7 x8 x9 x10 x11 x12 x13 x14 x15 x16 x17) h nx =
 K0 (I 0) h nx := by kernel_rfl
theorem F110.k33 {E4 : Ks Prop} : IR.run F110.b33 C N ((fnO F110.res K0).blk 4 E4) K (F110.fr x0 x1 x2 x3 x4 x5 x6 x7 x8 x9 x10 x11 x12 x13 x14 x15 x16 x17) h nx =
 sBin .add .int x6 (I 1) fun v1 =>
 K (F110.fr x0 x1 x2 x3 x4 x5 v1 x7 x8 x9 x10 x11 x12 x13 x14 x15 x16 x17) h nx := by kernel_rfl
theorem F110.L26 {E4 E5 : Ks Prop} (Inv : Nat → AV → T Blk → Pa → Prop) {m : Nat} (hm : m < N) (hi : Inv m x7 h nx)
  (step : ∀ (m : Nat) (z2 z7 z16 z17 : AV) (h : T Blk) (nx : Pa) (R : Ks Prop), Inv m z7 h nx → (∀ (m' : Nat) (w2 w7 w16 w17 : AV) (h' : T Blk) (nx' : Pa), m' < m → Inv m' w7 h' nx' → R (F110.fr x0 x1 w2 x3 x4 x5 x6 w7 x8 x9 x10 x11 x12 x13 x14 x15 w16 w17) h' nx' = .ok True) →
   (sLen x0 fun v1 =>
 sBin .lss .int z7 v1 fun v2 =>
 sCond v2 (sIaddr 2 x0 x6 fun v3 =>
 sLoadN 2 v3 h fun v4 =>
 sIaddr 2 x0 z7 fun v5 =>
 sLoadN 2 v5 h fun v6 =>
 C.fn 145 (.of 145) [v4, v6] h nx fun v7 h8 n9 =>
 sSame x0 x0 (C.fn 144 (.of 144) [x0, v7] h8 n9 fun v10 h11 n12 =>
 sBin .lss .int v10 (I 0) fun v13 =>
 sCond v13 (K0 (I 28) h11 n12) (sBin .add .int z7 (I 1) fun v14 =>
 R (F110.fr x0 x1 z2 x3 x4 x5 x6 v14 x8 x9 x10 x11 x12 x13 x14 x15 v2 v13) h11 n12))) (K (F110.fr x0 x1 z2 x3 x4 x5 x6 z7 x8 x9 x10 x11 x12 x13 x14 x15 v2 z17) h nx)) = .ok True) :
  IR.run F110.b26 C N (((fnO F110.res K0).blk 4 E4).blk 5 E5) K (F110.fr x0 x1 x2 x3 x4 x5 x6 x7 x8 x9 x10 x11 x12 x13 x14 x15 x16 x17) h nx = .ok True := by
 rw [F110.b26, F110.g26_eq, F110.b27]
 refine loop_ok (fun m tm h nx => ∃ z2 z7 z16 z17, tm = (F110.fr x0 x1 z2 x3 x4 x5 x6 z7 x8 x9 x10 x11 x12 x13 x14 x15 z16 z17) ∧ Inv m z7 h nx) ?_ hm ⟨_, _, _, _, rfl, hi⟩
 rintro m tm h nx R ⟨z2, z7, z16, z17, rfl, hi⟩ hR
 refine Eq.trans ?_ (step m z2 z7 z16 z17 h nx R hi fun m' w2 w7 w16 w17 h' nx' hlt hi' => hR m' _ h' nx' hlt ⟨_, _, _, _, rfl, hi'⟩)
 kernel_rfl
theorem F111.g2_eq (X3 : IR) (O : Outs Prop) (t : T AV) : IR.run (F111.g2 X3) C N O K t h nx = IR.run X3 C N (O.blk 0 K) K t h nx := by kernel_rfl
theorem F111.g17_eq (X18 : IR) (O : Outs Prop) (t : T AV) : IR.run (F111.g17 X18) C N O K t h nx = IR.run X18 C N (O.blk 4 K) K t h nx := by kernel_rfl
theorem F111.g11_eq (X12 : IR) (O : Outs Prop) (t : T AV) : IR.run (F111.g11 X12) C N O K t h nx = IR.run X12 C N (O.blk 2 K) K t h nx := by kernel_rfl
theorem F111.tab : T.get none (.of 111) tbl = some F111 := by kernel_rfl
theorem F111.go : callFn tbl N C (.of 111) [a0, a1] h nx K0 =
 sLen a1 fun v1 =>
 sBin .gtr .int v1 (I 1024) fun v2 =>
 sCond v2 (K0 (I 5) h nx) (sIaddr 2 a0 (I 0) fun v3 =>
 sFaddr 0 v3 fun v4 =>
 sLoad v4 h fun v5 =>
 sLen v5 fun v6 =>
 IR.run F111.b2 C N (fnO F111.res K0) (IR.run F111.b10 C N (fnO F111.res K0) (retK F111.res K0)) (F111.fr a0 a1 (I 0) v6 (I 0) .undef .undef .undef v2 .undef .undef .undef .undef .undef .undef) h nx) := by
 rw [callFn_of F111.tab]; kernel_rfl
theorem F111.L2 (Inv : Nat → AV → T Blk → Pa → Prop) {m : Nat} (hm : m < N) (hi : Inv m x4 h nx)
  (step : ∀ (m : Nat) (z2 z4 z5 z9 z10 z11 : AV) (h : T Blk) (nx : Pa) (R : Ks Prop), Inv m z4 h nx → (∀ (m' : Nat) (w2 w4 w5 w9 w10 w11 : AV) (h' : T Blk) (nx' : Pa), m' < m → Inv m' w4 h' nx' → R (F111.fr x0 x1 w2 x3 w4 w5 x6 x7 x8 w9 w10 w11 x12 x13 x14) h' nx' = .ok True) →
   (sLen x1 fun v1 =>
 sBin .lss .int z4 v1 fun v2 =>
 sCond v2 (sIaddr 1 x1 z4 fun v3 =>
 sLoad v3 h fun v4 =>
 C.fn 37 (.of 37) [x3, v4] h nx fun v5 h6 n7 =>
 sBin .neq .int v5 (I 0) fun v8 =>
 sCond v8 (K0 v5 h6 n7) (sBin .gtr .int z4 (I 0) fun v9 =>
 sG v9 true (fun k => k x1) fun v10 =>
 sG v9 true (fun k => k z4) fun v11 =>
 sG v9 true (fun k => sBin .sub .int v11 (I 1) k) fun v12 =>
 sG v9 true (fun k => sIaddr 1 v10 v12 k) fun v13 =>
 sG v9 true (fun k => sLoad v13 h6 k) fun v14 =>
 sG v9 true (fun k => k x1) fun v15 =>
 sG v9 true (fun k => k z4) fun v16 =>
 sG v9 true (fun k => sIaddr 1 v15 v16 k) fun v17 =>
 sG v9 true (fun k => sLoad v17 h6 k) fun v18 =>
 sGW v9 true (fun k => C.fn 74 (.of 74) [v14, v18] h6 n7 k) h6 n7 fun v19 h20 n21 =>
 sG v9 true (fun k => sNot v19 k) fun v22 =>
 sPick v9 v22 (.bool false) fun v23 =>
 sCond v23 (K0 (I 11) h20 n21) (sBin .add .int z4 (I 1) fun v24 =>
 R (F111.fr x0 x1 z2 x3 v24 v5 x6 x7 x8 v2 v8 v23 x12 x13 x14) h20 n21))) (K (F111.fr x0 x1 z2 x3 z4 z5 x6 x7 x8 v2 z10 z11 x12 x13 x14) h nx)) = .ok True) :
  IR.run F111.b2 C N (fnO F111.res K0) K (F111.fr x0 x1 x2 x3 x4 x5 x6 x7 x8 x9 x10 x11 x12 x13 x14) h nx = .ok True := by
 rw [F111.b2, F111.g2_eq, F111.b3]
 refine loop_ok (fun m tm h nx => ∃ z2 z4 z5 z9 z10 z11, tm = (F111.fr x0 x1 z2 x3 z4 z5 x6 x7 x8 z9 z10 z11 x12 x13 x14) ∧ Inv m z4 h nx) ?_ hm ⟨_, _, _, _, _, _, rfl, hi⟩
 rintro m tm h nx R ⟨z2, z4, z5, z9, z10, z11, rfl, hi⟩ hR
 refine Eq.trans ?_ (step m z2 z4 z5 z9 z10 z11 h nx R hi fun m' w2 w4 w5 w9 w10 w11 h' nx' hlt hi' => hR m' _ h' nx' hlt ⟨_, _, _, _, _, _, rfl, hi'⟩)
 kernel_rfl
theorem F111.k10 : IR.run F111.b10 C N (fnO F111.res K0) K (F111.fr x0 x1 x2 x3 x4 x5 x6 x7 x8 x9 x10 x11 x12 x13 x14) h nx =
 IR.run F111.b11 C N (fnO F111.res K0) (IR.run F111.b25 C N (fnO F111.res K0) K) (F111.fr x0 x1 x2 x3 x4 x5 (I 0) x7 x8 x9 x10 x11 x12 x13 x14) h nx := by kernel_rfl
theorem F111.L11 (Inv : Nat → AV → T Blk → Pa → Prop) {m : Nat} (hm : m < N) (hi : Inv m x6 h nx)
  (step : ∀ (m : Nat) (z2 z6 z7 z12 z13 z14 : AV) (h : T Blk) (nx : Pa) (R : Ks Prop), Inv m z6 h nx → (∀ (m' : Nat) (w2 w6 w7 w12 w13 w14 : AV) (h' : T Blk) (nx' : Pa), m' < m → Inv m' w6 h' nx' → R (F111.fr x0 x1 w2 x3 x4 x5 w6 w7 x8 x9 x10 x11 w12 w13 w14) h' nx' = .ok True) →
   (sLen x1 fun v1 =>
 sBin .lss .int z6 v1 fun v2 =>
 sCond v2 (IR.run F111.b17 C N (((fnO F111.res K0).blk 2 K).blk 3 (IR.run F111.b24 C N ((fnO F111.res K0).blk 2 K) R)) (IR.run F111.b24 C N ((fnO F111.res K0).blk 2 K) R) (F111.fr x0 x1 z2 x3 x4 x5 z6 (I 0) x8 x9 x10 x11 v2 z13 z14) h nx) (K (F111.fr x0 x1 z2 x3 x4 x5 z6 z7 x8 x9 x10 x11 v2 z13 z14) h nx)) = .ok True) :
  IR.run F111.b11 C N (fnO F111.res K0) K (F111.fr x0 x1 x2 x3 x4 x5 x6 x7 x8 x9 x10 x11 x12 x13 x14) h nx = .ok True := by
 rw [F111.b11, F111.g11_eq, F111.b12]
 refine loop_ok (fun m tm h nx => ∃ z2 z6 z7 z12 z13 z14, tm = (F111.fr x0 x1 z2 x3 x4 x5 z6 z7 x8 x9 x10 x11 z12 z13 z14) ∧ Inv m z6 h nx) ?_ hm ⟨_, _, _, _, _, _, rfl, hi⟩
 rintro m tm h nx R ⟨z2, z6, z7, z12, z13, z14, rfl, hi⟩ hR
 refine Eq.trans ?_ (step m z2 z6 z7 z12 z13 z14 h nx R hi fun m' w2 w6 w7 w12 w13 w14 h' nx' hlt hi' => hR m' _ h' nx' hlt ⟨_, _, _, _, _, _, rfl, hi'⟩)
 kernel_rfl
theorem F111.k25 : IR.run F111.b25 C N (fnO F111.res K0) K (F111.fr x0 x1 x2 x3 x4 x5 x6 x7 x8 x9 x10 x11 x12 x13 x14) h nx =
 K0 (I 0) h nx := by kernel_rfl
theorem F111.k24 {E2 : Ks Prop} : IR.run F111.b24 C N ((fnO F111.res K0).blk 2 E2) K (F111.fr x0 x1 x2 x3 x4 x5 x6 x7 x8 x9 x10 x11 x12 x13 x14) h nx =
 sBin .add .int x6 (I 1) fun v1 =>
 K (F111.fr x0 x1 x2 x3 x4 x5 v1 x7 x8 x9 x10 x11 x12 x13 x14) h nx := by kernel_rfl
theorem F111.L17 {E2 E3 : Ks Prop} (Inv : Nat → AV → T Blk → Pa → Prop) {m : Nat} (hm : m < N) (hi : Inv m x7 h nx)
  (step : ∀ (m : Nat) (z2 z7 z13 z14 : AV) (h : T Blk) (nx : Pa) (R : Ks Prop), Inv m z7 h nx → (∀ (m' : Nat) (w2 w7 w13 w14 : AV) (h' : T Blk) (nx' : Pa), m' < m → Inv m' w7 h' nx' → R (F111.fr x0 x1 w2 x3 x4 x5 x6 w7 x8 x9 x10 x11 x12 w13 w14) h' nx' = .ok True) →
   (sLen x0 fun v1 =>
 sBin .lss .int z7 v1 fun v2 =>
 sCond v2 (sIaddr 2 x0 z7 fun v3 =>
 sLoadN 2 v3 h fun v4 =>
 sIaddr 1 x1 x6 fun v5 =>
 sLoad v5 h fun v6 =>
 C.fn 49 (.of 49) [v4, v6] h nx fun v7 h8 n9 =>
 sSame x1 x1 (C.fn 112 (.of 112) [x1, v7] h8 n9 fun v10 h11 n12 =>
 sBin .lss .int v10 (I 0) fun v13 =>
 sCond v13 (K0 (I 7) h11 n12) (sBin .add .int z7 (I 1) fun v14 =>
 R (F111.fr x0 x1 z2 x3 x4 x5 x6 v14 x8 x9 x10 x11 x12 v2 v13) h11 n12))) (K (F111.fr x0 x1 z2 x3 x4 x5 x6 z7 x8 x9 x10 x11 x12 v2 z14) h nx)) = .ok True) :
  IR.run F111.b17 C N (((fnO F111.res K0).blk 2 E2).blk 3 E3) K (F111.fr x0 x1 x2 x3 x4 x5 x6 x7 x8 x9 x10 x11 x12 x13 x14) h nx = .ok True := by
 rw [F111.b17, F111.g17_eq, F111.b18]
 refine loop_ok (fun m tm h nx => ∃ z2 z7 z13 z14, tm = (F111.fr x0 x1 z2 x3 x4 x5 x6 z7 x8 x9 x10 x11 x12 z13 z14) ∧ Inv m z7 h nx) ?_ hm ⟨_, _, _, _, rfl, hi⟩
 rintro m tm h nx R ⟨z2, z7, z13, z14, rfl, hi⟩ hR
 refine Eq.trans ?_ (step m z2 z7 z13 z14 h nx R hi fun m' w2 w7 w13 w14 h' nx' hlt hi' => hR m' _ h' nx' hlt ⟨_, _, _, _, rfl, hi'⟩)
 kernel_rfl
theorem F112.g1_eq (X2 : IR) (O : Outs Prop) (t : T AV) : IR.run (F112.g1 X2) C N O K t h nx = IR.run X2 C N (O.blk 0 K) K t h nx := by kernel_rfl
theorem F112.tab : T.get none (.of 112) tbl = some F112 := by kernel_rfl
theorem F112.go : callFn tbl N C (.of 112) [a0, a1] h nx K0 =
 IR.run F112.b1 C N (fnO F112.res K0) (IR.run F112.b8 C N (fnO F112.res K0) (retK F112.res K0)) (F112.fr a0 a1 (I 0) (I 0) .undef .undef) h nx := by
 rw [callFn_of F112.tab]; kernel_rfl
theorem F112.L1 (Inv : Nat → AV → T Blk → Pa → Prop) {m : Nat} (hm : m < N) (hi : Inv m x3 h nx)
  (step : ∀ (m : Nat) (z2 z3 z4 z5 : AV) (h : T Blk) (nx : Pa) (R : Ks Prop), Inv m z3 h nx → (∀ (m' : Nat) (w2 w3 w4 w5 : AV) (h' : T Blk) (nx' : Pa), m' < m → Inv m' w3 h' nx' → R (F112.fr x0 x1 w2 w3 w4 w5) h' nx' = .ok True) →
   (sLen x0 fun v1 =>
 sBin .lss .int z3 v1 fun v2 =>
 sCond v2 (sIaddr 1 x0 z3 fun v3 =>
 sLoad v3 h fun v4 =>
 C.fn 35 (.of 35) [v4, x1] h nx fun v5 h6 n7 =>
 sCond v5 (K0 z3 h6 n7) (sBin .add .int z3 (I 1) fun v8 =>
 R (F112.fr x0 x1 z2 v8 v2 v5) h6 n7)) (K (F112.fr x0 x1 z2 z3 v2 z5) h nx)) = .ok True) :
  IR.run F112.b1 C N (fnO F112.res K0) K (F112.fr x0 x1 x2 x3 x4 x5) h nx = .ok True := by
 rw [F112.b1, F112.g1_eq, F112.b2]
 refine loop_ok (fun m tm h nx => ∃ z2 z3 z4 z5, tm = (F112.fr x0 x1 z2 z3 z4 z5) ∧ Inv m z3 h nx) ?_ hm ⟨_, _, _, _, rfl, hi⟩
 rintro m tm h nx R ⟨z2, z3, z4, z5, rfl, hi⟩ hR
 refine Eq.trans ?_ (step m z2 z3 z4 z5 h nx R hi fun m' w2 w3 w4 w5 h' nx' hlt hi' => hR m' _ h' nx' hlt ⟨_, _, _, _, rfl, hi'⟩)
 kernel_rfl
theorem F112.k8 : IR.run F112.b8 C N (fnO F112.res K0) K (F112.fr x0 x1 x2 x3 x4 x5) h nx =
 K0 (I (-1)) h nx := by kernel_rfl
theorem F55.g2_eq (X3 : IR) (O : Outs Prop) (t : T AV) : IR.run (F55.g2 X3) C N O K t h nx = IR.run X3 C N (O.blk 0 K) K t h nx := by kernel_rfl
theorem F55.g10_eq (X11 : IR) (O : Outs Prop) (t : T AV) : IR.run (F55.g10 X11) C N O K t h nx = IR.run X11 C N (O.blk 2 K) K t h nx := by kernel_rfl
theorem F55.tab : T.get none (.of 55) tbl = some F55 := by kernel_rfl
theorem F55.go : callFn tbl N C (.of 55) [a0, a1] h nx K0 =
 sLen a0 fun v1 =>
 sBin .gtr .int v1 (I 20) fun v2 =>
 sG v2 false (fun k => k a1) fun v3 =>
 sG v2 false (fun k => sLen v3 k) fun v4 =>
 sG v2 false (fun k => sBin .gtr .int v4 (I 80) k) fun v5 =>
 sG v2 false (fun k => k v5) fun v6 =>
 sG v6 true (fun k => k a1) fun v7 =>
 sG v6 true (fun k => sLen v7 k) fun v8 =>
 sG v6 true (fun k => sBin .leq .int v8 (I 1024) k) fun v9 =>
 sG v2 false (fun k => sPick v6 v9 (.bool false) k) fun v10 =>
 sPick v2 (.bool true) v10 fun v11 =>
 sG v11 false (fun k => k a1) fun v12 =>
 sG v11 false (fun k => sLen v12 k) fun v13 =>
 sG v11 false (fun k => sBin .gtr .int v13 (I 1027) k) fun v14 =>
 sPick v11 (.bool true) v14 fun v15 =>
 sCond v15 (K0 (.bool true) h nx) ((IR.run F55.b1 C N (fnO F55.res K0) (retK F55.res K0)) (F55.fr a0 a1 (.bool false) .undef .undef v15 .undef .undef .undef .undef) h nx) := by
 rw [callFn_of F55.tab]; kernel_rfl
theorem F55.k1 : IR.run F55.b1 C N (fnO F55.res K0) K (F55.fr x0 x1 x2 x3 x4 x5 x6 x7 x8 x9) h nx =
 IR.run F55.b2 C N (fnO F55.res K0) (IR.run F55.b9 C N (fnO F55.res K0) K) (F55.fr x0 x1 x2 (I 0) x4 x5 x6 x7 x8 x9) h nx := by kernel_rfl
theorem F55.L2 (Inv : Nat → AV → T Blk → Pa → Prop) {m : Nat} (hm : m < N) (hi : Inv m x3 h nx)
  (step : ∀ (m : Nat) (z2 z3 z6 z7 : AV) (h : T Blk) (nx : Pa) (R : Ks Prop), Inv m z3 h nx → (∀ (m' : Nat) (w2 w3 w6 w7 : AV) (h' : T Blk) (nx' : Pa), m' < m → Inv m' w3 h' nx' → R (F55.fr x0 x1 w2 w3 x4 x5 w6 w7 x8 x9) h' nx' = .ok True) →
   (sLen x0 fun v1 =>
 sBin .lss .int z3 v1 fun v2 =>
 sCond v2 (sIaddr 2 x0 z3 fun v3 =>
 sFaddr 0 v3 fun v4 =>
 sLoad v4 h fun v5 =>
 sLen v5 fun v6 =>
 sBin .gtr .int v6 (I 12) fun v7 =>
 sCond v7 (K0 (.bool true) h nx) (sBin .add .int z3 (I 1) fun v8 =>
 R (F55.fr x0 x1 z2 v8 x4 x5 v2 v7 x8 x9) h nx)) (K (F55.fr x0 x1 z2 z3 x4 x5 v2 z7 x8 x9) h nx)) = .ok True) :
  IR.run F55.b2 C N (fnO F55.res K0) K (F55.fr x0 x1 x2 x3 x4 x5 x6 x7 x8 x9) h nx = .ok True := by
 rw [F55.b2, F55.g2_eq, F55.b3]
 refine loop_ok (fun m tm h nx => ∃ z2 z3 z6 z7, tm = (F55.fr x0 x1 z2 z3 x4 x5 z6 z7 x8 x9) ∧ Inv m z3 h nx) ?_ hm ⟨_, _, _, _, rfl, hi⟩
 rintro m tm h nx R ⟨z2, z3, z6, z7, rfl, hi⟩ hR
 refine Eq.trans ?_ (step m z2 z3 z6 z7 h nx R hi fun m' w2 w3 w6 w7 h' nx' hlt hi' => hR m' _ h' nx' hlt ⟨_, _, _, _, rfl, hi'⟩)
 kernel_rfl
theorem F55.k9 : IR.run F55.b9 C N (fnO F55.res K0) K (F55.fr x0 x1 x2 x3 x4 x5 x6 x7 x8 x9) h nx =
 IR.run F55.b10 C N (fnO F55.res K0) (IR.run F55.b17 C N (fnO F55.res K0) K) (F55.fr x0 x1 x2 x3 (I 0) x5 x6 x7 x8 x9) h nx := by kernel_rfl
theorem F55.L10 (Inv : Nat → AV → T Blk → Pa → Prop) {m : Nat} (hm : m < N) (hi : Inv m x4 h nx)
  (step : ∀ (m : Nat) (z2 z4 z8 z9 : AV) (h : T Blk) (nx : Pa) (R : Ks Prop), Inv m z4 h nx → (∀ (m' : Nat) (w2 w4 w8 w9 : AV) (h' : T Blk) (nx' : Pa), m' < m → Inv m' w4 h' nx' → R (F55.fr x0 x1 w2 x3 w4 x5 x6 x7 w8 w9) h' nx' = .ok True) →
   (sLen x1 fun v1 =>
 sBin .lss .int z4 v1 fun v2 =>
 sCond v2 (sIaddr 1 x1 z4 fun v3 =>
 sLoad v3 h fun v4 =>
 sLen v4 fun v5 =>
 sBin .gtr .int v5 (I 12) fun v6 =>
 sCond v6 (K0 (.bool true) h nx) (sBin .add .int z4 (I 1) fun v7 =>
 R (F55.fr x0 x1 z2 x3 v7 x5 x6 x7 v2 v6) h nx)) (K (F55.fr x0 x1 z2 x3 z4 x5 x6 x7 v2 z9) h nx)) = .ok True) :
  IR.run F55.b10 C N (fnO F55.res K0) K (F55.fr x0 x1 x2 x3 x4 x5 x6 x7 x8 x9) h nx = .ok True := by
 rw [F55.b10, F55.g10_eq, F55.b11]
 refine loop_ok (fun m tm h nx => ∃ z2 z4 z8 z9, tm = (F55.fr x0 x1 z2 x3 z4 x5 x6 x7 z8 z9) ∧ Inv m z4 h nx) ?_ hm ⟨_, _, _, _, rfl, hi⟩
 rintro m tm h nx R ⟨z2, z4, z8, z9, rfl, hi⟩ hR
 refine Eq.trans ?_ (step m z2 z4 z8 z9 h nx R hi fun m' w2 w4 w8 w9 h' nx' hlt hi' => hR m' _ h' nx' hlt ⟨_, _, _, _, rfl, hi'⟩)
 kernel_rfl
theorem F55.k17 : IR.run F55.b17 C N (fnO F55.res K0) K (F55.fr x0 x1 x2 x3 x4 x5 x6 x7 x8 x9) h nx =
 K0 (.bool false) h nx := by kernel_rfl
theorem F59.tab : T.get none (.of 59) tbl = some F59 := by kernel_rfl
theorem F59.go : callFn tbl N C (.of 59) [a0, a1] h nx K0 =
 sLen a0 fun v1 =>
 sBin .gtr .int v1 (I 0) fun v2 =>
 sCond v2 (sIaddr 2 a0 (I 0) fun v3 =>
 sFaddr 0 v3 fun v4 =>
 sLoad v4 h fun v5 =>
 sLen v5 fun v6 =>
 (IR.run F59.b1 C N (fnO F59.res K0) (retK F59.res K0)) (F59.fr a0 a1 (I 0) v6 .undef v2 .undef) h nx) ((IR.run F59.b1 C N (fnO F59.res K0) (retK F59.res K0)) (F59.fr a0 a1 (I 0) (I 0) .undef v2 .undef) h nx) := by
 rw [callFn_of F59.tab]; kernel_rfl
theorem F59.k1 : IR.run F59.b1 C N (fnO F59.res K0) K (F59.fr x0 x1 x2 x3 x4 x5 x6) h nx =
 C.fn 110 (.of 110) [x0, x3] h nx fun v1 h2 n3 =>
 sBin .eql .int v1 (I 0) fun v4 =>
 sCond v4 (C.fn 111 (.of 111) [x0, x1] h2 n3 fun v5 h6 n7 =>
 K0 v5 h6 n7) (K0 v1 h2 n3) := by kernel_rfl
theorem F141.tab : T.get none (.of 141) tbl = some F141 := by kernel_rfl
theorem F141.go : callFn tbl N C (.of 141) [a0, a1, a2] h nx K0 =
 C.fn 168 (.of 168) [a0, a1, a2] h nx fun v1 h2 n3 =>
 sExt 0 v1 fun v4 =>
 sExt 1 v1 fun v5 =>
 K0 (.tup [v4, v5]) h2 n3 := by
 rw [callFn_of F141.tab]; kernel_rfl
theorem F168.g1_eq (X2 : IR) (O : Outs Prop) (t : T AV) : IR.run (F168.g1 X2) C N O K t h nx = IR.run X2 C N (O.blk 0 K) K t h nx := by kernel_rfl
theorem F168.tab : T.get none (.of 168) tbl = some F168 := by kernel_rfl
theorem F168.go : callFn tbl N C (.of 168) [a0, a1, a2] h nx K0 =
 sLen a0 fun v1 =>
 IR.run F168.b1 C N (fnO F168.res K0) (IR.run F168.b6 C N (fnO F168.res K0) (retK F168.res K0)) (F168.fr a0 a1 a2 (I 0) (.bool false) v1 (I 0) v1 .undef .undef .undef) h nx := by
 rw [callFn_of F168.tab]; kernel_rfl
theorem F168.L1 (Inv : Nat → AV → AV → T Blk → Pa → Prop) {m : Nat} (hm : m < N) (hi : Inv m x6 x7 h nx)
  (step : ∀ (m : Nat) (z6 z7 z8 z9 z10 : AV) (h : T Blk) (nx : Pa) (R : Ks Prop), Inv m z6 z7 h nx → (∀ (m' : Nat) (w6 w7 w8 w9 w10 : AV) (h' : T Blk) (nx' : Pa), m' < m → Inv m' w6 w7 h' nx' → R (F168.fr x0 x1 x2 x3 x4 x5 w6 w7 w8 w9 w10) h' nx' = .ok True) →
   (sBin .lss .int z6 z7 fun v1 =>
 sCond v1 (sBin .add .int z6 z7 fun v2 =>
 sConv .u64 v2 fun v3 =>
 sBin .shr .int v3 (.int .u64 1) fun v4 =>
 sConv .i64 v4 fun v5 =>
 sIaddr 1 x0 v5 fun v6 =>
 sLoad v6 h fun v7 =>
 sCall C x2 [v7, x1] h nx fun v8 h9 n10 =>
 sBin .lss .int v8 (I 0) fun v11 =>
 sCond v11 (sBin .add .int v5 (I 1) fun v12 =>
 R (F168.fr x0 x1 x2 x3 x4 x5 v12 z7 v5 v1 v11) h9 n10) (R (F168.fr x0 x1 x2 x3 x4 x5 z6 v5 v5 v1 v11) h9 n10)) (K (F168.fr x0 x1 x2 x3 x4 x5 z6 z7 z8 v1 z10) h nx)) = .ok True) :
  IR.run F168.b1 C N (fnO F168.res K0) K (F168.fr x0 x1 x2 x3 x4 x5 x6 x7 x8 x9 x10) h nx = .ok True := by
 rw [F168.b1, F168.g1_eq, F168.b2]
 refine loop_ok (fun m tm h nx => ∃ z6 z7 z8 z9 z10, tm = (F168.fr x0 x1 x2 x3 x4 x5 z6 z7 z8 z9 z10) ∧ Inv m z6 z7 h nx) ?_ hm ⟨_, _, _, _, _, rfl, hi⟩
 rintro m tm h nx R ⟨z6, z7, z8, z9, z10, rfl, hi⟩ hR
 refine Eq.trans ?_ (step m z6 z7 z8 z9 z10 h nx R hi fun m' w6 w7 w8 w9 w10 h' nx' hlt hi' => hR m' _ h' nx' hlt ⟨_, _, _, _, _, rfl, hi'⟩)
 kernel_rfl
theorem F168.k6 : IR.run F168.b6 C N (fnO F168.res K0) K (F168.fr x0 x1 x2 x3 x4 x5 x6 x7 x8 x9 x10) h nx =
 sBin .lss .int x6 x5 fun v1 =>
 sG v1 true (fun k => k x2) fun v2 =>
 sG v1 true (fun k => k x0) fun v3 =>
 sG v1 true (fun k => k x6) fun v4 =>
 sG v1 true (fun k => sIaddr 1 v3 v4 k) fun v5 =>
 sG v1 true (fun k => sLoad v5 h k) fun v6 =>
 sG v1 true (fun k => k x1) fun v7 =>
 sGW v1 true (fun k => sCall C v2 [v6, v7] h nx k) h nx fun v8 h9 n10 =>
 sG v1 true (fun k => sBin .eql .int v8 (I 0) k) fun v11 =>
 sPick v1 v11 (.bool false) fun v12 =>
 K0 (.tup [x6, v12]) h9 n10 := by kernel_rfl
end Go.Ev
namespace Go.Ev
open Go Go.Proofs
set_option maxRecDepth 100000
variable {N : Nat} {C : Calls Prop} {K0 : Kw Prop} {K R : Ks Prop} {h : T Blk} {nx : Pa} {x0 x1 x2 x3 x4 x5 x6 x7 x8 x9 x10 x11 x12 x13 a0 a1 a2 a3 : AV}
end Go.Ev
namespace Go.Ev
open Go Go.Proofs
set_option maxRecDepth 100000
variable {N : Nat} {C : Calls Prop} {K0 : Kw Prop} {K R : Ks Prop} {h : T Blk} {nx : Pa} {x0 x1 x2 x3 x4 x5 x6 x7 x8 x9 x10 x11 a0 a1 a2 a3 : AV}
end Go.Ev
namespace Go.Ev
open Go Go.Proofs
set_option maxRecDepth 100000
variable {N : Nat} {C : Calls Prop} {K0 : Kw Prop} {K R : Ks Prop} {h : T Blk} {nx : Pa} {x0 x1 x2 x3 x4 x5 x6 x7 x8 x9 x10 x11 x12 a0 a1 : AV}
theorem F142.g1_eq (X2 : IR) (O : Outs Prop) (t : T AV) : IR.run (F142.g1 X2) C N O K t h nx = IR.run X2 C N (O.blk 0 K) K t h nx := by kernel_rfl
theorem F142.tab : T.get none (.of 142) tbl = some F142 := by kernel_rfl
theorem F142.go : callFn tbl N C (.of 142) [a0, a1] h nx K0 =
 sBox a0 h nx fun v1 h2 n3 =>
 sLen a1 fun v4 =>
 sMkslice 1 8 [(I 0)] v4 v4 h2 n3 fun v5 h6 n7 =>
 sLen a1 fun v8 =>
 IR.run F142.b1 C N (fnO F142.res K0) (IR.run F142.b9 C N (fnO F142.res K0) (retK F142.res K0)) (F142.fr a0 a1 v1 .nils v5 .undef .undef a1 v8 (I 0) .undef .undef) h6 n7 := by
 rw [callFn_of F142.tab]; kernel_rfl
theorem F142.L1 (Inv : Nat → AV → T Blk → Pa → Prop) {m : Nat} (hm : m < N) (hi : Inv m x9 h nx)
  (step : ∀ (m : Nat) (z5 z6 z9 z10 z11 : AV) (h : T Blk) (nx : Pa) (R : Ks Prop), Inv m z9 h nx → (∀ (m' : Nat) (w5 w6 w9 w10 w11 : AV) (h' : T Blk) (nx' : Pa), m' < m → Inv m' w9 h' nx' → R (F142.fr x0 x1 x2 x3 x4 w5 w6 x7 x8 w9 w10 w11) h' nx' = .ok True) →
   (sBin .lss .int z9 x8 fun v1 =>
 sCond v1 (sIaddr 1 x7 z9 fun v2 =>
 sLoad v2 h fun v3 =>
 sFaddr 1 x2 fun v4 =>
 sLoad v4 h fun v5 =>
 sCond v5 (sLen x1 fun v6 =>
 sBin .add .int v6 (I 1) fun v7 =>
 sBin .sub .int v7 v3 fun v8 =>
 sFaddr 0 x2 fun v9 =>
 sLoad v9 h fun v10 =>
 sIaddr 1 v10 z9 fun v11 =>
 sLoad v11 h fun v12 =>
 sIaddr 1 x4 v12 fun v13 =>
 sStore 1 v13 v8 h nx fun v14 h15 n16 =>
 sBin .add .int z9 (I 1) fun v17 =>
 R (F142.fr x0 x1 x2 x3 x4 z9 v8 x7 x8 v17 v1 v5) h15 n16) (sFaddr 0 x2 fun v18 =>
 sLoad v18 h fun v19 =>
 sIaddr 1 v19 z9 fun v20 =>
 sLoad v20 h fun v21 =>
 sIaddr 1 x4 v21 fun v22 =>
 sStore 1 v22 v3 h nx fun v23 h24 n25 =>
 sBin .add .int z9 (I 1) fun v26 =>
 R (F142.fr x0 x1 x2 x3 x4 z9 v3 x7 x8 v26 v1 v5) h24 n25)) (K (F142.fr x0 x1 x2 x3 x4 z5 z6 x7 x8 z9 v1 z11) h nx)) = .ok True) :
  IR.run F142.b1 C N (fnO F142.res K0) K (F142.fr x0 x1 x2 x3 x4 x5 x6 x7 x8 x9 x10 x11) h nx = .ok True := by
 rw [F142.b1, F142.g1_eq, F142.b2]
 refine loop_ok (fun m tm h nx => ∃ z5 z6 z9 z10 z11, tm = (F142.fr x0 x1 x2 x3 x4 z5 z6 x7 x8 z9 z10 z11) ∧ Inv m z9 h nx) ?_ hm ⟨_, _, _, _, _, rfl, hi⟩
 rintro m tm h nx R ⟨z5, z6, z9, z10, z11, rfl, hi⟩ hR
 refine Eq.trans ?_ (step m z5 z6 z9 z10 z11 h nx R hi fun m' w5 w6 w9 w10 w11 h' nx' hlt hi' => hR m' _ h' nx' hlt ⟨_, _, _, _, _, rfl, hi'⟩)
 kernel_rfl
theorem F142.k9 : IR.run F142.b9 C N (fnO F142.res K0) K (F142.fr x0 x1 x2 x3 x4 x5 x6 x7 x8 x9 x10 x11) h nx =
 K0 x4 h nx := by kernel_rfl
theorem F60.g8_eq (X9 : IR) (O : Outs Prop) (t : T AV) : IR.run (F60.g8 X9) C N O K t h nx = IR.run X9 C N (O.blk 2 K) K t h nx := by kernel_rfl
theorem F60.g1_eq (X2 : IR) (O : Outs Prop) (t : T AV) : IR.run (F60.g1 X2) C N O K t h nx = IR.run X2 C N (O.blk 0 K) K t h nx := by kernel_rfl
theorem F60.tab : T.get none (.of 60) tbl = some F60 := by kernel_rfl
theorem F60.go : callFn tbl N C (.of 60) [a0, a1] h nx K0 =
 sLen a1 fun v1 =>
 sMkslice 1 1 [(.bool false)] v1 v1 h nx fun v2 h3 n4 =>
 IR.run F60.b1 C N (fnO F60.res K0) (IR.run F60.b18 C N (fnO F60.res K0) (retK F60.res K0)) (F60.fr a0 a1 .nils v2 .nils (I 0) .undef .undef .undef .undef .undef .undef .undef) h3 n4 := by
 rw [callFn_of F60.tab]; kernel_rfl
theorem F60.L1 (Inv : Nat → AV → AV → T Blk → Pa → Prop) {m : Nat} (hm : m < N) (hi : Inv m x4 x5 h nx)
  (step : ∀ (m : Nat) (z4 z5 z6 z7 z8 z9 z10 z11 z12 : AV) (h : T Blk) (nx : Pa) (R : Ks Prop), Inv m z4 z5 h nx → (∀ (m' : Nat) (w4 w5 w6 w7 w8 w9 w10 w11 w12 : AV) (h' : T Blk) (nx' : Pa), m' < m → Inv m' w4 w5 h' nx' → R (F60.fr x0 x1 x2 x3 w4 w5 w6 w7 w8 w9 w10 w11 w12) h' nx' = .ok True) →
   (sLen x1 fun v1 =>
 sBin .lss .int z5 v1 fun v2 =>
 sCond v2 (sIaddr 1 x3 z5 fun v3 =>
 sLoad v3 h fun v4 =>
 sCond v4 (sBin .add .int z5 (I 1) fun v5 =>
 R (F60.fr x0 x1 x2 x3 z4 v5 z6 z7 z8 v2 v4 z11 z12) h nx) (IR.run F60.b8 C N (((fnO F60.res K0).blk 0 K).blk 1 (IR.run F60.b17 C N ((fnO F60.res K0).blk 0 K) R)) (IR.run F60.b16 C N (((fnO F60.res K0).blk 0 K).blk 1 (IR.run F60.b17 C N ((fnO F60.res K0).blk 0 K) R)) (IR.run F60.b17 C N ((fnO F60.res K0).blk 0 K) R)) (F60.fr x0 x1 x2 x3 z4 z5 (I 0) (I 0) z8 v2 v4 z11 z12) h nx)) (K (F60.fr x0 x1 x2 x3 z4 z5 z6 z7 z8 v2 z10 z11 z12) h nx)) = .ok True) :
  IR.run F60.b1 C N (fnO F60.res K0) K (F60.fr x0 x1 x2 x3 x4 x5 x6 x7 x8 x9 x10 x11 x12) h nx = .ok True := by
 rw [F60.b1, F60.g1_eq, F60.b2]
 refine loop_ok (fun m tm h nx => ∃ z4 z5 z6 z7 z8 z9 z10 z11 z12, tm = (F60.fr x0 x1 x2 x3 z4 z5 z6 z7 z8 z9 z10 z11 z12) ∧ Inv m z4 z5 h nx) ?_ hm ⟨_, _, _, _, _, _, _, _, _, rfl, hi⟩
 rintro m tm h nx R ⟨z4, z5, z6, z7, z8, z9, z10, z11, z12, rfl, hi⟩ hR
 refine Eq.trans ?_ (step m z4 z5 z6 z7 z8 z9 z10 z11 z12 h nx R hi fun m' w4 w5 w6 w7 w8 w9 w10 w11 w12 h' nx' hlt hi' => hR m' _ h' nx' hlt ⟨_, _, _, _, _, _, _, _, _, rfl, hi'⟩)
 kernel_rfl
theorem F60.k18 : IR.run F60.b18 C N (fnO F60.res K0) K (F60.fr x0 x1 x2 x3 x4 x5 x6 x7 x8 x9 x10 x11 x12) h nx =
 K0 x4 h nx := by kernel_rfl
theorem F60.k17 {E0 : Ks Prop} : IR.run F60.b17 C N ((fnO F60.res K0).blk 0 E0) K (F60.fr x0 x1 x2 x3 x4 x5 x6 x7 x8 x9 x10 x11 x12) h nx =
 sBin .add .int x5 (I 1) fun v1 =>
 K (F60.fr x0 x1 x2 x3 x4 v1 x6 x7 x8 x9 x10 x11 x12) h nx := by kernel_rfl
theorem F60.L8 {E0 E1 : Ks Prop} (Inv : Nat → AV → AV → T Blk → Pa → Prop) {m : Nat} (hm : m < N) (hi : Inv m x6 x7 h nx)
  (step : ∀ (m : Nat) (z6 z7 z8 z11 z12 : AV) (h : T Blk) (nx : Pa) (R : Ks Prop), Inv m z6 z7 h nx → (∀ (m' : Nat) (w6 w7 w8 w11 w12 : AV) (h' : T Blk) (nx' : Pa), m' < m → Inv m' w6 w7 h' nx' → R (F60.fr x0 x1 x2 x3 x4 x5 w6 w7 w8 x9 x10 w11 w12) h' nx' = .ok True) →
   (sLen x0 fun v1 =>
 sBin .lss .int z7 v1 fun v2 =>
 sCond v2 (sIaddr 2 x0 z7 fun v3 =>
 sLoadN 2 v3 h fun v4 =>
 sIaddr 1 x1 x5 fun v5 =>
 sLoad v5 h fun v6 =>
 C.fn 49 (.of 49) [v4, v6] h nx fun v7 h8 n9 =>
 sSame x1 x1 (C.fn 112 (.of 112) [x1, v7] h8 n9 fun v10 h11 n12 =>
 sIaddr 1 x3 v10 fun v13 =>
 sLoad v13 h11 fun v14 =>
 sNot v14 fun v15 =>
 sCond v15 (sBin .add .int z6 (I 1) fun v16 =>
 sIaddr 1 x3 v10 fun v17 =>
 sStore 1 v17 (.bool true) h11 n12 fun v18 h19 n20 =>
 sBin .add .int z7 (I 1) fun v21 =>
 R (F60.fr x0 x1 x2 x3 x4 x5 v16 v21 v10 x9 x10 v2 v15) h19 n20) (sIaddr 1 x3 v10 fun v22 =>
 sStore 1 v22 (.bool true) h11 n12 fun v23 h24 n25 =>
 sBin .add .int z7 (I 1) fun v26 =>
 R (F60.fr x0 x1 x2 x3 x4 x5 z6 v26 v10 x9 x10 v2 v15) h24 n25))) (K (F60.fr x0 x1 x2 x3 x4 x5 z6 z7 z8 x9 x10 v2 z12) h nx)) = .ok True) :
  IR.run F60.b8 C N (((fnO F60.res K0).blk 0 E0).blk 1 E1) K (F60.fr x0 x1 x2 x3 x4 x5 x6 x7 x8 x9 x10 x11 x12) h nx = .ok True := by
 rw [F60.b8, F60.g8_eq, F60.b9]
 refine loop_ok (fun m tm h nx => ∃ z6 z7 z8 z11 z12, tm = (F60.fr x0 x1 x2 x3 x4 x5 z6 z7 z8 x9 x10 z11 z12) ∧ Inv m z6 z7 h nx) ?_ hm ⟨_, _, _, _, _, rfl, hi⟩
 rintro m tm h nx R ⟨z6, z7, z8, z11, z12, rfl, hi⟩ hR
 refine Eq.trans ?_ (step m z6 z7 z8 z11 z12 h nx R hi fun m' w6 w7 w8 w11 w12 h' nx' hlt hi' => hR m' _ h' nx' hlt ⟨_, _, _, _, _, rfl, hi'⟩)
 kernel_rfl
theorem F60.k16 {E0 E1 : Ks Prop} : IR.run F60.b16 C N (((fnO F60.res K0).blk 0 E0).blk 1 E1) K (F60.fr x0 x1 x2 x3 x4 x5 x6 x7 x8 x9 x10 x11 x12) h nx =
 sIaddr 1 x1 x5 fun v1 =>
 sLoad v1 h fun v2 =>
 sBuild [.nils, (I 0)] [(0, 1, v2), (1, 1, x6)] fun v3 =>
 sBslice 2 1 [.nils, (I 0)] [(0, 2, v3)] h nx fun v4 h5 n6 =>
 sAppq C 2 32 x4 v4 h5 n6 fun v7 h8 n9 =>
 K (F60.fr x0 x1 x2 x3 v7 x5 x6 x7 x8 x9 x10 x11 x12) h8 n9 := by kernel_rfl
end Go.Ev
namespace Go.Ev
open Go Go.Proofs
set_option maxRecDepth 100000
variable {N : Nat} {C : Calls Prop} {K0 : Kw Prop} {K R : Ks Prop} {h : T Blk} {nx : Pa} {x0 x1 x2 x3 x4 x5 x6 x7 x8 x9 x10 x11 x12 x13 x14 x15 x16 x17 x18 x19 x20 x21 x22 x23 x24 x25 x26 x27 x28 x29 x30 a0 a1 : AV}
theorem F56.g8_eq (X9 : IR) (O : Outs Prop) (t : T AV) : IR.run (F56.g8 X9) C N O K t h nx = IR.run X9 C N (O.blk 2 K) K t h nx := by kernel_rfl
theorem F56.g2_eq (X3 : IR) (O : Outs Prop) (t : T AV) : IR.run (F56.g2 X3) C N O K t h nx = IR.run X3 C N (O.blk 0 K) K t h nx := by kernel_rfl
theorem F56.g18_eq (X19 : IR) (O : Outs Prop) (t : T AV) : IR.run (F56.g18 X19) C N O K t h nx = IR.run X19 C N (O.blk 4 K) K t h nx := by kernel_rfl
theorem F56.tab : T.get none (.of 56) tbl = some F56 := by kernel_rfl
theorem F56.go : callFn tbl N C (.of 56) [a0, a1] h nx K0 =
 C.fn 109 (.of 109) [a0, a1] h nx fun v1 h2 n3 =>
 sExt 0 v1 fun v4 =>
 sExt 1 v1 fun v5 =>
 sBin .neq .int v5 (I 0) fun v6 =>
 sCond v6 (K0 (.tup [.nils, v5]) h2 n3) (sLen a1 fun v7 =>
 sMkslice 1 8 [(I 0)] v7 v7 h2 n3 fun v8 h9 n10 =>
 sLen a1 fun v11 =>
 IR.run F56.b2 C N (fnO F56.res K0) (IR.run F56.b17 C N (fnO F56.res K0) (retK F56.res K0)) (F56.fr a0 a1 .nils (I 0) v4 v5 v8 .undef .undef .undef .undef .undef .undef v6 v11 (I 0) .undef .undef .undef .undef .undef .undef .undef .undef .undef .undef) h9 n10) := by
 rw [callFn_of F56.tab]; kernel_rfl
theorem F56.L2 (Inv : Nat → AV → T Blk → Pa → Prop) {m : Nat} (hm : m < N) (hi : Inv m x15 h nx)
  (step : ∀ (m : Nat) (z7 z8 z9 z15 z16 z17 z18 z19 z20 : AV) (h : T Blk) (nx : Pa) (R : Ks Prop), Inv m z15 h nx → (∀ (m' : Nat) (w7 w8 w9 w15 w16 w17 w18 w19 w20 : AV) (h' : T Blk) (nx' : Pa), m' < m → Inv m' w15 h' nx' → R (F56.fr x0 x1 x2 x3 x4 x5 x6 w7 w8 w9 x10 x11 x12 x13 x14 w15 w16 w17 w18 w19 w20 x21 x22 x23 x24 x25) h' nx' = .ok True) →
   (sBin .lss .int z15 x14 fun v1 =>
 sCond v1 (sLen x4 fun v2 =>
 IR.run F56.b8 C N (((fnO F56.res K0).blk 0 K).blk 1 (IR.run F56.b16 C N ((fnO F56.res K0).blk 0 K) R)) (IR.run F56.b15 C N (((fnO F56.res K0).blk 0 K).blk 1 (IR.run F56.b16 C N ((fnO F56.res K0).blk 0 K) R)) (IR.run F56.b16 C N ((fnO F56.res K0).blk 0 K) R)) (F56.fr x0 x1 x2 x3 x4 x5 x6 z15 z15 z9 x10 x11 x12 x13 x14 z15 v1 x4 v2 (I 0) z20 x21 x22 x23 x24 x25) h nx) (K (F56.fr x0 x1 x2 x3 x4 x5 x6 z7 z8 z9 x10 x11 x12 x13 x14 z15 v1 z17 z18 z19 z20 x21 x22 x23 x24 x25) h nx)) = .ok True) :
  IR.run F56.b2 C N (fnO F56.res K0) K (F56.fr x0 x1 x2 x3 x4 x5 x6 x7 x8 x9 x10 x11 x12 x13 x14 x15 x16 x17 x18 x19 x20 x21 x22 x23 x24 x25) h nx = .ok True := by
 rw [F56.b2, F56.g2_eq, F56.b3]
 refine loop_ok (fun m tm h nx => ∃ z7 z8 z9 z15 z16 z17 z18 z19 z20, tm = (F56.fr x0 x1 x2 x3 x4 x5 x6 z7 z8 z9 x10 x11 x12 x13 x14 z15 z16 z17 z18 z19 z20 x21 x22 x23 x24 x25) ∧ Inv m z15 h nx) ?_ hm ⟨_, _, _, _, _, _, _, _, _, rfl, hi⟩
 rintro m tm h nx R ⟨z7, z8, z9, z15, z16, z17, z18, z19, z20, rfl, hi⟩ hR
 refine Eq.trans ?_ (step m z7 z8 z9 z15 z16 z17 z18 z19 z20 h nx R hi fun m' w7 w8 w9 w15 w16 w17 w18 w19 w20 h' nx' hlt hi' => hR m' _ h' nx' hlt ⟨_, _, _, _, _, _, _, _, _, rfl, hi'⟩)
 kernel_rfl
theorem F56.k17 : IR.run F56.b17 C N (fnO F56.res K0) K (F56.fr x0 x1 x2 x3 x4 x5 x6 x7 x8 x9 x10 x11 x12 x13 x14 x15 x16 x17 x18 x19 x20 x21 x22 x23 x24 x25) h nx =
 sLen x6 fun v1 =>
 IR.run F56.b18 C N (fnO F56.res K0) (IR.run F56.b25 C N (fnO F56.res K0) K) (F56.fr x0 x1 x2 x3 x4 x5 x6 x7 x8 x9 .nils x11 x12 x13 x14 x15 x16 x17 x18 x19 x20 x6 v1 (I 0) x24 x25) h nx := by kernel_rfl
theorem F56.k16 {E0 : Ks Prop} : IR.run F56.b16 C N ((fnO F56.res K0).blk 0 E0) K (F56.fr x0 x1 x2 x3 x4 x5 x6 x7 x8 x9 x10 x11 x12 x13 x14 x15 x16 x17 x18 x19 x20 x21 x22 x23 x24 x25) h nx =
 sBin .add .int x15 (I 1) fun v1 =>
 K (F56.fr x0 x1 x2 x3 x4 x5 x6 x7 x8 x9 x10 x11 x12 x13 x14 v1 x16 x17 x18 x19 x20 x21 x22 x23 x24 x25) h nx := by kernel_rfl
theorem F56.L8 {E0 E1 : Ks Prop} (Inv : Nat → AV → AV → T Blk → Pa → Prop) {m : Nat} (hm : m < N) (hi : Inv m x8 x19 h nx)
  (step : ∀ (m : Nat) (z8 z9 z19 z20 : AV) (h : T Blk) (nx : Pa) (R : Ks Prop), Inv m z8 z19 h nx → (∀ (m' : Nat) (w8 w9 w19 w20 : AV) (h' : T Blk) (nx' : Pa), m' < m → Inv m' w8 w19 h' nx' → R (F56.fr x0 x1 x2 x3 x4 x5 x6 x7 w8 w9 x10 x11 x12 x13 x14 x15 x16 x17 x18 w19 w20 x21 x22 x23 x24 x25) h' nx' = .ok True) →
   (sBin .lss .int z19 x18 fun v1 =>
 sCond v1 (sIaddr 1 x17 z19 fun v2 =>
 sLoad v2 h fun v3 =>
 sIaddr 1 v3 x7 fun v4 =>
 sLoad v4 h fun v5 =>
 sMin false z8 [v5] fun v6 =>
 sBin .add .int z19 (I 1) fun v7 =>
 R (F56.fr x0 x1 x2 x3 x4 x5 x6 x7 v6 v3 x10 x11 x12 x13 x14 x15 x16 x17 x18 v7 v1 x21 x22 x23 x24 x25) h nx) (K (F56.fr x0 x1 x2 x3 x4 x5 x6 x7 z8 z9 x10 x11 x12 x13 x14 x15 x16 x17 x18 z19 v1 x21 x22 x23 x24 x25) h nx)) = .ok True) :
  IR.run F56.b8 C N (((fnO F56.res K0).blk 0 E0).blk 1 E1) K (F56.fr x0 x1 x2 x3 x4 x5 x6 x7 x8 x9 x10 x11 x12 x13 x14 x15 x16 x17 x18 x19 x20 x21 x22 x23 x24 x25) h nx = .ok True := by
 rw [F56.b8, F56.g8_eq, F56.b9]
 refine loop_ok (fun m tm h nx => ∃ z8 z9 z19 z20, tm = (F56.fr x0 x1 x2 x3 x4 x5 x6 x7 z8 z9 x10 x11 x12 x13 x14 x15 x16 x17 x18 z19 z20 x21 x22 x23 x24 x25) ∧ Inv m z8 z19 h nx) ?_ hm ⟨_, _, _, _, rfl, hi⟩
 rintro m tm h nx R ⟨z8, z9, z19, z20, rfl, hi⟩ hR
 refine Eq.trans ?_ (step m z8 z9 z19 z20 h nx R hi fun m' w8 w9 w19 w20 h' nx' hlt hi' => hR m' _ h' nx' hlt ⟨_, _, _, _, rfl, hi'⟩)
 kernel_rfl
theorem F56.k15 {E0 E1 : Ks Prop} : IR.run F56.b15 C N (((fnO F56.res K0).blk 0 E0).blk 1 E1) K (F56.fr x0 x1 x2 x3 x4 x5 x6 x7 x8 x9 x10 x11 x12 x13 x14 x15 x16 x17 x18 x19 x20 x21 x22 x23 x24 x25) h nx =
 sIaddr 1 x6 x8 fun v1 =>
 sLoad v1 h fun v2 =>
 sBin .add .int v2 (I 1) fun v3 =>
 sIaddr 1 x6 x8 fun v4 =>
 sStore 1 v4 v3 h nx fun v5 h6 n7 =>
 K (F56.fr x0 x1 x2 x3 x4 x5 x6 x7 x8 x9 x10 x11 x12 x13 x14 x15 x16 x17 x18 x19 x20 x21 x22 x23 x24 x25) h6 n7 := by kernel_rfl
theorem F56.L18 (Inv : Nat → AV → AV → T Blk → Pa → Prop) {m : Nat} (hm : m < N) (hi : Inv m x10 x23 h nx)
  (step : ∀ (m : Nat) (z10 z11 z12 z23 z24 z25 : AV) (h : T Blk) (nx : Pa) (R : Ks Prop), Inv m z10 z23 h nx → (∀ (m' : Nat) (w10 w11 w12 w23 w24 w25 : AV) (h' : T Blk) (nx' : Pa), m' < m → Inv m' w10 w23 h' nx' → R (F56.fr x0 x1 x2 x3 x4 x5 x6 x7 x8 x9 w10 w11 w12 x13 x14 x15 x16 x17 x18 x19 x20 x21 x22 w23 w24 w25) h' nx' = .ok True) →
   (sBin .lss .int z23 x22 fun v1 =>
 sCond v1 (sIaddr 1 x21 z23 fun v2 =>
 sLoad v2 h fun v3 =>
 sBin .gtr .int v3 (I 0) fun v4 =>
 sCond v4 (sIaddr 1 x1 z23 fun v5 =>
 sLoad v5 h fun v6 =>
 C.fn 79 (.of 79) [v6] h nx fun v7 h8 n9 =>
 sBuild [.nils, (I 0)] [(0, 1, v7), (1, 1, v3)] fun v10 =>
 sBslice 2 1 [.nils, (I 0)] [(0, 2, v10)] h8 n9 fun v11 h12 n13 =>
 sAppq C 2 32 z10 v11 h12 n13 fun v14 h15 n16 =>
 sBin .add .int z23 (I 1) fun v17 =>
 R (F56.fr x0 x1 x2 x3 x4 x5 x6 x7 x8 x9 v14 z23 v3 x13 x14 x15 x16 x17 x18 x19 x20 x21 x22 v17 v1 v4) h15 n16) (sBin .add .int z23 (I 1) fun v18 =>
 R (F56.fr x0 x1 x2 x3 x4 x5 x6 x7 x8 x9 z10 z23 v3 x13 x14 x15 x16 x17 x18 x19 x20 x21 x22 v18 v1 v4) h nx)) (K (F56.fr x0 x1 x2 x3 x4 x5 x6 x7 x8 x9 z10 z11 z12 x13 x14 x15 x16 x17 x18 x19 x20 x21 x22 z23 v1 z25) h nx)) = .ok True) :
  IR.run F56.b18 C N (fnO F56.res K0) K (F56.fr x0 x1 x2 x3 x4 x5 x6 x7 x8 x9 x10 x11 x12 x13 x14 x15 x16 x17 x18 x19 x20 x21 x22 x23 x24 x25) h nx = .ok True := by
 rw [F56.b18, F56.g18_eq, F56.b19]
 refine loop_ok (fun m tm h nx => ∃ z10 z11 z12 z23 z24 z25, tm = (F56.fr x0 x1 x2 x3 x4 x5 x6 x7 x8 x9 z10 z11 z12 x13 x14 x15 x16 x17 x18 x19 x20 x21 x22 z23 z24 z25) ∧ Inv m z10 z23 h nx) ?_ hm ⟨_, _, _, _, _, _, rfl, hi⟩
 rintro m tm h nx R ⟨z10, z11, z12, z23, z24, z25, rfl, hi⟩ hR
 refine Eq.trans ?_ (step m z10 z11 z12 z23 z24 z25 h nx R hi fun m' w10 w11 w12 w23 w24 w25 h' nx' hlt hi' => hR m' _ h' nx' hlt ⟨_, _, _, _, _, _, rfl, hi'⟩)
 kernel_rfl
theorem F56.k25 : IR.run F56.b25 C N (fnO F56.res K0) K (F56.fr x0 x1 x2 x3 x4 x5 x6 x7 x8 x9 x10 x11 x12 x13 x14 x15 x16 x17 x18 x19 x20 x21 x22 x23 x24 x25) h nx =
 K0 (.tup [x10, (I 0)]) h nx := by kernel_rfl
theorem F57.g8_eq (X9 : IR) (O : Outs Prop) (t : T AV) : IR.run (F57.g8 X9) C N O K t h nx = IR.run X9 C N (O.blk 2 K) K t h nx := by kernel_rfl
theorem F57.g2_eq (X3 : IR) (O : Outs Prop) (t : T AV) : IR.run (F57.g2 X3) C N O K t h nx = IR.run X3 C N (O.blk 0 K) K t h nx := by kernel_rfl
theorem F57.tab : T.get none (.of 57) tbl = some F57 := by kernel_rfl
theorem F57.go : callFn tbl N C (.of 57) [a0, a1] h nx K0 =
 C.fn 109 (.of 109) [a0, a1] h nx fun v1 h2 n3 =>
 sExt 0 v1 fun v4 =>
 sExt 1 v1 fun v5 =>
 sBin .neq .int v5 (I 0) fun v6 =>
 sCond v6 (K0 (.tup [.nils, v5]) h2 n3) (sLen a0 fun v7 =>
 sMkslice 1 8 [(I 0)] v7 v7 h2 n3 fun v8 h9 n10 =>
 sLen v4 fun v11 =>
 IR.run F57.b2 C N (fnO F57.res K0) (IR.run F57.b16 C N (fnO F57.res K0) (retK F57.res K0)) (F57.fr a0 a1 .nils (I 0) v4 v5 v8 .undef .undef .undef .undef v6 v4 v11 (I 0) .undef .undef .undef .undef .undef .undef) h9 n10) := by
 rw [callFn_of F57.tab]; kernel_rfl
theorem F57.L2 (Inv : Nat → AV → T Blk → Pa → Prop) {m : Nat} (hm : m < N) (hi : Inv m x14 h nx)
  (step : ∀ (m : Nat) (z7 z8 z9 z10 z14 z15 z16 z17 z18 z19 z20 : AV) (h : T Blk) (nx : Pa) (R : Ks Prop), Inv m z14 h nx → (∀ (m' : Nat) (w7 w8 w9 w10 w14 w15 w16 w17 w18 w19 w20 : AV) (h' : T Blk) (nx' : Pa), m' < m → Inv m' w14 h' nx' → R (F57.fr x0 x1 x2 x3 x4 x5 x6 w7 w8 w9 w10 x11 x12 x13 w14 w15 w16 w17 w18 w19 w20) h' nx' = .ok True) →
   (sBin .lss .int z14 x13 fun v1 =>
 sCond v1 (sIaddr 1 x12 z14 fun v2 =>
 sLoad v2 h fun v3 =>
 sLen v3 fun v4 =>
 IR.run F57.b8 C N (((fnO F57.res K0).blk 0 K).blk 1 (IR.run F57.b15 C N ((fnO F57.res K0).blk 0 K) R)) (IR.run F57.b15 C N ((fnO F57.res K0).blk 0 K) R) (F57.fr x0 x1 x2 x3 x4 x5 x6 z14 v3 z9 z10 x11 x12 x13 z14 v1 v3 v4 (I 0) z19 z20) h nx) (K (F57.fr x0 x1 x2 x3 x4 x5 x6 z7 z8 z9 z10 x11 x12 x13 z14 v1 z16 z17 z18 z19 z20) h nx)) = .ok True) :
  IR.run F57.b2 C N (fnO F57.res K0) K (F57.fr x0 x1 x2 x3 x4 x5 x6 x7 x8 x9 x10 x11 x12 x13 x14 x15 x16 x17 x18 x19 x20) h nx = .ok True := by
 rw [F57.b2, F57.g2_eq, F57.b3]
 refine loop_ok (fun m tm h nx => ∃ z7 z8 z9 z10 z14 z15 z16 z17 z18 z19 z20, tm = (F57.fr x0 x1 x2 x3 x4 x5 x6 z7 z8 z9 z10 x11 x12 x13 z14 z15 z16 z17 z18 z19 z20) ∧ Inv m z14 h nx) ?_ hm ⟨_, _, _, _, _, _, _, _, _, _, _, rfl, hi⟩
 rintro m tm h nx R ⟨z7, z8, z9, z10, z14, z15, z16, z17, z18, z19, z20, rfl, hi⟩ hR
 refine Eq.trans ?_ (step m z7 z8 z9 z10 z14 z15 z16 z17 z18 z19 z20 h nx R hi fun m' w7 w8 w9 w10 w14 w15 w16 w17 w18 w19 w20 h' nx' hlt hi' => hR m' _ h' nx' hlt ⟨_, _, _, _, _, _, _, _, _, _, _, rfl, hi'⟩)
 kernel_rfl
theorem F57.k16 : IR.run F57.b16 C N (fnO F57.res K0) K (F57.fr x0 x1 x2 x3 x4 x5 x6 x7 x8 x9 x10 x11 x12 x13 x14 x15 x16 x17 x18 x19 x20) h nx =
 K0 (.tup [x6, (I 0)]) h nx := by kernel_rfl
theorem F57.k15 {E0 : Ks Prop} : IR.run F57.b15 C N ((fnO F57.res K0).blk 0 E0) K (F57.fr x0 x1 x2 x3 x4 x5 x6 x7 x8 x9 x10 x11 x12 x13 x14 x15 x16 x17 x18 x19 x20) h nx =
 sBin .add .int x14 (I 1) fun v1 =>
 K (F57.fr x0 x1 x2 x3 x4 x5 x6 x7 x8 x9 x10 x11 x12 x13 v1 x15 x16 x17 x18 x19 x20) h nx := by kernel_rfl
theorem F57.L8 {E0 E1 : Ks Prop} (Inv : Nat → AV → T Blk → Pa → Prop) {m : Nat} (hm : m < N) (hi : Inv m x18 h nx)
  (step : ∀ (m : Nat) (z9 z10 z18 z19 z20 : AV) (h : T Blk) (nx : Pa) (R : Ks Prop), Inv m z18 h nx → (∀ (m' : Nat) (w9 w10 w18 w19 w20 : AV) (h' : T Blk) (nx' : Pa), m' < m → Inv m' w18 h' nx' → R (F57.fr x0 x1 x2 x3 x4 x5 x6 x7 x8 w9 w10 x11 x12 x13 x14 x15 x16 x17 w18 w19 w20) h' nx' = .ok True) →
   (sBin .lss .int z18 x17 fun v1 =>
 sCond v1 (sIaddr 1 x16 z18 fun v2 =>
 sLoad v2 h fun v3 =>
 sBin .eql .int v3 z18 fun v4 =>
 sCond v4 (sIaddr 1 x6 x7 fun v5 =>
 sLoad v5 h fun v6 =>
 sBin .add .int v6 (I 1) fun v7 =>
 sIaddr 1 x6 x7 fun v8 =>
 sStore 1 v8 v7 h nx fun v9 h10 n11 =>
 sBin .add .int z18 (I 1) fun v12 =>
 R (F57.fr x0 x1 x2 x3 x4 x5 x6 x7 x8 z18 v3 x11 x12 x13 x14 x15 x16 x17 v12 v1 v4) h10 n11) (sBin .add .int z18 (I 1) fun v13 =>
 R (F57.fr x0 x1 x2 x3 x4 x5 x6 x7 x8 z18 v3 x11 x12 x13 x14 x15 x16 x17 v13 v1 v4) h nx)) (K (F57.fr x0 x1 x2 x3 x4 x5 x6 x7 x8 z9 z10 x11 x12 x13 x14 x15 x16 x17 z18 v1 z20) h nx)) = .ok True) :
  IR.run F57.b8 C N (((fnO F57.res K0).blk 0 E0).blk 1 E1) K (F57.fr x0 x1 x2 x3 x4 x5 x6 x7 x8 x9 x10 x11 x12 x13 x14 x15 x16 x17 x18 x19 x20) h nx = .ok True := by
 rw [F57.b8, F57.g8_eq, F57.b9]
 refine loop_ok (fun m tm h nx => ∃ z9 z10 z18 z19 z20, tm = (F57.fr x0 x1 x2 x3 x4 x5 x6 x7 x8 z9 z10 x11 x12 x13 x14 x15 x16 x17 z18 z19 z20) ∧ Inv m z18 h nx) ?_ hm ⟨_, _, _, _, _, rfl, hi⟩
 rintro m tm h nx R ⟨z9, z10, z18, z19, z20, rfl, hi⟩ hR
 refine Eq.trans ?_ (step m z9 z10 z18 z19 z20 h nx R hi fun m' w9 w10 w18 w19 w20 h' nx' hlt hi' => hR m' _ h' nx' hlt ⟨_, _, _, _, _, rfl, hi'⟩)
 kernel_rfl
theorem F58.tab : T.get none (.of 58) tbl = some F58 := by kernel_rfl
theorem F58.go : callFn tbl N C (.of 58) [a0, a1] h nx K0 =
 C.fn 56 (.of 56) [a0, a1] h nx fun v1 h2 n3 =>
 sExt 0 v1 fun v4 =>
 sExt 1 v1 fun v5 =>
 sLen v4 fun v6 =>
 K0 (.tup [v6, v5]) h2 n3 := by
 rw [callFn_of F58.tab]; kernel_rfl
theorem F61.g7_eq (X8 : IR) (O : Outs Prop) (t : T AV) : IR.run (F61.g7 X8) C N O K t h nx = IR.run X8 C N (O.blk 2 K) K t h nx := by kernel_rfl
theorem F61.g1_eq (X2 : IR) (O : Outs Prop) (t : T AV) : IR.run (F61.g1 X2) C N O K t h nx = IR.run X2 C N (O.blk 0 K) K t h nx := by kernel_rfl
theorem F61.tab : T.get none (.of 61) tbl = some F61 := by kernel_rfl
theorem F61.go : callFn tbl N C (.of 61) [a0, a1] h nx K0 =
 IR.run F61.b1 C N (fnO F61.res K0) (IR.run F61.b16 C N (fnO F61.res K0) (retK F61.res K0)) (F61.fr a0 a1 .nils .nils (I 0) .undef .undef .undef .undef .undef) h nx := by
 rw [callFn_of F61.tab]; kernel_rfl
theorem F61.L1 (Inv : Nat → AV → AV → T Blk → Pa → Prop) {m : Nat} (hm : m < N) (hi : Inv m x3 x4 h nx)
  (step : ∀ (m : Nat) (z3 z4 z5 z6 z7 z8 z9 : AV) (h : T Blk) (nx : Pa) (R : Ks Prop), Inv m z3 z4 h nx → (∀ (m' : Nat) (w3 w4 w5 w6 w7 w8 w9 : AV) (h' : T Blk) (nx' : Pa), m' < m → Inv m' w3 w4 h' nx' → R (F61.fr x0 x1 x2 w3 w4 w5 w6 w7 w8 w9) h' nx' = .ok True) →
   (sLen x0 fun v1 =>
 sBin .lss .int z4 v1 fun v2 =>
 sCond v2 (IR.run F61.b7 C N (((fnO F61.res K0).blk 0 K).blk 1 (IR.run F61.b15 C N ((fnO F61.res K0).blk 0 K) R)) (IR.run F61.b14 C N (((fnO F61.res K0).blk 0 K).blk 1 (IR.run F61.b15 C N ((fnO F61.res K0).blk 0 K) R)) (IR.run F61.b15 C N ((fnO F61.res K0).blk 0 K) R)) (F61.fr x0 x1 x2 z3 z4 (I 0) (I 0) v2 z8 z9) h nx) (K (F61.fr x0 x1 x2 z3 z4 z5 z6 v2 z8 z9) h nx)) = .ok True) :
  IR.run F61.b1 C N (fnO F61.res K0) K (F61.fr x0 x1 x2 x3 x4 x5 x6 x7 x8 x9) h nx = .ok True := by
 rw [F61.b1, F61.g1_eq, F61.b2]
 refine loop_ok (fun m tm h nx => ∃ z3 z4 z5 z6 z7 z8 z9, tm = (F61.fr x0 x1 x2 z3 z4 z5 z6 z7 z8 z9) ∧ Inv m z3 z4 h nx) ?_ hm ⟨_, _, _, _, _, _, _, rfl, hi⟩
 rintro m tm h nx R ⟨z3, z4, z5, z6, z7, z8, z9, rfl, hi⟩ hR
 refine Eq.trans ?_ (step m z3 z4 z5 z6 z7 z8 z9 h nx R hi fun m' w3 w4 w5 w6 w7 w8 w9 h' nx' hlt hi' => hR m' _ h' nx' hlt ⟨_, _, _, _, _, _, _, rfl, hi'⟩)
 kernel_rfl
theorem F61.k16 : IR.run F61.b16 C N (fnO F61.res K0) K (F61.fr x0 x1 x2 x3 x4 x5 x6 x7 x8 x9) h nx =
 K0 x3 h nx := by kernel_rfl
theorem F61.k15 {E0 : Ks Prop} : IR.run F61.b15 C N ((fnO F61.res K0).blk 0 E0) K (F61.fr x0 x1 x2 x3 x4 x5 x6 x7 x8 x9) h nx =
 sBin .add .int x4 (I 1) fun v1 =>
 K (F61.fr x0 x1 x2 x3 v1 x5 x6 x7 x8 x9) h nx := by kernel_rfl
theorem F61.L7 {E0 E1 : Ks Prop} (Inv : Nat → AV → AV → T Blk → Pa → Prop) {m : Nat} (hm : m < N) (hi : Inv m x5 x6 h nx)
  (step : ∀ (m : Nat) (z5 z6 z8 z9 : AV) (h : T Blk) (nx : Pa) (R : Ks Prop), Inv m z5 z6 h nx → (∀ (m' : Nat) (w5 w6 w8 w9 : AV) (h' : T Blk) (nx' : Pa), m' < m → Inv m' w5 w6 h' nx' → R (F61.fr x0 x1 x2 x3 x4 w5 w6 x7 w8 w9) h' nx' = .ok True) →
   (sLen x1 fun v1 =>
 sBin .lss .int z6 v1 fun v2 =>
 sCond v2 (sIaddr 2 x0 x4 fun v3 =>
 sLoadN 2 v3 h fun v4 =>
 sIaddr 1 x1 z6 fun v5 =>
 sLoad v5 h fun v6 =>
 sIaddr 1 x1 z6 fun v7 =>
 sLoad v7 h fun v8 =>
 C.fn 49 (.of 49) [v4, v6] h nx fun v9 h10 n11 =>
 (sLoad v7 h10 fun v19 => sSame v19 v8 ((sIaddr 1 x1 z6 fun v18 => sSame v18 v7 (sSame z6 z6 (sSame x1 x1 (C.fn 35 (.of 35) [v9, v8] h10 n11 fun v12 h13 n14 =>
 sCond v12 (sBin .add .int z5 (I 1) fun v15 =>
 sBin .add .int z6 (I 1) fun v16 =>
 R (F61.fr x0 x1 x2 x3 x4 v15 v16 x7 v2 v12) h13 n14) (sBin .add .int z6 (I 1) fun v17 =>
 R (F61.fr x0 x1 x2 x3 x4 z5 v17 x7 v2 v12) h13 n14)))))))) (K (F61.fr x0 x1 x2 x3 x4 z5 z6 x7 v2 z9) h nx)) = .ok True) :
  IR.run F61.b7 C N (((fnO F61.res K0).blk 0 E0).blk 1 E1) K (F61.fr x0 x1 x2 x3 x4 x5 x6 x7 x8 x9) h nx = .ok True := by
 rw [F61.b7, F61.g7_eq, F61.b8]
 refine loop_ok (fun m tm h nx => ∃ z5 z6 z8 z9, tm = (F61.fr x0 x1 x2 x3 x4 z5 z6 x7 z8 z9) ∧ Inv m z5 z6 h nx) ?_ hm ⟨_, _, _, _, rfl, hi⟩
 rintro m tm h nx R ⟨z5, z6, z8, z9, rfl, hi⟩ hR
 refine Eq.trans ?_ (step m z5 z6 z8 z9 h nx R hi fun m' w5 w6 w8 w9 h' nx' hlt hi' => hR m' _ h' nx' hlt ⟨_, _, _, _, rfl, hi'⟩)
 kernel_rfl
theorem F61.k14 {E0 E1 : Ks Prop} : IR.run F61.b14 C N (((fnO F61.res K0).blk 0 E0).blk 1 E1) K (F61.fr x0 x1 x2 x3 x4 x5 x6 x7 x8 x9) h nx =
 sBslice 1 1 [(I 0)] [(0, 1, x5)] h nx fun v1 h2 n3 =>
 sApp 1 8 x3 v1 h2 n3 fun v4 h5 n6 =>
 K (F61.fr x0 x1 x2 v4 x4 x5 x6 x7 x8 x9) h5 n6 := by kernel_rfl
theorem F109.g3_eq (X4 : IR) (O : Outs Prop) (t : T AV) : IR.run (F109.g3 X4) C N O K t h nx = IR.run X4 C N (O.blk 0 K) K t h nx := by kernel_rfl
theorem F109.g17_eq (X18 : IR) (O : Outs Prop) (t : T AV) : IR.run (F109.g17 X18) C N O K t h nx = IR.run X18 C N (O.blk 4 K) K t h nx := by kernel_rfl
theorem F109.g11_eq (X12 : IR) (O : Outs Prop) (t : T AV) : IR.run (F109.g11 X12) C N O K t h nx = IR.run X12 C N (O.blk 2 K) K t h nx := by kernel_rfl
theorem F109.tab : T.get none (.of 109) tbl = some F109 := by kernel_rfl
theorem F109.go : callFn tbl N C (.of 109) [a0, a1] h nx K0 =
 sLen a0 fun v1 =>
 sBin .gtr .int v1 (I 0) fun v2 =>
 sCond v2 (sIaddr 2 a0 (I 0) fun v3 =>
 sFaddr 0 v3 fun v4 =>
 sLoad v4 h fun v5 =>
 sLen v5 fun v6 =>
 (IR.run F109.b1 C N (fnO F109.res K0) (retK F109.res K0)) (F109.fr a0 a1 .nils (I 0) v6 .undef .undef .undef .undef .undef .undef .undef .undef .undef .undef v2 .undef .undef .undef .undef .undef .undef .undef .undef .undef .undef .undef .undef .undef .undef .undef) h nx) ((IR.run F109.b1 C N (fnO F109.res K0) (retK F109.res K0)) (F109.fr a0 a1 .nils (I 0) (I 0) .undef .undef .undef .undef .undef .undef .undef .undef .undef .undef v2 .undef .undef .undef .undef .undef .undef .undef .undef .undef .undef .undef .undef .undef .undef .undef) h nx) := by
 rw [callFn_of F109.tab]; kernel_rfl
theorem F109.k1 : IR.run F109.b1 C N (fnO F109.res K0) K (F109.fr x0 x1 x2 x3 x4 x5 x6 x7 x8 x9 x10 x11 x12 x13 x14 x15 x16 x17 x18 x19 x20 x21 x22 x23 x24 x25 x26 x27 x28 x29 x30) h nx =
 C.fn 140 (.of 140) [x0, x4] h nx fun v1 h2 n3 =>
 sLen x1 fun v4 =>
 sBin .gtr .int v4 (I 1024) fun v5 =>
 C.fn 82 (.of 82) [v5, (I 5)] h2 n3 fun v6 h7 n8 =>
 sBslice 1 2 [(I 0)] [(0, 1, v1), (1, 1, v6)] h7 n8 fun v9 h10 n11 =>
 C.fn 80 (.of 80) [v9] h10 n11 fun v12 h13 n14 =>
 sBin .neq .int v12 (I 0) fun v15 =>
 sCond v15 (K0 (.tup [.nils, v12]) h13 n14) (sLen x1 fun v16 =>
 IR.run F109.b3 C N (fnO F109.res K0) (IR.run F109.b10 C N (fnO F109.res K0) K) (F109.fr x0 x1 x2 x3 x4 v12 x6 x7 x8 x9 x10 x11 x12 x13 x14 x15 v15 x1 v16 (I 0) x20 x21 x22 x23 x24 x25 x26 x27 x28 x29 x30) h13 n14) := by kernel_rfl
theorem F109.L3 (Inv : Nat → AV → T Blk → Pa → Prop) {m : Nat} (hm : m < N) (hi : Inv m x19 h nx)
  (step : ∀ (m : Nat) (z2 z3 z6 z7 z8 z19 z20 z21 : AV) (h : T Blk) (nx : Pa) (R : Ks Prop), Inv m z19 h nx → (∀ (m' : Nat) (w2 w3 w6 w7 w8 w19 w20 w21 : AV) (h' : T Blk) (nx' : Pa), m' < m → Inv m' w19 h' nx' → R (F109.fr x0 x1 w2 w3 x4 x5 w6 w7 w8 x9 x10 x11 x12 x13 x14 x15 x16 x17 x18 w19 w20 w21 x22 x23 x24 x25 x26 x27 x28 x29 x30) h' nx' = .ok True) →
   (sBin .lss .int z19 x18 fun v1 =>
 sCond v1 (sIaddr 1 x17 z19 fun v2 =>
 sLoad v2 h fun v3 =>
 sLen v3 fun v4 =>
 sBin .neq .int v4 x4 fun v5 =>
 C.fn 82 (.of 82) [v5, (I 2)] h nx fun v6 h7 n8 =>
 C.fn 94 (.of 94) [v3] h7 n8 fun v9 h10 n11 =>
 C.fn 82 (.of 82) [v9, (I 3)] h10 n11 fun v12 h13 n14 =>
 sBin .gtr .int z19 (I 0) fun v15 =>
 sG v15 true (fun k => k x1) fun v16 =>
 sG v15 true (fun k => k z19) fun v17 =>
 sG v15 true (fun k => sBin .sub .int v17 (I 1) k) fun v18 =>
 sG v15 true (fun k => sIaddr 1 v16 v18 k) fun v19 =>
 sG v15 true (fun k => sLoad v19 h13 k) fun v20 =>
 sG v15 true (fun k => k v3) fun v21 =>
 sGW v15 true (fun k => C.fn 92 (.of 92) [v20, v21] h13 n14 k) h13 n14 fun v22 h23 n24 =>
 sG v15 true (fun k => sBin .geq .int v22 (I 0) k) fun v25 =>
 sPick v15 v25 (.bool false) fun v26 =>
 C.fn 82 (.of 82) [v26, (I 11)] h23 n24 fun v27 h28 n29 =>
 sBslice 1 3 [(I 0)] [(0, 1, v6), (1, 1, v12), (2, 1, v27)] h28 n29 fun v30 h31 n32 =>
 C.fn 80 (.of 80) [v30] h31 n32 fun v33 h34 n35 =>
 sBin .neq .int v33 (I 0) fun v36 =>
 sCond v36 (K0 (.tup [.nils, v33]) h34 n35) (sBin .add .int z19 (I 1) fun v37 =>
 R (F109.fr x0 x1 z2 z3 x4 x5 z19 v3 v33 x9 x10 x11 x12 x13 x14 x15 x16 x17 x18 v37 v1 v36 x22 x23 x24 x25 x26 x27 x28 x29 x30) h34 n35)) (K (F109.fr x0 x1 z2 z3 x4 x5 z6 z7 z8 x9 x10 x11 x12 x13 x14 x15 x16 x17 x18 z19 v1 z21 x22 x23 x24 x25 x26 x27 x28 x29 x30) h nx)) = .ok True) :
  IR.run F109.b3 C N (fnO F109.res K0) K (F109.fr x0 x1 x2 x3 x4 x5 x6 x7 x8 x9 x10 x11 x12 x13 x14 x15 x16 x17 x18 x19 x20 x21 x22 x23 x24 x25 x26 x27 x28 x29 x30) h nx = .ok True := by
 rw [F109.b3, F109.g3_eq, F109.b4]
 refine loop_ok (fun m tm h nx => ∃ z2 z3 z6 z7 z8 z19 z20 z21, tm = (F109.fr x0 x1 z2 z3 x4 x5 z6 z7 z8 x9 x10 x11 x12 x13 x14 x15 x16 x17 x18 z19 z20 z21 x22 x23 x24 x25 x26 x27 x28 x29 x30) ∧ Inv m z19 h nx) ?_ hm ⟨_, _, _, _, _, _, _, _, rfl, hi⟩
 rintro m tm h nx R ⟨z2, z3, z6, z7, z8, z19, z20, z21, rfl, hi⟩ hR
 refine Eq.trans ?_ (step m z2 z3 z6 z7 z8 z19 z20 z21 h nx R hi fun m' w2 w3 w6 w7 w8 w19 w20 w21 h' nx' hlt hi' => hR m' _ h' nx' hlt ⟨_, _, _, _, _, _, _, _, rfl, hi'⟩)
 kernel_rfl
theorem F109.k10 : IR.run F109.b10 C N (fnO F109.res K0) K (F109.fr x0 x1 x2 x3 x4 x5 x6 x7 x8 x9 x10 x11 x12 x13 x14 x15 x16 x17 x18 x19 x20 x21 x22 x23 x24 x25 x26 x27 x28 x29 x30) h nx =
 sLen x0 fun v1 =>
 IR.run F109.b11 C N (fnO F109.res K0) (IR.run F109.b27 C N (fnO F109.res K0) K) (F109.fr x0 x1 x2 x3 x4 x5 x6 x7 x8 .nils x10 x11 x12 x13 x14 x15 x16 x17 x18 x19 x20 x21 x0 v1 (I 0) x25 x26 x27 x28 x29 x30) h nx := by kernel_rfl
theorem F109.L11 (Inv : Nat → AV → AV → T Blk → Pa → Prop) {m : Nat} (hm : m < N) (hi : Inv m x9 x24 h nx)
  (step : ∀ (m : Nat) (z2 z3 z9 z10 z11 z12 z13 z14 z24 z25 z26 z27 z28 z29 z30 : AV) (h : T Blk) (nx : Pa) (R : Ks Prop), Inv m z9 z24 h nx → (∀ (m' : Nat) (w2 w3 w9 w10 w11 w12 w13 w14 w24 w25 w26 w27 w28 w29 w30 : AV) (h' : T Blk) (nx' : Pa), m' < m → Inv m' w9 w24 h' nx' → R (F109.fr x0 x1 w2 w3 x4 x5 x6 x7 x8 w9 w10 w11 w12 w13 w14 x15 x16 x17 x18 x19 x20 x21 x22 x23 w24 w25 w26 w27 w28 w29 w30) h' nx' = .ok True) →
   (sBin .lss .int z24 x23 fun v1 =>
 sCond v1 (sIaddr 2 x22 z24 fun v2 =>
 sLoadN 2 v2 h fun v3 =>
 sAlloc [.nils, (.bool false)] h nx fun v4 h5 n6 =>
 sStore 2 v4 v3 h5 n6 fun v7 h8 n9 =>
 sLen x1 fun v10 =>
 IR.run F109.b17 C N (((fnO F109.res K0).blk 2 K).blk 3 (IR.run F109.b26 C N ((fnO F109.res K0).blk 2 K) R)) (IR.run F109.b25 C N (((fnO F109.res K0).blk 2 K).blk 3 (IR.run F109.b26 C N ((fnO F109.res K0).blk 2 K) R)) (IR.run F109.b26 C N ((fnO F109.res K0).blk 2 K) R)) (F109.fr x0 x1 z2 z3 x4 x5 x6 x7 x8 z9 v4 .nils z12 z13 z14 x15 x16 x17 x18 x19 x20 x21 x22 x23 z24 v1 x1 v10 (I 0) z29 z30) h8 n9) (K (F109.fr x0 x1 z2 z3 x4 x5 x6 x7 x8 z9 z10 z11 z12 z13 z14 x15 x16 x17 x18 x19 x20 x21 x22 x23 z24 v1 z26 z27 z28 z29 z30) h nx)) = .ok True) :
  IR.run F109.b11 C N (fnO F109.res K0) K (F109.fr x0 x1 x2 x3 x4 x5 x6 x7 x8 x9 x10 x11 x12 x13 x14 x15 x16 x17 x18 x19 x20 x21 x22 x23 x24 x25 x26 x27 x28 x29 x30) h nx = .ok True := by
 rw [F109.b11, F109.g11_eq, F109.b12]
 refine loop_ok (fun m tm h nx => ∃ z2 z3 z9 z10 z11 z12 z13 z14 z24 z25 z26 z27 z28 z29 z30, tm = (F109.fr x0 x1 z2 z3 x4 x5 x6 x7 x8 z9 z10 z11 z12 z13 z14 x15 x16 x17 x18 x19 x20 x21 x22 x23 z24 z25 z26 z27 z28 z29 z30) ∧ Inv m z9 z24 h nx) ?_ hm ⟨_, _, _, _, _, _, _, _, _, _, _, _, _, _, _, rfl, hi⟩
 rintro m tm h nx R ⟨z2, z3, z9, z10, z11, z12, z13, z14, z24, z25, z26, z27, z28, z29, z30, rfl, hi⟩ hR
 refine Eq.trans ?_ (step m z2 z3 z9 z10 z11 z12 z13 z14 z24 z25 z26 z27 z28 z29 z30 h nx R hi fun m' w2 w3 w9 w10 w11 w12 w13 w14 w24 w25 w26 w27 w28 w29 w30 h' nx' hlt hi' => hR m' _ h' nx' hlt ⟨_, _, _, _, _, _, _, _, _, _, _, _, _, _, _, rfl, hi'⟩)
 kernel_rfl
theorem F109.k27 : IR.run F109.b27 C N (fnO F109.res K0) K (F109.fr x0 x1 x2 x3 x4 x5 x6 x7 x8 x9 x10 x11 x12 x13 x14 x15 x16 x17 x18 x19 x20 x21 x22 x23 x24 x25 x26 x27 x28 x29 x30) h nx =
 K0 (.tup [x9, (I 0)]) h nx := by kernel_rfl
theorem F109.k26 {E2 : Ks Prop} : IR.run F109.b26 C N ((fnO F109.res K0).blk 2 E2) K (F109.fr x0 x1 x2 x3 x4 x5 x6 x7 x8 x9 x10 x11 x12 x13 x14 x15 x16 x17 x18 x19 x20 x21 x22 x23 x24 x25 x26 x27 x28 x29 x30) h nx =
 sBin .add .int x24 (I 1) fun v1 =>
 K (F109.fr x0 x1 x2 x3 x4 x5 x6 x7 x8 x9 x10 x11 x12 x13 x14 x15 x16 x17 x18 x19 x20 x21 x22 x23 v1 x25 x26 x27 x28 x29 x30) h nx := by kernel_rfl
theorem F109.L17 {E2 E3 : Ks Prop} (Inv : Nat → AV → AV → T Blk → Pa → Prop) {m : Nat} (hm : m < N) (hi : Inv m x11 x28 h nx)
  (step : ∀ (m : Nat) (z2 z3 z11 z12 z13 z14 z28 z29 z30 : AV) (h : T Blk) (nx : Pa) (R : Ks Prop), Inv m z11 z28 h nx → (∀ (m' : Nat) (w2 w3 w11 w12 w13 w14 w28 w29 w30 : AV) (h' : T Blk) (nx' : Pa), m' < m → Inv m' w11 w28 h' nx' → R (F109.fr x0 x1 w2 w3 x4 x5 x6 x7 x8 x9 x10 w11 w12 w13 w14 x15 x16 x17 x18 x19 x20 x21 x22 x23 x24 x25 x26 x27 w28 w29 w30) h' nx' = .ok True) →
   (sBin .lss .int z28 x27 fun v1 =>
 sCond v1 (sIaddr 1 x26 z28 fun v2 =>
 sLoad v2 h fun v3 =>
 sLoadN 2 x10 h fun v4 =>
 C.fn 142 (.of 142) [v4, v3] h nx fun v5 h6 n7 =>
 C.fn 141 (.of 141) [x1, v5, (.fn 92 (.of 92) [])] h6 n7 fun v8 h9 n10 =>
 sExt 0 v8 fun v11 =>
 sExt 1 v8 fun v12 =>
 sNot v12 fun v13 =>
 sCond v13 (K0 (.tup [.nils, (I 7)]) h9 n10) (sBslice 1 1 [(I 0)] [(0, 1, v11)] h9 n10 fun v14 h15 n16 =>
 sApp 1 8 z11 v14 h15 n16 fun v17 h18 n19 =>
 sBin .add .int z28 (I 1) fun v20 =>
 R (F109.fr x0 x1 z2 z3 x4 x5 x6 x7 x8 x9 x10 v17 v3 v11 v12 x15 x16 x17 x18 x19 x20 x21 x22 x23 x24 x25 x26 x27 v20 v1 v13) h18 n19)) (K (F109.fr x0 x1 z2 z3 x4 x5 x6 x7 x8 x9 x10 z11 z12 z13 z14 x15 x16 x17 x18 x19 x20 x21 x22 x23 x24 x25 x26 x27 z28 v1 z30) h nx)) = .ok True) :
  IR.run F109.b17 C N (((fnO F109.res K0).blk 2 E2).blk 3 E3) K (F109.fr x0 x1 x2 x3 x4 x5 x6 x7 x8 x9 x10 x11 x12 x13 x14 x15 x16 x17 x18 x19 x20 x21 x22 x23 x24 x25 x26 x27 x28 x29 x30) h nx = .ok True := by
 rw [F109.b17, F109.g17_eq, F109.b18]
 refine loop_ok (fun m tm h nx => ∃ z2 z3 z11 z12 z13 z14 z28 z29 z30, tm = (F109.fr x0 x1 z2 z3 x4 x5 x6 x7 x8 x9 x10 z11 z12 z13 z14 x15 x16 x17 x18 x19 x20 x21 x22 x23 x24 x25 x26 x27 z28 z29 z30) ∧ Inv m z11 z28 h nx) ?_ hm ⟨_, _, _, _, _, _, _, _, _, rfl, hi⟩
 rintro m tm h nx R ⟨z2, z3, z11, z12, z13, z14, z28, z29, z30, rfl, hi⟩ hR
 refine Eq.trans ?_ (step m z2 z3 z11 z12 z13 z14 z28 z29 z30 h nx R hi fun m' w2 w3 w11 w12 w13 w14 w28 w29 w30 h' nx' hlt hi' => hR m' _ h' nx' hlt ⟨_, _, _, _, _, _, _, _, _, rfl, hi'⟩)
 kernel_rfl
theorem F109.k25 {E2 E3 : Ks Prop} : IR.run F109.b25 C N (((fnO F109.res K0).blk 2 E2).blk 3 E3) K (F109.fr x0 x1 x2 x3 x4 x5 x6 x7 x8 x9 x10 x11 x12 x13 x14 x15 x16 x17 x18 x19 x20 x21 x22 x23 x24 x25 x26 x27 x28 x29 x30) h nx =
 sBslice 1 1 [.nils] [(0, 1, x11)] h nx fun v1 h2 n3 =>
 sApp 1 24 x9 v1 h2 n3 fun v4 h5 n6 =>
 K (F109.fr x0 x1 x2 x3 x4 x5 x6 x7 x8 v4 x10 x11 x12 x13 x14 x15 x16 x17 x18 x19 x20 x21 x22 x23 x24 x25 x26 x27 x28 x29 x30) h5 n6 := by kernel_rfl
theorem F140.tab : T.get none (.of 140) tbl = some F140 := by kernel_rfl
theorem F140.go : callFn tbl N C (.of 140) [a0, a1] h nx K0 =
 C.fn 167 (.of 167) [a0, a1] h nx fun v1 h2 n3 =>
 sExt 0 v1 fun v4 =>
 sExt 1 v1 fun v5 =>
 sExt 2 v1 fun v6 =>
 K0 v6 h2 n3 := by
 rw [callFn_of F140.tab]; kernel_rfl
end Go.Ev
namespace Go.Ev
open Go Go.Proofs
set_option maxRecDepth 100000
variable {N : Nat} {C : Calls Prop} {K0 : Kw Prop} {K R : Ks Prop} {h : T Blk} {nx : Pa} {x0 x1 x2 x3 x4 x5 x6 x7 x8 x9 x10 x11 x12 x13 x14 x15 x16 x17 x18 a0 a1 : AV}
end Go.Ev
namespace Go.Ev
open Go Go.Proofs
set_option maxRecDepth 100000
variable {N : Nat} {C : Calls Prop} {K0 : Kw Prop} {K R : Ks Prop} {h : T Blk} {nx : Pa} {x0 x1 x2 x3 x4 x5 x6 x7 x8 x9 x10 x11 a0 : AV}
end Go.Ev
namespace Go.Ev
open Go Go.Proofs
set_option maxRecDepth 100000
variable {N : Nat} {C : Calls Prop} {K0 : Kw Prop} {K R : Ks Prop} {h : T Blk} {nx : Pa} {x0 x1 x2 x3 x4 x5 x6 x7 x8 x9 x10 x11 x12 x13 x14 x15 x16 x17 x18 x19 x20 x21 x22 x23 x24 x25 x26 x27 x28 x29 x30 x31 x32 a0 a1 a2 a3 : AV}
end Go.Ev
namespace Go.Ev
open Go Go.Proofs
set_option maxRecDepth 100000
variable {N : Nat} {C : Calls Prop} {K0 : Kw Prop} {K R : Ks Prop} {h : T Blk} {nx : Pa} {x0 x1 x2 x3 x4 x5 x6 x7 x8 x9 x10 x11 x12 x13 x14 x15 x16 x17 x18 x19 x20 x21 x22 x23 x24 x25 x26 x27 x28 x29 x30 x31 x32 x33 x34 a0 a1 a2 : AV}
end Go.Ev
namespace Go.Ev
open Go Go.Proofs
set_option maxRecDepth 100000
variable {N : Nat} {C : Calls Prop} {K0 : Kw Prop} {K R : Ks Prop} {h : T Blk} {nx : Pa} {x0 x1 x2 x3 x4 x5 x6 x7 x8 x9 x10 x11 a0 a1 : AV}
theorem F184.g1_eq (X2 : IR) (O : Outs Prop) (t : T AV) : IR.run (F184.g1 X2) C N O K t h nx = IR.run X2 C N (O.blk 0 K) K t h nx := by kernel_rfl
theorem F184.tab : T.get none (.of 184) tbl = some F184 := by kernel_rfl
theorem F184.go : callFn tbl N C (.of 184) [a0, a1] h nx K0 =
 sLen a0 fun v1 =>
 IR.run F184.b1 C N (fnO F184.res K0) (IR.run F184.b8 C N (fnO F184.res K0) (retK F184.res K0)) (F184.fr a0 a1 (I 0) .undef .undef a0 v1 (I 0) .undef .undef) h nx := by
 rw [callFn_of F184.tab]; kernel_rfl
theorem F184.L1 (Inv : Nat → AV → T Blk → Pa → Prop) {m : Nat} (hm : m < N) (hi : Inv m x7 h nx)
  (step : ∀ (m : Nat) (z2 z3 z4 z7 z8 z9 : AV) (h : T Blk) (nx : Pa) (R : Ks Prop), Inv m z7 h nx → (∀ (m' : Nat) (w2 w3 w4 w7 w8 w9 : AV) (h' : T Blk) (nx' : Pa), m' < m → Inv m' w7 h' nx' → R (F184.fr x0 x1 w2 w3 w4 x5 x6 w7 w8 w9) h' nx' = .ok True) →
   (sBin .lss .int z7 x6 fun v1 =>
 sCond v1 (sIaddr 2 x5 z7 fun v2 =>
 sLoadN 2 v2 h fun v3 =>
 sAlloc [.nils, (.bool false)] h nx fun v4 h5 n6 =>
 sStore 2 v4 v3 h5 n6 fun v7 h8 n9 =>
 sLoadN 2 v4 h8 fun v10 =>
 C.fn 200 (.of 200) [v10, x1] h8 n9 fun v11 h12 n13 =>
 sBin .neq .int v11 (I 0) fun v14 =>
 sCond v14 (K0 v11 h12 n13) (sBin .add .int z7 (I 1) fun v15 =>
 R (F184.fr x0 x1 z2 v4 v11 x5 x6 v15 v1 v14) h12 n13)) (K (F184.fr x0 x1 z2 z3 z4 x5 x6 z7 v1 z9) h nx)) = .ok True) :
  IR.run F184.b1 C N (fnO F184.res K0) K (F184.fr x0 x1 x2 x3 x4 x5 x6 x7 x8 x9) h nx = .ok True := by
 rw [F184.b1, F184.g1_eq, F184.b2]
 refine loop_ok (fun m tm h nx => ∃ z2 z3 z4 z7 z8 z9, tm = (F184.fr x0 x1 z2 z3 z4 x5 x6 z7 z8 z9) ∧ Inv m z7 h nx) ?_ hm ⟨_, _, _, _, _, _, rfl, hi⟩
 rintro m tm h nx R ⟨z2, z3, z4, z7, z8, z9, rfl, hi⟩ hR
 refine Eq.trans ?_ (step m z2 z3 z4 z7 z8 z9 h nx R hi fun m' w2 w3 w4 w7 w8 w9 h' nx' hlt hi' => hR m' _ h' nx' hlt ⟨_, _, _, _, _, _, rfl, hi'⟩)
 kernel_rfl
theorem F184.k8 : IR.run F184.b8 C N (fnO F184.res K0) K (F184.fr x0 x1 x2 x3 x4 x5 x6 x7 x8 x9) h nx =
 K0 (I 0) h nx := by kernel_rfl
theorem F185.tab : T.get none (.of 185) tbl = some F185 := by kernel_rfl
theorem F185.go : callFn tbl N C (.of 185) [a0] h nx K0 =
 sBox a0 h nx fun v1 h2 n3 =>
 K0 (.fn 201 (.of 201) [v1]) h2 n3 := by
 rw [callFn_of F185.tab]; kernel_rfl
theorem F186.tab : T.get none (.of 186) tbl = some F186 := by kernel_rfl
theorem F186.go : callFn tbl N C (.of 186) [a0, a1] h nx K0 =
 sBox a0 h nx fun v1 h2 n3 =>
 sBox a1 h2 n3 fun v4 h5 n6 =>
 sFaddr 0 v1 fun v7 =>
 sLoad v7 h5 fun v8 =>
 sFaddr 0 v4 fun v9 =>
 sLoad v9 h5 fun v10 =>
 C.fn 92 (.of 92) [v8, v10] h5 n6 fun v11 h12 n13 =>
 sBin .neq .int v11 (I 0) fun v14 =>
 sG v14 false (fun k => sFaddr 1 v1 k) fun v15 =>
 sG v14 false (fun k => sLoad v15 h12 k) fun v16 =>
 sG v14 false (fun k => sFaddr 1 v4 k) fun v17 =>
 sG v14 false (fun k => sLoad v17 h12 k) fun v18 =>
 sG v14 false (fun k => sBin .eql .bool v16 v18 k) fun v19 =>
 sPick v14 (.bool true) v19 fun v20 =>
 sCond v20 (K0 v11 h12 n13) ((IR.run F186.b1 C N (fnO F186.res K0) (retK F186.res K0)) (F186.fr a0 a1 v1 v4 (I 0) v11 v20 .undef) h12 n13) := by
 rw [callFn_of F186.tab]; kernel_rfl
theorem F186.k1 : IR.run F186.b1 C N (fnO F186.res K0) K (F186.fr x0 x1 x2 x3 x4 x5 x6 x7) h nx =
 sFaddr 1 x2 fun v1 =>
 sLoad v1 h fun v2 =>
 sCond v2 (K0 (I 1) h nx) (K0 (I (-1)) h nx) := by kernel_rfl
theorem F200.tab : T.get none (.of 200) tbl = some F200 := by kernel_rfl
theorem F200.go : callFn tbl N C (.of 200) [a0, a1] h nx K0 =
 sBox a0 h nx fun v1 h2 n3 =>
 sFaddr 0 v1 fun v4 =>
 sLoad v4 h2 fun v5 =>
 sLen v5 fun v6 =>
 sBin .neq .int v6 a1 fun v7 =>
 sFaddr 0 v1 fun v8 =>
 sLoad v8 h2 fun v9 =>
 C.fn 182 (.of 182) [a1] h2 n3 fun v10 h11 n12 =>
 (sLoad v8 h11 fun v36 => sSame v36 v9 ((sFaddr 0 v1 fun v35 => sSame v35 v8 ((sBin .neq .int v6 a1 fun v34 => sSame v34 v7 (sSame a1 a1 ((sLen v5 fun v33 => sSame v33 v6 ((sLoad v4 h11 fun v32 => sSame v32 v5 ((sFaddr 0 v1 fun v31 => sSame v31 v4 (C.fn 183 (.of 183) [v7, (I 2)] h11 n12 fun v13 h14 n15 =>
 (sLoad v8 h14 fun v30 => sSame v30 v9 ((sFaddr 0 v1 fun v29 => sSame v29 v8 (C.fn 213 (.of 213) [v9] h14 n15 fun v16 h17 n18 =>
 sNot v16 fun v19 =>
 C.fn 183 (.of 183) [v19, (I 14)] h17 n18 fun v20 h21 n22 =>
 sBslice 1 3 [(I 0)] [(0, 1, v10), (1, 1, v13), (2, 1, v20)] h21 n22 fun v23 h24 n25 =>
 C.fn 181 (.of 181) [v23] h24 n25 fun v26 h27 n28 =>
 K0 v26 h27 n28))))))))))))))))) := by
 rw [callFn_of F200.tab]; kernel_rfl
theorem F201.g1_eq (X2 : IR) (O : Outs Prop) (t : T AV) : IR.run (F201.g1 X2) C N O K t h nx = IR.run X2 C N (O.blk 0 K) K t h nx := by kernel_rfl
theorem F201.tab : T.get none (.of 201) tbl = some F201 := by kernel_rfl
theorem F201.go : callFn tbl N C (.of 201) [a0, a1] h nx K0 =
 sLoad a1 h fun v1 =>
 sLen v1 fun v2 =>
 IR.run F201.b1 C N (fnO F201.res K0) (retK F201.res K0) (F201.fr a0 a1 .undef .undef v1 v2 (I 0) .undef .undef) h nx := by
 rw [callFn_of F201.tab]; kernel_rfl
theorem F201.L1 (Inv : Nat → AV → T Blk → Pa → Prop) {m : Nat} (hm : m < N) (hi : Inv m x6 h nx)
  (step : ∀ (m : Nat) (z2 z3 z6 z7 z8 : AV) (h : T Blk) (nx : Pa) (R : Ks Prop), Inv m z6 h nx → (∀ (m' : Nat) (w2 w3 w6 w7 w8 : AV) (h' : T Blk) (nx' : Pa), m' < m → Inv m' w6 h' nx' → R (F201.fr x0 x1 w2 w3 x4 x5 w6 w7 w8) h' nx' = .ok True) →
   (sBin .lss .int z6 x5 fun v1 =>
 sCond v1 (sIaddr 2 x4 z6 fun v2 =>
 sLoadN 2 v2 h fun v3 =>
 sAlloc [.nils, (.bool false)] h nx fun v4 h5 n6 =>
 sStore 2 v4 v3 h5 n6 fun v7 h8 n9 =>
 sLoadN 2 v4 h8 fun v10 =>
 sCall C x0 [z6, v10] h8 n9 fun v11 h12 n13 =>
 sNot v11 fun v14 =>
 sCond v14 (K0 (.tup []) h12 n13) (sBin .add .int z6 (I 1) fun v15 =>
 R (F201.fr x0 x1 z6 v4 x4 x5 v15 v1 v14) h12 n13)) (K (F201.fr x0 x1 z2 z3 x4 x5 z6 v1 z8) h nx)) = .ok True) :
  IR.run F201.b1 C N (fnO F201.res K0) K (F201.fr x0 x1 x2 x3 x4 x5 x6 x7 x8) h nx = .ok True := by
 rw [F201.b1, F201.g1_eq, F201.b2]
 refine loop_ok (fun m tm h nx => ∃ z2 z3 z6 z7 z8, tm = (F201.fr x0 x1 z2 z3 x4 x5 z6 z7 z8) ∧ Inv m z6 h nx) ?_ hm ⟨_, _, _, _, _, rfl, hi⟩
 rintro m tm h nx R ⟨z2, z3, z6, z7, z8, rfl, hi⟩ hR
 refine Eq.trans ?_ (step m z2 z3 z6 z7 z8 h nx R hi fun m' w2 w3 w6 w7 w8 h' nx' hlt hi' => hR m' _ h' nx' hlt ⟨_, _, _, _, _, rfl, hi'⟩)
 kernel_rfl
theorem F202.g1_eq (X2 : IR) (O : Outs Prop) (t : T AV) : IR.run (F202.g1 X2) C N O K t h nx = IR.run X2 C N (O.blk 0 K) K t h nx := by kernel_rfl
theorem F202.tab : T.get none (.of 202) tbl = some F202 := by kernel_rfl
theorem F202.go : callFn tbl N C (.of 202) [a0] h nx K0 =
 sAlloc [.nils, (.bool false)] h nx fun v1 h2 n3 =>
 sMkslice 1 8 [(I 0)] a0 a0 h2 n3 fun v4 h5 n6 =>
 sBuild [.nils, (.bool false)] [(0, 1, v4)] fun v7 =>
 sAlloc [.nils, (.bool false)] h5 n6 fun v8 h9 n10 =>
 sStore 2 v8 v7 h9 n10 fun v11 h12 n13 =>
 sFaddr 0 v8 fun v14 =>
 sLoad v14 h12 fun v15 =>
 sLen v15 fun v16 =>
 IR.run F202.b1 C N (fnO F202.res K0) (IR.run F202.b8 C N (fnO F202.res K0) (retK F202.res K0)) (F202.fr a0 v1 v8 .undef v16 (I 0) .undef) h12 n13 := by
 rw [callFn_of F202.tab]; kernel_rfl
theorem F202.L1 (Inv : Nat → AV → T Blk → Pa → Prop) {m : Nat} (hm : m < N) (hi : Inv m x5 h nx)
  (step : ∀ (m : Nat) (z3 z5 z6 : AV) (h : T Blk) (nx : Pa) (R : Ks Prop), Inv m z5 h nx → (∀ (m' : Nat) (w3 w5 w6 : AV) (h' : T Blk) (nx' : Pa), m' < m → Inv m' w5 h' nx' → R (F202.fr x0 x1 x2 w3 x4 w5 w6) h' nx' = .ok True) →
   (sBin .lss .int z5 x4 fun v1 =>
 sCond v1 (sFaddr 0 x2 fun v2 =>
 sLoad v2 h fun v3 =>
 sIaddr 1 v3 z5 fun v4 =>
 sStore 1 v4 z5 h nx fun v5 h6 n7 =>
 sBin .add .int z5 (I 1) fun v8 =>
 R (F202.fr x0 x1 x2 z5 x4 v8 v1) h6 n7) (K (F202.fr x0 x1 x2 z3 x4 z5 v1) h nx)) = .ok True) :
  IR.run F202.b1 C N (fnO F202.res K0) K (F202.fr x0 x1 x2 x3 x4 x5 x6) h nx = .ok True := by
 rw [F202.b1, F202.g1_eq, F202.b2]
 refine loop_ok (fun m tm h nx => ∃ z3 z5 z6, tm = (F202.fr x0 x1 x2 z3 x4 z5 z6) ∧ Inv m z5 h nx) ?_ hm ⟨_, _, _, rfl, hi⟩
 rintro m tm h nx R ⟨z3, z5, z6, rfl, hi⟩ hR
 refine Eq.trans ?_ (step m z3 z5 z6 h nx R hi fun m' w3 w5 w6 h' nx' hlt hi' => hR m' _ h' nx' hlt ⟨_, _, _, rfl, hi'⟩)
 kernel_rfl
theorem F202.k8 : IR.run F202.b8 C N (fnO F202.res K0) K (F202.fr x0 x1 x2 x3 x4 x5 x6) h nx =
 sLoadN 2 x2 h fun v1 =>
 sStore 2 x1 v1 h nx fun v2 h3 n4 =>
 sLoadN 2 x1 h3 fun v5 => K0 v5 h3 n4 := by kernel_rfl
theorem F203.g1_eq (X2 : IR) (O : Outs Prop) (t : T AV) : IR.run (F203.g1 X2) C N O K t h nx = IR.run X2 C N (O.blk 0 K) K t h nx := by kernel_rfl
theorem F203.tab : T.get none (.of 203) tbl = some F203 := by kernel_rfl
theorem F203.go : callFn tbl N C (.of 203) [a0] h nx K0 =
 sBox a0 h nx fun v1 h2 n3 =>
 sFaddr 0 v1 fun v4 =>
 sLoad v4 h2 fun v5 =>
 sLen v5 fun v6 =>
 sBin .add .int v6 (I 1) fun v7 =>
 sMkslice 1 1 [(.int .u8 0)] (I 0) v7 h2 n3 fun v8 h9 n10 =>
 sFaddr 0 v1 fun v11 =>
 sLoad v11 h9 fun v12 =>
 sLen v12 fun v13 =>
 IR.run F203.b1 C N (fnO F203.res K0) (IR.run F203.b8 C N (fnO F203.res K0) (retK F203.res K0)) (F203.fr a0 v1 (.str []) v8 .undef v12 v13 (I 0) .undef .undef) h9 n10 := by
 rw [callFn_of F203.tab]; kernel_rfl
theorem F203.L1 (Inv : Nat → AV → AV → T Blk → Pa → Prop) {m : Nat} (hm : m < N) (hi : Inv m x3 x7 h nx)
  (step : ∀ (m : Nat) (z3 z4 z7 z8 : AV) (h : T Blk) (nx : Pa) (R : Ks Prop), Inv m z3 z7 h nx → (∀ (m' : Nat) (w3 w4 w7 w8 : AV) (h' : T Blk) (nx' : Pa), m' < m → Inv m' w3 w7 h' nx' → R (F203.fr x0 x1 x2 w3 w4 x5 x6 w7 w8 x9) h' nx' = .ok True) →
   (sBin .lss .int z7 x6 fun v1 =>
 sCond v1 (sIaddr 1 x5 z7 fun v2 =>
 sLoad v2 h fun v3 =>
 sConv .u8 v3 fun v4 =>
 sBslice 1 1 [(.int .u8 0)] [(0, 1, v4)] h nx fun v5 h6 n7 =>
 sApp 1 1 z3 v5 h6 n7 fun v8 h9 n10 =>
 sBin .add .int z7 (I 1) fun v11 =>
 R (F203.fr x0 x1 x2 v8 v3 x5 x6 v11 v1 x9) h9 n10) (K (F203.fr x0 x1 x2 z3 z4 x5 x6 z7 v1 x9) h nx)) = .ok True) :
  IR.run F203.b1 C N (fnO F203.res K0) K (F203.fr x0 x1 x2 x3 x4 x5 x6 x7 x8 x9) h nx = .ok True := by
 rw [F203.b1, F203.g1_eq, F203.b2]
 refine loop_ok (fun m tm h nx => ∃ z3 z4 z7 z8, tm = (F203.fr x0 x1 x2 z3 z4 x5 x6 z7 z8 x9) ∧ Inv m z3 z7 h nx) ?_ hm ⟨_, _, _, _, rfl, hi⟩
 rintro m tm h nx R ⟨z3, z4, z7, z8, rfl, hi⟩ hR
 refine Eq.trans ?_ (step m z3 z4 z7 z8 h nx R hi fun m' w3 w4 w7 w8 h' nx' hlt hi' => hR m' _ h' nx' hlt ⟨_, _, _, _, rfl, hi'⟩)
 kernel_rfl
theorem F203.k8 : IR.run F203.b8 C N (fnO F203.res K0) K (F203.fr x0 x1 x2 x3 x4 x5 x6 x7 x8 x9) h nx =
 sFaddr 1 x1 fun v1 =>
 sLoad v1 h fun v2 =>
 sCond v2 (sBslice 1 1 [(.int .u8 0)] [(0, 1, (.int .u8 1))] h nx fun v3 h4 n5 =>
 sApp 1 1 x3 v3 h4 n5 fun v6 h7 n8 =>
 sB2s v6 h7 fun v9 =>
 K0 v9 h7 n8) (sB2s x3 h fun v10 =>
 K0 v10 h nx) := by kernel_rfl
theorem F204.tab : T.get none (.of 204) tbl = some F204 := by kernel_rfl
theorem F204.go : callFn tbl N C (.of 204) [a0, a1] h nx K0 =
 sBox a1 h nx fun v1 h2 n3 =>
 sLoadN 2 v1 h2 fun v4 =>
 C.fn 203 (.of 203) [v4] h2 n3 fun v5 h6 n7 =>
 sLook .str (.agg [.nils, (.bool false)]) true a0 v5 h6 fun v8 =>
 sExt 0 v8 fun v9 =>
 sExt 1 v8 fun v10 =>
 sAlloc [.nils, (.bool false)] h6 n7 fun v11 h12 n13 =>
 sStore 2 v11 v9 h12 n13 fun v14 h15 n16 =>
 K0 v10 h15 n16 := by
 rw [callFn_of F204.tab]; kernel_rfl
theorem F205.g1_eq (X2 : IR) (O : Outs Prop) (t : T AV) : IR.run (F205.g1 X2) C N O K t h nx = IR.run X2 C N (O.blk 0 K) K t h nx := by kernel_rfl
theorem F205.tab : T.get none (.of 205) tbl = some F205 := by kernel_rfl
theorem F205.go : callFn tbl N C (.of 205) [a0, a1] h nx K0 =
 sBox a0 h nx fun v1 h2 n3 =>
 sBox a1 h2 n3 fun v4 h5 n6 =>
 sAlloc [.nils, (.bool false)] h5 n6 fun v7 h8 n9 =>
 sChk (true && true) (sFaddr 0 v4 fun v10 =>
 sLoad v10 h8 fun v11 =>
 sLen v11 fun v12 =>
 sChk (mkSl 8 v12 v12 && true) (sFaddr 1 v1 fun v13 =>
 sLoad v13 h8 fun v14 =>
 sFaddr 1 v4 fun v15 =>
 sLoad v15 h8 fun v16 =>
 sBin .neq .bool v14 v16 fun v17 =>
 sMkslice 1 8 [(I 0)] v12 v12 h8 n9 fun v18 h19 n20 =>
 (sBin .neq .bool v14 v16 fun v47 => sSame v47 v17 ((sLoad v15 h19 fun v46 => sSame v46 v16 ((sFaddr 1 v4 fun v45 => sSame v45 v15 ((sLoad v13 h19 fun v44 => sSame v44 v14 ((sFaddr 1 v1 fun v43 => sSame v43 v13 ((sLen v11 fun v42 => sSame v42 v12 ((sLoad v10 h19 fun v41 => sSame v41 v11 ((sFaddr 0 v4 fun v40 => sSame v40 v10 (sBuild [.nils, (.bool false)] [(0, 1, v18), (1, 1, v17)] fun v21 =>
 sAlloc [.nils, (.bool false)] h19 n20 fun v22 h23 n24 =>
 (sBuild [.nils, (.bool false)] [(0, 1, v18), (1, 1, v17)] fun v39 => sSame v39 v21 ((sBin .neq .bool v14 v16 fun v38 => sSame v38 v17 ((sLoad v15 h23 fun v37 => sSame v37 v16 ((sFaddr 1 v4 fun v36 => sSame v36 v15 ((sLoad v13 h23 fun v35 => sSame v35 v14 ((sFaddr 1 v1 fun v34 => sSame v34 v13 ((sLen v11 fun v33 => sSame v33 v12 ((sLoad v10 h23 fun v32 => sSame v32 v11 ((sFaddr 0 v4 fun v31 => sSame v31 v10 (sStore 2 v22 v21 h23 n24 fun v25 h26 n27 =>
 sFaddr 0 v4 fun v28 =>
 sLoad v28 h26 fun v29 =>
 sLen v29 fun v30 =>
 IR.run F205.b1 C N (fnO F205.res K0) (IR.run F205.b8 C N (fnO F205.res K0) (retK F205.res K0)) (F205.fr a0 a1 v1 v4 v7 v22 .undef .undef v29 v30 (I 0) .undef) h26 n27)))))))))))))))))))))))))))))))))))) := by
 rw [callFn_of F205.tab]; kernel_rfl
theorem F205.L1 (Inv : Nat → AV → T Blk → Pa → Prop) {m : Nat} (hm : m < N) (hi : Inv m x10 h nx)
  (step : ∀ (m : Nat) (z6 z7 z10 z11 : AV) (h : T Blk) (nx : Pa) (R : Ks Prop), Inv m z10 h nx → (∀ (m' : Nat) (w6 w7 w10 w11 : AV) (h' : T Blk) (nx' : Pa), m' < m → Inv m' w10 h' nx' → R (F205.fr x0 x1 x2 x3 x4 x5 w6 w7 x8 x9 w10 w11) h' nx' = .ok True) →
   (sBin .lss .int z10 x9 fun v1 =>
 sCond v1 (sIaddr 1 x8 z10 fun v2 =>
 sLoad v2 h fun v3 =>
 sFaddr 0 x5 fun v4 =>
 sLoad v4 h fun v5 =>
 sFaddr 0 x2 fun v6 =>
 sLoad v6 h fun v7 =>
 sIaddr 1 v7 v3 fun v8 =>
 sLoad v8 h fun v9 =>
 sIaddr 1 v5 z10 fun v10 =>
 sStore 1 v10 v9 h nx fun v11 h12 n13 =>
 sBin .add .int z10 (I 1) fun v14 =>
 R (F205.fr x0 x1 x2 x3 x4 x5 z10 v3 x8 x9 v14 v1) h12 n13) (K (F205.fr x0 x1 x2 x3 x4 x5 z6 z7 x8 x9 z10 v1) h nx)) = .ok True) :
  IR.run F205.b1 C N (fnO F205.res K0) K (F205.fr x0 x1 x2 x3 x4 x5 x6 x7 x8 x9 x10 x11) h nx = .ok True := by
 rw [F205.b1, F205.g1_eq, F205.b2]
 refine loop_ok (fun m tm h nx => ∃ z6 z7 z10 z11, tm = (F205.fr x0 x1 x2 x3 x4 x5 z6 z7 x8 x9 z10 z11) ∧ Inv m z10 h nx) ?_ hm ⟨_, _, _, _, rfl, hi⟩
 rintro m tm h nx R ⟨z6, z7, z10, z11, rfl, hi⟩ hR
 refine Eq.trans ?_ (step m z6 z7 z10 z11 h nx R hi fun m' w6 w7 w10 w11 h' nx' hlt hi' => hR m' _ h' nx' hlt ⟨_, _, _, _, rfl, hi'⟩)
 kernel_rfl
theorem F205.k8 : IR.run F205.b8 C N (fnO F205.res K0) K (F205.fr x0 x1 x2 x3 x4 x5 x6 x7 x8 x9 x10 x11) h nx =
 sLoadN 2 x5 h fun v1 =>
 sStore 2 x4 v1 h nx fun v2 h3 n4 =>
 sLoadN 2 x4 h3 fun v5 => K0 v5 h3 n4 := by kernel_rfl
theorem F213.tab : T.get none (.of 213) tbl = some F213 := by kernel_rfl
theorem F213.go : callFn tbl N C (.of 213) [a0] h nx K0 =
 C.fn 218 (.of 218) [a0] h nx fun v1 h2 n3 =>
 sBin .eql .int v1 (I 0) fun v4 =>
 K0 v4 h2 n3 := by
 rw [callFn_of F213.tab]; kernel_rfl
theorem F218.g2_eq (X3 : IR) (O : Outs Prop) (t : T AV) : IR.run (F218.g2 X3) C N O K t h nx = IR.run X3 C N (O.blk 0 K) K t h nx := by kernel_rfl
theorem F218.tab : T.get none (.of 218) tbl = some F218 := by kernel_rfl
theorem F218.go : callFn tbl N C (.of 218) [a0] h nx K0 =
 sLen a0 fun v1 =>
 sBin .gtr .int v1 (I 256) fun v2 =>
 sCond v2 (K0 (I 5) h nx) (sLen a0 fun v3 =>
 sMkslice 1 1 [(.bool false)] v3 v3 h nx fun v4 h5 n6 =>
 sLen a0 fun v7 =>
 IR.run F218.b2 C N (fnO F218.res K0) (IR.run F218.b10 C N (fnO F218.res K0) (retK F218.res K0)) (F218.fr a0 (I 0) v4 .undef v2 a0 v7 (I 0) .undef .undef) h5 n6) := by
 rw [callFn_of F218.tab]; kernel_rfl
theorem F218.L2 (Inv : Nat → AV → T Blk → Pa → Prop) {m : Nat} (hm : m < N) (hi : Inv m x7 h nx)
  (step : ∀ (m : Nat) (z1 z3 z7 z8 z9 : AV) (h : T Blk) (nx : Pa) (R : Ks Prop), Inv m z7 h nx → (∀ (m' : Nat) (w1 w3 w7 w8 w9 : AV) (h' : T Blk) (nx' : Pa), m' < m → Inv m' w7 h' nx' → R (F218.fr x0 w1 x2 w3 x4 x5 x6 w7 w8 w9) h' nx' = .ok True) →
   (sBin .lss .int z7 x6 fun v1 =>
 sCond v1 (sIaddr 1 x5 z7 fun v2 =>
 sLoad v2 h fun v3 =>
 sBin .lss .int v3 (I 0) fun v4 =>
 sG v4 false (fun k => k v3) fun v5 =>
 sG v4 false (fun k => k x0) fun v6 =>
 sG v4 false (fun k => sLen v6 k) fun v7 =>
 sG v4 false (fun k => sBin .geq .int v5 v7 k) fun v8 =>
 sPick v4 (.bool true) v8 fun v9 =>
 sG v9 false (fun k => k x2) fun v10 =>
 sG v9 false (fun k => k v3) fun v11 =>
 sG v9 false (fun k => sIaddr 1 v10 v11 k) fun v12 =>
 sG v9 false (fun k => sLoad v12 h k) fun v13 =>
 sPick v9 (.bool true) v13 fun v14 =>
 sCond v14 (K0 (I 14) h nx) ((IR.run F218.b8 C N (((fnO F218.res K0).blk 0 K).blk 1 (IR.run F218.b9 C N ((fnO F218.res K0).blk 0 K) R)) (IR.run F218.b9 C N ((fnO F218.res K0).blk 0 K) R)) (F218.fr x0 z1 x2 v3 x4 x5 x6 z7 v1 v14) h nx)) (K (F218.fr x0 z1 x2 z3 x4 x5 x6 z7 v1 z9) h nx)) = .ok True) :
  IR.run F218.b2 C N (fnO F218.res K0) K (F218.fr x0 x1 x2 x3 x4 x5 x6 x7 x8 x9) h nx = .ok True := by
 rw [F218.b2, F218.g2_eq, F218.b3]
 refine loop_ok (fun m tm h nx => ∃ z1 z3 z7 z8 z9, tm = (F218.fr x0 z1 x2 z3 x4 x5 x6 z7 z8 z9) ∧ Inv m z7 h nx) ?_ hm ⟨_, _, _, _, _, rfl, hi⟩
 rintro m tm h nx R ⟨z1, z3, z7, z8, z9, rfl, hi⟩ hR
 refine Eq.trans ?_ (step m z1 z3 z7 z8 z9 h nx R hi fun m' w1 w3 w7 w8 w9 h' nx' hlt hi' => hR m' _ h' nx' hlt ⟨_, _, _, _, _, rfl, hi'⟩)
 kernel_rfl
theorem F218.k10 : IR.run F218.b10 C N (fnO F218.res K0) K (F218.fr x0 x1 x2 x3 x4 x5 x6 x7 x8 x9) h nx =
 K0 (I 0) h nx := by kernel_rfl
theorem F218.k9 {E0 : Ks Prop} : IR.run F218.b9 C N ((fnO F218.res K0).blk 0 E0) K (F218.fr x0 x1 x2 x3 x4 x5 x6 x7 x8 x9) h nx =
 sBin .add .int x7 (I 1) fun v1 =>
 K (F218.fr x0 x1 x2 x3 x4 x5 x6 v1 x8 x9) h nx := by kernel_rfl
theorem F218.k8 {E0 E1 : Ks Prop} : IR.run F218.b8 C N (((fnO F218.res K0).blk 0 E0).blk 1 E1) K (F218.fr x0 x1 x2 x3 x4 x5 x6 x7 x8 x9) h nx =
 sIaddr 1 x2 x3 fun v1 =>
 sStore 1 v1 (.bool true) h nx fun v2 h3 n4 =>
 K (F218.fr x0 x1 x2 x3 x4 x5 x6 x7 x8 x9) h3 n4 := by kernel_rfl
theorem F181.g1_eq (X2 : IR) (O : Outs Prop) (t : T AV) : IR.run (F181.g1 X2) C N O K t h nx = IR.run X2 C N (O.blk 0 K) K t h nx := by kernel_rfl
theorem F181.tab : T.get none (.of 181) tbl = some F181 := by kernel_rfl
theorem F181.go : callFn tbl N C (.of 181) [a0] h nx K0 =
 sLen a0 fun v1 =>
 IR.run F181.b1 C N (fnO F181.res K0) (IR.run F181.b8 C N (fnO F181.res K0) (retK F181.res K0)) (F181.fr a0 (I 0) .undef a0 v1 (I 0) .undef .undef) h nx := by
 rw [callFn_of F181.tab]; kernel_rfl
theorem F181.L1 (Inv : Nat → AV → T Blk → Pa → Prop) {m : Nat} (hm : m < N) (hi : Inv m x5 h nx)
  (step : ∀ (m : Nat) (z1 z2 z5 z6 z7 : AV) (h : T Blk) (nx : Pa) (R : Ks Prop), Inv m z5 h nx → (∀ (m' : Nat) (w1 w2 w5 w6 w7 : AV) (h' : T Blk) (nx' : Pa), m' < m → Inv m' w5 h' nx' → R (F181.fr x0 w1 w2 x3 x4 w5 w6 w7) h' nx' = .ok True) →
   (sBin .lss .int z5 x4 fun v1 =>
 sCond v1 (sIaddr 1 x3 z5 fun v2 =>
 sLoad v2 h fun v3 =>
 sBin .neq .int v3 (I 0) fun v4 =>
 sCond v4 (K0 v3 h nx) (sBin .add .int z5 (I 1) fun v5 =>
 R (F181.fr x0 z1 v3 x3 x4 v5 v1 v4) h nx)) (K (F181.fr x0 z1 z2 x3 x4 z5 v1 z7) h nx)) = .ok True) :
  IR.run F181.b1 C N (fnO F181.res K0) K (F181.fr x0 x1 x2 x3 x4 x5 x6 x7) h nx = .ok True := by
 rw [F181.b1, F181.g1_eq, F181.b2]
 refine loop_ok (fun m tm h nx => ∃ z1 z2 z5 z6 z7, tm = (F181.fr x0 z1 z2 x3 x4 z5 z6 z7) ∧ Inv m z5 h nx) ?_ hm ⟨_, _, _, _, _, rfl, hi⟩
 rintro m tm h nx R ⟨z1, z2, z5, z6, z7, rfl, hi⟩ hR
 refine Eq.trans ?_ (step m z1 z2 z5 z6 z7 h nx R hi fun m' w1 w2 w5 w6 w7 h' nx' hlt hi' => hR m' _ h' nx' hlt ⟨_, _, _, _, _, rfl, hi'⟩)
 kernel_rfl
theorem F181.k8 : IR.run F181.b8 C N (fnO F181.res K0) K (F181.fr x0 x1 x2 x3 x4 x5 x6 x7) h nx =
 K0 (I 0) h nx := by kernel_rfl
theorem F182.tab : T.get none (.of 182) tbl = some F182 := by kernel_rfl
theorem F182.go : callFn tbl N C (.of 182) [a0] h nx K0 =
 sBin .lss .int a0 (I 0) fun v1 =>
 sG v1 false (fun k => k a0) fun v2 =>
 sG v1 false (fun k => sBin .gtr .int v2 (I 256) k) fun v3 =>
 sPick v1 (.bool true) v3 fun v4 =>
 C.fn 183 (.of 183) [v4, (I 3)] h nx fun v5 h6 n7 =>
 K0 v5 h6 n7 := by
 rw [callFn_of F182.tab]; kernel_rfl
theorem F183.tab : T.get none (.of 183) tbl = some F183 := by kernel_rfl
theorem F183.go : callFn tbl N C (.of 183) [a0, a1] h nx K0 =
 sCond a0 (K0 a1 h nx) (K0 (I 0) h nx) := by
 rw [callFn_of F183.tab]; kernel_rfl
end Go.Ev
namespace Go.Ev
open Go Go.Proofs
set_option maxRecDepth 100000
variable {N : Nat} {C : Calls Prop} {K0 : Kw Prop} {K R : Ks Prop} {h : T Blk} {nx : Pa} {x0 x1 x2 x3 x4 x5 x6 x7 x8 x9 x10 x11 x12 x13 x14 x15 x16 x17 x18 x19 x20 x21 x22 x23 x24 a0 a1 a2 : AV}
theorem F187.g13_eq (X14 : IR) (O : Outs Prop) (t : T AV) : IR.run (F187.g13 X14) C N O K t h nx = IR.run X14 C N (O.blk 4 K) K t h nx := by kernel_rfl
theorem F187.g7_eq (X8 : IR) (O : Outs Prop) (t : T AV) : IR.run (F187.g7 X8) C N O K t h nx = IR.run X8 C N (O.blk 2 K) K t h nx := by kernel_rfl
theorem F187.tab : T.get none (.of 187) tbl = some F187 := by kernel_rfl
theorem F187.go : callFn tbl N C (.of 187) [a0, a1, a2] h nx K0 =
 sBox a2 h nx fun v1 h2 n3 =>
 sAlloc [.nilm] h2 n3 fun v4 h5 n6 =>
 sAlloc [.nils] h5 n6 fun v7 h8 n9 =>
 sAlloc [(.bool false)] h8 n9 fun v10 h11 n12 =>
 C.fn 202 (.of 202) [a1] h11 n12 fun v13 h14 n15 =>
 sAlloc [.nils, (.bool false)] h14 n15 fun v16 h17 n18 =>
 sStore 2 v16 v13 h17 n18 fun v19 h20 n21 =>
 sChk (true && (true && true)) (sLoadN 2 v16 h20 fun v22 =>
 sLoadN 2 v16 h20 fun v23 =>
 C.fn 203 (.of 203) [v22] h20 n21 fun v24 h25 n26 =>
 (sLoadN 2 v16 h25 fun v52 => sSame v52 v23 ((sLoadN 2 v16 h25 fun v51 => sSame v51 v22 (sMkmap h25 n26 fun v27 h28 n29 =>
 (sLoadN 2 v16 h28 fun v50 => sSame v50 v23 ((sLoadN 2 v16 h28 fun v49 => sSame v49 v22 (sMapup .str v27 v24 v23 h28 n29 fun v30 h31 n32 =>
 (sLoadN 2 v16 h31 fun v48 => sSame v48 v23 ((sLoadN 2 v16 h31 fun v47 => sSame v47 v22 (sAlloc [.nilm] h31 n32 fun v33 h34 n35 =>
 sSame v27 v27 ((sLoadN 2 v16 h34 fun v46 => sSame v46 v23 ((sLoadN 2 v16 h34 fun v45 => sSame v45 v22 (sStore 1 v33 v27 h34 n35 fun v36 h37 n38 =>
 sAlloc [.nils] h37 n38 fun v39 h40 n41 =>
 C.fn 185 (.of 185) [a0] h40 n41 fun v42 h43 n44 =>
 IR.run (.rf (.t (.of 14)) [(.of 15), (.of 16)] F187.b3 F187.b4) C N ((fnO F187.res K0).blk 0 (IR.run F187.b23 C N (fnO F187.res K0) (retK F187.res K0))) (IR.run F187.b23 C N (fnO F187.res K0) (retK F187.res K0)) (F187.fr a0 a1 a2 v1 v4 v7 v10 v16 v33 v39 .undef .undef .undef .undef v42 .undef .undef .undef .undef .undef .undef .undef .undef .undef .undef) h43 n44)))))))))))))))))) := by
 rw [callFn_of F187.tab]; kernel_rfl
theorem F187.k23 : IR.run F187.b23 C N (fnO F187.res K0) K (F187.fr x0 x1 x2 x3 x4 x5 x6 x7 x8 x9 x10 x11 x12 x13 x14 x15 x16 x17 x18 x19 x20 x21 x22 x23 x24) h nx =
 sLoad x8 h fun v1 =>
 sLoad x9 h fun v2 =>
 sStore 1 x4 v1 h nx fun v3 h4 n5 =>
 (sLoad x9 h4 fun v15 => sSame v15 v2 (sStore 1 x5 v2 h4 n5 fun v6 h7 n8 =>
 sStore 1 x6 (.bool true) h7 n8 fun v9 h10 n11 =>
 sLoad x4 h10 fun v12 => sLoad x5 h10 fun v13 => sLoad x6 h10 fun v14 => K0 (.tup [v12, v13, v14]) h10 n11)) := by kernel_rfl
theorem F187.p4 {N : Nat} {C : Calls Prop} {K0 : Kw Prop} {id nx : Pa} {j : Jump} {h : T Blk} {x0 x1 x2 x3 x4 x5 x6 x7 x8 x9 x10 x11 x12 x13 x14 x15 x16 x17 x18 x19 x20 x21 x22 x23 x24 z0 z1 : AV} (hl : T.get .no id h = .loop .ready j (F187.fr x0 x1 x2 x3 x4 x5 x6 x7 x8 x9 x10 x11 x12 x13 x14 x15 x16 x17 x18 x19 x20 x21 x22 x23 x24) [.of 15, .of 16] F187.b3 F187.b4) :
 callYld N C id [z0, z1] h nx K0 =
 sAlloc [.nils, (.bool false)] h nx fun v1 h2 n3 =>
 sStore 2 v1 z1 h2 n3 fun v4 h5 n6 =>
 rMid N C id K0 F187.b4 (F187.fr x0 x1 x2 x3 x4 x5 x6 x7 x8 x9 v1 x11 x12 x13 x14 z0 z1 x17 x18 x19 x20 x21 x22 x23 x24) h5 n6 := by
 rw [rnd_gen hl (tm1 := (F187.fr x0 x1 x2 x3 x4 x5 x6 x7 x8 x9 x10 x11 x12 x13 x14 z0 z1 x17 x18 x19 x20 x21 x22 x23 x24)) (by intro k; kernel_rfl)]; kernel_rfl
theorem F187.y4 {N : Nat} {C : Calls Prop} {K0 : Kw Prop} {id nx : Pa} {h : T Blk} {x0 x1 x2 x3 x4 x5 x6 x7 x8 x9 x10 x11 x12 x13 x14 x15 x16 x17 x18 x19 x20 x21 x22 x23 x24 : AV} :
 IR.run F187.b4 C N (rO id K0) (roundEnd id K0 .none true) (F187.fr x0 x1 x2 x3 x4 x5 x6 x7 x8 x9 x10 x11 x12 x13 x14 x15 x16 x17 x18 x19 x20 x21 x22 x23 x24) h nx =
 sLoad x8 h fun v1 =>
 sLoadN 2 x10 h fun v2 =>
 C.fn 204 (.of 204) [v1, v2] h nx fun v3 h4 n5 =>
 sCond v3 (roundEnd id K0 .none true .e h4 n5) (sLoad x9 h4 fun v6 =>
 sLoadN 2 x10 h4 fun v7 =>
 sBslice 2 1 [.nils, (.bool false)] [(0, 2, v7)] h4 n5 fun v8 h9 n10 =>
 sAppq C 2 32 v6 v8 h9 n10 fun v11 h12 n13 =>
 sStore 1 x9 v11 h12 n13 fun v14 h15 n16 =>
 sChk (true && true) (sLoadN 2 x7 h15 fun v17 =>
 sLoadN 2 x7 h15 fun v18 =>
 C.fn 203 (.of 203) [v17] h15 n16 fun v19 h20 n21 =>
 (sLoadN 2 x7 h20 fun v38 => sSame v38 v18 ((sLoadN 2 x7 h20 fun v37 => sSame v37 v17 (sMkmap h20 n21 fun v22 h23 n24 =>
 (sLoadN 2 x7 h23 fun v36 => sSame v36 v18 ((sLoadN 2 x7 h23 fun v35 => sSame v35 v17 (sMapup .str v22 v19 v18 h23 n24 fun v25 h26 n27 =>
 sStore 1 x8 v22 h26 n27 fun v28 h29 n30 =>
 sLoadN 2 x7 h29 fun v31 =>
 sBslice 2 1 [.nils, (.bool false)] [(0, 2, v31)] h29 n30 fun v32 h33 n34 =>
 IR.run F187.b7 C N ((rO id K0).blk 1 (roundEnd id K0 .none true)) (roundEnd id K0 .none true) (F187.fr x0 x1 x2 x3 x4 x5 x6 x7 x8 x9 x10 v32 x12 x13 x14 x15 x16 v3 x18 x19 x20 x21 x22 x23 x24) h33 n34)))))))))) := by kernel_rfl
theorem F187.L7 {id : Pa} {E1 : Ks Prop} (Inv : Nat → AV → T Blk → Pa → Prop) {m : Nat} (hm : m < N) (hi : Inv m x11 h nx)
  (step : ∀ (m : Nat) (z11 z12 z13 z18 z19 z20 z21 z22 z23 z24 : AV) (h : T Blk) (nx : Pa) (R : Ks Prop), Inv m z11 h nx → (∀ (m' : Nat) (w11 w12 w13 w18 w19 w20 w21 w22 w23 w24 : AV) (h' : T Blk) (nx' : Pa), m' < m → Inv m' w11 h' nx' → R (F187.fr x0 x1 x2 x3 x4 x5 x6 x7 x8 x9 x10 w11 w12 w13 x14 x15 x16 x17 w18 w19 w20 w21 w22 w23 w24) h' nx' = .ok True) →
   (sLen z11 fun v1 =>
 sBin .gtr .int v1 (I 0) fun v2 =>
 sCond v2 (sLoad x9 h fun v3 =>
 sLen v3 fun v4 =>
 IR.run F187.b13 C N ((((rO id K0).blk 1 E1).blk 2 K).blk 3 (IR.run F187.b22 C N (((rO id K0).blk 1 E1).blk 2 K) R)) (IR.run F187.b22 C N (((rO id K0).blk 1 E1).blk 2 K) R) (F187.fr x0 x1 x2 x3 x4 x5 x6 x7 x8 x9 x10 z11 z12 z13 x14 x15 x16 x17 v2 v3 v4 (I 0) z22 z23 z24) h nx) (K (F187.fr x0 x1 x2 x3 x4 x5 x6 x7 x8 x9 x10 z11 z12 z13 x14 x15 x16 x17 v2 z19 z20 z21 z22 z23 z24) h nx)) = .ok True) :
  IR.run F187.b7 C N ((rO id K0).blk 1 E1) K (F187.fr x0 x1 x2 x3 x4 x5 x6 x7 x8 x9 x10 x11 x12 x13 x14 x15 x16 x17 x18 x19 x20 x21 x22 x23 x24) h nx = .ok True := by
 rw [F187.b7, F187.g7_eq, F187.b8]
 refine loop_ok (fun m tm h nx => ∃ z11 z12 z13 z18 z19 z20 z21 z22 z23 z24, tm = (F187.fr x0 x1 x2 x3 x4 x5 x6 x7 x8 x9 x10 z11 z12 z13 x14 x15 x16 x17 z18 z19 z20 z21 z22 z23 z24) ∧ Inv m z11 h nx) ?_ hm ⟨_, _, _, _, _, _, _, _, _, _, rfl, hi⟩
 rintro m tm h nx R ⟨z11, z12, z13, z18, z19, z20, z21, z22, z23, z24, rfl, hi⟩ hR
 refine Eq.trans ?_ (step m z11 z12 z13 z18 z19 z20 z21 z22 z23 z24 h nx R hi fun m' w11 w12 w13 w18 w19 w20 w21 w22 w23 w24 h' nx' hlt hi' => hR m' _ h' nx' hlt ⟨_, _, _, _, _, _, _, _, _, _, rfl, hi'⟩)
 kernel_rfl
theorem F187.k22 {id : Pa} {E1 E2 : Ks Prop} : IR.run F187.b22 C N (((rO id K0).blk 1 E1).blk 2 E2) K (F187.fr x0 x1 x2 x3 x4 x5 x6 x7 x8 x9 x10 x11 x12 x13 x14 x15 x16 x17 x18 x19 x20 x21 x22 x23 x24) h nx =
 sSlice 2 x11 (some (I 1)) none none fun v1 =>
 K (F187.fr x0 x1 x2 x3 x4 x5 x6 x7 x8 x9 x10 v1 x12 x13 x14 x15 x16 x17 x18 x19 x20 x21 x22 x23 x24) h nx := by kernel_rfl
theorem F187.L13 {id : Pa} {E1 E2 E3 : Ks Prop} (Inv : Nat → AV → AV → T Blk → Pa → Prop) {m : Nat} (hm : m < N) (hi : Inv m x11 x21 h nx)
  (step : ∀ (m : Nat) (z11 z12 z13 z21 z22 z23 z24 : AV) (h : T Blk) (nx : Pa) (R : Ks Prop), Inv m z11 z21 h nx → (∀ (m' : Nat) (w11 w12 w13 w21 w22 w23 w24 : AV) (h' : T Blk) (nx' : Pa), m' < m → Inv m' w11 w21 h' nx' → R (F187.fr x0 x1 x2 x3 x4 x5 x6 x7 x8 x9 x10 w11 w12 w13 x14 x15 x16 x17 x18 x19 x20 w21 w22 w23 w24) h' nx' = .ok True) →
   (sBin .lss .int z21 x20 fun v1 =>
 sCond v1 (sIaddr 2 x19 z21 fun v2 =>
 sLoadN 2 v2 h fun v3 =>
 sAlloc [.nils, (.bool false)] h nx fun v4 h5 n6 =>
 sStore 2 v4 v3 h5 n6 fun v7 h8 n9 =>
 sChk (true && true) (sLoadN 2 v4 h8 fun v10 =>
 sIaddr 2 z11 (I 0) fun v11 =>
 sLoadN 2 v11 h8 fun v12 =>
 C.fn 205 (.of 205) [v10, v12] h8 n9 fun v13 h14 n15 =>
 (sLoadN 2 v11 h14 fun v65 => sSame v65 v12 ((sIaddr 2 z11 (I 0) fun v64 => sSame v64 v11 (sSame z11 z11 ((sLoadN 2 v4 h14 fun v63 => sSame v63 v10 (sAlloc [.nils, (.bool false)] h14 n15 fun v16 h17 n18 =>
 (sLoadN 2 v11 h17 fun v62 => sSame v62 v12 ((sIaddr 2 z11 (I 0) fun v61 => sSame v61 v11 (sSame z11 z11 ((sLoadN 2 v4 h17 fun v60 => sSame v60 v10 (sStore 2 v16 v13 h17 n18 fun v19 h20 n21 =>
 sLoad x8 h20 fun v22 =>
 sLoadN 2 v16 h20 fun v23 =>
 C.fn 204 (.of 204) [v22, v23] h20 n21 fun v24 h25 n26 =>
 sCond v24 (sBin .add .int z21 (I 1) fun v27 =>
 R (F187.fr x0 x1 x2 x3 x4 x5 x6 x7 x8 x9 x10 z11 v4 v16 x14 x15 x16 x17 x18 x19 x20 v27 v1 v24 z24) h25 n26) (sLoad x8 h25 fun v28 =>
 sMlen v28 h25 fun v29 =>
 sLoad x3 h25 fun v30 =>
 sBin .eql .int v29 v30 fun v31 =>
 sCond v31 (sStore 1 x4 .nilm h25 n26 fun v32 h33 n34 =>
 sStore 1 x5 .nils h33 n34 fun v35 h36 n37 =>
 sStore 1 x6 (.bool false) h36 n37 fun v38 h39 n40 =>
 roundEnd id K0 .ret false .e h39 n40) (sLoad x8 h25 fun v41 =>
 sLoadN 2 v16 h25 fun v42 =>
 sLoadN 2 v16 h25 fun v43 =>
 C.fn 203 (.of 203) [v42] h25 n26 fun v44 h45 n46 =>
 (sLoadN 2 v16 h45 fun v59 => sSame v59 v43 ((sLoad x8 h45 fun v58 => sSame v58 v41 (sMapup .str v41 v44 v43 h45 n46 fun v47 h48 n49 =>
 sLoadN 2 v16 h48 fun v50 =>
 sBslice 2 1 [.nils, (.bool false)] [(0, 2, v50)] h48 n49 fun v51 h52 n53 =>
 sAppq C 2 32 z11 v51 h52 n53 fun v54 h55 n56 =>
 sBin .add .int z21 (I 1) fun v57 =>
 R (F187.fr x0 x1 x2 x3 x4 x5 x6 x7 x8 x9 x10 v54 v4 v16 x14 x15 x16 x17 x18 x19 x20 v57 v1 v24 v31) h55 n56)))))))))))))))))))))) (K (F187.fr x0 x1 x2 x3 x4 x5 x6 x7 x8 x9 x10 z11 z12 z13 x14 x15 x16 x17 x18 x19 x20 z21 v1 z23 z24) h nx)) = .ok True) :
  IR.run F187.b13 C N ((((rO id K0).blk 1 E1).blk 2 E2).blk 3 E3) K (F187.fr x0 x1 x2 x3 x4 x5 x6 x7 x8 x9 x10 x11 x12 x13 x14 x15 x16 x17 x18 x19 x20 x21 x22 x23 x24) h nx = .ok True := by
 rw [F187.b13, F187.g13_eq, F187.b14]
 refine loop_ok (fun m tm h nx => ∃ z11 z12 z13 z21 z22 z23 z24, tm = (F187.fr x0 x1 x2 x3 x4 x5 x6 x7 x8 x9 x10 z11 z12 z13 x14 x15 x16 x17 x18 x19 x20 z21 z22 z23 z24) ∧ Inv m z11 z21 h nx) ?_ hm ⟨_, _, _, _, _, _, _, rfl, hi⟩
 rintro m tm h nx R ⟨z11, z12, z13, z21, z22, z23, z24, rfl, hi⟩ hR
 refine Eq.trans ?_ (step m z11 z12 z13 z21 z22 z23 z24 h nx R hi fun m' w11 w12 w13 w21 w22 w23 w24 h' nx' hlt hi' => hR m' _ h' nx' hlt ⟨_, _, _, _, _, _, _, rfl, hi'⟩)
 kernel_rfl
end Go.Ev
namespace Go.Ev
open Go Go.Proofs
set_option maxRecDepth 100000
variable {N : Nat} {C : Calls Prop} {K0 : Kw Prop} {K R : Ks Prop} {h : T Blk} {nx : Pa} {x0 x1 x2 x3 x4 x5 x6 x7 x8 x9 x10 x11 x12 x13 x14 x15 x16 x17 x18 x19 a0 a1 : AV}
theorem F167.tab : T.get none (.of 167) tbl = some F167 := by kernel_rfl
theorem F167.go : callFn tbl N C (.of 167) [a0, a1] h nx K0 =
 sBox a0 h nx fun v1 h2 n3 =>
 sAlloc [.nilm] h2 n3 fun v4 h5 n6 =>
 sAlloc [.nils] h5 n6 fun v7 h8 n9 =>
 sAlloc [(I 0)] h8 n9 fun v10 h11 n12 =>
 sLoad v1 h11 fun v13 =>
 sLen v13 fun v14 =>
 sBin .eql .int v14 (I 0) fun v15 =>
 sLoad v1 h11 fun v16 =>
 sLen v16 fun v17 =>
 sBin .gtr .int v17 (I 1536) fun v18 =>
 C.fn 182 (.of 182) [a1] h11 n12 fun v19 h20 n21 =>
 (sBin .gtr .int v17 (I 1536) fun v76 => sSame v76 v18 ((sLen v16 fun v75 => sSame v75 v17 ((sLoad v1 h20 fun v74 => sSame v74 v16 ((sBin .eql .int v14 (I 0) fun v73 => sSame v73 v15 ((sLen v13 fun v72 => sSame v72 v14 ((sLoad v1 h20 fun v71 => sSame v71 v13 (C.fn 183 (.of 183) [v15, (I 12)] h20 n21 fun v22 h23 n24 =>
 (sBin .gtr .int v17 (I 1536) fun v70 => sSame v70 v18 ((sLen v16 fun v69 => sSame v69 v17 ((sLoad v1 h23 fun v68 => sSame v68 v16 (C.fn 183 (.of 183) [v18, (I 5)] h23 n24 fun v25 h26 n27 =>
 sBslice 1 3 [(I 0)] [(0, 1, v19), (1, 1, v22), (2, 1, v25)] h26 n27 fun v28 h29 n30 =>
 C.fn 181 (.of 181) [v28] h29 n30 fun v31 h32 n33 =>
 sBin .neq .int v31 (I 0) fun v34 =>
 sCond v34 (sStore 1 v4 .nilm h32 n33 fun v35 h36 n37 =>
 sStore 1 v7 .nils h36 n37 fun v38 h39 n40 =>
 sStore 1 v10 v31 h39 n40 fun v41 h42 n43 =>
 sLoad v4 h42 fun v44 => sLoad v7 h42 fun v45 => sLoad v10 h42 fun v46 => K0 (.tup [v44, v45, v46]) h42 n43) (sLoad v1 h32 fun v47 =>
 C.fn 184 (.of 184) [v47, a1] h32 n33 fun v48 h49 n50 =>
 sBin .neq .int v48 (I 0) fun v51 =>
 sCond v51 (sStore 1 v4 .nilm h49 n50 fun v52 h53 n54 =>
 sStore 1 v7 .nils h53 n54 fun v55 h56 n57 =>
 sStore 1 v10 v48 h56 n57 fun v58 h59 n60 =>
 sLoad v4 h59 fun v61 => sLoad v7 h59 fun v62 => sLoad v10 h59 fun v63 => K0 (.tup [v61, v62, v63]) h59 n60) (sLoad v1 h49 fun v64 =>
 C.fn 185 (.of 185) [v64] h49 n50 fun v65 h66 n67 =>
 IR.run (.rf (.t (.of 15)) [(.of 16), (.of 17)] F167.b5 F167.b6) C N ((fnO F167.res K0).blk 0 (IR.run F167.b8 C N (fnO F167.res K0) (retK F167.res K0))) (IR.run F167.b8 C N (fnO F167.res K0) (retK F167.res K0)) (F167.fr a0 a1 v1 v4 v7 v10 v31 v48 .undef .undef .undef .undef .undef v34 v51 v65 .undef .undef .undef .undef) h66 n67)))))))))))))))))))) := by
 rw [callFn_of F167.tab]; kernel_rfl
theorem F167.k8 : IR.run F167.b8 C N (fnO F167.res K0) K (F167.fr x0 x1 x2 x3 x4 x5 x6 x7 x8 x9 x10 x11 x12 x13 x14 x15 x16 x17 x18 x19) h nx =
 sLoad x2 h fun v1 =>
 sLoad x2 h fun v2 =>
 sLen v2 fun v3 =>
 C.fn 187 (.of 187) [v1, x1, v3] h nx fun v4 h5 n6 =>
 sExt 0 v4 fun v7 =>
 sExt 1 v4 fun v8 =>
 sExt 2 v4 fun v9 =>
 sNot v9 fun v10 =>
 sG v10 false (fun k => k v7) fun v11 =>
 sG v10 false (fun k => sMlen v11 h5 k) fun v12 =>
 sG v10 false (fun k => sLoad x2 h5 k) fun v13 =>
 sG v10 false (fun k => sLen v13 k) fun v14 =>
 sG v10 false (fun k => sBin .neq .int v12 v14 k) fun v15 =>
 sPick v10 (.bool true) v15 fun v16 =>
 sCond v16 (sStore 1 x3 .nilm h5 n6 fun v17 h18 n19 =>
 sStore 1 x4 .nils h18 n19 fun v20 h21 n22 =>
 sStore 1 x5 (I 28) h21 n22 fun v23 h24 n25 =>
 sLoad x3 h24 fun v26 => sLoad x4 h24 fun v27 => sLoad x5 h24 fun v28 => K0 (.tup [v26, v27, v28]) h24 n25) ((IR.run F167.b9 C N (fnO F167.res K0) K) (F167.fr x0 x1 x2 x3 x4 x5 x6 x7 x8 x9 v7 v8 v9 x13 x14 x15 x16 x17 x18 v16) h5 n6) := by kernel_rfl
theorem F167.p6 {N : Nat} {C : Calls Prop} {K0 : Kw Prop} {id nx : Pa} {j : Jump} {h : T Blk} {x0 x1 x2 x3 x4 x5 x6 x7 x8 x9 x10 x11 x12 x13 x14 x15 x16 x17 x18 x19 z0 z1 : AV} (hl : T.get .no id h = .loop .ready j (F167.fr x0 x1 x2 x3 x4 x5 x6 x7 x8 x9 x10 x11 x12 x13 x14 x15 x16 x17 x18 x19) [.of 16, .of 17] F167.b5 F167.b6) :
 callYld N C id [z0, z1] h nx K0 =
 sAlloc [.nils, (.bool false)] h nx fun v1 h2 n3 =>
 sStore 2 v1 z1 h2 n3 fun v4 h5 n6 =>
 rMid N C id K0 F167.b6 (F167.fr x0 x1 x2 x3 x4 x5 x6 x7 z0 v1 x10 x11 x12 x13 x14 x15 z0 z1 x18 x19) h5 n6 := by
 rw [rnd_gen hl (tm1 := (F167.fr x0 x1 x2 x3 x4 x5 x6 x7 x8 x9 x10 x11 x12 x13 x14 x15 z0 z1 x18 x19)) (by intro k; kernel_rfl)]; kernel_rfl
theorem F167.y6 {N : Nat} {C : Calls Prop} {K0 : Kw Prop} {id nx : Pa} {h : T Blk} {x0 x1 x2 x3 x4 x5 x6 x7 x8 x9 x10 x11 x12 x13 x14 x15 x16 x17 x18 x19 : AV} :
 IR.run F167.b6 C N (rO id K0) (roundEnd id K0 .none true) (F167.fr x0 x1 x2 x3 x4 x5 x6 x7 x8 x9 x10 x11 x12 x13 x14 x15 x16 x17 x18 x19) h nx =
 sBin .gtr .int x8 (I 0) fun v1 =>
 sG v1 true (fun k => sLoad x2 h k) fun v2 =>
 sG v1 true (fun k => k x8) fun v3 =>
 sG v1 true (fun k => sBin .sub .int v3 (I 1) k) fun v4 =>
 sG v1 true (fun k => sIaddr 2 v2 v4 k) fun v5 =>
 sG v1 true (fun k => sLoadN 2 v5 h k) fun v6 =>
 sG v1 true (fun k => sLoadN 2 x9 h k) fun v7 =>
 sGW v1 true (fun k => C.fn 186 (.of 186) [v6, v7] h nx k) h nx fun v8 h9 n10 =>
 sG v1 true (fun k => sBin .geq .int v8 (I 0) k) fun v11 =>
 sPick v1 v11 (.bool false) fun v12 =>
 sCond v12 (sStore 1 x3 .nilm h9 n10 fun v13 h14 n15 =>
 sStore 1 x4 .nils h14 n15 fun v16 h17 n18 =>
 sStore 1 x5 (I 11) h17 n18 fun v19 h20 n21 =>
 roundEnd id K0 .ret false .e h20 n21) (roundEnd id K0 .none true .e h9 n10) := by kernel_rfl
theorem F167.k9 : IR.run F167.b9 C N (fnO F167.res K0) K (F167.fr x0 x1 x2 x3 x4 x5 x6 x7 x8 x9 x10 x11 x12 x13 x14 x15 x16 x17 x18 x19) h nx =
 sStore 1 x3 x10 h nx fun v1 h2 n3 =>
 sStore 1 x4 x11 h2 n3 fun v4 h5 n6 =>
 sStore 1 x5 (I 0) h5 n6 fun v7 h8 n9 =>
 sLoad x3 h8 fun v10 => sLoad x4 h8 fun v11 => sLoad x5 h8 fun v12 => K0 (.tup [v10, v11, v12]) h8 n9 := by kernel_rfl
end Go.Ev
namespace Go.Ev
open Go Go.Proofs
set_option maxRecDepth 100000
variable {N : Nat} {C : Calls Prop} {K0 : Kw Prop} {K R : Ks Prop} {h : T Blk} {nx : Pa} {x0 x1 x2 x3 x4 x5 x6 x7 x8 x9 x10 x11 x12 x13 x14 x15 x16 a0 a1 : AV}
theorem F12.g4_eq (X5 : IR) (O : Outs Prop) (t : T AV) : IR.run (F12.g4 X5) C N O K t h nx = IR.run X5 C N (O.blk 0 K) K t h nx := by kernel_rfl
theorem F12.tab : T.get none (.of 12) tbl = some F12 := by kernel_rfl
theorem F12.go : callFn tbl N C (.of 12) [a0, a1] h nx K0 =
 C.fn 55 (.of 55) [a0, a1] h nx fun v1 h2 n3 =>
 sCond v1 (C.fn 18 (.of 18) [] h2 n3 fun v4 h5 n6 =>
 K0 v4 h5 n6) (C.fn 56 (.of 56) [a0, a1] h2 n3 fun v7 h8 n9 =>
 sExt 0 v7 fun v10 =>
 sExt 1 v7 fun v11 =>
 C.fn 57 (.of 57) [a0, a1] h8 n9 fun v12 h13 n14 =>
 sExt 0 v12 fun v15 =>
 sExt 1 v12 fun v16 =>
 C.fn 58 (.of 58) [a0, a1] h13 n14 fun v17 h18 n19 =>
 sExt 0 v17 fun v20 =>
 sExt 1 v17 fun v21 =>
 C.fn 59 (.of 59) [a0, a1] h18 n19 fun v22 h23 n24 =>
 sBin .neq .int v22 (I 0) fun v25 =>
 sCond v25 (sLen v10 fun v26 =>
 sLen v15 fun v27 =>
 sBin .add .int v26 v27 fun v28 =>
 sBin .add .int v28 v20 fun v29 =>
 sBin .eql .int v29 (I 0) fun v30 =>
 sG v30 true (fun k => k v11) fun v31 =>
 sG v30 true (fun k => k v22) fun v32 =>
 sG v30 true (fun k => sBin .eql .int v31 v32 k) fun v33 =>
 sPick v30 v33 (.bool false) fun v34 =>
 sG v34 true (fun k => k v16) fun v35 =>
 sG v34 true (fun k => k v22) fun v36 =>
 sG v34 true (fun k => sBin .eql .int v35 v36 k) fun v37 =>
 sPick v34 v37 (.bool false) fun v38 =>
 sG v38 true (fun k => k v21) fun v39 =>
 sG v38 true (fun k => k v22) fun v40 =>
 sG v38 true (fun k => sBin .eql .int v39 v40 k) fun v41 =>
 sPick v38 v41 (.bool false) fun v42 =>
 sGW v42 true (fun k => C.fn 18 (.of 18) [] h23 n24 k) h23 n24 fun v43 h44 n45 =>
 sPick v42 v43 (.bool false) fun v46 =>
 K0 v46 h44 n45) ((IR.run F12.b2 C N (fnO F12.res K0) (retK F12.res K0)) (F12.fr a0 a1 (.bool false) v10 v11 v15 v16 v20 v21 v22 .undef .undef v1 v25 .undef .undef .undef) h23 n24)) := by
 rw [callFn_of F12.tab]; kernel_rfl
theorem F12.k2 : IR.run F12.b2 C N (fnO F12.res K0) K (F12.fr x0 x1 x2 x3 x4 x5 x6 x7 x8 x9 x10 x11 x12 x13 x14 x15 x16) h nx =
 C.fn 60 (.of 60) [x0, x1] h nx fun v1 h2 n3 =>
 sBin .add .int x4 x6 fun v4 =>
 sBin .add .int v4 x8 fun v5 =>
 sBin .neq .int v5 (I 0) fun v6 =>
 sG v6 false (fun k => k x3) fun v7 =>
 sG v6 false (fun k => sLen v7 k) fun v8 =>
 sG v6 false (fun k => k v1) fun v9 =>
 sG v6 false (fun k => sLen v9 k) fun v10 =>
 sG v6 false (fun k => sBin .neq .int v8 v10 k) fun v11 =>
 sPick v6 (.bool true) v11 fun v12 =>
 sG v12 false (fun k => k x7) fun v13 =>
 sG v12 false (fun k => k v1) fun v14 =>
 sG v12 false (fun k => sLen v14 k) fun v15 =>
 sG v12 false (fun k => sBin .neq .int v13 v15 k) fun v16 =>
 sPick v12 (.bool true) v16 fun v17 =>
 sG v17 false (fun k => k x5) fun v18 =>
 sG v17 false (fun k => k x0) fun v19 =>
 sG v17 false (fun k => k x1) fun v20 =>
 sGW v17 false (fun k => C.fn 61 (.of 61) [v19, v20] h2 n3 k) h2 n3 fun v21 h22 n23 =>
 sGW v17 false (fun k => C.fn 35 (.of 35) [v18, v21] h22 n23 k) h22 n23 fun v24 h25 n26 =>
 sG v17 false (fun k => sNot v24 k) fun v27 =>
 sPick v17 (.bool true) v27 fun v28 =>
 sCond v28 (K0 (.bool false) h25 n26) ((IR.run F12.b3 C N (fnO F12.res K0) K) (F12.fr x0 x1 x2 x3 x4 x5 x6 x7 x8 x9 v1 x11 x12 x13 v28 x15 x16) h25 n26) := by kernel_rfl
theorem F12.k3 : IR.run F12.b3 C N (fnO F12.res K0) K (F12.fr x0 x1 x2 x3 x4 x5 x6 x7 x8 x9 x10 x11 x12 x13 x14 x15 x16) h nx =
 IR.run F12.b4 C N (fnO F12.res K0) (IR.run F12.b11 C N (fnO F12.res K0) K) (F12.fr x0 x1 x2 x3 x4 x5 x6 x7 x8 x9 x10 (I 0) x12 x13 x14 x15 x16) h nx := by kernel_rfl
theorem F12.L4 (Inv : Nat → AV → T Blk → Pa → Prop) {m : Nat} (hm : m < N) (hi : Inv m x11 h nx)
  (step : ∀ (m : Nat) (z2 z11 z15 z16 : AV) (h : T Blk) (nx : Pa) (R : Ks Prop), Inv m z11 h nx → (∀ (m' : Nat) (w2 w11 w15 w16 : AV) (h' : T Blk) (nx' : Pa), m' < m → Inv m' w11 h' nx' → R (F12.fr x0 x1 w2 x3 x4 x5 x6 x7 x8 x9 x10 w11 x12 x13 x14 w15 w16) h' nx' = .ok True) →
   (sLen x3 fun v1 =>
 sBin .lss .int z11 v1 fun v2 =>
 sCond v2 (sIaddr 2 x3 z11 fun v3 =>
 sFaddr 1 v3 fun v4 =>
 sLoad v4 h fun v5 =>
 sIaddr 2 x10 z11 fun v6 =>
 sFaddr 1 v6 fun v7 =>
 sLoad v7 h fun v8 =>
 sBin .neq .int v5 v8 fun v9 =>
 sG v9 false (fun k => k x3) fun v10 =>
 sG v9 false (fun k => k z11) fun v11 =>
 sG v9 false (fun k => sIaddr 2 v10 v11 k) fun v12 =>
 sG v9 false (fun k => sFaddr 0 v12 k) fun v13 =>
 sG v9 false (fun k => sLoad v13 h k) fun v14 =>
 sG v9 false (fun k => k x10) fun v15 =>
 sG v9 false (fun k => k z11) fun v16 =>
 sG v9 false (fun k => sIaddr 2 v15 v16 k) fun v17 =>
 sG v9 false (fun k => sFaddr 0 v17 k) fun v18 =>
 sG v9 false (fun k => sLoad v18 h k) fun v19 =>
 sGW v9 false (fun k => C.fn 35 (.of 35) [v14, v19] h nx k) h nx fun v20 h21 n22 =>
 sG v9 false (fun k => sNot v20 k) fun v23 =>
 sPick v9 (.bool true) v23 fun v24 =>
 sCond v24 (K0 (.bool false) h21 n22) (sBin .add .int z11 (I 1) fun v25 =>
 R (F12.fr x0 x1 z2 x3 x4 x5 x6 x7 x8 x9 x10 v25 x12 x13 x14 v2 v24) h21 n22)) (K (F12.fr x0 x1 z2 x3 x4 x5 x6 x7 x8 x9 x10 z11 x12 x13 x14 v2 z16) h nx)) = .ok True) :
  IR.run F12.b4 C N (fnO F12.res K0) K (F12.fr x0 x1 x2 x3 x4 x5 x6 x7 x8 x9 x10 x11 x12 x13 x14 x15 x16) h nx = .ok True := by
 rw [F12.b4, F12.g4_eq, F12.b5]
 refine loop_ok (fun m tm h nx => ∃ z2 z11 z15 z16, tm = (F12.fr x0 x1 z2 x3 x4 x5 x6 x7 x8 x9 x10 z11 x12 x13 x14 z15 z16) ∧ Inv m z11 h nx) ?_ hm ⟨_, _, _, _, rfl, hi⟩
 rintro m tm h nx R ⟨z2, z11, z15, z16, rfl, hi⟩ hR
 refine Eq.trans ?_ (step m z2 z11 z15 z16 h nx R hi fun m' w2 w11 w15 w16 h' nx' hlt hi' => hR m' _ h' nx' hlt ⟨_, _, _, _, rfl, hi'⟩)
 kernel_rfl
theorem F12.k11 : IR.run F12.b11 C N (fnO F12.res K0) K (F12.fr x0 x1 x2 x3 x4 x5 x6 x7 x8 x9 x10 x11 x12 x13 x14 x15 x16) h nx =
 C.fn 18 (.of 18) [] h nx fun v1 h2 n3 =>
 K0 v1 h2 n3 := by kernel_rfl
end Go.Ev
namespace Go.Ev
open Go Go.Proofs
set_option maxRecDepth 100000
variable {N : Nat} {C : Calls Prop} {K0 : Kw Prop} {K R : Ks Prop} {h : T Blk} {nx : Pa} {x0 x1 x2 x3 x4 x5 x6 x7 x8 x9 x10 x11 x12 x13 x14 x15 x16 x17 x18 x19 x20 a0 a1 : AV}
end Go.Ev
