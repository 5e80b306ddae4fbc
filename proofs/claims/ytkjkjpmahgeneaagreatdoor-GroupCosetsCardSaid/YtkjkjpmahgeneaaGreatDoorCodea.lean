import Derived.Test.YtkjkjpmahgeneaaGreatDoorIrT
import Derived.KernelRfl
import Derived.Test.YtkjkjpmahgeneaaGreatDoorEvD
set_option linter.unusedSimpArgs false
set_option linter.unusedVariables false
namespace Go.Ev
open Go Go.Proofs
set_option maxRecDepth 100000
variable {N : Nat} {C : Calls Prop} {K0 : Kw Prop} {K R : Ks Prop} {h : T Blk} {nx : Pa} {a b e f d g i a0 a1 a2 : AV}
theorem F93.g2_eq (X3 : IR) (O : Outs Prop) (t : T AV) : IR.run (F93.g2 X3) C N O K t h nx = IR.run X3 C N (O.blk 0 K) K t h nx := by kernel_rfl
theorem F93.tab : T.get none (.of 93) tbl = some F93 := by kernel_rfl
theorem F93.go : zW tbl N C (.of 93) [a0] h nx K0 =
 sLen a0 fun v1 => sBin .gtr .int v1 (I 256) fun v2 => yD v2 (K0 (I 5) h nx) (sLen a0 fun v3 => uC 1 1 [(.bool false)] v3 v3 h nx fun v4 h5 n6 => IR.run F93.b2 C N (fnO F93.res K0) (IR.run F93.b10 C N (fnO F93.res K0) (retK F93.res K0)) (F93.fr a0 (I 0) v4 (I 0) v2 .undef .undef) h5 n6) := by
 rw [zM F93.tab]; kernel_rfl
theorem F93.L2 (Inv : Nat → AV → T Blk → Pa → Prop) {m : Nat} (hm : m < N) (hi : Inv m f h nx)
  (step : ∀ (m : Nat) (z1 z3 z5 z6 : AV) (h : T Blk) (nx : Pa) (R : Ks Prop), Inv m z3 h nx → (∀ (m' : Nat) (w1 w3 w5 w6 : AV) (h' : T Blk) (nx' : Pa), m' < m → Inv m' w3 h' nx' → R (F93.fr a w1 e w3 d w5 w6) h' nx' = .ok True) →
   (sLen a fun v1 => sBin .lss .int z3 v1 fun v2 => yD v2 (zO 1 a z3 fun v3 => zG v3 h fun v4 => sBin .lss .int v4 (I 0) fun v5 => sG v5 false (fun k => k a) fun v6 => sG v5 false (fun k => k z3) fun v7 => sG v5 false (fun k => zO 1 v6 v7 k) fun v8 => sG v5 false (fun k => zG v8 h k) fun v9 => sG v5 false (fun k => k a) fun vA => sG v5 false (fun k => sLen vA k) fun vB => sG v5 false (fun k => sBin .geq .int v9 vB k) fun vC => gH v5 (.bool true) vC fun vD => sG vD false (fun k => k e) fun vE => sG vD false (fun k => k a) fun vF => sG vD false (fun k => k z3) fun vG => sG vD false (fun k => zO 1 vF vG k) fun vH => sG vD false (fun k => zG vH h k) fun vI => sG vD false (fun k => zO 1 vE vI k) fun vJ => sG vD false (fun k => zG vJ h k) fun vK => gH vD (.bool true) vK fun vL => yD vL (K0 (I 14) h nx) ((IR.run F93.b8 C N (((fnO F93.res K0).blk 0 K).blk 1 (IR.run F93.b9 C N ((fnO F93.res K0).blk 0 K) R)) (IR.run F93.b9 C N ((fnO F93.res K0).blk 0 K) R)) (F93.fr a z1 e z3 d v2 vL) h nx)) (K (F93.fr a z1 e z3 d v2 z6) h nx)) = .ok True) :
  IR.run F93.b2 C N (fnO F93.res K0) K (F93.fr a b e f d g i) h nx = .ok True := by
 rw [F93.b2, F93.g2_eq, F93.b3]
 refine yJ (fun m tm h nx => ∃ z1 z3 z5 z6, tm = (F93.fr a z1 e z3 d z5 z6) ∧ Inv m z3 h nx) ?_ hm ⟨_, _, _, _, rfl, hi⟩
 rintro m tm h nx R ⟨z1, z3, z5, z6, rfl, hi⟩ hR
 refine Eq.trans ?_ (step m z1 z3 z5 z6 h nx R hi fun m' w1 w3 w5 w6 h' nx' hlt hi' => hR m' _ h' nx' hlt ⟨_, _, _, _, rfl, hi'⟩)
 kernel_rfl
theorem F93.k10 : IR.run F93.b10 C N (fnO F93.res K0) K (F93.fr a b e f d g i) h nx =
 K0 (I 0) h nx := by kernel_rfl
theorem F93.k9 {E0 : Ks Prop} : IR.run F93.b9 C N ((fnO F93.res K0).blk 0 E0) K (F93.fr a b e f d g i) h nx =
 sBin .add .int f (I 1) fun v1 => K (F93.fr a b e v1 d g i) h nx := by kernel_rfl
theorem F93.k8 {E0 E1 : Ks Prop} : IR.run F93.b8 C N (((fnO F93.res K0).blk 0 E0).blk 1 E1) K (F93.fr a b e f d g i) h nx =
 zO 1 a f fun v1 => zG v1 h fun v2 => zO 1 e v2 fun v3 => zN 1 v3 (.bool true) h nx fun v4 h5 n6 => K (F93.fr a b e f d g i) h5 n6 := by kernel_rfl
theorem F26.tab : T.get none (.of 26) tbl = some F26 := by kernel_rfl
theorem F26.go : zW tbl N C (.of 26) [a0, a1] h nx K0 =
 sBox a0 h nx fun v1 h2 n3 => C.fn 25 (.of 25) [a1] h2 n3 fun v4 h5 n6 => sBin .neq .int v4 (I 0) fun v7 => yD v7 (K0 (I 3) h5 n6) (zT 0 v1 fun v8 => zG v8 h5 fun v9 => sLen v9 fun vA => sBin .neq .int vA a1 fun vB => yD vB (K0 (I 2) h5 n6) (zT 0 v1 fun vC => zG vC h5 fun vD => C.fn 93 (.of 93) [vD] h5 n6 fun vE hA nA => K0 vE hA nA)) := by
 rw [zM F26.tab]; kernel_rfl
theorem F25.tab : T.get none (.of 25) tbl = some F25 := by kernel_rfl
theorem F25.go : zW tbl N C (.of 25) [a0] h nx K0 =
 sBin .lss .int a0 (I 0) fun v1 => sG v1 false (fun k => k a0) fun v2 => sG v1 false (fun k => sBin .gtr .int v2 (I 256) k) fun v3 => gH v1 (.bool true) v3 fun v4 => yD v4 (K0 (I 3) h nx) (K0 (I 0) h nx) := by
 rw [zM F25.tab]; kernel_rfl
end Go.Ev
namespace Go.Ev
open Go Go.Proofs
set_option maxRecDepth 100000
variable {N : Nat} {C : Calls Prop} {K0 : Kw Prop} {K R : Ks Prop} {h : T Blk} {nx : Pa} {a b e f d g i o p a0 a1 : AV}
end Go.Ev
namespace Go.Ev
open Go Go.Proofs
set_option maxRecDepth 100000
variable {N : Nat} {C : Calls Prop} {K0 : Kw Prop} {K R : Ks Prop} {h : T Blk} {nx : Pa} {a b e f d g i a0 a1 : AV}
theorem F82.g2_eq (X3 : IR) (O : Outs Prop) (t : T AV) : IR.run (F82.g2 X3) C N O K t h nx = IR.run X3 C N (O.blk 0 K) K t h nx := by kernel_rfl
theorem F82.tab : T.get none (.of 82) tbl = some F82 := by kernel_rfl
theorem F82.go : zW tbl N C (.of 82) [a0, a1] h nx K0 =
 sLen a0 fun v1 => sLen a1 fun v2 => sBin .neq .int v1 v2 fun v3 => yD v3 (K0 (.bool false) h nx) (IR.run F82.b2 C N (fnO F82.res K0) (IR.run F82.b9 C N (fnO F82.res K0) (retK F82.res K0)) (F82.fr a0 a1 (.bool false) (I 0) v3 .undef .undef) h nx) := by
 rw [zM F82.tab]; kernel_rfl
theorem F82.L2 (Inv : Nat → AV → T Blk → Pa → Prop) {m : Nat} (hm : m < N) (hi : Inv m f h nx)
  (step : ∀ (m : Nat) (z2 z3 z5 z6 : AV) (h : T Blk) (nx : Pa) (R : Ks Prop), Inv m z3 h nx → (∀ (m' : Nat) (w2 w3 w5 w6 : AV) (h' : T Blk) (nx' : Pa), m' < m → Inv m' w3 h' nx' → R (F82.fr a b w2 w3 d w5 w6) h' nx' = .ok True) →
   (sLen a fun v1 => sBin .lss .int z3 v1 fun v2 => yD v2 (zO 1 a z3 fun v3 => zG v3 h fun v4 => zO 1 b z3 fun v5 => zG v5 h fun v6 => sBin .neq .int v4 v6 fun v7 => yD v7 (K0 (.bool false) h nx) (sBin .add .int z3 (I 1) fun v8 => R (F82.fr a b z2 v8 d v2 v7) h nx)) (K (F82.fr a b z2 z3 d v2 z6) h nx)) = .ok True) :
  IR.run F82.b2 C N (fnO F82.res K0) K (F82.fr a b e f d g i) h nx = .ok True := by
 rw [F82.b2, F82.g2_eq, F82.b3]
 refine yJ (fun m tm h nx => ∃ z2 z3 z5 z6, tm = (F82.fr a b z2 z3 d z5 z6) ∧ Inv m z3 h nx) ?_ hm ⟨_, _, _, _, rfl, hi⟩
 rintro m tm h nx R ⟨z2, z3, z5, z6, rfl, hi⟩ hR
 refine Eq.trans ?_ (step m z2 z3 z5 z6 h nx R hi fun m' w2 w3 w5 w6 h' nx' hlt hi' => hR m' _ h' nx' hlt ⟨_, _, _, _, rfl, hi'⟩)
 kernel_rfl
theorem F82.k9 : IR.run F82.b9 C N (fnO F82.res K0) K (F82.fr a b e f d g i) h nx =
 K0 (.bool true) h nx := by kernel_rfl
theorem F106.tab : T.get none (.of 106) tbl = some F106 := by kernel_rfl
theorem F106.go : zW tbl N C (.of 106) [a0] h nx K0 =
 sBin .eql (.nil .sl) a0 .nils fun v1 => yD v1 (K0 .nils h nx) (jC 1 0 [(I 0)] [] h nx fun v2 h3 n4 => sApp 1 8 v2 a0 h3 n4 fun v5 h6 n7 => K0 v5 h6 n7) := by
 rw [zM F106.tab]; kernel_rfl
end Go.Ev
namespace Go.Ev
open Go Go.Proofs
set_option maxRecDepth 100000
variable {N : Nat} {C : Calls Prop} {K0 : Kw Prop} {K R : Ks Prop} {h : T Blk} {nx : Pa} {a b e f d g i o p a0 a1 : AV}
end Go.Ev
namespace Go.Ev
open Go Go.Proofs
set_option maxRecDepth 100000
variable {N : Nat} {C : Calls Prop} {K0 : Kw Prop} {K R : Ks Prop} {h : T Blk} {nx : Pa} {a b e f d g i o p a0 a1 a2 : AV}
end Go.Ev
namespace Go.Ev
open Go Go.Proofs
set_option maxRecDepth 100000
variable {N : Nat} {C : Calls Prop} {K0 : Kw Prop} {K R : Ks Prop} {h : T Blk} {nx : Pa} {a b e f d g i o p q c l w s a0 : AV}
end Go.Ev
namespace Go.Ev
open Go Go.Proofs
set_option maxRecDepth 100000
variable {N : Nat} {C : Calls Prop} {K0 : Kw Prop} {K R : Ks Prop} {h : T Blk} {nx : Pa} {a b e f d g i o a0 a1 a2 : AV}
end Go.Ev
namespace Go.Ev
open Go Go.Proofs
set_option maxRecDepth 100000
variable {N : Nat} {C : Calls Prop} {K0 : Kw Prop} {K R : Ks Prop} {h : T Blk} {nx : Pa} {a b e f d g i o p q c l w s a0 a1 : AV}
end Go.Ev
namespace Go.Ev
open Go Go.Proofs
set_option maxRecDepth 100000
variable {N : Nat} {C : Calls Prop} {K0 : Kw Prop} {K R : Ks Prop} {h : T Blk} {nx : Pa} {a b e f d g i o p q c l w s u v y z a0 a1 : AV}
theorem F85.tab : T.get none (.of 85) tbl = some F85 := by kernel_rfl
theorem F85.go : zW tbl N C (.of 85) [a0, a1] h nx K0 =
 sBox a0 h nx fun v1 h2 n3 => sBox a1 h2 n3 fun v4 h5 n6 => zT 0 v1 fun v7 => zG v7 h5 fun v8 => zT 0 v4 fun v9 => zG v9 h5 fun vA => C.fn 82 (.of 82) [v8, vA] h5 n6 fun vB hB nB => yD vB (zT 1 v1 fun vE => zG vE hB fun vF => sNot vF fun vG => sG vG true (fun k => zT 1 v4 k) fun vH => sG vG true (fun k => zG vH hB k) fun vI => gH vG vI (.bool false) fun vJ => K0 vJ hB nB) (zT 0 v1 fun vK => zG vK hB fun vL => zT 0 v4 fun vM => zG vM hB fun vN => C.fn 88 (.of 88) [vL, vN] hB nB fun vO hC nC => K0 vO hC nC) := by
 rw [zM F85.tab]; kernel_rfl
theorem F84.g1_eq (X2 : IR) (O : Outs Prop) (t : T AV) : IR.run (F84.g1 X2) C N O K t h nx = IR.run X2 C N (O.blk 0 K) K t h nx := by kernel_rfl
theorem F84.tab : T.get none (.of 84) tbl = some F84 := by kernel_rfl
theorem F84.go : zW tbl N C (.of 84) [a0, a1] h nx K0 =
 sBox a1 h nx fun v1 h2 n3 => IR.run F84.b1 C N (fnO F84.res K0) (IR.run F84.b8 C N (fnO F84.res K0) (retK F84.res K0)) (F84.fr a0 a1 v1 (I 0) (I 0) .undef .undef) h2 n3 := by
 rw [zM F84.tab]; kernel_rfl
theorem F84.L1 (Inv : Nat → AV → T Blk → Pa → Prop) {m : Nat} (hm : m < N) (hi : Inv m d h nx)
  (step : ∀ (m : Nat) (z3 z4 z5 z6 : AV) (h : T Blk) (nx : Pa) (R : Ks Prop), Inv m z4 h nx → (∀ (m' : Nat) (w3 w4 w5 w6 : AV) (h' : T Blk) (nx' : Pa), m' < m → Inv m' w4 h' nx' → R (F84.fr a b e w3 w4 w5 w6) h' nx' = .ok True) →
   (sLen a fun v1 => sBin .lss .int z4 v1 fun v2 => yD v2 (zO 2 a z4 fun v3 => zI 2 v3 h fun v4 => zI 2 e h fun v5 => C.fn 30 (.of 30) [v4, v5] h nx fun v6 h7 n8 => yD v6 (K0 z4 h7 n8) (sBin .add .int z4 (I 1) fun v9 => R (F84.fr a b e z3 v9 v2 v6) h7 n8)) (K (F84.fr a b e z3 z4 v2 z6) h nx)) = .ok True) :
  IR.run F84.b1 C N (fnO F84.res K0) K (F84.fr a b e f d g i) h nx = .ok True := by
 rw [F84.b1, F84.g1_eq, F84.b2]
 refine yJ (fun m tm h nx => ∃ z3 z4 z5 z6, tm = (F84.fr a b e z3 z4 z5 z6) ∧ Inv m z4 h nx) ?_ hm ⟨_, _, _, _, rfl, hi⟩
 rintro m tm h nx R ⟨z3, z4, z5, z6, rfl, hi⟩ hR
 refine Eq.trans ?_ (step m z3 z4 z5 z6 h nx R hi fun m' w3 w4 w5 w6 h' nx' hlt hi' => hR m' _ h' nx' hlt ⟨_, _, _, _, rfl, hi'⟩)
 kernel_rfl
theorem F84.k8 : IR.run F84.b8 C N (fnO F84.res K0) K (F84.fr a b e f d g i) h nx =
 K0 (I (-1)) h nx := by kernel_rfl
theorem F65.tab : T.get none (.of 65) tbl = some F65 := by kernel_rfl
theorem F65.go : zW tbl N C (.of 65) [a0, a1] h nx K0 =
 sBox a0 h nx fun v1 h2 n3 => sBox a1 h2 n3 fun v4 h5 n6 => yL [.nils, (.bool false)] h5 n6 fun v7 h8 n9 => zT 0 v1 fun vA => zG vA h8 fun vB => zT 0 v4 fun vC => zG vC h8 fun vD => zT 1 v1 fun vE => zG vE h8 fun vF => zT 1 v4 fun vG => zG vG h8 fun vH => sBin .neq .bool vF vH fun vI => C.fn 144 (.of 144) [vB, vD] h8 n9 fun vJ hD nD => (sBin .neq .bool vF vH fun vP => zK vP vI ((zG vG hD fun vQ => zK vQ vH ((zT 1 v4 fun vR => zK vR vG ((zG vE hD fun vS => zK vS vF ((zT 1 v1 fun vU => zK vU vE (kL [.nils, (.bool false)] [(0, 1, vJ), (1, 1, vI)] fun vM => zN 2 v7 vM hD nD fun vN hE nE => zI 2 v7 hE fun vV => K0 vV hE nE)))))))))) := by
 rw [zM F65.tab]; kernel_rfl
theorem F30.tab : T.get none (.of 30) tbl = some F30 := by kernel_rfl
theorem F30.go : zW tbl N C (.of 30) [a0, a1] h nx K0 =
 sBox a0 h nx fun v1 h2 n3 => sBox a1 h2 n3 fun v4 h5 n6 => zT 1 v1 fun v7 => zG v7 h5 fun v8 => zT 1 v4 fun v9 => zG v9 h5 fun vA => sBin .eql .bool v8 vA fun vB => sG vB true (fun k => zT 0 v1 k) fun vC => sG vB true (fun k => zG vC h5 k) fun vD => sG vB true (fun k => zT 0 v4 k) fun vE => sG vB true (fun k => zG vE h5 k) fun vF => sGW vB true (fun k => C.fn 82 (.of 82) [vD, vF] h5 n6 k) h5 n6 fun vG hF nF => gH vB vG (.bool false) fun vJ => K0 vJ hF nF := by
 rw [zM F30.tab]; kernel_rfl
theorem F144.g1_eq (X2 : IR) (O : Outs Prop) (t : T AV) : IR.run (F144.g1 X2) C N O K t h nx = IR.run X2 C N (O.blk 0 K) K t h nx := by kernel_rfl
theorem F144.tab : T.get none (.of 144) tbl = some F144 := by kernel_rfl
theorem F144.go : zW tbl N C (.of 144) [a0, a1] h nx K0 =
 IR.run F144.b1 C N (fnO F144.res K0) (IR.run F144.b8 C N (fnO F144.res K0) (retK F144.res K0)) (F144.fr a0 a1 .nils .nils (I 0) .undef) h nx := by
 rw [zM F144.tab]; kernel_rfl
theorem F144.L1 (Inv : Nat → AV → AV → T Blk → Pa → Prop) {m : Nat} (hm : m < N) (hi : Inv m f d h nx)
  (step : ∀ (m : Nat) (z3 z4 z5 : AV) (h : T Blk) (nx : Pa) (R : Ks Prop), Inv m z3 z4 h nx → (∀ (m' : Nat) (w3 w4 w5 : AV) (h' : T Blk) (nx' : Pa), m' < m → Inv m' w3 w4 h' nx' → R (F144.fr a b e w3 w4 w5) h' nx' = .ok True) →
   (sLen b fun v1 => sBin .lss .int z4 v1 fun v2 => yD v2 (zO 1 b z4 fun v3 => zG v3 h fun v4 => zO 1 a v4 fun v5 => zG v5 h fun v6 => jC 1 1 [(I 0)] [(0, 1, v6)] h nx fun v7 h8 n9 => sApp 1 8 z3 v7 h8 n9 fun vA hG nG => sBin .add .int z4 (I 1) fun vD => R (F144.fr a b e vA vD v2) hG nG) (K (F144.fr a b e z3 z4 v2) h nx)) = .ok True) :
  IR.run F144.b1 C N (fnO F144.res K0) K (F144.fr a b e f d g) h nx = .ok True := by
 rw [F144.b1, F144.g1_eq, F144.b2]
 refine yJ (fun m tm h nx => ∃ z3 z4 z5, tm = (F144.fr a b e z3 z4 z5) ∧ Inv m z3 z4 h nx) ?_ hm ⟨_, _, _, rfl, hi⟩
 rintro m tm h nx R ⟨z3, z4, z5, rfl, hi⟩ hR
 refine Eq.trans ?_ (step m z3 z4 z5 h nx R hi fun m' w3 w4 w5 h' nx' hlt hi' => hR m' _ h' nx' hlt ⟨_, _, _, rfl, hi'⟩)
 kernel_rfl
theorem F144.k8 : IR.run F144.b8 C N (fnO F144.res K0) K (F144.fr a b e f d g) h nx =
 K0 f h nx := by kernel_rfl
theorem F20.g4_eq (X5 : IR) (O : Outs Prop) (t : T AV) : IR.run (F20.g4 X5) C N O K t h nx = IR.run X5 C N (O.blk 0 K) K t h nx := by kernel_rfl
theorem F20.g12_eq (X13 : IR) (O : Outs Prop) (t : T AV) : IR.run (F20.g12 X13) C N O K t h nx = IR.run X13 C N (O.blk 2 K) K t h nx := by kernel_rfl
theorem F20.g26_eq (X27 : IR) (O : Outs Prop) (t : T AV) : IR.run (F20.g26 X27) C N O K t h nx = IR.run X27 C N (O.blk 6 K) K t h nx := by kernel_rfl
theorem F20.g20_eq (X21 : IR) (O : Outs Prop) (t : T AV) : IR.run (F20.g20 X21) C N O K t h nx = IR.run X21 C N (O.blk 4 K) K t h nx := by kernel_rfl
theorem F20.tab : T.get none (.of 20) tbl = some F20 := by kernel_rfl
theorem F20.go : zW tbl N C (.of 20) [a0, a1] h nx K0 =
 C.fn 25 (.of 25) [a1] h nx fun v1 h2 n3 => sBin .neq .int v1 (I 0) fun v4 => yD v4 (K0 (I 3) h2 n3) (sLen a0 fun v5 => sBin .eql .int v5 (I 0) fun v6 => yD v6 (K0 (I 12) h2 n3) (sLen a0 fun v7 => sBin .gtr .int v7 (I 1536) fun v8 => yD v8 (K0 (I 5) h2 n3) (IR.run F20.b4 C N (fnO F20.res K0) (IR.run F20.b11 C N (fnO F20.res K0) (retK F20.res K0)) (F20.fr a0 a1 (I 0) (I 0) .undef .undef .undef .undef v4 v6 v8 .undef .undef .undef .undef .undef .undef .undef) h2 n3))) := by
 rw [zM F20.tab]; kernel_rfl
theorem F20.L4 (Inv : Nat → AV → T Blk → Pa → Prop) {m : Nat} (hm : m < N) (hi : Inv m f h nx)
  (step : ∀ (m : Nat) (z2 z3 z4 zA zB : AV) (h : T Blk) (nx : Pa) (R : Ks Prop), Inv m z3 h nx → (∀ (m' : Nat) (w2 w3 w4 wA wB : AV) (h' : T Blk) (nx' : Pa), m' < m → Inv m' w3 h' nx' → R (F20.fr a b w2 w3 w4 g i o p q c wA wB s u v y z) h' nx' = .ok True) →
   (sLen a fun v1 => sBin .lss .int z3 v1 fun v2 => yD v2 (zO 2 a z3 fun v3 => zI 2 v3 h fun v4 => C.fn 26 (.of 26) [v4, b] h nx fun v5 h6 n7 => sBin .neq .int v5 (I 0) fun v8 => yD v8 (K0 v5 h6 n7) (sBin .add .int z3 (I 1) fun v9 => R (F20.fr a b z2 v9 v5 g i o p q c v2 v8 s u v y z) h6 n7)) (K (F20.fr a b z2 z3 z4 g i o p q c v2 zB s u v y z) h nx)) = .ok True) :
  IR.run F20.b4 C N (fnO F20.res K0) K (F20.fr a b e f d g i o p q c l w s u v y z) h nx = .ok True := by
 rw [F20.b4, F20.g4_eq, F20.b5]
 refine yJ (fun m tm h nx => ∃ z2 z3 z4 zA zB, tm = (F20.fr a b z2 z3 z4 g i o p q c zA zB s u v y z) ∧ Inv m z3 h nx) ?_ hm ⟨_, _, _, _, _, rfl, hi⟩
 rintro m tm h nx R ⟨z2, z3, z4, zA, zB, rfl, hi⟩ hR
 refine Eq.trans ?_ (step m z2 z3 z4 zA zB h nx R hi fun m' w2 w3 w4 wA wB h' nx' hlt hi' => hR m' _ h' nx' hlt ⟨_, _, _, _, _, rfl, hi'⟩)
 kernel_rfl
theorem F20.k11 : IR.run F20.b11 C N (fnO F20.res K0) K (F20.fr a b e f d g i o p q c l w s u v y z) h nx =
 IR.run F20.b12 C N (fnO F20.res K0) (IR.run F20.b19 C N (fnO F20.res K0) K) (F20.fr a b e f d (I 1) i o p q c l w s u v y z) h nx := by kernel_rfl
theorem F20.L12 (Inv : Nat → AV → T Blk → Pa → Prop) {m : Nat} (hm : m < N) (hi : Inv m g h nx)
  (step : ∀ (m : Nat) (z2 z5 zC zD : AV) (h : T Blk) (nx : Pa) (R : Ks Prop), Inv m z5 h nx → (∀ (m' : Nat) (w2 w5 wC wD : AV) (h' : T Blk) (nx' : Pa), m' < m → Inv m' w5 h' nx' → R (F20.fr a b w2 f d w5 i o p q c l w wC wD v y z) h' nx' = .ok True) →
   (sLen a fun v1 => sBin .lss .int z5 v1 fun v2 => yD v2 (sBin .sub .int z5 (I 1) fun v3 => zO 2 a v3 fun v4 => zI 2 v4 h fun v5 => zO 2 a z5 fun v6 => zI 2 v6 h fun v7 => C.fn 85 (.of 85) [v5, v7] h nx fun v8 h9 nH => sNot v8 fun vB => yD vB (K0 (I 11) h9 nH) (sBin .add .int z5 (I 1) fun vC => R (F20.fr a b z2 f d vC i o p q c l w v2 vB v y z) h9 nH)) (K (F20.fr a b z2 f d z5 i o p q c l w v2 zD v y z) h nx)) = .ok True) :
  IR.run F20.b12 C N (fnO F20.res K0) K (F20.fr a b e f d g i o p q c l w s u v y z) h nx = .ok True := by
 rw [F20.b12, F20.g12_eq, F20.b13]
 refine yJ (fun m tm h nx => ∃ z2 z5 zC zD, tm = (F20.fr a b z2 f d z5 i o p q c l w zC zD v y z) ∧ Inv m z5 h nx) ?_ hm ⟨_, _, _, _, rfl, hi⟩
 rintro m tm h nx R ⟨z2, z5, zC, zD, rfl, hi⟩ hR
 refine Eq.trans ?_ (step m z2 z5 zC zD h nx R hi fun m' w2 w5 wC wD h' nx' hlt hi' => hR m' _ h' nx' hlt ⟨_, _, _, _, rfl, hi'⟩)
 kernel_rfl
theorem F20.k19 : IR.run F20.b19 C N (fnO F20.res K0) K (F20.fr a b e f d g i o p q c l w s u v y z) h nx =
 IR.run F20.b20 C N (fnO F20.res K0) (IR.run F20.b34 C N (fnO F20.res K0) K) (F20.fr a b e f d g (I 0) o p q c l w s u v y z) h nx := by kernel_rfl
theorem F20.L20 (Inv : Nat → AV → T Blk → Pa → Prop) {m : Nat} (hm : m < N) (hi : Inv m i h nx)
  (step : ∀ (m : Nat) (z2 z6 z7 zE zF zH : AV) (h : T Blk) (nx : Pa) (R : Ks Prop), Inv m z6 h nx → (∀ (m' : Nat) (w2 w6 w7 wE wF wG : AV) (h' : T Blk) (nx' : Pa), m' < m → Inv m' w6 h' nx' → R (F20.fr a b w2 f d g w6 w7 p q c l w s u wE wF wG) h' nx' = .ok True) →
   (sLen a fun v1 => sBin .lss .int z6 v1 fun v2 => yD v2 (IR.run F20.b26 C N (((fnO F20.res K0).blk 4 K).blk 5 (IR.run F20.b33 C N ((fnO F20.res K0).blk 4 K) R)) (IR.run F20.b33 C N ((fnO F20.res K0).blk 4 K) R) (F20.fr a b z2 f d g z6 (I 0) p q c l w s u v2 zF zH) h nx) (K (F20.fr a b z2 f d g z6 z7 p q c l w s u v2 zF zH) h nx)) = .ok True) :
  IR.run F20.b20 C N (fnO F20.res K0) K (F20.fr a b e f d g i o p q c l w s u v y z) h nx = .ok True := by
 rw [F20.b20, F20.g20_eq, F20.b21]
 refine yJ (fun m tm h nx => ∃ z2 z6 z7 zE zF zH, tm = (F20.fr a b z2 f d g z6 z7 p q c l w s u zE zF zH) ∧ Inv m z6 h nx) ?_ hm ⟨_, _, _, _, _, _, rfl, hi⟩
 rintro m tm h nx R ⟨z2, z6, z7, zE, zF, zH, rfl, hi⟩ hR
 refine Eq.trans ?_ (step m z2 z6 z7 zE zF zH h nx R hi fun m' w2 w6 w7 wE wF wG h' nx' hlt hi' => hR m' _ h' nx' hlt ⟨_, _, _, _, _, _, rfl, hi'⟩)
 kernel_rfl
theorem F20.k34 : IR.run F20.b34 C N (fnO F20.res K0) K (F20.fr a b e f d g i o p q c l w s u v y z) h nx =
 K0 (I 0) h nx := by kernel_rfl
theorem F20.k33 {E4 : Ks Prop} : IR.run F20.b33 C N ((fnO F20.res K0).blk 4 E4) K (F20.fr a b e f d g i o p q c l w s u v y z) h nx =
 sBin .add .int i (I 1) fun v1 => K (F20.fr a b e f d g v1 o p q c l w s u v y z) h nx := by kernel_rfl
theorem F20.L26 {E4 E5 : Ks Prop} (Inv : Nat → AV → T Blk → Pa → Prop) {m : Nat} (hm : m < N) (hi : Inv m o h nx)
  (step : ∀ (m : Nat) (z2 z7 zF zH : AV) (h : T Blk) (nx : Pa) (R : Ks Prop), Inv m z7 h nx → (∀ (m' : Nat) (w2 w7 wF wG : AV) (h' : T Blk) (nx' : Pa), m' < m → Inv m' w7 h' nx' → R (F20.fr a b w2 f d g i w7 p q c l w s u v wF wG) h' nx' = .ok True) →
   (sLen a fun v1 => sBin .lss .int z7 v1 fun v2 => yD v2 (zO 2 a i fun v3 => zI 2 v3 h fun v4 => zO 2 a z7 fun v5 => zI 2 v5 h fun v6 => C.fn 65 (.of 65) [v4, v6] h nx fun v7 h8 n9 => zK a a (C.fn 84 (.of 84) [a, v7] h8 n9 fun vA hG nG => sBin .lss .int vA (I 0) fun vD => yD vD (K0 (I 28) hG nG) (sBin .add .int z7 (I 1) fun vE => R (F20.fr a b z2 f d g i vE p q c l w s u v v2 vD) hG nG))) (K (F20.fr a b z2 f d g i z7 p q c l w s u v v2 zH) h nx)) = .ok True) :
  IR.run F20.b26 C N (((fnO F20.res K0).blk 4 E4).blk 5 E5) K (F20.fr a b e f d g i o p q c l w s u v y z) h nx = .ok True := by
 rw [F20.b26, F20.g26_eq, F20.b27]
 refine yJ (fun m tm h nx => ∃ z2 z7 zF zH, tm = (F20.fr a b z2 f d g i z7 p q c l w s u v zF zH) ∧ Inv m z7 h nx) ?_ hm ⟨_, _, _, _, rfl, hi⟩
 rintro m tm h nx R ⟨z2, z7, zF, zH, rfl, hi⟩ hR
 refine Eq.trans ?_ (step m z2 z7 zF zH h nx R hi fun m' w2 w7 wF wG h' nx' hlt hi' => hR m' _ h' nx' hlt ⟨_, _, _, _, rfl, hi'⟩)
 kernel_rfl
end Go.Ev
namespace Go.Ev
open Go Go.Proofs
set_option maxRecDepth 100000
variable {N : Nat} {C : Calls Prop} {K0 : Kw Prop} {K R : Ks Prop} {h : T Blk} {nx : Pa} {a b e f d g i o p q c l w s a0 a1 : AV}
theorem F88.g1_eq (X2 : IR) (O : Outs Prop) (t : T AV) : IR.run (F88.g1 X2) C N O K t h nx = IR.run X2 C N (O.blk 0 K) K t h nx := by kernel_rfl
theorem F88.tab : T.get none (.of 88) tbl = some F88 := by kernel_rfl
theorem F88.go : zW tbl N C (.of 88) [a0, a1] h nx K0 =
 IR.run F88.b1 C N (fnO F88.res K0) (IR.run F88.b8 C N (fnO F88.res K0) (retK F88.res K0)) (F88.fr a0 a1 (.bool false) (I 0) .undef .undef) h nx := by
 rw [zM F88.tab]; kernel_rfl
theorem F88.L1 (Inv : Nat → AV → T Blk → Pa → Prop) {m : Nat} (hm : m < N) (hi : Inv m f h nx)
  (step : ∀ (m : Nat) (z2 z3 z4 z5 : AV) (h : T Blk) (nx : Pa) (R : Ks Prop), Inv m z3 h nx → (∀ (m' : Nat) (w2 w3 w4 w5 : AV) (h' : T Blk) (nx' : Pa), m' < m → Inv m' w3 h' nx' → R (F88.fr a b w2 w3 w4 w5) h' nx' = .ok True) →
   (sLen a fun v1 => sBin .lss .int z3 v1 fun v2 => sG v2 true (fun k => k z3) fun v3 => sG v2 true (fun k => k b) fun v4 => sG v2 true (fun k => sLen v4 k) fun v5 => sG v2 true (fun k => sBin .lss .int v3 v5 k) fun v6 => gH v2 v6 (.bool false) fun v7 => yD v7 ((IR.run F88.b4 C N ((fnO F88.res K0).blk 0 K) R) (F88.fr a b z2 z3 v7 z5) h nx) (K (F88.fr a b z2 z3 v7 z5) h nx)) = .ok True) :
  IR.run F88.b1 C N (fnO F88.res K0) K (F88.fr a b e f d g) h nx = .ok True := by
 rw [F88.b1, F88.g1_eq, F88.b2]
 refine yJ (fun m tm h nx => ∃ z2 z3 z4 z5, tm = (F88.fr a b z2 z3 z4 z5) ∧ Inv m z3 h nx) ?_ hm ⟨_, _, _, _, rfl, hi⟩
 rintro m tm h nx R ⟨z2, z3, z4, z5, rfl, hi⟩ hR
 refine Eq.trans ?_ (step m z2 z3 z4 z5 h nx R hi fun m' w2 w3 w4 w5 h' nx' hlt hi' => hR m' _ h' nx' hlt ⟨_, _, _, _, rfl, hi'⟩)
 kernel_rfl
theorem F88.k8 : IR.run F88.b8 C N (fnO F88.res K0) K (F88.fr a b e f d g) h nx =
 sLen a fun v1 => sLen b fun v2 => sBin .lss .int v1 v2 fun v3 => K0 v3 h nx := by kernel_rfl
theorem F88.k4 {E0 : Ks Prop} : IR.run F88.b4 C N ((fnO F88.res K0).blk 0 E0) K (F88.fr a b e f d g) h nx =
 zO 1 a f fun v1 => zG v1 h fun v2 => zO 1 b f fun v3 => zG v3 h fun v4 => sBin .neq .int v2 v4 fun v5 => yD v5 (zO 1 a f fun v6 => zG v6 h fun v7 => zO 1 b f fun v8 => zG v8 h fun v9 => sBin .lss .int v7 v9 fun vA => K0 vA h nx) (sBin .add .int f (I 1) fun vB => K (F88.fr a b e vB d v5) h nx) := by kernel_rfl
theorem F201.g1_eq (X2 : IR) (O : Outs Prop) (t : T AV) : IR.run (F201.g1 X2) C N O K t h nx = IR.run X2 C N (O.blk 0 K) K t h nx := by kernel_rfl
theorem F201.tab : T.get none (.of 201) tbl = some F201 := by kernel_rfl
theorem F201.go : zW tbl N C (.of 201) [a0, a1] h nx K0 =
 sLen a0 fun v1 => IR.run F201.b1 C N (fnO F201.res K0) (IR.run F201.b9 C N (fnO F201.res K0) (retK F201.res K0)) (F201.fr a0 a1 (I 0) .undef .undef .undef .undef a0 v1 (I 0) .undef .undef .undef .undef) h nx := by
 rw [zM F201.tab]; kernel_rfl
theorem F201.L1 (Inv : Nat → AV → T Blk → Pa → Prop) {m : Nat} (hm : m < N) (hi : Inv m q h nx)
  (step : ∀ (m : Nat) (z2 z3 z4 z5 z6 z9 zJ zA zB : AV) (h : T Blk) (nx : Pa) (R : Ks Prop), Inv m z9 h nx → (∀ (m' : Nat) (w2 w3 w4 w5 w6 w9 wH wA wB : AV) (h' : T Blk) (nx' : Pa), m' < m → Inv m' w9 h' nx' → R (F201.fr a b w2 w3 w4 w5 w6 o p w9 wH wA wB s) h' nx' = .ok True) →
   (sBin .lss .int z9 p fun v1 => yD v1 (zO 1 o z9 fun v2 => zG v2 h fun v3 => sLen b fun v4 => sBin .geq .int z9 v4 fun v5 => yD v5 (K0 (I 1) h nx) (zO 1 b z9 fun v6 => zG v6 h fun v7 => C.fn 244 (.of 244) [v3, v7] h nx fun v8 h9 nH => sBin .neq .int v8 (I 0) fun vB => yD vB (K0 v8 h9 nH) (sBin .add .int z9 (I 1) fun vC => R (F201.fr a b z2 z9 v3 v7 v8 o p vC v1 v5 vB s) h9 nH))) (K (F201.fr a b z2 z3 z4 z5 z6 o p z9 v1 zA zB s) h nx)) = .ok True) :
  IR.run F201.b1 C N (fnO F201.res K0) K (F201.fr a b e f d g i o p q c l w s) h nx = .ok True := by
 rw [F201.b1, F201.g1_eq, F201.b2]
 refine yJ (fun m tm h nx => ∃ z2 z3 z4 z5 z6 z9 zJ zA zB, tm = (F201.fr a b z2 z3 z4 z5 z6 o p z9 zJ zA zB s) ∧ Inv m z9 h nx) ?_ hm ⟨_, _, _, _, _, _, _, _, _, rfl, hi⟩
 rintro m tm h nx R ⟨z2, z3, z4, z5, z6, z9, zJ, zA, zB, rfl, hi⟩ hR
 refine Eq.trans ?_ (step m z2 z3 z4 z5 z6 z9 zJ zA zB h nx R hi fun m' w2 w3 w4 w5 w6 w9 wH wA wB h' nx' hlt hi' => hR m' _ h' nx' hlt ⟨_, _, _, _, _, _, _, _, _, rfl, hi'⟩)
 kernel_rfl
theorem F201.k9 : IR.run F201.b9 C N (fnO F201.res K0) K (F201.fr a b e f d g i o p q c l w s) h nx =
 sLen a fun v1 => sLen b fun v2 => sBin .lss .int v1 v2 fun v3 => yD v3 (K0 (I (-1)) h nx) (K0 (I 0) h nx) := by kernel_rfl
theorem F244.tab : T.get none (.of 244) tbl = some F244 := by kernel_rfl
theorem F244.go : zW tbl N C (.of 244) [a0, a1] h nx K0 =
 C.fn 250 (.of 250) [a0] h nx fun v1 h2 n3 => C.fn 250 (.of 250) [a1] h2 n3 fun v4 h5 n6 => yD v1 (yD v4 (K0 (I 0) h5 n6) (K0 (I (-1)) h5 n6)) (yD v4 (K0 (I 1) h5 n6) (sBin .lss .int a0 a1 fun v7 => yD v7 (K0 (I (-1)) h5 n6) (sBin .gtr .int a0 a1 fun v8 => yD v8 (K0 (I 1) h5 n6) (K0 (I 0) h5 n6)))) := by
 rw [zM F244.tab]; kernel_rfl
theorem F250.tab : T.get none (.of 250) tbl = some F250 := by kernel_rfl
theorem F250.go : zW tbl N C (.of 250) [a0] h nx K0 =
 sBin .neq .int a0 a0 fun v1 => K0 v1 h nx := by
 rw [zM F250.tab]; kernel_rfl
end Go.Ev
namespace Go.Ev
open Go Go.Proofs
set_option maxRecDepth 100000
variable {N : Nat} {C : Calls Prop} {K0 : Kw Prop} {K R : Ks Prop} {h : T Blk} {nx : Pa} {a b e f d g i o p q c l a0 a1 : AV}
theorem F97.g1_eq (X2 : IR) (O : Outs Prop) (t : T AV) : IR.run (F97.g1 X2) C N O K t h nx = IR.run X2 C N (O.blk 0 K) K t h nx := by kernel_rfl
theorem F97.tab : T.get none (.of 97) tbl = some F97 := by kernel_rfl
theorem F97.go : zW tbl N C (.of 97) [a0, a1] h nx K0 =
 sLen a0 fun v1 => IR.run F97.b1 C N (fnO F97.res K0) (IR.run F97.b8 C N (fnO F97.res K0) (retK F97.res K0)) (F97.fr a0 a1 (I 0) .undef .undef a0 v1 (I 0) .undef .undef) h nx := by
 rw [zM F97.tab]; kernel_rfl
theorem F97.L1 (Inv : Nat → AV → T Blk → Pa → Prop) {m : Nat} (hm : m < N) (hi : Inv m o h nx)
  (step : ∀ (m : Nat) (z2 z3 z4 z7 z8 z9 : AV) (h : T Blk) (nx : Pa) (R : Ks Prop), Inv m z7 h nx → (∀ (m' : Nat) (w2 w3 w4 w7 w8 w9 : AV) (h' : T Blk) (nx' : Pa), m' < m → Inv m' w7 h' nx' → R (F97.fr a b w2 w3 w4 g i w7 w8 w9) h' nx' = .ok True) →
   (sBin .lss .int z7 i fun v1 => yD v1 (zO 2 g z7 fun v2 => zI 2 v2 h fun v3 => yL [.nils, (.bool false)] h nx fun v4 h5 n6 => zN 2 v4 v3 h5 n6 fun v7 h8 n9 => zI 2 v4 h8 fun vA => C.fn 56 (.of 56) [vA, b] h8 n9 fun vB hB nB => sBin .neq .int vB (I 0) fun vE => yD vE (K0 vB hB nB) (sBin .add .int z7 (I 1) fun vF => R (F97.fr a b z2 v4 vB g i vF v1 vE) hB nB)) (K (F97.fr a b z2 z3 z4 g i z7 v1 z9) h nx)) = .ok True) :
  IR.run F97.b1 C N (fnO F97.res K0) K (F97.fr a b e f d g i o p q) h nx = .ok True := by
 rw [F97.b1, F97.g1_eq, F97.b2]
 refine yJ (fun m tm h nx => ∃ z2 z3 z4 z7 z8 z9, tm = (F97.fr a b z2 z3 z4 g i z7 z8 z9) ∧ Inv m z7 h nx) ?_ hm ⟨_, _, _, _, _, _, rfl, hi⟩
 rintro m tm h nx R ⟨z2, z3, z4, z7, z8, z9, rfl, hi⟩ hR
 refine Eq.trans ?_ (step m z2 z3 z4 z7 z8 z9 h nx R hi fun m' w2 w3 w4 w7 w8 w9 h' nx' hlt hi' => hR m' _ h' nx' hlt ⟨_, _, _, _, _, _, rfl, hi'⟩)
 kernel_rfl
theorem F97.k8 : IR.run F97.b8 C N (fnO F97.res K0) K (F97.fr a b e f d g i o p q) h nx =
 K0 (I 0) h nx := by kernel_rfl
theorem F90.tab : T.get none (.of 90) tbl = some F90 := by kernel_rfl
theorem F90.go : zW tbl N C (.of 90) [a0] h nx K0 =
 sBox a0 h nx fun v1 h2 n3 => K0 (.fn 159 (.of 159) [v1]) h2 n3 := by
 rw [zM F90.tab]; kernel_rfl
theorem F162.tab : T.get none (.of 162) tbl = some F162 := by kernel_rfl
theorem F162.go : zW tbl N C (.of 162) [a0, a1] h nx K0 =
 sBox a0 h nx fun v1 h2 n3 => sBox a1 h2 n3 fun v4 h5 n6 => zT 0 v1 fun v7 => zG v7 h5 fun v8 => zT 0 v4 fun v9 => zG v9 h5 fun vA => C.fn 201 (.of 201) [v8, vA] h5 n6 fun vB hB nB => sBin .neq .int vB (I 0) fun vE => sG vE false (fun k => zT 1 v1 k) fun vF => sG vE false (fun k => zG vF hB k) fun vG => sG vE false (fun k => zT 1 v4 k) fun vH => sG vE false (fun k => zG vH hB k) fun vI => sG vE false (fun k => sBin .eql .bool vG vI k) fun vJ => gH vE (.bool true) vJ fun vK => yD vK (K0 vB hB nB) ((IR.run F162.b1 C N (fnO F162.res K0) (retK F162.res K0)) (F162.fr a0 a1 v1 v4 (I 0) vB vK .undef) hB nB) := by
 rw [zM F162.tab]; kernel_rfl
theorem F162.k1 : IR.run F162.b1 C N (fnO F162.res K0) K (F162.fr a b e f d g i o) h nx =
 zT 1 e fun v1 => zG v1 h fun v2 => yD v2 (K0 (I 1) h nx) (K0 (I (-1)) h nx) := by kernel_rfl
theorem F56.tab : T.get none (.of 56) tbl = some F56 := by kernel_rfl
theorem F56.go : zW tbl N C (.of 56) [a0, a1] h nx K0 =
 sBox a0 h nx fun v1 h2 n3 => zT 0 v1 fun v4 => zG v4 h2 fun v5 => sLen v5 fun v6 => sBin .neq .int v6 a1 fun v7 => zT 0 v1 fun v8 => zG v8 h2 fun v9 => C.fn 95 (.of 95) [a1] h2 n3 fun vA hG nG => (zG v8 hG fun vW => zK vW v9 ((zT 0 v1 fun vX => zK vX v8 ((sBin .neq .int v6 a1 fun vY => zK vY v7 (zK a1 a1 ((sLen v5 fun vZ => zK vZ v6 ((zG v4 hG fun v32 => zK v32 v5 ((zT 0 v1 fun vP => zK vP v4 (C.fn 96 (.of 96) [v7, (I 2)] hG nG fun vD hH nI => (zG v8 hH fun vQ => zK vQ v9 ((zT 0 v1 fun vR => zK vR v8 (C.fn 140 (.of 140) [v9] hH nI fun vG hF nF => sNot vG fun vJ => C.fn 96 (.of 96) [vJ, (I 14)] hF nF fun vK hI nJ => jC 1 3 [(I 0)] [(0, 1, vA), (1, 1, vD), (2, 1, vK)] hI nJ fun vN hE nE => C.fn 94 (.of 94) [vN] hE nE fun vV hJ nK => K0 vV hJ nK))))))))))))))))) := by
 rw [zM F56.tab]; kernel_rfl
theorem F159.g1_eq (X2 : IR) (O : Outs Prop) (t : T AV) : IR.run (F159.g1 X2) C N O K t h nx = IR.run X2 C N (O.blk 0 K) K t h nx := by kernel_rfl
theorem F159.tab : T.get none (.of 159) tbl = some F159 := by kernel_rfl
theorem F159.go : zW tbl N C (.of 159) [a0, a1] h nx K0 =
 zG a1 h fun v1 => sLen v1 fun v2 => IR.run F159.b1 C N (fnO F159.res K0) (retK F159.res K0) (F159.fr a0 a1 .undef .undef v1 v2 (I 0) .undef .undef) h nx := by
 rw [zM F159.tab]; kernel_rfl
theorem F159.L1 (Inv : Nat → AV → T Blk → Pa → Prop) {m : Nat} (hm : m < N) (hi : Inv m i h nx)
  (step : ∀ (m : Nat) (z2 z3 z6 z7 z8 : AV) (h : T Blk) (nx : Pa) (R : Ks Prop), Inv m z6 h nx → (∀ (m' : Nat) (w2 w3 w6 w7 w8 : AV) (h' : T Blk) (nx' : Pa), m' < m → Inv m' w6 h' nx' → R (F159.fr a b w2 w3 d g w6 w7 w8) h' nx' = .ok True) →
   (sBin .lss .int z6 g fun v1 => yD v1 (zO 2 d z6 fun v2 => zI 2 v2 h fun v3 => yL [.nils, (.bool false)] h nx fun v4 h5 n6 => zN 2 v4 v3 h5 n6 fun v7 h8 n9 => zI 2 v4 h8 fun vA => sCall C a [z6, vA] h8 n9 fun vB hB nB => sNot vB fun vE => yD vE (K0 (.tup []) hB nB) (sBin .add .int z6 (I 1) fun vF => R (F159.fr a b z6 v4 d g vF v1 vE) hB nB)) (K (F159.fr a b z2 z3 d g z6 v1 z8) h nx)) = .ok True) :
  IR.run F159.b1 C N (fnO F159.res K0) K (F159.fr a b e f d g i o p) h nx = .ok True := by
 rw [F159.b1, F159.g1_eq, F159.b2]
 refine yJ (fun m tm h nx => ∃ z2 z3 z6 z7 z8, tm = (F159.fr a b z2 z3 d g z6 z7 z8) ∧ Inv m z6 h nx) ?_ hm ⟨_, _, _, _, _, rfl, hi⟩
 rintro m tm h nx R ⟨z2, z3, z6, z7, z8, rfl, hi⟩ hR
 refine Eq.trans ?_ (step m z2 z3 z6 z7 z8 h nx R hi fun m' w2 w3 w6 w7 w8 h' nx' hlt hi' => hR m' _ h' nx' hlt ⟨_, _, _, _, _, rfl, hi'⟩)
 kernel_rfl
theorem F163.g1_eq (X2 : IR) (O : Outs Prop) (t : T AV) : IR.run (F163.g1 X2) C N O K t h nx = IR.run X2 C N (O.blk 0 K) K t h nx := by kernel_rfl
theorem F163.tab : T.get none (.of 163) tbl = some F163 := by kernel_rfl
theorem F163.go : zW tbl N C (.of 163) [a0] h nx K0 =
 yL [.nils, (.bool false)] h nx fun v1 h2 n3 => uC 1 8 [(I 0)] a0 a0 h2 n3 fun v4 h5 n6 => kL [.nils, (.bool false)] [(0, 1, v4)] fun v7 => yL [.nils, (.bool false)] h5 n6 fun v8 h9 nH => zN 2 v8 v7 h9 nH fun vB hB nB => zT 0 v8 fun vE => zG vE hB fun vF => sLen vF fun vG => IR.run F163.b1 C N (fnO F163.res K0) (IR.run F163.b8 C N (fnO F163.res K0) (retK F163.res K0)) (F163.fr a0 v1 v8 .undef vG (I 0) .undef) hB nB := by
 rw [zM F163.tab]; kernel_rfl
theorem F163.L1 (Inv : Nat → AV → T Blk → Pa → Prop) {m : Nat} (hm : m < N) (hi : Inv m g h nx)
  (step : ∀ (m : Nat) (z3 z5 z6 : AV) (h : T Blk) (nx : Pa) (R : Ks Prop), Inv m z5 h nx → (∀ (m' : Nat) (w3 w5 w6 : AV) (h' : T Blk) (nx' : Pa), m' < m → Inv m' w5 h' nx' → R (F163.fr a b e w3 d w5 w6) h' nx' = .ok True) →
   (sBin .lss .int z5 d fun v1 => yD v1 (zT 0 e fun v2 => zG v2 h fun v3 => zO 1 v3 z5 fun v4 => zN 1 v4 z5 h nx fun v5 h6 n7 => sBin .add .int z5 (I 1) fun v8 => R (F163.fr a b e z5 d v8 v1) h6 n7) (K (F163.fr a b e z3 d z5 v1) h nx)) = .ok True) :
  IR.run F163.b1 C N (fnO F163.res K0) K (F163.fr a b e f d g i) h nx = .ok True := by
 rw [F163.b1, F163.g1_eq, F163.b2]
 refine yJ (fun m tm h nx => ∃ z3 z5 z6, tm = (F163.fr a b e z3 d z5 z6) ∧ Inv m z5 h nx) ?_ hm ⟨_, _, _, rfl, hi⟩
 rintro m tm h nx R ⟨z3, z5, z6, rfl, hi⟩ hR
 refine Eq.trans ?_ (step m z3 z5 z6 h nx R hi fun m' w3 w5 w6 h' nx' hlt hi' => hR m' _ h' nx' hlt ⟨_, _, _, rfl, hi'⟩)
 kernel_rfl
theorem F163.k8 : IR.run F163.b8 C N (fnO F163.res K0) K (F163.fr a b e f d g i) h nx =
 zI 2 e h fun v1 => zN 2 b v1 h nx fun v2 h3 n4 => zI 2 b h3 fun v5 => K0 v5 h3 n4 := by kernel_rfl
theorem F123.g1_eq (X2 : IR) (O : Outs Prop) (t : T AV) : IR.run (F123.g1 X2) C N O K t h nx = IR.run X2 C N (O.blk 0 K) K t h nx := by kernel_rfl
theorem F123.tab : T.get none (.of 123) tbl = some F123 := by kernel_rfl
theorem F123.go : zW tbl N C (.of 123) [a0] h nx K0 =
 sBox a0 h nx fun v1 h2 n3 => zT 0 v1 fun v4 => zG v4 h2 fun v5 => sLen v5 fun v6 => sBin .add .int v6 (I 1) fun v7 => uC 1 1 [(.int .u8 0)] (I 0) v7 h2 n3 fun v8 h9 nH => zT 0 v1 fun vB => zG vB h9 fun vC => sLen vC fun vD => IR.run F123.b1 C N (fnO F123.res K0) (IR.run F123.b8 C N (fnO F123.res K0) (retK F123.res K0)) (F123.fr a0 v1 (.str []) v8 .undef vC vD (I 0) .undef .undef) h9 nH := by
 rw [zM F123.tab]; kernel_rfl
theorem F123.L1 (Inv : Nat → AV → AV → T Blk → Pa → Prop) {m : Nat} (hm : m < N) (hi : Inv m f o h nx)
  (step : ∀ (m : Nat) (z3 z4 z7 z8 : AV) (h : T Blk) (nx : Pa) (R : Ks Prop), Inv m z3 z7 h nx → (∀ (m' : Nat) (w3 w4 w7 w8 : AV) (h' : T Blk) (nx' : Pa), m' < m → Inv m' w3 w7 h' nx' → R (F123.fr a b e w3 w4 g i w7 w8 q) h' nx' = .ok True) →
   (sBin .lss .int z7 i fun v1 => yD v1 (zO 1 g z7 fun v2 => zG v2 h fun v3 => sConv .u8 v3 fun v4 => jC 1 1 [(.int .u8 0)] [(0, 1, v4)] h nx fun v5 h6 n7 => sApp 1 1 z3 v5 h6 n7 fun v8 h9 nH => sBin .add .int z7 (I 1) fun vB => R (F123.fr a b e v8 v3 g i vB v1 q) h9 nH) (K (F123.fr a b e z3 z4 g i z7 v1 q) h nx)) = .ok True) :
  IR.run F123.b1 C N (fnO F123.res K0) K (F123.fr a b e f d g i o p q) h nx = .ok True := by
 rw [F123.b1, F123.g1_eq, F123.b2]
 refine yJ (fun m tm h nx => ∃ z3 z4 z7 z8, tm = (F123.fr a b e z3 z4 g i z7 z8 q) ∧ Inv m z3 z7 h nx) ?_ hm ⟨_, _, _, _, rfl, hi⟩
 rintro m tm h nx R ⟨z3, z4, z7, z8, rfl, hi⟩ hR
 refine Eq.trans ?_ (step m z3 z4 z7 z8 h nx R hi fun m' w3 w4 w7 w8 h' nx' hlt hi' => hR m' _ h' nx' hlt ⟨_, _, _, _, rfl, hi'⟩)
 kernel_rfl
theorem F123.k8 : IR.run F123.b8 C N (fnO F123.res K0) K (F123.fr a b e f d g i o p q) h nx =
 zT 1 b fun v1 => zG v1 h fun v2 => yD v2 (jC 1 1 [(.int .u8 0)] [(0, 1, (.int .u8 1))] h nx fun v3 h4 n5 => sApp 1 1 f v3 h4 n5 fun v6 h7 n8 => sB2s v6 h7 fun v9 => K0 v9 h7 n8) (sB2s f h fun vA => K0 vA h nx) := by kernel_rfl
theorem F121.tab : T.get none (.of 121) tbl = some F121 := by kernel_rfl
theorem F121.go : zW tbl N C (.of 121) [a0, a1] h nx K0 =
 sBox a1 h nx fun v1 h2 n3 => zI 2 v1 h2 fun v4 => C.fn 123 (.of 123) [v4] h2 n3 fun v5 h6 n7 => sLook .str (.agg [.nils, (.bool false)]) true a0 v5 h6 fun v8 => sExt 0 v8 fun v9 => sExt 1 v8 fun vA => yL [.nils, (.bool false)] h6 n7 fun vB hB nB => zN 2 vB v9 hB nB fun vE hA nA => K0 vA hA nA := by
 rw [zM F121.tab]; kernel_rfl
theorem F122.g1_eq (X2 : IR) (O : Outs Prop) (t : T AV) : IR.run (F122.g1 X2) C N O K t h nx = IR.run X2 C N (O.blk 0 K) K t h nx := by kernel_rfl
theorem F122.tab : T.get none (.of 122) tbl = some F122 := by kernel_rfl
theorem F122.go : zW tbl N C (.of 122) [a0, a1] h nx K0 =
 sBox a0 h nx fun v1 h2 n3 => sBox a1 h2 n3 fun v4 h5 n6 => yL [.nils, (.bool false)] h5 n6 fun v7 h8 n9 => sChk (true && true) (zT 0 v4 fun vA => zG vA h8 fun vB => sLen vB fun vC => sChk (mkSl 8 vC vC && true) (zT 1 v1 fun vD => zG vD h8 fun vE => zT 1 v4 fun vF => zG vF h8 fun vG => sBin .neq .bool vE vG fun vH => uC 1 8 [(I 0)] vC vC h8 n9 fun vI hK nL => (sBin .neq .bool vE vG fun v47 => zK v47 vH ((zG vF hK fun v46 => zK v46 vG ((zT 1 v4 fun v45 => zK v45 vF ((zG vD hK fun v44 => zK v44 vE ((zT 1 v1 fun v43 => zK v43 vD ((sLen vB fun v42 => zK v42 vC ((zG vA hK fun v41 => zK v41 vB ((zT 0 v4 fun v40 => zK v40 vA (kL [.nils, (.bool false)] [(0, 1, vI), (1, 1, vH)] fun vL => yL [.nils, (.bool false)] hK nL fun vM hL nM => (kL [.nils, (.bool false)] [(0, 1, vI), (1, 1, vH)] fun v39 => zK v39 vL ((sBin .neq .bool vE vG fun v38 => zK v38 vH ((zG vF hL fun v37 => zK v37 vG ((zT 1 v4 fun vW => zK vW vF ((zG vD hL fun vX => zK vX vE ((zT 1 v1 fun vY => zK vY vD ((sLen vB fun vZ => zK vZ vC ((zG vA hL fun v32 => zK v32 vB ((zT 0 v4 fun vP => zK vP vA (zN 2 vM vL hL nM fun v25 hM nN => zT 0 v4 fun vS => zG vS hM fun vR => sLen vR fun vQ => IR.run F122.b1 C N (fnO F122.res K0) (IR.run F122.b8 C N (fnO F122.res K0) (retK F122.res K0)) (F122.fr a0 a1 v1 v4 v7 vM .undef .undef vR vQ (I 0) .undef) hM nN)))))))))))))))))))))))))))))))))))) := by
 rw [zM F122.tab]; kernel_rfl
theorem F122.L1 (Inv : Nat → AV → T Blk → Pa → Prop) {m : Nat} (hm : m < N) (hi : Inv m c h nx)
  (step : ∀ (m : Nat) (z6 z7 zJ zA : AV) (h : T Blk) (nx : Pa) (R : Ks Prop), Inv m zJ h nx → (∀ (m' : Nat) (w6 w7 wH wA : AV) (h' : T Blk) (nx' : Pa), m' < m → Inv m' wH h' nx' → R (F122.fr a b e f d g w6 w7 p q wH wA) h' nx' = .ok True) →
   (sBin .lss .int zJ q fun v1 => yD v1 (zO 1 p zJ fun v2 => zG v2 h fun v3 => zT 0 g fun v4 => zG v4 h fun v5 => zT 0 e fun v6 => zG v6 h fun v7 => zO 1 v7 v3 fun v8 => zG v8 h fun v9 => zO 1 v5 zJ fun vA => zN 1 vA v9 h nx fun vB hB nB => sBin .add .int zJ (I 1) fun vE => R (F122.fr a b e f d g zJ v3 p q vE v1) hB nB) (K (F122.fr a b e f d g z6 z7 p q zJ v1) h nx)) = .ok True) :
  IR.run F122.b1 C N (fnO F122.res K0) K (F122.fr a b e f d g i o p q c l) h nx = .ok True := by
 rw [F122.b1, F122.g1_eq, F122.b2]
 refine yJ (fun m tm h nx => ∃ z6 z7 zJ zA, tm = (F122.fr a b e f d g z6 z7 p q zJ zA) ∧ Inv m zJ h nx) ?_ hm ⟨_, _, _, _, rfl, hi⟩
 rintro m tm h nx R ⟨z6, z7, zJ, zA, rfl, hi⟩ hR
 refine Eq.trans ?_ (step m z6 z7 zJ zA h nx R hi fun m' w6 w7 wH wA h' nx' hlt hi' => hR m' _ h' nx' hlt ⟨_, _, _, _, rfl, hi'⟩)
 kernel_rfl
theorem F122.k8 : IR.run F122.b8 C N (fnO F122.res K0) K (F122.fr a b e f d g i o p q c l) h nx =
 zI 2 g h fun v1 => zN 2 d v1 h nx fun v2 h3 n4 => zI 2 d h3 fun v5 => K0 v5 h3 n4 := by kernel_rfl
theorem F140.tab : T.get none (.of 140) tbl = some F140 := by kernel_rfl
theorem F140.go : zW tbl N C (.of 140) [a0] h nx K0 =
 C.fn 198 (.of 198) [a0] h nx fun v1 h2 n3 => sBin .eql .int v1 (I 0) fun v4 => K0 v4 h2 n3 := by
 rw [zM F140.tab]; kernel_rfl
theorem F198.g2_eq (X3 : IR) (O : Outs Prop) (t : T AV) : IR.run (F198.g2 X3) C N O K t h nx = IR.run X3 C N (O.blk 0 K) K t h nx := by kernel_rfl
theorem F198.tab : T.get none (.of 198) tbl = some F198 := by kernel_rfl
theorem F198.go : zW tbl N C (.of 198) [a0] h nx K0 =
 sLen a0 fun v1 => sBin .gtr .int v1 (I 256) fun v2 => yD v2 (K0 (I 5) h nx) (sLen a0 fun v3 => uC 1 1 [(.bool false)] v3 v3 h nx fun v4 h5 n6 => sLen a0 fun v7 => IR.run F198.b2 C N (fnO F198.res K0) (IR.run F198.b10 C N (fnO F198.res K0) (retK F198.res K0)) (F198.fr a0 (I 0) v4 .undef v2 a0 v7 (I 0) .undef .undef) h5 n6) := by
 rw [zM F198.tab]; kernel_rfl
theorem F198.L2 (Inv : Nat → AV → T Blk → Pa → Prop) {m : Nat} (hm : m < N) (hi : Inv m o h nx)
  (step : ∀ (m : Nat) (z1 z3 z7 z8 z9 : AV) (h : T Blk) (nx : Pa) (R : Ks Prop), Inv m z7 h nx → (∀ (m' : Nat) (w1 w3 w7 w8 w9 : AV) (h' : T Blk) (nx' : Pa), m' < m → Inv m' w7 h' nx' → R (F198.fr a w1 e w3 d g i w7 w8 w9) h' nx' = .ok True) →
   (sBin .lss .int z7 i fun v1 => yD v1 (zO 1 g z7 fun v2 => zG v2 h fun v3 => sBin .lss .int v3 (I 0) fun v4 => sG v4 false (fun k => k v3) fun v5 => sG v4 false (fun k => k a) fun v6 => sG v4 false (fun k => sLen v6 k) fun v7 => sG v4 false (fun k => sBin .geq .int v5 v7 k) fun v8 => gH v4 (.bool true) v8 fun v9 => sG v9 false (fun k => k e) fun vA => sG v9 false (fun k => k v3) fun vB => sG v9 false (fun k => zO 1 vA vB k) fun vC => sG v9 false (fun k => zG vC h k) fun vD => gH v9 (.bool true) vD fun vE => yD vE (K0 (I 14) h nx) ((IR.run F198.b8 C N (((fnO F198.res K0).blk 0 K).blk 1 (IR.run F198.b9 C N ((fnO F198.res K0).blk 0 K) R)) (IR.run F198.b9 C N ((fnO F198.res K0).blk 0 K) R)) (F198.fr a z1 e v3 d g i z7 v1 vE) h nx)) (K (F198.fr a z1 e z3 d g i z7 v1 z9) h nx)) = .ok True) :
  IR.run F198.b2 C N (fnO F198.res K0) K (F198.fr a b e f d g i o p q) h nx = .ok True := by
 rw [F198.b2, F198.g2_eq, F198.b3]
 refine yJ (fun m tm h nx => ∃ z1 z3 z7 z8 z9, tm = (F198.fr a z1 e z3 d g i z7 z8 z9) ∧ Inv m z7 h nx) ?_ hm ⟨_, _, _, _, _, rfl, hi⟩
 rintro m tm h nx R ⟨z1, z3, z7, z8, z9, rfl, hi⟩ hR
 refine Eq.trans ?_ (step m z1 z3 z7 z8 z9 h nx R hi fun m' w1 w3 w7 w8 w9 h' nx' hlt hi' => hR m' _ h' nx' hlt ⟨_, _, _, _, _, rfl, hi'⟩)
 kernel_rfl
theorem F198.k10 : IR.run F198.b10 C N (fnO F198.res K0) K (F198.fr a b e f d g i o p q) h nx =
 K0 (I 0) h nx := by kernel_rfl
theorem F198.k9 {E0 : Ks Prop} : IR.run F198.b9 C N ((fnO F198.res K0).blk 0 E0) K (F198.fr a b e f d g i o p q) h nx =
 sBin .add .int o (I 1) fun v1 => K (F198.fr a b e f d g i v1 p q) h nx := by kernel_rfl
theorem F198.k8 {E0 E1 : Ks Prop} : IR.run F198.b8 C N (((fnO F198.res K0).blk 0 E0).blk 1 E1) K (F198.fr a b e f d g i o p q) h nx =
 zO 1 e f fun v1 => zN 1 v1 (.bool true) h nx fun v2 h3 n4 => K (F198.fr a b e f d g i o p q) h3 n4 := by kernel_rfl
theorem F94.g1_eq (X2 : IR) (O : Outs Prop) (t : T AV) : IR.run (F94.g1 X2) C N O K t h nx = IR.run X2 C N (O.blk 0 K) K t h nx := by kernel_rfl
theorem F94.tab : T.get none (.of 94) tbl = some F94 := by kernel_rfl
theorem F94.go : zW tbl N C (.of 94) [a0] h nx K0 =
 sLen a0 fun v1 => IR.run F94.b1 C N (fnO F94.res K0) (IR.run F94.b8 C N (fnO F94.res K0) (retK F94.res K0)) (F94.fr a0 (I 0) .undef a0 v1 (I 0) .undef .undef) h nx := by
 rw [zM F94.tab]; kernel_rfl
theorem F94.L1 (Inv : Nat → AV → T Blk → Pa → Prop) {m : Nat} (hm : m < N) (hi : Inv m g h nx)
  (step : ∀ (m : Nat) (z1 z2 z5 z6 z7 : AV) (h : T Blk) (nx : Pa) (R : Ks Prop), Inv m z5 h nx → (∀ (m' : Nat) (w1 w2 w5 w6 w7 : AV) (h' : T Blk) (nx' : Pa), m' < m → Inv m' w5 h' nx' → R (F94.fr a w1 w2 f d w5 w6 w7) h' nx' = .ok True) →
   (sBin .lss .int z5 d fun v1 => yD v1 (zO 1 f z5 fun v2 => zG v2 h fun v3 => sBin .neq .int v3 (I 0) fun v4 => yD v4 (K0 v3 h nx) (sBin .add .int z5 (I 1) fun v5 => R (F94.fr a z1 v3 f d v5 v1 v4) h nx)) (K (F94.fr a z1 z2 f d z5 v1 z7) h nx)) = .ok True) :
  IR.run F94.b1 C N (fnO F94.res K0) K (F94.fr a b e f d g i o) h nx = .ok True := by
 rw [F94.b1, F94.g1_eq, F94.b2]
 refine yJ (fun m tm h nx => ∃ z1 z2 z5 z6 z7, tm = (F94.fr a z1 z2 f d z5 z6 z7) ∧ Inv m z5 h nx) ?_ hm ⟨_, _, _, _, _, rfl, hi⟩
 rintro m tm h nx R ⟨z1, z2, z5, z6, z7, rfl, hi⟩ hR
 refine Eq.trans ?_ (step m z1 z2 z5 z6 z7 h nx R hi fun m' w1 w2 w5 w6 w7 h' nx' hlt hi' => hR m' _ h' nx' hlt ⟨_, _, _, _, _, rfl, hi'⟩)
 kernel_rfl
theorem F94.k8 : IR.run F94.b8 C N (fnO F94.res K0) K (F94.fr a b e f d g i o) h nx =
 K0 (I 0) h nx := by kernel_rfl
theorem F95.tab : T.get none (.of 95) tbl = some F95 := by kernel_rfl
theorem F95.go : zW tbl N C (.of 95) [a0] h nx K0 =
 sBin .lss .int a0 (I 0) fun v1 => sG v1 false (fun k => k a0) fun v2 => sG v1 false (fun k => sBin .gtr .int v2 (I 256) k) fun v3 => gH v1 (.bool true) v3 fun v4 => C.fn 96 (.of 96) [v4, (I 3)] h nx fun v5 h6 n7 => K0 v5 h6 n7 := by
 rw [zM F95.tab]; kernel_rfl
theorem F96.tab : T.get none (.of 96) tbl = some F96 := by kernel_rfl
theorem F96.go : zW tbl N C (.of 96) [a0, a1] h nx K0 =
 yD a0 (K0 a1 h nx) (K0 (I 0) h nx) := by
 rw [zM F96.tab]; kernel_rfl
end Go.Ev
namespace Go.Ev
open Go Go.Proofs
set_option maxRecDepth 100000
variable {N : Nat} {C : Calls Prop} {K0 : Kw Prop} {K R : Ks Prop} {h : T Blk} {nx : Pa} {a b e f d g i o p q c l w s u v y z B A D E F G H a0 a1 a2 : AV}
theorem F98.g13_eq (X14 : IR) (O : Outs Prop) (t : T AV) : IR.run (F98.g13 X14) C N O K t h nx = IR.run X14 C N (O.blk 4 K) K t h nx := by kernel_rfl
theorem F98.g7_eq (X8 : IR) (O : Outs Prop) (t : T AV) : IR.run (F98.g7 X8) C N O K t h nx = IR.run X8 C N (O.blk 2 K) K t h nx := by kernel_rfl
theorem F98.tab : T.get none (.of 98) tbl = some F98 := by kernel_rfl
theorem F98.go : zW tbl N C (.of 98) [a0, a1, a2] h nx K0 =
 sBox a2 h nx fun v1 h2 n3 => yL [.nilm] h2 n3 fun v4 h5 n6 => yL [.nils] h5 n6 fun v7 h8 n9 => yL [(.bool false)] h8 n9 fun vA hG nG => C.fn 163 (.of 163) [a1] hG nG fun vD hH nI => yL [.nils, (.bool false)] hH nI fun vG hF nF => zN 2 vG vD hF nF fun vJ hD nD => sChk (true && (true && true)) (zI 2 vG hD fun vM => zI 2 vG hD fun vN => C.fn 123 (.of 123) [vM] hD nD fun vO hC nC => (zI 2 vG hC fun v52 => zK v52 vN ((zI 2 vG hC fun v51 => zK v51 vM (sMkmap hC nC fun vU hN nO => (zI 2 vG hN fun v50 => zK v50 vN ((zI 2 vG hN fun v49 => zK v49 vM (pJ .str vU vO vN hN nO fun vQ hO nP => (zI 2 vG hO fun v48 => zK v48 vN ((zI 2 vG hO fun v47 => zK v47 vM (yL [.nilm] hO nP fun vZ hP nQ => zK vU vU ((zI 2 vG hP fun v46 => zK v46 vN ((zI 2 vG hP fun v45 => zK v45 vM (zN 1 vZ vU hP nQ fun vW hQ nR => yL [.nils] hQ nR fun v39 hS nS => C.fn 90 (.of 90) [a0] hS nS fun v42 hT nT => IR.run (.rf (.t (.of 14)) [(.of 15), (.of 16)] F98.b3 F98.b4) C N ((fnO F98.res K0).blk 0 (IR.run F98.b23 C N (fnO F98.res K0) (retK F98.res K0))) (IR.run F98.b23 C N (fnO F98.res K0) (retK F98.res K0)) (F98.fr a0 a1 a2 v1 v4 v7 vA vG vZ v39 .undef .undef .undef .undef v42 .undef .undef .undef .undef .undef .undef .undef .undef .undef .undef) hT nT)))))))))))))))))) := by
 rw [zM F98.tab]; kernel_rfl
theorem F98.k23 : IR.run F98.b23 C N (fnO F98.res K0) K (F98.fr a b e f d g i o p q c l w s u v y z B A D E F G H) h nx =
 zG p h fun v1 => zG q h fun v2 => zN 1 d v1 h nx fun v3 h4 n5 => (zG q h4 fun vF => zK vF v2 (zN 1 g v2 h4 n5 fun v6 h7 n8 => zN 1 i (.bool true) h7 n8 fun v9 hU nU => zG d hU fun vC => zG g hU fun vD => zG i hU fun vE => K0 (.tup [vC, vD, vE]) hU nU)) := by kernel_rfl
theorem F98.p4 {N : Nat} {C : Calls Prop} {K0 : Kw Prop} {id nx : Pa} {j : Jump} {h : T Blk} {a b e f d g i o p q c l w s u v y z B A D E F G H z0 z1 : AV} (hl : T.get .no id h = .loop .ready j (F98.fr a b e f d g i o p q c l w s u v y z B A D E F G H) [.of 15, .of 16] F98.b3 F98.b4) :
 qU N C id [z0, z1] h nx K0 =
 yL [.nils, (.bool false)] h nx fun v1 h2 n3 => zN 2 v1 z1 h2 n3 fun v4 h5 n6 => rMid N C id K0 F98.b4 (F98.fr a b e f d g i o p q v1 l w s u z0 z1 z B A D E F G H) h5 n6 := by
 rw [rnd_gen hl (tm1 := (F98.fr a b e f d g i o p q c l w s u z0 z1 z B A D E F G H)) (by intro k; kernel_rfl)]; kernel_rfl
theorem F98.y4 {N : Nat} {C : Calls Prop} {K0 : Kw Prop} {id nx : Pa} {h : T Blk} {a b e f d g i o p q c l w s u v y z B A D E F G H : AV} :
 IR.run F98.b4 C N (rO id K0) (yS id K0 .none true) (F98.fr a b e f d g i o p q c l w s u v y z B A D E F G H) h nx =
 zG p h fun v1 => zI 2 c h fun v2 => C.fn 121 (.of 121) [v1, v2] h nx fun v3 h4 n5 => yD v3 (yS id K0 .none true .e h4 n5) (zG q h4 fun v6 => zI 2 c h4 fun v7 => jC 2 1 [.nils, (.bool false)] [(0, 2, v7)] h4 n5 fun v8 h9 nH => kP C 2 32 v6 v8 h9 nH fun vB hB nB => zN 1 q vB hB nB fun vE hA nA => sChk (true && true) (zI 2 o hA fun vH => zI 2 o hA fun vI => C.fn 123 (.of 123) [vH] hA nA fun vJ hD nD => (zI 2 o hD fun v38 => zK v38 vI ((zI 2 o hD fun v37 => zK v37 vH (sMkmap hD nD fun vM hL nM => (zI 2 o hL fun vW => zK vW vI ((zI 2 o hL fun vX => zK vX vH (pJ .str vM vJ vI hL nM fun v25 hM nN => zN 1 p vM hM nN fun vS hV nV => zI 2 o hV fun vP => jC 2 1 [.nils, (.bool false)] [(0, 2, vP)] hV nV fun v32 hW nW => IR.run F98.b7 C N ((rO id K0).blk 1 (yS id K0 .none true)) (yS id K0 .none true) (F98.fr a b e f d g i o p q c v32 w s u v y v3 B A D E F G H) hW nW)))))))))) := by kernel_rfl
theorem F98.L7 {id : Pa} {E1 : Ks Prop} (Inv : Nat → AV → T Blk → Pa → Prop) {m : Nat} (hm : m < N) (hi : Inv m l h nx)
  (step : ∀ (m : Nat) (zA zB zC zL zP zQ zR zS zU zV : AV) (h : T Blk) (nx : Pa) (R : Ks Prop), Inv m zA h nx → (∀ (m' : Nat) (wA wB wC wI wJ wK wL wM wN wO : AV) (h' : T Blk) (nx' : Pa), m' < m → Inv m' wA h' nx' → R (F98.fr a b e f d g i o p q c wA wB wC u v y z wI wJ wK wL wM wN wO) h' nx' = .ok True) →
   (sLen zA fun v1 => sBin .gtr .int v1 (I 0) fun v2 => yD v2 (zG q h fun v3 => sLen v3 fun v4 => IR.run F98.b13 C N ((((rO id K0).blk 1 E1).blk 2 K).blk 3 (IR.run F98.b22 C N (((rO id K0).blk 1 E1).blk 2 K) R)) (IR.run F98.b22 C N (((rO id K0).blk 1 E1).blk 2 K) R) (F98.fr a b e f d g i o p q c zA zB zC u v y z v2 v3 v4 (I 0) zS zU zV) h nx) (K (F98.fr a b e f d g i o p q c zA zB zC u v y z v2 zP zQ zR zS zU zV) h nx)) = .ok True) :
  IR.run F98.b7 C N ((rO id K0).blk 1 E1) K (F98.fr a b e f d g i o p q c l w s u v y z B A D E F G H) h nx = .ok True := by
 rw [F98.b7, F98.g7_eq, F98.b8]
 refine yJ (fun m tm h nx => ∃ zA zB zC zL zP zQ zR zS zU zV, tm = (F98.fr a b e f d g i o p q c zA zB zC u v y z zL zP zQ zR zS zU zV) ∧ Inv m zA h nx) ?_ hm ⟨_, _, _, _, _, _, _, _, _, _, rfl, hi⟩
 rintro m tm h nx R ⟨zA, zB, zC, zL, zP, zQ, zR, zS, zU, zV, rfl, hi⟩ hR
 refine Eq.trans ?_ (step m zA zB zC zL zP zQ zR zS zU zV h nx R hi fun m' wA wB wC wI wJ wK wL wM wN wO h' nx' hlt hi' => hR m' _ h' nx' hlt ⟨_, _, _, _, _, _, _, _, _, _, rfl, hi'⟩)
 kernel_rfl
theorem F98.k22 {id : Pa} {E1 E2 : Ks Prop} : IR.run F98.b22 C N (((rO id K0).blk 1 E1).blk 2 E2) K (F98.fr a b e f d g i o p q c l w s u v y z B A D E F G H) h nx =
 uI 2 l (some (I 1)) none none fun v1 => K (F98.fr a b e f d g i o p q c v1 w s u v y z B A D E F G H) h nx := by kernel_rfl
theorem F98.L13 {id : Pa} {E1 E2 E3 : Ks Prop} (Inv : Nat → AV → AV → T Blk → Pa → Prop) {m : Nat} (hm : m < N) (hi : Inv m l E h nx)
  (step : ∀ (m : Nat) (zA zB zC zR zS zU zV : AV) (h : T Blk) (nx : Pa) (R : Ks Prop), Inv m zA zR h nx → (∀ (m' : Nat) (wA wB wC wL wM wN wO : AV) (h' : T Blk) (nx' : Pa), m' < m → Inv m' wA wL h' nx' → R (F98.fr a b e f d g i o p q c wA wB wC u v y z B A D wL wM wN wO) h' nx' = .ok True) →
   (sBin .lss .int zR D fun v1 => yD v1 (zO 2 A zR fun v2 => zI 2 v2 h fun v3 => yL [.nils, (.bool false)] h nx fun v4 h5 n6 => zN 2 v4 v3 h5 n6 fun v7 h8 n9 => sChk (true && true) (zI 2 v4 h8 fun vA => zO 2 zA (I 0) fun vB => zI 2 vB h8 fun vC => C.fn 122 (.of 122) [vA, vC] h8 n9 fun vD hH nI => (zI 2 vB hH fun v65 => zK v65 vC ((zO 2 zA (I 0) fun v64 => zK v64 vB (zK zA zA ((zI 2 v4 hH fun v63 => zK v63 vA (yL [.nils, (.bool false)] hH nI fun vG hF nF => (zI 2 vB hF fun v62 => zK v62 vC ((zO 2 zA (I 0) fun v61 => zK v61 vB (zK zA zA ((zI 2 v4 hF fun v60 => zK v60 vA (zN 2 vG vD hF nF fun vJ hD nD => zG p hD fun vM => zI 2 vG hD fun vN => C.fn 121 (.of 121) [vM, vN] hD nD fun vO hC nC => yD vO (sBin .add .int zR (I 1) fun vU => R (F98.fr a b e f d g i o p q c zA v4 vG u v y z B A D vU v1 vO zV) hC nC) (zG p hC fun vS => sMlen vS hC fun vR => zG f hC fun vQ => sBin .eql .int vR vQ fun vP => yD vP (zN 1 d .nilm hC nC fun v32 hW nW => zN 1 g .nils hW nW fun vX hX nX => zN 1 i (.bool false) hX nX fun v38 hY nY => yS id K0 .ret false .e hY nY) (zG p hC fun v41 => zI 2 vG hC fun v42 => zI 2 vG hC fun v43 => C.fn 123 (.of 123) [v42] hC nC fun v44 hZ nZ => (zI 2 vG hZ fun v59 => zK v59 v43 ((zG p hZ fun v58 => zK v58 v41 (pJ .str v41 v44 v43 hZ nZ fun v47 h48 n49 => zI 2 vG h48 fun v50 => jC 2 1 [.nils, (.bool false)] [(0, 2, v50)] h48 n49 fun v51 h52 n53 => kP C 2 32 zA v51 h52 n53 fun v54 h55 n56 => sBin .add .int zR (I 1) fun v57 => R (F98.fr a b e f d g i o p q c v54 v4 vG u v y z B A D v57 v1 vO vP) h55 n56)))))))))))))))))))))) (K (F98.fr a b e f d g i o p q c zA zB zC u v y z B A D zR v1 zU zV) h nx)) = .ok True) :
  IR.run F98.b13 C N ((((rO id K0).blk 1 E1).blk 2 E2).blk 3 E3) K (F98.fr a b e f d g i o p q c l w s u v y z B A D E F G H) h nx = .ok True := by
 rw [F98.b13, F98.g13_eq, F98.b14]
 refine yJ (fun m tm h nx => ∃ zA zB zC zR zS zU zV, tm = (F98.fr a b e f d g i o p q c zA zB zC u v y z B A D zR zS zU zV) ∧ Inv m zA zR h nx) ?_ hm ⟨_, _, _, _, _, _, _, rfl, hi⟩
 rintro m tm h nx R ⟨zA, zB, zC, zR, zS, zU, zV, rfl, hi⟩ hR
 refine Eq.trans ?_ (step m zA zB zC zR zS zU zV h nx R hi fun m' wA wB wC wL wM wN wO h' nx' hlt hi' => hR m' _ h' nx' hlt ⟨_, _, _, _, _, _, _, rfl, hi'⟩)
 kernel_rfl
end Go.Ev
namespace Go.Ev
open Go Go.Proofs
set_option maxRecDepth 100000
variable {N : Nat} {C : Calls Prop} {K0 : Kw Prop} {K R : Ks Prop} {h : T Blk} {nx : Pa} {a b e f d g i o p q c l w s u v y z B A a0 a1 : AV}
theorem F92.tab : T.get none (.of 92) tbl = some F92 := by kernel_rfl
theorem F92.go : zW tbl N C (.of 92) [a0, a1] h nx K0 =
 sBox a0 h nx fun v1 h2 n3 => yL [.nilm] h2 n3 fun v4 h5 n6 => yL [.nils] h5 n6 fun v7 h8 n9 => yL [(I 0)] h8 n9 fun vA hG nG => zG v1 hG fun vD => sLen vD fun vE => sBin .eql .int vE (I 0) fun vF => zG v1 hG fun vG => sLen vG fun vH => sBin .gtr .int vH (I 1536) fun vI => C.fn 95 (.of 95) [a1] hG nG fun vJ hD nD => (sBin .gtr .int vH (I 1536) fun v76 => zK v76 vI ((sLen vG fun v75 => zK v75 vH ((zG v1 hD fun v74 => zK v74 vG ((sBin .eql .int vE (I 0) fun v73 => zK v73 vF ((sLen vD fun v72 => zK v72 vE ((zG v1 hD fun v71 => zK v71 vD (C.fn 96 (.of 96) [vF, (I 12)] hD nD fun vM hL nM => (sBin .gtr .int vH (I 1536) fun v70 => zK v70 vI ((sLen vG fun v69 => zK v69 vH ((zG v1 hL fun v68 => zK v68 vG (C.fn 96 (.of 96) [vI, (I 5)] hL nM fun v25 hM nN => jC 1 3 [(I 0)] [(0, 1, vJ), (1, 1, vM), (2, 1, v25)] hM nN fun vS hV nV => C.fn 94 (.of 94) [vS] hV nV fun vP h32 n33 => sBin .neq .int vP (I 0) fun vY => yD vY (zN 1 v4 .nilm h32 n33 fun vX hX nX => zN 1 v7 .nils hX nX fun v38 hY nY => zN 1 vA vP hY nY fun v41 h42 n43 => zG v4 h42 fun v44 => zG v7 h42 fun v45 => zG vA h42 fun v46 => K0 (.tup [v44, v45, v46]) h42 n43) (zG v1 h32 fun v47 => C.fn 97 (.of 97) [v47, a1] h32 n33 fun v48 h49 n50 => sBin .neq .int v48 (I 0) fun v51 => yD v51 (zN 1 v4 .nilm h49 n50 fun v52 h53 n54 => zN 1 v7 .nils h53 n54 fun v55 h56 n57 => zN 1 vA v48 h56 n57 fun v58 h59 n60 => zG v4 h59 fun v61 => zG v7 h59 fun v62 => zG vA h59 fun v63 => K0 (.tup [v61, v62, v63]) h59 n60) (zG v1 h49 fun v64 => C.fn 90 (.of 90) [v64] h49 n50 fun v65 h66 n67 => IR.run (.rf (.t (.of 15)) [(.of 16), (.of 17)] F92.b5 F92.b6) C N ((fnO F92.res K0).blk 0 (IR.run F92.b8 C N (fnO F92.res K0) (retK F92.res K0))) (IR.run F92.b8 C N (fnO F92.res K0) (retK F92.res K0)) (F92.fr a0 a1 v1 v4 v7 vA vP v48 .undef .undef .undef .undef .undef vY v51 v65 .undef .undef .undef .undef) h66 n67)))))))))))))))))))) := by
 rw [zM F92.tab]; kernel_rfl
theorem F92.k8 : IR.run F92.b8 C N (fnO F92.res K0) K (F92.fr a b e f d g i o p q c l w s u v y z B A) h nx =
 zG e h fun v1 => zG e h fun v2 => sLen v2 fun v3 => C.fn 98 (.of 98) [v1, b, v3] h nx fun v4 h5 n6 => sExt 0 v4 fun v7 => sExt 1 v4 fun v8 => sExt 2 v4 fun v9 => sNot v9 fun vA => sG vA false (fun k => k v7) fun vB => sG vA false (fun k => sMlen vB h5 k) fun vC => sG vA false (fun k => zG e h5 k) fun vD => sG vA false (fun k => sLen vD k) fun vE => sG vA false (fun k => sBin .neq .int vC vE k) fun vF => gH vA (.bool true) vF fun vG => yD vG (zN 1 f .nilm h5 n6 fun vH h18 n19 => zN 1 d .nils h18 n19 fun vK hI nJ => zN 1 g (I 28) hI nJ fun vN hE nE => zG f hE fun vV => zG d hE fun vU => zG g hE fun vS => K0 (.tup [vV, vU, vS]) hE nE) ((IR.run F92.b9 C N (fnO F92.res K0) K) (F92.fr a b e f d g i o p q v7 v8 v9 s u v y z B vG) h5 n6) := by kernel_rfl
theorem F92.p6 {N : Nat} {C : Calls Prop} {K0 : Kw Prop} {id nx : Pa} {j : Jump} {h : T Blk} {a b e f d g i o p q c l w s u v y z B A z0 z1 : AV} (hl : T.get .no id h = .loop .ready j (F92.fr a b e f d g i o p q c l w s u v y z B A) [.of 16, .of 17] F92.b5 F92.b6) :
 qU N C id [z0, z1] h nx K0 =
 yL [.nils, (.bool false)] h nx fun v1 h2 n3 => zN 2 v1 z1 h2 n3 fun v4 h5 n6 => rMid N C id K0 F92.b6 (F92.fr a b e f d g i o z0 v1 c l w s u v z0 z1 B A) h5 n6 := by
 rw [rnd_gen hl (tm1 := (F92.fr a b e f d g i o p q c l w s u v z0 z1 B A)) (by intro k; kernel_rfl)]; kernel_rfl
theorem F92.y6 {N : Nat} {C : Calls Prop} {K0 : Kw Prop} {id nx : Pa} {h : T Blk} {a b e f d g i o p q c l w s u v y z B A : AV} :
 IR.run F92.b6 C N (rO id K0) (yS id K0 .none true) (F92.fr a b e f d g i o p q c l w s u v y z B A) h nx =
 sBin .gtr .int p (I 0) fun v1 => sG v1 true (fun k => zG e h k) fun v2 => sG v1 true (fun k => k p) fun v3 => sG v1 true (fun k => sBin .sub .int v3 (I 1) k) fun v4 => sG v1 true (fun k => zO 2 v2 v4 k) fun v5 => sG v1 true (fun k => zI 2 v5 h k) fun v6 => sG v1 true (fun k => zI 2 q h k) fun v7 => sGW v1 true (fun k => C.fn 162 (.of 162) [v6, v7] h nx k) h nx fun v8 h9 nH => sG v1 true (fun k => sBin .geq .int v8 (I 0) k) fun vB => gH v1 vB (.bool false) fun vC => yD vC (zN 1 f .nilm h9 nH fun vD hH nI => zN 1 d .nils hH nI fun vG hF nF => zN 1 g (I 11) hF nF fun vJ hD nD => yS id K0 .ret false .e hD nD) (yS id K0 .none true .e h9 nH) := by kernel_rfl
theorem F92.k9 : IR.run F92.b9 C N (fnO F92.res K0) K (F92.fr a b e f d g i o p q c l w s u v y z B A) h nx =
 zN 1 f c h nx fun v1 h2 n3 => zN 1 d l h2 n3 fun v4 h5 n6 => zN 1 g (I 0) h5 n6 fun v7 h8 n9 => zG f h8 fun vA => zG d h8 fun vB => zG g h8 fun vC => K0 (.tup [vA, vB, vC]) h8 n9 := by kernel_rfl
end Go.Ev
namespace Go.Ev
open Go Go.Proofs
set_option maxRecDepth 100000
variable {N : Nat} {C : Calls Prop} {K0 : Kw Prop} {K R : Ks Prop} {h : T Blk} {nx : Pa} {a b e f a0 a1 : AV}
theorem F22.tab : T.get none (.of 22) tbl = some F22 := by kernel_rfl
theorem F22.go : zW tbl N C (.of 22) [a0, a1] h nx K0 =
 C.fn 92 (.of 92) [a0, a1] h nx fun v1 h2 n3 => sExt 0 v1 fun v4 => sExt 1 v1 fun v5 => sExt 2 v1 fun v6 => K0 v6 h2 n3 := by
 rw [zM F22.tab]; kernel_rfl
end Go.Ev
namespace Go.Ev
open Go Go.Proofs
set_option maxRecDepth 100000
section
variable {N : Nat} {C : Calls Prop} {K0 : Kw Prop} {K : Ks Prop} {h : T Blk} {nx : Pa} {a b e f d g i o p q c l a0 a1 : AV} {O : Outs Prop} {tm : T AV} {Kt : KTm} {r : List RO} {s0 s1 s2 s3 s4 s5 s6 s7 s8 s9 s10 s11 s12 s13 s14 s15 s16 s17 s18 s19 s20 s21 s22 s23 s24 s25 s26 s27 s28 s29 s30 s31 s32 s33 s34 s35 s36 s37 s38 s39 : AV}
noncomputable def F41.t0 : IR := .reg [.q (.of 1) (.mv (.c (I 0)))]
noncomputable def F41.t1 : IR := .reg [.q (.of 2) (.mv (.c (I 0)))]
noncomputable def F41.t2 : IR := .reg [.s (.mv (.t (.of 2))), .s (.mv (.t (.of 0))), .s (.len (.s 0)), .q (.of 3) (.bin .lss .int (.s 2) (.s 0))]
noncomputable def F41.t3 : IR := .cond (.t (.of 3)) .skip (.exit 0)
noncomputable def F41.t4 : IR := .seq F41.t2 F41.t3
noncomputable def F41.t5 : IR := .reg [.s (.mv (.t (.of 0))), .s (.mv (.t (.of 2))), .s (.iaddr 1 (.s 1) (.s 0)), .s (.load (.s 0)), .q (.of 4) (.bin .neq .int (.s 0) (.c (I 0)))]
noncomputable def F41.t6 : IR := .reg [.s (.mv (.t (.of 0))), .s (.mv (.t (.of 2))), .s (.iaddr 1 (.s 1) (.s 0)), .s (.load (.s 0)), .q (.of 1) (.mv (.s 0))]
noncomputable def F41.t7 : IR := .seq F41.t6 .ret
noncomputable def F41.t8 : IR := .cond (.t (.of 4)) F41.t7 .skip
noncomputable def F41.t9 : IR := .seq F41.t5 F41.t8
noncomputable def F41.t10 : IR := .block 1 F41.t9
noncomputable def F41.t11 : IR := .reg [.s (.mv (.t (.of 2))), .s (.bin .add .int (.s 0) (.c (I 1))), .q (.of 2) (.mv (.s 0))]
noncomputable def F41.t12 : IR := .seq F41.t10 F41.t11
noncomputable def F41.t13 : IR := .seq F41.t4 F41.t12
noncomputable def F41.t14 : IR := .loop F41.t13
noncomputable def F41.t15 : IR := .block 0 F41.t14
noncomputable def F41.t16 : IR := .seq F41.t1 F41.t15
noncomputable def F41.t17 : IR := .reg [.q (.of 1) (.mv (.c (I 0)))]
noncomputable def F41.t18 : IR := .seq F41.t17 .ret
noncomputable def F41.t19 : IR := .seq F41.t16 F41.t18
noncomputable def F41.t20 : IR := .seq F41.t0 F41.t19
theorem F41.t0_s : IR.run F41.t0 C N O K (F41.fr a b e f d) h nx =
 K (F41.fr a (I 0) e f d) h nx := by kernel_rfl
theorem F41.t1_s : IR.run F41.t1 C N O K (F41.fr a b e f d) h nx =
 K (F41.fr a b (I 0) f d) h nx := by kernel_rfl
theorem F41.t2_s : IR.run F41.t2 C N O K (F41.fr a b e f d) h nx =
 sLen a fun v1 => sBin .lss .int e v1 fun v2 => K (F41.fr a b e v2 d) h nx := by kernel_rfl
theorem F41.v3 : Arg.ev (.t (.of 3)) ⟨(F41.fr a b e f d), []⟩ = f := by kernel_rfl
theorem F41.t5_s : IR.run F41.t5 C N O K (F41.fr a b e f d) h nx =
 zO 1 a e fun v1 => zG v1 h fun v2 => sBin .neq .int v2 (I 0) fun v3 => K (F41.fr a b e f v3) h nx := by kernel_rfl
theorem F41.t6_s : IR.run F41.t6 C N O K (F41.fr a b e f d) h nx =
 zO 1 a e fun v1 => zG v1 h fun v2 => K (F41.fr a v2 e f d) h nx := by kernel_rfl
theorem F41.v4 : Arg.ev (.t (.of 4)) ⟨(F41.fr a b e f d), []⟩ = d := by kernel_rfl
theorem F41.t11_s : IR.run F41.t11 C N O K (F41.fr a b e f d) h nx =
 sBin .add .int e (I 1) fun v1 => K (F41.fr a b v1 f d) h nx := by kernel_rfl
theorem F41.t14_L (Inv : Nat → AV → T Blk → Pa → Prop) {m : Nat} (hm : m < N) (hi : Inv m e h nx)
  (step : ∀ (m : Nat) (z1 z2 z3 z4 : AV) (h : T Blk) (nx : Pa) (R : Ks Prop), Inv m z2 h nx → (∀ (m' : Nat) (w1 w2 w3 w4 : AV) (h' : T Blk) (nx' : Pa), m' < m → Inv m' w2 h' nx' → R (F41.fr a w1 w2 w3 w4) h' nx' = .ok True) → IR.run F41.t13 C N O R (F41.fr a z1 z2 z3 z4) h nx = .ok True) :
  IR.run F41.t14 C N O K (F41.fr a b e f d) h nx = .ok True := by
 rw [F41.t14]
 refine yJ (fun m tm h nx => ∃ z1 z2 z3 z4, tm = (F41.fr a z1 z2 z3 z4) ∧ Inv m z2 h nx) ?_ hm ⟨_, _, _, _, rfl, hi⟩
 rintro m tm h nx R ⟨z1, z2, z3, z4, rfl, hi⟩ hR
 exact step m z1 z2 z3 z4 h nx R hi fun m' w1 w2 w3 w4 h' nx' hlt hi' => hR m' _ h' nx' hlt ⟨_, _, _, _, rfl, hi'⟩
theorem F41.t17_s : IR.run F41.t17 C N O K (F41.fr a b e f d) h nx =
 K (F41.fr a (I 0) e f d) h nx := by kernel_rfl
theorem F41.tab : T.get none (.of 41) tbl = some F41 := by kernel_rfl
theorem F41.bind (k : T AV → OP) : yG F41.params [a0] F41.init k = k (F41.fr a0 .undef .undef .undef .undef) := by kernel_rfl
theorem F41.body_eq : F41.body = F41.t20 := by kernel_rfl
theorem F41.go : zW tbl N C (.of 41) [a0] h nx K0 = IR.run F41.t20 C N (fnO F41.res K0) (retK F41.res K0) (F41.fr a0 .undef .undef .undef .undef) h nx := by
 rw [zM F41.tab, F41.bind, F41.body_eq]; kernel_rfl
theorem F41.ret : retK F41.res K0 (F41.fr a b e f d) h nx = K0 b h nx := by kernel_rfl
noncomputable def F37.t0 : IR := .reg [.q (.of 2) (.mv (.c (I 0)))]
noncomputable def F37.t1 : IR := .reg [.q (.of 3) (.mv (.t (.of 0)))]
noncomputable def F37.t2 : IR := .reg [.s (.mv (.t (.of 1))), .q (.of 2) (.mv (.s 0))]
noncomputable def F37.t3 : IR := .seq F37.t2 .ret
noncomputable def F37.t4 : IR := .cond (.t (.of 3)) F37.t3 .skip
noncomputable def F37.t5 : IR := .seq F37.t1 F37.t4
noncomputable def F37.t6 : IR := .reg [.q (.of 2) (.mv (.c (I 0)))]
noncomputable def F37.t7 : IR := .seq F37.t6 .ret
noncomputable def F37.t8 : IR := .seq F37.t5 F37.t7
noncomputable def F37.t9 : IR := .seq F37.t0 F37.t8
theorem F37.t0_s : IR.run F37.t0 C N O K (F37.fr a b e f) h nx =
 K (F37.fr a b (I 0) f) h nx := by kernel_rfl
theorem F37.t1_s : IR.run F37.t1 C N O K (F37.fr a b e f) h nx =
 K (F37.fr a b e a) h nx := by kernel_rfl
theorem F37.t2_s : IR.run F37.t2 C N O K (F37.fr a b e f) h nx =
 K (F37.fr a b b f) h nx := by kernel_rfl
theorem F37.v3 : Arg.ev (.t (.of 3)) ⟨(F37.fr a b e f), []⟩ = f := by kernel_rfl
theorem F37.t6_s : IR.run F37.t6 C N O K (F37.fr a b e f) h nx =
 K (F37.fr a b (I 0) f) h nx := by kernel_rfl
theorem F37.tab : T.get none (.of 37) tbl = some F37 := by kernel_rfl
theorem F37.bind (k : T AV → OP) : yG F37.params [a0, a1] F37.init k = k (F37.fr a0 a1 .undef .undef) := by kernel_rfl
theorem F37.body_eq : F37.body = F37.t9 := by kernel_rfl
theorem F37.go : zW tbl N C (.of 37) [a0, a1] h nx K0 = IR.run F37.t9 C N (fnO F37.res K0) (retK F37.res K0) (F37.fr a0 a1 .undef .undef) h nx := by
 rw [zM F37.tab, F37.bind, F37.body_eq]; kernel_rfl
theorem F37.ret : retK F37.res K0 (F37.fr a b e f) h nx = K0 e h nx := by kernel_rfl
noncomputable def F19.t0 : IR := .reg [.q (.of 2) (.mv (.c (.bool false)))]
noncomputable def F19.t1 : IR := .reg [.s (.mv (.t (.of 0))), .s (.len (.s 0)), .s (.mv (.t (.of 1))), .q (.of 4) (.bin .gtr .int (.s 1) (.s 0))]
noncomputable def F19.t2 : IR := .reg [.q (.of 2) (.mv (.c (.bool true)))]
noncomputable def F19.t3 : IR := .seq F19.t2 .ret
noncomputable def F19.t4 : IR := .cond (.t (.of 4)) F19.t3 .skip
noncomputable def F19.t5 : IR := .seq F19.t1 F19.t4
noncomputable def F19.t6 : IR := .reg [.q (.of 3) (.mv (.c (I 0)))]
noncomputable def F19.t7 : IR := .reg [.s (.mv (.t (.of 3))), .s (.mv (.t (.of 0))), .s (.len (.s 0)), .q (.of 5) (.bin .lss .int (.s 2) (.s 0))]
noncomputable def F19.t8 : IR := .cond (.t (.of 5)) .skip (.exit 0)
noncomputable def F19.t9 : IR := .seq F19.t7 F19.t8
noncomputable def F19.t10 : IR := .reg [.s (.mv (.t (.of 0))), .s (.mv (.t (.of 3))), .s (.iaddr 2 (.s 1) (.s 0)), .s (.faddr 0 (.s 0)), .s (.load (.s 0)), .s (.len (.s 0)), .q (.of 6) (.bin .gtr .int (.s 0) (.c (I 16)))]
noncomputable def F19.t11 : IR := .reg [.q (.of 2) (.mv (.c (.bool true)))]
noncomputable def F19.t12 : IR := .seq F19.t11 .ret
noncomputable def F19.t13 : IR := .cond (.t (.of 6)) F19.t12 .skip
noncomputable def F19.t14 : IR := .seq F19.t10 F19.t13
noncomputable def F19.t15 : IR := .block 1 F19.t14
noncomputable def F19.t16 : IR := .reg [.s (.mv (.t (.of 3))), .s (.bin .add .int (.s 0) (.c (I 1))), .q (.of 3) (.mv (.s 0))]
noncomputable def F19.t17 : IR := .seq F19.t15 F19.t16
noncomputable def F19.t18 : IR := .seq F19.t9 F19.t17
noncomputable def F19.t19 : IR := .loop F19.t18
noncomputable def F19.t20 : IR := .block 0 F19.t19
noncomputable def F19.t21 : IR := .seq F19.t6 F19.t20
noncomputable def F19.t22 : IR := .reg [.q (.of 2) (.mv (.c (.bool false)))]
noncomputable def F19.t23 : IR := .seq F19.t22 .ret
noncomputable def F19.t24 : IR := .seq F19.t21 F19.t23
noncomputable def F19.t25 : IR := .seq F19.t5 F19.t24
noncomputable def F19.t26 : IR := .seq F19.t0 F19.t25
theorem F19.t0_s : IR.run F19.t0 C N O K (F19.fr a b e f d g i) h nx =
 K (F19.fr a b (.bool false) f d g i) h nx := by kernel_rfl
theorem F19.t1_s : IR.run F19.t1 C N O K (F19.fr a b e f d g i) h nx =
 sLen a fun v1 => sBin .gtr .int v1 b fun v2 => K (F19.fr a b e f v2 g i) h nx := by kernel_rfl
theorem F19.t2_s : IR.run F19.t2 C N O K (F19.fr a b e f d g i) h nx =
 K (F19.fr a b (.bool true) f d g i) h nx := by kernel_rfl
theorem F19.v4 : Arg.ev (.t (.of 4)) ⟨(F19.fr a b e f d g i), []⟩ = d := by kernel_rfl
theorem F19.t6_s : IR.run F19.t6 C N O K (F19.fr a b e f d g i) h nx =
 K (F19.fr a b e (I 0) d g i) h nx := by kernel_rfl
theorem F19.t7_s : IR.run F19.t7 C N O K (F19.fr a b e f d g i) h nx =
 sLen a fun v1 => sBin .lss .int f v1 fun v2 => K (F19.fr a b e f d v2 i) h nx := by kernel_rfl
theorem F19.v5 : Arg.ev (.t (.of 5)) ⟨(F19.fr a b e f d g i), []⟩ = g := by kernel_rfl
theorem F19.t10_s : IR.run F19.t10 C N O K (F19.fr a b e f d g i) h nx =
 zO 2 a f fun v1 => zT 0 v1 fun v2 => zG v2 h fun v3 => sLen v3 fun v4 => sBin .gtr .int v4 (I 16) fun v5 => K (F19.fr a b e f d g v5) h nx := by kernel_rfl
theorem F19.t11_s : IR.run F19.t11 C N O K (F19.fr a b e f d g i) h nx =
 K (F19.fr a b (.bool true) f d g i) h nx := by kernel_rfl
theorem F19.v6 : Arg.ev (.t (.of 6)) ⟨(F19.fr a b e f d g i), []⟩ = i := by kernel_rfl
theorem F19.t16_s : IR.run F19.t16 C N O K (F19.fr a b e f d g i) h nx =
 sBin .add .int f (I 1) fun v1 => K (F19.fr a b e v1 d g i) h nx := by kernel_rfl
theorem F19.t19_L (Inv : Nat → AV → T Blk → Pa → Prop) {m : Nat} (hm : m < N) (hi : Inv m f h nx)
  (step : ∀ (m : Nat) (z2 z3 z5 z6 : AV) (h : T Blk) (nx : Pa) (R : Ks Prop), Inv m z3 h nx → (∀ (m' : Nat) (w2 w3 w5 w6 : AV) (h' : T Blk) (nx' : Pa), m' < m → Inv m' w3 h' nx' → R (F19.fr a b w2 w3 d w5 w6) h' nx' = .ok True) → IR.run F19.t18 C N O R (F19.fr a b z2 z3 d z5 z6) h nx = .ok True) :
  IR.run F19.t19 C N O K (F19.fr a b e f d g i) h nx = .ok True := by
 rw [F19.t19]
 refine yJ (fun m tm h nx => ∃ z2 z3 z5 z6, tm = (F19.fr a b z2 z3 d z5 z6) ∧ Inv m z3 h nx) ?_ hm ⟨_, _, _, _, rfl, hi⟩
 rintro m tm h nx R ⟨z2, z3, z5, z6, rfl, hi⟩ hR
 exact step m z2 z3 z5 z6 h nx R hi fun m' w2 w3 w5 w6 h' nx' hlt hi' => hR m' _ h' nx' hlt ⟨_, _, _, _, rfl, hi'⟩
theorem F19.t22_s : IR.run F19.t22 C N O K (F19.fr a b e f d g i) h nx =
 K (F19.fr a b (.bool false) f d g i) h nx := by kernel_rfl
theorem F19.tab : T.get none (.of 19) tbl = some F19 := by kernel_rfl
theorem F19.bind (k : T AV → OP) : yG F19.params [a0, a1] F19.init k = k (F19.fr a0 a1 .undef .undef .undef .undef .undef) := by kernel_rfl
theorem F19.body_eq : F19.body = F19.t26 := by kernel_rfl
theorem F19.go : zW tbl N C (.of 19) [a0, a1] h nx K0 = IR.run F19.t26 C N (fnO F19.res K0) (retK F19.res K0) (F19.fr a0 a1 .undef .undef .undef .undef .undef) h nx := by
 rw [zM F19.tab, F19.bind, F19.body_eq]; kernel_rfl
theorem F19.ret : retK F19.res K0 (F19.fr a b e f d g i) h nx = K0 e h nx := by kernel_rfl
end
end Go.Ev
namespace Go.Ev
open Go Go.Proofs
set_option maxRecDepth 100000
section
variable {N : Nat} {C : Calls Prop} {K0 : Kw Prop} {K : Ks Prop} {h : T Blk} {nx : Pa} {a b e f d g i a0 a1 a2 a3 : AV} {O : Outs Prop} {tm : T AV} {Kt : KTm} {r : List RO} {s0 s1 s2 s3 s4 s5 s6 s7 s8 s9 s10 s11 s12 s13 s14 s15 s16 s17 s18 s19 s20 s21 s22 s23 s24 s25 s26 s27 s28 s29 s30 s31 s32 s33 s34 s35 s36 s37 s38 s39 : AV}
noncomputable def F28.t0 : IR := .reg [.q (.of 4) (.mv (.c (.bool false)))]
noncomputable def F28.t1 : IR := .reg [.s (.mv (.t (.of 2))), .q (.of 5) (.bin .neq .int (.s 0) (.c (I 0)))]
noncomputable def F28.t2 : IR := .reg [.s (.mv (.t (.of 0))), .s (.len (.s 0)), .s (.bin .eql .int (.s 0) (.c (I 0))), .s (.mv (.s 0)), .p .push (some ((.s 0), true)) (.mv (.t (.of 1))), .p .push (some ((.s 1), true)) (.mv (.t (.of 2))), .p .push (some ((.s 2), true)) (.bin .eql .int (.s 1) (.s 0)), .s (.pick (.s 3) (.s 0) (.c (.bool false))), .q (.of 4) (.mv (.s 0))]
noncomputable def F28.t3 : IR := .seq F28.t2 .ret
noncomputable def F28.t4 : IR := .cond (.t (.of 5)) F28.t3 .skip
noncomputable def F28.t5 : IR := .seq F28.t1 F28.t4
noncomputable def F28.t6 : IR := .reg [.s (.mv (.t (.of 1))), .s (.bin .eql .int (.s 0) (.c (I 0))), .s (.mv (.s 0)), .p .push (some ((.s 0), true)) (.mv (.t (.of 0))), .p .push (some ((.s 1), true)) (.mv (.t (.of 3))), .w .push (some ((.s 2), true)) (.call (.c (.fn 69 (.of 69) [])) [(.s 1), (.s 0)]), .s (.pick (.s 3) (.s 0) (.c (.bool false))), .q (.of 4) (.mv (.s 0))]
noncomputable def F28.t7 : IR := .seq F28.t6 .ret
noncomputable def F28.t8 : IR := .seq F28.t5 F28.t7
noncomputable def F28.t9 : IR := .seq F28.t0 F28.t8
theorem F28.t0_s : IR.run F28.t0 C N O K (F28.fr a b e f d g) h nx =
 K (F28.fr a b e f (.bool false) g) h nx := by kernel_rfl
theorem F28.t1_s : IR.run F28.t1 C N O K (F28.fr a b e f d g) h nx =
 sBin .neq .int e (I 0) fun v1 => K (F28.fr a b e f d v1) h nx := by kernel_rfl
theorem F28.t2_s : IR.run F28.t2 C N O K (F28.fr a b e f d g) h nx =
 sLen a fun v1 => sBin .eql .int v1 (I 0) fun v2 => sG v2 true (fun k => k b) fun v3 => sG v2 true (fun k => k e) fun v4 => sG v2 true (fun k => sBin .eql .int v3 v4 k) fun v5 => gH v2 v5 (.bool false) fun v6 => K (F28.fr a b e f v6 g) h nx := by kernel_rfl
theorem F28.v5 : Arg.ev (.t (.of 5)) ⟨(F28.fr a b e f d g), []⟩ = g := by kernel_rfl
theorem F28.t6_s : IR.run F28.t6 C N O K (F28.fr a b e f d g) h nx =
 sBin .eql .int b (I 0) fun v1 => sG v1 true (fun k => k a) fun v2 => sG v1 true (fun k => k f) fun v3 => sGW v1 true (fun k => C.fn 69 (.of 69) [v2, v3] h nx k) h nx fun v4 h5 n6 => gH v1 v4 (.bool false) fun v7 => K (F28.fr a b e f v7 g) h5 n6 := by kernel_rfl
theorem F28.tab : T.get none (.of 28) tbl = some F28 := by kernel_rfl
theorem F28.bind (k : T AV → OP) : yG F28.params [a0, a1, a2, a3] F28.init k = k (F28.fr a0 a1 a2 a3 .undef .undef) := by kernel_rfl
theorem F28.body_eq : F28.body = F28.t9 := by kernel_rfl
theorem F28.go : zW tbl N C (.of 28) [a0, a1, a2, a3] h nx K0 = IR.run F28.t9 C N (fnO F28.res K0) (retK F28.res K0) (F28.fr a0 a1 a2 a3 .undef .undef) h nx := by
 rw [zM F28.tab, F28.bind, F28.body_eq]; kernel_rfl
theorem F28.ret : retK F28.res K0 (F28.fr a b e f d g) h nx = K0 d h nx := by kernel_rfl
noncomputable def F69.t0 : IR := .reg [.q (.of 2) (.mv (.c (.bool false)))]
noncomputable def F69.t1 : IR := .reg [.s (.mv (.t (.of 0))), .s (.len (.s 0)), .s (.mv (.t (.of 1))), .s (.len (.s 0)), .q (.of 4) (.bin .neq .int (.s 2) (.s 0))]
noncomputable def F69.t2 : IR := .reg [.q (.of 2) (.mv (.c (.bool false)))]
noncomputable def F69.t3 : IR := .seq F69.t2 .ret
noncomputable def F69.t4 : IR := .cond (.t (.of 4)) F69.t3 .skip
noncomputable def F69.t5 : IR := .seq F69.t1 F69.t4
noncomputable def F69.t6 : IR := .reg [.q (.of 3) (.mv (.c (I 0)))]
noncomputable def F69.t7 : IR := .reg [.s (.mv (.t (.of 3))), .s (.mv (.t (.of 0))), .s (.len (.s 0)), .q (.of 5) (.bin .lss .int (.s 2) (.s 0))]
noncomputable def F69.t8 : IR := .cond (.t (.of 5)) .skip (.exit 0)
noncomputable def F69.t9 : IR := .seq F69.t7 F69.t8
noncomputable def F69.t10 : IR := .dreg [] [(.s (.mv (.t (.of 0))), 0, []), (.s (.mv (.t (.of 3))), 0, []), (.s (.iaddr 2 (.s 1) (.s 0)), 0, []), (.s (.loadN 2 (.s 0)), 0, []), (.s (.mv (.t (.of 1))), 0, []), (.s (.mv (.t (.of 3))), 0, []), (.s (.iaddr 2 (.s 1) (.s 0)), 0, []), (.s (.loadN 2 (.s 0)), 0, []), (.w .push none (.call (.c (.fn 30 (.of 30) [])) [(.s 4), (.s 0)]), 0, []), (.q (.of 6) (.not (.s 0)), 0, [])]
noncomputable def F69.t11 : IR := .reg [.q (.of 2) (.mv (.c (.bool false)))]
noncomputable def F69.t12 : IR := .seq F69.t11 .ret
noncomputable def F69.t13 : IR := .cond (.t (.of 6)) F69.t12 .skip
noncomputable def F69.t14 : IR := .seq F69.t10 F69.t13
noncomputable def F69.t15 : IR := .block 1 F69.t14
noncomputable def F69.t16 : IR := .reg [.s (.mv (.t (.of 3))), .s (.bin .add .int (.s 0) (.c (I 1))), .q (.of 3) (.mv (.s 0))]
noncomputable def F69.t17 : IR := .seq F69.t15 F69.t16
noncomputable def F69.t18 : IR := .seq F69.t9 F69.t17
noncomputable def F69.t19 : IR := .loop F69.t18
noncomputable def F69.t20 : IR := .block 0 F69.t19
noncomputable def F69.t21 : IR := .seq F69.t6 F69.t20
noncomputable def F69.t22 : IR := .reg [.q (.of 2) (.mv (.c (.bool true)))]
noncomputable def F69.t23 : IR := .seq F69.t22 .ret
noncomputable def F69.t24 : IR := .seq F69.t21 F69.t23
noncomputable def F69.t25 : IR := .seq F69.t5 F69.t24
noncomputable def F69.t26 : IR := .seq F69.t0 F69.t25
theorem F69.t0_s : IR.run F69.t0 C N O K (F69.fr a b e f d g i) h nx =
 K (F69.fr a b (.bool false) f d g i) h nx := by kernel_rfl
theorem F69.t1_s : IR.run F69.t1 C N O K (F69.fr a b e f d g i) h nx =
 sLen a fun v1 => sLen b fun v2 => sBin .neq .int v1 v2 fun v3 => K (F69.fr a b e f v3 g i) h nx := by kernel_rfl
theorem F69.v4 : Arg.ev (.t (.of 4)) ⟨(F69.fr a b e f d g i), []⟩ = d := by kernel_rfl
theorem F69.t6_s : IR.run F69.t6 C N O K (F69.fr a b e f d g i) h nx =
 K (F69.fr a b e (I 0) d g i) h nx := by kernel_rfl
theorem F69.t7_s : IR.run F69.t7 C N O K (F69.fr a b e f d g i) h nx =
 sLen a fun v1 => sBin .lss .int f v1 fun v2 => K (F69.fr a b e f d v2 i) h nx := by kernel_rfl
theorem F69.v5 : Arg.ev (.t (.of 5)) ⟨(F69.fr a b e f d g i), []⟩ = g := by kernel_rfl
theorem F69.t10_s : IR.run F69.t10 C N O K (F69.fr a b e f d g i) h nx =
 zO 2 a f fun v1 => zI 2 v1 h fun v2 => zO 2 b f fun v3 => zI 2 v3 h fun v4 => C.fn 30 (.of 30) [v2, v4] h nx fun v5 h6 n7 => sNot v5 fun v8 => K (F69.fr a b e f d g v8) h6 n7 := by kernel_rfl
theorem F69.v6 : Arg.ev (.t (.of 6)) ⟨(F69.fr a b e f d g i), []⟩ = i := by kernel_rfl
theorem F69.t16_s : IR.run F69.t16 C N O K (F69.fr a b e f d g i) h nx =
 sBin .add .int f (I 1) fun v1 => K (F69.fr a b e v1 d g i) h nx := by kernel_rfl
theorem F69.t19_L (Inv : Nat → AV → T Blk → Pa → Prop) {m : Nat} (hm : m < N) (hi : Inv m f h nx)
  (step : ∀ (m : Nat) (z2 z3 z5 z6 : AV) (h : T Blk) (nx : Pa) (R : Ks Prop), Inv m z3 h nx → (∀ (m' : Nat) (w2 w3 w5 w6 : AV) (h' : T Blk) (nx' : Pa), m' < m → Inv m' w3 h' nx' → R (F69.fr a b w2 w3 d w5 w6) h' nx' = .ok True) → IR.run F69.t18 C N O R (F69.fr a b z2 z3 d z5 z6) h nx = .ok True) :
  IR.run F69.t19 C N O K (F69.fr a b e f d g i) h nx = .ok True := by
 rw [F69.t19]
 refine yJ (fun m tm h nx => ∃ z2 z3 z5 z6, tm = (F69.fr a b z2 z3 d z5 z6) ∧ Inv m z3 h nx) ?_ hm ⟨_, _, _, _, rfl, hi⟩
 rintro m tm h nx R ⟨z2, z3, z5, z6, rfl, hi⟩ hR
 exact step m z2 z3 z5 z6 h nx R hi fun m' w2 w3 w5 w6 h' nx' hlt hi' => hR m' _ h' nx' hlt ⟨_, _, _, _, rfl, hi'⟩
theorem F69.t22_s : IR.run F69.t22 C N O K (F69.fr a b e f d g i) h nx =
 K (F69.fr a b (.bool true) f d g i) h nx := by kernel_rfl
theorem F69.tab : T.get none (.of 69) tbl = some F69 := by kernel_rfl
theorem F69.bind (k : T AV → OP) : yG F69.params [a0, a1] F69.init k = k (F69.fr a0 a1 .undef .undef .undef .undef .undef) := by kernel_rfl
theorem F69.body_eq : F69.body = F69.t26 := by kernel_rfl
theorem F69.go : zW tbl N C (.of 69) [a0, a1] h nx K0 = IR.run F69.t26 C N (fnO F69.res K0) (retK F69.res K0) (F69.fr a0 a1 .undef .undef .undef .undef .undef) h nx := by
 rw [zM F69.tab, F69.bind, F69.body_eq]; kernel_rfl
theorem F69.ret : retK F69.res K0 (F69.fr a b e f d g i) h nx = K0 e h nx := by kernel_rfl
end
end Go.Ev
namespace Go.Ev
open Go Go.Proofs
set_option maxRecDepth 100000
section
variable {N : Nat} {C : Calls Prop} {K0 : Kw Prop} {K : Ks Prop} {h : T Blk} {nx : Pa} {a b e f d g i o p q c l w s u v a0 a1 a2 a3 : AV} {O : Outs Prop} {tm : T AV} {Kt : KTm} {r : List RO} {s0 s1 s2 s3 s4 s5 s6 s7 s8 s9 s10 s11 s12 s13 s14 s15 s16 s17 s18 s19 s20 s21 s22 s23 s24 s25 s26 s27 s28 s29 s30 s31 s32 s33 s34 s35 s36 s37 s38 s39 : AV}
end
end Go.Ev
namespace Go.Ev
open Go Go.Proofs
set_option maxRecDepth 100000
section
variable {N : Nat} {C : Calls Prop} {K0 : Kw Prop} {K : Ks Prop} {h : T Blk} {nx : Pa} {a b e f d g i o p q c l w s u v y z a0 a1 a2 : AV} {O : Outs Prop} {tm : T AV} {Kt : KTm} {r : List RO} {s0 s1 s2 s3 s4 s5 s6 s7 s8 s9 s10 s11 s12 s13 s14 s15 s16 s17 s18 s19 s20 s21 s22 s23 s24 s25 s26 s27 s28 s29 s30 s31 s32 s33 s34 s35 s36 s37 s38 s39 : AV}
noncomputable def F120.t0 : IR := .reg [.q (.of 3) (.mv (.c .nilm)), .w (.loc (.of 4)) none (.alloc [.nils, .nils]), .q (.of 5) (.mv (.c (I 0)))]
noncomputable def F120.t1 : IR := .reg [.w (.loc (.of 6)) none (.alloc [.nils, .nils])]
noncomputable def F120.t2 : IR := .reg [.s (.mv (.t (.of 0))), .s (.mv (.t (.of 2))), .w .push none (.call (.c (.fn 92 (.of 92) [])) [(.s 1), (.s 0)]), .s (.mv (.s 0)), .s (.ext 0 (.s 0)), .s (.ext 1 (.s 1)), .s (.ext 2 (.s 2)), .q (.of 7) (.mv (.s 2)), .q (.of 8) (.mv (.s 1)), .q (.of 9) (.mv (.s 0))]
noncomputable def F120.t3 : IR := .reg [.s (.mv (.t (.of 9))), .q (.of 13) (.bin .neq .int (.s 0) (.c (I 0)))]
noncomputable def F120.t4 : IR := .dreg [] [(.s (.loadN 2 (.t (.of 6))), 0, []), (.s (.mv (.t (.of 9))), 1, []), (.q (.of 3) (.mv (.c .nilm)), 0, []), (.w .none none (.store 2 (.t (.of 4)) (.s 1)), 0, []), (.q (.of 5) (.mv (.s 0)), 0, [])]
noncomputable def F120.t5 : IR := .seq F120.t4 .ret
noncomputable def F120.t6 : IR := .cond (.t (.of 13)) F120.t5 .skip
noncomputable def F120.t7 : IR := .seq F120.t3 F120.t6
noncomputable def F120.t8 : IR := .reg [.s (.mv (.t (.of 1))), .s (.mv (.t (.of 2))), .w .push none (.call (.c (.fn 92 (.of 92) [])) [(.s 1), (.s 0)]), .s (.mv (.s 0)), .s (.ext 0 (.s 0)), .s (.ext 1 (.s 1)), .s (.ext 2 (.s 2)), .q (.of 10) (.mv (.s 2)), .q (.of 11) (.mv (.s 1)), .q (.of 9) (.mv (.s 0))]
noncomputable def F120.t9 : IR := .reg [.s (.mv (.t (.of 9))), .q (.of 14) (.bin .neq .int (.s 0) (.c (I 0)))]
noncomputable def F120.t10 : IR := .dreg [] [(.s (.loadN 2 (.t (.of 6))), 0, []), (.s (.mv (.t (.of 9))), 1, []), (.q (.of 3) (.mv (.c .nilm)), 0, []), (.w .none none (.store 2 (.t (.of 4)) (.s 1)), 0, []), (.q (.of 5) (.mv (.s 0)), 0, [])]
noncomputable def F120.t11 : IR := .seq F120.t10 .ret
noncomputable def F120.t12 : IR := .cond (.t (.of 14)) F120.t11 .skip
noncomputable def F120.t13 : IR := .seq F120.t9 F120.t12
noncomputable def F120.t14 : IR := .reg [.s (.mv (.t (.of 10))), .w (.loc (.of 15)) none (.range (.s 0))]
noncomputable def F120.t15 : IR := .reg [.w .push none (.next (.t (.of 15))), .q (.of 16) (.ext 0 (.s 0))]
noncomputable def F120.t16 : IR := .cond (.t (.of 16)) .skip (.exit 0)
noncomputable def F120.t17 : IR := .reg [.s (.entry (.t (.of 15))), .s (.ext 1 (.s 0)), .w (.loc (.of 12)) none (.alloc [.nils, (.bool false)]), .w .none none (.store 2 (.t (.of 12)) (.s 0))]
noncomputable def F120.t18 : IR := .reg [.s (.mv (.t (.of 7))), .s (.loadN 2 (.t (.of 12))), .w .push none (.call (.c (.fn 121 (.of 121) [])) [(.s 1), (.s 0)]), .q (.of 17) (.not (.s 0))]
noncomputable def F120.t19 : IR := .dreg [] [(.s (.loadN 2 (.t (.of 6))), 0, []), (.q (.of 3) (.mv (.c .nilm)), 0, []), (.w .none none (.store 2 (.t (.of 4)) (.s 0)), 0, []), (.q (.of 5) (.mv (.c (I 28))), 0, [])]
noncomputable def F120.t20 : IR := .seq F120.t19 .ret
noncomputable def F120.t21 : IR := .cond (.t (.of 17)) F120.t20 .skip
noncomputable def F120.t22 : IR := .seq F120.t18 F120.t21
noncomputable def F120.t23 : IR := .seq F120.t17 F120.t22
noncomputable def F120.t24 : IR := .block 1 F120.t23
noncomputable def F120.t25 : IR := .seq F120.t16 F120.t24
noncomputable def F120.t26 : IR := .seq F120.t15 F120.t25
noncomputable def F120.t27 : IR := .loop F120.t26
noncomputable def F120.t28 : IR := .block 0 F120.t27
noncomputable def F120.t29 : IR := .seq F120.t14 F120.t28
noncomputable def F120.t30 : IR := .reg [.s (.mv (.t (.of 8))), .s (.mv (.t (.of 11))), .s (.aaddr 1 2 (.t (.of 6)) (.c (I 0))), .w .none none (.store 1 (.s 0) (.s 2)), .s (.aaddr 1 2 (.t (.of 6)) (.c (I 1))), .w .none none (.store 1 (.s 0) (.s 2))]
noncomputable def F120.t31 : IR := .dreg [] [(.s (.mv (.t (.of 10))), 0, []), (.s (.loadN 2 (.t (.of 6))), 0, []), (.q (.of 3) (.mv (.s 1)), 0, []), (.w .none none (.store 2 (.t (.of 4)) (.s 0)), 0, []), (.q (.of 5) (.mv (.c (I 0))), 0, [])]
noncomputable def F120.t32 : IR := .seq F120.t31 .ret
noncomputable def F120.t33 : IR := .seq F120.t30 F120.t32
noncomputable def F120.t34 : IR := .seq F120.t29 F120.t33
noncomputable def F120.t35 : IR := .seq F120.t13 F120.t34
noncomputable def F120.t36 : IR := .seq F120.t8 F120.t35
noncomputable def F120.t37 : IR := .seq F120.t7 F120.t36
noncomputable def F120.t38 : IR := .seq F120.t2 F120.t37
noncomputable def F120.t39 : IR := .seq F120.t1 F120.t38
noncomputable def F120.t40 : IR := .seq F120.t0 F120.t39
theorem F120.t0_s : IR.run F120.t0 C N O K (F120.fr a b e f d g i o p q c l w s u v y z) h nx =
 yL [.nils, .nils] h nx fun v1 h2 n3 => K (F120.fr a b e .nilm v1 (I 0) i o p q c l w s u v y z) h2 n3 := by kernel_rfl
theorem F120.t1_s : IR.run F120.t1 C N O K (F120.fr a b e f d g i o p q c l w s u v y z) h nx =
 yL [.nils, .nils] h nx fun v1 h2 n3 => K (F120.fr a b e f d g v1 o p q c l w s u v y z) h2 n3 := by kernel_rfl
theorem F120.t2_s : IR.run F120.t2 C N O K (F120.fr a b e f d g i o p q c l w s u v y z) h nx =
 C.fn 92 (.of 92) [a, e] h nx fun v1 h2 n3 => sExt 0 v1 fun v4 => sExt 1 v1 fun v5 => sExt 2 v1 fun v6 => K (F120.fr a b e f d g i v4 v5 v6 c l w s u v y z) h2 n3 := by kernel_rfl
theorem F120.t3_s : IR.run F120.t3 C N O K (F120.fr a b e f d g i o p q c l w s u v y z) h nx =
 sBin .neq .int q (I 0) fun v1 => K (F120.fr a b e f d g i o p q c l w v1 u v y z) h nx := by kernel_rfl
theorem F120.t4_s : IR.run F120.t4 C N O K (F120.fr a b e f d g i o p q c l w s u v y z) h nx =
 zI 2 i h fun v1 => zN 2 d v1 h nx fun v2 h3 n4 => zK q q (K (F120.fr a b e .nilm d q i o p q c l w s u v y z) h3 n4) := by kernel_rfl
theorem F120.v13 : Arg.ev (.t (.of 13)) ⟨(F120.fr a b e f d g i o p q c l w s u v y z), []⟩ = s := by kernel_rfl
theorem F120.t8_s : IR.run F120.t8 C N O K (F120.fr a b e f d g i o p q c l w s u v y z) h nx =
 C.fn 92 (.of 92) [b, e] h nx fun v1 h2 n3 => sExt 0 v1 fun v4 => sExt 1 v1 fun v5 => sExt 2 v1 fun v6 => K (F120.fr a b e f d g i o p v6 v4 v5 w s u v y z) h2 n3 := by kernel_rfl
theorem F120.t9_s : IR.run F120.t9 C N O K (F120.fr a b e f d g i o p q c l w s u v y z) h nx =
 sBin .neq .int q (I 0) fun v1 => K (F120.fr a b e f d g i o p q c l w s v1 v y z) h nx := by kernel_rfl
theorem F120.t10_s : IR.run F120.t10 C N O K (F120.fr a b e f d g i o p q c l w s u v y z) h nx =
 zI 2 i h fun v1 => zN 2 d v1 h nx fun v2 h3 n4 => zK q q (K (F120.fr a b e .nilm d q i o p q c l w s u v y z) h3 n4) := by kernel_rfl
theorem F120.v14 : Arg.ev (.t (.of 14)) ⟨(F120.fr a b e f d g i o p q c l w s u v y z), []⟩ = u := by kernel_rfl
theorem F120.t14_s : IR.run F120.t14 C N O K (F120.fr a b e f d g i o p q c l w s u v y z) h nx =
 sRange c h nx fun v1 h2 n3 => K (F120.fr a b e f d g i o p q c l w s u v1 y z) h2 n3 := by kernel_rfl
theorem F120.t15_s : IR.run F120.t15 C N O K (F120.fr a b e f d g i o p q c l w s u v y z) h nx =
 sNext C v h nx fun v1 h2 n3 => sExt 0 v1 fun v4 => K (F120.fr a b e f d g i o p q c l w s u v v4 z) h2 n3 := by kernel_rfl
theorem F120.v16 : Arg.ev (.t (.of 16)) ⟨(F120.fr a b e f d g i o p q c l w s u v y z), []⟩ = y := by kernel_rfl
theorem F120.t17_s : IR.run F120.t17 C N O K (F120.fr a b e f d g i o p q c l w s u v y z) h nx =
 sEntry v h fun v1 => sExt 1 v1 fun v2 => yL [.nils, (.bool false)] h nx fun v3 h4 n5 => zN 2 v3 v2 h4 n5 fun v6 h7 n8 => K (F120.fr a b e f d g i o p q c l v3 s u v y z) h7 n8 := by kernel_rfl
theorem F120.t18_s : IR.run F120.t18 C N O K (F120.fr a b e f d g i o p q c l w s u v y z) h nx =
 zI 2 w h fun v1 => C.fn 121 (.of 121) [o, v1] h nx fun v2 h3 n4 => sNot v2 fun v5 => K (F120.fr a b e f d g i o p q c l w s u v y v5) h3 n4 := by kernel_rfl
theorem F120.t19_s : IR.run F120.t19 C N O K (F120.fr a b e f d g i o p q c l w s u v y z) h nx =
 zI 2 i h fun v1 => zN 2 d v1 h nx fun v2 h3 n4 => K (F120.fr a b e .nilm d (I 28) i o p q c l w s u v y z) h3 n4 := by kernel_rfl
theorem F120.v17 : Arg.ev (.t (.of 17)) ⟨(F120.fr a b e f d g i o p q c l w s u v y z), []⟩ = z := by kernel_rfl
theorem F120.t27_L (Inv : Nat → T Blk → Pa → Prop) {m : Nat} (hm : m < N) (hi : Inv m h nx)
  (step : ∀ (m : Nat) (z3 z5 zB zF zH : AV) (h : T Blk) (nx : Pa) (R : Ks Prop), Inv m h nx → (∀ (m' : Nat) (w3 w5 wB wF wG : AV) (h' : T Blk) (nx' : Pa), m' < m → Inv m' h' nx' → R (F120.fr a b e w3 d w5 i o p q c l wB s u v wF wG) h' nx' = .ok True) → IR.run F120.t26 C N O R (F120.fr a b e z3 d z5 i o p q c l zB s u v zF zH) h nx = .ok True) :
  IR.run F120.t27 C N O K (F120.fr a b e f d g i o p q c l w s u v y z) h nx = .ok True := by
 rw [F120.t27]
 refine yJ (fun m tm h nx => ∃ z3 z5 zB zF zH, tm = (F120.fr a b e z3 d z5 i o p q c l zB s u v zF zH) ∧ Inv m h nx) ?_ hm ⟨_, _, _, _, _, rfl, hi⟩
 rintro m tm h nx R ⟨z3, z5, zB, zF, zH, rfl, hi⟩ hR
 exact step m z3 z5 zB zF zH h nx R hi fun m' w3 w5 wB wF wG h' nx' hlt hi' => hR m' _ h' nx' hlt ⟨_, _, _, _, _, rfl, hi'⟩
theorem F120.t30_s : IR.run F120.t30 C N O K (F120.fr a b e f d g i o p q c l w s u v y z) h nx =
 vT 1 2 i (I 0) fun v1 => zN 1 v1 p h nx fun v2 h3 n4 => vT 1 2 i (I 1) fun v5 => zN 1 v5 l h3 n4 fun v6 h7 n8 => K (F120.fr a b e f d g i o p q c l w s u v y z) h7 n8 := by kernel_rfl
theorem F120.t31_s : IR.run F120.t31 C N O K (F120.fr a b e f d g i o p q c l w s u v y z) h nx =
 zI 2 i h fun v1 => zN 2 d v1 h nx fun v2 h3 n4 => K (F120.fr a b e c d (I 0) i o p q c l w s u v y z) h3 n4 := by kernel_rfl
theorem F120.tab : T.get none (.of 120) tbl = some F120 := by kernel_rfl
theorem F120.bind (k : T AV → OP) : yG F120.params [a0, a1, a2] F120.init k = k (F120.fr a0 a1 a2 .undef .undef .undef .undef .undef .undef .undef .undef .undef .undef .undef .undef .undef .undef .undef) := by kernel_rfl
theorem F120.body_eq : F120.body = F120.t40 := by kernel_rfl
theorem F120.go : zW tbl N C (.of 120) [a0, a1, a2] h nx K0 = IR.run F120.t40 C N (fnO F120.res K0) (retK F120.res K0) (F120.fr a0 a1 a2 .undef .undef .undef .undef .undef .undef .undef .undef .undef .undef .undef .undef .undef .undef .undef) h nx := by
 rw [zM F120.tab, F120.bind, F120.body_eq]; kernel_rfl
theorem F120.ret : retK F120.res K0 (F120.fr a b e f d g i o p q c l w s u v y z) h nx = zI 2 d h fun v1 => K0 (.tup [f, v1, g]) h nx := by kernel_rfl
noncomputable def F27.t0 : IR := .reg [.q (.of 2) (.mv (.c .nils)), .q (.of 3) (.mv (.c (I 0)))]
noncomputable def F27.t1 : IR := .reg [.s (.mv (.t (.of 1))), .w .push none (.call (.c (.fn 95 (.of 95) [])) [(.s 0)]), .s (.mv (.t (.of 0))), .s (.len (.s 0)), .s (.bin .gtr .int (.s 0) (.c (I 256))), .w .push none (.call (.c (.fn 96 (.of 96) [])) [(.s 0), (.c (I 5))]), .w .push none (.bslice 1 2 [(I 0)] [(0, 1, (.s 4)), (1, 1, (.s 0))]), .w .push none (.call (.c (.fn 94 (.of 94) [])) [(.s 0)]), .q (.of 4) (.mv (.s 0))]
noncomputable def F27.t2 : IR := .reg [.s (.mv (.t (.of 4))), .q (.of 8) (.bin .neq .int (.s 0) (.c (I 0)))]
noncomputable def F27.t3 : IR := .reg [.s (.mv (.t (.of 4))), .q (.of 2) (.mv (.c .nils)), .q (.of 3) (.mv (.s 0))]
noncomputable def F27.t4 : IR := .seq F27.t3 .ret
noncomputable def F27.t5 : IR := .cond (.t (.of 8)) F27.t4 .skip
noncomputable def F27.t6 : IR := .seq F27.t2 F27.t5
noncomputable def F27.t7 : IR := .seq F27.t1 F27.t6
noncomputable def F27.t8 : IR := .reg [.s (.mv (.t (.of 0))), .s (.mv (.t (.of 1))), .w .push none (.call (.c (.fn 97 (.of 97) [])) [(.s 1), (.s 0)]), .q (.of 5) (.mv (.s 0))]
noncomputable def F27.t9 : IR := .reg [.s (.mv (.t (.of 5))), .q (.of 9) (.bin .neq .int (.s 0) (.c (I 0)))]
noncomputable def F27.t10 : IR := .reg [.s (.mv (.t (.of 5))), .q (.of 2) (.mv (.c .nils)), .q (.of 3) (.mv (.s 0))]
noncomputable def F27.t11 : IR := .seq F27.t10 .ret
noncomputable def F27.t12 : IR := .cond (.t (.of 9)) F27.t11 .skip
noncomputable def F27.t13 : IR := .seq F27.t9 F27.t12
noncomputable def F27.t14 : IR := .seq F27.t8 F27.t13
noncomputable def F27.t15 : IR := .reg [.s (.mv (.t (.of 0))), .s (.mv (.t (.of 1))), .w .push none (.call (.c (.fn 98 (.of 98) [])) [(.s 1), (.s 0), (.c (I 1536))]), .s (.mv (.s 0)), .s (.ext 0 (.s 0)), .s (.ext 1 (.s 1)), .s (.ext 2 (.s 2)), .q (.of 6) (.mv (.s 2)), .s (.mv (.s 1)), .q (.of 7) (.mv (.s 1))]
noncomputable def F27.t16 : IR := .reg [.s (.mv (.t (.of 7))), .q (.of 10) (.not (.s 0))]
noncomputable def F27.t17 : IR := .reg [.q (.of 2) (.mv (.c .nils)), .q (.of 3) (.mv (.c (I 20)))]
noncomputable def F27.t18 : IR := .seq F27.t17 .ret
noncomputable def F27.t19 : IR := .cond (.t (.of 10)) F27.t18 .skip
noncomputable def F27.t20 : IR := .seq F27.t16 F27.t19
noncomputable def F27.t21 : IR := .reg [.s (.mv (.t (.of 6))), .w .push none (.call (.c (.fn 99 (.of 99) [])) [(.s 0)]), .q (.of 2) (.mv (.s 0)), .q (.of 3) (.mv (.c (I 0)))]
noncomputable def F27.t22 : IR := .seq F27.t21 .ret
noncomputable def F27.t23 : IR := .seq F27.t20 F27.t22
noncomputable def F27.t24 : IR := .seq F27.t15 F27.t23
noncomputable def F27.t25 : IR := .seq F27.t14 F27.t24
noncomputable def F27.t26 : IR := .seq F27.t7 F27.t25
noncomputable def F27.t27 : IR := .seq F27.t0 F27.t26
theorem F27.t0_s : IR.run F27.t0 C N O K (F27.fr a b e f d g i o p q c) h nx =
 K (F27.fr a b .nils (I 0) d g i o p q c) h nx := by kernel_rfl
theorem F27.t1_s : IR.run F27.t1 C N O K (F27.fr a b e f d g i o p q c) h nx =
 C.fn 95 (.of 95) [b] h nx fun v1 h2 n3 => sLen a fun v4 => sBin .gtr .int v4 (I 256) fun v5 => C.fn 96 (.of 96) [v5, (I 5)] h2 n3 fun v6 h7 n8 => jC 1 2 [(I 0)] [(0, 1, v1), (1, 1, v6)] h7 n8 fun v9 hU nU => C.fn 94 (.of 94) [v9] hU nU fun vC h13 n14 => K (F27.fr a b e f vC g i o p q c) h13 n14 := by kernel_rfl
theorem F27.t2_s : IR.run F27.t2 C N O K (F27.fr a b e f d g i o p q c) h nx =
 sBin .neq .int d (I 0) fun v1 => K (F27.fr a b e f d g i o v1 q c) h nx := by kernel_rfl
theorem F27.t3_s : IR.run F27.t3 C N O K (F27.fr a b e f d g i o p q c) h nx =
 K (F27.fr a b .nils d d g i o p q c) h nx := by kernel_rfl
theorem F27.v8 : Arg.ev (.t (.of 8)) ⟨(F27.fr a b e f d g i o p q c), []⟩ = p := by kernel_rfl
theorem F27.t8_s : IR.run F27.t8 C N O K (F27.fr a b e f d g i o p q c) h nx =
 C.fn 97 (.of 97) [a, b] h nx fun v1 h2 n3 => K (F27.fr a b e f d v1 i o p q c) h2 n3 := by kernel_rfl
theorem F27.t9_s : IR.run F27.t9 C N O K (F27.fr a b e f d g i o p q c) h nx =
 sBin .neq .int g (I 0) fun v1 => K (F27.fr a b e f d g i o p v1 c) h nx := by kernel_rfl
theorem F27.t10_s : IR.run F27.t10 C N O K (F27.fr a b e f d g i o p q c) h nx =
 K (F27.fr a b .nils g d g i o p q c) h nx := by kernel_rfl
theorem F27.v9 : Arg.ev (.t (.of 9)) ⟨(F27.fr a b e f d g i o p q c), []⟩ = q := by kernel_rfl
theorem F27.t15_s : IR.run F27.t15 C N O K (F27.fr a b e f d g i o p q c) h nx =
 C.fn 98 (.of 98) [a, b, (I 1536)] h nx fun v1 h2 n3 => sExt 0 v1 fun v4 => sExt 1 v1 fun v5 => sExt 2 v1 fun v6 => K (F27.fr a b e f d g v4 v6 p q c) h2 n3 := by kernel_rfl
theorem F27.t16_s : IR.run F27.t16 C N O K (F27.fr a b e f d g i o p q c) h nx =
 sNot o fun v1 => K (F27.fr a b e f d g i o p q v1) h nx := by kernel_rfl
theorem F27.t17_s : IR.run F27.t17 C N O K (F27.fr a b e f d g i o p q c) h nx =
 K (F27.fr a b .nils (I 20) d g i o p q c) h nx := by kernel_rfl
theorem F27.v10 : Arg.ev (.t (.of 10)) ⟨(F27.fr a b e f d g i o p q c), []⟩ = c := by kernel_rfl
theorem F27.t21_s : IR.run F27.t21 C N O K (F27.fr a b e f d g i o p q c) h nx =
 C.fn 99 (.of 99) [i] h nx fun v1 h2 n3 => K (F27.fr a b v1 (I 0) d g i o p q c) h2 n3 := by kernel_rfl
theorem F27.tab : T.get none (.of 27) tbl = some F27 := by kernel_rfl
theorem F27.bind (k : T AV → OP) : yG F27.params [a0, a1] F27.init k = k (F27.fr a0 a1 .undef .undef .undef .undef .undef .undef .undef .undef .undef) := by kernel_rfl
theorem F27.body_eq : F27.body = F27.t27 := by kernel_rfl
theorem F27.go : zW tbl N C (.of 27) [a0, a1] h nx K0 = IR.run F27.t27 C N (fnO F27.res K0) (retK F27.res K0) (F27.fr a0 a1 .undef .undef .undef .undef .undef .undef .undef .undef .undef) h nx := by
 rw [zM F27.tab, F27.bind, F27.body_eq]; kernel_rfl
theorem F27.ret : retK F27.res K0 (F27.fr a b e f d g i o p q c) h nx = K0 (.tup [e, f]) h nx := by kernel_rfl
end
end Go.Ev
namespace Go.Ev
open Go Go.Proofs
set_option maxRecDepth 100000
variable {N : Nat} {C : Calls Prop} {K0 : Kw Prop} {K R : Ks Prop} {h : T Blk} {nx : Pa} {a b e f d g i o p q c l a0 : AV}
theorem F99.g1_eq (X2 : IR) (O : Outs Prop) (t : T AV) : IR.run (F99.g1 X2) C N O K t h nx = IR.run X2 C N (O.blk 0 K) K t h nx := by kernel_rfl
theorem F99.g7_eq (X8 : IR) (O : Outs Prop) (t : T AV) : IR.run (F99.g7 X8) C N O K t h nx = IR.run X8 C N (O.blk 2 K) K t h nx := by kernel_rfl
theorem F99.tab : T.get none (.of 99) tbl = some F99 := by kernel_rfl
theorem F99.go : zW tbl N C (.of 99) [a0] h nx K0 =
 sRange a0 h nx fun v1 h2 n3 => IR.run F99.b1 C N (fnO F99.res K0) (IR.run F99.b6 C N (fnO F99.res K0) (retK F99.res K0)) (F99.fr a0 .nils .nils .undef .undef .undef v1 .undef .undef .undef .undef .undef) h2 n3 := by
 rw [zM F99.tab]; kernel_rfl
theorem F99.L1 (Inv : Nat → AV → T Blk → Pa → Prop) {m : Nat} (hm : m < N) (hi : Inv m e h nx)
  (step : ∀ (m : Nat) (z2 z3 z7 : AV) (h : T Blk) (nx : Pa) (R : Ks Prop), Inv m z2 h nx → (∀ (m' : Nat) (w2 w3 w7 : AV) (h' : T Blk) (nx' : Pa), m' < m → Inv m' w2 h' nx' → R (F99.fr a b w2 w3 d g i w7 p q c l) h' nx' = .ok True) →
   (sNext C i h nx fun v1 h2 n3 => sExt 0 v1 fun v4 => yD v4 (sEntry i h2 fun v5 => sExt 1 v5 fun v6 => yL [.nils, (.bool false)] h2 n3 fun v7 h8 n9 => zN 2 v7 v6 h8 n9 fun vA hG nG => zI 2 v7 hG fun vD => jC 2 1 [.nils, (.bool false)] [(0, 2, vD)] hG nG fun vE hA nA => kP C 2 32 z2 vE hA nA fun vH h18 n19 => R (F99.fr a b vH v7 d g i v4 p q c l) h18 n19) (K (F99.fr a b z2 z3 d g i v4 p q c l) h2 n3)) = .ok True) :
  IR.run F99.b1 C N (fnO F99.res K0) K (F99.fr a b e f d g i o p q c l) h nx = .ok True := by
 rw [F99.b1, F99.g1_eq, F99.b2]
 refine yJ (fun m tm h nx => ∃ z2 z3 z7, tm = (F99.fr a b z2 z3 d g i z7 p q c l) ∧ Inv m z2 h nx) ?_ hm ⟨_, _, _, rfl, hi⟩
 rintro m tm h nx R ⟨z2, z3, z7, rfl, hi⟩ hR
 refine Eq.trans ?_ (step m z2 z3 z7 h nx R hi fun m' w2 w3 w7 h' nx' hlt hi' => hR m' _ h' nx' hlt ⟨_, _, _, rfl, hi'⟩)
 kernel_rfl
theorem F99.k6 : IR.run F99.b6 C N (fnO F99.res K0) K (F99.fr a b e f d g i o p q c l) h nx =
 C.fn 164 (.of 164) [e, (.fn 162 (.of 162) [])] h nx fun v1 h2 n3 => sLen e fun v4 => IR.run F99.b7 C N (fnO F99.res K0) (IR.run F99.b14 C N (fnO F99.res K0) K) (F99.fr a b e f .nils g i o e v4 (I 0) l) h2 n3 := by kernel_rfl
theorem F99.L7 (Inv : Nat → AV → AV → T Blk → Pa → Prop) {m : Nat} (hm : m < N) (hi : Inv m d c h nx)
  (step : ∀ (m : Nat) (z4 z5 zJ zA : AV) (h : T Blk) (nx : Pa) (R : Ks Prop), Inv m z4 zJ h nx → (∀ (m' : Nat) (w4 w5 wH wA : AV) (h' : T Blk) (nx' : Pa), m' < m → Inv m' w4 wH h' nx' → R (F99.fr a b e f w4 w5 i o p q wH wA) h' nx' = .ok True) →
   (sBin .lss .int zJ q fun v1 => yD v1 (zO 2 p zJ fun v2 => zI 2 v2 h fun v3 => yL [.nils, (.bool false)] h nx fun v4 h5 n6 => zN 2 v4 v3 h5 n6 fun v7 h8 n9 => zI 2 v4 h8 fun vA => jC 2 1 [.nils, (.bool false)] [(0, 2, vA)] h8 n9 fun vB hB nB => kP C 2 32 z4 vB hB nB fun vE hA nA => sBin .add .int zJ (I 1) fun vH => R (F99.fr a b e f vE v4 i o p q vH v1) hA nA) (K (F99.fr a b e f z4 z5 i o p q zJ v1) h nx)) = .ok True) :
  IR.run F99.b7 C N (fnO F99.res K0) K (F99.fr a b e f d g i o p q c l) h nx = .ok True := by
 rw [F99.b7, F99.g7_eq, F99.b8]
 refine yJ (fun m tm h nx => ∃ z4 z5 zJ zA, tm = (F99.fr a b e f z4 z5 i o p q zJ zA) ∧ Inv m z4 zJ h nx) ?_ hm ⟨_, _, _, _, rfl, hi⟩
 rintro m tm h nx R ⟨z4, z5, zJ, zA, rfl, hi⟩ hR
 refine Eq.trans ?_ (step m z4 z5 zJ zA h nx R hi fun m' w4 w5 wH wA h' nx' hlt hi' => hR m' _ h' nx' hlt ⟨_, _, _, _, rfl, hi'⟩)
 kernel_rfl
theorem F99.k14 : IR.run F99.b14 C N (fnO F99.res K0) K (F99.fr a b e f d g i o p q c l) h nx =
 K0 d h nx := by kernel_rfl
end Go.Ev
namespace Go.Ev
open Go Go.Proofs
set_option maxRecDepth 100000
section
variable {N : Nat} {C : Calls Prop} {K0 : Kw Prop} {K : Ks Prop} {h : T Blk} {nx : Pa} {a b e f d g i o p q c l w s u v y z B A a0 a1 a2 : AV} {O : Outs Prop} {tm : T AV} {Kt : KTm} {r : List RO} {s0 s1 s2 s3 s4 s5 s6 s7 s8 s9 s10 s11 s12 s13 s14 s15 s16 s17 s18 s19 s20 s21 s22 s23 s24 s25 s26 s27 s28 s29 s30 s31 s32 s33 s34 s35 s36 s37 s38 s39 : AV}
noncomputable def F39.t0 : IR := .reg [.w (.loc (.of 3)) none (.box (.t (.of 1))), .q (.of 4) (.mv (.c .nils)), .q (.of 5) (.mv (.c (I 0)))]
noncomputable def F39.t1 : IR := .reg [.s (.mv (.t (.of 0))), .s (.load (.t (.of 3))), .s (.mv (.t (.of 2))), .w .push none (.call (.c (.fn 120 (.of 120) [])) [(.s 2), (.s 1), (.s 0)]), .s (.mv (.s 0)), .s (.ext 0 (.s 0)), .s (.ext 1 (.s 1)), .s (.ext 2 (.s 2)), .w .push none (.alloc [.nils, .nils]), .s (.mv (.s 3)), .w .none none (.store 2 (.s 1) (.s 3)), .q (.of 6) (.mv (.s 2))]
noncomputable def F39.t2 : IR := .reg [.s (.mv (.t (.of 6))), .q (.of 12) (.bin .neq .int (.s 0) (.c (I 0)))]
noncomputable def F39.t3 : IR := .reg [.s (.mv (.t (.of 6))), .q (.of 4) (.mv (.c .nils)), .q (.of 5) (.mv (.s 0))]
noncomputable def F39.t4 : IR := .seq F39.t3 .ret
noncomputable def F39.t5 : IR := .cond (.t (.of 12)) F39.t4 .skip
noncomputable def F39.t6 : IR := .seq F39.t2 F39.t5
noncomputable def F39.t7 : IR := .seq F39.t1 F39.t6
noncomputable def F39.t8 : IR := .reg [.w .push none .mkmap, .w (.loc (.of 7)) none (.alloc [.nilm]), .w .none none (.store 1 (.t (.of 7)) (.s 0))]
noncomputable def F39.t9 : IR := .reg [.w (.loc (.of 8)) none (.alloc [.nils])]
noncomputable def F39.t10 : IR := .reg [.s (.mv (.t (.of 0))), .w (.loc (.of 13)) none (.call (.c (.fn 90 (.of 90) [])) [(.s 0)])]
noncomputable def F39.t11 : IR := .reg [.w (.loc (.of 9)) none (.alloc [.nils, (.bool false)]), .w .none none (.store 2 (.t (.of 9)) (.t (.of 15)))]
noncomputable def F39.t12 : IR := .reg [.s (.load (.t (.of 7))), .s (.loadN 2 (.t (.of 9))), .w (.loc (.of 16)) none (.call (.c (.fn 121 (.of 121) [])) [(.s 1), (.s 0)])]
noncomputable def F39.t13 : IR := .cond (.t (.of 16)) (.exit 1) .skip
noncomputable def F39.t14 : IR := .seq F39.t12 F39.t13
noncomputable def F39.t15 : IR := .reg [.s (.load (.t (.of 3))), .w (.loc (.of 17)) none (.call (.c (.fn 90 (.of 90) [])) [(.s 0)])]
noncomputable def F39.t16 : IR := .reg [.w (.loc (.of 10)) none (.alloc [.nils, (.bool false)]), .w .none none (.store 2 (.t (.of 10)) (.t (.of 19)))]
noncomputable def F39.t17 : IR := .reg [.s (.loadN 2 (.t (.of 9))), .s (.loadN 2 (.t (.of 10))), .w .push none (.call (.c (.fn 122 (.of 122) [])) [(.s 1), (.s 0)]), .w (.loc (.of 11)) none (.alloc [.nils, (.bool false)]), .w .none none (.store 2 (.t (.of 11)) (.s 0))]
noncomputable def F39.t18 : IR := .dreg [] [(.s (.load (.t (.of 7))), 1, []), (.s (.loadN 2 (.t (.of 11))), 0, []), (.s (.loadN 2 (.t (.of 11))), 1, []), (.w .push none (.call (.c (.fn 123 (.of 123) [])) [(.s 1)]), 0, []), (.w .none none (.mapup .str (.s 3) (.s 0) (.s 1)), 0, [])]
noncomputable def F39.t19 : IR := .seq F39.t17 F39.t18
noncomputable def F39.t20 : IR := .block 3 F39.t19
noncomputable def F39.t21 : IR := .rf (.t (.of 17)) [(.of 18), (.of 19)] F39.t16 F39.t20
noncomputable def F39.t22 : IR := .block 2 F39.t21
noncomputable def F39.t23 : IR := .seq F39.t15 F39.t22
noncomputable def F39.t24 : IR := .dreg [] [(.s (.load (.t (.of 8))), 2, []), (.s (.faddr 0 (.t (.of 9))), 0, []), (.s (.load (.s 0)), 0, []), (.s (.faddr 1 (.t (.of 9))), 1, []), (.s (.load (.s 0)), 1, []), (.w .push none (.call (.c (.fn 106 (.of 106) [])) [(.s 2)]), 0, []), (.s (.build [.nils, (.bool false)] [(0, 1, (.s 0)), (1, 1, (.s 1))]), 0, []), (.w .push none (.bslice 2 1 [.nils, (.bool false)] [(0, 2, (.s 0))]), 0, []), (.w .push none (.appq 2 32 (.s 7) (.s 0)), 0, []), (.w .none none (.store 1 (.t (.of 8)) (.s 0)), 0, [])]
noncomputable def F39.t25 : IR := .seq F39.t23 F39.t24
noncomputable def F39.t26 : IR := .seq F39.t14 F39.t25
noncomputable def F39.t27 : IR := .block 1 F39.t26
noncomputable def F39.t28 : IR := .rf (.t (.of 13)) [(.of 14), (.of 15)] F39.t11 F39.t27
noncomputable def F39.t29 : IR := .block 0 F39.t28
noncomputable def F39.t30 : IR := .seq F39.t10 F39.t29
noncomputable def F39.t31 : IR := .reg [.s (.load (.t (.of 8))), .q (.of 4) (.mv (.s 0)), .q (.of 5) (.mv (.c (I 0)))]
noncomputable def F39.t32 : IR := .seq F39.t31 .ret
noncomputable def F39.t33 : IR := .seq F39.t30 F39.t32
noncomputable def F39.t34 : IR := .seq F39.t9 F39.t33
noncomputable def F39.t35 : IR := .seq F39.t8 F39.t34
noncomputable def F39.t36 : IR := .seq F39.t7 F39.t35
noncomputable def F39.t37 : IR := .seq F39.t0 F39.t36
theorem F39.t0_s : IR.run F39.t0 C N O K (F39.fr a b e f d g i o p q c l w s u v y z B A) h nx =
 sBox b h nx fun v1 h2 n3 => K (F39.fr a b e v1 .nils (I 0) i o p q c l w s u v y z B A) h2 n3 := by kernel_rfl
theorem F39.t1_s : IR.run F39.t1 C N O K (F39.fr a b e f d g i o p q c l w s u v y z B A) h nx =
 zG f h fun v1 => C.fn 120 (.of 120) [a, v1, e] h nx fun v2 h3 n4 => sExt 0 v2 fun v5 => sExt 1 v2 fun v6 => sExt 2 v2 fun v7 => yL [.nils, .nils] h3 n4 fun v8 h9 nH => zN 2 v8 v6 h9 nH fun vB hB nB => K (F39.fr a b e f d g v7 o p q c l w s u v y z B A) hB nB := by kernel_rfl
theorem F39.t2_s : IR.run F39.t2 C N O K (F39.fr a b e f d g i o p q c l w s u v y z B A) h nx =
 sBin .neq .int i (I 0) fun v1 => K (F39.fr a b e f d g i o p q c l v1 s u v y z B A) h nx := by kernel_rfl
theorem F39.t3_s : IR.run F39.t3 C N O K (F39.fr a b e f d g i o p q c l w s u v y z B A) h nx =
 K (F39.fr a b e f .nils i i o p q c l w s u v y z B A) h nx := by kernel_rfl
theorem F39.v12 : Arg.ev (.t (.of 12)) ⟨(F39.fr a b e f d g i o p q c l w s u v y z B A), []⟩ = w := by kernel_rfl
theorem F39.t8_s : IR.run F39.t8 C N O K (F39.fr a b e f d g i o p q c l w s u v y z B A) h nx =
 sMkmap h nx fun v1 h2 n3 => yL [.nilm] h2 n3 fun v4 h5 n6 => zN 1 v4 v1 h5 n6 fun v7 h8 n9 => K (F39.fr a b e f d g i v4 p q c l w s u v y z B A) h8 n9 := by kernel_rfl
theorem F39.t9_s : IR.run F39.t9 C N O K (F39.fr a b e f d g i o p q c l w s u v y z B A) h nx =
 yL [.nils] h nx fun v1 h2 n3 => K (F39.fr a b e f d g i o v1 q c l w s u v y z B A) h2 n3 := by kernel_rfl
theorem F39.t10_s : IR.run F39.t10 C N O K (F39.fr a b e f d g i o p q c l w s u v y z B A) h nx =
 C.fn 90 (.of 90) [a] h nx fun v1 h2 n3 => K (F39.fr a b e f d g i o p q c l w v1 u v y z B A) h2 n3 := by kernel_rfl
theorem F39.t11_s : IR.run F39.t11 C N O K (F39.fr a b e f d g i o p q c l w s u v y z B A) h nx =
 yL [.nils, (.bool false)] h nx fun v1 h2 n3 => zN 2 v1 v h2 n3 fun v4 h5 n6 => K (F39.fr a b e f d g i o p v1 c l w s u v y z B A) h5 n6 := by kernel_rfl
theorem F39.t12_s : IR.run F39.t12 C N O K (F39.fr a b e f d g i o p q c l w s u v y z B A) h nx =
 zG o h fun v1 => zI 2 q h fun v2 => C.fn 121 (.of 121) [v1, v2] h nx fun v3 h4 n5 => K (F39.fr a b e f d g i o p q c l w s u v v3 z B A) h4 n5 := by kernel_rfl
theorem F39.v16 : Arg.ev (.t (.of 16)) ⟨(F39.fr a b e f d g i o p q c l w s u v y z B A), []⟩ = y := by kernel_rfl
theorem F39.t15_s : IR.run F39.t15 C N O K (F39.fr a b e f d g i o p q c l w s u v y z B A) h nx =
 zG f h fun v1 => C.fn 90 (.of 90) [v1] h nx fun v2 h3 n4 => K (F39.fr a b e f d g i o p q c l w s u v y v2 B A) h3 n4 := by kernel_rfl
theorem F39.t16_s : IR.run F39.t16 C N O K (F39.fr a b e f d g i o p q c l w s u v y z B A) h nx =
 yL [.nils, (.bool false)] h nx fun v1 h2 n3 => zN 2 v1 A h2 n3 fun v4 h5 n6 => K (F39.fr a b e f d g i o p q v1 l w s u v y z B A) h5 n6 := by kernel_rfl
theorem F39.t17_s : IR.run F39.t17 C N O K (F39.fr a b e f d g i o p q c l w s u v y z B A) h nx =
 zI 2 q h fun v1 => zI 2 c h fun v2 => C.fn 122 (.of 122) [v1, v2] h nx fun v3 h4 n5 => yL [.nils, (.bool false)] h4 n5 fun v6 h7 n8 => zN 2 v6 v3 h7 n8 fun v9 hU nU => K (F39.fr a b e f d g i o p q c v6 w s u v y z B A) hU nU := by kernel_rfl
theorem F39.t18_s : IR.run F39.t18 C N O K (F39.fr a b e f d g i o p q c l w s u v y z B A) h nx =
 zG o h fun v1 => zI 2 l h fun v2 => zI 2 l h fun v3 => C.fn 123 (.of 123) [v2] h nx fun v4 h5 n6 => (zI 2 l h5 fun vB => zK vB v3 ((zG o h5 fun vA => zK vA v1 (pJ .str v1 v4 v3 h5 n6 fun v7 h8 n9 => K (F39.fr a b e f d g i o p q c l w s u v y z B A) h8 n9)))) := by kernel_rfl
theorem F39.t21_f : Arg.ev (.t (.of 17)) ⟨(F39.fr a b e f d g i o p q c l w s u v y z B A), []⟩ = z := by kernel_rfl
theorem F39.t21_b {z0 z1 : AV} (k : T AV → OP) : yG [(.of 18), (.of 19)] [z0, z1] (F39.fr a b e f d g i o p q c l w s u v y z B A) k = k (F39.fr a b e f d g i o p q c l w s u v y z z0 z1) := by kernel_rfl
theorem F39.t24_s : IR.run F39.t24 C N O K (F39.fr a b e f d g i o p q c l w s u v y z B A) h nx =
 zG p h fun v1 => zT 0 q fun v2 => zG v2 h fun v3 => zT 1 q fun v4 => zG v4 h fun v5 => C.fn 106 (.of 106) [v3] h nx fun v6 h7 n8 => (zG v4 h7 fun vM => zK vM v5 ((zT 1 q fun vL => zK vL v4 ((zG p h7 fun vK => zK vK v1 (kL [.nils, (.bool false)] [(0, 1, v6), (1, 1, v5)] fun v9 => jC 2 1 [.nils, (.bool false)] [(0, 2, v9)] h7 n8 fun vA hG nG => (zG p hG fun vJ => zK vJ v1 (kP C 2 32 v1 vA hG nG fun vD hH nI => zN 1 p vD hH nI fun vG hF nF => K (F39.fr a b e f d g i o p q c l w s u v y z B A) hF nF)))))))) := by kernel_rfl
theorem F39.t28_f : Arg.ev (.t (.of 13)) ⟨(F39.fr a b e f d g i o p q c l w s u v y z B A), []⟩ = s := by kernel_rfl
theorem F39.t28_b {z0 z1 : AV} (k : T AV → OP) : yG [(.of 14), (.of 15)] [z0, z1] (F39.fr a b e f d g i o p q c l w s u v y z B A) k = k (F39.fr a b e f d g i o p q c l w s z0 z1 y z B A) := by kernel_rfl
theorem F39.t31_s : IR.run F39.t31 C N O K (F39.fr a b e f d g i o p q c l w s u v y z B A) h nx =
 zG p h fun v1 => K (F39.fr a b e f v1 (I 0) i o p q c l w s u v y z B A) h nx := by kernel_rfl
theorem F39.tab : T.get none (.of 39) tbl = some F39 := by kernel_rfl
theorem F39.bind (k : T AV → OP) : yG F39.params [a0, a1, a2] F39.init k = k (F39.fr a0 a1 a2 .undef .undef .undef .undef .undef .undef .undef .undef .undef .undef .undef .undef .undef .undef .undef .undef .undef) := by kernel_rfl
theorem F39.body_eq : F39.body = F39.t37 := by kernel_rfl
theorem F39.go : zW tbl N C (.of 39) [a0, a1, a2] h nx K0 = IR.run F39.t37 C N (fnO F39.res K0) (retK F39.res K0) (F39.fr a0 a1 a2 .undef .undef .undef .undef .undef .undef .undef .undef .undef .undef .undef .undef .undef .undef .undef .undef .undef) h nx := by
 rw [zM F39.tab, F39.bind, F39.body_eq]; kernel_rfl
theorem F39.ret : retK F39.res K0 (F39.fr a b e f d g i o p q c l w s u v y z B A) h nx = K0 (.tup [d, g]) h nx := by kernel_rfl
noncomputable def F40.t0 : IR := .reg [.q (.of 3) (.mv (.c (.bool false))), .q (.of 4) (.mv (.c (I 0)))]
noncomputable def F40.t1 : IR := .reg [.s (.mv (.t (.of 0))), .s (.mv (.t (.of 1))), .s (.mv (.t (.of 2))), .w .push none (.call (.c (.fn 120 (.of 120) [])) [(.s 2), (.s 1), (.s 0)]), .s (.mv (.s 0)), .s (.ext 0 (.s 0)), .s (.ext 1 (.s 1)), .s (.ext 2 (.s 2)), .w (.loc (.of 6)) none (.alloc [.nils, .nils]), .q (.of 5) (.mv (.s 2)), .w .none none (.store 2 (.t (.of 6)) (.s 1)), .q (.of 7) (.mv (.s 0))]
noncomputable def F40.t2 : IR := .reg [.s (.mv (.t (.of 7))), .q (.of 10) (.bin .neq .int (.s 0) (.c (I 0)))]
noncomputable def F40.t3 : IR := .reg [.s (.mv (.t (.of 7))), .q (.of 3) (.mv (.c (.bool false))), .q (.of 4) (.mv (.s 0))]
noncomputable def F40.t4 : IR := .seq F40.t3 .ret
noncomputable def F40.t5 : IR := .cond (.t (.of 10)) F40.t4 .skip
noncomputable def F40.t6 : IR := .seq F40.t2 F40.t5
noncomputable def F40.t7 : IR := .reg [.s (.aaddr 1 2 (.t (.of 6)) (.c (I 0))), .q (.of 11) (.load (.s 0)), .q (.of 12) (.len (.t (.of 11))), .q (.of 13) (.mv (.c (I 0)))]
noncomputable def F40.t8 : IR := .reg [.q (.of 14) (.bin .lss .int (.t (.of 13)) (.t (.of 12)))]
noncomputable def F40.t9 : IR := .cond (.t (.of 14)) .skip (.exit 0)
noncomputable def F40.t10 : IR := .reg [.s (.iaddr 2 (.t (.of 11)) (.t (.of 13))), .s (.loadN 2 (.s 0)), .w (.loc (.of 8)) none (.alloc [.nils, (.bool false)]), .w .none none (.store 2 (.t (.of 8)) (.s 0))]
noncomputable def F40.t11 : IR := .reg [.s (.aaddr 1 2 (.t (.of 6)) (.c (I 1))), .q (.of 15) (.load (.s 0)), .q (.of 16) (.len (.t (.of 15))), .q (.of 17) (.mv (.c (I 0)))]
noncomputable def F40.t12 : IR := .reg [.q (.of 18) (.bin .lss .int (.t (.of 17)) (.t (.of 16)))]
noncomputable def F40.t13 : IR := .cond (.t (.of 18)) .skip (.exit 2)
noncomputable def F40.t14 : IR := .reg [.s (.iaddr 2 (.t (.of 15)) (.t (.of 17))), .s (.loadN 2 (.s 0)), .w (.loc (.of 9)) none (.alloc [.nils, (.bool false)]), .w .none none (.store 2 (.t (.of 9)) (.s 0))]
noncomputable def F40.t15 : IR := .dreg [] [(.s (.mv (.t (.of 5))), 3, []), (.s (.loadN 2 (.t (.of 8))), 0, []), (.s (.loadN 2 (.t (.of 9))), 0, []), (.s (.loadN 2 (.t (.of 8))), 1, []), (.w .push none (.call (.c (.fn 122 (.of 122) [])) [(.s 2), (.s 1)]), 0, []), (.w .push none (.call (.c (.fn 124 (.of 124) [])) [(.s 1)]), 0, []), (.w .push none (.call (.c (.fn 122 (.of 122) [])) [(.s 1), (.s 0)]), 0, []), (.w .push none (.call (.c (.fn 121 (.of 121) [])) [(.s 6), (.s 0)]), 0, []), (.q (.of 19) (.not (.s 0)), 0, [])]
noncomputable def F40.t16 : IR := .reg [.q (.of 3) (.mv (.c (.bool false))), .q (.of 4) (.mv (.c (I 0)))]
noncomputable def F40.t17 : IR := .seq F40.t16 .ret
noncomputable def F40.t18 : IR := .cond (.t (.of 19)) F40.t17 .skip
noncomputable def F40.t19 : IR := .seq F40.t15 F40.t18
noncomputable def F40.t20 : IR := .seq F40.t14 F40.t19
noncomputable def F40.t21 : IR := .block 3 F40.t20
noncomputable def F40.t22 : IR := .reg [.s (.bin .add .int (.t (.of 17)) (.c (I 1))), .q (.of 17) (.mv (.s 0))]
noncomputable def F40.t23 : IR := .seq F40.t21 F40.t22
noncomputable def F40.t24 : IR := .seq F40.t13 F40.t23
noncomputable def F40.t25 : IR := .seq F40.t12 F40.t24
noncomputable def F40.t26 : IR := .loop F40.t25
noncomputable def F40.t27 : IR := .block 2 F40.t26
noncomputable def F40.t28 : IR := .seq F40.t11 F40.t27
noncomputable def F40.t29 : IR := .seq F40.t10 F40.t28
noncomputable def F40.t30 : IR := .block 1 F40.t29
noncomputable def F40.t31 : IR := .reg [.s (.bin .add .int (.t (.of 13)) (.c (I 1))), .q (.of 13) (.mv (.s 0))]
noncomputable def F40.t32 : IR := .seq F40.t30 F40.t31
noncomputable def F40.t33 : IR := .seq F40.t9 F40.t32
noncomputable def F40.t34 : IR := .seq F40.t8 F40.t33
noncomputable def F40.t35 : IR := .loop F40.t34
noncomputable def F40.t36 : IR := .block 0 F40.t35
noncomputable def F40.t37 : IR := .seq F40.t7 F40.t36
noncomputable def F40.t38 : IR := .reg [.q (.of 3) (.mv (.c (.bool true))), .q (.of 4) (.mv (.c (I 0)))]
noncomputable def F40.t39 : IR := .seq F40.t38 .ret
noncomputable def F40.t40 : IR := .seq F40.t37 F40.t39
noncomputable def F40.t41 : IR := .seq F40.t6 F40.t40
noncomputable def F40.t42 : IR := .seq F40.t1 F40.t41
noncomputable def F40.t43 : IR := .seq F40.t0 F40.t42
theorem F40.t0_s : IR.run F40.t0 C N O K (F40.fr a b e f d g i o p q c l w s u v y z B A) h nx =
 K (F40.fr a b e (.bool false) (I 0) g i o p q c l w s u v y z B A) h nx := by kernel_rfl
theorem F40.t1_s : IR.run F40.t1 C N O K (F40.fr a b e f d g i o p q c l w s u v y z B A) h nx =
 C.fn 120 (.of 120) [a, b, e] h nx fun v1 h2 n3 => sExt 0 v1 fun v4 => sExt 1 v1 fun v5 => sExt 2 v1 fun v6 => yL [.nils, .nils] h2 n3 fun v7 h8 n9 => zN 2 v7 v5 h8 n9 fun vA hG nG => K (F40.fr a b e f d v4 v7 v6 p q c l w s u v y z B A) hG nG := by kernel_rfl
theorem F40.t2_s : IR.run F40.t2 C N O K (F40.fr a b e f d g i o p q c l w s u v y z B A) h nx =
 sBin .neq .int o (I 0) fun v1 => K (F40.fr a b e f d g i o p q v1 l w s u v y z B A) h nx := by kernel_rfl
theorem F40.t3_s : IR.run F40.t3 C N O K (F40.fr a b e f d g i o p q c l w s u v y z B A) h nx =
 K (F40.fr a b e (.bool false) o g i o p q c l w s u v y z B A) h nx := by kernel_rfl
theorem F40.v10 : Arg.ev (.t (.of 10)) ⟨(F40.fr a b e f d g i o p q c l w s u v y z B A), []⟩ = c := by kernel_rfl
theorem F40.t7_s : IR.run F40.t7 C N O K (F40.fr a b e f d g i o p q c l w s u v y z B A) h nx =
 vT 1 2 i (I 0) fun v1 => zG v1 h fun v2 => sLen v2 fun v3 => K (F40.fr a b e f d g i o p q c v2 v3 (I 0) u v y z B A) h nx := by kernel_rfl
theorem F40.t8_s : IR.run F40.t8 C N O K (F40.fr a b e f d g i o p q c l w s u v y z B A) h nx =
 sBin .lss .int s w fun v1 => K (F40.fr a b e f d g i o p q c l w s v1 v y z B A) h nx := by kernel_rfl
theorem F40.v14 : Arg.ev (.t (.of 14)) ⟨(F40.fr a b e f d g i o p q c l w s u v y z B A), []⟩ = u := by kernel_rfl
theorem F40.t10_s : IR.run F40.t10 C N O K (F40.fr a b e f d g i o p q c l w s u v y z B A) h nx =
 zO 2 l s fun v1 => zI 2 v1 h fun v2 => yL [.nils, (.bool false)] h nx fun v3 h4 n5 => zN 2 v3 v2 h4 n5 fun v6 h7 n8 => K (F40.fr a b e f d g i o v3 q c l w s u v y z B A) h7 n8 := by kernel_rfl
theorem F40.t11_s : IR.run F40.t11 C N O K (F40.fr a b e f d g i o p q c l w s u v y z B A) h nx =
 vT 1 2 i (I 1) fun v1 => zG v1 h fun v2 => sLen v2 fun v3 => K (F40.fr a b e f d g i o p q c l w s u v2 v3 (I 0) B A) h nx := by kernel_rfl
theorem F40.t12_s : IR.run F40.t12 C N O K (F40.fr a b e f d g i o p q c l w s u v y z B A) h nx =
 sBin .lss .int z y fun v1 => K (F40.fr a b e f d g i o p q c l w s u v y z v1 A) h nx := by kernel_rfl
theorem F40.v18 : Arg.ev (.t (.of 18)) ⟨(F40.fr a b e f d g i o p q c l w s u v y z B A), []⟩ = B := by kernel_rfl
theorem F40.t14_s : IR.run F40.t14 C N O K (F40.fr a b e f d g i o p q c l w s u v y z B A) h nx =
 zO 2 v z fun v1 => zI 2 v1 h fun v2 => yL [.nils, (.bool false)] h nx fun v3 h4 n5 => zN 2 v3 v2 h4 n5 fun v6 h7 n8 => K (F40.fr a b e f d g i o p v3 c l w s u v y z B A) h7 n8 := by kernel_rfl
theorem F40.t15_s : IR.run F40.t15 C N O K (F40.fr a b e f d g i o p q c l w s u v y z B A) h nx =
 zI 2 p h fun v1 => zI 2 q h fun v2 => zI 2 p h fun v3 => C.fn 122 (.of 122) [v1, v2] h nx fun v4 h5 n6 => (zI 2 p h5 fun vH => zK vH v3 (zK g g (C.fn 124 (.of 124) [v3] h5 n6 fun v7 h8 n9 => zK g g (C.fn 122 (.of 122) [v4, v7] h8 n9 fun vA hG nG => zK g g (C.fn 121 (.of 121) [g, vA] hG nG fun vD hH nI => sNot vD fun vG => K (F40.fr a b e f d g i o p q c l w s u v y z B vG) hH nI))))) := by kernel_rfl
theorem F40.t16_s : IR.run F40.t16 C N O K (F40.fr a b e f d g i o p q c l w s u v y z B A) h nx =
 K (F40.fr a b e (.bool false) (I 0) g i o p q c l w s u v y z B A) h nx := by kernel_rfl
theorem F40.v19 : Arg.ev (.t (.of 19)) ⟨(F40.fr a b e f d g i o p q c l w s u v y z B A), []⟩ = A := by kernel_rfl
theorem F40.t22_s : IR.run F40.t22 C N O K (F40.fr a b e f d g i o p q c l w s u v y z B A) h nx =
 sBin .add .int z (I 1) fun v1 => K (F40.fr a b e f d g i o p q c l w s u v y v1 B A) h nx := by kernel_rfl
theorem F40.t26_L (Inv : Nat → AV → T Blk → Pa → Prop) {m : Nat} (hm : m < N) (hi : Inv m z h nx)
  (step : ∀ (m : Nat) (z3 z4 z9 zH zL zP : AV) (h : T Blk) (nx : Pa) (R : Ks Prop), Inv m zH h nx → (∀ (m' : Nat) (w3 w4 w9 wG wI wJ : AV) (h' : T Blk) (nx' : Pa), m' < m → Inv m' wG h' nx' → R (F40.fr a b e w3 w4 g i o p w9 c l w s u v y wG wI wJ) h' nx' = .ok True) → IR.run F40.t25 C N O R (F40.fr a b e z3 z4 g i o p z9 c l w s u v y zH zL zP) h nx = .ok True) :
  IR.run F40.t26 C N O K (F40.fr a b e f d g i o p q c l w s u v y z B A) h nx = .ok True := by
 rw [F40.t26]
 refine yJ (fun m tm h nx => ∃ z3 z4 z9 zH zL zP, tm = (F40.fr a b e z3 z4 g i o p z9 c l w s u v y zH zL zP) ∧ Inv m zH h nx) ?_ hm ⟨_, _, _, _, _, _, rfl, hi⟩
 rintro m tm h nx R ⟨z3, z4, z9, zH, zL, zP, rfl, hi⟩ hR
 exact step m z3 z4 z9 zH zL zP h nx R hi fun m' w3 w4 w9 wG wI wJ h' nx' hlt hi' => hR m' _ h' nx' hlt ⟨_, _, _, _, _, _, rfl, hi'⟩
theorem F40.t31_s : IR.run F40.t31 C N O K (F40.fr a b e f d g i o p q c l w s u v y z B A) h nx =
 sBin .add .int s (I 1) fun v1 => K (F40.fr a b e f d g i o p q c l w v1 u v y z B A) h nx := by kernel_rfl
theorem F40.t35_L (Inv : Nat → AV → T Blk → Pa → Prop) {m : Nat} (hm : m < N) (hi : Inv m s h nx)
  (step : ∀ (m : Nat) (z3 z4 z8 z9 zC zD zE zF zH zL zP : AV) (h : T Blk) (nx : Pa) (R : Ks Prop), Inv m zC h nx → (∀ (m' : Nat) (w3 w4 w8 w9 wC wD wE wF wG wI wJ : AV) (h' : T Blk) (nx' : Pa), m' < m → Inv m' wC h' nx' → R (F40.fr a b e w3 w4 g i o w8 w9 c l w wC wD wE wF wG wI wJ) h' nx' = .ok True) → IR.run F40.t34 C N O R (F40.fr a b e z3 z4 g i o z8 z9 c l w zC zD zE zF zH zL zP) h nx = .ok True) :
  IR.run F40.t35 C N O K (F40.fr a b e f d g i o p q c l w s u v y z B A) h nx = .ok True := by
 rw [F40.t35]
 refine yJ (fun m tm h nx => ∃ z3 z4 z8 z9 zC zD zE zF zH zL zP, tm = (F40.fr a b e z3 z4 g i o z8 z9 c l w zC zD zE zF zH zL zP) ∧ Inv m zC h nx) ?_ hm ⟨_, _, _, _, _, _, _, _, _, _, _, rfl, hi⟩
 rintro m tm h nx R ⟨z3, z4, z8, z9, zC, zD, zE, zF, zH, zL, zP, rfl, hi⟩ hR
 exact step m z3 z4 z8 z9 zC zD zE zF zH zL zP h nx R hi fun m' w3 w4 w8 w9 wC wD wE wF wG wI wJ h' nx' hlt hi' => hR m' _ h' nx' hlt ⟨_, _, _, _, _, _, _, _, _, _, _, rfl, hi'⟩
theorem F40.t38_s : IR.run F40.t38 C N O K (F40.fr a b e f d g i o p q c l w s u v y z B A) h nx =
 K (F40.fr a b e (.bool true) (I 0) g i o p q c l w s u v y z B A) h nx := by kernel_rfl
theorem F40.tab : T.get none (.of 40) tbl = some F40 := by kernel_rfl
theorem F40.bind (k : T AV → OP) : yG F40.params [a0, a1, a2] F40.init k = k (F40.fr a0 a1 a2 .undef .undef .undef .undef .undef .undef .undef .undef .undef .undef .undef .undef .undef .undef .undef .undef .undef) := by kernel_rfl
theorem F40.body_eq : F40.body = F40.t43 := by kernel_rfl
theorem F40.go : zW tbl N C (.of 40) [a0, a1, a2] h nx K0 = IR.run F40.t43 C N (fnO F40.res K0) (retK F40.res K0) (F40.fr a0 a1 a2 .undef .undef .undef .undef .undef .undef .undef .undef .undef .undef .undef .undef .undef .undef .undef .undef .undef) h nx := by
 rw [zM F40.tab, F40.bind, F40.body_eq]; kernel_rfl
theorem F40.ret : retK F40.res K0 (F40.fr a b e f d g i o p q c l w s u v y z B A) h nx = K0 (.tup [f, d]) h nx := by kernel_rfl
end
end Go.Ev
namespace Go.Ev
open Go Go.Proofs
set_option maxRecDepth 100000
section
variable {N : Nat} {C : Calls Prop} {K0 : Kw Prop} {K : Ks Prop} {h : T Blk} {nx : Pa} {a b e f d g i o p q a0 : AV} {O : Outs Prop} {tm : T AV} {Kt : KTm} {r : List RO} {s0 s1 s2 s3 s4 s5 s6 s7 s8 s9 s10 s11 s12 s13 s14 s15 s16 s17 s18 s19 s20 s21 s22 s23 s24 s25 s26 s27 s28 s29 s30 s31 s32 s33 s34 s35 s36 s37 s38 s39 : AV}
noncomputable def F124.t0 : IR := .reg [.w (.loc (.of 1)) none (.box (.t (.of 0))), .w (.loc (.of 2)) none (.alloc [.nils, (.bool false)])]
noncomputable def F124.t1 : IR := .dreg [(.alloc [.nils, (.bool false)])] [(.s (.faddr 0 (.t (.of 1))), 2, []), (.s (.load (.s 0)), 2, []), (.s (.len (.s 0)), 2, [(.mkslice 1 8 [(I 0)] (.s 0) (.s 0))]), (.s (.faddr 1 (.t (.of 1))), 2, []), (.s (.load (.s 0)), 2, []), (.w .push none (.mkslice 1 8 [(I 0)] (.s 2) (.s 2)), 0, []), (.s (.build [.nils, (.bool false)] [(0, 1, (.s 0)), (1, 1, (.s 1))]), 1, []), (.w (.loc (.of 3)) none (.alloc [.nils, (.bool false)]), 0, []), (.w .none none (.store 2 (.t (.of 3)) (.s 0)), 0, [])]
noncomputable def F124.t2 : IR := .reg [.s (.faddr 0 (.t (.of 1))), .q (.of 6) (.load (.s 0)), .q (.of 7) (.len (.t (.of 6))), .q (.of 8) (.mv (.c (I 0)))]
noncomputable def F124.t3 : IR := .reg [.q (.of 9) (.bin .lss .int (.t (.of 8)) (.t (.of 7)))]
noncomputable def F124.t4 : IR := .cond (.t (.of 9)) .skip (.exit 0)
noncomputable def F124.t5 : IR := .reg [.s (.mv (.t (.of 8))), .s (.iaddr 1 (.t (.of 6)) (.t (.of 8))), .s (.load (.s 0)), .q (.of 4) (.mv (.s 2)), .q (.of 5) (.mv (.s 0))]
noncomputable def F124.t6 : IR := .reg [.s (.faddr 0 (.t (.of 3))), .s (.load (.s 0)), .s (.mv (.t (.of 5))), .s (.mv (.t (.of 4))), .s (.iaddr 1 (.s 2) (.s 1)), .w .none none (.store 1 (.s 0) (.s 1))]
noncomputable def F124.t7 : IR := .seq F124.t5 F124.t6
noncomputable def F124.t8 : IR := .block 1 F124.t7
noncomputable def F124.t9 : IR := .reg [.s (.bin .add .int (.t (.of 8)) (.c (I 1))), .q (.of 8) (.mv (.s 0))]
noncomputable def F124.t10 : IR := .seq F124.t8 F124.t9
noncomputable def F124.t11 : IR := .seq F124.t4 F124.t10
noncomputable def F124.t12 : IR := .seq F124.t3 F124.t11
noncomputable def F124.t13 : IR := .loop F124.t12
noncomputable def F124.t14 : IR := .block 0 F124.t13
noncomputable def F124.t15 : IR := .seq F124.t2 F124.t14
noncomputable def F124.t16 : IR := .reg [.s (.loadN 2 (.t (.of 3))), .w .none none (.store 2 (.t (.of 2)) (.s 0))]
noncomputable def F124.t17 : IR := .seq F124.t16 .ret
noncomputable def F124.t18 : IR := .seq F124.t15 F124.t17
noncomputable def F124.t19 : IR := .seq F124.t1 F124.t18
noncomputable def F124.t20 : IR := .seq F124.t0 F124.t19
theorem F124.t0_s : IR.run F124.t0 C N O K (F124.fr a b e f d g i o p q) h nx =
 sBox a h nx fun v1 h2 n3 => yL [.nils, (.bool false)] h2 n3 fun v4 h5 n6 => K (F124.fr a v1 v4 f d g i o p q) h5 n6 := by kernel_rfl
theorem F124.t1_s : IR.run F124.t1 C N O K (F124.fr a b e f d g i o p q) h nx =
 sChk (true && true) (zT 0 b fun v1 => zG v1 h fun v2 => sLen v2 fun v3 => sChk (mkSl 8 v3 v3 && true) (zT 1 b fun v4 => zG v4 h fun v5 => uC 1 8 [(I 0)] v3 v3 h nx fun v6 h7 n8 => (zG v4 h7 fun vV => zK vV v5 ((zT 1 b fun v25 => zK v25 v4 ((sLen v2 fun vO => zK vO v3 ((zG v1 h7 fun vN => zK vN v2 ((zT 0 b fun vM => zK vM v1 (kL [.nils, (.bool false)] [(0, 1, v6), (1, 1, v5)] fun v9 => yL [.nils, (.bool false)] h7 n8 fun vA hG nG => (kL [.nils, (.bool false)] [(0, 1, v6), (1, 1, v5)] fun vL => zK vL v9 ((zG v4 hG fun vK => zK vK v5 ((zT 1 b fun vJ => zK vJ v4 ((sLen v2 fun vI => zK vI v3 ((zG v1 hG fun vH => zK vH v2 ((zT 0 b fun vG => zK vG v1 (zN 2 vA v9 hG nG fun vD hH nI => K (F124.fr a b e vA d g i o p q) hH nI)))))))))))))))))))))))) := by kernel_rfl
theorem F124.t2_s : IR.run F124.t2 C N O K (F124.fr a b e f d g i o p q) h nx =
 zT 0 b fun v1 => zG v1 h fun v2 => sLen v2 fun v3 => K (F124.fr a b e f d g v2 v3 (I 0) q) h nx := by kernel_rfl
theorem F124.t3_s : IR.run F124.t3 C N O K (F124.fr a b e f d g i o p q) h nx =
 sBin .lss .int p o fun v1 => K (F124.fr a b e f d g i o p v1) h nx := by kernel_rfl
theorem F124.v9 : Arg.ev (.t (.of 9)) ⟨(F124.fr a b e f d g i o p q), []⟩ = q := by kernel_rfl
theorem F124.t5_s : IR.run F124.t5 C N O K (F124.fr a b e f d g i o p q) h nx =
 zO 1 i p fun v1 => zG v1 h fun v2 => K (F124.fr a b e f p v2 i o p q) h nx := by kernel_rfl
theorem F124.t6_s : IR.run F124.t6 C N O K (F124.fr a b e f d g i o p q) h nx =
 zT 0 f fun v1 => zG v1 h fun v2 => zO 1 v2 g fun v3 => zN 1 v3 d h nx fun v4 h5 n6 => K (F124.fr a b e f d g i o p q) h5 n6 := by kernel_rfl
theorem F124.t9_s : IR.run F124.t9 C N O K (F124.fr a b e f d g i o p q) h nx =
 sBin .add .int p (I 1) fun v1 => K (F124.fr a b e f d g i o v1 q) h nx := by kernel_rfl
theorem F124.t13_L (Inv : Nat → AV → T Blk → Pa → Prop) {m : Nat} (hm : m < N) (hi : Inv m p h nx)
  (step : ∀ (m : Nat) (z4 z5 z8 z9 : AV) (h : T Blk) (nx : Pa) (R : Ks Prop), Inv m z8 h nx → (∀ (m' : Nat) (w4 w5 w8 w9 : AV) (h' : T Blk) (nx' : Pa), m' < m → Inv m' w8 h' nx' → R (F124.fr a b e f w4 w5 i o w8 w9) h' nx' = .ok True) → IR.run F124.t12 C N O R (F124.fr a b e f z4 z5 i o z8 z9) h nx = .ok True) :
  IR.run F124.t13 C N O K (F124.fr a b e f d g i o p q) h nx = .ok True := by
 rw [F124.t13]
 refine yJ (fun m tm h nx => ∃ z4 z5 z8 z9, tm = (F124.fr a b e f z4 z5 i o z8 z9) ∧ Inv m z8 h nx) ?_ hm ⟨_, _, _, _, rfl, hi⟩
 rintro m tm h nx R ⟨z4, z5, z8, z9, rfl, hi⟩ hR
 exact step m z4 z5 z8 z9 h nx R hi fun m' w4 w5 w8 w9 h' nx' hlt hi' => hR m' _ h' nx' hlt ⟨_, _, _, _, rfl, hi'⟩
theorem F124.t16_s : IR.run F124.t16 C N O K (F124.fr a b e f d g i o p q) h nx =
 zI 2 f h fun v1 => zN 2 e v1 h nx fun v2 h3 n4 => K (F124.fr a b e f d g i o p q) h3 n4 := by kernel_rfl
theorem F124.tab : T.get none (.of 124) tbl = some F124 := by kernel_rfl
theorem F124.bind (k : T AV → OP) : yG F124.params [a0] F124.init k = k (F124.fr a0 .undef .undef .undef .undef .undef .undef .undef .undef .undef) := by kernel_rfl
theorem F124.body_eq : F124.body = F124.t20 := by kernel_rfl
theorem F124.go : zW tbl N C (.of 124) [a0] h nx K0 = IR.run F124.t20 C N (fnO F124.res K0) (retK F124.res K0) (F124.fr a0 .undef .undef .undef .undef .undef .undef .undef .undef .undef) h nx := by
 rw [zM F124.tab, F124.bind, F124.body_eq]; kernel_rfl
theorem F124.ret : retK F124.res K0 (F124.fr a b e f d g i o p q) h nx = zI 2 e h fun v1 => K0 v1 h nx := by kernel_rfl
noncomputable def F63.t0 : IR := .reg [.w (.loc (.of 1)) none (.box (.t (.of 0))), .w (.loc (.of 2)) none (.alloc [.nils, (.bool false)])]
noncomputable def F63.t1 : IR := .dreg [] [(.s (.faddr 0 (.t (.of 1))), 0, []), (.s (.load (.s 0)), 0, []), (.s (.faddr 1 (.t (.of 1))), 1, []), (.s (.load (.s 0)), 1, []), (.w .push none (.call (.c (.fn 141 (.of 141) [])) [(.s 2)]), 0, []), (.s (.build [.nils, (.bool false)] [(0, 1, (.s 0)), (1, 1, (.s 1))]), 0, []), (.w .none none (.store 2 (.t (.of 2)) (.s 0)), 0, [])]
noncomputable def F63.t2 : IR := .seq F63.t1 .ret
noncomputable def F63.t3 : IR := .seq F63.t0 F63.t2
theorem F63.t0_s : IR.run F63.t0 C N O K (F63.fr a b e) h nx =
 sBox a h nx fun v1 h2 n3 => yL [.nils, (.bool false)] h2 n3 fun v4 h5 n6 => K (F63.fr a v1 v4) h5 n6 := by kernel_rfl
theorem F63.t1_s : IR.run F63.t1 C N O K (F63.fr a b e) h nx =
 zT 0 b fun v1 => zG v1 h fun v2 => zT 1 b fun v3 => zG v3 h fun v4 => C.fn 141 (.of 141) [v2] h nx fun v5 h6 n7 => (zG v3 h6 fun vD => zK vD v4 ((zT 1 b fun vC => zK vC v3 (kL [.nils, (.bool false)] [(0, 1, v5), (1, 1, v4)] fun v8 => zN 2 e v8 h6 n7 fun v9 hU nU => K (F63.fr a b e) hU nU)))) := by kernel_rfl
theorem F63.tab : T.get none (.of 63) tbl = some F63 := by kernel_rfl
theorem F63.bind (k : T AV → OP) : yG F63.params [a0] F63.init k = k (F63.fr a0 .undef .undef) := by kernel_rfl
theorem F63.body_eq : F63.body = F63.t3 := by kernel_rfl
theorem F63.go : zW tbl N C (.of 63) [a0] h nx K0 = IR.run F63.t3 C N (fnO F63.res K0) (retK F63.res K0) (F63.fr a0 .undef .undef) h nx := by
 rw [zM F63.tab, F63.bind, F63.body_eq]; kernel_rfl
theorem F63.ret : retK F63.res K0 (F63.fr a b e) h nx = zI 2 e h fun v1 => K0 v1 h nx := by kernel_rfl
noncomputable def F141.t0 : IR := .reg [.q (.of 1) (.mv (.c .nils))]
noncomputable def F141.t1 : IR := .reg [.s (.mv (.t (.of 0))), .s (.len (.s 0)), .w .push none (.mkslice 1 8 [(I 0)] (.s 0) (.s 0)), .q (.of 2) (.mv (.s 0))]
noncomputable def F141.t2 : IR := .reg [.q (.of 3) (.mv (.c (I 0)))]
noncomputable def F141.t3 : IR := .reg [.s (.mv (.t (.of 3))), .s (.mv (.t (.of 0))), .s (.len (.s 0)), .q (.of 4) (.bin .lss .int (.s 2) (.s 0))]
noncomputable def F141.t4 : IR := .cond (.t (.of 4)) .skip (.exit 0)
noncomputable def F141.t5 : IR := .seq F141.t3 F141.t4
noncomputable def F141.t6 : IR := .reg [.s (.mv (.t (.of 2))), .s (.mv (.t (.of 0))), .s (.mv (.t (.of 3))), .s (.iaddr 1 (.s 1) (.s 0)), .s (.load (.s 0)), .s (.mv (.t (.of 3))), .s (.iaddr 1 (.s 5) (.s 1)), .w .none none (.store 1 (.s 0) (.s 1))]
noncomputable def F141.t7 : IR := .block 1 F141.t6
noncomputable def F141.t8 : IR := .reg [.s (.mv (.t (.of 3))), .s (.bin .add .int (.s 0) (.c (I 1))), .q (.of 3) (.mv (.s 0))]
noncomputable def F141.t9 : IR := .seq F141.t7 F141.t8
noncomputable def F141.t10 : IR := .seq F141.t5 F141.t9
noncomputable def F141.t11 : IR := .loop F141.t10
noncomputable def F141.t12 : IR := .block 0 F141.t11
noncomputable def F141.t13 : IR := .seq F141.t2 F141.t12
noncomputable def F141.t14 : IR := .reg [.s (.mv (.t (.of 2))), .q (.of 1) (.mv (.s 0))]
noncomputable def F141.t15 : IR := .seq F141.t14 .ret
noncomputable def F141.t16 : IR := .seq F141.t13 F141.t15
noncomputable def F141.t17 : IR := .seq F141.t1 F141.t16
noncomputable def F141.t18 : IR := .seq F141.t0 F141.t17
theorem F141.t0_s : IR.run F141.t0 C N O K (F141.fr a b e f d) h nx =
 K (F141.fr a .nils e f d) h nx := by kernel_rfl
theorem F141.t1_s : IR.run F141.t1 C N O K (F141.fr a b e f d) h nx =
 sLen a fun v1 => uC 1 8 [(I 0)] v1 v1 h nx fun v2 h3 n4 => K (F141.fr a b v2 f d) h3 n4 := by kernel_rfl
theorem F141.t2_s : IR.run F141.t2 C N O K (F141.fr a b e f d) h nx =
 K (F141.fr a b e (I 0) d) h nx := by kernel_rfl
theorem F141.t3_s : IR.run F141.t3 C N O K (F141.fr a b e f d) h nx =
 sLen a fun v1 => sBin .lss .int f v1 fun v2 => K (F141.fr a b e f v2) h nx := by kernel_rfl
theorem F141.v4 : Arg.ev (.t (.of 4)) ⟨(F141.fr a b e f d), []⟩ = d := by kernel_rfl
theorem F141.t6_s : IR.run F141.t6 C N O K (F141.fr a b e f d) h nx =
 zO 1 a f fun v1 => zG v1 h fun v2 => zO 1 e v2 fun v3 => zN 1 v3 f h nx fun v4 h5 n6 => K (F141.fr a b e f d) h5 n6 := by kernel_rfl
theorem F141.t8_s : IR.run F141.t8 C N O K (F141.fr a b e f d) h nx =
 sBin .add .int f (I 1) fun v1 => K (F141.fr a b e v1 d) h nx := by kernel_rfl
theorem F141.t11_L (Inv : Nat → AV → T Blk → Pa → Prop) {m : Nat} (hm : m < N) (hi : Inv m f h nx)
  (step : ∀ (m : Nat) (z3 z4 : AV) (h : T Blk) (nx : Pa) (R : Ks Prop), Inv m z3 h nx → (∀ (m' : Nat) (w3 w4 : AV) (h' : T Blk) (nx' : Pa), m' < m → Inv m' w3 h' nx' → R (F141.fr a b e w3 w4) h' nx' = .ok True) → IR.run F141.t10 C N O R (F141.fr a b e z3 z4) h nx = .ok True) :
  IR.run F141.t11 C N O K (F141.fr a b e f d) h nx = .ok True := by
 rw [F141.t11]
 refine yJ (fun m tm h nx => ∃ z3 z4, tm = (F141.fr a b e z3 z4) ∧ Inv m z3 h nx) ?_ hm ⟨_, _, rfl, hi⟩
 rintro m tm h nx R ⟨z3, z4, rfl, hi⟩ hR
 exact step m z3 z4 h nx R hi fun m' w3 w4 h' nx' hlt hi' => hR m' _ h' nx' hlt ⟨_, _, rfl, hi'⟩
theorem F141.t14_s : IR.run F141.t14 C N O K (F141.fr a b e f d) h nx =
 K (F141.fr a e e f d) h nx := by kernel_rfl
theorem F141.tab : T.get none (.of 141) tbl = some F141 := by kernel_rfl
theorem F141.bind (k : T AV → OP) : yG F141.params [a0] F141.init k = k (F141.fr a0 .undef .undef .undef .undef) := by kernel_rfl
theorem F141.body_eq : F141.body = F141.t18 := by kernel_rfl
theorem F141.go : zW tbl N C (.of 141) [a0] h nx K0 = IR.run F141.t18 C N (fnO F141.res K0) (retK F141.res K0) (F141.fr a0 .undef .undef .undef .undef) h nx := by
 rw [zM F141.tab, F141.bind, F141.body_eq]; kernel_rfl
theorem F141.ret : retK F141.res K0 (F141.fr a b e f d) h nx = K0 b h nx := by kernel_rfl
end
end Go.Ev
namespace Go.Ev
open Go Go.Proofs
set_option maxRecDepth 100000
section
variable {N : Nat} {C : Calls Prop} {K0 : Kw Prop} {K : Ks Prop} {h : T Blk} {nx : Pa} {a b e f d g i o p q c l a0 a1 a2 : AV} {O : Outs Prop} {tm : T AV} {Kt : KTm} {r : List RO} {s0 s1 s2 s3 s4 s5 s6 s7 s8 s9 s10 s11 s12 s13 s14 s15 s16 s17 s18 s19 s20 s21 s22 s23 s24 s25 s26 s27 s28 s29 s30 s31 s32 s33 s34 s35 s36 s37 s38 s39 : AV}
noncomputable def F42.t0 : IR := .reg [.q (.of 2) (.mv (.c (.bool false)))]
noncomputable def F42.t1 : IR := .reg [.q (.of 3) (.mv (.c (I 0)))]
noncomputable def F42.t2 : IR := .reg [.s (.mv (.t (.of 3))), .s (.mv (.t (.of 0))), .s (.len (.s 0)), .q (.of 4) (.bin .lss .int (.s 2) (.s 0))]
noncomputable def F42.t3 : IR := .cond (.t (.of 4)) .skip (.exit 0)
noncomputable def F42.t4 : IR := .seq F42.t2 F42.t3
noncomputable def F42.t5 : IR := .reg [.s (.mv (.t (.of 1))), .s (.mv (.t (.of 0))), .s (.mv (.t (.of 3))), .s (.iaddr 2 (.s 1) (.s 0)), .s (.loadN 2 (.s 0)), .w .push none (.call (.c (.fn 84 (.of 84) [])) [(.s 4), (.s 0)]), .q (.of 5) (.bin .lss .int (.s 0) (.c (I 0)))]
noncomputable def F42.t6 : IR := .reg [.q (.of 2) (.mv (.c (.bool false)))]
noncomputable def F42.t7 : IR := .seq F42.t6 .ret
noncomputable def F42.t8 : IR := .cond (.t (.of 5)) F42.t7 .skip
noncomputable def F42.t9 : IR := .seq F42.t5 F42.t8
noncomputable def F42.t10 : IR := .block 1 F42.t9
noncomputable def F42.t11 : IR := .reg [.s (.mv (.t (.of 3))), .s (.bin .add .int (.s 0) (.c (I 1))), .q (.of 3) (.mv (.s 0))]
noncomputable def F42.t12 : IR := .seq F42.t10 F42.t11
noncomputable def F42.t13 : IR := .seq F42.t4 F42.t12
noncomputable def F42.t14 : IR := .loop F42.t13
noncomputable def F42.t15 : IR := .block 0 F42.t14
noncomputable def F42.t16 : IR := .seq F42.t1 F42.t15
noncomputable def F42.t17 : IR := .reg [.q (.of 2) (.mv (.c (.bool true)))]
noncomputable def F42.t18 : IR := .seq F42.t17 .ret
noncomputable def F42.t19 : IR := .seq F42.t16 F42.t18
noncomputable def F42.t20 : IR := .seq F42.t0 F42.t19
theorem F42.t0_s : IR.run F42.t0 C N O K (F42.fr a b e f d g) h nx =
 K (F42.fr a b (.bool false) f d g) h nx := by kernel_rfl
theorem F42.t1_s : IR.run F42.t1 C N O K (F42.fr a b e f d g) h nx =
 K (F42.fr a b e (I 0) d g) h nx := by kernel_rfl
theorem F42.t2_s : IR.run F42.t2 C N O K (F42.fr a b e f d g) h nx =
 sLen a fun v1 => sBin .lss .int f v1 fun v2 => K (F42.fr a b e f v2 g) h nx := by kernel_rfl
theorem F42.v4 : Arg.ev (.t (.of 4)) ⟨(F42.fr a b e f d g), []⟩ = d := by kernel_rfl
theorem F42.t5_s : IR.run F42.t5 C N O K (F42.fr a b e f d g) h nx =
 zO 2 a f fun v1 => zI 2 v1 h fun v2 => C.fn 84 (.of 84) [b, v2] h nx fun v3 h4 n5 => sBin .lss .int v3 (I 0) fun v6 => K (F42.fr a b e f d v6) h4 n5 := by kernel_rfl
theorem F42.t6_s : IR.run F42.t6 C N O K (F42.fr a b e f d g) h nx =
 K (F42.fr a b (.bool false) f d g) h nx := by kernel_rfl
theorem F42.v5 : Arg.ev (.t (.of 5)) ⟨(F42.fr a b e f d g), []⟩ = g := by kernel_rfl
theorem F42.t11_s : IR.run F42.t11 C N O K (F42.fr a b e f d g) h nx =
 sBin .add .int f (I 1) fun v1 => K (F42.fr a b e v1 d g) h nx := by kernel_rfl
theorem F42.t14_L (Inv : Nat → AV → T Blk → Pa → Prop) {m : Nat} (hm : m < N) (hi : Inv m f h nx)
  (step : ∀ (m : Nat) (z2 z3 z4 z5 : AV) (h : T Blk) (nx : Pa) (R : Ks Prop), Inv m z3 h nx → (∀ (m' : Nat) (w2 w3 w4 w5 : AV) (h' : T Blk) (nx' : Pa), m' < m → Inv m' w3 h' nx' → R (F42.fr a b w2 w3 w4 w5) h' nx' = .ok True) → IR.run F42.t13 C N O R (F42.fr a b z2 z3 z4 z5) h nx = .ok True) :
  IR.run F42.t14 C N O K (F42.fr a b e f d g) h nx = .ok True := by
 rw [F42.t14]
 refine yJ (fun m tm h nx => ∃ z2 z3 z4 z5, tm = (F42.fr a b z2 z3 z4 z5) ∧ Inv m z3 h nx) ?_ hm ⟨_, _, _, _, rfl, hi⟩
 rintro m tm h nx R ⟨z2, z3, z4, z5, rfl, hi⟩ hR
 exact step m z2 z3 z4 z5 h nx R hi fun m' w2 w3 w4 w5 h' nx' hlt hi' => hR m' _ h' nx' hlt ⟨_, _, _, _, rfl, hi'⟩
theorem F42.t17_s : IR.run F42.t17 C N O K (F42.fr a b e f d g) h nx =
 K (F42.fr a b (.bool true) f d g) h nx := by kernel_rfl
theorem F42.tab : T.get none (.of 42) tbl = some F42 := by kernel_rfl
theorem F42.bind (k : T AV → OP) : yG F42.params [a0, a1] F42.init k = k (F42.fr a0 a1 .undef .undef .undef .undef) := by kernel_rfl
theorem F42.body_eq : F42.body = F42.t20 := by kernel_rfl
theorem F42.go : zW tbl N C (.of 42) [a0, a1] h nx K0 = IR.run F42.t20 C N (fnO F42.res K0) (retK F42.res K0) (F42.fr a0 a1 .undef .undef .undef .undef) h nx := by
 rw [zM F42.tab, F42.bind, F42.body_eq]; kernel_rfl
theorem F42.ret : retK F42.res K0 (F42.fr a b e f d g) h nx = K0 e h nx := by kernel_rfl
noncomputable def F43.t0 : IR := .reg [.q (.of 2) (.mv (.c .nils))]
noncomputable def F43.t1 : IR := .reg [.q (.of 3) (.mv (.c .nils))]
noncomputable def F43.t2 : IR := .reg [.q (.of 4) (.mv (.c (I 0)))]
noncomputable def F43.t3 : IR := .reg [.s (.mv (.t (.of 4))), .s (.mv (.t (.of 0))), .s (.len (.s 0)), .q (.of 8) (.bin .lss .int (.s 2) (.s 0))]
noncomputable def F43.t4 : IR := .cond (.t (.of 8)) .skip (.exit 0)
noncomputable def F43.t5 : IR := .seq F43.t3 F43.t4
noncomputable def F43.t6 : IR := .reg [.s (.mv (.t (.of 0))), .s (.mv (.t (.of 4))), .s (.iaddr 2 (.s 1) (.s 0)), .s (.loadN 2 (.s 0)), .w (.loc (.of 5)) none (.alloc [.nils, (.bool false)]), .w .none none (.store 2 (.t (.of 5)) (.s 0))]
noncomputable def F43.t7 : IR := .reg [.q (.of 6) (.mv (.c (I 0)))]
noncomputable def F43.t8 : IR := .reg [.s (.mv (.t (.of 6))), .s (.mv (.t (.of 1))), .s (.len (.s 0)), .q (.of 9) (.bin .lss .int (.s 2) (.s 0))]
noncomputable def F43.t9 : IR := .cond (.t (.of 9)) .skip (.exit 2)
noncomputable def F43.t10 : IR := .seq F43.t8 F43.t9
noncomputable def F43.t11 : IR := .dreg [(.alloc [.nils, (.bool false)])] [(.s (.mv (.t (.of 0))), 2, []), (.s (.mv (.t (.of 4))), 2, []), (.s (.iaddr 2 (.s 1) (.s 0)), 2, []), (.s (.loadN 2 (.s 0)), 2, []), (.s (.mv (.t (.of 1))), 2, []), (.s (.mv (.t (.of 6))), 2, []), (.s (.iaddr 2 (.s 1) (.s 0)), 2, []), (.s (.loadN 2 (.s 0)), 2, []), (.w .push none (.call (.c (.fn 65 (.of 65) [])) [(.s 4), (.s 0)]), 0, []), (.w (.loc (.of 7)) none (.alloc [.nils, (.bool false)]), 0, []), (.w .none none (.store 2 (.t (.of 7)) (.s 0)), 0, [])]
noncomputable def F43.t12 : IR := .reg [.s (.loadN 2 (.t (.of 7))), .s (.loadN 2 (.t (.of 5))), .w (.loc (.of 10)) none (.call (.c (.fn 85 (.of 85) [])) [(.s 1), (.s 0)])]
noncomputable def F43.t13 : IR := .reg [.s (.loadN 2 (.t (.of 7))), .w .none none (.store 2 (.t (.of 5)) (.s 0))]
noncomputable def F43.t14 : IR := .cond (.t (.of 10)) F43.t13 .skip
noncomputable def F43.t15 : IR := .seq F43.t12 F43.t14
noncomputable def F43.t16 : IR := .seq F43.t11 F43.t15
noncomputable def F43.t17 : IR := .block 3 F43.t16
noncomputable def F43.t18 : IR := .reg [.s (.mv (.t (.of 6))), .s (.bin .add .int (.s 0) (.c (I 1))), .q (.of 6) (.mv (.s 0))]
noncomputable def F43.t19 : IR := .seq F43.t17 F43.t18
noncomputable def F43.t20 : IR := .seq F43.t10 F43.t19
noncomputable def F43.t21 : IR := .loop F43.t20
noncomputable def F43.t22 : IR := .block 2 F43.t21
noncomputable def F43.t23 : IR := .seq F43.t7 F43.t22
noncomputable def F43.t24 : IR := .reg [.s (.mv (.t (.of 3))), .s (.loadN 2 (.t (.of 5))), .w .push none (.call (.c (.fn 125 (.of 125) [])) [(.s 1), (.s 0)]), .q (.of 3) (.mv (.s 0))]
noncomputable def F43.t25 : IR := .seq F43.t23 F43.t24
noncomputable def F43.t26 : IR := .seq F43.t6 F43.t25
noncomputable def F43.t27 : IR := .block 1 F43.t26
noncomputable def F43.t28 : IR := .reg [.s (.mv (.t (.of 4))), .s (.bin .add .int (.s 0) (.c (I 1))), .q (.of 4) (.mv (.s 0))]
noncomputable def F43.t29 : IR := .seq F43.t27 F43.t28
noncomputable def F43.t30 : IR := .seq F43.t5 F43.t29
noncomputable def F43.t31 : IR := .loop F43.t30
noncomputable def F43.t32 : IR := .block 0 F43.t31
noncomputable def F43.t33 : IR := .seq F43.t2 F43.t32
noncomputable def F43.t34 : IR := .reg [.s (.mv (.t (.of 3))), .q (.of 2) (.mv (.s 0))]
noncomputable def F43.t35 : IR := .seq F43.t34 .ret
noncomputable def F43.t36 : IR := .seq F43.t33 F43.t35
noncomputable def F43.t37 : IR := .seq F43.t1 F43.t36
noncomputable def F43.t38 : IR := .seq F43.t0 F43.t37
theorem F43.t0_s : IR.run F43.t0 C N O K (F43.fr a b e f d g i o p q c) h nx =
 K (F43.fr a b .nils f d g i o p q c) h nx := by kernel_rfl
theorem F43.t1_s : IR.run F43.t1 C N O K (F43.fr a b e f d g i o p q c) h nx =
 K (F43.fr a b e .nils d g i o p q c) h nx := by kernel_rfl
theorem F43.t2_s : IR.run F43.t2 C N O K (F43.fr a b e f d g i o p q c) h nx =
 K (F43.fr a b e f (I 0) g i o p q c) h nx := by kernel_rfl
theorem F43.t3_s : IR.run F43.t3 C N O K (F43.fr a b e f d g i o p q c) h nx =
 sLen a fun v1 => sBin .lss .int d v1 fun v2 => K (F43.fr a b e f d g i o v2 q c) h nx := by kernel_rfl
theorem F43.v8 : Arg.ev (.t (.of 8)) ⟨(F43.fr a b e f d g i o p q c), []⟩ = p := by kernel_rfl
theorem F43.t6_s : IR.run F43.t6 C N O K (F43.fr a b e f d g i o p q c) h nx =
 zO 2 a d fun v1 => zI 2 v1 h fun v2 => yL [.nils, (.bool false)] h nx fun v3 h4 n5 => zN 2 v3 v2 h4 n5 fun v6 h7 n8 => K (F43.fr a b e f d v3 i o p q c) h7 n8 := by kernel_rfl
theorem F43.t7_s : IR.run F43.t7 C N O K (F43.fr a b e f d g i o p q c) h nx =
 K (F43.fr a b e f d g (I 0) o p q c) h nx := by kernel_rfl
theorem F43.t8_s : IR.run F43.t8 C N O K (F43.fr a b e f d g i o p q c) h nx =
 sLen b fun v1 => sBin .lss .int i v1 fun v2 => K (F43.fr a b e f d g i o p v2 c) h nx := by kernel_rfl
theorem F43.v9 : Arg.ev (.t (.of 9)) ⟨(F43.fr a b e f d g i o p q c), []⟩ = q := by kernel_rfl
theorem F43.t11_s : IR.run F43.t11 C N O K (F43.fr a b e f d g i o p q c) h nx =
 sChk (true && true) (zO 2 a d fun v1 => zI 2 v1 h fun v2 => zO 2 b i fun v3 => zI 2 v3 h fun v4 => C.fn 65 (.of 65) [v2, v4] h nx fun v5 h6 n7 => (zI 2 v3 h6 fun vL => zK vL v4 ((zO 2 b i fun vK => zK vK v3 (zK i i (zK b b ((zI 2 v1 h6 fun vJ => zK vJ v2 ((zO 2 a d fun vI => zK vI v1 (zK d d (zK a a (yL [.nils, (.bool false)] h6 n7 fun v8 h9 nH => (zI 2 v3 h9 fun vH => zK vH v4 ((zO 2 b i fun vG => zK vG v3 (zK i i (zK b b ((zI 2 v1 h9 fun vF => zK vF v2 ((zO 2 a d fun vE => zK vE v1 (zK d d (zK a a (zN 2 v8 v5 h9 nH fun vB hB nB => K (F43.fr a b e f d g i v8 p q c) hB nB))))))))))))))))))))))))) := by kernel_rfl
theorem F43.t12_s : IR.run F43.t12 C N O K (F43.fr a b e f d g i o p q c) h nx =
 zI 2 o h fun v1 => zI 2 g h fun v2 => C.fn 85 (.of 85) [v1, v2] h nx fun v3 h4 n5 => K (F43.fr a b e f d g i o p q v3) h4 n5 := by kernel_rfl
theorem F43.t13_s : IR.run F43.t13 C N O K (F43.fr a b e f d g i o p q c) h nx =
 zI 2 o h fun v1 => zN 2 g v1 h nx fun v2 h3 n4 => K (F43.fr a b e f d g i o p q c) h3 n4 := by kernel_rfl
theorem F43.v10 : Arg.ev (.t (.of 10)) ⟨(F43.fr a b e f d g i o p q c), []⟩ = c := by kernel_rfl
theorem F43.t18_s : IR.run F43.t18 C N O K (F43.fr a b e f d g i o p q c) h nx =
 sBin .add .int i (I 1) fun v1 => K (F43.fr a b e f d g v1 o p q c) h nx := by kernel_rfl
theorem F43.t21_L (Inv : Nat → AV → T Blk → Pa → Prop) {m : Nat} (hm : m < N) (hi : Inv m i h nx)
  (step : ∀ (m : Nat) (z6 z7 z9 zJ : AV) (h : T Blk) (nx : Pa) (R : Ks Prop), Inv m z6 h nx → (∀ (m' : Nat) (w6 w7 w9 wH : AV) (h' : T Blk) (nx' : Pa), m' < m → Inv m' w6 h' nx' → R (F43.fr a b e f d g w6 w7 p w9 wH) h' nx' = .ok True) → IR.run F43.t20 C N O R (F43.fr a b e f d g z6 z7 p z9 zJ) h nx = .ok True) :
  IR.run F43.t21 C N O K (F43.fr a b e f d g i o p q c) h nx = .ok True := by
 rw [F43.t21]
 refine yJ (fun m tm h nx => ∃ z6 z7 z9 zJ, tm = (F43.fr a b e f d g z6 z7 p z9 zJ) ∧ Inv m z6 h nx) ?_ hm ⟨_, _, _, _, rfl, hi⟩
 rintro m tm h nx R ⟨z6, z7, z9, zJ, rfl, hi⟩ hR
 exact step m z6 z7 z9 zJ h nx R hi fun m' w6 w7 w9 wH h' nx' hlt hi' => hR m' _ h' nx' hlt ⟨_, _, _, _, rfl, hi'⟩
theorem F43.t24_s : IR.run F43.t24 C N O K (F43.fr a b e f d g i o p q c) h nx =
 zI 2 g h fun v1 => C.fn 125 (.of 125) [f, v1] h nx fun v2 h3 n4 => K (F43.fr a b e v2 d g i o p q c) h3 n4 := by kernel_rfl
theorem F43.t28_s : IR.run F43.t28 C N O K (F43.fr a b e f d g i o p q c) h nx =
 sBin .add .int d (I 1) fun v1 => K (F43.fr a b e f v1 g i o p q c) h nx := by kernel_rfl
theorem F43.t31_L (Inv : Nat → AV → AV → T Blk → Pa → Prop) {m : Nat} (hm : m < N) (hi : Inv m f d h nx)
  (step : ∀ (m : Nat) (z3 z4 z5 z6 z7 z8 z9 zJ : AV) (h : T Blk) (nx : Pa) (R : Ks Prop), Inv m z3 z4 h nx → (∀ (m' : Nat) (w3 w4 w5 w6 w7 w8 w9 wH : AV) (h' : T Blk) (nx' : Pa), m' < m → Inv m' w3 w4 h' nx' → R (F43.fr a b e w3 w4 w5 w6 w7 w8 w9 wH) h' nx' = .ok True) → IR.run F43.t30 C N O R (F43.fr a b e z3 z4 z5 z6 z7 z8 z9 zJ) h nx = .ok True) :
  IR.run F43.t31 C N O K (F43.fr a b e f d g i o p q c) h nx = .ok True := by
 rw [F43.t31]
 refine yJ (fun m tm h nx => ∃ z3 z4 z5 z6 z7 z8 z9 zJ, tm = (F43.fr a b e z3 z4 z5 z6 z7 z8 z9 zJ) ∧ Inv m z3 z4 h nx) ?_ hm ⟨_, _, _, _, _, _, _, _, rfl, hi⟩
 rintro m tm h nx R ⟨z3, z4, z5, z6, z7, z8, z9, zJ, rfl, hi⟩ hR
 exact step m z3 z4 z5 z6 z7 z8 z9 zJ h nx R hi fun m' w3 w4 w5 w6 w7 w8 w9 wH h' nx' hlt hi' => hR m' _ h' nx' hlt ⟨_, _, _, _, _, _, _, _, rfl, hi'⟩
theorem F43.t34_s : IR.run F43.t34 C N O K (F43.fr a b e f d g i o p q c) h nx =
 K (F43.fr a b f f d g i o p q c) h nx := by kernel_rfl
theorem F43.tab : T.get none (.of 43) tbl = some F43 := by kernel_rfl
theorem F43.bind (k : T AV → OP) : yG F43.params [a0, a1] F43.init k = k (F43.fr a0 a1 .undef .undef .undef .undef .undef .undef .undef .undef .undef) := by kernel_rfl
theorem F43.body_eq : F43.body = F43.t38 := by kernel_rfl
theorem F43.go : zW tbl N C (.of 43) [a0, a1] h nx K0 = IR.run F43.t38 C N (fnO F43.res K0) (retK F43.res K0) (F43.fr a0 a1 .undef .undef .undef .undef .undef .undef .undef .undef .undef) h nx := by
 rw [zM F43.tab, F43.bind, F43.body_eq]; kernel_rfl
theorem F43.ret : retK F43.res K0 (F43.fr a b e f d g i o p q c) h nx = K0 e h nx := by kernel_rfl
noncomputable def F44.t0 : IR := .reg [.q (.of 2) (.mv (.c (.bool false)))]
noncomputable def F44.t1 : IR := .reg [.q (.of 3) (.mv (.c (I 0)))]
noncomputable def F44.t2 : IR := .reg [.s (.mv (.t (.of 3))), .s (.mv (.t (.of 0))), .s (.len (.s 0)), .q (.of 5) (.bin .lss .int (.s 2) (.s 0))]
noncomputable def F44.t3 : IR := .cond (.t (.of 5)) .skip (.exit 0)
noncomputable def F44.t4 : IR := .seq F44.t2 F44.t3
noncomputable def F44.t5 : IR := .reg [.q (.of 4) (.mv (.c (I 0)))]
noncomputable def F44.t6 : IR := .reg [.s (.mv (.t (.of 4))), .s (.mv (.t (.of 1))), .s (.len (.s 0)), .q (.of 6) (.bin .lss .int (.s 2) (.s 0))]
noncomputable def F44.t7 : IR := .cond (.t (.of 6)) .skip (.exit 2)
noncomputable def F44.t8 : IR := .seq F44.t6 F44.t7
noncomputable def F44.t9 : IR := .dreg [] [(.s (.mv (.t (.of 1))), 3, []), (.s (.mv (.t (.of 0))), 0, []), (.s (.mv (.t (.of 3))), 0, []), (.s (.iaddr 2 (.s 1) (.s 0)), 0, []), (.s (.loadN 2 (.s 0)), 0, []), (.s (.mv (.t (.of 1))), 0, []), (.s (.mv (.t (.of 4))), 0, []), (.s (.iaddr 2 (.s 1) (.s 0)), 0, []), (.s (.loadN 2 (.s 0)), 0, []), (.s (.mv (.t (.of 0))), 1, []), (.s (.mv (.t (.of 3))), 1, []), (.s (.iaddr 2 (.s 1) (.s 0)), 1, []), (.s (.loadN 2 (.s 0)), 1, []), (.w .push none (.call (.c (.fn 65 (.of 65) [])) [(.s 8), (.s 4)]), 0, []), (.w .push none (.call (.c (.fn 63 (.of 63) [])) [(.s 1)]), 0, []), (.w .push none (.call (.c (.fn 65 (.of 65) [])) [(.s 1), (.s 0)]), 0, []), (.w .push none (.call (.c (.fn 84 (.of 84) [])) [(.s 15), (.s 0)]), 0, []), (.q (.of 7) (.bin .lss .int (.s 0) (.c (I 0))), 0, [])]
noncomputable def F44.t10 : IR := .reg [.q (.of 2) (.mv (.c (.bool false)))]
noncomputable def F44.t11 : IR := .seq F44.t10 .ret
noncomputable def F44.t12 : IR := .cond (.t (.of 7)) F44.t11 .skip
noncomputable def F44.t13 : IR := .seq F44.t9 F44.t12
noncomputable def F44.t14 : IR := .block 3 F44.t13
noncomputable def F44.t15 : IR := .reg [.s (.mv (.t (.of 4))), .s (.bin .add .int (.s 0) (.c (I 1))), .q (.of 4) (.mv (.s 0))]
noncomputable def F44.t16 : IR := .seq F44.t14 F44.t15
noncomputable def F44.t17 : IR := .seq F44.t8 F44.t16
noncomputable def F44.t18 : IR := .loop F44.t17
noncomputable def F44.t19 : IR := .block 2 F44.t18
noncomputable def F44.t20 : IR := .seq F44.t5 F44.t19
noncomputable def F44.t21 : IR := .block 1 F44.t20
noncomputable def F44.t22 : IR := .reg [.s (.mv (.t (.of 3))), .s (.bin .add .int (.s 0) (.c (I 1))), .q (.of 3) (.mv (.s 0))]
noncomputable def F44.t23 : IR := .seq F44.t21 F44.t22
noncomputable def F44.t24 : IR := .seq F44.t4 F44.t23
noncomputable def F44.t25 : IR := .loop F44.t24
noncomputable def F44.t26 : IR := .block 0 F44.t25
noncomputable def F44.t27 : IR := .seq F44.t1 F44.t26
noncomputable def F44.t28 : IR := .reg [.q (.of 2) (.mv (.c (.bool true)))]
noncomputable def F44.t29 : IR := .seq F44.t28 .ret
noncomputable def F44.t30 : IR := .seq F44.t27 F44.t29
noncomputable def F44.t31 : IR := .seq F44.t0 F44.t30
theorem F44.t0_s : IR.run F44.t0 C N O K (F44.fr a b e f d g i o) h nx =
 K (F44.fr a b (.bool false) f d g i o) h nx := by kernel_rfl
theorem F44.t1_s : IR.run F44.t1 C N O K (F44.fr a b e f d g i o) h nx =
 K (F44.fr a b e (I 0) d g i o) h nx := by kernel_rfl
theorem F44.t2_s : IR.run F44.t2 C N O K (F44.fr a b e f d g i o) h nx =
 sLen a fun v1 => sBin .lss .int f v1 fun v2 => K (F44.fr a b e f d v2 i o) h nx := by kernel_rfl
theorem F44.v5 : Arg.ev (.t (.of 5)) ⟨(F44.fr a b e f d g i o), []⟩ = g := by kernel_rfl
theorem F44.t5_s : IR.run F44.t5 C N O K (F44.fr a b e f d g i o) h nx =
 K (F44.fr a b e f (I 0) g i o) h nx := by kernel_rfl
theorem F44.t6_s : IR.run F44.t6 C N O K (F44.fr a b e f d g i o) h nx =
 sLen b fun v1 => sBin .lss .int d v1 fun v2 => K (F44.fr a b e f d g v2 o) h nx := by kernel_rfl
theorem F44.v6 : Arg.ev (.t (.of 6)) ⟨(F44.fr a b e f d g i o), []⟩ = i := by kernel_rfl
theorem F44.t9_s : IR.run F44.t9 C N O K (F44.fr a b e f d g i o) h nx =
 zO 2 a f fun v1 => zI 2 v1 h fun v2 => zO 2 b d fun v3 => zI 2 v3 h fun v4 => zO 2 a f fun v5 => zI 2 v5 h fun v6 => C.fn 65 (.of 65) [v2, v4] h nx fun v7 h8 n9 => (zI 2 v5 h8 fun vL => zK vL v6 ((zO 2 a f fun vK => zK vK v5 (zK f f (zK a a (zK b b (C.fn 63 (.of 63) [v6] h8 n9 fun vA hG nG => zK b b (C.fn 65 (.of 65) [v7, vA] hG nG fun vD hH nI => zK b b (C.fn 84 (.of 84) [b, vD] hH nI fun vG hF nF => sBin .lss .int vG (I 0) fun vJ => K (F44.fr a b e f d g i vJ) hF nF))))))))) := by kernel_rfl
theorem F44.t10_s : IR.run F44.t10 C N O K (F44.fr a b e f d g i o) h nx =
 K (F44.fr a b (.bool false) f d g i o) h nx := by kernel_rfl
theorem F44.v7 : Arg.ev (.t (.of 7)) ⟨(F44.fr a b e f d g i o), []⟩ = o := by kernel_rfl
theorem F44.t15_s : IR.run F44.t15 C N O K (F44.fr a b e f d g i o) h nx =
 sBin .add .int d (I 1) fun v1 => K (F44.fr a b e f v1 g i o) h nx := by kernel_rfl
theorem F44.t18_L (Inv : Nat → AV → T Blk → Pa → Prop) {m : Nat} (hm : m < N) (hi : Inv m d h nx)
  (step : ∀ (m : Nat) (z2 z4 z6 z7 : AV) (h : T Blk) (nx : Pa) (R : Ks Prop), Inv m z4 h nx → (∀ (m' : Nat) (w2 w4 w6 w7 : AV) (h' : T Blk) (nx' : Pa), m' < m → Inv m' w4 h' nx' → R (F44.fr a b w2 f w4 g w6 w7) h' nx' = .ok True) → IR.run F44.t17 C N O R (F44.fr a b z2 f z4 g z6 z7) h nx = .ok True) :
  IR.run F44.t18 C N O K (F44.fr a b e f d g i o) h nx = .ok True := by
 rw [F44.t18]
 refine yJ (fun m tm h nx => ∃ z2 z4 z6 z7, tm = (F44.fr a b z2 f z4 g z6 z7) ∧ Inv m z4 h nx) ?_ hm ⟨_, _, _, _, rfl, hi⟩
 rintro m tm h nx R ⟨z2, z4, z6, z7, rfl, hi⟩ hR
 exact step m z2 z4 z6 z7 h nx R hi fun m' w2 w4 w6 w7 h' nx' hlt hi' => hR m' _ h' nx' hlt ⟨_, _, _, _, rfl, hi'⟩
theorem F44.t22_s : IR.run F44.t22 C N O K (F44.fr a b e f d g i o) h nx =
 sBin .add .int f (I 1) fun v1 => K (F44.fr a b e v1 d g i o) h nx := by kernel_rfl
theorem F44.t25_L (Inv : Nat → AV → T Blk → Pa → Prop) {m : Nat} (hm : m < N) (hi : Inv m f h nx)
  (step : ∀ (m : Nat) (z2 z3 z4 z5 z6 z7 : AV) (h : T Blk) (nx : Pa) (R : Ks Prop), Inv m z3 h nx → (∀ (m' : Nat) (w2 w3 w4 w5 w6 w7 : AV) (h' : T Blk) (nx' : Pa), m' < m → Inv m' w3 h' nx' → R (F44.fr a b w2 w3 w4 w5 w6 w7) h' nx' = .ok True) → IR.run F44.t24 C N O R (F44.fr a b z2 z3 z4 z5 z6 z7) h nx = .ok True) :
  IR.run F44.t25 C N O K (F44.fr a b e f d g i o) h nx = .ok True := by
 rw [F44.t25]
 refine yJ (fun m tm h nx => ∃ z2 z3 z4 z5 z6 z7, tm = (F44.fr a b z2 z3 z4 z5 z6 z7) ∧ Inv m z3 h nx) ?_ hm ⟨_, _, _, _, _, _, rfl, hi⟩
 rintro m tm h nx R ⟨z2, z3, z4, z5, z6, z7, rfl, hi⟩ hR
 exact step m z2 z3 z4 z5 z6 z7 h nx R hi fun m' w2 w3 w4 w5 w6 w7 h' nx' hlt hi' => hR m' _ h' nx' hlt ⟨_, _, _, _, _, _, rfl, hi'⟩
theorem F44.t28_s : IR.run F44.t28 C N O K (F44.fr a b e f d g i o) h nx =
 K (F44.fr a b (.bool true) f d g i o) h nx := by kernel_rfl
theorem F44.tab : T.get none (.of 44) tbl = some F44 := by kernel_rfl
theorem F44.bind (k : T AV → OP) : yG F44.params [a0, a1] F44.init k = k (F44.fr a0 a1 .undef .undef .undef .undef .undef .undef) := by kernel_rfl
theorem F44.body_eq : F44.body = F44.t31 := by kernel_rfl
theorem F44.go : zW tbl N C (.of 44) [a0, a1] h nx K0 = IR.run F44.t31 C N (fnO F44.res K0) (retK F44.res K0) (F44.fr a0 a1 .undef .undef .undef .undef .undef .undef) h nx := by
 rw [zM F44.tab, F44.bind, F44.body_eq]; kernel_rfl
theorem F44.ret : retK F44.res K0 (F44.fr a b e f d g i o) h nx = K0 e h nx := by kernel_rfl
noncomputable def F125.t0 : IR := .reg [.w (.loc (.of 2)) none (.box (.t (.of 1))), .q (.of 3) (.mv (.c .nils))]
noncomputable def F125.t1 : IR := .reg [.s (.mv (.t (.of 0))), .s (.loadN 2 (.t (.of 2))), .w .push none (.call (.c (.fn 84 (.of 84) [])) [(.s 1), (.s 0)]), .q (.of 5) (.bin .geq .int (.s 0) (.c (I 0)))]
noncomputable def F125.t2 : IR := .reg [.s (.mv (.t (.of 0))), .q (.of 3) (.mv (.s 0))]
noncomputable def F125.t3 : IR := .seq F125.t2 .ret
noncomputable def F125.t4 : IR := .cond (.t (.of 5)) F125.t3 .skip
noncomputable def F125.t5 : IR := .seq F125.t1 F125.t4
noncomputable def F125.t6 : IR := .reg [.q (.of 4) (.mv (.c (I 0)))]
noncomputable def F125.t7 : IR := .dreg [] [(.s (.mv (.t (.of 4))), 0, []), (.s (.mv (.t (.of 0))), 0, []), (.s (.len (.s 0)), 0, []), (.s (.bin .lss .int (.s 2) (.s 0)), 0, []), (.s (.mv (.s 0)), 0, []), (.p .push (some ((.s 0), true)) (.mv (.t (.of 0))), 0, []), (.p .push (some ((.s 1), true)) (.mv (.t (.of 4))), 0, []), (.p .push (some ((.s 2), true)) (.iaddr 2 (.s 1) (.s 0)), 0, []), (.p .push (some ((.s 3), true)) (.loadN 2 (.s 0)), 0, []), (.p .push (some ((.s 4), true)) (.loadN 2 (.t (.of 2))), 0, []), (.w .push (some ((.s 5), true)) (.call (.c (.fn 85 (.of 85) [])) [(.s 1), (.s 0)]), 0, []), (.q (.of 6) (.pick (.s 6) (.s 0) (.c (.bool false))), 0, [])]
noncomputable def F125.t8 : IR := .cond (.t (.of 6)) .skip (.exit 0)
noncomputable def F125.t9 : IR := .seq F125.t7 F125.t8
noncomputable def F125.t10 : IR := .reg [.s (.mv (.t (.of 4))), .s (.bin .add .int (.s 0) (.c (I 1))), .q (.of 4) (.mv (.s 0))]
noncomputable def F125.t11 : IR := .block 1 F125.t10
noncomputable def F125.t12 : IR := .seq F125.t9 F125.t11
noncomputable def F125.t13 : IR := .loop F125.t12
noncomputable def F125.t14 : IR := .block 0 F125.t13
noncomputable def F125.t15 : IR := .dreg [(.bslice 2 0 [.nils, (.bool false)] [])] [(.s (.mv (.t (.of 0))), 3, []), (.s (.mv (.t (.of 4))), 3, []), (.s (.slice 2 (.s 1) none (some (.s 0)) none), 3, []), (.s (.loadN 2 (.t (.of 2))), 2, [(.bslice 2 1 [.nils, (.bool false)] [(0, 2, (.s 0))])]), (.s (.mv (.t (.of 0))), 4, []), (.s (.mv (.t (.of 4))), 4, []), (.s (.slice 2 (.s 1) (some (.s 0)) none none), 4, []), (.w .push none (.bslice 2 0 [.nils, (.bool false)] []), 0, []), (.w .push none (.appq 2 32 (.s 0) (.s 5)), 0, []), (.w .push none (.bslice 2 1 [.nils, (.bool false)] [(0, 2, (.s 5))]), 0, []), (.w .push none (.appq 2 32 (.s 1) (.s 0)), 0, []), (.w .push none (.appq 2 32 (.s 0) (.s 4)), 0, []), (.q (.of 3) (.mv (.s 0)), 0, [])]
noncomputable def F125.t16 : IR := .seq F125.t15 .ret
noncomputable def F125.t17 : IR := .seq F125.t14 F125.t16
noncomputable def F125.t18 : IR := .seq F125.t6 F125.t17
noncomputable def F125.t19 : IR := .seq F125.t5 F125.t18
noncomputable def F125.t20 : IR := .seq F125.t0 F125.t19
theorem F125.t0_s : IR.run F125.t0 C N O K (F125.fr a b e f d g i) h nx =
 sBox b h nx fun v1 h2 n3 => K (F125.fr a b v1 .nils d g i) h2 n3 := by kernel_rfl
theorem F125.t1_s : IR.run F125.t1 C N O K (F125.fr a b e f d g i) h nx =
 zI 2 e h fun v1 => C.fn 84 (.of 84) [a, v1] h nx fun v2 h3 n4 => sBin .geq .int v2 (I 0) fun v5 => K (F125.fr a b e f d v5 i) h3 n4 := by kernel_rfl
theorem F125.t2_s : IR.run F125.t2 C N O K (F125.fr a b e f d g i) h nx =
 K (F125.fr a b e a d g i) h nx := by kernel_rfl
theorem F125.v5 : Arg.ev (.t (.of 5)) ⟨(F125.fr a b e f d g i), []⟩ = g := by kernel_rfl
theorem F125.t6_s : IR.run F125.t6 C N O K (F125.fr a b e f d g i) h nx =
 K (F125.fr a b e f (I 0) g i) h nx := by kernel_rfl
theorem F125.t7_s : IR.run F125.t7 C N O K (F125.fr a b e f d g i) h nx =
 sLen a fun v1 => sBin .lss .int d v1 fun v2 => sG v2 true (fun k => k a) fun v3 => sG v2 true (fun k => k d) fun v4 => sG v2 true (fun k => zO 2 v3 v4 k) fun v5 => sG v2 true (fun k => zI 2 v5 h k) fun v6 => sG v2 true (fun k => zI 2 e h k) fun v7 => sGW v2 true (fun k => C.fn 85 (.of 85) [v6, v7] h nx k) h nx fun v8 h9 nH => gH v2 v8 (.bool false) fun vB => K (F125.fr a b e f d g vB) h9 nH := by kernel_rfl
theorem F125.v6 : Arg.ev (.t (.of 6)) ⟨(F125.fr a b e f d g i), []⟩ = i := by kernel_rfl
theorem F125.t10_s : IR.run F125.t10 C N O K (F125.fr a b e f d g i) h nx =
 sBin .add .int d (I 1) fun v1 => K (F125.fr a b e f v1 g i) h nx := by kernel_rfl
theorem F125.t13_L (Inv : Nat → AV → T Blk → Pa → Prop) {m : Nat} (hm : m < N) (hi : Inv m d h nx)
  (step : ∀ (m : Nat) (z4 z6 : AV) (h : T Blk) (nx : Pa) (R : Ks Prop), Inv m z4 h nx → (∀ (m' : Nat) (w4 w6 : AV) (h' : T Blk) (nx' : Pa), m' < m → Inv m' w4 h' nx' → R (F125.fr a b e f w4 g w6) h' nx' = .ok True) → IR.run F125.t12 C N O R (F125.fr a b e f z4 g z6) h nx = .ok True) :
  IR.run F125.t13 C N O K (F125.fr a b e f d g i) h nx = .ok True := by
 rw [F125.t13]
 refine yJ (fun m tm h nx => ∃ z4 z6, tm = (F125.fr a b e f z4 g z6) ∧ Inv m z4 h nx) ?_ hm ⟨_, _, rfl, hi⟩
 rintro m tm h nx R ⟨z4, z6, rfl, hi⟩ hR
 exact step m z4 z6 h nx R hi fun m' w4 w6 h' nx' hlt hi' => hR m' _ h' nx' hlt ⟨_, _, rfl, hi'⟩
theorem F125.t15_s : IR.run F125.t15 C N O K (F125.fr a b e f d g i) h nx =
 sChk ((jY (repl 0 [.nils, (.bool false)]) []).isSome && true) (uI 2 a none (some d) none fun v1 => zI 2 e h fun v2 => sChk ((jY (repl 1 [.nils, (.bool false)]) [(0, 2, v2)]).isSome && true) (uI 2 a (some d) none none fun v3 => jC 2 0 [.nils, (.bool false)] [] h nx fun v4 h5 n6 => (uI 2 a (some d) none none fun vU => zK vU v3 (zK d d (zK a a ((zI 2 e h5 fun vV => zK vV v2 ((uI 2 a none (some d) none fun v25 => zK v25 v1 (zK d d (zK a a (kP C 2 32 v4 v1 h5 n6 fun v7 h8 n9 => (uI 2 a (some d) none none fun vO => zK vO v3 (zK d d (zK a a ((zI 2 e h8 fun vN => zK vN v2 ((uI 2 a none (some d) none fun vM => zK vM v1 (zK d d (zK a a (jC 2 1 [.nils, (.bool false)] [(0, 2, v2)] h8 n9 fun vA hG nG => (uI 2 a (some d) none none fun vL => zK vL v3 (zK d d (zK a a ((uI 2 a none (some d) none fun vK => zK vK v1 (zK d d (zK a a (kP C 2 32 v7 vA hG nG fun vD hH nI => (uI 2 a (some d) none none fun vJ => zK vJ v3 (zK d d (zK a a (kP C 2 32 vD v3 hH nI fun vG hF nF => K (F125.fr a b e vG d g i) hF nF)))))))))))))))))))))))))))))))))) := by kernel_rfl
theorem F125.tab : T.get none (.of 125) tbl = some F125 := by kernel_rfl
theorem F125.bind (k : T AV → OP) : yG F125.params [a0, a1] F125.init k = k (F125.fr a0 a1 .undef .undef .undef .undef .undef) := by kernel_rfl
theorem F125.body_eq : F125.body = F125.t20 := by kernel_rfl
theorem F125.go : zW tbl N C (.of 125) [a0, a1] h nx K0 = IR.run F125.t20 C N (fnO F125.res K0) (retK F125.res K0) (F125.fr a0 a1 .undef .undef .undef .undef .undef) h nx := by
 rw [zM F125.tab, F125.bind, F125.body_eq]; kernel_rfl
theorem F125.ret : retK F125.res K0 (F125.fr a b e f d g i) h nx = K0 f h nx := by kernel_rfl
noncomputable def F7.t0 : IR := .reg [.q (.of 3) (.mv (.c (.bool false)))]
noncomputable def F7.r1_3 : List RO := .q (.of 9) (.pick (.s 2) (.c (.bool true)) (.s 0)) :: []
noncomputable def F7.r1_2 : List RO := .s (.pick (.s 2) (.c (.bool true)) (.s 0)) :: .s (.mv (.s 0)) :: .p .push (some ((.s 0), false)) (.mv (.t (.of 1))) :: .w .push (some ((.s 1), false)) (.call (.c (.fn 19 (.of 19) [])) [(.s 0), (.c (I 24))]) :: F7.r1_3
noncomputable def F7.r1_1 : List RO := .s (.not (.s 0)) :: .s (.mv (.s 0)) :: .p .push (some ((.s 0), false)) (.mv (.t (.of 0))) :: .w .push (some ((.s 1), false)) (.call (.c (.fn 19 (.of 19) [])) [(.s 0), (.c (I 24))]) :: F7.r1_2
noncomputable def F7.r1_0 : List RO := .w .push none (.call (.c (.fn 18 (.of 18) [])) []) :: F7.r1_1
noncomputable def F7.t1 : IR := .reg F7.r1_0
noncomputable def F7.t2 : IR := .reg [.w .push none (.call (.c (.fn 18 (.of 18) [])) []), .q (.of 3) (.mv (.s 0))]
noncomputable def F7.t3 : IR := .seq F7.t2 .ret
noncomputable def F7.t4 : IR := .cond (.t (.of 9)) F7.t3 .skip
noncomputable def F7.t5 : IR := .seq F7.t1 F7.t4
noncomputable def F7.t6 : IR := .reg [.s (.mv (.t (.of 0))), .s (.mv (.t (.of 1))), .s (.mv (.t (.of 2))), .w .push none (.call (.c (.fn 39 (.of 39) [])) [(.s 2), (.s 1), (.s 0)]), .s (.mv (.s 0)), .s (.ext 0 (.s 0)), .s (.ext 1 (.s 1)), .q (.of 4) (.mv (.s 1)), .q (.of 5) (.mv (.s 0))]
noncomputable def F7.t7 : IR := .reg [.s (.mv (.t (.of 0))), .s (.mv (.t (.of 1))), .s (.mv (.t (.of 2))), .w .push none (.call (.c (.fn 40 (.of 40) [])) [(.s 2), (.s 1), (.s 0)]), .s (.mv (.s 0)), .s (.ext 0 (.s 0)), .s (.ext 1 (.s 1)), .q (.of 6) (.mv (.s 1)), .q (.of 7) (.mv (.s 0))]
noncomputable def F7.t8 : IR := .reg [.s (.mv (.t (.of 0))), .s (.mv (.t (.of 2))), .w .push none (.call (.c (.fn 20 (.of 20) [])) [(.s 1), (.s 0)]), .s (.mv (.t (.of 1))), .s (.mv (.t (.of 2))), .w .push none (.call (.c (.fn 20 (.of 20) [])) [(.s 1), (.s 0)]), .w .push none (.bslice 1 2 [(I 0)] [(0, 1, (.s 3)), (1, 1, (.s 0))]), .w .push none (.call (.c (.fn 41 (.of 41) [])) [(.s 0)]), .q (.of 8) (.mv (.s 0))]
noncomputable def F7.t9 : IR := .reg [.s (.mv (.t (.of 8))), .q (.of 10) (.bin .eql .int (.s 0) (.c (I 0)))]
noncomputable def F7.t10 : IR := .reg [.s (.mv (.t (.of 1))), .s (.mv (.t (.of 0))), .w .push none (.call (.c (.fn 42 (.of 42) [])) [(.s 1), (.s 0)]), .s (.not (.s 0)), .w .push none (.call (.c (.fn 37 (.of 37) [])) [(.s 0), (.c (I 28))]), .q (.of 8) (.mv (.s 0))]
noncomputable def F7.t11 : IR := .cond (.t (.of 10)) F7.t10 .skip
noncomputable def F7.t12 : IR := .seq F7.t9 F7.t11
noncomputable def F7.t13 : IR := .reg [.s (.mv (.t (.of 8))), .q (.of 11) (.bin .neq .int (.s 0) (.c (I 0)))]
noncomputable def F7.r9_2 : List RO := .s (.pick (.s 3) (.s 0) (.c (.bool false))) :: .q (.of 3) (.mv (.s 0)) :: []
noncomputable def F7.r9_1 : List RO := .s (.mv (.s 0)) :: .p .push (some ((.s 0), true)) (.mv (.t (.of 6))) :: .p .push (some ((.s 1), true)) (.not (.s 0)) :: .s (.pick (.s 2) (.s 0) (.c (.bool false))) :: .s (.mv (.s 0)) :: .p .push (some ((.s 0), true)) (.mv (.t (.of 7))) :: .p .push (some ((.s 1), true)) (.mv (.t (.of 8))) :: .p .push (some ((.s 2), true)) (.bin .eql .int (.s 1) (.s 0)) :: F7.r9_2
noncomputable def F7.r9_0 : List RO := .s (.mv (.t (.of 4))) :: .s (.mv (.t (.of 5))) :: .s (.mv (.t (.of 8))) :: .w .push none (.call (.c (.fn 28 (.of 28) [])) [(.s 2), (.s 1), (.s 0), (.c .nils)]) :: F7.r9_1
noncomputable def F7.t14 : IR := .reg F7.r9_0
noncomputable def F7.t15 : IR := .seq F7.t14 .ret
noncomputable def F7.t16 : IR := .cond (.t (.of 11)) F7.t15 .skip
noncomputable def F7.t17 : IR := .seq F7.t13 F7.t16
noncomputable def F7.r10_4 : List RO := .p .push (some ((.s 4), true)) (.bin .eql .bool (.s 3) (.s 0)) :: .s (.pick (.s 5) (.s 0) (.c (.bool false))) :: .q (.of 3) (.mv (.s 0)) :: []
noncomputable def F7.r10_3 : List RO := .w .push (some ((.s 3), true)) (.call (.c (.fn 44 (.of 44) [])) [(.s 1), (.s 0)]) :: F7.r10_4
noncomputable def F7.r10_2 : List RO := .s (.mv (.s 0)) :: .p .push (some ((.s 0), true)) (.mv (.t (.of 7))) :: .p .push (some ((.s 1), true)) (.bin .eql .int (.s 0) (.c (I 0))) :: .s (.pick (.s 2) (.s 0) (.c (.bool false))) :: .s (.mv (.s 0)) :: .p .push (some ((.s 0), true)) (.mv (.t (.of 6))) :: .p .push (some ((.s 1), true)) (.mv (.t (.of 0))) :: .p .push (some ((.s 2), true)) (.mv (.t (.of 1))) :: F7.r10_3
noncomputable def F7.r10_1 : List RO := .w .push none (.call (.c (.fn 28 (.of 28) [])) [(.s 4), (.s 3), (.c (I 0)), (.s 0)]) :: F7.r10_2
noncomputable def F7.r10_0 : List RO := .s (.mv (.t (.of 4))) :: .s (.mv (.t (.of 5))) :: .s (.mv (.t (.of 0))) :: .s (.mv (.t (.of 1))) :: .w .push none (.call (.c (.fn 43 (.of 43) [])) [(.s 1), (.s 0)]) :: F7.r10_1
noncomputable def F7.t18 : IR := .reg F7.r10_0
noncomputable def F7.t19 : IR := .seq F7.t18 .ret
noncomputable def F7.t20 : IR := .seq F7.t17 F7.t19
noncomputable def F7.t21 : IR := .seq F7.t12 F7.t20
noncomputable def F7.t22 : IR := .seq F7.t8 F7.t21
noncomputable def F7.t23 : IR := .seq F7.t7 F7.t22
noncomputable def F7.t24 : IR := .seq F7.t6 F7.t23
noncomputable def F7.t25 : IR := .seq F7.t5 F7.t24
noncomputable def F7.t26 : IR := .seq F7.t0 F7.t25
theorem F7.t0_s : IR.run F7.t0 C N O K (F7.fr a b e f d g i o p q c l) h nx =
 K (F7.fr a b e (.bool false) d g i o p q c l) h nx := by kernel_rfl
theorem F7.t1_s : IR.run F7.t1 C N O K tm h nx = jZ F7.r1_0 C ⟨tm, []⟩ h nx (fun tm h nx => K tm.v h nx) := srun_reg ..
theorem F7.r1_0_g : jZ (.w .push none (.call (.c (.fn 18 (.of 18) [])) []) :: r) C ⟨(F7.fr a b e f d g i o p q c l), []⟩ h nx Kt =
 C.fn 18 (.of 18) [] h nx fun v1 h2 n3 => jZ r C ⟨(F7.fr a b e f d g i o p q c l), v1 :: []⟩ h2 n3 Kt := by kernel_rfl
theorem F7.r1_1_g : jZ (.s (.not (.s 0)) :: .s (.mv (.s 0)) :: .p .push (some ((.s 0), false)) (.mv (.t (.of 0))) :: .w .push (some ((.s 1), false)) (.call (.c (.fn 19 (.of 19) [])) [(.s 0), (.c (I 24))]) :: r) C ⟨(F7.fr a b e f d g i o p q c l), s0 :: []⟩ h nx Kt =
 sNot s0 fun v1 => sG v1 false (fun k => k a) fun v2 => sGW v1 false (fun k => C.fn 19 (.of 19) [v2, (I 24)] h nx k) h nx fun v3 h4 n5 => jZ r C ⟨(F7.fr a b e f d g i o p q c l), v3 :: v2 :: v1 :: v1 :: s0 :: []⟩ h4 n5 Kt := by kernel_rfl
theorem F7.r1_2_g : jZ (.s (.pick (.s 2) (.c (.bool true)) (.s 0)) :: .s (.mv (.s 0)) :: .p .push (some ((.s 0), false)) (.mv (.t (.of 1))) :: .w .push (some ((.s 1), false)) (.call (.c (.fn 19 (.of 19) [])) [(.s 0), (.c (I 24))]) :: r) C ⟨(F7.fr a b e f d g i o p q c l), s0 :: s1 :: s2 :: s3 :: s4 :: []⟩ h nx Kt =
 gH s2 (.bool true) s0 fun v1 => sG v1 false (fun k => k b) fun v2 => sGW v1 false (fun k => C.fn 19 (.of 19) [v2, (I 24)] h nx k) h nx fun v3 h4 n5 => jZ r C ⟨(F7.fr a b e f d g i o p q c l), v3 :: v2 :: v1 :: v1 :: s0 :: s1 :: s2 :: s3 :: s4 :: []⟩ h4 n5 Kt := by kernel_rfl
theorem F7.r1_3_g : jZ (.q (.of 9) (.pick (.s 2) (.c (.bool true)) (.s 0)) :: []) C ⟨(F7.fr a b e f d g i o p q c l), s0 :: s1 :: s2 :: s3 :: s4 :: s5 :: s6 :: s7 :: s8 :: []⟩ h nx Kt =
 gH s2 (.bool true) s0 fun v1 => Kt ⟨(F7.fr a b e f d g i o p v1 c l), s0 :: s1 :: s2 :: s3 :: s4 :: s5 :: s6 :: s7 :: s8 :: []⟩ h nx := by kernel_rfl
theorem F7.t2_s : IR.run F7.t2 C N O K (F7.fr a b e f d g i o p q c l) h nx =
 C.fn 18 (.of 18) [] h nx fun v1 h2 n3 => K (F7.fr a b e v1 d g i o p q c l) h2 n3 := by kernel_rfl
theorem F7.v9 : Arg.ev (.t (.of 9)) ⟨(F7.fr a b e f d g i o p q c l), []⟩ = q := by kernel_rfl
theorem F7.t6_s : IR.run F7.t6 C N O K (F7.fr a b e f d g i o p q c l) h nx =
 C.fn 39 (.of 39) [a, b, e] h nx fun v1 h2 n3 => sExt 0 v1 fun v4 => sExt 1 v1 fun v5 => K (F7.fr a b e f v4 v5 i o p q c l) h2 n3 := by kernel_rfl
theorem F7.t7_s : IR.run F7.t7 C N O K (F7.fr a b e f d g i o p q c l) h nx =
 C.fn 40 (.of 40) [a, b, e] h nx fun v1 h2 n3 => sExt 0 v1 fun v4 => sExt 1 v1 fun v5 => K (F7.fr a b e f d g v4 v5 p q c l) h2 n3 := by kernel_rfl
theorem F7.t8_s : IR.run F7.t8 C N O K (F7.fr a b e f d g i o p q c l) h nx =
 C.fn 20 (.of 20) [a, e] h nx fun v1 h2 n3 => C.fn 20 (.of 20) [b, e] h2 n3 fun v4 h5 n6 => jC 1 2 [(I 0)] [(0, 1, v1), (1, 1, v4)] h5 n6 fun v7 h8 n9 => C.fn 41 (.of 41) [v7] h8 n9 fun vA hG nG => K (F7.fr a b e f d g i o vA q c l) hG nG := by kernel_rfl
theorem F7.t9_s : IR.run F7.t9 C N O K (F7.fr a b e f d g i o p q c l) h nx =
 sBin .eql .int p (I 0) fun v1 => K (F7.fr a b e f d g i o p q v1 l) h nx := by kernel_rfl
theorem F7.t10_s : IR.run F7.t10 C N O K (F7.fr a b e f d g i o p q c l) h nx =
 C.fn 42 (.of 42) [b, a] h nx fun v1 h2 n3 => sNot v1 fun v4 => C.fn 37 (.of 37) [v4, (I 28)] h2 n3 fun v5 h6 n7 => K (F7.fr a b e f d g i o v5 q c l) h6 n7 := by kernel_rfl
theorem F7.v10 : Arg.ev (.t (.of 10)) ⟨(F7.fr a b e f d g i o p q c l), []⟩ = c := by kernel_rfl
theorem F7.t13_s : IR.run F7.t13 C N O K (F7.fr a b e f d g i o p q c l) h nx =
 sBin .neq .int p (I 0) fun v1 => K (F7.fr a b e f d g i o p q c v1) h nx := by kernel_rfl
theorem F7.t14_s : IR.run F7.t14 C N O K tm h nx = jZ F7.r9_0 C ⟨tm, []⟩ h nx (fun tm h nx => K tm.v h nx) := srun_reg ..
theorem F7.r9_0_g : jZ (.s (.mv (.t (.of 4))) :: .s (.mv (.t (.of 5))) :: .s (.mv (.t (.of 8))) :: .w .push none (.call (.c (.fn 28 (.of 28) [])) [(.s 2), (.s 1), (.s 0), (.c .nils)]) :: r) C ⟨(F7.fr a b e f d g i o p q c l), []⟩ h nx Kt =
 C.fn 28 (.of 28) [d, g, p, .nils] h nx fun v1 h2 n3 => jZ r C ⟨(F7.fr a b e f d g i o p q c l), v1 :: p :: g :: d :: []⟩ h2 n3 Kt := by kernel_rfl
theorem F7.r9_1_g : jZ (.s (.mv (.s 0)) :: .p .push (some ((.s 0), true)) (.mv (.t (.of 6))) :: .p .push (some ((.s 1), true)) (.not (.s 0)) :: .s (.pick (.s 2) (.s 0) (.c (.bool false))) :: .s (.mv (.s 0)) :: .p .push (some ((.s 0), true)) (.mv (.t (.of 7))) :: .p .push (some ((.s 1), true)) (.mv (.t (.of 8))) :: .p .push (some ((.s 2), true)) (.bin .eql .int (.s 1) (.s 0)) :: r) C ⟨(F7.fr a b e f d g i o p q c l), s0 :: s1 :: s2 :: s3 :: []⟩ h nx Kt =
 sG s0 true (fun k => k i) fun v1 => sG s0 true (fun k => sNot v1 k) fun v2 => gH s0 v2 (.bool false) fun v3 => sG v3 true (fun k => k o) fun v4 => sG v3 true (fun k => k p) fun v5 => sG v3 true (fun k => sBin .eql .int v4 v5 k) fun v6 => jZ r C ⟨(F7.fr a b e f d g i o p q c l), v6 :: v5 :: v4 :: v3 :: v3 :: v2 :: v1 :: s0 :: s0 :: s1 :: s2 :: s3 :: []⟩ h nx Kt := by kernel_rfl
theorem F7.r9_2_g : jZ (.s (.pick (.s 3) (.s 0) (.c (.bool false))) :: .q (.of 3) (.mv (.s 0)) :: []) C ⟨(F7.fr a b e f d g i o p q c l), s0 :: s1 :: s2 :: s3 :: s4 :: s5 :: s6 :: s7 :: s8 :: s9 :: s10 :: s11 :: []⟩ h nx Kt =
 gH s3 s0 (.bool false) fun v1 => Kt ⟨(F7.fr a b e v1 d g i o p q c l), v1 :: s0 :: s1 :: s2 :: s3 :: s4 :: s5 :: s6 :: s7 :: s8 :: s9 :: s10 :: s11 :: []⟩ h nx := by kernel_rfl
theorem F7.v11 : Arg.ev (.t (.of 11)) ⟨(F7.fr a b e f d g i o p q c l), []⟩ = l := by kernel_rfl
theorem F7.t18_s : IR.run F7.t18 C N O K tm h nx = jZ F7.r10_0 C ⟨tm, []⟩ h nx (fun tm h nx => K tm.v h nx) := srun_reg ..
theorem F7.r10_0_g : jZ (.s (.mv (.t (.of 4))) :: .s (.mv (.t (.of 5))) :: .s (.mv (.t (.of 0))) :: .s (.mv (.t (.of 1))) :: .w .push none (.call (.c (.fn 43 (.of 43) [])) [(.s 1), (.s 0)]) :: r) C ⟨(F7.fr a b e f d g i o p q c l), []⟩ h nx Kt =
 C.fn 43 (.of 43) [a, b] h nx fun v1 h2 n3 => jZ r C ⟨(F7.fr a b e f d g i o p q c l), v1 :: b :: a :: g :: d :: []⟩ h2 n3 Kt := by kernel_rfl
theorem F7.r10_1_g : jZ (.w .push none (.call (.c (.fn 28 (.of 28) [])) [(.s 4), (.s 3), (.c (I 0)), (.s 0)]) :: r) C ⟨(F7.fr a b e f d g i o p q c l), s0 :: s1 :: s2 :: s3 :: s4 :: []⟩ h nx Kt =
 C.fn 28 (.of 28) [s4, s3, (I 0), s0] h nx fun v1 h2 n3 => jZ r C ⟨(F7.fr a b e f d g i o p q c l), v1 :: s0 :: s1 :: s2 :: s3 :: s4 :: []⟩ h2 n3 Kt := by kernel_rfl
theorem F7.r10_2_g : jZ (.s (.mv (.s 0)) :: .p .push (some ((.s 0), true)) (.mv (.t (.of 7))) :: .p .push (some ((.s 1), true)) (.bin .eql .int (.s 0) (.c (I 0))) :: .s (.pick (.s 2) (.s 0) (.c (.bool false))) :: .s (.mv (.s 0)) :: .p .push (some ((.s 0), true)) (.mv (.t (.of 6))) :: .p .push (some ((.s 1), true)) (.mv (.t (.of 0))) :: .p .push (some ((.s 2), true)) (.mv (.t (.of 1))) :: r) C ⟨(F7.fr a b e f d g i o p q c l), s0 :: s1 :: s2 :: s3 :: s4 :: s5 :: []⟩ h nx Kt =
 sG s0 true (fun k => k o) fun v1 => sG s0 true (fun k => sBin .eql .int v1 (I 0) k) fun v2 => gH s0 v2 (.bool false) fun v3 => sG v3 true (fun k => k i) fun v4 => sG v3 true (fun k => k a) fun v5 => sG v3 true (fun k => k b) fun v6 => jZ r C ⟨(F7.fr a b e f d g i o p q c l), v6 :: v5 :: v4 :: v3 :: v3 :: v2 :: v1 :: s0 :: s0 :: s1 :: s2 :: s3 :: s4 :: s5 :: []⟩ h nx Kt := by kernel_rfl
theorem F7.r10_3_g : jZ (.w .push (some ((.s 3), true)) (.call (.c (.fn 44 (.of 44) [])) [(.s 1), (.s 0)]) :: r) C ⟨(F7.fr a b e f d g i o p q c l), s0 :: s1 :: s2 :: s3 :: s4 :: s5 :: s6 :: s7 :: s8 :: s9 :: s10 :: s11 :: s12 :: s13 :: []⟩ h nx Kt =
 sGW s3 true (fun k => C.fn 44 (.of 44) [s1, s0] h nx k) h nx fun v1 h2 n3 => jZ r C ⟨(F7.fr a b e f d g i o p q c l), v1 :: s0 :: s1 :: s2 :: s3 :: s4 :: s5 :: s6 :: s7 :: s8 :: s9 :: s10 :: s11 :: s12 :: s13 :: []⟩ h2 n3 Kt := by kernel_rfl
theorem F7.r10_4_g : jZ (.p .push (some ((.s 4), true)) (.bin .eql .bool (.s 3) (.s 0)) :: .s (.pick (.s 5) (.s 0) (.c (.bool false))) :: .q (.of 3) (.mv (.s 0)) :: []) C ⟨(F7.fr a b e f d g i o p q c l), s0 :: s1 :: s2 :: s3 :: s4 :: s5 :: s6 :: s7 :: s8 :: s9 :: s10 :: s11 :: s12 :: s13 :: s14 :: []⟩ h nx Kt =
 sG s4 true (fun k => sBin .eql .bool s3 s0 k) fun v1 => gH s4 v1 (.bool false) fun v2 => Kt ⟨(F7.fr a b e v2 d g i o p q c l), v2 :: v1 :: s0 :: s1 :: s2 :: s3 :: s4 :: s5 :: s6 :: s7 :: s8 :: s9 :: s10 :: s11 :: s12 :: s13 :: s14 :: []⟩ h nx := by kernel_rfl
theorem F7.tab : T.get none (.of 7) tbl = some F7 := by kernel_rfl
theorem F7.bind (k : T AV → OP) : yG F7.params [a0, a1, a2] F7.init k = k (F7.fr a0 a1 a2 .undef .undef .undef .undef .undef .undef .undef .undef .undef) := by kernel_rfl
theorem F7.body_eq : F7.body = F7.t26 := by kernel_rfl
theorem F7.go : zW tbl N C (.of 7) [a0, a1, a2] h nx K0 = IR.run F7.t26 C N (fnO F7.res K0) (retK F7.res K0) (F7.fr a0 a1 a2 .undef .undef .undef .undef .undef .undef .undef .undef .undef) h nx := by
 rw [zM F7.tab, F7.bind, F7.body_eq]; kernel_rfl
theorem F7.ret : retK F7.res K0 (F7.fr a b e f d g i o p q c l) h nx = K0 f h nx := by kernel_rfl
end
end Go.Ev
