import Derived.Test.YtkjkjpmahgeneaaGreatDoorIrT
import Derived.KernelRfl
import Derived.Test.YtkjkjpmahgeneaaGreatDoorEvD
set_option linter.unusedSimpArgs false
set_option linter.unusedVariables false
namespace Go.Ev
open Go Go.Proofs
set_option maxRecDepth 100000
variable {N : Nat} {C : Calls Prop} {K0 : Kw Prop} {K R : Ks Prop} {h : T Blk} {nx : Pa} {a c f i d g o a0 a1 a2 : AV}
theorem F93.g2_eq (X3 : IR) (O : Outs Prop) (t : T AV) : IR.run (F93.g2 X3) C N O K t h nx = IR.run X3 C N (O.blk 0 K) K t h nx := by kernel_rfl
theorem F93.tab : T.get none (.of 93) tbl = some F93 := by kernel_rfl
theorem F93.go : zY tbl N C (.of 93) [a0] h nx K0 =
 sLen a0 fun v1 => sBin .gtr .int v1 (I 256) fun v2 => yF v2 (K0 (I 5) h nx) (sLen a0 fun v3 => uQ 1 1 [(.bool false)] v3 v3 h nx fun v4 h5 n6 => IR.run F93.b2 C N (fnO F93.res K0) (IR.run F93.b10 C N (fnO F93.res K0) (retK F93.res K0)) (F93.fr a0 (I 0) v4 (I 0) v2 .undef .undef) h5 n6) := by
 rw [zM F93.tab]; kernel_rfl
theorem F93.L2 (Inv : Nat → AV → T Blk → Pa → Prop) {m : Nat} (hm : m < N) (hi : Inv m i h nx)
  (step : ∀ (m : Nat) (z1 z3 z5 z6 : AV) (h : T Blk) (nx : Pa) (R : Ks Prop), Inv m z3 h nx → (∀ (m' : Nat) (w1 w3 w5 w6 : AV) (h' : T Blk) (nx' : Pa), m' < m → Inv m' w3 h' nx' → R (F93.fr a w1 f w3 d w5 w6) h' nx' = .ok True) →
   (sLen a fun v1 => sBin .lss .int z3 v1 fun v2 => yF v2 (zO 1 a z3 fun v3 => zF v3 h fun v4 => sBin .lss .int v4 (I 0) fun v5 => sG v5 false (fun k => k a) fun v6 => sG v5 false (fun k => k z3) fun v7 => sG v5 false (fun k => zO 1 v6 v7 k) fun v8 => sG v5 false (fun k => zF v8 h k) fun v9 => sG v5 false (fun k => k a) fun vA => sG v5 false (fun k => sLen vA k) fun vB => sG v5 false (fun k => sBin .geq .int v9 vB k) fun vC => jJ v5 (.bool true) vC fun vD => sG vD false (fun k => k f) fun vE => sG vD false (fun k => k a) fun vF => sG vD false (fun k => k z3) fun vG => sG vD false (fun k => zO 1 vF vG k) fun vH => sG vD false (fun k => zF vH h k) fun vI => sG vD false (fun k => zO 1 vE vI k) fun vJ => sG vD false (fun k => zF vJ h k) fun vK => jJ vD (.bool true) vK fun vL => yF vL (K0 (I 14) h nx) ((IR.run F93.b8 C N (((fnO F93.res K0).blk 0 K).blk 1 (IR.run F93.b9 C N ((fnO F93.res K0).blk 0 K) R)) (IR.run F93.b9 C N ((fnO F93.res K0).blk 0 K) R)) (F93.fr a z1 f z3 d v2 vL) h nx)) (K (F93.fr a z1 f z3 d v2 z6) h nx)) = .ok True) :
  IR.run F93.b2 C N (fnO F93.res K0) K (F93.fr a c f i d g o) h nx = .ok True := by
 rw [F93.b2, F93.g2_eq, F93.b3]
 refine yP (fun m tm h nx => ∃ z1 z3 z5 z6, tm = (F93.fr a z1 f z3 d z5 z6) ∧ Inv m z3 h nx) ?_ hm ⟨_, _, _, _, rfl, hi⟩
 rintro m tm h nx R ⟨z1, z3, z5, z6, rfl, hi⟩ hR
 refine Eq.trans ?_ (step m z1 z3 z5 z6 h nx R hi fun m' w1 w3 w5 w6 h' nx' hlt hi' => hR m' _ h' nx' hlt ⟨_, _, _, _, rfl, hi'⟩)
 kernel_rfl
theorem F93.k10 : IR.run F93.b10 C N (fnO F93.res K0) K (F93.fr a c f i d g o) h nx =
 K0 (I 0) h nx := by kernel_rfl
theorem F93.k9 {E0 : Ks Prop} : IR.run F93.b9 C N ((fnO F93.res K0).blk 0 E0) K (F93.fr a c f i d g o) h nx =
 sBin .add .int i (I 1) fun v1 => K (F93.fr a c f v1 d g o) h nx := by kernel_rfl
theorem F93.k8 {E0 E1 : Ks Prop} : IR.run F93.b8 C N (((fnO F93.res K0).blk 0 E0).blk 1 E1) K (F93.fr a c f i d g o) h nx =
 zO 1 a i fun v1 => zF v1 h fun v2 => zO 1 f v2 fun v3 => zN 1 v3 (.bool true) h nx fun v4 h5 n6 => K (F93.fr a c f i d g o) h5 n6 := by kernel_rfl
theorem F26.tab : T.get none (.of 26) tbl = some F26 := by kernel_rfl
theorem F26.go : zY tbl N C (.of 26) [a0, a1] h nx K0 =
 sBox a0 h nx fun v1 h2 n3 => C.fn 25 (.of 25) [a1] h2 n3 fun v4 h5 n6 => sBin .neq .int v4 (I 0) fun v7 => yF v7 (K0 (I 3) h5 n6) (zQ 0 v1 fun v8 => zF v8 h5 fun v9 => sLen v9 fun vA => sBin .neq .int vA a1 fun vB => yF vB (K0 (I 2) h5 n6) (zQ 0 v1 fun vC => zF vC h5 fun vD => C.fn 93 (.of 93) [vD] h5 n6 fun vE hA nA => K0 vE hA nA)) := by
 rw [zM F26.tab]; kernel_rfl
theorem F25.tab : T.get none (.of 25) tbl = some F25 := by kernel_rfl
theorem F25.go : zY tbl N C (.of 25) [a0] h nx K0 =
 sBin .lss .int a0 (I 0) fun v1 => sG v1 false (fun k => k a0) fun v2 => sG v1 false (fun k => sBin .gtr .int v2 (I 256) k) fun v3 => jJ v1 (.bool true) v3 fun v4 => yF v4 (K0 (I 3) h nx) (K0 (I 0) h nx) := by
 rw [zM F25.tab]; kernel_rfl
end Go.Ev
namespace Go.Ev
open Go Go.Proofs
set_option maxRecDepth 100000
variable {N : Nat} {C : Calls Prop} {K0 : Kw Prop} {K R : Ks Prop} {h : T Blk} {nx : Pa} {a c f i d g o q s a0 a1 : AV}
end Go.Ev
namespace Go.Ev
open Go Go.Proofs
set_option maxRecDepth 100000
variable {N : Nat} {C : Calls Prop} {K0 : Kw Prop} {K R : Ks Prop} {h : T Blk} {nx : Pa} {a c f i d g o a0 a1 : AV}
theorem F82.g2_eq (X3 : IR) (O : Outs Prop) (t : T AV) : IR.run (F82.g2 X3) C N O K t h nx = IR.run X3 C N (O.blk 0 K) K t h nx := by kernel_rfl
theorem F82.tab : T.get none (.of 82) tbl = some F82 := by kernel_rfl
theorem F82.go : zY tbl N C (.of 82) [a0, a1] h nx K0 =
 sLen a0 fun v1 => sLen a1 fun v2 => sBin .neq .int v1 v2 fun v3 => yF v3 (K0 (.bool false) h nx) (IR.run F82.b2 C N (fnO F82.res K0) (IR.run F82.b9 C N (fnO F82.res K0) (retK F82.res K0)) (F82.fr a0 a1 (.bool false) (I 0) v3 .undef .undef) h nx) := by
 rw [zM F82.tab]; kernel_rfl
theorem F82.L2 (Inv : Nat → AV → T Blk → Pa → Prop) {m : Nat} (hm : m < N) (hi : Inv m i h nx)
  (step : ∀ (m : Nat) (z2 z3 z5 z6 : AV) (h : T Blk) (nx : Pa) (R : Ks Prop), Inv m z3 h nx → (∀ (m' : Nat) (w2 w3 w5 w6 : AV) (h' : T Blk) (nx' : Pa), m' < m → Inv m' w3 h' nx' → R (F82.fr a c w2 w3 d w5 w6) h' nx' = .ok True) →
   (sLen a fun v1 => sBin .lss .int z3 v1 fun v2 => yF v2 (zO 1 a z3 fun v3 => zF v3 h fun v4 => zO 1 c z3 fun v5 => zF v5 h fun v6 => sBin .neq .int v4 v6 fun v7 => yF v7 (K0 (.bool false) h nx) (sBin .add .int z3 (I 1) fun v8 => R (F82.fr a c z2 v8 d v2 v7) h nx)) (K (F82.fr a c z2 z3 d v2 z6) h nx)) = .ok True) :
  IR.run F82.b2 C N (fnO F82.res K0) K (F82.fr a c f i d g o) h nx = .ok True := by
 rw [F82.b2, F82.g2_eq, F82.b3]
 refine yP (fun m tm h nx => ∃ z2 z3 z5 z6, tm = (F82.fr a c z2 z3 d z5 z6) ∧ Inv m z3 h nx) ?_ hm ⟨_, _, _, _, rfl, hi⟩
 rintro m tm h nx R ⟨z2, z3, z5, z6, rfl, hi⟩ hR
 refine Eq.trans ?_ (step m z2 z3 z5 z6 h nx R hi fun m' w2 w3 w5 w6 h' nx' hlt hi' => hR m' _ h' nx' hlt ⟨_, _, _, _, rfl, hi'⟩)
 kernel_rfl
theorem F82.k9 : IR.run F82.b9 C N (fnO F82.res K0) K (F82.fr a c f i d g o) h nx =
 K0 (.bool true) h nx := by kernel_rfl
theorem F106.tab : T.get none (.of 106) tbl = some F106 := by kernel_rfl
theorem F106.go : zY tbl N C (.of 106) [a0] h nx K0 =
 sBin .eql (.nil .sl) a0 .nils fun v1 => yF v1 (K0 .nils h nx) (yY 1 0 [(I 0)] [] h nx fun v2 h3 n4 => sApp 1 8 v2 a0 h3 n4 fun v5 h6 n7 => K0 v5 h6 n7) := by
 rw [zM F106.tab]; kernel_rfl
end Go.Ev
namespace Go.Ev
open Go Go.Proofs
set_option maxRecDepth 100000
variable {N : Nat} {C : Calls Prop} {K0 : Kw Prop} {K R : Ks Prop} {h : T Blk} {nx : Pa} {a c f i d g o q s a0 a1 : AV}
end Go.Ev
namespace Go.Ev
open Go Go.Proofs
set_option maxRecDepth 100000
variable {N : Nat} {C : Calls Prop} {K0 : Kw Prop} {K R : Ks Prop} {h : T Blk} {nx : Pa} {a c f i d g o q s a0 a1 a2 : AV}
end Go.Ev
namespace Go.Ev
open Go Go.Proofs
set_option maxRecDepth 100000
variable {N : Nat} {C : Calls Prop} {K0 : Kw Prop} {K R : Ks Prop} {h : T Blk} {nx : Pa} {a c f i d g o q s u b e l p a0 : AV}
end Go.Ev
namespace Go.Ev
open Go Go.Proofs
set_option maxRecDepth 100000
variable {N : Nat} {C : Calls Prop} {K0 : Kw Prop} {K R : Ks Prop} {h : T Blk} {nx : Pa} {a c f i d g o q a0 a1 a2 : AV}
end Go.Ev
namespace Go.Ev
open Go Go.Proofs
set_option maxRecDepth 100000
variable {N : Nat} {C : Calls Prop} {K0 : Kw Prop} {K R : Ks Prop} {h : T Blk} {nx : Pa} {a c f i d g o q s u b e l p a0 a1 : AV}
end Go.Ev
namespace Go.Ev
open Go Go.Proofs
set_option maxRecDepth 100000
variable {N : Nat} {C : Calls Prop} {K0 : Kw Prop} {K R : Ks Prop} {h : T Blk} {nx : Pa} {a c f i d g o q s u b e l p v w y z a0 a1 : AV}
theorem F85.tab : T.get none (.of 85) tbl = some F85 := by kernel_rfl
theorem F85.go : zY tbl N C (.of 85) [a0, a1] h nx K0 =
 sBox a0 h nx fun v1 h2 n3 => sBox a1 h2 n3 fun v4 h5 n6 => zQ 0 v1 fun v7 => zF v7 h5 fun v8 => zQ 0 v4 fun v9 => zF v9 h5 fun vA => C.fn 82 (.of 82) [v8, vA] h5 n6 fun vB hB nB => yF vB (zQ 1 v1 fun vE => zF vE hB fun vF => sNot vF fun vG => sG vG true (fun k => zQ 1 v4 k) fun vH => sG vG true (fun k => zF vH hB k) fun vI => jJ vG vI (.bool false) fun vJ => K0 vJ hB nB) (zQ 0 v1 fun vK => zF vK hB fun vL => zQ 0 v4 fun vM => zF vM hB fun vN => C.fn 88 (.of 88) [vL, vN] hB nB fun vP hC nC => K0 vP hC nC) := by
 rw [zM F85.tab]; kernel_rfl
theorem F84.g1_eq (X2 : IR) (O : Outs Prop) (t : T AV) : IR.run (F84.g1 X2) C N O K t h nx = IR.run X2 C N (O.blk 0 K) K t h nx := by kernel_rfl
theorem F84.tab : T.get none (.of 84) tbl = some F84 := by kernel_rfl
theorem F84.go : zY tbl N C (.of 84) [a0, a1] h nx K0 =
 sBox a1 h nx fun v1 h2 n3 => IR.run F84.b1 C N (fnO F84.res K0) (IR.run F84.b8 C N (fnO F84.res K0) (retK F84.res K0)) (F84.fr a0 a1 v1 (I 0) (I 0) .undef .undef) h2 n3 := by
 rw [zM F84.tab]; kernel_rfl
theorem F84.L1 (Inv : Nat → AV → T Blk → Pa → Prop) {m : Nat} (hm : m < N) (hi : Inv m d h nx)
  (step : ∀ (m : Nat) (z3 z4 z5 z6 : AV) (h : T Blk) (nx : Pa) (R : Ks Prop), Inv m z4 h nx → (∀ (m' : Nat) (w3 w4 w5 w6 : AV) (h' : T Blk) (nx' : Pa), m' < m → Inv m' w4 h' nx' → R (F84.fr a c f w3 w4 w5 w6) h' nx' = .ok True) →
   (sLen a fun v1 => sBin .lss .int z4 v1 fun v2 => yF v2 (zO 2 a z4 fun v3 => zH 2 v3 h fun v4 => zH 2 f h fun v5 => C.fn 30 (.of 30) [v4, v5] h nx fun v6 h7 n8 => yF v6 (K0 z4 h7 n8) (sBin .add .int z4 (I 1) fun v9 => R (F84.fr a c f z3 v9 v2 v6) h7 n8)) (K (F84.fr a c f z3 z4 v2 z6) h nx)) = .ok True) :
  IR.run F84.b1 C N (fnO F84.res K0) K (F84.fr a c f i d g o) h nx = .ok True := by
 rw [F84.b1, F84.g1_eq, F84.b2]
 refine yP (fun m tm h nx => ∃ z3 z4 z5 z6, tm = (F84.fr a c f z3 z4 z5 z6) ∧ Inv m z4 h nx) ?_ hm ⟨_, _, _, _, rfl, hi⟩
 rintro m tm h nx R ⟨z3, z4, z5, z6, rfl, hi⟩ hR
 refine Eq.trans ?_ (step m z3 z4 z5 z6 h nx R hi fun m' w3 w4 w5 w6 h' nx' hlt hi' => hR m' _ h' nx' hlt ⟨_, _, _, _, rfl, hi'⟩)
 kernel_rfl
theorem F84.k8 : IR.run F84.b8 C N (fnO F84.res K0) K (F84.fr a c f i d g o) h nx =
 K0 (I (-1)) h nx := by kernel_rfl
theorem F65.tab : T.get none (.of 65) tbl = some F65 := by kernel_rfl
theorem F65.go : zY tbl N C (.of 65) [a0, a1] h nx K0 =
 sBox a0 h nx fun v1 h2 n3 => sBox a1 h2 n3 fun v4 h5 n6 => yG [.nils, (.bool false)] h5 n6 fun v7 h8 n9 => zQ 0 v1 fun vA => zF vA h8 fun vB => zQ 0 v4 fun vC => zF vC h8 fun vD => zQ 1 v1 fun vE => zF vE h8 fun vF => zQ 1 v4 fun vG => zF vG h8 fun vH => sBin .neq .bool vF vH fun vI => C.fn 144 (.of 144) [vB, vD] h8 n9 fun vJ hD nD => (sBin .neq .bool vF vH fun vQ => zG vQ vI ((zF vG hD fun vR => zG vR vH ((zQ 1 v4 fun vS => zG vS vG ((zF vE hD fun vT => zG vT vF ((zQ 1 v1 fun vU => zG vU vE (uR [.nils, (.bool false)] [(0, 1, vJ), (1, 1, vI)] fun vM => zN 2 v7 vM hD nD fun vN hE nE => zH 2 v7 hE fun vV => K0 vV hE nE)))))))))) := by
 rw [zM F65.tab]; kernel_rfl
theorem F30.tab : T.get none (.of 30) tbl = some F30 := by kernel_rfl
theorem F30.go : zY tbl N C (.of 30) [a0, a1] h nx K0 =
 sBox a0 h nx fun v1 h2 n3 => sBox a1 h2 n3 fun v4 h5 n6 => zQ 1 v1 fun v7 => zF v7 h5 fun v8 => zQ 1 v4 fun v9 => zF v9 h5 fun vA => sBin .eql .bool v8 vA fun vB => sG vB true (fun k => zQ 0 v1 k) fun vC => sG vB true (fun k => zF vC h5 k) fun vD => sG vB true (fun k => zQ 0 v4 k) fun vE => sG vB true (fun k => zF vE h5 k) fun vF => sGW vB true (fun k => C.fn 82 (.of 82) [vD, vF] h5 n6 k) h5 n6 fun vG hF nF => jJ vB vG (.bool false) fun vJ => K0 vJ hF nF := by
 rw [zM F30.tab]; kernel_rfl
theorem F144.g1_eq (X2 : IR) (O : Outs Prop) (t : T AV) : IR.run (F144.g1 X2) C N O K t h nx = IR.run X2 C N (O.blk 0 K) K t h nx := by kernel_rfl
theorem F144.tab : T.get none (.of 144) tbl = some F144 := by kernel_rfl
theorem F144.go : zY tbl N C (.of 144) [a0, a1] h nx K0 =
 IR.run F144.b1 C N (fnO F144.res K0) (IR.run F144.b8 C N (fnO F144.res K0) (retK F144.res K0)) (F144.fr a0 a1 .nils .nils (I 0) .undef) h nx := by
 rw [zM F144.tab]; kernel_rfl
theorem F144.L1 (Inv : Nat → AV → AV → T Blk → Pa → Prop) {m : Nat} (hm : m < N) (hi : Inv m i d h nx)
  (step : ∀ (m : Nat) (z3 z4 z5 : AV) (h : T Blk) (nx : Pa) (R : Ks Prop), Inv m z3 z4 h nx → (∀ (m' : Nat) (w3 w4 w5 : AV) (h' : T Blk) (nx' : Pa), m' < m → Inv m' w3 w4 h' nx' → R (F144.fr a c f w3 w4 w5) h' nx' = .ok True) →
   (sLen c fun v1 => sBin .lss .int z4 v1 fun v2 => yF v2 (zO 1 c z4 fun v3 => zF v3 h fun v4 => zO 1 a v4 fun v5 => zF v5 h fun v6 => yY 1 1 [(I 0)] [(0, 1, v6)] h nx fun v7 h8 n9 => sApp 1 8 z3 v7 h8 n9 fun vA hG nG => sBin .add .int z4 (I 1) fun vD => R (F144.fr a c f vA vD v2) hG nG) (K (F144.fr a c f z3 z4 v2) h nx)) = .ok True) :
  IR.run F144.b1 C N (fnO F144.res K0) K (F144.fr a c f i d g) h nx = .ok True := by
 rw [F144.b1, F144.g1_eq, F144.b2]
 refine yP (fun m tm h nx => ∃ z3 z4 z5, tm = (F144.fr a c f z3 z4 z5) ∧ Inv m z3 z4 h nx) ?_ hm ⟨_, _, _, rfl, hi⟩
 rintro m tm h nx R ⟨z3, z4, z5, rfl, hi⟩ hR
 refine Eq.trans ?_ (step m z3 z4 z5 h nx R hi fun m' w3 w4 w5 h' nx' hlt hi' => hR m' _ h' nx' hlt ⟨_, _, _, rfl, hi'⟩)
 kernel_rfl
theorem F144.k8 : IR.run F144.b8 C N (fnO F144.res K0) K (F144.fr a c f i d g) h nx =
 K0 i h nx := by kernel_rfl
end Go.Ev
namespace Go.Ev
open Go Go.Proofs
set_option maxRecDepth 100000
variable {N : Nat} {C : Calls Prop} {K0 : Kw Prop} {K R : Ks Prop} {h : T Blk} {nx : Pa} {a c f i d g o q s u b e l p a0 a1 : AV}
theorem F88.g1_eq (X2 : IR) (O : Outs Prop) (t : T AV) : IR.run (F88.g1 X2) C N O K t h nx = IR.run X2 C N (O.blk 0 K) K t h nx := by kernel_rfl
theorem F88.tab : T.get none (.of 88) tbl = some F88 := by kernel_rfl
theorem F88.go : zY tbl N C (.of 88) [a0, a1] h nx K0 =
 IR.run F88.b1 C N (fnO F88.res K0) (IR.run F88.b8 C N (fnO F88.res K0) (retK F88.res K0)) (F88.fr a0 a1 (.bool false) (I 0) .undef .undef) h nx := by
 rw [zM F88.tab]; kernel_rfl
theorem F88.L1 (Inv : Nat → AV → T Blk → Pa → Prop) {m : Nat} (hm : m < N) (hi : Inv m i h nx)
  (step : ∀ (m : Nat) (z2 z3 z4 z5 : AV) (h : T Blk) (nx : Pa) (R : Ks Prop), Inv m z3 h nx → (∀ (m' : Nat) (w2 w3 w4 w5 : AV) (h' : T Blk) (nx' : Pa), m' < m → Inv m' w3 h' nx' → R (F88.fr a c w2 w3 w4 w5) h' nx' = .ok True) →
   (sLen a fun v1 => sBin .lss .int z3 v1 fun v2 => sG v2 true (fun k => k z3) fun v3 => sG v2 true (fun k => k c) fun v4 => sG v2 true (fun k => sLen v4 k) fun v5 => sG v2 true (fun k => sBin .lss .int v3 v5 k) fun v6 => jJ v2 v6 (.bool false) fun v7 => yF v7 ((IR.run F88.b4 C N ((fnO F88.res K0).blk 0 K) R) (F88.fr a c z2 z3 v7 z5) h nx) (K (F88.fr a c z2 z3 v7 z5) h nx)) = .ok True) :
  IR.run F88.b1 C N (fnO F88.res K0) K (F88.fr a c f i d g) h nx = .ok True := by
 rw [F88.b1, F88.g1_eq, F88.b2]
 refine yP (fun m tm h nx => ∃ z2 z3 z4 z5, tm = (F88.fr a c z2 z3 z4 z5) ∧ Inv m z3 h nx) ?_ hm ⟨_, _, _, _, rfl, hi⟩
 rintro m tm h nx R ⟨z2, z3, z4, z5, rfl, hi⟩ hR
 refine Eq.trans ?_ (step m z2 z3 z4 z5 h nx R hi fun m' w2 w3 w4 w5 h' nx' hlt hi' => hR m' _ h' nx' hlt ⟨_, _, _, _, rfl, hi'⟩)
 kernel_rfl
theorem F88.k8 : IR.run F88.b8 C N (fnO F88.res K0) K (F88.fr a c f i d g) h nx =
 sLen a fun v1 => sLen c fun v2 => sBin .lss .int v1 v2 fun v3 => K0 v3 h nx := by kernel_rfl
theorem F88.k4 {E0 : Ks Prop} : IR.run F88.b4 C N ((fnO F88.res K0).blk 0 E0) K (F88.fr a c f i d g) h nx =
 zO 1 a i fun v1 => zF v1 h fun v2 => zO 1 c i fun v3 => zF v3 h fun v4 => sBin .neq .int v2 v4 fun v5 => yF v5 (zO 1 a i fun v6 => zF v6 h fun v7 => zO 1 c i fun v8 => zF v8 h fun v9 => sBin .lss .int v7 v9 fun vA => K0 vA h nx) (sBin .add .int i (I 1) fun vB => K (F88.fr a c f vB d v5) h nx) := by kernel_rfl
theorem F201.g1_eq (X2 : IR) (O : Outs Prop) (t : T AV) : IR.run (F201.g1 X2) C N O K t h nx = IR.run X2 C N (O.blk 0 K) K t h nx := by kernel_rfl
theorem F201.tab : T.get none (.of 201) tbl = some F201 := by kernel_rfl
theorem F201.go : zY tbl N C (.of 201) [a0, a1] h nx K0 =
 sLen a0 fun v1 => IR.run F201.b1 C N (fnO F201.res K0) (IR.run F201.b9 C N (fnO F201.res K0) (retK F201.res K0)) (F201.fr a0 a1 (I 0) .undef .undef .undef .undef a0 v1 (I 0) .undef .undef .undef .undef) h nx := by
 rw [zM F201.tab]; kernel_rfl
theorem F201.L1 (Inv : Nat → AV → T Blk → Pa → Prop) {m : Nat} (hm : m < N) (hi : Inv m u h nx)
  (step : ∀ (m : Nat) (z2 z3 z4 z5 z6 z9 zA zB zC : AV) (h : T Blk) (nx : Pa) (R : Ks Prop), Inv m z9 h nx → (∀ (m' : Nat) (w2 w3 w4 w5 w6 w9 wA wB wC : AV) (h' : T Blk) (nx' : Pa), m' < m → Inv m' w9 h' nx' → R (F201.fr a c w2 w3 w4 w5 w6 q s w9 wA wB wC p) h' nx' = .ok True) →
   (sBin .lss .int z9 s fun v1 => yF v1 (zO 1 q z9 fun v2 => zF v2 h fun v3 => sLen c fun v4 => sBin .geq .int z9 v4 fun v5 => yF v5 (K0 (I 1) h nx) (zO 1 c z9 fun v6 => zF v6 h fun v7 => C.fn 244 (.of 244) [v3, v7] h nx fun v8 h9 nH => sBin .neq .int v8 (I 0) fun vB => yF vB (K0 v8 h9 nH) (sBin .add .int z9 (I 1) fun vC => R (F201.fr a c z2 z9 v3 v7 v8 q s vC v1 v5 vB p) h9 nH))) (K (F201.fr a c z2 z3 z4 z5 z6 q s z9 v1 zB zC p) h nx)) = .ok True) :
  IR.run F201.b1 C N (fnO F201.res K0) K (F201.fr a c f i d g o q s u b e l p) h nx = .ok True := by
 rw [F201.b1, F201.g1_eq, F201.b2]
 refine yP (fun m tm h nx => ∃ z2 z3 z4 z5 z6 z9 zA zB zC, tm = (F201.fr a c z2 z3 z4 z5 z6 q s z9 zA zB zC p) ∧ Inv m z9 h nx) ?_ hm ⟨_, _, _, _, _, _, _, _, _, rfl, hi⟩
 rintro m tm h nx R ⟨z2, z3, z4, z5, z6, z9, zA, zB, zC, rfl, hi⟩ hR
 refine Eq.trans ?_ (step m z2 z3 z4 z5 z6 z9 zA zB zC h nx R hi fun m' w2 w3 w4 w5 w6 w9 wA wB wC h' nx' hlt hi' => hR m' _ h' nx' hlt ⟨_, _, _, _, _, _, _, _, _, rfl, hi'⟩)
 kernel_rfl
theorem F201.k9 : IR.run F201.b9 C N (fnO F201.res K0) K (F201.fr a c f i d g o q s u b e l p) h nx =
 sLen a fun v1 => sLen c fun v2 => sBin .lss .int v1 v2 fun v3 => yF v3 (K0 (I (-1)) h nx) (K0 (I 0) h nx) := by kernel_rfl
theorem F244.tab : T.get none (.of 244) tbl = some F244 := by kernel_rfl
theorem F244.go : zY tbl N C (.of 244) [a0, a1] h nx K0 =
 C.fn 250 (.of 250) [a0] h nx fun v1 h2 n3 => C.fn 250 (.of 250) [a1] h2 n3 fun v4 h5 n6 => yF v1 (yF v4 (K0 (I 0) h5 n6) (K0 (I (-1)) h5 n6)) (yF v4 (K0 (I 1) h5 n6) (sBin .lss .int a0 a1 fun v7 => yF v7 (K0 (I (-1)) h5 n6) (sBin .gtr .int a0 a1 fun v8 => yF v8 (K0 (I 1) h5 n6) (K0 (I 0) h5 n6)))) := by
 rw [zM F244.tab]; kernel_rfl
theorem F250.tab : T.get none (.of 250) tbl = some F250 := by kernel_rfl
theorem F250.go : zY tbl N C (.of 250) [a0] h nx K0 =
 sBin .neq .int a0 a0 fun v1 => K0 v1 h nx := by
 rw [zM F250.tab]; kernel_rfl
end Go.Ev
namespace Go.Ev
open Go Go.Proofs
set_option maxRecDepth 100000
variable {N : Nat} {C : Calls Prop} {K0 : Kw Prop} {K R : Ks Prop} {h : T Blk} {nx : Pa} {a c f i d g o q s u b e a0 a1 : AV}
theorem F97.g1_eq (X2 : IR) (O : Outs Prop) (t : T AV) : IR.run (F97.g1 X2) C N O K t h nx = IR.run X2 C N (O.blk 0 K) K t h nx := by kernel_rfl
theorem F97.tab : T.get none (.of 97) tbl = some F97 := by kernel_rfl
theorem F97.go : zY tbl N C (.of 97) [a0, a1] h nx K0 =
 sLen a0 fun v1 => IR.run F97.b1 C N (fnO F97.res K0) (IR.run F97.b8 C N (fnO F97.res K0) (retK F97.res K0)) (F97.fr a0 a1 (I 0) .undef .undef a0 v1 (I 0) .undef .undef) h nx := by
 rw [zM F97.tab]; kernel_rfl
theorem F97.L1 (Inv : Nat → AV → T Blk → Pa → Prop) {m : Nat} (hm : m < N) (hi : Inv m q h nx)
  (step : ∀ (m : Nat) (z2 z3 z4 z7 z8 z9 : AV) (h : T Blk) (nx : Pa) (R : Ks Prop), Inv m z7 h nx → (∀ (m' : Nat) (w2 w3 w4 w7 w8 w9 : AV) (h' : T Blk) (nx' : Pa), m' < m → Inv m' w7 h' nx' → R (F97.fr a c w2 w3 w4 g o w7 w8 w9) h' nx' = .ok True) →
   (sBin .lss .int z7 o fun v1 => yF v1 (zO 2 g z7 fun v2 => zH 2 v2 h fun v3 => yG [.nils, (.bool false)] h nx fun v4 h5 n6 => zN 2 v4 v3 h5 n6 fun v7 h8 n9 => zH 2 v4 h8 fun vA => C.fn 56 (.of 56) [vA, c] h8 n9 fun vB hB nB => sBin .neq .int vB (I 0) fun vE => yF vE (K0 vB hB nB) (sBin .add .int z7 (I 1) fun vF => R (F97.fr a c z2 v4 vB g o vF v1 vE) hB nB)) (K (F97.fr a c z2 z3 z4 g o z7 v1 z9) h nx)) = .ok True) :
  IR.run F97.b1 C N (fnO F97.res K0) K (F97.fr a c f i d g o q s u) h nx = .ok True := by
 rw [F97.b1, F97.g1_eq, F97.b2]
 refine yP (fun m tm h nx => ∃ z2 z3 z4 z7 z8 z9, tm = (F97.fr a c z2 z3 z4 g o z7 z8 z9) ∧ Inv m z7 h nx) ?_ hm ⟨_, _, _, _, _, _, rfl, hi⟩
 rintro m tm h nx R ⟨z2, z3, z4, z7, z8, z9, rfl, hi⟩ hR
 refine Eq.trans ?_ (step m z2 z3 z4 z7 z8 z9 h nx R hi fun m' w2 w3 w4 w7 w8 w9 h' nx' hlt hi' => hR m' _ h' nx' hlt ⟨_, _, _, _, _, _, rfl, hi'⟩)
 kernel_rfl
theorem F97.k8 : IR.run F97.b8 C N (fnO F97.res K0) K (F97.fr a c f i d g o q s u) h nx =
 K0 (I 0) h nx := by kernel_rfl
theorem F90.tab : T.get none (.of 90) tbl = some F90 := by kernel_rfl
theorem F90.go : zY tbl N C (.of 90) [a0] h nx K0 =
 sBox a0 h nx fun v1 h2 n3 => K0 (.fn 159 (.of 159) [v1]) h2 n3 := by
 rw [zM F90.tab]; kernel_rfl
theorem F162.tab : T.get none (.of 162) tbl = some F162 := by kernel_rfl
theorem F162.go : zY tbl N C (.of 162) [a0, a1] h nx K0 =
 sBox a0 h nx fun v1 h2 n3 => sBox a1 h2 n3 fun v4 h5 n6 => zQ 0 v1 fun v7 => zF v7 h5 fun v8 => zQ 0 v4 fun v9 => zF v9 h5 fun vA => C.fn 201 (.of 201) [v8, vA] h5 n6 fun vB hB nB => sBin .neq .int vB (I 0) fun vE => sG vE false (fun k => zQ 1 v1 k) fun vF => sG vE false (fun k => zF vF hB k) fun vG => sG vE false (fun k => zQ 1 v4 k) fun vH => sG vE false (fun k => zF vH hB k) fun vI => sG vE false (fun k => sBin .eql .bool vG vI k) fun vJ => jJ vE (.bool true) vJ fun vK => yF vK (K0 vB hB nB) ((IR.run F162.b1 C N (fnO F162.res K0) (retK F162.res K0)) (F162.fr a0 a1 v1 v4 (I 0) vB vK .undef) hB nB) := by
 rw [zM F162.tab]; kernel_rfl
theorem F162.k1 : IR.run F162.b1 C N (fnO F162.res K0) K (F162.fr a c f i d g o q) h nx =
 zQ 1 f fun v1 => zF v1 h fun v2 => yF v2 (K0 (I 1) h nx) (K0 (I (-1)) h nx) := by kernel_rfl
theorem F56.tab : T.get none (.of 56) tbl = some F56 := by kernel_rfl
theorem F56.go : zY tbl N C (.of 56) [a0, a1] h nx K0 =
 sBox a0 h nx fun v1 h2 n3 => zQ 0 v1 fun v4 => zF v4 h2 fun v5 => sLen v5 fun v6 => sBin .neq .int v6 a1 fun v7 => zQ 0 v1 fun v8 => zF v8 h2 fun v9 => C.fn 95 (.of 95) [a1] h2 n3 fun vA hG nG => (zF v8 hG fun vW => zG vW v9 ((zQ 0 v1 fun vX => zG vX v8 ((sBin .neq .int v6 a1 fun vY => zG vY v7 (zG a1 a1 ((sLen v5 fun vZ => zG vZ v6 ((zF v4 hG fun v32 => zG v32 v5 ((zQ 0 v1 fun vQ => zG vQ v4 (C.fn 96 (.of 96) [v7, (I 2)] hG nG fun vD hH nI => (zF v8 hH fun vR => zG vR v9 ((zQ 0 v1 fun vS => zG vS v8 (C.fn 140 (.of 140) [v9] hH nI fun vG hF nF => sNot vG fun vJ => C.fn 96 (.of 96) [vJ, (I 14)] hF nF fun vK hI nJ => yY 1 3 [(I 0)] [(0, 1, vA), (1, 1, vD), (2, 1, vK)] hI nJ fun vN hE nE => C.fn 94 (.of 94) [vN] hE nE fun vV hJ nK => K0 vV hJ nK))))))))))))))))) := by
 rw [zM F56.tab]; kernel_rfl
theorem F159.g1_eq (X2 : IR) (O : Outs Prop) (t : T AV) : IR.run (F159.g1 X2) C N O K t h nx = IR.run X2 C N (O.blk 0 K) K t h nx := by kernel_rfl
theorem F159.tab : T.get none (.of 159) tbl = some F159 := by kernel_rfl
theorem F159.go : zY tbl N C (.of 159) [a0, a1] h nx K0 =
 zF a1 h fun v1 => sLen v1 fun v2 => IR.run F159.b1 C N (fnO F159.res K0) (retK F159.res K0) (F159.fr a0 a1 .undef .undef v1 v2 (I 0) .undef .undef) h nx := by
 rw [zM F159.tab]; kernel_rfl
theorem F159.L1 (Inv : Nat → AV → T Blk → Pa → Prop) {m : Nat} (hm : m < N) (hi : Inv m o h nx)
  (step : ∀ (m : Nat) (z2 z3 z6 z7 z8 : AV) (h : T Blk) (nx : Pa) (R : Ks Prop), Inv m z6 h nx → (∀ (m' : Nat) (w2 w3 w6 w7 w8 : AV) (h' : T Blk) (nx' : Pa), m' < m → Inv m' w6 h' nx' → R (F159.fr a c w2 w3 d g w6 w7 w8) h' nx' = .ok True) →
   (sBin .lss .int z6 g fun v1 => yF v1 (zO 2 d z6 fun v2 => zH 2 v2 h fun v3 => yG [.nils, (.bool false)] h nx fun v4 h5 n6 => zN 2 v4 v3 h5 n6 fun v7 h8 n9 => zH 2 v4 h8 fun vA => sCall C a [z6, vA] h8 n9 fun vB hB nB => sNot vB fun vE => yF vE (K0 (.tup []) hB nB) (sBin .add .int z6 (I 1) fun vF => R (F159.fr a c z6 v4 d g vF v1 vE) hB nB)) (K (F159.fr a c z2 z3 d g z6 v1 z8) h nx)) = .ok True) :
  IR.run F159.b1 C N (fnO F159.res K0) K (F159.fr a c f i d g o q s) h nx = .ok True := by
 rw [F159.b1, F159.g1_eq, F159.b2]
 refine yP (fun m tm h nx => ∃ z2 z3 z6 z7 z8, tm = (F159.fr a c z2 z3 d g z6 z7 z8) ∧ Inv m z6 h nx) ?_ hm ⟨_, _, _, _, _, rfl, hi⟩
 rintro m tm h nx R ⟨z2, z3, z6, z7, z8, rfl, hi⟩ hR
 refine Eq.trans ?_ (step m z2 z3 z6 z7 z8 h nx R hi fun m' w2 w3 w6 w7 w8 h' nx' hlt hi' => hR m' _ h' nx' hlt ⟨_, _, _, _, _, rfl, hi'⟩)
 kernel_rfl
theorem F163.g1_eq (X2 : IR) (O : Outs Prop) (t : T AV) : IR.run (F163.g1 X2) C N O K t h nx = IR.run X2 C N (O.blk 0 K) K t h nx := by kernel_rfl
theorem F163.tab : T.get none (.of 163) tbl = some F163 := by kernel_rfl
theorem F163.go : zY tbl N C (.of 163) [a0] h nx K0 =
 yG [.nils, (.bool false)] h nx fun v1 h2 n3 => uQ 1 8 [(I 0)] a0 a0 h2 n3 fun v4 h5 n6 => uR [.nils, (.bool false)] [(0, 1, v4)] fun v7 => yG [.nils, (.bool false)] h5 n6 fun v8 h9 nH => zN 2 v8 v7 h9 nH fun vB hB nB => zQ 0 v8 fun vE => zF vE hB fun vF => sLen vF fun vG => IR.run F163.b1 C N (fnO F163.res K0) (IR.run F163.b8 C N (fnO F163.res K0) (retK F163.res K0)) (F163.fr a0 v1 v8 .undef vG (I 0) .undef) hB nB := by
 rw [zM F163.tab]; kernel_rfl
theorem F163.L1 (Inv : Nat → AV → T Blk → Pa → Prop) {m : Nat} (hm : m < N) (hi : Inv m g h nx)
  (step : ∀ (m : Nat) (z3 z5 z6 : AV) (h : T Blk) (nx : Pa) (R : Ks Prop), Inv m z5 h nx → (∀ (m' : Nat) (w3 w5 w6 : AV) (h' : T Blk) (nx' : Pa), m' < m → Inv m' w5 h' nx' → R (F163.fr a c f w3 d w5 w6) h' nx' = .ok True) →
   (sBin .lss .int z5 d fun v1 => yF v1 (zQ 0 f fun v2 => zF v2 h fun v3 => zO 1 v3 z5 fun v4 => zN 1 v4 z5 h nx fun v5 h6 n7 => sBin .add .int z5 (I 1) fun v8 => R (F163.fr a c f z5 d v8 v1) h6 n7) (K (F163.fr a c f z3 d z5 v1) h nx)) = .ok True) :
  IR.run F163.b1 C N (fnO F163.res K0) K (F163.fr a c f i d g o) h nx = .ok True := by
 rw [F163.b1, F163.g1_eq, F163.b2]
 refine yP (fun m tm h nx => ∃ z3 z5 z6, tm = (F163.fr a c f z3 d z5 z6) ∧ Inv m z5 h nx) ?_ hm ⟨_, _, _, rfl, hi⟩
 rintro m tm h nx R ⟨z3, z5, z6, rfl, hi⟩ hR
 refine Eq.trans ?_ (step m z3 z5 z6 h nx R hi fun m' w3 w5 w6 h' nx' hlt hi' => hR m' _ h' nx' hlt ⟨_, _, _, rfl, hi'⟩)
 kernel_rfl
theorem F163.k8 : IR.run F163.b8 C N (fnO F163.res K0) K (F163.fr a c f i d g o) h nx =
 zH 2 f h fun v1 => zN 2 c v1 h nx fun v2 h3 n4 => zH 2 c h3 fun v5 => K0 v5 h3 n4 := by kernel_rfl
theorem F123.g1_eq (X2 : IR) (O : Outs Prop) (t : T AV) : IR.run (F123.g1 X2) C N O K t h nx = IR.run X2 C N (O.blk 0 K) K t h nx := by kernel_rfl
theorem F123.tab : T.get none (.of 123) tbl = some F123 := by kernel_rfl
theorem F123.go : zY tbl N C (.of 123) [a0] h nx K0 =
 sBox a0 h nx fun v1 h2 n3 => zQ 0 v1 fun v4 => zF v4 h2 fun v5 => sLen v5 fun v6 => sBin .add .int v6 (I 1) fun v7 => uQ 1 1 [(.int .u8 0)] (I 0) v7 h2 n3 fun v8 h9 nH => zQ 0 v1 fun vB => zF vB h9 fun vC => sLen vC fun vD => IR.run F123.b1 C N (fnO F123.res K0) (IR.run F123.b8 C N (fnO F123.res K0) (retK F123.res K0)) (F123.fr a0 v1 (.str []) v8 .undef vC vD (I 0) .undef .undef) h9 nH := by
 rw [zM F123.tab]; kernel_rfl
theorem F123.L1 (Inv : Nat → AV → AV → T Blk → Pa → Prop) {m : Nat} (hm : m < N) (hi : Inv m i q h nx)
  (step : ∀ (m : Nat) (z3 z4 z7 z8 : AV) (h : T Blk) (nx : Pa) (R : Ks Prop), Inv m z3 z7 h nx → (∀ (m' : Nat) (w3 w4 w7 w8 : AV) (h' : T Blk) (nx' : Pa), m' < m → Inv m' w3 w7 h' nx' → R (F123.fr a c f w3 w4 g o w7 w8 u) h' nx' = .ok True) →
   (sBin .lss .int z7 o fun v1 => yF v1 (zO 1 g z7 fun v2 => zF v2 h fun v3 => sConv .u8 v3 fun v4 => yY 1 1 [(.int .u8 0)] [(0, 1, v4)] h nx fun v5 h6 n7 => sApp 1 1 z3 v5 h6 n7 fun v8 h9 nH => sBin .add .int z7 (I 1) fun vB => R (F123.fr a c f v8 v3 g o vB v1 u) h9 nH) (K (F123.fr a c f z3 z4 g o z7 v1 u) h nx)) = .ok True) :
  IR.run F123.b1 C N (fnO F123.res K0) K (F123.fr a c f i d g o q s u) h nx = .ok True := by
 rw [F123.b1, F123.g1_eq, F123.b2]
 refine yP (fun m tm h nx => ∃ z3 z4 z7 z8, tm = (F123.fr a c f z3 z4 g o z7 z8 u) ∧ Inv m z3 z7 h nx) ?_ hm ⟨_, _, _, _, rfl, hi⟩
 rintro m tm h nx R ⟨z3, z4, z7, z8, rfl, hi⟩ hR
 refine Eq.trans ?_ (step m z3 z4 z7 z8 h nx R hi fun m' w3 w4 w7 w8 h' nx' hlt hi' => hR m' _ h' nx' hlt ⟨_, _, _, _, rfl, hi'⟩)
 kernel_rfl
theorem F123.k8 : IR.run F123.b8 C N (fnO F123.res K0) K (F123.fr a c f i d g o q s u) h nx =
 zQ 1 c fun v1 => zF v1 h fun v2 => yF v2 (yY 1 1 [(.int .u8 0)] [(0, 1, (.int .u8 1))] h nx fun v3 h4 n5 => sApp 1 1 i v3 h4 n5 fun v6 h7 n8 => sB2s v6 h7 fun v9 => K0 v9 h7 n8) (sB2s i h fun vA => K0 vA h nx) := by kernel_rfl
theorem F121.tab : T.get none (.of 121) tbl = some F121 := by kernel_rfl
theorem F121.go : zY tbl N C (.of 121) [a0, a1] h nx K0 =
 sBox a1 h nx fun v1 h2 n3 => zH 2 v1 h2 fun v4 => C.fn 123 (.of 123) [v4] h2 n3 fun v5 h6 n7 => sLook .str (.agg [.nils, (.bool false)]) true a0 v5 h6 fun v8 => sExt 0 v8 fun v9 => sExt 1 v8 fun vA => yG [.nils, (.bool false)] h6 n7 fun vB hB nB => zN 2 vB v9 hB nB fun vE hA nA => K0 vA hA nA := by
 rw [zM F121.tab]; kernel_rfl
theorem F122.g1_eq (X2 : IR) (O : Outs Prop) (t : T AV) : IR.run (F122.g1 X2) C N O K t h nx = IR.run X2 C N (O.blk 0 K) K t h nx := by kernel_rfl
theorem F122.tab : T.get none (.of 122) tbl = some F122 := by kernel_rfl
theorem F122.go : zY tbl N C (.of 122) [a0, a1] h nx K0 =
 sBox a0 h nx fun v1 h2 n3 => sBox a1 h2 n3 fun v4 h5 n6 => yG [.nils, (.bool false)] h5 n6 fun v7 h8 n9 => sChk (true && true) (zQ 0 v4 fun vA => zF vA h8 fun vB => sLen vB fun vC => sChk (mkSl 8 vC vC && true) (zQ 1 v1 fun vD => zF vD h8 fun vE => zQ 1 v4 fun vF => zF vF h8 fun vG => sBin .neq .bool vE vG fun vH => uQ 1 8 [(I 0)] vC vC h8 n9 fun vI hK nL => (sBin .neq .bool vE vG fun v47 => zG v47 vH ((zF vF hK fun v46 => zG v46 vG ((zQ 1 v4 fun v45 => zG v45 vF ((zF vD hK fun v44 => zG v44 vE ((zQ 1 v1 fun v43 => zG v43 vD ((sLen vB fun v42 => zG v42 vC ((zF vA hK fun v41 => zG v41 vB ((zQ 0 v4 fun v40 => zG v40 vA (uR [.nils, (.bool false)] [(0, 1, vI), (1, 1, vH)] fun vL => yG [.nils, (.bool false)] hK nL fun vM hL nM => (uR [.nils, (.bool false)] [(0, 1, vI), (1, 1, vH)] fun v39 => zG v39 vL ((sBin .neq .bool vE vG fun v38 => zG v38 vH ((zF vF hL fun v37 => zG v37 vG ((zQ 1 v4 fun vW => zG vW vF ((zF vD hL fun vX => zG vX vE ((zQ 1 v1 fun vY => zG vY vD ((sLen vB fun vZ => zG vZ vC ((zF vA hL fun v32 => zG v32 vB ((zQ 0 v4 fun vQ => zG vQ vA (zN 2 vM vL hL nM fun v25 hM nN => zQ 0 v4 fun vT => zF vT hM fun vS => sLen vS fun vR => IR.run F122.b1 C N (fnO F122.res K0) (IR.run F122.b8 C N (fnO F122.res K0) (retK F122.res K0)) (F122.fr a0 a1 v1 v4 v7 vM .undef .undef vS vR (I 0) .undef) hM nN)))))))))))))))))))))))))))))))))))) := by
 rw [zM F122.tab]; kernel_rfl
theorem F122.L1 (Inv : Nat → AV → T Blk → Pa → Prop) {m : Nat} (hm : m < N) (hi : Inv m b h nx)
  (step : ∀ (m : Nat) (z6 z7 zA zB : AV) (h : T Blk) (nx : Pa) (R : Ks Prop), Inv m zA h nx → (∀ (m' : Nat) (w6 w7 wA wB : AV) (h' : T Blk) (nx' : Pa), m' < m → Inv m' wA h' nx' → R (F122.fr a c f i d g w6 w7 s u wA wB) h' nx' = .ok True) →
   (sBin .lss .int zA u fun v1 => yF v1 (zO 1 s zA fun v2 => zF v2 h fun v3 => zQ 0 g fun v4 => zF v4 h fun v5 => zQ 0 f fun v6 => zF v6 h fun v7 => zO 1 v7 v3 fun v8 => zF v8 h fun v9 => zO 1 v5 zA fun vA => zN 1 vA v9 h nx fun vB hB nB => sBin .add .int zA (I 1) fun vE => R (F122.fr a c f i d g zA v3 s u vE v1) hB nB) (K (F122.fr a c f i d g z6 z7 s u zA v1) h nx)) = .ok True) :
  IR.run F122.b1 C N (fnO F122.res K0) K (F122.fr a c f i d g o q s u b e) h nx = .ok True := by
 rw [F122.b1, F122.g1_eq, F122.b2]
 refine yP (fun m tm h nx => ∃ z6 z7 zA zB, tm = (F122.fr a c f i d g z6 z7 s u zA zB) ∧ Inv m zA h nx) ?_ hm ⟨_, _, _, _, rfl, hi⟩
 rintro m tm h nx R ⟨z6, z7, zA, zB, rfl, hi⟩ hR
 refine Eq.trans ?_ (step m z6 z7 zA zB h nx R hi fun m' w6 w7 wA wB h' nx' hlt hi' => hR m' _ h' nx' hlt ⟨_, _, _, _, rfl, hi'⟩)
 kernel_rfl
theorem F122.k8 : IR.run F122.b8 C N (fnO F122.res K0) K (F122.fr a c f i d g o q s u b e) h nx =
 zH 2 g h fun v1 => zN 2 d v1 h nx fun v2 h3 n4 => zH 2 d h3 fun v5 => K0 v5 h3 n4 := by kernel_rfl
theorem F140.tab : T.get none (.of 140) tbl = some F140 := by kernel_rfl
theorem F140.go : zY tbl N C (.of 140) [a0] h nx K0 =
 C.fn 198 (.of 198) [a0] h nx fun v1 h2 n3 => sBin .eql .int v1 (I 0) fun v4 => K0 v4 h2 n3 := by
 rw [zM F140.tab]; kernel_rfl
theorem F198.g2_eq (X3 : IR) (O : Outs Prop) (t : T AV) : IR.run (F198.g2 X3) C N O K t h nx = IR.run X3 C N (O.blk 0 K) K t h nx := by kernel_rfl
theorem F198.tab : T.get none (.of 198) tbl = some F198 := by kernel_rfl
theorem F198.go : zY tbl N C (.of 198) [a0] h nx K0 =
 sLen a0 fun v1 => sBin .gtr .int v1 (I 256) fun v2 => yF v2 (K0 (I 5) h nx) (sLen a0 fun v3 => uQ 1 1 [(.bool false)] v3 v3 h nx fun v4 h5 n6 => sLen a0 fun v7 => IR.run F198.b2 C N (fnO F198.res K0) (IR.run F198.b10 C N (fnO F198.res K0) (retK F198.res K0)) (F198.fr a0 (I 0) v4 .undef v2 a0 v7 (I 0) .undef .undef) h5 n6) := by
 rw [zM F198.tab]; kernel_rfl
theorem F198.L2 (Inv : Nat → AV → T Blk → Pa → Prop) {m : Nat} (hm : m < N) (hi : Inv m q h nx)
  (step : ∀ (m : Nat) (z1 z3 z7 z8 z9 : AV) (h : T Blk) (nx : Pa) (R : Ks Prop), Inv m z7 h nx → (∀ (m' : Nat) (w1 w3 w7 w8 w9 : AV) (h' : T Blk) (nx' : Pa), m' < m → Inv m' w7 h' nx' → R (F198.fr a w1 f w3 d g o w7 w8 w9) h' nx' = .ok True) →
   (sBin .lss .int z7 o fun v1 => yF v1 (zO 1 g z7 fun v2 => zF v2 h fun v3 => sBin .lss .int v3 (I 0) fun v4 => sG v4 false (fun k => k v3) fun v5 => sG v4 false (fun k => k a) fun v6 => sG v4 false (fun k => sLen v6 k) fun v7 => sG v4 false (fun k => sBin .geq .int v5 v7 k) fun v8 => jJ v4 (.bool true) v8 fun v9 => sG v9 false (fun k => k f) fun vA => sG v9 false (fun k => k v3) fun vB => sG v9 false (fun k => zO 1 vA vB k) fun vC => sG v9 false (fun k => zF vC h k) fun vD => jJ v9 (.bool true) vD fun vE => yF vE (K0 (I 14) h nx) ((IR.run F198.b8 C N (((fnO F198.res K0).blk 0 K).blk 1 (IR.run F198.b9 C N ((fnO F198.res K0).blk 0 K) R)) (IR.run F198.b9 C N ((fnO F198.res K0).blk 0 K) R)) (F198.fr a z1 f v3 d g o z7 v1 vE) h nx)) (K (F198.fr a z1 f z3 d g o z7 v1 z9) h nx)) = .ok True) :
  IR.run F198.b2 C N (fnO F198.res K0) K (F198.fr a c f i d g o q s u) h nx = .ok True := by
 rw [F198.b2, F198.g2_eq, F198.b3]
 refine yP (fun m tm h nx => ∃ z1 z3 z7 z8 z9, tm = (F198.fr a z1 f z3 d g o z7 z8 z9) ∧ Inv m z7 h nx) ?_ hm ⟨_, _, _, _, _, rfl, hi⟩
 rintro m tm h nx R ⟨z1, z3, z7, z8, z9, rfl, hi⟩ hR
 refine Eq.trans ?_ (step m z1 z3 z7 z8 z9 h nx R hi fun m' w1 w3 w7 w8 w9 h' nx' hlt hi' => hR m' _ h' nx' hlt ⟨_, _, _, _, _, rfl, hi'⟩)
 kernel_rfl
theorem F198.k10 : IR.run F198.b10 C N (fnO F198.res K0) K (F198.fr a c f i d g o q s u) h nx =
 K0 (I 0) h nx := by kernel_rfl
theorem F198.k9 {E0 : Ks Prop} : IR.run F198.b9 C N ((fnO F198.res K0).blk 0 E0) K (F198.fr a c f i d g o q s u) h nx =
 sBin .add .int q (I 1) fun v1 => K (F198.fr a c f i d g o v1 s u) h nx := by kernel_rfl
theorem F198.k8 {E0 E1 : Ks Prop} : IR.run F198.b8 C N (((fnO F198.res K0).blk 0 E0).blk 1 E1) K (F198.fr a c f i d g o q s u) h nx =
 zO 1 f i fun v1 => zN 1 v1 (.bool true) h nx fun v2 h3 n4 => K (F198.fr a c f i d g o q s u) h3 n4 := by kernel_rfl
theorem F94.g1_eq (X2 : IR) (O : Outs Prop) (t : T AV) : IR.run (F94.g1 X2) C N O K t h nx = IR.run X2 C N (O.blk 0 K) K t h nx := by kernel_rfl
theorem F94.tab : T.get none (.of 94) tbl = some F94 := by kernel_rfl
theorem F94.go : zY tbl N C (.of 94) [a0] h nx K0 =
 sLen a0 fun v1 => IR.run F94.b1 C N (fnO F94.res K0) (IR.run F94.b8 C N (fnO F94.res K0) (retK F94.res K0)) (F94.fr a0 (I 0) .undef a0 v1 (I 0) .undef .undef) h nx := by
 rw [zM F94.tab]; kernel_rfl
theorem F94.L1 (Inv : Nat → AV → T Blk → Pa → Prop) {m : Nat} (hm : m < N) (hi : Inv m g h nx)
  (step : ∀ (m : Nat) (z1 z2 z5 z6 z7 : AV) (h : T Blk) (nx : Pa) (R : Ks Prop), Inv m z5 h nx → (∀ (m' : Nat) (w1 w2 w5 w6 w7 : AV) (h' : T Blk) (nx' : Pa), m' < m → Inv m' w5 h' nx' → R (F94.fr a w1 w2 i d w5 w6 w7) h' nx' = .ok True) →
   (sBin .lss .int z5 d fun v1 => yF v1 (zO 1 i z5 fun v2 => zF v2 h fun v3 => sBin .neq .int v3 (I 0) fun v4 => yF v4 (K0 v3 h nx) (sBin .add .int z5 (I 1) fun v5 => R (F94.fr a z1 v3 i d v5 v1 v4) h nx)) (K (F94.fr a z1 z2 i d z5 v1 z7) h nx)) = .ok True) :
  IR.run F94.b1 C N (fnO F94.res K0) K (F94.fr a c f i d g o q) h nx = .ok True := by
 rw [F94.b1, F94.g1_eq, F94.b2]
 refine yP (fun m tm h nx => ∃ z1 z2 z5 z6 z7, tm = (F94.fr a z1 z2 i d z5 z6 z7) ∧ Inv m z5 h nx) ?_ hm ⟨_, _, _, _, _, rfl, hi⟩
 rintro m tm h nx R ⟨z1, z2, z5, z6, z7, rfl, hi⟩ hR
 refine Eq.trans ?_ (step m z1 z2 z5 z6 z7 h nx R hi fun m' w1 w2 w5 w6 w7 h' nx' hlt hi' => hR m' _ h' nx' hlt ⟨_, _, _, _, _, rfl, hi'⟩)
 kernel_rfl
theorem F94.k8 : IR.run F94.b8 C N (fnO F94.res K0) K (F94.fr a c f i d g o q) h nx =
 K0 (I 0) h nx := by kernel_rfl
theorem F95.tab : T.get none (.of 95) tbl = some F95 := by kernel_rfl
theorem F95.go : zY tbl N C (.of 95) [a0] h nx K0 =
 sBin .lss .int a0 (I 0) fun v1 => sG v1 false (fun k => k a0) fun v2 => sG v1 false (fun k => sBin .gtr .int v2 (I 256) k) fun v3 => jJ v1 (.bool true) v3 fun v4 => C.fn 96 (.of 96) [v4, (I 3)] h nx fun v5 h6 n7 => K0 v5 h6 n7 := by
 rw [zM F95.tab]; kernel_rfl
theorem F96.tab : T.get none (.of 96) tbl = some F96 := by kernel_rfl
theorem F96.go : zY tbl N C (.of 96) [a0, a1] h nx K0 =
 yF a0 (K0 a1 h nx) (K0 (I 0) h nx) := by
 rw [zM F96.tab]; kernel_rfl
end Go.Ev
namespace Go.Ev
open Go Go.Proofs
set_option maxRecDepth 100000
variable {N : Nat} {C : Calls Prop} {K0 : Kw Prop} {K R : Ks Prop} {h : T Blk} {nx : Pa} {a c f i d g o q s u b e l p v w y z B A D E F G H a0 a1 a2 : AV}
theorem F98.g13_eq (X14 : IR) (O : Outs Prop) (t : T AV) : IR.run (F98.g13 X14) C N O K t h nx = IR.run X14 C N (O.blk 4 K) K t h nx := by kernel_rfl
theorem F98.g7_eq (X8 : IR) (O : Outs Prop) (t : T AV) : IR.run (F98.g7 X8) C N O K t h nx = IR.run X8 C N (O.blk 2 K) K t h nx := by kernel_rfl
theorem F98.tab : T.get none (.of 98) tbl = some F98 := by kernel_rfl
theorem F98.go : zY tbl N C (.of 98) [a0, a1, a2] h nx K0 =
 sBox a2 h nx fun v1 h2 n3 => yG [.nilm] h2 n3 fun v4 h5 n6 => yG [.nils] h5 n6 fun v7 h8 n9 => yG [(.bool false)] h8 n9 fun vA hG nG => C.fn 163 (.of 163) [a1] hG nG fun vD hH nI => yG [.nils, (.bool false)] hH nI fun vG hF nF => zN 2 vG vD hF nF fun vJ hD nD => sChk (true && (true && true)) (zH 2 vG hD fun vM => zH 2 vG hD fun vN => C.fn 123 (.of 123) [vM] hD nD fun vP hC nC => (zH 2 vG hC fun v52 => zG v52 vN ((zH 2 vG hC fun v51 => zG v51 vM (sMkmap hC nC fun vU hN nO => (zH 2 vG hN fun v50 => zG v50 vN ((zH 2 vG hN fun v49 => zG v49 vM (pE .str vU vP vN hN nO fun vR hO nP => (zH 2 vG hO fun v48 => zG v48 vN ((zH 2 vG hO fun v47 => zG v47 vM (yG [.nilm] hO nP fun vZ hP nQ => zG vU vU ((zH 2 vG hP fun v46 => zG v46 vN ((zH 2 vG hP fun v45 => zG v45 vM (zN 1 vZ vU hP nQ fun vW hQ nR => yG [.nils] hQ nR fun v39 hS nS => C.fn 90 (.of 90) [a0] hS nS fun v42 hT nT => IR.run (.rf (.t (.of 14)) [(.of 15), (.of 16)] F98.b3 F98.b4) C N ((fnO F98.res K0).blk 0 (IR.run F98.b23 C N (fnO F98.res K0) (retK F98.res K0))) (IR.run F98.b23 C N (fnO F98.res K0) (retK F98.res K0)) (F98.fr a0 a1 a2 v1 v4 v7 vA vG vZ v39 .undef .undef .undef .undef v42 .undef .undef .undef .undef .undef .undef .undef .undef .undef .undef) hT nT)))))))))))))))))) := by
 rw [zM F98.tab]; kernel_rfl
theorem F98.k23 : IR.run F98.b23 C N (fnO F98.res K0) K (F98.fr a c f i d g o q s u b e l p v w y z B A D E F G H) h nx =
 zF s h fun v1 => zF u h fun v2 => zN 1 d v1 h nx fun v3 h4 n5 => (zF u h4 fun vF => zG vF v2 (zN 1 g v2 h4 n5 fun v6 h7 n8 => zN 1 o (.bool true) h7 n8 fun v9 hU nU => zF d hU fun vC => zF g hU fun vD => zF o hU fun vE => K0 (.tup [vC, vD, vE]) hU nU)) := by kernel_rfl
theorem F98.p4 {N : Nat} {C : Calls Prop} {K0 : Kw Prop} {id nx : Pa} {j : Jump} {h : T Blk} {a c f i d g o q s u b e l p v w y z B A D E F G H z0 z1 : AV} (hl : T.get .no id h = .loop .ready j (F98.fr a c f i d g o q s u b e l p v w y z B A D E F G H) [.of 15, .of 16] F98.b3 F98.b4) :
 qM N C id [z0, z1] h nx K0 =
 yG [.nils, (.bool false)] h nx fun v1 h2 n3 => zN 2 v1 z1 h2 n3 fun v4 h5 n6 => rMid N C id K0 F98.b4 (F98.fr a c f i d g o q s u v1 e l p v z0 z1 z B A D E F G H) h5 n6 := by
 rw [rnd_gen hl (tm1 := (F98.fr a c f i d g o q s u b e l p v z0 z1 z B A D E F G H)) (by intro k; kernel_rfl)]; kernel_rfl
theorem F98.y4 {N : Nat} {C : Calls Prop} {K0 : Kw Prop} {id nx : Pa} {h : T Blk} {a c f i d g o q s u b e l p v w y z B A D E F G H : AV} :
 IR.run F98.b4 C N (rO id K0) (yN id K0 .none true) (F98.fr a c f i d g o q s u b e l p v w y z B A D E F G H) h nx =
 zF s h fun v1 => zH 2 b h fun v2 => C.fn 121 (.of 121) [v1, v2] h nx fun v3 h4 n5 => yF v3 (yN id K0 .none true .e h4 n5) (zF u h4 fun v6 => zH 2 b h4 fun v7 => yY 2 1 [.nils, (.bool false)] [(0, 2, v7)] h4 n5 fun v8 h9 nH => u5 C 2 32 v6 v8 h9 nH fun vB hB nB => zN 1 u vB hB nB fun vE hA nA => sChk (true && true) (zH 2 q hA fun vH => zH 2 q hA fun vI => C.fn 123 (.of 123) [vH] hA nA fun vJ hD nD => (zH 2 q hD fun v38 => zG v38 vI ((zH 2 q hD fun v37 => zG v37 vH (sMkmap hD nD fun vM hL nM => (zH 2 q hL fun vW => zG vW vI ((zH 2 q hL fun vX => zG vX vH (pE .str vM vJ vI hL nM fun v25 hM nN => zN 1 s vM hM nN fun vT hV nV => zH 2 q hV fun vQ => yY 2 1 [.nils, (.bool false)] [(0, 2, vQ)] hV nV fun v32 hW nW => IR.run F98.b7 C N ((rO id K0).blk 1 (yN id K0 .none true)) (yN id K0 .none true) (F98.fr a c f i d g o q s u b v32 l p v w y v3 B A D E F G H) hW nW)))))))))) := by kernel_rfl
theorem F98.L7 {id : Pa} {E1 : Ks Prop} (Inv : Nat → AV → T Blk → Pa → Prop) {m : Nat} (hm : m < N) (hi : Inv m e h nx)
  (step : ∀ (m : Nat) (zB zC zD zE zI zJ zK zL zP zR : AV) (h : T Blk) (nx : Pa) (R : Ks Prop), Inv m zB h nx → (∀ (m' : Nat) (wB wC wD wE wF wG wH wI wJ wK : AV) (h' : T Blk) (nx' : Pa), m' < m → Inv m' wB h' nx' → R (F98.fr a c f i d g o q s u b wB wC wD v w y z wE wF wG wH wI wJ wK) h' nx' = .ok True) →
   (sLen zB fun v1 => sBin .gtr .int v1 (I 0) fun v2 => yF v2 (zF u h fun v3 => sLen v3 fun v4 => IR.run F98.b13 C N ((((rO id K0).blk 1 E1).blk 2 K).blk 3 (IR.run F98.b22 C N (((rO id K0).blk 1 E1).blk 2 K) R)) (IR.run F98.b22 C N (((rO id K0).blk 1 E1).blk 2 K) R) (F98.fr a c f i d g o q s u b zB zC zD v w y z v2 v3 v4 (I 0) zL zP zR) h nx) (K (F98.fr a c f i d g o q s u b zB zC zD v w y z v2 zI zJ zK zL zP zR) h nx)) = .ok True) :
  IR.run F98.b7 C N ((rO id K0).blk 1 E1) K (F98.fr a c f i d g o q s u b e l p v w y z B A D E F G H) h nx = .ok True := by
 rw [F98.b7, F98.g7_eq, F98.b8]
 refine yP (fun m tm h nx => ∃ zB zC zD zE zI zJ zK zL zP zR, tm = (F98.fr a c f i d g o q s u b zB zC zD v w y z zE zI zJ zK zL zP zR) ∧ Inv m zB h nx) ?_ hm ⟨_, _, _, _, _, _, _, _, _, _, rfl, hi⟩
 rintro m tm h nx R ⟨zB, zC, zD, zE, zI, zJ, zK, zL, zP, zR, rfl, hi⟩ hR
 refine Eq.trans ?_ (step m zB zC zD zE zI zJ zK zL zP zR h nx R hi fun m' wB wC wD wE wF wG wH wI wJ wK h' nx' hlt hi' => hR m' _ h' nx' hlt ⟨_, _, _, _, _, _, _, _, _, _, rfl, hi'⟩)
 kernel_rfl
theorem F98.k22 {id : Pa} {E1 E2 : Ks Prop} : IR.run F98.b22 C N (((rO id K0).blk 1 E1).blk 2 E2) K (F98.fr a c f i d g o q s u b e l p v w y z B A D E F G H) h nx =
 uF 2 e (some (I 1)) none none fun v1 => K (F98.fr a c f i d g o q s u b v1 l p v w y z B A D E F G H) h nx := by kernel_rfl
theorem F98.L13 {id : Pa} {E1 E2 E3 : Ks Prop} (Inv : Nat → AV → AV → T Blk → Pa → Prop) {m : Nat} (hm : m < N) (hi : Inv m e E h nx)
  (step : ∀ (m : Nat) (zB zC zD zK zL zP zR : AV) (h : T Blk) (nx : Pa) (R : Ks Prop), Inv m zB zK h nx → (∀ (m' : Nat) (wB wC wD wH wI wJ wK : AV) (h' : T Blk) (nx' : Pa), m' < m → Inv m' wB wH h' nx' → R (F98.fr a c f i d g o q s u b wB wC wD v w y z B A D wH wI wJ wK) h' nx' = .ok True) →
   (sBin .lss .int zK D fun v1 => yF v1 (zO 2 A zK fun v2 => zH 2 v2 h fun v3 => yG [.nils, (.bool false)] h nx fun v4 h5 n6 => zN 2 v4 v3 h5 n6 fun v7 h8 n9 => sChk (true && true) (zH 2 v4 h8 fun vA => zO 2 zB (I 0) fun vB => zH 2 vB h8 fun vC => C.fn 122 (.of 122) [vA, vC] h8 n9 fun vD hH nI => (zH 2 vB hH fun v65 => zG v65 vC ((zO 2 zB (I 0) fun v64 => zG v64 vB (zG zB zB ((zH 2 v4 hH fun v63 => zG v63 vA (yG [.nils, (.bool false)] hH nI fun vG hF nF => (zH 2 vB hF fun v62 => zG v62 vC ((zO 2 zB (I 0) fun v61 => zG v61 vB (zG zB zB ((zH 2 v4 hF fun v60 => zG v60 vA (zN 2 vG vD hF nF fun vJ hD nD => zF s hD fun vM => zH 2 vG hD fun vN => C.fn 121 (.of 121) [vM, vN] hD nD fun vP hC nC => yF vP (sBin .add .int zK (I 1) fun vU => R (F98.fr a c f i d g o q s u b zB v4 vG v w y z B A D vU v1 vP zR) hC nC) (zF s hC fun vT => sMlen vT hC fun vS => zF i hC fun vR => sBin .eql .int vS vR fun vQ => yF vQ (zN 1 d .nilm hC nC fun v32 hW nW => zN 1 g .nils hW nW fun vX hX nX => zN 1 o (.bool false) hX nX fun v38 hY nY => yN id K0 .ret false .e hY nY) (zF s hC fun v41 => zH 2 vG hC fun v42 => zH 2 vG hC fun v43 => C.fn 123 (.of 123) [v42] hC nC fun v44 hZ nZ => (zH 2 vG hZ fun v59 => zG v59 v43 ((zF s hZ fun v58 => zG v58 v41 (pE .str v41 v44 v43 hZ nZ fun v47 h48 n49 => zH 2 vG h48 fun v50 => yY 2 1 [.nils, (.bool false)] [(0, 2, v50)] h48 n49 fun v51 h52 n53 => u5 C 2 32 zB v51 h52 n53 fun v54 h55 n56 => sBin .add .int zK (I 1) fun v57 => R (F98.fr a c f i d g o q s u b v54 v4 vG v w y z B A D v57 v1 vP vQ) h55 n56)))))))))))))))))))))) (K (F98.fr a c f i d g o q s u b zB zC zD v w y z B A D zK v1 zP zR) h nx)) = .ok True) :
  IR.run F98.b13 C N ((((rO id K0).blk 1 E1).blk 2 E2).blk 3 E3) K (F98.fr a c f i d g o q s u b e l p v w y z B A D E F G H) h nx = .ok True := by
 rw [F98.b13, F98.g13_eq, F98.b14]
 refine yP (fun m tm h nx => ∃ zB zC zD zK zL zP zR, tm = (F98.fr a c f i d g o q s u b zB zC zD v w y z B A D zK zL zP zR) ∧ Inv m zB zK h nx) ?_ hm ⟨_, _, _, _, _, _, _, rfl, hi⟩
 rintro m tm h nx R ⟨zB, zC, zD, zK, zL, zP, zR, rfl, hi⟩ hR
 refine Eq.trans ?_ (step m zB zC zD zK zL zP zR h nx R hi fun m' wB wC wD wH wI wJ wK h' nx' hlt hi' => hR m' _ h' nx' hlt ⟨_, _, _, _, _, _, _, rfl, hi'⟩)
 kernel_rfl
end Go.Ev
namespace Go.Ev
open Go Go.Proofs
set_option maxRecDepth 100000
variable {N : Nat} {C : Calls Prop} {K0 : Kw Prop} {K R : Ks Prop} {h : T Blk} {nx : Pa} {a c f i d g o q s u b e l p v w y z B A a0 a1 : AV}
theorem F92.tab : T.get none (.of 92) tbl = some F92 := by kernel_rfl
theorem F92.go : zY tbl N C (.of 92) [a0, a1] h nx K0 =
 sBox a0 h nx fun v1 h2 n3 => yG [.nilm] h2 n3 fun v4 h5 n6 => yG [.nils] h5 n6 fun v7 h8 n9 => yG [(I 0)] h8 n9 fun vA hG nG => zF v1 hG fun vD => sLen vD fun vE => sBin .eql .int vE (I 0) fun vF => zF v1 hG fun vG => sLen vG fun vH => sBin .gtr .int vH (I 1536) fun vI => C.fn 95 (.of 95) [a1] hG nG fun vJ hD nD => (sBin .gtr .int vH (I 1536) fun v76 => zG v76 vI ((sLen vG fun v75 => zG v75 vH ((zF v1 hD fun v74 => zG v74 vG ((sBin .eql .int vE (I 0) fun v73 => zG v73 vF ((sLen vD fun v72 => zG v72 vE ((zF v1 hD fun v71 => zG v71 vD (C.fn 96 (.of 96) [vF, (I 12)] hD nD fun vM hL nM => (sBin .gtr .int vH (I 1536) fun v70 => zG v70 vI ((sLen vG fun v69 => zG v69 vH ((zF v1 hL fun v68 => zG v68 vG (C.fn 96 (.of 96) [vI, (I 5)] hL nM fun v25 hM nN => yY 1 3 [(I 0)] [(0, 1, vJ), (1, 1, vM), (2, 1, v25)] hM nN fun vT hV nV => C.fn 94 (.of 94) [vT] hV nV fun vQ h32 n33 => sBin .neq .int vQ (I 0) fun vY => yF vY (zN 1 v4 .nilm h32 n33 fun vX hX nX => zN 1 v7 .nils hX nX fun v38 hY nY => zN 1 vA vQ hY nY fun v41 h42 n43 => zF v4 h42 fun v44 => zF v7 h42 fun v45 => zF vA h42 fun v46 => K0 (.tup [v44, v45, v46]) h42 n43) (zF v1 h32 fun v47 => C.fn 97 (.of 97) [v47, a1] h32 n33 fun v48 h49 n50 => sBin .neq .int v48 (I 0) fun v51 => yF v51 (zN 1 v4 .nilm h49 n50 fun v52 h53 n54 => zN 1 v7 .nils h53 n54 fun v55 h56 n57 => zN 1 vA v48 h56 n57 fun v58 h59 n60 => zF v4 h59 fun v61 => zF v7 h59 fun v62 => zF vA h59 fun v63 => K0 (.tup [v61, v62, v63]) h59 n60) (zF v1 h49 fun v64 => C.fn 90 (.of 90) [v64] h49 n50 fun v65 h66 n67 => IR.run (.rf (.t (.of 15)) [(.of 16), (.of 17)] F92.b5 F92.b6) C N ((fnO F92.res K0).blk 0 (IR.run F92.b8 C N (fnO F92.res K0) (retK F92.res K0))) (IR.run F92.b8 C N (fnO F92.res K0) (retK F92.res K0)) (F92.fr a0 a1 v1 v4 v7 vA vQ v48 .undef .undef .undef .undef .undef vY v51 v65 .undef .undef .undef .undef) h66 n67)))))))))))))))))))) := by
 rw [zM F92.tab]; kernel_rfl
theorem F92.k8 : IR.run F92.b8 C N (fnO F92.res K0) K (F92.fr a c f i d g o q s u b e l p v w y z B A) h nx =
 zF f h fun v1 => zF f h fun v2 => sLen v2 fun v3 => C.fn 98 (.of 98) [v1, c, v3] h nx fun v4 h5 n6 => sExt 0 v4 fun v7 => sExt 1 v4 fun v8 => sExt 2 v4 fun v9 => sNot v9 fun vA => sG vA false (fun k => k v7) fun vB => sG vA false (fun k => sMlen vB h5 k) fun vC => sG vA false (fun k => zF f h5 k) fun vD => sG vA false (fun k => sLen vD k) fun vE => sG vA false (fun k => sBin .neq .int vC vE k) fun vF => jJ vA (.bool true) vF fun vG => yF vG (zN 1 i .nilm h5 n6 fun vH h18 n19 => zN 1 d .nils h18 n19 fun vK hI nJ => zN 1 g (I 28) hI nJ fun vN hE nE => zF i hE fun vV => zF d hE fun vU => zF g hE fun vT => K0 (.tup [vV, vU, vT]) hE nE) ((IR.run F92.b9 C N (fnO F92.res K0) K) (F92.fr a c f i d g o q s u v7 v8 v9 p v w y z B vG) h5 n6) := by kernel_rfl
theorem F92.p6 {N : Nat} {C : Calls Prop} {K0 : Kw Prop} {id nx : Pa} {j : Jump} {h : T Blk} {a c f i d g o q s u b e l p v w y z B A z0 z1 : AV} (hl : T.get .no id h = .loop .ready j (F92.fr a c f i d g o q s u b e l p v w y z B A) [.of 16, .of 17] F92.b5 F92.b6) :
 qM N C id [z0, z1] h nx K0 =
 yG [.nils, (.bool false)] h nx fun v1 h2 n3 => zN 2 v1 z1 h2 n3 fun v4 h5 n6 => rMid N C id K0 F92.b6 (F92.fr a c f i d g o q z0 v1 b e l p v w z0 z1 B A) h5 n6 := by
 rw [rnd_gen hl (tm1 := (F92.fr a c f i d g o q s u b e l p v w z0 z1 B A)) (by intro k; kernel_rfl)]; kernel_rfl
theorem F92.y6 {N : Nat} {C : Calls Prop} {K0 : Kw Prop} {id nx : Pa} {h : T Blk} {a c f i d g o q s u b e l p v w y z B A : AV} :
 IR.run F92.b6 C N (rO id K0) (yN id K0 .none true) (F92.fr a c f i d g o q s u b e l p v w y z B A) h nx =
 sBin .gtr .int s (I 0) fun v1 => sG v1 true (fun k => zF f h k) fun v2 => sG v1 true (fun k => k s) fun v3 => sG v1 true (fun k => sBin .sub .int v3 (I 1) k) fun v4 => sG v1 true (fun k => zO 2 v2 v4 k) fun v5 => sG v1 true (fun k => zH 2 v5 h k) fun v6 => sG v1 true (fun k => zH 2 u h k) fun v7 => sGW v1 true (fun k => C.fn 162 (.of 162) [v6, v7] h nx k) h nx fun v8 h9 nH => sG v1 true (fun k => sBin .geq .int v8 (I 0) k) fun vB => jJ v1 vB (.bool false) fun vC => yF vC (zN 1 i .nilm h9 nH fun vD hH nI => zN 1 d .nils hH nI fun vG hF nF => zN 1 g (I 11) hF nF fun vJ hD nD => yN id K0 .ret false .e hD nD) (yN id K0 .none true .e h9 nH) := by kernel_rfl
theorem F92.k9 : IR.run F92.b9 C N (fnO F92.res K0) K (F92.fr a c f i d g o q s u b e l p v w y z B A) h nx =
 zN 1 i b h nx fun v1 h2 n3 => zN 1 d e h2 n3 fun v4 h5 n6 => zN 1 g (I 0) h5 n6 fun v7 h8 n9 => zF i h8 fun vA => zF d h8 fun vB => zF g h8 fun vC => K0 (.tup [vA, vB, vC]) h8 n9 := by kernel_rfl
end Go.Ev
namespace Go.Ev
open Go Go.Proofs
set_option maxRecDepth 100000
variable {N : Nat} {C : Calls Prop} {K0 : Kw Prop} {K R : Ks Prop} {h : T Blk} {nx : Pa} {a c f i a0 a1 : AV}
theorem F22.tab : T.get none (.of 22) tbl = some F22 := by kernel_rfl
theorem F22.go : zY tbl N C (.of 22) [a0, a1] h nx K0 =
 C.fn 92 (.of 92) [a0, a1] h nx fun v1 h2 n3 => sExt 0 v1 fun v4 => sExt 1 v1 fun v5 => sExt 2 v1 fun v6 => K0 v6 h2 n3 := by
 rw [zM F22.tab]; kernel_rfl
end Go.Ev
namespace Go.Ev
open Go Go.Proofs
set_option maxRecDepth 100000
section
variable {N : Nat} {C : Calls Prop} {K0 : Kw Prop} {K : Ks Prop} {h : T Blk} {nx : Pa} {a c f i d g o q s u b e a0 a1 : AV} {O : Outs Prop} {tm : T AV} {Kt : KTm} {r : List RO} {s0 s1 s2 s3 s4 s5 s6 s7 s8 s9 s10 s11 s12 s13 s14 s15 s16 s17 s18 s19 s20 s21 s22 s23 s24 s25 s26 s27 s28 s29 s30 s31 s32 s33 s34 s35 s36 s37 s38 s39 : AV}
noncomputable def F19.t0 : IR := .reg [.q (.of 2) (.mv (.c (.bool false)))]
noncomputable def F19.t1 : IR := .reg [.s (.mv (.t (.of 0))), .s (.len (.s 0)), .s (.mv (.t (.of 1))), .q (.of 4) (.bin .gtr .int (.s 1) (.s 0))]
noncomputable def F19.t2 : IR := .reg [.q (.of 2) (.mv (.c (.bool true)))]
noncomputable def F19.t3 : IR := .seq F19.t2 .ret
noncomputable def F19.t4 : IR := .cond (.t (.of 4)) F19.t3 .skip
noncomputable def F19.t5 : IR := .seq F19.t1 F19.t4
noncomputable def F19.t6 : IR := .reg [.q (.of 3) (.mv (.c (I 0)))]
noncomputable def F19.t7 : IR := .reg [.s (.mv (.t (.of 3))), .s (.mv (.t (.of 0))), .s (.len (.s 0)), .q (.of 5) (.bin .lss .int (.s 2) (.s 0))]
noncomputable def F19.t8 : IR := .cond (.t (.of 5)) .skip (.exit 0)
noncomputable def F19.t9 : IR := .seq F19.t7 F19.t8
noncomputable def F19.t10 : IR := .reg [.s (.mv (.t (.of 0))), .s (.mv (.t (.of 3))), .s (.iaddr 2 (.s 1) (.s 0)), .s (.faddr 0 (.s 0)), .s (.load (.s 0)), .s (.len (.s 0)), .q (.of 6) (.bin .gtr .int (.s 0) (.c (I 16)))]
noncomputable def F19.t11 : IR := .reg [.q (.of 2) (.mv (.c (.bool true)))]
noncomputable def F19.t12 : IR := .seq F19.t11 .ret
noncomputable def F19.t13 : IR := .cond (.t (.of 6)) F19.t12 .skip
noncomputable def F19.t14 : IR := .seq F19.t10 F19.t13
noncomputable def F19.t15 : IR := .block 1 F19.t14
noncomputable def F19.t16 : IR := .reg [.s (.mv (.t (.of 3))), .s (.bin .add .int (.s 0) (.c (I 1))), .q (.of 3) (.mv (.s 0))]
noncomputable def F19.t17 : IR := .seq F19.t15 F19.t16
noncomputable def F19.t18 : IR := .seq F19.t9 F19.t17
noncomputable def F19.t19 : IR := .loop F19.t18
noncomputable def F19.t20 : IR := .block 0 F19.t19
noncomputable def F19.t21 : IR := .seq F19.t6 F19.t20
noncomputable def F19.t22 : IR := .reg [.q (.of 2) (.mv (.c (.bool false)))]
noncomputable def F19.t23 : IR := .seq F19.t22 .ret
noncomputable def F19.t24 : IR := .seq F19.t21 F19.t23
noncomputable def F19.t25 : IR := .seq F19.t5 F19.t24
noncomputable def F19.t26 : IR := .seq F19.t0 F19.t25
theorem F19.t0_s : IR.run F19.t0 C N O K (F19.fr a c f i d g o) h nx =
 K (F19.fr a c (.bool false) i d g o) h nx := by kernel_rfl
theorem F19.t1_s : IR.run F19.t1 C N O K (F19.fr a c f i d g o) h nx =
 sLen a fun v1 => sBin .gtr .int v1 c fun v2 => K (F19.fr a c f i v2 g o) h nx := by kernel_rfl
theorem F19.t2_s : IR.run F19.t2 C N O K (F19.fr a c f i d g o) h nx =
 K (F19.fr a c (.bool true) i d g o) h nx := by kernel_rfl
theorem F19.v4 : Arg.ev (.t (.of 4)) ⟨(F19.fr a c f i d g o), []⟩ = d := by kernel_rfl
theorem F19.t6_s : IR.run F19.t6 C N O K (F19.fr a c f i d g o) h nx =
 K (F19.fr a c f (I 0) d g o) h nx := by kernel_rfl
theorem F19.t7_s : IR.run F19.t7 C N O K (F19.fr a c f i d g o) h nx =
 sLen a fun v1 => sBin .lss .int i v1 fun v2 => K (F19.fr a c f i d v2 o) h nx := by kernel_rfl
theorem F19.v5 : Arg.ev (.t (.of 5)) ⟨(F19.fr a c f i d g o), []⟩ = g := by kernel_rfl
theorem F19.t10_s : IR.run F19.t10 C N O K (F19.fr a c f i d g o) h nx =
 zO 2 a i fun v1 => zQ 0 v1 fun v2 => zF v2 h fun v3 => sLen v3 fun v4 => sBin .gtr .int v4 (I 16) fun v5 => K (F19.fr a c f i d g v5) h nx := by kernel_rfl
theorem F19.t11_s : IR.run F19.t11 C N O K (F19.fr a c f i d g o) h nx =
 K (F19.fr a c (.bool true) i d g o) h nx := by kernel_rfl
theorem F19.v6 : Arg.ev (.t (.of 6)) ⟨(F19.fr a c f i d g o), []⟩ = o := by kernel_rfl
theorem F19.t16_s : IR.run F19.t16 C N O K (F19.fr a c f i d g o) h nx =
 sBin .add .int i (I 1) fun v1 => K (F19.fr a c f v1 d g o) h nx := by kernel_rfl
theorem F19.t19_L (Inv : Nat → AV → T Blk → Pa → Prop) {m : Nat} (hm : m < N) (hi : Inv m i h nx)
  (step : ∀ (m : Nat) (z2 z3 z5 z6 : AV) (h : T Blk) (nx : Pa) (R : Ks Prop), Inv m z3 h nx → (∀ (m' : Nat) (w2 w3 w5 w6 : AV) (h' : T Blk) (nx' : Pa), m' < m → Inv m' w3 h' nx' → R (F19.fr a c w2 w3 d w5 w6) h' nx' = .ok True) → IR.run F19.t18 C N O R (F19.fr a c z2 z3 d z5 z6) h nx = .ok True) :
  IR.run F19.t19 C N O K (F19.fr a c f i d g o) h nx = .ok True := by
 rw [F19.t19]
 refine yP (fun m tm h nx => ∃ z2 z3 z5 z6, tm = (F19.fr a c z2 z3 d z5 z6) ∧ Inv m z3 h nx) ?_ hm ⟨_, _, _, _, rfl, hi⟩
 rintro m tm h nx R ⟨z2, z3, z5, z6, rfl, hi⟩ hR
 exact step m z2 z3 z5 z6 h nx R hi fun m' w2 w3 w5 w6 h' nx' hlt hi' => hR m' _ h' nx' hlt ⟨_, _, _, _, rfl, hi'⟩
theorem F19.t22_s : IR.run F19.t22 C N O K (F19.fr a c f i d g o) h nx =
 K (F19.fr a c (.bool false) i d g o) h nx := by kernel_rfl
theorem F19.tab : T.get none (.of 19) tbl = some F19 := by kernel_rfl
theorem F19.bind (k : T AV → OP) : yI F19.params [a0, a1] F19.init k = k (F19.fr a0 a1 .undef .undef .undef .undef .undef) := by kernel_rfl
theorem F19.body_eq : F19.body = F19.t26 := by kernel_rfl
theorem F19.go : zY tbl N C (.of 19) [a0, a1] h nx K0 = IR.run F19.t26 C N (fnO F19.res K0) (retK F19.res K0) (F19.fr a0 a1 .undef .undef .undef .undef .undef) h nx := by
 rw [zM F19.tab, F19.bind, F19.body_eq]; kernel_rfl
theorem F19.ret : retK F19.res K0 (F19.fr a c f i d g o) h nx = K0 f h nx := by kernel_rfl
end
end Go.Ev
namespace Go.Ev
open Go Go.Proofs
set_option maxRecDepth 100000
section
variable {N : Nat} {C : Calls Prop} {K0 : Kw Prop} {K : Ks Prop} {h : T Blk} {nx : Pa} {a c f i d g o a0 a1 a2 a3 : AV} {O : Outs Prop} {tm : T AV} {Kt : KTm} {r : List RO} {s0 s1 s2 s3 s4 s5 s6 s7 s8 s9 s10 s11 s12 s13 s14 s15 s16 s17 s18 s19 s20 s21 s22 s23 s24 s25 s26 s27 s28 s29 s30 s31 s32 s33 s34 s35 s36 s37 s38 s39 : AV}
noncomputable def F28.t0 : IR := .reg [.q (.of 4) (.mv (.c (.bool false)))]
noncomputable def F28.t1 : IR := .reg [.s (.mv (.t (.of 2))), .q (.of 5) (.bin .neq .int (.s 0) (.c (I 0)))]
noncomputable def F28.t2 : IR := .reg [.s (.mv (.t (.of 0))), .s (.len (.s 0)), .s (.bin .eql .int (.s 0) (.c (I 0))), .s (.mv (.s 0)), .p .push (some ((.s 0), true)) (.mv (.t (.of 1))), .p .push (some ((.s 1), true)) (.mv (.t (.of 2))), .p .push (some ((.s 2), true)) (.bin .eql .int (.s 1) (.s 0)), .s (.pick (.s 3) (.s 0) (.c (.bool false))), .q (.of 4) (.mv (.s 0))]
noncomputable def F28.t3 : IR := .seq F28.t2 .ret
noncomputable def F28.t4 : IR := .cond (.t (.of 5)) F28.t3 .skip
noncomputable def F28.t5 : IR := .seq F28.t1 F28.t4
noncomputable def F28.t6 : IR := .reg [.s (.mv (.t (.of 1))), .s (.bin .eql .int (.s 0) (.c (I 0))), .s (.mv (.s 0)), .p .push (some ((.s 0), true)) (.mv (.t (.of 0))), .p .push (some ((.s 1), true)) (.mv (.t (.of 3))), .w .push (some ((.s 2), true)) (.call (.c (.fn 69 (.of 69) [])) [(.s 1), (.s 0)]), .s (.pick (.s 3) (.s 0) (.c (.bool false))), .q (.of 4) (.mv (.s 0))]
noncomputable def F28.t7 : IR := .seq F28.t6 .ret
noncomputable def F28.t8 : IR := .seq F28.t5 F28.t7
noncomputable def F28.t9 : IR := .seq F28.t0 F28.t8
theorem F28.t0_s : IR.run F28.t0 C N O K (F28.fr a c f i d g) h nx =
 K (F28.fr a c f i (.bool false) g) h nx := by kernel_rfl
theorem F28.t1_s : IR.run F28.t1 C N O K (F28.fr a c f i d g) h nx =
 sBin .neq .int f (I 0) fun v1 => K (F28.fr a c f i d v1) h nx := by kernel_rfl
theorem F28.t2_s : IR.run F28.t2 C N O K (F28.fr a c f i d g) h nx =
 sLen a fun v1 => sBin .eql .int v1 (I 0) fun v2 => sG v2 true (fun k => k c) fun v3 => sG v2 true (fun k => k f) fun v4 => sG v2 true (fun k => sBin .eql .int v3 v4 k) fun v5 => jJ v2 v5 (.bool false) fun v6 => K (F28.fr a c f i v6 g) h nx := by kernel_rfl
theorem F28.v5 : Arg.ev (.t (.of 5)) ⟨(F28.fr a c f i d g), []⟩ = g := by kernel_rfl
theorem F28.t6_s : IR.run F28.t6 C N O K (F28.fr a c f i d g) h nx =
 sBin .eql .int c (I 0) fun v1 => sG v1 true (fun k => k a) fun v2 => sG v1 true (fun k => k i) fun v3 => sGW v1 true (fun k => C.fn 69 (.of 69) [v2, v3] h nx k) h nx fun v4 h5 n6 => jJ v1 v4 (.bool false) fun v7 => K (F28.fr a c f i v7 g) h5 n6 := by kernel_rfl
theorem F28.tab : T.get none (.of 28) tbl = some F28 := by kernel_rfl
theorem F28.bind (k : T AV → OP) : yI F28.params [a0, a1, a2, a3] F28.init k = k (F28.fr a0 a1 a2 a3 .undef .undef) := by kernel_rfl
theorem F28.body_eq : F28.body = F28.t9 := by kernel_rfl
theorem F28.go : zY tbl N C (.of 28) [a0, a1, a2, a3] h nx K0 = IR.run F28.t9 C N (fnO F28.res K0) (retK F28.res K0) (F28.fr a0 a1 a2 a3 .undef .undef) h nx := by
 rw [zM F28.tab, F28.bind, F28.body_eq]; kernel_rfl
theorem F28.ret : retK F28.res K0 (F28.fr a c f i d g) h nx = K0 d h nx := by kernel_rfl
noncomputable def F69.t0 : IR := .reg [.q (.of 2) (.mv (.c (.bool false)))]
noncomputable def F69.t1 : IR := .reg [.s (.mv (.t (.of 0))), .s (.len (.s 0)), .s (.mv (.t (.of 1))), .s (.len (.s 0)), .q (.of 4) (.bin .neq .int (.s 2) (.s 0))]
noncomputable def F69.t2 : IR := .reg [.q (.of 2) (.mv (.c (.bool false)))]
noncomputable def F69.t3 : IR := .seq F69.t2 .ret
noncomputable def F69.t4 : IR := .cond (.t (.of 4)) F69.t3 .skip
noncomputable def F69.t5 : IR := .seq F69.t1 F69.t4
noncomputable def F69.t6 : IR := .reg [.q (.of 3) (.mv (.c (I 0)))]
noncomputable def F69.t7 : IR := .reg [.s (.mv (.t (.of 3))), .s (.mv (.t (.of 0))), .s (.len (.s 0)), .q (.of 5) (.bin .lss .int (.s 2) (.s 0))]
noncomputable def F69.t8 : IR := .cond (.t (.of 5)) .skip (.exit 0)
noncomputable def F69.t9 : IR := .seq F69.t7 F69.t8
noncomputable def F69.t10 : IR := .dreg [] [(.s (.mv (.t (.of 0))), 0, []), (.s (.mv (.t (.of 3))), 0, []), (.s (.iaddr 2 (.s 1) (.s 0)), 0, []), (.s (.loadN 2 (.s 0)), 0, []), (.s (.mv (.t (.of 1))), 0, []), (.s (.mv (.t (.of 3))), 0, []), (.s (.iaddr 2 (.s 1) (.s 0)), 0, []), (.s (.loadN 2 (.s 0)), 0, []), (.w .push none (.call (.c (.fn 30 (.of 30) [])) [(.s 4), (.s 0)]), 0, []), (.q (.of 6) (.not (.s 0)), 0, [])]
noncomputable def F69.t11 : IR := .reg [.q (.of 2) (.mv (.c (.bool false)))]
noncomputable def F69.t12 : IR := .seq F69.t11 .ret
noncomputable def F69.t13 : IR := .cond (.t (.of 6)) F69.t12 .skip
noncomputable def F69.t14 : IR := .seq F69.t10 F69.t13
noncomputable def F69.t15 : IR := .block 1 F69.t14
noncomputable def F69.t16 : IR := .reg [.s (.mv (.t (.of 3))), .s (.bin .add .int (.s 0) (.c (I 1))), .q (.of 3) (.mv (.s 0))]
noncomputable def F69.t17 : IR := .seq F69.t15 F69.t16
noncomputable def F69.t18 : IR := .seq F69.t9 F69.t17
noncomputable def F69.t19 : IR := .loop F69.t18
noncomputable def F69.t20 : IR := .block 0 F69.t19
noncomputable def F69.t21 : IR := .seq F69.t6 F69.t20
noncomputable def F69.t22 : IR := .reg [.q (.of 2) (.mv (.c (.bool true)))]
noncomputable def F69.t23 : IR := .seq F69.t22 .ret
noncomputable def F69.t24 : IR := .seq F69.t21 F69.t23
noncomputable def F69.t25 : IR := .seq F69.t5 F69.t24
noncomputable def F69.t26 : IR := .seq F69.t0 F69.t25
theorem F69.t0_s : IR.run F69.t0 C N O K (F69.fr a c f i d g o) h nx =
 K (F69.fr a c (.bool false) i d g o) h nx := by kernel_rfl
theorem F69.t1_s : IR.run F69.t1 C N O K (F69.fr a c f i d g o) h nx =
 sLen a fun v1 => sLen c fun v2 => sBin .neq .int v1 v2 fun v3 => K (F69.fr a c f i v3 g o) h nx := by kernel_rfl
theorem F69.v4 : Arg.ev (.t (.of 4)) ⟨(F69.fr a c f i d g o), []⟩ = d := by kernel_rfl
theorem F69.t6_s : IR.run F69.t6 C N O K (F69.fr a c f i d g o) h nx =
 K (F69.fr a c f (I 0) d g o) h nx := by kernel_rfl
theorem F69.t7_s : IR.run F69.t7 C N O K (F69.fr a c f i d g o) h nx =
 sLen a fun v1 => sBin .lss .int i v1 fun v2 => K (F69.fr a c f i d v2 o) h nx := by kernel_rfl
theorem F69.v5 : Arg.ev (.t (.of 5)) ⟨(F69.fr a c f i d g o), []⟩ = g := by kernel_rfl
theorem F69.t10_s : IR.run F69.t10 C N O K (F69.fr a c f i d g o) h nx =
 zO 2 a i fun v1 => zH 2 v1 h fun v2 => zO 2 c i fun v3 => zH 2 v3 h fun v4 => C.fn 30 (.of 30) [v2, v4] h nx fun v5 h6 n7 => sNot v5 fun v8 => K (F69.fr a c f i d g v8) h6 n7 := by kernel_rfl
theorem F69.v6 : Arg.ev (.t (.of 6)) ⟨(F69.fr a c f i d g o), []⟩ = o := by kernel_rfl
theorem F69.t16_s : IR.run F69.t16 C N O K (F69.fr a c f i d g o) h nx =
 sBin .add .int i (I 1) fun v1 => K (F69.fr a c f v1 d g o) h nx := by kernel_rfl
theorem F69.t19_L (Inv : Nat → AV → T Blk → Pa → Prop) {m : Nat} (hm : m < N) (hi : Inv m i h nx)
  (step : ∀ (m : Nat) (z2 z3 z5 z6 : AV) (h : T Blk) (nx : Pa) (R : Ks Prop), Inv m z3 h nx → (∀ (m' : Nat) (w2 w3 w5 w6 : AV) (h' : T Blk) (nx' : Pa), m' < m → Inv m' w3 h' nx' → R (F69.fr a c w2 w3 d w5 w6) h' nx' = .ok True) → IR.run F69.t18 C N O R (F69.fr a c z2 z3 d z5 z6) h nx = .ok True) :
  IR.run F69.t19 C N O K (F69.fr a c f i d g o) h nx = .ok True := by
 rw [F69.t19]
 refine yP (fun m tm h nx => ∃ z2 z3 z5 z6, tm = (F69.fr a c z2 z3 d z5 z6) ∧ Inv m z3 h nx) ?_ hm ⟨_, _, _, _, rfl, hi⟩
 rintro m tm h nx R ⟨z2, z3, z5, z6, rfl, hi⟩ hR
 exact step m z2 z3 z5 z6 h nx R hi fun m' w2 w3 w5 w6 h' nx' hlt hi' => hR m' _ h' nx' hlt ⟨_, _, _, _, rfl, hi'⟩
theorem F69.t22_s : IR.run F69.t22 C N O K (F69.fr a c f i d g o) h nx =
 K (F69.fr a c (.bool true) i d g o) h nx := by kernel_rfl
theorem F69.tab : T.get none (.of 69) tbl = some F69 := by kernel_rfl
theorem F69.bind (k : T AV → OP) : yI F69.params [a0, a1] F69.init k = k (F69.fr a0 a1 .undef .undef .undef .undef .undef) := by kernel_rfl
theorem F69.body_eq : F69.body = F69.t26 := by kernel_rfl
theorem F69.go : zY tbl N C (.of 69) [a0, a1] h nx K0 = IR.run F69.t26 C N (fnO F69.res K0) (retK F69.res K0) (F69.fr a0 a1 .undef .undef .undef .undef .undef) h nx := by
 rw [zM F69.tab, F69.bind, F69.body_eq]; kernel_rfl
theorem F69.ret : retK F69.res K0 (F69.fr a c f i d g o) h nx = K0 f h nx := by kernel_rfl
end
end Go.Ev
namespace Go.Ev
open Go Go.Proofs
set_option maxRecDepth 100000
section
variable {N : Nat} {C : Calls Prop} {K0 : Kw Prop} {K : Ks Prop} {h : T Blk} {nx : Pa} {a c f i d g o q s u b e l p v w a0 a1 a2 a3 : AV} {O : Outs Prop} {tm : T AV} {Kt : KTm} {r : List RO} {s0 s1 s2 s3 s4 s5 s6 s7 s8 s9 s10 s11 s12 s13 s14 s15 s16 s17 s18 s19 s20 s21 s22 s23 s24 s25 s26 s27 s28 s29 s30 s31 s32 s33 s34 s35 s36 s37 s38 s39 : AV}
end
end Go.Ev
namespace Go.Ev
open Go Go.Proofs
set_option maxRecDepth 100000
section
variable {N : Nat} {C : Calls Prop} {K0 : Kw Prop} {K : Ks Prop} {h : T Blk} {nx : Pa} {a c f i d g o q s u b e l p v w y z a0 a1 a2 : AV} {O : Outs Prop} {tm : T AV} {Kt : KTm} {r : List RO} {s0 s1 s2 s3 s4 s5 s6 s7 s8 s9 s10 s11 s12 s13 s14 s15 s16 s17 s18 s19 s20 s21 s22 s23 s24 s25 s26 s27 s28 s29 s30 s31 s32 s33 s34 s35 s36 s37 s38 s39 : AV}
noncomputable def F120.t0 : IR := .reg [.q (.of 3) (.mv (.c .nilm)), .w (.loc (.of 4)) none (.alloc [.nils, .nils]), .q (.of 5) (.mv (.c (I 0)))]
noncomputable def F120.t1 : IR := .reg [.w (.loc (.of 6)) none (.alloc [.nils, .nils])]
noncomputable def F120.t2 : IR := .reg [.s (.mv (.t (.of 0))), .s (.mv (.t (.of 2))), .w .push none (.call (.c (.fn 92 (.of 92) [])) [(.s 1), (.s 0)]), .s (.mv (.s 0)), .s (.ext 0 (.s 0)), .s (.ext 1 (.s 1)), .s (.ext 2 (.s 2)), .q (.of 7) (.mv (.s 2)), .q (.of 8) (.mv (.s 1)), .q (.of 9) (.mv (.s 0))]
noncomputable def F120.t3 : IR := .reg [.s (.mv (.t (.of 9))), .q (.of 13) (.bin .neq .int (.s 0) (.c (I 0)))]
noncomputable def F120.t4 : IR := .dreg [] [(.s (.loadN 2 (.t (.of 6))), 0, []), (.s (.mv (.t (.of 9))), 1, []), (.q (.of 3) (.mv (.c .nilm)), 0, []), (.w .none none (.store 2 (.t (.of 4)) (.s 1)), 0, []), (.q (.of 5) (.mv (.s 0)), 0, [])]
noncomputable def F120.t5 : IR := .seq F120.t4 .ret
noncomputable def F120.t6 : IR := .cond (.t (.of 13)) F120.t5 .skip
noncomputable def F120.t7 : IR := .seq F120.t3 F120.t6
noncomputable def F120.t8 : IR := .reg [.s (.mv (.t (.of 1))), .s (.mv (.t (.of 2))), .w .push none (.call (.c (.fn 92 (.of 92) [])) [(.s 1), (.s 0)]), .s (.mv (.s 0)), .s (.ext 0 (.s 0)), .s (.ext 1 (.s 1)), .s (.ext 2 (.s 2)), .q (.of 10) (.mv (.s 2)), .q (.of 11) (.mv (.s 1)), .q (.of 9) (.mv (.s 0))]
noncomputable def F120.t9 : IR := .reg [.s (.mv (.t (.of 9))), .q (.of 14) (.bin .neq .int (.s 0) (.c (I 0)))]
noncomputable def F120.t10 : IR := .dreg [] [(.s (.loadN 2 (.t (.of 6))), 0, []), (.s (.mv (.t (.of 9))), 1, []), (.q (.of 3) (.mv (.c .nilm)), 0, []), (.w .none none (.store 2 (.t (.of 4)) (.s 1)), 0, []), (.q (.of 5) (.mv (.s 0)), 0, [])]
noncomputable def F120.t11 : IR := .seq F120.t10 .ret
noncomputable def F120.t12 : IR := .cond (.t (.of 14)) F120.t11 .skip
noncomputable def F120.t13 : IR := .seq F120.t9 F120.t12
noncomputable def F120.t14 : IR := .reg [.s (.mv (.t (.of 10))), .w (.loc (.of 15)) none (.range (.s 0))]
noncomputable def F120.t15 : IR := .reg [.w .push none (.next (.t (.of 15))), .q (.of 16) (.ext 0 (.s 0))]
noncomputable def F120.t16 : IR := .cond (.t (.of 16)) .skip (.exit 0)
noncomputable def F120.t17 : IR := .reg [.s (.entry (.t (.of 15))), .s (.ext 1 (.s 0)), .w (.loc (.of 12)) none (.alloc [.nils, (.bool false)]), .w .none none (.store 2 (.t (.of 12)) (.s 0))]
noncomputable def F120.t18 : IR := .reg [.s (.mv (.t (.of 7))), .s (.loadN 2 (.t (.of 12))), .w .push none (.call (.c (.fn 121 (.of 121) [])) [(.s 1), (.s 0)]), .q (.of 17) (.not (.s 0))]
noncomputable def F120.t19 : IR := .dreg [] [(.s (.loadN 2 (.t (.of 6))), 0, []), (.q (.of 3) (.mv (.c .nilm)), 0, []), (.w .none none (.store 2 (.t (.of 4)) (.s 0)), 0, []), (.q (.of 5) (.mv (.c (I 28))), 0, [])]
noncomputable def F120.t20 : IR := .seq F120.t19 .ret
noncomputable def F120.t21 : IR := .cond (.t (.of 17)) F120.t20 .skip
noncomputable def F120.t22 : IR := .seq F120.t18 F120.t21
noncomputable def F120.t23 : IR := .seq F120.t17 F120.t22
noncomputable def F120.t24 : IR := .block 1 F120.t23
noncomputable def F120.t25 : IR := .seq F120.t16 F120.t24
noncomputable def F120.t26 : IR := .seq F120.t15 F120.t25
noncomputable def F120.t27 : IR := .loop F120.t26
noncomputable def F120.t28 : IR := .block 0 F120.t27
noncomputable def F120.t29 : IR := .seq F120.t14 F120.t28
noncomputable def F120.t30 : IR := .reg [.s (.mv (.t (.of 8))), .s (.mv (.t (.of 11))), .s (.aaddr 1 2 (.t (.of 6)) (.c (I 0))), .w .none none (.store 1 (.s 0) (.s 2)), .s (.aaddr 1 2 (.t (.of 6)) (.c (I 1))), .w .none none (.store 1 (.s 0) (.s 2))]
noncomputable def F120.t31 : IR := .dreg [] [(.s (.mv (.t (.of 10))), 0, []), (.s (.loadN 2 (.t (.of 6))), 0, []), (.q (.of 3) (.mv (.s 1)), 0, []), (.w .none none (.store 2 (.t (.of 4)) (.s 0)), 0, []), (.q (.of 5) (.mv (.c (I 0))), 0, [])]
noncomputable def F120.t32 : IR := .seq F120.t31 .ret
noncomputable def F120.t33 : IR := .seq F120.t30 F120.t32
noncomputable def F120.t34 : IR := .seq F120.t29 F120.t33
noncomputable def F120.t35 : IR := .seq F120.t13 F120.t34
noncomputable def F120.t36 : IR := .seq F120.t8 F120.t35
noncomputable def F120.t37 : IR := .seq F120.t7 F120.t36
noncomputable def F120.t38 : IR := .seq F120.t2 F120.t37
noncomputable def F120.t39 : IR := .seq F120.t1 F120.t38
noncomputable def F120.t40 : IR := .seq F120.t0 F120.t39
theorem F120.t0_s : IR.run F120.t0 C N O K (F120.fr a c f i d g o q s u b e l p v w y z) h nx =
 yG [.nils, .nils] h nx fun v1 h2 n3 => K (F120.fr a c f .nilm v1 (I 0) o q s u b e l p v w y z) h2 n3 := by kernel_rfl
theorem F120.t1_s : IR.run F120.t1 C N O K (F120.fr a c f i d g o q s u b e l p v w y z) h nx =
 yG [.nils, .nils] h nx fun v1 h2 n3 => K (F120.fr a c f i d g v1 q s u b e l p v w y z) h2 n3 := by kernel_rfl
theorem F120.t2_s : IR.run F120.t2 C N O K (F120.fr a c f i d g o q s u b e l p v w y z) h nx =
 C.fn 92 (.of 92) [a, f] h nx fun v1 h2 n3 => sExt 0 v1 fun v4 => sExt 1 v1 fun v5 => sExt 2 v1 fun v6 => K (F120.fr a c f i d g o v4 v5 v6 b e l p v w y z) h2 n3 := by kernel_rfl
theorem F120.t3_s : IR.run F120.t3 C N O K (F120.fr a c f i d g o q s u b e l p v w y z) h nx =
 sBin .neq .int u (I 0) fun v1 => K (F120.fr a c f i d g o q s u b e l v1 v w y z) h nx := by kernel_rfl
theorem F120.t4_s : IR.run F120.t4 C N O K (F120.fr a c f i d g o q s u b e l p v w y z) h nx =
 zH 2 o h fun v1 => zN 2 d v1 h nx fun v2 h3 n4 => zG u u (K (F120.fr a c f .nilm d u o q s u b e l p v w y z) h3 n4) := by kernel_rfl
theorem F120.v13 : Arg.ev (.t (.of 13)) ⟨(F120.fr a c f i d g o q s u b e l p v w y z), []⟩ = p := by kernel_rfl
theorem F120.t8_s : IR.run F120.t8 C N O K (F120.fr a c f i d g o q s u b e l p v w y z) h nx =
 C.fn 92 (.of 92) [c, f] h nx fun v1 h2 n3 => sExt 0 v1 fun v4 => sExt 1 v1 fun v5 => sExt 2 v1 fun v6 => K (F120.fr a c f i d g o q s v6 v4 v5 l p v w y z) h2 n3 := by kernel_rfl
theorem F120.t9_s : IR.run F120.t9 C N O K (F120.fr a c f i d g o q s u b e l p v w y z) h nx =
 sBin .neq .int u (I 0) fun v1 => K (F120.fr a c f i d g o q s u b e l p v1 w y z) h nx := by kernel_rfl
theorem F120.t10_s : IR.run F120.t10 C N O K (F120.fr a c f i d g o q s u b e l p v w y z) h nx =
 zH 2 o h fun v1 => zN 2 d v1 h nx fun v2 h3 n4 => zG u u (K (F120.fr a c f .nilm d u o q s u b e l p v w y z) h3 n4) := by kernel_rfl
theorem F120.v14 : Arg.ev (.t (.of 14)) ⟨(F120.fr a c f i d g o q s u b e l p v w y z), []⟩ = v := by kernel_rfl
theorem F120.t14_s : IR.run F120.t14 C N O K (F120.fr a c f i d g o q s u b e l p v w y z) h nx =
 sRange b h nx fun v1 h2 n3 => K (F120.fr a c f i d g o q s u b e l p v v1 y z) h2 n3 := by kernel_rfl
theorem F120.t15_s : IR.run F120.t15 C N O K (F120.fr a c f i d g o q s u b e l p v w y z) h nx =
 sNext C w h nx fun v1 h2 n3 => sExt 0 v1 fun v4 => K (F120.fr a c f i d g o q s u b e l p v w v4 z) h2 n3 := by kernel_rfl
theorem F120.v16 : Arg.ev (.t (.of 16)) ⟨(F120.fr a c f i d g o q s u b e l p v w y z), []⟩ = y := by kernel_rfl
theorem F120.t17_s : IR.run F120.t17 C N O K (F120.fr a c f i d g o q s u b e l p v w y z) h nx =
 sEntry w h fun v1 => sExt 1 v1 fun v2 => yG [.nils, (.bool false)] h nx fun v3 h4 n5 => zN 2 v3 v2 h4 n5 fun v6 h7 n8 => K (F120.fr a c f i d g o q s u b e v3 p v w y z) h7 n8 := by kernel_rfl
theorem F120.t18_s : IR.run F120.t18 C N O K (F120.fr a c f i d g o q s u b e l p v w y z) h nx =
 zH 2 l h fun v1 => C.fn 121 (.of 121) [q, v1] h nx fun v2 h3 n4 => sNot v2 fun v5 => K (F120.fr a c f i d g o q s u b e l p v w y v5) h3 n4 := by kernel_rfl
theorem F120.t19_s : IR.run F120.t19 C N O K (F120.fr a c f i d g o q s u b e l p v w y z) h nx =
 zH 2 o h fun v1 => zN 2 d v1 h nx fun v2 h3 n4 => K (F120.fr a c f .nilm d (I 28) o q s u b e l p v w y z) h3 n4 := by kernel_rfl
theorem F120.v17 : Arg.ev (.t (.of 17)) ⟨(F120.fr a c f i d g o q s u b e l p v w y z), []⟩ = z := by kernel_rfl
theorem F120.t27_L (Inv : Nat → T Blk → Pa → Prop) {m : Nat} (hm : m < N) (hi : Inv m h nx)
  (step : ∀ (m : Nat) (z3 z5 zC zS zT : AV) (h : T Blk) (nx : Pa) (R : Ks Prop), Inv m h nx → (∀ (m' : Nat) (w3 w5 wC wL wM : AV) (h' : T Blk) (nx' : Pa), m' < m → Inv m' h' nx' → R (F120.fr a c f w3 d w5 o q s u b e wC p v w wL wM) h' nx' = .ok True) → IR.run F120.t26 C N O R (F120.fr a c f z3 d z5 o q s u b e zC p v w zS zT) h nx = .ok True) :
  IR.run F120.t27 C N O K (F120.fr a c f i d g o q s u b e l p v w y z) h nx = .ok True := by
 rw [F120.t27]
 refine yP (fun m tm h nx => ∃ z3 z5 zC zS zT, tm = (F120.fr a c f z3 d z5 o q s u b e zC p v w zS zT) ∧ Inv m h nx) ?_ hm ⟨_, _, _, _, _, rfl, hi⟩
 rintro m tm h nx R ⟨z3, z5, zC, zS, zT, rfl, hi⟩ hR
 exact step m z3 z5 zC zS zT h nx R hi fun m' w3 w5 wC wL wM h' nx' hlt hi' => hR m' _ h' nx' hlt ⟨_, _, _, _, _, rfl, hi'⟩
theorem F120.t30_s : IR.run F120.t30 C N O K (F120.fr a c f i d g o q s u b e l p v w y z) h nx =
 vO 1 2 o (I 0) fun v1 => zN 1 v1 s h nx fun v2 h3 n4 => vO 1 2 o (I 1) fun v5 => zN 1 v5 e h3 n4 fun v6 h7 n8 => K (F120.fr a c f i d g o q s u b e l p v w y z) h7 n8 := by kernel_rfl
theorem F120.t31_s : IR.run F120.t31 C N O K (F120.fr a c f i d g o q s u b e l p v w y z) h nx =
 zH 2 o h fun v1 => zN 2 d v1 h nx fun v2 h3 n4 => K (F120.fr a c f b d (I 0) o q s u b e l p v w y z) h3 n4 := by kernel_rfl
theorem F120.tab : T.get none (.of 120) tbl = some F120 := by kernel_rfl
theorem F120.bind (k : T AV → OP) : yI F120.params [a0, a1, a2] F120.init k = k (F120.fr a0 a1 a2 .undef .undef .undef .undef .undef .undef .undef .undef .undef .undef .undef .undef .undef .undef .undef) := by kernel_rfl
theorem F120.body_eq : F120.body = F120.t40 := by kernel_rfl
theorem F120.go : zY tbl N C (.of 120) [a0, a1, a2] h nx K0 = IR.run F120.t40 C N (fnO F120.res K0) (retK F120.res K0) (F120.fr a0 a1 a2 .undef .undef .undef .undef .undef .undef .undef .undef .undef .undef .undef .undef .undef .undef .undef) h nx := by
 rw [zM F120.tab, F120.bind, F120.body_eq]; kernel_rfl
theorem F120.ret : retK F120.res K0 (F120.fr a c f i d g o q s u b e l p v w y z) h nx = zH 2 d h fun v1 => K0 (.tup [i, v1, g]) h nx := by kernel_rfl
noncomputable def F27.t0 : IR := .reg [.q (.of 2) (.mv (.c .nils)), .q (.of 3) (.mv (.c (I 0)))]
noncomputable def F27.t1 : IR := .reg [.s (.mv (.t (.of 1))), .w .push none (.call (.c (.fn 95 (.of 95) [])) [(.s 0)]), .s (.mv (.t (.of 0))), .s (.len (.s 0)), .s (.bin .gtr .int (.s 0) (.c (I 256))), .w .push none (.call (.c (.fn 96 (.of 96) [])) [(.s 0), (.c (I 5))]), .w .push none (.bslice 1 2 [(I 0)] [(0, 1, (.s 4)), (1, 1, (.s 0))]), .w .push none (.call (.c (.fn 94 (.of 94) [])) [(.s 0)]), .q (.of 4) (.mv (.s 0))]
noncomputable def F27.t2 : IR := .reg [.s (.mv (.t (.of 4))), .q (.of 8) (.bin .neq .int (.s 0) (.c (I 0)))]
noncomputable def F27.t3 : IR := .reg [.s (.mv (.t (.of 4))), .q (.of 2) (.mv (.c .nils)), .q (.of 3) (.mv (.s 0))]
noncomputable def F27.t4 : IR := .seq F27.t3 .ret
noncomputable def F27.t5 : IR := .cond (.t (.of 8)) F27.t4 .skip
noncomputable def F27.t6 : IR := .seq F27.t2 F27.t5
noncomputable def F27.t7 : IR := .seq F27.t1 F27.t6
noncomputable def F27.t8 : IR := .reg [.s (.mv (.t (.of 0))), .s (.mv (.t (.of 1))), .w .push none (.call (.c (.fn 97 (.of 97) [])) [(.s 1), (.s 0)]), .q (.of 5) (.mv (.s 0))]
noncomputable def F27.t9 : IR := .reg [.s (.mv (.t (.of 5))), .q (.of 9) (.bin .neq .int (.s 0) (.c (I 0)))]
noncomputable def F27.t10 : IR := .reg [.s (.mv (.t (.of 5))), .q (.of 2) (.mv (.c .nils)), .q (.of 3) (.mv (.s 0))]
noncomputable def F27.t11 : IR := .seq F27.t10 .ret
noncomputable def F27.t12 : IR := .cond (.t (.of 9)) F27.t11 .skip
noncomputable def F27.t13 : IR := .seq F27.t9 F27.t12
noncomputable def F27.t14 : IR := .seq F27.t8 F27.t13
noncomputable def F27.t15 : IR := .reg [.s (.mv (.t (.of 0))), .s (.mv (.t (.of 1))), .w .push none (.call (.c (.fn 98 (.of 98) [])) [(.s 1), (.s 0), (.c (I 1536))]), .s (.mv (.s 0)), .s (.ext 0 (.s 0)), .s (.ext 1 (.s 1)), .s (.ext 2 (.s 2)), .q (.of 6) (.mv (.s 2)), .s (.mv (.s 1)), .q (.of 7) (.mv (.s 1))]
noncomputable def F27.t16 : IR := .reg [.s (.mv (.t (.of 7))), .q (.of 10) (.not (.s 0))]
noncomputable def F27.t17 : IR := .reg [.q (.of 2) (.mv (.c .nils)), .q (.of 3) (.mv (.c (I 20)))]
noncomputable def F27.t18 : IR := .seq F27.t17 .ret
noncomputable def F27.t19 : IR := .cond (.t (.of 10)) F27.t18 .skip
noncomputable def F27.t20 : IR := .seq F27.t16 F27.t19
noncomputable def F27.t21 : IR := .reg [.s (.mv (.t (.of 6))), .w .push none (.call (.c (.fn 99 (.of 99) [])) [(.s 0)]), .q (.of 2) (.mv (.s 0)), .q (.of 3) (.mv (.c (I 0)))]
noncomputable def F27.t22 : IR := .seq F27.t21 .ret
noncomputable def F27.t23 : IR := .seq F27.t20 F27.t22
noncomputable def F27.t24 : IR := .seq F27.t15 F27.t23
noncomputable def F27.t25 : IR := .seq F27.t14 F27.t24
noncomputable def F27.t26 : IR := .seq F27.t7 F27.t25
noncomputable def F27.t27 : IR := .seq F27.t0 F27.t26
theorem F27.t0_s : IR.run F27.t0 C N O K (F27.fr a c f i d g o q s u b) h nx =
 K (F27.fr a c .nils (I 0) d g o q s u b) h nx := by kernel_rfl
theorem F27.t1_s : IR.run F27.t1 C N O K (F27.fr a c f i d g o q s u b) h nx =
 C.fn 95 (.of 95) [c] h nx fun v1 h2 n3 => sLen a fun v4 => sBin .gtr .int v4 (I 256) fun v5 => C.fn 96 (.of 96) [v5, (I 5)] h2 n3 fun v6 h7 n8 => yY 1 2 [(I 0)] [(0, 1, v1), (1, 1, v6)] h7 n8 fun v9 hU nU => C.fn 94 (.of 94) [v9] hU nU fun vC h13 n14 => K (F27.fr a c f i vC g o q s u b) h13 n14 := by kernel_rfl
theorem F27.t2_s : IR.run F27.t2 C N O K (F27.fr a c f i d g o q s u b) h nx =
 sBin .neq .int d (I 0) fun v1 => K (F27.fr a c f i d g o q v1 u b) h nx := by kernel_rfl
theorem F27.t3_s : IR.run F27.t3 C N O K (F27.fr a c f i d g o q s u b) h nx =
 K (F27.fr a c .nils d d g o q s u b) h nx := by kernel_rfl
theorem F27.v8 : Arg.ev (.t (.of 8)) ⟨(F27.fr a c f i d g o q s u b), []⟩ = s := by kernel_rfl
theorem F27.t8_s : IR.run F27.t8 C N O K (F27.fr a c f i d g o q s u b) h nx =
 C.fn 97 (.of 97) [a, c] h nx fun v1 h2 n3 => K (F27.fr a c f i d v1 o q s u b) h2 n3 := by kernel_rfl
theorem F27.t9_s : IR.run F27.t9 C N O K (F27.fr a c f i d g o q s u b) h nx =
 sBin .neq .int g (I 0) fun v1 => K (F27.fr a c f i d g o q s v1 b) h nx := by kernel_rfl
theorem F27.t10_s : IR.run F27.t10 C N O K (F27.fr a c f i d g o q s u b) h nx =
 K (F27.fr a c .nils g d g o q s u b) h nx := by kernel_rfl
theorem F27.v9 : Arg.ev (.t (.of 9)) ⟨(F27.fr a c f i d g o q s u b), []⟩ = u := by kernel_rfl
theorem F27.t15_s : IR.run F27.t15 C N O K (F27.fr a c f i d g o q s u b) h nx =
 C.fn 98 (.of 98) [a, c, (I 1536)] h nx fun v1 h2 n3 => sExt 0 v1 fun v4 => sExt 1 v1 fun v5 => sExt 2 v1 fun v6 => K (F27.fr a c f i d g v4 v6 s u b) h2 n3 := by kernel_rfl
theorem F27.t16_s : IR.run F27.t16 C N O K (F27.fr a c f i d g o q s u b) h nx =
 sNot q fun v1 => K (F27.fr a c f i d g o q s u v1) h nx := by kernel_rfl
theorem F27.t17_s : IR.run F27.t17 C N O K (F27.fr a c f i d g o q s u b) h nx =
 K (F27.fr a c .nils (I 20) d g o q s u b) h nx := by kernel_rfl
theorem F27.v10 : Arg.ev (.t (.of 10)) ⟨(F27.fr a c f i d g o q s u b), []⟩ = b := by kernel_rfl
theorem F27.t21_s : IR.run F27.t21 C N O K (F27.fr a c f i d g o q s u b) h nx =
 C.fn 99 (.of 99) [o] h nx fun v1 h2 n3 => K (F27.fr a c v1 (I 0) d g o q s u b) h2 n3 := by kernel_rfl
theorem F27.tab : T.get none (.of 27) tbl = some F27 := by kernel_rfl
theorem F27.bind (k : T AV → OP) : yI F27.params [a0, a1] F27.init k = k (F27.fr a0 a1 .undef .undef .undef .undef .undef .undef .undef .undef .undef) := by kernel_rfl
theorem F27.body_eq : F27.body = F27.t27 := by kernel_rfl
theorem F27.go : zY tbl N C (.of 27) [a0, a1] h nx K0 = IR.run F27.t27 C N (fnO F27.res K0) (retK F27.res K0) (F27.fr a0 a1 .undef .undef .undef .undef .undef .undef .undef .undef .undef) h nx := by
 rw [zM F27.tab, F27.bind, F27.body_eq]; kernel_rfl
theorem F27.ret : retK F27.res K0 (F27.fr a c f i d g o q s u b) h nx = K0 (.tup [f, i]) h nx := by kernel_rfl
end
end Go.Ev
namespace Go.Ev
open Go Go.Proofs
set_option maxRecDepth 100000
variable {N : Nat} {C : Calls Prop} {K0 : Kw Prop} {K R : Ks Prop} {h : T Blk} {nx : Pa} {a c f i d g o q s u b e a0 : AV}
theorem F99.g1_eq (X2 : IR) (O : Outs Prop) (t : T AV) : IR.run (F99.g1 X2) C N O K t h nx = IR.run X2 C N (O.blk 0 K) K t h nx := by kernel_rfl
theorem F99.g7_eq (X8 : IR) (O : Outs Prop) (t : T AV) : IR.run (F99.g7 X8) C N O K t h nx = IR.run X8 C N (O.blk 2 K) K t h nx := by kernel_rfl
theorem F99.tab : T.get none (.of 99) tbl = some F99 := by kernel_rfl
theorem F99.go : zY tbl N C (.of 99) [a0] h nx K0 =
 sRange a0 h nx fun v1 h2 n3 => IR.run F99.b1 C N (fnO F99.res K0) (IR.run F99.b6 C N (fnO F99.res K0) (retK F99.res K0)) (F99.fr a0 .nils .nils .undef .undef .undef v1 .undef .undef .undef .undef .undef) h2 n3 := by
 rw [zM F99.tab]; kernel_rfl
theorem F99.L1 (Inv : Nat → AV → T Blk → Pa → Prop) {m : Nat} (hm : m < N) (hi : Inv m f h nx)
  (step : ∀ (m : Nat) (z2 z3 z7 : AV) (h : T Blk) (nx : Pa) (R : Ks Prop), Inv m z2 h nx → (∀ (m' : Nat) (w2 w3 w7 : AV) (h' : T Blk) (nx' : Pa), m' < m → Inv m' w2 h' nx' → R (F99.fr a c w2 w3 d g o w7 s u b e) h' nx' = .ok True) →
   (sNext C o h nx fun v1 h2 n3 => sExt 0 v1 fun v4 => yF v4 (sEntry o h2 fun v5 => sExt 1 v5 fun v6 => yG [.nils, (.bool false)] h2 n3 fun v7 h8 n9 => zN 2 v7 v6 h8 n9 fun vA hG nG => zH 2 v7 hG fun vD => yY 2 1 [.nils, (.bool false)] [(0, 2, vD)] hG nG fun vE hA nA => u5 C 2 32 z2 vE hA nA fun vH h18 n19 => R (F99.fr a c vH v7 d g o v4 s u b e) h18 n19) (K (F99.fr a c z2 z3 d g o v4 s u b e) h2 n3)) = .ok True) :
  IR.run F99.b1 C N (fnO F99.res K0) K (F99.fr a c f i d g o q s u b e) h nx = .ok True := by
 rw [F99.b1, F99.g1_eq, F99.b2]
 refine yP (fun m tm h nx => ∃ z2 z3 z7, tm = (F99.fr a c z2 z3 d g o z7 s u b e) ∧ Inv m z2 h nx) ?_ hm ⟨_, _, _, rfl, hi⟩
 rintro m tm h nx R ⟨z2, z3, z7, rfl, hi⟩ hR
 refine Eq.trans ?_ (step m z2 z3 z7 h nx R hi fun m' w2 w3 w7 h' nx' hlt hi' => hR m' _ h' nx' hlt ⟨_, _, _, rfl, hi'⟩)
 kernel_rfl
theorem F99.k6 : IR.run F99.b6 C N (fnO F99.res K0) K (F99.fr a c f i d g o q s u b e) h nx =
 C.fn 164 (.of 164) [f, (.fn 162 (.of 162) [])] h nx fun v1 h2 n3 => sLen f fun v4 => IR.run F99.b7 C N (fnO F99.res K0) (IR.run F99.b14 C N (fnO F99.res K0) K) (F99.fr a c f i .nils g o q f v4 (I 0) e) h2 n3 := by kernel_rfl
theorem F99.L7 (Inv : Nat → AV → AV → T Blk → Pa → Prop) {m : Nat} (hm : m < N) (hi : Inv m d b h nx)
  (step : ∀ (m : Nat) (z4 z5 zA zB : AV) (h : T Blk) (nx : Pa) (R : Ks Prop), Inv m z4 zA h nx → (∀ (m' : Nat) (w4 w5 wA wB : AV) (h' : T Blk) (nx' : Pa), m' < m → Inv m' w4 wA h' nx' → R (F99.fr a c f i w4 w5 o q s u wA wB) h' nx' = .ok True) →
   (sBin .lss .int zA u fun v1 => yF v1 (zO 2 s zA fun v2 => zH 2 v2 h fun v3 => yG [.nils, (.bool false)] h nx fun v4 h5 n6 => zN 2 v4 v3 h5 n6 fun v7 h8 n9 => zH 2 v4 h8 fun vA => yY 2 1 [.nils, (.bool false)] [(0, 2, vA)] h8 n9 fun vB hB nB => u5 C 2 32 z4 vB hB nB fun vE hA nA => sBin .add .int zA (I 1) fun vH => R (F99.fr a c f i vE v4 o q s u vH v1) hA nA) (K (F99.fr a c f i z4 z5 o q s u zA v1) h nx)) = .ok True) :
  IR.run F99.b7 C N (fnO F99.res K0) K (F99.fr a c f i d g o q s u b e) h nx = .ok True := by
 rw [F99.b7, F99.g7_eq, F99.b8]
 refine yP (fun m tm h nx => ∃ z4 z5 zA zB, tm = (F99.fr a c f i z4 z5 o q s u zA zB) ∧ Inv m z4 zA h nx) ?_ hm ⟨_, _, _, _, rfl, hi⟩
 rintro m tm h nx R ⟨z4, z5, zA, zB, rfl, hi⟩ hR
 refine Eq.trans ?_ (step m z4 z5 zA zB h nx R hi fun m' w4 w5 wA wB h' nx' hlt hi' => hR m' _ h' nx' hlt ⟨_, _, _, _, rfl, hi'⟩)
 kernel_rfl
theorem F99.k14 : IR.run F99.b14 C N (fnO F99.res K0) K (F99.fr a c f i d g o q s u b e) h nx =
 K0 d h nx := by kernel_rfl
end Go.Ev
namespace Go.Ev
open Go Go.Proofs
set_option maxRecDepth 100000
section
variable {N : Nat} {C : Calls Prop} {K0 : Kw Prop} {K : Ks Prop} {h : T Blk} {nx : Pa} {a c f i d g o q s u b e l p v w y z B A a0 a1 a2 : AV} {O : Outs Prop} {tm : T AV} {Kt : KTm} {r : List RO} {s0 s1 s2 s3 s4 s5 s6 s7 s8 s9 s10 s11 s12 s13 s14 s15 s16 s17 s18 s19 s20 s21 s22 s23 s24 s25 s26 s27 s28 s29 s30 s31 s32 s33 s34 s35 s36 s37 s38 s39 : AV}
noncomputable def F39.t0 : IR := .reg [.w (.loc (.of 3)) none (.box (.t (.of 1))), .q (.of 4) (.mv (.c .nils)), .q (.of 5) (.mv (.c (I 0)))]
noncomputable def F39.t1 : IR := .reg [.s (.mv (.t (.of 0))), .s (.load (.t (.of 3))), .s (.mv (.t (.of 2))), .w .push none (.call (.c (.fn 120 (.of 120) [])) [(.s 2), (.s 1), (.s 0)]), .s (.mv (.s 0)), .s (.ext 0 (.s 0)), .s (.ext 1 (.s 1)), .s (.ext 2 (.s 2)), .w .push none (.alloc [.nils, .nils]), .s (.mv (.s 3)), .w .none none (.store 2 (.s 1) (.s 3)), .q (.of 6) (.mv (.s 2))]
noncomputable def F39.t2 : IR := .reg [.s (.mv (.t (.of 6))), .q (.of 12) (.bin .neq .int (.s 0) (.c (I 0)))]
noncomputable def F39.t3 : IR := .reg [.s (.mv (.t (.of 6))), .q (.of 4) (.mv (.c .nils)), .q (.of 5) (.mv (.s 0))]
noncomputable def F39.t4 : IR := .seq F39.t3 .ret
noncomputable def F39.t5 : IR := .cond (.t (.of 12)) F39.t4 .skip
noncomputable def F39.t6 : IR := .seq F39.t2 F39.t5
noncomputable def F39.t7 : IR := .seq F39.t1 F39.t6
noncomputable def F39.t8 : IR := .reg [.w .push none .mkmap, .w (.loc (.of 7)) none (.alloc [.nilm]), .w .none none (.store 1 (.t (.of 7)) (.s 0))]
noncomputable def F39.t9 : IR := .reg [.w (.loc (.of 8)) none (.alloc [.nils])]
noncomputable def F39.t10 : IR := .reg [.s (.mv (.t (.of 0))), .w (.loc (.of 13)) none (.call (.c (.fn 90 (.of 90) [])) [(.s 0)])]
noncomputable def F39.t11 : IR := .reg [.w (.loc (.of 9)) none (.alloc [.nils, (.bool false)]), .w .none none (.store 2 (.t (.of 9)) (.t (.of 15)))]
noncomputable def F39.t12 : IR := .reg [.s (.load (.t (.of 7))), .s (.loadN 2 (.t (.of 9))), .w (.loc (.of 16)) none (.call (.c (.fn 121 (.of 121) [])) [(.s 1), (.s 0)])]
noncomputable def F39.t13 : IR := .cond (.t (.of 16)) (.exit 1) .skip
noncomputable def F39.t14 : IR := .seq F39.t12 F39.t13
noncomputable def F39.t15 : IR := .reg [.s (.load (.t (.of 3))), .w (.loc (.of 17)) none (.call (.c (.fn 90 (.of 90) [])) [(.s 0)])]
noncomputable def F39.t16 : IR := .reg [.w (.loc (.of 10)) none (.alloc [.nils, (.bool false)]), .w .none none (.store 2 (.t (.of 10)) (.t (.of 19)))]
noncomputable def F39.t17 : IR := .reg [.s (.loadN 2 (.t (.of 9))), .s (.loadN 2 (.t (.of 10))), .w .push none (.call (.c (.fn 122 (.of 122) [])) [(.s 1), (.s 0)]), .w (.loc (.of 11)) none (.alloc [.nils, (.bool false)]), .w .none none (.store 2 (.t (.of 11)) (.s 0))]
noncomputable def F39.t18 : IR := .dreg [] [(.s (.load (.t (.of 7))), 1, []), (.s (.loadN 2 (.t (.of 11))), 0, []), (.s (.loadN 2 (.t (.of 11))), 1, []), (.w .push none (.call (.c (.fn 123 (.of 123) [])) [(.s 1)]), 0, []), (.w .none none (.mapup .str (.s 3) (.s 0) (.s 1)), 0, [])]
noncomputable def F39.t19 : IR := .seq F39.t17 F39.t18
noncomputable def F39.t20 : IR := .block 3 F39.t19
noncomputable def F39.t21 : IR := .rf (.t (.of 17)) [(.of 18), (.of 19)] F39.t16 F39.t20
noncomputable def F39.t22 : IR := .block 2 F39.t21
noncomputable def F39.t23 : IR := .seq F39.t15 F39.t22
noncomputable def F39.t24 : IR := .dreg [] [(.s (.load (.t (.of 8))), 2, []), (.s (.faddr 0 (.t (.of 9))), 0, []), (.s (.load (.s 0)), 0, []), (.s (.faddr 1 (.t (.of 9))), 1, []), (.s (.load (.s 0)), 1, []), (.w .push none (.call (.c (.fn 106 (.of 106) [])) [(.s 2)]), 0, []), (.s (.build [.nils, (.bool false)] [(0, 1, (.s 0)), (1, 1, (.s 1))]), 0, []), (.w .push none (.bslice 2 1 [.nils, (.bool false)] [(0, 2, (.s 0))]), 0, []), (.w .push none (.appq 2 32 (.s 7) (.s 0)), 0, []), (.w .none none (.store 1 (.t (.of 8)) (.s 0)), 0, [])]
noncomputable def F39.t25 : IR := .seq F39.t23 F39.t24
noncomputable def F39.t26 : IR := .seq F39.t14 F39.t25
noncomputable def F39.t27 : IR := .block 1 F39.t26
noncomputable def F39.t28 : IR := .rf (.t (.of 13)) [(.of 14), (.of 15)] F39.t11 F39.t27
noncomputable def F39.t29 : IR := .block 0 F39.t28
noncomputable def F39.t30 : IR := .seq F39.t10 F39.t29
noncomputable def F39.t31 : IR := .reg [.s (.load (.t (.of 8))), .q (.of 4) (.mv (.s 0)), .q (.of 5) (.mv (.c (I 0)))]
noncomputable def F39.t32 : IR := .seq F39.t31 .ret
noncomputable def F39.t33 : IR := .seq F39.t30 F39.t32
noncomputable def F39.t34 : IR := .seq F39.t9 F39.t33
noncomputable def F39.t35 : IR := .seq F39.t8 F39.t34
noncomputable def F39.t36 : IR := .seq F39.t7 F39.t35
noncomputable def F39.t37 : IR := .seq F39.t0 F39.t36
theorem F39.t0_s : IR.run F39.t0 C N O K (F39.fr a c f i d g o q s u b e l p v w y z B A) h nx =
 sBox c h nx fun v1 h2 n3 => K (F39.fr a c f v1 .nils (I 0) o q s u b e l p v w y z B A) h2 n3 := by kernel_rfl
theorem F39.t1_s : IR.run F39.t1 C N O K (F39.fr a c f i d g o q s u b e l p v w y z B A) h nx =
 zF i h fun v1 => C.fn 120 (.of 120) [a, v1, f] h nx fun v2 h3 n4 => sExt 0 v2 fun v5 => sExt 1 v2 fun v6 => sExt 2 v2 fun v7 => yG [.nils, .nils] h3 n4 fun v8 h9 nH => zN 2 v8 v6 h9 nH fun vB hB nB => K (F39.fr a c f i d g v7 q s u b e l p v w y z B A) hB nB := by kernel_rfl
theorem F39.t2_s : IR.run F39.t2 C N O K (F39.fr a c f i d g o q s u b e l p v w y z B A) h nx =
 sBin .neq .int o (I 0) fun v1 => K (F39.fr a c f i d g o q s u b e v1 p v w y z B A) h nx := by kernel_rfl
theorem F39.v12 : Arg.ev (.t (.of 12)) ⟨(F39.fr a c f i d g o q s u b e l p v w y z B A), []⟩ = l := by kernel_rfl
theorem F39.t8_s : IR.run F39.t8 C N O K (F39.fr a c f i d g o q s u b e l p v w y z B A) h nx =
 sMkmap h nx fun v1 h2 n3 => yG [.nilm] h2 n3 fun v4 h5 n6 => zN 1 v4 v1 h5 n6 fun v7 h8 n9 => K (F39.fr a c f i d g o v4 s u b e l p v w y z B A) h8 n9 := by kernel_rfl
theorem F39.t9_s : IR.run F39.t9 C N O K (F39.fr a c f i d g o q s u b e l p v w y z B A) h nx =
 yG [.nils] h nx fun v1 h2 n3 => K (F39.fr a c f i d g o q v1 u b e l p v w y z B A) h2 n3 := by kernel_rfl
theorem F39.t10_s : IR.run F39.t10 C N O K (F39.fr a c f i d g o q s u b e l p v w y z B A) h nx =
 C.fn 90 (.of 90) [a] h nx fun v1 h2 n3 => K (F39.fr a c f i d g o q s u b e l v1 v w y z B A) h2 n3 := by kernel_rfl
theorem F39.t11_s : IR.run F39.t11 C N O K (F39.fr a c f i d g o q s u b e l p v w y z B A) h nx =
 yG [.nils, (.bool false)] h nx fun v1 h2 n3 => zN 2 v1 w h2 n3 fun v4 h5 n6 => K (F39.fr a c f i d g o q s v1 b e l p v w y z B A) h5 n6 := by kernel_rfl
theorem F39.t12_s : IR.run F39.t12 C N O K (F39.fr a c f i d g o q s u b e l p v w y z B A) h nx =
 zF q h fun v1 => zH 2 u h fun v2 => C.fn 121 (.of 121) [v1, v2] h nx fun v3 h4 n5 => K (F39.fr a c f i d g o q s u b e l p v w v3 z B A) h4 n5 := by kernel_rfl
theorem F39.v16 : Arg.ev (.t (.of 16)) ⟨(F39.fr a c f i d g o q s u b e l p v w y z B A), []⟩ = y := by kernel_rfl
theorem F39.t15_s : IR.run F39.t15 C N O K (F39.fr a c f i d g o q s u b e l p v w y z B A) h nx =
 zF i h fun v1 => C.fn 90 (.of 90) [v1] h nx fun v2 h3 n4 => K (F39.fr a c f i d g o q s u b e l p v w y v2 B A) h3 n4 := by kernel_rfl
theorem F39.t16_s : IR.run F39.t16 C N O K (F39.fr a c f i d g o q s u b e l p v w y z B A) h nx =
 yG [.nils, (.bool false)] h nx fun v1 h2 n3 => zN 2 v1 A h2 n3 fun v4 h5 n6 => K (F39.fr a c f i d g o q s u v1 e l p v w y z B A) h5 n6 := by kernel_rfl
theorem F39.t17_s : IR.run F39.t17 C N O K (F39.fr a c f i d g o q s u b e l p v w y z B A) h nx =
 zH 2 u h fun v1 => zH 2 b h fun v2 => C.fn 122 (.of 122) [v1, v2] h nx fun v3 h4 n5 => yG [.nils, (.bool false)] h4 n5 fun v6 h7 n8 => zN 2 v6 v3 h7 n8 fun v9 hU nU => K (F39.fr a c f i d g o q s u b v6 l p v w y z B A) hU nU := by kernel_rfl
theorem F39.t18_s : IR.run F39.t18 C N O K (F39.fr a c f i d g o q s u b e l p v w y z B A) h nx =
 zF q h fun v1 => zH 2 e h fun v2 => zH 2 e h fun v3 => C.fn 123 (.of 123) [v2] h nx fun v4 h5 n6 => (zH 2 e h5 fun vB => zG vB v3 ((zF q h5 fun vA => zG vA v1 (pE .str v1 v4 v3 h5 n6 fun v7 h8 n9 => K (F39.fr a c f i d g o q s u b e l p v w y z B A) h8 n9)))) := by kernel_rfl
theorem F39.t21_f : Arg.ev (.t (.of 17)) ⟨(F39.fr a c f i d g o q s u b e l p v w y z B A), []⟩ = z := by kernel_rfl
theorem F39.t21_b {z0 z1 : AV} (k : T AV → OP) : yI [(.of 18), (.of 19)] [z0, z1] (F39.fr a c f i d g o q s u b e l p v w y z B A) k = k (F39.fr a c f i d g o q s u b e l p v w y z z0 z1) := by kernel_rfl
theorem F39.t24_s : IR.run F39.t24 C N O K (F39.fr a c f i d g o q s u b e l p v w y z B A) h nx =
 zF s h fun v1 => zQ 0 u fun v2 => zF v2 h fun v3 => zQ 1 u fun v4 => zF v4 h fun v5 => C.fn 106 (.of 106) [v3] h nx fun v6 h7 n8 => (zF v4 h7 fun vM => zG vM v5 ((zQ 1 u fun vL => zG vL v4 ((zF s h7 fun vK => zG vK v1 (uR [.nils, (.bool false)] [(0, 1, v6), (1, 1, v5)] fun v9 => yY 2 1 [.nils, (.bool false)] [(0, 2, v9)] h7 n8 fun vA hG nG => (zF s hG fun vJ => zG vJ v1 (u5 C 2 32 v1 vA hG nG fun vD hH nI => zN 1 s vD hH nI fun vG hF nF => K (F39.fr a c f i d g o q s u b e l p v w y z B A) hF nF)))))))) := by kernel_rfl
theorem F39.t28_f : Arg.ev (.t (.of 13)) ⟨(F39.fr a c f i d g o q s u b e l p v w y z B A), []⟩ = p := by kernel_rfl
theorem F39.t28_b {z0 z1 : AV} (k : T AV → OP) : yI [(.of 14), (.of 15)] [z0, z1] (F39.fr a c f i d g o q s u b e l p v w y z B A) k = k (F39.fr a c f i d g o q s u b e l p z0 z1 y z B A) := by kernel_rfl
theorem F39.t31_s : IR.run F39.t31 C N O K (F39.fr a c f i d g o q s u b e l p v w y z B A) h nx =
 zF s h fun v1 => K (F39.fr a c f i v1 (I 0) o q s u b e l p v w y z B A) h nx := by kernel_rfl
theorem F39.tab : T.get none (.of 39) tbl = some F39 := by kernel_rfl
theorem F39.bind (k : T AV → OP) : yI F39.params [a0, a1, a2] F39.init k = k (F39.fr a0 a1 a2 .undef .undef .undef .undef .undef .undef .undef .undef .undef .undef .undef .undef .undef .undef .undef .undef .undef) := by kernel_rfl
theorem F39.body_eq : F39.body = F39.t37 := by kernel_rfl
theorem F39.go : zY tbl N C (.of 39) [a0, a1, a2] h nx K0 = IR.run F39.t37 C N (fnO F39.res K0) (retK F39.res K0) (F39.fr a0 a1 a2 .undef .undef .undef .undef .undef .undef .undef .undef .undef .undef .undef .undef .undef .undef .undef .undef .undef) h nx := by
 rw [zM F39.tab, F39.bind, F39.body_eq]; kernel_rfl
theorem F39.ret : retK F39.res K0 (F39.fr a c f i d g o q s u b e l p v w y z B A) h nx = K0 (.tup [d, g]) h nx := by kernel_rfl
noncomputable def F40.t0 : IR := .reg [.q (.of 3) (.mv (.c (.bool false))), .q (.of 4) (.mv (.c (I 0)))]
noncomputable def F40.t1 : IR := .reg [.s (.mv (.t (.of 0))), .s (.mv (.t (.of 1))), .s (.mv (.t (.of 2))), .w .push none (.call (.c (.fn 120 (.of 120) [])) [(.s 2), (.s 1), (.s 0)]), .s (.mv (.s 0)), .s (.ext 0 (.s 0)), .s (.ext 1 (.s 1)), .s (.ext 2 (.s 2)), .w (.loc (.of 6)) none (.alloc [.nils, .nils]), .q (.of 5) (.mv (.s 2)), .w .none none (.store 2 (.t (.of 6)) (.s 1)), .q (.of 7) (.mv (.s 0))]
noncomputable def F40.t2 : IR := .reg [.s (.mv (.t (.of 7))), .q (.of 10) (.bin .neq .int (.s 0) (.c (I 0)))]
noncomputable def F40.t3 : IR := .reg [.s (.mv (.t (.of 7))), .q (.of 3) (.mv (.c (.bool false))), .q (.of 4) (.mv (.s 0))]
noncomputable def F40.t4 : IR := .seq F40.t3 .ret
noncomputable def F40.t5 : IR := .cond (.t (.of 10)) F40.t4 .skip
noncomputable def F40.t6 : IR := .seq F40.t2 F40.t5
noncomputable def F40.t7 : IR := .reg [.s (.aaddr 1 2 (.t (.of 6)) (.c (I 0))), .q (.of 11) (.load (.s 0)), .q (.of 12) (.len (.t (.of 11))), .q (.of 13) (.mv (.c (I 0)))]
noncomputable def F40.t8 : IR := .reg [.q (.of 14) (.bin .lss .int (.t (.of 13)) (.t (.of 12)))]
noncomputable def F40.t9 : IR := .cond (.t (.of 14)) .skip (.exit 0)
noncomputable def F40.t10 : IR := .reg [.s (.iaddr 2 (.t (.of 11)) (.t (.of 13))), .s (.loadN 2 (.s 0)), .w (.loc (.of 8)) none (.alloc [.nils, (.bool false)]), .w .none none (.store 2 (.t (.of 8)) (.s 0))]
noncomputable def F40.t11 : IR := .reg [.s (.aaddr 1 2 (.t (.of 6)) (.c (I 1))), .q (.of 15) (.load (.s 0)), .q (.of 16) (.len (.t (.of 15))), .q (.of 17) (.mv (.c (I 0)))]
noncomputable def F40.t12 : IR := .reg [.q (.of 18) (.bin .lss .int (.t (.of 17)) (.t (.of 16)))]
noncomputable def F40.t13 : IR := .cond (.t (.of 18)) .skip (.exit 2)
noncomputable def F40.t14 : IR := .reg [.s (.iaddr 2 (.t (.of 15)) (.t (.of 17))), .s (.loadN 2 (.s 0)), .w (.loc (.of 9)) none (.alloc [.nils, (.bool false)]), .w .none none (.store 2 (.t (.of 9)) (.s 0))]
noncomputable def F40.t15 : IR := .dreg [] [(.s (.mv (.t (.of 5))), 3, []), (.s (.loadN 2 (.t (.of 8))), 0, []), (.s (.loadN 2 (.t (.of 9))), 0, []), (.s (.loadN 2 (.t (.of 8))), 1, []), (.w .push none (.call (.c (.fn 122 (.of 122) [])) [(.s 2), (.s 1)]), 0, []), (.w .push none (.call (.c (.fn 124 (.of 124) [])) [(.s 1)]), 0, []), (.w .push none (.call (.c (.fn 122 (.of 122) [])) [(.s 1), (.s 0)]), 0, []), (.w .push none (.call (.c (.fn 121 (.of 121) [])) [(.s 6), (.s 0)]), 0, []), (.q (.of 19) (.not (.s 0)), 0, [])]
noncomputable def F40.t16 : IR := .reg [.q (.of 3) (.mv (.c (.bool false))), .q (.of 4) (.mv (.c (I 0)))]
noncomputable def F40.t17 : IR := .seq F40.t16 .ret
noncomputable def F40.t18 : IR := .cond (.t (.of 19)) F40.t17 .skip
noncomputable def F40.t19 : IR := .seq F40.t15 F40.t18
noncomputable def F40.t20 : IR := .seq F40.t14 F40.t19
noncomputable def F40.t21 : IR := .block 3 F40.t20
noncomputable def F40.t22 : IR := .reg [.s (.bin .add .int (.t (.of 17)) (.c (I 1))), .q (.of 17) (.mv (.s 0))]
noncomputable def F40.t23 : IR := .seq F40.t21 F40.t22
noncomputable def F40.t24 : IR := .seq F40.t13 F40.t23
noncomputable def F40.t25 : IR := .seq F40.t12 F40.t24
noncomputable def F40.t26 : IR := .loop F40.t25
noncomputable def F40.t27 : IR := .block 2 F40.t26
noncomputable def F40.t28 : IR := .seq F40.t11 F40.t27
noncomputable def F40.t29 : IR := .seq F40.t10 F40.t28
noncomputable def F40.t30 : IR := .block 1 F40.t29
noncomputable def F40.t31 : IR := .reg [.s (.bin .add .int (.t (.of 13)) (.c (I 1))), .q (.of 13) (.mv (.s 0))]
noncomputable def F40.t32 : IR := .seq F40.t30 F40.t31
noncomputable def F40.t33 : IR := .seq F40.t9 F40.t32
noncomputable def F40.t34 : IR := .seq F40.t8 F40.t33
noncomputable def F40.t35 : IR := .loop F40.t34
noncomputable def F40.t36 : IR := .block 0 F40.t35
noncomputable def F40.t37 : IR := .seq F40.t7 F40.t36
noncomputable def F40.t38 : IR := .reg [.q (.of 3) (.mv (.c (.bool true))), .q (.of 4) (.mv (.c (I 0)))]
noncomputable def F40.t39 : IR := .seq F40.t38 .ret
noncomputable def F40.t40 : IR := .seq F40.t37 F40.t39
noncomputable def F40.t41 : IR := .seq F40.t6 F40.t40
noncomputable def F40.t42 : IR := .seq F40.t1 F40.t41
noncomputable def F40.t43 : IR := .seq F40.t0 F40.t42
theorem F40.t0_s : IR.run F40.t0 C N O K (F40.fr a c f i d g o q s u b e l p v w y z B A) h nx =
 K (F40.fr a c f (.bool false) (I 0) g o q s u b e l p v w y z B A) h nx := by kernel_rfl
theorem F40.t1_s : IR.run F40.t1 C N O K (F40.fr a c f i d g o q s u b e l p v w y z B A) h nx =
 C.fn 120 (.of 120) [a, c, f] h nx fun v1 h2 n3 => sExt 0 v1 fun v4 => sExt 1 v1 fun v5 => sExt 2 v1 fun v6 => yG [.nils, .nils] h2 n3 fun v7 h8 n9 => zN 2 v7 v5 h8 n9 fun vA hG nG => K (F40.fr a c f i d v4 v7 v6 s u b e l p v w y z B A) hG nG := by kernel_rfl
theorem F40.t2_s : IR.run F40.t2 C N O K (F40.fr a c f i d g o q s u b e l p v w y z B A) h nx =
 sBin .neq .int q (I 0) fun v1 => K (F40.fr a c f i d g o q s u v1 e l p v w y z B A) h nx := by kernel_rfl
theorem F40.t3_s : IR.run F40.t3 C N O K (F40.fr a c f i d g o q s u b e l p v w y z B A) h nx =
 K (F40.fr a c f (.bool false) q g o q s u b e l p v w y z B A) h nx := by kernel_rfl
theorem F40.v10 : Arg.ev (.t (.of 10)) ⟨(F40.fr a c f i d g o q s u b e l p v w y z B A), []⟩ = b := by kernel_rfl
theorem F40.t7_s : IR.run F40.t7 C N O K (F40.fr a c f i d g o q s u b e l p v w y z B A) h nx =
 vO 1 2 o (I 0) fun v1 => zF v1 h fun v2 => sLen v2 fun v3 => K (F40.fr a c f i d g o q s u b v2 v3 (I 0) v w y z B A) h nx := by kernel_rfl
theorem F40.t8_s : IR.run F40.t8 C N O K (F40.fr a c f i d g o q s u b e l p v w y z B A) h nx =
 sBin .lss .int p l fun v1 => K (F40.fr a c f i d g o q s u b e l p v1 w y z B A) h nx := by kernel_rfl
theorem F40.v14 : Arg.ev (.t (.of 14)) ⟨(F40.fr a c f i d g o q s u b e l p v w y z B A), []⟩ = v := by kernel_rfl
theorem F40.t10_s : IR.run F40.t10 C N O K (F40.fr a c f i d g o q s u b e l p v w y z B A) h nx =
 zO 2 e p fun v1 => zH 2 v1 h fun v2 => yG [.nils, (.bool false)] h nx fun v3 h4 n5 => zN 2 v3 v2 h4 n5 fun v6 h7 n8 => K (F40.fr a c f i d g o q v3 u b e l p v w y z B A) h7 n8 := by kernel_rfl
theorem F40.t11_s : IR.run F40.t11 C N O K (F40.fr a c f i d g o q s u b e l p v w y z B A) h nx =
 vO 1 2 o (I 1) fun v1 => zF v1 h fun v2 => sLen v2 fun v3 => K (F40.fr a c f i d g o q s u b e l p v v2 v3 (I 0) B A) h nx := by kernel_rfl
theorem F40.t12_s : IR.run F40.t12 C N O K (F40.fr a c f i d g o q s u b e l p v w y z B A) h nx =
 sBin .lss .int z y fun v1 => K (F40.fr a c f i d g o q s u b e l p v w y z v1 A) h nx := by kernel_rfl
theorem F40.v18 : Arg.ev (.t (.of 18)) ⟨(F40.fr a c f i d g o q s u b e l p v w y z B A), []⟩ = B := by kernel_rfl
theorem F40.t14_s : IR.run F40.t14 C N O K (F40.fr a c f i d g o q s u b e l p v w y z B A) h nx =
 zO 2 w z fun v1 => zH 2 v1 h fun v2 => yG [.nils, (.bool false)] h nx fun v3 h4 n5 => zN 2 v3 v2 h4 n5 fun v6 h7 n8 => K (F40.fr a c f i d g o q s v3 b e l p v w y z B A) h7 n8 := by kernel_rfl
theorem F40.t15_s : IR.run F40.t15 C N O K (F40.fr a c f i d g o q s u b e l p v w y z B A) h nx =
 zH 2 s h fun v1 => zH 2 u h fun v2 => zH 2 s h fun v3 => C.fn 122 (.of 122) [v1, v2] h nx fun v4 h5 n6 => (zH 2 s h5 fun vH => zG vH v3 (zG g g (C.fn 124 (.of 124) [v3] h5 n6 fun v7 h8 n9 => zG g g (C.fn 122 (.of 122) [v4, v7] h8 n9 fun vA hG nG => zG g g (C.fn 121 (.of 121) [g, vA] hG nG fun vD hH nI => sNot vD fun vG => K (F40.fr a c f i d g o q s u b e l p v w y z B vG) hH nI))))) := by kernel_rfl
theorem F40.t16_s : IR.run F40.t16 C N O K (F40.fr a c f i d g o q s u b e l p v w y z B A) h nx =
 K (F40.fr a c f (.bool false) (I 0) g o q s u b e l p v w y z B A) h nx := by kernel_rfl
theorem F40.v19 : Arg.ev (.t (.of 19)) ⟨(F40.fr a c f i d g o q s u b e l p v w y z B A), []⟩ = A := by kernel_rfl
theorem F40.t22_s : IR.run F40.t22 C N O K (F40.fr a c f i d g o q s u b e l p v w y z B A) h nx =
 sBin .add .int z (I 1) fun v1 => K (F40.fr a c f i d g o q s u b e l p v w y v1 B A) h nx := by kernel_rfl
theorem F40.t26_L (Inv : Nat → AV → T Blk → Pa → Prop) {m : Nat} (hm : m < N) (hi : Inv m z h nx)
  (step : ∀ (m : Nat) (z3 z4 z9 zT zE zI : AV) (h : T Blk) (nx : Pa) (R : Ks Prop), Inv m zT h nx → (∀ (m' : Nat) (w3 w4 w9 wM wE wF : AV) (h' : T Blk) (nx' : Pa), m' < m → Inv m' wM h' nx' → R (F40.fr a c f w3 w4 g o q s w9 b e l p v w y wM wE wF) h' nx' = .ok True) → IR.run F40.t25 C N O R (F40.fr a c f z3 z4 g o q s z9 b e l p v w y zT zE zI) h nx = .ok True) :
  IR.run F40.t26 C N O K (F40.fr a c f i d g o q s u b e l p v w y z B A) h nx = .ok True := by
 rw [F40.t26]
 refine yP (fun m tm h nx => ∃ z3 z4 z9 zT zE zI, tm = (F40.fr a c f z3 z4 g o q s z9 b e l p v w y zT zE zI) ∧ Inv m zT h nx) ?_ hm ⟨_, _, _, _, _, _, rfl, hi⟩
 rintro m tm h nx R ⟨z3, z4, z9, zT, zE, zI, rfl, hi⟩ hR
 exact step m z3 z4 z9 zT zE zI h nx R hi fun m' w3 w4 w9 wM wE wF h' nx' hlt hi' => hR m' _ h' nx' hlt ⟨_, _, _, _, _, _, rfl, hi'⟩
theorem F40.t31_s : IR.run F40.t31 C N O K (F40.fr a c f i d g o q s u b e l p v w y z B A) h nx =
 sBin .add .int p (I 1) fun v1 => K (F40.fr a c f i d g o q s u b e l v1 v w y z B A) h nx := by kernel_rfl
theorem F40.t35_L (Inv : Nat → AV → T Blk → Pa → Prop) {m : Nat} (hm : m < N) (hi : Inv m p h nx)
  (step : ∀ (m : Nat) (z3 z4 z8 z9 zD zU zV zS zT zE zI : AV) (h : T Blk) (nx : Pa) (R : Ks Prop), Inv m zD h nx → (∀ (m' : Nat) (w3 w4 w8 w9 wD wN wO wL wM wE wF : AV) (h' : T Blk) (nx' : Pa), m' < m → Inv m' wD h' nx' → R (F40.fr a c f w3 w4 g o q w8 w9 b e l wD wN wO wL wM wE wF) h' nx' = .ok True) → IR.run F40.t34 C N O R (F40.fr a c f z3 z4 g o q z8 z9 b e l zD zU zV zS zT zE zI) h nx = .ok True) :
  IR.run F40.t35 C N O K (F40.fr a c f i d g o q s u b e l p v w y z B A) h nx = .ok True := by
 rw [F40.t35]
 refine yP (fun m tm h nx => ∃ z3 z4 z8 z9 zD zU zV zS zT zE zI, tm = (F40.fr a c f z3 z4 g o q z8 z9 b e l zD zU zV zS zT zE zI) ∧ Inv m zD h nx) ?_ hm ⟨_, _, _, _, _, _, _, _, _, _, _, rfl, hi⟩
 rintro m tm h nx R ⟨z3, z4, z8, z9, zD, zU, zV, zS, zT, zE, zI, rfl, hi⟩ hR
 exact step m z3 z4 z8 z9 zD zU zV zS zT zE zI h nx R hi fun m' w3 w4 w8 w9 wD wN wO wL wM wE wF h' nx' hlt hi' => hR m' _ h' nx' hlt ⟨_, _, _, _, _, _, _, _, _, _, _, rfl, hi'⟩
theorem F40.t38_s : IR.run F40.t38 C N O K (F40.fr a c f i d g o q s u b e l p v w y z B A) h nx =
 K (F40.fr a c f (.bool true) (I 0) g o q s u b e l p v w y z B A) h nx := by kernel_rfl
theorem F40.tab : T.get none (.of 40) tbl = some F40 := by kernel_rfl
theorem F40.bind (k : T AV → OP) : yI F40.params [a0, a1, a2] F40.init k = k (F40.fr a0 a1 a2 .undef .undef .undef .undef .undef .undef .undef .undef .undef .undef .undef .undef .undef .undef .undef .undef .undef) := by kernel_rfl
theorem F40.body_eq : F40.body = F40.t43 := by kernel_rfl
theorem F40.go : zY tbl N C (.of 40) [a0, a1, a2] h nx K0 = IR.run F40.t43 C N (fnO F40.res K0) (retK F40.res K0) (F40.fr a0 a1 a2 .undef .undef .undef .undef .undef .undef .undef .undef .undef .undef .undef .undef .undef .undef .undef .undef .undef) h nx := by
 rw [zM F40.tab, F40.bind, F40.body_eq]; kernel_rfl
theorem F40.ret : retK F40.res K0 (F40.fr a c f i d g o q s u b e l p v w y z B A) h nx = K0 (.tup [i, d]) h nx := by kernel_rfl
end
end Go.Ev
namespace Go.Ev
open Go Go.Proofs
set_option maxRecDepth 100000
section
variable {N : Nat} {C : Calls Prop} {K0 : Kw Prop} {K : Ks Prop} {h : T Blk} {nx : Pa} {a c f i d g o q s u a0 : AV} {O : Outs Prop} {tm : T AV} {Kt : KTm} {r : List RO} {s0 s1 s2 s3 s4 s5 s6 s7 s8 s9 s10 s11 s12 s13 s14 s15 s16 s17 s18 s19 s20 s21 s22 s23 s24 s25 s26 s27 s28 s29 s30 s31 s32 s33 s34 s35 s36 s37 s38 s39 : AV}
noncomputable def F124.t0 : IR := .reg [.w (.loc (.of 1)) none (.box (.t (.of 0))), .w (.loc (.of 2)) none (.alloc [.nils, (.bool false)])]
noncomputable def F124.t1 : IR := .dreg [(.alloc [.nils, (.bool false)])] [(.s (.faddr 0 (.t (.of 1))), 2, []), (.s (.load (.s 0)), 2, []), (.s (.len (.s 0)), 2, [(.mkslice 1 8 [(I 0)] (.s 0) (.s 0))]), (.s (.faddr 1 (.t (.of 1))), 2, []), (.s (.load (.s 0)), 2, []), (.w .push none (.mkslice 1 8 [(I 0)] (.s 2) (.s 2)), 0, []), (.s (.build [.nils, (.bool false)] [(0, 1, (.s 0)), (1, 1, (.s 1))]), 1, []), (.w (.loc (.of 3)) none (.alloc [.nils, (.bool false)]), 0, []), (.w .none none (.store 2 (.t (.of 3)) (.s 0)), 0, [])]
noncomputable def F124.t2 : IR := .reg [.s (.faddr 0 (.t (.of 1))), .q (.of 6) (.load (.s 0)), .q (.of 7) (.len (.t (.of 6))), .q (.of 8) (.mv (.c (I 0)))]
noncomputable def F124.t3 : IR := .reg [.q (.of 9) (.bin .lss .int (.t (.of 8)) (.t (.of 7)))]
noncomputable def F124.t4 : IR := .cond (.t (.of 9)) .skip (.exit 0)
noncomputable def F124.t5 : IR := .reg [.s (.mv (.t (.of 8))), .s (.iaddr 1 (.t (.of 6)) (.t (.of 8))), .s (.load (.s 0)), .q (.of 4) (.mv (.s 2)), .q (.of 5) (.mv (.s 0))]
noncomputable def F124.t6 : IR := .reg [.s (.faddr 0 (.t (.of 3))), .s (.load (.s 0)), .s (.mv (.t (.of 5))), .s (.mv (.t (.of 4))), .s (.iaddr 1 (.s 2) (.s 1)), .w .none none (.store 1 (.s 0) (.s 1))]
noncomputable def F124.t7 : IR := .seq F124.t5 F124.t6
noncomputable def F124.t8 : IR := .block 1 F124.t7
noncomputable def F124.t9 : IR := .reg [.s (.bin .add .int (.t (.of 8)) (.c (I 1))), .q (.of 8) (.mv (.s 0))]
noncomputable def F124.t10 : IR := .seq F124.t8 F124.t9
noncomputable def F124.t11 : IR := .seq F124.t4 F124.t10
noncomputable def F124.t12 : IR := .seq F124.t3 F124.t11
noncomputable def F124.t13 : IR := .loop F124.t12
noncomputable def F124.t14 : IR := .block 0 F124.t13
noncomputable def F124.t15 : IR := .seq F124.t2 F124.t14
noncomputable def F124.t16 : IR := .reg [.s (.loadN 2 (.t (.of 3))), .w .none none (.store 2 (.t (.of 2)) (.s 0))]
noncomputable def F124.t17 : IR := .seq F124.t16 .ret
noncomputable def F124.t18 : IR := .seq F124.t15 F124.t17
noncomputable def F124.t19 : IR := .seq F124.t1 F124.t18
noncomputable def F124.t20 : IR := .seq F124.t0 F124.t19
theorem F124.t0_s : IR.run F124.t0 C N O K (F124.fr a c f i d g o q s u) h nx =
 sBox a h nx fun v1 h2 n3 => yG [.nils, (.bool false)] h2 n3 fun v4 h5 n6 => K (F124.fr a v1 v4 i d g o q s u) h5 n6 := by kernel_rfl
theorem F124.t1_s : IR.run F124.t1 C N O K (F124.fr a c f i d g o q s u) h nx =
 sChk (true && true) (zQ 0 c fun v1 => zF v1 h fun v2 => sLen v2 fun v3 => sChk (mkSl 8 v3 v3 && true) (zQ 1 c fun v4 => zF v4 h fun v5 => uQ 1 8 [(I 0)] v3 v3 h nx fun v6 h7 n8 => (zF v4 h7 fun vV => zG vV v5 ((zQ 1 c fun v25 => zG v25 v4 ((sLen v2 fun vP => zG vP v3 ((zF v1 h7 fun vN => zG vN v2 ((zQ 0 c fun vM => zG vM v1 (uR [.nils, (.bool false)] [(0, 1, v6), (1, 1, v5)] fun v9 => yG [.nils, (.bool false)] h7 n8 fun vA hG nG => (uR [.nils, (.bool false)] [(0, 1, v6), (1, 1, v5)] fun vL => zG vL v9 ((zF v4 hG fun vK => zG vK v5 ((zQ 1 c fun vJ => zG vJ v4 ((sLen v2 fun vI => zG vI v3 ((zF v1 hG fun vH => zG vH v2 ((zQ 0 c fun vG => zG vG v1 (zN 2 vA v9 hG nG fun vD hH nI => K (F124.fr a c f vA d g o q s u) hH nI)))))))))))))))))))))))) := by kernel_rfl
theorem F124.t2_s : IR.run F124.t2 C N O K (F124.fr a c f i d g o q s u) h nx =
 zQ 0 c fun v1 => zF v1 h fun v2 => sLen v2 fun v3 => K (F124.fr a c f i d g v2 v3 (I 0) u) h nx := by kernel_rfl
theorem F124.t3_s : IR.run F124.t3 C N O K (F124.fr a c f i d g o q s u) h nx =
 sBin .lss .int s q fun v1 => K (F124.fr a c f i d g o q s v1) h nx := by kernel_rfl
theorem F124.v9 : Arg.ev (.t (.of 9)) ⟨(F124.fr a c f i d g o q s u), []⟩ = u := by kernel_rfl
theorem F124.t5_s : IR.run F124.t5 C N O K (F124.fr a c f i d g o q s u) h nx =
 zO 1 o s fun v1 => zF v1 h fun v2 => K (F124.fr a c f i s v2 o q s u) h nx := by kernel_rfl
theorem F124.t6_s : IR.run F124.t6 C N O K (F124.fr a c f i d g o q s u) h nx =
 zQ 0 i fun v1 => zF v1 h fun v2 => zO 1 v2 g fun v3 => zN 1 v3 d h nx fun v4 h5 n6 => K (F124.fr a c f i d g o q s u) h5 n6 := by kernel_rfl
theorem F124.t9_s : IR.run F124.t9 C N O K (F124.fr a c f i d g o q s u) h nx =
 sBin .add .int s (I 1) fun v1 => K (F124.fr a c f i d g o q v1 u) h nx := by kernel_rfl
theorem F124.t13_L (Inv : Nat → AV → T Blk → Pa → Prop) {m : Nat} (hm : m < N) (hi : Inv m s h nx)
  (step : ∀ (m : Nat) (z4 z5 z8 z9 : AV) (h : T Blk) (nx : Pa) (R : Ks Prop), Inv m z8 h nx → (∀ (m' : Nat) (w4 w5 w8 w9 : AV) (h' : T Blk) (nx' : Pa), m' < m → Inv m' w8 h' nx' → R (F124.fr a c f i w4 w5 o q w8 w9) h' nx' = .ok True) → IR.run F124.t12 C N O R (F124.fr a c f i z4 z5 o q z8 z9) h nx = .ok True) :
  IR.run F124.t13 C N O K (F124.fr a c f i d g o q s u) h nx = .ok True := by
 rw [F124.t13]
 refine yP (fun m tm h nx => ∃ z4 z5 z8 z9, tm = (F124.fr a c f i z4 z5 o q z8 z9) ∧ Inv m z8 h nx) ?_ hm ⟨_, _, _, _, rfl, hi⟩
 rintro m tm h nx R ⟨z4, z5, z8, z9, rfl, hi⟩ hR
 exact step m z4 z5 z8 z9 h nx R hi fun m' w4 w5 w8 w9 h' nx' hlt hi' => hR m' _ h' nx' hlt ⟨_, _, _, _, rfl, hi'⟩
theorem F124.t16_s : IR.run F124.t16 C N O K (F124.fr a c f i d g o q s u) h nx =
 zH 2 i h fun v1 => zN 2 f v1 h nx fun v2 h3 n4 => K (F124.fr a c f i d g o q s u) h3 n4 := by kernel_rfl
theorem F124.tab : T.get none (.of 124) tbl = some F124 := by kernel_rfl
theorem F124.bind (k : T AV → OP) : yI F124.params [a0] F124.init k = k (F124.fr a0 .undef .undef .undef .undef .undef .undef .undef .undef .undef) := by kernel_rfl
theorem F124.body_eq : F124.body = F124.t20 := by kernel_rfl
theorem F124.go : zY tbl N C (.of 124) [a0] h nx K0 = IR.run F124.t20 C N (fnO F124.res K0) (retK F124.res K0) (F124.fr a0 .undef .undef .undef .undef .undef .undef .undef .undef .undef) h nx := by
 rw [zM F124.tab, F124.bind, F124.body_eq]; kernel_rfl
theorem F124.ret : retK F124.res K0 (F124.fr a c f i d g o q s u) h nx = zH 2 f h fun v1 => K0 v1 h nx := by kernel_rfl
end
end Go.Ev
namespace Go.Ev
open Go Go.Proofs
set_option maxRecDepth 100000
section
variable {N : Nat} {C : Calls Prop} {K0 : Kw Prop} {K : Ks Prop} {h : T Blk} {nx : Pa} {a c f i d g o q s u b e a0 a1 a2 : AV} {O : Outs Prop} {tm : T AV} {Kt : KTm} {r : List RO} {s0 s1 s2 s3 s4 s5 s6 s7 s8 s9 s10 s11 s12 s13 s14 s15 s16 s17 s18 s19 s20 s21 s22 s23 s24 s25 s26 s27 s28 s29 s30 s31 s32 s33 s34 s35 s36 s37 s38 s39 : AV}
noncomputable def F125.t0 : IR := .reg [.w (.loc (.of 2)) none (.box (.t (.of 1))), .q (.of 3) (.mv (.c .nils))]
noncomputable def F125.t1 : IR := .reg [.s (.mv (.t (.of 0))), .s (.loadN 2 (.t (.of 2))), .w .push none (.call (.c (.fn 84 (.of 84) [])) [(.s 1), (.s 0)]), .q (.of 5) (.bin .geq .int (.s 0) (.c (I 0)))]
noncomputable def F125.t2 : IR := .reg [.s (.mv (.t (.of 0))), .q (.of 3) (.mv (.s 0))]
noncomputable def F125.t3 : IR := .seq F125.t2 .ret
noncomputable def F125.t4 : IR := .cond (.t (.of 5)) F125.t3 .skip
noncomputable def F125.t5 : IR := .seq F125.t1 F125.t4
noncomputable def F125.t6 : IR := .reg [.q (.of 4) (.mv (.c (I 0)))]
noncomputable def F125.t7 : IR := .dreg [] [(.s (.mv (.t (.of 4))), 0, []), (.s (.mv (.t (.of 0))), 0, []), (.s (.len (.s 0)), 0, []), (.s (.bin .lss .int (.s 2) (.s 0)), 0, []), (.s (.mv (.s 0)), 0, []), (.p .push (some ((.s 0), true)) (.mv (.t (.of 0))), 0, []), (.p .push (some ((.s 1), true)) (.mv (.t (.of 4))), 0, []), (.p .push (some ((.s 2), true)) (.iaddr 2 (.s 1) (.s 0)), 0, []), (.p .push (some ((.s 3), true)) (.loadN 2 (.s 0)), 0, []), (.p .push (some ((.s 4), true)) (.loadN 2 (.t (.of 2))), 0, []), (.w .push (some ((.s 5), true)) (.call (.c (.fn 85 (.of 85) [])) [(.s 1), (.s 0)]), 0, []), (.q (.of 6) (.pick (.s 6) (.s 0) (.c (.bool false))), 0, [])]
noncomputable def F125.t8 : IR := .cond (.t (.of 6)) .skip (.exit 0)
noncomputable def F125.t9 : IR := .seq F125.t7 F125.t8
noncomputable def F125.t10 : IR := .reg [.s (.mv (.t (.of 4))), .s (.bin .add .int (.s 0) (.c (I 1))), .q (.of 4) (.mv (.s 0))]
noncomputable def F125.t11 : IR := .block 1 F125.t10
noncomputable def F125.t12 : IR := .seq F125.t9 F125.t11
noncomputable def F125.t13 : IR := .loop F125.t12
noncomputable def F125.t14 : IR := .block 0 F125.t13
noncomputable def F125.t15 : IR := .dreg [(.bslice 2 0 [.nils, (.bool false)] [])] [(.s (.mv (.t (.of 0))), 3, []), (.s (.mv (.t (.of 4))), 3, []), (.s (.slice 2 (.s 1) none (some (.s 0)) none), 3, []), (.s (.loadN 2 (.t (.of 2))), 2, [(.bslice 2 1 [.nils, (.bool false)] [(0, 2, (.s 0))])]), (.s (.mv (.t (.of 0))), 4, []), (.s (.mv (.t (.of 4))), 4, []), (.s (.slice 2 (.s 1) (some (.s 0)) none none), 4, []), (.w .push none (.bslice 2 0 [.nils, (.bool false)] []), 0, []), (.w .push none (.appq 2 32 (.s 0) (.s 5)), 0, []), (.w .push none (.bslice 2 1 [.nils, (.bool false)] [(0, 2, (.s 5))]), 0, []), (.w .push none (.appq 2 32 (.s 1) (.s 0)), 0, []), (.w .push none (.appq 2 32 (.s 0) (.s 4)), 0, []), (.q (.of 3) (.mv (.s 0)), 0, [])]
noncomputable def F125.t16 : IR := .seq F125.t15 .ret
noncomputable def F125.t17 : IR := .seq F125.t14 F125.t16
noncomputable def F125.t18 : IR := .seq F125.t6 F125.t17
noncomputable def F125.t19 : IR := .seq F125.t5 F125.t18
noncomputable def F125.t20 : IR := .seq F125.t0 F125.t19
theorem F125.t0_s : IR.run F125.t0 C N O K (F125.fr a c f i d g o) h nx =
 sBox c h nx fun v1 h2 n3 => K (F125.fr a c v1 .nils d g o) h2 n3 := by kernel_rfl
theorem F125.t1_s : IR.run F125.t1 C N O K (F125.fr a c f i d g o) h nx =
 zH 2 f h fun v1 => C.fn 84 (.of 84) [a, v1] h nx fun v2 h3 n4 => sBin .geq .int v2 (I 0) fun v5 => K (F125.fr a c f i d v5 o) h3 n4 := by kernel_rfl
theorem F125.t2_s : IR.run F125.t2 C N O K (F125.fr a c f i d g o) h nx =
 K (F125.fr a c f a d g o) h nx := by kernel_rfl
theorem F125.v5 : Arg.ev (.t (.of 5)) ⟨(F125.fr a c f i d g o), []⟩ = g := by kernel_rfl
theorem F125.t6_s : IR.run F125.t6 C N O K (F125.fr a c f i d g o) h nx =
 K (F125.fr a c f i (I 0) g o) h nx := by kernel_rfl
theorem F125.t7_s : IR.run F125.t7 C N O K (F125.fr a c f i d g o) h nx =
 sLen a fun v1 => sBin .lss .int d v1 fun v2 => sG v2 true (fun k => k a) fun v3 => sG v2 true (fun k => k d) fun v4 => sG v2 true (fun k => zO 2 v3 v4 k) fun v5 => sG v2 true (fun k => zH 2 v5 h k) fun v6 => sG v2 true (fun k => zH 2 f h k) fun v7 => sGW v2 true (fun k => C.fn 85 (.of 85) [v6, v7] h nx k) h nx fun v8 h9 nH => jJ v2 v8 (.bool false) fun vB => K (F125.fr a c f i d g vB) h9 nH := by kernel_rfl
theorem F125.v6 : Arg.ev (.t (.of 6)) ⟨(F125.fr a c f i d g o), []⟩ = o := by kernel_rfl
theorem F125.t10_s : IR.run F125.t10 C N O K (F125.fr a c f i d g o) h nx =
 sBin .add .int d (I 1) fun v1 => K (F125.fr a c f i v1 g o) h nx := by kernel_rfl
theorem F125.t13_L (Inv : Nat → AV → T Blk → Pa → Prop) {m : Nat} (hm : m < N) (hi : Inv m d h nx)
  (step : ∀ (m : Nat) (z4 z6 : AV) (h : T Blk) (nx : Pa) (R : Ks Prop), Inv m z4 h nx → (∀ (m' : Nat) (w4 w6 : AV) (h' : T Blk) (nx' : Pa), m' < m → Inv m' w4 h' nx' → R (F125.fr a c f i w4 g w6) h' nx' = .ok True) → IR.run F125.t12 C N O R (F125.fr a c f i z4 g z6) h nx = .ok True) :
  IR.run F125.t13 C N O K (F125.fr a c f i d g o) h nx = .ok True := by
 rw [F125.t13]
 refine yP (fun m tm h nx => ∃ z4 z6, tm = (F125.fr a c f i z4 g z6) ∧ Inv m z4 h nx) ?_ hm ⟨_, _, rfl, hi⟩
 rintro m tm h nx R ⟨z4, z6, rfl, hi⟩ hR
 exact step m z4 z6 h nx R hi fun m' w4 w6 h' nx' hlt hi' => hR m' _ h' nx' hlt ⟨_, _, rfl, hi'⟩
theorem F125.t15_s : IR.run F125.t15 C N O K (F125.fr a c f i d g o) h nx =
 sChk ((jV (repl 0 [.nils, (.bool false)]) []).isSome && true) (uF 2 a none (some d) none fun v1 => zH 2 f h fun v2 => sChk ((jV (repl 1 [.nils, (.bool false)]) [(0, 2, v2)]).isSome && true) (uF 2 a (some d) none none fun v3 => yY 2 0 [.nils, (.bool false)] [] h nx fun v4 h5 n6 => (uF 2 a (some d) none none fun vU => zG vU v3 (zG d d (zG a a ((zH 2 f h5 fun vV => zG vV v2 ((uF 2 a none (some d) none fun v25 => zG v25 v1 (zG d d (zG a a (u5 C 2 32 v4 v1 h5 n6 fun v7 h8 n9 => (uF 2 a (some d) none none fun vP => zG vP v3 (zG d d (zG a a ((zH 2 f h8 fun vN => zG vN v2 ((uF 2 a none (some d) none fun vM => zG vM v1 (zG d d (zG a a (yY 2 1 [.nils, (.bool false)] [(0, 2, v2)] h8 n9 fun vA hG nG => (uF 2 a (some d) none none fun vL => zG vL v3 (zG d d (zG a a ((uF 2 a none (some d) none fun vK => zG vK v1 (zG d d (zG a a (u5 C 2 32 v7 vA hG nG fun vD hH nI => (uF 2 a (some d) none none fun vJ => zG vJ v3 (zG d d (zG a a (u5 C 2 32 vD v3 hH nI fun vG hF nF => K (F125.fr a c f vG d g o) hF nF)))))))))))))))))))))))))))))))))) := by kernel_rfl
theorem F125.tab : T.get none (.of 125) tbl = some F125 := by kernel_rfl
theorem F125.bind (k : T AV → OP) : yI F125.params [a0, a1] F125.init k = k (F125.fr a0 a1 .undef .undef .undef .undef .undef) := by kernel_rfl
theorem F125.body_eq : F125.body = F125.t20 := by kernel_rfl
theorem F125.go : zY tbl N C (.of 125) [a0, a1] h nx K0 = IR.run F125.t20 C N (fnO F125.res K0) (retK F125.res K0) (F125.fr a0 a1 .undef .undef .undef .undef .undef) h nx := by
 rw [zM F125.tab, F125.bind, F125.body_eq]; kernel_rfl
theorem F125.ret : retK F125.res K0 (F125.fr a c f i d g o) h nx = K0 i h nx := by kernel_rfl
end
end Go.Ev
namespace Go.Ev
open Go Go.Proofs
set_option maxRecDepth 100000
section
variable {N : Nat} {C : Calls Prop} {K0 : Kw Prop} {K : Ks Prop} {h : T Blk} {nx : Pa} {a c f i d g o q s u b e l p a0 a1 a2 : AV} {O : Outs Prop} {tm : T AV} {Kt : KTm} {r : List RO} {s0 s1 s2 s3 s4 s5 s6 s7 s8 s9 s10 s11 s12 s13 s14 s15 s16 s17 s18 s19 s20 s21 s22 s23 s24 s25 s26 s27 s28 s29 s30 s31 s32 s33 s34 s35 s36 s37 s38 s39 : AV}
noncomputable def F100.t0 : IR := .reg [.q (.of 1) (.mv (.c .nils))]
noncomputable def F100.t1 : IR := .reg [.q (.of 2) (.mv (.c .nils))]
noncomputable def F100.t2 : IR := .reg [.q (.of 3) (.mv (.c (I 0)))]
noncomputable def F100.t3 : IR := .reg [.s (.mv (.t (.of 3))), .s (.mv (.t (.of 0))), .s (.len (.s 0)), .q (.of 4) (.bin .lss .int (.s 2) (.s 0))]
noncomputable def F100.t4 : IR := .cond (.t (.of 4)) .skip (.exit 0)
noncomputable def F100.t5 : IR := .seq F100.t3 F100.t4
noncomputable def F100.t6 : IR := .reg [.s (.mv (.t (.of 2))), .s (.mv (.t (.of 0))), .s (.mv (.t (.of 3))), .s (.iaddr 2 (.s 1) (.s 0)), .s (.loadN 2 (.s 0)), .w .push none (.call (.c (.fn 125 (.of 125) [])) [(.s 4), (.s 0)]), .q (.of 2) (.mv (.s 0))]
noncomputable def F100.t7 : IR := .block 1 F100.t6
noncomputable def F100.t8 : IR := .reg [.s (.mv (.t (.of 3))), .s (.bin .add .int (.s 0) (.c (I 1))), .q (.of 3) (.mv (.s 0))]
noncomputable def F100.t9 : IR := .seq F100.t7 F100.t8
noncomputable def F100.t10 : IR := .seq F100.t5 F100.t9
noncomputable def F100.t11 : IR := .loop F100.t10
noncomputable def F100.t12 : IR := .block 0 F100.t11
noncomputable def F100.t13 : IR := .seq F100.t2 F100.t12
noncomputable def F100.t14 : IR := .reg [.s (.mv (.t (.of 2))), .q (.of 1) (.mv (.s 0))]
noncomputable def F100.t15 : IR := .seq F100.t14 .ret
noncomputable def F100.t16 : IR := .seq F100.t13 F100.t15
noncomputable def F100.t17 : IR := .seq F100.t1 F100.t16
noncomputable def F100.t18 : IR := .seq F100.t0 F100.t17
theorem F100.t0_s : IR.run F100.t0 C N O K (F100.fr a c f i d) h nx =
 K (F100.fr a .nils f i d) h nx := by kernel_rfl
theorem F100.t1_s : IR.run F100.t1 C N O K (F100.fr a c f i d) h nx =
 K (F100.fr a c .nils i d) h nx := by kernel_rfl
theorem F100.t2_s : IR.run F100.t2 C N O K (F100.fr a c f i d) h nx =
 K (F100.fr a c f (I 0) d) h nx := by kernel_rfl
theorem F100.t3_s : IR.run F100.t3 C N O K (F100.fr a c f i d) h nx =
 sLen a fun v1 => sBin .lss .int i v1 fun v2 => K (F100.fr a c f i v2) h nx := by kernel_rfl
theorem F100.v4 : Arg.ev (.t (.of 4)) ⟨(F100.fr a c f i d), []⟩ = d := by kernel_rfl
theorem F100.t6_s : IR.run F100.t6 C N O K (F100.fr a c f i d) h nx =
 zO 2 a i fun v1 => zH 2 v1 h fun v2 => C.fn 125 (.of 125) [f, v2] h nx fun v3 h4 n5 => K (F100.fr a c v3 i d) h4 n5 := by kernel_rfl
theorem F100.t8_s : IR.run F100.t8 C N O K (F100.fr a c f i d) h nx =
 sBin .add .int i (I 1) fun v1 => K (F100.fr a c f v1 d) h nx := by kernel_rfl
theorem F100.t11_L (Inv : Nat → AV → AV → T Blk → Pa → Prop) {m : Nat} (hm : m < N) (hi : Inv m f i h nx)
  (step : ∀ (m : Nat) (z2 z3 z4 : AV) (h : T Blk) (nx : Pa) (R : Ks Prop), Inv m z2 z3 h nx → (∀ (m' : Nat) (w2 w3 w4 : AV) (h' : T Blk) (nx' : Pa), m' < m → Inv m' w2 w3 h' nx' → R (F100.fr a c w2 w3 w4) h' nx' = .ok True) → IR.run F100.t10 C N O R (F100.fr a c z2 z3 z4) h nx = .ok True) :
  IR.run F100.t11 C N O K (F100.fr a c f i d) h nx = .ok True := by
 rw [F100.t11]
 refine yP (fun m tm h nx => ∃ z2 z3 z4, tm = (F100.fr a c z2 z3 z4) ∧ Inv m z2 z3 h nx) ?_ hm ⟨_, _, _, rfl, hi⟩
 rintro m tm h nx R ⟨z2, z3, z4, rfl, hi⟩ hR
 exact step m z2 z3 z4 h nx R hi fun m' w2 w3 w4 h' nx' hlt hi' => hR m' _ h' nx' hlt ⟨_, _, _, rfl, hi'⟩
theorem F100.t14_s : IR.run F100.t14 C N O K (F100.fr a c f i d) h nx =
 K (F100.fr a f f i d) h nx := by kernel_rfl
theorem F100.tab : T.get none (.of 100) tbl = some F100 := by kernel_rfl
theorem F100.bind (k : T AV → OP) : yI F100.params [a0] F100.init k = k (F100.fr a0 .undef .undef .undef .undef) := by kernel_rfl
theorem F100.body_eq : F100.body = F100.t18 := by kernel_rfl
theorem F100.go : zY tbl N C (.of 100) [a0] h nx K0 = IR.run F100.t18 C N (fnO F100.res K0) (retK F100.res K0) (F100.fr a0 .undef .undef .undef .undef) h nx := by
 rw [zM F100.tab, F100.bind, F100.body_eq]; kernel_rfl
theorem F100.ret : retK F100.res K0 (F100.fr a c f i d) h nx = K0 c h nx := by kernel_rfl
noncomputable def F29.t0 : IR := .reg [.q (.of 3) (.mv (.c .nils)), .q (.of 4) (.mv (.c (.bool false)))]
noncomputable def F29.t1 : IR := .reg [.s (.mv (.t (.of 1))), .w .push none (.call (.c (.fn 31 (.of 31) [])) [(.s 0)]), .w .push none (.bslice 2 1 [.nils, (.bool false)] [(0, 2, (.s 0))]), .q (.of 5) (.mv (.s 0))]
noncomputable def F29.t2 : IR := .reg [.q (.of 6) (.mv (.c (I 0)))]
noncomputable def F29.t3 : IR := .reg [.s (.mv (.t (.of 6))), .s (.mv (.t (.of 5))), .s (.len (.s 0)), .q (.of 9) (.bin .lss .int (.s 2) (.s 0))]
noncomputable def F29.t4 : IR := .cond (.t (.of 9)) .skip (.exit 0)
noncomputable def F29.t5 : IR := .seq F29.t3 F29.t4
noncomputable def F29.t6 : IR := .reg [.q (.of 7) (.mv (.c (I 0)))]
noncomputable def F29.t7 : IR := .reg [.s (.mv (.t (.of 7))), .s (.mv (.t (.of 0))), .s (.len (.s 0)), .q (.of 10) (.bin .lss .int (.s 2) (.s 0))]
noncomputable def F29.t8 : IR := .cond (.t (.of 10)) .skip (.exit 2)
noncomputable def F29.t9 : IR := .seq F29.t7 F29.t8
noncomputable def F29.t10 : IR := .dreg [(.alloc [.nils, (.bool false)])] [(.s (.mv (.t (.of 0))), 2, []), (.s (.mv (.t (.of 7))), 2, []), (.s (.iaddr 2 (.s 1) (.s 0)), 2, []), (.s (.loadN 2 (.s 0)), 2, []), (.s (.mv (.t (.of 5))), 2, []), (.s (.mv (.t (.of 6))), 2, []), (.s (.iaddr 2 (.s 1) (.s 0)), 2, []), (.s (.loadN 2 (.s 0)), 2, []), (.w .push none (.call (.c (.fn 65 (.of 65) [])) [(.s 4), (.s 0)]), 0, []), (.w (.loc (.of 8)) none (.alloc [.nils, (.bool false)]), 0, []), (.w .none none (.store 2 (.t (.of 8)) (.s 0)), 0, [])]
noncomputable def F29.t11 : IR := .reg [.s (.mv (.t (.of 5))), .s (.loadN 2 (.t (.of 8))), .w .push none (.call (.c (.fn 84 (.of 84) [])) [(.s 1), (.s 0)]), .q (.of 11) (.bin .lss .int (.s 0) (.c (I 0)))]
noncomputable def F29.t12 : IR := .reg [.s (.mv (.t (.of 5))), .s (.loadN 2 (.t (.of 8))), .w .push none (.bslice 2 1 [.nils, (.bool false)] [(0, 2, (.s 0))]), .w .push none (.appq 2 32 (.s 2) (.s 0)), .q (.of 5) (.mv (.s 0))]
noncomputable def F29.t13 : IR := .cond (.t (.of 11)) F29.t12 .skip
noncomputable def F29.t14 : IR := .seq F29.t11 F29.t13
noncomputable def F29.t15 : IR := .reg [.s (.mv (.t (.of 5))), .s (.len (.s 0)), .s (.mv (.t (.of 2))), .q (.of 12) (.bin .gtr .int (.s 1) (.s 0))]
noncomputable def F29.t16 : IR := .reg [.q (.of 3) (.mv (.c .nils)), .q (.of 4) (.mv (.c (.bool false)))]
noncomputable def F29.t17 : IR := .seq F29.t16 .ret
noncomputable def F29.t18 : IR := .cond (.t (.of 12)) F29.t17 .skip
noncomputable def F29.t19 : IR := .seq F29.t15 F29.t18
noncomputable def F29.t20 : IR := .seq F29.t14 F29.t19
noncomputable def F29.t21 : IR := .seq F29.t10 F29.t20
noncomputable def F29.t22 : IR := .block 3 F29.t21
noncomputable def F29.t23 : IR := .reg [.s (.mv (.t (.of 7))), .s (.bin .add .int (.s 0) (.c (I 1))), .q (.of 7) (.mv (.s 0))]
noncomputable def F29.t24 : IR := .seq F29.t22 F29.t23
noncomputable def F29.t25 : IR := .seq F29.t9 F29.t24
noncomputable def F29.t26 : IR := .loop F29.t25
noncomputable def F29.t27 : IR := .block 2 F29.t26
noncomputable def F29.t28 : IR := .seq F29.t6 F29.t27
noncomputable def F29.t29 : IR := .block 1 F29.t28
noncomputable def F29.t30 : IR := .reg [.s (.mv (.t (.of 6))), .s (.bin .add .int (.s 0) (.c (I 1))), .q (.of 6) (.mv (.s 0))]
noncomputable def F29.t31 : IR := .seq F29.t29 F29.t30
noncomputable def F29.t32 : IR := .seq F29.t5 F29.t31
noncomputable def F29.t33 : IR := .loop F29.t32
noncomputable def F29.t34 : IR := .block 0 F29.t33
noncomputable def F29.t35 : IR := .seq F29.t2 F29.t34
noncomputable def F29.t36 : IR := .reg [.s (.mv (.t (.of 5))), .w .push none (.call (.c (.fn 100 (.of 100) [])) [(.s 0)]), .q (.of 3) (.mv (.s 0)), .q (.of 4) (.mv (.c (.bool true)))]
noncomputable def F29.t37 : IR := .seq F29.t36 .ret
noncomputable def F29.t38 : IR := .seq F29.t35 F29.t37
noncomputable def F29.t39 : IR := .seq F29.t1 F29.t38
noncomputable def F29.t40 : IR := .seq F29.t0 F29.t39
theorem F29.t0_s : IR.run F29.t0 C N O K (F29.fr a c f i d g o q s u b e l) h nx =
 K (F29.fr a c f .nils (.bool false) g o q s u b e l) h nx := by kernel_rfl
theorem F29.t1_s : IR.run F29.t1 C N O K (F29.fr a c f i d g o q s u b e l) h nx =
 C.fn 31 (.of 31) [c] h nx fun v1 h2 n3 => yY 2 1 [.nils, (.bool false)] [(0, 2, v1)] h2 n3 fun v4 h5 n6 => K (F29.fr a c f i d v4 o q s u b e l) h5 n6 := by kernel_rfl
theorem F29.t2_s : IR.run F29.t2 C N O K (F29.fr a c f i d g o q s u b e l) h nx =
 K (F29.fr a c f i d g (I 0) q s u b e l) h nx := by kernel_rfl
theorem F29.t3_s : IR.run F29.t3 C N O K (F29.fr a c f i d g o q s u b e l) h nx =
 sLen g fun v1 => sBin .lss .int o v1 fun v2 => K (F29.fr a c f i d g o q s v2 b e l) h nx := by kernel_rfl
theorem F29.v9 : Arg.ev (.t (.of 9)) ⟨(F29.fr a c f i d g o q s u b e l), []⟩ = u := by kernel_rfl
theorem F29.t6_s : IR.run F29.t6 C N O K (F29.fr a c f i d g o q s u b e l) h nx =
 K (F29.fr a c f i d g o (I 0) s u b e l) h nx := by kernel_rfl
theorem F29.t7_s : IR.run F29.t7 C N O K (F29.fr a c f i d g o q s u b e l) h nx =
 sLen a fun v1 => sBin .lss .int q v1 fun v2 => K (F29.fr a c f i d g o q s u v2 e l) h nx := by kernel_rfl
theorem F29.v10 : Arg.ev (.t (.of 10)) ⟨(F29.fr a c f i d g o q s u b e l), []⟩ = b := by kernel_rfl
theorem F29.t10_s : IR.run F29.t10 C N O K (F29.fr a c f i d g o q s u b e l) h nx =
 sChk (true && true) (zO 2 a q fun v1 => zH 2 v1 h fun v2 => zO 2 g o fun v3 => zH 2 v3 h fun v4 => C.fn 65 (.of 65) [v2, v4] h nx fun v5 h6 n7 => (zH 2 v3 h6 fun vL => zG vL v4 ((zO 2 g o fun vK => zG vK v3 (zG o o (zG g g ((zH 2 v1 h6 fun vJ => zG vJ v2 ((zO 2 a q fun vI => zG vI v1 (zG q q (zG a a (yG [.nils, (.bool false)] h6 n7 fun v8 h9 nH => (zH 2 v3 h9 fun vH => zG vH v4 ((zO 2 g o fun vG => zG vG v3 (zG o o (zG g g ((zH 2 v1 h9 fun vF => zG vF v2 ((zO 2 a q fun vE => zG vE v1 (zG q q (zG a a (zN 2 v8 v5 h9 nH fun vB hB nB => K (F29.fr a c f i d g o q v8 u b e l) hB nB))))))))))))))))))))))))) := by kernel_rfl
theorem F29.t11_s : IR.run F29.t11 C N O K (F29.fr a c f i d g o q s u b e l) h nx =
 zH 2 s h fun v1 => C.fn 84 (.of 84) [g, v1] h nx fun v2 h3 n4 => sBin .lss .int v2 (I 0) fun v5 => K (F29.fr a c f i d g o q s u b v5 l) h3 n4 := by kernel_rfl
theorem F29.t12_s : IR.run F29.t12 C N O K (F29.fr a c f i d g o q s u b e l) h nx =
 zH 2 s h fun v1 => yY 2 1 [.nils, (.bool false)] [(0, 2, v1)] h nx fun v2 h3 n4 => u5 C 2 32 g v2 h3 n4 fun v5 h6 n7 => K (F29.fr a c f i d v5 o q s u b e l) h6 n7 := by kernel_rfl
theorem F29.v11 : Arg.ev (.t (.of 11)) ⟨(F29.fr a c f i d g o q s u b e l), []⟩ = e := by kernel_rfl
theorem F29.t15_s : IR.run F29.t15 C N O K (F29.fr a c f i d g o q s u b e l) h nx =
 sLen g fun v1 => sBin .gtr .int v1 f fun v2 => K (F29.fr a c f i d g o q s u b e v2) h nx := by kernel_rfl
theorem F29.t16_s : IR.run F29.t16 C N O K (F29.fr a c f i d g o q s u b e l) h nx =
 K (F29.fr a c f .nils (.bool false) g o q s u b e l) h nx := by kernel_rfl
theorem F29.v12 : Arg.ev (.t (.of 12)) ⟨(F29.fr a c f i d g o q s u b e l), []⟩ = l := by kernel_rfl
theorem F29.t23_s : IR.run F29.t23 C N O K (F29.fr a c f i d g o q s u b e l) h nx =
 sBin .add .int q (I 1) fun v1 => K (F29.fr a c f i d g o v1 s u b e l) h nx := by kernel_rfl
theorem F29.t26_L (Inv : Nat → AV → AV → T Blk → Pa → Prop) {m : Nat} (hm : m < N) (hi : Inv m g q h nx)
  (step : ∀ (m : Nat) (z3 z4 z5 z7 z8 zA zB zC : AV) (h : T Blk) (nx : Pa) (R : Ks Prop), Inv m z5 z7 h nx → (∀ (m' : Nat) (w3 w4 w5 w7 w8 wA wB wC : AV) (h' : T Blk) (nx' : Pa), m' < m → Inv m' w5 w7 h' nx' → R (F29.fr a c f w3 w4 w5 o w7 w8 u wA wB wC) h' nx' = .ok True) → IR.run F29.t25 C N O R (F29.fr a c f z3 z4 z5 o z7 z8 u zA zB zC) h nx = .ok True) :
  IR.run F29.t26 C N O K (F29.fr a c f i d g o q s u b e l) h nx = .ok True := by
 rw [F29.t26]
 refine yP (fun m tm h nx => ∃ z3 z4 z5 z7 z8 zA zB zC, tm = (F29.fr a c f z3 z4 z5 o z7 z8 u zA zB zC) ∧ Inv m z5 z7 h nx) ?_ hm ⟨_, _, _, _, _, _, _, _, rfl, hi⟩
 rintro m tm h nx R ⟨z3, z4, z5, z7, z8, zA, zB, zC, rfl, hi⟩ hR
 exact step m z3 z4 z5 z7 z8 zA zB zC h nx R hi fun m' w3 w4 w5 w7 w8 wA wB wC h' nx' hlt hi' => hR m' _ h' nx' hlt ⟨_, _, _, _, _, _, _, _, rfl, hi'⟩
theorem F29.t30_s : IR.run F29.t30 C N O K (F29.fr a c f i d g o q s u b e l) h nx =
 sBin .add .int o (I 1) fun v1 => K (F29.fr a c f i d g v1 q s u b e l) h nx := by kernel_rfl
theorem F29.t33_L (Inv : Nat → AV → AV → T Blk → Pa → Prop) {m : Nat} (hm : m < N) (hi : Inv m g o h nx)
  (step : ∀ (m : Nat) (z3 z4 z5 z6 z7 z8 z9 zA zB zC : AV) (h : T Blk) (nx : Pa) (R : Ks Prop), Inv m z5 z6 h nx → (∀ (m' : Nat) (w3 w4 w5 w6 w7 w8 w9 wA wB wC : AV) (h' : T Blk) (nx' : Pa), m' < m → Inv m' w5 w6 h' nx' → R (F29.fr a c f w3 w4 w5 w6 w7 w8 w9 wA wB wC) h' nx' = .ok True) → IR.run F29.t32 C N O R (F29.fr a c f z3 z4 z5 z6 z7 z8 z9 zA zB zC) h nx = .ok True) :
  IR.run F29.t33 C N O K (F29.fr a c f i d g o q s u b e l) h nx = .ok True := by
 rw [F29.t33]
 refine yP (fun m tm h nx => ∃ z3 z4 z5 z6 z7 z8 z9 zA zB zC, tm = (F29.fr a c f z3 z4 z5 z6 z7 z8 z9 zA zB zC) ∧ Inv m z5 z6 h nx) ?_ hm ⟨_, _, _, _, _, _, _, _, _, _, rfl, hi⟩
 rintro m tm h nx R ⟨z3, z4, z5, z6, z7, z8, z9, zA, zB, zC, rfl, hi⟩ hR
 exact step m z3 z4 z5 z6 z7 z8 z9 zA zB zC h nx R hi fun m' w3 w4 w5 w6 w7 w8 w9 wA wB wC h' nx' hlt hi' => hR m' _ h' nx' hlt ⟨_, _, _, _, _, _, _, _, _, _, rfl, hi'⟩
theorem F29.t36_s : IR.run F29.t36 C N O K (F29.fr a c f i d g o q s u b e l) h nx =
 C.fn 100 (.of 100) [g] h nx fun v1 h2 n3 => K (F29.fr a c f v1 (.bool true) g o q s u b e l) h2 n3 := by kernel_rfl
theorem F29.tab : T.get none (.of 29) tbl = some F29 := by kernel_rfl
theorem F29.bind (k : T AV → OP) : yI F29.params [a0, a1, a2] F29.init k = k (F29.fr a0 a1 a2 .undef .undef .undef .undef .undef .undef .undef .undef .undef .undef) := by kernel_rfl
theorem F29.body_eq : F29.body = F29.t40 := by kernel_rfl
theorem F29.go : zY tbl N C (.of 29) [a0, a1, a2] h nx K0 = IR.run F29.t40 C N (fnO F29.res K0) (retK F29.res K0) (F29.fr a0 a1 a2 .undef .undef .undef .undef .undef .undef .undef .undef .undef .undef) h nx := by
 rw [zM F29.tab, F29.bind, F29.body_eq]; kernel_rfl
theorem F29.ret : retK F29.res K0 (F29.fr a c f i d g o q s u b e l) h nx = K0 (.tup [i, d]) h nx := by kernel_rfl
noncomputable def F4.t0 : IR := .reg [.q (.of 2) (.mv (.c (.bool false)))]
noncomputable def F4.t1 : IR := .reg [.w .push none (.call (.c (.fn 18 (.of 18) [])) []), .s (.not (.s 0)), .s (.mv (.s 0)), .p .push (some ((.s 0), false)) (.mv (.t (.of 0))), .w .push (some ((.s 1), false)) (.call (.c (.fn 19 (.of 19) [])) [(.s 0), (.c (I 3))]), .q (.of 9) (.pick (.s 2) (.c (.bool true)) (.s 0))]
noncomputable def F4.t2 : IR := .reg [.w .push none (.call (.c (.fn 18 (.of 18) [])) []), .q (.of 2) (.mv (.s 0))]
noncomputable def F4.t3 : IR := .seq F4.t2 .ret
noncomputable def F4.t4 : IR := .cond (.t (.of 9)) F4.t3 .skip
noncomputable def F4.t5 : IR := .seq F4.t1 F4.t4
noncomputable def F4.t6 : IR := .reg [.s (.mv (.t (.of 1))), .w .push none (.call (.c (.fn 25 (.of 25) [])) [(.s 0)]), .q (.of 3) (.mv (.s 0))]
noncomputable def F4.t7 : IR := .reg [.q (.of 4) (.mv (.c (I 0)))]
noncomputable def F4.t8 : IR := .reg [.s (.mv (.t (.of 4))), .s (.mv (.t (.of 0))), .s (.len (.s 0)), .s (.bin .lss .int (.s 2) (.s 0)), .s (.mv (.s 0)), .p .push (some ((.s 0), true)) (.mv (.t (.of 3))), .p .push (some ((.s 1), true)) (.bin .eql .int (.s 0) (.c (I 0))), .q (.of 10) (.pick (.s 2) (.s 0) (.c (.bool false)))]
noncomputable def F4.t9 : IR := .cond (.t (.of 10)) .skip (.exit 0)
noncomputable def F4.t10 : IR := .seq F4.t8 F4.t9
noncomputable def F4.t11 : IR := .reg [.s (.mv (.t (.of 0))), .s (.mv (.t (.of 4))), .s (.iaddr 2 (.s 1) (.s 0)), .s (.loadN 2 (.s 0)), .s (.mv (.t (.of 1))), .w .push none (.call (.c (.fn 26 (.of 26) [])) [(.s 1), (.s 0)]), .q (.of 3) (.mv (.s 0))]
noncomputable def F4.t12 : IR := .block 1 F4.t11
noncomputable def F4.t13 : IR := .reg [.s (.mv (.t (.of 4))), .s (.bin .add .int (.s 0) (.c (I 1))), .q (.of 4) (.mv (.s 0))]
noncomputable def F4.t14 : IR := .seq F4.t12 F4.t13
noncomputable def F4.t15 : IR := .seq F4.t10 F4.t14
noncomputable def F4.t16 : IR := .loop F4.t15
noncomputable def F4.t17 : IR := .block 0 F4.t16
noncomputable def F4.t18 : IR := .seq F4.t7 F4.t17
noncomputable def F4.r8_1 : List RO := .p .push (some ((.s 1), true)) (.len (.s 0)) :: .p .push (some ((.s 2), true)) (.bin .gtr .int (.s 0) (.c (I 0))) :: .q (.of 11) (.pick (.s 3) (.s 0) (.c (.bool false))) :: []
noncomputable def F4.r8_0 : List RO := .s (.mv (.t (.of 3))) :: .s (.bin .eql .int (.s 0) (.c (I 0))) :: .s (.mv (.s 0)) :: .p .push (some ((.s 0), true)) (.mv (.t (.of 1))) :: .p .push (some ((.s 1), true)) (.bin .gtr .int (.s 0) (.c (I 6))) :: .s (.pick (.s 2) (.s 0) (.c (.bool false))) :: .s (.mv (.s 0)) :: .p .push (some ((.s 0), true)) (.mv (.t (.of 0))) :: F4.r8_1
noncomputable def F4.t19 : IR := .reg F4.r8_0
noncomputable def F4.t20 : IR := .reg [.q (.of 2) (.mv (.c (.bool true)))]
noncomputable def F4.t21 : IR := .seq F4.t20 .ret
noncomputable def F4.t22 : IR := .cond (.t (.of 11)) F4.t21 .skip
noncomputable def F4.t23 : IR := .seq F4.t19 F4.t22
noncomputable def F4.t24 : IR := .reg [.s (.mv (.t (.of 0))), .s (.mv (.t (.of 1))), .w .push none (.call (.c (.fn 27 (.of 27) [])) [(.s 1), (.s 0)]), .s (.mv (.s 0)), .s (.ext 0 (.s 0)), .s (.ext 1 (.s 1)), .q (.of 5) (.mv (.s 1)), .q (.of 6) (.mv (.s 0))]
noncomputable def F4.t25 : IR := .reg [.s (.mv (.t (.of 3))), .q (.of 12) (.bin .neq .int (.s 0) (.c (I 0)))]
noncomputable def F4.t26 : IR := .reg [.s (.mv (.t (.of 5))), .s (.mv (.t (.of 6))), .s (.mv (.t (.of 3))), .w .push none (.call (.c (.fn 28 (.of 28) [])) [(.s 2), (.s 1), (.s 0), (.c .nils)]), .q (.of 2) (.mv (.s 0))]
noncomputable def F4.t27 : IR := .seq F4.t26 .ret
noncomputable def F4.t28 : IR := .cond (.t (.of 12)) F4.t27 .skip
noncomputable def F4.t29 : IR := .seq F4.t25 F4.t28
noncomputable def F4.t30 : IR := .reg [.s (.mv (.t (.of 0))), .s (.mv (.t (.of 1))), .w .push none (.call (.c (.fn 29 (.of 29) [])) [(.s 1), (.s 0), (.c (I 48))]), .s (.mv (.s 0)), .s (.ext 0 (.s 0)), .s (.ext 1 (.s 1)), .q (.of 7) (.mv (.s 1)), .q (.of 8) (.mv (.s 0))]
noncomputable def F4.t31 : IR := .reg [.s (.mv (.t (.of 8))), .q (.of 13) (.not (.s 0))]
noncomputable def F4.t32 : IR := .dreg [] [(.s (.mv (.t (.of 6))), 0, []), (.s (.bin .eql .int (.s 0) (.c (I 0))), 0, []), (.s (.mv (.s 0)), 0, []), (.p .push (some ((.s 0), true)) (.mv (.t (.of 5))), 0, []), (.p .push (some ((.s 1), true)) (.len (.s 0)), 0, []), (.p .push (some ((.s 2), true)) (.bin .gtr .int (.s 0) (.c (I 48))), 0, []), (.s (.pick (.s 3) (.s 0) (.c (.bool false))), 0, []), (.s (.mv (.s 0)), 0, []), (.p .push (some ((.s 0), true)) (.mv (.t (.of 5))), 0, []), (.p .push (some ((.s 1), true)) (.len (.s 0)), 0, []), (.p .push (some ((.s 2), true)) (.bin .leq .int (.s 0) (.c (I 1440))), 0, []), (.s (.pick (.s 3) (.s 0) (.c (.bool false))), 0, []), (.s (.mv (.s 0)), 0, []), (.p .push (some ((.s 0), true)) (.mv (.t (.of 5))), 1, []), (.p .push (some ((.s 1), true)) (.iaddr 2 (.s 0) (.c (I 0))), 1, []), (.p .push (some ((.s 2), true)) (.loadN 2 (.s 0)), 1, []), (.p .push (some ((.s 3), true)) (.mv (.t (.of 1))), 0, []), (.w .push (some ((.s 4), true)) (.call (.c (.fn 31 (.of 31) [])) [(.s 0)]), 0, []), (.w .push (some ((.s 5), true)) (.call (.c (.fn 30 (.of 30) [])) [(.s 2), (.s 0)]), 0, []), (.s (.pick (.s 6) (.s 0) (.c (.bool false))), 0, []), (.q (.of 2) (.mv (.s 0)), 0, [])]
noncomputable def F4.t33 : IR := .seq F4.t32 .ret
noncomputable def F4.t34 : IR := .cond (.t (.of 13)) F4.t33 .skip
noncomputable def F4.t35 : IR := .seq F4.t31 F4.t34
noncomputable def F4.t36 : IR := .reg [.s (.mv (.t (.of 5))), .s (.mv (.t (.of 6))), .s (.mv (.t (.of 7))), .w .push none (.call (.c (.fn 28 (.of 28) [])) [(.s 2), (.s 1), (.c (I 0)), (.s 0)]), .q (.of 2) (.mv (.s 0))]
noncomputable def F4.t37 : IR := .seq F4.t36 .ret
noncomputable def F4.t38 : IR := .seq F4.t35 F4.t37
noncomputable def F4.t39 : IR := .seq F4.t30 F4.t38
noncomputable def F4.t40 : IR := .seq F4.t29 F4.t39
noncomputable def F4.t41 : IR := .seq F4.t24 F4.t40
noncomputable def F4.t42 : IR := .seq F4.t23 F4.t41
noncomputable def F4.t43 : IR := .seq F4.t18 F4.t42
noncomputable def F4.t44 : IR := .seq F4.t6 F4.t43
noncomputable def F4.t45 : IR := .seq F4.t5 F4.t44
noncomputable def F4.t46 : IR := .seq F4.t0 F4.t45
theorem F4.t0_s : IR.run F4.t0 C N O K (F4.fr a c f i d g o q s u b e l p) h nx =
 K (F4.fr a c (.bool false) i d g o q s u b e l p) h nx := by kernel_rfl
theorem F4.t1_s : IR.run F4.t1 C N O K (F4.fr a c f i d g o q s u b e l p) h nx =
 C.fn 18 (.of 18) [] h nx fun v1 h2 n3 => sNot v1 fun v4 => sG v4 false (fun k => k a) fun v5 => sGW v4 false (fun k => C.fn 19 (.of 19) [v5, (I 3)] h2 n3 k) h2 n3 fun v6 h7 n8 => jJ v4 (.bool true) v6 fun v9 => K (F4.fr a c f i d g o q s v9 b e l p) h7 n8 := by kernel_rfl
theorem F4.t2_s : IR.run F4.t2 C N O K (F4.fr a c f i d g o q s u b e l p) h nx =
 C.fn 18 (.of 18) [] h nx fun v1 h2 n3 => K (F4.fr a c v1 i d g o q s u b e l p) h2 n3 := by kernel_rfl
theorem F4.v9 : Arg.ev (.t (.of 9)) ⟨(F4.fr a c f i d g o q s u b e l p), []⟩ = u := by kernel_rfl
theorem F4.t6_s : IR.run F4.t6 C N O K (F4.fr a c f i d g o q s u b e l p) h nx =
 C.fn 25 (.of 25) [c] h nx fun v1 h2 n3 => K (F4.fr a c f v1 d g o q s u b e l p) h2 n3 := by kernel_rfl
theorem F4.t7_s : IR.run F4.t7 C N O K (F4.fr a c f i d g o q s u b e l p) h nx =
 K (F4.fr a c f i (I 0) g o q s u b e l p) h nx := by kernel_rfl
theorem F4.t8_s : IR.run F4.t8 C N O K (F4.fr a c f i d g o q s u b e l p) h nx =
 sLen a fun v1 => sBin .lss .int d v1 fun v2 => sG v2 true (fun k => k i) fun v3 => sG v2 true (fun k => sBin .eql .int v3 (I 0) k) fun v4 => jJ v2 v4 (.bool false) fun v5 => K (F4.fr a c f i d g o q s u v5 e l p) h nx := by kernel_rfl
theorem F4.v10 : Arg.ev (.t (.of 10)) ⟨(F4.fr a c f i d g o q s u b e l p), []⟩ = b := by kernel_rfl
theorem F4.t11_s : IR.run F4.t11 C N O K (F4.fr a c f i d g o q s u b e l p) h nx =
 zO 2 a d fun v1 => zH 2 v1 h fun v2 => C.fn 26 (.of 26) [v2, c] h nx fun v3 h4 n5 => K (F4.fr a c f v3 d g o q s u b e l p) h4 n5 := by kernel_rfl
theorem F4.t13_s : IR.run F4.t13 C N O K (F4.fr a c f i d g o q s u b e l p) h nx =
 sBin .add .int d (I 1) fun v1 => K (F4.fr a c f i v1 g o q s u b e l p) h nx := by kernel_rfl
theorem F4.t16_L (Inv : Nat → AV → AV → T Blk → Pa → Prop) {m : Nat} (hm : m < N) (hi : Inv m i d h nx)
  (step : ∀ (m : Nat) (z3 z4 zA : AV) (h : T Blk) (nx : Pa) (R : Ks Prop), Inv m z3 z4 h nx → (∀ (m' : Nat) (w3 w4 wA : AV) (h' : T Blk) (nx' : Pa), m' < m → Inv m' w3 w4 h' nx' → R (F4.fr a c f w3 w4 g o q s u wA e l p) h' nx' = .ok True) → IR.run F4.t15 C N O R (F4.fr a c f z3 z4 g o q s u zA e l p) h nx = .ok True) :
  IR.run F4.t16 C N O K (F4.fr a c f i d g o q s u b e l p) h nx = .ok True := by
 rw [F4.t16]
 refine yP (fun m tm h nx => ∃ z3 z4 zA, tm = (F4.fr a c f z3 z4 g o q s u zA e l p) ∧ Inv m z3 z4 h nx) ?_ hm ⟨_, _, _, rfl, hi⟩
 rintro m tm h nx R ⟨z3, z4, zA, rfl, hi⟩ hR
 exact step m z3 z4 zA h nx R hi fun m' w3 w4 wA h' nx' hlt hi' => hR m' _ h' nx' hlt ⟨_, _, _, rfl, hi'⟩
theorem F4.t19_s : IR.run F4.t19 C N O K tm h nx = p8 F4.r8_0 C ⟨tm, []⟩ h nx (fun tm h nx => K tm.v h nx) := srun_reg ..
theorem F4.r8_0_g : p8 (.s (.mv (.t (.of 3))) :: .s (.bin .eql .int (.s 0) (.c (I 0))) :: .s (.mv (.s 0)) :: .p .push (some ((.s 0), true)) (.mv (.t (.of 1))) :: .p .push (some ((.s 1), true)) (.bin .gtr .int (.s 0) (.c (I 6))) :: .s (.pick (.s 2) (.s 0) (.c (.bool false))) :: .s (.mv (.s 0)) :: .p .push (some ((.s 0), true)) (.mv (.t (.of 0))) :: r) C ⟨(F4.fr a c f i d g o q s u b e l p), []⟩ h nx Kt =
 sBin .eql .int i (I 0) fun v1 => sG v1 true (fun k => k c) fun v2 => sG v1 true (fun k => sBin .gtr .int v2 (I 6) k) fun v3 => jJ v1 v3 (.bool false) fun v4 => sG v4 true (fun k => k a) fun v5 => p8 r C ⟨(F4.fr a c f i d g o q s u b e l p), v5 :: v4 :: v4 :: v3 :: v2 :: v1 :: v1 :: i :: []⟩ h nx Kt := by kernel_rfl
theorem F4.r8_1_g : p8 (.p .push (some ((.s 1), true)) (.len (.s 0)) :: .p .push (some ((.s 2), true)) (.bin .gtr .int (.s 0) (.c (I 0))) :: .q (.of 11) (.pick (.s 3) (.s 0) (.c (.bool false))) :: []) C ⟨(F4.fr a c f i d g o q s u b e l p), s0 :: s1 :: s2 :: s3 :: s4 :: s5 :: s6 :: s7 :: []⟩ h nx Kt =
 sG s1 true (fun k => sLen s0 k) fun v1 => sG s1 true (fun k => sBin .gtr .int v1 (I 0) k) fun v2 => jJ s1 v2 (.bool false) fun v3 => Kt ⟨(F4.fr a c f i d g o q s u b v3 l p), v2 :: v1 :: s0 :: s1 :: s2 :: s3 :: s4 :: s5 :: s6 :: s7 :: []⟩ h nx := by kernel_rfl
theorem F4.t20_s : IR.run F4.t20 C N O K (F4.fr a c f i d g o q s u b e l p) h nx =
 K (F4.fr a c (.bool true) i d g o q s u b e l p) h nx := by kernel_rfl
theorem F4.v11 : Arg.ev (.t (.of 11)) ⟨(F4.fr a c f i d g o q s u b e l p), []⟩ = e := by kernel_rfl
theorem F4.t24_s : IR.run F4.t24 C N O K (F4.fr a c f i d g o q s u b e l p) h nx =
 C.fn 27 (.of 27) [a, c] h nx fun v1 h2 n3 => sExt 0 v1 fun v4 => sExt 1 v1 fun v5 => K (F4.fr a c f i d v4 v5 q s u b e l p) h2 n3 := by kernel_rfl
theorem F4.t25_s : IR.run F4.t25 C N O K (F4.fr a c f i d g o q s u b e l p) h nx =
 sBin .neq .int i (I 0) fun v1 => K (F4.fr a c f i d g o q s u b e v1 p) h nx := by kernel_rfl
theorem F4.t26_s : IR.run F4.t26 C N O K (F4.fr a c f i d g o q s u b e l p) h nx =
 C.fn 28 (.of 28) [g, o, i, .nils] h nx fun v1 h2 n3 => K (F4.fr a c v1 i d g o q s u b e l p) h2 n3 := by kernel_rfl
theorem F4.v12 : Arg.ev (.t (.of 12)) ⟨(F4.fr a c f i d g o q s u b e l p), []⟩ = l := by kernel_rfl
theorem F4.t30_s : IR.run F4.t30 C N O K (F4.fr a c f i d g o q s u b e l p) h nx =
 C.fn 29 (.of 29) [a, c, (I 48)] h nx fun v1 h2 n3 => sExt 0 v1 fun v4 => sExt 1 v1 fun v5 => K (F4.fr a c f i d g o v4 v5 u b e l p) h2 n3 := by kernel_rfl
theorem F4.t31_s : IR.run F4.t31 C N O K (F4.fr a c f i d g o q s u b e l p) h nx =
 sNot s fun v1 => K (F4.fr a c f i d g o q s u b e l v1) h nx := by kernel_rfl
theorem F4.t32_s : IR.run F4.t32 C N O K (F4.fr a c f i d g o q s u b e l p) h nx =
 sBin .eql .int o (I 0) fun v1 => sG v1 true (fun k => k g) fun v2 => sG v1 true (fun k => sLen v2 k) fun v3 => sG v1 true (fun k => sBin .gtr .int v3 (I 48) k) fun v4 => jJ v1 v4 (.bool false) fun v5 => sG v5 true (fun k => k g) fun v6 => sG v5 true (fun k => sLen v6 k) fun v7 => sG v5 true (fun k => sBin .leq .int v7 (I 1440) k) fun v8 => jJ v5 v8 (.bool false) fun v9 => bif gOk v9 true then (bif gOk v9 true then (zO 2 g (I 0) fun vB => bif gOk v9 true then (zH 2 vB h fun vC => sG v9 true (fun k => k c) fun vD => sGW v9 true (fun k => C.fn 31 (.of 31) [vD] h nx fun vH h18 n19 => (zH 2 vB h18 fun vL => zG vL vC ((zO 2 g (I 0) fun vK => zG vK vB (zG g g (k vH h18 n19)))))) h nx fun vE hA nA => sGW v9 true (fun k => C.fn 30 (.of 30) [vC, vE] hA nA k) hA nA fun vM hL nM => jJ v9 vM (.bool false) fun v25 => K (F4.fr a c v25 i d g o q s u b e l p) hL nM) else (sG v9 true (fun k => k c) fun vV => sGW v9 true (fun k => C.fn 31 (.of 31) [vV] h nx fun vR hO nP => (zO 2 g (I 0) fun vZ => zG vZ vB (zG g g (k vR hO nP)))) h nx fun vU hN nO => sGW v9 true (fun k => C.fn 30 (.of 30) [.undef, vU] hN nO k) hN nO fun vY h35 n36 => jJ v9 vY (.bool false) fun v37 => K (F4.fr a c v37 i d g o q s u b e l p) h35 n36)) else (bif gOk v9 true then (zH 2 .undef h fun v38 => sG v9 true (fun k => k c) fun v39 => sGW v9 true (fun k => C.fn 31 (.of 31) [v39] h nx fun v43 h44 n45 => (zH 2 .undef h44 fun v46 => zG v46 v38 (zG g g (k v43 h44 n45)))) h nx fun v40 h41 n42 => sGW v9 true (fun k => C.fn 30 (.of 30) [v38, v40] h41 n42 k) h41 n42 fun v47 h48 n49 => jJ v9 v47 (.bool false) fun v50 => K (F4.fr a c v50 i d g o q s u b e l p) h48 n49) else (sG v9 true (fun k => k c) fun v51 => sGW v9 true (fun k => C.fn 31 (.of 31) [v51] h nx fun v55 h56 n57 => zG g g (k v55 h56 n57)) h nx fun v52 h53 n54 => sGW v9 true (fun k => C.fn 30 (.of 30) [.undef, v52] h53 n54 k) h53 n54 fun v58 h59 n60 => jJ v9 v58 (.bool false) fun v61 => K (F4.fr a c v61 i d g o q s u b e l p) h59 n60))) else (bif gOk v9 true then (zO 2 .undef (I 0) fun v62 => bif gOk v9 true then (zH 2 v62 h fun v63 => sG v9 true (fun k => k c) fun v64 => sGW v9 true (fun k => C.fn 31 (.of 31) [v64] h nx fun v68 h69 n70 => (zH 2 v62 h69 fun v72 => zG v72 v63 ((zO 2 .undef (I 0) fun v71 => zG v71 v62 (k v68 h69 n70))))) h nx fun v65 h66 n67 => sGW v9 true (fun k => C.fn 30 (.of 30) [v63, v65] h66 n67 k) h66 n67 fun v73 h74 n75 => jJ v9 v73 (.bool false) fun v76 => K (F4.fr a c v76 i d g o q s u b e l p) h74 n75) else (sG v9 true (fun k => k c) fun v77 => sGW v9 true (fun k => C.fn 31 (.of 31) [v77] h nx fun v81 h82 n83 => (zO 2 .undef (I 0) fun v84 => zG v84 v62 (k v81 h82 n83))) h nx fun v78 h79 n80 => sGW v9 true (fun k => C.fn 30 (.of 30) [.undef, v78] h79 n80 k) h79 n80 fun v85 h86 n87 => jJ v9 v85 (.bool false) fun v88 => K (F4.fr a c v88 i d g o q s u b e l p) h86 n87)) else (bif gOk v9 true then (zH 2 .undef h fun v89 => sG v9 true (fun k => k c) fun v90 => sGW v9 true (fun k => C.fn 31 (.of 31) [v90] h nx fun v94 h95 n96 => (zH 2 .undef h95 fun v97 => zG v97 v89 (k v94 h95 n96))) h nx fun v91 h92 n93 => sGW v9 true (fun k => C.fn 30 (.of 30) [v89, v91] h92 n93 k) h92 n93 fun v98 h99 n100 => jJ v9 v98 (.bool false) fun v101 => K (F4.fr a c v101 i d g o q s u b e l p) h99 n100) else (sG v9 true (fun k => k c) fun v102 => sGW v9 true (fun k => C.fn 31 (.of 31) [v102] h nx k) h nx fun v103 h104 n105 => sGW v9 true (fun k => C.fn 30 (.of 30) [.undef, v103] h104 n105 k) h104 n105 fun v106 h107 n108 => jJ v9 v106 (.bool false) fun v109 => K (F4.fr a c v109 i d g o q s u b e l p) h107 n108))) := by kernel_rfl
theorem F4.v13 : Arg.ev (.t (.of 13)) ⟨(F4.fr a c f i d g o q s u b e l p), []⟩ = p := by kernel_rfl
theorem F4.t36_s : IR.run F4.t36 C N O K (F4.fr a c f i d g o q s u b e l p) h nx =
 C.fn 28 (.of 28) [g, o, (I 0), q] h nx fun v1 h2 n3 => K (F4.fr a c v1 i d g o q s u b e l p) h2 n3 := by kernel_rfl
theorem F4.tab : T.get none (.of 4) tbl = some F4 := by kernel_rfl
theorem F4.bind (k : T AV → OP) : yI F4.params [a0, a1] F4.init k = k (F4.fr a0 a1 .undef .undef .undef .undef .undef .undef .undef .undef .undef .undef .undef .undef) := by kernel_rfl
theorem F4.body_eq : F4.body = F4.t46 := by kernel_rfl
theorem F4.go : zY tbl N C (.of 4) [a0, a1] h nx K0 = IR.run F4.t46 C N (fnO F4.res K0) (retK F4.res K0) (F4.fr a0 a1 .undef .undef .undef .undef .undef .undef .undef .undef .undef .undef .undef .undef) h nx := by
 rw [zM F4.tab, F4.bind, F4.body_eq]; kernel_rfl
theorem F4.ret : retK F4.res K0 (F4.fr a c f i d g o q s u b e l p) h nx = K0 f h nx := by kernel_rfl
end
end Go.Ev
namespace Go.Ev
open Go Go.Proofs
set_option maxRecDepth 100000
section
variable {N : Nat} {C : Calls Prop} {K0 : Kw Prop} {K : Ks Prop} {h : T Blk} {nx : Pa} {a c f i d a0 : AV} {O : Outs Prop} {tm : T AV} {Kt : KTm} {r : List RO} {s0 s1 s2 s3 s4 s5 s6 s7 s8 s9 s10 s11 s12 s13 s14 s15 s16 s17 s18 s19 s20 s21 s22 s23 s24 s25 s26 s27 s28 s29 s30 s31 s32 s33 s34 s35 s36 s37 s38 s39 : AV}
noncomputable def F31.t0 : IR := .reg [.w (.loc (.of 1)) none (.alloc [.nils, (.bool false)])]
noncomputable def F31.t1 : IR := .reg [.s (.mv (.t (.of 0))), .w .push none (.call (.c (.fn 101 (.of 101) [])) [(.s 0)]), .s (.build [.nils, (.bool false)] [(0, 1, (.s 0))]), .w .none none (.store 2 (.t (.of 1)) (.s 0))]
noncomputable def F31.t2 : IR := .seq F31.t1 .ret
noncomputable def F31.t3 : IR := .seq F31.t0 F31.t2
theorem F31.t0_s : IR.run F31.t0 C N O K (F31.fr a c) h nx =
 yG [.nils, (.bool false)] h nx fun v1 h2 n3 => K (F31.fr a v1) h2 n3 := by kernel_rfl
theorem F31.t1_s : IR.run F31.t1 C N O K (F31.fr a c) h nx =
 C.fn 101 (.of 101) [a] h nx fun v1 h2 n3 => uR [.nils, (.bool false)] [(0, 1, v1)] fun v4 => zN 2 c v4 h2 n3 fun v5 h6 n7 => K (F31.fr a c) h6 n7 := by kernel_rfl
theorem F31.tab : T.get none (.of 31) tbl = some F31 := by kernel_rfl
theorem F31.bind (k : T AV → OP) : yI F31.params [a0] F31.init k = k (F31.fr a0 .undef) := by kernel_rfl
theorem F31.body_eq : F31.body = F31.t3 := by kernel_rfl
theorem F31.go : zY tbl N C (.of 31) [a0] h nx K0 = IR.run F31.t3 C N (fnO F31.res K0) (retK F31.res K0) (F31.fr a0 .undef) h nx := by
 rw [zM F31.tab, F31.bind, F31.body_eq]; kernel_rfl
theorem F31.ret : retK F31.res K0 (F31.fr a c) h nx = zH 2 c h fun v1 => K0 v1 h nx := by kernel_rfl
noncomputable def F101.t0 : IR := .reg [.q (.of 1) (.mv (.c .nils))]
noncomputable def F101.t1 : IR := .reg [.q (.of 2) (.mv (.c .nils))]
noncomputable def F101.t2 : IR := .reg [.q (.of 3) (.mv (.c (I 0)))]
noncomputable def F101.t3 : IR := .reg [.s (.mv (.t (.of 3))), .s (.mv (.t (.of 0))), .q (.of 4) (.bin .lss .int (.s 1) (.s 0))]
noncomputable def F101.t4 : IR := .cond (.t (.of 4)) .skip (.exit 0)
noncomputable def F101.t5 : IR := .seq F101.t3 F101.t4
noncomputable def F101.t6 : IR := .reg [.s (.mv (.t (.of 2))), .s (.mv (.t (.of 3))), .w .push none (.bslice 1 1 [(I 0)] [(0, 1, (.s 0))]), .w .push none (.app 1 8 (.s 2) (.s 0)), .q (.of 2) (.mv (.s 0))]
noncomputable def F101.t7 : IR := .block 1 F101.t6
noncomputable def F101.t8 : IR := .reg [.s (.mv (.t (.of 3))), .s (.bin .add .int (.s 0) (.c (I 1))), .q (.of 3) (.mv (.s 0))]
noncomputable def F101.t9 : IR := .seq F101.t7 F101.t8
noncomputable def F101.t10 : IR := .seq F101.t5 F101.t9
noncomputable def F101.t11 : IR := .loop F101.t10
noncomputable def F101.t12 : IR := .block 0 F101.t11
noncomputable def F101.t13 : IR := .seq F101.t2 F101.t12
noncomputable def F101.t14 : IR := .reg [.s (.mv (.t (.of 2))), .q (.of 1) (.mv (.s 0))]
noncomputable def F101.t15 : IR := .seq F101.t14 .ret
noncomputable def F101.t16 : IR := .seq F101.t13 F101.t15
noncomputable def F101.t17 : IR := .seq F101.t1 F101.t16
noncomputable def F101.t18 : IR := .seq F101.t0 F101.t17
theorem F101.t0_s : IR.run F101.t0 C N O K (F101.fr a c f i d) h nx =
 K (F101.fr a .nils f i d) h nx := by kernel_rfl
theorem F101.t1_s : IR.run F101.t1 C N O K (F101.fr a c f i d) h nx =
 K (F101.fr a c .nils i d) h nx := by kernel_rfl
theorem F101.t2_s : IR.run F101.t2 C N O K (F101.fr a c f i d) h nx =
 K (F101.fr a c f (I 0) d) h nx := by kernel_rfl
theorem F101.t3_s : IR.run F101.t3 C N O K (F101.fr a c f i d) h nx =
 sBin .lss .int i a fun v1 => K (F101.fr a c f i v1) h nx := by kernel_rfl
theorem F101.v4 : Arg.ev (.t (.of 4)) ⟨(F101.fr a c f i d), []⟩ = d := by kernel_rfl
theorem F101.t6_s : IR.run F101.t6 C N O K (F101.fr a c f i d) h nx =
 yY 1 1 [(I 0)] [(0, 1, i)] h nx fun v1 h2 n3 => sApp 1 8 f v1 h2 n3 fun v4 h5 n6 => K (F101.fr a c v4 i d) h5 n6 := by kernel_rfl
theorem F101.t8_s : IR.run F101.t8 C N O K (F101.fr a c f i d) h nx =
 sBin .add .int i (I 1) fun v1 => K (F101.fr a c f v1 d) h nx := by kernel_rfl
theorem F101.t11_L (Inv : Nat → AV → AV → T Blk → Pa → Prop) {m : Nat} (hm : m < N) (hi : Inv m f i h nx)
  (step : ∀ (m : Nat) (z2 z3 z4 : AV) (h : T Blk) (nx : Pa) (R : Ks Prop), Inv m z2 z3 h nx → (∀ (m' : Nat) (w2 w3 w4 : AV) (h' : T Blk) (nx' : Pa), m' < m → Inv m' w2 w3 h' nx' → R (F101.fr a c w2 w3 w4) h' nx' = .ok True) → IR.run F101.t10 C N O R (F101.fr a c z2 z3 z4) h nx = .ok True) :
  IR.run F101.t11 C N O K (F101.fr a c f i d) h nx = .ok True := by
 rw [F101.t11]
 refine yP (fun m tm h nx => ∃ z2 z3 z4, tm = (F101.fr a c z2 z3 z4) ∧ Inv m z2 z3 h nx) ?_ hm ⟨_, _, _, rfl, hi⟩
 rintro m tm h nx R ⟨z2, z3, z4, rfl, hi⟩ hR
 exact step m z2 z3 z4 h nx R hi fun m' w2 w3 w4 h' nx' hlt hi' => hR m' _ h' nx' hlt ⟨_, _, _, rfl, hi'⟩
theorem F101.t14_s : IR.run F101.t14 C N O K (F101.fr a c f i d) h nx =
 K (F101.fr a f f i d) h nx := by kernel_rfl
theorem F101.tab : T.get none (.of 101) tbl = some F101 := by kernel_rfl
theorem F101.bind (k : T AV → OP) : yI F101.params [a0] F101.init k = k (F101.fr a0 .undef .undef .undef .undef) := by kernel_rfl
theorem F101.body_eq : F101.body = F101.t18 := by kernel_rfl
theorem F101.go : zY tbl N C (.of 101) [a0] h nx K0 = IR.run F101.t18 C N (fnO F101.res K0) (retK F101.res K0) (F101.fr a0 .undef .undef .undef .undef) h nx := by
 rw [zM F101.tab, F101.bind, F101.body_eq]; kernel_rfl
theorem F101.ret : retK F101.res K0 (F101.fr a c f i d) h nx = K0 c h nx := by kernel_rfl
end
end Go.Ev
