import Derived.Test.YtkjkjpmahgeneaaGreatDoorIrT
import Derived.KernelRfl
import Derived.Test.YtkjkjpmahgeneaaGreatDoorEvD
set_option linter.unusedSimpArgs false
set_option linter.unusedVariables false
namespace Go.Ev
open Go Go.Proofs
set_option maxRecDepth 100000
variable {N : Nat} {C : Calls Prop} {K0 : Kw Prop} {K R : Ks Prop} {h : T Blk} {nx : Pa} {c e f o g l p a0 a1 a2 : AV}
theorem F93.g2_eq (X3 : IR) (O : Outs Prop) (t : T AV) : IR.run (F93.g2 X3) C N O K t h nx = IR.run X3 C N (O.blk 0 K) K t h nx := by kernel_rfl
theorem F93.tab : T.get none (.of 93) tbl = some F93 := by kernel_rfl
theorem F93.go : zT tbl N C (.of 93) [a0] h nx K0 =
 sLen a0 fun v1 => sBin .gtr .int v1 (I 256) fun v2 => yM v2 (K0 (I 5) h nx) (sLen a0 fun v3 => gD 1 1 [(.bool false)] v3 v3 h nx fun v4 h5 n6 => IR.run F93.b2 C N (fnO F93.res K0) (IR.run F93.b10 C N (fnO F93.res K0) (retK F93.res K0)) (F93.fr a0 (I 0) v4 (I 0) v2 .undef .undef) h5 n6) := by
 rw [zM F93.tab]; kernel_rfl
theorem F93.L2 (Inv : Nat → AV → T Blk → Pa → Prop) {m : Nat} (hm : m < N) (hi : Inv m o h nx)
  (step : ∀ (m : Nat) (z1 z3 z5 z6 : AV) (h : T Blk) (nx : Pa) (R : Ks Prop), Inv m z3 h nx → (∀ (m' : Nat) (w1 w3 w5 w6 : AV) (h' : T Blk) (nx' : Pa), m' < m → Inv m' w3 h' nx' → R (F93.fr c w1 f w3 g w5 w6) h' nx' = .ok True) →
   (sLen c fun v1 => sBin .lss .int z3 v1 fun v2 => yM v2 (zZ 1 c z3 fun v3 => zF v3 h fun v4 => sBin .lss .int v4 (I 0) fun v5 => sG v5 false (fun k => k c) fun v6 => sG v5 false (fun k => k z3) fun v7 => sG v5 false (fun k => zZ 1 v6 v7 k) fun v8 => sG v5 false (fun k => zF v8 h k) fun v9 => sG v5 false (fun k => k c) fun vA => sG v5 false (fun k => sLen vA k) fun vB => sG v5 false (fun k => sBin .geq .int v9 vB k) fun vC => gO v5 (.bool true) vC fun vD => sG vD false (fun k => k f) fun vE => sG vD false (fun k => k c) fun vF => sG vD false (fun k => k z3) fun vG => sG vD false (fun k => zZ 1 vF vG k) fun vH => sG vD false (fun k => zF vH h k) fun vI => sG vD false (fun k => zZ 1 vE vI k) fun vJ => sG vD false (fun k => zF vJ h k) fun vK => gO vD (.bool true) vK fun vL => yM vL (K0 (I 14) h nx) ((IR.run F93.b8 C N (((fnO F93.res K0).blk 0 K).blk 1 (IR.run F93.b9 C N ((fnO F93.res K0).blk 0 K) R)) (IR.run F93.b9 C N ((fnO F93.res K0).blk 0 K) R)) (F93.fr c z1 f z3 g v2 vL) h nx)) (K (F93.fr c z1 f z3 g v2 z6) h nx)) = .ok True) :
  IR.run F93.b2 C N (fnO F93.res K0) K (F93.fr c e f o g l p) h nx = .ok True := by
 rw [F93.b2, F93.g2_eq, F93.b3]
 refine yR (fun m tm h nx => ∃ z1 z3 z5 z6, tm = (F93.fr c z1 f z3 g z5 z6) ∧ Inv m z3 h nx) ?_ hm ⟨_, _, _, _, rfl, hi⟩
 rintro m tm h nx R ⟨z1, z3, z5, z6, rfl, hi⟩ hR
 refine Eq.trans ?_ (step m z1 z3 z5 z6 h nx R hi fun m' w1 w3 w5 w6 h' nx' hlt hi' => hR m' _ h' nx' hlt ⟨_, _, _, _, rfl, hi'⟩)
 kernel_rfl
theorem F93.k10 : IR.run F93.b10 C N (fnO F93.res K0) K (F93.fr c e f o g l p) h nx =
 K0 (I 0) h nx := by kernel_rfl
theorem F93.k9 {E0 : Ks Prop} : IR.run F93.b9 C N ((fnO F93.res K0).blk 0 E0) K (F93.fr c e f o g l p) h nx =
 sBin .add .int o (I 1) fun v1 => K (F93.fr c e f v1 g l p) h nx := by kernel_rfl
theorem F93.k8 {E0 E1 : Ks Prop} : IR.run F93.b8 C N (((fnO F93.res K0).blk 0 E0).blk 1 E1) K (F93.fr c e f o g l p) h nx =
 zZ 1 c o fun v1 => zF v1 h fun v2 => zZ 1 f v2 fun v3 => zL 1 v3 (.bool true) h nx fun v4 h5 n6 => K (F93.fr c e f o g l p) h5 n6 := by kernel_rfl
theorem F26.tab : T.get none (.of 26) tbl = some F26 := by kernel_rfl
theorem F26.go : zT tbl N C (.of 26) [a0, a1] h nx K0 =
 sBox a0 h nx fun v1 h2 n3 => C.fn 25 (.of 25) [a1] h2 n3 fun v4 h5 n6 => sBin .neq .int v4 (I 0) fun v7 => yM v7 (K0 (I 3) h5 n6) (zW 0 v1 fun v8 => zF v8 h5 fun v9 => sLen v9 fun vA => sBin .neq .int vA a1 fun vB => yM vB (K0 (I 2) h5 n6) (zW 0 v1 fun vC => zF vC h5 fun vD => C.fn 93 (.of 93) [vD] h5 n6 fun vE hA nA => K0 vE hA nA)) := by
 rw [zM F26.tab]; kernel_rfl
theorem F25.tab : T.get none (.of 25) tbl = some F25 := by kernel_rfl
theorem F25.go : zT tbl N C (.of 25) [a0] h nx K0 =
 sBin .lss .int a0 (I 0) fun v1 => sG v1 false (fun k => k a0) fun v2 => sG v1 false (fun k => sBin .gtr .int v2 (I 256) k) fun v3 => gO v1 (.bool true) v3 fun v4 => yM v4 (K0 (I 3) h nx) (K0 (I 0) h nx) := by
 rw [zM F25.tab]; kernel_rfl
end Go.Ev
namespace Go.Ev
open Go Go.Proofs
set_option maxRecDepth 100000
variable {N : Nat} {C : Calls Prop} {K0 : Kw Prop} {K R : Ks Prop} {h : T Blk} {nx : Pa} {c e f o g l p q v a0 a1 : AV}
end Go.Ev
namespace Go.Ev
open Go Go.Proofs
set_option maxRecDepth 100000
variable {N : Nat} {C : Calls Prop} {K0 : Kw Prop} {K R : Ks Prop} {h : T Blk} {nx : Pa} {c e f o g l p a0 a1 : AV}
theorem F82.g2_eq (X3 : IR) (O : Outs Prop) (t : T AV) : IR.run (F82.g2 X3) C N O K t h nx = IR.run X3 C N (O.blk 0 K) K t h nx := by kernel_rfl
theorem F82.tab : T.get none (.of 82) tbl = some F82 := by kernel_rfl
theorem F82.go : zT tbl N C (.of 82) [a0, a1] h nx K0 =
 sLen a0 fun v1 => sLen a1 fun v2 => sBin .neq .int v1 v2 fun v3 => yM v3 (K0 (.bool false) h nx) (IR.run F82.b2 C N (fnO F82.res K0) (IR.run F82.b9 C N (fnO F82.res K0) (retK F82.res K0)) (F82.fr a0 a1 (.bool false) (I 0) v3 .undef .undef) h nx) := by
 rw [zM F82.tab]; kernel_rfl
theorem F82.L2 (Inv : Nat → AV → T Blk → Pa → Prop) {m : Nat} (hm : m < N) (hi : Inv m o h nx)
  (step : ∀ (m : Nat) (z2 z3 z5 z6 : AV) (h : T Blk) (nx : Pa) (R : Ks Prop), Inv m z3 h nx → (∀ (m' : Nat) (w2 w3 w5 w6 : AV) (h' : T Blk) (nx' : Pa), m' < m → Inv m' w3 h' nx' → R (F82.fr c e w2 w3 g w5 w6) h' nx' = .ok True) →
   (sLen c fun v1 => sBin .lss .int z3 v1 fun v2 => yM v2 (zZ 1 c z3 fun v3 => zF v3 h fun v4 => zZ 1 e z3 fun v5 => zF v5 h fun v6 => sBin .neq .int v4 v6 fun v7 => yM v7 (K0 (.bool false) h nx) (sBin .add .int z3 (I 1) fun v8 => R (F82.fr c e z2 v8 g v2 v7) h nx)) (K (F82.fr c e z2 z3 g v2 z6) h nx)) = .ok True) :
  IR.run F82.b2 C N (fnO F82.res K0) K (F82.fr c e f o g l p) h nx = .ok True := by
 rw [F82.b2, F82.g2_eq, F82.b3]
 refine yR (fun m tm h nx => ∃ z2 z3 z5 z6, tm = (F82.fr c e z2 z3 g z5 z6) ∧ Inv m z3 h nx) ?_ hm ⟨_, _, _, _, rfl, hi⟩
 rintro m tm h nx R ⟨z2, z3, z5, z6, rfl, hi⟩ hR
 refine Eq.trans ?_ (step m z2 z3 z5 z6 h nx R hi fun m' w2 w3 w5 w6 h' nx' hlt hi' => hR m' _ h' nx' hlt ⟨_, _, _, _, rfl, hi'⟩)
 kernel_rfl
theorem F82.k9 : IR.run F82.b9 C N (fnO F82.res K0) K (F82.fr c e f o g l p) h nx =
 K0 (.bool true) h nx := by kernel_rfl
theorem F106.tab : T.get none (.of 106) tbl = some F106 := by kernel_rfl
theorem F106.go : zT tbl N C (.of 106) [a0] h nx K0 =
 sBin .eql (.nil .sl) a0 .nils fun v1 => yM v1 (K0 .nils h nx) (jB 1 0 [(I 0)] [] h nx fun v2 h3 n4 => sApp 1 8 v2 a0 h3 n4 fun v5 h6 n7 => K0 v5 h6 n7) := by
 rw [zM F106.tab]; kernel_rfl
end Go.Ev
namespace Go.Ev
open Go Go.Proofs
set_option maxRecDepth 100000
variable {N : Nat} {C : Calls Prop} {K0 : Kw Prop} {K R : Ks Prop} {h : T Blk} {nx : Pa} {c e f o g l p q v a0 a1 : AV}
end Go.Ev
namespace Go.Ev
open Go Go.Proofs
set_option maxRecDepth 100000
variable {N : Nat} {C : Calls Prop} {K0 : Kw Prop} {K R : Ks Prop} {h : T Blk} {nx : Pa} {c e f o g l p q v a0 a1 a2 : AV}
end Go.Ev
namespace Go.Ev
open Go Go.Proofs
set_option maxRecDepth 100000
variable {N : Nat} {C : Calls Prop} {K0 : Kw Prop} {K R : Ks Prop} {h : T Blk} {nx : Pa} {c e f o g l p q v w a b d i a0 : AV}
end Go.Ev
namespace Go.Ev
open Go Go.Proofs
set_option maxRecDepth 100000
variable {N : Nat} {C : Calls Prop} {K0 : Kw Prop} {K R : Ks Prop} {h : T Blk} {nx : Pa} {c e f o g l p q a0 a1 a2 : AV}
theorem F136.tab : T.get none (.of 136) tbl = some F136 := by kernel_rfl
theorem F136.go : zT tbl N C (.of 136) [a0, a1] h nx K0 =
 C.fn 197 (.of 197) [a0, a1] h nx fun v1 h2 n3 => sBin .geq .int v1 (I 0) fun v4 => K0 v4 h2 n3 := by
 rw [zM F136.tab]; kernel_rfl
theorem F197.g1_eq (X2 : IR) (O : Outs Prop) (t : T AV) : IR.run (F197.g1 X2) C N O K t h nx = IR.run X2 C N (O.blk 0 K) K t h nx := by kernel_rfl
theorem F197.tab : T.get none (.of 197) tbl = some F197 := by kernel_rfl
theorem F197.go : zT tbl N C (.of 197) [a0, a1] h nx K0 =
 sLen a0 fun v1 => IR.run F197.b1 C N (fnO F197.res K0) (IR.run F197.b8 C N (fnO F197.res K0) (retK F197.res K0)) (F197.fr a0 a1 (I 0) .undef v1 (I 0) .undef .undef) h nx := by
 rw [zM F197.tab]; kernel_rfl
theorem F197.L1 (Inv : Nat → AV → T Blk → Pa → Prop) {m : Nat} (hm : m < N) (hi : Inv m l h nx)
  (step : ∀ (m : Nat) (z2 z3 z5 z6 z7 : AV) (h : T Blk) (nx : Pa) (R : Ks Prop), Inv m z5 h nx → (∀ (m' : Nat) (w2 w3 w5 w6 w7 : AV) (h' : T Blk) (nx' : Pa), m' < m → Inv m' w5 h' nx' → R (F197.fr c e w2 w3 g w5 w6 w7) h' nx' = .ok True) →
   (sBin .lss .int z5 g fun v1 => yM v1 (zZ 1 c z5 fun v2 => zF v2 h fun v3 => sCall C e [v3] h nx fun v4 h5 n6 => yM v4 (K0 z5 h5 n6) (sBin .add .int z5 (I 1) fun v7 => R (F197.fr c e z2 z5 g v7 v1 v4) h5 n6)) (K (F197.fr c e z2 z3 g z5 v1 z7) h nx)) = .ok True) :
  IR.run F197.b1 C N (fnO F197.res K0) K (F197.fr c e f o g l p q) h nx = .ok True := by
 rw [F197.b1, F197.g1_eq, F197.b2]
 refine yR (fun m tm h nx => ∃ z2 z3 z5 z6 z7, tm = (F197.fr c e z2 z3 g z5 z6 z7) ∧ Inv m z5 h nx) ?_ hm ⟨_, _, _, _, _, rfl, hi⟩
 rintro m tm h nx R ⟨z2, z3, z5, z6, z7, rfl, hi⟩ hR
 refine Eq.trans ?_ (step m z2 z3 z5 z6 z7 h nx R hi fun m' w2 w3 w5 w6 w7 h' nx' hlt hi' => hR m' _ h' nx' hlt ⟨_, _, _, _, _, rfl, hi'⟩)
 kernel_rfl
theorem F197.k8 : IR.run F197.b8 C N (fnO F197.res K0) K (F197.fr c e f o g l p q) h nx =
 K0 (I (-1)) h nx := by kernel_rfl
end Go.Ev
namespace Go.Ev
open Go Go.Proofs
set_option maxRecDepth 100000
variable {N : Nat} {C : Calls Prop} {K0 : Kw Prop} {K R : Ks Prop} {h : T Blk} {nx : Pa} {c e f o g l p q v w a b d i a0 a1 : AV}
end Go.Ev
namespace Go.Ev
open Go Go.Proofs
set_option maxRecDepth 100000
variable {N : Nat} {C : Calls Prop} {K0 : Kw Prop} {K R : Ks Prop} {h : T Blk} {nx : Pa} {c e f o g l p q v w a b d i s u z y a0 a1 : AV}
end Go.Ev
namespace Go.Ev
open Go Go.Proofs
set_option maxRecDepth 100000
variable {N : Nat} {C : Calls Prop} {K0 : Kw Prop} {K R : Ks Prop} {h : T Blk} {nx : Pa} {c e f o g l p q v w a b d i a0 a1 : AV}
theorem F201.g1_eq (X2 : IR) (O : Outs Prop) (t : T AV) : IR.run (F201.g1 X2) C N O K t h nx = IR.run X2 C N (O.blk 0 K) K t h nx := by kernel_rfl
theorem F201.tab : T.get none (.of 201) tbl = some F201 := by kernel_rfl
theorem F201.go : zT tbl N C (.of 201) [a0, a1] h nx K0 =
 sLen a0 fun v1 => IR.run F201.b1 C N (fnO F201.res K0) (IR.run F201.b9 C N (fnO F201.res K0) (retK F201.res K0)) (F201.fr a0 a1 (I 0) .undef .undef .undef .undef a0 v1 (I 0) .undef .undef .undef .undef) h nx := by
 rw [zM F201.tab]; kernel_rfl
theorem F201.L1 (Inv : Nat → AV → T Blk → Pa → Prop) {m : Nat} (hm : m < N) (hi : Inv m w h nx)
  (step : ∀ (m : Nat) (z2 z3 z4 z5 z6 z9 zA zB zC : AV) (h : T Blk) (nx : Pa) (R : Ks Prop), Inv m z9 h nx → (∀ (m' : Nat) (w2 w3 w4 w5 w6 w9 wA wB wC : AV) (h' : T Blk) (nx' : Pa), m' < m → Inv m' w9 h' nx' → R (F201.fr c e w2 w3 w4 w5 w6 q v w9 wA wB wC i) h' nx' = .ok True) →
   (sBin .lss .int z9 v fun v1 => yM v1 (zZ 1 q z9 fun v2 => zF v2 h fun v3 => sLen e fun v4 => sBin .geq .int z9 v4 fun v5 => yM v5 (K0 (I 1) h nx) (zZ 1 e z9 fun v6 => zF v6 h fun v7 => C.fn 244 (.of 244) [v3, v7] h nx fun v8 h9 nB => sBin .neq .int v8 (I 0) fun vB => yM vB (K0 v8 h9 nB) (sBin .add .int z9 (I 1) fun vC => R (F201.fr c e z2 z9 v3 v7 v8 q v vC v1 v5 vB i) h9 nB))) (K (F201.fr c e z2 z3 z4 z5 z6 q v z9 v1 zB zC i) h nx)) = .ok True) :
  IR.run F201.b1 C N (fnO F201.res K0) K (F201.fr c e f o g l p q v w a b d i) h nx = .ok True := by
 rw [F201.b1, F201.g1_eq, F201.b2]
 refine yR (fun m tm h nx => ∃ z2 z3 z4 z5 z6 z9 zA zB zC, tm = (F201.fr c e z2 z3 z4 z5 z6 q v z9 zA zB zC i) ∧ Inv m z9 h nx) ?_ hm ⟨_, _, _, _, _, _, _, _, _, rfl, hi⟩
 rintro m tm h nx R ⟨z2, z3, z4, z5, z6, z9, zA, zB, zC, rfl, hi⟩ hR
 refine Eq.trans ?_ (step m z2 z3 z4 z5 z6 z9 zA zB zC h nx R hi fun m' w2 w3 w4 w5 w6 w9 wA wB wC h' nx' hlt hi' => hR m' _ h' nx' hlt ⟨_, _, _, _, _, _, _, _, _, rfl, hi'⟩)
 kernel_rfl
theorem F201.k9 : IR.run F201.b9 C N (fnO F201.res K0) K (F201.fr c e f o g l p q v w a b d i) h nx =
 sLen c fun v1 => sLen e fun v2 => sBin .lss .int v1 v2 fun v3 => yM v3 (K0 (I (-1)) h nx) (K0 (I 0) h nx) := by kernel_rfl
theorem F244.tab : T.get none (.of 244) tbl = some F244 := by kernel_rfl
theorem F244.go : zT tbl N C (.of 244) [a0, a1] h nx K0 =
 C.fn 250 (.of 250) [a0] h nx fun v1 h2 n3 => C.fn 250 (.of 250) [a1] h2 n3 fun v4 h5 n6 => yM v1 (yM v4 (K0 (I 0) h5 n6) (K0 (I (-1)) h5 n6)) (yM v4 (K0 (I 1) h5 n6) (sBin .lss .int a0 a1 fun v7 => yM v7 (K0 (I (-1)) h5 n6) (sBin .gtr .int a0 a1 fun v8 => yM v8 (K0 (I 1) h5 n6) (K0 (I 0) h5 n6)))) := by
 rw [zM F244.tab]; kernel_rfl
theorem F250.tab : T.get none (.of 250) tbl = some F250 := by kernel_rfl
theorem F250.go : zT tbl N C (.of 250) [a0] h nx K0 =
 sBin .neq .int a0 a0 fun v1 => K0 v1 h nx := by
 rw [zM F250.tab]; kernel_rfl
end Go.Ev
namespace Go.Ev
open Go Go.Proofs
set_option maxRecDepth 100000
variable {N : Nat} {C : Calls Prop} {K0 : Kw Prop} {K R : Ks Prop} {h : T Blk} {nx : Pa} {c e f o g l p q v w a b a0 a1 : AV}
theorem F97.g1_eq (X2 : IR) (O : Outs Prop) (t : T AV) : IR.run (F97.g1 X2) C N O K t h nx = IR.run X2 C N (O.blk 0 K) K t h nx := by kernel_rfl
theorem F97.tab : T.get none (.of 97) tbl = some F97 := by kernel_rfl
theorem F97.go : zT tbl N C (.of 97) [a0, a1] h nx K0 =
 sLen a0 fun v1 => IR.run F97.b1 C N (fnO F97.res K0) (IR.run F97.b8 C N (fnO F97.res K0) (retK F97.res K0)) (F97.fr a0 a1 (I 0) .undef .undef a0 v1 (I 0) .undef .undef) h nx := by
 rw [zM F97.tab]; kernel_rfl
theorem F97.L1 (Inv : Nat → AV → T Blk → Pa → Prop) {m : Nat} (hm : m < N) (hi : Inv m q h nx)
  (step : ∀ (m : Nat) (z2 z3 z4 z7 z8 z9 : AV) (h : T Blk) (nx : Pa) (R : Ks Prop), Inv m z7 h nx → (∀ (m' : Nat) (w2 w3 w4 w7 w8 w9 : AV) (h' : T Blk) (nx' : Pa), m' < m → Inv m' w7 h' nx' → R (F97.fr c e w2 w3 w4 l p w7 w8 w9) h' nx' = .ok True) →
   (sBin .lss .int z7 p fun v1 => yM v1 (zZ 2 l z7 fun v2 => zH 2 v2 h fun v3 => yH [.nils, (.bool false)] h nx fun v4 h5 n6 => zL 2 v4 v3 h5 n6 fun v7 h8 n9 => zH 2 v4 h8 fun vA => C.fn 56 (.of 56) [vA, e] h8 n9 fun vB hB nC => sBin .neq .int vB (I 0) fun vE => yM vE (K0 vB hB nC) (sBin .add .int z7 (I 1) fun vF => R (F97.fr c e z2 v4 vB l p vF v1 vE) hB nC)) (K (F97.fr c e z2 z3 z4 l p z7 v1 z9) h nx)) = .ok True) :
  IR.run F97.b1 C N (fnO F97.res K0) K (F97.fr c e f o g l p q v w) h nx = .ok True := by
 rw [F97.b1, F97.g1_eq, F97.b2]
 refine yR (fun m tm h nx => ∃ z2 z3 z4 z7 z8 z9, tm = (F97.fr c e z2 z3 z4 l p z7 z8 z9) ∧ Inv m z7 h nx) ?_ hm ⟨_, _, _, _, _, _, rfl, hi⟩
 rintro m tm h nx R ⟨z2, z3, z4, z7, z8, z9, rfl, hi⟩ hR
 refine Eq.trans ?_ (step m z2 z3 z4 z7 z8 z9 h nx R hi fun m' w2 w3 w4 w7 w8 w9 h' nx' hlt hi' => hR m' _ h' nx' hlt ⟨_, _, _, _, _, _, rfl, hi'⟩)
 kernel_rfl
theorem F97.k8 : IR.run F97.b8 C N (fnO F97.res K0) K (F97.fr c e f o g l p q v w) h nx =
 K0 (I 0) h nx := by kernel_rfl
theorem F90.tab : T.get none (.of 90) tbl = some F90 := by kernel_rfl
theorem F90.go : zT tbl N C (.of 90) [a0] h nx K0 =
 sBox a0 h nx fun v1 h2 n3 => K0 (.fn 159 (.of 159) [v1]) h2 n3 := by
 rw [zM F90.tab]; kernel_rfl
theorem F162.tab : T.get none (.of 162) tbl = some F162 := by kernel_rfl
theorem F162.go : zT tbl N C (.of 162) [a0, a1] h nx K0 =
 sBox a0 h nx fun v1 h2 n3 => sBox a1 h2 n3 fun v4 h5 n6 => zW 0 v1 fun v7 => zF v7 h5 fun v8 => zW 0 v4 fun v9 => zF v9 h5 fun vA => C.fn 201 (.of 201) [v8, vA] h5 n6 fun vB hB nC => sBin .neq .int vB (I 0) fun vE => sG vE false (fun k => zW 1 v1 k) fun vF => sG vE false (fun k => zF vF hB k) fun vG => sG vE false (fun k => zW 1 v4 k) fun vH => sG vE false (fun k => zF vH hB k) fun vI => sG vE false (fun k => sBin .eql .bool vG vI k) fun vJ => gO vE (.bool true) vJ fun vK => yM vK (K0 vB hB nC) ((IR.run F162.b1 C N (fnO F162.res K0) (retK F162.res K0)) (F162.fr a0 a1 v1 v4 (I 0) vB vK .undef) hB nC) := by
 rw [zM F162.tab]; kernel_rfl
theorem F162.k1 : IR.run F162.b1 C N (fnO F162.res K0) K (F162.fr c e f o g l p q) h nx =
 zW 1 f fun v1 => zF v1 h fun v2 => yM v2 (K0 (I 1) h nx) (K0 (I (-1)) h nx) := by kernel_rfl
theorem F56.tab : T.get none (.of 56) tbl = some F56 := by kernel_rfl
theorem F56.go : zT tbl N C (.of 56) [a0, a1] h nx K0 =
 sBox a0 h nx fun v1 h2 n3 => zW 0 v1 fun v4 => zF v4 h2 fun v5 => sLen v5 fun v6 => sBin .neq .int v6 a1 fun v7 => zW 0 v1 fun v8 => zF v8 h2 fun v9 => C.fn 95 (.of 95) [a1] h2 n3 fun vA hC nD => (zF v8 hC fun vM => zO vM v9 ((zW 0 v1 fun vN => zO vN v8 ((sBin .neq .int v6 a1 fun vO => zO vO v7 (zO a1 a1 ((sLen v5 fun vP => zO vP v6 ((zF v4 hC fun vQ => zO vQ v5 ((zW 0 v1 fun vS => zO vS v4 (C.fn 96 (.of 96) [v7, (I 2)] hC nD fun vD hD nE => (zF v8 hD fun vT => zO vT v9 ((zW 0 v1 fun vU => zO vU v8 (C.fn 140 (.of 140) [v9] hD nE fun vG hE nF => sNot vG fun vJ => C.fn 96 (.of 96) [vJ, (I 14)] hE nF fun vK hF nG => jB 1 3 [(I 0)] [(0, 1, vA), (1, 1, vD), (2, 1, vK)] hF nG fun vV hG nH => C.fn 94 (.of 94) [vV] hG nH fun vW hH nI => K0 vW hH nI))))))))))))))))) := by
 rw [zM F56.tab]; kernel_rfl
theorem F159.g1_eq (X2 : IR) (O : Outs Prop) (t : T AV) : IR.run (F159.g1 X2) C N O K t h nx = IR.run X2 C N (O.blk 0 K) K t h nx := by kernel_rfl
theorem F159.tab : T.get none (.of 159) tbl = some F159 := by kernel_rfl
theorem F159.go : zT tbl N C (.of 159) [a0, a1] h nx K0 =
 zF a1 h fun v1 => sLen v1 fun v2 => IR.run F159.b1 C N (fnO F159.res K0) (retK F159.res K0) (F159.fr a0 a1 .undef .undef v1 v2 (I 0) .undef .undef) h nx := by
 rw [zM F159.tab]; kernel_rfl
theorem F159.L1 (Inv : Nat → AV → T Blk → Pa → Prop) {m : Nat} (hm : m < N) (hi : Inv m p h nx)
  (step : ∀ (m : Nat) (z2 z3 z6 z7 z8 : AV) (h : T Blk) (nx : Pa) (R : Ks Prop), Inv m z6 h nx → (∀ (m' : Nat) (w2 w3 w6 w7 w8 : AV) (h' : T Blk) (nx' : Pa), m' < m → Inv m' w6 h' nx' → R (F159.fr c e w2 w3 g l w6 w7 w8) h' nx' = .ok True) →
   (sBin .lss .int z6 l fun v1 => yM v1 (zZ 2 g z6 fun v2 => zH 2 v2 h fun v3 => yH [.nils, (.bool false)] h nx fun v4 h5 n6 => zL 2 v4 v3 h5 n6 fun v7 h8 n9 => zH 2 v4 h8 fun vA => sCall C c [z6, vA] h8 n9 fun vB hB nC => sNot vB fun vE => yM vE (K0 (.tup []) hB nC) (sBin .add .int z6 (I 1) fun vF => R (F159.fr c e z6 v4 g l vF v1 vE) hB nC)) (K (F159.fr c e z2 z3 g l z6 v1 z8) h nx)) = .ok True) :
  IR.run F159.b1 C N (fnO F159.res K0) K (F159.fr c e f o g l p q v) h nx = .ok True := by
 rw [F159.b1, F159.g1_eq, F159.b2]
 refine yR (fun m tm h nx => ∃ z2 z3 z6 z7 z8, tm = (F159.fr c e z2 z3 g l z6 z7 z8) ∧ Inv m z6 h nx) ?_ hm ⟨_, _, _, _, _, rfl, hi⟩
 rintro m tm h nx R ⟨z2, z3, z6, z7, z8, rfl, hi⟩ hR
 refine Eq.trans ?_ (step m z2 z3 z6 z7 z8 h nx R hi fun m' w2 w3 w6 w7 w8 h' nx' hlt hi' => hR m' _ h' nx' hlt ⟨_, _, _, _, _, rfl, hi'⟩)
 kernel_rfl
theorem F163.g1_eq (X2 : IR) (O : Outs Prop) (t : T AV) : IR.run (F163.g1 X2) C N O K t h nx = IR.run X2 C N (O.blk 0 K) K t h nx := by kernel_rfl
theorem F163.tab : T.get none (.of 163) tbl = some F163 := by kernel_rfl
theorem F163.go : zT tbl N C (.of 163) [a0] h nx K0 =
 yH [.nils, (.bool false)] h nx fun v1 h2 n3 => gD 1 8 [(I 0)] a0 a0 h2 n3 fun v4 h5 n6 => kI [.nils, (.bool false)] [(0, 1, v4)] fun v7 => yH [.nils, (.bool false)] h5 n6 fun v8 h9 nB => zL 2 v8 v7 h9 nB fun vB hB nC => zW 0 v8 fun vE => zF vE hB fun vF => sLen vF fun vG => IR.run F163.b1 C N (fnO F163.res K0) (IR.run F163.b8 C N (fnO F163.res K0) (retK F163.res K0)) (F163.fr a0 v1 v8 .undef vG (I 0) .undef) hB nC := by
 rw [zM F163.tab]; kernel_rfl
theorem F163.L1 (Inv : Nat → AV → T Blk → Pa → Prop) {m : Nat} (hm : m < N) (hi : Inv m l h nx)
  (step : ∀ (m : Nat) (z3 z5 z6 : AV) (h : T Blk) (nx : Pa) (R : Ks Prop), Inv m z5 h nx → (∀ (m' : Nat) (w3 w5 w6 : AV) (h' : T Blk) (nx' : Pa), m' < m → Inv m' w5 h' nx' → R (F163.fr c e f w3 g w5 w6) h' nx' = .ok True) →
   (sBin .lss .int z5 g fun v1 => yM v1 (zW 0 f fun v2 => zF v2 h fun v3 => zZ 1 v3 z5 fun v4 => zL 1 v4 z5 h nx fun v5 h6 n7 => sBin .add .int z5 (I 1) fun v8 => R (F163.fr c e f z5 g v8 v1) h6 n7) (K (F163.fr c e f z3 g z5 v1) h nx)) = .ok True) :
  IR.run F163.b1 C N (fnO F163.res K0) K (F163.fr c e f o g l p) h nx = .ok True := by
 rw [F163.b1, F163.g1_eq, F163.b2]
 refine yR (fun m tm h nx => ∃ z3 z5 z6, tm = (F163.fr c e f z3 g z5 z6) ∧ Inv m z5 h nx) ?_ hm ⟨_, _, _, rfl, hi⟩
 rintro m tm h nx R ⟨z3, z5, z6, rfl, hi⟩ hR
 refine Eq.trans ?_ (step m z3 z5 z6 h nx R hi fun m' w3 w5 w6 h' nx' hlt hi' => hR m' _ h' nx' hlt ⟨_, _, _, rfl, hi'⟩)
 kernel_rfl
theorem F163.k8 : IR.run F163.b8 C N (fnO F163.res K0) K (F163.fr c e f o g l p) h nx =
 zH 2 f h fun v1 => zL 2 e v1 h nx fun v2 h3 n4 => zH 2 e h3 fun v5 => K0 v5 h3 n4 := by kernel_rfl
theorem F123.g1_eq (X2 : IR) (O : Outs Prop) (t : T AV) : IR.run (F123.g1 X2) C N O K t h nx = IR.run X2 C N (O.blk 0 K) K t h nx := by kernel_rfl
theorem F123.tab : T.get none (.of 123) tbl = some F123 := by kernel_rfl
theorem F123.go : zT tbl N C (.of 123) [a0] h nx K0 =
 sBox a0 h nx fun v1 h2 n3 => zW 0 v1 fun v4 => zF v4 h2 fun v5 => sLen v5 fun v6 => sBin .add .int v6 (I 1) fun v7 => gD 1 1 [(.int .u8 0)] (I 0) v7 h2 n3 fun v8 h9 nB => zW 0 v1 fun vB => zF vB h9 fun vC => sLen vC fun vD => IR.run F123.b1 C N (fnO F123.res K0) (IR.run F123.b8 C N (fnO F123.res K0) (retK F123.res K0)) (F123.fr a0 v1 (.str []) v8 .undef vC vD (I 0) .undef .undef) h9 nB := by
 rw [zM F123.tab]; kernel_rfl
theorem F123.L1 (Inv : Nat → AV → AV → T Blk → Pa → Prop) {m : Nat} (hm : m < N) (hi : Inv m o q h nx)
  (step : ∀ (m : Nat) (z3 z4 z7 z8 : AV) (h : T Blk) (nx : Pa) (R : Ks Prop), Inv m z3 z7 h nx → (∀ (m' : Nat) (w3 w4 w7 w8 : AV) (h' : T Blk) (nx' : Pa), m' < m → Inv m' w3 w7 h' nx' → R (F123.fr c e f w3 w4 l p w7 w8 w) h' nx' = .ok True) →
   (sBin .lss .int z7 p fun v1 => yM v1 (zZ 1 l z7 fun v2 => zF v2 h fun v3 => sConv .u8 v3 fun v4 => jB 1 1 [(.int .u8 0)] [(0, 1, v4)] h nx fun v5 h6 n7 => sApp 1 1 z3 v5 h6 n7 fun v8 h9 nB => sBin .add .int z7 (I 1) fun vB => R (F123.fr c e f v8 v3 l p vB v1 w) h9 nB) (K (F123.fr c e f z3 z4 l p z7 v1 w) h nx)) = .ok True) :
  IR.run F123.b1 C N (fnO F123.res K0) K (F123.fr c e f o g l p q v w) h nx = .ok True := by
 rw [F123.b1, F123.g1_eq, F123.b2]
 refine yR (fun m tm h nx => ∃ z3 z4 z7 z8, tm = (F123.fr c e f z3 z4 l p z7 z8 w) ∧ Inv m z3 z7 h nx) ?_ hm ⟨_, _, _, _, rfl, hi⟩
 rintro m tm h nx R ⟨z3, z4, z7, z8, rfl, hi⟩ hR
 refine Eq.trans ?_ (step m z3 z4 z7 z8 h nx R hi fun m' w3 w4 w7 w8 h' nx' hlt hi' => hR m' _ h' nx' hlt ⟨_, _, _, _, rfl, hi'⟩)
 kernel_rfl
theorem F123.k8 : IR.run F123.b8 C N (fnO F123.res K0) K (F123.fr c e f o g l p q v w) h nx =
 zW 1 e fun v1 => zF v1 h fun v2 => yM v2 (jB 1 1 [(.int .u8 0)] [(0, 1, (.int .u8 1))] h nx fun v3 h4 n5 => sApp 1 1 o v3 h4 n5 fun v6 h7 n8 => sB2s v6 h7 fun v9 => K0 v9 h7 n8) (sB2s o h fun vA => K0 vA h nx) := by kernel_rfl
theorem F121.tab : T.get none (.of 121) tbl = some F121 := by kernel_rfl
theorem F121.go : zT tbl N C (.of 121) [a0, a1] h nx K0 =
 sBox a1 h nx fun v1 h2 n3 => zH 2 v1 h2 fun v4 => C.fn 123 (.of 123) [v4] h2 n3 fun v5 h6 n7 => sLook .str (.agg [.nils, (.bool false)]) true a0 v5 h6 fun v8 => sExt 0 v8 fun v9 => sExt 1 v8 fun vA => yH [.nils, (.bool false)] h6 n7 fun vB hB nC => zL 2 vB v9 hB nC fun vE hA nA => K0 vA hA nA := by
 rw [zM F121.tab]; kernel_rfl
theorem F122.g1_eq (X2 : IR) (O : Outs Prop) (t : T AV) : IR.run (F122.g1 X2) C N O K t h nx = IR.run X2 C N (O.blk 0 K) K t h nx := by kernel_rfl
theorem F122.tab : T.get none (.of 122) tbl = some F122 := by kernel_rfl
theorem F122.go : zT tbl N C (.of 122) [a0, a1] h nx K0 =
 sBox a0 h nx fun v1 h2 n3 => sBox a1 h2 n3 fun v4 h5 n6 => yH [.nils, (.bool false)] h5 n6 fun v7 h8 n9 => sChk (true && true) (zW 0 v4 fun vA => zF vA h8 fun vB => sLen vB fun vC => sChk (mkSl 8 vC vC && true) (zW 1 v1 fun vD => zF vD h8 fun vE => zW 1 v4 fun vF => zF vF h8 fun vG => sBin .neq .bool vE vG fun vH => gD 1 8 [(I 0)] vC vC h8 n9 fun vI hI nJ => (sBin .neq .bool vE vG fun vX => zO vX vH ((zF vF hI fun vY => zO vY vG ((zW 1 v4 fun vZ => zO vZ vF ((zF vD hI fun v44 => zO v44 vE ((zW 1 v1 fun v43 => zO v43 vD ((sLen vB fun v42 => zO v42 vC ((zF vA hI fun v41 => zO v41 vB ((zW 0 v4 fun v40 => zO v40 vA (kI [.nils, (.bool false)] [(0, 1, vI), (1, 1, vH)] fun vL => yH [.nils, (.bool false)] hI nJ fun v22 hJ nK => (kI [.nils, (.bool false)] [(0, 1, vI), (1, 1, vH)] fun v39 => zO v39 vL ((sBin .neq .bool vE vG fun v38 => zO v38 vH ((zF vF hJ fun v37 => zO v37 vG ((zW 1 v4 fun vM => zO vM vF ((zF vD hJ fun vN => zO vN vE ((zW 1 v1 fun vO => zO vO vD ((sLen vB fun vP => zO vP vC ((zF vA hJ fun vQ => zO vQ vB ((zW 0 v4 fun vS => zO vS vA (zL 2 v22 vL hJ nK fun v25 hK nL => zW 0 v4 fun v28 => zF v28 hK fun vU => sLen vU fun vT => IR.run F122.b1 C N (fnO F122.res K0) (IR.run F122.b8 C N (fnO F122.res K0) (retK F122.res K0)) (F122.fr a0 a1 v1 v4 v7 v22 .undef .undef vU vT (I 0) .undef) hK nL)))))))))))))))))))))))))))))))))))) := by
 rw [zM F122.tab]; kernel_rfl
theorem F122.L1 (Inv : Nat → AV → T Blk → Pa → Prop) {m : Nat} (hm : m < N) (hi : Inv m a h nx)
  (step : ∀ (m : Nat) (z6 z7 zA zB : AV) (h : T Blk) (nx : Pa) (R : Ks Prop), Inv m zA h nx → (∀ (m' : Nat) (w6 w7 wA wB : AV) (h' : T Blk) (nx' : Pa), m' < m → Inv m' wA h' nx' → R (F122.fr c e f o g l w6 w7 v w wA wB) h' nx' = .ok True) →
   (sBin .lss .int zA w fun v1 => yM v1 (zZ 1 v zA fun v2 => zF v2 h fun v3 => zW 0 l fun v4 => zF v4 h fun v5 => zW 0 f fun v6 => zF v6 h fun v7 => zZ 1 v7 v3 fun v8 => zF v8 h fun v9 => zZ 1 v5 zA fun vA => zL 1 vA v9 h nx fun vB hB nC => sBin .add .int zA (I 1) fun vE => R (F122.fr c e f o g l zA v3 v w vE v1) hB nC) (K (F122.fr c e f o g l z6 z7 v w zA v1) h nx)) = .ok True) :
  IR.run F122.b1 C N (fnO F122.res K0) K (F122.fr c e f o g l p q v w a b) h nx = .ok True := by
 rw [F122.b1, F122.g1_eq, F122.b2]
 refine yR (fun m tm h nx => ∃ z6 z7 zA zB, tm = (F122.fr c e f o g l z6 z7 v w zA zB) ∧ Inv m zA h nx) ?_ hm ⟨_, _, _, _, rfl, hi⟩
 rintro m tm h nx R ⟨z6, z7, zA, zB, rfl, hi⟩ hR
 refine Eq.trans ?_ (step m z6 z7 zA zB h nx R hi fun m' w6 w7 wA wB h' nx' hlt hi' => hR m' _ h' nx' hlt ⟨_, _, _, _, rfl, hi'⟩)
 kernel_rfl
theorem F122.k8 : IR.run F122.b8 C N (fnO F122.res K0) K (F122.fr c e f o g l p q v w a b) h nx =
 zH 2 l h fun v1 => zL 2 g v1 h nx fun v2 h3 n4 => zH 2 g h3 fun v5 => K0 v5 h3 n4 := by kernel_rfl
theorem F140.tab : T.get none (.of 140) tbl = some F140 := by kernel_rfl
theorem F140.go : zT tbl N C (.of 140) [a0] h nx K0 =
 C.fn 198 (.of 198) [a0] h nx fun v1 h2 n3 => sBin .eql .int v1 (I 0) fun v4 => K0 v4 h2 n3 := by
 rw [zM F140.tab]; kernel_rfl
theorem F198.g2_eq (X3 : IR) (O : Outs Prop) (t : T AV) : IR.run (F198.g2 X3) C N O K t h nx = IR.run X3 C N (O.blk 0 K) K t h nx := by kernel_rfl
theorem F198.tab : T.get none (.of 198) tbl = some F198 := by kernel_rfl
theorem F198.go : zT tbl N C (.of 198) [a0] h nx K0 =
 sLen a0 fun v1 => sBin .gtr .int v1 (I 256) fun v2 => yM v2 (K0 (I 5) h nx) (sLen a0 fun v3 => gD 1 1 [(.bool false)] v3 v3 h nx fun v4 h5 n6 => sLen a0 fun v7 => IR.run F198.b2 C N (fnO F198.res K0) (IR.run F198.b10 C N (fnO F198.res K0) (retK F198.res K0)) (F198.fr a0 (I 0) v4 .undef v2 a0 v7 (I 0) .undef .undef) h5 n6) := by
 rw [zM F198.tab]; kernel_rfl
theorem F198.L2 (Inv : Nat → AV → T Blk → Pa → Prop) {m : Nat} (hm : m < N) (hi : Inv m q h nx)
  (step : ∀ (m : Nat) (z1 z3 z7 z8 z9 : AV) (h : T Blk) (nx : Pa) (R : Ks Prop), Inv m z7 h nx → (∀ (m' : Nat) (w1 w3 w7 w8 w9 : AV) (h' : T Blk) (nx' : Pa), m' < m → Inv m' w7 h' nx' → R (F198.fr c w1 f w3 g l p w7 w8 w9) h' nx' = .ok True) →
   (sBin .lss .int z7 p fun v1 => yM v1 (zZ 1 l z7 fun v2 => zF v2 h fun v3 => sBin .lss .int v3 (I 0) fun v4 => sG v4 false (fun k => k v3) fun v5 => sG v4 false (fun k => k c) fun v6 => sG v4 false (fun k => sLen v6 k) fun v7 => sG v4 false (fun k => sBin .geq .int v5 v7 k) fun v8 => gO v4 (.bool true) v8 fun v9 => sG v9 false (fun k => k f) fun vA => sG v9 false (fun k => k v3) fun vB => sG v9 false (fun k => zZ 1 vA vB k) fun vC => sG v9 false (fun k => zF vC h k) fun vD => gO v9 (.bool true) vD fun vE => yM vE (K0 (I 14) h nx) ((IR.run F198.b8 C N (((fnO F198.res K0).blk 0 K).blk 1 (IR.run F198.b9 C N ((fnO F198.res K0).blk 0 K) R)) (IR.run F198.b9 C N ((fnO F198.res K0).blk 0 K) R)) (F198.fr c z1 f v3 g l p z7 v1 vE) h nx)) (K (F198.fr c z1 f z3 g l p z7 v1 z9) h nx)) = .ok True) :
  IR.run F198.b2 C N (fnO F198.res K0) K (F198.fr c e f o g l p q v w) h nx = .ok True := by
 rw [F198.b2, F198.g2_eq, F198.b3]
 refine yR (fun m tm h nx => ∃ z1 z3 z7 z8 z9, tm = (F198.fr c z1 f z3 g l p z7 z8 z9) ∧ Inv m z7 h nx) ?_ hm ⟨_, _, _, _, _, rfl, hi⟩
 rintro m tm h nx R ⟨z1, z3, z7, z8, z9, rfl, hi⟩ hR
 refine Eq.trans ?_ (step m z1 z3 z7 z8 z9 h nx R hi fun m' w1 w3 w7 w8 w9 h' nx' hlt hi' => hR m' _ h' nx' hlt ⟨_, _, _, _, _, rfl, hi'⟩)
 kernel_rfl
theorem F198.k10 : IR.run F198.b10 C N (fnO F198.res K0) K (F198.fr c e f o g l p q v w) h nx =
 K0 (I 0) h nx := by kernel_rfl
theorem F198.k9 {E0 : Ks Prop} : IR.run F198.b9 C N ((fnO F198.res K0).blk 0 E0) K (F198.fr c e f o g l p q v w) h nx =
 sBin .add .int q (I 1) fun v1 => K (F198.fr c e f o g l p v1 v w) h nx := by kernel_rfl
theorem F198.k8 {E0 E1 : Ks Prop} : IR.run F198.b8 C N (((fnO F198.res K0).blk 0 E0).blk 1 E1) K (F198.fr c e f o g l p q v w) h nx =
 zZ 1 f o fun v1 => zL 1 v1 (.bool true) h nx fun v2 h3 n4 => K (F198.fr c e f o g l p q v w) h3 n4 := by kernel_rfl
theorem F94.g1_eq (X2 : IR) (O : Outs Prop) (t : T AV) : IR.run (F94.g1 X2) C N O K t h nx = IR.run X2 C N (O.blk 0 K) K t h nx := by kernel_rfl
theorem F94.tab : T.get none (.of 94) tbl = some F94 := by kernel_rfl
theorem F94.go : zT tbl N C (.of 94) [a0] h nx K0 =
 sLen a0 fun v1 => IR.run F94.b1 C N (fnO F94.res K0) (IR.run F94.b8 C N (fnO F94.res K0) (retK F94.res K0)) (F94.fr a0 (I 0) .undef a0 v1 (I 0) .undef .undef) h nx := by
 rw [zM F94.tab]; kernel_rfl
theorem F94.L1 (Inv : Nat → AV → T Blk → Pa → Prop) {m : Nat} (hm : m < N) (hi : Inv m l h nx)
  (step : ∀ (m : Nat) (z1 z2 z5 z6 z7 : AV) (h : T Blk) (nx : Pa) (R : Ks Prop), Inv m z5 h nx → (∀ (m' : Nat) (w1 w2 w5 w6 w7 : AV) (h' : T Blk) (nx' : Pa), m' < m → Inv m' w5 h' nx' → R (F94.fr c w1 w2 o g w5 w6 w7) h' nx' = .ok True) →
   (sBin .lss .int z5 g fun v1 => yM v1 (zZ 1 o z5 fun v2 => zF v2 h fun v3 => sBin .neq .int v3 (I 0) fun v4 => yM v4 (K0 v3 h nx) (sBin .add .int z5 (I 1) fun v5 => R (F94.fr c z1 v3 o g v5 v1 v4) h nx)) (K (F94.fr c z1 z2 o g z5 v1 z7) h nx)) = .ok True) :
  IR.run F94.b1 C N (fnO F94.res K0) K (F94.fr c e f o g l p q) h nx = .ok True := by
 rw [F94.b1, F94.g1_eq, F94.b2]
 refine yR (fun m tm h nx => ∃ z1 z2 z5 z6 z7, tm = (F94.fr c z1 z2 o g z5 z6 z7) ∧ Inv m z5 h nx) ?_ hm ⟨_, _, _, _, _, rfl, hi⟩
 rintro m tm h nx R ⟨z1, z2, z5, z6, z7, rfl, hi⟩ hR
 refine Eq.trans ?_ (step m z1 z2 z5 z6 z7 h nx R hi fun m' w1 w2 w5 w6 w7 h' nx' hlt hi' => hR m' _ h' nx' hlt ⟨_, _, _, _, _, rfl, hi'⟩)
 kernel_rfl
theorem F94.k8 : IR.run F94.b8 C N (fnO F94.res K0) K (F94.fr c e f o g l p q) h nx =
 K0 (I 0) h nx := by kernel_rfl
theorem F95.tab : T.get none (.of 95) tbl = some F95 := by kernel_rfl
theorem F95.go : zT tbl N C (.of 95) [a0] h nx K0 =
 sBin .lss .int a0 (I 0) fun v1 => sG v1 false (fun k => k a0) fun v2 => sG v1 false (fun k => sBin .gtr .int v2 (I 256) k) fun v3 => gO v1 (.bool true) v3 fun v4 => C.fn 96 (.of 96) [v4, (I 3)] h nx fun v5 h6 n7 => K0 v5 h6 n7 := by
 rw [zM F95.tab]; kernel_rfl
theorem F96.tab : T.get none (.of 96) tbl = some F96 := by kernel_rfl
theorem F96.go : zT tbl N C (.of 96) [a0, a1] h nx K0 =
 yM a0 (K0 a1 h nx) (K0 (I 0) h nx) := by
 rw [zM F96.tab]; kernel_rfl
end Go.Ev
namespace Go.Ev
open Go Go.Proofs
set_option maxRecDepth 100000
variable {N : Nat} {C : Calls Prop} {K0 : Kw Prop} {K R : Ks Prop} {h : T Blk} {nx : Pa} {c e f o g l p q v w a b d i s u z y B A D E F G H a0 a1 a2 : AV}
theorem F98.g13_eq (X14 : IR) (O : Outs Prop) (t : T AV) : IR.run (F98.g13 X14) C N O K t h nx = IR.run X14 C N (O.blk 4 K) K t h nx := by kernel_rfl
theorem F98.g7_eq (X8 : IR) (O : Outs Prop) (t : T AV) : IR.run (F98.g7 X8) C N O K t h nx = IR.run X8 C N (O.blk 2 K) K t h nx := by kernel_rfl
theorem F98.tab : T.get none (.of 98) tbl = some F98 := by kernel_rfl
theorem F98.go : zT tbl N C (.of 98) [a0, a1, a2] h nx K0 =
 sBox a2 h nx fun v1 h2 n3 => yH [.nilm] h2 n3 fun v4 h5 n6 => yH [.nils] h5 n6 fun v7 h8 n9 => yH [(.bool false)] h8 n9 fun vA hC nD => C.fn 163 (.of 163) [a1] hC nD fun vD hD nE => yH [.nils, (.bool false)] hD nE fun vG hE nF => zL 2 vG vD hE nF fun vJ hL nM => sChk (true && (true && true)) (zH 2 vG hL fun v22 => zH 2 vG hL fun vV => C.fn 123 (.of 123) [v22] hL nM fun v24 hM nN => (zH 2 vG hM fun v52 => zO v52 vV ((zH 2 vG hM fun v51 => zO v51 v22 (sMkmap hM nN fun v27 hN nO => (zH 2 vG hN fun v50 => zO v50 vV ((zH 2 vG hN fun v49 => zO v49 v22 (pW .str v27 v24 vV hN nO fun vT hO nP => (zH 2 vG hO fun v48 => zO v48 vV ((zH 2 vG hO fun vX => zO vX v22 (yH [.nilm] hO nP fun vP hP nQ => zO v27 v27 ((zH 2 vG hP fun vY => zO vY vV ((zH 2 vG hP fun vZ => zO vZ v22 (zL 1 vP v27 hP nQ fun vM hQ nR => yH [.nils] hQ nR fun v39 hS nS => C.fn 90 (.of 90) [a0] hS nS fun v42 hT nT => IR.run (.rf (.t (.of 14)) [(.of 15), (.of 16)] F98.b3 F98.b4) C N ((fnO F98.res K0).blk 0 (IR.run F98.b23 C N (fnO F98.res K0) (retK F98.res K0))) (IR.run F98.b23 C N (fnO F98.res K0) (retK F98.res K0)) (F98.fr a0 a1 a2 v1 v4 v7 vA vG vP v39 .undef .undef .undef .undef v42 .undef .undef .undef .undef .undef .undef .undef .undef .undef .undef) hT nT)))))))))))))))))) := by
 rw [zM F98.tab]; kernel_rfl
theorem F98.k23 : IR.run F98.b23 C N (fnO F98.res K0) K (F98.fr c e f o g l p q v w a b d i s u z y B A D E F G H) h nx =
 zF v h fun v1 => zF w h fun v2 => zL 1 g v1 h nx fun v3 h4 n5 => (zF w h4 fun vF => zO vF v2 (zL 1 l v2 h4 n5 fun v6 h7 n8 => zL 1 p (.bool true) h7 n8 fun v9 hU nU => zF g hU fun vC => zF l hU fun vD => zF p hU fun vE => K0 (.tup [vC, vD, vE]) hU nU)) := by kernel_rfl
theorem F98.p4 {N : Nat} {C : Calls Prop} {K0 : Kw Prop} {id nx : Pa} {j : Jump} {h : T Blk} {c e f o g l p q v w a b d i s u z y B A D E F G H z0 z1 : AV} (hl : T.get .no id h = .loop .ready j (F98.fr c e f o g l p q v w a b d i s u z y B A D E F G H) [.of 15, .of 16] F98.b3 F98.b4) :
 qS N C id [z0, z1] h nx K0 =
 yH [.nils, (.bool false)] h nx fun v1 h2 n3 => zL 2 v1 z1 h2 n3 fun v4 h5 n6 => rMid N C id K0 F98.b4 (F98.fr c e f o g l p q v w v1 b d i s z0 z1 y B A D E F G H) h5 n6 := by
 rw [rnd_gen hl (tm1 := (F98.fr c e f o g l p q v w a b d i s z0 z1 y B A D E F G H)) (by intro k; kernel_rfl)]; kernel_rfl
theorem F98.y4 {N : Nat} {C : Calls Prop} {K0 : Kw Prop} {id nx : Pa} {h : T Blk} {c e f o g l p q v w a b d i s u z y B A D E F G H : AV} :
 IR.run F98.b4 C N (rO id K0) (yO id K0 .none true) (F98.fr c e f o g l p q v w a b d i s u z y B A D E F G H) h nx =
 zF v h fun v1 => zH 2 a h fun v2 => C.fn 121 (.of 121) [v1, v2] h nx fun v3 h4 n5 => yM v3 (yO id K0 .none true .e h4 n5) (zF w h4 fun v6 => zH 2 a h4 fun v7 => jB 2 1 [.nils, (.bool false)] [(0, 2, v7)] h4 n5 fun v8 h9 nB => vR C 2 32 v6 v8 h9 nB fun vB hB nC => zL 1 w vB hB nC fun vE hA nA => sChk (true && true) (zH 2 q hA fun vH => zH 2 q hA fun vI => C.fn 123 (.of 123) [vH] hA nA fun vJ hL nM => (zH 2 q hL fun v38 => zO v38 vI ((zH 2 q hL fun v37 => zO v37 vH (sMkmap hL nM fun v22 hJ nK => (zH 2 q hJ fun vM => zO vM vI ((zH 2 q hJ fun vN => zO vN vH (pW .str v22 vJ vI hJ nK fun v25 hK nL => zL 1 v v22 hK nL fun v28 hV nV => zH 2 q hV fun vS => jB 2 1 [.nils, (.bool false)] [(0, 2, vS)] hV nV fun vQ hW nW => IR.run F98.b7 C N ((rO id K0).blk 1 (yO id K0 .none true)) (yO id K0 .none true) (F98.fr c e f o g l p q v w a vQ d i s u z v3 B A D E F G H) hW nW)))))))))) := by kernel_rfl
theorem F98.L7 {id : Pa} {E1 : Ks Prop} (Inv : Nat → AV → T Blk → Pa → Prop) {m : Nat} (hm : m < N) (hi : Inv m b h nx)
  (step : ∀ (m : Nat) (zB zC zD zE zG zI zJ zK zN zP : AV) (h : T Blk) (nx : Pa) (R : Ks Prop), Inv m zB h nx → (∀ (m' : Nat) (wB wC wD wE wF wG wH wI wJ wK : AV) (h' : T Blk) (nx' : Pa), m' < m → Inv m' wB h' nx' → R (F98.fr c e f o g l p q v w a wB wC wD s u z y wE wF wG wH wI wJ wK) h' nx' = .ok True) →
   (sLen zB fun v1 => sBin .gtr .int v1 (I 0) fun v2 => yM v2 (zF w h fun v3 => sLen v3 fun v4 => IR.run F98.b13 C N ((((rO id K0).blk 1 E1).blk 2 K).blk 3 (IR.run F98.b22 C N (((rO id K0).blk 1 E1).blk 2 K) R)) (IR.run F98.b22 C N (((rO id K0).blk 1 E1).blk 2 K) R) (F98.fr c e f o g l p q v w a zB zC zD s u z y v2 v3 v4 (I 0) zK zN zP) h nx) (K (F98.fr c e f o g l p q v w a zB zC zD s u z y v2 zG zI zJ zK zN zP) h nx)) = .ok True) :
  IR.run F98.b7 C N ((rO id K0).blk 1 E1) K (F98.fr c e f o g l p q v w a b d i s u z y B A D E F G H) h nx = .ok True := by
 rw [F98.b7, F98.g7_eq, F98.b8]
 refine yR (fun m tm h nx => ∃ zB zC zD zE zG zI zJ zK zN zP, tm = (F98.fr c e f o g l p q v w a zB zC zD s u z y zE zG zI zJ zK zN zP) ∧ Inv m zB h nx) ?_ hm ⟨_, _, _, _, _, _, _, _, _, _, rfl, hi⟩
 rintro m tm h nx R ⟨zB, zC, zD, zE, zG, zI, zJ, zK, zN, zP, rfl, hi⟩ hR
 refine Eq.trans ?_ (step m zB zC zD zE zG zI zJ zK zN zP h nx R hi fun m' wB wC wD wE wF wG wH wI wJ wK h' nx' hlt hi' => hR m' _ h' nx' hlt ⟨_, _, _, _, _, _, _, _, _, _, rfl, hi'⟩)
 kernel_rfl
theorem F98.k22 {id : Pa} {E1 E2 : Ks Prop} : IR.run F98.b22 C N (((rO id K0).blk 1 E1).blk 2 E2) K (F98.fr c e f o g l p q v w a b d i s u z y B A D E F G H) h nx =
 sSlice 2 b (some (I 1)) none none fun v1 => K (F98.fr c e f o g l p q v w a v1 d i s u z y B A D E F G H) h nx := by kernel_rfl
theorem F98.L13 {id : Pa} {E1 E2 E3 : Ks Prop} (Inv : Nat → AV → AV → T Blk → Pa → Prop) {m : Nat} (hm : m < N) (hi : Inv m b E h nx)
  (step : ∀ (m : Nat) (zB zC zD zJ zK zN zP : AV) (h : T Blk) (nx : Pa) (R : Ks Prop), Inv m zB zJ h nx → (∀ (m' : Nat) (wB wC wD wH wI wJ wK : AV) (h' : T Blk) (nx' : Pa), m' < m → Inv m' wB wH h' nx' → R (F98.fr c e f o g l p q v w a wB wC wD s u z y B A D wH wI wJ wK) h' nx' = .ok True) →
   (sBin .lss .int zJ D fun v1 => yM v1 (zZ 2 A zJ fun v2 => zH 2 v2 h fun v3 => yH [.nils, (.bool false)] h nx fun v4 h5 n6 => zL 2 v4 v3 h5 n6 fun v7 h8 n9 => sChk (true && true) (zH 2 v4 h8 fun vA => zZ 2 zB (I 0) fun vB => zH 2 vB h8 fun vC => C.fn 122 (.of 122) [vA, vC] h8 n9 fun vD hD nE => (zH 2 vB hD fun v65 => zO v65 vC ((zZ 2 zB (I 0) fun v64 => zO v64 vB (zO zB zB ((zH 2 v4 hD fun v63 => zO v63 vA (yH [.nils, (.bool false)] hD nE fun vG hE nF => (zH 2 vB hE fun v62 => zO v62 vC ((zZ 2 zB (I 0) fun v61 => zO v61 vB (zO zB zB ((zH 2 v4 hE fun v60 => zO v60 vA (zL 2 vG vD hE nF fun vJ hL nM => zF v hL fun v22 => zH 2 vG hL fun vV => C.fn 121 (.of 121) [v22, vV] hL nM fun v24 hM nN => yM v24 (sBin .add .int zJ (I 1) fun v27 => R (F98.fr c e f o g l p q v w a zB v4 vG s u z y B A D v27 v1 v24 zP) hM nN) (zF v hM fun v28 => sMlen v28 hM fun vU => zF o hM fun vT => sBin .eql .int vU vT fun vS => yM vS (zL 1 g .nilm hM nN fun vQ hW nW => zL 1 l .nils hW nW fun vN hX nX => zL 1 p (.bool false) hX nX fun v38 hY nY => yO id K0 .ret false .e hY nY) (zF v hM fun v41 => zH 2 vG hM fun v42 => zH 2 vG hM fun v43 => C.fn 123 (.of 123) [v42] hM nN fun v44 hZ nZ => (zH 2 vG hZ fun v59 => zO v59 v43 ((zF v hZ fun v58 => zO v58 v41 (pW .str v41 v44 v43 hZ nZ fun vX h48 n49 => zH 2 vG h48 fun v50 => jB 2 1 [.nils, (.bool false)] [(0, 2, v50)] h48 n49 fun v51 h52 n53 => vR C 2 32 zB v51 h52 n53 fun v54 h55 n56 => sBin .add .int zJ (I 1) fun v57 => R (F98.fr c e f o g l p q v w a v54 v4 vG s u z y B A D v57 v1 v24 vS) h55 n56)))))))))))))))))))))) (K (F98.fr c e f o g l p q v w a zB zC zD s u z y B A D zJ v1 zN zP) h nx)) = .ok True) :
  IR.run F98.b13 C N ((((rO id K0).blk 1 E1).blk 2 E2).blk 3 E3) K (F98.fr c e f o g l p q v w a b d i s u z y B A D E F G H) h nx = .ok True := by
 rw [F98.b13, F98.g13_eq, F98.b14]
 refine yR (fun m tm h nx => ∃ zB zC zD zJ zK zN zP, tm = (F98.fr c e f o g l p q v w a zB zC zD s u z y B A D zJ zK zN zP) ∧ Inv m zB zJ h nx) ?_ hm ⟨_, _, _, _, _, _, _, rfl, hi⟩
 rintro m tm h nx R ⟨zB, zC, zD, zJ, zK, zN, zP, rfl, hi⟩ hR
 refine Eq.trans ?_ (step m zB zC zD zJ zK zN zP h nx R hi fun m' wB wC wD wH wI wJ wK h' nx' hlt hi' => hR m' _ h' nx' hlt ⟨_, _, _, _, _, _, _, rfl, hi'⟩)
 kernel_rfl
end Go.Ev
namespace Go.Ev
open Go Go.Proofs
set_option maxRecDepth 100000
variable {N : Nat} {C : Calls Prop} {K0 : Kw Prop} {K R : Ks Prop} {h : T Blk} {nx : Pa} {c e f o g l p q v w a b d i s u z y B A a0 a1 : AV}
theorem F92.tab : T.get none (.of 92) tbl = some F92 := by kernel_rfl
theorem F92.go : zT tbl N C (.of 92) [a0, a1] h nx K0 =
 sBox a0 h nx fun v1 h2 n3 => yH [.nilm] h2 n3 fun v4 h5 n6 => yH [.nils] h5 n6 fun v7 h8 n9 => yH [(I 0)] h8 n9 fun vA hC nD => zF v1 hC fun vD => sLen vD fun vE => sBin .eql .int vE (I 0) fun vF => zF v1 hC fun vG => sLen vG fun vH => sBin .gtr .int vH (I 1536) fun vI => C.fn 95 (.of 95) [a1] hC nD fun vJ hL nM => (sBin .gtr .int vH (I 1536) fun v76 => zO v76 vI ((sLen vG fun v75 => zO v75 vH ((zF v1 hL fun v74 => zO v74 vG ((sBin .eql .int vE (I 0) fun v73 => zO v73 vF ((sLen vD fun v72 => zO v72 vE ((zF v1 hL fun v71 => zO v71 vD (C.fn 96 (.of 96) [vF, (I 12)] hL nM fun v22 hJ nK => (sBin .gtr .int vH (I 1536) fun v70 => zO v70 vI ((sLen vG fun v69 => zO v69 vH ((zF v1 hJ fun v68 => zO v68 vG (C.fn 96 (.of 96) [vI, (I 5)] hJ nK fun v25 hK nL => jB 1 3 [(I 0)] [(0, 1, vJ), (1, 1, v22), (2, 1, v25)] hK nL fun v28 hV nV => C.fn 94 (.of 94) [v28] hV nV fun vS h32 n33 => sBin .neq .int vS (I 0) fun vO => yM vO (zL 1 v4 .nilm h32 n33 fun vN hX nX => zL 1 v7 .nils hX nX fun v38 hY nY => zL 1 vA vS hY nY fun v41 h42 n43 => zF v4 h42 fun v44 => zF v7 h42 fun vZ => zF vA h42 fun vY => K0 (.tup [v44, vZ, vY]) h42 n43) (zF v1 h32 fun vX => C.fn 97 (.of 97) [vX, a1] h32 n33 fun v48 h49 n50 => sBin .neq .int v48 (I 0) fun v51 => yM v51 (zL 1 v4 .nilm h49 n50 fun v52 h53 n54 => zL 1 v7 .nils h53 n54 fun v55 h56 n57 => zL 1 vA v48 h56 n57 fun v58 h59 n60 => zF v4 h59 fun v61 => zF v7 h59 fun v62 => zF vA h59 fun v63 => K0 (.tup [v61, v62, v63]) h59 n60) (zF v1 h49 fun v64 => C.fn 90 (.of 90) [v64] h49 n50 fun v65 h66 n67 => IR.run (.rf (.t (.of 15)) [(.of 16), (.of 17)] F92.b5 F92.b6) C N ((fnO F92.res K0).blk 0 (IR.run F92.b8 C N (fnO F92.res K0) (retK F92.res K0))) (IR.run F92.b8 C N (fnO F92.res K0) (retK F92.res K0)) (F92.fr a0 a1 v1 v4 v7 vA vS v48 .undef .undef .undef .undef .undef vO v51 v65 .undef .undef .undef .undef) h66 n67)))))))))))))))))))) := by
 rw [zM F92.tab]; kernel_rfl
theorem F92.k8 : IR.run F92.b8 C N (fnO F92.res K0) K (F92.fr c e f o g l p q v w a b d i s u z y B A) h nx =
 zF f h fun v1 => zF f h fun v2 => sLen v2 fun v3 => C.fn 98 (.of 98) [v1, e, v3] h nx fun v4 h5 n6 => sExt 0 v4 fun v7 => sExt 1 v4 fun v8 => sExt 2 v4 fun v9 => sNot v9 fun vA => sG vA false (fun k => k v7) fun vB => sG vA false (fun k => sMlen vB h5 k) fun vC => sG vA false (fun k => zF f h5 k) fun vD => sG vA false (fun k => sLen vD k) fun vE => sG vA false (fun k => sBin .neq .int vC vE k) fun vF => gO vA (.bool true) vF fun vG => yM vG (zL 1 o .nilm h5 n6 fun vH h18 n19 => zL 1 g .nils h18 n19 fun vK hF nG => zL 1 l (I 28) hF nG fun vV hG nH => zF o hG fun vW => zF g hG fun v27 => zF l hG fun v28 => K0 (.tup [vW, v27, v28]) hG nH) ((IR.run F92.b9 C N (fnO F92.res K0) K) (F92.fr c e f o g l p q v w v7 v8 v9 i s u z y B vG) h5 n6) := by kernel_rfl
theorem F92.p6 {N : Nat} {C : Calls Prop} {K0 : Kw Prop} {id nx : Pa} {j : Jump} {h : T Blk} {c e f o g l p q v w a b d i s u z y B A z0 z1 : AV} (hl : T.get .no id h = .loop .ready j (F92.fr c e f o g l p q v w a b d i s u z y B A) [.of 16, .of 17] F92.b5 F92.b6) :
 qS N C id [z0, z1] h nx K0 =
 yH [.nils, (.bool false)] h nx fun v1 h2 n3 => zL 2 v1 z1 h2 n3 fun v4 h5 n6 => rMid N C id K0 F92.b6 (F92.fr c e f o g l p q z0 v1 a b d i s u z0 z1 B A) h5 n6 := by
 rw [rnd_gen hl (tm1 := (F92.fr c e f o g l p q v w a b d i s u z0 z1 B A)) (by intro k; kernel_rfl)]; kernel_rfl
theorem F92.y6 {N : Nat} {C : Calls Prop} {K0 : Kw Prop} {id nx : Pa} {h : T Blk} {c e f o g l p q v w a b d i s u z y B A : AV} :
 IR.run F92.b6 C N (rO id K0) (yO id K0 .none true) (F92.fr c e f o g l p q v w a b d i s u z y B A) h nx =
 sBin .gtr .int v (I 0) fun v1 => sG v1 true (fun k => zF f h k) fun v2 => sG v1 true (fun k => k v) fun v3 => sG v1 true (fun k => sBin .sub .int v3 (I 1) k) fun v4 => sG v1 true (fun k => zZ 2 v2 v4 k) fun v5 => sG v1 true (fun k => zH 2 v5 h k) fun v6 => sG v1 true (fun k => zH 2 w h k) fun v7 => sGW v1 true (fun k => C.fn 162 (.of 162) [v6, v7] h nx k) h nx fun v8 h9 nB => sG v1 true (fun k => sBin .geq .int v8 (I 0) k) fun vB => gO v1 vB (.bool false) fun vC => yM vC (zL 1 o .nilm h9 nB fun vD hD nE => zL 1 g .nils hD nE fun vG hE nF => zL 1 l (I 11) hE nF fun vJ hL nM => yO id K0 .ret false .e hL nM) (yO id K0 .none true .e h9 nB) := by kernel_rfl
theorem F92.k9 : IR.run F92.b9 C N (fnO F92.res K0) K (F92.fr c e f o g l p q v w a b d i s u z y B A) h nx =
 zL 1 o a h nx fun v1 h2 n3 => zL 1 g b h2 n3 fun v4 h5 n6 => zL 1 l (I 0) h5 n6 fun v7 h8 n9 => zF o h8 fun vA => zF g h8 fun vB => zF l h8 fun vC => K0 (.tup [vA, vB, vC]) h8 n9 := by kernel_rfl
end Go.Ev
namespace Go.Ev
open Go Go.Proofs
set_option maxRecDepth 100000
variable {N : Nat} {C : Calls Prop} {K0 : Kw Prop} {K R : Ks Prop} {h : T Blk} {nx : Pa} {c e f o a0 a1 : AV}
theorem F22.tab : T.get none (.of 22) tbl = some F22 := by kernel_rfl
theorem F22.go : zT tbl N C (.of 22) [a0, a1] h nx K0 =
 C.fn 92 (.of 92) [a0, a1] h nx fun v1 h2 n3 => sExt 0 v1 fun v4 => sExt 1 v1 fun v5 => sExt 2 v1 fun v6 => K0 v6 h2 n3 := by
 rw [zM F22.tab]; kernel_rfl
end Go.Ev
namespace Go.Ev
open Go Go.Proofs
set_option maxRecDepth 100000
section
variable {N : Nat} {C : Calls Prop} {K0 : Kw Prop} {K : Ks Prop} {h : T Blk} {nx : Pa} {c e f o g l p q v w a b a0 a1 : AV} {O : Outs Prop} {tm : T AV} {Kt : KTm} {r : List RO} {s0 s1 s2 s3 s4 s5 s6 s7 s8 s9 s10 s11 s12 s13 s14 s15 s16 s17 s18 s19 s20 s21 s22 s23 s24 s25 s26 s27 s28 s29 s30 s31 s32 s33 s34 s35 s36 s37 s38 s39 s40 s41 s42 s43 s44 s45 s46 s47 s48 s49 s50 s51 s52 s53 s54 s55 s56 s57 s58 s59 : AV}
noncomputable def F135.t0 : IR := .reg [.w (.loc (.of 2)) none (.box (.t (.of 0))), .q (.of 3) (.mv (.c .nils))]
noncomputable def F135.t1 : IR := .reg [.s (.mv (.t (.of 1))), .s (.len (.s 0)), .w .push none (.mkslice 1 8 [(I 0)] (.s 0) (.s 0)), .q (.of 4) (.mv (.s 0))]
noncomputable def F135.t2 : IR := .reg [.q (.of 7) (.mv (.t (.of 1))), .q (.of 8) (.len (.t (.of 7))), .q (.of 9) (.mv (.c (I 0)))]
noncomputable def F135.t3 : IR := .reg [.q (.of 10) (.bin .lss .int (.t (.of 9)) (.t (.of 8)))]
noncomputable def F135.t4 : IR := .cond (.t (.of 10)) .skip (.exit 0)
noncomputable def F135.t5 : IR := .reg [.s (.mv (.t (.of 9))), .s (.iaddr 1 (.t (.of 7)) (.t (.of 9))), .s (.load (.s 0)), .q (.of 5) (.mv (.s 2)), .q (.of 6) (.mv (.s 0))]
noncomputable def F135.t6 : IR := .reg [.s (.faddr 1 (.t (.of 2))), .q (.of 11) (.load (.s 0))]
noncomputable def F135.t7 : IR := .reg [.s (.mv (.t (.of 1))), .s (.len (.s 0)), .s (.bin .add .int (.s 0) (.c (I 1))), .s (.mv (.t (.of 6))), .s (.bin .sub .int (.s 1) (.s 0)), .q (.of 6) (.mv (.s 0))]
noncomputable def F135.t8 : IR := .cond (.t (.of 11)) F135.t7 .skip
noncomputable def F135.t9 : IR := .seq F135.t6 F135.t8
noncomputable def F135.t10 : IR := .reg [.s (.mv (.t (.of 4))), .s (.faddr 0 (.t (.of 2))), .s (.load (.s 0)), .s (.mv (.t (.of 5))), .s (.iaddr 1 (.s 1) (.s 0)), .s (.load (.s 0)), .s (.mv (.t (.of 6))), .s (.iaddr 1 (.s 6) (.s 1)), .w .none none (.store 1 (.s 0) (.s 1))]
noncomputable def F135.t11 : IR := .seq F135.t9 F135.t10
noncomputable def F135.t12 : IR := .seq F135.t5 F135.t11
noncomputable def F135.t13 : IR := .block 1 F135.t12
noncomputable def F135.t14 : IR := .reg [.s (.bin .add .int (.t (.of 9)) (.c (I 1))), .q (.of 9) (.mv (.s 0))]
noncomputable def F135.t15 : IR := .seq F135.t13 F135.t14
noncomputable def F135.t16 : IR := .seq F135.t4 F135.t15
noncomputable def F135.t17 : IR := .seq F135.t3 F135.t16
noncomputable def F135.t18 : IR := .loop F135.t17
noncomputable def F135.t19 : IR := .block 0 F135.t18
noncomputable def F135.t20 : IR := .seq F135.t2 F135.t19
noncomputable def F135.t21 : IR := .reg [.s (.mv (.t (.of 4))), .q (.of 3) (.mv (.s 0))]
noncomputable def F135.t22 : IR := .seq F135.t21 .ret
noncomputable def F135.t23 : IR := .seq F135.t20 F135.t22
noncomputable def F135.t24 : IR := .seq F135.t1 F135.t23
noncomputable def F135.t25 : IR := .seq F135.t0 F135.t24
theorem F135.t0_s : IR.run F135.t0 C N O K (F135.fr c e f o g l p q v w a b) h nx =
 sBox c h nx fun v1 h2 n3 => K (F135.fr c e v1 .nils g l p q v w a b) h2 n3 := by kernel_rfl
theorem F135.t1_s : IR.run F135.t1 C N O K (F135.fr c e f o g l p q v w a b) h nx =
 sLen e fun v1 => gD 1 8 [(I 0)] v1 v1 h nx fun v2 h3 n4 => K (F135.fr c e f o v2 l p q v w a b) h3 n4 := by kernel_rfl
theorem F135.t2_s : IR.run F135.t2 C N O K (F135.fr c e f o g l p q v w a b) h nx =
 sLen e fun v1 => K (F135.fr c e f o g l p e v1 (I 0) a b) h nx := by kernel_rfl
theorem F135.t3_s : IR.run F135.t3 C N O K (F135.fr c e f o g l p q v w a b) h nx =
 sBin .lss .int w v fun v1 => K (F135.fr c e f o g l p q v w v1 b) h nx := by kernel_rfl
theorem F135.v10 : Arg.ev (.t (.of 10)) ⟨(F135.fr c e f o g l p q v w a b), []⟩ = a := by kernel_rfl
theorem F135.t5_s : IR.run F135.t5 C N O K (F135.fr c e f o g l p q v w a b) h nx =
 zZ 1 q w fun v1 => zF v1 h fun v2 => K (F135.fr c e f o g w v2 q v w a b) h nx := by kernel_rfl
theorem F135.t6_s : IR.run F135.t6 C N O K (F135.fr c e f o g l p q v w a b) h nx =
 zW 1 f fun v1 => zF v1 h fun v2 => K (F135.fr c e f o g l p q v w a v2) h nx := by kernel_rfl
theorem F135.t7_s : IR.run F135.t7 C N O K (F135.fr c e f o g l p q v w a b) h nx =
 sLen e fun v1 => sBin .add .int v1 (I 1) fun v2 => sBin .sub .int v2 p fun v3 => K (F135.fr c e f o g l v3 q v w a b) h nx := by kernel_rfl
theorem F135.v11 : Arg.ev (.t (.of 11)) ⟨(F135.fr c e f o g l p q v w a b), []⟩ = b := by kernel_rfl
theorem F135.t10_s : IR.run F135.t10 C N O K (F135.fr c e f o g l p q v w a b) h nx =
 zW 0 f fun v1 => zF v1 h fun v2 => zZ 1 v2 l fun v3 => zF v3 h fun v4 => zZ 1 g v4 fun v5 => zL 1 v5 p h nx fun v6 h7 n8 => K (F135.fr c e f o g l p q v w a b) h7 n8 := by kernel_rfl
theorem F135.t14_s : IR.run F135.t14 C N O K (F135.fr c e f o g l p q v w a b) h nx =
 sBin .add .int w (I 1) fun v1 => K (F135.fr c e f o g l p q v v1 a b) h nx := by kernel_rfl
theorem F135.t18_L (Inv : Nat → AV → T Blk → Pa → Prop) {m : Nat} (hm : m < N) (hi : Inv m w h nx)
  (step : ∀ (m : Nat) (z5 z6 z9 zA zB : AV) (h : T Blk) (nx : Pa) (R : Ks Prop), Inv m z9 h nx → (∀ (m' : Nat) (w5 w6 w9 wA wB : AV) (h' : T Blk) (nx' : Pa), m' < m → Inv m' w9 h' nx' → R (F135.fr c e f o g w5 w6 q v w9 wA wB) h' nx' = .ok True) → IR.run F135.t17 C N O R (F135.fr c e f o g z5 z6 q v z9 zA zB) h nx = .ok True) :
  IR.run F135.t18 C N O K (F135.fr c e f o g l p q v w a b) h nx = .ok True := by
 rw [F135.t18]
 refine yR (fun m tm h nx => ∃ z5 z6 z9 zA zB, tm = (F135.fr c e f o g z5 z6 q v z9 zA zB) ∧ Inv m z9 h nx) ?_ hm ⟨_, _, _, _, _, rfl, hi⟩
 rintro m tm h nx R ⟨z5, z6, z9, zA, zB, rfl, hi⟩ hR
 exact step m z5 z6 z9 zA zB h nx R hi fun m' w5 w6 w9 wA wB h' nx' hlt hi' => hR m' _ h' nx' hlt ⟨_, _, _, _, _, rfl, hi'⟩
theorem F135.t21_s : IR.run F135.t21 C N O K (F135.fr c e f o g l p q v w a b) h nx =
 K (F135.fr c e f g g l p q v w a b) h nx := by kernel_rfl
theorem F135.tab : T.get none (.of 135) tbl = some F135 := by kernel_rfl
theorem F135.bind (k : T AV → OP) : yF F135.params [a0, a1] F135.init k = k (F135.fr a0 a1 .undef .undef .undef .undef .undef .undef .undef .undef .undef .undef) := by kernel_rfl
theorem F135.body_eq : F135.body = F135.t25 := by kernel_rfl
theorem F135.go : zT tbl N C (.of 135) [a0, a1] h nx K0 = IR.run F135.t25 C N (fnO F135.res K0) (retK F135.res K0) (F135.fr a0 a1 .undef .undef .undef .undef .undef .undef .undef .undef .undef .undef) h nx := by
 rw [zM F135.tab, F135.bind, F135.body_eq]; kernel_rfl
theorem F135.ret : retK F135.res K0 (F135.fr c e f o g l p q v w a b) h nx = K0 o h nx := by kernel_rfl
noncomputable def F134.t0 : IR := .reg [.q (.of 1) (.mv (.c (I 0)))]
noncomputable def F134.t1 : IR := .reg [.s (.mv (.t (.of 0))), .s (.len (.s 0)), .s (.bin .gtr .int (.s 0) (.c (I 256))), .w .push none (.call (.c (.fn 96 (.of 96) [])) [(.s 0), (.c (I 5))]), .s (.mv (.t (.of 0))), .w .push none (.call (.c (.fn 136 (.of 136) [])) [(.s 0), (.c (.fn 137 (.of 137) []))]), .w .push none (.call (.c (.fn 96 (.of 96) [])) [(.s 0), (.c (I 3))]), .w .push none (.bslice 1 2 [(I 0)] [(0, 1, (.s 3)), (1, 1, (.s 0))]), .w .push none (.call (.c (.fn 94 (.of 94) [])) [(.s 0)]), .q (.of 1) (.mv (.s 0))]
noncomputable def F134.t2 : IR := .seq F134.t1 .ret
noncomputable def F134.t3 : IR := .seq F134.t0 F134.t2
theorem F134.t0_s : IR.run F134.t0 C N O K (F134.fr c e) h nx =
 K (F134.fr c (I 0)) h nx := by kernel_rfl
theorem F134.t1_s : IR.run F134.t1 C N O K (F134.fr c e) h nx =
 sLen c fun v1 => sBin .gtr .int v1 (I 256) fun v2 => C.fn 96 (.of 96) [v2, (I 5)] h nx fun v3 h4 n5 => C.fn 136 (.of 136) [c, (.fn 137 (.of 137) [])] h4 n5 fun v6 h7 n8 => C.fn 96 (.of 96) [v6, (I 3)] h7 n8 fun v9 hU nU => jB 1 2 [(I 0)] [(0, 1, v3), (1, 1, v9)] hU nU fun vC h13 n14 => C.fn 94 (.of 94) [vC] h13 n14 fun vF h16 n17 => K (F134.fr c vF) h16 n17 := by kernel_rfl
theorem F134.tab : T.get none (.of 134) tbl = some F134 := by kernel_rfl
theorem F134.bind (k : T AV → OP) : yF F134.params [a0] F134.init k = k (F134.fr a0 .undef) := by kernel_rfl
theorem F134.body_eq : F134.body = F134.t3 := by kernel_rfl
theorem F134.go : zT tbl N C (.of 134) [a0] h nx K0 = IR.run F134.t3 C N (fnO F134.res K0) (retK F134.res K0) (F134.fr a0 .undef) h nx := by
 rw [zM F134.tab, F134.bind, F134.body_eq]; kernel_rfl
theorem F134.ret : retK F134.res K0 (F134.fr c e) h nx = K0 e h nx := by kernel_rfl
noncomputable def F137.t0 : IR := .reg [.q (.of 1) (.mv (.c (.bool false)))]
noncomputable def F137.t1 : IR := .reg [.s (.mv (.t (.of 0))), .s (.bin .lss .int (.s 0) (.c (I (-999999999)))), .s (.mv (.s 0)), .p .push (some ((.s 0), false)) (.mv (.t (.of 0))), .p .push (some ((.s 1), false)) (.bin .gtr .int (.s 0) (.c (I 999999999))), .s (.pick (.s 2) (.c (.bool true)) (.s 0)), .q (.of 1) (.mv (.s 0))]
noncomputable def F137.t2 : IR := .seq F137.t1 .ret
noncomputable def F137.t3 : IR := .seq F137.t0 F137.t2
theorem F137.t0_s : IR.run F137.t0 C N O K (F137.fr c e) h nx =
 K (F137.fr c (.bool false)) h nx := by kernel_rfl
theorem F137.t1_s : IR.run F137.t1 C N O K (F137.fr c e) h nx =
 sBin .lss .int c (I (-999999999)) fun v1 => sG v1 false (fun k => k c) fun v2 => sG v1 false (fun k => sBin .gtr .int v2 (I 999999999) k) fun v3 => gO v1 (.bool true) v3 fun v4 => K (F137.fr c v4) h nx := by kernel_rfl
theorem F137.tab : T.get none (.of 137) tbl = some F137 := by kernel_rfl
theorem F137.bind (k : T AV → OP) : yF F137.params [a0] F137.init k = k (F137.fr a0 .undef) := by kernel_rfl
theorem F137.body_eq : F137.body = F137.t3 := by kernel_rfl
theorem F137.go : zT tbl N C (.of 137) [a0] h nx K0 = IR.run F137.t3 C N (fnO F137.res K0) (retK F137.res K0) (F137.fr a0 .undef) h nx := by
 rw [zM F137.tab, F137.bind, F137.body_eq]; kernel_rfl
theorem F137.ret : retK F137.res K0 (F137.fr c e) h nx = K0 e h nx := by kernel_rfl
end
end Go.Ev
namespace Go.Ev
open Go Go.Proofs
set_option maxRecDepth 100000
section
variable {N : Nat} {C : Calls Prop} {K0 : Kw Prop} {K : Ks Prop} {h : T Blk} {nx : Pa} {c e f o g l p a0 a1 a2 a3 : AV} {O : Outs Prop} {tm : T AV} {Kt : KTm} {r : List RO} {s0 s1 s2 s3 s4 s5 s6 s7 s8 s9 s10 s11 s12 s13 s14 s15 s16 s17 s18 s19 s20 s21 s22 s23 s24 s25 s26 s27 s28 s29 s30 s31 s32 s33 s34 s35 s36 s37 s38 s39 s40 s41 s42 s43 s44 s45 s46 s47 s48 s49 s50 s51 s52 s53 s54 s55 s56 s57 s58 s59 : AV}
end
end Go.Ev
namespace Go.Ev
open Go Go.Proofs
set_option maxRecDepth 100000
section
variable {N : Nat} {C : Calls Prop} {K0 : Kw Prop} {K : Ks Prop} {h : T Blk} {nx : Pa} {c e f o g l p q v w a b d i s u a0 a1 a2 a3 : AV} {O : Outs Prop} {tm : T AV} {Kt : KTm} {r : List RO} {s0 s1 s2 s3 s4 s5 s6 s7 s8 s9 s10 s11 s12 s13 s14 s15 s16 s17 s18 s19 s20 s21 s22 s23 s24 s25 s26 s27 s28 s29 s30 s31 s32 s33 s34 s35 s36 s37 s38 s39 s40 s41 s42 s43 s44 s45 s46 s47 s48 s49 s50 s51 s52 s53 s54 s55 s56 s57 s58 s59 : AV}
end
end Go.Ev
namespace Go.Ev
open Go Go.Proofs
set_option maxRecDepth 100000
section
variable {N : Nat} {C : Calls Prop} {K0 : Kw Prop} {K : Ks Prop} {h : T Blk} {nx : Pa} {c e f o g l p q v w a b d i s u z y a0 a1 a2 : AV} {O : Outs Prop} {tm : T AV} {Kt : KTm} {r : List RO} {s0 s1 s2 s3 s4 s5 s6 s7 s8 s9 s10 s11 s12 s13 s14 s15 s16 s17 s18 s19 s20 s21 s22 s23 s24 s25 s26 s27 s28 s29 s30 s31 s32 s33 s34 s35 s36 s37 s38 s39 s40 s41 s42 s43 s44 s45 s46 s47 s48 s49 s50 s51 s52 s53 s54 s55 s56 s57 s58 s59 : AV}
noncomputable def F120.t0 : IR := .reg [.q (.of 3) (.mv (.c .nilm)), .w (.loc (.of 4)) none (.alloc [.nils, .nils]), .q (.of 5) (.mv (.c (I 0)))]
noncomputable def F120.t1 : IR := .reg [.w (.loc (.of 6)) none (.alloc [.nils, .nils])]
noncomputable def F120.t2 : IR := .reg [.s (.mv (.t (.of 0))), .s (.mv (.t (.of 2))), .w .push none (.call (.c (.fn 92 (.of 92) [])) [(.s 1), (.s 0)]), .s (.mv (.s 0)), .s (.ext 0 (.s 0)), .s (.ext 1 (.s 1)), .s (.ext 2 (.s 2)), .q (.of 7) (.mv (.s 2)), .q (.of 8) (.mv (.s 1)), .q (.of 9) (.mv (.s 0))]
noncomputable def F120.t3 : IR := .reg [.s (.mv (.t (.of 9))), .q (.of 13) (.bin .neq .int (.s 0) (.c (I 0)))]
noncomputable def F120.t4 : IR := .dreg [] [(.s (.loadN 2 (.t (.of 6))), 0, []), (.s (.mv (.t (.of 9))), 1, []), (.q (.of 3) (.mv (.c .nilm)), 0, []), (.w .none none (.store 2 (.t (.of 4)) (.s 1)), 0, []), (.q (.of 5) (.mv (.s 0)), 0, [])]
noncomputable def F120.t5 : IR := .seq F120.t4 .ret
noncomputable def F120.t6 : IR := .cond (.t (.of 13)) F120.t5 .skip
noncomputable def F120.t7 : IR := .seq F120.t3 F120.t6
noncomputable def F120.t8 : IR := .reg [.s (.mv (.t (.of 1))), .s (.mv (.t (.of 2))), .w .push none (.call (.c (.fn 92 (.of 92) [])) [(.s 1), (.s 0)]), .s (.mv (.s 0)), .s (.ext 0 (.s 0)), .s (.ext 1 (.s 1)), .s (.ext 2 (.s 2)), .q (.of 10) (.mv (.s 2)), .q (.of 11) (.mv (.s 1)), .q (.of 9) (.mv (.s 0))]
noncomputable def F120.t9 : IR := .reg [.s (.mv (.t (.of 9))), .q (.of 14) (.bin .neq .int (.s 0) (.c (I 0)))]
noncomputable def F120.t10 : IR := .dreg [] [(.s (.loadN 2 (.t (.of 6))), 0, []), (.s (.mv (.t (.of 9))), 1, []), (.q (.of 3) (.mv (.c .nilm)), 0, []), (.w .none none (.store 2 (.t (.of 4)) (.s 1)), 0, []), (.q (.of 5) (.mv (.s 0)), 0, [])]
noncomputable def F120.t11 : IR := .seq F120.t10 .ret
noncomputable def F120.t12 : IR := .cond (.t (.of 14)) F120.t11 .skip
noncomputable def F120.t13 : IR := .seq F120.t9 F120.t12
noncomputable def F120.t14 : IR := .reg [.s (.mv (.t (.of 10))), .w (.loc (.of 15)) none (.range (.s 0))]
noncomputable def F120.t15 : IR := .reg [.w .push none (.next (.t (.of 15))), .q (.of 16) (.ext 0 (.s 0))]
noncomputable def F120.t16 : IR := .cond (.t (.of 16)) .skip (.exit 0)
noncomputable def F120.t17 : IR := .reg [.s (.entry (.t (.of 15))), .s (.ext 1 (.s 0)), .w (.loc (.of 12)) none (.alloc [.nils, (.bool false)]), .w .none none (.store 2 (.t (.of 12)) (.s 0))]
noncomputable def F120.t18 : IR := .reg [.s (.mv (.t (.of 7))), .s (.loadN 2 (.t (.of 12))), .w .push none (.call (.c (.fn 121 (.of 121) [])) [(.s 1), (.s 0)]), .q (.of 17) (.not (.s 0))]
noncomputable def F120.t19 : IR := .dreg [] [(.s (.loadN 2 (.t (.of 6))), 0, []), (.q (.of 3) (.mv (.c .nilm)), 0, []), (.w .none none (.store 2 (.t (.of 4)) (.s 0)), 0, []), (.q (.of 5) (.mv (.c (I 28))), 0, [])]
noncomputable def F120.t20 : IR := .seq F120.t19 .ret
noncomputable def F120.t21 : IR := .cond (.t (.of 17)) F120.t20 .skip
noncomputable def F120.t22 : IR := .seq F120.t18 F120.t21
noncomputable def F120.t23 : IR := .seq F120.t17 F120.t22
noncomputable def F120.t24 : IR := .block 1 F120.t23
noncomputable def F120.t25 : IR := .seq F120.t16 F120.t24
noncomputable def F120.t26 : IR := .seq F120.t15 F120.t25
noncomputable def F120.t27 : IR := .loop F120.t26
noncomputable def F120.t28 : IR := .block 0 F120.t27
noncomputable def F120.t29 : IR := .seq F120.t14 F120.t28
noncomputable def F120.t30 : IR := .reg [.s (.mv (.t (.of 8))), .s (.mv (.t (.of 11))), .s (.aaddr 1 2 (.t (.of 6)) (.c (I 0))), .w .none none (.store 1 (.s 0) (.s 2)), .s (.aaddr 1 2 (.t (.of 6)) (.c (I 1))), .w .none none (.store 1 (.s 0) (.s 2))]
noncomputable def F120.t31 : IR := .dreg [] [(.s (.mv (.t (.of 10))), 0, []), (.s (.loadN 2 (.t (.of 6))), 0, []), (.q (.of 3) (.mv (.s 1)), 0, []), (.w .none none (.store 2 (.t (.of 4)) (.s 0)), 0, []), (.q (.of 5) (.mv (.c (I 0))), 0, [])]
noncomputable def F120.t32 : IR := .seq F120.t31 .ret
noncomputable def F120.t33 : IR := .seq F120.t30 F120.t32
noncomputable def F120.t34 : IR := .seq F120.t29 F120.t33
noncomputable def F120.t35 : IR := .seq F120.t13 F120.t34
noncomputable def F120.t36 : IR := .seq F120.t8 F120.t35
noncomputable def F120.t37 : IR := .seq F120.t7 F120.t36
noncomputable def F120.t38 : IR := .seq F120.t2 F120.t37
noncomputable def F120.t39 : IR := .seq F120.t1 F120.t38
noncomputable def F120.t40 : IR := .seq F120.t0 F120.t39
theorem F120.t0_s : IR.run F120.t0 C N O K (F120.fr c e f o g l p q v w a b d i s u z y) h nx =
 yH [.nils, .nils] h nx fun v1 h2 n3 => K (F120.fr c e f .nilm v1 (I 0) p q v w a b d i s u z y) h2 n3 := by kernel_rfl
theorem F120.t1_s : IR.run F120.t1 C N O K (F120.fr c e f o g l p q v w a b d i s u z y) h nx =
 yH [.nils, .nils] h nx fun v1 h2 n3 => K (F120.fr c e f o g l v1 q v w a b d i s u z y) h2 n3 := by kernel_rfl
theorem F120.t2_s : IR.run F120.t2 C N O K (F120.fr c e f o g l p q v w a b d i s u z y) h nx =
 C.fn 92 (.of 92) [c, f] h nx fun v1 h2 n3 => sExt 0 v1 fun v4 => sExt 1 v1 fun v5 => sExt 2 v1 fun v6 => K (F120.fr c e f o g l p v4 v5 v6 a b d i s u z y) h2 n3 := by kernel_rfl
theorem F120.t3_s : IR.run F120.t3 C N O K (F120.fr c e f o g l p q v w a b d i s u z y) h nx =
 sBin .neq .int w (I 0) fun v1 => K (F120.fr c e f o g l p q v w a b d v1 s u z y) h nx := by kernel_rfl
theorem F120.t4_s : IR.run F120.t4 C N O K (F120.fr c e f o g l p q v w a b d i s u z y) h nx =
 zH 2 p h fun v1 => zL 2 g v1 h nx fun v2 h3 n4 => zO w w (K (F120.fr c e f .nilm g w p q v w a b d i s u z y) h3 n4) := by kernel_rfl
theorem F120.v13 : Arg.ev (.t (.of 13)) ⟨(F120.fr c e f o g l p q v w a b d i s u z y), []⟩ = i := by kernel_rfl
theorem F120.t8_s : IR.run F120.t8 C N O K (F120.fr c e f o g l p q v w a b d i s u z y) h nx =
 C.fn 92 (.of 92) [e, f] h nx fun v1 h2 n3 => sExt 0 v1 fun v4 => sExt 1 v1 fun v5 => sExt 2 v1 fun v6 => K (F120.fr c e f o g l p q v v6 v4 v5 d i s u z y) h2 n3 := by kernel_rfl
theorem F120.t9_s : IR.run F120.t9 C N O K (F120.fr c e f o g l p q v w a b d i s u z y) h nx =
 sBin .neq .int w (I 0) fun v1 => K (F120.fr c e f o g l p q v w a b d i v1 u z y) h nx := by kernel_rfl
theorem F120.t10_s : IR.run F120.t10 C N O K (F120.fr c e f o g l p q v w a b d i s u z y) h nx =
 zH 2 p h fun v1 => zL 2 g v1 h nx fun v2 h3 n4 => zO w w (K (F120.fr c e f .nilm g w p q v w a b d i s u z y) h3 n4) := by kernel_rfl
theorem F120.v14 : Arg.ev (.t (.of 14)) ⟨(F120.fr c e f o g l p q v w a b d i s u z y), []⟩ = s := by kernel_rfl
theorem F120.t14_s : IR.run F120.t14 C N O K (F120.fr c e f o g l p q v w a b d i s u z y) h nx =
 sRange a h nx fun v1 h2 n3 => K (F120.fr c e f o g l p q v w a b d i s v1 z y) h2 n3 := by kernel_rfl
theorem F120.t15_s : IR.run F120.t15 C N O K (F120.fr c e f o g l p q v w a b d i s u z y) h nx =
 sNext C u h nx fun v1 h2 n3 => sExt 0 v1 fun v4 => K (F120.fr c e f o g l p q v w a b d i s u v4 y) h2 n3 := by kernel_rfl
theorem F120.v16 : Arg.ev (.t (.of 16)) ⟨(F120.fr c e f o g l p q v w a b d i s u z y), []⟩ = z := by kernel_rfl
theorem F120.t17_s : IR.run F120.t17 C N O K (F120.fr c e f o g l p q v w a b d i s u z y) h nx =
 sEntry u h fun v1 => sExt 1 v1 fun v2 => yH [.nils, (.bool false)] h nx fun v3 h4 n5 => zL 2 v3 v2 h4 n5 fun v6 h7 n8 => K (F120.fr c e f o g l p q v w a b v3 i s u z y) h7 n8 := by kernel_rfl
theorem F120.t18_s : IR.run F120.t18 C N O K (F120.fr c e f o g l p q v w a b d i s u z y) h nx =
 zH 2 d h fun v1 => C.fn 121 (.of 121) [q, v1] h nx fun v2 h3 n4 => sNot v2 fun v5 => K (F120.fr c e f o g l p q v w a b d i s u z v5) h3 n4 := by kernel_rfl
theorem F120.t19_s : IR.run F120.t19 C N O K (F120.fr c e f o g l p q v w a b d i s u z y) h nx =
 zH 2 p h fun v1 => zL 2 g v1 h nx fun v2 h3 n4 => K (F120.fr c e f .nilm g (I 28) p q v w a b d i s u z y) h3 n4 := by kernel_rfl
theorem F120.v17 : Arg.ev (.t (.of 17)) ⟨(F120.fr c e f o g l p q v w a b d i s u z y), []⟩ = y := by kernel_rfl
theorem F120.t27_L (Inv : Nat → T Blk → Pa → Prop) {m : Nat} (hm : m < N) (hi : Inv m h nx)
  (step : ∀ (m : Nat) (z3 z5 zC zQ zR : AV) (h : T Blk) (nx : Pa) (R : Ks Prop), Inv m h nx → (∀ (m' : Nat) (w3 w5 wC wL wM : AV) (h' : T Blk) (nx' : Pa), m' < m → Inv m' h' nx' → R (F120.fr c e f w3 g w5 p q v w a b wC i s u wL wM) h' nx' = .ok True) → IR.run F120.t26 C N O R (F120.fr c e f z3 g z5 p q v w a b zC i s u zQ zR) h nx = .ok True) :
  IR.run F120.t27 C N O K (F120.fr c e f o g l p q v w a b d i s u z y) h nx = .ok True := by
 rw [F120.t27]
 refine yR (fun m tm h nx => ∃ z3 z5 zC zQ zR, tm = (F120.fr c e f z3 g z5 p q v w a b zC i s u zQ zR) ∧ Inv m h nx) ?_ hm ⟨_, _, _, _, _, rfl, hi⟩
 rintro m tm h nx R ⟨z3, z5, zC, zQ, zR, rfl, hi⟩ hR
 exact step m z3 z5 zC zQ zR h nx R hi fun m' w3 w5 wC wL wM h' nx' hlt hi' => hR m' _ h' nx' hlt ⟨_, _, _, _, _, rfl, hi'⟩
theorem F120.t30_s : IR.run F120.t30 C N O K (F120.fr c e f o g l p q v w a b d i s u z y) h nx =
 dG 1 2 p (I 0) fun v1 => zL 1 v1 v h nx fun v2 h3 n4 => dG 1 2 p (I 1) fun v5 => zL 1 v5 b h3 n4 fun v6 h7 n8 => K (F120.fr c e f o g l p q v w a b d i s u z y) h7 n8 := by kernel_rfl
theorem F120.t31_s : IR.run F120.t31 C N O K (F120.fr c e f o g l p q v w a b d i s u z y) h nx =
 zH 2 p h fun v1 => zL 2 g v1 h nx fun v2 h3 n4 => K (F120.fr c e f a g (I 0) p q v w a b d i s u z y) h3 n4 := by kernel_rfl
theorem F120.tab : T.get none (.of 120) tbl = some F120 := by kernel_rfl
theorem F120.bind (k : T AV → OP) : yF F120.params [a0, a1, a2] F120.init k = k (F120.fr a0 a1 a2 .undef .undef .undef .undef .undef .undef .undef .undef .undef .undef .undef .undef .undef .undef .undef) := by kernel_rfl
theorem F120.body_eq : F120.body = F120.t40 := by kernel_rfl
theorem F120.go : zT tbl N C (.of 120) [a0, a1, a2] h nx K0 = IR.run F120.t40 C N (fnO F120.res K0) (retK F120.res K0) (F120.fr a0 a1 a2 .undef .undef .undef .undef .undef .undef .undef .undef .undef .undef .undef .undef .undef .undef .undef) h nx := by
 rw [zM F120.tab, F120.bind, F120.body_eq]; kernel_rfl
theorem F120.ret : retK F120.res K0 (F120.fr c e f o g l p q v w a b d i s u z y) h nx = zH 2 g h fun v1 => K0 (.tup [o, v1, l]) h nx := by kernel_rfl
noncomputable def F27.t0 : IR := .reg [.q (.of 2) (.mv (.c .nils)), .q (.of 3) (.mv (.c (I 0)))]
noncomputable def F27.t1 : IR := .reg [.s (.mv (.t (.of 1))), .w .push none (.call (.c (.fn 95 (.of 95) [])) [(.s 0)]), .s (.mv (.t (.of 0))), .s (.len (.s 0)), .s (.bin .gtr .int (.s 0) (.c (I 256))), .w .push none (.call (.c (.fn 96 (.of 96) [])) [(.s 0), (.c (I 5))]), .w .push none (.bslice 1 2 [(I 0)] [(0, 1, (.s 4)), (1, 1, (.s 0))]), .w .push none (.call (.c (.fn 94 (.of 94) [])) [(.s 0)]), .q (.of 4) (.mv (.s 0))]
noncomputable def F27.t2 : IR := .reg [.s (.mv (.t (.of 4))), .q (.of 8) (.bin .neq .int (.s 0) (.c (I 0)))]
noncomputable def F27.t3 : IR := .reg [.s (.mv (.t (.of 4))), .q (.of 2) (.mv (.c .nils)), .q (.of 3) (.mv (.s 0))]
noncomputable def F27.t4 : IR := .seq F27.t3 .ret
noncomputable def F27.t5 : IR := .cond (.t (.of 8)) F27.t4 .skip
noncomputable def F27.t6 : IR := .seq F27.t2 F27.t5
noncomputable def F27.t7 : IR := .seq F27.t1 F27.t6
noncomputable def F27.t8 : IR := .reg [.s (.mv (.t (.of 0))), .s (.mv (.t (.of 1))), .w .push none (.call (.c (.fn 97 (.of 97) [])) [(.s 1), (.s 0)]), .q (.of 5) (.mv (.s 0))]
noncomputable def F27.t9 : IR := .reg [.s (.mv (.t (.of 5))), .q (.of 9) (.bin .neq .int (.s 0) (.c (I 0)))]
noncomputable def F27.t10 : IR := .reg [.s (.mv (.t (.of 5))), .q (.of 2) (.mv (.c .nils)), .q (.of 3) (.mv (.s 0))]
noncomputable def F27.t11 : IR := .seq F27.t10 .ret
noncomputable def F27.t12 : IR := .cond (.t (.of 9)) F27.t11 .skip
noncomputable def F27.t13 : IR := .seq F27.t9 F27.t12
noncomputable def F27.t14 : IR := .seq F27.t8 F27.t13
noncomputable def F27.t15 : IR := .reg [.s (.mv (.t (.of 0))), .s (.mv (.t (.of 1))), .w .push none (.call (.c (.fn 98 (.of 98) [])) [(.s 1), (.s 0), (.c (I 1536))]), .s (.mv (.s 0)), .s (.ext 0 (.s 0)), .s (.ext 1 (.s 1)), .s (.ext 2 (.s 2)), .q (.of 6) (.mv (.s 2)), .s (.mv (.s 1)), .q (.of 7) (.mv (.s 1))]
noncomputable def F27.t16 : IR := .reg [.s (.mv (.t (.of 7))), .q (.of 10) (.not (.s 0))]
noncomputable def F27.t17 : IR := .reg [.q (.of 2) (.mv (.c .nils)), .q (.of 3) (.mv (.c (I 20)))]
noncomputable def F27.t18 : IR := .seq F27.t17 .ret
noncomputable def F27.t19 : IR := .cond (.t (.of 10)) F27.t18 .skip
noncomputable def F27.t20 : IR := .seq F27.t16 F27.t19
noncomputable def F27.t21 : IR := .reg [.s (.mv (.t (.of 6))), .w .push none (.call (.c (.fn 99 (.of 99) [])) [(.s 0)]), .q (.of 2) (.mv (.s 0)), .q (.of 3) (.mv (.c (I 0)))]
noncomputable def F27.t22 : IR := .seq F27.t21 .ret
noncomputable def F27.t23 : IR := .seq F27.t20 F27.t22
noncomputable def F27.t24 : IR := .seq F27.t15 F27.t23
noncomputable def F27.t25 : IR := .seq F27.t14 F27.t24
noncomputable def F27.t26 : IR := .seq F27.t7 F27.t25
noncomputable def F27.t27 : IR := .seq F27.t0 F27.t26
theorem F27.t0_s : IR.run F27.t0 C N O K (F27.fr c e f o g l p q v w a) h nx =
 K (F27.fr c e .nils (I 0) g l p q v w a) h nx := by kernel_rfl
theorem F27.t1_s : IR.run F27.t1 C N O K (F27.fr c e f o g l p q v w a) h nx =
 C.fn 95 (.of 95) [e] h nx fun v1 h2 n3 => sLen c fun v4 => sBin .gtr .int v4 (I 256) fun v5 => C.fn 96 (.of 96) [v5, (I 5)] h2 n3 fun v6 h7 n8 => jB 1 2 [(I 0)] [(0, 1, v1), (1, 1, v6)] h7 n8 fun v9 hU nU => C.fn 94 (.of 94) [v9] hU nU fun vC h13 n14 => K (F27.fr c e f o vC l p q v w a) h13 n14 := by kernel_rfl
theorem F27.t2_s : IR.run F27.t2 C N O K (F27.fr c e f o g l p q v w a) h nx =
 sBin .neq .int g (I 0) fun v1 => K (F27.fr c e f o g l p q v1 w a) h nx := by kernel_rfl
theorem F27.t3_s : IR.run F27.t3 C N O K (F27.fr c e f o g l p q v w a) h nx =
 K (F27.fr c e .nils g g l p q v w a) h nx := by kernel_rfl
theorem F27.v8 : Arg.ev (.t (.of 8)) ⟨(F27.fr c e f o g l p q v w a), []⟩ = v := by kernel_rfl
theorem F27.t8_s : IR.run F27.t8 C N O K (F27.fr c e f o g l p q v w a) h nx =
 C.fn 97 (.of 97) [c, e] h nx fun v1 h2 n3 => K (F27.fr c e f o g v1 p q v w a) h2 n3 := by kernel_rfl
theorem F27.t9_s : IR.run F27.t9 C N O K (F27.fr c e f o g l p q v w a) h nx =
 sBin .neq .int l (I 0) fun v1 => K (F27.fr c e f o g l p q v v1 a) h nx := by kernel_rfl
theorem F27.t10_s : IR.run F27.t10 C N O K (F27.fr c e f o g l p q v w a) h nx =
 K (F27.fr c e .nils l g l p q v w a) h nx := by kernel_rfl
theorem F27.v9 : Arg.ev (.t (.of 9)) ⟨(F27.fr c e f o g l p q v w a), []⟩ = w := by kernel_rfl
theorem F27.t15_s : IR.run F27.t15 C N O K (F27.fr c e f o g l p q v w a) h nx =
 C.fn 98 (.of 98) [c, e, (I 1536)] h nx fun v1 h2 n3 => sExt 0 v1 fun v4 => sExt 1 v1 fun v5 => sExt 2 v1 fun v6 => K (F27.fr c e f o g l v4 v6 v w a) h2 n3 := by kernel_rfl
theorem F27.t16_s : IR.run F27.t16 C N O K (F27.fr c e f o g l p q v w a) h nx =
 sNot q fun v1 => K (F27.fr c e f o g l p q v w v1) h nx := by kernel_rfl
theorem F27.t17_s : IR.run F27.t17 C N O K (F27.fr c e f o g l p q v w a) h nx =
 K (F27.fr c e .nils (I 20) g l p q v w a) h nx := by kernel_rfl
theorem F27.v10 : Arg.ev (.t (.of 10)) ⟨(F27.fr c e f o g l p q v w a), []⟩ = a := by kernel_rfl
theorem F27.t21_s : IR.run F27.t21 C N O K (F27.fr c e f o g l p q v w a) h nx =
 C.fn 99 (.of 99) [p] h nx fun v1 h2 n3 => K (F27.fr c e v1 (I 0) g l p q v w a) h2 n3 := by kernel_rfl
theorem F27.tab : T.get none (.of 27) tbl = some F27 := by kernel_rfl
theorem F27.bind (k : T AV → OP) : yF F27.params [a0, a1] F27.init k = k (F27.fr a0 a1 .undef .undef .undef .undef .undef .undef .undef .undef .undef) := by kernel_rfl
theorem F27.body_eq : F27.body = F27.t27 := by kernel_rfl
theorem F27.go : zT tbl N C (.of 27) [a0, a1] h nx K0 = IR.run F27.t27 C N (fnO F27.res K0) (retK F27.res K0) (F27.fr a0 a1 .undef .undef .undef .undef .undef .undef .undef .undef .undef) h nx := by
 rw [zM F27.tab, F27.bind, F27.body_eq]; kernel_rfl
theorem F27.ret : retK F27.res K0 (F27.fr c e f o g l p q v w a) h nx = K0 (.tup [f, o]) h nx := by kernel_rfl
end
end Go.Ev
namespace Go.Ev
open Go Go.Proofs
set_option maxRecDepth 100000
variable {N : Nat} {C : Calls Prop} {K0 : Kw Prop} {K R : Ks Prop} {h : T Blk} {nx : Pa} {c e f o g l p q v w a b a0 : AV}
theorem F99.g1_eq (X2 : IR) (O : Outs Prop) (t : T AV) : IR.run (F99.g1 X2) C N O K t h nx = IR.run X2 C N (O.blk 0 K) K t h nx := by kernel_rfl
theorem F99.g7_eq (X8 : IR) (O : Outs Prop) (t : T AV) : IR.run (F99.g7 X8) C N O K t h nx = IR.run X8 C N (O.blk 2 K) K t h nx := by kernel_rfl
theorem F99.tab : T.get none (.of 99) tbl = some F99 := by kernel_rfl
theorem F99.go : zT tbl N C (.of 99) [a0] h nx K0 =
 sRange a0 h nx fun v1 h2 n3 => IR.run F99.b1 C N (fnO F99.res K0) (IR.run F99.b6 C N (fnO F99.res K0) (retK F99.res K0)) (F99.fr a0 .nils .nils .undef .undef .undef v1 .undef .undef .undef .undef .undef) h2 n3 := by
 rw [zM F99.tab]; kernel_rfl
theorem F99.L1 (Inv : Nat → AV → T Blk → Pa → Prop) {m : Nat} (hm : m < N) (hi : Inv m f h nx)
  (step : ∀ (m : Nat) (z2 z3 z7 : AV) (h : T Blk) (nx : Pa) (R : Ks Prop), Inv m z2 h nx → (∀ (m' : Nat) (w2 w3 w7 : AV) (h' : T Blk) (nx' : Pa), m' < m → Inv m' w2 h' nx' → R (F99.fr c e w2 w3 g l p w7 v w a b) h' nx' = .ok True) →
   (sNext C p h nx fun v1 h2 n3 => sExt 0 v1 fun v4 => yM v4 (sEntry p h2 fun v5 => sExt 1 v5 fun v6 => yH [.nils, (.bool false)] h2 n3 fun v7 h8 n9 => zL 2 v7 v6 h8 n9 fun vA hC nD => zH 2 v7 hC fun vD => jB 2 1 [.nils, (.bool false)] [(0, 2, vD)] hC nD fun vE hA nA => vR C 2 32 z2 vE hA nA fun vH h18 n19 => R (F99.fr c e vH v7 g l p v4 v w a b) h18 n19) (K (F99.fr c e z2 z3 g l p v4 v w a b) h2 n3)) = .ok True) :
  IR.run F99.b1 C N (fnO F99.res K0) K (F99.fr c e f o g l p q v w a b) h nx = .ok True := by
 rw [F99.b1, F99.g1_eq, F99.b2]
 refine yR (fun m tm h nx => ∃ z2 z3 z7, tm = (F99.fr c e z2 z3 g l p z7 v w a b) ∧ Inv m z2 h nx) ?_ hm ⟨_, _, _, rfl, hi⟩
 rintro m tm h nx R ⟨z2, z3, z7, rfl, hi⟩ hR
 refine Eq.trans ?_ (step m z2 z3 z7 h nx R hi fun m' w2 w3 w7 h' nx' hlt hi' => hR m' _ h' nx' hlt ⟨_, _, _, rfl, hi'⟩)
 kernel_rfl
theorem F99.k6 : IR.run F99.b6 C N (fnO F99.res K0) K (F99.fr c e f o g l p q v w a b) h nx =
 C.fn 164 (.of 164) [f, (.fn 162 (.of 162) [])] h nx fun v1 h2 n3 => sLen f fun v4 => IR.run F99.b7 C N (fnO F99.res K0) (IR.run F99.b14 C N (fnO F99.res K0) K) (F99.fr c e f o .nils l p q f v4 (I 0) b) h2 n3 := by kernel_rfl
theorem F99.L7 (Inv : Nat → AV → AV → T Blk → Pa → Prop) {m : Nat} (hm : m < N) (hi : Inv m g a h nx)
  (step : ∀ (m : Nat) (z4 z5 zA zB : AV) (h : T Blk) (nx : Pa) (R : Ks Prop), Inv m z4 zA h nx → (∀ (m' : Nat) (w4 w5 wA wB : AV) (h' : T Blk) (nx' : Pa), m' < m → Inv m' w4 wA h' nx' → R (F99.fr c e f o w4 w5 p q v w wA wB) h' nx' = .ok True) →
   (sBin .lss .int zA w fun v1 => yM v1 (zZ 2 v zA fun v2 => zH 2 v2 h fun v3 => yH [.nils, (.bool false)] h nx fun v4 h5 n6 => zL 2 v4 v3 h5 n6 fun v7 h8 n9 => zH 2 v4 h8 fun vA => jB 2 1 [.nils, (.bool false)] [(0, 2, vA)] h8 n9 fun vB hB nC => vR C 2 32 z4 vB hB nC fun vE hA nA => sBin .add .int zA (I 1) fun vH => R (F99.fr c e f o vE v4 p q v w vH v1) hA nA) (K (F99.fr c e f o z4 z5 p q v w zA v1) h nx)) = .ok True) :
  IR.run F99.b7 C N (fnO F99.res K0) K (F99.fr c e f o g l p q v w a b) h nx = .ok True := by
 rw [F99.b7, F99.g7_eq, F99.b8]
 refine yR (fun m tm h nx => ∃ z4 z5 zA zB, tm = (F99.fr c e f o z4 z5 p q v w zA zB) ∧ Inv m z4 zA h nx) ?_ hm ⟨_, _, _, _, rfl, hi⟩
 rintro m tm h nx R ⟨z4, z5, zA, zB, rfl, hi⟩ hR
 refine Eq.trans ?_ (step m z4 z5 zA zB h nx R hi fun m' w4 w5 wA wB h' nx' hlt hi' => hR m' _ h' nx' hlt ⟨_, _, _, _, rfl, hi'⟩)
 kernel_rfl
theorem F99.k14 : IR.run F99.b14 C N (fnO F99.res K0) K (F99.fr c e f o g l p q v w a b) h nx =
 K0 g h nx := by kernel_rfl
end Go.Ev
namespace Go.Ev
open Go Go.Proofs
set_option maxRecDepth 100000
section
variable {N : Nat} {C : Calls Prop} {K0 : Kw Prop} {K : Ks Prop} {h : T Blk} {nx : Pa} {c e f o g l p q v w a b d i s u z y B A a0 a1 a2 : AV} {O : Outs Prop} {tm : T AV} {Kt : KTm} {r : List RO} {s0 s1 s2 s3 s4 s5 s6 s7 s8 s9 s10 s11 s12 s13 s14 s15 s16 s17 s18 s19 s20 s21 s22 s23 s24 s25 s26 s27 s28 s29 s30 s31 s32 s33 s34 s35 s36 s37 s38 s39 s40 s41 s42 s43 s44 s45 s46 s47 s48 s49 s50 s51 s52 s53 s54 s55 s56 s57 s58 s59 : AV}
noncomputable def F39.t0 : IR := .reg [.w (.loc (.of 3)) none (.box (.t (.of 1))), .q (.of 4) (.mv (.c .nils)), .q (.of 5) (.mv (.c (I 0)))]
noncomputable def F39.t1 : IR := .reg [.s (.mv (.t (.of 0))), .s (.load (.t (.of 3))), .s (.mv (.t (.of 2))), .w .push none (.call (.c (.fn 120 (.of 120) [])) [(.s 2), (.s 1), (.s 0)]), .s (.mv (.s 0)), .s (.ext 0 (.s 0)), .s (.ext 1 (.s 1)), .s (.ext 2 (.s 2)), .w .push none (.alloc [.nils, .nils]), .s (.mv (.s 3)), .w .none none (.store 2 (.s 1) (.s 3)), .q (.of 6) (.mv (.s 2))]
noncomputable def F39.t2 : IR := .reg [.s (.mv (.t (.of 6))), .q (.of 12) (.bin .neq .int (.s 0) (.c (I 0)))]
noncomputable def F39.t3 : IR := .reg [.s (.mv (.t (.of 6))), .q (.of 4) (.mv (.c .nils)), .q (.of 5) (.mv (.s 0))]
noncomputable def F39.t4 : IR := .seq F39.t3 .ret
noncomputable def F39.t5 : IR := .cond (.t (.of 12)) F39.t4 .skip
noncomputable def F39.t6 : IR := .seq F39.t2 F39.t5
noncomputable def F39.t7 : IR := .seq F39.t1 F39.t6
noncomputable def F39.t8 : IR := .reg [.w .push none .mkmap, .w (.loc (.of 7)) none (.alloc [.nilm]), .w .none none (.store 1 (.t (.of 7)) (.s 0))]
noncomputable def F39.t9 : IR := .reg [.w (.loc (.of 8)) none (.alloc [.nils])]
noncomputable def F39.t10 : IR := .reg [.s (.mv (.t (.of 0))), .w (.loc (.of 13)) none (.call (.c (.fn 90 (.of 90) [])) [(.s 0)])]
noncomputable def F39.t11 : IR := .reg [.w (.loc (.of 9)) none (.alloc [.nils, (.bool false)]), .w .none none (.store 2 (.t (.of 9)) (.t (.of 15)))]
noncomputable def F39.t12 : IR := .reg [.s (.load (.t (.of 7))), .s (.loadN 2 (.t (.of 9))), .w (.loc (.of 16)) none (.call (.c (.fn 121 (.of 121) [])) [(.s 1), (.s 0)])]
noncomputable def F39.t13 : IR := .cond (.t (.of 16)) (.exit 1) .skip
noncomputable def F39.t14 : IR := .seq F39.t12 F39.t13
noncomputable def F39.t15 : IR := .reg [.s (.load (.t (.of 3))), .w (.loc (.of 17)) none (.call (.c (.fn 90 (.of 90) [])) [(.s 0)])]
noncomputable def F39.t16 : IR := .reg [.w (.loc (.of 10)) none (.alloc [.nils, (.bool false)]), .w .none none (.store 2 (.t (.of 10)) (.t (.of 19)))]
noncomputable def F39.t17 : IR := .reg [.s (.loadN 2 (.t (.of 9))), .s (.loadN 2 (.t (.of 10))), .w .push none (.call (.c (.fn 122 (.of 122) [])) [(.s 1), (.s 0)]), .w (.loc (.of 11)) none (.alloc [.nils, (.bool false)]), .w .none none (.store 2 (.t (.of 11)) (.s 0))]
noncomputable def F39.t18 : IR := .dreg [] [(.s (.load (.t (.of 7))), 1, []), (.s (.loadN 2 (.t (.of 11))), 0, []), (.s (.loadN 2 (.t (.of 11))), 1, []), (.w .push none (.call (.c (.fn 123 (.of 123) [])) [(.s 1)]), 0, []), (.w .none none (.mapup .str (.s 3) (.s 0) (.s 1)), 0, [])]
noncomputable def F39.t19 : IR := .seq F39.t17 F39.t18
noncomputable def F39.t20 : IR := .block 3 F39.t19
noncomputable def F39.t21 : IR := .rf (.t (.of 17)) [(.of 18), (.of 19)] F39.t16 F39.t20
noncomputable def F39.t22 : IR := .block 2 F39.t21
noncomputable def F39.t23 : IR := .seq F39.t15 F39.t22
noncomputable def F39.t24 : IR := .dreg [] [(.s (.load (.t (.of 8))), 2, []), (.s (.faddr 0 (.t (.of 9))), 0, []), (.s (.load (.s 0)), 0, []), (.s (.faddr 1 (.t (.of 9))), 1, []), (.s (.load (.s 0)), 1, []), (.w .push none (.call (.c (.fn 106 (.of 106) [])) [(.s 2)]), 0, []), (.s (.build [.nils, (.bool false)] [(0, 1, (.s 0)), (1, 1, (.s 1))]), 0, []), (.w .push none (.bslice 2 1 [.nils, (.bool false)] [(0, 2, (.s 0))]), 0, []), (.w .push none (.appq 2 32 (.s 7) (.s 0)), 0, []), (.w .none none (.store 1 (.t (.of 8)) (.s 0)), 0, [])]
noncomputable def F39.t25 : IR := .seq F39.t23 F39.t24
noncomputable def F39.t26 : IR := .seq F39.t14 F39.t25
noncomputable def F39.t27 : IR := .block 1 F39.t26
noncomputable def F39.t28 : IR := .rf (.t (.of 13)) [(.of 14), (.of 15)] F39.t11 F39.t27
noncomputable def F39.t29 : IR := .block 0 F39.t28
noncomputable def F39.t30 : IR := .seq F39.t10 F39.t29
noncomputable def F39.t31 : IR := .reg [.s (.load (.t (.of 8))), .q (.of 4) (.mv (.s 0)), .q (.of 5) (.mv (.c (I 0)))]
noncomputable def F39.t32 : IR := .seq F39.t31 .ret
noncomputable def F39.t33 : IR := .seq F39.t30 F39.t32
noncomputable def F39.t34 : IR := .seq F39.t9 F39.t33
noncomputable def F39.t35 : IR := .seq F39.t8 F39.t34
noncomputable def F39.t36 : IR := .seq F39.t7 F39.t35
noncomputable def F39.t37 : IR := .seq F39.t0 F39.t36
theorem F39.t0_s : IR.run F39.t0 C N O K (F39.fr c e f o g l p q v w a b d i s u z y B A) h nx =
 sBox e h nx fun v1 h2 n3 => K (F39.fr c e f v1 .nils (I 0) p q v w a b d i s u z y B A) h2 n3 := by kernel_rfl
theorem F39.t1_s : IR.run F39.t1 C N O K (F39.fr c e f o g l p q v w a b d i s u z y B A) h nx =
 zF o h fun v1 => C.fn 120 (.of 120) [c, v1, f] h nx fun v2 h3 n4 => sExt 0 v2 fun v5 => sExt 1 v2 fun v6 => sExt 2 v2 fun v7 => yH [.nils, .nils] h3 n4 fun v8 h9 nB => zL 2 v8 v6 h9 nB fun vB hB nC => K (F39.fr c e f o g l v7 q v w a b d i s u z y B A) hB nC := by kernel_rfl
theorem F39.t2_s : IR.run F39.t2 C N O K (F39.fr c e f o g l p q v w a b d i s u z y B A) h nx =
 sBin .neq .int p (I 0) fun v1 => K (F39.fr c e f o g l p q v w a b v1 i s u z y B A) h nx := by kernel_rfl
theorem F39.v12 : Arg.ev (.t (.of 12)) ⟨(F39.fr c e f o g l p q v w a b d i s u z y B A), []⟩ = d := by kernel_rfl
theorem F39.t8_s : IR.run F39.t8 C N O K (F39.fr c e f o g l p q v w a b d i s u z y B A) h nx =
 sMkmap h nx fun v1 h2 n3 => yH [.nilm] h2 n3 fun v4 h5 n6 => zL 1 v4 v1 h5 n6 fun v7 h8 n9 => K (F39.fr c e f o g l p v4 v w a b d i s u z y B A) h8 n9 := by kernel_rfl
theorem F39.t9_s : IR.run F39.t9 C N O K (F39.fr c e f o g l p q v w a b d i s u z y B A) h nx =
 yH [.nils] h nx fun v1 h2 n3 => K (F39.fr c e f o g l p q v1 w a b d i s u z y B A) h2 n3 := by kernel_rfl
theorem F39.t10_s : IR.run F39.t10 C N O K (F39.fr c e f o g l p q v w a b d i s u z y B A) h nx =
 C.fn 90 (.of 90) [c] h nx fun v1 h2 n3 => K (F39.fr c e f o g l p q v w a b d v1 s u z y B A) h2 n3 := by kernel_rfl
theorem F39.t11_s : IR.run F39.t11 C N O K (F39.fr c e f o g l p q v w a b d i s u z y B A) h nx =
 yH [.nils, (.bool false)] h nx fun v1 h2 n3 => zL 2 v1 u h2 n3 fun v4 h5 n6 => K (F39.fr c e f o g l p q v v1 a b d i s u z y B A) h5 n6 := by kernel_rfl
theorem F39.t12_s : IR.run F39.t12 C N O K (F39.fr c e f o g l p q v w a b d i s u z y B A) h nx =
 zF q h fun v1 => zH 2 w h fun v2 => C.fn 121 (.of 121) [v1, v2] h nx fun v3 h4 n5 => K (F39.fr c e f o g l p q v w a b d i s u v3 y B A) h4 n5 := by kernel_rfl
theorem F39.v16 : Arg.ev (.t (.of 16)) ⟨(F39.fr c e f o g l p q v w a b d i s u z y B A), []⟩ = z := by kernel_rfl
theorem F39.t15_s : IR.run F39.t15 C N O K (F39.fr c e f o g l p q v w a b d i s u z y B A) h nx =
 zF o h fun v1 => C.fn 90 (.of 90) [v1] h nx fun v2 h3 n4 => K (F39.fr c e f o g l p q v w a b d i s u z v2 B A) h3 n4 := by kernel_rfl
theorem F39.t16_s : IR.run F39.t16 C N O K (F39.fr c e f o g l p q v w a b d i s u z y B A) h nx =
 yH [.nils, (.bool false)] h nx fun v1 h2 n3 => zL 2 v1 A h2 n3 fun v4 h5 n6 => K (F39.fr c e f o g l p q v w v1 b d i s u z y B A) h5 n6 := by kernel_rfl
theorem F39.t17_s : IR.run F39.t17 C N O K (F39.fr c e f o g l p q v w a b d i s u z y B A) h nx =
 zH 2 w h fun v1 => zH 2 a h fun v2 => C.fn 122 (.of 122) [v1, v2] h nx fun v3 h4 n5 => yH [.nils, (.bool false)] h4 n5 fun v6 h7 n8 => zL 2 v6 v3 h7 n8 fun v9 hU nU => K (F39.fr c e f o g l p q v w a v6 d i s u z y B A) hU nU := by kernel_rfl
theorem F39.t18_s : IR.run F39.t18 C N O K (F39.fr c e f o g l p q v w a b d i s u z y B A) h nx =
 zF q h fun v1 => zH 2 b h fun v2 => zH 2 b h fun v3 => C.fn 123 (.of 123) [v2] h nx fun v4 h5 n6 => (zH 2 b h5 fun vB => zO vB v3 ((zF q h5 fun vA => zO vA v1 (pW .str v1 v4 v3 h5 n6 fun v7 h8 n9 => K (F39.fr c e f o g l p q v w a b d i s u z y B A) h8 n9)))) := by kernel_rfl
theorem F39.t21_f : Arg.ev (.t (.of 17)) ⟨(F39.fr c e f o g l p q v w a b d i s u z y B A), []⟩ = y := by kernel_rfl
theorem F39.t21_b {z0 z1 : AV} (k : T AV → OP) : yF [(.of 18), (.of 19)] [z0, z1] (F39.fr c e f o g l p q v w a b d i s u z y B A) k = k (F39.fr c e f o g l p q v w a b d i s u z y z0 z1) := by kernel_rfl
theorem F39.t24_s : IR.run F39.t24 C N O K (F39.fr c e f o g l p q v w a b d i s u z y B A) h nx =
 zF v h fun v1 => zW 0 w fun v2 => zF v2 h fun v3 => zW 1 w fun v4 => zF v4 h fun v5 => C.fn 106 (.of 106) [v3] h nx fun v6 h7 n8 => (zF v4 h7 fun v22 => zO v22 v5 ((zW 1 w fun vL => zO vL v4 ((zF v h7 fun vK => zO vK v1 (kI [.nils, (.bool false)] [(0, 1, v6), (1, 1, v5)] fun v9 => jB 2 1 [.nils, (.bool false)] [(0, 2, v9)] h7 n8 fun vA hC nD => (zF v hC fun vJ => zO vJ v1 (vR C 2 32 v1 vA hC nD fun vD hD nE => zL 1 v vD hD nE fun vG hE nF => K (F39.fr c e f o g l p q v w a b d i s u z y B A) hE nF)))))))) := by kernel_rfl
theorem F39.t28_f : Arg.ev (.t (.of 13)) ⟨(F39.fr c e f o g l p q v w a b d i s u z y B A), []⟩ = i := by kernel_rfl
theorem F39.t28_b {z0 z1 : AV} (k : T AV → OP) : yF [(.of 14), (.of 15)] [z0, z1] (F39.fr c e f o g l p q v w a b d i s u z y B A) k = k (F39.fr c e f o g l p q v w a b d i z0 z1 z y B A) := by kernel_rfl
theorem F39.t31_s : IR.run F39.t31 C N O K (F39.fr c e f o g l p q v w a b d i s u z y B A) h nx =
 zF v h fun v1 => K (F39.fr c e f o v1 (I 0) p q v w a b d i s u z y B A) h nx := by kernel_rfl
theorem F39.tab : T.get none (.of 39) tbl = some F39 := by kernel_rfl
theorem F39.bind (k : T AV → OP) : yF F39.params [a0, a1, a2] F39.init k = k (F39.fr a0 a1 a2 .undef .undef .undef .undef .undef .undef .undef .undef .undef .undef .undef .undef .undef .undef .undef .undef .undef) := by kernel_rfl
theorem F39.body_eq : F39.body = F39.t37 := by kernel_rfl
theorem F39.go : zT tbl N C (.of 39) [a0, a1, a2] h nx K0 = IR.run F39.t37 C N (fnO F39.res K0) (retK F39.res K0) (F39.fr a0 a1 a2 .undef .undef .undef .undef .undef .undef .undef .undef .undef .undef .undef .undef .undef .undef .undef .undef .undef) h nx := by
 rw [zM F39.tab, F39.bind, F39.body_eq]; kernel_rfl
theorem F39.ret : retK F39.res K0 (F39.fr c e f o g l p q v w a b d i s u z y B A) h nx = K0 (.tup [g, l]) h nx := by kernel_rfl
noncomputable def F40.t0 : IR := .reg [.q (.of 3) (.mv (.c (.bool false))), .q (.of 4) (.mv (.c (I 0)))]
noncomputable def F40.t1 : IR := .reg [.s (.mv (.t (.of 0))), .s (.mv (.t (.of 1))), .s (.mv (.t (.of 2))), .w .push none (.call (.c (.fn 120 (.of 120) [])) [(.s 2), (.s 1), (.s 0)]), .s (.mv (.s 0)), .s (.ext 0 (.s 0)), .s (.ext 1 (.s 1)), .s (.ext 2 (.s 2)), .w (.loc (.of 6)) none (.alloc [.nils, .nils]), .q (.of 5) (.mv (.s 2)), .w .none none (.store 2 (.t (.of 6)) (.s 1)), .q (.of 7) (.mv (.s 0))]
noncomputable def F40.t2 : IR := .reg [.s (.mv (.t (.of 7))), .q (.of 10) (.bin .neq .int (.s 0) (.c (I 0)))]
noncomputable def F40.t3 : IR := .reg [.s (.mv (.t (.of 7))), .q (.of 3) (.mv (.c (.bool false))), .q (.of 4) (.mv (.s 0))]
noncomputable def F40.t4 : IR := .seq F40.t3 .ret
noncomputable def F40.t5 : IR := .cond (.t (.of 10)) F40.t4 .skip
noncomputable def F40.t6 : IR := .seq F40.t2 F40.t5
noncomputable def F40.t7 : IR := .reg [.s (.aaddr 1 2 (.t (.of 6)) (.c (I 0))), .q (.of 11) (.load (.s 0)), .q (.of 12) (.len (.t (.of 11))), .q (.of 13) (.mv (.c (I 0)))]
noncomputable def F40.t8 : IR := .reg [.q (.of 14) (.bin .lss .int (.t (.of 13)) (.t (.of 12)))]
noncomputable def F40.t9 : IR := .cond (.t (.of 14)) .skip (.exit 0)
noncomputable def F40.t10 : IR := .reg [.s (.iaddr 2 (.t (.of 11)) (.t (.of 13))), .s (.loadN 2 (.s 0)), .w (.loc (.of 8)) none (.alloc [.nils, (.bool false)]), .w .none none (.store 2 (.t (.of 8)) (.s 0))]
noncomputable def F40.t11 : IR := .reg [.s (.aaddr 1 2 (.t (.of 6)) (.c (I 1))), .q (.of 15) (.load (.s 0)), .q (.of 16) (.len (.t (.of 15))), .q (.of 17) (.mv (.c (I 0)))]
noncomputable def F40.t12 : IR := .reg [.q (.of 18) (.bin .lss .int (.t (.of 17)) (.t (.of 16)))]
noncomputable def F40.t13 : IR := .cond (.t (.of 18)) .skip (.exit 2)
noncomputable def F40.t14 : IR := .reg [.s (.iaddr 2 (.t (.of 15)) (.t (.of 17))), .s (.loadN 2 (.s 0)), .w (.loc (.of 9)) none (.alloc [.nils, (.bool false)]), .w .none none (.store 2 (.t (.of 9)) (.s 0))]
noncomputable def F40.t15 : IR := .dreg [] [(.s (.mv (.t (.of 5))), 3, []), (.s (.loadN 2 (.t (.of 8))), 0, []), (.s (.loadN 2 (.t (.of 9))), 0, []), (.s (.loadN 2 (.t (.of 8))), 1, []), (.w .push none (.call (.c (.fn 122 (.of 122) [])) [(.s 2), (.s 1)]), 0, []), (.w .push none (.call (.c (.fn 124 (.of 124) [])) [(.s 1)]), 0, []), (.w .push none (.call (.c (.fn 122 (.of 122) [])) [(.s 1), (.s 0)]), 0, []), (.w .push none (.call (.c (.fn 121 (.of 121) [])) [(.s 6), (.s 0)]), 0, []), (.q (.of 19) (.not (.s 0)), 0, [])]
noncomputable def F40.t16 : IR := .reg [.q (.of 3) (.mv (.c (.bool false))), .q (.of 4) (.mv (.c (I 0)))]
noncomputable def F40.t17 : IR := .seq F40.t16 .ret
noncomputable def F40.t18 : IR := .cond (.t (.of 19)) F40.t17 .skip
noncomputable def F40.t19 : IR := .seq F40.t15 F40.t18
noncomputable def F40.t20 : IR := .seq F40.t14 F40.t19
noncomputable def F40.t21 : IR := .block 3 F40.t20
noncomputable def F40.t22 : IR := .reg [.s (.bin .add .int (.t (.of 17)) (.c (I 1))), .q (.of 17) (.mv (.s 0))]
noncomputable def F40.t23 : IR := .seq F40.t21 F40.t22
noncomputable def F40.t24 : IR := .seq F40.t13 F40.t23
noncomputable def F40.t25 : IR := .seq F40.t12 F40.t24
noncomputable def F40.t26 : IR := .loop F40.t25
noncomputable def F40.t27 : IR := .block 2 F40.t26
noncomputable def F40.t28 : IR := .seq F40.t11 F40.t27
noncomputable def F40.t29 : IR := .seq F40.t10 F40.t28
noncomputable def F40.t30 : IR := .block 1 F40.t29
noncomputable def F40.t31 : IR := .reg [.s (.bin .add .int (.t (.of 13)) (.c (I 1))), .q (.of 13) (.mv (.s 0))]
noncomputable def F40.t32 : IR := .seq F40.t30 F40.t31
noncomputable def F40.t33 : IR := .seq F40.t9 F40.t32
noncomputable def F40.t34 : IR := .seq F40.t8 F40.t33
noncomputable def F40.t35 : IR := .loop F40.t34
noncomputable def F40.t36 : IR := .block 0 F40.t35
noncomputable def F40.t37 : IR := .seq F40.t7 F40.t36
noncomputable def F40.t38 : IR := .reg [.q (.of 3) (.mv (.c (.bool true))), .q (.of 4) (.mv (.c (I 0)))]
noncomputable def F40.t39 : IR := .seq F40.t38 .ret
noncomputable def F40.t40 : IR := .seq F40.t37 F40.t39
noncomputable def F40.t41 : IR := .seq F40.t6 F40.t40
noncomputable def F40.t42 : IR := .seq F40.t1 F40.t41
noncomputable def F40.t43 : IR := .seq F40.t0 F40.t42
theorem F40.t0_s : IR.run F40.t0 C N O K (F40.fr c e f o g l p q v w a b d i s u z y B A) h nx =
 K (F40.fr c e f (.bool false) (I 0) l p q v w a b d i s u z y B A) h nx := by kernel_rfl
theorem F40.t1_s : IR.run F40.t1 C N O K (F40.fr c e f o g l p q v w a b d i s u z y B A) h nx =
 C.fn 120 (.of 120) [c, e, f] h nx fun v1 h2 n3 => sExt 0 v1 fun v4 => sExt 1 v1 fun v5 => sExt 2 v1 fun v6 => yH [.nils, .nils] h2 n3 fun v7 h8 n9 => zL 2 v7 v5 h8 n9 fun vA hC nD => K (F40.fr c e f o g v4 v7 v6 v w a b d i s u z y B A) hC nD := by kernel_rfl
theorem F40.t2_s : IR.run F40.t2 C N O K (F40.fr c e f o g l p q v w a b d i s u z y B A) h nx =
 sBin .neq .int q (I 0) fun v1 => K (F40.fr c e f o g l p q v w v1 b d i s u z y B A) h nx := by kernel_rfl
theorem F40.t3_s : IR.run F40.t3 C N O K (F40.fr c e f o g l p q v w a b d i s u z y B A) h nx =
 K (F40.fr c e f (.bool false) q l p q v w a b d i s u z y B A) h nx := by kernel_rfl
theorem F40.v10 : Arg.ev (.t (.of 10)) ⟨(F40.fr c e f o g l p q v w a b d i s u z y B A), []⟩ = a := by kernel_rfl
theorem F40.t7_s : IR.run F40.t7 C N O K (F40.fr c e f o g l p q v w a b d i s u z y B A) h nx =
 dG 1 2 p (I 0) fun v1 => zF v1 h fun v2 => sLen v2 fun v3 => K (F40.fr c e f o g l p q v w a v2 v3 (I 0) s u z y B A) h nx := by kernel_rfl
theorem F40.t8_s : IR.run F40.t8 C N O K (F40.fr c e f o g l p q v w a b d i s u z y B A) h nx =
 sBin .lss .int i d fun v1 => K (F40.fr c e f o g l p q v w a b d i v1 u z y B A) h nx := by kernel_rfl
theorem F40.v14 : Arg.ev (.t (.of 14)) ⟨(F40.fr c e f o g l p q v w a b d i s u z y B A), []⟩ = s := by kernel_rfl
theorem F40.t10_s : IR.run F40.t10 C N O K (F40.fr c e f o g l p q v w a b d i s u z y B A) h nx =
 zZ 2 b i fun v1 => zH 2 v1 h fun v2 => yH [.nils, (.bool false)] h nx fun v3 h4 n5 => zL 2 v3 v2 h4 n5 fun v6 h7 n8 => K (F40.fr c e f o g l p q v3 w a b d i s u z y B A) h7 n8 := by kernel_rfl
theorem F40.t11_s : IR.run F40.t11 C N O K (F40.fr c e f o g l p q v w a b d i s u z y B A) h nx =
 dG 1 2 p (I 1) fun v1 => zF v1 h fun v2 => sLen v2 fun v3 => K (F40.fr c e f o g l p q v w a b d i s v2 v3 (I 0) B A) h nx := by kernel_rfl
theorem F40.t12_s : IR.run F40.t12 C N O K (F40.fr c e f o g l p q v w a b d i s u z y B A) h nx =
 sBin .lss .int y z fun v1 => K (F40.fr c e f o g l p q v w a b d i s u z y v1 A) h nx := by kernel_rfl
theorem F40.v18 : Arg.ev (.t (.of 18)) ⟨(F40.fr c e f o g l p q v w a b d i s u z y B A), []⟩ = B := by kernel_rfl
theorem F40.t14_s : IR.run F40.t14 C N O K (F40.fr c e f o g l p q v w a b d i s u z y B A) h nx =
 zZ 2 u y fun v1 => zH 2 v1 h fun v2 => yH [.nils, (.bool false)] h nx fun v3 h4 n5 => zL 2 v3 v2 h4 n5 fun v6 h7 n8 => K (F40.fr c e f o g l p q v v3 a b d i s u z y B A) h7 n8 := by kernel_rfl
theorem F40.t15_s : IR.run F40.t15 C N O K (F40.fr c e f o g l p q v w a b d i s u z y B A) h nx =
 zH 2 v h fun v1 => zH 2 w h fun v2 => zH 2 v h fun v3 => C.fn 122 (.of 122) [v1, v2] h nx fun v4 h5 n6 => (zH 2 v h5 fun vH => zO vH v3 (zO l l (C.fn 124 (.of 124) [v3] h5 n6 fun v7 h8 n9 => zO l l (C.fn 122 (.of 122) [v4, v7] h8 n9 fun vA hC nD => zO l l (C.fn 121 (.of 121) [l, vA] hC nD fun vD hD nE => sNot vD fun vG => K (F40.fr c e f o g l p q v w a b d i s u z y B vG) hD nE))))) := by kernel_rfl
theorem F40.t16_s : IR.run F40.t16 C N O K (F40.fr c e f o g l p q v w a b d i s u z y B A) h nx =
 K (F40.fr c e f (.bool false) (I 0) l p q v w a b d i s u z y B A) h nx := by kernel_rfl
theorem F40.v19 : Arg.ev (.t (.of 19)) ⟨(F40.fr c e f o g l p q v w a b d i s u z y B A), []⟩ = A := by kernel_rfl
theorem F40.t22_s : IR.run F40.t22 C N O K (F40.fr c e f o g l p q v w a b d i s u z y B A) h nx =
 sBin .add .int y (I 1) fun v1 => K (F40.fr c e f o g l p q v w a b d i s u z v1 B A) h nx := by kernel_rfl
theorem F40.t26_L (Inv : Nat → AV → T Blk → Pa → Prop) {m : Nat} (hm : m < N) (hi : Inv m y h nx)
  (step : ∀ (m : Nat) (z3 z4 z9 zR zE zG : AV) (h : T Blk) (nx : Pa) (R : Ks Prop), Inv m zR h nx → (∀ (m' : Nat) (w3 w4 w9 wM wE wF : AV) (h' : T Blk) (nx' : Pa), m' < m → Inv m' wM h' nx' → R (F40.fr c e f w3 w4 l p q v w9 a b d i s u z wM wE wF) h' nx' = .ok True) → IR.run F40.t25 C N O R (F40.fr c e f z3 z4 l p q v z9 a b d i s u z zR zE zG) h nx = .ok True) :
  IR.run F40.t26 C N O K (F40.fr c e f o g l p q v w a b d i s u z y B A) h nx = .ok True := by
 rw [F40.t26]
 refine yR (fun m tm h nx => ∃ z3 z4 z9 zR zE zG, tm = (F40.fr c e f z3 z4 l p q v z9 a b d i s u z zR zE zG) ∧ Inv m zR h nx) ?_ hm ⟨_, _, _, _, _, _, rfl, hi⟩
 rintro m tm h nx R ⟨z3, z4, z9, zR, zE, zG, rfl, hi⟩ hR
 exact step m z3 z4 z9 zR zE zG h nx R hi fun m' w3 w4 w9 wM wE wF h' nx' hlt hi' => hR m' _ h' nx' hlt ⟨_, _, _, _, _, _, rfl, hi'⟩
theorem F40.t31_s : IR.run F40.t31 C N O K (F40.fr c e f o g l p q v w a b d i s u z y B A) h nx =
 sBin .add .int i (I 1) fun v1 => K (F40.fr c e f o g l p q v w a b d v1 s u z y B A) h nx := by kernel_rfl
theorem F40.t35_L (Inv : Nat → AV → T Blk → Pa → Prop) {m : Nat} (hm : m < N) (hi : Inv m i h nx)
  (step : ∀ (m : Nat) (z3 z4 z8 z9 zD zS zU zQ zR zE zG : AV) (h : T Blk) (nx : Pa) (R : Ks Prop), Inv m zD h nx → (∀ (m' : Nat) (w3 w4 w8 w9 wD wN wO wL wM wE wF : AV) (h' : T Blk) (nx' : Pa), m' < m → Inv m' wD h' nx' → R (F40.fr c e f w3 w4 l p q w8 w9 a b d wD wN wO wL wM wE wF) h' nx' = .ok True) → IR.run F40.t34 C N O R (F40.fr c e f z3 z4 l p q z8 z9 a b d zD zS zU zQ zR zE zG) h nx = .ok True) :
  IR.run F40.t35 C N O K (F40.fr c e f o g l p q v w a b d i s u z y B A) h nx = .ok True := by
 rw [F40.t35]
 refine yR (fun m tm h nx => ∃ z3 z4 z8 z9 zD zS zU zQ zR zE zG, tm = (F40.fr c e f z3 z4 l p q z8 z9 a b d zD zS zU zQ zR zE zG) ∧ Inv m zD h nx) ?_ hm ⟨_, _, _, _, _, _, _, _, _, _, _, rfl, hi⟩
 rintro m tm h nx R ⟨z3, z4, z8, z9, zD, zS, zU, zQ, zR, zE, zG, rfl, hi⟩ hR
 exact step m z3 z4 z8 z9 zD zS zU zQ zR zE zG h nx R hi fun m' w3 w4 w8 w9 wD wN wO wL wM wE wF h' nx' hlt hi' => hR m' _ h' nx' hlt ⟨_, _, _, _, _, _, _, _, _, _, _, rfl, hi'⟩
theorem F40.t38_s : IR.run F40.t38 C N O K (F40.fr c e f o g l p q v w a b d i s u z y B A) h nx =
 K (F40.fr c e f (.bool true) (I 0) l p q v w a b d i s u z y B A) h nx := by kernel_rfl
theorem F40.tab : T.get none (.of 40) tbl = some F40 := by kernel_rfl
theorem F40.bind (k : T AV → OP) : yF F40.params [a0, a1, a2] F40.init k = k (F40.fr a0 a1 a2 .undef .undef .undef .undef .undef .undef .undef .undef .undef .undef .undef .undef .undef .undef .undef .undef .undef) := by kernel_rfl
theorem F40.body_eq : F40.body = F40.t43 := by kernel_rfl
theorem F40.go : zT tbl N C (.of 40) [a0, a1, a2] h nx K0 = IR.run F40.t43 C N (fnO F40.res K0) (retK F40.res K0) (F40.fr a0 a1 a2 .undef .undef .undef .undef .undef .undef .undef .undef .undef .undef .undef .undef .undef .undef .undef .undef .undef) h nx := by
 rw [zM F40.tab, F40.bind, F40.body_eq]; kernel_rfl
theorem F40.ret : retK F40.res K0 (F40.fr c e f o g l p q v w a b d i s u z y B A) h nx = K0 (.tup [o, g]) h nx := by kernel_rfl
end
end Go.Ev
namespace Go.Ev
open Go Go.Proofs
set_option maxRecDepth 100000
section
variable {N : Nat} {C : Calls Prop} {K0 : Kw Prop} {K : Ks Prop} {h : T Blk} {nx : Pa} {c e f o g l p q v w a0 : AV} {O : Outs Prop} {tm : T AV} {Kt : KTm} {r : List RO} {s0 s1 s2 s3 s4 s5 s6 s7 s8 s9 s10 s11 s12 s13 s14 s15 s16 s17 s18 s19 s20 s21 s22 s23 s24 s25 s26 s27 s28 s29 s30 s31 s32 s33 s34 s35 s36 s37 s38 s39 s40 s41 s42 s43 s44 s45 s46 s47 s48 s49 s50 s51 s52 s53 s54 s55 s56 s57 s58 s59 : AV}
noncomputable def F124.t0 : IR := .reg [.w (.loc (.of 1)) none (.box (.t (.of 0))), .w (.loc (.of 2)) none (.alloc [.nils, (.bool false)])]
noncomputable def F124.t1 : IR := .dreg [(.alloc [.nils, (.bool false)])] [(.s (.faddr 0 (.t (.of 1))), 2, []), (.s (.load (.s 0)), 2, []), (.s (.len (.s 0)), 2, [(.mkslice 1 8 [(I 0)] (.s 0) (.s 0))]), (.s (.faddr 1 (.t (.of 1))), 2, []), (.s (.load (.s 0)), 2, []), (.w .push none (.mkslice 1 8 [(I 0)] (.s 2) (.s 2)), 0, []), (.s (.build [.nils, (.bool false)] [(0, 1, (.s 0)), (1, 1, (.s 1))]), 1, []), (.w (.loc (.of 3)) none (.alloc [.nils, (.bool false)]), 0, []), (.w .none none (.store 2 (.t (.of 3)) (.s 0)), 0, [])]
noncomputable def F124.t2 : IR := .reg [.s (.faddr 0 (.t (.of 1))), .q (.of 6) (.load (.s 0)), .q (.of 7) (.len (.t (.of 6))), .q (.of 8) (.mv (.c (I 0)))]
noncomputable def F124.t3 : IR := .reg [.q (.of 9) (.bin .lss .int (.t (.of 8)) (.t (.of 7)))]
noncomputable def F124.t4 : IR := .cond (.t (.of 9)) .skip (.exit 0)
noncomputable def F124.t5 : IR := .reg [.s (.mv (.t (.of 8))), .s (.iaddr 1 (.t (.of 6)) (.t (.of 8))), .s (.load (.s 0)), .q (.of 4) (.mv (.s 2)), .q (.of 5) (.mv (.s 0))]
noncomputable def F124.t6 : IR := .reg [.s (.faddr 0 (.t (.of 3))), .s (.load (.s 0)), .s (.mv (.t (.of 5))), .s (.mv (.t (.of 4))), .s (.iaddr 1 (.s 2) (.s 1)), .w .none none (.store 1 (.s 0) (.s 1))]
noncomputable def F124.t7 : IR := .seq F124.t5 F124.t6
noncomputable def F124.t8 : IR := .block 1 F124.t7
noncomputable def F124.t9 : IR := .reg [.s (.bin .add .int (.t (.of 8)) (.c (I 1))), .q (.of 8) (.mv (.s 0))]
noncomputable def F124.t10 : IR := .seq F124.t8 F124.t9
noncomputable def F124.t11 : IR := .seq F124.t4 F124.t10
noncomputable def F124.t12 : IR := .seq F124.t3 F124.t11
noncomputable def F124.t13 : IR := .loop F124.t12
noncomputable def F124.t14 : IR := .block 0 F124.t13
noncomputable def F124.t15 : IR := .seq F124.t2 F124.t14
noncomputable def F124.t16 : IR := .reg [.s (.loadN 2 (.t (.of 3))), .w .none none (.store 2 (.t (.of 2)) (.s 0))]
noncomputable def F124.t17 : IR := .seq F124.t16 .ret
noncomputable def F124.t18 : IR := .seq F124.t15 F124.t17
noncomputable def F124.t19 : IR := .seq F124.t1 F124.t18
noncomputable def F124.t20 : IR := .seq F124.t0 F124.t19
theorem F124.t0_s : IR.run F124.t0 C N O K (F124.fr c e f o g l p q v w) h nx =
 sBox c h nx fun v1 h2 n3 => yH [.nils, (.bool false)] h2 n3 fun v4 h5 n6 => K (F124.fr c v1 v4 o g l p q v w) h5 n6 := by kernel_rfl
theorem F124.t1_s : IR.run F124.t1 C N O K (F124.fr c e f o g l p q v w) h nx =
 sChk (true && true) (zW 0 e fun v1 => zF v1 h fun v2 => sLen v2 fun v3 => sChk (mkSl 8 v3 v3 && true) (zW 1 e fun v4 => zF v4 h fun v5 => gD 1 8 [(I 0)] v3 v3 h nx fun v6 h7 n8 => (zF v4 h7 fun vW => zO vW v5 ((zW 1 e fun v25 => zO v25 v4 ((sLen v2 fun v24 => zO v24 v3 ((zF v1 h7 fun vV => zO vV v2 ((zW 0 e fun v22 => zO v22 v1 (kI [.nils, (.bool false)] [(0, 1, v6), (1, 1, v5)] fun v9 => yH [.nils, (.bool false)] h7 n8 fun vA hC nD => (kI [.nils, (.bool false)] [(0, 1, v6), (1, 1, v5)] fun vL => zO vL v9 ((zF v4 hC fun vK => zO vK v5 ((zW 1 e fun vJ => zO vJ v4 ((sLen v2 fun vI => zO vI v3 ((zF v1 hC fun vH => zO vH v2 ((zW 0 e fun vG => zO vG v1 (zL 2 vA v9 hC nD fun vD hD nE => K (F124.fr c e f vA g l p q v w) hD nE)))))))))))))))))))))))) := by kernel_rfl
theorem F124.t2_s : IR.run F124.t2 C N O K (F124.fr c e f o g l p q v w) h nx =
 zW 0 e fun v1 => zF v1 h fun v2 => sLen v2 fun v3 => K (F124.fr c e f o g l v2 v3 (I 0) w) h nx := by kernel_rfl
theorem F124.t3_s : IR.run F124.t3 C N O K (F124.fr c e f o g l p q v w) h nx =
 sBin .lss .int v q fun v1 => K (F124.fr c e f o g l p q v v1) h nx := by kernel_rfl
theorem F124.v9 : Arg.ev (.t (.of 9)) ⟨(F124.fr c e f o g l p q v w), []⟩ = w := by kernel_rfl
theorem F124.t5_s : IR.run F124.t5 C N O K (F124.fr c e f o g l p q v w) h nx =
 zZ 1 p v fun v1 => zF v1 h fun v2 => K (F124.fr c e f o v v2 p q v w) h nx := by kernel_rfl
theorem F124.t6_s : IR.run F124.t6 C N O K (F124.fr c e f o g l p q v w) h nx =
 zW 0 o fun v1 => zF v1 h fun v2 => zZ 1 v2 l fun v3 => zL 1 v3 g h nx fun v4 h5 n6 => K (F124.fr c e f o g l p q v w) h5 n6 := by kernel_rfl
theorem F124.t9_s : IR.run F124.t9 C N O K (F124.fr c e f o g l p q v w) h nx =
 sBin .add .int v (I 1) fun v1 => K (F124.fr c e f o g l p q v1 w) h nx := by kernel_rfl
theorem F124.t13_L (Inv : Nat → AV → T Blk → Pa → Prop) {m : Nat} (hm : m < N) (hi : Inv m v h nx)
  (step : ∀ (m : Nat) (z4 z5 z8 z9 : AV) (h : T Blk) (nx : Pa) (R : Ks Prop), Inv m z8 h nx → (∀ (m' : Nat) (w4 w5 w8 w9 : AV) (h' : T Blk) (nx' : Pa), m' < m → Inv m' w8 h' nx' → R (F124.fr c e f o w4 w5 p q w8 w9) h' nx' = .ok True) → IR.run F124.t12 C N O R (F124.fr c e f o z4 z5 p q z8 z9) h nx = .ok True) :
  IR.run F124.t13 C N O K (F124.fr c e f o g l p q v w) h nx = .ok True := by
 rw [F124.t13]
 refine yR (fun m tm h nx => ∃ z4 z5 z8 z9, tm = (F124.fr c e f o z4 z5 p q z8 z9) ∧ Inv m z8 h nx) ?_ hm ⟨_, _, _, _, rfl, hi⟩
 rintro m tm h nx R ⟨z4, z5, z8, z9, rfl, hi⟩ hR
 exact step m z4 z5 z8 z9 h nx R hi fun m' w4 w5 w8 w9 h' nx' hlt hi' => hR m' _ h' nx' hlt ⟨_, _, _, _, rfl, hi'⟩
theorem F124.t16_s : IR.run F124.t16 C N O K (F124.fr c e f o g l p q v w) h nx =
 zH 2 o h fun v1 => zL 2 f v1 h nx fun v2 h3 n4 => K (F124.fr c e f o g l p q v w) h3 n4 := by kernel_rfl
theorem F124.tab : T.get none (.of 124) tbl = some F124 := by kernel_rfl
theorem F124.bind (k : T AV → OP) : yF F124.params [a0] F124.init k = k (F124.fr a0 .undef .undef .undef .undef .undef .undef .undef .undef .undef) := by kernel_rfl
theorem F124.body_eq : F124.body = F124.t20 := by kernel_rfl
theorem F124.go : zT tbl N C (.of 124) [a0] h nx K0 = IR.run F124.t20 C N (fnO F124.res K0) (retK F124.res K0) (F124.fr a0 .undef .undef .undef .undef .undef .undef .undef .undef .undef) h nx := by
 rw [zM F124.tab, F124.bind, F124.body_eq]; kernel_rfl
theorem F124.ret : retK F124.res K0 (F124.fr c e f o g l p q v w) h nx = zH 2 f h fun v1 => K0 v1 h nx := by kernel_rfl
end
end Go.Ev
namespace Go.Ev
open Go Go.Proofs
set_option maxRecDepth 100000
section
variable {N : Nat} {C : Calls Prop} {K0 : Kw Prop} {K : Ks Prop} {h : T Blk} {nx : Pa} {c e f o g l p q v w a b a0 a1 a2 : AV} {O : Outs Prop} {tm : T AV} {Kt : KTm} {r : List RO} {s0 s1 s2 s3 s4 s5 s6 s7 s8 s9 s10 s11 s12 s13 s14 s15 s16 s17 s18 s19 s20 s21 s22 s23 s24 s25 s26 s27 s28 s29 s30 s31 s32 s33 s34 s35 s36 s37 s38 s39 s40 s41 s42 s43 s44 s45 s46 s47 s48 s49 s50 s51 s52 s53 s54 s55 s56 s57 s58 s59 : AV}
end
end Go.Ev
namespace Go.Ev
open Go Go.Proofs
set_option maxRecDepth 100000
section
variable {N : Nat} {C : Calls Prop} {K0 : Kw Prop} {K : Ks Prop} {h : T Blk} {nx : Pa} {c e f o g l p q v w a b d a0 a1 : AV} {O : Outs Prop} {tm : T AV} {Kt : KTm} {r : List RO} {s0 s1 s2 s3 s4 s5 s6 s7 s8 s9 s10 s11 s12 s13 s14 s15 s16 s17 s18 s19 s20 s21 s22 s23 s24 s25 s26 s27 s28 s29 s30 s31 s32 s33 s34 s35 s36 s37 s38 s39 s40 s41 s42 s43 s44 s45 s46 s47 s48 s49 s50 s51 s52 s53 s54 s55 s56 s57 s58 s59 : AV}
end
end Go.Ev
namespace Go.Ev
open Go Go.Proofs
set_option maxRecDepth 100000
section
variable {N : Nat} {C : Calls Prop} {K0 : Kw Prop} {K : Ks Prop} {h : T Blk} {nx : Pa} {c e f o g l p q v w a b d i s u a0 a1 : AV} {O : Outs Prop} {tm : T AV} {Kt : KTm} {r : List RO} {s0 s1 s2 s3 s4 s5 s6 s7 s8 s9 s10 s11 s12 s13 s14 s15 s16 s17 s18 s19 s20 s21 s22 s23 s24 s25 s26 s27 s28 s29 s30 s31 s32 s33 s34 s35 s36 s37 s38 s39 s40 s41 s42 s43 s44 s45 s46 s47 s48 s49 s50 s51 s52 s53 s54 s55 s56 s57 s58 s59 : AV}
end
end Go.Ev
namespace Go.Ev
open Go Go.Proofs
set_option maxRecDepth 100000
section
variable {N : Nat} {C : Calls Prop} {K0 : Kw Prop} {K : Ks Prop} {h : T Blk} {nx : Pa} {c e f o g l p q v w a b d i s u z y B A a0 a1 : AV} {O : Outs Prop} {tm : T AV} {Kt : KTm} {r : List RO} {s0 s1 s2 s3 s4 s5 s6 s7 s8 s9 s10 s11 s12 s13 s14 s15 s16 s17 s18 s19 s20 s21 s22 s23 s24 s25 s26 s27 s28 s29 s30 s31 s32 s33 s34 s35 s36 s37 s38 s39 s40 s41 s42 s43 s44 s45 s46 s47 s48 s49 s50 s51 s52 s53 s54 s55 s56 s57 s58 s59 : AV}
end
end Go.Ev
namespace Go.Ev
open Go Go.Proofs
set_option maxRecDepth 100000
section
variable {N : Nat} {C : Calls Prop} {K0 : Kw Prop} {K : Ks Prop} {h : T Blk} {nx : Pa} {c e f o g l p q v w a b d i a0 a1 : AV} {O : Outs Prop} {tm : T AV} {Kt : KTm} {r : List RO} {s0 s1 s2 s3 s4 s5 s6 s7 s8 s9 s10 s11 s12 s13 s14 s15 s16 s17 s18 s19 s20 s21 s22 s23 s24 s25 s26 s27 s28 s29 s30 s31 s32 s33 s34 s35 s36 s37 s38 s39 s40 s41 s42 s43 s44 s45 s46 s47 s48 s49 s50 s51 s52 s53 s54 s55 s56 s57 s58 s59 : AV}
noncomputable def F55.t0 : IR := .reg [.w (.loc (.of 1)) none (.box (.t (.of 0))), .q (.of 2) (.mv (.c (I 0))), .q (.of 3) (.mv (.c (I 0)))]
noncomputable def F55.t1 : IR := .reg [.s (.loadN 2 (.t (.of 1))), .s (.faddr 0 (.t (.of 1))), .s (.load (.s 0)), .s (.len (.s 0)), .w .push none (.call (.c (.fn 56 (.of 56) [])) [(.s 3), (.s 0)]), .q (.of 4) (.mv (.s 0))]
noncomputable def F55.t2 : IR := .reg [.s (.mv (.t (.of 4))), .q (.of 8) (.bin .neq .int (.s 0) (.c (I 0)))]
noncomputable def F55.t3 : IR := .reg [.s (.mv (.t (.of 4))), .q (.of 2) (.mv (.c (I 0))), .q (.of 3) (.mv (.s 0))]
noncomputable def F55.t4 : IR := .seq F55.t3 .ret
noncomputable def F55.t5 : IR := .cond (.t (.of 8)) F55.t4 .skip
noncomputable def F55.t6 : IR := .seq F55.t2 F55.t5
noncomputable def F55.t7 : IR := .seq F55.t1 F55.t6
noncomputable def F55.t8 : IR := .reg [.s (.loadN 2 (.t (.of 1))), .w .push none (.call (.c (.fn 138 (.of 138) [])) [(.s 0)]), .q (.of 5) (.mv (.s 0))]
noncomputable def F55.t9 : IR := .reg [.s (.faddr 1 (.t (.of 1))), .q (.of 9) (.load (.s 0))]
noncomputable def F55.t10 : IR := .reg [.s (.mv (.t (.of 5))), .w .push none (.bslice 1 1 [(I 0)] [(0, 1, (.c (I 2)))]), .w .push none (.app 1 8 (.s 1) (.s 0)), .q (.of 5) (.mv (.s 0))]
noncomputable def F55.t11 : IR := .cond (.t (.of 9)) F55.t10 .skip
noncomputable def F55.t12 : IR := .seq F55.t9 F55.t11
noncomputable def F55.t13 : IR := .reg [.q (.of 6) (.mv (.c (I 1)))]
noncomputable def F55.t14 : IR := .reg [.q (.of 10) (.mv (.t (.of 5))), .q (.of 11) (.len (.t (.of 10))), .q (.of 12) (.mv (.c (I 0)))]
noncomputable def F55.t15 : IR := .reg [.q (.of 13) (.bin .lss .int (.t (.of 12)) (.t (.of 11)))]
noncomputable def F55.t16 : IR := .cond (.t (.of 13)) .skip (.exit 0)
noncomputable def F55.t17 : IR := .reg [.s (.iaddr 1 (.t (.of 10)) (.t (.of 12))), .s (.load (.s 0)), .q (.of 7) (.mv (.s 0))]
noncomputable def F55.t18 : IR := .reg [.s (.mv (.t (.of 6))), .s (.mv (.t (.of 6))), .s (.mv (.t (.of 7))), .w .push none (.call (.c (.fn 139 (.of 139) [])) [(.s 1), (.s 0)]), .s (.bin .quo .int (.s 3) (.s 0)), .s (.mv (.t (.of 7))), .s (.bin .mul .int (.s 1) (.s 0)), .q (.of 6) (.mv (.s 0))]
noncomputable def F55.t19 : IR := .seq F55.t17 F55.t18
noncomputable def F55.t20 : IR := .block 1 F55.t19
noncomputable def F55.t21 : IR := .reg [.s (.bin .add .int (.t (.of 12)) (.c (I 1))), .q (.of 12) (.mv (.s 0))]
noncomputable def F55.t22 : IR := .seq F55.t20 F55.t21
noncomputable def F55.t23 : IR := .seq F55.t16 F55.t22
noncomputable def F55.t24 : IR := .seq F55.t15 F55.t23
noncomputable def F55.t25 : IR := .loop F55.t24
noncomputable def F55.t26 : IR := .block 0 F55.t25
noncomputable def F55.t27 : IR := .seq F55.t14 F55.t26
noncomputable def F55.t28 : IR := .reg [.s (.mv (.t (.of 6))), .q (.of 2) (.mv (.s 0)), .q (.of 3) (.mv (.c (I 0)))]
noncomputable def F55.t29 : IR := .seq F55.t28 .ret
noncomputable def F55.t30 : IR := .seq F55.t27 F55.t29
noncomputable def F55.t31 : IR := .seq F55.t13 F55.t30
noncomputable def F55.t32 : IR := .seq F55.t12 F55.t31
noncomputable def F55.t33 : IR := .seq F55.t8 F55.t32
noncomputable def F55.t34 : IR := .seq F55.t7 F55.t33
noncomputable def F55.t35 : IR := .seq F55.t0 F55.t34
theorem F55.t0_s : IR.run F55.t0 C N O K (F55.fr c e f o g l p q v w a b d i) h nx =
 sBox c h nx fun v1 h2 n3 => K (F55.fr c v1 (I 0) (I 0) g l p q v w a b d i) h2 n3 := by kernel_rfl
theorem F55.t1_s : IR.run F55.t1 C N O K (F55.fr c e f o g l p q v w a b d i) h nx =
 zH 2 e h fun v1 => zW 0 e fun v2 => zF v2 h fun v3 => sLen v3 fun v4 => C.fn 56 (.of 56) [v1, v4] h nx fun v5 h6 n7 => K (F55.fr c e f o v5 l p q v w a b d i) h6 n7 := by kernel_rfl
theorem F55.t2_s : IR.run F55.t2 C N O K (F55.fr c e f o g l p q v w a b d i) h nx =
 sBin .neq .int g (I 0) fun v1 => K (F55.fr c e f o g l p q v1 w a b d i) h nx := by kernel_rfl
theorem F55.t3_s : IR.run F55.t3 C N O K (F55.fr c e f o g l p q v w a b d i) h nx =
 K (F55.fr c e (I 0) g g l p q v w a b d i) h nx := by kernel_rfl
theorem F55.v8 : Arg.ev (.t (.of 8)) ⟨(F55.fr c e f o g l p q v w a b d i), []⟩ = v := by kernel_rfl
theorem F55.t8_s : IR.run F55.t8 C N O K (F55.fr c e f o g l p q v w a b d i) h nx =
 zH 2 e h fun v1 => C.fn 138 (.of 138) [v1] h nx fun v2 h3 n4 => K (F55.fr c e f o g v2 p q v w a b d i) h3 n4 := by kernel_rfl
theorem F55.t9_s : IR.run F55.t9 C N O K (F55.fr c e f o g l p q v w a b d i) h nx =
 zW 1 e fun v1 => zF v1 h fun v2 => K (F55.fr c e f o g l p q v v2 a b d i) h nx := by kernel_rfl
theorem F55.t10_s : IR.run F55.t10 C N O K (F55.fr c e f o g l p q v w a b d i) h nx =
 jB 1 1 [(I 0)] [(0, 1, (I 2))] h nx fun v1 h2 n3 => sApp 1 8 l v1 h2 n3 fun v4 h5 n6 => K (F55.fr c e f o g v4 p q v w a b d i) h5 n6 := by kernel_rfl
theorem F55.v9 : Arg.ev (.t (.of 9)) ⟨(F55.fr c e f o g l p q v w a b d i), []⟩ = w := by kernel_rfl
theorem F55.t13_s : IR.run F55.t13 C N O K (F55.fr c e f o g l p q v w a b d i) h nx =
 K (F55.fr c e f o g l (I 1) q v w a b d i) h nx := by kernel_rfl
theorem F55.t14_s : IR.run F55.t14 C N O K (F55.fr c e f o g l p q v w a b d i) h nx =
 sLen l fun v1 => K (F55.fr c e f o g l p q v w l v1 (I 0) i) h nx := by kernel_rfl
theorem F55.t15_s : IR.run F55.t15 C N O K (F55.fr c e f o g l p q v w a b d i) h nx =
 sBin .lss .int d b fun v1 => K (F55.fr c e f o g l p q v w a b d v1) h nx := by kernel_rfl
theorem F55.v13 : Arg.ev (.t (.of 13)) ⟨(F55.fr c e f o g l p q v w a b d i), []⟩ = i := by kernel_rfl
theorem F55.t17_s : IR.run F55.t17 C N O K (F55.fr c e f o g l p q v w a b d i) h nx =
 zZ 1 a d fun v1 => zF v1 h fun v2 => K (F55.fr c e f o g l p v2 v w a b d i) h nx := by kernel_rfl
theorem F55.t18_s : IR.run F55.t18 C N O K (F55.fr c e f o g l p q v w a b d i) h nx =
 C.fn 139 (.of 139) [p, q] h nx fun v1 h2 n3 => sBin .quo .int p v1 fun v4 => sBin .mul .int v4 q fun v5 => K (F55.fr c e f o g l v5 q v w a b d i) h2 n3 := by kernel_rfl
theorem F55.t21_s : IR.run F55.t21 C N O K (F55.fr c e f o g l p q v w a b d i) h nx =
 sBin .add .int d (I 1) fun v1 => K (F55.fr c e f o g l p q v w a b v1 i) h nx := by kernel_rfl
theorem F55.t25_L (Inv : Nat → AV → AV → T Blk → Pa → Prop) {m : Nat} (hm : m < N) (hi : Inv m p d h nx)
  (step : ∀ (m : Nat) (z6 z7 zC zD : AV) (h : T Blk) (nx : Pa) (R : Ks Prop), Inv m z6 zC h nx → (∀ (m' : Nat) (w6 w7 wC wD : AV) (h' : T Blk) (nx' : Pa), m' < m → Inv m' w6 wC h' nx' → R (F55.fr c e f o g l w6 w7 v w a b wC wD) h' nx' = .ok True) → IR.run F55.t24 C N O R (F55.fr c e f o g l z6 z7 v w a b zC zD) h nx = .ok True) :
  IR.run F55.t25 C N O K (F55.fr c e f o g l p q v w a b d i) h nx = .ok True := by
 rw [F55.t25]
 refine yR (fun m tm h nx => ∃ z6 z7 zC zD, tm = (F55.fr c e f o g l z6 z7 v w a b zC zD) ∧ Inv m z6 zC h nx) ?_ hm ⟨_, _, _, _, rfl, hi⟩
 rintro m tm h nx R ⟨z6, z7, zC, zD, rfl, hi⟩ hR
 exact step m z6 z7 zC zD h nx R hi fun m' w6 w7 wC wD h' nx' hlt hi' => hR m' _ h' nx' hlt ⟨_, _, _, _, rfl, hi'⟩
theorem F55.t28_s : IR.run F55.t28 C N O K (F55.fr c e f o g l p q v w a b d i) h nx =
 K (F55.fr c e p (I 0) g l p q v w a b d i) h nx := by kernel_rfl
theorem F55.tab : T.get none (.of 55) tbl = some F55 := by kernel_rfl
theorem F55.bind (k : T AV → OP) : yF F55.params [a0] F55.init k = k (F55.fr a0 .undef .undef .undef .undef .undef .undef .undef .undef .undef .undef .undef .undef .undef) := by kernel_rfl
theorem F55.body_eq : F55.body = F55.t35 := by kernel_rfl
theorem F55.go : zT tbl N C (.of 55) [a0] h nx K0 = IR.run F55.t35 C N (fnO F55.res K0) (retK F55.res K0) (F55.fr a0 .undef .undef .undef .undef .undef .undef .undef .undef .undef .undef .undef .undef .undef) h nx := by
 rw [zM F55.tab, F55.bind, F55.body_eq]; kernel_rfl
theorem F55.ret : retK F55.res K0 (F55.fr c e f o g l p q v w a b d i) h nx = K0 (.tup [f, o]) h nx := by kernel_rfl
noncomputable def F138.t0 : IR := .reg [.w (.loc (.of 1)) none (.box (.t (.of 0))), .q (.of 2) (.mv (.c .nils))]
noncomputable def F138.t1 : IR := .reg [.q (.of 3) (.mv (.c .nils))]
noncomputable def F138.t2 : IR := .reg [.s (.faddr 0 (.t (.of 1))), .s (.load (.s 0)), .s (.len (.s 0)), .w .push none (.mkslice 1 1 [(.bool false)] (.s 0) (.s 0)), .q (.of 4) (.mv (.s 0))]
noncomputable def F138.t3 : IR := .reg [.s (.faddr 0 (.t (.of 1))), .s (.load (.s 0)), .q (.of 8) (.len (.s 0)), .q (.of 9) (.mv (.c (I 0)))]
noncomputable def F138.t4 : IR := .reg [.q (.of 10) (.bin .lss .int (.t (.of 9)) (.t (.of 8)))]
noncomputable def F138.t5 : IR := .cond (.t (.of 10)) .skip (.exit 0)
noncomputable def F138.t6 : IR := .reg [.s (.mv (.t (.of 9))), .q (.of 5) (.mv (.s 0))]
noncomputable def F138.t7 : IR := .reg [.q (.of 6) (.mv (.c (I 0)))]
noncomputable def F138.t8 : IR := .reg [.s (.mv (.t (.of 5))), .q (.of 7) (.mv (.s 0))]
noncomputable def F138.t9 : IR := .reg [.s (.mv (.t (.of 4))), .s (.mv (.t (.of 7))), .s (.iaddr 1 (.s 1) (.s 0)), .s (.load (.s 0)), .q (.of 11) (.not (.s 0))]
noncomputable def F138.t10 : IR := .cond (.t (.of 11)) .skip (.exit 2)
noncomputable def F138.t11 : IR := .seq F138.t9 F138.t10
noncomputable def F138.t12 : IR := .reg [.s (.mv (.t (.of 4))), .s (.mv (.t (.of 7))), .s (.iaddr 1 (.s 1) (.s 0)), .w .none none (.store 1 (.s 0) (.c (.bool true)))]
noncomputable def F138.t13 : IR := .reg [.s (.mv (.t (.of 6))), .s (.bin .add .int (.s 0) (.c (I 1))), .q (.of 6) (.mv (.s 0))]
noncomputable def F138.t14 : IR := .seq F138.t12 F138.t13
noncomputable def F138.t15 : IR := .block 3 F138.t14
noncomputable def F138.t16 : IR := .reg [.s (.faddr 0 (.t (.of 1))), .s (.load (.s 0)), .s (.mv (.t (.of 7))), .s (.iaddr 1 (.s 1) (.s 0)), .s (.load (.s 0)), .q (.of 7) (.mv (.s 0))]
noncomputable def F138.t17 : IR := .seq F138.t15 F138.t16
noncomputable def F138.t18 : IR := .seq F138.t11 F138.t17
noncomputable def F138.t19 : IR := .loop F138.t18
noncomputable def F138.t20 : IR := .block 2 F138.t19
noncomputable def F138.t21 : IR := .seq F138.t8 F138.t20
noncomputable def F138.t22 : IR := .reg [.s (.mv (.t (.of 6))), .q (.of 12) (.bin .gtr .int (.s 0) (.c (I 0)))]
noncomputable def F138.t23 : IR := .reg [.s (.mv (.t (.of 3))), .s (.mv (.t (.of 6))), .w .push none (.bslice 1 1 [(I 0)] [(0, 1, (.s 0))]), .w .push none (.app 1 8 (.s 2) (.s 0)), .q (.of 3) (.mv (.s 0))]
noncomputable def F138.t24 : IR := .cond (.t (.of 12)) F138.t23 .skip
noncomputable def F138.t25 : IR := .seq F138.t22 F138.t24
noncomputable def F138.t26 : IR := .seq F138.t21 F138.t25
noncomputable def F138.t27 : IR := .seq F138.t7 F138.t26
noncomputable def F138.t28 : IR := .seq F138.t6 F138.t27
noncomputable def F138.t29 : IR := .block 1 F138.t28
noncomputable def F138.t30 : IR := .reg [.s (.bin .add .int (.t (.of 9)) (.c (I 1))), .q (.of 9) (.mv (.s 0))]
noncomputable def F138.t31 : IR := .seq F138.t29 F138.t30
noncomputable def F138.t32 : IR := .seq F138.t5 F138.t31
noncomputable def F138.t33 : IR := .seq F138.t4 F138.t32
noncomputable def F138.t34 : IR := .loop F138.t33
noncomputable def F138.t35 : IR := .block 0 F138.t34
noncomputable def F138.t36 : IR := .seq F138.t3 F138.t35
noncomputable def F138.t37 : IR := .reg [.s (.mv (.t (.of 3))), .q (.of 2) (.mv (.s 0))]
noncomputable def F138.t38 : IR := .seq F138.t37 .ret
noncomputable def F138.t39 : IR := .seq F138.t36 F138.t38
noncomputable def F138.t40 : IR := .seq F138.t2 F138.t39
noncomputable def F138.t41 : IR := .seq F138.t1 F138.t40
noncomputable def F138.t42 : IR := .seq F138.t0 F138.t41
theorem F138.t0_s : IR.run F138.t0 C N O K (F138.fr c e f o g l p q v w a b d) h nx =
 sBox c h nx fun v1 h2 n3 => K (F138.fr c v1 .nils o g l p q v w a b d) h2 n3 := by kernel_rfl
theorem F138.t1_s : IR.run F138.t1 C N O K (F138.fr c e f o g l p q v w a b d) h nx =
 K (F138.fr c e f .nils g l p q v w a b d) h nx := by kernel_rfl
theorem F138.t2_s : IR.run F138.t2 C N O K (F138.fr c e f o g l p q v w a b d) h nx =
 zW 0 e fun v1 => zF v1 h fun v2 => sLen v2 fun v3 => gD 1 1 [(.bool false)] v3 v3 h nx fun v4 h5 n6 => K (F138.fr c e f o v4 l p q v w a b d) h5 n6 := by kernel_rfl
theorem F138.t3_s : IR.run F138.t3 C N O K (F138.fr c e f o g l p q v w a b d) h nx =
 zW 0 e fun v1 => zF v1 h fun v2 => sLen v2 fun v3 => K (F138.fr c e f o g l p q v3 (I 0) a b d) h nx := by kernel_rfl
theorem F138.t4_s : IR.run F138.t4 C N O K (F138.fr c e f o g l p q v w a b d) h nx =
 sBin .lss .int w v fun v1 => K (F138.fr c e f o g l p q v w v1 b d) h nx := by kernel_rfl
theorem F138.v10 : Arg.ev (.t (.of 10)) ⟨(F138.fr c e f o g l p q v w a b d), []⟩ = a := by kernel_rfl
theorem F138.t6_s : IR.run F138.t6 C N O K (F138.fr c e f o g l p q v w a b d) h nx =
 K (F138.fr c e f o g w p q v w a b d) h nx := by kernel_rfl
theorem F138.t7_s : IR.run F138.t7 C N O K (F138.fr c e f o g l p q v w a b d) h nx =
 K (F138.fr c e f o g l (I 0) q v w a b d) h nx := by kernel_rfl
theorem F138.t8_s : IR.run F138.t8 C N O K (F138.fr c e f o g l p q v w a b d) h nx =
 K (F138.fr c e f o g l p l v w a b d) h nx := by kernel_rfl
theorem F138.t9_s : IR.run F138.t9 C N O K (F138.fr c e f o g l p q v w a b d) h nx =
 zZ 1 g q fun v1 => zF v1 h fun v2 => sNot v2 fun v3 => K (F138.fr c e f o g l p q v w a v3 d) h nx := by kernel_rfl
theorem F138.v11 : Arg.ev (.t (.of 11)) ⟨(F138.fr c e f o g l p q v w a b d), []⟩ = b := by kernel_rfl
theorem F138.t12_s : IR.run F138.t12 C N O K (F138.fr c e f o g l p q v w a b d) h nx =
 zZ 1 g q fun v1 => zL 1 v1 (.bool true) h nx fun v2 h3 n4 => K (F138.fr c e f o g l p q v w a b d) h3 n4 := by kernel_rfl
theorem F138.t13_s : IR.run F138.t13 C N O K (F138.fr c e f o g l p q v w a b d) h nx =
 sBin .add .int p (I 1) fun v1 => K (F138.fr c e f o g l v1 q v w a b d) h nx := by kernel_rfl
theorem F138.t16_s : IR.run F138.t16 C N O K (F138.fr c e f o g l p q v w a b d) h nx =
 zW 0 e fun v1 => zF v1 h fun v2 => zZ 1 v2 q fun v3 => zF v3 h fun v4 => K (F138.fr c e f o g l p v4 v w a b d) h nx := by kernel_rfl
theorem F138.t19_L (Inv : Nat → AV → AV → T Blk → Pa → Prop) {m : Nat} (hm : m < N) (hi : Inv m p q h nx)
  (step : ∀ (m : Nat) (z6 z7 zB : AV) (h : T Blk) (nx : Pa) (R : Ks Prop), Inv m z6 z7 h nx → (∀ (m' : Nat) (w6 w7 wB : AV) (h' : T Blk) (nx' : Pa), m' < m → Inv m' w6 w7 h' nx' → R (F138.fr c e f o g l w6 w7 v w a wB d) h' nx' = .ok True) → IR.run F138.t18 C N O R (F138.fr c e f o g l z6 z7 v w a zB d) h nx = .ok True) :
  IR.run F138.t19 C N O K (F138.fr c e f o g l p q v w a b d) h nx = .ok True := by
 rw [F138.t19]
 refine yR (fun m tm h nx => ∃ z6 z7 zB, tm = (F138.fr c e f o g l z6 z7 v w a zB d) ∧ Inv m z6 z7 h nx) ?_ hm ⟨_, _, _, rfl, hi⟩
 rintro m tm h nx R ⟨z6, z7, zB, rfl, hi⟩ hR
 exact step m z6 z7 zB h nx R hi fun m' w6 w7 wB h' nx' hlt hi' => hR m' _ h' nx' hlt ⟨_, _, _, rfl, hi'⟩
theorem F138.t22_s : IR.run F138.t22 C N O K (F138.fr c e f o g l p q v w a b d) h nx =
 sBin .gtr .int p (I 0) fun v1 => K (F138.fr c e f o g l p q v w a b v1) h nx := by kernel_rfl
theorem F138.t23_s : IR.run F138.t23 C N O K (F138.fr c e f o g l p q v w a b d) h nx =
 jB 1 1 [(I 0)] [(0, 1, p)] h nx fun v1 h2 n3 => sApp 1 8 o v1 h2 n3 fun v4 h5 n6 => K (F138.fr c e f v4 g l p q v w a b d) h5 n6 := by kernel_rfl
theorem F138.v12 : Arg.ev (.t (.of 12)) ⟨(F138.fr c e f o g l p q v w a b d), []⟩ = d := by kernel_rfl
theorem F138.t30_s : IR.run F138.t30 C N O K (F138.fr c e f o g l p q v w a b d) h nx =
 sBin .add .int w (I 1) fun v1 => K (F138.fr c e f o g l p q v v1 a b d) h nx := by kernel_rfl
theorem F138.t34_L (Inv : Nat → AV → AV → T Blk → Pa → Prop) {m : Nat} (hm : m < N) (hi : Inv m o w h nx)
  (step : ∀ (m : Nat) (z3 z5 z6 z7 z9 zA zB zC : AV) (h : T Blk) (nx : Pa) (R : Ks Prop), Inv m z3 z9 h nx → (∀ (m' : Nat) (w3 w5 w6 w7 w9 wA wB wC : AV) (h' : T Blk) (nx' : Pa), m' < m → Inv m' w3 w9 h' nx' → R (F138.fr c e f w3 g w5 w6 w7 v w9 wA wB wC) h' nx' = .ok True) → IR.run F138.t33 C N O R (F138.fr c e f z3 g z5 z6 z7 v z9 zA zB zC) h nx = .ok True) :
  IR.run F138.t34 C N O K (F138.fr c e f o g l p q v w a b d) h nx = .ok True := by
 rw [F138.t34]
 refine yR (fun m tm h nx => ∃ z3 z5 z6 z7 z9 zA zB zC, tm = (F138.fr c e f z3 g z5 z6 z7 v z9 zA zB zC) ∧ Inv m z3 z9 h nx) ?_ hm ⟨_, _, _, _, _, _, _, _, rfl, hi⟩
 rintro m tm h nx R ⟨z3, z5, z6, z7, z9, zA, zB, zC, rfl, hi⟩ hR
 exact step m z3 z5 z6 z7 z9 zA zB zC h nx R hi fun m' w3 w5 w6 w7 w9 wA wB wC h' nx' hlt hi' => hR m' _ h' nx' hlt ⟨_, _, _, _, _, _, _, _, rfl, hi'⟩
theorem F138.t37_s : IR.run F138.t37 C N O K (F138.fr c e f o g l p q v w a b d) h nx =
 K (F138.fr c e o o g l p q v w a b d) h nx := by kernel_rfl
theorem F138.tab : T.get none (.of 138) tbl = some F138 := by kernel_rfl
theorem F138.bind (k : T AV → OP) : yF F138.params [a0] F138.init k = k (F138.fr a0 .undef .undef .undef .undef .undef .undef .undef .undef .undef .undef .undef .undef) := by kernel_rfl
theorem F138.body_eq : F138.body = F138.t42 := by kernel_rfl
theorem F138.go : zT tbl N C (.of 138) [a0] h nx K0 = IR.run F138.t42 C N (fnO F138.res K0) (retK F138.res K0) (F138.fr a0 .undef .undef .undef .undef .undef .undef .undef .undef .undef .undef .undef .undef) h nx := by
 rw [zM F138.tab, F138.bind, F138.body_eq]; kernel_rfl
theorem F138.ret : retK F138.res K0 (F138.fr c e f o g l p q v w a b d) h nx = K0 f h nx := by kernel_rfl
noncomputable def F139.t0 : IR := .reg [.q (.of 2) (.mv (.c (I 0)))]
noncomputable def F139.t1 : IR := .reg [.s (.mv (.t (.of 1))), .q (.of 3) (.bin .neq .int (.s 0) (.c (I 0)))]
noncomputable def F139.t2 : IR := .cond (.t (.of 3)) .skip (.exit 0)
noncomputable def F139.t3 : IR := .seq F139.t1 F139.t2
noncomputable def F139.t4 : IR := .dreg [] [(.s (.mv (.t (.of 1))), 0, []), (.s (.mv (.t (.of 0))), 0, []), (.s (.mv (.t (.of 1))), 0, []), (.s (.bin .rem .int (.s 1) (.s 0)), 0, []), (.q (.of 0) (.mv (.s 3)), 0, []), (.q (.of 1) (.mv (.s 0)), 0, [])]
noncomputable def F139.t5 : IR := .block 1 F139.t4
noncomputable def F139.t6 : IR := .seq F139.t3 F139.t5
noncomputable def F139.t7 : IR := .loop F139.t6
noncomputable def F139.t8 : IR := .block 0 F139.t7
noncomputable def F139.t9 : IR := .reg [.s (.mv (.t (.of 0))), .q (.of 2) (.mv (.s 0))]
noncomputable def F139.t10 : IR := .seq F139.t9 .ret
noncomputable def F139.t11 : IR := .seq F139.t8 F139.t10
noncomputable def F139.t12 : IR := .seq F139.t0 F139.t11
theorem F139.t0_s : IR.run F139.t0 C N O K (F139.fr c e f o) h nx =
 K (F139.fr c e (I 0) o) h nx := by kernel_rfl
theorem F139.t1_s : IR.run F139.t1 C N O K (F139.fr c e f o) h nx =
 sBin .neq .int e (I 0) fun v1 => K (F139.fr c e f v1) h nx := by kernel_rfl
theorem F139.v3 : Arg.ev (.t (.of 3)) ⟨(F139.fr c e f o), []⟩ = o := by kernel_rfl
theorem F139.t4_s : IR.run F139.t4 C N O K (F139.fr c e f o) h nx =
 sBin .rem .int c e fun v1 => K (F139.fr e v1 f o) h nx := by kernel_rfl
theorem F139.t7_L (Inv : Nat → AV → AV → T Blk → Pa → Prop) {m : Nat} (hm : m < N) (hi : Inv m c e h nx)
  (step : ∀ (m : Nat) (z0 z1 z3 : AV) (h : T Blk) (nx : Pa) (R : Ks Prop), Inv m z0 z1 h nx → (∀ (m' : Nat) (w0 w1 w3 : AV) (h' : T Blk) (nx' : Pa), m' < m → Inv m' w0 w1 h' nx' → R (F139.fr w0 w1 f w3) h' nx' = .ok True) → IR.run F139.t6 C N O R (F139.fr z0 z1 f z3) h nx = .ok True) :
  IR.run F139.t7 C N O K (F139.fr c e f o) h nx = .ok True := by
 rw [F139.t7]
 refine yR (fun m tm h nx => ∃ z0 z1 z3, tm = (F139.fr z0 z1 f z3) ∧ Inv m z0 z1 h nx) ?_ hm ⟨_, _, _, rfl, hi⟩
 rintro m tm h nx R ⟨z0, z1, z3, rfl, hi⟩ hR
 exact step m z0 z1 z3 h nx R hi fun m' w0 w1 w3 h' nx' hlt hi' => hR m' _ h' nx' hlt ⟨_, _, _, rfl, hi'⟩
theorem F139.t9_s : IR.run F139.t9 C N O K (F139.fr c e f o) h nx =
 K (F139.fr c e c o) h nx := by kernel_rfl
theorem F139.tab : T.get none (.of 139) tbl = some F139 := by kernel_rfl
theorem F139.bind (k : T AV → OP) : yF F139.params [a0, a1] F139.init k = k (F139.fr a0 a1 .undef .undef) := by kernel_rfl
theorem F139.body_eq : F139.body = F139.t12 := by kernel_rfl
theorem F139.go : zT tbl N C (.of 139) [a0, a1] h nx K0 = IR.run F139.t12 C N (fnO F139.res K0) (retK F139.res K0) (F139.fr a0 a1 .undef .undef) h nx := by
 rw [zM F139.tab, F139.bind, F139.body_eq]; kernel_rfl
theorem F139.ret : retK F139.res K0 (F139.fr c e f o) h nx = K0 f h nx := by kernel_rfl
end
end Go.Ev
namespace Go.Ev
open Go Go.Proofs
set_option maxRecDepth 100000
section
variable {N : Nat} {C : Calls Prop} {K0 : Kw Prop} {K : Ks Prop} {h : T Blk} {nx : Pa} {c e f o a0 a1 : AV} {O : Outs Prop} {tm : T AV} {Kt : KTm} {r : List RO} {s0 s1 s2 s3 s4 s5 s6 s7 s8 s9 s10 s11 s12 s13 s14 s15 s16 s17 s18 s19 s20 s21 s22 s23 s24 s25 s26 s27 s28 s29 s30 s31 s32 s33 s34 s35 s36 s37 s38 s39 s40 s41 s42 s43 s44 s45 s46 s47 s48 s49 s50 s51 s52 s53 s54 s55 s56 s57 s58 s59 : AV}
end
end Go.Ev
namespace Go.Ev
open Go Go.Proofs
set_option maxRecDepth 100000
section
variable {N : Nat} {C : Calls Prop} {K0 : Kw Prop} {K : Ks Prop} {h : T Blk} {nx : Pa} {c e f o g l p q v w a b d i s u z y B A D E a0 a1 a2 : AV} {O : Outs Prop} {tm : T AV} {Kt : KTm} {r : List RO} {s0 s1 s2 s3 s4 s5 s6 s7 s8 s9 s10 s11 s12 s13 s14 s15 s16 s17 s18 s19 s20 s21 s22 s23 s24 s25 s26 s27 s28 s29 s30 s31 s32 s33 s34 s35 s36 s37 s38 s39 s40 s41 s42 s43 s44 s45 s46 s47 s48 s49 s50 s51 s52 s53 s54 s55 s56 s57 s58 s59 : AV}
noncomputable def F80.t0 : IR := .reg [.q (.of 1) (.mv (.c (.bool false)))]
noncomputable def F80.t1 : IR := .reg [.s (.mv (.t (.of 0))), .s (.len (.s 0)), .q (.of 3) (.bin .gtr .int (.s 0) (.c (I 9)))]
noncomputable def F80.t2 : IR := .reg [.q (.of 1) (.mv (.c (.bool false)))]
noncomputable def F80.t3 : IR := .seq F80.t2 .ret
noncomputable def F80.t4 : IR := .cond (.t (.of 3)) F80.t3 .skip
noncomputable def F80.t5 : IR := .seq F80.t1 F80.t4
noncomputable def F80.t6 : IR := .reg [.q (.of 2) (.mv (.c (I 0)))]
noncomputable def F80.t7 : IR := .reg [.s (.mv (.t (.of 2))), .s (.mv (.t (.of 0))), .s (.len (.s 0)), .q (.of 4) (.bin .lss .int (.s 2) (.s 0))]
noncomputable def F80.t8 : IR := .cond (.t (.of 4)) .skip (.exit 0)
noncomputable def F80.t9 : IR := .seq F80.t7 F80.t8
noncomputable def F80.r5_1 : List RO := .p .push (some ((.s 2), false)) (.iaddr 1 (.s 1) (.s 0)) :: .p .push (some ((.s 3), false)) (.load (.s 0)) :: .p .push (some ((.s 4), false)) (.bin .gtr .int (.s 0) (.c (I 1000))) :: .q (.of 5) (.pick (.s 5) (.c (.bool true)) (.s 0)) :: []
noncomputable def F80.r5_0 : List RO := .s (.mv (.t (.of 0))) :: .s (.mv (.t (.of 2))) :: .s (.iaddr 1 (.s 1) (.s 0)) :: .s (.load (.s 0)) :: .s (.bin .lss .int (.s 0) (.c (I (-1000)))) :: .s (.mv (.s 0)) :: .p .push (some ((.s 0), false)) (.mv (.t (.of 0))) :: .p .push (some ((.s 1), false)) (.mv (.t (.of 2))) :: F80.r5_1
noncomputable def F80.t10 : IR := .reg F80.r5_0
noncomputable def F80.t11 : IR := .reg [.q (.of 1) (.mv (.c (.bool false)))]
noncomputable def F80.t12 : IR := .seq F80.t11 .ret
noncomputable def F80.t13 : IR := .cond (.t (.of 5)) F80.t12 .skip
noncomputable def F80.t14 : IR := .seq F80.t10 F80.t13
noncomputable def F80.t15 : IR := .block 1 F80.t14
noncomputable def F80.t16 : IR := .reg [.s (.mv (.t (.of 2))), .s (.bin .add .int (.s 0) (.c (I 1))), .q (.of 2) (.mv (.s 0))]
noncomputable def F80.t17 : IR := .seq F80.t15 F80.t16
noncomputable def F80.t18 : IR := .seq F80.t9 F80.t17
noncomputable def F80.t19 : IR := .loop F80.t18
noncomputable def F80.t20 : IR := .block 0 F80.t19
noncomputable def F80.t21 : IR := .seq F80.t6 F80.t20
noncomputable def F80.t22 : IR := .reg [.q (.of 1) (.mv (.c (.bool true)))]
noncomputable def F80.t23 : IR := .seq F80.t22 .ret
noncomputable def F80.t24 : IR := .seq F80.t21 F80.t23
noncomputable def F80.t25 : IR := .seq F80.t5 F80.t24
noncomputable def F80.t26 : IR := .seq F80.t0 F80.t25
theorem F80.t0_s : IR.run F80.t0 C N O K (F80.fr c e f o g l) h nx =
 K (F80.fr c (.bool false) f o g l) h nx := by kernel_rfl
theorem F80.t1_s : IR.run F80.t1 C N O K (F80.fr c e f o g l) h nx =
 sLen c fun v1 => sBin .gtr .int v1 (I 9) fun v2 => K (F80.fr c e f v2 g l) h nx := by kernel_rfl
theorem F80.t2_s : IR.run F80.t2 C N O K (F80.fr c e f o g l) h nx =
 K (F80.fr c (.bool false) f o g l) h nx := by kernel_rfl
theorem F80.v3 : Arg.ev (.t (.of 3)) ⟨(F80.fr c e f o g l), []⟩ = o := by kernel_rfl
theorem F80.t6_s : IR.run F80.t6 C N O K (F80.fr c e f o g l) h nx =
 K (F80.fr c e (I 0) o g l) h nx := by kernel_rfl
theorem F80.t7_s : IR.run F80.t7 C N O K (F80.fr c e f o g l) h nx =
 sLen c fun v1 => sBin .lss .int f v1 fun v2 => K (F80.fr c e f o v2 l) h nx := by kernel_rfl
theorem F80.v4 : Arg.ev (.t (.of 4)) ⟨(F80.fr c e f o g l), []⟩ = g := by kernel_rfl
theorem F80.t10_s : IR.run F80.t10 C N O K tm h nx = jE F80.r5_0 C ⟨tm, []⟩ h nx (fun tm h nx => K tm.v h nx) := dU ..
theorem F80.r5_0_g : jE (.s (.mv (.t (.of 0))) :: .s (.mv (.t (.of 2))) :: .s (.iaddr 1 (.s 1) (.s 0)) :: .s (.load (.s 0)) :: .s (.bin .lss .int (.s 0) (.c (I (-1000)))) :: .s (.mv (.s 0)) :: .p .push (some ((.s 0), false)) (.mv (.t (.of 0))) :: .p .push (some ((.s 1), false)) (.mv (.t (.of 2))) :: r) C ⟨(F80.fr c e f o g l), []⟩ h nx Kt =
 zZ 1 c f fun v1 => zF v1 h fun v2 => sBin .lss .int v2 (I (-1000)) fun v3 => sG v3 false (fun k => k c) fun v4 => sG v3 false (fun k => k f) fun v5 => jE r C ⟨(F80.fr c e f o g l), v5 :: v4 :: v3 :: v3 :: v2 :: v1 :: f :: c :: []⟩ h nx Kt := by kernel_rfl
theorem F80.r5_1_g : jE (.p .push (some ((.s 2), false)) (.iaddr 1 (.s 1) (.s 0)) :: .p .push (some ((.s 3), false)) (.load (.s 0)) :: .p .push (some ((.s 4), false)) (.bin .gtr .int (.s 0) (.c (I 1000))) :: .q (.of 5) (.pick (.s 5) (.c (.bool true)) (.s 0)) :: []) C ⟨(F80.fr c e f o g l), s0 :: s1 :: s2 :: s3 :: s4 :: s5 :: s6 :: s7 :: []⟩ h nx Kt =
 sG s2 false (fun k => zZ 1 s1 s0 k) fun v1 => sG s2 false (fun k => zF v1 h k) fun v2 => sG s2 false (fun k => sBin .gtr .int v2 (I 1000) k) fun v3 => gO s2 (.bool true) v3 fun v4 => Kt ⟨(F80.fr c e f o g v4), v3 :: v2 :: v1 :: s0 :: s1 :: s2 :: s3 :: s4 :: s5 :: s6 :: s7 :: []⟩ h nx := by kernel_rfl
theorem F80.t11_s : IR.run F80.t11 C N O K (F80.fr c e f o g l) h nx =
 K (F80.fr c (.bool false) f o g l) h nx := by kernel_rfl
theorem F80.v5 : Arg.ev (.t (.of 5)) ⟨(F80.fr c e f o g l), []⟩ = l := by kernel_rfl
theorem F80.t16_s : IR.run F80.t16 C N O K (F80.fr c e f o g l) h nx =
 sBin .add .int f (I 1) fun v1 => K (F80.fr c e v1 o g l) h nx := by kernel_rfl
theorem F80.t19_L (Inv : Nat → AV → T Blk → Pa → Prop) {m : Nat} (hm : m < N) (hi : Inv m f h nx)
  (step : ∀ (m : Nat) (z1 z2 z4 z5 : AV) (h : T Blk) (nx : Pa) (R : Ks Prop), Inv m z2 h nx → (∀ (m' : Nat) (w1 w2 w4 w5 : AV) (h' : T Blk) (nx' : Pa), m' < m → Inv m' w2 h' nx' → R (F80.fr c w1 w2 o w4 w5) h' nx' = .ok True) → IR.run F80.t18 C N O R (F80.fr c z1 z2 o z4 z5) h nx = .ok True) :
  IR.run F80.t19 C N O K (F80.fr c e f o g l) h nx = .ok True := by
 rw [F80.t19]
 refine yR (fun m tm h nx => ∃ z1 z2 z4 z5, tm = (F80.fr c z1 z2 o z4 z5) ∧ Inv m z2 h nx) ?_ hm ⟨_, _, _, _, rfl, hi⟩
 rintro m tm h nx R ⟨z1, z2, z4, z5, rfl, hi⟩ hR
 exact step m z1 z2 z4 z5 h nx R hi fun m' w1 w2 w4 w5 h' nx' hlt hi' => hR m' _ h' nx' hlt ⟨_, _, _, _, rfl, hi'⟩
theorem F80.t22_s : IR.run F80.t22 C N O K (F80.fr c e f o g l) h nx =
 K (F80.fr c (.bool true) f o g l) h nx := by kernel_rfl
theorem F80.tab : T.get none (.of 80) tbl = some F80 := by kernel_rfl
theorem F80.bind (k : T AV → OP) : yF F80.params [a0] F80.init k = k (F80.fr a0 .undef .undef .undef .undef .undef) := by kernel_rfl
theorem F80.body_eq : F80.body = F80.t26 := by kernel_rfl
theorem F80.go : zT tbl N C (.of 80) [a0] h nx K0 = IR.run F80.t26 C N (fnO F80.res K0) (retK F80.res K0) (F80.fr a0 .undef .undef .undef .undef .undef) h nx := by
 rw [zM F80.tab, F80.bind, F80.body_eq]; kernel_rfl
theorem F80.ret : retK F80.res K0 (F80.fr c e f o g l) h nx = K0 e h nx := by kernel_rfl
end
end Go.Ev
namespace Go.Ev
open Go Go.Proofs
set_option maxRecDepth 100000
section
variable {N : Nat} {C : Calls Prop} {K0 : Kw Prop} {K : Ks Prop} {h : T Blk} {nx : Pa} {c e f o g l p q v w a b d i s u z y B A D E F a0 a1 a2 : AV} {O : Outs Prop} {tm : T AV} {Kt : KTm} {r : List RO} {s0 s1 s2 s3 s4 s5 s6 s7 s8 s9 s10 s11 s12 s13 s14 s15 s16 s17 s18 s19 s20 s21 s22 s23 s24 s25 s26 s27 s28 s29 s30 s31 s32 s33 s34 s35 s36 s37 s38 s39 s40 s41 s42 s43 s44 s45 s46 s47 s48 s49 s50 s51 s52 s53 s54 s55 s56 s57 s58 s59 : AV}
noncomputable def F52.t0 : IR := .reg [.w (.loc (.of 2)) none (.box (.t (.of 0))), .q (.of 3) (.mv (.c .nils)), .q (.of 4) (.mv (.c (I 0)))]
noncomputable def F52.t1 : IR := .reg [.s (.mv (.t (.of 1))), .w .push none (.call (.c (.fn 134 (.of 134) [])) [(.s 0)]), .q (.of 5) (.mv (.s 0))]
noncomputable def F52.t2 : IR := .reg [.s (.mv (.t (.of 5))), .q (.of 8) (.bin .neq .int (.s 0) (.c (I 0)))]
noncomputable def F52.t3 : IR := .reg [.s (.mv (.t (.of 5))), .q (.of 3) (.mv (.c .nils)), .q (.of 4) (.mv (.s 0))]
noncomputable def F52.t4 : IR := .seq F52.t3 .ret
noncomputable def F52.t5 : IR := .cond (.t (.of 8)) F52.t4 .skip
noncomputable def F52.t6 : IR := .seq F52.t2 F52.t5
noncomputable def F52.t7 : IR := .seq F52.t1 F52.t6
noncomputable def F52.t8 : IR := .reg [.s (.loadN 2 (.t (.of 2))), .s (.mv (.t (.of 1))), .s (.len (.s 0)), .w .push none (.call (.c (.fn 56 (.of 56) [])) [(.s 2), (.s 0)]), .q (.of 6) (.mv (.s 0))]
noncomputable def F52.t9 : IR := .reg [.s (.mv (.t (.of 6))), .q (.of 9) (.bin .neq .int (.s 0) (.c (I 0)))]
noncomputable def F52.t10 : IR := .reg [.s (.mv (.t (.of 6))), .q (.of 3) (.mv (.c .nils)), .q (.of 4) (.mv (.s 0))]
noncomputable def F52.t11 : IR := .seq F52.t10 .ret
noncomputable def F52.t12 : IR := .cond (.t (.of 9)) F52.t11 .skip
noncomputable def F52.t13 : IR := .seq F52.t9 F52.t12
noncomputable def F52.t14 : IR := .seq F52.t8 F52.t13
noncomputable def F52.t15 : IR := .reg [.s (.loadN 2 (.t (.of 2))), .s (.mv (.t (.of 1))), .w .push none (.call (.c (.fn 135 (.of 135) [])) [(.s 1), (.s 0)]), .q (.of 7) (.mv (.s 0))]
noncomputable def F52.t16 : IR := .reg [.s (.mv (.t (.of 7))), .w (.loc (.of 10)) none (.call (.c (.fn 136 (.of 136) [])) [(.s 0), (.c (.fn 137 (.of 137) []))])]
noncomputable def F52.t17 : IR := .reg [.q (.of 3) (.mv (.c .nils)), .q (.of 4) (.mv (.c (I 3)))]
noncomputable def F52.t18 : IR := .seq F52.t17 .ret
noncomputable def F52.t19 : IR := .cond (.t (.of 10)) F52.t18 .skip
noncomputable def F52.t20 : IR := .seq F52.t16 F52.t19
noncomputable def F52.t21 : IR := .reg [.s (.mv (.t (.of 7))), .q (.of 3) (.mv (.s 0)), .q (.of 4) (.mv (.c (I 0)))]
noncomputable def F52.t22 : IR := .seq F52.t21 .ret
noncomputable def F52.t23 : IR := .seq F52.t20 F52.t22
noncomputable def F52.t24 : IR := .seq F52.t15 F52.t23
noncomputable def F52.t25 : IR := .seq F52.t14 F52.t24
noncomputable def F52.t26 : IR := .seq F52.t7 F52.t25
noncomputable def F52.t27 : IR := .seq F52.t0 F52.t26
theorem F52.t0_s : IR.run F52.t0 C N O K (F52.fr c e f o g l p q v w a) h nx =
 sBox c h nx fun v1 h2 n3 => K (F52.fr c e v1 .nils (I 0) l p q v w a) h2 n3 := by kernel_rfl
theorem F52.t1_s : IR.run F52.t1 C N O K (F52.fr c e f o g l p q v w a) h nx =
 C.fn 134 (.of 134) [e] h nx fun v1 h2 n3 => K (F52.fr c e f o g v1 p q v w a) h2 n3 := by kernel_rfl
theorem F52.t2_s : IR.run F52.t2 C N O K (F52.fr c e f o g l p q v w a) h nx =
 sBin .neq .int l (I 0) fun v1 => K (F52.fr c e f o g l p q v1 w a) h nx := by kernel_rfl
theorem F52.v8 : Arg.ev (.t (.of 8)) ⟨(F52.fr c e f o g l p q v w a), []⟩ = v := by kernel_rfl
theorem F52.t8_s : IR.run F52.t8 C N O K (F52.fr c e f o g l p q v w a) h nx =
 zH 2 f h fun v1 => sLen e fun v2 => C.fn 56 (.of 56) [v1, v2] h nx fun v3 h4 n5 => K (F52.fr c e f o g l v3 q v w a) h4 n5 := by kernel_rfl
theorem F52.t9_s : IR.run F52.t9 C N O K (F52.fr c e f o g l p q v w a) h nx =
 sBin .neq .int p (I 0) fun v1 => K (F52.fr c e f o g l p q v v1 a) h nx := by kernel_rfl
theorem F52.v9 : Arg.ev (.t (.of 9)) ⟨(F52.fr c e f o g l p q v w a), []⟩ = w := by kernel_rfl
theorem F52.t15_s : IR.run F52.t15 C N O K (F52.fr c e f o g l p q v w a) h nx =
 zH 2 f h fun v1 => C.fn 135 (.of 135) [v1, e] h nx fun v2 h3 n4 => K (F52.fr c e f o g l p v2 v w a) h3 n4 := by kernel_rfl
theorem F52.t16_s : IR.run F52.t16 C N O K (F52.fr c e f o g l p q v w a) h nx =
 C.fn 136 (.of 136) [q, (.fn 137 (.of 137) [])] h nx fun v1 h2 n3 => K (F52.fr c e f o g l p q v w v1) h2 n3 := by kernel_rfl
theorem F52.v10 : Arg.ev (.t (.of 10)) ⟨(F52.fr c e f o g l p q v w a), []⟩ = a := by kernel_rfl
theorem F52.t21_s : IR.run F52.t21 C N O K (F52.fr c e f o g l p q v w a) h nx =
 K (F52.fr c e f q (I 0) l p q v w a) h nx := by kernel_rfl
theorem F52.tab : T.get none (.of 52) tbl = some F52 := by kernel_rfl
theorem F52.bind (k : T AV → OP) : yF F52.params [a0, a1] F52.init k = k (F52.fr a0 a1 .undef .undef .undef .undef .undef .undef .undef .undef .undef) := by kernel_rfl
theorem F52.body_eq : F52.body = F52.t27 := by kernel_rfl
theorem F52.go : zT tbl N C (.of 52) [a0, a1] h nx K0 = IR.run F52.t27 C N (fnO F52.res K0) (retK F52.res K0) (F52.fr a0 a1 .undef .undef .undef .undef .undef .undef .undef .undef .undef) h nx := by
 rw [zM F52.tab, F52.bind, F52.body_eq]; kernel_rfl
theorem F52.ret : retK F52.res K0 (F52.fr c e f o g l p q v w a) h nx = K0 (.tup [o, g]) h nx := by kernel_rfl
noncomputable def F53.t0 : IR := .reg [.w (.loc (.of 2)) none (.box (.t (.of 0))), .w (.loc (.of 3)) none (.box (.t (.of 1))), .w (.loc (.of 4)) none (.alloc [.nils, (.bool false)]), .q (.of 5) (.mv (.c (I 0)))]
noncomputable def F53.t1 : IR := .dreg [] [(.s (.loadN 2 (.t (.of 2))), 0, []), (.s (.faddr 0 (.t (.of 2))), 0, []), (.s (.load (.s 0)), 0, []), (.s (.len (.s 0)), 0, []), (.s (.loadN 2 (.t (.of 3))), 1, []), (.s (.faddr 0 (.t (.of 2))), 1, []), (.s (.load (.s 0)), 1, []), (.s (.len (.s 0)), 1, []), (.w .push none (.call (.c (.fn 56 (.of 56) [])) [(.s 7), (.s 4)]), 0, []), (.w .push none (.call (.c (.fn 56 (.of 56) [])) [(.s 4), (.s 1)]), 0, []), (.w .push none (.bslice 1 2 [(I 0)] [(0, 1, (.s 1)), (1, 1, (.s 0))]), 0, []), (.w .push none (.call (.c (.fn 94 (.of 94) [])) [(.s 0)]), 0, []), (.q (.of 6) (.mv (.s 0)), 0, [])]
noncomputable def F53.t2 : IR := .reg [.s (.mv (.t (.of 6))), .q (.of 7) (.bin .neq .int (.s 0) (.c (I 0)))]
noncomputable def F53.t3 : IR := .reg [.s (.build [.nils, (.bool false)] []), .s (.mv (.t (.of 6))), .w .none none (.store 2 (.t (.of 4)) (.s 1)), .q (.of 5) (.mv (.s 0))]
noncomputable def F53.t4 : IR := .seq F53.t3 .ret
noncomputable def F53.t5 : IR := .cond (.t (.of 7)) F53.t4 .skip
noncomputable def F53.t6 : IR := .seq F53.t2 F53.t5
noncomputable def F53.t7 : IR := .seq F53.t1 F53.t6
noncomputable def F53.t8 : IR := .reg [.s (.loadN 2 (.t (.of 2))), .s (.loadN 2 (.t (.of 3))), .w .push none (.call (.c (.fn 122 (.of 122) [])) [(.s 1), (.s 0)]), .w .none none (.store 2 (.t (.of 4)) (.s 0)), .q (.of 5) (.mv (.c (I 0)))]
noncomputable def F53.t9 : IR := .seq F53.t8 .ret
noncomputable def F53.t10 : IR := .seq F53.t7 F53.t9
noncomputable def F53.t11 : IR := .seq F53.t0 F53.t10
theorem F53.t0_s : IR.run F53.t0 C N O K (F53.fr c e f o g l p q) h nx =
 sBox c h nx fun v1 h2 n3 => sBox e h2 n3 fun v4 h5 n6 => yH [.nils, (.bool false)] h5 n6 fun v7 h8 n9 => K (F53.fr c e v1 v4 v7 (I 0) p q) h8 n9 := by kernel_rfl
theorem F53.t1_s : IR.run F53.t1 C N O K (F53.fr c e f o g l p q) h nx =
 zH 2 f h fun v1 => zW 0 f fun v2 => zF v2 h fun v3 => sLen v3 fun v4 => zH 2 o h fun v5 => zW 0 f fun v6 => zF v6 h fun v7 => sLen v7 fun v8 => C.fn 56 (.of 56) [v1, v4] h nx fun v9 hU nU => (sLen v7 fun v24 => zO v24 v8 ((zF v6 hU fun vV => zO vV v7 ((zW 0 f fun v22 => zO v22 v6 ((zH 2 o hU fun vL => zO vL v5 (C.fn 56 (.of 56) [v5, v8] hU nU fun vC h13 n14 => jB 1 2 [(I 0)] [(0, 1, v9), (1, 1, vC)] h13 n14 fun vF h16 n17 => C.fn 94 (.of 94) [vF] h16 n17 fun vI hI nJ => K (F53.fr c e f o g l vI q) hI nJ)))))))) := by kernel_rfl
theorem F53.t2_s : IR.run F53.t2 C N O K (F53.fr c e f o g l p q) h nx =
 sBin .neq .int p (I 0) fun v1 => K (F53.fr c e f o g l p v1) h nx := by kernel_rfl
theorem F53.t3_s : IR.run F53.t3 C N O K (F53.fr c e f o g l p q) h nx =
 kI [.nils, (.bool false)] [] fun v1 => zL 2 g v1 h nx fun v2 h3 n4 => K (F53.fr c e f o g p p q) h3 n4 := by kernel_rfl
theorem F53.v7 : Arg.ev (.t (.of 7)) ⟨(F53.fr c e f o g l p q), []⟩ = q := by kernel_rfl
theorem F53.t8_s : IR.run F53.t8 C N O K (F53.fr c e f o g l p q) h nx =
 zH 2 f h fun v1 => zH 2 o h fun v2 => C.fn 122 (.of 122) [v1, v2] h nx fun v3 h4 n5 => zL 2 g v3 h4 n5 fun v6 h7 n8 => K (F53.fr c e f o g (I 0) p q) h7 n8 := by kernel_rfl
theorem F53.tab : T.get none (.of 53) tbl = some F53 := by kernel_rfl
theorem F53.bind (k : T AV → OP) : yF F53.params [a0, a1] F53.init k = k (F53.fr a0 a1 .undef .undef .undef .undef .undef .undef) := by kernel_rfl
theorem F53.body_eq : F53.body = F53.t11 := by kernel_rfl
theorem F53.go : zT tbl N C (.of 53) [a0, a1] h nx K0 = IR.run F53.t11 C N (fnO F53.res K0) (retK F53.res K0) (F53.fr a0 a1 .undef .undef .undef .undef .undef .undef) h nx := by
 rw [zM F53.tab, F53.bind, F53.body_eq]; kernel_rfl
theorem F53.ret : retK F53.res K0 (F53.fr c e f o g l p q) h nx = zH 2 g h fun v1 => K0 (.tup [v1, l]) h nx := by kernel_rfl
noncomputable def F54.t0 : IR := .reg [.w (.loc (.of 1)) none (.box (.t (.of 0))), .w (.loc (.of 2)) none (.alloc [.nils, (.bool false)]), .q (.of 3) (.mv (.c (I 0)))]
noncomputable def F54.t1 : IR := .reg [.s (.loadN 2 (.t (.of 1))), .s (.faddr 0 (.t (.of 1))), .s (.load (.s 0)), .s (.len (.s 0)), .w .push none (.call (.c (.fn 56 (.of 56) [])) [(.s 3), (.s 0)]), .q (.of 4) (.mv (.s 0))]
noncomputable def F54.t2 : IR := .reg [.s (.mv (.t (.of 4))), .q (.of 5) (.bin .neq .int (.s 0) (.c (I 0)))]
noncomputable def F54.t3 : IR := .reg [.s (.build [.nils, (.bool false)] []), .s (.mv (.t (.of 4))), .w .none none (.store 2 (.t (.of 2)) (.s 1)), .q (.of 3) (.mv (.s 0))]
noncomputable def F54.t4 : IR := .seq F54.t3 .ret
noncomputable def F54.t5 : IR := .cond (.t (.of 5)) F54.t4 .skip
noncomputable def F54.t6 : IR := .seq F54.t2 F54.t5
noncomputable def F54.t7 : IR := .seq F54.t1 F54.t6
noncomputable def F54.t8 : IR := .reg [.s (.loadN 2 (.t (.of 1))), .w .push none (.call (.c (.fn 124 (.of 124) [])) [(.s 0)]), .w .none none (.store 2 (.t (.of 2)) (.s 0)), .q (.of 3) (.mv (.c (I 0)))]
noncomputable def F54.t9 : IR := .seq F54.t8 .ret
noncomputable def F54.t10 : IR := .seq F54.t7 F54.t9
noncomputable def F54.t11 : IR := .seq F54.t0 F54.t10
theorem F54.t0_s : IR.run F54.t0 C N O K (F54.fr c e f o g l) h nx =
 sBox c h nx fun v1 h2 n3 => yH [.nils, (.bool false)] h2 n3 fun v4 h5 n6 => K (F54.fr c v1 v4 (I 0) g l) h5 n6 := by kernel_rfl
theorem F54.t1_s : IR.run F54.t1 C N O K (F54.fr c e f o g l) h nx =
 zH 2 e h fun v1 => zW 0 e fun v2 => zF v2 h fun v3 => sLen v3 fun v4 => C.fn 56 (.of 56) [v1, v4] h nx fun v5 h6 n7 => K (F54.fr c e f o v5 l) h6 n7 := by kernel_rfl
theorem F54.t2_s : IR.run F54.t2 C N O K (F54.fr c e f o g l) h nx =
 sBin .neq .int g (I 0) fun v1 => K (F54.fr c e f o g v1) h nx := by kernel_rfl
theorem F54.t3_s : IR.run F54.t3 C N O K (F54.fr c e f o g l) h nx =
 kI [.nils, (.bool false)] [] fun v1 => zL 2 f v1 h nx fun v2 h3 n4 => K (F54.fr c e f g g l) h3 n4 := by kernel_rfl
theorem F54.v5 : Arg.ev (.t (.of 5)) ⟨(F54.fr c e f o g l), []⟩ = l := by kernel_rfl
theorem F54.t8_s : IR.run F54.t8 C N O K (F54.fr c e f o g l) h nx =
 zH 2 e h fun v1 => C.fn 124 (.of 124) [v1] h nx fun v2 h3 n4 => zL 2 f v2 h3 n4 fun v5 h6 n7 => K (F54.fr c e f (I 0) g l) h6 n7 := by kernel_rfl
theorem F54.tab : T.get none (.of 54) tbl = some F54 := by kernel_rfl
theorem F54.bind (k : T AV → OP) : yF F54.params [a0] F54.init k = k (F54.fr a0 .undef .undef .undef .undef .undef) := by kernel_rfl
theorem F54.body_eq : F54.body = F54.t11 := by kernel_rfl
theorem F54.go : zT tbl N C (.of 54) [a0] h nx K0 = IR.run F54.t11 C N (fnO F54.res K0) (retK F54.res K0) (F54.fr a0 .undef .undef .undef .undef .undef) h nx := by
 rw [zM F54.tab, F54.bind, F54.body_eq]; kernel_rfl
theorem F54.ret : retK F54.res K0 (F54.fr c e f o g l) h nx = zH 2 f h fun v1 => K0 (.tup [v1, o]) h nx := by kernel_rfl
end
end Go.Ev
namespace Go.Ev
open Go Go.Proofs
set_option maxRecDepth 100000
section
variable {N : Nat} {C : Calls Prop} {K0 : Kw Prop} {K : Ks Prop} {h : T Blk} {nx : Pa} {c e f o g l p q v w a b d i s u z y B a0 a1 : AV} {O : Outs Prop} {tm : T AV} {Kt : KTm} {r : List RO} {s0 s1 s2 s3 s4 s5 s6 s7 s8 s9 s10 s11 s12 s13 s14 s15 s16 s17 s18 s19 s20 s21 s22 s23 s24 s25 s26 s27 s28 s29 s30 s31 s32 s33 s34 s35 s36 s37 s38 s39 s40 s41 s42 s43 s44 s45 s46 s47 s48 s49 s50 s51 s52 s53 s54 s55 s56 s57 s58 s59 : AV}
end
end Go.Ev
namespace Go.Ev
open Go Go.Proofs
set_option maxRecDepth 100000
section
variable {N : Nat} {C : Calls Prop} {K0 : Kw Prop} {K : Ks Prop} {h : T Blk} {nx : Pa} {c e f o g l p q v w a b d i s u z y B A D E F G H Q V W L M P U Z x33 x34 x35 a0 a1 a2 : AV} {O : Outs Prop} {tm : T AV} {Kt : KTm} {r : List RO} {s0 s1 s2 s3 s4 s5 s6 s7 s8 s9 s10 s11 s12 s13 s14 s15 s16 s17 s18 s19 s20 s21 s22 s23 s24 s25 s26 s27 s28 s29 s30 s31 s32 s33 s34 s35 s36 s37 s38 s39 s40 s41 s42 s43 s44 s45 s46 s47 s48 s49 s50 s51 s52 s53 s54 s55 s56 s57 s58 s59 : AV}
noncomputable def F14.t0 : IR := .reg [.w (.loc (.of 3)) none (.box (.t (.of 0))), .w (.loc (.of 4)) none (.box (.t (.of 1))), .q (.of 5) (.mv (.c (.bool false)))]
noncomputable def F14.r1_4 : List RO := .p .push (some ((.s 4), false)) (.bin .neq .int (.s 0) (.c (I 0))) :: .q (.of 28) (.pick (.s 5) (.c (.bool true)) (.s 0)) :: []
noncomputable def F14.r1_3 : List RO := .p .push (some ((.s 4), false)) (.bin .neq .int (.s 0) (.c (I 0))) :: .s (.pick (.s 5) (.c (.bool true)) (.s 0)) :: .s (.mv (.s 0)) :: .p .push (some ((.s 0), false)) (.loadN 2 (.t (.of 4))) :: .p .push (some ((.s 1), false)) (.mv (.t (.of 2))) :: .p .push (some ((.s 2), false)) (.len (.s 0)) :: .w .push (some ((.s 3), false)) (.call (.c (.fn 26 (.of 26) [])) [(.s 2), (.s 0)]) :: F14.r1_4
noncomputable def F14.r1_2 : List RO := .p .push (some ((.s 2), false)) (.not (.s 0)) :: .s (.pick (.s 3) (.c (.bool true)) (.s 0)) :: .s (.mv (.s 0)) :: .p .push (some ((.s 0), false)) (.loadN 2 (.t (.of 3))) :: .p .push (some ((.s 1), false)) (.mv (.t (.of 2))) :: .p .push (some ((.s 2), false)) (.len (.s 0)) :: .w .push (some ((.s 3), false)) (.call (.c (.fn 26 (.of 26) [])) [(.s 2), (.s 0)]) :: F14.r1_3
noncomputable def F14.r1_1 : List RO := .s (.not (.s 0)) :: .s (.mv (.s 0)) :: .p .push (some ((.s 0), false)) (.mv (.t (.of 2))) :: .w .push (some ((.s 1), false)) (.call (.c (.fn 80 (.of 80) [])) [(.s 0)]) :: F14.r1_2
noncomputable def F14.r1_0 : List RO := .w .push none (.call (.c (.fn 18 (.of 18) [])) []) :: F14.r1_1
noncomputable def F14.t1 : IR := .reg F14.r1_0
noncomputable def F14.t2 : IR := .reg [.w .push none (.call (.c (.fn 18 (.of 18) [])) []), .q (.of 5) (.mv (.s 0))]
noncomputable def F14.t3 : IR := .seq F14.t2 .ret
noncomputable def F14.t4 : IR := .cond (.t (.of 28)) F14.t3 .skip
noncomputable def F14.t5 : IR := .seq F14.t1 F14.t4
noncomputable def F14.t6 : IR := .reg [.s (.loadN 2 (.t (.of 3))), .s (.loadN 2 (.t (.of 4))), .w .push none (.call (.c (.fn 53 (.of 53) [])) [(.s 1), (.s 0)]), .s (.mv (.s 0)), .s (.ext 0 (.s 0)), .s (.ext 1 (.s 1)), .w (.loc (.of 6)) none (.alloc [.nils, (.bool false)]), .w .none none (.store 2 (.t (.of 6)) (.s 1)), .q (.of 7) (.mv (.s 0))]
noncomputable def F14.t7 : IR := .reg [.s (.loadN 2 (.t (.of 4))), .s (.mv (.t (.of 2))), .w .push none (.call (.c (.fn 52 (.of 52) [])) [(.s 1), (.s 0)]), .s (.mv (.s 0)), .s (.ext 0 (.s 0)), .s (.ext 1 (.s 1)), .q (.of 8) (.mv (.s 1)), .q (.of 9) (.mv (.s 0))]
noncomputable def F14.t8 : IR := .reg [.s (.loadN 2 (.t (.of 3))), .s (.mv (.t (.of 8))), .w .push none (.call (.c (.fn 52 (.of 52) [])) [(.s 1), (.s 0)]), .s (.mv (.s 0)), .s (.ext 0 (.s 0)), .s (.ext 1 (.s 1)), .q (.of 10) (.mv (.s 1)), .q (.of 11) (.mv (.s 0))]
noncomputable def F14.t9 : IR := .reg [.s (.loadN 2 (.t (.of 6))), .s (.mv (.t (.of 2))), .w .push none (.call (.c (.fn 52 (.of 52) [])) [(.s 1), (.s 0)]), .s (.mv (.s 0)), .s (.ext 0 (.s 0)), .s (.ext 1 (.s 1)), .q (.of 12) (.mv (.s 1)), .q (.of 13) (.mv (.s 0))]
noncomputable def F14.t10 : IR := .reg [.s (.loadN 2 (.t (.of 3))), .w .push none (.call (.c (.fn 54 (.of 54) [])) [(.s 0)]), .s (.mv (.s 0)), .s (.ext 0 (.s 0)), .s (.ext 1 (.s 1)), .w (.loc (.of 14)) none (.alloc [.nils, (.bool false)]), .w .none none (.store 2 (.t (.of 14)) (.s 1)), .q (.of 15) (.mv (.s 0))]
noncomputable def F14.t11 : IR := .reg [.s (.loadN 2 (.t (.of 3))), .s (.mv (.t (.of 2))), .w .push none (.call (.c (.fn 52 (.of 52) [])) [(.s 1), (.s 0)]), .s (.mv (.s 0)), .s (.ext 0 (.s 0)), .s (.ext 1 (.s 1)), .q (.of 16) (.mv (.s 1)), .q (.of 17) (.mv (.s 0))]
noncomputable def F14.t12 : IR := .reg [.s (.loadN 2 (.t (.of 14))), .s (.mv (.t (.of 16))), .w .push none (.call (.c (.fn 52 (.of 52) [])) [(.s 1), (.s 0)]), .s (.mv (.s 0)), .s (.ext 0 (.s 0)), .s (.ext 1 (.s 1)), .q (.of 18) (.mv (.s 1)), .q (.of 19) (.mv (.s 0))]
noncomputable def F14.t13 : IR := .reg [.s (.loadN 2 (.t (.of 3))), .w .push none (.call (.c (.fn 55 (.of 55) [])) [(.s 0)]), .s (.mv (.s 0)), .s (.ext 0 (.s 0)), .s (.ext 1 (.s 1)), .q (.of 20) (.mv (.s 1)), .q (.of 21) (.mv (.s 0))]
noncomputable def F14.r11_5 : List RO := .p .push (some ((.s 1), false)) (.bin .gtr .int (.s 0) (.c (I 40))) :: .q (.of 29) (.pick (.s 2) (.c (.bool true)) (.s 0)) :: []
noncomputable def F14.r11_4 : List RO := .p .push (some ((.s 3), false)) (.not (.s 0)) :: .s (.pick (.s 4) (.c (.bool true)) (.s 0)) :: .s (.mv (.s 0)) :: .p .push (some ((.s 0), false)) (.mv (.t (.of 20))) :: .p .push (some ((.s 1), false)) (.bin .lss .int (.s 0) (.c (I 1))) :: .s (.pick (.s 2) (.c (.bool true)) (.s 0)) :: .s (.mv (.s 0)) :: .p .push (some ((.s 0), false)) (.mv (.t (.of 20))) :: F14.r11_5
noncomputable def F14.r11_3 : List RO := .p .push (some ((.s 3), false)) (.not (.s 0)) :: .s (.pick (.s 4) (.c (.bool true)) (.s 0)) :: .s (.mv (.s 0)) :: .p .push (some ((.s 0), false)) (.mv (.t (.of 18))) :: .p .push (some ((.s 1), false)) (.mv (.t (.of 2))) :: .w .push (some ((.s 2), false)) (.call (.c (.fn 82 (.of 82) [])) [(.s 1), (.s 0)]) :: F14.r11_4
noncomputable def F14.r11_2 : List RO := .s (.mv (.s 0)) :: .p .push (some ((.s 0), false)) (.mv (.t (.of 10))) :: .p .push (some ((.s 1), false)) (.mv (.t (.of 12))) :: .w .push (some ((.s 2), false)) (.call (.c (.fn 82 (.of 82) [])) [(.s 1), (.s 0)]) :: F14.r11_3
noncomputable def F14.r11_1 : List RO := .s (.bin .add .int (.s 1) (.s 0)) :: .s (.mv (.t (.of 17))) :: .s (.bin .add .int (.s 1) (.s 0)) :: .s (.mv (.t (.of 19))) :: .s (.bin .add .int (.s 1) (.s 0)) :: .s (.mv (.t (.of 21))) :: .s (.bin .add .int (.s 1) (.s 0)) :: .s (.bin .neq .int (.s 0) (.c (I 0))) :: F14.r11_2
noncomputable def F14.r11_0 : List RO := .s (.mv (.t (.of 7))) :: .s (.mv (.t (.of 9))) :: .s (.bin .add .int (.s 1) (.s 0)) :: .s (.mv (.t (.of 11))) :: .s (.bin .add .int (.s 1) (.s 0)) :: .s (.mv (.t (.of 13))) :: .s (.bin .add .int (.s 1) (.s 0)) :: .s (.mv (.t (.of 15))) :: F14.r11_1
noncomputable def F14.t14 : IR := .reg F14.r11_0
noncomputable def F14.t15 : IR := .reg [.q (.of 5) (.mv (.c (.bool false)))]
noncomputable def F14.t16 : IR := .seq F14.t15 .ret
noncomputable def F14.t17 : IR := .cond (.t (.of 29)) F14.t16 .skip
noncomputable def F14.t18 : IR := .seq F14.t14 F14.t17
noncomputable def F14.t19 : IR := .reg [.s (.mv (.t (.of 2))), .s (.len (.s 0)), .w .push none (.mkslice 1 8 [(I 0)] (.s 0) (.s 0)), .q (.of 22) (.mv (.s 0))]
noncomputable def F14.t20 : IR := .reg [.s (.mv (.t (.of 22))), .q (.of 30) (.len (.s 0)), .q (.of 31) (.mv (.c (I 0)))]
noncomputable def F14.t21 : IR := .reg [.q (.of 32) (.bin .lss .int (.t (.of 31)) (.t (.of 30)))]
noncomputable def F14.t22 : IR := .cond (.t (.of 32)) .skip (.exit 0)
noncomputable def F14.t23 : IR := .reg [.s (.mv (.t (.of 31))), .q (.of 23) (.mv (.s 0))]
noncomputable def F14.t24 : IR := .reg [.s (.mv (.t (.of 22))), .s (.mv (.t (.of 23))), .s (.mv (.t (.of 23))), .s (.bin .mul .int (.c (I 3)) (.s 0)), .s (.bin .add .int (.c (I 100)) (.s 0)), .s (.iaddr 1 (.s 4) (.s 3)), .w .none none (.store 1 (.s 0) (.s 1))]
noncomputable def F14.t25 : IR := .seq F14.t23 F14.t24
noncomputable def F14.t26 : IR := .block 1 F14.t25
noncomputable def F14.t27 : IR := .reg [.s (.bin .add .int (.t (.of 31)) (.c (I 1))), .q (.of 31) (.mv (.s 0))]
noncomputable def F14.t28 : IR := .seq F14.t26 F14.t27
noncomputable def F14.t29 : IR := .seq F14.t22 F14.t28
noncomputable def F14.t30 : IR := .seq F14.t21 F14.t29
noncomputable def F14.t31 : IR := .loop F14.t30
noncomputable def F14.t32 : IR := .block 0 F14.t31
noncomputable def F14.t33 : IR := .seq F14.t20 F14.t32
noncomputable def F14.t34 : IR := .reg [.w .push none (.bslice 1 0 [(I 0)] []), .s (.mv (.t (.of 22))), .w .push none (.app 1 8 (.s 1) (.s 0)), .q (.of 24) (.mv (.s 0))]
noncomputable def F14.t35 : IR := .reg [.q (.of 25) (.mv (.c (I 1)))]
noncomputable def F14.t36 : IR := .reg [.s (.mv (.t (.of 25))), .s (.mv (.t (.of 20))), .q (.of 33) (.bin .leq .int (.s 1) (.s 0))]
noncomputable def F14.t37 : IR := .cond (.t (.of 33)) .skip (.exit 2)
noncomputable def F14.t38 : IR := .seq F14.t36 F14.t37
noncomputable def F14.t39 : IR := .reg [.s (.loadN 2 (.t (.of 3))), .s (.mv (.t (.of 24))), .w .push none (.call (.c (.fn 52 (.of 52) [])) [(.s 1), (.s 0)]), .s (.mv (.s 0)), .s (.ext 0 (.s 0)), .s (.ext 1 (.s 1)), .q (.of 26) (.mv (.s 1)), .q (.of 27) (.mv (.s 0))]
noncomputable def F14.r23_1 : List RO := .q (.of 34) (.pick (.s 5) (.c (.bool true)) (.s 0)) :: []
noncomputable def F14.r23_0 : List RO := .s (.mv (.t (.of 27))) :: .s (.bin .neq .int (.s 0) (.c (I 0))) :: .s (.mv (.s 0)) :: .p .push (some ((.s 0), false)) (.mv (.t (.of 26))) :: .p .push (some ((.s 1), false)) (.len (.s 0)) :: .p .push (some ((.s 2), false)) (.mv (.t (.of 2))) :: .p .push (some ((.s 3), false)) (.len (.s 0)) :: .p .push (some ((.s 4), false)) (.bin .neq .int (.s 2) (.s 0)) :: F14.r23_1
noncomputable def F14.t40 : IR := .reg F14.r23_0
noncomputable def F14.t41 : IR := .reg [.q (.of 5) (.mv (.c (.bool false)))]
noncomputable def F14.t42 : IR := .seq F14.t41 .ret
noncomputable def F14.t43 : IR := .cond (.t (.of 34)) F14.t42 .skip
noncomputable def F14.t44 : IR := .seq F14.t40 F14.t43
noncomputable def F14.t45 : IR := .reg [.s (.mv (.t (.of 26))), .q (.of 24) (.mv (.s 0))]
noncomputable def F14.t46 : IR := .reg [.s (.mv (.t (.of 24))), .s (.mv (.t (.of 22))), .w .push none (.call (.c (.fn 82 (.of 82) [])) [(.s 1), (.s 0)]), .s (.mv (.t (.of 25))), .s (.mv (.t (.of 20))), .s (.bin .eql .int (.s 1) (.s 0)), .s (.bin .neq .bool (.s 3) (.s 0)), .s (.mv (.s 0)), .p .push (some ((.s 0), true)) (.mv (.t (.of 2))), .p .push (some ((.s 1), true)) (.len (.s 0)), .p .push (some ((.s 2), true)) (.bin .gtr .int (.s 0) (.c (I 0))), .q (.of 35) (.pick (.s 3) (.s 0) (.c (.bool false)))]
noncomputable def F14.t47 : IR := .reg [.q (.of 5) (.mv (.c (.bool false)))]
noncomputable def F14.t48 : IR := .seq F14.t47 .ret
noncomputable def F14.t49 : IR := .cond (.t (.of 35)) F14.t48 .skip
noncomputable def F14.t50 : IR := .seq F14.t46 F14.t49
noncomputable def F14.t51 : IR := .seq F14.t45 F14.t50
noncomputable def F14.t52 : IR := .seq F14.t44 F14.t51
noncomputable def F14.t53 : IR := .seq F14.t39 F14.t52
noncomputable def F14.t54 : IR := .block 3 F14.t53
noncomputable def F14.t55 : IR := .reg [.s (.mv (.t (.of 25))), .s (.bin .add .int (.s 0) (.c (I 1))), .q (.of 25) (.mv (.s 0))]
noncomputable def F14.t56 : IR := .seq F14.t54 F14.t55
noncomputable def F14.t57 : IR := .seq F14.t38 F14.t56
noncomputable def F14.t58 : IR := .loop F14.t57
noncomputable def F14.t59 : IR := .block 2 F14.t58
noncomputable def F14.t60 : IR := .seq F14.t35 F14.t59
noncomputable def F14.t61 : IR := .reg [.q (.of 5) (.mv (.c (.bool true)))]
noncomputable def F14.t62 : IR := .seq F14.t61 .ret
noncomputable def F14.t63 : IR := .seq F14.t60 F14.t62
noncomputable def F14.t64 : IR := .seq F14.t34 F14.t63
noncomputable def F14.t65 : IR := .seq F14.t33 F14.t64
noncomputable def F14.t66 : IR := .seq F14.t19 F14.t65
noncomputable def F14.t67 : IR := .seq F14.t18 F14.t66
noncomputable def F14.t68 : IR := .seq F14.t13 F14.t67
noncomputable def F14.t69 : IR := .seq F14.t12 F14.t68
noncomputable def F14.t70 : IR := .seq F14.t11 F14.t69
noncomputable def F14.t71 : IR := .seq F14.t10 F14.t70
noncomputable def F14.t72 : IR := .seq F14.t9 F14.t71
noncomputable def F14.t73 : IR := .seq F14.t8 F14.t72
noncomputable def F14.t74 : IR := .seq F14.t7 F14.t73
noncomputable def F14.t75 : IR := .seq F14.t6 F14.t74
noncomputable def F14.t76 : IR := .seq F14.t5 F14.t75
noncomputable def F14.t77 : IR := .seq F14.t0 F14.t76
theorem F14.t0_s : IR.run F14.t0 C N O K (F14.fr c e f o g l p q v w a b d i s u z y B A D E F G H Q V W L M P U Z x33 x34 x35) h nx =
 sBox c h nx fun v1 h2 n3 => sBox e h2 n3 fun v4 h5 n6 => K (F14.fr c e f v1 v4 (.bool false) p q v w a b d i s u z y B A D E F G H Q V W L M P U Z x33 x34 x35) h5 n6 := by kernel_rfl
theorem F14.t1_s : IR.run F14.t1 C N O K tm h nx = jE F14.r1_0 C ⟨tm, []⟩ h nx (fun tm h nx => K tm.v h nx) := dU ..
theorem F14.r1_0_g : jE (.w .push none (.call (.c (.fn 18 (.of 18) [])) []) :: r) C ⟨(F14.fr c e f o g l p q v w a b d i s u z y B A D E F G H Q V W L M P U Z x33 x34 x35), []⟩ h nx Kt =
 C.fn 18 (.of 18) [] h nx fun v1 h2 n3 => jE r C ⟨(F14.fr c e f o g l p q v w a b d i s u z y B A D E F G H Q V W L M P U Z x33 x34 x35), v1 :: []⟩ h2 n3 Kt := by kernel_rfl
theorem F14.r1_1_g : jE (.s (.not (.s 0)) :: .s (.mv (.s 0)) :: .p .push (some ((.s 0), false)) (.mv (.t (.of 2))) :: .w .push (some ((.s 1), false)) (.call (.c (.fn 80 (.of 80) [])) [(.s 0)]) :: r) C ⟨(F14.fr c e f o g l p q v w a b d i s u z y B A D E F G H Q V W L M P U Z x33 x34 x35), s0 :: []⟩ h nx Kt =
 sNot s0 fun v1 => sG v1 false (fun k => k f) fun v2 => sGW v1 false (fun k => C.fn 80 (.of 80) [v2] h nx k) h nx fun v3 h4 n5 => jE r C ⟨(F14.fr c e f o g l p q v w a b d i s u z y B A D E F G H Q V W L M P U Z x33 x34 x35), v3 :: v2 :: v1 :: v1 :: s0 :: []⟩ h4 n5 Kt := by kernel_rfl
theorem F14.r1_2_g : jE (.p .push (some ((.s 2), false)) (.not (.s 0)) :: .s (.pick (.s 3) (.c (.bool true)) (.s 0)) :: .s (.mv (.s 0)) :: .p .push (some ((.s 0), false)) (.loadN 2 (.t (.of 3))) :: .p .push (some ((.s 1), false)) (.mv (.t (.of 2))) :: .p .push (some ((.s 2), false)) (.len (.s 0)) :: .w .push (some ((.s 3), false)) (.call (.c (.fn 26 (.of 26) [])) [(.s 2), (.s 0)]) :: r) C ⟨(F14.fr c e f o g l p q v w a b d i s u z y B A D E F G H Q V W L M P U Z x33 x34 x35), s0 :: s1 :: s2 :: s3 :: s4 :: []⟩ h nx Kt =
 sG s2 false (fun k => sNot s0 k) fun v1 => gO s2 (.bool true) v1 fun v2 => sG v2 false (fun k => zH 2 o h k) fun v3 => sG v2 false (fun k => k f) fun v4 => sG v2 false (fun k => sLen v4 k) fun v5 => sGW v2 false (fun k => C.fn 26 (.of 26) [v3, v5] h nx k) h nx fun v6 h7 n8 => jE r C ⟨(F14.fr c e f o g l p q v w a b d i s u z y B A D E F G H Q V W L M P U Z x33 x34 x35), v6 :: v5 :: v4 :: v3 :: v2 :: v2 :: v1 :: s0 :: s1 :: s2 :: s3 :: s4 :: []⟩ h7 n8 Kt := by kernel_rfl
theorem F14.r1_3_g : jE (.p .push (some ((.s 4), false)) (.bin .neq .int (.s 0) (.c (I 0))) :: .s (.pick (.s 5) (.c (.bool true)) (.s 0)) :: .s (.mv (.s 0)) :: .p .push (some ((.s 0), false)) (.loadN 2 (.t (.of 4))) :: .p .push (some ((.s 1), false)) (.mv (.t (.of 2))) :: .p .push (some ((.s 2), false)) (.len (.s 0)) :: .w .push (some ((.s 3), false)) (.call (.c (.fn 26 (.of 26) [])) [(.s 2), (.s 0)]) :: r) C ⟨(F14.fr c e f o g l p q v w a b d i s u z y B A D E F G H Q V W L M P U Z x33 x34 x35), s0 :: s1 :: s2 :: s3 :: s4 :: s5 :: s6 :: s7 :: s8 :: s9 :: s10 :: s11 :: []⟩ h nx Kt =
 sG s4 false (fun k => sBin .neq .int s0 (I 0) k) fun v1 => gO s4 (.bool true) v1 fun v2 => sG v2 false (fun k => zH 2 g h k) fun v3 => sG v2 false (fun k => k f) fun v4 => sG v2 false (fun k => sLen v4 k) fun v5 => sGW v2 false (fun k => C.fn 26 (.of 26) [v3, v5] h nx k) h nx fun v6 h7 n8 => jE r C ⟨(F14.fr c e f o g l p q v w a b d i s u z y B A D E F G H Q V W L M P U Z x33 x34 x35), v6 :: v5 :: v4 :: v3 :: v2 :: v2 :: v1 :: s0 :: s1 :: s2 :: s3 :: s4 :: s5 :: s6 :: s7 :: s8 :: s9 :: s10 :: s11 :: []⟩ h7 n8 Kt := by kernel_rfl
theorem F14.r1_4_g : jE (.p .push (some ((.s 4), false)) (.bin .neq .int (.s 0) (.c (I 0))) :: .q (.of 28) (.pick (.s 5) (.c (.bool true)) (.s 0)) :: []) C ⟨(F14.fr c e f o g l p q v w a b d i s u z y B A D E F G H Q V W L M P U Z x33 x34 x35), s0 :: s1 :: s2 :: s3 :: s4 :: s5 :: s6 :: s7 :: s8 :: s9 :: s10 :: s11 :: s12 :: s13 :: s14 :: s15 :: s16 :: s17 :: s18 :: []⟩ h nx Kt =
 sG s4 false (fun k => sBin .neq .int s0 (I 0) k) fun v1 => gO s4 (.bool true) v1 fun v2 => Kt ⟨(F14.fr c e f o g l p q v w a b d i s u z y B A D E F G H Q V W v2 M P U Z x33 x34 x35), v1 :: s0 :: s1 :: s2 :: s3 :: s4 :: s5 :: s6 :: s7 :: s8 :: s9 :: s10 :: s11 :: s12 :: s13 :: s14 :: s15 :: s16 :: s17 :: s18 :: []⟩ h nx := by kernel_rfl
theorem F14.t2_s : IR.run F14.t2 C N O K (F14.fr c e f o g l p q v w a b d i s u z y B A D E F G H Q V W L M P U Z x33 x34 x35) h nx =
 C.fn 18 (.of 18) [] h nx fun v1 h2 n3 => K (F14.fr c e f o g v1 p q v w a b d i s u z y B A D E F G H Q V W L M P U Z x33 x34 x35) h2 n3 := by kernel_rfl
theorem F14.v28 : Arg.ev (.t (.of 28)) ⟨(F14.fr c e f o g l p q v w a b d i s u z y B A D E F G H Q V W L M P U Z x33 x34 x35), []⟩ = L := by kernel_rfl
theorem F14.t6_s : IR.run F14.t6 C N O K (F14.fr c e f o g l p q v w a b d i s u z y B A D E F G H Q V W L M P U Z x33 x34 x35) h nx =
 zH 2 o h fun v1 => zH 2 g h fun v2 => C.fn 53 (.of 53) [v1, v2] h nx fun v3 h4 n5 => sExt 0 v3 fun v6 => sExt 1 v3 fun v7 => yH [.nils, (.bool false)] h4 n5 fun v8 h9 nB => zL 2 v8 v6 h9 nB fun vB hB nC => K (F14.fr c e f o g l v8 v7 v w a b d i s u z y B A D E F G H Q V W L M P U Z x33 x34 x35) hB nC := by kernel_rfl
theorem F14.t7_s : IR.run F14.t7 C N O K (F14.fr c e f o g l p q v w a b d i s u z y B A D E F G H Q V W L M P U Z x33 x34 x35) h nx =
 zH 2 g h fun v1 => C.fn 52 (.of 52) [v1, f] h nx fun v2 h3 n4 => sExt 0 v2 fun v5 => sExt 1 v2 fun v6 => K (F14.fr c e f o g l p q v5 v6 a b d i s u z y B A D E F G H Q V W L M P U Z x33 x34 x35) h3 n4 := by kernel_rfl
theorem F14.t8_s : IR.run F14.t8 C N O K (F14.fr c e f o g l p q v w a b d i s u z y B A D E F G H Q V W L M P U Z x33 x34 x35) h nx =
 zH 2 o h fun v1 => C.fn 52 (.of 52) [v1, v] h nx fun v2 h3 n4 => sExt 0 v2 fun v5 => sExt 1 v2 fun v6 => K (F14.fr c e f o g l p q v w v5 v6 d i s u z y B A D E F G H Q V W L M P U Z x33 x34 x35) h3 n4 := by kernel_rfl
theorem F14.t9_s : IR.run F14.t9 C N O K (F14.fr c e f o g l p q v w a b d i s u z y B A D E F G H Q V W L M P U Z x33 x34 x35) h nx =
 zH 2 p h fun v1 => C.fn 52 (.of 52) [v1, f] h nx fun v2 h3 n4 => sExt 0 v2 fun v5 => sExt 1 v2 fun v6 => K (F14.fr c e f o g l p q v w a b v5 v6 s u z y B A D E F G H Q V W L M P U Z x33 x34 x35) h3 n4 := by kernel_rfl
theorem F14.t10_s : IR.run F14.t10 C N O K (F14.fr c e f o g l p q v w a b d i s u z y B A D E F G H Q V W L M P U Z x33 x34 x35) h nx =
 zH 2 o h fun v1 => C.fn 54 (.of 54) [v1] h nx fun v2 h3 n4 => sExt 0 v2 fun v5 => sExt 1 v2 fun v6 => yH [.nils, (.bool false)] h3 n4 fun v7 h8 n9 => zL 2 v7 v5 h8 n9 fun vA hC nD => K (F14.fr c e f o g l p q v w a b d i v7 v6 z y B A D E F G H Q V W L M P U Z x33 x34 x35) hC nD := by kernel_rfl
theorem F14.t11_s : IR.run F14.t11 C N O K (F14.fr c e f o g l p q v w a b d i s u z y B A D E F G H Q V W L M P U Z x33 x34 x35) h nx =
 zH 2 o h fun v1 => C.fn 52 (.of 52) [v1, f] h nx fun v2 h3 n4 => sExt 0 v2 fun v5 => sExt 1 v2 fun v6 => K (F14.fr c e f o g l p q v w a b d i s u v5 v6 B A D E F G H Q V W L M P U Z x33 x34 x35) h3 n4 := by kernel_rfl
theorem F14.t12_s : IR.run F14.t12 C N O K (F14.fr c e f o g l p q v w a b d i s u z y B A D E F G H Q V W L M P U Z x33 x34 x35) h nx =
 zH 2 s h fun v1 => C.fn 52 (.of 52) [v1, z] h nx fun v2 h3 n4 => sExt 0 v2 fun v5 => sExt 1 v2 fun v6 => K (F14.fr c e f o g l p q v w a b d i s u z y v5 v6 D E F G H Q V W L M P U Z x33 x34 x35) h3 n4 := by kernel_rfl
theorem F14.t13_s : IR.run F14.t13 C N O K (F14.fr c e f o g l p q v w a b d i s u z y B A D E F G H Q V W L M P U Z x33 x34 x35) h nx =
 zH 2 o h fun v1 => C.fn 55 (.of 55) [v1] h nx fun v2 h3 n4 => sExt 0 v2 fun v5 => sExt 1 v2 fun v6 => K (F14.fr c e f o g l p q v w a b d i s u z y B A v5 v6 F G H Q V W L M P U Z x33 x34 x35) h3 n4 := by kernel_rfl
theorem F14.t14_s : IR.run F14.t14 C N O K tm h nx = jE F14.r11_0 C ⟨tm, []⟩ h nx (fun tm h nx => K tm.v h nx) := dU ..
theorem F14.r11_0_g : jE (.s (.mv (.t (.of 7))) :: .s (.mv (.t (.of 9))) :: .s (.bin .add .int (.s 1) (.s 0)) :: .s (.mv (.t (.of 11))) :: .s (.bin .add .int (.s 1) (.s 0)) :: .s (.mv (.t (.of 13))) :: .s (.bin .add .int (.s 1) (.s 0)) :: .s (.mv (.t (.of 15))) :: r) C ⟨(F14.fr c e f o g l p q v w a b d i s u z y B A D E F G H Q V W L M P U Z x33 x34 x35), []⟩ h nx Kt =
 sBin .add .int q w fun v1 => sBin .add .int v1 b fun v2 => sBin .add .int v2 i fun v3 => jE r C ⟨(F14.fr c e f o g l p q v w a b d i s u z y B A D E F G H Q V W L M P U Z x33 x34 x35), u :: v3 :: i :: v2 :: b :: v1 :: w :: q :: []⟩ h nx Kt := by kernel_rfl
theorem F14.r11_1_g : jE (.s (.bin .add .int (.s 1) (.s 0)) :: .s (.mv (.t (.of 17))) :: .s (.bin .add .int (.s 1) (.s 0)) :: .s (.mv (.t (.of 19))) :: .s (.bin .add .int (.s 1) (.s 0)) :: .s (.mv (.t (.of 21))) :: .s (.bin .add .int (.s 1) (.s 0)) :: .s (.bin .neq .int (.s 0) (.c (I 0))) :: r) C ⟨(F14.fr c e f o g l p q v w a b d i s u z y B A D E F G H Q V W L M P U Z x33 x34 x35), s0 :: s1 :: s2 :: s3 :: s4 :: s5 :: s6 :: s7 :: []⟩ h nx Kt =
 sBin .add .int s1 s0 fun v1 => sBin .add .int v1 y fun v2 => sBin .add .int v2 A fun v3 => sBin .add .int v3 E fun v4 => sBin .neq .int v4 (I 0) fun v5 => jE r C ⟨(F14.fr c e f o g l p q v w a b d i s u z y B A D E F G H Q V W L M P U Z x33 x34 x35), v5 :: v4 :: E :: v3 :: A :: v2 :: y :: v1 :: s0 :: s1 :: s2 :: s3 :: s4 :: s5 :: s6 :: s7 :: []⟩ h nx Kt := by kernel_rfl
theorem F14.r11_2_g : jE (.s (.mv (.s 0)) :: .p .push (some ((.s 0), false)) (.mv (.t (.of 10))) :: .p .push (some ((.s 1), false)) (.mv (.t (.of 12))) :: .w .push (some ((.s 2), false)) (.call (.c (.fn 82 (.of 82) [])) [(.s 1), (.s 0)]) :: r) C ⟨(F14.fr c e f o g l p q v w a b d i s u z y B A D E F G H Q V W L M P U Z x33 x34 x35), s0 :: s1 :: s2 :: s3 :: s4 :: s5 :: s6 :: s7 :: s8 :: s9 :: s10 :: s11 :: s12 :: s13 :: s14 :: s15 :: []⟩ h nx Kt =
 sG s0 false (fun k => k a) fun v1 => sG s0 false (fun k => k d) fun v2 => sGW s0 false (fun k => C.fn 82 (.of 82) [v1, v2] h nx k) h nx fun v3 h4 n5 => jE r C ⟨(F14.fr c e f o g l p q v w a b d i s u z y B A D E F G H Q V W L M P U Z x33 x34 x35), v3 :: v2 :: v1 :: s0 :: s0 :: s1 :: s2 :: s3 :: s4 :: s5 :: s6 :: s7 :: s8 :: s9 :: s10 :: s11 :: s12 :: s13 :: s14 :: s15 :: []⟩ h4 n5 Kt := by kernel_rfl
theorem F14.r11_3_g : jE (.p .push (some ((.s 3), false)) (.not (.s 0)) :: .s (.pick (.s 4) (.c (.bool true)) (.s 0)) :: .s (.mv (.s 0)) :: .p .push (some ((.s 0), false)) (.mv (.t (.of 18))) :: .p .push (some ((.s 1), false)) (.mv (.t (.of 2))) :: .w .push (some ((.s 2), false)) (.call (.c (.fn 82 (.of 82) [])) [(.s 1), (.s 0)]) :: r) C ⟨(F14.fr c e f o g l p q v w a b d i s u z y B A D E F G H Q V W L M P U Z x33 x34 x35), s0 :: s1 :: s2 :: s3 :: s4 :: s5 :: s6 :: s7 :: s8 :: s9 :: s10 :: s11 :: s12 :: s13 :: s14 :: s15 :: s16 :: s17 :: s18 :: s19 :: []⟩ h nx Kt =
 sG s3 false (fun k => sNot s0 k) fun v1 => gO s3 (.bool true) v1 fun v2 => sG v2 false (fun k => k B) fun v3 => sG v2 false (fun k => k f) fun v4 => sGW v2 false (fun k => C.fn 82 (.of 82) [v3, v4] h nx k) h nx fun v5 h6 n7 => jE r C ⟨(F14.fr c e f o g l p q v w a b d i s u z y B A D E F G H Q V W L M P U Z x33 x34 x35), v5 :: v4 :: v3 :: v2 :: v2 :: v1 :: s0 :: s1 :: s2 :: s3 :: s4 :: s5 :: s6 :: s7 :: s8 :: s9 :: s10 :: s11 :: s12 :: s13 :: s14 :: s15 :: s16 :: s17 :: s18 :: s19 :: []⟩ h6 n7 Kt := by kernel_rfl
theorem F14.r11_4_g : jE (.p .push (some ((.s 3), false)) (.not (.s 0)) :: .s (.pick (.s 4) (.c (.bool true)) (.s 0)) :: .s (.mv (.s 0)) :: .p .push (some ((.s 0), false)) (.mv (.t (.of 20))) :: .p .push (some ((.s 1), false)) (.bin .lss .int (.s 0) (.c (I 1))) :: .s (.pick (.s 2) (.c (.bool true)) (.s 0)) :: .s (.mv (.s 0)) :: .p .push (some ((.s 0), false)) (.mv (.t (.of 20))) :: r) C ⟨(F14.fr c e f o g l p q v w a b d i s u z y B A D E F G H Q V W L M P U Z x33 x34 x35), s0 :: s1 :: s2 :: s3 :: s4 :: s5 :: s6 :: s7 :: s8 :: s9 :: s10 :: s11 :: s12 :: s13 :: s14 :: s15 :: s16 :: s17 :: s18 :: s19 :: s20 :: s21 :: s22 :: s23 :: s24 :: s25 :: []⟩ h nx Kt =
 sG s3 false (fun k => sNot s0 k) fun v1 => gO s3 (.bool true) v1 fun v2 => sG v2 false (fun k => k D) fun v3 => sG v2 false (fun k => sBin .lss .int v3 (I 1) k) fun v4 => gO v2 (.bool true) v4 fun v5 => sG v5 false (fun k => k D) fun v6 => jE r C ⟨(F14.fr c e f o g l p q v w a b d i s u z y B A D E F G H Q V W L M P U Z x33 x34 x35), v6 :: v5 :: v5 :: v4 :: v3 :: v2 :: v2 :: v1 :: s0 :: s1 :: s2 :: s3 :: s4 :: s5 :: s6 :: s7 :: s8 :: s9 :: s10 :: s11 :: s12 :: s13 :: s14 :: s15 :: s16 :: s17 :: s18 :: s19 :: s20 :: s21 :: s22 :: s23 :: s24 :: s25 :: []⟩ h nx Kt := by kernel_rfl
theorem F14.r11_5_g : jE (.p .push (some ((.s 1), false)) (.bin .gtr .int (.s 0) (.c (I 40))) :: .q (.of 29) (.pick (.s 2) (.c (.bool true)) (.s 0)) :: []) C ⟨(F14.fr c e f o g l p q v w a b d i s u z y B A D E F G H Q V W L M P U Z x33 x34 x35), s0 :: s1 :: s2 :: s3 :: s4 :: s5 :: s6 :: s7 :: s8 :: s9 :: s10 :: s11 :: s12 :: s13 :: s14 :: s15 :: s16 :: s17 :: s18 :: s19 :: s20 :: s21 :: s22 :: s23 :: s24 :: s25 :: s26 :: s27 :: s28 :: s29 :: s30 :: s31 :: s32 :: s33 :: []⟩ h nx Kt =
 sG s1 false (fun k => sBin .gtr .int s0 (I 40) k) fun v1 => gO s1 (.bool true) v1 fun v2 => Kt ⟨(F14.fr c e f o g l p q v w a b d i s u z y B A D E F G H Q V W L v2 P U Z x33 x34 x35), v1 :: s0 :: s1 :: s2 :: s3 :: s4 :: s5 :: s6 :: s7 :: s8 :: s9 :: s10 :: s11 :: s12 :: s13 :: s14 :: s15 :: s16 :: s17 :: s18 :: s19 :: s20 :: s21 :: s22 :: s23 :: s24 :: s25 :: s26 :: s27 :: s28 :: s29 :: s30 :: s31 :: s32 :: s33 :: []⟩ h nx := by kernel_rfl
theorem F14.v29 : Arg.ev (.t (.of 29)) ⟨(F14.fr c e f o g l p q v w a b d i s u z y B A D E F G H Q V W L M P U Z x33 x34 x35), []⟩ = M := by kernel_rfl
theorem F14.t19_s : IR.run F14.t19 C N O K (F14.fr c e f o g l p q v w a b d i s u z y B A D E F G H Q V W L M P U Z x33 x34 x35) h nx =
 sLen f fun v1 => gD 1 8 [(I 0)] v1 v1 h nx fun v2 h3 n4 => K (F14.fr c e f o g l p q v w a b d i s u z y B A D E v2 G H Q V W L M P U Z x33 x34 x35) h3 n4 := by kernel_rfl
theorem F14.t20_s : IR.run F14.t20 C N O K (F14.fr c e f o g l p q v w a b d i s u z y B A D E F G H Q V W L M P U Z x33 x34 x35) h nx =
 sLen F fun v1 => K (F14.fr c e f o g l p q v w a b d i s u z y B A D E F G H Q V W L M v1 (I 0) Z x33 x34 x35) h nx := by kernel_rfl
theorem F14.t21_s : IR.run F14.t21 C N O K (F14.fr c e f o g l p q v w a b d i s u z y B A D E F G H Q V W L M P U Z x33 x34 x35) h nx =
 sBin .lss .int U P fun v1 => K (F14.fr c e f o g l p q v w a b d i s u z y B A D E F G H Q V W L M P U v1 x33 x34 x35) h nx := by kernel_rfl
theorem F14.v32 : Arg.ev (.t (.of 32)) ⟨(F14.fr c e f o g l p q v w a b d i s u z y B A D E F G H Q V W L M P U Z x33 x34 x35), []⟩ = Z := by kernel_rfl
theorem F14.t23_s : IR.run F14.t23 C N O K (F14.fr c e f o g l p q v w a b d i s u z y B A D E F G H Q V W L M P U Z x33 x34 x35) h nx =
 K (F14.fr c e f o g l p q v w a b d i s u z y B A D E F U H Q V W L M P U Z x33 x34 x35) h nx := by kernel_rfl
theorem F14.t24_s : IR.run F14.t24 C N O K (F14.fr c e f o g l p q v w a b d i s u z y B A D E F G H Q V W L M P U Z x33 x34 x35) h nx =
 sBin .mul .int (I 3) G fun v1 => sBin .add .int (I 100) v1 fun v2 => zZ 1 F G fun v3 => zL 1 v3 v2 h nx fun v4 h5 n6 => K (F14.fr c e f o g l p q v w a b d i s u z y B A D E F G H Q V W L M P U Z x33 x34 x35) h5 n6 := by kernel_rfl
theorem F14.t27_s : IR.run F14.t27 C N O K (F14.fr c e f o g l p q v w a b d i s u z y B A D E F G H Q V W L M P U Z x33 x34 x35) h nx =
 sBin .add .int U (I 1) fun v1 => K (F14.fr c e f o g l p q v w a b d i s u z y B A D E F G H Q V W L M P v1 Z x33 x34 x35) h nx := by kernel_rfl
theorem F14.t31_L (Inv : Nat → AV → T Blk → Pa → Prop) {m : Nat} (hm : m < N) (hi : Inv m U h nx)
  (step : ∀ (m : Nat) (zN zV zX : AV) (h : T Blk) (nx : Pa) (R : Ks Prop), Inv m zV h nx → (∀ (m' : Nat) (wJ wP wQ : AV) (h' : T Blk) (nx' : Pa), m' < m → Inv m' wP h' nx' → R (F14.fr c e f o g l p q v w a b d i s u z y B A D E F wJ H Q V W L M P wP wQ x33 x34 x35) h' nx' = .ok True) → IR.run F14.t30 C N O R (F14.fr c e f o g l p q v w a b d i s u z y B A D E F zN H Q V W L M P zV zX x33 x34 x35) h nx = .ok True) :
  IR.run F14.t31 C N O K (F14.fr c e f o g l p q v w a b d i s u z y B A D E F G H Q V W L M P U Z x33 x34 x35) h nx = .ok True := by
 rw [F14.t31]
 refine yR (fun m tm h nx => ∃ zN zV zX, tm = (F14.fr c e f o g l p q v w a b d i s u z y B A D E F zN H Q V W L M P zV zX x33 x34 x35) ∧ Inv m zV h nx) ?_ hm ⟨_, _, _, rfl, hi⟩
 rintro m tm h nx R ⟨zN, zV, zX, rfl, hi⟩ hR
 exact step m zN zV zX h nx R hi fun m' wJ wP wQ h' nx' hlt hi' => hR m' _ h' nx' hlt ⟨_, _, _, rfl, hi'⟩
theorem F14.t34_s : IR.run F14.t34 C N O K (F14.fr c e f o g l p q v w a b d i s u z y B A D E F G H Q V W L M P U Z x33 x34 x35) h nx =
 jB 1 0 [(I 0)] [] h nx fun v1 h2 n3 => sApp 1 8 v1 F h2 n3 fun v4 h5 n6 => K (F14.fr c e f o g l p q v w a b d i s u z y B A D E F G v4 Q V W L M P U Z x33 x34 x35) h5 n6 := by kernel_rfl
theorem F14.t35_s : IR.run F14.t35 C N O K (F14.fr c e f o g l p q v w a b d i s u z y B A D E F G H Q V W L M P U Z x33 x34 x35) h nx =
 K (F14.fr c e f o g l p q v w a b d i s u z y B A D E F G H (I 1) V W L M P U Z x33 x34 x35) h nx := by kernel_rfl
theorem F14.t36_s : IR.run F14.t36 C N O K (F14.fr c e f o g l p q v w a b d i s u z y B A D E F G H Q V W L M P U Z x33 x34 x35) h nx =
 sBin .leq .int Q D fun v1 => K (F14.fr c e f o g l p q v w a b d i s u z y B A D E F G H Q V W L M P U Z v1 x34 x35) h nx := by kernel_rfl
theorem F14.v33 : Arg.ev (.t (.of 33)) ⟨(F14.fr c e f o g l p q v w a b d i s u z y B A D E F G H Q V W L M P U Z x33 x34 x35), []⟩ = x33 := by kernel_rfl
theorem F14.t39_s : IR.run F14.t39 C N O K (F14.fr c e f o g l p q v w a b d i s u z y B A D E F G H Q V W L M P U Z x33 x34 x35) h nx =
 zH 2 o h fun v1 => C.fn 52 (.of 52) [v1, H] h nx fun v2 h3 n4 => sExt 0 v2 fun v5 => sExt 1 v2 fun v6 => K (F14.fr c e f o g l p q v w a b d i s u z y B A D E F G H Q v5 v6 L M P U Z x33 x34 x35) h3 n4 := by kernel_rfl
theorem F14.t40_s : IR.run F14.t40 C N O K tm h nx = jE F14.r23_0 C ⟨tm, []⟩ h nx (fun tm h nx => K tm.v h nx) := dU ..
theorem F14.r23_0_g : jE (.s (.mv (.t (.of 27))) :: .s (.bin .neq .int (.s 0) (.c (I 0))) :: .s (.mv (.s 0)) :: .p .push (some ((.s 0), false)) (.mv (.t (.of 26))) :: .p .push (some ((.s 1), false)) (.len (.s 0)) :: .p .push (some ((.s 2), false)) (.mv (.t (.of 2))) :: .p .push (some ((.s 3), false)) (.len (.s 0)) :: .p .push (some ((.s 4), false)) (.bin .neq .int (.s 2) (.s 0)) :: r) C ⟨(F14.fr c e f o g l p q v w a b d i s u z y B A D E F G H Q V W L M P U Z x33 x34 x35), []⟩ h nx Kt =
 sBin .neq .int W (I 0) fun v1 => sG v1 false (fun k => k V) fun v2 => sG v1 false (fun k => sLen v2 k) fun v3 => sG v1 false (fun k => k f) fun v4 => sG v1 false (fun k => sLen v4 k) fun v5 => sG v1 false (fun k => sBin .neq .int v3 v5 k) fun v6 => jE r C ⟨(F14.fr c e f o g l p q v w a b d i s u z y B A D E F G H Q V W L M P U Z x33 x34 x35), v6 :: v5 :: v4 :: v3 :: v2 :: v1 :: v1 :: W :: []⟩ h nx Kt := by kernel_rfl
theorem F14.r23_1_g : jE (.q (.of 34) (.pick (.s 5) (.c (.bool true)) (.s 0)) :: []) C ⟨(F14.fr c e f o g l p q v w a b d i s u z y B A D E F G H Q V W L M P U Z x33 x34 x35), s0 :: s1 :: s2 :: s3 :: s4 :: s5 :: s6 :: s7 :: []⟩ h nx Kt =
 gO s5 (.bool true) s0 fun v1 => Kt ⟨(F14.fr c e f o g l p q v w a b d i s u z y B A D E F G H Q V W L M P U Z x33 v1 x35), s0 :: s1 :: s2 :: s3 :: s4 :: s5 :: s6 :: s7 :: []⟩ h nx := by kernel_rfl
theorem F14.v34 : Arg.ev (.t (.of 34)) ⟨(F14.fr c e f o g l p q v w a b d i s u z y B A D E F G H Q V W L M P U Z x33 x34 x35), []⟩ = x34 := by kernel_rfl
theorem F14.t45_s : IR.run F14.t45 C N O K (F14.fr c e f o g l p q v w a b d i s u z y B A D E F G H Q V W L M P U Z x33 x34 x35) h nx =
 K (F14.fr c e f o g l p q v w a b d i s u z y B A D E F G V Q V W L M P U Z x33 x34 x35) h nx := by kernel_rfl
theorem F14.t46_s : IR.run F14.t46 C N O K (F14.fr c e f o g l p q v w a b d i s u z y B A D E F G H Q V W L M P U Z x33 x34 x35) h nx =
 C.fn 82 (.of 82) [H, F] h nx fun v1 h2 n3 => sBin .eql .int Q D fun v4 => sBin .neq .bool v1 v4 fun v5 => sG v5 true (fun k => k f) fun v6 => sG v5 true (fun k => sLen v6 k) fun v7 => sG v5 true (fun k => sBin .gtr .int v7 (I 0) k) fun v8 => gO v5 v8 (.bool false) fun v9 => K (F14.fr c e f o g l p q v w a b d i s u z y B A D E F G H Q V W L M P U Z x33 x34 v9) h2 n3 := by kernel_rfl
theorem F14.v35 : Arg.ev (.t (.of 35)) ⟨(F14.fr c e f o g l p q v w a b d i s u z y B A D E F G H Q V W L M P U Z x33 x34 x35), []⟩ = x35 := by kernel_rfl
theorem F14.t55_s : IR.run F14.t55 C N O K (F14.fr c e f o g l p q v w a b d i s u z y B A D E F G H Q V W L M P U Z x33 x34 x35) h nx =
 sBin .add .int Q (I 1) fun v1 => K (F14.fr c e f o g l p q v w a b d i s u z y B A D E F G H v1 V W L M P U Z x33 x34 x35) h nx := by kernel_rfl
theorem F14.t58_L (Inv : Nat → AV → AV → T Blk → Pa → Prop) {m : Nat} (hm : m < N) (hi : Inv m H Q h nx)
  (step : ∀ (m : Nat) (z5 zP zY z26 z27 z33 z34 z35 : AV) (h : T Blk) (nx : Pa) (R : Ks Prop), Inv m zP zY h nx → (∀ (m' : Nat) (w5 wK wR wS wT wU wV wW : AV) (h' : T Blk) (nx' : Pa), m' < m → Inv m' wK wR h' nx' → R (F14.fr c e f o g w5 p q v w a b d i s u z y B A D E F G wK wR wS wT L M P U Z wU wV wW) h' nx' = .ok True) → IR.run F14.t57 C N O R (F14.fr c e f o g z5 p q v w a b d i s u z y B A D E F G zP zY z26 z27 L M P U Z z33 z34 z35) h nx = .ok True) :
  IR.run F14.t58 C N O K (F14.fr c e f o g l p q v w a b d i s u z y B A D E F G H Q V W L M P U Z x33 x34 x35) h nx = .ok True := by
 rw [F14.t58]
 refine yR (fun m tm h nx => ∃ z5 zP zY z26 z27 z33 z34 z35, tm = (F14.fr c e f o g z5 p q v w a b d i s u z y B A D E F G zP zY z26 z27 L M P U Z z33 z34 z35) ∧ Inv m zP zY h nx) ?_ hm ⟨_, _, _, _, _, _, _, _, rfl, hi⟩
 rintro m tm h nx R ⟨z5, zP, zY, z26, z27, z33, z34, z35, rfl, hi⟩ hR
 exact step m z5 zP zY z26 z27 z33 z34 z35 h nx R hi fun m' w5 wK wR wS wT wU wV wW h' nx' hlt hi' => hR m' _ h' nx' hlt ⟨_, _, _, _, _, _, _, _, rfl, hi'⟩
theorem F14.t61_s : IR.run F14.t61 C N O K (F14.fr c e f o g l p q v w a b d i s u z y B A D E F G H Q V W L M P U Z x33 x34 x35) h nx =
 K (F14.fr c e f o g (.bool true) p q v w a b d i s u z y B A D E F G H Q V W L M P U Z x33 x34 x35) h nx := by kernel_rfl
theorem F14.tab : T.get none (.of 14) tbl = some F14 := by kernel_rfl
theorem F14.bind (k : T AV → OP) : yF F14.params [a0, a1, a2] F14.init k = k (F14.fr a0 a1 a2 .undef .undef .undef .undef .undef .undef .undef .undef .undef .undef .undef .undef .undef .undef .undef .undef .undef .undef .undef .undef .undef .undef .undef .undef .undef .undef .undef .undef .undef .undef .undef .undef .undef) := by kernel_rfl
theorem F14.body_eq : F14.body = F14.t77 := by kernel_rfl
theorem F14.go : zT tbl N C (.of 14) [a0, a1, a2] h nx K0 = IR.run F14.t77 C N (fnO F14.res K0) (retK F14.res K0) (F14.fr a0 a1 a2 .undef .undef .undef .undef .undef .undef .undef .undef .undef .undef .undef .undef .undef .undef .undef .undef .undef .undef .undef .undef .undef .undef .undef .undef .undef .undef .undef .undef .undef .undef .undef .undef .undef) h nx := by
 rw [zM F14.tab, F14.bind, F14.body_eq]; kernel_rfl
theorem F14.ret : retK F14.res K0 (F14.fr c e f o g l p q v w a b d i s u z y B A D E F G H Q V W L M P U Z x33 x34 x35) h nx = K0 l h nx := by kernel_rfl
end
end Go.Ev
