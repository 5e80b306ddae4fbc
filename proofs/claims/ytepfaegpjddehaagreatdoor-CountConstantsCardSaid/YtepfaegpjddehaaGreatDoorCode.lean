import Derived.Test.YtepfaegpjddehaaGreatDoorIrT
import Derived.KernelRfl
set_option linter.unusedSimpArgs false
set_option linter.unusedVariables false
namespace Go.Ev
open Go Go.Proofs
set_option maxRecDepth 100000
variable {N : Nat} {C : Calls Prop} {K0 : Kw Prop} {K R : Ks Prop} {h : T Blk} {nx : Pa} {e b g f d l q r s v a c i p o u y z w A B a0 a1 a2 a3 a4 a5 a6 : AV}
theorem F35.g2_eq (X3 : IR) (O : Outs Prop) (t : T AV) : IR.run (F35.g2 X3) C N O K t h nx = IR.run X3 C N (O.blk 0 K) K t h nx := by kernel_rfl
theorem F35.tab : T.get none (.of 35) tbl = some F35 := by kernel_rfl
theorem F35.go : zR tbl N C (.of 35) [a0, a1] h nx K0 =
 sLen a0 fun v1 => sLen a1 fun v2 => sBin .neq .int v1 v2 fun v3 => zM v3 (K0 (.bool false) h nx) (IR.run F35.b2 C N (fnO F35.res K0) (IR.run F35.b9 C N (fnO F35.res K0) (retK F35.res K0)) (F35.fr a0 a1 (.bool false) (I 0) v3 .undef .undef) h nx) := by
 rw [zH F35.tab]; kernel_rfl
theorem F35.L2 (Inv : Nat → AV → T Blk → Pa → Prop) {m : Nat} (hm : m < N) (hi : Inv m f h nx)
  (step : ∀ (m : Nat) (z2 z3 z5 z6 : AV) (h : T Blk) (nx : Pa) (R : Ks Prop), Inv m z3 h nx → (∀ (m' : Nat) (w2 w3 w5 w6 : AV) (h' : T Blk) (nx' : Pa), m' < m → Inv m' w3 h' nx' → R (F35.fr e b w2 w3 d w5 w6) h' nx' = .ok True) →
   (sLen e fun v1 => sBin .lss .int z3 v1 fun v2 => zM v2 (zQ 1 e z3 fun v3 => zD v3 h fun v4 => zQ 1 b z3 fun v5 => zD v5 h fun v6 => sBin .neq .int v4 v6 fun v7 => zM v7 (K0 (.bool false) h nx) (sBin .add .int z3 (I 1) fun v8 => R (F35.fr e b z2 v8 d v2 v7) h nx)) (K (F35.fr e b z2 z3 d v2 z6) h nx)) = .ok True) :
  IR.run F35.b2 C N (fnO F35.res K0) K (F35.fr e b g f d l q) h nx = .ok True := by
 rw [F35.b2, F35.g2_eq, F35.b3]
 refine zX (fun m tm h nx => ∃ z2 z3 z5 z6, tm = (F35.fr e b z2 z3 d z5 z6) ∧ Inv m z3 h nx) ?_ hm ⟨_, _, _, _, rfl, hi⟩
 rintro m tm h nx R ⟨z2, z3, z5, z6, rfl, hi⟩ hR
 refine Eq.trans ?_ (step m z2 z3 z5 z6 h nx R hi fun m' w2 w3 w5 w6 h' nx' hlt hi' => hR m' _ h' nx' hlt ⟨_, _, _, _, rfl, hi'⟩)
 kernel_rfl
theorem F35.k9 : IR.run F35.b9 C N (fnO F35.res K0) K (F35.fr e b g f d l q) h nx =
 K0 (.bool true) h nx := by kernel_rfl
theorem F82.tab : T.get none (.of 82) tbl = some F82 := by kernel_rfl
theorem F82.go : zR tbl N C (.of 82) [a0, a1] h nx K0 =
 zM a0 (K0 a1 h nx) (K0 (I 0) h nx) := by
 rw [zH F82.tab]; kernel_rfl
end Go.Ev
namespace Go.Ev
open Go Go.Proofs
set_option maxRecDepth 100000
variable {N : Nat} {C : Calls Prop} {K0 : Kw Prop} {K R : Ks Prop} {h : T Blk} {nx : Pa} {e b g f d l q r s v a c i p o u y z w A B E D G L H F M P V Q U W Z a0 a1 a2 a3 : AV}
theorem F89.g7_eq (X8 : IR) (O : Outs Prop) (t : T AV) : IR.run (F89.g7 X8) C N O K t h nx = IR.run X8 C N (O.blk 2 K) K t h nx := by kernel_rfl
theorem F89.g1_eq (X2 : IR) (O : Outs Prop) (t : T AV) : IR.run (F89.g1 X2) C N O K t h nx = IR.run X2 C N (O.blk 0 K) K t h nx := by kernel_rfl
theorem F89.g33_eq (X34 : IR) (O : Outs Prop) (t : T AV) : IR.run (F89.g33 X34) C N O K t h nx = IR.run X34 C N (O.blk 10 K) K t h nx := by kernel_rfl
theorem F89.g27_eq (X28 : IR) (O : Outs Prop) (t : T AV) : IR.run (F89.g27 X28) C N O K t h nx = IR.run X28 C N (O.blk 8 K) K t h nx := by kernel_rfl
theorem F89.g22_eq (X23 : IR) (O : Outs Prop) (t : T AV) : IR.run (F89.g22 X23) C N O K t h nx = IR.run X23 C N (O.blk 6 K) K t h nx := by kernel_rfl
theorem F89.g16_eq (X17 : IR) (O : Outs Prop) (t : T AV) : IR.run (F89.g16 X17) C N O K t h nx = IR.run X17 C N (O.blk 4 K) K t h nx := by kernel_rfl
theorem F89.tab : T.get none (.of 89) tbl = some F89 := by kernel_rfl
theorem F89.go : zR tbl N C (.of 89) [a0, a1, a2, a3] h nx K0 =
 sBox a0 h nx fun v1 h2 n3 => zG 0 v1 fun v4 => zD v4 h2 fun v5 => kC 1 24 [.nils] v5 v5 h2 n3 fun v6 h7 n8 => zG 1 v1 fun v9 => zD v9 h7 fun vA => sLen vA fun vB => IR.run F89.b1 C N (fnO F89.res K0) (IR.run F89.b15 C N (fnO F89.res K0) (retK F89.res K0)) (F89.fr a0 a1 a2 a3 v1 .nilm v6 .undef .undef .undef .undef .undef .undef .undef .undef .undef .undef .undef vA vB (I 0) .undef .undef .undef .undef .undef .undef .undef .undef .undef .undef .undef .undef .undef) h7 n8 := by
 rw [zH F89.tab]; kernel_rfl
theorem F89.L1 (Inv : Nat → AV → T Blk → Pa → Prop) {m : Nat} (hm : m < N) (hi : Inv m B h nx)
  (step : ∀ (m : Nat) (z7 z8 z9 zA zB zC zE zF zI : AV) (h : T Blk) (nx : Pa) (R : Ks Prop), Inv m zA h nx → (∀ (m' : Nat) (w7 w8 w9 wA wB wC wD wE wF : AV) (h' : T Blk) (nx' : Pa), m' < m → Inv m' wA h' nx' → R (F89.fr e b g f d l q w7 w8 w9 a c i p o u y z w A wA wB wC wD wE wF F M P V Q U W Z) h' nx' = .ok True) →
   (sBin .lss .int zA A fun v1 => zM v1 (zQ 1 w zA fun v2 => zD v2 h fun v3 => sLen v3 fun v4 => IR.run F89.b7 C N (((fnO F89.res K0).blk 0 K).blk 1 (IR.run F89.b14 C N ((fnO F89.res K0).blk 0 K) R)) (IR.run F89.b14 C N ((fnO F89.res K0).blk 0 K) R) (F89.fr e b g f d l q zA v3 z9 a c i p o u y z w A zA v1 v3 v4 (I 0) zI F M P V Q U W Z) h nx) (K (F89.fr e b g f d l q z7 z8 z9 a c i p o u y z w A zA v1 zC zE zF zI F M P V Q U W Z) h nx)) = .ok True) :
  IR.run F89.b1 C N (fnO F89.res K0) K (F89.fr e b g f d l q r s v a c i p o u y z w A B E D G L H F M P V Q U W Z) h nx = .ok True := by
 rw [F89.b1, F89.g1_eq, F89.b2]
 refine zX (fun m tm h nx => ∃ z7 z8 z9 zA zB zC zE zF zI, tm = (F89.fr e b g f d l q z7 z8 z9 a c i p o u y z w A zA zB zC zE zF zI F M P V Q U W Z) ∧ Inv m zA h nx) ?_ hm ⟨_, _, _, _, _, _, _, _, _, rfl, hi⟩
 rintro m tm h nx R ⟨z7, z8, z9, zA, zB, zC, zE, zF, zI, rfl, hi⟩ hR
 refine Eq.trans ?_ (step m z7 z8 z9 zA zB zC zE zF zI h nx R hi fun m' w7 w8 w9 wA wB wC wD wE wF h' nx' hlt hi' => hR m' _ h' nx' hlt ⟨_, _, _, _, _, _, _, _, _, rfl, hi'⟩)
 kernel_rfl
theorem F89.k15 : IR.run F89.b15 C N (fnO F89.res K0) K (F89.fr e b g f d l q r s v a c i p o u y z w A B E D G L H F M P V Q U W Z) h nx =
 sMkmap h nx fun v1 h2 n3 => gB zU [] fun v4 => p8 (.agg 128) v1 v4 (I 1) h2 n3 fun v5 h6 n7 => IR.run F89.b16 C N (fnO F89.res K0) (IR.run F89.b44 C N (fnO F89.res K0) K) (F89.fr e b g f d l q r s v v1 b i p o u y z w A B E D G L H F M P V Q U W Z) h6 n7 := by kernel_rfl
theorem F89.k14 {E0 : Ks Prop} : IR.run F89.b14 C N ((fnO F89.res K0).blk 0 E0) K (F89.fr e b g f d l q r s v a c i p o u y z w A B E D G L H F M P V Q U W Z) h nx =
 sBin .add .int B (I 1) fun v1 => K (F89.fr e b g f d l q r s v a c i p o u y z w A v1 E D G L H F M P V Q U W Z) h nx := by kernel_rfl
theorem F89.L7 {E0 E1 : Ks Prop} (Inv : Nat → AV → T Blk → Pa → Prop) {m : Nat} (hm : m < N) (hi : Inv m L h nx)
  (step : ∀ (m : Nat) (z9 zF zI : AV) (h : T Blk) (nx : Pa) (R : Ks Prop), Inv m zF h nx → (∀ (m' : Nat) (w9 wE wF : AV) (h' : T Blk) (nx' : Pa), m' < m → Inv m' wE h' nx' → R (F89.fr e b g f d l q r s w9 a c i p o u y z w A B E D G wE wF F M P V Q U W Z) h' nx' = .ok True) →
   (sBin .lss .int zF G fun v1 => zM v1 (zQ 1 D zF fun v2 => zD v2 h fun v3 => zQ 1 q v3 fun v4 => zD v4 h fun v5 => yF 1 1 [(I 0)] [(0, 1, r)] h nx fun v6 h7 n8 => sApp 1 8 v5 v6 h7 n8 fun v9 hA nA => zQ 1 q v3 fun vC => zZ 1 vC v9 hA nA fun vD hB nB => sBin .add .int zF (I 1) fun vE => R (F89.fr e b g f d l q r s v3 a c i p o u y z w A B E D G vE v1 F M P V Q U W Z) hB nB) (K (F89.fr e b g f d l q r s z9 a c i p o u y z w A B E D G zF v1 F M P V Q U W Z) h nx)) = .ok True) :
  IR.run F89.b7 C N (((fnO F89.res K0).blk 0 E0).blk 1 E1) K (F89.fr e b g f d l q r s v a c i p o u y z w A B E D G L H F M P V Q U W Z) h nx = .ok True := by
 rw [F89.b7, F89.g7_eq, F89.b8]
 refine zX (fun m tm h nx => ∃ z9 zF zI, tm = (F89.fr e b g f d l q r s z9 a c i p o u y z w A B E D G zF zI F M P V Q U W Z) ∧ Inv m zF h nx) ?_ hm ⟨_, _, _, rfl, hi⟩
 rintro m tm h nx R ⟨z9, zF, zI, rfl, hi⟩ hR
 refine Eq.trans ?_ (step m z9 zF zI h nx R hi fun m' w9 wE wF h' nx' hlt hi' => hR m' _ h' nx' hlt ⟨_, _, _, rfl, hi'⟩)
 kernel_rfl
theorem F89.L16 (Inv : Nat → AV → AV → T Blk → Pa → Prop) {m : Nat} (hm : m < N) (hi : Inv m a c h nx)
  (step : ∀ (m : Nat) (zJ zK zO zP zS zT zV zW zY z27 z28 z29 z30 z31 z32 z33 : AV) (h : T Blk) (nx : Pa) (R : Ks Prop), Inv m zJ zK h nx → (∀ (m' : Nat) (wG wH wI wJ wK wL wM wN wO wP wQ wR wS wT wU wV : AV) (h' : T Blk) (nx' : Pa), m' < m → Inv m' wG wH h' nx' → R (F89.fr e b g f d l q r s v wG wH wI wJ wK wL wM wN w A B E D G L H wO wP wQ wR wS wT wU wV) h' nx' = .ok True) →
   (sBin .lss .int zK g fun v1 => zM v1 (sMkmap h nx fun v2 h3 n4 => sRange zJ h3 n4 fun v5 h6 n7 => IR.run F89.b22 C N (((fnO F89.res K0).blk 4 K).blk 5 (IR.run F89.b43 C N ((fnO F89.res K0).blk 4 K) R)) (IR.run F89.b42 C N (((fnO F89.res K0).blk 4 K).blk 5 (IR.run F89.b43 C N ((fnO F89.res K0).blk 4 K) R)) (IR.run F89.b43 C N ((fnO F89.res K0).blk 4 K) R)) (F89.fr e b g f d l q r s v zJ zK v2 zP zS zT zV zW w A B E D G L H v1 v5 z28 z29 z30 z31 z32 z33) h6 n7) (K (F89.fr e b g f d l q r s v zJ zK zO zP zS zT zV zW w A B E D G L H v1 z27 z28 z29 z30 z31 z32 z33) h nx)) = .ok True) :
  IR.run F89.b16 C N (fnO F89.res K0) K (F89.fr e b g f d l q r s v a c i p o u y z w A B E D G L H F M P V Q U W Z) h nx = .ok True := by
 rw [F89.b16, F89.g16_eq, F89.b17]
 refine zX (fun m tm h nx => ∃ zJ zK zO zP zS zT zV zW zY z27 z28 z29 z30 z31 z32 z33, tm = (F89.fr e b g f d l q r s v zJ zK zO zP zS zT zV zW w A B E D G L H zY z27 z28 z29 z30 z31 z32 z33) ∧ Inv m zJ zK h nx) ?_ hm ⟨_, _, _, _, _, _, _, _, _, _, _, _, _, _, _, _, rfl, hi⟩
 rintro m tm h nx R ⟨zJ, zK, zO, zP, zS, zT, zV, zW, zY, z27, z28, z29, z30, z31, z32, z33, rfl, hi⟩ hR
 refine Eq.trans ?_ (step m zJ zK zO zP zS zT zV zW zY z27 z28 z29 z30 z31 z32 z33 h nx R hi fun m' wG wH wI wJ wK wL wM wN wO wP wQ wR wS wT wU wV h' nx' hlt hi' => hR m' _ h' nx' hlt ⟨_, _, _, _, _, _, _, _, _, _, _, _, _, _, _, _, rfl, hi'⟩)
 kernel_rfl
theorem F89.k44 : IR.run F89.b44 C N (fnO F89.res K0) K (F89.fr e b g f d l q r s v a c i p o u y z w A B E D G L H F M P V Q U W Z) h nx =
 K0 a h nx := by kernel_rfl
theorem F89.k43 {E4 : Ks Prop} : IR.run F89.b43 C N ((fnO F89.res K0).blk 4 E4) K (F89.fr e b g f d l q r s v a c i p o u y z w A B E D G L H F M P V Q U W Z) h nx =
 sBin .add .int c (I 1) fun v1 => K (F89.fr e b g f d l q r s v a v1 i p o u y z w A B E D G L H F M P V Q U W Z) h nx := by kernel_rfl
theorem F89.L22 {E4 E5 : Ks Prop} (Inv : Nat → T Blk → Pa → Prop) {m : Nat} (hm : m < N) (hi : Inv m  h nx)
  (step : ∀ (m : Nat) (zP zS zT zV zW z28 z29 z30 z31 z32 z33 : AV) (h : T Blk) (nx : Pa) (R : Ks Prop), Inv m  h nx → (∀ (m' : Nat) (wJ wK wL wM wN wQ wR wS wT wU wV : AV) (h' : T Blk) (nx' : Pa), m' < m → Inv m'  h' nx' → R (F89.fr e b g f d l q r s v a c i wJ wK wL wM wN w A B E D G L H F M wQ wR wS wT wU wV) h' nx' = .ok True) →
   (sNext C M h nx fun v1 h2 n3 => sExt 0 v1 fun v4 => zM v4 (sEntry M h2 fun v5 => sExt 0 v5 fun v6 => sExt 1 v5 fun v7 => jM zU h2 n3 fun v8 h9 nC => zZ 128 v8 v6 h9 nC fun vB hC nD => IR.run F89.b27 C N (((((fnO F89.res K0).blk 4 E4).blk 5 E5).blk 6 K).blk 7 R) R (F89.fr e b g f d l q r s v a c i v8 v7 (I 0) zV zW w A B E D G L H F M v4 z29 z30 z31 z32 z33) hC nD) (K (F89.fr e b g f d l q r s v a c i zP zS zT zV zW w A B E D G L H F M v4 z29 z30 z31 z32 z33) h2 n3)) = .ok True) :
  IR.run F89.b22 C N (((fnO F89.res K0).blk 4 E4).blk 5 E5) K (F89.fr e b g f d l q r s v a c i p o u y z w A B E D G L H F M P V Q U W Z) h nx = .ok True := by
 rw [F89.b22, F89.g22_eq, F89.b23]
 refine zX (fun m tm h nx => ∃ zP zS zT zV zW z28 z29 z30 z31 z32 z33, tm = (F89.fr e b g f d l q r s v a c i zP zS zT zV zW w A B E D G L H F M z28 z29 z30 z31 z32 z33) ∧ Inv m  h nx) ?_ hm ⟨_, _, _, _, _, _, _, _, _, _, _, rfl, hi⟩
 rintro m tm h nx R ⟨zP, zS, zT, zV, zW, z28, z29, z30, z31, z32, z33, rfl, hi⟩ hR
 refine Eq.trans ?_ (step m zP zS zT zV zW z28 z29 z30 z31 z32 z33 h nx R hi fun m' wJ wK wL wM wN wQ wR wS wT wU wV h' nx' hlt hi' => hR m' _ h' nx' hlt ⟨_, _, _, _, _, _, _, _, _, _, _, rfl, hi'⟩)
 kernel_rfl
theorem F89.k42 {E4 E5 : Ks Prop} : IR.run F89.b42 C N (((fnO F89.res K0).blk 4 E4).blk 5 E5) K (F89.fr e b g f d l q r s v a c i p o u y z w A B E D G L H F M P V Q U W Z) h nx =
 K (F89.fr e b g f d l q r s v i c i p o u y z w A B E D G L H F M P V Q U W Z) h nx := by kernel_rfl
theorem F89.L27 {E4 E5 E6 E7 : Ks Prop} (Inv : Nat → AV → T Blk → Pa → Prop) {m : Nat} (hm : m < N) (hi : Inv m u h nx)
  (step : ∀ (m : Nat) (zT zV zW z29 z30 z31 z32 z33 : AV) (h : T Blk) (nx : Pa) (R : Ks Prop), Inv m zT h nx → (∀ (m' : Nat) (wL wM wN wR wS wT wU wV : AV) (h' : T Blk) (nx' : Pa), m' < m → Inv m' wL h' nx' → R (F89.fr e b g f d l q r s v a c i p o wL wM wN w A B E D G L H F M P wR wS wT wU wV) h' nx' = .ok True) →
   (sBin .leq .int zT f fun v1 => zM v1 (zL 128 p h fun v2 => jM zU h nx fun v3 h4 n5 => zZ 128 v3 v2 h4 n5 fun v6 h7 n8 => zQ 1 q c fun v9 => zD v9 h7 fun vA => sLen vA fun vB => IR.run F89.b33 C N (((((((fnO F89.res K0).blk 4 E4).blk 5 E5).blk 6 E6).blk 7 E7).blk 8 K).blk 9 (IR.run F89.b41 C N ((((((fnO F89.res K0).blk 4 E4).blk 5 E5).blk 6 E6).blk 7 E7).blk 8 K) R)) (IR.run F89.b40 C N (((((((fnO F89.res K0).blk 4 E4).blk 5 E5).blk 6 E6).blk 7 E7).blk 8 K).blk 9 (IR.run F89.b41 C N ((((((fnO F89.res K0).blk 4 E4).blk 5 E5).blk 6 E6).blk 7 E7).blk 8 K) R)) (IR.run F89.b41 C N ((((((fnO F89.res K0).blk 4 E4).blk 5 E5).blk 6 E6).blk 7 E7).blk 8 K) R)) (F89.fr e b g f d l q r s v a c i p o zT v3 zW w A B E D G L H F M P v1 vA vB (I 0) z33) h7 n8) (K (F89.fr e b g f d l q r s v a c i p o zT zV zW w A B E D G L H F M P v1 z30 z31 z32 z33) h nx)) = .ok True) :
  IR.run F89.b27 C N (((((fnO F89.res K0).blk 4 E4).blk 5 E5).blk 6 E6).blk 7 E7) K (F89.fr e b g f d l q r s v a c i p o u y z w A B E D G L H F M P V Q U W Z) h nx = .ok True := by
 rw [F89.b27, F89.g27_eq, F89.b28]
 refine zX (fun m tm h nx => ∃ zT zV zW z29 z30 z31 z32 z33, tm = (F89.fr e b g f d l q r s v a c i p o zT zV zW w A B E D G L H F M P z29 z30 z31 z32 z33) ∧ Inv m zT h nx) ?_ hm ⟨_, _, _, _, _, _, _, _, rfl, hi⟩
 rintro m tm h nx R ⟨zT, zV, zW, z29, z30, z31, z32, z33, rfl, hi⟩ hR
 refine Eq.trans ?_ (step m zT zV zW z29 z30 z31 z32 z33 h nx R hi fun m' wL wM wN wR wS wT wU wV h' nx' hlt hi' => hR m' _ h' nx' hlt ⟨_, _, _, _, _, _, _, _, rfl, hi'⟩)
 kernel_rfl
theorem F89.k41 {E4 E5 E6 E7 E8 : Ks Prop} : IR.run F89.b41 C N ((((((fnO F89.res K0).blk 4 E4).blk 5 E5).blk 6 E6).blk 7 E7).blk 8 E8) K (F89.fr e b g f d l q r s v a c i p o u y z w A B E D G L H F M P V Q U W Z) h nx =
 sBin .add .int u (I 1) fun v1 => K (F89.fr e b g f d l q r s v a c i p o v1 y z w A B E D G L H F M P V Q U W Z) h nx := by kernel_rfl
theorem F89.L33 {E4 E5 E6 E7 E8 E9 : Ks Prop} (Inv : Nat → AV → T Blk → Pa → Prop) {m : Nat} (hm : m < N) (hi : Inv m W h nx)
  (step : ∀ (m : Nat) (zW z32 z33 : AV) (h : T Blk) (nx : Pa) (R : Ks Prop), Inv m z32 h nx → (∀ (m' : Nat) (wN wU wV : AV) (h' : T Blk) (nx' : Pa), m' < m → Inv m' wU h' nx' → R (F89.fr e b g f d l q r s v a c i p o u y wN w A B E D G L H F M P V Q U wU wV) h' nx' = .ok True) →
   (sBin .lss .int z32 U fun v1 => zM v1 (zQ 1 Q z32 fun v2 => zD v2 h fun v3 => yW 1 128 y v3 fun v4 => zD v4 h fun v5 => mY .u8 u fun v6 => sBin .add .int v5 v6 fun v7 => yW 1 128 y v3 fun v8 => zZ 1 v8 v7 h nx fun v9 hA nA => sBin .add .int z32 (I 1) fun vC => R (F89.fr e b g f d l q r s v a c i p o u y v3 w A B E D G L H F M P V Q U vC v1) hA nA) (K (F89.fr e b g f d l q r s v a c i p o u y zW w A B E D G L H F M P V Q U z32 v1) h nx)) = .ok True) :
  IR.run F89.b33 C N (((((((fnO F89.res K0).blk 4 E4).blk 5 E5).blk 6 E6).blk 7 E7).blk 8 E8).blk 9 E9) K (F89.fr e b g f d l q r s v a c i p o u y z w A B E D G L H F M P V Q U W Z) h nx = .ok True := by
 rw [F89.b33, F89.g33_eq, F89.b34]
 refine zX (fun m tm h nx => ∃ zW z32 z33, tm = (F89.fr e b g f d l q r s v a c i p o u y zW w A B E D G L H F M P V Q U z32 z33) ∧ Inv m z32 h nx) ?_ hm ⟨_, _, _, rfl, hi⟩
 rintro m tm h nx R ⟨zW, z32, z33, rfl, hi⟩ hR
 refine Eq.trans ?_ (step m zW z32 z33 h nx R hi fun m' wN wU wV h' nx' hlt hi' => hR m' _ h' nx' hlt ⟨_, _, _, rfl, hi'⟩)
 kernel_rfl
theorem F89.k40 {E4 E5 E6 E7 E8 E9 : Ks Prop} : IR.run F89.b40 C N (((((((fnO F89.res K0).blk 4 E4).blk 5 E5).blk 6 E6).blk 7 E7).blk 8 E8).blk 9 E9) K (F89.fr e b g f d l q r s v a c i p o u y z w A B E D G L H F M P V Q U W Z) h nx =
 zL 128 y h fun v1 => xE (.agg 128) (I 0) false i v1 h fun v2 => sBin .add .int v2 o fun v3 => d8 (.agg 128) (I 0) i v1 h nx fun v4 h5 n6 => (sBin .add .int v2 o fun vC => zN vC v3 ((xE (.agg 128) (I 0) false i v1 h5 fun vB => zN vB v2 (sExt 1 v4 fun v7 => sEntst i v7 v3 h5 n6 fun v8 h9 nC => K (F89.fr e b g f d l q r s v a c i p o u y z w A B E D G L H F M P V Q U W Z) h9 nC)))) := by kernel_rfl
end Go.Ev
namespace Go.Ev
open Go Go.Proofs
set_option maxRecDepth 100000
variable {N : Nat} {C : Calls Prop} {K0 : Kw Prop} {K R : Ks Prop} {h : T Blk} {nx : Pa} {e b g f d l q r s v a c i p o u y z w A B E D a0 a1 a2 : AV}
theorem F31.g9_eq (X10 : IR) (O : Outs Prop) (t : T AV) : IR.run (F31.g9 X10) C N O K t h nx = IR.run X10 C N (O.blk 2 K) K t h nx := by kernel_rfl
theorem F31.g4_eq (X5 : IR) (O : Outs Prop) (t : T AV) : IR.run (F31.g4 X5) C N O K t h nx = IR.run X5 C N (O.blk 0 K) K t h nx := by kernel_rfl
theorem F31.tab : T.get none (.of 31) tbl = some F31 := by kernel_rfl
theorem F31.go : zR tbl N C (.of 31) [a0, a1, a2] h nx K0 =
 sBox a0 h nx fun v1 h2 n3 => zL 2 v1 h2 fun v4 => C.fn 87 (.of 87) [v4, a1] h2 n3 fun v5 h6 n7 => sBin .neq .int v5 (I 0) fun v8 => zM v8 (K0 (.tup [(I 0), v5]) h6 n7) (zG 0 v1 fun v9 => zD v9 h6 fun vA => sBin .quo .int vA (I 2) fun vB => zG 0 v1 fun vC => zD vC h6 fun vD => sBin .sub .int vD vB fun vF => C.fn 88 (.of 88) [vF, a1] h6 n7 fun vG hD nE => zM vG (K0 (.tup [(I 0), (I 20)]) hD nE) (zG 1 v1 fun vH => zD vH hD fun vI => sLen vI fun vJ => sBin .gtr .int vJ (I 0) fun vK => sG vK true (fun k => k a2) fun vL => sG vK true (fun k => sBin .lss .int vL (I 0) k) fun vM => sG vK true (fun k => k vM) fun vN => sG vN false (fun k => k a2) fun vO => sG vN false (fun k => sBin .gtr .int vO (I 255) k) fun vP => sG vK true (fun k => jO vN (.bool true) vP k) fun vQ => jO vK vQ (.bool false) fun vR => zM vR (K0 (.tup [(I 0), (I 0)]) hD nE) ((IR.run F31.b3 C N (fnO F31.res K0) (retK F31.res K0)) (F31.fr a0 a1 a2 v1 (I 0) (I 0) v5 vB .undef .undef .undef .undef .undef .undef v8 vG vR .undef .undef .undef .undef .undef .undef) hD nE))) := by
 rw [zH F31.tab]; kernel_rfl
theorem F31.k3 : IR.run F31.b3 C N (fnO F31.res K0) K (F31.fr e b g f d l q r s v a c i p o u y z w A B E D) h nx =
 zL 2 f h fun v1 => zG 0 f fun v2 => zD v2 h fun v3 => C.fn 89 (.of 89) [v1, r, v3, b] h nx fun v4 h5 n6 => zL 2 f h5 fun v7 => C.fn 89 (.of 89) [v7, (I 0), r, b] h5 n6 fun v8 h9 nC => sRange v8 h9 nC fun vB hC nD => IR.run F31.b4 C N (fnO F31.res K0) (IR.run F31.b18 C N (fnO F31.res K0) K) (F31.fr e b g f d l q r v4 (I 0) a c i p o u y vB w A B E D) hC nD := by kernel_rfl
theorem F31.L4 (Inv : Nat → AV → T Blk → Pa → Prop) {m : Nat} (hm : m < N) (hi : Inv m v h nx)
  (step : ∀ (m : Nat) (z9 zJ zK zO zP z18 z19 zA zB zC : AV) (h : T Blk) (nx : Pa) (R : Ks Prop), Inv m z9 h nx → (∀ (m' : Nat) (w9 wG wH wI wJ wW wX wA wB wC : AV) (h' : T Blk) (nx' : Pa), m' < m → Inv m' w9 h' nx' → R (F31.fr e b g f d l q r s w9 wG wH wI wJ o u y z wW wX wA wB wC) h' nx' = .ok True) →
   (sNext C z h nx fun v1 h2 n3 => sExt 0 v1 fun v4 => zM v4 (sEntry z h2 fun v5 => sExt 0 v5 fun v6 => sExt 1 v5 fun v7 => jM zU h2 n3 fun v8 h9 nC => zZ 128 v8 v6 h9 nC fun vB hC nD => jM zU hC nD fun vF hE nF => zG 1 f fun vS => zD vS hE fun vH => sLen vH fun vI => IR.run F31.b9 C N (((fnO F31.res K0).blk 0 K).blk 1 R) (IR.run F31.b17 C N (((fnO F31.res K0).blk 0 K).blk 1 R) R) (F31.fr e b g f d l q r s z9 v8 v7 vF zP o u y z v4 vI (I 0) zB zC) hE nF) (K (F31.fr e b g f d l q r s z9 zJ zK zO zP o u y z v4 z19 zA zB zC) h2 n3)) = .ok True) :
  IR.run F31.b4 C N (fnO F31.res K0) K (F31.fr e b g f d l q r s v a c i p o u y z w A B E D) h nx = .ok True := by
 rw [F31.b4, F31.g4_eq, F31.b5]
 refine zX (fun m tm h nx => ∃ z9 zJ zK zO zP z18 z19 zA zB zC, tm = (F31.fr e b g f d l q r s z9 zJ zK zO zP o u y z z18 z19 zA zB zC) ∧ Inv m z9 h nx) ?_ hm ⟨_, _, _, _, _, _, _, _, _, _, rfl, hi⟩
 rintro m tm h nx R ⟨z9, zJ, zK, zO, zP, z18, z19, zA, zB, zC, rfl, hi⟩ hR
 refine Eq.trans ?_ (step m z9 zJ zK zO zP z18 z19 zA zB zC h nx R hi fun m' w9 wG wH wI wJ wW wX wA wB wC h' nx' hlt hi' => hR m' _ h' nx' hlt ⟨_, _, _, _, _, _, _, _, _, _, rfl, hi'⟩)
 kernel_rfl
theorem F31.k18 : IR.run F31.b18 C N (fnO F31.res K0) K (F31.fr e b g f d l q r s v a c i p o u y z w A B E D) h nx =
 K0 (.tup [v, (I 0)]) h nx := by kernel_rfl
theorem F31.L9 {E0 E1 : Ks Prop} (Inv : Nat → AV → T Blk → Pa → Prop) {m : Nat} (hm : m < N) (hi : Inv m B h nx)
  (step : ∀ (m : Nat) (zP zA zB zC : AV) (h : T Blk) (nx : Pa) (R : Ks Prop), Inv m zA h nx → (∀ (m' : Nat) (wJ wA wB wC : AV) (h' : T Blk) (nx' : Pa), m' < m → Inv m' wA h' nx' → R (F31.fr e b g f d l q r s v a c i wJ o u y z w A wA wB wC) h' nx' = .ok True) →
   (sBin .lss .int zA A fun v1 => zM v1 (yW 1 128 a zA fun v2 => zD v2 h fun v3 => mY .i64 v3 fun v4 => sBin .gtr .int v4 g fun v5 => zM v5 (E1 (F31.fr e b g f d l q r s v a c i zA o u y z w A zA v1 v5) h nx) (mY .u8 g fun v6 => yW 1 128 a zA fun v7 => zD v7 h fun v8 => sBin .sub .int v6 v8 fun v9 => yW 1 128 i zA fun vA => zZ 1 vA v9 h nx fun vB hC nD => sBin .add .int zA (I 1) fun vF => R (F31.fr e b g f d l q r s v a c i zA o u y z w A vF v1 v5) hC nD)) (K (F31.fr e b g f d l q r s v a c i zP o u y z w A zA v1 zC) h nx)) = .ok True) :
  IR.run F31.b9 C N (((fnO F31.res K0).blk 0 E0).blk 1 E1) K (F31.fr e b g f d l q r s v a c i p o u y z w A B E D) h nx = .ok True := by
 rw [F31.b9, F31.g9_eq, F31.b10]
 refine zX (fun m tm h nx => ∃ zP zA zB zC, tm = (F31.fr e b g f d l q r s v a c i zP o u y z w A zA zB zC) ∧ Inv m zA h nx) ?_ hm ⟨_, _, _, _, rfl, hi⟩
 rintro m tm h nx R ⟨zP, zA, zB, zC, rfl, hi⟩ hR
 refine Eq.trans ?_ (step m zP zA zB zC h nx R hi fun m' wJ wA wB wC h' nx' hlt hi' => hR m' _ h' nx' hlt ⟨_, _, _, _, rfl, hi'⟩)
 kernel_rfl
theorem F31.k17 {E0 E1 : Ks Prop} : IR.run F31.b17 C N (((fnO F31.res K0).blk 0 E0).blk 1 E1) K (F31.fr e b g f d l q r s v a c i p o u y z w A B E D) h nx =
 zL 128 i h fun v1 => xE (.agg 128) (I 0) false s v1 h fun v2 => sBin .mul .int c v2 fun v3 => sBin .add .int v v3 fun v4 => K (F31.fr e b g f d l q r s v4 a c i p o u y z w A B E D) h nx := by kernel_rfl
end Go.Ev
namespace Go.Ev
open Go Go.Proofs
set_option maxRecDepth 100000
variable {N : Nat} {C : Calls Prop} {K0 : Kw Prop} {K R : Ks Prop} {h : T Blk} {nx : Pa} {e b g f d l q r s v a c i p o u y z w a0 a1 : AV}
theorem F115.g2_eq (X3 : IR) (O : Outs Prop) (t : T AV) : IR.run (F115.g2 X3) C N O K t h nx = IR.run X3 C N (O.blk 0 K) K t h nx := by kernel_rfl
theorem F115.tab : T.get none (.of 115) tbl = some F115 := by kernel_rfl
theorem F115.go : zR tbl N C (.of 115) [a0] h nx K0 =
 sBox a0 h nx fun v1 h2 n3 => jM [(I 0), .nils] h2 n3 fun v4 h5 n6 => zL 2 v1 h5 fun v7 => zG 1 v1 fun v8 => zD v8 h5 fun v9 => sLen v9 fun vA => sBin .eql .int vA (I 0) fun vB => C.fn 133 (.of 133) [v7] h5 n6 fun vC hF nG => (sBin .eql .int vA (I 0) fun vT => zN vT vB ((sLen v9 fun vU => zN vU vA ((zD v8 hF fun vV => zN vV v9 ((zG 1 v1 fun vW => zN vW v8 (C.fn 123 (.of 123) [vB, (I 12)] hF nG fun vG hD nE => yF 1 2 [(I 0)] [(0, 1, vC), (1, 1, vG)] hD nE fun vH hG nH => C.fn 121 (.of 121) [vH] hG nH fun vK hH nI => sBin .neq .int vK (I 0) fun vN => zM vN (gB [(I 0), .nils] [] fun vO => zZ 2 v4 vO hH nI fun vP hI nJ => zL 2 v4 hI fun vX => K0 (.tup [vX, vK]) hI nJ) (zG 1 v1 fun vY => zD vY hH fun v31 => sLen v31 fun v32 => IR.run F115.b2 C N (fnO F115.res K0) (IR.run F115.b9 C N (fnO F115.res K0) (retK F115.res K0)) (F115.fr a0 v1 v4 (I 0) vK .nils .undef .undef vN v31 v32 (I 0) .undef) hH nI))))))))) := by
 rw [zH F115.tab]; kernel_rfl
theorem F115.L2 (Inv : Nat → AV → AV → T Blk → Pa → Prop) {m : Nat} (hm : m < N) (hi : Inv m l c h nx)
  (step : ∀ (m : Nat) (z5 z6 z7 zK zO : AV) (h : T Blk) (nx : Pa) (R : Ks Prop), Inv m z5 zK h nx → (∀ (m' : Nat) (w5 w6 w7 wH wI : AV) (h' : T Blk) (nx' : Pa), m' < m → Inv m' w5 wH h' nx' → R (F115.fr e b g f d w5 w6 w7 s v a wH wI) h' nx' = .ok True) →
   (sBin .lss .int zK a fun v1 => zM v1 (zQ 2 v zK fun v2 => zL 2 v2 h fun v3 => jM [(I 0), (I 0)] h nx fun v4 h5 n6 => zZ 2 v4 v3 h5 n6 fun v7 h8 n9 => yW 1 2 v4 (I 0) fun vA => zD vA h8 fun vB => yW 1 2 v4 (I 1) fun vC => zD vC h8 fun vD => zG 0 b fun vF => zD vF h8 fun vG => sBin .add .int vG zK fun vE => yF 1 3 [(I 0)] [(0, 1, vB), (1, 1, vD), (2, 1, vE)] h8 n9 fun vS hJ nK => yF 1 1 [.nils] [(0, 1, vS)] hJ nK fun vJ hK nL => sApp 1 24 z5 vJ hK nL fun vM hL nM => sBin .add .int zK (I 1) fun vP => R (F115.fr e b g f d vM zK v4 s v a vP v1) hL nM) (K (F115.fr e b g f d z5 z6 z7 s v a zK v1) h nx)) = .ok True) :
  IR.run F115.b2 C N (fnO F115.res K0) K (F115.fr e b g f d l q r s v a c i) h nx = .ok True := by
 rw [F115.b2, F115.g2_eq, F115.b3]
 refine zX (fun m tm h nx => ∃ z5 z6 z7 zK zO, tm = (F115.fr e b g f d z5 z6 z7 s v a zK zO) ∧ Inv m z5 zK h nx) ?_ hm ⟨_, _, _, _, _, rfl, hi⟩
 rintro m tm h nx R ⟨z5, z6, z7, zK, zO, rfl, hi⟩ hR
 refine Eq.trans ?_ (step m z5 z6 z7 zK zO h nx R hi fun m' w5 w6 w7 wH wI h' nx' hlt hi' => hR m' _ h' nx' hlt ⟨_, _, _, _, _, rfl, hi'⟩)
 kernel_rfl
theorem F115.k9 : IR.run F115.b9 C N (fnO F115.res K0) K (F115.fr e b g f d l q r s v a c i) h nx =
 zG 0 b fun v1 => zD v1 h fun v2 => zG 1 b fun v3 => zD v3 h fun v4 => sLen v4 fun v5 => sBin .add .int v2 v5 fun v6 => C.fn 146 (.of 146) [v6, l] h nx fun v7 h8 n9 => zZ 2 g v7 h8 n9 fun vA hM nN => zL 2 g hM fun vD => K0 (.tup [vD, (I 0)]) hM nN := by kernel_rfl
theorem F116.g8_eq (X9 : IR) (O : Outs Prop) (t : T AV) : IR.run (F116.g8 X9) C N O K t h nx = IR.run X9 C N (O.blk 2 K) K t h nx := by kernel_rfl
theorem F116.g2_eq (X3 : IR) (O : Outs Prop) (t : T AV) : IR.run (F116.g2 X3) C N O K t h nx = IR.run X3 C N (O.blk 0 K) K t h nx := by kernel_rfl
theorem F116.tab : T.get none (.of 116) tbl = some F116 := by kernel_rfl
theorem F116.go : zR tbl N C (.of 116) [a0] h nx K0 =
 sBox a0 h nx fun v1 h2 n3 => jM [(I 0), .nils] h2 n3 fun v4 h5 n6 => zL 2 v1 h5 fun v7 => C.fn 133 (.of 133) [v7] h5 n6 fun v8 h9 nC => sBin .neq .int v8 (I 0) fun vB => zM vB (gB [(I 0), .nils] [] fun vC => zZ 2 v4 vC h9 nC fun vD hB nB => zL 2 v4 hB fun vE => K0 (.tup [vE, v8]) hB nB) (zG 0 v1 fun vS => zD vS h9 fun vH => IR.run F116.b2 C N (fnO F116.res K0) (IR.run F116.b17 C N (fnO F116.res K0) (retK F116.res K0)) (F116.fr a0 v1 v4 (I 0) v8 .nils .undef .undef .undef .undef vB vH (I 0) .undef .undef .undef .undef .undef .undef) h9 nC) := by
 rw [zH F116.tab]; kernel_rfl
theorem F116.L2 (Inv : Nat → AV → AV → T Blk → Pa → Prop) {m : Nat} (hm : m < N) (hi : Inv m l i h nx)
  (step : ∀ (m : Nat) (z5 z6 z7 z8 z9 zO zP zS zT zV zW z18 : AV) (h : T Blk) (nx : Pa) (R : Ks Prop), Inv m z5 zO h nx → (∀ (m' : Nat) (w5 w6 w7 w8 w9 wI wJ wK wL wM wN wW : AV) (h' : T Blk) (nx' : Pa), m' < m → Inv m' w5 wI h' nx' → R (F116.fr e b g f d w5 w6 w7 w8 w9 a c wI wJ wK wL wM wN wW) h' nx' = .ok True) →
   (sBin .lss .int zO c fun v1 => zM v1 (yF 1 1 [(I 0)] [(0, 1, zO)] h nx fun v2 h3 n4 => zG 1 b fun v5 => zD v5 h3 fun v6 => sLen v6 fun v7 => IR.run F116.b8 C N (((fnO F116.res K0).blk 0 K).blk 1 (IR.run F116.b16 C N ((fnO F116.res K0).blk 0 K) R)) (IR.run F116.b15 C N (((fnO F116.res K0).blk 0 K).blk 1 (IR.run F116.b16 C N ((fnO F116.res K0).blk 0 K) R)) (IR.run F116.b16 C N ((fnO F116.res K0).blk 0 K) R)) (F116.fr e b g f d z5 zO v2 z8 z9 a c zO v1 v6 v7 (I 0) zW z18) h3 n4) (K (F116.fr e b g f d z5 z6 z7 z8 z9 a c zO v1 zS zT zV zW z18) h nx)) = .ok True) :
  IR.run F116.b2 C N (fnO F116.res K0) K (F116.fr e b g f d l q r s v a c i p o u y z w) h nx = .ok True := by
 rw [F116.b2, F116.g2_eq, F116.b3]
 refine zX (fun m tm h nx => ∃ z5 z6 z7 z8 z9 zO zP zS zT zV zW z18, tm = (F116.fr e b g f d z5 z6 z7 z8 z9 a c zO zP zS zT zV zW z18) ∧ Inv m z5 zO h nx) ?_ hm ⟨_, _, _, _, _, _, _, _, _, _, _, _, rfl, hi⟩
 rintro m tm h nx R ⟨z5, z6, z7, z8, z9, zO, zP, zS, zT, zV, zW, z18, rfl, hi⟩ hR
 refine Eq.trans ?_ (step m z5 z6 z7 z8 z9 zO zP zS zT zV zW z18 h nx R hi fun m' w5 w6 w7 w8 w9 wI wJ wK wL wM wN wW h' nx' hlt hi' => hR m' _ h' nx' hlt ⟨_, _, _, _, _, _, _, _, _, _, _, _, rfl, hi'⟩)
 kernel_rfl
theorem F116.k17 : IR.run F116.b17 C N (fnO F116.res K0) K (F116.fr e b g f d l q r s v a c i p o u y z w) h nx =
 zG 0 b fun v1 => zD v1 h fun v2 => zG 1 b fun v3 => zD v3 h fun v4 => sLen v4 fun v5 => sBin .add .int v2 v5 fun v6 => C.fn 146 (.of 146) [v6, l] h nx fun v7 h8 n9 => zZ 2 g v7 h8 n9 fun vA hM nN => zL 2 g hM fun vD => K0 (.tup [vD, (I 0)]) hM nN := by kernel_rfl
theorem F116.k16 {E0 : Ks Prop} : IR.run F116.b16 C N ((fnO F116.res K0).blk 0 E0) K (F116.fr e b g f d l q r s v a c i p o u y z w) h nx =
 sBin .add .int i (I 1) fun v1 => K (F116.fr e b g f d l q r s v a c v1 p o u y z w) h nx := by kernel_rfl
theorem F116.L8 {E0 E1 : Ks Prop} (Inv : Nat → AV → AV → T Blk → Pa → Prop) {m : Nat} (hm : m < N) (hi : Inv m r y h nx)
  (step : ∀ (m : Nat) (z7 z8 z9 zV zW z18 : AV) (h : T Blk) (nx : Pa) (R : Ks Prop), Inv m z7 zV h nx → (∀ (m' : Nat) (w7 w8 w9 wM wN wW : AV) (h' : T Blk) (nx' : Pa), m' < m → Inv m' w7 wM h' nx' → R (F116.fr e b g f d l q w7 w8 w9 a c i p o u wM wN wW) h' nx' = .ok True) →
   (sBin .lss .int zV u fun v1 => zM v1 (zQ 2 o zV fun v2 => zL 2 v2 h fun v3 => jM [(I 0), (I 0)] h nx fun v4 h5 n6 => zZ 2 v4 v3 h5 n6 fun v7 h8 n9 => yW 1 2 v4 (I 0) fun vA => zD vA h8 fun vB => sBin .eql .int vB q fun vC => sG vC false (fun k => yW 1 2 v4 (I 1) k) fun vD => sG vC false (fun k => zD vD h8 k) fun vF => sG vC false (fun k => k q) fun vG => sG vC false (fun k => sBin .eql .int vF vG k) fun vE => jO vC (.bool true) vE fun vS => zM vS (zG 0 b fun vH => zD vH h8 fun vI => sBin .add .int vI zV fun vJ => yF 1 1 [(I 0)] [(0, 1, vJ)] h8 n9 fun vK hH nI => sApp 1 8 z7 vK hH nI fun vN hN nO => sBin .add .int zV (I 1) fun vQ => R (F116.fr e b g f d l q vN zV v4 a c i p o u vQ v1 vS) hN nO) (sBin .add .int zV (I 1) fun vR => R (F116.fr e b g f d l q z7 zV v4 a c i p o u vR v1 vS) h8 n9)) (K (F116.fr e b g f d l q z7 z8 z9 a c i p o u zV v1 z18) h nx)) = .ok True) :
  IR.run F116.b8 C N (((fnO F116.res K0).blk 0 E0).blk 1 E1) K (F116.fr e b g f d l q r s v a c i p o u y z w) h nx = .ok True := by
 rw [F116.b8, F116.g8_eq, F116.b9]
 refine zX (fun m tm h nx => ∃ z7 z8 z9 zV zW z18, tm = (F116.fr e b g f d l q z7 z8 z9 a c i p o u zV zW z18) ∧ Inv m z7 zV h nx) ?_ hm ⟨_, _, _, _, _, _, rfl, hi⟩
 rintro m tm h nx R ⟨z7, z8, z9, zV, zW, z18, rfl, hi⟩ hR
 refine Eq.trans ?_ (step m z7 z8 z9 zV zW z18 h nx R hi fun m' w7 w8 w9 wM wN wW h' nx' hlt hi' => hR m' _ h' nx' hlt ⟨_, _, _, _, _, _, rfl, hi'⟩)
 kernel_rfl
theorem F116.k15 {E0 E1 : Ks Prop} : IR.run F116.b15 C N (((fnO F116.res K0).blk 0 E0).blk 1 E1) K (F116.fr e b g f d l q r s v a c i p o u y z w) h nx =
 yF 1 1 [.nils] [(0, 1, r)] h nx fun v1 h2 n3 => sApp 1 24 l v1 h2 n3 fun v4 h5 n6 => K (F116.fr e b g f d v4 q r s v a c i p o u y z w) h5 n6 := by kernel_rfl
theorem F117.g7_eq (X8 : IR) (O : Outs Prop) (t : T AV) : IR.run (F117.g7 X8) C N O K t h nx = IR.run X8 C N (O.blk 2 K) K t h nx := by kernel_rfl
theorem F117.g1_eq (X2 : IR) (O : Outs Prop) (t : T AV) : IR.run (F117.g1 X2) C N O K t h nx = IR.run X2 C N (O.blk 0 K) K t h nx := by kernel_rfl
theorem F117.tab : T.get none (.of 117) tbl = some F117 := by kernel_rfl
theorem F117.go : zR tbl N C (.of 117) [a0, a1] h nx K0 =
 yF 1 0 [(I 0)] [] h nx fun v1 h2 n3 => sApp 1 8 v1 a1 h2 n3 fun v4 h5 n6 => IR.run F117.b1 C N (fnO F117.res K0) (IR.run F117.b15 C N (fnO F117.res K0) (retK F117.res K0)) (F117.fr a0 a1 .nils v4 (I 1) .undef .undef .undef .undef) h5 n6 := by
 rw [zH F117.tab]; kernel_rfl
theorem F117.L1 (Inv : Nat → AV → T Blk → Pa → Prop) {m : Nat} (hm : m < N) (hi : Inv m d h nx)
  (step : ∀ (m : Nat) (z4 z5 z6 z7 : AV) (h : T Blk) (nx : Pa) (R : Ks Prop), Inv m z4 h nx → (∀ (m' : Nat) (w4 w5 w6 w7 : AV) (h' : T Blk) (nx' : Pa), m' < m → Inv m' w4 h' nx' → R (F117.fr e b g f w4 w5 w6 w7 s) h' nx' = .ok True) →
   (sLen f fun v1 => sBin .lss .int z4 v1 fun v2 => zM v2 (IR.run F117.b7 C N (((fnO F117.res K0).blk 0 K).blk 1 (IR.run F117.b14 C N ((fnO F117.res K0).blk 0 K) R)) (IR.run F117.b14 C N ((fnO F117.res K0).blk 0 K) R) (F117.fr e b g f z4 z4 v2 z7 s) h nx) (K (F117.fr e b g f z4 z5 v2 z7 s) h nx)) = .ok True) :
  IR.run F117.b1 C N (fnO F117.res K0) K (F117.fr e b g f d l q r s) h nx = .ok True := by
 rw [F117.b1, F117.g1_eq, F117.b2]
 refine zX (fun m tm h nx => ∃ z4 z5 z6 z7, tm = (F117.fr e b g f z4 z5 z6 z7 s) ∧ Inv m z4 h nx) ?_ hm ⟨_, _, _, _, rfl, hi⟩
 rintro m tm h nx R ⟨z4, z5, z6, z7, rfl, hi⟩ hR
 refine Eq.trans ?_ (step m z4 z5 z6 z7 h nx R hi fun m' w4 w5 w6 w7 h' nx' hlt hi' => hR m' _ h' nx' hlt ⟨_, _, _, _, rfl, hi'⟩)
 kernel_rfl
theorem F117.k15 : IR.run F117.b15 C N (fnO F117.res K0) K (F117.fr e b g f d l q r s) h nx =
 C.fn 84 (.of 84) [e, f] h nx fun v1 h2 n3 => zM v1 (K0 e h2 n3) (yF 1 1 [.nils] [(0, 1, f)] h2 n3 fun v4 h5 n6 => sApp 1 24 e v4 h5 n6 fun v7 h8 n9 => K0 v7 h8 n9) := by kernel_rfl
theorem F117.k14 {E0 : Ks Prop} : IR.run F117.b14 C N ((fnO F117.res K0).blk 0 E0) K (F117.fr e b g f d l q r s) h nx =
 sBin .add .int d (I 1) fun v1 => K (F117.fr e b g f v1 l q r s) h nx := by kernel_rfl
theorem F117.L7 {E0 E1 : Ks Prop} (Inv : Nat → AV → T Blk → Pa → Prop) {m : Nat} (hm : m < N) (hi : Inv m l h nx)
  (step : ∀ (m : Nat) (z5 z7 : AV) (h : T Blk) (nx : Pa) (R : Ks Prop), Inv m z5 h nx → (∀ (m' : Nat) (w5 w7 : AV) (h' : T Blk) (nx' : Pa), m' < m → Inv m' w5 h' nx' → R (F117.fr e b g f d w5 q w7 s) h' nx' = .ok True) →
   (sBin .gtr .int z5 (I 0) fun v1 => sG v1 true (fun k => k f) fun v2 => sG v1 true (fun k => k z5) fun v3 => sG v1 true (fun k => zQ 1 v2 v3 k) fun v4 => sG v1 true (fun k => zD v4 h k) fun v5 => sG v1 true (fun k => k f) fun v6 => sG v1 true (fun k => k z5) fun v7 => sG v1 true (fun k => sBin .sub .int v7 (I 1) k) fun v8 => sG v1 true (fun k => zQ 1 v6 v8 k) fun v9 => sG v1 true (fun k => zD v9 h k) fun vA => sG v1 true (fun k => sBin .lss .int v5 vA k) fun vB => jO v1 vB (.bool false) fun vC => zM vC ((IR.run F117.b10 C N ((((fnO F117.res K0).blk 0 E0).blk 1 E1).blk 2 K) R) (F117.fr e b g f d z5 q vC s) h nx) (K (F117.fr e b g f d z5 q vC s) h nx)) = .ok True) :
  IR.run F117.b7 C N (((fnO F117.res K0).blk 0 E0).blk 1 E1) K (F117.fr e b g f d l q r s) h nx = .ok True := by
 rw [F117.b7, F117.g7_eq, F117.b8]
 refine zX (fun m tm h nx => ∃ z5 z7, tm = (F117.fr e b g f d z5 q z7 s) ∧ Inv m z5 h nx) ?_ hm ⟨_, _, rfl, hi⟩
 rintro m tm h nx R ⟨z5, z7, rfl, hi⟩ hR
 refine Eq.trans ?_ (step m z5 z7 h nx R hi fun m' w5 w7 h' nx' hlt hi' => hR m' _ h' nx' hlt ⟨_, _, rfl, hi'⟩)
 kernel_rfl
theorem F146.g1_eq (X2 : IR) (O : Outs Prop) (t : T AV) : IR.run (F146.g1 X2) C N O K t h nx = IR.run X2 C N (O.blk 0 K) K t h nx := by kernel_rfl
theorem F146.tab : T.get none (.of 146) tbl = some F146 := by kernel_rfl
theorem F146.go : zR tbl N C (.of 146) [a0, a1] h nx K0 =
 jM [(I 0), .nils] h nx fun v1 h2 n3 => sMkmap h2 n3 fun v4 h5 n6 => gB [(I 0), .nils] [(0, 1, a0)] fun v7 => jM [(I 0), .nils] h5 n6 fun v8 h9 nC => zZ 2 v8 v7 h9 nC fun vB hC nD => sLen a1 fun vF => IR.run F146.b1 C N (fnO F146.res K0) (IR.run F146.b8 C N (fnO F146.res K0) (retK F146.res K0)) (F146.fr a0 a1 v1 v4 v8 .undef .undef a1 vF (I 0) .undef .undef) hC nD := by
 rw [zH F146.tab]; kernel_rfl
theorem F146.L1 (Inv : Nat → AV → T Blk → Pa → Prop) {m : Nat} (hm : m < N) (hi : Inv m v h nx)
  (step : ∀ (m : Nat) (z5 z6 z9 zJ zK : AV) (h : T Blk) (nx : Pa) (R : Ks Prop), Inv m z9 h nx → (∀ (m' : Nat) (w5 w6 w9 wG wH : AV) (h' : T Blk) (nx' : Pa), m' < m → Inv m' w9 h' nx' → R (F146.fr e b g f d w5 w6 r s w9 wG wH) h' nx' = .ok True) →
   (sBin .lss .int z9 s fun v1 => zM v1 (zQ 1 r z9 fun v2 => zD v2 h fun v3 => C.fn 126 (.of 126) [v3] h nx fun v4 h5 n6 => C.fn 125 (.of 125) [v4] h5 n6 fun v7 h8 n9 => C.fn 171 (.of 171) [v7] h8 n9 fun vA hM nN => xE .str (.bool false) false f vA hM fun vD => sNot vD fun vF => zM vF (p8 .str f vA (.bool true) hM nN fun vG hD nE => zG 1 d fun vH => zD vH hD fun vI => yF 1 1 [.nils] [(0, 1, v7)] hD nE fun vJ hK nL => sApp 1 24 vI vJ hK nL fun vM hL nM => zG 1 d fun vP => zZ 1 vP vM hL nM fun vQ hO nP => sBin .add .int z9 (I 1) fun vY => R (F146.fr e b g f d v7 vA r s vY v1 vF) hO nP) (sBin .add .int z9 (I 1) fun v31 => R (F146.fr e b g f d v7 vA r s v31 v1 vF) hM nN)) (K (F146.fr e b g f d z5 z6 r s z9 v1 zK) h nx)) = .ok True) :
  IR.run F146.b1 C N (fnO F146.res K0) K (F146.fr e b g f d l q r s v a c) h nx = .ok True := by
 rw [F146.b1, F146.g1_eq, F146.b2]
 refine zX (fun m tm h nx => ∃ z5 z6 z9 zJ zK, tm = (F146.fr e b g f d z5 z6 r s z9 zJ zK) ∧ Inv m z9 h nx) ?_ hm ⟨_, _, _, _, _, rfl, hi⟩
 rintro m tm h nx R ⟨z5, z6, z9, zJ, zK, rfl, hi⟩ hR
 refine Eq.trans ?_ (step m z5 z6 z9 zJ zK h nx R hi fun m' w5 w6 w9 wG wH h' nx' hlt hi' => hR m' _ h' nx' hlt ⟨_, _, _, _, _, rfl, hi'⟩)
 kernel_rfl
theorem F146.k8 : IR.run F146.b8 C N (fnO F146.res K0) K (F146.fr e b g f d l q r s v a c) h nx =
 zL 2 d h fun v1 => zZ 2 g v1 h nx fun v2 h3 n4 => zL 2 g h3 fun v5 => K0 v5 h3 n4 := by kernel_rfl
theorem F171.g1_eq (X2 : IR) (O : Outs Prop) (t : T AV) : IR.run (F171.g1 X2) C N O K t h nx = IR.run X2 C N (O.blk 0 K) K t h nx := by kernel_rfl
theorem F171.tab : T.get none (.of 171) tbl = some F171 := by kernel_rfl
theorem F171.go : zR tbl N C (.of 171) [a0] h nx K0 =
 sLen a0 fun v1 => IR.run F171.b1 C N (fnO F171.res K0) (IR.run F171.b8 C N (fnO F171.res K0) (retK F171.res K0)) (F171.fr a0 (.str []) .nils .undef a0 v1 (I 0) .undef) h nx := by
 rw [zH F171.tab]; kernel_rfl
theorem F171.L1 (Inv : Nat → AV → AV → T Blk → Pa → Prop) {m : Nat} (hm : m < N) (hi : Inv m g q h nx)
  (step : ∀ (m : Nat) (z2 z3 z6 z7 : AV) (h : T Blk) (nx : Pa) (R : Ks Prop), Inv m z2 z6 h nx → (∀ (m' : Nat) (w2 w3 w6 w7 : AV) (h' : T Blk) (nx' : Pa), m' < m → Inv m' w2 w6 h' nx' → R (F171.fr e b w2 w3 d l w6 w7) h' nx' = .ok True) →
   (sBin .lss .int z6 l fun v1 => zM v1 (zQ 1 d z6 fun v2 => zD v2 h fun v3 => C.fn 188 (.of 188) [v3] h nx fun v4 h5 n6 => yF 1 1 [(.str [])] [(0, 1, v4)] h5 n6 fun v7 h8 n9 => sApp 1 16 z2 v7 h8 n9 fun vA hM nN => sBin .add .int z6 (I 1) fun vD => R (F171.fr e b vA v3 d l vD v1) hM nN) (K (F171.fr e b z2 z3 d l z6 v1) h nx)) = .ok True) :
  IR.run F171.b1 C N (fnO F171.res K0) K (F171.fr e b g f d l q r) h nx = .ok True := by
 rw [F171.b1, F171.g1_eq, F171.b2]
 refine zX (fun m tm h nx => ∃ z2 z3 z6 z7, tm = (F171.fr e b z2 z3 d l z6 z7) ∧ Inv m z2 z6 h nx) ?_ hm ⟨_, _, _, _, rfl, hi⟩
 rintro m tm h nx R ⟨z2, z3, z6, z7, rfl, hi⟩ hR
 refine Eq.trans ?_ (step m z2 z3 z6 z7 h nx R hi fun m' w2 w3 w6 w7 h' nx' hlt hi' => hR m' _ h' nx' hlt ⟨_, _, _, _, rfl, hi'⟩)
 kernel_rfl
theorem F171.k8 : IR.run F171.b8 C N (fnO F171.res K0) K (F171.fr e b g f d l q r) h nx =
 C.fn 189 (.of 189) [g, (.str [32])] h nx fun v1 h2 n3 => K0 v1 h2 n3 := by kernel_rfl
theorem F188.tab : T.get none (.of 188) tbl = some F188 := by kernel_rfl
theorem F188.go : zR tbl N C (.of 188) [a0] h nx K0 =
 C.fn 206 (.of 206) [a0] h nx fun v1 h2 n3 => K0 v1 h2 n3 := by
 rw [zH F188.tab]; kernel_rfl
theorem F206.tab : T.get none (.of 206) tbl = some F206 := by kernel_rfl
theorem F206.go : zR tbl N C (.of 206) [a0] h nx K0 =
 C.fn 214 (.of 214) [a0, (I 10)] h nx fun v1 h2 n3 => K0 v1 h2 n3 := by
 rw [zH F206.tab]; kernel_rfl
theorem F214.tab : T.get none (.of 214) tbl = some F214 := by kernel_rfl
theorem F214.go : zR tbl N C (.of 214) [a0, a1] h nx K0 =
 sBin .eql .int a1 (I 10) fun v1 => zM v1 (sBin .leq .int (I 0) a0 fun v2 => sG v2 true (fun k => k a0) fun v3 => sG v2 true (fun k => sBin .lss .int v3 (I 100) k) fun v4 => jO v2 v4 (.bool false) fun v5 => zM v5 (C.fn 219 (.of 219) [a0] h nx fun v6 h7 n8 => K0 v6 h7 n8) (jM [(.int .u8 0), (.int .u8 0), (.int .u8 0), (.int .u8 0), (.int .u8 0), (.int .u8 0), (.int .u8 0), (.int .u8 0), (.int .u8 0), (.int .u8 0), (.int .u8 0), (.int .u8 0), (.int .u8 0), (.int .u8 0), (.int .u8 0), (.int .u8 0), (.int .u8 0), (.int .u8 0), (.int .u8 0), (.int .u8 0), (.int .u8 0), (.int .u8 0), (.int .u8 0), (.int .u8 0)] h nx fun v9 hA nA => mY .u64 a0 fun vC => sBin .lss .int a0 (I 0) fun vD => zM vD (sNeg vC fun vF => (IR.run F214.b2 C N (fnO F214.res K0) (IR.run F214.b7 C N (fnO F214.res K0) (retK F214.res K0))) (F214.fr a0 a1 (.str []) v9 vF .undef .undef v1 v5 vD .undef) hA nA) ((IR.run F214.b2 C N (fnO F214.res K0) (IR.run F214.b7 C N (fnO F214.res K0) (retK F214.res K0))) (F214.fr a0 a1 (.str []) v9 vC .undef .undef v1 v5 vD .undef) hA nA))) (mY .u64 a0 fun vG => sBin .lss .int a0 (I 0) fun vE => C.fn 222 (.of 222) [.nils, vG, a1, vE, (.bool false)] h nx fun vS hJ nK => sExt 0 vS fun vJ => sExt 1 vS fun vK => K0 vK hJ nK) := by
 rw [zH F214.tab]; kernel_rfl
theorem F219.tab : T.get none (.of 219) tbl = some F219 := by kernel_rfl
theorem F219.go : zR tbl N C (.of 219) [a0] h nx K0 =
 sBin .lss .int a0 (I 10) fun v1 => zM v1 (sBin .add .int a0 (I 1) fun v2 => bL (.str [48, 49, 50, 51, 52, 53, 54, 55, 56, 57, 97, 98, 99, 100, 101, 102, 103, 104, 105, 106, 107, 108, 109, 110, 111, 112, 113, 114, 115, 116, 117, 118, 119, 120, 121, 122]) (some a0) (some v2) fun v3 => K0 v3 h nx) (sBin .mul .int a0 (I 2) fun v4 => sBin .mul .int a0 (I 2) fun v5 => sBin .add .int v5 (I 2) fun v6 => bL (.str [48, 48, 48, 49, 48, 50, 48, 51, 48, 52, 48, 53, 48, 54, 48, 55, 48, 56, 48, 57, 49, 48, 49, 49, 49, 50, 49, 51, 49, 52, 49, 53, 49, 54, 49, 55, 49, 56, 49, 57, 50, 48, 50, 49, 50, 50, 50, 51, 50, 52, 50, 53, 50, 54, 50, 55, 50, 56, 50, 57, 51, 48, 51, 49, 51, 50, 51, 51, 51, 52, 51, 53, 51, 54, 51, 55, 51, 56, 51, 57, 52, 48, 52, 49, 52, 50, 52, 51, 52, 52, 52, 53, 52, 54, 52, 55, 52, 56, 52, 57, 53, 48, 53, 49, 53, 50, 53, 51, 53, 52, 53, 53, 53, 54, 53, 55, 53, 56, 53, 57, 54, 48, 54, 49, 54, 50, 54, 51, 54, 52, 54, 53, 54, 54, 54, 55, 54, 56, 54, 57, 55, 48, 55, 49, 55, 50, 55, 51, 55, 52, 55, 53, 55, 54, 55, 55, 55, 56, 55, 57, 56, 48, 56, 49, 56, 50, 56, 51, 56, 52, 56, 53, 56, 54, 56, 55, 56, 56, 56, 57, 57, 48, 57, 49, 57, 50, 57, 51, 57, 52, 57, 53, 57, 54, 57, 55, 57, 56, 57, 57]) (some v4) (some v6) fun v7 => K0 v7 h nx) := by
 rw [zH F219.tab]; kernel_rfl
end Go.Ev
namespace Go.Ev
open Go Go.Proofs
set_option maxRecDepth 100000
variable {N : Nat} {C : Calls Prop} {K0 : Kw Prop} {K R : Ks Prop} {h : T Blk} {nx : Pa} {e b g f d l q r s a0 a1 : AV}
theorem F149.tab : T.get none (.of 149) tbl = some F149 := by kernel_rfl
theorem F149.go : zR tbl N C (.of 149) [a0, a1] h nx K0 =
 zD a1 h fun v1 => C.fn 150 (.of 150) [a0, v1] h nx fun v2 h3 n4 => K0 v2 h3 n4 := by
 rw [zH F149.tab]; kernel_rfl
theorem F148.tab : T.get none (.of 148) tbl = some F148 := by kernel_rfl
theorem F148.go : zR tbl N C (.of 148) [a0, a1] h nx K0 =
 C.fn 172 (.of 172) [a0, a1] h nx fun v1 h2 n3 => sBin .geq .int v1 (I 0) fun v4 => K0 v4 h2 n3 := by
 rw [zH F148.tab]; kernel_rfl
theorem F172.g1_eq (X2 : IR) (O : Outs Prop) (t : T AV) : IR.run (F172.g1 X2) C N O K t h nx = IR.run X2 C N (O.blk 0 K) K t h nx := by kernel_rfl
theorem F172.tab : T.get none (.of 172) tbl = some F172 := by kernel_rfl
theorem F172.go : zR tbl N C (.of 172) [a0, a1] h nx K0 =
 sLen a0 fun v1 => IR.run F172.b1 C N (fnO F172.res K0) (IR.run F172.b8 C N (fnO F172.res K0) (retK F172.res K0)) (F172.fr a0 a1 (I 0) .undef v1 (I 0) .undef .undef) h nx := by
 rw [zH F172.tab]; kernel_rfl
theorem F172.L1 (Inv : Nat → AV → T Blk → Pa → Prop) {m : Nat} (hm : m < N) (hi : Inv m l h nx)
  (step : ∀ (m : Nat) (z2 z3 z5 z6 z7 : AV) (h : T Blk) (nx : Pa) (R : Ks Prop), Inv m z5 h nx → (∀ (m' : Nat) (w2 w3 w5 w6 w7 : AV) (h' : T Blk) (nx' : Pa), m' < m → Inv m' w5 h' nx' → R (F172.fr e b w2 w3 d w5 w6 w7) h' nx' = .ok True) →
   (sBin .lss .int z5 d fun v1 => zM v1 (zQ 1 e z5 fun v2 => zD v2 h fun v3 => vZ C b [v3] h nx fun v4 h5 n6 => zM v4 (K0 z5 h5 n6) (sBin .add .int z5 (I 1) fun v7 => R (F172.fr e b z2 z5 d v7 v1 v4) h5 n6)) (K (F172.fr e b z2 z3 d z5 v1 z7) h nx)) = .ok True) :
  IR.run F172.b1 C N (fnO F172.res K0) K (F172.fr e b g f d l q r) h nx = .ok True := by
 rw [F172.b1, F172.g1_eq, F172.b2]
 refine zX (fun m tm h nx => ∃ z2 z3 z5 z6 z7, tm = (F172.fr e b z2 z3 d z5 z6 z7) ∧ Inv m z5 h nx) ?_ hm ⟨_, _, _, _, _, rfl, hi⟩
 rintro m tm h nx R ⟨z2, z3, z5, z6, z7, rfl, hi⟩ hR
 refine Eq.trans ?_ (step m z2 z3 z5 z6 z7 h nx R hi fun m' w2 w3 w5 w6 w7 h' nx' hlt hi' => hR m' _ h' nx' hlt ⟨_, _, _, _, _, rfl, hi'⟩)
 kernel_rfl
theorem F172.k8 : IR.run F172.b8 C N (fnO F172.res K0) K (F172.fr e b g f d l q r) h nx =
 K0 (I (-1)) h nx := by kernel_rfl
theorem F150.g2_eq (X3 : IR) (O : Outs Prop) (t : T AV) : IR.run (F150.g2 X3) C N O K t h nx = IR.run X3 C N (O.blk 0 K) K t h nx := by kernel_rfl
theorem F150.tab : T.get none (.of 150) tbl = some F150 := by kernel_rfl
theorem F150.go : zR tbl N C (.of 150) [a0, a1] h nx K0 =
 sLen a0 fun v1 => sLen a1 fun v2 => sBin .neq .int v1 v2 fun v3 => zM v3 (K0 (.bool false) h nx) (sLen a0 fun v4 => IR.run F150.b2 C N (fnO F150.res K0) (IR.run F150.b9 C N (fnO F150.res K0) (retK F150.res K0)) (F150.fr a0 a1 (.bool false) .undef v3 v4 (I 0) .undef .undef) h nx) := by
 rw [zH F150.tab]; kernel_rfl
theorem F150.L2 (Inv : Nat → AV → T Blk → Pa → Prop) {m : Nat} (hm : m < N) (hi : Inv m q h nx)
  (step : ∀ (m : Nat) (z2 z3 z6 z7 z8 : AV) (h : T Blk) (nx : Pa) (R : Ks Prop), Inv m z6 h nx → (∀ (m' : Nat) (w2 w3 w6 w7 w8 : AV) (h' : T Blk) (nx' : Pa), m' < m → Inv m' w6 h' nx' → R (F150.fr e b w2 w3 d l w6 w7 w8) h' nx' = .ok True) →
   (sBin .lss .int z6 l fun v1 => zM v1 (zQ 1 e z6 fun v2 => zD v2 h fun v3 => zQ 1 b z6 fun v4 => zD v4 h fun v5 => sBin .neq .int v3 v5 fun v6 => zM v6 (K0 (.bool false) h nx) (sBin .add .int z6 (I 1) fun v7 => R (F150.fr e b z2 z6 d l v7 v1 v6) h nx)) (K (F150.fr e b z2 z3 d l z6 v1 z8) h nx)) = .ok True) :
  IR.run F150.b2 C N (fnO F150.res K0) K (F150.fr e b g f d l q r s) h nx = .ok True := by
 rw [F150.b2, F150.g2_eq, F150.b3]
 refine zX (fun m tm h nx => ∃ z2 z3 z6 z7 z8, tm = (F150.fr e b z2 z3 d l z6 z7 z8) ∧ Inv m z6 h nx) ?_ hm ⟨_, _, _, _, _, rfl, hi⟩
 rintro m tm h nx R ⟨z2, z3, z6, z7, z8, rfl, hi⟩ hR
 refine Eq.trans ?_ (step m z2 z3 z6 z7 z8 h nx R hi fun m' w2 w3 w6 w7 w8 h' nx' hlt hi' => hR m' _ h' nx' hlt ⟨_, _, _, _, _, rfl, hi'⟩)
 kernel_rfl
theorem F150.k9 : IR.run F150.b9 C N (fnO F150.res K0) K (F150.fr e b g f d l q r s) h nx =
 K0 (.bool true) h nx := by kernel_rfl
theorem F84.g1_eq (X2 : IR) (O : Outs Prop) (t : T AV) : IR.run (F84.g1 X2) C N O K t h nx = IR.run X2 C N (O.blk 0 K) K t h nx := by kernel_rfl
theorem F84.tab : T.get none (.of 84) tbl = some F84 := by kernel_rfl
theorem F84.go : zR tbl N C (.of 84) [a0, a1] h nx K0 =
 IR.run F84.b1 C N (fnO F84.res K0) (IR.run F84.b8 C N (fnO F84.res K0) (retK F84.res K0)) (F84.fr a0 a1 (.bool false) (I 0) .undef .undef) h nx := by
 rw [zH F84.tab]; kernel_rfl
theorem F84.L1 (Inv : Nat → AV → T Blk → Pa → Prop) {m : Nat} (hm : m < N) (hi : Inv m f h nx)
  (step : ∀ (m : Nat) (z2 z3 z4 z5 : AV) (h : T Blk) (nx : Pa) (R : Ks Prop), Inv m z3 h nx → (∀ (m' : Nat) (w2 w3 w4 w5 : AV) (h' : T Blk) (nx' : Pa), m' < m → Inv m' w3 h' nx' → R (F84.fr e b w2 w3 w4 w5) h' nx' = .ok True) →
   (sLen e fun v1 => sBin .lss .int z3 v1 fun v2 => zM v2 (zQ 1 e z3 fun v3 => zD v3 h fun v4 => C.fn 35 (.of 35) [v4, b] h nx fun v5 h6 n7 => zM v5 (K0 (.bool true) h6 n7) (sBin .add .int z3 (I 1) fun v8 => R (F84.fr e b z2 v8 v2 v5) h6 n7)) (K (F84.fr e b z2 z3 v2 z5) h nx)) = .ok True) :
  IR.run F84.b1 C N (fnO F84.res K0) K (F84.fr e b g f d l) h nx = .ok True := by
 rw [F84.b1, F84.g1_eq, F84.b2]
 refine zX (fun m tm h nx => ∃ z2 z3 z4 z5, tm = (F84.fr e b z2 z3 z4 z5) ∧ Inv m z3 h nx) ?_ hm ⟨_, _, _, _, rfl, hi⟩
 rintro m tm h nx R ⟨z2, z3, z4, z5, rfl, hi⟩ hR
 refine Eq.trans ?_ (step m z2 z3 z4 z5 h nx R hi fun m' w2 w3 w4 w5 h' nx' hlt hi' => hR m' _ h' nx' hlt ⟨_, _, _, _, rfl, hi'⟩)
 kernel_rfl
theorem F84.k8 : IR.run F84.b8 C N (fnO F84.res K0) K (F84.fr e b g f d l) h nx =
 K0 (.bool false) h nx := by kernel_rfl
theorem F121.g1_eq (X2 : IR) (O : Outs Prop) (t : T AV) : IR.run (F121.g1 X2) C N O K t h nx = IR.run X2 C N (O.blk 0 K) K t h nx := by kernel_rfl
theorem F121.tab : T.get none (.of 121) tbl = some F121 := by kernel_rfl
theorem F121.go : zR tbl N C (.of 121) [a0] h nx K0 =
 sLen a0 fun v1 => IR.run F121.b1 C N (fnO F121.res K0) (IR.run F121.b8 C N (fnO F121.res K0) (retK F121.res K0)) (F121.fr a0 (I 0) .undef a0 v1 (I 0) .undef .undef) h nx := by
 rw [zH F121.tab]; kernel_rfl
theorem F121.L1 (Inv : Nat → AV → T Blk → Pa → Prop) {m : Nat} (hm : m < N) (hi : Inv m l h nx)
  (step : ∀ (m : Nat) (z1 z2 z5 z6 z7 : AV) (h : T Blk) (nx : Pa) (R : Ks Prop), Inv m z5 h nx → (∀ (m' : Nat) (w1 w2 w5 w6 w7 : AV) (h' : T Blk) (nx' : Pa), m' < m → Inv m' w5 h' nx' → R (F121.fr e w1 w2 f d w5 w6 w7) h' nx' = .ok True) →
   (sBin .lss .int z5 d fun v1 => zM v1 (zQ 1 f z5 fun v2 => zD v2 h fun v3 => sBin .neq .int v3 (I 0) fun v4 => zM v4 (K0 v3 h nx) (sBin .add .int z5 (I 1) fun v5 => R (F121.fr e z1 v3 f d v5 v1 v4) h nx)) (K (F121.fr e z1 z2 f d z5 v1 z7) h nx)) = .ok True) :
  IR.run F121.b1 C N (fnO F121.res K0) K (F121.fr e b g f d l q r) h nx = .ok True := by
 rw [F121.b1, F121.g1_eq, F121.b2]
 refine zX (fun m tm h nx => ∃ z1 z2 z5 z6 z7, tm = (F121.fr e z1 z2 f d z5 z6 z7) ∧ Inv m z5 h nx) ?_ hm ⟨_, _, _, _, _, rfl, hi⟩
 rintro m tm h nx R ⟨z1, z2, z5, z6, z7, rfl, hi⟩ hR
 refine Eq.trans ?_ (step m z1 z2 z5 z6 z7 h nx R hi fun m' w1 w2 w5 w6 w7 h' nx' hlt hi' => hR m' _ h' nx' hlt ⟨_, _, _, _, _, rfl, hi'⟩)
 kernel_rfl
theorem F121.k8 : IR.run F121.b8 C N (fnO F121.res K0) K (F121.fr e b g f d l q r) h nx =
 K0 (I 0) h nx := by kernel_rfl
theorem F123.tab : T.get none (.of 123) tbl = some F123 := by kernel_rfl
theorem F123.go : zR tbl N C (.of 123) [a0, a1] h nx K0 =
 zM a0 (K0 a1 h nx) (K0 (I 0) h nx) := by
 rw [zH F123.tab]; kernel_rfl
end Go.Ev
namespace Go.Ev
open Go Go.Proofs
set_option maxRecDepth 100000
variable {N : Nat} {C : Calls Prop} {K0 : Kw Prop} {K R : Ks Prop} {h : T Blk} {nx : Pa} {e b g f d l q r s a0 a1 a2 : AV}
end Go.Ev
namespace Go.Ev
open Go Go.Proofs
set_option maxRecDepth 100000
variable {N : Nat} {C : Calls Prop} {K0 : Kw Prop} {K R : Ks Prop} {h : T Blk} {nx : Pa} {e b g f d l q r s v a c i p a0 : AV}
end Go.Ev
namespace Go.Ev
open Go Go.Proofs
set_option maxRecDepth 100000
variable {N : Nat} {C : Calls Prop} {K0 : Kw Prop} {K R : Ks Prop} {h : T Blk} {nx : Pa} {e b g f d l q r a0 a1 a2 : AV}
theorem F122.tab : T.get none (.of 122) tbl = some F122 := by kernel_rfl
theorem F122.go : zR tbl N C (.of 122) [a0, a1, a2] h nx K0 =
 sBox a0 h nx fun v1 h2 n3 => sBox a1 h2 n3 fun v4 h5 n6 => C.fn 131 (.of 131) [a2, (.fn 147 (.of 147) [v1, v4])] h5 n6 fun v7 h8 n9 => C.fn 123 (.of 123) [v7, (I 3)] h8 n9 fun vA hM nN => K0 vA hM nN := by
 rw [zH F122.tab]; kernel_rfl
theorem F147.tab : T.get none (.of 147) tbl = some F147 := by kernel_rfl
theorem F147.go : zR tbl N C (.of 147) [a0, a1, a2] h nx K0 =
 zD a1 h fun v1 => sBin .lss .int a0 v1 fun v2 => sG v2 false (fun k => k a0) fun v3 => sG v2 false (fun k => zD a2 h k) fun v4 => sG v2 false (fun k => sBin .gtr .int v3 v4 k) fun v5 => jO v2 (.bool true) v5 fun v6 => K0 v6 h nx := by
 rw [zH F147.tab]; kernel_rfl
theorem F131.tab : T.get none (.of 131) tbl = some F131 := by kernel_rfl
theorem F131.go : zR tbl N C (.of 131) [a0, a1] h nx K0 =
 C.fn 165 (.of 165) [a0, a1] h nx fun v1 h2 n3 => sBin .geq .int v1 (I 0) fun v4 => K0 v4 h2 n3 := by
 rw [zH F131.tab]; kernel_rfl
theorem F165.g1_eq (X2 : IR) (O : Outs Prop) (t : T AV) : IR.run (F165.g1 X2) C N O K t h nx = IR.run X2 C N (O.blk 0 K) K t h nx := by kernel_rfl
theorem F165.tab : T.get none (.of 165) tbl = some F165 := by kernel_rfl
theorem F165.go : zR tbl N C (.of 165) [a0, a1] h nx K0 =
 sLen a0 fun v1 => IR.run F165.b1 C N (fnO F165.res K0) (IR.run F165.b8 C N (fnO F165.res K0) (retK F165.res K0)) (F165.fr a0 a1 (I 0) .undef v1 (I 0) .undef .undef) h nx := by
 rw [zH F165.tab]; kernel_rfl
theorem F165.L1 (Inv : Nat → AV → T Blk → Pa → Prop) {m : Nat} (hm : m < N) (hi : Inv m l h nx)
  (step : ∀ (m : Nat) (z2 z3 z5 z6 z7 : AV) (h : T Blk) (nx : Pa) (R : Ks Prop), Inv m z5 h nx → (∀ (m' : Nat) (w2 w3 w5 w6 w7 : AV) (h' : T Blk) (nx' : Pa), m' < m → Inv m' w5 h' nx' → R (F165.fr e b w2 w3 d w5 w6 w7) h' nx' = .ok True) →
   (sBin .lss .int z5 d fun v1 => zM v1 (zQ 1 e z5 fun v2 => zD v2 h fun v3 => vZ C b [v3] h nx fun v4 h5 n6 => zM v4 (K0 z5 h5 n6) (sBin .add .int z5 (I 1) fun v7 => R (F165.fr e b z2 z5 d v7 v1 v4) h5 n6)) (K (F165.fr e b z2 z3 d z5 v1 z7) h nx)) = .ok True) :
  IR.run F165.b1 C N (fnO F165.res K0) K (F165.fr e b g f d l q r) h nx = .ok True := by
 rw [F165.b1, F165.g1_eq, F165.b2]
 refine zX (fun m tm h nx => ∃ z2 z3 z5 z6 z7, tm = (F165.fr e b z2 z3 d z5 z6 z7) ∧ Inv m z5 h nx) ?_ hm ⟨_, _, _, _, _, rfl, hi⟩
 rintro m tm h nx R ⟨z2, z3, z5, z6, z7, rfl, hi⟩ hR
 refine Eq.trans ?_ (step m z2 z3 z5 z6 z7 h nx R hi fun m' w2 w3 w5 w6 w7 h' nx' hlt hi' => hR m' _ h' nx' hlt ⟨_, _, _, _, _, rfl, hi'⟩)
 kernel_rfl
theorem F165.k8 : IR.run F165.b8 C N (fnO F165.res K0) K (F165.fr e b g f d l q r) h nx =
 K0 (I (-1)) h nx := by kernel_rfl
theorem F80.g1_eq (X2 : IR) (O : Outs Prop) (t : T AV) : IR.run (F80.g1 X2) C N O K t h nx = IR.run X2 C N (O.blk 0 K) K t h nx := by kernel_rfl
theorem F80.tab : T.get none (.of 80) tbl = some F80 := by kernel_rfl
theorem F80.go : zR tbl N C (.of 80) [a0] h nx K0 =
 sLen a0 fun v1 => IR.run F80.b1 C N (fnO F80.res K0) (IR.run F80.b8 C N (fnO F80.res K0) (retK F80.res K0)) (F80.fr a0 (I 0) .undef a0 v1 (I 0) .undef .undef) h nx := by
 rw [zH F80.tab]; kernel_rfl
theorem F80.L1 (Inv : Nat → AV → T Blk → Pa → Prop) {m : Nat} (hm : m < N) (hi : Inv m l h nx)
  (step : ∀ (m : Nat) (z1 z2 z5 z6 z7 : AV) (h : T Blk) (nx : Pa) (R : Ks Prop), Inv m z5 h nx → (∀ (m' : Nat) (w1 w2 w5 w6 w7 : AV) (h' : T Blk) (nx' : Pa), m' < m → Inv m' w5 h' nx' → R (F80.fr e w1 w2 f d w5 w6 w7) h' nx' = .ok True) →
   (sBin .lss .int z5 d fun v1 => zM v1 (zQ 1 f z5 fun v2 => zD v2 h fun v3 => sBin .neq .int v3 (I 0) fun v4 => zM v4 (K0 v3 h nx) (sBin .add .int z5 (I 1) fun v5 => R (F80.fr e z1 v3 f d v5 v1 v4) h nx)) (K (F80.fr e z1 z2 f d z5 v1 z7) h nx)) = .ok True) :
  IR.run F80.b1 C N (fnO F80.res K0) K (F80.fr e b g f d l q r) h nx = .ok True := by
 rw [F80.b1, F80.g1_eq, F80.b2]
 refine zX (fun m tm h nx => ∃ z1 z2 z5 z6 z7, tm = (F80.fr e z1 z2 f d z5 z6 z7) ∧ Inv m z5 h nx) ?_ hm ⟨_, _, _, _, _, rfl, hi⟩
 rintro m tm h nx R ⟨z1, z2, z5, z6, z7, rfl, hi⟩ hR
 refine Eq.trans ?_ (step m z1 z2 z5 z6 z7 h nx R hi fun m' w1 w2 w5 w6 w7 h' nx' hlt hi' => hR m' _ h' nx' hlt ⟨_, _, _, _, _, rfl, hi'⟩)
 kernel_rfl
theorem F80.k8 : IR.run F80.b8 C N (fnO F80.res K0) K (F80.fr e b g f d l q r) h nx =
 K0 (I 0) h nx := by kernel_rfl
end Go.Ev
namespace Go.Ev
open Go Go.Proofs
set_option maxRecDepth 100000
variable {N : Nat} {C : Calls Prop} {K0 : Kw Prop} {K R : Ks Prop} {h : T Blk} {nx : Pa} {e b g f d l q r s v a c i p a0 a1 : AV}
theorem F81.g2_eq (X3 : IR) (O : Outs Prop) (t : T AV) : IR.run (F81.g2 X3) C N O K t h nx = IR.run X3 C N (O.blk 0 K) K t h nx := by kernel_rfl
theorem F81.tab : T.get none (.of 81) tbl = some F81 := by kernel_rfl
theorem F81.go : zR tbl N C (.of 81) [a0] h nx K0 =
 sBox a0 h nx fun v1 h2 n3 => zG 0 v1 fun v4 => zD v4 h2 fun v5 => zG 1 v1 fun v6 => zD v6 h2 fun v7 => sLen v7 fun v8 => sBin .gtr .int v8 (I 128) fun v9 => yF 1 1 [(I 0)] [(0, 1, v5)] h2 n3 fun vA hM nN => (sBin .gtr .int v8 (I 128) fun vT => zN vT v9 ((sLen v7 fun vU => zN vU v8 ((zD v6 hM fun vV => zN vV v7 ((zG 1 v1 fun vW => zN vW v6 (C.fn 122 (.of 122) [(I 1), (I 256), vA] hM nN fun vD hB nB => (sBin .gtr .int v8 (I 128) fun v32 => zN v32 v9 ((sLen v7 fun v31 => zN v31 v8 ((zD v6 hB fun vY => zN vY v7 ((zG 1 v1 fun vX => zN vX v6 (C.fn 123 (.of 123) [v9, (I 5)] hB nB fun vE hP nQ => yF 1 2 [(I 0)] [(0, 1, vD), (1, 1, vE)] hP nQ fun vI hQ nR => C.fn 121 (.of 121) [vI] hQ nR fun vL hS nS => sBin .neq .int vL (I 0) fun vO => zM vO (K0 vL hS nS) (zG 1 v1 fun vP => zD vP hS fun vQ => sLen vQ fun vR => IR.run F81.b2 C N (fnO F81.res K0) (IR.run F81.b9 C N (fnO F81.res K0) (retK F81.res K0)) (F81.fr a0 v1 (I 0) vL .undef .undef vO vR (I 0) .undef .undef) hS nS))))))))))))))))) := by
 rw [zH F81.tab]; kernel_rfl
theorem F81.L2 (Inv : Nat → AV → T Blk → Pa → Prop) {m : Nat} (hm : m < N) (hi : Inv m s h nx)
  (step : ∀ (m : Nat) (z2 z4 z5 z8 z9 zJ : AV) (h : T Blk) (nx : Pa) (R : Ks Prop), Inv m z8 h nx → (∀ (m' : Nat) (w2 w4 w5 w8 w9 wG : AV) (h' : T Blk) (nx' : Pa), m' < m → Inv m' w8 h' nx' → R (F81.fr e b w2 f w4 w5 q r w8 w9 wG) h' nx' = .ok True) →
   (sBin .lss .int z8 r fun v1 => zM v1 (zL 2 b h fun v2 => C.fn 124 (.of 124) [v2, z8] h nx fun v3 h4 n5 => sBin .neq .int v3 (I 0) fun v6 => zM v6 (K0 v3 h4 n5) (sBin .add .int z8 (I 1) fun v7 => R (F81.fr e b z2 f z8 v3 q r v7 v1 v6) h4 n5)) (K (F81.fr e b z2 f z4 z5 q r z8 v1 zJ) h nx)) = .ok True) :
  IR.run F81.b2 C N (fnO F81.res K0) K (F81.fr e b g f d l q r s v a) h nx = .ok True := by
 rw [F81.b2, F81.g2_eq, F81.b3]
 refine zX (fun m tm h nx => ∃ z2 z4 z5 z8 z9 zJ, tm = (F81.fr e b z2 f z4 z5 q r z8 z9 zJ) ∧ Inv m z8 h nx) ?_ hm ⟨_, _, _, _, _, _, rfl, hi⟩
 rintro m tm h nx R ⟨z2, z4, z5, z8, z9, zJ, rfl, hi⟩ hR
 refine Eq.trans ?_ (step m z2 z4 z5 z8 z9 zJ h nx R hi fun m' w2 w4 w5 w8 w9 wG h' nx' hlt hi' => hR m' _ h' nx' hlt ⟨_, _, _, _, _, _, rfl, hi'⟩)
 kernel_rfl
theorem F81.k9 : IR.run F81.b9 C N (fnO F81.res K0) K (F81.fr e b g f d l q r s v a) h nx =
 K0 (I 0) h nx := by kernel_rfl
theorem F124.g2_eq (X3 : IR) (O : Outs Prop) (t : T AV) : IR.run (F124.g2 X3) C N O K t h nx = IR.run X3 C N (O.blk 0 K) K t h nx := by kernel_rfl
theorem F124.tab : T.get none (.of 124) tbl = some F124 := by kernel_rfl
theorem F124.go : zR tbl N C (.of 124) [a0, a1] h nx K0 =
 sBox a0 h nx fun v1 h2 n3 => zG 1 v1 fun v4 => zD v4 h2 fun v5 => zQ 1 v5 a1 fun v6 => zD v6 h2 fun v7 => jM [.nils] h2 n3 fun v8 h9 nC => zZ 1 v8 v7 h9 nC fun vB hC nD => zD v8 hC fun vF => sLen vF fun vG => sBin .eql .int vG (I 0) fun vE => zM vE (K0 (I 12) hC nD) (zD v8 hC fun vS => sLen vS fun vH => IR.run F124.b2 C N (fnO F124.res K0) (IR.run F124.b9 C N (fnO F124.res K0) (retK F124.res K0)) (F124.fr a0 a1 v1 (I 0) v8 .undef .undef .undef vE vS vH (I 0) .undef .undef) hC nD) := by
 rw [zH F124.tab]; kernel_rfl
theorem F124.L2 (Inv : Nat → AV → T Blk → Pa → Prop) {m : Nat} (hm : m < N) (hi : Inv m c h nx)
  (step : ∀ (m : Nat) (z3 z5 z6 z7 zK zO zP : AV) (h : T Blk) (nx : Pa) (R : Ks Prop), Inv m zK h nx → (∀ (m' : Nat) (w3 w5 w6 w7 wH wI wJ : AV) (h' : T Blk) (nx' : Pa), m' < m → Inv m' wH h' nx' → R (F124.fr e b g w3 d w5 w6 w7 s v a wH wI wJ) h' nx' = .ok True) →
   (sBin .lss .int zK a fun v1 => zM v1 (zQ 1 v zK fun v2 => zD v2 h fun v3 => sBin .lss .int v3 (I 0) fun v4 => sG v4 false (fun k => k v3) fun v5 => sG v4 false (fun k => zG 0 g k) fun v6 => sG v4 false (fun k => zD v6 h k) fun v7 => sG v4 false (fun k => sBin .geq .int v5 v7 k) fun v8 => jO v4 (.bool true) v8 fun v9 => C.fn 123 (.of 123) [v9, (I 10)] h nx fun vA hM nN => sBin .gtr .int zK (I 0) fun vD => sG vD true (fun k => zD d hM k) fun vF => sG vD true (fun k => k zK) fun vG => sG vD true (fun k => sBin .sub .int vG (I 1) k) fun vE => sG vD true (fun k => zQ 1 vF vE k) fun vS => sG vD true (fun k => zD vS hM k) fun vH => sG vD true (fun k => k v3) fun vI => sG vD true (fun k => sBin .geq .int vH vI k) fun vJ => jO vD vJ (.bool false) fun vK => C.fn 123 (.of 123) [vK, (I 11)] hM nN fun vL hS nS => yF 1 2 [(I 0)] [(0, 1, vA), (1, 1, vL)] hS nS fun vO hT nT => C.fn 121 (.of 121) [vO] hT nT fun vR hU nU => sBin .neq .int vR (I 0) fun v31 => zM v31 (K0 vR hU nU) (sBin .add .int zK (I 1) fun v32 => R (F124.fr e b g z3 d zK v3 vR s v a v32 v1 v31) hU nU)) (K (F124.fr e b g z3 d z5 z6 z7 s v a zK v1 zP) h nx)) = .ok True) :
  IR.run F124.b2 C N (fnO F124.res K0) K (F124.fr e b g f d l q r s v a c i p) h nx = .ok True := by
 rw [F124.b2, F124.g2_eq, F124.b3]
 refine zX (fun m tm h nx => ∃ z3 z5 z6 z7 zK zO zP, tm = (F124.fr e b g z3 d z5 z6 z7 s v a zK zO zP) ∧ Inv m zK h nx) ?_ hm ⟨_, _, _, _, _, _, _, rfl, hi⟩
 rintro m tm h nx R ⟨z3, z5, z6, z7, zK, zO, zP, rfl, hi⟩ hR
 refine Eq.trans ?_ (step m z3 z5 z6 z7 zK zO zP h nx R hi fun m' w3 w5 w6 w7 wH wI wJ h' nx' hlt hi' => hR m' _ h' nx' hlt ⟨_, _, _, _, _, _, _, rfl, hi'⟩)
 kernel_rfl
theorem F124.k9 : IR.run F124.b9 C N (fnO F124.res K0) K (F124.fr e b g f d l q r s v a c i p) h nx =
 zG 1 g fun v1 => zD v1 h fun v2 => gG 1 v2 none (some b) none fun v3 => C.fn 148 (.of 148) [v3, (.fn 149 (.of 149) [d])] h nx fun v4 h5 n6 => C.fn 123 (.of 123) [v4, (I 9)] h5 n6 fun v7 h8 n9 => K0 v7 h8 n9 := by kernel_rfl
end Go.Ev
namespace Go.Ev
open Go Go.Proofs
set_option maxRecDepth 100000
variable {N : Nat} {C : Calls Prop} {K0 : Kw Prop} {K R : Ks Prop} {h : T Blk} {nx : Pa} {e b g f d l q r s v a c i p a0 a1 : AV}
theorem F83.g1_eq (X2 : IR) (O : Outs Prop) (t : T AV) : IR.run (F83.g1 X2) C N O K t h nx = IR.run X2 C N (O.blk 0 K) K t h nx := by kernel_rfl
theorem F83.tab : T.get none (.of 83) tbl = some F83 := by kernel_rfl
theorem F83.go : zR tbl N C (.of 83) [a0] h nx K0 =
 sBox a0 h nx fun v1 h2 n3 => zL 2 v1 h2 fun v4 => C.fn 95 (.of 95) [v4] h2 n3 fun v5 h6 n7 => C.fn 126 (.of 126) [v5] h6 n7 fun v8 h9 nC => C.fn 125 (.of 125) [v8] h9 nC fun vB hC nD => sLen vB fun vF => IR.run F83.b1 C N (fnO F83.res K0) (IR.run F83.b8 C N (fnO F83.res K0) (retK F83.res K0)) (F83.fr a0 v1 (I 0) (I 0) vB (I 0) (I 0) .undef .undef .undef vB vF (I 0) .undef) hC nD := by
 rw [zH F83.tab]; kernel_rfl
theorem F83.L1 (Inv : Nat → AV → AV → AV → T Blk → Pa → Prop) {m : Nat} (hm : m < N) (hi : Inv m l q i h nx)
  (step : ∀ (m : Nat) (z5 z6 z7 z8 zO zP : AV) (h : T Blk) (nx : Pa) (R : Ks Prop), Inv m z5 z6 zO h nx → (∀ (m' : Nat) (w5 w6 w7 w8 wI wJ : AV) (h' : T Blk) (nx' : Pa), m' < m → Inv m' w5 w6 wI h' nx' → R (F83.fr e b g f d w5 w6 w7 w8 v a c wI wJ) h' nx' = .ok True) →
   (sBin .lss .int zO c fun v1 => zM v1 (zQ 1 a zO fun v2 => zD v2 h fun v3 => sBin .add .int zO (I 1) fun v4 => sBin .mul .int v3 v4 fun v5 => sBin .add .int z6 v5 fun v6 => sLen d fun v7 => sBin .sub .int v7 zO fun v8 => sBin .mul .int v3 v8 fun v9 => sBin .add .int z5 v9 fun vA => sBin .add .int zO (I 1) fun vB => R (F83.fr e b g f d vA v6 zO v3 v a c vB v1) h nx) (K (F83.fr e b g f d z5 z6 z7 z8 v a c zO v1) h nx)) = .ok True) :
  IR.run F83.b1 C N (fnO F83.res K0) K (F83.fr e b g f d l q r s v a c i p) h nx = .ok True := by
 rw [F83.b1, F83.g1_eq, F83.b2]
 refine zX (fun m tm h nx => ∃ z5 z6 z7 z8 zO zP, tm = (F83.fr e b g f d z5 z6 z7 z8 v a c zO zP) ∧ Inv m z5 z6 zO h nx) ?_ hm ⟨_, _, _, _, _, _, rfl, hi⟩
 rintro m tm h nx R ⟨z5, z6, z7, z8, zO, zP, rfl, hi⟩ hR
 refine Eq.trans ?_ (step m z5 z6 z7 z8 zO zP h nx R hi fun m' w5 w6 w7 w8 wI wJ h' nx' hlt hi' => hR m' _ h' nx' hlt ⟨_, _, _, _, _, _, rfl, hi'⟩)
 kernel_rfl
theorem F83.k8 : IR.run F83.b8 C N (fnO F83.res K0) K (F83.fr e b g f d l q r s v a c i p) h nx =
 zG 1 b fun v1 => zD v1 h fun v2 => sLen v2 fun v3 => sBin .add .int l v3 fun v4 => sBin .sub .int v4 (I 1) fun v5 => sBin .quo .int v5 v3 fun v6 => sBin .quo .int q v3 fun v7 => K0 (.tup [v6, v7]) h nx := by kernel_rfl
theorem F95.g7_eq (X8 : IR) (O : Outs Prop) (t : T AV) : IR.run (F95.g7 X8) C N O K t h nx = IR.run X8 C N (O.blk 2 K) K t h nx := by kernel_rfl
theorem F95.g1_eq (X2 : IR) (O : Outs Prop) (t : T AV) : IR.run (F95.g1 X2) C N O K t h nx = IR.run X2 C N (O.blk 0 K) K t h nx := by kernel_rfl
theorem F95.tab : T.get none (.of 95) tbl = some F95 := by kernel_rfl
theorem F95.go : zR tbl N C (.of 95) [a0] h nx K0 =
 sBox a0 h nx fun v1 h2 n3 => zG 0 v1 fun v4 => zD v4 h2 fun v5 => kC 1 8 [(I 0)] v5 v5 h2 n3 fun v6 h7 n8 => zG 1 v1 fun v9 => zD v9 h7 fun vA => sLen vA fun vB => IR.run F95.b1 C N (fnO F95.res K0) (IR.run F95.b15 C N (fnO F95.res K0) (retK F95.res K0)) (F95.fr a0 v1 .nils v6 .undef .undef vA vB (I 0) .undef .undef .undef .undef .undef) h7 n8 := by
 rw [zH F95.tab]; kernel_rfl
theorem F95.L1 (Inv : Nat → AV → T Blk → Pa → Prop) {m : Nat} (hm : m < N) (hi : Inv m s h nx)
  (step : ∀ (m : Nat) (z4 z5 z8 z9 zJ zK zO zP : AV) (h : T Blk) (nx : Pa) (R : Ks Prop), Inv m z8 h nx → (∀ (m' : Nat) (w4 w5 w8 w9 wG wH wI wJ : AV) (h' : T Blk) (nx' : Pa), m' < m → Inv m' w8 h' nx' → R (F95.fr e b g f w4 w5 q r w8 w9 wG wH wI wJ) h' nx' = .ok True) →
   (sBin .lss .int z8 r fun v1 => zM v1 (zQ 1 q z8 fun v2 => zD v2 h fun v3 => sLen v3 fun v4 => IR.run F95.b7 C N (((fnO F95.res K0).blk 0 K).blk 1 (IR.run F95.b14 C N ((fnO F95.res K0).blk 0 K) R)) (IR.run F95.b14 C N ((fnO F95.res K0).blk 0 K) R) (F95.fr e b g f v3 z5 q r z8 v1 v3 v4 (I 0) zP) h nx) (K (F95.fr e b g f z4 z5 q r z8 v1 zJ zK zO zP) h nx)) = .ok True) :
  IR.run F95.b1 C N (fnO F95.res K0) K (F95.fr e b g f d l q r s v a c i p) h nx = .ok True := by
 rw [F95.b1, F95.g1_eq, F95.b2]
 refine zX (fun m tm h nx => ∃ z4 z5 z8 z9 zJ zK zO zP, tm = (F95.fr e b g f z4 z5 q r z8 z9 zJ zK zO zP) ∧ Inv m z8 h nx) ?_ hm ⟨_, _, _, _, _, _, _, _, rfl, hi⟩
 rintro m tm h nx R ⟨z4, z5, z8, z9, zJ, zK, zO, zP, rfl, hi⟩ hR
 refine Eq.trans ?_ (step m z4 z5 z8 z9 zJ zK zO zP h nx R hi fun m' w4 w5 w8 w9 wG wH wI wJ h' nx' hlt hi' => hR m' _ h' nx' hlt ⟨_, _, _, _, _, _, _, _, rfl, hi'⟩)
 kernel_rfl
theorem F95.k15 : IR.run F95.b15 C N (fnO F95.res K0) K (F95.fr e b g f d l q r s v a c i p) h nx =
 K0 f h nx := by kernel_rfl
theorem F95.k14 {E0 : Ks Prop} : IR.run F95.b14 C N ((fnO F95.res K0).blk 0 E0) K (F95.fr e b g f d l q r s v a c i p) h nx =
 sBin .add .int s (I 1) fun v1 => K (F95.fr e b g f d l q r v1 v a c i p) h nx := by kernel_rfl
theorem F95.L7 {E0 E1 : Ks Prop} (Inv : Nat → AV → T Blk → Pa → Prop) {m : Nat} (hm : m < N) (hi : Inv m i h nx)
  (step : ∀ (m : Nat) (z5 zO zP : AV) (h : T Blk) (nx : Pa) (R : Ks Prop), Inv m zO h nx → (∀ (m' : Nat) (w5 wI wJ : AV) (h' : T Blk) (nx' : Pa), m' < m → Inv m' wI h' nx' → R (F95.fr e b g f d w5 q r s v a c wI wJ) h' nx' = .ok True) →
   (sBin .lss .int zO c fun v1 => zM v1 (zQ 1 a zO fun v2 => zD v2 h fun v3 => zQ 1 f v3 fun v4 => zD v4 h fun v5 => sBin .add .int v5 (I 1) fun v6 => zQ 1 f v3 fun v7 => zZ 1 v7 v6 h nx fun v8 h9 nC => sBin .add .int zO (I 1) fun vB => R (F95.fr e b g f d v3 q r s v a c vB v1) h9 nC) (K (F95.fr e b g f d z5 q r s v a c zO v1) h nx)) = .ok True) :
  IR.run F95.b7 C N (((fnO F95.res K0).blk 0 E0).blk 1 E1) K (F95.fr e b g f d l q r s v a c i p) h nx = .ok True := by
 rw [F95.b7, F95.g7_eq, F95.b8]
 refine zX (fun m tm h nx => ∃ z5 zO zP, tm = (F95.fr e b g f d z5 q r s v a c zO zP) ∧ Inv m zO h nx) ?_ hm ⟨_, _, _, rfl, hi⟩
 rintro m tm h nx R ⟨z5, zO, zP, rfl, hi⟩ hR
 refine Eq.trans ?_ (step m z5 zO zP h nx R hi fun m' w5 wI wJ h' nx' hlt hi' => hR m' _ h' nx' hlt ⟨_, _, _, rfl, hi'⟩)
 kernel_rfl
theorem F126.tab : T.get none (.of 126) tbl = some F126 := by kernel_rfl
theorem F126.go : zR tbl N C (.of 126) [a0] h nx K0 =
 sBox a0 h nx fun v1 h2 n3 => K0 (.fn 153 (.of 153) [v1]) h2 n3 := by
 rw [zH F126.tab]; kernel_rfl
theorem F125.tab : T.get none (.of 125) tbl = some F125 := by kernel_rfl
theorem F125.go : zR tbl N C (.of 125) [a0] h nx K0 =
 C.fn 151 (.of 151) [a0] h nx fun v1 h2 n3 => C.fn 152 (.of 152) [v1] h2 n3 fun v4 h5 n6 => K0 v1 h5 n6 := by
 rw [zH F125.tab]; kernel_rfl
theorem F151.tab : T.get none (.of 151) tbl = some F151 := by kernel_rfl
theorem F151.go : zR tbl N C (.of 151) [a0] h nx K0 =
 C.fn 173 (.of 173) [.nils, a0] h nx fun v1 h2 n3 => K0 v1 h2 n3 := by
 rw [zH F151.tab]; kernel_rfl
theorem F153.g1_eq (X2 : IR) (O : Outs Prop) (t : T AV) : IR.run (F153.g1 X2) C N O K t h nx = IR.run X2 C N (O.blk 0 K) K t h nx := by kernel_rfl
theorem F153.tab : T.get none (.of 153) tbl = some F153 := by kernel_rfl
theorem F153.go : zR tbl N C (.of 153) [a0, a1] h nx K0 =
 zD a1 h fun v1 => sLen v1 fun v2 => IR.run F153.b1 C N (fnO F153.res K0) (retK F153.res K0) (F153.fr a0 a1 .undef v1 v2 (I 0) .undef .undef) h nx := by
 rw [zH F153.tab]; kernel_rfl
theorem F153.L1 (Inv : Nat → AV → T Blk → Pa → Prop) {m : Nat} (hm : m < N) (hi : Inv m l h nx)
  (step : ∀ (m : Nat) (z2 z5 z6 z7 : AV) (h : T Blk) (nx : Pa) (R : Ks Prop), Inv m z5 h nx → (∀ (m' : Nat) (w2 w5 w6 w7 : AV) (h' : T Blk) (nx' : Pa), m' < m → Inv m' w5 h' nx' → R (F153.fr e b w2 f d w5 w6 w7) h' nx' = .ok True) →
   (sBin .lss .int z5 d fun v1 => zM v1 (zQ 1 f z5 fun v2 => zD v2 h fun v3 => vZ C e [v3] h nx fun v4 h5 n6 => sNot v4 fun v7 => zM v7 (K0 (.tup []) h5 n6) (sBin .add .int z5 (I 1) fun v8 => R (F153.fr e b v3 f d v8 v1 v7) h5 n6)) (K (F153.fr e b z2 f d z5 v1 z7) h nx)) = .ok True) :
  IR.run F153.b1 C N (fnO F153.res K0) K (F153.fr e b g f d l q r) h nx = .ok True := by
 rw [F153.b1, F153.g1_eq, F153.b2]
 refine zX (fun m tm h nx => ∃ z2 z5 z6 z7, tm = (F153.fr e b z2 f d z5 z6 z7) ∧ Inv m z5 h nx) ?_ hm ⟨_, _, _, _, rfl, hi⟩
 rintro m tm h nx R ⟨z2, z5, z6, z7, rfl, hi⟩ hR
 refine Eq.trans ?_ (step m z2 z5 z6 z7 h nx R hi fun m' w2 w5 w6 w7 h' nx' hlt hi' => hR m' _ h' nx' hlt ⟨_, _, _, _, rfl, hi'⟩)
 kernel_rfl
end Go.Ev
namespace Go.Ev
open Go Go.Proofs
set_option maxRecDepth 100000
variable {N : Nat} {C : Calls Prop} {K0 : Kw Prop} {K R : Ks Prop} {h : T Blk} {nx : Pa} {e b g f d l q a0 a1 : AV}
theorem F173.tab : T.get none (.of 173) tbl = some F173 := by kernel_rfl
theorem F173.go : zR tbl N C (.of 173) [a0, a1] h nx K0 =
 sBox a0 h nx fun v1 h2 n3 => IR.run (.rf (.t (.of 5)) [(.of 6)] F173.b3 F173.b4) C N ((fnO F173.res K0).blk 0 (IR.run F173.b6 C N (fnO F173.res K0) (retK F173.res K0))) (IR.run F173.b6 C N (fnO F173.res K0) (retK F173.res K0)) (F173.fr a0 a1 v1 .nils .undef a1 .undef) h2 n3 := by
 rw [zH F173.tab]; kernel_rfl
theorem F173.k6 : IR.run F173.b6 C N (fnO F173.res K0) K (F173.fr e b g f d l q) h nx =
 zD g h fun v1 => K0 v1 h nx := by kernel_rfl
theorem F173.y4 {N : Nat} {C : Calls Prop} {K0 : Kw Prop} {id nx : Pa} {j : Jump} {h h1 : T Blk} {e b g f d l q z0 : AV} (hl : T.get .no id h = .loop .ready j (F173.fr e b g f d l q) [.of 6] F173.b3 F173.b4) (he : h1 = T.set .no (.loop .busy j (F173.fr e b g f d l q) [.of 6] F173.b3 F173.b4) id h) :
 qT N C id [z0] h nx K0 =
 zD g h1 fun v1 => yF 1 1 [(I 0)] [(0, 1, z0)] h1 nx fun v2 h3 n4 => sApp 1 8 v1 v2 h3 n4 fun v5 h6 n7 => zZ 1 g v5 h6 n7 fun v8 h9 nC => gM id K0 .none true .e h9 nC := by
 subst he
 rw [rnd_of hl (tm1 := (F173.fr e b g f d l z0)) (tm2 := (F173.fr e b g f z0 l z0)) (by intro k; kernel_rfl) (by intro O K h nx; kernel_rfl)]; kernel_rfl
end Go.Ev
namespace Go.Ev
open Go Go.Proofs
set_option maxRecDepth 100000
variable {N : Nat} {C : Calls Prop} {K0 : Kw Prop} {K R : Ks Prop} {h : T Blk} {nx : Pa} {e b g f d l q r s v a c a0 : AV}
end Go.Ev
namespace Go.Ev
open Go Go.Proofs
set_option maxRecDepth 100000
variable {N : Nat} {C : Calls Prop} {K0 : Kw Prop} {K R : Ks Prop} {h : T Blk} {nx : Pa} {e b g f d l q r s v a c i p o u y z w A B E D G L H F M P V Q U W a0 a1 a2 a3 : AV}
end Go.Ev
namespace Go.Ev
open Go Go.Proofs
set_option maxRecDepth 100000
variable {N : Nat} {C : Calls Prop} {K0 : Kw Prop} {K R : Ks Prop} {h : T Blk} {nx : Pa} {e b g f d l q r s v a c i p a0 a1 a2 a3 : AV}
theorem F90.g1_eq (X2 : IR) (O : Outs Prop) (t : T AV) : IR.run (F90.g1 X2) C N O K t h nx = IR.run X2 C N (O.blk 0 K) K t h nx := by kernel_rfl
theorem F90.tab : T.get none (.of 90) tbl = some F90 := by kernel_rfl
theorem F90.go : zR tbl N C (.of 90) [a0, a1, a2] h nx K0 =
 sBox a0 h nx fun v1 h2 n3 => sBox a2 h2 n3 fun v4 h5 n6 => zG 0 v4 fun v7 => zD v7 h5 fun v8 => zG 1 v4 fun v9 => zD v9 h5 fun vA => sNot vA fun vB => IR.run F90.b1 C N (fnO F90.res K0) (IR.run F90.b10 C N (fnO F90.res K0) (retK F90.res K0)) (F90.fr a0 a1 a2 v1 v4 (.bool false) v8 vB (I 0) .undef .undef .undef .undef .undef) h5 n6 := by
 rw [zH F90.tab]; kernel_rfl
theorem F90.L1 (Inv : Nat → AV → AV → AV → T Blk → Pa → Prop) {m : Nat} (hm : m < N) (hi : Inv m q r s h nx)
  (step : ∀ (m : Nat) (z5 z6 z7 z8 z9 zJ zK zO zP : AV) (h : T Blk) (nx : Pa) (R : Ks Prop), Inv m z6 z7 z8 h nx → (∀ (m' : Nat) (w5 w6 w7 w8 w9 wG wH wI wJ : AV) (h' : T Blk) (nx' : Pa), m' < m → Inv m' w6 w7 w8 h' nx' → R (F90.fr e b g f d w5 w6 w7 w8 w9 wG wH wI wJ) h' nx' = .ok True) →
   (zG 1 f fun v1 => zD v1 h fun v2 => sLen v2 fun v3 => sBin .lss .int z8 v3 fun v4 => zM v4 (zG 1 f fun v5 => zD v5 h fun v6 => zQ 1 v6 z8 fun v7 => zD v7 h fun v8 => sLen v8 fun v9 => sBin .sub .int v9 (I 1) fun vA => zQ 1 v8 vA fun vB => zD vB h fun vC => sLen b fun vD => sBin .geq .int vC vD fun vF => zM vF (sBin .add .int z8 (I 1) fun vG => R (F90.fr e b g f d z5 z6 z7 vG v8 zJ v4 vF zP) h nx) (C.fn 127 (.of 127) [v8, b] h nx fun vE hP nQ => sG z7 true (fun k => k vE) fun vI => sG z7 true (fun k => k z6) fun vJ => sG z7 true (fun k => sBin .neq .int vI vJ k) fun vK => jO z7 vK (.bool false) fun vL => zM vL (K0 (.bool false) hP nQ) (sBin .add .int z8 (I 1) fun vM => R (F90.fr e b g f d z5 vE (.bool true) vM v8 vE v4 vF vL) hP nQ))) (K (F90.fr e b g f d z5 z6 z7 z8 z9 zJ v4 zO zP) h nx)) = .ok True) :
  IR.run F90.b1 C N (fnO F90.res K0) K (F90.fr e b g f d l q r s v a c i p) h nx = .ok True := by
 rw [F90.b1, F90.g1_eq, F90.b2]
 refine zX (fun m tm h nx => ∃ z5 z6 z7 z8 z9 zJ zK zO zP, tm = (F90.fr e b g f d z5 z6 z7 z8 z9 zJ zK zO zP) ∧ Inv m z6 z7 z8 h nx) ?_ hm ⟨_, _, _, _, _, _, _, _, _, rfl, hi⟩
 rintro m tm h nx R ⟨z5, z6, z7, z8, z9, zJ, zK, zO, zP, rfl, hi⟩ hR
 refine Eq.trans ?_ (step m z5 z6 z7 z8 z9 zJ zK zO zP h nx R hi fun m' w5 w6 w7 w8 w9 wG wH wI wJ h' nx' hlt hi' => hR m' _ h' nx' hlt ⟨_, _, _, _, _, _, _, _, _, rfl, hi'⟩)
 kernel_rfl
theorem F90.k10 : IR.run F90.b10 C N (fnO F90.res K0) K (F90.fr e b g f d l q r s v a c i p) h nx =
 K0 (.bool true) h nx := by kernel_rfl
theorem F127.g1_eq (X2 : IR) (O : Outs Prop) (t : T AV) : IR.run (F127.g1 X2) C N O K t h nx = IR.run X2 C N (O.blk 0 K) K t h nx := by kernel_rfl
theorem F127.tab : T.get none (.of 127) tbl = some F127 := by kernel_rfl
theorem F127.go : zR tbl N C (.of 127) [a0, a1] h nx K0 =
 IR.run F127.b1 C N (fnO F127.res K0) (IR.run F127.b8 C N (fnO F127.res K0) (retK F127.res K0)) (F127.fr a0 a1 (I 0) (I 0) (I 0) .undef) h nx := by
 rw [zH F127.tab]; kernel_rfl
theorem F127.L1 (Inv : Nat → AV → AV → T Blk → Pa → Prop) {m : Nat} (hm : m < N) (hi : Inv m f d h nx)
  (step : ∀ (m : Nat) (z3 z4 z5 : AV) (h : T Blk) (nx : Pa) (R : Ks Prop), Inv m z3 z4 h nx → (∀ (m' : Nat) (w3 w4 w5 : AV) (h' : T Blk) (nx' : Pa), m' < m → Inv m' w3 w4 h' nx' → R (F127.fr e b g w3 w4 w5) h' nx' = .ok True) →
   (sLen e fun v1 => sBin .lss .int z4 v1 fun v2 => zM v2 (zQ 1 e z4 fun v3 => zD v3 h fun v4 => zQ 1 b v4 fun v5 => zD v5 h fun v6 => sBin .add .int z3 v6 fun v7 => sBin .add .int z4 (I 1) fun v8 => R (F127.fr e b g v7 v8 v2) h nx) (K (F127.fr e b g z3 z4 v2) h nx)) = .ok True) :
  IR.run F127.b1 C N (fnO F127.res K0) K (F127.fr e b g f d l) h nx = .ok True := by
 rw [F127.b1, F127.g1_eq, F127.b2]
 refine zX (fun m tm h nx => ∃ z3 z4 z5, tm = (F127.fr e b g z3 z4 z5) ∧ Inv m z3 z4 h nx) ?_ hm ⟨_, _, _, rfl, hi⟩
 rintro m tm h nx R ⟨z3, z4, z5, rfl, hi⟩ hR
 refine Eq.trans ?_ (step m z3 z4 z5 h nx R hi fun m' w3 w4 w5 h' nx' hlt hi' => hR m' _ h' nx' hlt ⟨_, _, _, rfl, hi'⟩)
 kernel_rfl
theorem F127.k8 : IR.run F127.b8 C N (fnO F127.res K0) K (F127.fr e b g f d l) h nx =
 K0 f h nx := by kernel_rfl
end Go.Ev
namespace Go.Ev
open Go Go.Proofs
set_option maxRecDepth 100000
variable {N : Nat} {C : Calls Prop} {K0 : Kw Prop} {K R : Ks Prop} {h : T Blk} {nx : Pa} {e b g f d l q r s v a c a0 a1 a2 a3 : AV}
end Go.Ev
namespace Go.Ev
open Go Go.Proofs
set_option maxRecDepth 100000
variable {N : Nat} {C : Calls Prop} {K0 : Kw Prop} {K R : Ks Prop} {h : T Blk} {nx : Pa} {e b g f d l q r s v a c i p o u y z a0 a1 : AV}
end Go.Ev
namespace Go.Ev
open Go Go.Proofs
set_option maxRecDepth 100000
variable {N : Nat} {C : Calls Prop} {K0 : Kw Prop} {K R : Ks Prop} {h : T Blk} {nx : Pa} {e b g f d l q r s v a c i p o u y z w A B E D G L H F M P V Q U W Z x34 a0 a1 a2 : AV}
end Go.Ev
namespace Go.Ev
open Go Go.Proofs
set_option maxRecDepth 100000
variable {N : Nat} {C : Calls Prop} {K0 : Kw Prop} {K R : Ks Prop} {h : T Blk} {nx : Pa} {e b g f d l q r s v a c i p a0 a1 : AV}
theorem F133.g2_eq (X3 : IR) (O : Outs Prop) (t : T AV) : IR.run (F133.g2 X3) C N O K t h nx = IR.run X3 C N (O.blk 0 K) K t h nx := by kernel_rfl
theorem F133.tab : T.get none (.of 133) tbl = some F133 := by kernel_rfl
theorem F133.go : zR tbl N C (.of 133) [a0] h nx K0 =
 sBox a0 h nx fun v1 h2 n3 => zG 0 v1 fun v4 => zD v4 h2 fun v5 => zG 1 v1 fun v6 => zD v6 h2 fun v7 => sLen v7 fun v8 => sBin .gtr .int v8 (I 32) fun v9 => yF 1 1 [(I 0)] [(0, 1, v5)] h2 n3 fun vA hM nN => (sBin .gtr .int v8 (I 32) fun vT => zN vT v9 ((sLen v7 fun vU => zN vU v8 ((zD v6 hM fun vV => zN vV v7 ((zG 1 v1 fun vW => zN vW v6 (C.fn 122 (.of 122) [(I 1), (I 16), vA] hM nN fun vD hB nB => (sBin .gtr .int v8 (I 32) fun v32 => zN v32 v9 ((sLen v7 fun v31 => zN v31 v8 ((zD v6 hB fun vY => zN vY v7 ((zG 1 v1 fun vX => zN vX v6 (C.fn 123 (.of 123) [v9, (I 5)] hB nB fun vE hP nQ => yF 1 2 [(I 0)] [(0, 1, vD), (1, 1, vE)] hP nQ fun vI hQ nR => C.fn 121 (.of 121) [vI] hQ nR fun vL hS nS => sBin .neq .int vL (I 0) fun vO => zM vO (K0 vL hS nS) (zG 1 v1 fun vP => zD vP hS fun vQ => sLen vQ fun vR => IR.run F133.b2 C N (fnO F133.res K0) (IR.run F133.b10 C N (fnO F133.res K0) (retK F133.res K0)) (F133.fr a0 v1 (I 0) vL .undef .undef .undef .undef vO vQ vR (I 0) .undef .undef) hS nS))))))))))))))))) := by
 rw [zH F133.tab]; kernel_rfl
theorem F133.L2 (Inv : Nat → AV → T Blk → Pa → Prop) {m : Nat} (hm : m < N) (hi : Inv m c h nx)
  (step : ∀ (m : Nat) (z2 z4 z5 z6 z7 zK zO zP : AV) (h : T Blk) (nx : Pa) (R : Ks Prop), Inv m zK h nx → (∀ (m' : Nat) (w2 w4 w5 w6 w7 wH wI wJ : AV) (h' : T Blk) (nx' : Pa), m' < m → Inv m' wH h' nx' → R (F133.fr e b w2 f w4 w5 w6 w7 s v a wH wI wJ) h' nx' = .ok True) →
   (sBin .lss .int zK a fun v1 => zM v1 (zQ 2 v zK fun v2 => zL 2 v2 h fun v3 => jM [(I 0), (I 0)] h nx fun v4 h5 n6 => zZ 2 v4 v3 h5 n6 fun v7 h8 n9 => yW 1 2 v4 (I 0) fun vA => zD vA h8 fun vB => sBin .geq .int vB (I 0) fun vC => sG vC true (fun k => yW 1 2 v4 (I 0) k) fun vD => sG vC true (fun k => zD vD h8 k) fun vF => sG vC true (fun k => zG 0 b k) fun vG => sG vC true (fun k => zD vG h8 k) fun vE => sG vC true (fun k => sBin .lss .int vF vE k) fun vS => jO vC vS (.bool false) fun vH => sG vH true (fun k => yW 1 2 v4 (I 1) k) fun vI => sG vH true (fun k => zD vI h8 k) fun vJ => sG vH true (fun k => sBin .geq .int vJ (I 0) k) fun vK => jO vH vK (.bool false) fun vL => sG vL true (fun k => yW 1 2 v4 (I 1) k) fun vM => sG vL true (fun k => zD vM h8 k) fun vN => sG vL true (fun k => zG 0 b k) fun vO => sG vL true (fun k => zD vO h8 k) fun vP => sG vL true (fun k => sBin .lss .int vN vP k) fun vQ => jO vL vQ (.bool false) fun vR => (IR.run F133.b8 C N (((fnO F133.res K0).blk 0 K).blk 1 (IR.run F133.b9 C N ((fnO F133.res K0).blk 0 K) R)) (IR.run F133.b9 C N ((fnO F133.res K0).blk 0 K) R)) (F133.fr e b z2 f zK v4 vR z7 s v a zK v1 zP) h8 n9) (K (F133.fr e b z2 f z4 z5 z6 z7 s v a zK v1 zP) h nx)) = .ok True) :
  IR.run F133.b2 C N (fnO F133.res K0) K (F133.fr e b g f d l q r s v a c i p) h nx = .ok True := by
 rw [F133.b2, F133.g2_eq, F133.b3]
 refine zX (fun m tm h nx => ∃ z2 z4 z5 z6 z7 zK zO zP, tm = (F133.fr e b z2 f z4 z5 z6 z7 s v a zK zO zP) ∧ Inv m zK h nx) ?_ hm ⟨_, _, _, _, _, _, _, _, rfl, hi⟩
 rintro m tm h nx R ⟨z2, z4, z5, z6, z7, zK, zO, zP, rfl, hi⟩ hR
 refine Eq.trans ?_ (step m z2 z4 z5 z6 z7 zK zO zP h nx R hi fun m' w2 w4 w5 w6 w7 wH wI wJ h' nx' hlt hi' => hR m' _ h' nx' hlt ⟨_, _, _, _, _, _, _, _, rfl, hi'⟩)
 kernel_rfl
theorem F133.k10 : IR.run F133.b10 C N (fnO F133.res K0) K (F133.fr e b g f d l q r s v a c i p) h nx =
 K0 (I 0) h nx := by kernel_rfl
theorem F133.k9 {E0 : Ks Prop} : IR.run F133.b9 C N ((fnO F133.res K0).blk 0 E0) K (F133.fr e b g f d l q r s v a c i p) h nx =
 sBin .add .int c (I 1) fun v1 => K (F133.fr e b g f d l q r s v a v1 i p) h nx := by kernel_rfl
theorem F133.k8 {E0 E1 : Ks Prop} : IR.run F133.b8 C N (((fnO F133.res K0).blk 0 E0).blk 1 E1) K (F133.fr e b g f d l q r s v a c i p) h nx =
 sNot q fun v1 => yW 1 2 l (I 0) fun v2 => zD v2 h fun v3 => yW 1 2 l (I 1) fun v4 => zD v4 h fun v5 => sBin .geq .int v3 v5 fun v6 => zG 1 b fun v7 => zD v7 h fun v8 => gG 2 v8 none (some d) none fun v9 => zL 2 l h fun vA => C.fn 123 (.of 123) [v1, (I 10)] h nx fun vB hC nD => (zL 2 l hC fun v42 => zN v42 vA ((gG 2 v8 none (some d) none fun v41 => zN v41 v9 (zN d d ((zD v7 hC fun v40 => zN v40 v8 ((zG 1 b fun v39 => zN v39 v7 ((sBin .geq .int v3 v5 fun v38 => zN v38 v6 ((zD v4 hC fun v37 => zN v37 v5 ((yW 1 2 l (I 1) fun vT => zN vT v4 ((zD v2 hC fun vU => zN vU v3 ((yW 1 2 l (I 0) fun vV => zN vV v2 (C.fn 123 (.of 123) [v6, (I 11)] hC nD fun vF hE nF => (zL 2 l hE fun vW => zN vW vA ((gG 2 v8 none (some d) none fun v32 => zN v32 v9 (zN d d ((zD v7 hE fun v31 => zN v31 v8 ((zG 1 b fun vY => zN vY v7 (C.fn 166 (.of 166) [v9, vA] hE nF fun vS hJ nK => C.fn 123 (.of 123) [vS, (I 9)] hJ nK fun vJ hK nL => yF 1 3 [(I 0)] [(0, 1, vB), (1, 1, vF), (2, 1, vJ)] hK nL fun vM hL nM => C.fn 121 (.of 121) [vM] hL nM fun vP hI nJ => sBin .neq .int vP (I 0) fun vX => zM vX (K0 vP hI nJ) (K (F133.fr e b g f d l q vP s v a c i vX) hI nJ))))))))))))))))))))))))))))) := by kernel_rfl
theorem F42.g11_eq (X12 : IR) (O : Outs Prop) (t : T AV) : IR.run (F42.g11 X12) C N O K t h nx = IR.run X12 C N (O.blk 2 K) K t h nx := by kernel_rfl
theorem F42.g3_eq (X4 : IR) (O : Outs Prop) (t : T AV) : IR.run (F42.g3 X4) C N O K t h nx = IR.run X4 C N (O.blk 0 K) K t h nx := by kernel_rfl
theorem F42.tab : T.get none (.of 42) tbl = some F42 := by kernel_rfl
theorem F42.go : zR tbl N C (.of 42) [a0] h nx K0 =
 sBox a0 h nx fun v1 h2 n3 => zG 0 v1 fun v4 => zD v4 h2 fun v5 => sBin .lss .int v5 (I 1) fun v6 => sG v6 false (fun k => zG 0 v1 k) fun v7 => sG v6 false (fun k => zD v7 h2 k) fun v8 => sG v6 false (fun k => sBin .gtr .int v8 (I 16) k) fun v9 => jO v6 (.bool true) v9 fun vA => zM vA (K0 (I 3) h2 n3) (zG 1 v1 fun vB => zD vB h2 fun vC => sLen vC fun vD => sBin .gtr .int vD (I 32) fun vF => zM vF (K0 (I 5) h2 n3) (IR.run F42.b3 C N (fnO F42.res K0) (IR.run F42.b19 C N (fnO F42.res K0) (retK F42.res K0)) (F42.fr a0 v1 (I 0) (I 0) .undef .undef vA vF .undef .undef .undef .undef .undef) h2 n3)) := by
 rw [zH F42.tab]; kernel_rfl
theorem F42.L3 (Inv : Nat → AV → T Blk → Pa → Prop) {m : Nat} (hm : m < N) (hi : Inv m f h nx)
  (step : ∀ (m : Nat) (z2 z3 z4 z5 z8 z9 zJ zK zO : AV) (h : T Blk) (nx : Pa) (R : Ks Prop), Inv m z3 h nx → (∀ (m' : Nat) (w2 w3 w4 w5 w8 w9 wG wH wI : AV) (h' : T Blk) (nx' : Pa), m' < m → Inv m' w3 h' nx' → R (F42.fr e b w2 w3 w4 w5 q r w8 w9 wG wH wI) h' nx' = .ok True) →
   (zG 1 b fun v1 => zD v1 h fun v2 => sLen v2 fun v3 => sBin .lss .int z3 v3 fun v4 => zM v4 (zG 1 b fun v5 => zD v5 h fun v6 => zQ 2 v6 z3 fun v7 => zL 2 v7 h fun v8 => jM [(I 0), (I 0)] h nx fun v9 hA nA => zZ 2 v9 v8 hA nA fun vC hF nG => yW 1 2 v9 (I 0) fun vG => zD vG hF fun vE => sBin .lss .int vE (I 0) fun vS => sG vS false (fun k => yW 1 2 v9 (I 0) k) fun vH => sG vS false (fun k => zD vH hF k) fun vI => sG vS false (fun k => zG 0 b k) fun vJ => sG vS false (fun k => zD vJ hF k) fun vK => sG vS false (fun k => sBin .geq .int vI vK k) fun vL => jO vS (.bool true) vL fun vM => sG vM false (fun k => yW 1 2 v9 (I 1) k) fun vN => sG vM false (fun k => zD vN hF k) fun vO => sG vM false (fun k => sBin .lss .int vO (I 0) k) fun vP => jO vM (.bool true) vP fun vQ => sG vQ false (fun k => yW 1 2 v9 (I 1) k) fun vR => sG vQ false (fun k => zD vR hF k) fun vX => sG vQ false (fun k => zG 0 b k) fun vY => sG vQ false (fun k => zD vY hF k) fun v31 => sG vQ false (fun k => sBin .geq .int vX v31 k) fun v32 => jO vQ (.bool true) v32 fun vW => zM vW (K0 (I 10) hF nG) ((IR.run F42.b9 C N (((fnO F42.res K0).blk 0 K).blk 1 (IR.run F42.b18 C N ((fnO F42.res K0).blk 0 K) R)) (IR.run F42.b18 C N ((fnO F42.res K0).blk 0 K) R)) (F42.fr e b z2 z3 v9 z5 q r v4 vW zJ zK zO) hF nG)) (K (F42.fr e b z2 z3 z4 z5 q r v4 z9 zJ zK zO) h nx)) = .ok True) :
  IR.run F42.b3 C N (fnO F42.res K0) K (F42.fr e b g f d l q r s v a c i) h nx = .ok True := by
 rw [F42.b3, F42.g3_eq, F42.b4]
 refine zX (fun m tm h nx => ∃ z2 z3 z4 z5 z8 z9 zJ zK zO, tm = (F42.fr e b z2 z3 z4 z5 q r z8 z9 zJ zK zO) ∧ Inv m z3 h nx) ?_ hm ⟨_, _, _, _, _, _, _, _, _, rfl, hi⟩
 rintro m tm h nx R ⟨z2, z3, z4, z5, z8, z9, zJ, zK, zO, rfl, hi⟩ hR
 refine Eq.trans ?_ (step m z2 z3 z4 z5 z8 z9 zJ zK zO h nx R hi fun m' w2 w3 w4 w5 w8 w9 wG wH wI h' nx' hlt hi' => hR m' _ h' nx' hlt ⟨_, _, _, _, _, _, _, _, _, rfl, hi'⟩)
 kernel_rfl
theorem F42.k19 : IR.run F42.b19 C N (fnO F42.res K0) K (F42.fr e b g f d l q r s v a c i) h nx =
 K0 (I 0) h nx := by kernel_rfl
theorem F42.k18 {E0 : Ks Prop} : IR.run F42.b18 C N ((fnO F42.res K0).blk 0 E0) K (F42.fr e b g f d l q r s v a c i) h nx =
 sBin .add .int f (I 1) fun v1 => K (F42.fr e b g v1 d l q r s v a c i) h nx := by kernel_rfl
theorem F42.k9 {E0 E1 : Ks Prop} : IR.run F42.b9 C N (((fnO F42.res K0).blk 0 E0).blk 1 E1) K (F42.fr e b g f d l q r s v a c i) h nx =
 yW 1 2 d (I 0) fun v1 => zD v1 h fun v2 => yW 1 2 d (I 1) fun v3 => zD v3 h fun v4 => sBin .geq .int v2 v4 fun v5 => zM v5 (K0 (I 11) h nx) (IR.run F42.b11 C N (((fnO F42.res K0).blk 0 E0).blk 1 E1) K (F42.fr e b g f d (I 0) q r s v v5 c i) h nx) := by kernel_rfl
theorem F42.L11 {E0 E1 : Ks Prop} (Inv : Nat → AV → T Blk → Pa → Prop) {m : Nat} (hm : m < N) (hi : Inv m l h nx)
  (step : ∀ (m : Nat) (z2 z5 zK zO : AV) (h : T Blk) (nx : Pa) (R : Ks Prop), Inv m z5 h nx → (∀ (m' : Nat) (w2 w5 wH wI : AV) (h' : T Blk) (nx' : Pa), m' < m → Inv m' w5 h' nx' → R (F42.fr e b w2 f d w5 q r s v a wH wI) h' nx' = .ok True) →
   (sBin .lss .int z5 f fun v1 => zM v1 (zG 1 b fun v2 => zD v2 h fun v3 => zQ 2 v3 z5 fun v4 => zL 2 v4 h fun v5 => zL 2 d h fun v6 => sBin .eql (.agg 2) v5 v6 fun v7 => zM v7 (K0 (I 9) h nx) (sBin .add .int z5 (I 1) fun v8 => R (F42.fr e b z2 f d v8 q r s v a v1 v7) h nx)) (K (F42.fr e b z2 f d z5 q r s v a v1 zO) h nx)) = .ok True) :
  IR.run F42.b11 C N (((fnO F42.res K0).blk 0 E0).blk 1 E1) K (F42.fr e b g f d l q r s v a c i) h nx = .ok True := by
 rw [F42.b11, F42.g11_eq, F42.b12]
 refine zX (fun m tm h nx => ∃ z2 z5 zK zO, tm = (F42.fr e b z2 f d z5 q r s v a zK zO) ∧ Inv m z5 h nx) ?_ hm ⟨_, _, _, _, rfl, hi⟩
 rintro m tm h nx R ⟨z2, z5, zK, zO, rfl, hi⟩ hR
 refine Eq.trans ?_ (step m z2 z5 zK zO h nx R hi fun m' w2 w5 wH wI h' nx' hlt hi' => hR m' _ h' nx' hlt ⟨_, _, _, _, rfl, hi'⟩)
 kernel_rfl
theorem F166.tab : T.get none (.of 166) tbl = some F166 := by kernel_rfl
theorem F166.go : zR tbl N C (.of 166) [a0, a1] h nx K0 =
 sBox a1 h nx fun v1 h2 n3 => zL 2 v1 h2 fun v4 => C.fn 180 (.of 180) [a0, v4] h2 n3 fun v5 h6 n7 => sBin .geq .int v5 (I 0) fun v8 => K0 v8 h6 n7 := by
 rw [zH F166.tab]; kernel_rfl
theorem F180.g1_eq (X2 : IR) (O : Outs Prop) (t : T AV) : IR.run (F180.g1 X2) C N O K t h nx = IR.run X2 C N (O.blk 0 K) K t h nx := by kernel_rfl
theorem F180.tab : T.get none (.of 180) tbl = some F180 := by kernel_rfl
theorem F180.go : zR tbl N C (.of 180) [a0, a1] h nx K0 =
 sBox a1 h nx fun v1 h2 n3 => sLen a0 fun v4 => IR.run F180.b1 C N (fnO F180.res K0) (IR.run F180.b8 C N (fnO F180.res K0) (retK F180.res K0)) (F180.fr a0 a1 v1 (I 0) .undef v4 (I 0) .undef .undef) h2 n3 := by
 rw [zH F180.tab]; kernel_rfl
theorem F180.L1 (Inv : Nat → AV → T Blk → Pa → Prop) {m : Nat} (hm : m < N) (hi : Inv m q h nx)
  (step : ∀ (m : Nat) (z3 z4 z6 z7 z8 : AV) (h : T Blk) (nx : Pa) (R : Ks Prop), Inv m z6 h nx → (∀ (m' : Nat) (w3 w4 w6 w7 w8 : AV) (h' : T Blk) (nx' : Pa), m' < m → Inv m' w6 h' nx' → R (F180.fr e b g w3 w4 l w6 w7 w8) h' nx' = .ok True) →
   (sBin .lss .int z6 l fun v1 => zM v1 (zL 2 g h fun v2 => zQ 2 e z6 fun v3 => zL 2 v3 h fun v4 => sBin .eql (.agg 2) v2 v4 fun v5 => zM v5 (K0 z6 h nx) (sBin .add .int z6 (I 1) fun v6 => R (F180.fr e b g z3 z6 l v6 v1 v5) h nx)) (K (F180.fr e b g z3 z4 l z6 v1 z8) h nx)) = .ok True) :
  IR.run F180.b1 C N (fnO F180.res K0) K (F180.fr e b g f d l q r s) h nx = .ok True := by
 rw [F180.b1, F180.g1_eq, F180.b2]
 refine zX (fun m tm h nx => ∃ z3 z4 z6 z7 z8, tm = (F180.fr e b g z3 z4 l z6 z7 z8) ∧ Inv m z6 h nx) ?_ hm ⟨_, _, _, _, _, rfl, hi⟩
 rintro m tm h nx R ⟨z3, z4, z6, z7, z8, rfl, hi⟩ hR
 refine Eq.trans ?_ (step m z3 z4 z6 z7 z8 h nx R hi fun m' w3 w4 w6 w7 w8 h' nx' hlt hi' => hR m' _ h' nx' hlt ⟨_, _, _, _, _, rfl, hi'⟩)
 kernel_rfl
theorem F180.k8 : IR.run F180.b8 C N (fnO F180.res K0) K (F180.fr e b g f d l q r s) h nx =
 K0 (I (-1)) h nx := by kernel_rfl
end Go.Ev
namespace Go.Ev
open Go Go.Proofs
set_option maxRecDepth 100000
variable {N : Nat} {C : Calls Prop} {K0 : Kw Prop} {K R : Ks Prop} {h : T Blk} {nx : Pa} {e b g f d l q r s v a0 a1 : AV}
theorem F67.tab : T.get none (.of 67) tbl = some F67 := by kernel_rfl
theorem F67.go : zR tbl N C (.of 67) [a0] h nx K0 =
 sBox a0 h nx fun v1 h2 n3 => zL 2 v1 h2 fun v4 => C.fn 115 (.of 115) [v4] h2 n3 fun v5 h6 n7 => sExt 0 v5 fun v8 => sExt 1 v5 fun v9 => C.fn 114 (.of 114) [v8, v9] h6 n7 fun vA hM nN => sExt 0 vA fun vD => sExt 1 vA fun vF => K0 (.tup [vD, vF]) hM nN := by
 rw [zH F67.tab]; kernel_rfl
theorem F68.tab : T.get none (.of 68) tbl = some F68 := by kernel_rfl
theorem F68.go : zR tbl N C (.of 68) [a0] h nx K0 =
 sBox a0 h nx fun v1 h2 n3 => zL 2 v1 h2 fun v4 => C.fn 116 (.of 116) [v4] h2 n3 fun v5 h6 n7 => sExt 0 v5 fun v8 => sExt 1 v5 fun v9 => C.fn 114 (.of 114) [v8, v9] h6 n7 fun vA hM nN => sExt 0 vA fun vD => sExt 1 vA fun vF => K0 (.tup [vD, vF]) hM nN := by
 rw [zH F68.tab]; kernel_rfl
theorem F69.g2_eq (X3 : IR) (O : Outs Prop) (t : T AV) : IR.run (F69.g2 X3) C N O K t h nx = IR.run X3 C N (O.blk 0 K) K t h nx := by kernel_rfl
theorem F69.tab : T.get none (.of 69) tbl = some F69 := by kernel_rfl
theorem F69.go : zR tbl N C (.of 69) [a0] h nx K0 =
 sBox a0 h nx fun v1 h2 n3 => jM [(I 0), .nils] h2 n3 fun v4 h5 n6 => zG 1 v1 fun v7 => zD v7 h5 fun v8 => sLen v8 fun v9 => sBin .eql .int v9 (I 0) fun vA => zM vA (gB [(I 0), .nils] [] fun vB => zZ 2 v4 vB h5 n6 fun vC hF nG => zL 2 v4 hF fun vG => K0 (.tup [vG, (I 12)]) hF nG) (IR.run F69.b2 C N (fnO F69.res K0) (IR.run F69.b9 C N (fnO F69.res K0) (retK F69.res K0)) (F69.fr a0 v1 v4 (I 0) .nils (I 0) vA .undef) h5 n6) := by
 rw [zH F69.tab]; kernel_rfl
theorem F69.L2 (Inv : Nat → AV → AV → T Blk → Pa → Prop) {m : Nat} (hm : m < N) (hi : Inv m d l h nx)
  (step : ∀ (m : Nat) (z4 z5 z7 : AV) (h : T Blk) (nx : Pa) (R : Ks Prop), Inv m z4 z5 h nx → (∀ (m' : Nat) (w4 w5 w7 : AV) (h' : T Blk) (nx' : Pa), m' < m → Inv m' w4 w5 h' nx' → R (F69.fr e b g f w4 w5 q w7) h' nx' = .ok True) →
   (zG 1 b fun v1 => zD v1 h fun v2 => sLen v2 fun v3 => sBin .lss .int z5 v3 fun v4 => zM v4 (zG 1 b fun v5 => zD v5 h fun v6 => zQ 2 v6 z5 fun v7 => yW 1 2 v7 (I 0) fun v8 => zD v8 h fun v9 => zG 1 b fun vA => zD vA h fun vB => zQ 2 vB z5 fun vC => yW 1 2 vC (I 1) fun vD => zD vD h fun vF => zG 0 b fun vG => zD vG h fun vE => sBin .add .int vE z5 fun vS => yF 1 3 [(I 0)] [(0, 1, v9), (1, 1, vF), (2, 1, vS)] h nx fun vH hG nH => zN z4 z4 (C.fn 117 (.of 117) [z4, vH] hG nH fun vK hH nI => sBin .add .int z5 (I 1) fun vN => R (F69.fr e b g f vK vN q v4) hH nI)) (K (F69.fr e b g f z4 z5 q v4) h nx)) = .ok True) :
  IR.run F69.b2 C N (fnO F69.res K0) K (F69.fr e b g f d l q r) h nx = .ok True := by
 rw [F69.b2, F69.g2_eq, F69.b3]
 refine zX (fun m tm h nx => ∃ z4 z5 z7, tm = (F69.fr e b g f z4 z5 q z7) ∧ Inv m z4 z5 h nx) ?_ hm ⟨_, _, _, rfl, hi⟩
 rintro m tm h nx R ⟨z4, z5, z7, rfl, hi⟩ hR
 refine Eq.trans ?_ (step m z4 z5 z7 h nx R hi fun m' w4 w5 w7 h' nx' hlt hi' => hR m' _ h' nx' hlt ⟨_, _, _, rfl, hi'⟩)
 kernel_rfl
theorem F69.k9 : IR.run F69.b9 C N (fnO F69.res K0) K (F69.fr e b g f d l q r) h nx =
 zG 0 b fun v1 => zD v1 h fun v2 => zG 1 b fun v3 => zD v3 h fun v4 => sLen v4 fun v5 => sBin .add .int v2 v5 fun v6 => gB [(I 0), .nils] [(0, 1, v6), (1, 1, d)] fun v7 => zZ 2 g v7 h nx fun v8 h9 nC => zL 2 g h9 fun vB => K0 (.tup [vB, (I 0)]) h9 nC := by kernel_rfl
theorem F70.g7_eq (X8 : IR) (O : Outs Prop) (t : T AV) : IR.run (F70.g7 X8) C N O K t h nx = IR.run X8 C N (O.blk 2 K) K t h nx := by kernel_rfl
theorem F70.g1_eq (X2 : IR) (O : Outs Prop) (t : T AV) : IR.run (F70.g1 X2) C N O K t h nx = IR.run X2 C N (O.blk 0 K) K t h nx := by kernel_rfl
theorem F70.tab : T.get none (.of 70) tbl = some F70 := by kernel_rfl
theorem F70.go : zR tbl N C (.of 70) [a0] h nx K0 =
 sBox a0 h nx fun v1 h2 n3 => jM [(I 0), .nils] h2 n3 fun v4 h5 n6 => IR.run F70.b1 C N (fnO F70.res K0) (IR.run F70.b16 C N (fnO F70.res K0) (retK F70.res K0)) (F70.fr a0 v1 v4 .nils (I 0) .undef .undef .undef .undef .undef) h5 n6 := by
 rw [zH F70.tab]; kernel_rfl
theorem F70.L1 (Inv : Nat → AV → AV → T Blk → Pa → Prop) {m : Nat} (hm : m < N) (hi : Inv m f d h nx)
  (step : ∀ (m : Nat) (z3 z4 z5 z6 z7 z8 z9 : AV) (h : T Blk) (nx : Pa) (R : Ks Prop), Inv m z3 z4 h nx → (∀ (m' : Nat) (w3 w4 w5 w6 w7 w8 w9 : AV) (h' : T Blk) (nx' : Pa), m' < m → Inv m' w3 w4 h' nx' → R (F70.fr e b g w3 w4 w5 w6 w7 w8 w9) h' nx' = .ok True) →
   (zG 0 b fun v1 => zD v1 h fun v2 => sBin .lss .int z4 v2 fun v3 => zM v3 (yF 1 1 [(I 0)] [(0, 1, z4)] h nx fun v4 h5 n6 => IR.run F70.b7 C N (((fnO F70.res K0).blk 0 K).blk 1 (IR.run F70.b15 C N ((fnO F70.res K0).blk 0 K) R)) (IR.run F70.b14 C N (((fnO F70.res K0).blk 0 K).blk 1 (IR.run F70.b15 C N ((fnO F70.res K0).blk 0 K) R)) (IR.run F70.b15 C N ((fnO F70.res K0).blk 0 K) R)) (F70.fr e b g z3 z4 v4 (I 0) v3 z8 z9) h5 n6) (K (F70.fr e b g z3 z4 z5 z6 v3 z8 z9) h nx)) = .ok True) :
  IR.run F70.b1 C N (fnO F70.res K0) K (F70.fr e b g f d l q r s v) h nx = .ok True := by
 rw [F70.b1, F70.g1_eq, F70.b2]
 refine zX (fun m tm h nx => ∃ z3 z4 z5 z6 z7 z8 z9, tm = (F70.fr e b g z3 z4 z5 z6 z7 z8 z9) ∧ Inv m z3 z4 h nx) ?_ hm ⟨_, _, _, _, _, _, _, rfl, hi⟩
 rintro m tm h nx R ⟨z3, z4, z5, z6, z7, z8, z9, rfl, hi⟩ hR
 refine Eq.trans ?_ (step m z3 z4 z5 z6 z7 z8 z9 h nx R hi fun m' w3 w4 w5 w6 w7 w8 w9 h' nx' hlt hi' => hR m' _ h' nx' hlt ⟨_, _, _, _, _, _, _, rfl, hi'⟩)
 kernel_rfl
theorem F70.k16 : IR.run F70.b16 C N (fnO F70.res K0) K (F70.fr e b g f d l q r s v) h nx =
 zG 0 b fun v1 => zD v1 h fun v2 => zG 1 b fun v3 => zD v3 h fun v4 => sLen v4 fun v5 => sBin .add .int v2 v5 fun v6 => gB [(I 0), .nils] [(0, 1, v6), (1, 1, f)] fun v7 => zZ 2 g v7 h nx fun v8 h9 nC => zL 2 g h9 fun vB => K0 vB h9 nC := by kernel_rfl
theorem F70.k15 {E0 : Ks Prop} : IR.run F70.b15 C N ((fnO F70.res K0).blk 0 E0) K (F70.fr e b g f d l q r s v) h nx =
 sBin .add .int d (I 1) fun v1 => K (F70.fr e b g f v1 l q r s v) h nx := by kernel_rfl
theorem F70.L7 {E0 E1 : Ks Prop} (Inv : Nat → AV → AV → T Blk → Pa → Prop) {m : Nat} (hm : m < N) (hi : Inv m l q h nx)
  (step : ∀ (m : Nat) (z5 z6 z8 z9 : AV) (h : T Blk) (nx : Pa) (R : Ks Prop), Inv m z5 z6 h nx → (∀ (m' : Nat) (w5 w6 w8 w9 : AV) (h' : T Blk) (nx' : Pa), m' < m → Inv m' w5 w6 h' nx' → R (F70.fr e b g f d w5 w6 r w8 w9) h' nx' = .ok True) →
   (zG 1 b fun v1 => zD v1 h fun v2 => sLen v2 fun v3 => sBin .lss .int z6 v3 fun v4 => zM v4 (zG 1 b fun v5 => zD v5 h fun v6 => zQ 2 v6 z6 fun v7 => yW 1 2 v7 (I 0) fun v8 => zD v8 h fun v9 => sBin .eql .int v9 d fun vA => sG vA false (fun k => zG 1 b k) fun vB => sG vA false (fun k => zD vB h k) fun vC => sG vA false (fun k => k z6) fun vD => sG vA false (fun k => zQ 2 vC vD k) fun vF => sG vA false (fun k => yW 1 2 vF (I 1) k) fun vG => sG vA false (fun k => zD vG h k) fun vE => sG vA false (fun k => k d) fun vS => sG vA false (fun k => sBin .eql .int vE vS k) fun vH => jO vA (.bool true) vH fun vI => zM vI (zG 0 b fun vJ => zD vJ h fun vK => sBin .add .int vK z6 fun vL => yF 1 1 [(I 0)] [(0, 1, vL)] h nx fun vM hL nM => sApp 1 8 z5 vM hL nM fun vP hI nJ => sBin .add .int z6 (I 1) fun vX => R (F70.fr e b g f d vP vX r v4 vI) hI nJ) (sBin .add .int z6 (I 1) fun vY => R (F70.fr e b g f d z5 vY r v4 vI) h nx)) (K (F70.fr e b g f d z5 z6 r v4 z9) h nx)) = .ok True) :
  IR.run F70.b7 C N (((fnO F70.res K0).blk 0 E0).blk 1 E1) K (F70.fr e b g f d l q r s v) h nx = .ok True := by
 rw [F70.b7, F70.g7_eq, F70.b8]
 refine zX (fun m tm h nx => ∃ z5 z6 z8 z9, tm = (F70.fr e b g f d z5 z6 r z8 z9) ∧ Inv m z5 z6 h nx) ?_ hm ⟨_, _, _, _, rfl, hi⟩
 rintro m tm h nx R ⟨z5, z6, z8, z9, rfl, hi⟩ hR
 refine Eq.trans ?_ (step m z5 z6 z8 z9 h nx R hi fun m' w5 w6 w8 w9 h' nx' hlt hi' => hR m' _ h' nx' hlt ⟨_, _, _, _, rfl, hi'⟩)
 kernel_rfl
theorem F70.k14 {E0 E1 : Ks Prop} : IR.run F70.b14 C N (((fnO F70.res K0).blk 0 E0).blk 1 E1) K (F70.fr e b g f d l q r s v) h nx =
 C.fn 117 (.of 117) [f, l] h nx fun v1 h2 n3 => K (F70.fr e b g v1 d l q r s v) h2 n3 := by kernel_rfl
theorem F114.tab : T.get none (.of 114) tbl = some F114 := by kernel_rfl
theorem F114.go : zR tbl N C (.of 114) [a0, a1] h nx K0 =
 sBox a0 h nx fun v1 h2 n3 => sBin .neq .int a1 (I 0) fun v4 => zM v4 (K0 (.tup [.nils, a1]) h2 n3) (zL 2 v1 h2 fun v5 => C.fn 63 (.of 63) [v5] h2 n3 fun v6 h7 n8 => sExt 0 v6 fun v9 => sExt 1 v6 fun vA => K0 (.tup [v9, vA]) h7 n8) := by
 rw [zH F114.tab]; kernel_rfl
end Go.Ev
namespace Go.Ev
open Go Go.Proofs
set_option maxRecDepth 100000
variable {N : Nat} {C : Calls Prop} {K0 : Kw Prop} {K R : Ks Prop} {h : T Blk} {nx : Pa} {e b g f d l q r s v a c i p o u y z w A B E D G L H F a0 a1 a2 a3 a4 a5 a6 a7 : AV}
theorem F137.g1_eq (X2 : IR) (O : Outs Prop) (t : T AV) : IR.run (F137.g1 X2) C N O K t h nx = IR.run X2 C N (O.blk 0 K) K t h nx := by kernel_rfl
theorem F137.tab : T.get none (.of 137) tbl = some F137 := by kernel_rfl
theorem F137.go : zR tbl N C (.of 137) [a0] h nx K0 =
 sBox a0 h nx fun v1 h2 n3 => zG 0 v1 fun v4 => zD v4 h2 fun v5 => kC 1 24 [.nils] v5 v5 h2 n3 fun v6 h7 n8 => zG 1 v1 fun v9 => zD v9 h7 fun vA => sLen vA fun vB => IR.run F137.b1 C N (fnO F137.res K0) (IR.run F137.b8 C N (fnO F137.res K0) (retK F137.res K0)) (F137.fr a0 v1 .nils v6 .undef .undef vA vB (I 0) .undef) h7 n8 := by
 rw [zH F137.tab]; kernel_rfl
theorem F137.L1 (Inv : Nat → AV → T Blk → Pa → Prop) {m : Nat} (hm : m < N) (hi : Inv m s h nx)
  (step : ∀ (m : Nat) (z4 z5 z8 z9 : AV) (h : T Blk) (nx : Pa) (R : Ks Prop), Inv m z8 h nx → (∀ (m' : Nat) (w4 w5 w8 w9 : AV) (h' : T Blk) (nx' : Pa), m' < m → Inv m' w8 h' nx' → R (F137.fr e b g f w4 w5 q r w8 w9) h' nx' = .ok True) →
   (sBin .lss .int z8 r fun v1 => zM v1 (zQ 1 q z8 fun v2 => zD v2 h fun v3 => sLen v3 fun v4 => sBin .sub .int v4 (I 1) fun v5 => zQ 1 v3 v5 fun v6 => zD v6 h fun v7 => zQ 1 f v7 fun v8 => zD v8 h fun v9 => yF 1 1 [.nils] [(0, 1, v3)] h nx fun vA hM nN => sApp 1 24 v9 vA hM nN fun vD hB nB => zQ 1 f v7 fun vE => zZ 1 vE vD hB nB fun vS hJ nK => sBin .add .int z8 (I 1) fun vJ => R (F137.fr e b g f v3 v7 q r vJ v1) hJ nK) (K (F137.fr e b g f z4 z5 q r z8 v1) h nx)) = .ok True) :
  IR.run F137.b1 C N (fnO F137.res K0) K (F137.fr e b g f d l q r s v) h nx = .ok True := by
 rw [F137.b1, F137.g1_eq, F137.b2]
 refine zX (fun m tm h nx => ∃ z4 z5 z8 z9, tm = (F137.fr e b g f z4 z5 q r z8 z9) ∧ Inv m z8 h nx) ?_ hm ⟨_, _, _, _, rfl, hi⟩
 rintro m tm h nx R ⟨z4, z5, z8, z9, rfl, hi⟩ hR
 refine Eq.trans ?_ (step m z4 z5 z8 z9 h nx R hi fun m' w4 w5 w8 w9 h' nx' hlt hi' => hR m' _ h' nx' hlt ⟨_, _, _, _, rfl, hi'⟩)
 kernel_rfl
theorem F137.k8 : IR.run F137.b8 C N (fnO F137.res K0) K (F137.fr e b g f d l q r s v) h nx =
 K0 f h nx := by kernel_rfl
theorem F107.tab : T.get none (.of 107) tbl = some F107 := by kernel_rfl
theorem F107.go : zR tbl N C (.of 107) [a0, a1] h nx K0 =
 sBox a0 h nx fun v1 h2 n3 => sBox a1 h2 n3 fun v4 h5 n6 => K0 (.fn 136 (.of 136) [v1, v4]) h5 n6 := by
 rw [zH F107.tab]; kernel_rfl
theorem F136.tab : T.get none (.of 136) tbl = some F136 := by kernel_rfl
theorem F136.go : zR tbl N C (.of 136) [a0, a1, a2] h nx K0 =
 sBox a0 h nx fun v1 h2 n3 => zG 0 a1 fun v4 => zD v4 h2 fun v5 => kC 1 8 [(I 0)] v5 v5 h2 n3 fun v6 h7 n8 => jM [.nils] h7 n8 fun v9 hA nA => zZ 1 v9 v6 hA nA fun vC hF nG => zL 2 a1 hF fun vG => C.fn 137 (.of 137) [vG] hF nG fun vE hP nQ => jM [.nils] hP nQ fun vI hQ nR => zZ 1 vI vE hQ nR fun vL hS nS => jM [(.int .u64 0)] hS nS fun vO hT nT => jM [.nilf] hT nT fun vR hU nU => zZ 1 vR (.fn 138 (.of 138) [a1, v1, v9, vO, vI, a2, vR]) hU nU fun v31 hV nV => zD vR hV fun vV => vZ C vV [(I 0)] hV nV fun vU hW nW => K0 (.tup []) hW nW := by
 rw [zH F136.tab]; kernel_rfl
theorem F138.g15_eq (X16 : IR) (O : Outs Prop) (t : T AV) : IR.run (F138.g15 X16) C N O K t h nx = IR.run X16 C N (O.blk 4 K) K t h nx := by kernel_rfl
theorem F138.g9_eq (X10 : IR) (O : Outs Prop) (t : T AV) : IR.run (F138.g9 X10) C N O K t h nx = IR.run X10 C N (O.blk 2 K) K t h nx := by kernel_rfl
theorem F138.g2_eq (X3 : IR) (O : Outs Prop) (t : T AV) : IR.run (F138.g2 X3) C N O K t h nx = IR.run X3 C N (O.blk 0 K) K t h nx := by kernel_rfl
theorem F138.tab : T.get none (.of 138) tbl = some F138 := by kernel_rfl
theorem F138.go : zR tbl N C (.of 138) [a0, a1, a2, a3, a4, a5, a6, a7] h nx K0 =
 zG 0 a1 fun v1 => zD v1 h fun v2 => sBin .eql .int a0 v2 fun v3 => zM v3 (zD a2 h fun v4 => zD a3 h fun v5 => vZ C v4 [v5] h nx fun v6 h7 n8 => K0 v6 h7 n8) (IR.run F138.b2 C N (fnO F138.res K0) (IR.run F138.b26 C N (fnO F138.res K0) (retK F138.res K0)) (F138.fr a0 a1 a2 a3 a4 a5 a6 a7 (.bool false) (I 1) .undef .undef .undef .undef v3 .undef .undef .undef .undef .undef .undef .undef .undef .undef .undef .undef .undef) h nx) := by
 rw [zH F138.tab]; kernel_rfl
theorem F138.L2 (Inv : Nat → AV → T Blk → Pa → Prop) {m : Nat} (hm : m < N) (hi : Inv m v h nx)
  (step : ∀ (m : Nat) (z8 z9 zJ zK zO zP zT zV zW z18 z19 zA zB zC zE zF zI zY : AV) (h : T Blk) (nx : Pa) (R : Ks Prop), Inv m z9 h nx → (∀ (m' : Nat) (w8 w9 wG wH wI wJ wL wM wN wW wX wA wB wC wD wE wF wO : AV) (h' : T Blk) (nx' : Pa), m' < m → Inv m' w9 h' nx' → R (F138.fr e b g f d l q r w8 w9 wG wH wI wJ o wL wM wN wW wX wA wB wC wD wE wF wO) h' nx' = .ok True) →
   (zG 0 b fun v1 => zD v1 h fun v2 => sBin .leq .int z9 v2 fun v3 => zM v3 (zD d h fun v4 => sBin .shr .int v4 z9 fun v5 => sBin .and .int v5 (.int .u64 1) fun v6 => sBin .eql .int v6 (.int .u64 1) fun v7 => zM v7 (sBin .add .int z9 (I 1) fun v8 => R (F138.fr e b g f d l q r z8 v8 zJ zK zO zP o v3 v7 zW z18 z19 zA zB zC zE zF zI zY) h nx) (zD f h fun v9 => zQ 1 v9 e fun vA => zZ 1 vA z9 h nx fun vB hC nD => zD l hC fun vF => zQ 1 vF e fun vG => zD vG hC fun vE => sLen vE fun vS => IR.run F138.b9 C N (((fnO F138.res K0).blk 0 K).blk 1 (IR.run F138.b25 C N ((fnO F138.res K0).blk 0 K) R)) (IR.run F138.b24 C N (((fnO F138.res K0).blk 0 K).blk 1 (IR.run F138.b25 C N ((fnO F138.res K0).blk 0 K) R)) (IR.run F138.b25 C N ((fnO F138.res K0).blk 0 K) R)) (F138.fr e b g f d l q r z8 z9 zJ zK zO zP o v3 v7 vE vS (I 0) zA zB zC zE zF zI zY) hC nD)) (K (F138.fr e b g f d l q r z8 z9 zJ zK zO zP o v3 zV zW z18 z19 zA zB zC zE zF zI zY) h nx)) = .ok True) :
  IR.run F138.b2 C N (fnO F138.res K0) K (F138.fr e b g f d l q r s v a c i p o u y z w A B E D G L H F) h nx = .ok True := by
 rw [F138.b2, F138.g2_eq, F138.b3]
 refine zX (fun m tm h nx => ∃ z8 z9 zJ zK zO zP zT zV zW z18 z19 zA zB zC zE zF zI zY, tm = (F138.fr e b g f d l q r z8 z9 zJ zK zO zP o zT zV zW z18 z19 zA zB zC zE zF zI zY) ∧ Inv m z9 h nx) ?_ hm ⟨_, _, _, _, _, _, _, _, _, _, _, _, _, _, _, _, _, _, rfl, hi⟩
 rintro m tm h nx R ⟨z8, z9, zJ, zK, zO, zP, zT, zV, zW, z18, z19, zA, zB, zC, zE, zF, zI, zY, rfl, hi⟩ hR
 refine Eq.trans ?_ (step m z8 z9 zJ zK zO zP zT zV zW z18 z19 zA zB zC zE zF zI zY h nx R hi fun m' w8 w9 wG wH wI wJ wL wM wN wW wX wA wB wC wD wE wF wO h' nx' hlt hi' => hR m' _ h' nx' hlt ⟨_, _, _, _, _, _, _, _, _, _, _, _, _, _, _, _, _, _, rfl, hi'⟩)
 kernel_rfl
theorem F138.k26 : IR.run F138.b26 C N (fnO F138.res K0) K (F138.fr e b g f d l q r s v a c i p o u y z w A B E D G L H F) h nx =
 K0 (.bool true) h nx := by kernel_rfl
theorem F138.k25 {E0 : Ks Prop} : IR.run F138.b25 C N ((fnO F138.res K0).blk 0 E0) K (F138.fr e b g f d l q r s v a c i p o u y z w A B E D G L H F) h nx =
 sBin .add .int v (I 1) fun v1 => K (F138.fr e b g f d l q r s v1 a c i p o u y z w A B E D G L H F) h nx := by kernel_rfl
theorem F138.L9 {E0 E1 : Ks Prop} (Inv : Nat → AV → T Blk → Pa → Prop) {m : Nat} (hm : m < N) (hi : Inv m A h nx)
  (step : ∀ (m : Nat) (zJ zK zO z19 zA zB zC zE zF zI : AV) (h : T Blk) (nx : Pa) (R : Ks Prop), Inv m z19 h nx → (∀ (m' : Nat) (wG wH wI wX wA wB wC wD wE wF : AV) (h' : T Blk) (nx' : Pa), m' < m → Inv m' wX h' nx' → R (F138.fr e b g f d l q r s v wG wH wI p o u y z w wX wA wB wC wD wE wF F) h' nx' = .ok True) →
   (sBin .lss .int z19 w fun v1 => zM v1 (zQ 1 z z19 fun v2 => zD v2 h fun v3 => zD q h fun v4 => sLen v3 fun v5 => IR.run F138.b15 C N (((((fnO F138.res K0).blk 0 E0).blk 1 E1).blk 2 K).blk 3 (IR.run F138.b23 C N ((((fnO F138.res K0).blk 0 E0).blk 1 E1).blk 2 K) R)) (IR.run F138.b22 C N (((((fnO F138.res K0).blk 0 E0).blk 1 E1).blk 2 K).blk 3 (IR.run F138.b23 C N ((((fnO F138.res K0).blk 0 E0).blk 1 E1).blk 2 K) R)) (IR.run F138.b23 C N ((((fnO F138.res K0).blk 0 E0).blk 1 E1).blk 2 K) R)) (F138.fr e b g f d l q r s v v3 v4 zO p o u y z w z19 v1 v3 v5 (I 0) zF zI F) h nx) (K (F138.fr e b g f d l q r s v zJ zK zO p o u y z w z19 v1 zB zC zE zF zI F) h nx)) = .ok True) :
  IR.run F138.b9 C N (((fnO F138.res K0).blk 0 E0).blk 1 E1) K (F138.fr e b g f d l q r s v a c i p o u y z w A B E D G L H F) h nx = .ok True := by
 rw [F138.b9, F138.g9_eq, F138.b10]
 refine zX (fun m tm h nx => ∃ zJ zK zO z19 zA zB zC zE zF zI, tm = (F138.fr e b g f d l q r s v zJ zK zO p o u y z w z19 zA zB zC zE zF zI F) ∧ Inv m z19 h nx) ?_ hm ⟨_, _, _, _, _, _, _, _, _, _, rfl, hi⟩
 rintro m tm h nx R ⟨zJ, zK, zO, z19, zA, zB, zC, zE, zF, zI, rfl, hi⟩ hR
 refine Eq.trans ?_ (step m zJ zK zO z19 zA zB zC zE zF zI h nx R hi fun m' wG wH wI wX wA wB wC wD wE wF h' nx' hlt hi' => hR m' _ h' nx' hlt ⟨_, _, _, _, _, _, _, _, _, _, rfl, hi'⟩)
 kernel_rfl
theorem F138.k24 {E0 E1 : Ks Prop} : IR.run F138.b24 C N (((fnO F138.res K0).blk 0 E0).blk 1 E1) K (F138.fr e b g f d l q r s v a c i p o u y z w A B E D G L H F) h nx =
 zD d h fun v1 => sBin .shl .int (.int .u64 1) v fun v2 => sBin .or .int v1 v2 fun v3 => zZ 1 d v3 h nx fun v4 h5 n6 => zD r h5 fun v7 => sBin .add .int e (I 1) fun v8 => vZ C v7 [v8] h5 n6 fun v9 hA nA => zD d hA fun vC => sBin .shl .int (.int .u64 1) v fun vD => sBin .andNot .int vC vD fun vF => zZ 1 d vF hA nA fun vG hD nE => sNot v9 fun vH => zM vH (K0 (.bool false) hD nE) (K (F138.fr e b g f d l q r s v a c i v9 o u y z w A B E D G L H vH) hD nE) := by kernel_rfl
theorem F138.k23 {E0 E1 E2 : Ks Prop} : IR.run F138.b23 C N ((((fnO F138.res K0).blk 0 E0).blk 1 E1).blk 2 E2) K (F138.fr e b g f d l q r s v a c i p o u y z w A B E D G L H F) h nx =
 sBin .add .int A (I 1) fun v1 => K (F138.fr e b g f d l q r s v a c i p o u y z w v1 B E D G L H F) h nx := by kernel_rfl
theorem F138.L15 {E0 E1 E2 E3 : Ks Prop} (Inv : Nat → AV → AV → T Blk → Pa → Prop) {m : Nat} (hm : m < N) (hi : Inv m c G h nx)
  (step : ∀ (m : Nat) (zK zO zE zF : AV) (h : T Blk) (nx : Pa) (R : Ks Prop), Inv m zK zE h nx → (∀ (m' : Nat) (wH wI wD wE : AV) (h' : T Blk) (nx' : Pa), m' < m → Inv m' wH wD h' nx' → R (F138.fr e b g f d l q r s v a wH wI p o u y z w A B E D wD wE H F) h' nx' = .ok True) →
   (sBin .lss .int zE D fun v1 => zM v1 (zQ 1 E zE fun v2 => zD v2 h fun v3 => zD f h fun v4 => zQ 1 v4 v3 fun v5 => zD v5 h fun v6 => sBin .sub .int zK v6 fun v7 => sBin .add .int zE (I 1) fun v8 => R (F138.fr e b g f d l q r s v a v7 v3 p o u y z w A B E D v8 v1 H F) h nx) (K (F138.fr e b g f d l q r s v a zK zO p o u y z w A B E D zE v1 H F) h nx)) = .ok True) :
  IR.run F138.b15 C N (((((fnO F138.res K0).blk 0 E0).blk 1 E1).blk 2 E2).blk 3 E3) K (F138.fr e b g f d l q r s v a c i p o u y z w A B E D G L H F) h nx = .ok True := by
 rw [F138.b15, F138.g15_eq, F138.b16]
 refine zX (fun m tm h nx => ∃ zK zO zE zF, tm = (F138.fr e b g f d l q r s v a zK zO p o u y z w A B E D zE zF H F) ∧ Inv m zK zE h nx) ?_ hm ⟨_, _, _, _, rfl, hi⟩
 rintro m tm h nx R ⟨zK, zO, zE, zF, rfl, hi⟩ hR
 refine Eq.trans ?_ (step m zK zO zE zF h nx R hi fun m' wH wI wD wE h' nx' hlt hi' => hR m' _ h' nx' hlt ⟨_, _, _, _, rfl, hi'⟩)
 kernel_rfl
theorem F138.k22 {E0 E1 E2 E3 : Ks Prop} : IR.run F138.b22 C N (((((fnO F138.res K0).blk 0 E0).blk 1 E1).blk 2 E2).blk 3 E3) K (F138.fr e b g f d l q r s v a c i p o u y z w A B E D G L H F) h nx =
 sBin .neq .int c (I 0) fun v1 => zM v1 (E1 (F138.fr e b g f d l q r s v a c i p o u y z w A B E D G L v1 F) h nx) (K (F138.fr e b g f d l q r s v a c i p o u y z w A B E D G L v1 F) h nx) := by kernel_rfl
theorem F106.tab : T.get none (.of 106) tbl = some F106 := by kernel_rfl
theorem F106.go : zR tbl N C (.of 106) [a0] h nx K0 =
 sBox a0 h nx fun v1 h2 n3 => zL 2 v1 h2 fun v4 => zG 0 v1 fun v5 => zD v5 h2 fun v6 => sBin .gtr .int v6 (I 9) fun v7 => C.fn 81 (.of 81) [v4] h2 n3 fun v8 h9 nC => (sBin .gtr .int v6 (I 9) fun vL => zN vL v7 ((zD v5 h9 fun vK => zN vK v6 ((zG 0 v1 fun vJ => zN vJ v5 (C.fn 82 (.of 82) [v7, (I 20)] h9 nC fun vB hC nD => yF 1 2 [(I 0)] [(0, 1, v8), (1, 1, vB)] hC nD fun vF hE nF => C.fn 80 (.of 80) [vF] hE nF fun vS hJ nK => K0 vS hJ nK)))))) := by
 rw [zH F106.tab]; kernel_rfl
end Go.Ev
namespace Go.Ev
open Go Go.Proofs
set_option maxRecDepth 100000
variable {N : Nat} {C : Calls Prop} {K0 : Kw Prop} {K R : Ks Prop} {h : T Blk} {nx : Pa} {e b g f d l q r s v a c i p o a0 a1 a2 a3 : AV}
theorem F139.g11_eq (X12 : IR) (O : Outs Prop) (t : T AV) : IR.run (F139.g11 X12) C N O K t h nx = IR.run X12 C N (O.blk 2 K) K t h nx := by kernel_rfl
theorem F139.tab : T.get none (.of 139) tbl = some F139 := by kernel_rfl
theorem F139.go : zR tbl N C (.of 139) [a0, a1, a2] h nx K0 =
 sBox a0 h nx fun v1 h2 n3 => sBox a2 h2 n3 fun v4 h5 n6 => jM [(I 0), (.bool false), (I 0), (I 0), .nils, .nils, .nils] h5 n6 fun v7 h8 n9 => zG 3 v4 fun vA => zD vA h8 fun vB => sBin .add .int vB (I 1) fun vC => zG 3 v4 fun vD => zZ 1 vD vC h8 n9 fun vF hE nF => zG 6 v4 fun vS => zD vS hE fun vH => sBin .neq (.nil .sl) vH .nils fun vI => zM vI (IR.run F139.b1 C N (fnO F139.res K0) (IR.run F139.b8 C N (fnO F139.res K0) (retK F139.res K0)) (F139.fr a0 a1 a2 v1 v4 v7 (I 0) .undef .undef vI .undef .undef .undef .undef .undef) hE nF) ((IR.run F139.b8 C N (fnO F139.res K0) (retK F139.res K0)) (F139.fr a0 a1 a2 v1 v4 v7 .undef .undef .undef vI .undef .undef .undef .undef .undef) hE nF) := by
 rw [zH F139.tab]; kernel_rfl
theorem F139.k8 : IR.run F139.b8 C N (fnO F139.res K0) K (F139.fr e b g f d l q r s v a c i p o) h nx =
 zG 5 d fun v1 => zD v1 h fun v2 => sLen v2 fun v3 => zG 2 d fun v4 => zD v4 h fun v5 => sBin .lss .int v3 v5 fun v6 => zM v6 (zG 5 d fun v7 => zD v7 h fun v8 => yF 1 0 [(I 0)] [] h nx fun v9 hA nA => zN b b ((zD v7 hA fun vY => zN vY v8 ((zG 5 d fun vX => zN vX v7 (sApp 1 8 v9 b hA nA fun vC hF nG => (zD v7 hF fun vR => zN vR v8 ((zG 5 d fun vQ => zN vQ v7 (yF 1 1 [.nils] [(0, 1, vC)] hF nG fun vG hD nE => (zD v7 hD fun vP => zN vP v8 ((zG 5 d fun vO => zN vO v7 (sApp 1 24 v8 vG hD nE fun vH hG nH => zG 5 d fun vK => zZ 1 vK vH hG nH fun vL hS nS => (IR.run F139.b9 C N (fnO F139.res K0) K) (F139.fr e b g f d l q r s v a v6 i p o) hS nS)))))))))))))) ((IR.run F139.b9 C N (fnO F139.res K0) K) (F139.fr e b g f d l q r s v a v6 i p o) h nx) := by kernel_rfl
theorem F139.k9 : IR.run F139.b9 C N (fnO F139.res K0) K (F139.fr e b g f d l q r s v a c i p o) h nx =
 zG 1 f fun v1 => zD v1 h fun v2 => sLen v2 fun v3 => sBin .eql .int v3 (I 0) fun v4 => zM v4 (zL 7 d h fun v5 => zZ 7 l v5 h nx fun v6 h7 n8 => zL 7 l h7 fun v9 => K0 v9 h7 n8) (zG 1 f fun vA => zD vA h fun vB => zQ 1 vB (I 0) fun vC => zD vC h fun vD => C.fn 127 (.of 127) [vD, b] h nx fun vF hE nF => IR.run F139.b11 C N (fnO F139.res K0) (IR.run F139.b16 C N (fnO F139.res K0) K) (F139.fr e b g f d l q vF (I 0) v a c v4 p o) hE nF) := by kernel_rfl
theorem F139.L11 (Inv : Nat → AV → T Blk → Pa → Prop) {m : Nat} (hm : m < N) (hi : Inv m s h nx)
  (step : ∀ (m : Nat) (z8 zP : AV) (h : T Blk) (nx : Pa) (R : Ks Prop), Inv m z8 h nx → (∀ (m' : Nat) (w8 wJ : AV) (h' : T Blk) (nx' : Pa), m' < m → Inv m' w8 h' nx' → R (F139.fr e b g f d l q r w8 v a c i wJ o) h' nx' = .ok True) →
   (zG 4 d fun v1 => zD v1 h fun v2 => sLen v2 fun v3 => sBin .lss .int z8 v3 fun v4 => sG v4 true (fun k => zG 4 d k) fun v5 => sG v4 true (fun k => zD v5 h k) fun v6 => sG v4 true (fun k => k z8) fun v7 => sG v4 true (fun k => zQ 2 v6 v7 k) fun v8 => sG v4 true (fun k => yW 1 2 v8 (I 0) k) fun v9 => sG v4 true (fun k => zD v9 h k) fun vA => sG v4 true (fun k => k r) fun vB => sG v4 true (fun k => sBin .lss .int vA vB k) fun vC => jO v4 vC (.bool false) fun vD => zM vD ((IR.run F139.b14 C N ((fnO F139.res K0).blk 2 K) R) (F139.fr e b g f d l q r z8 v a c i vD o) h nx) (K (F139.fr e b g f d l q r z8 v a c i vD o) h nx)) = .ok True) :
  IR.run F139.b11 C N (fnO F139.res K0) K (F139.fr e b g f d l q r s v a c i p o) h nx = .ok True := by
 rw [F139.b11, F139.g11_eq, F139.b12]
 refine zX (fun m tm h nx => ∃ z8 zP, tm = (F139.fr e b g f d l q r z8 v a c i zP o) ∧ Inv m z8 h nx) ?_ hm ⟨_, _, rfl, hi⟩
 rintro m tm h nx R ⟨z8, zP, rfl, hi⟩ hR
 refine Eq.trans ?_ (step m z8 zP h nx R hi fun m' w8 wJ h' nx' hlt hi' => hR m' _ h' nx' hlt ⟨_, _, rfl, hi'⟩)
 kernel_rfl
theorem F139.k16 : IR.run F139.b16 C N (fnO F139.res K0) K (F139.fr e b g f d l q r s v a c i p o) h nx =
 zG 4 d fun v1 => zD v1 h fun v2 => sLen v2 fun v3 => sBin .lss .int s v3 fun v4 => sG v4 true (fun k => zG 4 d k) fun v5 => sG v4 true (fun k => zD v5 h k) fun v6 => sG v4 true (fun k => k s) fun v7 => sG v4 true (fun k => zQ 2 v6 v7 k) fun v8 => sG v4 true (fun k => yW 1 2 v8 (I 0) k) fun v9 => sG v4 true (fun k => zD v9 h k) fun vA => sG v4 true (fun k => k r) fun vB => sG v4 true (fun k => sBin .eql .int vA vB k) fun vC => jO v4 vC (.bool false) fun vD => zM vD (zG 4 d fun vF => zD vF h fun vG => zQ 2 vG s fun vE => yW 1 2 vE (I 1) fun vS => zD vS h fun vH => sBin .add .int vH (I 1) fun vI => zQ 2 vG s fun vJ => yW 1 2 vJ (I 1) fun vK => zZ 1 vK vI h nx fun vL hS nS => zL 7 d hS fun vO => zZ 7 l vO hS nS fun vP hI nJ => zL 7 l hI fun vX => K0 vX hI nJ) ((IR.run F139.b17 C N (fnO F139.res K0) K) (F139.fr e b g f d l q r s v a c i p vD) h nx) := by kernel_rfl
theorem F139.k14 {E2 : Ks Prop} : IR.run F139.b14 C N ((fnO F139.res K0).blk 2 E2) K (F139.fr e b g f d l q r s v a c i p o) h nx =
 sBin .add .int s (I 1) fun v1 => K (F139.fr e b g f d l q r v1 v a c i p o) h nx := by kernel_rfl
theorem F139.k17 : IR.run F139.b17 C N (fnO F139.res K0) K (F139.fr e b g f d l q r s v a c i p o) h nx =
 sChk ((jK (repl 0 [(I 0), (I 0)]) []).isSome && true) (zG 4 d fun v1 => zD v1 h fun v2 => gG 2 v2 none (some s) none fun v3 => gB [(I 0), (I 0)] [(0, 1, r), (1, 1, (I 1))] fun v4 => sChk ((jK (repl 1 [(I 0), (I 0)]) [(0, 2, v4)]).isSome && true) (zG 4 d fun v5 => zD v5 h fun v6 => gG 2 v6 (some s) none none fun v7 => yF 2 0 [(I 0), (I 0)] [] h nx fun v8 h9 nC => (gG 2 v6 (some s) none none fun v54 => zN v54 v7 (zN s s ((zD v5 h9 fun v53 => zN v53 v6 ((zG 4 d fun v52 => zN v52 v5 ((gB [(I 0), (I 0)] [(0, 1, r), (1, 1, (I 1))] fun v51 => zN v51 v4 (zN r r ((gG 2 v2 none (some s) none fun v50 => zN v50 v3 (zN s s ((zD v1 h9 fun v49 => zN v49 v2 ((zG 4 d fun v48 => zN v48 v1 (sApp 2 16 v8 v3 h9 nC fun vB hC nD => (gG 2 v6 (some s) none none fun v47 => zN v47 v7 (zN s s ((zD v5 hC fun v46 => zN v46 v6 ((zG 4 d fun v45 => zN v45 v5 ((gB [(I 0), (I 0)] [(0, 1, r), (1, 1, (I 1))] fun v44 => zN v44 v4 (zN r r ((gG 2 v2 none (some s) none fun v43 => zN v43 v3 (zN s s ((zD v1 hC fun v42 => zN v42 v2 ((zG 4 d fun v41 => zN v41 v1 (yF 2 1 [(I 0), (I 0)] [(0, 2, v4)] hC nD fun vF hE nF => (gG 2 v6 (some s) none none fun v40 => zN v40 v7 (zN s s ((zD v5 hE fun v39 => zN v39 v6 ((zG 4 d fun v38 => zN v38 v5 ((gG 2 v2 none (some s) none fun v37 => zN v37 v3 (zN s s ((zD v1 hE fun vT => zN vT v2 ((zG 4 d fun vU => zN vU v1 (sApp 2 16 vB vF hE nF fun vS hJ nK => (gG 2 v6 (some s) none none fun vV => zN vV v7 (zN s s ((zD v5 hJ fun vW => zN vW v6 ((zG 4 d fun v32 => zN v32 v5 (sApp 2 16 vS v7 hJ nK fun vJ hK nL => zG 4 d fun vM => zZ 1 vM vJ hK nL fun vN hN nO => zL 7 d hN fun vQ => zZ 7 l vQ hN nO fun vR hU nU => zL 7 l hU fun v31 => K0 v31 hU nU))))))))))))))))))))))))))))))))))))))))))))))))))))))))) := by kernel_rfl
theorem F108.g3_eq (X4 : IR) (O : Outs Prop) (t : T AV) : IR.run (F108.g3 X4) C N O K t h nx = IR.run X4 C N (O.blk 0 K) K t h nx := by kernel_rfl
theorem F108.tab : T.get none (.of 108) tbl = some F108 := by kernel_rfl
theorem F108.go : zR tbl N C (.of 108) [a0, a1, a2, a3] h nx K0 =
 sBox a0 h nx fun v1 h2 n3 => sBox a3 h2 n3 fun v4 h5 n6 => jM [(I 0), (.bool false), (I 0), (I 0), .nils, .nils, .nils] h5 n6 fun v7 h8 n9 => zL 2 v1 h8 fun vA => zL 7 v4 h8 fun vB => C.fn 90 (.of 90) [vA, a1, vB] h8 n9 fun vC hF nG => sNot vC fun vG => zM vG (zL 7 v4 hF fun vE => zZ 7 v7 vE hF nG fun vS hJ nK => zL 7 v7 hJ fun vJ => K0 vJ hJ nK) (sLen a1 fun vK => zG 0 v1 fun vL => zD vL hF fun vM => sBin .eql .int vK vM fun vN => zM vN (zL 2 v1 hF fun vO => zL 7 v4 hF fun vP => C.fn 139 (.of 139) [vO, a1, vP] hF nG fun vQ hO nP => zZ 7 v7 vQ hO nP fun vY hX nX => zL 7 v7 hX fun vW => K0 vW hX nX) (IR.run F108.b3 C N (fnO F108.res K0) (IR.run F108.b11 C N (fnO F108.res K0) (retK F108.res K0)) (F108.fr a0 a1 a2 a3 v1 v4 v7 (I 1) vG vN .undef .undef) hF nG)) := by
 rw [zH F108.tab]; kernel_rfl
theorem F108.L3 (Inv : Nat → AV → T Blk → Pa → Prop) {m : Nat} (hm : m < N) (hi : Inv m r h nx)
  (step : ∀ (m : Nat) (z7 zJ zK : AV) (h : T Blk) (nx : Pa) (R : Ks Prop), Inv m z7 h nx → (∀ (m' : Nat) (w7 wG wH : AV) (h' : T Blk) (nx' : Pa), m' < m → Inv m' w7 h' nx' → R (F108.fr e b g f d l q w7 s v wG wH) h' nx' = .ok True) →
   (zG 0 d fun v1 => zD v1 h fun v2 => sBin .leq .int z7 v2 fun v3 => zM v3 (zQ 1 g z7 fun v4 => zD v4 h fun v5 => zM v5 (sBin .add .int z7 (I 1) fun v6 => R (F108.fr e b g f d l q v6 s v v3 v5) h nx) (zQ 1 g z7 fun v7 => zZ 1 v7 (.bool true) h nx fun v8 h9 nC => sChk ((jK (repl 0 [(I 0)]) []).isSome && true) (zL 2 d h9 fun vB => sChk ((jK (repl 1 [(I 0)]) [(0, 1, z7)]).isSome && true) (zL 7 l h9 fun vC => yF 1 0 [(I 0)] [] h9 nC fun vD hB nB => (zL 7 l hB fun v43 => zN v43 vC (zN g g (zN z7 z7 (zN b b ((zL 2 d hB fun v42 => zN v42 vB (sApp 1 8 vD b hB nB fun vE hP nQ => (zL 7 l hP fun v41 => zN v41 vC (zN g g (zN z7 z7 (zN b b ((zL 2 d hP fun v40 => zN v40 vB (yF 1 1 [(I 0)] [(0, 1, z7)] hP nQ fun vI hQ nR => (zL 7 l hQ fun v39 => zN v39 vC (zN g g (zN b b ((zL 2 d hQ fun v38 => zN v38 vB (sApp 1 8 vE vI hQ nR fun vL hS nS => (zL 7 l hS fun v37 => zN v37 vC (zN g g ((zL 2 d hS fun vT => zN vT vB (C.fn 108 (.of 108) [vB, vL, g, vC] hS nS fun vO hT nT => zZ 7 l vO hT nT fun vR hU nU => zQ 1 g z7 fun v31 => zZ 1 v31 (.bool false) hU nU fun v32 hY nY => sBin .add .int z7 (I 1) fun vU => R (F108.fr e b g f d l q vU s v v3 v5) hY nY))))))))))))))))))))))))))))) (K (F108.fr e b g f d l q z7 s v v3 zK) h nx)) = .ok True) :
  IR.run F108.b3 C N (fnO F108.res K0) K (F108.fr e b g f d l q r s v a c) h nx = .ok True := by
 rw [F108.b3, F108.g3_eq, F108.b4]
 refine zX (fun m tm h nx => ∃ z7 zJ zK, tm = (F108.fr e b g f d l q z7 s v zJ zK) ∧ Inv m z7 h nx) ?_ hm ⟨_, _, _, rfl, hi⟩
 rintro m tm h nx R ⟨z7, zJ, zK, rfl, hi⟩ hR
 refine Eq.trans ?_ (step m z7 zJ zK h nx R hi fun m' w7 wG wH h' nx' hlt hi' => hR m' _ h' nx' hlt ⟨_, _, _, rfl, hi'⟩)
 kernel_rfl
theorem F108.k11 : IR.run F108.b11 C N (fnO F108.res K0) K (F108.fr e b g f d l q r s v a c) h nx =
 zL 7 l h fun v1 => zZ 7 q v1 h nx fun v2 h3 n4 => zL 7 q h3 fun v5 => K0 v5 h3 n4 := by kernel_rfl
theorem F65.tab : T.get none (.of 65) tbl = some F65 := by kernel_rfl
theorem F65.go : zR tbl N C (.of 65) [a0, a1] h nx K0 =
 sBox a0 h nx fun v1 h2 n3 => jM [(I 0), (.bool false), (I 0), (I 0), .nils, .nils, .nils] h2 n3 fun v4 h5 n6 => zL 2 v1 h5 fun v7 => zG 0 v1 fun v8 => zD v8 h5 fun v9 => sBin .add .int v9 (I 1) fun vA => gB [(I 0), (.bool false), (I 0), (I 0), .nils, .nils, .nils] [(1, 1, (.bool true)), (2, 1, a1)] fun vB => kC 1 1 [(.bool false)] vA vA h5 n6 fun vC hF nG => (gB [(I 0), (.bool false), (I 0), (I 0), .nils, .nils, .nils] [(1, 1, (.bool true)), (2, 1, a1)] fun vM => zN vM vB (zN a1 a1 ((zL 2 v1 hF fun vL => zN vL v7 (C.fn 108 (.of 108) [v7, .nils, vC, vB] hF nG fun vG hD nE => zZ 7 v4 vG hD nE fun vH hG nH => zL 7 v4 hG fun vK => K0 vK hG nH))))) := by
 rw [zH F65.tab]; kernel_rfl
end Go.Ev
namespace Go.Ev
open Go Go.Proofs
set_option maxRecDepth 100000
variable {N : Nat} {C : Calls Prop} {K0 : Kw Prop} {K R : Ks Prop} {h : T Blk} {nx : Pa} {e b g f d l q r s v a c a0 a1 : AV}
theorem F66.g2_eq (X3 : IR) (O : Outs Prop) (t : T AV) : IR.run (F66.g2 X3) C N O K t h nx = IR.run X3 C N (O.blk 0 K) K t h nx := by kernel_rfl
theorem F66.tab : T.get none (.of 66) tbl = some F66 := by kernel_rfl
theorem F66.go : zR tbl N C (.of 66) [a0, a1] h nx K0 =
 sLen a0 fun v1 => sLen a1 fun v2 => sBin .neq .int v1 v2 fun v3 => zM v3 (K0 (.bool false) h nx) (IR.run F66.b2 C N (fnO F66.res K0) (IR.run F66.b9 C N (fnO F66.res K0) (retK F66.res K0)) (F66.fr a0 a1 (.bool false) (I 0) v3 .undef .undef) h nx) := by
 rw [zH F66.tab]; kernel_rfl
theorem F66.L2 (Inv : Nat → AV → T Blk → Pa → Prop) {m : Nat} (hm : m < N) (hi : Inv m f h nx)
  (step : ∀ (m : Nat) (z2 z3 z5 z6 : AV) (h : T Blk) (nx : Pa) (R : Ks Prop), Inv m z3 h nx → (∀ (m' : Nat) (w2 w3 w5 w6 : AV) (h' : T Blk) (nx' : Pa), m' < m → Inv m' w3 h' nx' → R (F66.fr e b w2 w3 d w5 w6) h' nx' = .ok True) →
   (sLen e fun v1 => sBin .lss .int z3 v1 fun v2 => zM v2 (zQ 2 e z3 fun v3 => zL 2 v3 h fun v4 => zQ 2 b z3 fun v5 => zL 2 v5 h fun v6 => sBin .neq (.agg 2) v4 v6 fun v7 => zM v7 (K0 (.bool false) h nx) (sBin .add .int z3 (I 1) fun v8 => R (F66.fr e b z2 v8 d v2 v7) h nx)) (K (F66.fr e b z2 z3 d v2 z6) h nx)) = .ok True) :
  IR.run F66.b2 C N (fnO F66.res K0) K (F66.fr e b g f d l q) h nx = .ok True := by
 rw [F66.b2, F66.g2_eq, F66.b3]
 refine zX (fun m tm h nx => ∃ z2 z3 z5 z6, tm = (F66.fr e b z2 z3 d z5 z6) ∧ Inv m z3 h nx) ?_ hm ⟨_, _, _, _, rfl, hi⟩
 rintro m tm h nx R ⟨z2, z3, z5, z6, rfl, hi⟩ hR
 refine Eq.trans ?_ (step m z2 z3 z5 z6 h nx R hi fun m' w2 w3 w5 w6 h' nx' hlt hi' => hR m' _ h' nx' hlt ⟨_, _, _, _, rfl, hi'⟩)
 kernel_rfl
theorem F66.k9 : IR.run F66.b9 C N (fnO F66.res K0) K (F66.fr e b g f d l q) h nx =
 K0 (.bool true) h nx := by kernel_rfl
theorem F113.g1_eq (X2 : IR) (O : Outs Prop) (t : T AV) : IR.run (F113.g1 X2) C N O K t h nx = IR.run X2 C N (O.blk 0 K) K t h nx := by kernel_rfl
theorem F113.tab : T.get none (.of 113) tbl = some F113 := by kernel_rfl
theorem F113.go : zR tbl N C (.of 113) [a0] h nx K0 =
 sBox a0 h nx fun v1 h2 n3 => zL 2 v1 h2 fun v4 => C.fn 83 (.of 83) [v4] h2 n3 fun v5 h6 n7 => sExt 0 v5 fun v8 => sExt 1 v5 fun v9 => IR.run F113.b1 C N (fnO F113.res K0) (IR.run F113.b14 C N (fnO F113.res K0) (retK F113.res K0)) (F113.fr a0 v1 .nils .nils v8 v9 v8 .undef .undef .undef .undef .undef) h6 n7 := by
 rw [zH F113.tab]; kernel_rfl
theorem F113.L1 (Inv : Nat → AV → AV → AV → AV → T Blk → Pa → Prop) {m : Nat} (hm : m < N) (hi : Inv m f q a c h nx)
  (step : ∀ (m : Nat) (z3 z6 z7 z8 z9 zJ zK : AV) (h : T Blk) (nx : Pa) (R : Ks Prop), Inv m z3 z6 zJ zK h nx → (∀ (m' : Nat) (w3 w6 w7 w8 w9 wG wH : AV) (h' : T Blk) (nx' : Pa), m' < m → Inv m' w3 w6 wG wH h' nx' → R (F113.fr e b g w3 d l w6 w7 w8 w9 wG wH) h' nx' = .ok True) →
   (sBin .leq .int z6 l fun v1 => zM v1 (jM [(I 0)] h nx fun v2 h3 n4 => zZ 1 v2 (I 0) h3 n4 fun v5 h6 n7 => zL 2 b h6 fun v8 => C.fn 107 (.of 107) [v8, z6] h6 n7 fun v9 hA nA => IR.run (.rf (.t (.of 9)) [(.of 10)] F113.b9 F113.b10) C N ((((fnO F113.res K0).blk 0 K).blk 1 (IR.run F113.b13 C N ((fnO F113.res K0).blk 0 K) R)).blk 2 (IR.run F113.b12 C N (((fnO F113.res K0).blk 0 K).blk 1 (IR.run F113.b13 C N ((fnO F113.res K0).blk 0 K) R)) (IR.run F113.b13 C N ((fnO F113.res K0).blk 0 K) R))) (IR.run F113.b12 C N (((fnO F113.res K0).blk 0 K).blk 1 (IR.run F113.b13 C N ((fnO F113.res K0).blk 0 K) R)) (IR.run F113.b13 C N ((fnO F113.res K0).blk 0 K) R)) (F113.fr e b g z3 d l z6 v2 v1 v9 zJ zK) hA nA) (K (F113.fr e b g z3 d l z6 z7 v1 z9 zJ zK) h nx)) = .ok True) :
  IR.run F113.b1 C N (fnO F113.res K0) K (F113.fr e b g f d l q r s v a c) h nx = .ok True := by
 rw [F113.b1, F113.g1_eq, F113.b2]
 refine zX (fun m tm h nx => ∃ z3 z6 z7 z8 z9 zJ zK, tm = (F113.fr e b g z3 d l z6 z7 z8 z9 zJ zK) ∧ Inv m z3 z6 zJ zK h nx) ?_ hm ⟨_, _, _, _, _, _, _, rfl, hi⟩
 rintro m tm h nx R ⟨z3, z6, z7, z8, z9, zJ, zK, rfl, hi⟩ hR
 refine Eq.trans ?_ (step m z3 z6 z7 z8 z9 zJ zK h nx R hi fun m' w3 w6 w7 w8 w9 wG wH h' nx' hlt hi' => hR m' _ h' nx' hlt ⟨_, _, _, _, _, _, _, rfl, hi'⟩)
 kernel_rfl
theorem F113.k14 : IR.run F113.b14 C N (fnO F113.res K0) K (F113.fr e b g f d l q r s v a c) h nx =
 K0 f h nx := by kernel_rfl
theorem F113.k13 {E0 : Ks Prop} : IR.run F113.b13 C N ((fnO F113.res K0).blk 0 E0) K (F113.fr e b g f d l q r s v a c) h nx =
 sBin .add .int q (I 1) fun v1 => K (F113.fr e b g f d l v1 r s v a c) h nx := by kernel_rfl
theorem F113.k12 {E0 E1 : Ks Prop} : IR.run F113.b12 C N (((fnO F113.res K0).blk 0 E0).blk 1 E1) K (F113.fr e b g f d l q r s v a c) h nx =
 zD r h fun v1 => sBin .gtr .int v1 (I 0) fun v2 => zM v2 (zD r h fun v3 => gB [(I 0), (I 0)] [(0, 1, q), (1, 1, v3)] fun v4 => yF 2 1 [(I 0), (I 0)] [(0, 2, v4)] h nx fun v5 h6 n7 => sApp 2 16 f v5 h6 n7 fun v8 h9 nC => K (F113.fr e b g v8 d l q r s v a v2) h9 nC) (K (F113.fr e b g f d l q r s v a v2) h nx) := by kernel_rfl
theorem F113.y10 {N : Nat} {C : Calls Prop} {K0 : Kw Prop} {id nx : Pa} {j : Jump} {h h1 : T Blk} {e b g f d l q r s v a c z0 : AV} (hl : T.get .no id h = .loop .ready j (F113.fr e b g f d l q r s v a c) [.of 10] F113.b9 F113.b10) (he : h1 = T.set .no (.loop .busy j (F113.fr e b g f d l q r s v a c) [.of 10] F113.b9 F113.b10) id h) :
 qT N C id [z0] h nx K0 =
 zD r h1 fun v1 => sBin .add .int v1 (I 1) fun v2 => zZ 1 r v2 h1 nx fun v3 h4 n5 => gM id K0 .none true .e h4 n5 := by
 subst he
 rw [rnd_of hl (tm1 := (F113.fr e b g f d l q r s v z0 c)) (tm2 := (F113.fr e b g f d l q r s v z0 c)) (by intro k; kernel_rfl) (by intro O K h nx; kernel_rfl)]; kernel_rfl
end Go.Ev
namespace Go.Ev
open Go Go.Proofs
set_option maxRecDepth 100000
variable {N : Nat} {C : Calls Prop} {K0 : Kw Prop} {K R : Ks Prop} {h : T Blk} {nx : Pa} {e b g f d l q r s v a c i p o u a0 : AV}
theorem F63.tab : T.get none (.of 63) tbl = some F63 := by kernel_rfl
theorem F63.go : zR tbl N C (.of 63) [a0] h nx K0 =
 sBox a0 h nx fun v1 h2 n3 => zL 2 v1 h2 fun v4 => zG 1 v1 fun v5 => zD v5 h2 fun v6 => sLen v6 fun v7 => sBin .eql .int v7 (I 0) fun v8 => C.fn 106 (.of 106) [v4] h2 n3 fun v9 hA nA => (sBin .eql .int v7 (I 0) fun vX => zN vX v8 ((sLen v6 fun vR => zN vR v7 ((zD v5 hA fun vQ => zN vQ v6 ((zG 1 v1 fun vP => zN vP v5 (C.fn 82 (.of 82) [v8, (I 12)] hA nA fun vC hF nG => yF 1 2 [(I 0)] [(0, 1, v9), (1, 1, vC)] hF nG fun vG hD nE => C.fn 80 (.of 80) [vG] hD nE fun vH hG nH => sBin .neq .int vH (I 0) fun vK => zM vK (K0 (.tup [.nils, vH]) hG nH) (zL 2 v1 hG fun vL => C.fn 113 (.of 113) [vL] hG nH fun vM hL nM => K0 (.tup [vM, (I 0)]) hL nM))))))))) := by
 rw [zH F63.tab]; kernel_rfl
end Go.Ev
namespace Go.Ev
open Go Go.Proofs
set_option maxRecDepth 100000
variable {N : Nat} {C : Calls Prop} {K0 : Kw Prop} {K R : Ks Prop} {h : T Blk} {nx : Pa} {e b g f d l q r s v a c i p o u a0 : AV}
variable {s0 s1 s2 s3 s4 s5 s6 s7 s8 s9 s10 s11 s12 s13 s14 s15 s16 s17 s18 s19 : AV} {S : List AV}
noncomputable def F16.r5 : List RO := [.p .push (some ((.s 20), false)) (.pick (.s 7) (.s 0) (.c (.bool false))), .q (.of 11) (.pick (.s 21) (.c (.bool true)) (.s 0))]
noncomputable def F16.r10 : List RO := [.p .push (some ((.s 13), false)) (.pick (.s 10) (.s 0) (.c (.bool false))), .q (.of 14) (.pick (.s 14) (.c (.bool true)) (.s 0))]
noncomputable def F16.r12 : List RO := (.p .push (some ((.s 9), true)) (.pick (.s 6) (.c (.bool true)) (.s 0))) :: F16.r10
noncomputable def F16.r3 : List RO := (.p .push (some ((.s 0), true)) (.faddr 0 (.t (.of 1)))) :: (.p .push (some ((.s 1), true)) (.load (.s 0))) :: (.p .push (some ((.s 2), true)) (.faddr 1 (.t (.of 1)))) :: (.p .push (some ((.s 3), true)) (.load (.s 0))) :: (.p .push (some ((.s 4), true)) (.len (.s 0))) :: (.p .push (some ((.s 5), true)) (.bin .add .int (.s 3) (.s 0))) :: (.p .push (some ((.s 6), true)) (.bin .leq .int (.s 0) (.c (I 9)))) :: F16.r5
noncomputable def F16.r9 : List RO := (.p .push (some ((.s 0), false)) (.mv (.t (.of 3)))) :: (.p .push (some ((.s 1), false)) (.loadN 2 (.t (.of 9)))) :: (.w .push (some ((.s 2), false)) (.call (.c (.fn 65 (.of 65) [])) [(.s 0), (.c (I 0))])) :: (.p .push (some ((.s 3), false)) (.part 4 none (.s 0))) :: (.w .push (some ((.s 4), false)) (.call (.c (.fn 66 (.of 66) [])) [(.s 3), (.s 0)])) :: (.p .push (some ((.s 5), false)) (.not (.s 0))) :: F16.r12
noncomputable def F16.r2 : List RO := (.p .push (some ((.s 11), false)) (.pick (.s 7) (.s 0) (.c (.bool false)))) :: (.p .push (some ((.s 12), false)) (.mv (.s 0))) :: F16.r3
noncomputable def F16.r7 : List RO := (.p .push (some ((.s 0), true)) (.mv (.t (.of 4)))) :: (.p .push (some ((.s 1), true)) (.bin .neq .int (.s 0) (.c (I 0)))) :: (.p .push (some ((.s 2), true)) (.mv (.s 0))) :: F16.r9
noncomputable def F16.r11 : List RO := (.p .push (some ((.s 0), false)) (.mv (.t (.of 10)))) :: (.p .push (some ((.s 1), false)) (.bin .eql .int (.s 0) (.c (I 0)))) :: (.p .push (some ((.s 2), false)) (.mv (.s 0))) :: F16.r7
noncomputable def F16.r1 : List RO := (.p .push (some ((.s 0), true)) (.faddr 0 (.t (.of 1)))) :: (.p .push (some ((.s 1), true)) (.load (.s 0))) :: (.p .push (some ((.s 2), true)) (.faddr 1 (.t (.of 1)))) :: (.p .push (some ((.s 3), true)) (.load (.s 0))) :: (.p .push (some ((.s 4), true)) (.len (.s 0))) :: (.p .push (some ((.s 5), true)) (.bin .add .int (.s 3) (.s 0))) :: (.p .push (some ((.s 6), true)) (.bin .gtr .int (.s 0) (.c (I 7)))) :: F16.r2
noncomputable def F16.r8 : List RO := (.p .push (some ((.s 7), true)) (.pick (.s 3) (.c (.bool true)) (.s 0))) :: (.s (.pick (.s 8) (.s 0) (.c (.bool false)))) :: (.s (.mv (.s 0))) :: F16.r11
noncomputable def F16.r6 : List RO := (.p .push (some ((.s 0), false)) (.mv (.t (.of 4)))) :: (.p .push (some ((.s 1), false)) (.mv (.t (.of 10)))) :: (.p .push (some ((.s 2), false)) (.bin .neq .int (.s 1) (.s 0))) :: F16.r8
noncomputable def F16.r0 : List RO := (.p .push (some ((.s 0), false)) (.loadN 2 (.t (.of 1)))) :: (.w .push (some ((.s 1), false)) (.call (.c (.fn 42 (.of 42) [])) [(.s 0)])) :: (.p .push (some ((.s 2), false)) (.bin .eql .int (.s 0) (.c (I 0)))) :: (.p .push (some ((.s 3), false)) (.mv (.s 0))) :: F16.r1
noncomputable def F16.r4 : List RO := (.p .push (some ((.s 0), true)) (.mv (.t (.of 3)))) :: (.p .push (some ((.s 1), true)) (.len (.s 0))) :: (.p .push (some ((.s 2), true)) (.bin .neq .int (.s 0) (.c (I 0)))) :: (.p .push (some ((.s 3), true)) (.mv (.s 0))) :: F16.r6
theorem F16.tab : T.get none (.of 16) tbl = some F16 := by kernel_rfl
theorem runF16 : zR tbl N C (.of 16) [a0] h nx K0 = IR.run F16.b0 C N (fnO F16.res K0) (retK F16.res K0) (F16.fr a0 .undef .undef .undef .undef .undef .undef .undef .undef .undef .undef .undef .undef .undef .undef .undef) h nx := by
 rw [zH F16.tab]; kernel_rfl
noncomputable def G16a (X : List RO) (Y X1 : IR) : IR := (.seq (.reg [.w (.loc (.of 1)) none (.box (.t (.of 0))), .q (.of 2) (.mv (.c (.bool false)))]) (.seq (.seq (.reg ((.s (.faddr 1 (.t (.of 1)))) :: (.s (.load (.s 0))) :: (.s (.len (.s 0))) :: (.s (.bin .gtr .int (.s 0) (.c (I 40)))) :: (.s (.mv (.s 0))) :: X)) Y) X1))
theorem F16.goX (X : List RO) (Y X1 : IR) (O : Outs Prop) : IR.run (G16a X Y X1) C N O K (F16.fr a0 .undef .undef .undef .undef .undef .undef .undef .undef .undef .undef .undef .undef .undef .undef .undef) h nx =
 sBox a0 h nx fun v1 h2 n3 => zG 1 v1 fun v4 => zD v4 h2 fun v5 => sLen v5 fun v6 => sBin .gtr .int v6 (I 40) fun v7 => jF X C ⟨(F16.fr a0 v1 (.bool false) .undef .undef .undef .undef .undef .undef .undef .undef .undef .undef .undef .undef .undef), v7 :: v7 :: v6 :: v5 :: v4 :: []⟩ h2 n3 (fun tm h nx => IR.run Y C N O (IR.run X1 C N O K) tm.v h nx) := by kernel_rfl
noncomputable def F16.Y0 : IR := (.cond (.t (.of 11)) (.seq (.reg [.w .push none (.call (.c (.fn 18 (.of 18) [])) []), .q (.of 2) (.mv (.s 0))]) .ret) .skip)
theorem F16.b0_eq : F16.b0 = G16a F16.r0 F16.Y0 F16.b1 := by kernel_rfl
noncomputable def G16b (X : List RO) (Y X4 : IR) : IR := (.seq (.seq (.reg ((.s (.mv (.t (.of 10)))) :: (.s (.bin .neq .int (.s 0) (.c (I 0)))) :: (.s (.mv (.s 0))) :: X)) Y) X4)
theorem F16.k3X (X : List RO) (Y X4 : IR) (O : Outs Prop) : IR.run (G16b X Y X4) C N O K (F16.fr e b g f d l q r s v a c i p o u) h nx =
 sBin .neq .int a (I 0) fun v1 => jF X C ⟨(F16.fr e b g f d l q r s v a c i p o u), v1 :: v1 :: a :: []⟩ h nx (fun tm h nx => IR.run Y C N O (IR.run X4 C N O K) tm.v h nx) := by kernel_rfl
noncomputable def F16.Y3 : IR := (.cond (.t (.of 14)) (.seq (.reg [.q (.of 2) (.mv (.c (.bool false)))]) .ret) .skip)
theorem F16.b3_eq : F16.b3 = G16b F16.r4 F16.Y3 F16.b4 := by kernel_rfl
theorem F16.y0 (Kc : Ks Prop) : IR.run F16.Y0 C N (fnO F16.res K0) Kc (F16.fr e b g f d l q r s v a c i p o u) h nx =
 zM c (C.fn 18 (.of 18) [] h nx fun v1 h2 n3 => K0 v1 h2 n3) (Kc (F16.fr e b g f d l q r s v a c i p o u) h nx) := by kernel_rfl
theorem F16.y3 (Kc : Ks Prop) : IR.run F16.Y3 C N (fnO F16.res K0) Kc (F16.fr e b g f d l q r s v a c i p o u) h nx =
 zM o (K0 (.bool false) h nx) (Kc (F16.fr e b g f d l q r s v a c i p o u) h nx) := by kernel_rfl
theorem F16.k2X (X3 : IR) (O : Outs Prop) : IR.run (F16.g2 X3) C N O K (F16.fr e b g f d l q r s v a c i p o u) h nx =
 zG 0 b fun v1 => zD v1 h fun v2 => zG 1 b fun v3 => zD v3 h fun v4 => sLen v4 fun v5 => sBin .add .int v2 v5 fun v6 => sBin .gtr .int v6 (I 9) fun v7 => zL 2 b h fun v8 => C.fn 69 (.of 69) [v8] h nx fun v9 hA nA => sExt 0 v9 fun vC => sExt 1 v9 fun vD => jM [(I 0), .nils] hA nA fun vF hE nF => zZ 2 vF vC hE nF fun vS hJ nK => sBin .eql .int vD (I 0) fun vJ => sG vJ true (fun k => k v7) fun vK => jO vJ vK (.bool false) fun vL => zM vL ((IR.run X3 C N O K) (F16.fr e b g f d l q r v7 vF (I 20) c i vL o u) hJ nK) ((IR.run X3 C N O K) (F16.fr e b g f d l q r v7 vF vD c i vL o u) hJ nK) := by kernel_rfl
theorem F16.b2_eq : F16.b2 = F16.g2 F16.b3 := by kernel_rfl
theorem F16.r0_t : jF F16.r0 C ⟨(F16.fr e b g f d l q r s v a c i p o u), (.bool true) :: S⟩ h nx (fun tm h nx => K tm.v h nx) =
 K (F16.fr e b g f d l q r s v a (.bool true) i p o u) h nx := by kernel_rfl
theorem F16.r0_f : jF F16.r0 C ⟨(F16.fr e b g f d l q r s v a c i p o u), (.bool false) :: S⟩ h nx (fun tm h nx => K tm.v h nx) =
 zL 2 b h fun v1 => C.fn 42 (.of 42) [v1] h nx fun v2 h3 n4 => sBin .eql .int v2 (I 0) fun v5 => jF F16.r1 C ⟨(F16.fr e b g f d l q r s v a c i p o u), v5 :: v5 :: v2 :: v1 :: (.bool false) :: S⟩ h3 n4 (fun tm h nx => K tm.v h nx) := by kernel_rfl
theorem F16.r1_t : jF F16.r1 C ⟨(F16.fr e b g f d l q r s v a c i p o u), (.bool true) :: S⟩ h nx (fun tm h nx => K tm.v h nx) =
 zG 0 b fun v1 => zD v1 h fun v2 => zG 1 b fun v3 => zD v3 h fun v4 => sLen v4 fun v5 => sBin .add .int v2 v5 fun v6 => sBin .gtr .int v6 (I 7) fun v7 => jF F16.r2 C ⟨(F16.fr e b g f d l q r s v a c i p o u), v7 :: v6 :: v5 :: v4 :: v3 :: v2 :: v1 :: (.bool true) :: S⟩ h nx (fun tm h nx => K tm.v h nx) := by kernel_rfl
theorem F16.r1_fX (X : List RO) (K1 : Tm → T Blk → Pa → Out Prop) : jF ((.p .push (some ((.s 0), true)) (.faddr 0 (.t (.of 1)))) :: (.p .push (some ((.s 1), true)) (.load (.s 0))) :: (.p .push (some ((.s 2), true)) (.faddr 1 (.t (.of 1)))) :: (.p .push (some ((.s 3), true)) (.load (.s 0))) :: (.p .push (some ((.s 4), true)) (.len (.s 0))) :: (.p .push (some ((.s 5), true)) (.bin .add .int (.s 3) (.s 0))) :: (.p .push (some ((.s 6), true)) (.bin .gtr .int (.s 0) (.c (I 7)))) :: X) C ⟨(F16.fr e b g f d l q r s v a c i p o u), (.bool false) :: S⟩ h nx K1 =
 jF X C ⟨(F16.fr e b g f d l q r s v a c i p o u), .undef :: .undef :: .undef :: .undef :: .undef :: .undef :: .undef :: (.bool false) :: S⟩ h nx K1 := by kernel_rfl
theorem F16.r1_f : jF F16.r1 C ⟨(F16.fr e b g f d l q r s v a c i p o u), (.bool false) :: S⟩ h nx (fun tm h nx => K tm.v h nx) =
 jF F16.r2 C ⟨(F16.fr e b g f d l q r s v a c i p o u), .undef :: .undef :: .undef :: .undef :: .undef :: .undef :: .undef :: (.bool false) :: S⟩ h nx (fun tm h nx => K tm.v h nx) := F16.r1_fX F16.r2 _
theorem F16.r2_f : jF F16.r2 C ⟨(F16.fr e b g f d l q r s v a c i p o u), s0 :: s1 :: s2 :: s3 :: s4 :: s5 :: s6 :: s7 :: s8 :: s9 :: s10 :: (.bool false) :: S⟩ h nx (fun tm h nx => K tm.v h nx) =
 jO s7 s0 (.bool false) fun v1 => jF F16.r3 C ⟨(F16.fr e b g f d l q r s v a c i p o u), v1 :: v1 :: s0 :: s1 :: s2 :: s3 :: s4 :: s5 :: s6 :: s7 :: s8 :: s9 :: s10 :: (.bool false) :: S⟩ h nx (fun tm h nx => K tm.v h nx) := by kernel_rfl
theorem F16.r3_t : jF F16.r3 C ⟨(F16.fr e b g f d l q r s v a c i p o u), (.bool true) :: S⟩ h nx (fun tm h nx => K tm.v h nx) =
 zG 0 b fun v1 => zD v1 h fun v2 => zG 1 b fun v3 => zD v3 h fun v4 => sLen v4 fun v5 => sBin .add .int v2 v5 fun v6 => sBin .leq .int v6 (I 9) fun v7 => jF F16.r5 C ⟨(F16.fr e b g f d l q r s v a c i p o u), v7 :: v6 :: v5 :: v4 :: v3 :: v2 :: v1 :: (.bool true) :: S⟩ h nx (fun tm h nx => K tm.v h nx) := by kernel_rfl
theorem F16.r3_f : jF F16.r3 C ⟨(F16.fr e b g f d l q r s v a c i p o u), (.bool false) :: S⟩ h nx (fun tm h nx => K tm.v h nx) =
 jF F16.r5 C ⟨(F16.fr e b g f d l q r s v a c i p o u), .undef :: .undef :: .undef :: .undef :: .undef :: .undef :: .undef :: (.bool false) :: S⟩ h nx (fun tm h nx => K tm.v h nx) := by kernel_rfl
theorem F16.r4_t : jF F16.r4 C ⟨(F16.fr e b g f d l q r s v a c i p o u), (.bool true) :: S⟩ h nx (fun tm h nx => K tm.v h nx) =
 sLen f fun v1 => sBin .neq .int v1 (I 0) fun v2 => jF F16.r6 C ⟨(F16.fr e b g f d l q r s v a c i p o u), v2 :: v2 :: v1 :: f :: (.bool true) :: S⟩ h nx (fun tm h nx => K tm.v h nx) := by kernel_rfl
theorem F16.r4_f : jF F16.r4 C ⟨(F16.fr e b g f d l q r s v a c i p o u), (.bool false) :: S⟩ h nx (fun tm h nx => K tm.v h nx) =
 sBin .eql .int a (I 0) fun v1 => jF F16.r7 C ⟨(F16.fr e b g f d l q r s v a c i p o u), v1 :: v1 :: a :: (.bool false) :: (.bool false) :: .undef :: .undef :: .undef :: .undef :: .undef :: .undef :: .undef :: .undef :: (.bool false) :: S⟩ h nx (fun tm h nx => K tm.v h nx) := by kernel_rfl
theorem F16.r5_f : jF F16.r5 C ⟨(F16.fr e b g f d l q r s v a c i p o u), s0 :: s1 :: s2 :: s3 :: s4 :: s5 :: s6 :: s7 :: s8 :: s9 :: s10 :: s11 :: s12 :: s13 :: s14 :: s15 :: s16 :: s17 :: s18 :: s19 :: (.bool false) :: S⟩ h nx (fun tm h nx => K tm.v h nx) =
 jO s7 s0 (.bool false) fun v1 => K (F16.fr e b g f d l q r s v a v1 i p o u) h nx := by kernel_rfl
theorem F16.r6_f : jF F16.r6 C ⟨(F16.fr e b g f d l q r s v a c i p o u), (.bool false) :: S⟩ h nx (fun tm h nx => K tm.v h nx) =
 sBin .neq .int d a fun v1 => jF F16.r8 C ⟨(F16.fr e b g f d l q r s v a c i p o u), v1 :: a :: d :: (.bool false) :: S⟩ h nx (fun tm h nx => K tm.v h nx) := by kernel_rfl
theorem F16.r7_t : jF F16.r7 C ⟨(F16.fr e b g f d l q r s v a c i p o u), (.bool true) :: S⟩ h nx (fun tm h nx => K tm.v h nx) =
 sBin .neq .int d (I 0) fun v1 => jF F16.r9 C ⟨(F16.fr e b g f d l q r s v a c i p o u), v1 :: v1 :: d :: (.bool true) :: S⟩ h nx (fun tm h nx => K tm.v h nx) := by kernel_rfl
theorem F16.r7_f : jF F16.r7 C ⟨(F16.fr e b g f d l q r s v a c i p o u), (.bool false) :: S⟩ h nx (fun tm h nx => K tm.v h nx) =
 jF F16.r10 C ⟨(F16.fr e b g f d l q r s v a c i p o u), .undef :: .undef :: .undef :: .undef :: .undef :: .undef :: .undef :: .undef :: .undef :: .undef :: (.bool false) :: S⟩ h nx (fun tm h nx => K tm.v h nx) := by kernel_rfl
theorem F16.r8_t : jF F16.r8 C ⟨(F16.fr e b g f d l q r s v a c i p o u), s0 :: s1 :: s2 :: s3 :: s4 :: s5 :: s6 :: (.bool true) :: S⟩ h nx (fun tm h nx => K tm.v h nx) =
 jO s3 (.bool true) s0 fun v1 => jF F16.r11 C ⟨(F16.fr e b g f d l q r s v a c i p o u), v1 :: v1 :: v1 :: s0 :: s1 :: s2 :: s3 :: s4 :: s5 :: s6 :: (.bool true) :: S⟩ h nx (fun tm h nx => K tm.v h nx) := by kernel_rfl
theorem F16.r9_f : jF F16.r9 C ⟨(F16.fr e b g f d l q r s v a c i p o u), (.bool false) :: S⟩ h nx (fun tm h nx => K tm.v h nx) =
 zL 2 v h fun v1 => C.fn 65 (.of 65) [v1, (I 0)] h nx fun v2 h3 n4 => mX 4 none v2 fun v5 => C.fn 66 (.of 66) [f, v5] h3 n4 fun v6 h7 n8 => sNot v6 fun v9 => jF F16.r12 C ⟨(F16.fr e b g f d l q r s v a c i p o u), v9 :: v6 :: v5 :: v2 :: v1 :: f :: (.bool false) :: S⟩ h7 n8 (fun tm h nx => K tm.v h nx) := by kernel_rfl
theorem F16.r10_f : jF F16.r10 C ⟨(F16.fr e b g f d l q r s v a c i p o u), s0 :: s1 :: s2 :: s3 :: s4 :: s5 :: s6 :: s7 :: s8 :: s9 :: s10 :: s11 :: s12 :: (.bool false) :: S⟩ h nx (fun tm h nx => K tm.v h nx) =
 jO s10 s0 (.bool false) fun v1 => K (F16.fr e b g f d l q r s v a c i p v1 u) h nx := by kernel_rfl
theorem F16.r11_f : jF F16.r11 C ⟨(F16.fr e b g f d l q r s v a c i p o u), (.bool false) :: S⟩ h nx (fun tm h nx => K tm.v h nx) =
 sBin .eql .int a (I 0) fun v1 => jF F16.r7 C ⟨(F16.fr e b g f d l q r s v a c i p o u), v1 :: v1 :: a :: (.bool false) :: S⟩ h nx (fun tm h nx => K tm.v h nx) := by kernel_rfl
theorem F16.r12_t : jF F16.r12 C ⟨(F16.fr e b g f d l q r s v a c i p o u), s0 :: s1 :: s2 :: s3 :: s4 :: s5 :: s6 :: s7 :: s8 :: (.bool true) :: S⟩ h nx (fun tm h nx => K tm.v h nx) =
 jO s6 (.bool true) s0 fun v1 => jF F16.r10 C ⟨(F16.fr e b g f d l q r s v a c i p o u), v1 :: s0 :: s1 :: s2 :: s3 :: s4 :: s5 :: s6 :: s7 :: s8 :: (.bool true) :: S⟩ h nx (fun tm h nx => K tm.v h nx) := by kernel_rfl
theorem F16.k1 : IR.run F16.b1 C N (fnO F16.res K0) K (F16.fr e b g f d l q r s v a c i p o u) h nx =
 zL 2 b h fun v1 => C.fn 67 (.of 67) [v1] h nx fun v2 h3 n4 => sExt 0 v2 fun v5 => sExt 1 v2 fun v6 => zL 2 b h3 fun v7 => C.fn 68 (.of 68) [v7] h3 n4 fun v8 h9 nC => sExt 0 v8 fun vB => sExt 1 v8 fun vC => zL 2 b h9 fun vD => C.fn 42 (.of 42) [vD] h9 nC fun vF hE nF => sBin .neq .int vF (I 0) fun vS => zM vS (sLen v5 fun vH => sLen vB fun vI => sBin .add .int vH vI fun vJ => sBin .eql .int vJ (I 0) fun vK => sG vK true (fun k => k v6) fun vL => sG vK true (fun k => k vF) fun vM => sG vK true (fun k => sBin .eql .int vL vM k) fun vN => jO vK vN (.bool false) fun vO => sG vO true (fun k => k vC) fun vP => sG vO true (fun k => k vF) fun vQ => sG vO true (fun k => sBin .eql .int vP vQ k) fun vR => jO vO vR (.bool false) fun vX => sGW vX true (fun k => C.fn 18 (.of 18) [] hE nF k) hE nF fun vY hX nX => jO vX vY (.bool false) fun vW => K0 vW hX nX) ((IR.run F16.b2 C N (fnO F16.res K0) K) (F16.fr e b g v5 v6 vB vC vF s v a c vS p o u) hE nF) := by kernel_rfl
theorem F16.k4 : IR.run F16.b4 C N (fnO F16.res K0) K (F16.fr e b g f d l q r s v a c i p o u) h nx =
 zM s (sLen l fun v1 => sBin .eql .int v1 (I 0) fun v2 => sG v2 true (fun k => k q) fun v3 => sG v2 true (fun k => sBin .eql .int v3 (I 20) k) fun v4 => jO v2 v4 (.bool false) fun v5 => sGW v5 true (fun k => C.fn 18 (.of 18) [] h nx k) h nx fun v6 h7 n8 => jO v5 v6 (.bool false) fun v9 => K0 v9 h7 n8) (sBin .eql .int q (I 0) fun vA => sG vA true (fun k => k l) fun vB => sG vA true (fun k => zL 2 b h k) fun vC => sGW vA true (fun k => C.fn 70 (.of 70) [vC] h nx k) h nx fun vD hB nB => sGW vA true (fun k => C.fn 65 (.of 65) [vD, (I 0)] hB nB k) hB nB fun vE hP nQ => sG vA true (fun k => mX 4 none vE k) fun vI => sGW vA true (fun k => C.fn 66 (.of 66) [vB, vI] hP nQ k) hP nQ fun vJ hK nL => jO vA vJ (.bool false) fun vM => sGW vM true (fun k => C.fn 18 (.of 18) [] hK nL k) hK nL fun vN hN nO => jO vM vN (.bool false) fun vQ => K0 vQ hN nO) := by kernel_rfl
end Go.Ev
