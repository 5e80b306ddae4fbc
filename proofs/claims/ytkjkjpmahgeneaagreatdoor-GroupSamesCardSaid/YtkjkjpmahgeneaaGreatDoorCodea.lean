import Derived.Test.YtkjkjpmahgeneaaGreatDoorIrT
import Derived.KernelRfl
import Derived.Test.YtkjkjpmahgeneaaGreatDoorEvD
set_option linter.unusedSimpArgs false
set_option linter.unusedVariables false
namespace Go.Ev
open Go Go.Proofs
set_option maxRecDepth 100000
variable {N : Nat} {C : Calls Prop} {K0 : Kw Prop} {K R : Ks Prop} {h : T Blk} {nx : Pa} {a c e g f i l a0 a1 a2 : AV}
theorem F93.g2_eq (X3 : IR) (O : Outs Prop) (t : T AV) : IR.run (F93.g2 X3) C N O K t h nx = IR.run X3 C N (O.blk 0 K) K t h nx := by kernel_rfl
theorem F93.tab : T.get none (.of 93) tbl = some F93 := by kernel_rfl
theorem F93.go : zV tbl N C (.of 93) [a0] h nx K0 =
 sLen a0 fun v1 => sBin .gtr .int v1 (I 256) fun v2 => zX v2 (K0 (I 5) h nx) (sLen a0 fun v3 => gO 1 1 [(.bool false)] v3 v3 h nx fun v4 h5 n6 => IR.run F93.b2 C N (fnO F93.res K0) (IR.run F93.b10 C N (fnO F93.res K0) (retK F93.res K0)) (F93.fr a0 (I 0) v4 (I 0) v2 .undef .undef) h5 n6) := by
 rw [zI F93.tab]; kernel_rfl
theorem F93.L2 (Inv : Nat → AV → T Blk → Pa → Prop) {m : Nat} (hm : m < N) (hi : Inv m g h nx)
  (step : ∀ (m : Nat) (z1 z3 z5 z6 : AV) (h : T Blk) (nx : Pa) (R : Ks Prop), Inv m z3 h nx → (∀ (m' : Nat) (w1 w3 w5 w6 : AV) (h' : T Blk) (nx' : Pa), m' < m → Inv m' w3 h' nx' → R (F93.fr a w1 e w3 f w5 w6) h' nx' = .ok True) →
   (sLen a fun v1 => sBin .lss .int z3 v1 fun v2 => zX v2 (zR 1 a z3 fun v3 => zF v3 h fun v4 => sBin .lss .int v4 (I 0) fun v5 => sG v5 false (fun k => k a) fun v6 => sG v5 false (fun k => k z3) fun v7 => sG v5 false (fun k => zR 1 v6 v7 k) fun v8 => sG v5 false (fun k => zF v8 h k) fun v9 => sG v5 false (fun k => k a) fun vA => sG v5 false (fun k => sLen vA k) fun vB => sG v5 false (fun k => sBin .geq .int v9 vB k) fun vC => gA v5 (.bool true) vC fun vD => sG vD false (fun k => k e) fun vE => sG vD false (fun k => k a) fun vF => sG vD false (fun k => k z3) fun vH => sG vD false (fun k => zR 1 vF vH k) fun vI => sG vD false (fun k => zF vI h k) fun vJ => sG vD false (fun k => zR 1 vE vJ k) fun vK => sG vD false (fun k => zF vK h k) fun vL => gA vD (.bool true) vL fun vM => zX vM (K0 (I 14) h nx) ((IR.run F93.b8 C N (((fnO F93.res K0).blk 0 K).blk 1 (IR.run F93.b9 C N ((fnO F93.res K0).blk 0 K) R)) (IR.run F93.b9 C N ((fnO F93.res K0).blk 0 K) R)) (F93.fr a z1 e z3 f v2 vM) h nx)) (K (F93.fr a z1 e z3 f v2 z6) h nx)) = .ok True) :
  IR.run F93.b2 C N (fnO F93.res K0) K (F93.fr a c e g f i l) h nx = .ok True := by
 rw [F93.b2, F93.g2_eq, F93.b3]
 refine yL (fun m tm h nx => ∃ z1 z3 z5 z6, tm = (F93.fr a z1 e z3 f z5 z6) ∧ Inv m z3 h nx) ?_ hm ⟨_, _, _, _, rfl, hi⟩
 rintro m tm h nx R ⟨z1, z3, z5, z6, rfl, hi⟩ hR
 refine Eq.trans ?_ (step m z1 z3 z5 z6 h nx R hi fun m' w1 w3 w5 w6 h' nx' hlt hi' => hR m' _ h' nx' hlt ⟨_, _, _, _, rfl, hi'⟩)
 kernel_rfl
theorem F93.k10 : IR.run F93.b10 C N (fnO F93.res K0) K (F93.fr a c e g f i l) h nx =
 K0 (I 0) h nx := by kernel_rfl
theorem F93.k9 {E0 : Ks Prop} : IR.run F93.b9 C N ((fnO F93.res K0).blk 0 E0) K (F93.fr a c e g f i l) h nx =
 sBin .add .int g (I 1) fun v1 => K (F93.fr a c e v1 f i l) h nx := by kernel_rfl
theorem F93.k8 {E0 E1 : Ks Prop} : IR.run F93.b8 C N (((fnO F93.res K0).blk 0 E0).blk 1 E1) K (F93.fr a c e g f i l) h nx =
 zR 1 a g fun v1 => zF v1 h fun v2 => zR 1 e v2 fun v3 => zL 1 v3 (.bool true) h nx fun v4 h5 n6 => K (F93.fr a c e g f i l) h5 n6 := by kernel_rfl
theorem F26.tab : T.get none (.of 26) tbl = some F26 := by kernel_rfl
theorem F26.go : zV tbl N C (.of 26) [a0, a1] h nx K0 =
 sBox a0 h nx fun v1 h2 n3 => C.fn 25 (.of 25) [a1] h2 n3 fun v4 h5 n6 => sBin .neq .int v4 (I 0) fun v7 => zX v7 (K0 (I 3) h5 n6) (zP 0 v1 fun v8 => zF v8 h5 fun v9 => sLen v9 fun vA => sBin .neq .int vA a1 fun vB => zX vB (K0 (I 2) h5 n6) (zP 0 v1 fun vC => zF vC h5 fun vD => C.fn 93 (.of 93) [vD] h5 n6 fun vE hA nA => K0 vE hA nA)) := by
 rw [zI F26.tab]; kernel_rfl
theorem F25.tab : T.get none (.of 25) tbl = some F25 := by kernel_rfl
theorem F25.go : zV tbl N C (.of 25) [a0] h nx K0 =
 sBin .lss .int a0 (I 0) fun v1 => sG v1 false (fun k => k a0) fun v2 => sG v1 false (fun k => sBin .gtr .int v2 (I 256) k) fun v3 => gA v1 (.bool true) v3 fun v4 => zX v4 (K0 (I 3) h nx) (K0 (I 0) h nx) := by
 rw [zI F25.tab]; kernel_rfl
end Go.Ev
namespace Go.Ev
open Go Go.Proofs
set_option maxRecDepth 100000
variable {N : Nat} {C : Calls Prop} {K0 : Kw Prop} {K R : Ks Prop} {h : T Blk} {nx : Pa} {a c e g f i l s v a0 a1 : AV}
theorem F58.g1_eq (X2 : IR) (O : Outs Prop) (t : T AV) : IR.run (F58.g1 X2) C N O K t h nx = IR.run X2 C N (O.blk 0 K) K t h nx := by kernel_rfl
theorem F58.tab : T.get none (.of 58) tbl = some F58 := by kernel_rfl
theorem F58.go : zV tbl N C (.of 58) [a0, a1] h nx K0 =
 sBox a0 h nx fun v1 h2 n3 => sLen a1 fun v4 => gO 1 8 [(I 0)] v4 v4 h2 n3 fun v5 h6 n7 => IR.run F58.b1 C N (fnO F58.res K0) (IR.run F58.b9 C N (fnO F58.res K0) (retK F58.res K0)) (F58.fr a0 a1 v1 .nils v5 (I 0) .undef .undef .undef) h6 n7 := by
 rw [zI F58.tab]; kernel_rfl
theorem F58.L1 (Inv : Nat → AV → T Blk → Pa → Prop) {m : Nat} (hm : m < N) (hi : Inv m i h nx)
  (step : ∀ (m : Nat) (z5 z6 z7 z8 : AV) (h : T Blk) (nx : Pa) (R : Ks Prop), Inv m z5 h nx → (∀ (m' : Nat) (w5 w6 w7 w8 : AV) (h' : T Blk) (nx' : Pa), m' < m → Inv m' w5 h' nx' → R (F58.fr a c e g f w5 w6 w7 w8) h' nx' = .ok True) →
   (sLen c fun v1 => sBin .lss .int z5 v1 fun v2 => zX v2 (zR 1 c z5 fun v3 => zF v3 h fun v4 => zP 1 e fun v5 => zF v5 h fun v6 => zX v6 (sLen c fun v7 => sBin .add .int v7 (I 1) fun v8 => sBin .sub .int v8 v4 fun v9 => zP 0 e fun vA => zF vA h fun vB => zR 1 vB z5 fun vC => zF vC h fun vD => zR 1 f vD fun vE => zL 1 vE v9 h nx fun vF hB nB => sBin .add .int z5 (I 1) fun vJ => R (F58.fr a c e g f vJ v9 v2 v6) hB nB) (zP 0 e fun vK => zF vK h fun vL => zR 1 vL z5 fun vM => zF vM h fun vN => zR 1 f vN fun vO => zL 1 vO v4 h nx fun vP hC nC => sBin .add .int z5 (I 1) fun vQ => R (F58.fr a c e g f vQ v4 v2 v6) hC nC)) (K (F58.fr a c e g f z5 z6 v2 z8) h nx)) = .ok True) :
  IR.run F58.b1 C N (fnO F58.res K0) K (F58.fr a c e g f i l s v) h nx = .ok True := by
 rw [F58.b1, F58.g1_eq, F58.b2]
 refine yL (fun m tm h nx => ∃ z5 z6 z7 z8, tm = (F58.fr a c e g f z5 z6 z7 z8) ∧ Inv m z5 h nx) ?_ hm ⟨_, _, _, _, rfl, hi⟩
 rintro m tm h nx R ⟨z5, z6, z7, z8, rfl, hi⟩ hR
 refine Eq.trans ?_ (step m z5 z6 z7 z8 h nx R hi fun m' w5 w6 w7 w8 h' nx' hlt hi' => hR m' _ h' nx' hlt ⟨_, _, _, _, rfl, hi'⟩)
 kernel_rfl
theorem F58.k9 : IR.run F58.b9 C N (fnO F58.res K0) K (F58.fr a c e g f i l s v) h nx =
 K0 f h nx := by kernel_rfl
end Go.Ev
namespace Go.Ev
open Go Go.Proofs
set_option maxRecDepth 100000
variable {N : Nat} {C : Calls Prop} {K0 : Kw Prop} {K R : Ks Prop} {h : T Blk} {nx : Pa} {a c e g f i l a0 a1 : AV}
theorem F82.g2_eq (X3 : IR) (O : Outs Prop) (t : T AV) : IR.run (F82.g2 X3) C N O K t h nx = IR.run X3 C N (O.blk 0 K) K t h nx := by kernel_rfl
theorem F82.tab : T.get none (.of 82) tbl = some F82 := by kernel_rfl
theorem F82.go : zV tbl N C (.of 82) [a0, a1] h nx K0 =
 sLen a0 fun v1 => sLen a1 fun v2 => sBin .neq .int v1 v2 fun v3 => zX v3 (K0 (.bool false) h nx) (IR.run F82.b2 C N (fnO F82.res K0) (IR.run F82.b9 C N (fnO F82.res K0) (retK F82.res K0)) (F82.fr a0 a1 (.bool false) (I 0) v3 .undef .undef) h nx) := by
 rw [zI F82.tab]; kernel_rfl
theorem F82.L2 (Inv : Nat → AV → T Blk → Pa → Prop) {m : Nat} (hm : m < N) (hi : Inv m g h nx)
  (step : ∀ (m : Nat) (z2 z3 z5 z6 : AV) (h : T Blk) (nx : Pa) (R : Ks Prop), Inv m z3 h nx → (∀ (m' : Nat) (w2 w3 w5 w6 : AV) (h' : T Blk) (nx' : Pa), m' < m → Inv m' w3 h' nx' → R (F82.fr a c w2 w3 f w5 w6) h' nx' = .ok True) →
   (sLen a fun v1 => sBin .lss .int z3 v1 fun v2 => zX v2 (zR 1 a z3 fun v3 => zF v3 h fun v4 => zR 1 c z3 fun v5 => zF v5 h fun v6 => sBin .neq .int v4 v6 fun v7 => zX v7 (K0 (.bool false) h nx) (sBin .add .int z3 (I 1) fun v8 => R (F82.fr a c z2 v8 f v2 v7) h nx)) (K (F82.fr a c z2 z3 f v2 z6) h nx)) = .ok True) :
  IR.run F82.b2 C N (fnO F82.res K0) K (F82.fr a c e g f i l) h nx = .ok True := by
 rw [F82.b2, F82.g2_eq, F82.b3]
 refine yL (fun m tm h nx => ∃ z2 z3 z5 z6, tm = (F82.fr a c z2 z3 f z5 z6) ∧ Inv m z3 h nx) ?_ hm ⟨_, _, _, _, rfl, hi⟩
 rintro m tm h nx R ⟨z2, z3, z5, z6, rfl, hi⟩ hR
 refine Eq.trans ?_ (step m z2 z3 z5 z6 h nx R hi fun m' w2 w3 w5 w6 h' nx' hlt hi' => hR m' _ h' nx' hlt ⟨_, _, _, _, rfl, hi'⟩)
 kernel_rfl
theorem F82.k9 : IR.run F82.b9 C N (fnO F82.res K0) K (F82.fr a c e g f i l) h nx =
 K0 (.bool true) h nx := by kernel_rfl
theorem F106.tab : T.get none (.of 106) tbl = some F106 := by kernel_rfl
theorem F106.go : zV tbl N C (.of 106) [a0] h nx K0 =
 sBin .eql (.nil .sl) a0 .nils fun v1 => zX v1 (K0 .nils h nx) (jD 1 0 [(I 0)] [] h nx fun v2 h3 n4 => sApp 1 8 v2 a0 h3 n4 fun v5 h6 n7 => K0 v5 h6 n7) := by
 rw [zI F106.tab]; kernel_rfl
end Go.Ev
namespace Go.Ev
open Go Go.Proofs
set_option maxRecDepth 100000
variable {N : Nat} {C : Calls Prop} {K0 : Kw Prop} {K R : Ks Prop} {h : T Blk} {nx : Pa} {a c e g f i l s v a0 a1 : AV}
theorem F158.g2_eq (X3 : IR) (O : Outs Prop) (t : T AV) : IR.run (F158.g2 X3) C N O K t h nx = IR.run X3 C N (O.blk 0 K) K t h nx := by kernel_rfl
theorem F158.tab : T.get none (.of 158) tbl = some F158 := by kernel_rfl
theorem F158.go : zV tbl N C (.of 158) [a0, a1] h nx K0 =
 sLen a0 fun v1 => sLen a1 fun v2 => sBin .neq .int v1 v2 fun v3 => zX v3 (K0 (.bool false) h nx) (sLen a0 fun v4 => IR.run F158.b2 C N (fnO F158.res K0) (IR.run F158.b9 C N (fnO F158.res K0) (retK F158.res K0)) (F158.fr a0 a1 (.bool false) .undef v3 v4 (I 0) .undef .undef) h nx) := by
 rw [zI F158.tab]; kernel_rfl
theorem F158.L2 (Inv : Nat → AV → T Blk → Pa → Prop) {m : Nat} (hm : m < N) (hi : Inv m l h nx)
  (step : ∀ (m : Nat) (z2 z3 z6 z7 z8 : AV) (h : T Blk) (nx : Pa) (R : Ks Prop), Inv m z6 h nx → (∀ (m' : Nat) (w2 w3 w6 w7 w8 : AV) (h' : T Blk) (nx' : Pa), m' < m → Inv m' w6 h' nx' → R (F158.fr a c w2 w3 f i w6 w7 w8) h' nx' = .ok True) →
   (sBin .lss .int z6 i fun v1 => zX v1 (zR 1 a z6 fun v2 => zF v2 h fun v3 => zR 1 c z6 fun v4 => zF v4 h fun v5 => sBin .neq .int v3 v5 fun v6 => zX v6 (K0 (.bool false) h nx) (sBin .add .int z6 (I 1) fun v7 => R (F158.fr a c z2 z6 f i v7 v1 v6) h nx)) (K (F158.fr a c z2 z3 f i z6 v1 z8) h nx)) = .ok True) :
  IR.run F158.b2 C N (fnO F158.res K0) K (F158.fr a c e g f i l s v) h nx = .ok True := by
 rw [F158.b2, F158.g2_eq, F158.b3]
 refine yL (fun m tm h nx => ∃ z2 z3 z6 z7 z8, tm = (F158.fr a c z2 z3 f i z6 z7 z8) ∧ Inv m z6 h nx) ?_ hm ⟨_, _, _, _, _, rfl, hi⟩
 rintro m tm h nx R ⟨z2, z3, z6, z7, z8, rfl, hi⟩ hR
 refine Eq.trans ?_ (step m z2 z3 z6 z7 z8 h nx R hi fun m' w2 w3 w6 w7 w8 h' nx' hlt hi' => hR m' _ h' nx' hlt ⟨_, _, _, _, _, rfl, hi'⟩)
 kernel_rfl
theorem F158.k9 : IR.run F158.b9 C N (fnO F158.res K0) K (F158.fr a c e g f i l s v) h nx =
 K0 (.bool true) h nx := by kernel_rfl
end Go.Ev
namespace Go.Ev
open Go Go.Proofs
set_option maxRecDepth 100000
variable {N : Nat} {C : Calls Prop} {K0 : Kw Prop} {K R : Ks Prop} {h : T Blk} {nx : Pa} {a c e g f i l s v a0 a1 a2 : AV}
end Go.Ev
namespace Go.Ev
open Go Go.Proofs
set_option maxRecDepth 100000
variable {N : Nat} {C : Calls Prop} {K0 : Kw Prop} {K R : Ks Prop} {h : T Blk} {nx : Pa} {a c e g f i l s v w b d u o a0 : AV}
end Go.Ev
namespace Go.Ev
open Go Go.Proofs
set_option maxRecDepth 100000
variable {N : Nat} {C : Calls Prop} {K0 : Kw Prop} {K R : Ks Prop} {h : T Blk} {nx : Pa} {a c e g f i l s a0 a1 a2 : AV}
theorem F136.tab : T.get none (.of 136) tbl = some F136 := by kernel_rfl
theorem F136.go : zV tbl N C (.of 136) [a0, a1] h nx K0 =
 C.fn 197 (.of 197) [a0, a1] h nx fun v1 h2 n3 => sBin .geq .int v1 (I 0) fun v4 => K0 v4 h2 n3 := by
 rw [zI F136.tab]; kernel_rfl
theorem F197.g1_eq (X2 : IR) (O : Outs Prop) (t : T AV) : IR.run (F197.g1 X2) C N O K t h nx = IR.run X2 C N (O.blk 0 K) K t h nx := by kernel_rfl
theorem F197.tab : T.get none (.of 197) tbl = some F197 := by kernel_rfl
theorem F197.go : zV tbl N C (.of 197) [a0, a1] h nx K0 =
 sLen a0 fun v1 => IR.run F197.b1 C N (fnO F197.res K0) (IR.run F197.b8 C N (fnO F197.res K0) (retK F197.res K0)) (F197.fr a0 a1 (I 0) .undef v1 (I 0) .undef .undef) h nx := by
 rw [zI F197.tab]; kernel_rfl
theorem F197.L1 (Inv : Nat → AV → T Blk → Pa → Prop) {m : Nat} (hm : m < N) (hi : Inv m i h nx)
  (step : ∀ (m : Nat) (z2 z3 z5 z6 z7 : AV) (h : T Blk) (nx : Pa) (R : Ks Prop), Inv m z5 h nx → (∀ (m' : Nat) (w2 w3 w5 w6 w7 : AV) (h' : T Blk) (nx' : Pa), m' < m → Inv m' w5 h' nx' → R (F197.fr a c w2 w3 f w5 w6 w7) h' nx' = .ok True) →
   (sBin .lss .int z5 f fun v1 => zX v1 (zR 1 a z5 fun v2 => zF v2 h fun v3 => sCall C c [v3] h nx fun v4 h5 n6 => zX v4 (K0 z5 h5 n6) (sBin .add .int z5 (I 1) fun v7 => R (F197.fr a c z2 z5 f v7 v1 v4) h5 n6)) (K (F197.fr a c z2 z3 f z5 v1 z7) h nx)) = .ok True) :
  IR.run F197.b1 C N (fnO F197.res K0) K (F197.fr a c e g f i l s) h nx = .ok True := by
 rw [F197.b1, F197.g1_eq, F197.b2]
 refine yL (fun m tm h nx => ∃ z2 z3 z5 z6 z7, tm = (F197.fr a c z2 z3 f z5 z6 z7) ∧ Inv m z5 h nx) ?_ hm ⟨_, _, _, _, _, rfl, hi⟩
 rintro m tm h nx R ⟨z2, z3, z5, z6, z7, rfl, hi⟩ hR
 refine Eq.trans ?_ (step m z2 z3 z5 z6 z7 h nx R hi fun m' w2 w3 w5 w6 w7 h' nx' hlt hi' => hR m' _ h' nx' hlt ⟨_, _, _, _, _, rfl, hi'⟩)
 kernel_rfl
theorem F197.k8 : IR.run F197.b8 C N (fnO F197.res K0) K (F197.fr a c e g f i l s) h nx =
 K0 (I (-1)) h nx := by kernel_rfl
end Go.Ev
namespace Go.Ev
open Go Go.Proofs
set_option maxRecDepth 100000
variable {N : Nat} {C : Calls Prop} {K0 : Kw Prop} {K R : Ks Prop} {h : T Blk} {nx : Pa} {a c e g f i l s v w b d u o a0 a1 : AV}
end Go.Ev
namespace Go.Ev
open Go Go.Proofs
set_option maxRecDepth 100000
variable {N : Nat} {C : Calls Prop} {K0 : Kw Prop} {K R : Ks Prop} {h : T Blk} {nx : Pa} {a c e g f i l s v w b d u o p q y z a0 a1 : AV}
theorem F85.tab : T.get none (.of 85) tbl = some F85 := by kernel_rfl
theorem F85.go : zV tbl N C (.of 85) [a0, a1] h nx K0 =
 sBox a0 h nx fun v1 h2 n3 => sBox a1 h2 n3 fun v4 h5 n6 => zP 0 v1 fun v7 => zF v7 h5 fun v8 => zP 0 v4 fun v9 => zF v9 h5 fun vA => C.fn 82 (.of 82) [v8, vA] h5 n6 fun vB hD nD => zX vB (zP 1 v1 fun vE => zF vE hD fun vF => sNot vF fun vH => sG vH true (fun k => zP 1 v4 k) fun vI => sG vH true (fun k => zF vI hD k) fun vJ => gA vH vJ (.bool false) fun vK => K0 vK hD nD) (zP 0 v1 fun vL => zF vL hD fun vM => zP 0 v4 fun vN => zF vN hD fun vO => C.fn 88 (.of 88) [vM, vO] hD nD fun vP hC nC => K0 vP hC nC) := by
 rw [zI F85.tab]; kernel_rfl
theorem F84.g1_eq (X2 : IR) (O : Outs Prop) (t : T AV) : IR.run (F84.g1 X2) C N O K t h nx = IR.run X2 C N (O.blk 0 K) K t h nx := by kernel_rfl
theorem F84.tab : T.get none (.of 84) tbl = some F84 := by kernel_rfl
theorem F84.go : zV tbl N C (.of 84) [a0, a1] h nx K0 =
 sBox a1 h nx fun v1 h2 n3 => IR.run F84.b1 C N (fnO F84.res K0) (IR.run F84.b8 C N (fnO F84.res K0) (retK F84.res K0)) (F84.fr a0 a1 v1 (I 0) (I 0) .undef .undef) h2 n3 := by
 rw [zI F84.tab]; kernel_rfl
theorem F84.L1 (Inv : Nat → AV → T Blk → Pa → Prop) {m : Nat} (hm : m < N) (hi : Inv m f h nx)
  (step : ∀ (m : Nat) (z3 z4 z5 z6 : AV) (h : T Blk) (nx : Pa) (R : Ks Prop), Inv m z4 h nx → (∀ (m' : Nat) (w3 w4 w5 w6 : AV) (h' : T Blk) (nx' : Pa), m' < m → Inv m' w4 h' nx' → R (F84.fr a c e w3 w4 w5 w6) h' nx' = .ok True) →
   (sLen a fun v1 => sBin .lss .int z4 v1 fun v2 => zX v2 (zR 2 a z4 fun v3 => zK 2 v3 h fun v4 => zK 2 e h fun v5 => C.fn 30 (.of 30) [v4, v5] h nx fun v6 h7 n8 => zX v6 (K0 z4 h7 n8) (sBin .add .int z4 (I 1) fun v9 => R (F84.fr a c e z3 v9 v2 v6) h7 n8)) (K (F84.fr a c e z3 z4 v2 z6) h nx)) = .ok True) :
  IR.run F84.b1 C N (fnO F84.res K0) K (F84.fr a c e g f i l) h nx = .ok True := by
 rw [F84.b1, F84.g1_eq, F84.b2]
 refine yL (fun m tm h nx => ∃ z3 z4 z5 z6, tm = (F84.fr a c e z3 z4 z5 z6) ∧ Inv m z4 h nx) ?_ hm ⟨_, _, _, _, rfl, hi⟩
 rintro m tm h nx R ⟨z3, z4, z5, z6, rfl, hi⟩ hR
 refine Eq.trans ?_ (step m z3 z4 z5 z6 h nx R hi fun m' w3 w4 w5 w6 h' nx' hlt hi' => hR m' _ h' nx' hlt ⟨_, _, _, _, rfl, hi'⟩)
 kernel_rfl
theorem F84.k8 : IR.run F84.b8 C N (fnO F84.res K0) K (F84.fr a c e g f i l) h nx =
 K0 (I (-1)) h nx := by kernel_rfl
theorem F65.tab : T.get none (.of 65) tbl = some F65 := by kernel_rfl
theorem F65.go : zV tbl N C (.of 65) [a0, a1] h nx K0 =
 sBox a0 h nx fun v1 h2 n3 => sBox a1 h2 n3 fun v4 h5 n6 => yK [.nils, (.bool false)] h5 n6 fun v7 h8 n9 => zP 0 v1 fun vA => zF vA h8 fun vB => zP 0 v4 fun vC => zF vC h8 fun vD => zP 1 v1 fun vE => zF vE h8 fun vF => zP 1 v4 fun vH => zF vH h8 fun vI => sBin .neq .bool vF vI fun vJ => C.fn 144 (.of 144) [vB, vD] h8 n9 fun vK hE nE => (sBin .neq .bool vF vI fun vR => zN vR vJ ((zF vH hE fun vS => zN vS vI ((zP 1 v4 fun vT => zN vT vH ((zF vE hE fun vU => zN vU vF ((zP 1 v1 fun vQ => zN vQ vE (uD [.nils, (.bool false)] [(0, 1, vK), (1, 1, vJ)] fun vN => zL 2 v7 vN hE nE fun vO hF nF => zK 2 v7 hF fun vW => K0 vW hF nF)))))))))) := by
 rw [zI F65.tab]; kernel_rfl
theorem F30.tab : T.get none (.of 30) tbl = some F30 := by kernel_rfl
theorem F30.go : zV tbl N C (.of 30) [a0, a1] h nx K0 =
 sBox a0 h nx fun v1 h2 n3 => sBox a1 h2 n3 fun v4 h5 n6 => zP 1 v1 fun v7 => zF v7 h5 fun v8 => zP 1 v4 fun v9 => zF v9 h5 fun vA => sBin .eql .bool v8 vA fun vB => sG vB true (fun k => zP 0 v1 k) fun vC => sG vB true (fun k => zF vC h5 k) fun vD => sG vB true (fun k => zP 0 v4 k) fun vE => sG vB true (fun k => zF vE h5 k) fun vF => sGW vB true (fun k => C.fn 82 (.of 82) [vD, vF] h5 n6 k) h5 n6 fun vH hG nG => gA vB vH (.bool false) fun vK => K0 vK hG nG := by
 rw [zI F30.tab]; kernel_rfl
theorem F144.g1_eq (X2 : IR) (O : Outs Prop) (t : T AV) : IR.run (F144.g1 X2) C N O K t h nx = IR.run X2 C N (O.blk 0 K) K t h nx := by kernel_rfl
theorem F144.tab : T.get none (.of 144) tbl = some F144 := by kernel_rfl
theorem F144.go : zV tbl N C (.of 144) [a0, a1] h nx K0 =
 IR.run F144.b1 C N (fnO F144.res K0) (IR.run F144.b8 C N (fnO F144.res K0) (retK F144.res K0)) (F144.fr a0 a1 .nils .nils (I 0) .undef) h nx := by
 rw [zI F144.tab]; kernel_rfl
theorem F144.L1 (Inv : Nat → AV → AV → T Blk → Pa → Prop) {m : Nat} (hm : m < N) (hi : Inv m g f h nx)
  (step : ∀ (m : Nat) (z3 z4 z5 : AV) (h : T Blk) (nx : Pa) (R : Ks Prop), Inv m z3 z4 h nx → (∀ (m' : Nat) (w3 w4 w5 : AV) (h' : T Blk) (nx' : Pa), m' < m → Inv m' w3 w4 h' nx' → R (F144.fr a c e w3 w4 w5) h' nx' = .ok True) →
   (sLen c fun v1 => sBin .lss .int z4 v1 fun v2 => zX v2 (zR 1 c z4 fun v3 => zF v3 h fun v4 => zR 1 a v4 fun v5 => zF v5 h fun v6 => jD 1 1 [(I 0)] [(0, 1, v6)] h nx fun v7 h8 n9 => sApp 1 8 z3 v7 h8 n9 fun vA hH nH => sBin .add .int z4 (I 1) fun vD => R (F144.fr a c e vA vD v2) hH nH) (K (F144.fr a c e z3 z4 v2) h nx)) = .ok True) :
  IR.run F144.b1 C N (fnO F144.res K0) K (F144.fr a c e g f i) h nx = .ok True := by
 rw [F144.b1, F144.g1_eq, F144.b2]
 refine yL (fun m tm h nx => ∃ z3 z4 z5, tm = (F144.fr a c e z3 z4 z5) ∧ Inv m z3 z4 h nx) ?_ hm ⟨_, _, _, rfl, hi⟩
 rintro m tm h nx R ⟨z3, z4, z5, rfl, hi⟩ hR
 refine Eq.trans ?_ (step m z3 z4 z5 h nx R hi fun m' w3 w4 w5 h' nx' hlt hi' => hR m' _ h' nx' hlt ⟨_, _, _, rfl, hi'⟩)
 kernel_rfl
theorem F144.k8 : IR.run F144.b8 C N (fnO F144.res K0) K (F144.fr a c e g f i) h nx =
 K0 g h nx := by kernel_rfl
theorem F20.g4_eq (X5 : IR) (O : Outs Prop) (t : T AV) : IR.run (F20.g4 X5) C N O K t h nx = IR.run X5 C N (O.blk 0 K) K t h nx := by kernel_rfl
theorem F20.g12_eq (X13 : IR) (O : Outs Prop) (t : T AV) : IR.run (F20.g12 X13) C N O K t h nx = IR.run X13 C N (O.blk 2 K) K t h nx := by kernel_rfl
theorem F20.g26_eq (X27 : IR) (O : Outs Prop) (t : T AV) : IR.run (F20.g26 X27) C N O K t h nx = IR.run X27 C N (O.blk 6 K) K t h nx := by kernel_rfl
theorem F20.g20_eq (X21 : IR) (O : Outs Prop) (t : T AV) : IR.run (F20.g20 X21) C N O K t h nx = IR.run X21 C N (O.blk 4 K) K t h nx := by kernel_rfl
theorem F20.tab : T.get none (.of 20) tbl = some F20 := by kernel_rfl
theorem F20.go : zV tbl N C (.of 20) [a0, a1] h nx K0 =
 C.fn 25 (.of 25) [a1] h nx fun v1 h2 n3 => sBin .neq .int v1 (I 0) fun v4 => zX v4 (K0 (I 3) h2 n3) (sLen a0 fun v5 => sBin .eql .int v5 (I 0) fun v6 => zX v6 (K0 (I 12) h2 n3) (sLen a0 fun v7 => sBin .gtr .int v7 (I 1536) fun v8 => zX v8 (K0 (I 5) h2 n3) (IR.run F20.b4 C N (fnO F20.res K0) (IR.run F20.b11 C N (fnO F20.res K0) (retK F20.res K0)) (F20.fr a0 a1 (I 0) (I 0) .undef .undef .undef .undef v4 v6 v8 .undef .undef .undef .undef .undef .undef .undef) h2 n3))) := by
 rw [zI F20.tab]; kernel_rfl
theorem F20.L4 (Inv : Nat → AV → T Blk → Pa → Prop) {m : Nat} (hm : m < N) (hi : Inv m g h nx)
  (step : ∀ (m : Nat) (z2 z3 z4 zA zB : AV) (h : T Blk) (nx : Pa) (R : Ks Prop), Inv m z3 h nx → (∀ (m' : Nat) (w2 w3 w4 wA wB : AV) (h' : T Blk) (nx' : Pa), m' < m → Inv m' w3 h' nx' → R (F20.fr a c w2 w3 w4 i l s v w b wA wB o p q y z) h' nx' = .ok True) →
   (sLen a fun v1 => sBin .lss .int z3 v1 fun v2 => zX v2 (zR 2 a z3 fun v3 => zK 2 v3 h fun v4 => C.fn 26 (.of 26) [v4, c] h nx fun v5 h6 n7 => sBin .neq .int v5 (I 0) fun v8 => zX v8 (K0 v5 h6 n7) (sBin .add .int z3 (I 1) fun v9 => R (F20.fr a c z2 v9 v5 i l s v w b v2 v8 o p q y z) h6 n7)) (K (F20.fr a c z2 z3 z4 i l s v w b v2 zB o p q y z) h nx)) = .ok True) :
  IR.run F20.b4 C N (fnO F20.res K0) K (F20.fr a c e g f i l s v w b d u o p q y z) h nx = .ok True := by
 rw [F20.b4, F20.g4_eq, F20.b5]
 refine yL (fun m tm h nx => ∃ z2 z3 z4 zA zB, tm = (F20.fr a c z2 z3 z4 i l s v w b zA zB o p q y z) ∧ Inv m z3 h nx) ?_ hm ⟨_, _, _, _, _, rfl, hi⟩
 rintro m tm h nx R ⟨z2, z3, z4, zA, zB, rfl, hi⟩ hR
 refine Eq.trans ?_ (step m z2 z3 z4 zA zB h nx R hi fun m' w2 w3 w4 wA wB h' nx' hlt hi' => hR m' _ h' nx' hlt ⟨_, _, _, _, _, rfl, hi'⟩)
 kernel_rfl
theorem F20.k11 : IR.run F20.b11 C N (fnO F20.res K0) K (F20.fr a c e g f i l s v w b d u o p q y z) h nx =
 IR.run F20.b12 C N (fnO F20.res K0) (IR.run F20.b19 C N (fnO F20.res K0) K) (F20.fr a c e g f (I 1) l s v w b d u o p q y z) h nx := by kernel_rfl
theorem F20.L12 (Inv : Nat → AV → T Blk → Pa → Prop) {m : Nat} (hm : m < N) (hi : Inv m i h nx)
  (step : ∀ (m : Nat) (z2 z5 zC zD : AV) (h : T Blk) (nx : Pa) (R : Ks Prop), Inv m z5 h nx → (∀ (m' : Nat) (w2 w5 wC wD : AV) (h' : T Blk) (nx' : Pa), m' < m → Inv m' w5 h' nx' → R (F20.fr a c w2 g f w5 l s v w b d u wC wD q y z) h' nx' = .ok True) →
   (sLen a fun v1 => sBin .lss .int z5 v1 fun v2 => zX v2 (sBin .sub .int z5 (I 1) fun v3 => zR 2 a v3 fun v4 => zK 2 v4 h fun v5 => zR 2 a z5 fun v6 => zK 2 v6 h fun v7 => C.fn 85 (.of 85) [v5, v7] h nx fun v8 h9 nI => sNot v8 fun vB => zX vB (K0 (I 11) h9 nI) (sBin .add .int z5 (I 1) fun vC => R (F20.fr a c z2 g f vC l s v w b d u v2 vB q y z) h9 nI)) (K (F20.fr a c z2 g f z5 l s v w b d u v2 zD q y z) h nx)) = .ok True) :
  IR.run F20.b12 C N (fnO F20.res K0) K (F20.fr a c e g f i l s v w b d u o p q y z) h nx = .ok True := by
 rw [F20.b12, F20.g12_eq, F20.b13]
 refine yL (fun m tm h nx => ∃ z2 z5 zC zD, tm = (F20.fr a c z2 g f z5 l s v w b d u zC zD q y z) ∧ Inv m z5 h nx) ?_ hm ⟨_, _, _, _, rfl, hi⟩
 rintro m tm h nx R ⟨z2, z5, zC, zD, rfl, hi⟩ hR
 refine Eq.trans ?_ (step m z2 z5 zC zD h nx R hi fun m' w2 w5 wC wD h' nx' hlt hi' => hR m' _ h' nx' hlt ⟨_, _, _, _, rfl, hi'⟩)
 kernel_rfl
theorem F20.k19 : IR.run F20.b19 C N (fnO F20.res K0) K (F20.fr a c e g f i l s v w b d u o p q y z) h nx =
 IR.run F20.b20 C N (fnO F20.res K0) (IR.run F20.b34 C N (fnO F20.res K0) K) (F20.fr a c e g f i (I 0) s v w b d u o p q y z) h nx := by kernel_rfl
theorem F20.L20 (Inv : Nat → AV → T Blk → Pa → Prop) {m : Nat} (hm : m < N) (hi : Inv m l h nx)
  (step : ∀ (m : Nat) (z2 z6 z7 zE zG zH : AV) (h : T Blk) (nx : Pa) (R : Ks Prop), Inv m z6 h nx → (∀ (m' : Nat) (w2 w6 w7 wE wF wG : AV) (h' : T Blk) (nx' : Pa), m' < m → Inv m' w6 h' nx' → R (F20.fr a c w2 g f i w6 w7 v w b d u o p wE wF wG) h' nx' = .ok True) →
   (sLen a fun v1 => sBin .lss .int z6 v1 fun v2 => zX v2 (IR.run F20.b26 C N (((fnO F20.res K0).blk 4 K).blk 5 (IR.run F20.b33 C N ((fnO F20.res K0).blk 4 K) R)) (IR.run F20.b33 C N ((fnO F20.res K0).blk 4 K) R) (F20.fr a c z2 g f i z6 (I 0) v w b d u o p v2 zG zH) h nx) (K (F20.fr a c z2 g f i z6 z7 v w b d u o p v2 zG zH) h nx)) = .ok True) :
  IR.run F20.b20 C N (fnO F20.res K0) K (F20.fr a c e g f i l s v w b d u o p q y z) h nx = .ok True := by
 rw [F20.b20, F20.g20_eq, F20.b21]
 refine yL (fun m tm h nx => ∃ z2 z6 z7 zE zG zH, tm = (F20.fr a c z2 g f i z6 z7 v w b d u o p zE zG zH) ∧ Inv m z6 h nx) ?_ hm ⟨_, _, _, _, _, _, rfl, hi⟩
 rintro m tm h nx R ⟨z2, z6, z7, zE, zG, zH, rfl, hi⟩ hR
 refine Eq.trans ?_ (step m z2 z6 z7 zE zG zH h nx R hi fun m' w2 w6 w7 wE wF wG h' nx' hlt hi' => hR m' _ h' nx' hlt ⟨_, _, _, _, _, _, rfl, hi'⟩)
 kernel_rfl
theorem F20.k34 : IR.run F20.b34 C N (fnO F20.res K0) K (F20.fr a c e g f i l s v w b d u o p q y z) h nx =
 K0 (I 0) h nx := by kernel_rfl
theorem F20.k33 {E4 : Ks Prop} : IR.run F20.b33 C N ((fnO F20.res K0).blk 4 E4) K (F20.fr a c e g f i l s v w b d u o p q y z) h nx =
 sBin .add .int l (I 1) fun v1 => K (F20.fr a c e g f i v1 s v w b d u o p q y z) h nx := by kernel_rfl
theorem F20.L26 {E4 E5 : Ks Prop} (Inv : Nat → AV → T Blk → Pa → Prop) {m : Nat} (hm : m < N) (hi : Inv m s h nx)
  (step : ∀ (m : Nat) (z2 z7 zG zH : AV) (h : T Blk) (nx : Pa) (R : Ks Prop), Inv m z7 h nx → (∀ (m' : Nat) (w2 w7 wF wG : AV) (h' : T Blk) (nx' : Pa), m' < m → Inv m' w7 h' nx' → R (F20.fr a c w2 g f i l w7 v w b d u o p q wF wG) h' nx' = .ok True) →
   (sLen a fun v1 => sBin .lss .int z7 v1 fun v2 => zX v2 (zR 2 a l fun v3 => zK 2 v3 h fun v4 => zR 2 a z7 fun v5 => zK 2 v5 h fun v6 => C.fn 65 (.of 65) [v4, v6] h nx fun v7 h8 n9 => zN a a (C.fn 84 (.of 84) [a, v7] h8 n9 fun vA hH nH => sBin .lss .int vA (I 0) fun vD => zX vD (K0 (I 28) hH nH) (sBin .add .int z7 (I 1) fun vE => R (F20.fr a c z2 g f i l vE v w b d u o p q v2 vD) hH nH))) (K (F20.fr a c z2 g f i l z7 v w b d u o p q v2 zH) h nx)) = .ok True) :
  IR.run F20.b26 C N (((fnO F20.res K0).blk 4 E4).blk 5 E5) K (F20.fr a c e g f i l s v w b d u o p q y z) h nx = .ok True := by
 rw [F20.b26, F20.g26_eq, F20.b27]
 refine yL (fun m tm h nx => ∃ z2 z7 zG zH, tm = (F20.fr a c z2 g f i l z7 v w b d u o p q zG zH) ∧ Inv m z7 h nx) ?_ hm ⟨_, _, _, _, rfl, hi⟩
 rintro m tm h nx R ⟨z2, z7, zG, zH, rfl, hi⟩ hR
 refine Eq.trans ?_ (step m z2 z7 zG zH h nx R hi fun m' w2 w7 wF wG h' nx' hlt hi' => hR m' _ h' nx' hlt ⟨_, _, _, _, rfl, hi'⟩)
 kernel_rfl
end Go.Ev
namespace Go.Ev
open Go Go.Proofs
set_option maxRecDepth 100000
variable {N : Nat} {C : Calls Prop} {K0 : Kw Prop} {K R : Ks Prop} {h : T Blk} {nx : Pa} {a c e g f i l s v w b d u o a0 a1 : AV}
theorem F88.g1_eq (X2 : IR) (O : Outs Prop) (t : T AV) : IR.run (F88.g1 X2) C N O K t h nx = IR.run X2 C N (O.blk 0 K) K t h nx := by kernel_rfl
theorem F88.tab : T.get none (.of 88) tbl = some F88 := by kernel_rfl
theorem F88.go : zV tbl N C (.of 88) [a0, a1] h nx K0 =
 IR.run F88.b1 C N (fnO F88.res K0) (IR.run F88.b8 C N (fnO F88.res K0) (retK F88.res K0)) (F88.fr a0 a1 (.bool false) (I 0) .undef .undef) h nx := by
 rw [zI F88.tab]; kernel_rfl
theorem F88.L1 (Inv : Nat → AV → T Blk → Pa → Prop) {m : Nat} (hm : m < N) (hi : Inv m g h nx)
  (step : ∀ (m : Nat) (z2 z3 z4 z5 : AV) (h : T Blk) (nx : Pa) (R : Ks Prop), Inv m z3 h nx → (∀ (m' : Nat) (w2 w3 w4 w5 : AV) (h' : T Blk) (nx' : Pa), m' < m → Inv m' w3 h' nx' → R (F88.fr a c w2 w3 w4 w5) h' nx' = .ok True) →
   (sLen a fun v1 => sBin .lss .int z3 v1 fun v2 => sG v2 true (fun k => k z3) fun v3 => sG v2 true (fun k => k c) fun v4 => sG v2 true (fun k => sLen v4 k) fun v5 => sG v2 true (fun k => sBin .lss .int v3 v5 k) fun v6 => gA v2 v6 (.bool false) fun v7 => zX v7 ((IR.run F88.b4 C N ((fnO F88.res K0).blk 0 K) R) (F88.fr a c z2 z3 v7 z5) h nx) (K (F88.fr a c z2 z3 v7 z5) h nx)) = .ok True) :
  IR.run F88.b1 C N (fnO F88.res K0) K (F88.fr a c e g f i) h nx = .ok True := by
 rw [F88.b1, F88.g1_eq, F88.b2]
 refine yL (fun m tm h nx => ∃ z2 z3 z4 z5, tm = (F88.fr a c z2 z3 z4 z5) ∧ Inv m z3 h nx) ?_ hm ⟨_, _, _, _, rfl, hi⟩
 rintro m tm h nx R ⟨z2, z3, z4, z5, rfl, hi⟩ hR
 refine Eq.trans ?_ (step m z2 z3 z4 z5 h nx R hi fun m' w2 w3 w4 w5 h' nx' hlt hi' => hR m' _ h' nx' hlt ⟨_, _, _, _, rfl, hi'⟩)
 kernel_rfl
theorem F88.k8 : IR.run F88.b8 C N (fnO F88.res K0) K (F88.fr a c e g f i) h nx =
 sLen a fun v1 => sLen c fun v2 => sBin .lss .int v1 v2 fun v3 => K0 v3 h nx := by kernel_rfl
theorem F88.k4 {E0 : Ks Prop} : IR.run F88.b4 C N ((fnO F88.res K0).blk 0 E0) K (F88.fr a c e g f i) h nx =
 zR 1 a g fun v1 => zF v1 h fun v2 => zR 1 c g fun v3 => zF v3 h fun v4 => sBin .neq .int v2 v4 fun v5 => zX v5 (zR 1 a g fun v6 => zF v6 h fun v7 => zR 1 c g fun v8 => zF v8 h fun v9 => sBin .lss .int v7 v9 fun vA => K0 vA h nx) (sBin .add .int g (I 1) fun vB => K (F88.fr a c e vB f v5) h nx) := by kernel_rfl
theorem F201.g1_eq (X2 : IR) (O : Outs Prop) (t : T AV) : IR.run (F201.g1 X2) C N O K t h nx = IR.run X2 C N (O.blk 0 K) K t h nx := by kernel_rfl
theorem F201.tab : T.get none (.of 201) tbl = some F201 := by kernel_rfl
theorem F201.go : zV tbl N C (.of 201) [a0, a1] h nx K0 =
 sLen a0 fun v1 => IR.run F201.b1 C N (fnO F201.res K0) (IR.run F201.b9 C N (fnO F201.res K0) (retK F201.res K0)) (F201.fr a0 a1 (I 0) .undef .undef .undef .undef a0 v1 (I 0) .undef .undef .undef .undef) h nx := by
 rw [zI F201.tab]; kernel_rfl
theorem F201.L1 (Inv : Nat → AV → T Blk → Pa → Prop) {m : Nat} (hm : m < N) (hi : Inv m w h nx)
  (step : ∀ (m : Nat) (z2 z3 z4 z5 z6 z9 zJ zA zB : AV) (h : T Blk) (nx : Pa) (R : Ks Prop), Inv m z9 h nx → (∀ (m' : Nat) (w2 w3 w4 w5 w6 w9 wH wA wB : AV) (h' : T Blk) (nx' : Pa), m' < m → Inv m' w9 h' nx' → R (F201.fr a c w2 w3 w4 w5 w6 s v w9 wH wA wB o) h' nx' = .ok True) →
   (sBin .lss .int z9 v fun v1 => zX v1 (zR 1 s z9 fun v2 => zF v2 h fun v3 => sLen c fun v4 => sBin .geq .int z9 v4 fun v5 => zX v5 (K0 (I 1) h nx) (zR 1 c z9 fun v6 => zF v6 h fun v7 => C.fn 244 (.of 244) [v3, v7] h nx fun v8 h9 nI => sBin .neq .int v8 (I 0) fun vB => zX vB (K0 v8 h9 nI) (sBin .add .int z9 (I 1) fun vC => R (F201.fr a c z2 z9 v3 v7 v8 s v vC v1 v5 vB o) h9 nI))) (K (F201.fr a c z2 z3 z4 z5 z6 s v z9 v1 zA zB o) h nx)) = .ok True) :
  IR.run F201.b1 C N (fnO F201.res K0) K (F201.fr a c e g f i l s v w b d u o) h nx = .ok True := by
 rw [F201.b1, F201.g1_eq, F201.b2]
 refine yL (fun m tm h nx => ∃ z2 z3 z4 z5 z6 z9 zJ zA zB, tm = (F201.fr a c z2 z3 z4 z5 z6 s v z9 zJ zA zB o) ∧ Inv m z9 h nx) ?_ hm ⟨_, _, _, _, _, _, _, _, _, rfl, hi⟩
 rintro m tm h nx R ⟨z2, z3, z4, z5, z6, z9, zJ, zA, zB, rfl, hi⟩ hR
 refine Eq.trans ?_ (step m z2 z3 z4 z5 z6 z9 zJ zA zB h nx R hi fun m' w2 w3 w4 w5 w6 w9 wH wA wB h' nx' hlt hi' => hR m' _ h' nx' hlt ⟨_, _, _, _, _, _, _, _, _, rfl, hi'⟩)
 kernel_rfl
theorem F201.k9 : IR.run F201.b9 C N (fnO F201.res K0) K (F201.fr a c e g f i l s v w b d u o) h nx =
 sLen a fun v1 => sLen c fun v2 => sBin .lss .int v1 v2 fun v3 => zX v3 (K0 (I (-1)) h nx) (K0 (I 0) h nx) := by kernel_rfl
theorem F244.tab : T.get none (.of 244) tbl = some F244 := by kernel_rfl
theorem F244.go : zV tbl N C (.of 244) [a0, a1] h nx K0 =
 C.fn 250 (.of 250) [a0] h nx fun v1 h2 n3 => C.fn 250 (.of 250) [a1] h2 n3 fun v4 h5 n6 => zX v1 (zX v4 (K0 (I 0) h5 n6) (K0 (I (-1)) h5 n6)) (zX v4 (K0 (I 1) h5 n6) (sBin .lss .int a0 a1 fun v7 => zX v7 (K0 (I (-1)) h5 n6) (sBin .gtr .int a0 a1 fun v8 => zX v8 (K0 (I 1) h5 n6) (K0 (I 0) h5 n6)))) := by
 rw [zI F244.tab]; kernel_rfl
theorem F250.tab : T.get none (.of 250) tbl = some F250 := by kernel_rfl
theorem F250.go : zV tbl N C (.of 250) [a0] h nx K0 =
 sBin .neq .int a0 a0 fun v1 => K0 v1 h nx := by
 rw [zI F250.tab]; kernel_rfl
end Go.Ev
namespace Go.Ev
open Go Go.Proofs
set_option maxRecDepth 100000
variable {N : Nat} {C : Calls Prop} {K0 : Kw Prop} {K R : Ks Prop} {h : T Blk} {nx : Pa} {a c e g f i l s v w b d a0 a1 : AV}
theorem F97.g1_eq (X2 : IR) (O : Outs Prop) (t : T AV) : IR.run (F97.g1 X2) C N O K t h nx = IR.run X2 C N (O.blk 0 K) K t h nx := by kernel_rfl
theorem F97.tab : T.get none (.of 97) tbl = some F97 := by kernel_rfl
theorem F97.go : zV tbl N C (.of 97) [a0, a1] h nx K0 =
 sLen a0 fun v1 => IR.run F97.b1 C N (fnO F97.res K0) (IR.run F97.b8 C N (fnO F97.res K0) (retK F97.res K0)) (F97.fr a0 a1 (I 0) .undef .undef a0 v1 (I 0) .undef .undef) h nx := by
 rw [zI F97.tab]; kernel_rfl
theorem F97.L1 (Inv : Nat → AV → T Blk → Pa → Prop) {m : Nat} (hm : m < N) (hi : Inv m s h nx)
  (step : ∀ (m : Nat) (z2 z3 z4 z7 z8 z9 : AV) (h : T Blk) (nx : Pa) (R : Ks Prop), Inv m z7 h nx → (∀ (m' : Nat) (w2 w3 w4 w7 w8 w9 : AV) (h' : T Blk) (nx' : Pa), m' < m → Inv m' w7 h' nx' → R (F97.fr a c w2 w3 w4 i l w7 w8 w9) h' nx' = .ok True) →
   (sBin .lss .int z7 l fun v1 => zX v1 (zR 2 i z7 fun v2 => zK 2 v2 h fun v3 => yK [.nils, (.bool false)] h nx fun v4 h5 n6 => zL 2 v4 v3 h5 n6 fun v7 h8 n9 => zK 2 v4 h8 fun vA => C.fn 56 (.of 56) [vA, c] h8 n9 fun vB hD nD => sBin .neq .int vB (I 0) fun vE => zX vE (K0 vB hD nD) (sBin .add .int z7 (I 1) fun vF => R (F97.fr a c z2 v4 vB i l vF v1 vE) hD nD)) (K (F97.fr a c z2 z3 z4 i l z7 v1 z9) h nx)) = .ok True) :
  IR.run F97.b1 C N (fnO F97.res K0) K (F97.fr a c e g f i l s v w) h nx = .ok True := by
 rw [F97.b1, F97.g1_eq, F97.b2]
 refine yL (fun m tm h nx => ∃ z2 z3 z4 z7 z8 z9, tm = (F97.fr a c z2 z3 z4 i l z7 z8 z9) ∧ Inv m z7 h nx) ?_ hm ⟨_, _, _, _, _, _, rfl, hi⟩
 rintro m tm h nx R ⟨z2, z3, z4, z7, z8, z9, rfl, hi⟩ hR
 refine Eq.trans ?_ (step m z2 z3 z4 z7 z8 z9 h nx R hi fun m' w2 w3 w4 w7 w8 w9 h' nx' hlt hi' => hR m' _ h' nx' hlt ⟨_, _, _, _, _, _, rfl, hi'⟩)
 kernel_rfl
theorem F97.k8 : IR.run F97.b8 C N (fnO F97.res K0) K (F97.fr a c e g f i l s v w) h nx =
 K0 (I 0) h nx := by kernel_rfl
theorem F90.tab : T.get none (.of 90) tbl = some F90 := by kernel_rfl
theorem F90.go : zV tbl N C (.of 90) [a0] h nx K0 =
 sBox a0 h nx fun v1 h2 n3 => K0 (.fn 159 (.of 159) [v1]) h2 n3 := by
 rw [zI F90.tab]; kernel_rfl
theorem F162.tab : T.get none (.of 162) tbl = some F162 := by kernel_rfl
theorem F162.go : zV tbl N C (.of 162) [a0, a1] h nx K0 =
 sBox a0 h nx fun v1 h2 n3 => sBox a1 h2 n3 fun v4 h5 n6 => zP 0 v1 fun v7 => zF v7 h5 fun v8 => zP 0 v4 fun v9 => zF v9 h5 fun vA => C.fn 201 (.of 201) [v8, vA] h5 n6 fun vB hD nD => sBin .neq .int vB (I 0) fun vE => sG vE false (fun k => zP 1 v1 k) fun vF => sG vE false (fun k => zF vF hD k) fun vH => sG vE false (fun k => zP 1 v4 k) fun vI => sG vE false (fun k => zF vI hD k) fun vJ => sG vE false (fun k => sBin .eql .bool vH vJ k) fun vK => gA vE (.bool true) vK fun vL => zX vL (K0 vB hD nD) ((IR.run F162.b1 C N (fnO F162.res K0) (retK F162.res K0)) (F162.fr a0 a1 v1 v4 (I 0) vB vL .undef) hD nD) := by
 rw [zI F162.tab]; kernel_rfl
theorem F162.k1 : IR.run F162.b1 C N (fnO F162.res K0) K (F162.fr a c e g f i l s) h nx =
 zP 1 e fun v1 => zF v1 h fun v2 => zX v2 (K0 (I 1) h nx) (K0 (I (-1)) h nx) := by kernel_rfl
theorem F56.tab : T.get none (.of 56) tbl = some F56 := by kernel_rfl
theorem F56.go : zV tbl N C (.of 56) [a0, a1] h nx K0 =
 sBox a0 h nx fun v1 h2 n3 => zP 0 v1 fun v4 => zF v4 h2 fun v5 => sLen v5 fun v6 => sBin .neq .int v6 a1 fun v7 => zP 0 v1 fun v8 => zF v8 h2 fun v9 => C.fn 95 (.of 95) [a1] h2 n3 fun vA hH nH => (zF v8 hH fun vX => zN vX v9 ((zP 0 v1 fun vY => zN vY v8 ((sBin .neq .int v6 a1 fun vZ => zN vZ v7 (zN a1 a1 ((sLen v5 fun v33 => zN v33 v6 ((zF v4 hH fun v32 => zN v32 v5 ((zP 0 v1 fun vR => zN vR v4 (C.fn 96 (.of 96) [v7, (I 2)] hH nH fun vD hI nJ => (zF v8 hI fun vS => zN vS v9 ((zP 0 v1 fun vT => zN vT v8 (C.fn 140 (.of 140) [v9] hI nJ fun vH hG nG => sNot vH fun vK => C.fn 96 (.of 96) [vK, (I 14)] hG nG fun vL hJ nK => jD 1 3 [(I 0)] [(0, 1, vA), (1, 1, vD), (2, 1, vL)] hJ nK fun vO hF nF => C.fn 94 (.of 94) [vO] hF nF fun vW hK nL => K0 vW hK nL))))))))))))))))) := by
 rw [zI F56.tab]; kernel_rfl
theorem F159.g1_eq (X2 : IR) (O : Outs Prop) (t : T AV) : IR.run (F159.g1 X2) C N O K t h nx = IR.run X2 C N (O.blk 0 K) K t h nx := by kernel_rfl
theorem F159.tab : T.get none (.of 159) tbl = some F159 := by kernel_rfl
theorem F159.go : zV tbl N C (.of 159) [a0, a1] h nx K0 =
 zF a1 h fun v1 => sLen v1 fun v2 => IR.run F159.b1 C N (fnO F159.res K0) (retK F159.res K0) (F159.fr a0 a1 .undef .undef v1 v2 (I 0) .undef .undef) h nx := by
 rw [zI F159.tab]; kernel_rfl
theorem F159.L1 (Inv : Nat → AV → T Blk → Pa → Prop) {m : Nat} (hm : m < N) (hi : Inv m l h nx)
  (step : ∀ (m : Nat) (z2 z3 z6 z7 z8 : AV) (h : T Blk) (nx : Pa) (R : Ks Prop), Inv m z6 h nx → (∀ (m' : Nat) (w2 w3 w6 w7 w8 : AV) (h' : T Blk) (nx' : Pa), m' < m → Inv m' w6 h' nx' → R (F159.fr a c w2 w3 f i w6 w7 w8) h' nx' = .ok True) →
   (sBin .lss .int z6 i fun v1 => zX v1 (zR 2 f z6 fun v2 => zK 2 v2 h fun v3 => yK [.nils, (.bool false)] h nx fun v4 h5 n6 => zL 2 v4 v3 h5 n6 fun v7 h8 n9 => zK 2 v4 h8 fun vA => sCall C a [z6, vA] h8 n9 fun vB hD nD => sNot vB fun vE => zX vE (K0 (.tup []) hD nD) (sBin .add .int z6 (I 1) fun vF => R (F159.fr a c z6 v4 f i vF v1 vE) hD nD)) (K (F159.fr a c z2 z3 f i z6 v1 z8) h nx)) = .ok True) :
  IR.run F159.b1 C N (fnO F159.res K0) K (F159.fr a c e g f i l s v) h nx = .ok True := by
 rw [F159.b1, F159.g1_eq, F159.b2]
 refine yL (fun m tm h nx => ∃ z2 z3 z6 z7 z8, tm = (F159.fr a c z2 z3 f i z6 z7 z8) ∧ Inv m z6 h nx) ?_ hm ⟨_, _, _, _, _, rfl, hi⟩
 rintro m tm h nx R ⟨z2, z3, z6, z7, z8, rfl, hi⟩ hR
 refine Eq.trans ?_ (step m z2 z3 z6 z7 z8 h nx R hi fun m' w2 w3 w6 w7 w8 h' nx' hlt hi' => hR m' _ h' nx' hlt ⟨_, _, _, _, _, rfl, hi'⟩)
 kernel_rfl
theorem F163.g1_eq (X2 : IR) (O : Outs Prop) (t : T AV) : IR.run (F163.g1 X2) C N O K t h nx = IR.run X2 C N (O.blk 0 K) K t h nx := by kernel_rfl
theorem F163.tab : T.get none (.of 163) tbl = some F163 := by kernel_rfl
theorem F163.go : zV tbl N C (.of 163) [a0] h nx K0 =
 yK [.nils, (.bool false)] h nx fun v1 h2 n3 => gO 1 8 [(I 0)] a0 a0 h2 n3 fun v4 h5 n6 => uD [.nils, (.bool false)] [(0, 1, v4)] fun v7 => yK [.nils, (.bool false)] h5 n6 fun v8 h9 nI => zL 2 v8 v7 h9 nI fun vB hD nD => zP 0 v8 fun vE => zF vE hD fun vF => sLen vF fun vH => IR.run F163.b1 C N (fnO F163.res K0) (IR.run F163.b8 C N (fnO F163.res K0) (retK F163.res K0)) (F163.fr a0 v1 v8 .undef vH (I 0) .undef) hD nD := by
 rw [zI F163.tab]; kernel_rfl
theorem F163.L1 (Inv : Nat → AV → T Blk → Pa → Prop) {m : Nat} (hm : m < N) (hi : Inv m i h nx)
  (step : ∀ (m : Nat) (z3 z5 z6 : AV) (h : T Blk) (nx : Pa) (R : Ks Prop), Inv m z5 h nx → (∀ (m' : Nat) (w3 w5 w6 : AV) (h' : T Blk) (nx' : Pa), m' < m → Inv m' w5 h' nx' → R (F163.fr a c e w3 f w5 w6) h' nx' = .ok True) →
   (sBin .lss .int z5 f fun v1 => zX v1 (zP 0 e fun v2 => zF v2 h fun v3 => zR 1 v3 z5 fun v4 => zL 1 v4 z5 h nx fun v5 h6 n7 => sBin .add .int z5 (I 1) fun v8 => R (F163.fr a c e z5 f v8 v1) h6 n7) (K (F163.fr a c e z3 f z5 v1) h nx)) = .ok True) :
  IR.run F163.b1 C N (fnO F163.res K0) K (F163.fr a c e g f i l) h nx = .ok True := by
 rw [F163.b1, F163.g1_eq, F163.b2]
 refine yL (fun m tm h nx => ∃ z3 z5 z6, tm = (F163.fr a c e z3 f z5 z6) ∧ Inv m z5 h nx) ?_ hm ⟨_, _, _, rfl, hi⟩
 rintro m tm h nx R ⟨z3, z5, z6, rfl, hi⟩ hR
 refine Eq.trans ?_ (step m z3 z5 z6 h nx R hi fun m' w3 w5 w6 h' nx' hlt hi' => hR m' _ h' nx' hlt ⟨_, _, _, rfl, hi'⟩)
 kernel_rfl
theorem F163.k8 : IR.run F163.b8 C N (fnO F163.res K0) K (F163.fr a c e g f i l) h nx =
 zK 2 e h fun v1 => zL 2 c v1 h nx fun v2 h3 n4 => zK 2 c h3 fun v5 => K0 v5 h3 n4 := by kernel_rfl
theorem F123.g1_eq (X2 : IR) (O : Outs Prop) (t : T AV) : IR.run (F123.g1 X2) C N O K t h nx = IR.run X2 C N (O.blk 0 K) K t h nx := by kernel_rfl
theorem F123.tab : T.get none (.of 123) tbl = some F123 := by kernel_rfl
theorem F123.go : zV tbl N C (.of 123) [a0] h nx K0 =
 sBox a0 h nx fun v1 h2 n3 => zP 0 v1 fun v4 => zF v4 h2 fun v5 => sLen v5 fun v6 => sBin .add .int v6 (I 1) fun v7 => gO 1 1 [(.int .u8 0)] (I 0) v7 h2 n3 fun v8 h9 nI => zP 0 v1 fun vB => zF vB h9 fun vC => sLen vC fun vD => IR.run F123.b1 C N (fnO F123.res K0) (IR.run F123.b8 C N (fnO F123.res K0) (retK F123.res K0)) (F123.fr a0 v1 (.str []) v8 .undef vC vD (I 0) .undef .undef) h9 nI := by
 rw [zI F123.tab]; kernel_rfl
theorem F123.L1 (Inv : Nat → AV → AV → T Blk → Pa → Prop) {m : Nat} (hm : m < N) (hi : Inv m g s h nx)
  (step : ∀ (m : Nat) (z3 z4 z7 z8 : AV) (h : T Blk) (nx : Pa) (R : Ks Prop), Inv m z3 z7 h nx → (∀ (m' : Nat) (w3 w4 w7 w8 : AV) (h' : T Blk) (nx' : Pa), m' < m → Inv m' w3 w7 h' nx' → R (F123.fr a c e w3 w4 i l w7 w8 w) h' nx' = .ok True) →
   (sBin .lss .int z7 l fun v1 => zX v1 (zR 1 i z7 fun v2 => zF v2 h fun v3 => sConv .u8 v3 fun v4 => jD 1 1 [(.int .u8 0)] [(0, 1, v4)] h nx fun v5 h6 n7 => sApp 1 1 z3 v5 h6 n7 fun v8 h9 nI => sBin .add .int z7 (I 1) fun vB => R (F123.fr a c e v8 v3 i l vB v1 w) h9 nI) (K (F123.fr a c e z3 z4 i l z7 v1 w) h nx)) = .ok True) :
  IR.run F123.b1 C N (fnO F123.res K0) K (F123.fr a c e g f i l s v w) h nx = .ok True := by
 rw [F123.b1, F123.g1_eq, F123.b2]
 refine yL (fun m tm h nx => ∃ z3 z4 z7 z8, tm = (F123.fr a c e z3 z4 i l z7 z8 w) ∧ Inv m z3 z7 h nx) ?_ hm ⟨_, _, _, _, rfl, hi⟩
 rintro m tm h nx R ⟨z3, z4, z7, z8, rfl, hi⟩ hR
 refine Eq.trans ?_ (step m z3 z4 z7 z8 h nx R hi fun m' w3 w4 w7 w8 h' nx' hlt hi' => hR m' _ h' nx' hlt ⟨_, _, _, _, rfl, hi'⟩)
 kernel_rfl
theorem F123.k8 : IR.run F123.b8 C N (fnO F123.res K0) K (F123.fr a c e g f i l s v w) h nx =
 zP 1 c fun v1 => zF v1 h fun v2 => zX v2 (jD 1 1 [(.int .u8 0)] [(0, 1, (.int .u8 1))] h nx fun v3 h4 n5 => sApp 1 1 g v3 h4 n5 fun v6 h7 n8 => sB2s v6 h7 fun v9 => K0 v9 h7 n8) (sB2s g h fun vA => K0 vA h nx) := by kernel_rfl
theorem F121.tab : T.get none (.of 121) tbl = some F121 := by kernel_rfl
theorem F121.go : zV tbl N C (.of 121) [a0, a1] h nx K0 =
 sBox a1 h nx fun v1 h2 n3 => zK 2 v1 h2 fun v4 => C.fn 123 (.of 123) [v4] h2 n3 fun v5 h6 n7 => sLook .str (.agg [.nils, (.bool false)]) true a0 v5 h6 fun v8 => sExt 0 v8 fun v9 => sExt 1 v8 fun vA => yK [.nils, (.bool false)] h6 n7 fun vB hD nD => zL 2 vB v9 hD nD fun vE hA nA => K0 vA hA nA := by
 rw [zI F121.tab]; kernel_rfl
theorem F122.g1_eq (X2 : IR) (O : Outs Prop) (t : T AV) : IR.run (F122.g1 X2) C N O K t h nx = IR.run X2 C N (O.blk 0 K) K t h nx := by kernel_rfl
theorem F122.tab : T.get none (.of 122) tbl = some F122 := by kernel_rfl
theorem F122.go : zV tbl N C (.of 122) [a0, a1] h nx K0 =
 sBox a0 h nx fun v1 h2 n3 => sBox a1 h2 n3 fun v4 h5 n6 => yK [.nils, (.bool false)] h5 n6 fun v7 h8 n9 => sChk (true && true) (zP 0 v4 fun vA => zF vA h8 fun vB => sLen vB fun vC => sChk (mkSl 8 vC vC && true) (zP 1 v1 fun vD => zF vD h8 fun vE => zP 1 v4 fun vF => zF vF h8 fun vH => sBin .neq .bool vE vH fun vI => gO 1 8 [(I 0)] vC vC h8 n9 fun vJ hL nM => (sBin .neq .bool vE vH fun v47 => zN v47 vI ((zF vF hL fun v46 => zN v46 vH ((zP 1 v4 fun v45 => zN v45 vF ((zF vD hL fun v44 => zN v44 vE ((zP 1 v1 fun v43 => zN v43 vD ((sLen vB fun v42 => zN v42 vC ((zF vA hL fun v41 => zN v41 vB ((zP 0 v4 fun v40 => zN v40 vA (uD [.nils, (.bool false)] [(0, 1, vJ), (1, 1, vI)] fun vM => yK [.nils, (.bool false)] hL nM fun vN hM nN => (uD [.nils, (.bool false)] [(0, 1, vJ), (1, 1, vI)] fun v39 => zN v39 vM ((sBin .neq .bool vE vH fun v38 => zN v38 vI ((zF vF hM fun v37 => zN v37 vH ((zP 1 v4 fun vX => zN vX vF ((zF vD hM fun vY => zN vY vE ((zP 1 v1 fun vZ => zN vZ vD ((sLen vB fun v33 => zN v33 vC ((zF vA hM fun v32 => zN v32 vB ((zP 0 v4 fun vR => zN vR vA (zL 2 vN vM hM nN fun v25 hN nO => zP 0 v4 fun vU => zF vU hN fun vT => sLen vT fun vS => IR.run F122.b1 C N (fnO F122.res K0) (IR.run F122.b8 C N (fnO F122.res K0) (retK F122.res K0)) (F122.fr a0 a1 v1 v4 v7 vN .undef .undef vT vS (I 0) .undef) hN nO)))))))))))))))))))))))))))))))))))) := by
 rw [zI F122.tab]; kernel_rfl
theorem F122.L1 (Inv : Nat → AV → T Blk → Pa → Prop) {m : Nat} (hm : m < N) (hi : Inv m b h nx)
  (step : ∀ (m : Nat) (z6 z7 zJ zA : AV) (h : T Blk) (nx : Pa) (R : Ks Prop), Inv m zJ h nx → (∀ (m' : Nat) (w6 w7 wH wA : AV) (h' : T Blk) (nx' : Pa), m' < m → Inv m' wH h' nx' → R (F122.fr a c e g f i w6 w7 v w wH wA) h' nx' = .ok True) →
   (sBin .lss .int zJ w fun v1 => zX v1 (zR 1 v zJ fun v2 => zF v2 h fun v3 => zP 0 i fun v4 => zF v4 h fun v5 => zP 0 e fun v6 => zF v6 h fun v7 => zR 1 v7 v3 fun v8 => zF v8 h fun v9 => zR 1 v5 zJ fun vA => zL 1 vA v9 h nx fun vB hD nD => sBin .add .int zJ (I 1) fun vE => R (F122.fr a c e g f i zJ v3 v w vE v1) hD nD) (K (F122.fr a c e g f i z6 z7 v w zJ v1) h nx)) = .ok True) :
  IR.run F122.b1 C N (fnO F122.res K0) K (F122.fr a c e g f i l s v w b d) h nx = .ok True := by
 rw [F122.b1, F122.g1_eq, F122.b2]
 refine yL (fun m tm h nx => ∃ z6 z7 zJ zA, tm = (F122.fr a c e g f i z6 z7 v w zJ zA) ∧ Inv m zJ h nx) ?_ hm ⟨_, _, _, _, rfl, hi⟩
 rintro m tm h nx R ⟨z6, z7, zJ, zA, rfl, hi⟩ hR
 refine Eq.trans ?_ (step m z6 z7 zJ zA h nx R hi fun m' w6 w7 wH wA h' nx' hlt hi' => hR m' _ h' nx' hlt ⟨_, _, _, _, rfl, hi'⟩)
 kernel_rfl
theorem F122.k8 : IR.run F122.b8 C N (fnO F122.res K0) K (F122.fr a c e g f i l s v w b d) h nx =
 zK 2 i h fun v1 => zL 2 f v1 h nx fun v2 h3 n4 => zK 2 f h3 fun v5 => K0 v5 h3 n4 := by kernel_rfl
theorem F140.tab : T.get none (.of 140) tbl = some F140 := by kernel_rfl
theorem F140.go : zV tbl N C (.of 140) [a0] h nx K0 =
 C.fn 198 (.of 198) [a0] h nx fun v1 h2 n3 => sBin .eql .int v1 (I 0) fun v4 => K0 v4 h2 n3 := by
 rw [zI F140.tab]; kernel_rfl
theorem F198.g2_eq (X3 : IR) (O : Outs Prop) (t : T AV) : IR.run (F198.g2 X3) C N O K t h nx = IR.run X3 C N (O.blk 0 K) K t h nx := by kernel_rfl
theorem F198.tab : T.get none (.of 198) tbl = some F198 := by kernel_rfl
theorem F198.go : zV tbl N C (.of 198) [a0] h nx K0 =
 sLen a0 fun v1 => sBin .gtr .int v1 (I 256) fun v2 => zX v2 (K0 (I 5) h nx) (sLen a0 fun v3 => gO 1 1 [(.bool false)] v3 v3 h nx fun v4 h5 n6 => sLen a0 fun v7 => IR.run F198.b2 C N (fnO F198.res K0) (IR.run F198.b10 C N (fnO F198.res K0) (retK F198.res K0)) (F198.fr a0 (I 0) v4 .undef v2 a0 v7 (I 0) .undef .undef) h5 n6) := by
 rw [zI F198.tab]; kernel_rfl
theorem F198.L2 (Inv : Nat → AV → T Blk → Pa → Prop) {m : Nat} (hm : m < N) (hi : Inv m s h nx)
  (step : ∀ (m : Nat) (z1 z3 z7 z8 z9 : AV) (h : T Blk) (nx : Pa) (R : Ks Prop), Inv m z7 h nx → (∀ (m' : Nat) (w1 w3 w7 w8 w9 : AV) (h' : T Blk) (nx' : Pa), m' < m → Inv m' w7 h' nx' → R (F198.fr a w1 e w3 f i l w7 w8 w9) h' nx' = .ok True) →
   (sBin .lss .int z7 l fun v1 => zX v1 (zR 1 i z7 fun v2 => zF v2 h fun v3 => sBin .lss .int v3 (I 0) fun v4 => sG v4 false (fun k => k v3) fun v5 => sG v4 false (fun k => k a) fun v6 => sG v4 false (fun k => sLen v6 k) fun v7 => sG v4 false (fun k => sBin .geq .int v5 v7 k) fun v8 => gA v4 (.bool true) v8 fun v9 => sG v9 false (fun k => k e) fun vA => sG v9 false (fun k => k v3) fun vB => sG v9 false (fun k => zR 1 vA vB k) fun vC => sG v9 false (fun k => zF vC h k) fun vD => gA v9 (.bool true) vD fun vE => zX vE (K0 (I 14) h nx) ((IR.run F198.b8 C N (((fnO F198.res K0).blk 0 K).blk 1 (IR.run F198.b9 C N ((fnO F198.res K0).blk 0 K) R)) (IR.run F198.b9 C N ((fnO F198.res K0).blk 0 K) R)) (F198.fr a z1 e v3 f i l z7 v1 vE) h nx)) (K (F198.fr a z1 e z3 f i l z7 v1 z9) h nx)) = .ok True) :
  IR.run F198.b2 C N (fnO F198.res K0) K (F198.fr a c e g f i l s v w) h nx = .ok True := by
 rw [F198.b2, F198.g2_eq, F198.b3]
 refine yL (fun m tm h nx => ∃ z1 z3 z7 z8 z9, tm = (F198.fr a z1 e z3 f i l z7 z8 z9) ∧ Inv m z7 h nx) ?_ hm ⟨_, _, _, _, _, rfl, hi⟩
 rintro m tm h nx R ⟨z1, z3, z7, z8, z9, rfl, hi⟩ hR
 refine Eq.trans ?_ (step m z1 z3 z7 z8 z9 h nx R hi fun m' w1 w3 w7 w8 w9 h' nx' hlt hi' => hR m' _ h' nx' hlt ⟨_, _, _, _, _, rfl, hi'⟩)
 kernel_rfl
theorem F198.k10 : IR.run F198.b10 C N (fnO F198.res K0) K (F198.fr a c e g f i l s v w) h nx =
 K0 (I 0) h nx := by kernel_rfl
theorem F198.k9 {E0 : Ks Prop} : IR.run F198.b9 C N ((fnO F198.res K0).blk 0 E0) K (F198.fr a c e g f i l s v w) h nx =
 sBin .add .int s (I 1) fun v1 => K (F198.fr a c e g f i l v1 v w) h nx := by kernel_rfl
theorem F198.k8 {E0 E1 : Ks Prop} : IR.run F198.b8 C N (((fnO F198.res K0).blk 0 E0).blk 1 E1) K (F198.fr a c e g f i l s v w) h nx =
 zR 1 e g fun v1 => zL 1 v1 (.bool true) h nx fun v2 h3 n4 => K (F198.fr a c e g f i l s v w) h3 n4 := by kernel_rfl
theorem F94.g1_eq (X2 : IR) (O : Outs Prop) (t : T AV) : IR.run (F94.g1 X2) C N O K t h nx = IR.run X2 C N (O.blk 0 K) K t h nx := by kernel_rfl
theorem F94.tab : T.get none (.of 94) tbl = some F94 := by kernel_rfl
theorem F94.go : zV tbl N C (.of 94) [a0] h nx K0 =
 sLen a0 fun v1 => IR.run F94.b1 C N (fnO F94.res K0) (IR.run F94.b8 C N (fnO F94.res K0) (retK F94.res K0)) (F94.fr a0 (I 0) .undef a0 v1 (I 0) .undef .undef) h nx := by
 rw [zI F94.tab]; kernel_rfl
theorem F94.L1 (Inv : Nat → AV → T Blk → Pa → Prop) {m : Nat} (hm : m < N) (hi : Inv m i h nx)
  (step : ∀ (m : Nat) (z1 z2 z5 z6 z7 : AV) (h : T Blk) (nx : Pa) (R : Ks Prop), Inv m z5 h nx → (∀ (m' : Nat) (w1 w2 w5 w6 w7 : AV) (h' : T Blk) (nx' : Pa), m' < m → Inv m' w5 h' nx' → R (F94.fr a w1 w2 g f w5 w6 w7) h' nx' = .ok True) →
   (sBin .lss .int z5 f fun v1 => zX v1 (zR 1 g z5 fun v2 => zF v2 h fun v3 => sBin .neq .int v3 (I 0) fun v4 => zX v4 (K0 v3 h nx) (sBin .add .int z5 (I 1) fun v5 => R (F94.fr a z1 v3 g f v5 v1 v4) h nx)) (K (F94.fr a z1 z2 g f z5 v1 z7) h nx)) = .ok True) :
  IR.run F94.b1 C N (fnO F94.res K0) K (F94.fr a c e g f i l s) h nx = .ok True := by
 rw [F94.b1, F94.g1_eq, F94.b2]
 refine yL (fun m tm h nx => ∃ z1 z2 z5 z6 z7, tm = (F94.fr a z1 z2 g f z5 z6 z7) ∧ Inv m z5 h nx) ?_ hm ⟨_, _, _, _, _, rfl, hi⟩
 rintro m tm h nx R ⟨z1, z2, z5, z6, z7, rfl, hi⟩ hR
 refine Eq.trans ?_ (step m z1 z2 z5 z6 z7 h nx R hi fun m' w1 w2 w5 w6 w7 h' nx' hlt hi' => hR m' _ h' nx' hlt ⟨_, _, _, _, _, rfl, hi'⟩)
 kernel_rfl
theorem F94.k8 : IR.run F94.b8 C N (fnO F94.res K0) K (F94.fr a c e g f i l s) h nx =
 K0 (I 0) h nx := by kernel_rfl
theorem F95.tab : T.get none (.of 95) tbl = some F95 := by kernel_rfl
theorem F95.go : zV tbl N C (.of 95) [a0] h nx K0 =
 sBin .lss .int a0 (I 0) fun v1 => sG v1 false (fun k => k a0) fun v2 => sG v1 false (fun k => sBin .gtr .int v2 (I 256) k) fun v3 => gA v1 (.bool true) v3 fun v4 => C.fn 96 (.of 96) [v4, (I 3)] h nx fun v5 h6 n7 => K0 v5 h6 n7 := by
 rw [zI F95.tab]; kernel_rfl
theorem F96.tab : T.get none (.of 96) tbl = some F96 := by kernel_rfl
theorem F96.go : zV tbl N C (.of 96) [a0, a1] h nx K0 =
 zX a0 (K0 a1 h nx) (K0 (I 0) h nx) := by
 rw [zI F96.tab]; kernel_rfl
end Go.Ev
namespace Go.Ev
open Go Go.Proofs
set_option maxRecDepth 100000
variable {N : Nat} {C : Calls Prop} {K0 : Kw Prop} {K R : Ks Prop} {h : T Blk} {nx : Pa} {a c e g f i l s v w b d u o p q y z B A D E F G H a0 a1 a2 : AV}
theorem F98.g13_eq (X14 : IR) (O : Outs Prop) (t : T AV) : IR.run (F98.g13 X14) C N O K t h nx = IR.run X14 C N (O.blk 4 K) K t h nx := by kernel_rfl
theorem F98.g7_eq (X8 : IR) (O : Outs Prop) (t : T AV) : IR.run (F98.g7 X8) C N O K t h nx = IR.run X8 C N (O.blk 2 K) K t h nx := by kernel_rfl
theorem F98.tab : T.get none (.of 98) tbl = some F98 := by kernel_rfl
theorem F98.go : zV tbl N C (.of 98) [a0, a1, a2] h nx K0 =
 sBox a2 h nx fun v1 h2 n3 => yK [.nilm] h2 n3 fun v4 h5 n6 => yK [.nils] h5 n6 fun v7 h8 n9 => yK [(.bool false)] h8 n9 fun vA hH nH => C.fn 163 (.of 163) [a1] hH nH fun vD hI nJ => yK [.nils, (.bool false)] hI nJ fun vH hG nG => zL 2 vH vD hG nG fun vK hE nE => sChk (true && (true && true)) (zK 2 vH hE fun vN => zK 2 vH hE fun vO => C.fn 123 (.of 123) [vN] hE nE fun vP hC nC => (zK 2 vH hC fun v52 => zN v52 vO ((zK 2 vH hC fun v51 => zN v51 vN (sMkmap hC nC fun vQ hO nP => (zK 2 vH hO fun v50 => zN v50 vO ((zK 2 vH hO fun v49 => zN v49 vN (pK .str vQ vP vO hO nP fun vS hP nQ => (zK 2 vH hP fun v48 => zN v48 vO ((zK 2 vH hP fun v47 => zN v47 vN (yK [.nilm] hP nQ fun v33 hQ nR => zN vQ vQ ((zK 2 vH hQ fun v46 => zN v46 vO ((zK 2 vH hQ fun v45 => zN v45 vN (zL 1 v33 vQ hQ nR fun vX hS nS => yK [.nils] hS nS fun v39 hT nT => C.fn 90 (.of 90) [a0] hT nT fun v42 hU nU => IR.run (.rf (.t (.of 14)) [(.of 15), (.of 16)] F98.b3 F98.b4) C N ((fnO F98.res K0).blk 0 (IR.run F98.b23 C N (fnO F98.res K0) (retK F98.res K0))) (IR.run F98.b23 C N (fnO F98.res K0) (retK F98.res K0)) (F98.fr a0 a1 a2 v1 v4 v7 vA vH v33 v39 .undef .undef .undef .undef v42 .undef .undef .undef .undef .undef .undef .undef .undef .undef .undef) hU nU)))))))))))))))))) := by
 rw [zI F98.tab]; kernel_rfl
theorem F98.k23 : IR.run F98.b23 C N (fnO F98.res K0) K (F98.fr a c e g f i l s v w b d u o p q y z B A D E F G H) h nx =
 zF v h fun v1 => zF w h fun v2 => zL 1 f v1 h nx fun v3 h4 n5 => (zF w h4 fun vF => zN vF v2 (zL 1 i v2 h4 n5 fun v6 h7 n8 => zL 1 l (.bool true) h7 n8 fun v9 hV nV => zF f hV fun vC => zF i hV fun vD => zF l hV fun vE => K0 (.tup [vC, vD, vE]) hV nV)) := by kernel_rfl
theorem F98.p4 {N : Nat} {C : Calls Prop} {K0 : Kw Prop} {id nx : Pa} {j : Jump} {h : T Blk} {a c e g f i l s v w b d u o p q y z B A D E F G H z0 z1 : AV} (hl : T.get .no id h = .loop .ready j (F98.fr a c e g f i l s v w b d u o p q y z B A D E F G H) [.of 15, .of 16] F98.b3 F98.b4) :
 qR N C id [z0, z1] h nx K0 =
 yK [.nils, (.bool false)] h nx fun v1 h2 n3 => zL 2 v1 z1 h2 n3 fun v4 h5 n6 => rMid N C id K0 F98.b4 (F98.fr a c e g f i l s v w v1 d u o p z0 z1 z B A D E F G H) h5 n6 := by
 rw [rnd_gen hl (tm1 := (F98.fr a c e g f i l s v w b d u o p z0 z1 z B A D E F G H)) (by intro k; kernel_rfl)]; kernel_rfl
theorem F98.y4 {N : Nat} {C : Calls Prop} {K0 : Kw Prop} {id nx : Pa} {h : T Blk} {a c e g f i l s v w b d u o p q y z B A D E F G H : AV} :
 IR.run F98.b4 C N (rO id K0) (yR id K0 .none true) (F98.fr a c e g f i l s v w b d u o p q y z B A D E F G H) h nx =
 zF v h fun v1 => zK 2 b h fun v2 => C.fn 121 (.of 121) [v1, v2] h nx fun v3 h4 n5 => zX v3 (yR id K0 .none true .e h4 n5) (zF w h4 fun v6 => zK 2 b h4 fun v7 => jD 2 1 [.nils, (.bool false)] [(0, 2, v7)] h4 n5 fun v8 h9 nI => vG C 2 32 v6 v8 h9 nI fun vB hD nD => zL 1 w vB hD nD fun vE hA nA => sChk (true && true) (zK 2 s hA fun vI => zK 2 s hA fun vJ => C.fn 123 (.of 123) [vI] hA nA fun vK hE nE => (zK 2 s hE fun v38 => zN v38 vJ ((zK 2 s hE fun v37 => zN v37 vI (sMkmap hE nE fun vN hM nN => (zK 2 s hM fun vX => zN vX vJ ((zK 2 s hM fun vY => zN vY vI (pK .str vN vK vJ hM nN fun v25 hN nO => zL 1 v vN hN nO fun vU hW nW => zK 2 s hW fun vR => jD 2 1 [.nils, (.bool false)] [(0, 2, vR)] hW nW fun v32 hX nX => IR.run F98.b7 C N ((rO id K0).blk 1 (yR id K0 .none true)) (yR id K0 .none true) (F98.fr a c e g f i l s v w b v32 u o p q y v3 B A D E F G H) hX nX)))))))))) := by kernel_rfl
theorem F98.L7 {id : Pa} {E1 : Ks Prop} (Inv : Nat → AV → T Blk → Pa → Prop) {m : Nat} (hm : m < N) (hi : Inv m d h nx)
  (step : ∀ (m : Nat) (zA zB zC zM zO zQ zS zT zU zW : AV) (h : T Blk) (nx : Pa) (R : Ks Prop), Inv m zA h nx → (∀ (m' : Nat) (wA wB wC wI wJ wK wL wM wN wO : AV) (h' : T Blk) (nx' : Pa), m' < m → Inv m' wA h' nx' → R (F98.fr a c e g f i l s v w b wA wB wC p q y z wI wJ wK wL wM wN wO) h' nx' = .ok True) →
   (sLen zA fun v1 => sBin .gtr .int v1 (I 0) fun v2 => zX v2 (zF w h fun v3 => sLen v3 fun v4 => IR.run F98.b13 C N ((((rO id K0).blk 1 E1).blk 2 K).blk 3 (IR.run F98.b22 C N (((rO id K0).blk 1 E1).blk 2 K) R)) (IR.run F98.b22 C N (((rO id K0).blk 1 E1).blk 2 K) R) (F98.fr a c e g f i l s v w b zA zB zC p q y z v2 v3 v4 (I 0) zT zU zW) h nx) (K (F98.fr a c e g f i l s v w b zA zB zC p q y z v2 zO zQ zS zT zU zW) h nx)) = .ok True) :
  IR.run F98.b7 C N ((rO id K0).blk 1 E1) K (F98.fr a c e g f i l s v w b d u o p q y z B A D E F G H) h nx = .ok True := by
 rw [F98.b7, F98.g7_eq, F98.b8]
 refine yL (fun m tm h nx => ∃ zA zB zC zM zO zQ zS zT zU zW, tm = (F98.fr a c e g f i l s v w b zA zB zC p q y z zM zO zQ zS zT zU zW) ∧ Inv m zA h nx) ?_ hm ⟨_, _, _, _, _, _, _, _, _, _, rfl, hi⟩
 rintro m tm h nx R ⟨zA, zB, zC, zM, zO, zQ, zS, zT, zU, zW, rfl, hi⟩ hR
 refine Eq.trans ?_ (step m zA zB zC zM zO zQ zS zT zU zW h nx R hi fun m' wA wB wC wI wJ wK wL wM wN wO h' nx' hlt hi' => hR m' _ h' nx' hlt ⟨_, _, _, _, _, _, _, _, _, _, rfl, hi'⟩)
 kernel_rfl
theorem F98.k22 {id : Pa} {E1 E2 : Ks Prop} : IR.run F98.b22 C N (((rO id K0).blk 1 E1).blk 2 E2) K (F98.fr a c e g f i l s v w b d u o p q y z B A D E F G H) h nx =
 sSlice 2 d (some (I 1)) none none fun v1 => K (F98.fr a c e g f i l s v w b v1 u o p q y z B A D E F G H) h nx := by kernel_rfl
theorem F98.L13 {id : Pa} {E1 E2 E3 : Ks Prop} (Inv : Nat → AV → AV → T Blk → Pa → Prop) {m : Nat} (hm : m < N) (hi : Inv m d E h nx)
  (step : ∀ (m : Nat) (zA zB zC zS zT zU zW : AV) (h : T Blk) (nx : Pa) (R : Ks Prop), Inv m zA zS h nx → (∀ (m' : Nat) (wA wB wC wL wM wN wO : AV) (h' : T Blk) (nx' : Pa), m' < m → Inv m' wA wL h' nx' → R (F98.fr a c e g f i l s v w b wA wB wC p q y z B A D wL wM wN wO) h' nx' = .ok True) →
   (sBin .lss .int zS D fun v1 => zX v1 (zR 2 A zS fun v2 => zK 2 v2 h fun v3 => yK [.nils, (.bool false)] h nx fun v4 h5 n6 => zL 2 v4 v3 h5 n6 fun v7 h8 n9 => sChk (true && true) (zK 2 v4 h8 fun vA => zR 2 zA (I 0) fun vB => zK 2 vB h8 fun vC => C.fn 122 (.of 122) [vA, vC] h8 n9 fun vD hI nJ => (zK 2 vB hI fun v65 => zN v65 vC ((zR 2 zA (I 0) fun v64 => zN v64 vB (zN zA zA ((zK 2 v4 hI fun v63 => zN v63 vA (yK [.nils, (.bool false)] hI nJ fun vH hG nG => (zK 2 vB hG fun v62 => zN v62 vC ((zR 2 zA (I 0) fun v61 => zN v61 vB (zN zA zA ((zK 2 v4 hG fun v60 => zN v60 vA (zL 2 vH vD hG nG fun vK hE nE => zF v hE fun vN => zK 2 vH hE fun vO => C.fn 121 (.of 121) [vN, vO] hE nE fun vP hC nC => zX vP (sBin .add .int zS (I 1) fun vQ => R (F98.fr a c e g f i l s v w b zA v4 vH p q y z B A D vQ v1 vP zW) hC nC) (zF v hC fun vU => sMlen vU hC fun vT => zF g hC fun vS => sBin .eql .int vT vS fun vR => zX vR (zL 1 f .nilm hC nC fun v32 hX nX => zL 1 i .nils hX nX fun vY hY nY => zL 1 l (.bool false) hY nY fun v38 hZ nZ => yR id K0 .ret false .e hZ nZ) (zF v hC fun v41 => zK 2 vH hC fun v42 => zK 2 vH hC fun v43 => C.fn 123 (.of 123) [v42] hC nC fun v44 h45 n46 => (zK 2 vH h45 fun v59 => zN v59 v43 ((zF v h45 fun v58 => zN v58 v41 (pK .str v41 v44 v43 h45 n46 fun v47 h48 n49 => zK 2 vH h48 fun v50 => jD 2 1 [.nils, (.bool false)] [(0, 2, v50)] h48 n49 fun v51 h52 n53 => vG C 2 32 zA v51 h52 n53 fun v54 h55 n56 => sBin .add .int zS (I 1) fun v57 => R (F98.fr a c e g f i l s v w b v54 v4 vH p q y z B A D v57 v1 vP vR) h55 n56)))))))))))))))))))))) (K (F98.fr a c e g f i l s v w b zA zB zC p q y z B A D zS v1 zU zW) h nx)) = .ok True) :
  IR.run F98.b13 C N ((((rO id K0).blk 1 E1).blk 2 E2).blk 3 E3) K (F98.fr a c e g f i l s v w b d u o p q y z B A D E F G H) h nx = .ok True := by
 rw [F98.b13, F98.g13_eq, F98.b14]
 refine yL (fun m tm h nx => ∃ zA zB zC zS zT zU zW, tm = (F98.fr a c e g f i l s v w b zA zB zC p q y z B A D zS zT zU zW) ∧ Inv m zA zS h nx) ?_ hm ⟨_, _, _, _, _, _, _, rfl, hi⟩
 rintro m tm h nx R ⟨zA, zB, zC, zS, zT, zU, zW, rfl, hi⟩ hR
 refine Eq.trans ?_ (step m zA zB zC zS zT zU zW h nx R hi fun m' wA wB wC wL wM wN wO h' nx' hlt hi' => hR m' _ h' nx' hlt ⟨_, _, _, _, _, _, _, rfl, hi'⟩)
 kernel_rfl
end Go.Ev
namespace Go.Ev
open Go Go.Proofs
set_option maxRecDepth 100000
variable {N : Nat} {C : Calls Prop} {K0 : Kw Prop} {K R : Ks Prop} {h : T Blk} {nx : Pa} {a c e g f i l s v w b d u o p q y z B A a0 a1 : AV}
theorem F92.tab : T.get none (.of 92) tbl = some F92 := by kernel_rfl
theorem F92.go : zV tbl N C (.of 92) [a0, a1] h nx K0 =
 sBox a0 h nx fun v1 h2 n3 => yK [.nilm] h2 n3 fun v4 h5 n6 => yK [.nils] h5 n6 fun v7 h8 n9 => yK [(I 0)] h8 n9 fun vA hH nH => zF v1 hH fun vD => sLen vD fun vE => sBin .eql .int vE (I 0) fun vF => zF v1 hH fun vH => sLen vH fun vI => sBin .gtr .int vI (I 1536) fun vJ => C.fn 95 (.of 95) [a1] hH nH fun vK hE nE => (sBin .gtr .int vI (I 1536) fun v76 => zN v76 vJ ((sLen vH fun v75 => zN v75 vI ((zF v1 hE fun v74 => zN v74 vH ((sBin .eql .int vE (I 0) fun v73 => zN v73 vF ((sLen vD fun v72 => zN v72 vE ((zF v1 hE fun v71 => zN v71 vD (C.fn 96 (.of 96) [vF, (I 12)] hE nE fun vN hM nN => (sBin .gtr .int vI (I 1536) fun v70 => zN v70 vJ ((sLen vH fun v69 => zN v69 vI ((zF v1 hM fun v68 => zN v68 vH (C.fn 96 (.of 96) [vJ, (I 5)] hM nN fun v25 hN nO => jD 1 3 [(I 0)] [(0, 1, vK), (1, 1, vN), (2, 1, v25)] hN nO fun vU hW nW => C.fn 94 (.of 94) [vU] hW nW fun vR h32 n33 => sBin .neq .int vR (I 0) fun vZ => zX vZ (zL 1 v4 .nilm h32 n33 fun vY hY nY => zL 1 v7 .nils hY nY fun v38 hZ nZ => zL 1 vA vR hZ nZ fun v41 h42 n43 => zF v4 h42 fun v44 => zF v7 h42 fun v45 => zF vA h42 fun v46 => K0 (.tup [v44, v45, v46]) h42 n43) (zF v1 h32 fun v47 => C.fn 97 (.of 97) [v47, a1] h32 n33 fun v48 h49 n50 => sBin .neq .int v48 (I 0) fun v51 => zX v51 (zL 1 v4 .nilm h49 n50 fun v52 h53 n54 => zL 1 v7 .nils h53 n54 fun v55 h56 n57 => zL 1 vA v48 h56 n57 fun v58 h59 n60 => zF v4 h59 fun v61 => zF v7 h59 fun v62 => zF vA h59 fun v63 => K0 (.tup [v61, v62, v63]) h59 n60) (zF v1 h49 fun v64 => C.fn 90 (.of 90) [v64] h49 n50 fun v65 h66 n67 => IR.run (.rf (.t (.of 15)) [(.of 16), (.of 17)] F92.b5 F92.b6) C N ((fnO F92.res K0).blk 0 (IR.run F92.b8 C N (fnO F92.res K0) (retK F92.res K0))) (IR.run F92.b8 C N (fnO F92.res K0) (retK F92.res K0)) (F92.fr a0 a1 v1 v4 v7 vA vR v48 .undef .undef .undef .undef .undef vZ v51 v65 .undef .undef .undef .undef) h66 n67)))))))))))))))))))) := by
 rw [zI F92.tab]; kernel_rfl
theorem F92.k8 : IR.run F92.b8 C N (fnO F92.res K0) K (F92.fr a c e g f i l s v w b d u o p q y z B A) h nx =
 zF e h fun v1 => zF e h fun v2 => sLen v2 fun v3 => C.fn 98 (.of 98) [v1, c, v3] h nx fun v4 h5 n6 => sExt 0 v4 fun v7 => sExt 1 v4 fun v8 => sExt 2 v4 fun v9 => sNot v9 fun vA => sG vA false (fun k => k v7) fun vB => sG vA false (fun k => sMlen vB h5 k) fun vC => sG vA false (fun k => zF e h5 k) fun vD => sG vA false (fun k => sLen vD k) fun vE => sG vA false (fun k => sBin .neq .int vC vE k) fun vF => gA vA (.bool true) vF fun vH => zX vH (zL 1 g .nilm h5 n6 fun vI h18 n19 => zL 1 f .nils h18 n19 fun vL hJ nK => zL 1 i (I 28) hJ nK fun vO hF nF => zF g hF fun vW => zF f hF fun vQ => zF i hF fun vU => K0 (.tup [vW, vQ, vU]) hF nF) ((IR.run F92.b9 C N (fnO F92.res K0) K) (F92.fr a c e g f i l s v w v7 v8 v9 o p q y z B vH) h5 n6) := by kernel_rfl
theorem F92.p6 {N : Nat} {C : Calls Prop} {K0 : Kw Prop} {id nx : Pa} {j : Jump} {h : T Blk} {a c e g f i l s v w b d u o p q y z B A z0 z1 : AV} (hl : T.get .no id h = .loop .ready j (F92.fr a c e g f i l s v w b d u o p q y z B A) [.of 16, .of 17] F92.b5 F92.b6) :
 qR N C id [z0, z1] h nx K0 =
 yK [.nils, (.bool false)] h nx fun v1 h2 n3 => zL 2 v1 z1 h2 n3 fun v4 h5 n6 => rMid N C id K0 F92.b6 (F92.fr a c e g f i l s z0 v1 b d u o p q z0 z1 B A) h5 n6 := by
 rw [rnd_gen hl (tm1 := (F92.fr a c e g f i l s v w b d u o p q z0 z1 B A)) (by intro k; kernel_rfl)]; kernel_rfl
theorem F92.y6 {N : Nat} {C : Calls Prop} {K0 : Kw Prop} {id nx : Pa} {h : T Blk} {a c e g f i l s v w b d u o p q y z B A : AV} :
 IR.run F92.b6 C N (rO id K0) (yR id K0 .none true) (F92.fr a c e g f i l s v w b d u o p q y z B A) h nx =
 sBin .gtr .int v (I 0) fun v1 => sG v1 true (fun k => zF e h k) fun v2 => sG v1 true (fun k => k v) fun v3 => sG v1 true (fun k => sBin .sub .int v3 (I 1) k) fun v4 => sG v1 true (fun k => zR 2 v2 v4 k) fun v5 => sG v1 true (fun k => zK 2 v5 h k) fun v6 => sG v1 true (fun k => zK 2 w h k) fun v7 => sGW v1 true (fun k => C.fn 162 (.of 162) [v6, v7] h nx k) h nx fun v8 h9 nI => sG v1 true (fun k => sBin .geq .int v8 (I 0) k) fun vB => gA v1 vB (.bool false) fun vC => zX vC (zL 1 g .nilm h9 nI fun vD hI nJ => zL 1 f .nils hI nJ fun vH hG nG => zL 1 i (I 11) hG nG fun vK hE nE => yR id K0 .ret false .e hE nE) (yR id K0 .none true .e h9 nI) := by kernel_rfl
theorem F92.k9 : IR.run F92.b9 C N (fnO F92.res K0) K (F92.fr a c e g f i l s v w b d u o p q y z B A) h nx =
 zL 1 g b h nx fun v1 h2 n3 => zL 1 f d h2 n3 fun v4 h5 n6 => zL 1 i (I 0) h5 n6 fun v7 h8 n9 => zF g h8 fun vA => zF f h8 fun vB => zF i h8 fun vC => K0 (.tup [vA, vB, vC]) h8 n9 := by kernel_rfl
end Go.Ev
namespace Go.Ev
open Go Go.Proofs
set_option maxRecDepth 100000
variable {N : Nat} {C : Calls Prop} {K0 : Kw Prop} {K R : Ks Prop} {h : T Blk} {nx : Pa} {a c e g a0 a1 : AV}
theorem F22.tab : T.get none (.of 22) tbl = some F22 := by kernel_rfl
theorem F22.go : zV tbl N C (.of 22) [a0, a1] h nx K0 =
 C.fn 92 (.of 92) [a0, a1] h nx fun v1 h2 n3 => sExt 0 v1 fun v4 => sExt 1 v1 fun v5 => sExt 2 v1 fun v6 => K0 v6 h2 n3 := by
 rw [zI F22.tab]; kernel_rfl
end Go.Ev
namespace Go.Ev
open Go Go.Proofs
set_option maxRecDepth 100000
section
variable {N : Nat} {C : Calls Prop} {K0 : Kw Prop} {K : Ks Prop} {h : T Blk} {nx : Pa} {a c e g f i l s v w b d a0 a1 : AV} {O : Outs Prop} {tm : T AV} {Kt : KTm} {r : List RO} {s0 s1 s2 s3 s4 s5 s6 s7 s8 s9 s10 s11 s12 s13 s14 s15 s16 s17 s18 s19 s20 s21 s22 s23 s24 s25 s26 s27 s28 s29 s30 s31 s32 s33 s34 s35 s36 s37 s38 s39 : AV}
noncomputable def F135.t0 : IR := .reg [.w (.loc (.of 2)) none (.box (.t (.of 0))), .q (.of 3) (.mv (.c .nils))]
noncomputable def F135.t1 : IR := .reg [.s (.mv (.t (.of 1))), .s (.len (.s 0)), .w .push none (.mkslice 1 8 [(I 0)] (.s 0) (.s 0)), .q (.of 4) (.mv (.s 0))]
noncomputable def F135.t2 : IR := .reg [.q (.of 7) (.mv (.t (.of 1))), .q (.of 8) (.len (.t (.of 7))), .q (.of 9) (.mv (.c (I 0)))]
noncomputable def F135.t3 : IR := .reg [.q (.of 10) (.bin .lss .int (.t (.of 9)) (.t (.of 8)))]
noncomputable def F135.t4 : IR := .cond (.t (.of 10)) .skip (.exit 0)
noncomputable def F135.t5 : IR := .reg [.s (.mv (.t (.of 9))), .s (.iaddr 1 (.t (.of 7)) (.t (.of 9))), .s (.load (.s 0)), .q (.of 5) (.mv (.s 2)), .q (.of 6) (.mv (.s 0))]
noncomputable def F135.t6 : IR := .reg [.s (.faddr 1 (.t (.of 2))), .q (.of 11) (.load (.s 0))]
noncomputable def F135.t7 : IR := .reg [.s (.mv (.t (.of 1))), .s (.len (.s 0)), .s (.bin .add .int (.s 0) (.c (I 1))), .s (.mv (.t (.of 6))), .s (.bin .sub .int (.s 1) (.s 0)), .q (.of 6) (.mv (.s 0))]
noncomputable def F135.t8 : IR := .cond (.t (.of 11)) F135.t7 .skip
noncomputable def F135.t9 : IR := .seq F135.t6 F135.t8
noncomputable def F135.t10 : IR := .reg [.s (.mv (.t (.of 4))), .s (.faddr 0 (.t (.of 2))), .s (.load (.s 0)), .s (.mv (.t (.of 5))), .s (.iaddr 1 (.s 1) (.s 0)), .s (.load (.s 0)), .s (.mv (.t (.of 6))), .s (.iaddr 1 (.s 6) (.s 1)), .w .none none (.store 1 (.s 0) (.s 1))]
noncomputable def F135.t11 : IR := .seq F135.t9 F135.t10
noncomputable def F135.t12 : IR := .seq F135.t5 F135.t11
noncomputable def F135.t13 : IR := .block 1 F135.t12
noncomputable def F135.t14 : IR := .reg [.s (.bin .add .int (.t (.of 9)) (.c (I 1))), .q (.of 9) (.mv (.s 0))]
noncomputable def F135.t15 : IR := .seq F135.t13 F135.t14
noncomputable def F135.t16 : IR := .seq F135.t4 F135.t15
noncomputable def F135.t17 : IR := .seq F135.t3 F135.t16
noncomputable def F135.t18 : IR := .loop F135.t17
noncomputable def F135.t19 : IR := .block 0 F135.t18
noncomputable def F135.t20 : IR := .seq F135.t2 F135.t19
noncomputable def F135.t21 : IR := .reg [.s (.mv (.t (.of 4))), .q (.of 3) (.mv (.s 0))]
noncomputable def F135.t22 : IR := .seq F135.t21 .ret
noncomputable def F135.t23 : IR := .seq F135.t20 F135.t22
noncomputable def F135.t24 : IR := .seq F135.t1 F135.t23
noncomputable def F135.t25 : IR := .seq F135.t0 F135.t24
theorem F135.t0_s : IR.run F135.t0 C N O K (F135.fr a c e g f i l s v w b d) h nx =
 sBox a h nx fun v1 h2 n3 => K (F135.fr a c v1 .nils f i l s v w b d) h2 n3 := by kernel_rfl
theorem F135.t1_s : IR.run F135.t1 C N O K (F135.fr a c e g f i l s v w b d) h nx =
 sLen c fun v1 => gO 1 8 [(I 0)] v1 v1 h nx fun v2 h3 n4 => K (F135.fr a c e g v2 i l s v w b d) h3 n4 := by kernel_rfl
theorem F135.t2_s : IR.run F135.t2 C N O K (F135.fr a c e g f i l s v w b d) h nx =
 sLen c fun v1 => K (F135.fr a c e g f i l c v1 (I 0) b d) h nx := by kernel_rfl
theorem F135.t3_s : IR.run F135.t3 C N O K (F135.fr a c e g f i l s v w b d) h nx =
 sBin .lss .int w v fun v1 => K (F135.fr a c e g f i l s v w v1 d) h nx := by kernel_rfl
theorem F135.v10 : Arg.ev (.t (.of 10)) ⟨(F135.fr a c e g f i l s v w b d), []⟩ = b := by kernel_rfl
theorem F135.t5_s : IR.run F135.t5 C N O K (F135.fr a c e g f i l s v w b d) h nx =
 zR 1 s w fun v1 => zF v1 h fun v2 => K (F135.fr a c e g f w v2 s v w b d) h nx := by kernel_rfl
theorem F135.t6_s : IR.run F135.t6 C N O K (F135.fr a c e g f i l s v w b d) h nx =
 zP 1 e fun v1 => zF v1 h fun v2 => K (F135.fr a c e g f i l s v w b v2) h nx := by kernel_rfl
theorem F135.t7_s : IR.run F135.t7 C N O K (F135.fr a c e g f i l s v w b d) h nx =
 sLen c fun v1 => sBin .add .int v1 (I 1) fun v2 => sBin .sub .int v2 l fun v3 => K (F135.fr a c e g f i v3 s v w b d) h nx := by kernel_rfl
theorem F135.v11 : Arg.ev (.t (.of 11)) ⟨(F135.fr a c e g f i l s v w b d), []⟩ = d := by kernel_rfl
theorem F135.t10_s : IR.run F135.t10 C N O K (F135.fr a c e g f i l s v w b d) h nx =
 zP 0 e fun v1 => zF v1 h fun v2 => zR 1 v2 i fun v3 => zF v3 h fun v4 => zR 1 f v4 fun v5 => zL 1 v5 l h nx fun v6 h7 n8 => K (F135.fr a c e g f i l s v w b d) h7 n8 := by kernel_rfl
theorem F135.t14_s : IR.run F135.t14 C N O K (F135.fr a c e g f i l s v w b d) h nx =
 sBin .add .int w (I 1) fun v1 => K (F135.fr a c e g f i l s v v1 b d) h nx := by kernel_rfl
theorem F135.t18_L (Inv : Nat → AV → T Blk → Pa → Prop) {m : Nat} (hm : m < N) (hi : Inv m w h nx)
  (step : ∀ (m : Nat) (z5 z6 z9 zJ zA : AV) (h : T Blk) (nx : Pa) (R : Ks Prop), Inv m z9 h nx → (∀ (m' : Nat) (w5 w6 w9 wH wA : AV) (h' : T Blk) (nx' : Pa), m' < m → Inv m' w9 h' nx' → R (F135.fr a c e g f w5 w6 s v w9 wH wA) h' nx' = .ok True) → IR.run F135.t17 C N O R (F135.fr a c e g f z5 z6 s v z9 zJ zA) h nx = .ok True) :
  IR.run F135.t18 C N O K (F135.fr a c e g f i l s v w b d) h nx = .ok True := by
 rw [F135.t18]
 refine yL (fun m tm h nx => ∃ z5 z6 z9 zJ zA, tm = (F135.fr a c e g f z5 z6 s v z9 zJ zA) ∧ Inv m z9 h nx) ?_ hm ⟨_, _, _, _, _, rfl, hi⟩
 rintro m tm h nx R ⟨z5, z6, z9, zJ, zA, rfl, hi⟩ hR
 exact step m z5 z6 z9 zJ zA h nx R hi fun m' w5 w6 w9 wH wA h' nx' hlt hi' => hR m' _ h' nx' hlt ⟨_, _, _, _, _, rfl, hi'⟩
theorem F135.t21_s : IR.run F135.t21 C N O K (F135.fr a c e g f i l s v w b d) h nx =
 K (F135.fr a c e f f i l s v w b d) h nx := by kernel_rfl
theorem F135.tab : T.get none (.of 135) tbl = some F135 := by kernel_rfl
theorem F135.bind (k : T AV → OP) : yE F135.params [a0, a1] F135.init k = k (F135.fr a0 a1 .undef .undef .undef .undef .undef .undef .undef .undef .undef .undef) := by kernel_rfl
theorem F135.body_eq : F135.body = F135.t25 := by kernel_rfl
theorem F135.go : zV tbl N C (.of 135) [a0, a1] h nx K0 = IR.run F135.t25 C N (fnO F135.res K0) (retK F135.res K0) (F135.fr a0 a1 .undef .undef .undef .undef .undef .undef .undef .undef .undef .undef) h nx := by
 rw [zI F135.tab, F135.bind, F135.body_eq]; kernel_rfl
theorem F135.ret : retK F135.res K0 (F135.fr a c e g f i l s v w b d) h nx = K0 g h nx := by kernel_rfl
noncomputable def F134.t0 : IR := .reg [.q (.of 1) (.mv (.c (I 0)))]
noncomputable def F134.t1 : IR := .reg [.s (.mv (.t (.of 0))), .s (.len (.s 0)), .s (.bin .gtr .int (.s 0) (.c (I 256))), .w .push none (.call (.c (.fn 96 (.of 96) [])) [(.s 0), (.c (I 5))]), .s (.mv (.t (.of 0))), .w .push none (.call (.c (.fn 136 (.of 136) [])) [(.s 0), (.c (.fn 137 (.of 137) []))]), .w .push none (.call (.c (.fn 96 (.of 96) [])) [(.s 0), (.c (I 3))]), .w .push none (.bslice 1 2 [(I 0)] [(0, 1, (.s 3)), (1, 1, (.s 0))]), .w .push none (.call (.c (.fn 94 (.of 94) [])) [(.s 0)]), .q (.of 1) (.mv (.s 0))]
noncomputable def F134.t2 : IR := .seq F134.t1 .ret
noncomputable def F134.t3 : IR := .seq F134.t0 F134.t2
theorem F134.t0_s : IR.run F134.t0 C N O K (F134.fr a c) h nx =
 K (F134.fr a (I 0)) h nx := by kernel_rfl
theorem F134.t1_s : IR.run F134.t1 C N O K (F134.fr a c) h nx =
 sLen a fun v1 => sBin .gtr .int v1 (I 256) fun v2 => C.fn 96 (.of 96) [v2, (I 5)] h nx fun v3 h4 n5 => C.fn 136 (.of 136) [a, (.fn 137 (.of 137) [])] h4 n5 fun v6 h7 n8 => C.fn 96 (.of 96) [v6, (I 3)] h7 n8 fun v9 hV nV => jD 1 2 [(I 0)] [(0, 1, v3), (1, 1, v9)] hV nV fun vC h13 n14 => C.fn 94 (.of 94) [vC] h13 n14 fun vF hB nB => K (F134.fr a vF) hB nB := by kernel_rfl
theorem F134.tab : T.get none (.of 134) tbl = some F134 := by kernel_rfl
theorem F134.bind (k : T AV → OP) : yE F134.params [a0] F134.init k = k (F134.fr a0 .undef) := by kernel_rfl
theorem F134.body_eq : F134.body = F134.t3 := by kernel_rfl
theorem F134.go : zV tbl N C (.of 134) [a0] h nx K0 = IR.run F134.t3 C N (fnO F134.res K0) (retK F134.res K0) (F134.fr a0 .undef) h nx := by
 rw [zI F134.tab, F134.bind, F134.body_eq]; kernel_rfl
theorem F134.ret : retK F134.res K0 (F134.fr a c) h nx = K0 c h nx := by kernel_rfl
noncomputable def F137.t0 : IR := .reg [.q (.of 1) (.mv (.c (.bool false)))]
noncomputable def F137.t1 : IR := .reg [.s (.mv (.t (.of 0))), .s (.bin .lss .int (.s 0) (.c (I (-999999999)))), .s (.mv (.s 0)), .p .push (some ((.s 0), false)) (.mv (.t (.of 0))), .p .push (some ((.s 1), false)) (.bin .gtr .int (.s 0) (.c (I 999999999))), .s (.pick (.s 2) (.c (.bool true)) (.s 0)), .q (.of 1) (.mv (.s 0))]
noncomputable def F137.t2 : IR := .seq F137.t1 .ret
noncomputable def F137.t3 : IR := .seq F137.t0 F137.t2
theorem F137.t0_s : IR.run F137.t0 C N O K (F137.fr a c) h nx =
 K (F137.fr a (.bool false)) h nx := by kernel_rfl
theorem F137.t1_s : IR.run F137.t1 C N O K (F137.fr a c) h nx =
 sBin .lss .int a (I (-999999999)) fun v1 => sG v1 false (fun k => k a) fun v2 => sG v1 false (fun k => sBin .gtr .int v2 (I 999999999) k) fun v3 => gA v1 (.bool true) v3 fun v4 => K (F137.fr a v4) h nx := by kernel_rfl
theorem F137.tab : T.get none (.of 137) tbl = some F137 := by kernel_rfl
theorem F137.bind (k : T AV → OP) : yE F137.params [a0] F137.init k = k (F137.fr a0 .undef) := by kernel_rfl
theorem F137.body_eq : F137.body = F137.t3 := by kernel_rfl
theorem F137.go : zV tbl N C (.of 137) [a0] h nx K0 = IR.run F137.t3 C N (fnO F137.res K0) (retK F137.res K0) (F137.fr a0 .undef) h nx := by
 rw [zI F137.tab, F137.bind, F137.body_eq]; kernel_rfl
theorem F137.ret : retK F137.res K0 (F137.fr a c) h nx = K0 c h nx := by kernel_rfl
noncomputable def F57.t0 : IR := .reg [.q (.of 1) (.mv (.c (I 0)))]
noncomputable def F57.t1 : IR := .reg [.s (.mv (.t (.of 0))), .s (.len (.s 0)), .q (.of 2) (.bin .gtr .int (.s 0) (.c (I 256)))]
noncomputable def F57.t2 : IR := .reg [.q (.of 1) (.mv (.c (I 5)))]
noncomputable def F57.t3 : IR := .seq F57.t2 .ret
noncomputable def F57.t4 : IR := .cond (.t (.of 2)) F57.t3 .skip
noncomputable def F57.t5 : IR := .seq F57.t1 F57.t4
noncomputable def F57.t6 : IR := .reg [.s (.mv (.t (.of 0))), .w .push none (.call (.c (.fn 59 (.of 59) [])) [(.s 0)]), .q (.of 1) (.mv (.s 0))]
noncomputable def F57.t7 : IR := .seq F57.t6 .ret
noncomputable def F57.t8 : IR := .seq F57.t5 F57.t7
noncomputable def F57.t9 : IR := .seq F57.t0 F57.t8
theorem F57.t0_s : IR.run F57.t0 C N O K (F57.fr a c e) h nx =
 K (F57.fr a (I 0) e) h nx := by kernel_rfl
theorem F57.t1_s : IR.run F57.t1 C N O K (F57.fr a c e) h nx =
 sLen a fun v1 => sBin .gtr .int v1 (I 256) fun v2 => K (F57.fr a c v2) h nx := by kernel_rfl
theorem F57.t2_s : IR.run F57.t2 C N O K (F57.fr a c e) h nx =
 K (F57.fr a (I 5) e) h nx := by kernel_rfl
theorem F57.v2 : Arg.ev (.t (.of 2)) ⟨(F57.fr a c e), []⟩ = e := by kernel_rfl
theorem F57.t6_s : IR.run F57.t6 C N O K (F57.fr a c e) h nx =
 C.fn 59 (.of 59) [a] h nx fun v1 h2 n3 => K (F57.fr a v1 e) h2 n3 := by kernel_rfl
theorem F57.tab : T.get none (.of 57) tbl = some F57 := by kernel_rfl
theorem F57.bind (k : T AV → OP) : yE F57.params [a0] F57.init k = k (F57.fr a0 .undef .undef) := by kernel_rfl
theorem F57.body_eq : F57.body = F57.t9 := by kernel_rfl
theorem F57.go : zV tbl N C (.of 57) [a0] h nx K0 = IR.run F57.t9 C N (fnO F57.res K0) (retK F57.res K0) (F57.fr a0 .undef .undef) h nx := by
 rw [zI F57.tab, F57.bind, F57.body_eq]; kernel_rfl
theorem F57.ret : retK F57.res K0 (F57.fr a c e) h nx = K0 c h nx := by kernel_rfl
noncomputable def F59.t0 : IR := .reg [.q (.of 1) (.mv (.c (I 0)))]
noncomputable def F59.t1 : IR := .reg [.q (.of 2) (.mv (.c (I 0)))]
noncomputable def F59.t2 : IR := .reg [.s (.mv (.t (.of 2))), .s (.mv (.t (.of 0))), .s (.len (.s 0)), .q (.of 3) (.bin .lss .int (.s 2) (.s 0))]
noncomputable def F59.t3 : IR := .cond (.t (.of 3)) .skip (.exit 0)
noncomputable def F59.t4 : IR := .seq F59.t2 F59.t3
noncomputable def F59.r3_1 : List RO := .p .push (some ((.s 2), false)) (.iaddr 1 (.s 1) (.s 0)) :: .p .push (some ((.s 3), false)) (.load (.s 0)) :: .p .push (some ((.s 4), false)) (.bin .gtr .int (.s 0) (.c (I 999999999))) :: .q (.of 4) (.pick (.s 5) (.c (.bool true)) (.s 0)) :: []
noncomputable def F59.r3_0 : List RO := .s (.mv (.t (.of 0))) :: .s (.mv (.t (.of 2))) :: .s (.iaddr 1 (.s 1) (.s 0)) :: .s (.load (.s 0)) :: .s (.bin .lss .int (.s 0) (.c (I (-999999999)))) :: .s (.mv (.s 0)) :: .p .push (some ((.s 0), false)) (.mv (.t (.of 0))) :: .p .push (some ((.s 1), false)) (.mv (.t (.of 2))) :: F59.r3_1
noncomputable def F59.t5 : IR := .reg F59.r3_0
noncomputable def F59.t6 : IR := .reg [.q (.of 1) (.mv (.c (I 3)))]
noncomputable def F59.t7 : IR := .seq F59.t6 .ret
noncomputable def F59.t8 : IR := .cond (.t (.of 4)) F59.t7 .skip
noncomputable def F59.t9 : IR := .seq F59.t5 F59.t8
noncomputable def F59.t10 : IR := .block 1 F59.t9
noncomputable def F59.t11 : IR := .reg [.s (.mv (.t (.of 2))), .s (.bin .add .int (.s 0) (.c (I 1))), .q (.of 2) (.mv (.s 0))]
noncomputable def F59.t12 : IR := .seq F59.t10 F59.t11
noncomputable def F59.t13 : IR := .seq F59.t4 F59.t12
noncomputable def F59.t14 : IR := .loop F59.t13
noncomputable def F59.t15 : IR := .block 0 F59.t14
noncomputable def F59.t16 : IR := .seq F59.t1 F59.t15
noncomputable def F59.t17 : IR := .reg [.q (.of 1) (.mv (.c (I 0)))]
noncomputable def F59.t18 : IR := .seq F59.t17 .ret
noncomputable def F59.t19 : IR := .seq F59.t16 F59.t18
noncomputable def F59.t20 : IR := .seq F59.t0 F59.t19
theorem F59.t0_s : IR.run F59.t0 C N O K (F59.fr a c e g f) h nx =
 K (F59.fr a (I 0) e g f) h nx := by kernel_rfl
theorem F59.t1_s : IR.run F59.t1 C N O K (F59.fr a c e g f) h nx =
 K (F59.fr a c (I 0) g f) h nx := by kernel_rfl
theorem F59.t2_s : IR.run F59.t2 C N O K (F59.fr a c e g f) h nx =
 sLen a fun v1 => sBin .lss .int e v1 fun v2 => K (F59.fr a c e v2 f) h nx := by kernel_rfl
theorem F59.v3 : Arg.ev (.t (.of 3)) ⟨(F59.fr a c e g f), []⟩ = g := by kernel_rfl
theorem F59.t5_s : IR.run F59.t5 C N O K tm h nx = y0 F59.r3_0 C ⟨tm, []⟩ h nx (fun tm h nx => K tm.v h nx) := wV ..
theorem F59.r3_0_g : y0 (.s (.mv (.t (.of 0))) :: .s (.mv (.t (.of 2))) :: .s (.iaddr 1 (.s 1) (.s 0)) :: .s (.load (.s 0)) :: .s (.bin .lss .int (.s 0) (.c (I (-999999999)))) :: .s (.mv (.s 0)) :: .p .push (some ((.s 0), false)) (.mv (.t (.of 0))) :: .p .push (some ((.s 1), false)) (.mv (.t (.of 2))) :: r) C ⟨(F59.fr a c e g f), []⟩ h nx Kt =
 zR 1 a e fun v1 => zF v1 h fun v2 => sBin .lss .int v2 (I (-999999999)) fun v3 => sG v3 false (fun k => k a) fun v4 => sG v3 false (fun k => k e) fun v5 => y0 r C ⟨(F59.fr a c e g f), v5 :: v4 :: v3 :: v3 :: v2 :: v1 :: e :: a :: []⟩ h nx Kt := by kernel_rfl
theorem F59.r3_1_g : y0 (.p .push (some ((.s 2), false)) (.iaddr 1 (.s 1) (.s 0)) :: .p .push (some ((.s 3), false)) (.load (.s 0)) :: .p .push (some ((.s 4), false)) (.bin .gtr .int (.s 0) (.c (I 999999999))) :: .q (.of 4) (.pick (.s 5) (.c (.bool true)) (.s 0)) :: []) C ⟨(F59.fr a c e g f), s0 :: s1 :: s2 :: s3 :: s4 :: s5 :: s6 :: s7 :: []⟩ h nx Kt =
 sG s2 false (fun k => zR 1 s1 s0 k) fun v1 => sG s2 false (fun k => zF v1 h k) fun v2 => sG s2 false (fun k => sBin .gtr .int v2 (I 999999999) k) fun v3 => gA s2 (.bool true) v3 fun v4 => Kt ⟨(F59.fr a c e g v4), v3 :: v2 :: v1 :: s0 :: s1 :: s2 :: s3 :: s4 :: s5 :: s6 :: s7 :: []⟩ h nx := by kernel_rfl
theorem F59.t6_s : IR.run F59.t6 C N O K (F59.fr a c e g f) h nx =
 K (F59.fr a (I 3) e g f) h nx := by kernel_rfl
theorem F59.v4 : Arg.ev (.t (.of 4)) ⟨(F59.fr a c e g f), []⟩ = f := by kernel_rfl
theorem F59.t11_s : IR.run F59.t11 C N O K (F59.fr a c e g f) h nx =
 sBin .add .int e (I 1) fun v1 => K (F59.fr a c v1 g f) h nx := by kernel_rfl
theorem F59.t14_L (Inv : Nat → AV → T Blk → Pa → Prop) {m : Nat} (hm : m < N) (hi : Inv m e h nx)
  (step : ∀ (m : Nat) (z1 z2 z3 z4 : AV) (h : T Blk) (nx : Pa) (R : Ks Prop), Inv m z2 h nx → (∀ (m' : Nat) (w1 w2 w3 w4 : AV) (h' : T Blk) (nx' : Pa), m' < m → Inv m' w2 h' nx' → R (F59.fr a w1 w2 w3 w4) h' nx' = .ok True) → IR.run F59.t13 C N O R (F59.fr a z1 z2 z3 z4) h nx = .ok True) :
  IR.run F59.t14 C N O K (F59.fr a c e g f) h nx = .ok True := by
 rw [F59.t14]
 refine yL (fun m tm h nx => ∃ z1 z2 z3 z4, tm = (F59.fr a z1 z2 z3 z4) ∧ Inv m z2 h nx) ?_ hm ⟨_, _, _, _, rfl, hi⟩
 rintro m tm h nx R ⟨z1, z2, z3, z4, rfl, hi⟩ hR
 exact step m z1 z2 z3 z4 h nx R hi fun m' w1 w2 w3 w4 h' nx' hlt hi' => hR m' _ h' nx' hlt ⟨_, _, _, _, rfl, hi'⟩
theorem F59.t17_s : IR.run F59.t17 C N O K (F59.fr a c e g f) h nx =
 K (F59.fr a (I 0) e g f) h nx := by kernel_rfl
theorem F59.tab : T.get none (.of 59) tbl = some F59 := by kernel_rfl
theorem F59.bind (k : T AV → OP) : yE F59.params [a0] F59.init k = k (F59.fr a0 .undef .undef .undef .undef) := by kernel_rfl
theorem F59.body_eq : F59.body = F59.t20 := by kernel_rfl
theorem F59.go : zV tbl N C (.of 59) [a0] h nx K0 = IR.run F59.t20 C N (fnO F59.res K0) (retK F59.res K0) (F59.fr a0 .undef .undef .undef .undef) h nx := by
 rw [zI F59.tab, F59.bind, F59.body_eq]; kernel_rfl
theorem F59.ret : retK F59.res K0 (F59.fr a c e g f) h nx = K0 c h nx := by kernel_rfl
noncomputable def F41.t0 : IR := .reg [.q (.of 1) (.mv (.c (I 0)))]
noncomputable def F41.t1 : IR := .reg [.q (.of 2) (.mv (.c (I 0)))]
noncomputable def F41.t2 : IR := .reg [.s (.mv (.t (.of 2))), .s (.mv (.t (.of 0))), .s (.len (.s 0)), .q (.of 3) (.bin .lss .int (.s 2) (.s 0))]
noncomputable def F41.t3 : IR := .cond (.t (.of 3)) .skip (.exit 0)
noncomputable def F41.t4 : IR := .seq F41.t2 F41.t3
noncomputable def F41.t5 : IR := .reg [.s (.mv (.t (.of 0))), .s (.mv (.t (.of 2))), .s (.iaddr 1 (.s 1) (.s 0)), .s (.load (.s 0)), .q (.of 4) (.bin .neq .int (.s 0) (.c (I 0)))]
noncomputable def F41.t6 : IR := .reg [.s (.mv (.t (.of 0))), .s (.mv (.t (.of 2))), .s (.iaddr 1 (.s 1) (.s 0)), .s (.load (.s 0)), .q (.of 1) (.mv (.s 0))]
noncomputable def F41.t7 : IR := .seq F41.t6 .ret
noncomputable def F41.t8 : IR := .cond (.t (.of 4)) F41.t7 .skip
noncomputable def F41.t9 : IR := .seq F41.t5 F41.t8
noncomputable def F41.t10 : IR := .block 1 F41.t9
noncomputable def F41.t11 : IR := .reg [.s (.mv (.t (.of 2))), .s (.bin .add .int (.s 0) (.c (I 1))), .q (.of 2) (.mv (.s 0))]
noncomputable def F41.t12 : IR := .seq F41.t10 F41.t11
noncomputable def F41.t13 : IR := .seq F41.t4 F41.t12
noncomputable def F41.t14 : IR := .loop F41.t13
noncomputable def F41.t15 : IR := .block 0 F41.t14
noncomputable def F41.t16 : IR := .seq F41.t1 F41.t15
noncomputable def F41.t17 : IR := .reg [.q (.of 1) (.mv (.c (I 0)))]
noncomputable def F41.t18 : IR := .seq F41.t17 .ret
noncomputable def F41.t19 : IR := .seq F41.t16 F41.t18
noncomputable def F41.t20 : IR := .seq F41.t0 F41.t19
theorem F41.t0_s : IR.run F41.t0 C N O K (F41.fr a c e g f) h nx =
 K (F41.fr a (I 0) e g f) h nx := by kernel_rfl
theorem F41.t1_s : IR.run F41.t1 C N O K (F41.fr a c e g f) h nx =
 K (F41.fr a c (I 0) g f) h nx := by kernel_rfl
theorem F41.t2_s : IR.run F41.t2 C N O K (F41.fr a c e g f) h nx =
 sLen a fun v1 => sBin .lss .int e v1 fun v2 => K (F41.fr a c e v2 f) h nx := by kernel_rfl
theorem F41.v3 : Arg.ev (.t (.of 3)) ⟨(F41.fr a c e g f), []⟩ = g := by kernel_rfl
theorem F41.t5_s : IR.run F41.t5 C N O K (F41.fr a c e g f) h nx =
 zR 1 a e fun v1 => zF v1 h fun v2 => sBin .neq .int v2 (I 0) fun v3 => K (F41.fr a c e g v3) h nx := by kernel_rfl
theorem F41.t6_s : IR.run F41.t6 C N O K (F41.fr a c e g f) h nx =
 zR 1 a e fun v1 => zF v1 h fun v2 => K (F41.fr a v2 e g f) h nx := by kernel_rfl
theorem F41.v4 : Arg.ev (.t (.of 4)) ⟨(F41.fr a c e g f), []⟩ = f := by kernel_rfl
theorem F41.t11_s : IR.run F41.t11 C N O K (F41.fr a c e g f) h nx =
 sBin .add .int e (I 1) fun v1 => K (F41.fr a c v1 g f) h nx := by kernel_rfl
theorem F41.t14_L (Inv : Nat → AV → T Blk → Pa → Prop) {m : Nat} (hm : m < N) (hi : Inv m e h nx)
  (step : ∀ (m : Nat) (z1 z2 z3 z4 : AV) (h : T Blk) (nx : Pa) (R : Ks Prop), Inv m z2 h nx → (∀ (m' : Nat) (w1 w2 w3 w4 : AV) (h' : T Blk) (nx' : Pa), m' < m → Inv m' w2 h' nx' → R (F41.fr a w1 w2 w3 w4) h' nx' = .ok True) → IR.run F41.t13 C N O R (F41.fr a z1 z2 z3 z4) h nx = .ok True) :
  IR.run F41.t14 C N O K (F41.fr a c e g f) h nx = .ok True := by
 rw [F41.t14]
 refine yL (fun m tm h nx => ∃ z1 z2 z3 z4, tm = (F41.fr a z1 z2 z3 z4) ∧ Inv m z2 h nx) ?_ hm ⟨_, _, _, _, rfl, hi⟩
 rintro m tm h nx R ⟨z1, z2, z3, z4, rfl, hi⟩ hR
 exact step m z1 z2 z3 z4 h nx R hi fun m' w1 w2 w3 w4 h' nx' hlt hi' => hR m' _ h' nx' hlt ⟨_, _, _, _, rfl, hi'⟩
theorem F41.t17_s : IR.run F41.t17 C N O K (F41.fr a c e g f) h nx =
 K (F41.fr a (I 0) e g f) h nx := by kernel_rfl
theorem F41.tab : T.get none (.of 41) tbl = some F41 := by kernel_rfl
theorem F41.bind (k : T AV → OP) : yE F41.params [a0] F41.init k = k (F41.fr a0 .undef .undef .undef .undef) := by kernel_rfl
theorem F41.body_eq : F41.body = F41.t20 := by kernel_rfl
theorem F41.go : zV tbl N C (.of 41) [a0] h nx K0 = IR.run F41.t20 C N (fnO F41.res K0) (retK F41.res K0) (F41.fr a0 .undef .undef .undef .undef) h nx := by
 rw [zI F41.tab, F41.bind, F41.body_eq]; kernel_rfl
theorem F41.ret : retK F41.res K0 (F41.fr a c e g f) h nx = K0 c h nx := by kernel_rfl
noncomputable def F37.t0 : IR := .reg [.q (.of 2) (.mv (.c (I 0)))]
noncomputable def F37.t1 : IR := .reg [.q (.of 3) (.mv (.t (.of 0)))]
noncomputable def F37.t2 : IR := .reg [.s (.mv (.t (.of 1))), .q (.of 2) (.mv (.s 0))]
noncomputable def F37.t3 : IR := .seq F37.t2 .ret
noncomputable def F37.t4 : IR := .cond (.t (.of 3)) F37.t3 .skip
noncomputable def F37.t5 : IR := .seq F37.t1 F37.t4
noncomputable def F37.t6 : IR := .reg [.q (.of 2) (.mv (.c (I 0)))]
noncomputable def F37.t7 : IR := .seq F37.t6 .ret
noncomputable def F37.t8 : IR := .seq F37.t5 F37.t7
noncomputable def F37.t9 : IR := .seq F37.t0 F37.t8
theorem F37.t0_s : IR.run F37.t0 C N O K (F37.fr a c e g) h nx =
 K (F37.fr a c (I 0) g) h nx := by kernel_rfl
theorem F37.t1_s : IR.run F37.t1 C N O K (F37.fr a c e g) h nx =
 K (F37.fr a c e a) h nx := by kernel_rfl
theorem F37.t2_s : IR.run F37.t2 C N O K (F37.fr a c e g) h nx =
 K (F37.fr a c c g) h nx := by kernel_rfl
theorem F37.v3 : Arg.ev (.t (.of 3)) ⟨(F37.fr a c e g), []⟩ = g := by kernel_rfl
theorem F37.t6_s : IR.run F37.t6 C N O K (F37.fr a c e g) h nx =
 K (F37.fr a c (I 0) g) h nx := by kernel_rfl
theorem F37.tab : T.get none (.of 37) tbl = some F37 := by kernel_rfl
theorem F37.bind (k : T AV → OP) : yE F37.params [a0, a1] F37.init k = k (F37.fr a0 a1 .undef .undef) := by kernel_rfl
theorem F37.body_eq : F37.body = F37.t9 := by kernel_rfl
theorem F37.go : zV tbl N C (.of 37) [a0, a1] h nx K0 = IR.run F37.t9 C N (fnO F37.res K0) (retK F37.res K0) (F37.fr a0 a1 .undef .undef) h nx := by
 rw [zI F37.tab, F37.bind, F37.body_eq]; kernel_rfl
theorem F37.ret : retK F37.res K0 (F37.fr a c e g) h nx = K0 e h nx := by kernel_rfl
noncomputable def F51.t0 : IR := .reg [.q (.of 1) (.mv (.c (.bool false)))]
noncomputable def F51.r1_1 : List RO := .s (.mv (.s 0)) :: .p .push (some ((.s 0), false)) (.mv (.t (.of 0))) :: .p .push (some ((.s 1), false)) (.len (.s 0)) :: .p .push (some ((.s 2), false)) (.bin .gtr .int (.s 0) (.c (I 260))) :: .s (.pick (.s 3) (.c (.bool true)) (.s 0)) :: .q (.of 1) (.mv (.s 0)) :: []
noncomputable def F51.r1_0 : List RO := .s (.mv (.t (.of 0))) :: .s (.len (.s 0)) :: .s (.bin .gtr .int (.s 0) (.c (I 16))) :: .s (.mv (.s 0)) :: .p .push (some ((.s 0), true)) (.mv (.t (.of 0))) :: .p .push (some ((.s 1), true)) (.len (.s 0)) :: .p .push (some ((.s 2), true)) (.bin .lss .int (.s 0) (.c (I 250))) :: .s (.pick (.s 3) (.s 0) (.c (.bool false))) :: F51.r1_1
noncomputable def F51.t1 : IR := .reg F51.r1_0
noncomputable def F51.t2 : IR := .seq F51.t1 .ret
noncomputable def F51.t3 : IR := .seq F51.t0 F51.t2
theorem F51.t0_s : IR.run F51.t0 C N O K (F51.fr a c) h nx =
 K (F51.fr a (.bool false)) h nx := by kernel_rfl
theorem F51.t1_s : IR.run F51.t1 C N O K tm h nx = y0 F51.r1_0 C ⟨tm, []⟩ h nx (fun tm h nx => K tm.v h nx) := wV ..
theorem F51.r1_0_g : y0 (.s (.mv (.t (.of 0))) :: .s (.len (.s 0)) :: .s (.bin .gtr .int (.s 0) (.c (I 16))) :: .s (.mv (.s 0)) :: .p .push (some ((.s 0), true)) (.mv (.t (.of 0))) :: .p .push (some ((.s 1), true)) (.len (.s 0)) :: .p .push (some ((.s 2), true)) (.bin .lss .int (.s 0) (.c (I 250))) :: .s (.pick (.s 3) (.s 0) (.c (.bool false))) :: r) C ⟨(F51.fr a c), []⟩ h nx Kt =
 sLen a fun v1 => sBin .gtr .int v1 (I 16) fun v2 => sG v2 true (fun k => k a) fun v3 => sG v2 true (fun k => sLen v3 k) fun v4 => sG v2 true (fun k => sBin .lss .int v4 (I 250) k) fun v5 => gA v2 v5 (.bool false) fun v6 => y0 r C ⟨(F51.fr a c), v6 :: v5 :: v4 :: v3 :: v2 :: v2 :: v1 :: a :: []⟩ h nx Kt := by kernel_rfl
theorem F51.r1_1_g : y0 (.s (.mv (.s 0)) :: .p .push (some ((.s 0), false)) (.mv (.t (.of 0))) :: .p .push (some ((.s 1), false)) (.len (.s 0)) :: .p .push (some ((.s 2), false)) (.bin .gtr .int (.s 0) (.c (I 260))) :: .s (.pick (.s 3) (.c (.bool true)) (.s 0)) :: .q (.of 1) (.mv (.s 0)) :: []) C ⟨(F51.fr a c), s0 :: s1 :: s2 :: s3 :: s4 :: s5 :: s6 :: s7 :: []⟩ h nx Kt =
 sG s0 false (fun k => k a) fun v1 => sG s0 false (fun k => sLen v1 k) fun v2 => sG s0 false (fun k => sBin .gtr .int v2 (I 260) k) fun v3 => gA s0 (.bool true) v3 fun v4 => Kt ⟨(F51.fr a v4), v4 :: v3 :: v2 :: v1 :: s0 :: s0 :: s1 :: s2 :: s3 :: s4 :: s5 :: s6 :: s7 :: []⟩ h nx := by kernel_rfl
theorem F51.tab : T.get none (.of 51) tbl = some F51 := by kernel_rfl
theorem F51.bind (k : T AV → OP) : yE F51.params [a0] F51.init k = k (F51.fr a0 .undef) := by kernel_rfl
theorem F51.body_eq : F51.body = F51.t3 := by kernel_rfl
theorem F51.go : zV tbl N C (.of 51) [a0] h nx K0 = IR.run F51.t3 C N (fnO F51.res K0) (retK F51.res K0) (F51.fr a0 .undef) h nx := by
 rw [zI F51.tab, F51.bind, F51.body_eq]; kernel_rfl
theorem F51.ret : retK F51.res K0 (F51.fr a c) h nx = K0 c h nx := by kernel_rfl
noncomputable def F19.t0 : IR := .reg [.q (.of 2) (.mv (.c (.bool false)))]
noncomputable def F19.t1 : IR := .reg [.s (.mv (.t (.of 0))), .s (.len (.s 0)), .s (.mv (.t (.of 1))), .q (.of 4) (.bin .gtr .int (.s 1) (.s 0))]
noncomputable def F19.t2 : IR := .reg [.q (.of 2) (.mv (.c (.bool true)))]
noncomputable def F19.t3 : IR := .seq F19.t2 .ret
noncomputable def F19.t4 : IR := .cond (.t (.of 4)) F19.t3 .skip
noncomputable def F19.t5 : IR := .seq F19.t1 F19.t4
noncomputable def F19.t6 : IR := .reg [.q (.of 3) (.mv (.c (I 0)))]
noncomputable def F19.t7 : IR := .reg [.s (.mv (.t (.of 3))), .s (.mv (.t (.of 0))), .s (.len (.s 0)), .q (.of 5) (.bin .lss .int (.s 2) (.s 0))]
noncomputable def F19.t8 : IR := .cond (.t (.of 5)) .skip (.exit 0)
noncomputable def F19.t9 : IR := .seq F19.t7 F19.t8
noncomputable def F19.t10 : IR := .reg [.s (.mv (.t (.of 0))), .s (.mv (.t (.of 3))), .s (.iaddr 2 (.s 1) (.s 0)), .s (.faddr 0 (.s 0)), .s (.load (.s 0)), .s (.len (.s 0)), .q (.of 6) (.bin .gtr .int (.s 0) (.c (I 16)))]
noncomputable def F19.t11 : IR := .reg [.q (.of 2) (.mv (.c (.bool true)))]
noncomputable def F19.t12 : IR := .seq F19.t11 .ret
noncomputable def F19.t13 : IR := .cond (.t (.of 6)) F19.t12 .skip
noncomputable def F19.t14 : IR := .seq F19.t10 F19.t13
noncomputable def F19.t15 : IR := .block 1 F19.t14
noncomputable def F19.t16 : IR := .reg [.s (.mv (.t (.of 3))), .s (.bin .add .int (.s 0) (.c (I 1))), .q (.of 3) (.mv (.s 0))]
noncomputable def F19.t17 : IR := .seq F19.t15 F19.t16
noncomputable def F19.t18 : IR := .seq F19.t9 F19.t17
noncomputable def F19.t19 : IR := .loop F19.t18
noncomputable def F19.t20 : IR := .block 0 F19.t19
noncomputable def F19.t21 : IR := .seq F19.t6 F19.t20
noncomputable def F19.t22 : IR := .reg [.q (.of 2) (.mv (.c (.bool false)))]
noncomputable def F19.t23 : IR := .seq F19.t22 .ret
noncomputable def F19.t24 : IR := .seq F19.t21 F19.t23
noncomputable def F19.t25 : IR := .seq F19.t5 F19.t24
noncomputable def F19.t26 : IR := .seq F19.t0 F19.t25
theorem F19.t0_s : IR.run F19.t0 C N O K (F19.fr a c e g f i l) h nx =
 K (F19.fr a c (.bool false) g f i l) h nx := by kernel_rfl
theorem F19.t1_s : IR.run F19.t1 C N O K (F19.fr a c e g f i l) h nx =
 sLen a fun v1 => sBin .gtr .int v1 c fun v2 => K (F19.fr a c e g v2 i l) h nx := by kernel_rfl
theorem F19.t2_s : IR.run F19.t2 C N O K (F19.fr a c e g f i l) h nx =
 K (F19.fr a c (.bool true) g f i l) h nx := by kernel_rfl
theorem F19.v4 : Arg.ev (.t (.of 4)) ⟨(F19.fr a c e g f i l), []⟩ = f := by kernel_rfl
theorem F19.t6_s : IR.run F19.t6 C N O K (F19.fr a c e g f i l) h nx =
 K (F19.fr a c e (I 0) f i l) h nx := by kernel_rfl
theorem F19.t7_s : IR.run F19.t7 C N O K (F19.fr a c e g f i l) h nx =
 sLen a fun v1 => sBin .lss .int g v1 fun v2 => K (F19.fr a c e g f v2 l) h nx := by kernel_rfl
theorem F19.v5 : Arg.ev (.t (.of 5)) ⟨(F19.fr a c e g f i l), []⟩ = i := by kernel_rfl
theorem F19.t10_s : IR.run F19.t10 C N O K (F19.fr a c e g f i l) h nx =
 zR 2 a g fun v1 => zP 0 v1 fun v2 => zF v2 h fun v3 => sLen v3 fun v4 => sBin .gtr .int v4 (I 16) fun v5 => K (F19.fr a c e g f i v5) h nx := by kernel_rfl
theorem F19.t11_s : IR.run F19.t11 C N O K (F19.fr a c e g f i l) h nx =
 K (F19.fr a c (.bool true) g f i l) h nx := by kernel_rfl
theorem F19.v6 : Arg.ev (.t (.of 6)) ⟨(F19.fr a c e g f i l), []⟩ = l := by kernel_rfl
theorem F19.t16_s : IR.run F19.t16 C N O K (F19.fr a c e g f i l) h nx =
 sBin .add .int g (I 1) fun v1 => K (F19.fr a c e v1 f i l) h nx := by kernel_rfl
theorem F19.t19_L (Inv : Nat → AV → T Blk → Pa → Prop) {m : Nat} (hm : m < N) (hi : Inv m g h nx)
  (step : ∀ (m : Nat) (z2 z3 z5 z6 : AV) (h : T Blk) (nx : Pa) (R : Ks Prop), Inv m z3 h nx → (∀ (m' : Nat) (w2 w3 w5 w6 : AV) (h' : T Blk) (nx' : Pa), m' < m → Inv m' w3 h' nx' → R (F19.fr a c w2 w3 f w5 w6) h' nx' = .ok True) → IR.run F19.t18 C N O R (F19.fr a c z2 z3 f z5 z6) h nx = .ok True) :
  IR.run F19.t19 C N O K (F19.fr a c e g f i l) h nx = .ok True := by
 rw [F19.t19]
 refine yL (fun m tm h nx => ∃ z2 z3 z5 z6, tm = (F19.fr a c z2 z3 f z5 z6) ∧ Inv m z3 h nx) ?_ hm ⟨_, _, _, _, rfl, hi⟩
 rintro m tm h nx R ⟨z2, z3, z5, z6, rfl, hi⟩ hR
 exact step m z2 z3 z5 z6 h nx R hi fun m' w2 w3 w5 w6 h' nx' hlt hi' => hR m' _ h' nx' hlt ⟨_, _, _, _, rfl, hi'⟩
theorem F19.t22_s : IR.run F19.t22 C N O K (F19.fr a c e g f i l) h nx =
 K (F19.fr a c (.bool false) g f i l) h nx := by kernel_rfl
theorem F19.tab : T.get none (.of 19) tbl = some F19 := by kernel_rfl
theorem F19.bind (k : T AV → OP) : yE F19.params [a0, a1] F19.init k = k (F19.fr a0 a1 .undef .undef .undef .undef .undef) := by kernel_rfl
theorem F19.body_eq : F19.body = F19.t26 := by kernel_rfl
theorem F19.go : zV tbl N C (.of 19) [a0, a1] h nx K0 = IR.run F19.t26 C N (fnO F19.res K0) (retK F19.res K0) (F19.fr a0 a1 .undef .undef .undef .undef .undef) h nx := by
 rw [zI F19.tab, F19.bind, F19.body_eq]; kernel_rfl
theorem F19.ret : retK F19.res K0 (F19.fr a c e g f i l) h nx = K0 e h nx := by kernel_rfl
end
end Go.Ev
namespace Go.Ev
open Go Go.Proofs
set_option maxRecDepth 100000
section
variable {N : Nat} {C : Calls Prop} {K0 : Kw Prop} {K : Ks Prop} {h : T Blk} {nx : Pa} {a c e g f i l a0 a1 a2 a3 : AV} {O : Outs Prop} {tm : T AV} {Kt : KTm} {r : List RO} {s0 s1 s2 s3 s4 s5 s6 s7 s8 s9 s10 s11 s12 s13 s14 s15 s16 s17 s18 s19 s20 s21 s22 s23 s24 s25 s26 s27 s28 s29 s30 s31 s32 s33 s34 s35 s36 s37 s38 s39 : AV}
end
end Go.Ev
namespace Go.Ev
open Go Go.Proofs
set_option maxRecDepth 100000
section
variable {N : Nat} {C : Calls Prop} {K0 : Kw Prop} {K : Ks Prop} {h : T Blk} {nx : Pa} {a c e g f i l s v w b d u o p q a0 a1 a2 a3 : AV} {O : Outs Prop} {tm : T AV} {Kt : KTm} {r : List RO} {s0 s1 s2 s3 s4 s5 s6 s7 s8 s9 s10 s11 s12 s13 s14 s15 s16 s17 s18 s19 s20 s21 s22 s23 s24 s25 s26 s27 s28 s29 s30 s31 s32 s33 s34 s35 s36 s37 s38 s39 : AV}
noncomputable def F86.t0 : IR := .reg [.w (.loc (.of 3)) none (.box (.t (.of 1))), .w (.loc (.of 4)) none (.box (.t (.of 2))), .w (.loc (.of 5)) none (.alloc [.nils, (.bool false)]), .w (.loc (.of 6)) none (.alloc [(I 0)])]
noncomputable def F86.t1 : IR := .dreg [] [(.s (.load (.t (.of 3))), 0, []), (.s (.load (.t (.of 4))), 1, []), (.s (.load (.t (.of 3))), 2, []), (.s (.len (.s 0)), 2, []), (.s (.load (.t (.of 4))), 2, []), (.s (.len (.s 0)), 2, []), (.s (.bin .neq .int (.s 2) (.s 0)), 2, []), (.w .push none (.call (.c (.fn 134 (.of 134) [])) [(.s 6)]), 0, []), (.w .push none (.call (.c (.fn 134 (.of 134) [])) [(.s 6)]), 0, []), (.w .push none (.call (.c (.fn 96 (.of 96) [])) [(.s 2), (.c (I 2))]), 0, []), (.w .push none (.bslice 1 3 [(I 0)] [(0, 1, (.s 2)), (1, 1, (.s 1)), (2, 1, (.s 0))]), 0, []), (.w .push none (.call (.c (.fn 94 (.of 94) [])) [(.s 0)]), 0, []), (.q (.of 7) (.mv (.s 0)), 0, [])]
noncomputable def F86.t2 : IR := .reg [.s (.mv (.t (.of 7))), .q (.of 10) (.bin .neq .int (.s 0) (.c (I 0)))]
noncomputable def F86.t3 : IR := .reg [.s (.build [.nils, (.bool false)] []), .s (.mv (.t (.of 7))), .w .none none (.store 2 (.t (.of 5)) (.s 1)), .w .none none (.store 1 (.t (.of 6)) (.s 0))]
noncomputable def F86.t4 : IR := .seq F86.t3 .ret
noncomputable def F86.t5 : IR := .cond (.t (.of 10)) F86.t4 .skip
noncomputable def F86.t6 : IR := .seq F86.t2 F86.t5
noncomputable def F86.t7 : IR := .seq F86.t1 F86.t6
noncomputable def F86.t8 : IR := .reg [.s (.mv (.t (.of 0))), .s (.load (.t (.of 3))), .s (.len (.s 0)), .w .push none (.call (.c (.fn 22 (.of 22) [])) [(.s 2), (.s 0)]), .q (.of 8) (.mv (.s 0))]
noncomputable def F86.t9 : IR := .reg [.s (.mv (.t (.of 8))), .q (.of 11) (.bin .neq .int (.s 0) (.c (I 0)))]
noncomputable def F86.t10 : IR := .reg [.s (.build [.nils, (.bool false)] []), .s (.mv (.t (.of 8))), .w .none none (.store 2 (.t (.of 5)) (.s 1)), .w .none none (.store 1 (.t (.of 6)) (.s 0))]
noncomputable def F86.t11 : IR := .seq F86.t10 .ret
noncomputable def F86.t12 : IR := .cond (.t (.of 11)) F86.t11 .skip
noncomputable def F86.t13 : IR := .seq F86.t9 F86.t12
noncomputable def F86.t14 : IR := .seq F86.t8 F86.t13
noncomputable def F86.t15 : IR := .reg [.s (.mv (.t (.of 0))), .w (.loc (.of 12)) none (.call (.c (.fn 90 (.of 90) [])) [(.s 0)])]
noncomputable def F86.t16 : IR := .reg [.w (.loc (.of 9)) none (.alloc [.nils, (.bool false)]), .w .none none (.store 2 (.t (.of 9)) (.t (.of 14)))]
noncomputable def F86.t17 : IR := .dreg [] [(.s (.loadN 2 (.t (.of 9))), 0, []), (.s (.load (.t (.of 3))), 0, []), (.s (.load (.t (.of 4))), 1, []), (.w .push none (.call (.c (.fn 135 (.of 135) [])) [(.s 2), (.s 1)]), 0, []), (.w (.loc (.of 15)) none (.call (.c (.fn 158 (.of 158) [])) [(.s 0), (.s 1)]), 0, [])]
noncomputable def F86.t18 : IR := .dreg [] [(.s (.faddr 0 (.t (.of 9))), 0, []), (.s (.load (.s 0)), 0, []), (.s (.faddr 1 (.t (.of 9))), 1, []), (.s (.load (.s 0)), 1, []), (.w .push none (.call (.c (.fn 106 (.of 106) [])) [(.s 2)]), 0, []), (.s (.build [.nils, (.bool false)] [(0, 1, (.s 0)), (1, 1, (.s 1))]), 0, []), (.w .none none (.store 2 (.t (.of 5)) (.s 0)), 0, []), (.w .none none (.store 1 (.t (.of 6)) (.c (I 0))), 0, [])]
noncomputable def F86.t19 : IR := .seq F86.t18 .ret
noncomputable def F86.t20 : IR := .cond (.t (.of 15)) F86.t19 .skip
noncomputable def F86.t21 : IR := .seq F86.t17 F86.t20
noncomputable def F86.t22 : IR := .block 1 F86.t21
noncomputable def F86.t23 : IR := .rf (.t (.of 12)) [(.of 13), (.of 14)] F86.t16 F86.t22
noncomputable def F86.t24 : IR := .block 0 F86.t23
noncomputable def F86.t25 : IR := .seq F86.t15 F86.t24
noncomputable def F86.t26 : IR := .reg [.s (.build [.nils, (.bool false)] []), .w .none none (.store 2 (.t (.of 5)) (.s 0)), .w .none none (.store 1 (.t (.of 6)) (.c (I 7)))]
noncomputable def F86.t27 : IR := .seq F86.t26 .ret
noncomputable def F86.t28 : IR := .seq F86.t25 F86.t27
noncomputable def F86.t29 : IR := .seq F86.t14 F86.t28
noncomputable def F86.t30 : IR := .seq F86.t7 F86.t29
noncomputable def F86.t31 : IR := .seq F86.t0 F86.t30
theorem F86.t0_s : IR.run F86.t0 C N O K (F86.fr a c e g f i l s v w b d u o p q) h nx =
 sBox c h nx fun v1 h2 n3 => sBox e h2 n3 fun v4 h5 n6 => yK [.nils, (.bool false)] h5 n6 fun v7 h8 n9 => yK [(I 0)] h8 n9 fun vA hH nH => K (F86.fr a c e v1 v4 v7 vA s v w b d u o p q) hH nH := by kernel_rfl
theorem F86.t1_s : IR.run F86.t1 C N O K (F86.fr a c e g f i l s v w b d u o p q) h nx =
 zF g h fun v1 => zF f h fun v2 => zF g h fun v3 => sLen v3 fun v4 => zF f h fun v5 => sLen v5 fun v6 => sBin .neq .int v4 v6 fun v7 => C.fn 134 (.of 134) [v1] h nx fun v8 h9 nI => (sBin .neq .int v4 v6 fun v33 => zN v33 v7 ((sLen v5 fun v32 => zN v32 v6 ((zF f h9 fun vR => zN vR v5 ((sLen v3 fun vS => zN vS v4 ((zF g h9 fun vT => zN vT v3 ((zF f h9 fun vU => zN vU v2 (C.fn 134 (.of 134) [v2] h9 nI fun vB hD nD => (sBin .neq .int v4 v6 fun vQ => zN vQ v7 ((sLen v5 fun vW => zN vW v6 ((zF f hD fun v25 => zN v25 v5 ((sLen v3 fun vP => zN vP v4 ((zF g hD fun vO => zN vO v3 (C.fn 96 (.of 96) [v7, (I 2)] hD nD fun vE hA nA => jD 1 3 [(I 0)] [(0, 1, v8), (1, 1, vB), (2, 1, vE)] hA nA fun vI h18 n19 => C.fn 94 (.of 94) [vI] h18 n19 fun vL hJ nK => K (F86.fr a c e g f i l vL v w b d u o p q) hJ nK)))))))))))))))))))))) := by kernel_rfl
theorem F86.t2_s : IR.run F86.t2 C N O K (F86.fr a c e g f i l s v w b d u o p q) h nx =
 sBin .neq .int s (I 0) fun v1 => K (F86.fr a c e g f i l s v w v1 d u o p q) h nx := by kernel_rfl
theorem F86.t3_s : IR.run F86.t3 C N O K (F86.fr a c e g f i l s v w b d u o p q) h nx =
 uD [.nils, (.bool false)] [] fun v1 => zL 2 i v1 h nx fun v2 h3 n4 => zL 1 l s h3 n4 fun v5 h6 n7 => K (F86.fr a c e g f i l s v w b d u o p q) h6 n7 := by kernel_rfl
theorem F86.v10 : Arg.ev (.t (.of 10)) ⟨(F86.fr a c e g f i l s v w b d u o p q), []⟩ = b := by kernel_rfl
theorem F86.t8_s : IR.run F86.t8 C N O K (F86.fr a c e g f i l s v w b d u o p q) h nx =
 zF g h fun v1 => sLen v1 fun v2 => C.fn 22 (.of 22) [a, v2] h nx fun v3 h4 n5 => K (F86.fr a c e g f i l s v3 w b d u o p q) h4 n5 := by kernel_rfl
theorem F86.t9_s : IR.run F86.t9 C N O K (F86.fr a c e g f i l s v w b d u o p q) h nx =
 sBin .neq .int v (I 0) fun v1 => K (F86.fr a c e g f i l s v w b v1 u o p q) h nx := by kernel_rfl
theorem F86.t10_s : IR.run F86.t10 C N O K (F86.fr a c e g f i l s v w b d u o p q) h nx =
 uD [.nils, (.bool false)] [] fun v1 => zL 2 i v1 h nx fun v2 h3 n4 => zL 1 l v h3 n4 fun v5 h6 n7 => K (F86.fr a c e g f i l s v w b d u o p q) h6 n7 := by kernel_rfl
theorem F86.v11 : Arg.ev (.t (.of 11)) ⟨(F86.fr a c e g f i l s v w b d u o p q), []⟩ = d := by kernel_rfl
theorem F86.t15_s : IR.run F86.t15 C N O K (F86.fr a c e g f i l s v w b d u o p q) h nx =
 C.fn 90 (.of 90) [a] h nx fun v1 h2 n3 => K (F86.fr a c e g f i l s v w b d v1 o p q) h2 n3 := by kernel_rfl
theorem F86.t16_s : IR.run F86.t16 C N O K (F86.fr a c e g f i l s v w b d u o p q) h nx =
 yK [.nils, (.bool false)] h nx fun v1 h2 n3 => zL 2 v1 p h2 n3 fun v4 h5 n6 => K (F86.fr a c e g f i l s v v1 b d u o p q) h5 n6 := by kernel_rfl
theorem F86.t17_s : IR.run F86.t17 C N O K (F86.fr a c e g f i l s v w b d u o p q) h nx =
 zK 2 w h fun v1 => zF g h fun v2 => zF f h fun v3 => C.fn 135 (.of 135) [v1, v2] h nx fun v4 h5 n6 => (zF f h5 fun vA => zN vA v3 (C.fn 158 (.of 158) [v4, v3] h5 n6 fun v7 h8 n9 => K (F86.fr a c e g f i l s v w b d u o p v7) h8 n9)) := by kernel_rfl
theorem F86.t18_s : IR.run F86.t18 C N O K (F86.fr a c e g f i l s v w b d u o p q) h nx =
 zP 0 w fun v1 => zF v1 h fun v2 => zP 1 w fun v3 => zF v3 h fun v4 => C.fn 106 (.of 106) [v2] h nx fun v5 h6 n7 => (zF v3 h6 fun vH => zN vH v4 ((zP 1 w fun vF => zN vF v3 (uD [.nils, (.bool false)] [(0, 1, v5), (1, 1, v4)] fun v8 => zL 2 i v8 h6 n7 fun v9 hV nV => zL 1 l (I 0) hV nV fun vC h13 n14 => K (F86.fr a c e g f i l s v w b d u o p q) h13 n14)))) := by kernel_rfl
theorem F86.v15 : Arg.ev (.t (.of 15)) ⟨(F86.fr a c e g f i l s v w b d u o p q), []⟩ = q := by kernel_rfl
theorem F86.t23_f : Arg.ev (.t (.of 12)) ⟨(F86.fr a c e g f i l s v w b d u o p q), []⟩ = u := by kernel_rfl
theorem F86.t23_b {z0 z1 : AV} (k : T AV → OP) : yE [(.of 13), (.of 14)] [z0, z1] (F86.fr a c e g f i l s v w b d u o p q) k = k (F86.fr a c e g f i l s v w b d u z0 z1 q) := by kernel_rfl
theorem F86.t26_s : IR.run F86.t26 C N O K (F86.fr a c e g f i l s v w b d u o p q) h nx =
 uD [.nils, (.bool false)] [] fun v1 => zL 2 i v1 h nx fun v2 h3 n4 => zL 1 l (I 7) h3 n4 fun v5 h6 n7 => K (F86.fr a c e g f i l s v w b d u o p q) h6 n7 := by kernel_rfl
theorem F86.tab : T.get none (.of 86) tbl = some F86 := by kernel_rfl
theorem F86.bind (k : T AV → OP) : yE F86.params [a0, a1, a2] F86.init k = k (F86.fr a0 a1 a2 .undef .undef .undef .undef .undef .undef .undef .undef .undef .undef .undef .undef .undef) := by kernel_rfl
theorem F86.body_eq : F86.body = F86.t31 := by kernel_rfl
theorem F86.go : zV tbl N C (.of 86) [a0, a1, a2] h nx K0 = IR.run F86.t31 C N (fnO F86.res K0) (retK F86.res K0) (F86.fr a0 a1 a2 .undef .undef .undef .undef .undef .undef .undef .undef .undef .undef .undef .undef .undef) h nx := by
 rw [zI F86.tab, F86.bind, F86.body_eq]; kernel_rfl
theorem F86.ret : retK F86.res K0 (F86.fr a c e g f i l s v w b d u o p q) h nx = zK 2 i h fun v1 => zF l h fun v2 => K0 (.tup [v1, v2]) h nx := by kernel_rfl
noncomputable def F87.t0 : IR := .reg [.q (.of 3) (.mv (.c (I 0)))]
noncomputable def F87.t1 : IR := .reg [.q (.of 4) (.mv (.c (I 0)))]
noncomputable def F87.t2 : IR := .reg [.s (.mv (.t (.of 4))), .s (.mv (.t (.of 0))), .s (.len (.s 0)), .q (.of 5) (.bin .lss .int (.s 2) (.s 0))]
noncomputable def F87.t3 : IR := .cond (.t (.of 5)) .skip (.exit 0)
noncomputable def F87.t4 : IR := .seq F87.t2 F87.t3
noncomputable def F87.t5 : IR := .reg [.s (.mv (.t (.of 0))), .s (.mv (.t (.of 4))), .s (.iaddr 2 (.s 1) (.s 0)), .s (.loadN 2 (.s 0)), .s (.mv (.t (.of 1))), .w .push none (.call (.c (.fn 58 (.of 58) [])) [(.s 1), (.s 0)]), .s (.mv (.t (.of 2))), .w (.loc (.of 6)) none (.call (.c (.fn 82 (.of 82) [])) [(.s 1), (.s 0)])]
noncomputable def F87.t6 : IR := .reg [.s (.mv (.t (.of 4))), .q (.of 3) (.mv (.s 0))]
noncomputable def F87.t7 : IR := .seq F87.t6 .ret
noncomputable def F87.t8 : IR := .cond (.t (.of 6)) F87.t7 .skip
noncomputable def F87.t9 : IR := .seq F87.t5 F87.t8
noncomputable def F87.t10 : IR := .block 1 F87.t9
noncomputable def F87.t11 : IR := .reg [.s (.mv (.t (.of 4))), .s (.bin .add .int (.s 0) (.c (I 1))), .q (.of 4) (.mv (.s 0))]
noncomputable def F87.t12 : IR := .seq F87.t10 F87.t11
noncomputable def F87.t13 : IR := .seq F87.t4 F87.t12
noncomputable def F87.t14 : IR := .loop F87.t13
noncomputable def F87.t15 : IR := .block 0 F87.t14
noncomputable def F87.t16 : IR := .seq F87.t1 F87.t15
noncomputable def F87.t17 : IR := .reg [.q (.of 3) (.mv (.c (I (-1))))]
noncomputable def F87.t18 : IR := .seq F87.t17 .ret
noncomputable def F87.t19 : IR := .seq F87.t16 F87.t18
noncomputable def F87.t20 : IR := .seq F87.t0 F87.t19
theorem F87.t0_s : IR.run F87.t0 C N O K (F87.fr a c e g f i l) h nx =
 K (F87.fr a c e (I 0) f i l) h nx := by kernel_rfl
theorem F87.t1_s : IR.run F87.t1 C N O K (F87.fr a c e g f i l) h nx =
 K (F87.fr a c e g (I 0) i l) h nx := by kernel_rfl
theorem F87.t2_s : IR.run F87.t2 C N O K (F87.fr a c e g f i l) h nx =
 sLen a fun v1 => sBin .lss .int f v1 fun v2 => K (F87.fr a c e g f v2 l) h nx := by kernel_rfl
theorem F87.v5 : Arg.ev (.t (.of 5)) ⟨(F87.fr a c e g f i l), []⟩ = i := by kernel_rfl
theorem F87.t5_s : IR.run F87.t5 C N O K (F87.fr a c e g f i l) h nx =
 zR 2 a f fun v1 => zK 2 v1 h fun v2 => C.fn 58 (.of 58) [v2, c] h nx fun v3 h4 n5 => C.fn 82 (.of 82) [v3, e] h4 n5 fun v6 h7 n8 => K (F87.fr a c e g f i v6) h7 n8 := by kernel_rfl
theorem F87.t6_s : IR.run F87.t6 C N O K (F87.fr a c e g f i l) h nx =
 K (F87.fr a c e f f i l) h nx := by kernel_rfl
theorem F87.v6 : Arg.ev (.t (.of 6)) ⟨(F87.fr a c e g f i l), []⟩ = l := by kernel_rfl
theorem F87.t11_s : IR.run F87.t11 C N O K (F87.fr a c e g f i l) h nx =
 sBin .add .int f (I 1) fun v1 => K (F87.fr a c e g v1 i l) h nx := by kernel_rfl
theorem F87.t14_L (Inv : Nat → AV → T Blk → Pa → Prop) {m : Nat} (hm : m < N) (hi : Inv m f h nx)
  (step : ∀ (m : Nat) (z3 z4 z5 z6 : AV) (h : T Blk) (nx : Pa) (R : Ks Prop), Inv m z4 h nx → (∀ (m' : Nat) (w3 w4 w5 w6 : AV) (h' : T Blk) (nx' : Pa), m' < m → Inv m' w4 h' nx' → R (F87.fr a c e w3 w4 w5 w6) h' nx' = .ok True) → IR.run F87.t13 C N O R (F87.fr a c e z3 z4 z5 z6) h nx = .ok True) :
  IR.run F87.t14 C N O K (F87.fr a c e g f i l) h nx = .ok True := by
 rw [F87.t14]
 refine yL (fun m tm h nx => ∃ z3 z4 z5 z6, tm = (F87.fr a c e z3 z4 z5 z6) ∧ Inv m z4 h nx) ?_ hm ⟨_, _, _, _, rfl, hi⟩
 rintro m tm h nx R ⟨z3, z4, z5, z6, rfl, hi⟩ hR
 exact step m z3 z4 z5 z6 h nx R hi fun m' w3 w4 w5 w6 h' nx' hlt hi' => hR m' _ h' nx' hlt ⟨_, _, _, _, rfl, hi'⟩
theorem F87.t17_s : IR.run F87.t17 C N O K (F87.fr a c e g f i l) h nx =
 K (F87.fr a c e (I (-1)) f i l) h nx := by kernel_rfl
theorem F87.tab : T.get none (.of 87) tbl = some F87 := by kernel_rfl
theorem F87.bind (k : T AV → OP) : yE F87.params [a0, a1, a2] F87.init k = k (F87.fr a0 a1 a2 .undef .undef .undef .undef) := by kernel_rfl
theorem F87.body_eq : F87.body = F87.t20 := by kernel_rfl
theorem F87.go : zV tbl N C (.of 87) [a0, a1, a2] h nx K0 = IR.run F87.t20 C N (fnO F87.res K0) (retK F87.res K0) (F87.fr a0 a1 a2 .undef .undef .undef .undef) h nx := by
 rw [zI F87.tab, F87.bind, F87.body_eq]; kernel_rfl
theorem F87.ret : retK F87.res K0 (F87.fr a c e g f i l) h nx = K0 g h nx := by kernel_rfl
noncomputable def F16.t0 : IR := .reg [.q (.of 3) (.mv (.c (.bool false)))]
noncomputable def F16.r1_4 : List RO := .q (.of 8) (.pick (.s 2) (.c (.bool true)) (.s 0)) :: []
noncomputable def F16.r1_3 : List RO := .s (.pick (.s 2) (.c (.bool true)) (.s 0)) :: .s (.mv (.s 0)) :: .p .push (some ((.s 0), false)) (.mv (.t (.of 2))) :: .w .push (some ((.s 1), false)) (.call (.c (.fn 51 (.of 51) [])) [(.s 0)]) :: F16.r1_4
noncomputable def F16.r1_2 : List RO := .s (.pick (.s 2) (.c (.bool true)) (.s 0)) :: .s (.mv (.s 0)) :: .p .push (some ((.s 0), false)) (.mv (.t (.of 1))) :: .w .push (some ((.s 1), false)) (.call (.c (.fn 51 (.of 51) [])) [(.s 0)]) :: F16.r1_3
noncomputable def F16.r1_1 : List RO := .s (.not (.s 0)) :: .s (.mv (.s 0)) :: .p .push (some ((.s 0), false)) (.mv (.t (.of 0))) :: .w .push (some ((.s 1), false)) (.call (.c (.fn 19 (.of 19) [])) [(.s 0), (.c (I 24))]) :: F16.r1_2
noncomputable def F16.r1_0 : List RO := .w .push none (.call (.c (.fn 18 (.of 18) [])) []) :: F16.r1_1
noncomputable def F16.t1 : IR := .reg F16.r1_0
noncomputable def F16.t2 : IR := .reg [.w .push none (.call (.c (.fn 18 (.of 18) [])) []), .q (.of 3) (.mv (.s 0))]
noncomputable def F16.t3 : IR := .seq F16.t2 .ret
noncomputable def F16.t4 : IR := .cond (.t (.of 8)) F16.t3 .skip
noncomputable def F16.t5 : IR := .seq F16.t1 F16.t4
noncomputable def F16.t6 : IR := .reg [.s (.mv (.t (.of 0))), .s (.mv (.t (.of 1))), .s (.mv (.t (.of 2))), .w .push none (.call (.c (.fn 86 (.of 86) [])) [(.s 2), (.s 1), (.s 0)]), .s (.mv (.s 0)), .s (.ext 0 (.s 0)), .s (.ext 1 (.s 1)), .w (.loc (.of 4)) none (.alloc [.nils, (.bool false)]), .w .none none (.store 2 (.t (.of 4)) (.s 1)), .q (.of 5) (.mv (.s 0))]
noncomputable def F16.r4_5 : List RO := .q (.of 6) (.mv (.s 0)) :: []
noncomputable def F16.r4_4 : List RO := .w .push none (.call (.c (.fn 41 (.of 41) [])) [(.s 0)]) :: F16.r4_5
noncomputable def F16.r4_3 : List RO := .w .push none (.bslice 1 3 [(I 0)] [(0, 1, (.s 8)), (1, 1, (.s 6)), (2, 1, (.s 0))]) :: F16.r4_4
noncomputable def F16.r4_2 : List RO := .s (.mv (.t (.of 1))) :: .s (.len (.s 0)) :: .s (.mv (.t (.of 2))) :: .s (.len (.s 0)) :: .s (.bin .neq .int (.s 2) (.s 0)) :: .w .push none (.call (.c (.fn 37 (.of 37) [])) [(.s 0), (.c (I 2))]) :: F16.r4_3
noncomputable def F16.r4_1 : List RO := .s (.mv (.t (.of 2))) :: .w .push none (.call (.c (.fn 57 (.of 57) [])) [(.s 0)]) :: F16.r4_2
noncomputable def F16.r4_0 : List RO := .s (.mv (.t (.of 1))) :: .w .push none (.call (.c (.fn 57 (.of 57) [])) [(.s 0)]) :: F16.r4_1
noncomputable def F16.t7 : IR := .reg F16.r4_0
noncomputable def F16.t8 : IR := .reg [.s (.mv (.t (.of 6))), .q (.of 9) (.bin .eql .int (.s 0) (.c (I 0)))]
noncomputable def F16.t9 : IR := .reg [.s (.mv (.t (.of 0))), .s (.mv (.t (.of 1))), .s (.len (.s 0)), .w .push none (.call (.c (.fn 20 (.of 20) [])) [(.s 2), (.s 0)]), .q (.of 6) (.mv (.s 0))]
noncomputable def F16.t10 : IR := .cond (.t (.of 9)) F16.t9 .skip
noncomputable def F16.t11 : IR := .seq F16.t8 F16.t10
noncomputable def F16.t12 : IR := .reg [.s (.mv (.t (.of 6))), .q (.of 10) (.bin .neq .int (.s 0) (.c (I 0)))]
noncomputable def F16.t13 : IR := .reg [.s (.loadN 2 (.t (.of 4))), .s (.mv (.t (.of 5))), .s (.mv (.t (.of 6))), .s (.loadN 2 (.t (.of 4))), .w .push none (.call (.c (.fn 62 (.of 62) [])) [(.s 3), (.s 2), (.s 1), (.s 0)]), .q (.of 3) (.mv (.s 0))]
noncomputable def F16.t14 : IR := .seq F16.t13 .ret
noncomputable def F16.t15 : IR := .cond (.t (.of 10)) F16.t14 .skip
noncomputable def F16.t16 : IR := .seq F16.t12 F16.t15
noncomputable def F16.t17 : IR := .reg [.s (.mv (.t (.of 0))), .s (.mv (.t (.of 1))), .s (.mv (.t (.of 2))), .w .push none (.call (.c (.fn 87 (.of 87) [])) [(.s 2), (.s 1), (.s 0)]), .q (.of 7) (.mv (.s 0))]
noncomputable def F16.t18 : IR := .reg [.s (.mv (.t (.of 7))), .q (.of 11) (.bin .lss .int (.s 0) (.c (I 0)))]
noncomputable def F16.t19 : IR := .reg [.s (.loadN 2 (.t (.of 4))), .s (.mv (.t (.of 5))), .s (.loadN 2 (.t (.of 4))), .w .push none (.call (.c (.fn 62 (.of 62) [])) [(.s 2), (.s 1), (.c (I 7)), (.s 0)]), .q (.of 3) (.mv (.s 0))]
noncomputable def F16.t20 : IR := .seq F16.t19 .ret
noncomputable def F16.t21 : IR := .cond (.t (.of 11)) F16.t20 .skip
noncomputable def F16.t22 : IR := .seq F16.t18 F16.t21
noncomputable def F16.t23 : IR := .dreg [] [(.s (.loadN 2 (.t (.of 4))), 0, []), (.s (.mv (.t (.of 5))), 0, []), (.s (.mv (.t (.of 0))), 0, []), (.s (.mv (.t (.of 7))), 0, []), (.s (.iaddr 2 (.s 1) (.s 0)), 0, []), (.s (.loadN 2 (.s 0)), 0, []), (.w .push none (.call (.c (.fn 62 (.of 62) [])) [(.s 5), (.s 4), (.c (I 0)), (.s 0)]), 0, []), (.q (.of 3) (.mv (.s 0)), 0, [])]
noncomputable def F16.t24 : IR := .seq F16.t23 .ret
noncomputable def F16.t25 : IR := .seq F16.t22 F16.t24
noncomputable def F16.t26 : IR := .seq F16.t17 F16.t25
noncomputable def F16.t27 : IR := .seq F16.t16 F16.t26
noncomputable def F16.t28 : IR := .seq F16.t11 F16.t27
noncomputable def F16.t29 : IR := .seq F16.t7 F16.t28
noncomputable def F16.t30 : IR := .seq F16.t6 F16.t29
noncomputable def F16.t31 : IR := .seq F16.t5 F16.t30
noncomputable def F16.t32 : IR := .seq F16.t0 F16.t31
theorem F16.t0_s : IR.run F16.t0 C N O K (F16.fr a c e g f i l s v w b d) h nx =
 K (F16.fr a c e (.bool false) f i l s v w b d) h nx := by kernel_rfl
theorem F16.t1_s : IR.run F16.t1 C N O K tm h nx = y0 F16.r1_0 C ⟨tm, []⟩ h nx (fun tm h nx => K tm.v h nx) := wV ..
theorem F16.r1_0_g : y0 (.w .push none (.call (.c (.fn 18 (.of 18) [])) []) :: r) C ⟨(F16.fr a c e g f i l s v w b d), []⟩ h nx Kt =
 C.fn 18 (.of 18) [] h nx fun v1 h2 n3 => y0 r C ⟨(F16.fr a c e g f i l s v w b d), v1 :: []⟩ h2 n3 Kt := by kernel_rfl
theorem F16.r1_1_g : y0 (.s (.not (.s 0)) :: .s (.mv (.s 0)) :: .p .push (some ((.s 0), false)) (.mv (.t (.of 0))) :: .w .push (some ((.s 1), false)) (.call (.c (.fn 19 (.of 19) [])) [(.s 0), (.c (I 24))]) :: r) C ⟨(F16.fr a c e g f i l s v w b d), s0 :: []⟩ h nx Kt =
 sNot s0 fun v1 => sG v1 false (fun k => k a) fun v2 => sGW v1 false (fun k => C.fn 19 (.of 19) [v2, (I 24)] h nx k) h nx fun v3 h4 n5 => y0 r C ⟨(F16.fr a c e g f i l s v w b d), v3 :: v2 :: v1 :: v1 :: s0 :: []⟩ h4 n5 Kt := by kernel_rfl
theorem F16.r1_2_g : y0 (.s (.pick (.s 2) (.c (.bool true)) (.s 0)) :: .s (.mv (.s 0)) :: .p .push (some ((.s 0), false)) (.mv (.t (.of 1))) :: .w .push (some ((.s 1), false)) (.call (.c (.fn 51 (.of 51) [])) [(.s 0)]) :: r) C ⟨(F16.fr a c e g f i l s v w b d), s0 :: s1 :: s2 :: s3 :: s4 :: []⟩ h nx Kt =
 gA s2 (.bool true) s0 fun v1 => sG v1 false (fun k => k c) fun v2 => sGW v1 false (fun k => C.fn 51 (.of 51) [v2] h nx k) h nx fun v3 h4 n5 => y0 r C ⟨(F16.fr a c e g f i l s v w b d), v3 :: v2 :: v1 :: v1 :: s0 :: s1 :: s2 :: s3 :: s4 :: []⟩ h4 n5 Kt := by kernel_rfl
theorem F16.r1_3_g : y0 (.s (.pick (.s 2) (.c (.bool true)) (.s 0)) :: .s (.mv (.s 0)) :: .p .push (some ((.s 0), false)) (.mv (.t (.of 2))) :: .w .push (some ((.s 1), false)) (.call (.c (.fn 51 (.of 51) [])) [(.s 0)]) :: r) C ⟨(F16.fr a c e g f i l s v w b d), s0 :: s1 :: s2 :: s3 :: s4 :: s5 :: s6 :: s7 :: s8 :: []⟩ h nx Kt =
 gA s2 (.bool true) s0 fun v1 => sG v1 false (fun k => k e) fun v2 => sGW v1 false (fun k => C.fn 51 (.of 51) [v2] h nx k) h nx fun v3 h4 n5 => y0 r C ⟨(F16.fr a c e g f i l s v w b d), v3 :: v2 :: v1 :: v1 :: s0 :: s1 :: s2 :: s3 :: s4 :: s5 :: s6 :: s7 :: s8 :: []⟩ h4 n5 Kt := by kernel_rfl
theorem F16.r1_4_g : y0 (.q (.of 8) (.pick (.s 2) (.c (.bool true)) (.s 0)) :: []) C ⟨(F16.fr a c e g f i l s v w b d), s0 :: s1 :: s2 :: s3 :: s4 :: s5 :: s6 :: s7 :: s8 :: s9 :: s10 :: s11 :: s12 :: []⟩ h nx Kt =
 gA s2 (.bool true) s0 fun v1 => Kt ⟨(F16.fr a c e g f i l s v1 w b d), s0 :: s1 :: s2 :: s3 :: s4 :: s5 :: s6 :: s7 :: s8 :: s9 :: s10 :: s11 :: s12 :: []⟩ h nx := by kernel_rfl
theorem F16.t2_s : IR.run F16.t2 C N O K (F16.fr a c e g f i l s v w b d) h nx =
 C.fn 18 (.of 18) [] h nx fun v1 h2 n3 => K (F16.fr a c e v1 f i l s v w b d) h2 n3 := by kernel_rfl
theorem F16.v8 : Arg.ev (.t (.of 8)) ⟨(F16.fr a c e g f i l s v w b d), []⟩ = v := by kernel_rfl
theorem F16.t6_s : IR.run F16.t6 C N O K (F16.fr a c e g f i l s v w b d) h nx =
 C.fn 86 (.of 86) [a, c, e] h nx fun v1 h2 n3 => sExt 0 v1 fun v4 => sExt 1 v1 fun v5 => yK [.nils, (.bool false)] h2 n3 fun v6 h7 n8 => zL 2 v6 v4 h7 n8 fun v9 hV nV => K (F16.fr a c e g v6 v5 l s v w b d) hV nV := by kernel_rfl
theorem F16.t7_s : IR.run F16.t7 C N O K tm h nx = y0 F16.r4_0 C ⟨tm, []⟩ h nx (fun tm h nx => K tm.v h nx) := wV ..
theorem F16.r4_0_g : y0 (.s (.mv (.t (.of 1))) :: .w .push none (.call (.c (.fn 57 (.of 57) [])) [(.s 0)]) :: r) C ⟨(F16.fr a c e g f i l s v w b d), []⟩ h nx Kt =
 C.fn 57 (.of 57) [c] h nx fun v1 h2 n3 => y0 r C ⟨(F16.fr a c e g f i l s v w b d), v1 :: c :: []⟩ h2 n3 Kt := by kernel_rfl
theorem F16.r4_1_g : y0 (.s (.mv (.t (.of 2))) :: .w .push none (.call (.c (.fn 57 (.of 57) [])) [(.s 0)]) :: r) C ⟨(F16.fr a c e g f i l s v w b d), s0 :: s1 :: []⟩ h nx Kt =
 C.fn 57 (.of 57) [e] h nx fun v1 h2 n3 => y0 r C ⟨(F16.fr a c e g f i l s v w b d), v1 :: e :: s0 :: s1 :: []⟩ h2 n3 Kt := by kernel_rfl
theorem F16.r4_2_g : y0 (.s (.mv (.t (.of 1))) :: .s (.len (.s 0)) :: .s (.mv (.t (.of 2))) :: .s (.len (.s 0)) :: .s (.bin .neq .int (.s 2) (.s 0)) :: .w .push none (.call (.c (.fn 37 (.of 37) [])) [(.s 0), (.c (I 2))]) :: r) C ⟨(F16.fr a c e g f i l s v w b d), s0 :: s1 :: s2 :: s3 :: []⟩ h nx Kt =
 sLen c fun v1 => sLen e fun v2 => sBin .neq .int v1 v2 fun v3 => C.fn 37 (.of 37) [v3, (I 2)] h nx fun v4 h5 n6 => y0 r C ⟨(F16.fr a c e g f i l s v w b d), v4 :: v3 :: v2 :: e :: v1 :: c :: s0 :: s1 :: s2 :: s3 :: []⟩ h5 n6 Kt := by kernel_rfl
theorem F16.r4_3_g : y0 (.w .push none (.bslice 1 3 [(I 0)] [(0, 1, (.s 8)), (1, 1, (.s 6)), (2, 1, (.s 0))]) :: r) C ⟨(F16.fr a c e g f i l s v w b d), s0 :: s1 :: s2 :: s3 :: s4 :: s5 :: s6 :: s7 :: s8 :: s9 :: []⟩ h nx Kt =
 jD 1 3 [(I 0)] [(0, 1, s8), (1, 1, s6), (2, 1, s0)] h nx fun v1 h2 n3 => y0 r C ⟨(F16.fr a c e g f i l s v w b d), v1 :: s0 :: s1 :: s2 :: s3 :: s4 :: s5 :: s6 :: s7 :: s8 :: s9 :: []⟩ h2 n3 Kt := by kernel_rfl
theorem F16.r4_4_g : y0 (.w .push none (.call (.c (.fn 41 (.of 41) [])) [(.s 0)]) :: r) C ⟨(F16.fr a c e g f i l s v w b d), s0 :: s1 :: s2 :: s3 :: s4 :: s5 :: s6 :: s7 :: s8 :: s9 :: s10 :: []⟩ h nx Kt =
 C.fn 41 (.of 41) [s0] h nx fun v1 h2 n3 => y0 r C ⟨(F16.fr a c e g f i l s v w b d), v1 :: s0 :: s1 :: s2 :: s3 :: s4 :: s5 :: s6 :: s7 :: s8 :: s9 :: s10 :: []⟩ h2 n3 Kt := by kernel_rfl
theorem F16.r4_5_g : y0 (.q (.of 6) (.mv (.s 0)) :: []) C ⟨(F16.fr a c e g f i l s v w b d), s0 :: s1 :: s2 :: s3 :: s4 :: s5 :: s6 :: s7 :: s8 :: s9 :: s10 :: s11 :: []⟩ h nx Kt =
 Kt ⟨(F16.fr a c e g f i s0 s v w b d), s0 :: s1 :: s2 :: s3 :: s4 :: s5 :: s6 :: s7 :: s8 :: s9 :: s10 :: s11 :: []⟩ h nx := by kernel_rfl
theorem F16.t8_s : IR.run F16.t8 C N O K (F16.fr a c e g f i l s v w b d) h nx =
 sBin .eql .int l (I 0) fun v1 => K (F16.fr a c e g f i l s v v1 b d) h nx := by kernel_rfl
theorem F16.t9_s : IR.run F16.t9 C N O K (F16.fr a c e g f i l s v w b d) h nx =
 sLen c fun v1 => C.fn 20 (.of 20) [a, v1] h nx fun v2 h3 n4 => K (F16.fr a c e g f i v2 s v w b d) h3 n4 := by kernel_rfl
theorem F16.v9 : Arg.ev (.t (.of 9)) ⟨(F16.fr a c e g f i l s v w b d), []⟩ = w := by kernel_rfl
theorem F16.t12_s : IR.run F16.t12 C N O K (F16.fr a c e g f i l s v w b d) h nx =
 sBin .neq .int l (I 0) fun v1 => K (F16.fr a c e g f i l s v w v1 d) h nx := by kernel_rfl
theorem F16.t13_s : IR.run F16.t13 C N O K (F16.fr a c e g f i l s v w b d) h nx =
 zK 2 f h fun v1 => zK 2 f h fun v2 => C.fn 62 (.of 62) [v1, i, l, v2] h nx fun v3 h4 n5 => K (F16.fr a c e v3 f i l s v w b d) h4 n5 := by kernel_rfl
theorem F16.v10 : Arg.ev (.t (.of 10)) ⟨(F16.fr a c e g f i l s v w b d), []⟩ = b := by kernel_rfl
theorem F16.t17_s : IR.run F16.t17 C N O K (F16.fr a c e g f i l s v w b d) h nx =
 C.fn 87 (.of 87) [a, c, e] h nx fun v1 h2 n3 => K (F16.fr a c e g f i l v1 v w b d) h2 n3 := by kernel_rfl
theorem F16.t18_s : IR.run F16.t18 C N O K (F16.fr a c e g f i l s v w b d) h nx =
 sBin .lss .int s (I 0) fun v1 => K (F16.fr a c e g f i l s v w b v1) h nx := by kernel_rfl
theorem F16.t19_s : IR.run F16.t19 C N O K (F16.fr a c e g f i l s v w b d) h nx =
 zK 2 f h fun v1 => zK 2 f h fun v2 => C.fn 62 (.of 62) [v1, i, (I 7), v2] h nx fun v3 h4 n5 => K (F16.fr a c e v3 f i l s v w b d) h4 n5 := by kernel_rfl
theorem F16.v11 : Arg.ev (.t (.of 11)) ⟨(F16.fr a c e g f i l s v w b d), []⟩ = d := by kernel_rfl
theorem F16.t23_s : IR.run F16.t23 C N O K (F16.fr a c e g f i l s v w b d) h nx =
 zK 2 f h fun v1 => zR 2 a s fun v2 => zK 2 v2 h fun v3 => C.fn 62 (.of 62) [v1, i, (I 0), v3] h nx fun v4 h5 n6 => K (F16.fr a c e v4 f i l s v w b d) h5 n6 := by kernel_rfl
theorem F16.tab : T.get none (.of 16) tbl = some F16 := by kernel_rfl
theorem F16.bind (k : T AV → OP) : yE F16.params [a0, a1, a2] F16.init k = k (F16.fr a0 a1 a2 .undef .undef .undef .undef .undef .undef .undef .undef .undef) := by kernel_rfl
theorem F16.body_eq : F16.body = F16.t32 := by kernel_rfl
theorem F16.go : zV tbl N C (.of 16) [a0, a1, a2] h nx K0 = IR.run F16.t32 C N (fnO F16.res K0) (retK F16.res K0) (F16.fr a0 a1 a2 .undef .undef .undef .undef .undef .undef .undef .undef .undef) h nx := by
 rw [zI F16.tab, F16.bind, F16.body_eq]; kernel_rfl
theorem F16.ret : retK F16.res K0 (F16.fr a c e g f i l s v w b d) h nx = K0 g h nx := by kernel_rfl
noncomputable def F62.t0 : IR := .reg [.w (.loc (.of 4)) none (.box (.t (.of 0))), .w (.loc (.of 5)) none (.box (.t (.of 3))), .q (.of 6) (.mv (.c (.bool false)))]
noncomputable def F62.t1 : IR := .reg [.s (.mv (.t (.of 2))), .q (.of 7) (.bin .neq .int (.s 0) (.c (I 0)))]
noncomputable def F62.r2_1 : List RO := .s (.pick (.s 3) (.s 0) (.c (.bool false))) :: .s (.mv (.s 0)) :: .p .push (some ((.s 0), true)) (.mv (.t (.of 1))) :: .p .push (some ((.s 1), true)) (.mv (.t (.of 2))) :: .p .push (some ((.s 2), true)) (.bin .eql .int (.s 1) (.s 0)) :: .s (.pick (.s 3) (.s 0) (.c (.bool false))) :: .q (.of 6) (.mv (.s 0)) :: []
noncomputable def F62.r2_0 : List RO := .s (.faddr 0 (.t (.of 4))) :: .s (.load (.s 0)) :: .s (.len (.s 0)) :: .s (.bin .eql .int (.s 0) (.c (I 0))) :: .s (.mv (.s 0)) :: .p .push (some ((.s 0), true)) (.faddr 1 (.t (.of 4))) :: .p .push (some ((.s 1), true)) (.load (.s 0)) :: .p .push (some ((.s 2), true)) (.not (.s 0)) :: F62.r2_1
noncomputable def F62.t2 : IR := .reg F62.r2_0
noncomputable def F62.t3 : IR := .seq F62.t2 .ret
noncomputable def F62.t4 : IR := .cond (.t (.of 7)) F62.t3 .skip
noncomputable def F62.t5 : IR := .seq F62.t1 F62.t4
noncomputable def F62.t6 : IR := .reg [.s (.mv (.t (.of 1))), .s (.bin .eql .int (.s 0) (.c (I 0))), .s (.mv (.s 0)), .p .push (some ((.s 0), true)) (.loadN 2 (.t (.of 4))), .p .push (some ((.s 1), true)) (.loadN 2 (.t (.of 5))), .w .push (some ((.s 2), true)) (.call (.c (.fn 30 (.of 30) [])) [(.s 1), (.s 0)]), .s (.pick (.s 3) (.s 0) (.c (.bool false))), .q (.of 6) (.mv (.s 0))]
noncomputable def F62.t7 : IR := .seq F62.t6 .ret
noncomputable def F62.t8 : IR := .seq F62.t5 F62.t7
noncomputable def F62.t9 : IR := .seq F62.t0 F62.t8
theorem F62.t0_s : IR.run F62.t0 C N O K (F62.fr a c e g f i l s) h nx =
 sBox a h nx fun v1 h2 n3 => sBox g h2 n3 fun v4 h5 n6 => K (F62.fr a c e g v1 v4 (.bool false) s) h5 n6 := by kernel_rfl
theorem F62.t1_s : IR.run F62.t1 C N O K (F62.fr a c e g f i l s) h nx =
 sBin .neq .int e (I 0) fun v1 => K (F62.fr a c e g f i l v1) h nx := by kernel_rfl
theorem F62.t2_s : IR.run F62.t2 C N O K tm h nx = y0 F62.r2_0 C ⟨tm, []⟩ h nx (fun tm h nx => K tm.v h nx) := wV ..
theorem F62.r2_0_g : y0 (.s (.faddr 0 (.t (.of 4))) :: .s (.load (.s 0)) :: .s (.len (.s 0)) :: .s (.bin .eql .int (.s 0) (.c (I 0))) :: .s (.mv (.s 0)) :: .p .push (some ((.s 0), true)) (.faddr 1 (.t (.of 4))) :: .p .push (some ((.s 1), true)) (.load (.s 0)) :: .p .push (some ((.s 2), true)) (.not (.s 0)) :: r) C ⟨(F62.fr a c e g f i l s), []⟩ h nx Kt =
 zP 0 f fun v1 => zF v1 h fun v2 => sLen v2 fun v3 => sBin .eql .int v3 (I 0) fun v4 => sG v4 true (fun k => zP 1 f k) fun v5 => sG v4 true (fun k => zF v5 h k) fun v6 => sG v4 true (fun k => sNot v6 k) fun v7 => y0 r C ⟨(F62.fr a c e g f i l s), v7 :: v6 :: v5 :: v4 :: v4 :: v3 :: v2 :: v1 :: []⟩ h nx Kt := by kernel_rfl
theorem F62.r2_1_g : y0 (.s (.pick (.s 3) (.s 0) (.c (.bool false))) :: .s (.mv (.s 0)) :: .p .push (some ((.s 0), true)) (.mv (.t (.of 1))) :: .p .push (some ((.s 1), true)) (.mv (.t (.of 2))) :: .p .push (some ((.s 2), true)) (.bin .eql .int (.s 1) (.s 0)) :: .s (.pick (.s 3) (.s 0) (.c (.bool false))) :: .q (.of 6) (.mv (.s 0)) :: []) C ⟨(F62.fr a c e g f i l s), s0 :: s1 :: s2 :: s3 :: s4 :: s5 :: s6 :: s7 :: []⟩ h nx Kt =
 gA s3 s0 (.bool false) fun v1 => sG v1 true (fun k => k c) fun v2 => sG v1 true (fun k => k e) fun v3 => sG v1 true (fun k => sBin .eql .int v2 v3 k) fun v4 => gA v1 v4 (.bool false) fun v5 => Kt ⟨(F62.fr a c e g f i v5 s), v5 :: v4 :: v3 :: v2 :: v1 :: v1 :: s0 :: s1 :: s2 :: s3 :: s4 :: s5 :: s6 :: s7 :: []⟩ h nx := by kernel_rfl
theorem F62.v7 : Arg.ev (.t (.of 7)) ⟨(F62.fr a c e g f i l s), []⟩ = s := by kernel_rfl
theorem F62.t6_s : IR.run F62.t6 C N O K (F62.fr a c e g f i l s) h nx =
 sBin .eql .int c (I 0) fun v1 => sG v1 true (fun k => zK 2 f h k) fun v2 => sG v1 true (fun k => zK 2 i h k) fun v3 => sGW v1 true (fun k => C.fn 30 (.of 30) [v2, v3] h nx k) h nx fun v4 h5 n6 => gA v1 v4 (.bool false) fun v7 => K (F62.fr a c e g f i v7 s) h5 n6 := by kernel_rfl
theorem F62.tab : T.get none (.of 62) tbl = some F62 := by kernel_rfl
theorem F62.bind (k : T AV → OP) : yE F62.params [a0, a1, a2, a3] F62.init k = k (F62.fr a0 a1 a2 a3 .undef .undef .undef .undef) := by kernel_rfl
theorem F62.body_eq : F62.body = F62.t9 := by kernel_rfl
theorem F62.go : zV tbl N C (.of 62) [a0, a1, a2, a3] h nx K0 = IR.run F62.t9 C N (fnO F62.res K0) (retK F62.res K0) (F62.fr a0 a1 a2 a3 .undef .undef .undef .undef) h nx := by
 rw [zI F62.tab, F62.bind, F62.body_eq]; kernel_rfl
theorem F62.ret : retK F62.res K0 (F62.fr a c e g f i l s) h nx = K0 l h nx := by kernel_rfl
end
end Go.Ev
namespace Go.Ev
open Go Go.Proofs
set_option maxRecDepth 100000
section
variable {N : Nat} {C : Calls Prop} {K0 : Kw Prop} {K : Ks Prop} {h : T Blk} {nx : Pa} {a c e g f i l s v w b d u o p q y z a0 a1 a2 : AV} {O : Outs Prop} {tm : T AV} {Kt : KTm} {r : List RO} {s0 s1 s2 s3 s4 s5 s6 s7 s8 s9 s10 s11 s12 s13 s14 s15 s16 s17 s18 s19 s20 s21 s22 s23 s24 s25 s26 s27 s28 s29 s30 s31 s32 s33 s34 s35 s36 s37 s38 s39 : AV}
noncomputable def F120.t0 : IR := .reg [.q (.of 3) (.mv (.c .nilm)), .w (.loc (.of 4)) none (.alloc [.nils, .nils]), .q (.of 5) (.mv (.c (I 0)))]
noncomputable def F120.t1 : IR := .reg [.w (.loc (.of 6)) none (.alloc [.nils, .nils])]
noncomputable def F120.t2 : IR := .reg [.s (.mv (.t (.of 0))), .s (.mv (.t (.of 2))), .w .push none (.call (.c (.fn 92 (.of 92) [])) [(.s 1), (.s 0)]), .s (.mv (.s 0)), .s (.ext 0 (.s 0)), .s (.ext 1 (.s 1)), .s (.ext 2 (.s 2)), .q (.of 7) (.mv (.s 2)), .q (.of 8) (.mv (.s 1)), .q (.of 9) (.mv (.s 0))]
noncomputable def F120.t3 : IR := .reg [.s (.mv (.t (.of 9))), .q (.of 13) (.bin .neq .int (.s 0) (.c (I 0)))]
noncomputable def F120.t4 : IR := .dreg [] [(.s (.loadN 2 (.t (.of 6))), 0, []), (.s (.mv (.t (.of 9))), 1, []), (.q (.of 3) (.mv (.c .nilm)), 0, []), (.w .none none (.store 2 (.t (.of 4)) (.s 1)), 0, []), (.q (.of 5) (.mv (.s 0)), 0, [])]
noncomputable def F120.t5 : IR := .seq F120.t4 .ret
noncomputable def F120.t6 : IR := .cond (.t (.of 13)) F120.t5 .skip
noncomputable def F120.t7 : IR := .seq F120.t3 F120.t6
noncomputable def F120.t8 : IR := .reg [.s (.mv (.t (.of 1))), .s (.mv (.t (.of 2))), .w .push none (.call (.c (.fn 92 (.of 92) [])) [(.s 1), (.s 0)]), .s (.mv (.s 0)), .s (.ext 0 (.s 0)), .s (.ext 1 (.s 1)), .s (.ext 2 (.s 2)), .q (.of 10) (.mv (.s 2)), .q (.of 11) (.mv (.s 1)), .q (.of 9) (.mv (.s 0))]
noncomputable def F120.t9 : IR := .reg [.s (.mv (.t (.of 9))), .q (.of 14) (.bin .neq .int (.s 0) (.c (I 0)))]
noncomputable def F120.t10 : IR := .dreg [] [(.s (.loadN 2 (.t (.of 6))), 0, []), (.s (.mv (.t (.of 9))), 1, []), (.q (.of 3) (.mv (.c .nilm)), 0, []), (.w .none none (.store 2 (.t (.of 4)) (.s 1)), 0, []), (.q (.of 5) (.mv (.s 0)), 0, [])]
noncomputable def F120.t11 : IR := .seq F120.t10 .ret
noncomputable def F120.t12 : IR := .cond (.t (.of 14)) F120.t11 .skip
noncomputable def F120.t13 : IR := .seq F120.t9 F120.t12
noncomputable def F120.t14 : IR := .reg [.s (.mv (.t (.of 10))), .w (.loc (.of 15)) none (.range (.s 0))]
noncomputable def F120.t15 : IR := .reg [.w .push none (.next (.t (.of 15))), .q (.of 16) (.ext 0 (.s 0))]
noncomputable def F120.t16 : IR := .cond (.t (.of 16)) .skip (.exit 0)
noncomputable def F120.t17 : IR := .reg [.s (.entry (.t (.of 15))), .s (.ext 1 (.s 0)), .w (.loc (.of 12)) none (.alloc [.nils, (.bool false)]), .w .none none (.store 2 (.t (.of 12)) (.s 0))]
noncomputable def F120.t18 : IR := .reg [.s (.mv (.t (.of 7))), .s (.loadN 2 (.t (.of 12))), .w .push none (.call (.c (.fn 121 (.of 121) [])) [(.s 1), (.s 0)]), .q (.of 17) (.not (.s 0))]
noncomputable def F120.t19 : IR := .dreg [] [(.s (.loadN 2 (.t (.of 6))), 0, []), (.q (.of 3) (.mv (.c .nilm)), 0, []), (.w .none none (.store 2 (.t (.of 4)) (.s 0)), 0, []), (.q (.of 5) (.mv (.c (I 28))), 0, [])]
noncomputable def F120.t20 : IR := .seq F120.t19 .ret
noncomputable def F120.t21 : IR := .cond (.t (.of 17)) F120.t20 .skip
noncomputable def F120.t22 : IR := .seq F120.t18 F120.t21
noncomputable def F120.t23 : IR := .seq F120.t17 F120.t22
noncomputable def F120.t24 : IR := .block 1 F120.t23
noncomputable def F120.t25 : IR := .seq F120.t16 F120.t24
noncomputable def F120.t26 : IR := .seq F120.t15 F120.t25
noncomputable def F120.t27 : IR := .loop F120.t26
noncomputable def F120.t28 : IR := .block 0 F120.t27
noncomputable def F120.t29 : IR := .seq F120.t14 F120.t28
noncomputable def F120.t30 : IR := .reg [.s (.mv (.t (.of 8))), .s (.mv (.t (.of 11))), .s (.aaddr 1 2 (.t (.of 6)) (.c (I 0))), .w .none none (.store 1 (.s 0) (.s 2)), .s (.aaddr 1 2 (.t (.of 6)) (.c (I 1))), .w .none none (.store 1 (.s 0) (.s 2))]
noncomputable def F120.t31 : IR := .dreg [] [(.s (.mv (.t (.of 10))), 0, []), (.s (.loadN 2 (.t (.of 6))), 0, []), (.q (.of 3) (.mv (.s 1)), 0, []), (.w .none none (.store 2 (.t (.of 4)) (.s 0)), 0, []), (.q (.of 5) (.mv (.c (I 0))), 0, [])]
noncomputable def F120.t32 : IR := .seq F120.t31 .ret
noncomputable def F120.t33 : IR := .seq F120.t30 F120.t32
noncomputable def F120.t34 : IR := .seq F120.t29 F120.t33
noncomputable def F120.t35 : IR := .seq F120.t13 F120.t34
noncomputable def F120.t36 : IR := .seq F120.t8 F120.t35
noncomputable def F120.t37 : IR := .seq F120.t7 F120.t36
noncomputable def F120.t38 : IR := .seq F120.t2 F120.t37
noncomputable def F120.t39 : IR := .seq F120.t1 F120.t38
noncomputable def F120.t40 : IR := .seq F120.t0 F120.t39
theorem F120.t0_s : IR.run F120.t0 C N O K (F120.fr a c e g f i l s v w b d u o p q y z) h nx =
 yK [.nils, .nils] h nx fun v1 h2 n3 => K (F120.fr a c e .nilm v1 (I 0) l s v w b d u o p q y z) h2 n3 := by kernel_rfl
theorem F120.t1_s : IR.run F120.t1 C N O K (F120.fr a c e g f i l s v w b d u o p q y z) h nx =
 yK [.nils, .nils] h nx fun v1 h2 n3 => K (F120.fr a c e g f i v1 s v w b d u o p q y z) h2 n3 := by kernel_rfl
theorem F120.t2_s : IR.run F120.t2 C N O K (F120.fr a c e g f i l s v w b d u o p q y z) h nx =
 C.fn 92 (.of 92) [a, e] h nx fun v1 h2 n3 => sExt 0 v1 fun v4 => sExt 1 v1 fun v5 => sExt 2 v1 fun v6 => K (F120.fr a c e g f i l v4 v5 v6 b d u o p q y z) h2 n3 := by kernel_rfl
theorem F120.t3_s : IR.run F120.t3 C N O K (F120.fr a c e g f i l s v w b d u o p q y z) h nx =
 sBin .neq .int w (I 0) fun v1 => K (F120.fr a c e g f i l s v w b d u v1 p q y z) h nx := by kernel_rfl
theorem F120.t4_s : IR.run F120.t4 C N O K (F120.fr a c e g f i l s v w b d u o p q y z) h nx =
 zK 2 l h fun v1 => zL 2 f v1 h nx fun v2 h3 n4 => zN w w (K (F120.fr a c e .nilm f w l s v w b d u o p q y z) h3 n4) := by kernel_rfl
theorem F120.v13 : Arg.ev (.t (.of 13)) ⟨(F120.fr a c e g f i l s v w b d u o p q y z), []⟩ = o := by kernel_rfl
theorem F120.t8_s : IR.run F120.t8 C N O K (F120.fr a c e g f i l s v w b d u o p q y z) h nx =
 C.fn 92 (.of 92) [c, e] h nx fun v1 h2 n3 => sExt 0 v1 fun v4 => sExt 1 v1 fun v5 => sExt 2 v1 fun v6 => K (F120.fr a c e g f i l s v v6 v4 v5 u o p q y z) h2 n3 := by kernel_rfl
theorem F120.t9_s : IR.run F120.t9 C N O K (F120.fr a c e g f i l s v w b d u o p q y z) h nx =
 sBin .neq .int w (I 0) fun v1 => K (F120.fr a c e g f i l s v w b d u o v1 q y z) h nx := by kernel_rfl
theorem F120.t10_s : IR.run F120.t10 C N O K (F120.fr a c e g f i l s v w b d u o p q y z) h nx =
 zK 2 l h fun v1 => zL 2 f v1 h nx fun v2 h3 n4 => zN w w (K (F120.fr a c e .nilm f w l s v w b d u o p q y z) h3 n4) := by kernel_rfl
theorem F120.v14 : Arg.ev (.t (.of 14)) ⟨(F120.fr a c e g f i l s v w b d u o p q y z), []⟩ = p := by kernel_rfl
theorem F120.t14_s : IR.run F120.t14 C N O K (F120.fr a c e g f i l s v w b d u o p q y z) h nx =
 sRange b h nx fun v1 h2 n3 => K (F120.fr a c e g f i l s v w b d u o p v1 y z) h2 n3 := by kernel_rfl
theorem F120.t15_s : IR.run F120.t15 C N O K (F120.fr a c e g f i l s v w b d u o p q y z) h nx =
 sNext C q h nx fun v1 h2 n3 => sExt 0 v1 fun v4 => K (F120.fr a c e g f i l s v w b d u o p q v4 z) h2 n3 := by kernel_rfl
theorem F120.v16 : Arg.ev (.t (.of 16)) ⟨(F120.fr a c e g f i l s v w b d u o p q y z), []⟩ = y := by kernel_rfl
theorem F120.t17_s : IR.run F120.t17 C N O K (F120.fr a c e g f i l s v w b d u o p q y z) h nx =
 sEntry q h fun v1 => sExt 1 v1 fun v2 => yK [.nils, (.bool false)] h nx fun v3 h4 n5 => zL 2 v3 v2 h4 n5 fun v6 h7 n8 => K (F120.fr a c e g f i l s v w b d v3 o p q y z) h7 n8 := by kernel_rfl
theorem F120.t18_s : IR.run F120.t18 C N O K (F120.fr a c e g f i l s v w b d u o p q y z) h nx =
 zK 2 u h fun v1 => C.fn 121 (.of 121) [s, v1] h nx fun v2 h3 n4 => sNot v2 fun v5 => K (F120.fr a c e g f i l s v w b d u o p q y v5) h3 n4 := by kernel_rfl
theorem F120.t19_s : IR.run F120.t19 C N O K (F120.fr a c e g f i l s v w b d u o p q y z) h nx =
 zK 2 l h fun v1 => zL 2 f v1 h nx fun v2 h3 n4 => K (F120.fr a c e .nilm f (I 28) l s v w b d u o p q y z) h3 n4 := by kernel_rfl
theorem F120.v17 : Arg.ev (.t (.of 17)) ⟨(F120.fr a c e g f i l s v w b d u o p q y z), []⟩ = z := by kernel_rfl
theorem F120.t27_L (Inv : Nat → T Blk → Pa → Prop) {m : Nat} (hm : m < N) (hi : Inv m h nx)
  (step : ∀ (m : Nat) (z3 z5 zB zG zH : AV) (h : T Blk) (nx : Pa) (R : Ks Prop), Inv m h nx → (∀ (m' : Nat) (w3 w5 wB wF wG : AV) (h' : T Blk) (nx' : Pa), m' < m → Inv m' h' nx' → R (F120.fr a c e w3 f w5 l s v w b d wB o p q wF wG) h' nx' = .ok True) → IR.run F120.t26 C N O R (F120.fr a c e z3 f z5 l s v w b d zB o p q zG zH) h nx = .ok True) :
  IR.run F120.t27 C N O K (F120.fr a c e g f i l s v w b d u o p q y z) h nx = .ok True := by
 rw [F120.t27]
 refine yL (fun m tm h nx => ∃ z3 z5 zB zG zH, tm = (F120.fr a c e z3 f z5 l s v w b d zB o p q zG zH) ∧ Inv m h nx) ?_ hm ⟨_, _, _, _, _, rfl, hi⟩
 rintro m tm h nx R ⟨z3, z5, zB, zG, zH, rfl, hi⟩ hR
 exact step m z3 z5 zB zG zH h nx R hi fun m' w3 w5 wB wF wG h' nx' hlt hi' => hR m' _ h' nx' hlt ⟨_, _, _, _, _, rfl, hi'⟩
theorem F120.t30_s : IR.run F120.t30 C N O K (F120.fr a c e g f i l s v w b d u o p q y z) h nx =
 vV 1 2 l (I 0) fun v1 => zL 1 v1 v h nx fun v2 h3 n4 => vV 1 2 l (I 1) fun v5 => zL 1 v5 d h3 n4 fun v6 h7 n8 => K (F120.fr a c e g f i l s v w b d u o p q y z) h7 n8 := by kernel_rfl
theorem F120.t31_s : IR.run F120.t31 C N O K (F120.fr a c e g f i l s v w b d u o p q y z) h nx =
 zK 2 l h fun v1 => zL 2 f v1 h nx fun v2 h3 n4 => K (F120.fr a c e b f (I 0) l s v w b d u o p q y z) h3 n4 := by kernel_rfl
theorem F120.tab : T.get none (.of 120) tbl = some F120 := by kernel_rfl
theorem F120.bind (k : T AV → OP) : yE F120.params [a0, a1, a2] F120.init k = k (F120.fr a0 a1 a2 .undef .undef .undef .undef .undef .undef .undef .undef .undef .undef .undef .undef .undef .undef .undef) := by kernel_rfl
theorem F120.body_eq : F120.body = F120.t40 := by kernel_rfl
theorem F120.go : zV tbl N C (.of 120) [a0, a1, a2] h nx K0 = IR.run F120.t40 C N (fnO F120.res K0) (retK F120.res K0) (F120.fr a0 a1 a2 .undef .undef .undef .undef .undef .undef .undef .undef .undef .undef .undef .undef .undef .undef .undef) h nx := by
 rw [zI F120.tab, F120.bind, F120.body_eq]; kernel_rfl
theorem F120.ret : retK F120.res K0 (F120.fr a c e g f i l s v w b d u o p q y z) h nx = zK 2 f h fun v1 => K0 (.tup [g, v1, i]) h nx := by kernel_rfl
noncomputable def F27.t0 : IR := .reg [.q (.of 2) (.mv (.c .nils)), .q (.of 3) (.mv (.c (I 0)))]
noncomputable def F27.t1 : IR := .reg [.s (.mv (.t (.of 1))), .w .push none (.call (.c (.fn 95 (.of 95) [])) [(.s 0)]), .s (.mv (.t (.of 0))), .s (.len (.s 0)), .s (.bin .gtr .int (.s 0) (.c (I 256))), .w .push none (.call (.c (.fn 96 (.of 96) [])) [(.s 0), (.c (I 5))]), .w .push none (.bslice 1 2 [(I 0)] [(0, 1, (.s 4)), (1, 1, (.s 0))]), .w .push none (.call (.c (.fn 94 (.of 94) [])) [(.s 0)]), .q (.of 4) (.mv (.s 0))]
noncomputable def F27.t2 : IR := .reg [.s (.mv (.t (.of 4))), .q (.of 8) (.bin .neq .int (.s 0) (.c (I 0)))]
noncomputable def F27.t3 : IR := .reg [.s (.mv (.t (.of 4))), .q (.of 2) (.mv (.c .nils)), .q (.of 3) (.mv (.s 0))]
noncomputable def F27.t4 : IR := .seq F27.t3 .ret
noncomputable def F27.t5 : IR := .cond (.t (.of 8)) F27.t4 .skip
noncomputable def F27.t6 : IR := .seq F27.t2 F27.t5
noncomputable def F27.t7 : IR := .seq F27.t1 F27.t6
noncomputable def F27.t8 : IR := .reg [.s (.mv (.t (.of 0))), .s (.mv (.t (.of 1))), .w .push none (.call (.c (.fn 97 (.of 97) [])) [(.s 1), (.s 0)]), .q (.of 5) (.mv (.s 0))]
noncomputable def F27.t9 : IR := .reg [.s (.mv (.t (.of 5))), .q (.of 9) (.bin .neq .int (.s 0) (.c (I 0)))]
noncomputable def F27.t10 : IR := .reg [.s (.mv (.t (.of 5))), .q (.of 2) (.mv (.c .nils)), .q (.of 3) (.mv (.s 0))]
noncomputable def F27.t11 : IR := .seq F27.t10 .ret
noncomputable def F27.t12 : IR := .cond (.t (.of 9)) F27.t11 .skip
noncomputable def F27.t13 : IR := .seq F27.t9 F27.t12
noncomputable def F27.t14 : IR := .seq F27.t8 F27.t13
noncomputable def F27.t15 : IR := .reg [.s (.mv (.t (.of 0))), .s (.mv (.t (.of 1))), .w .push none (.call (.c (.fn 98 (.of 98) [])) [(.s 1), (.s 0), (.c (I 1536))]), .s (.mv (.s 0)), .s (.ext 0 (.s 0)), .s (.ext 1 (.s 1)), .s (.ext 2 (.s 2)), .q (.of 6) (.mv (.s 2)), .s (.mv (.s 1)), .q (.of 7) (.mv (.s 1))]
noncomputable def F27.t16 : IR := .reg [.s (.mv (.t (.of 7))), .q (.of 10) (.not (.s 0))]
noncomputable def F27.t17 : IR := .reg [.q (.of 2) (.mv (.c .nils)), .q (.of 3) (.mv (.c (I 20)))]
noncomputable def F27.t18 : IR := .seq F27.t17 .ret
noncomputable def F27.t19 : IR := .cond (.t (.of 10)) F27.t18 .skip
noncomputable def F27.t20 : IR := .seq F27.t16 F27.t19
noncomputable def F27.t21 : IR := .reg [.s (.mv (.t (.of 6))), .w .push none (.call (.c (.fn 99 (.of 99) [])) [(.s 0)]), .q (.of 2) (.mv (.s 0)), .q (.of 3) (.mv (.c (I 0)))]
noncomputable def F27.t22 : IR := .seq F27.t21 .ret
noncomputable def F27.t23 : IR := .seq F27.t20 F27.t22
noncomputable def F27.t24 : IR := .seq F27.t15 F27.t23
noncomputable def F27.t25 : IR := .seq F27.t14 F27.t24
noncomputable def F27.t26 : IR := .seq F27.t7 F27.t25
noncomputable def F27.t27 : IR := .seq F27.t0 F27.t26
theorem F27.t0_s : IR.run F27.t0 C N O K (F27.fr a c e g f i l s v w b) h nx =
 K (F27.fr a c .nils (I 0) f i l s v w b) h nx := by kernel_rfl
theorem F27.t1_s : IR.run F27.t1 C N O K (F27.fr a c e g f i l s v w b) h nx =
 C.fn 95 (.of 95) [c] h nx fun v1 h2 n3 => sLen a fun v4 => sBin .gtr .int v4 (I 256) fun v5 => C.fn 96 (.of 96) [v5, (I 5)] h2 n3 fun v6 h7 n8 => jD 1 2 [(I 0)] [(0, 1, v1), (1, 1, v6)] h7 n8 fun v9 hV nV => C.fn 94 (.of 94) [v9] hV nV fun vC h13 n14 => K (F27.fr a c e g vC i l s v w b) h13 n14 := by kernel_rfl
theorem F27.t2_s : IR.run F27.t2 C N O K (F27.fr a c e g f i l s v w b) h nx =
 sBin .neq .int f (I 0) fun v1 => K (F27.fr a c e g f i l s v1 w b) h nx := by kernel_rfl
theorem F27.t3_s : IR.run F27.t3 C N O K (F27.fr a c e g f i l s v w b) h nx =
 K (F27.fr a c .nils f f i l s v w b) h nx := by kernel_rfl
theorem F27.v8 : Arg.ev (.t (.of 8)) ⟨(F27.fr a c e g f i l s v w b), []⟩ = v := by kernel_rfl
theorem F27.t8_s : IR.run F27.t8 C N O K (F27.fr a c e g f i l s v w b) h nx =
 C.fn 97 (.of 97) [a, c] h nx fun v1 h2 n3 => K (F27.fr a c e g f v1 l s v w b) h2 n3 := by kernel_rfl
theorem F27.t9_s : IR.run F27.t9 C N O K (F27.fr a c e g f i l s v w b) h nx =
 sBin .neq .int i (I 0) fun v1 => K (F27.fr a c e g f i l s v v1 b) h nx := by kernel_rfl
theorem F27.t10_s : IR.run F27.t10 C N O K (F27.fr a c e g f i l s v w b) h nx =
 K (F27.fr a c .nils i f i l s v w b) h nx := by kernel_rfl
theorem F27.v9 : Arg.ev (.t (.of 9)) ⟨(F27.fr a c e g f i l s v w b), []⟩ = w := by kernel_rfl
theorem F27.t15_s : IR.run F27.t15 C N O K (F27.fr a c e g f i l s v w b) h nx =
 C.fn 98 (.of 98) [a, c, (I 1536)] h nx fun v1 h2 n3 => sExt 0 v1 fun v4 => sExt 1 v1 fun v5 => sExt 2 v1 fun v6 => K (F27.fr a c e g f i v4 v6 v w b) h2 n3 := by kernel_rfl
theorem F27.t16_s : IR.run F27.t16 C N O K (F27.fr a c e g f i l s v w b) h nx =
 sNot s fun v1 => K (F27.fr a c e g f i l s v w v1) h nx := by kernel_rfl
theorem F27.t17_s : IR.run F27.t17 C N O K (F27.fr a c e g f i l s v w b) h nx =
 K (F27.fr a c .nils (I 20) f i l s v w b) h nx := by kernel_rfl
theorem F27.v10 : Arg.ev (.t (.of 10)) ⟨(F27.fr a c e g f i l s v w b), []⟩ = b := by kernel_rfl
theorem F27.t21_s : IR.run F27.t21 C N O K (F27.fr a c e g f i l s v w b) h nx =
 C.fn 99 (.of 99) [l] h nx fun v1 h2 n3 => K (F27.fr a c v1 (I 0) f i l s v w b) h2 n3 := by kernel_rfl
theorem F27.tab : T.get none (.of 27) tbl = some F27 := by kernel_rfl
theorem F27.bind (k : T AV → OP) : yE F27.params [a0, a1] F27.init k = k (F27.fr a0 a1 .undef .undef .undef .undef .undef .undef .undef .undef .undef) := by kernel_rfl
theorem F27.body_eq : F27.body = F27.t27 := by kernel_rfl
theorem F27.go : zV tbl N C (.of 27) [a0, a1] h nx K0 = IR.run F27.t27 C N (fnO F27.res K0) (retK F27.res K0) (F27.fr a0 a1 .undef .undef .undef .undef .undef .undef .undef .undef .undef) h nx := by
 rw [zI F27.tab, F27.bind, F27.body_eq]; kernel_rfl
theorem F27.ret : retK F27.res K0 (F27.fr a c e g f i l s v w b) h nx = K0 (.tup [e, g]) h nx := by kernel_rfl
end
end Go.Ev
namespace Go.Ev
open Go Go.Proofs
set_option maxRecDepth 100000
variable {N : Nat} {C : Calls Prop} {K0 : Kw Prop} {K R : Ks Prop} {h : T Blk} {nx : Pa} {a c e g f i l s v w b d a0 : AV}
theorem F99.g1_eq (X2 : IR) (O : Outs Prop) (t : T AV) : IR.run (F99.g1 X2) C N O K t h nx = IR.run X2 C N (O.blk 0 K) K t h nx := by kernel_rfl
theorem F99.g7_eq (X8 : IR) (O : Outs Prop) (t : T AV) : IR.run (F99.g7 X8) C N O K t h nx = IR.run X8 C N (O.blk 2 K) K t h nx := by kernel_rfl
theorem F99.tab : T.get none (.of 99) tbl = some F99 := by kernel_rfl
theorem F99.go : zV tbl N C (.of 99) [a0] h nx K0 =
 sRange a0 h nx fun v1 h2 n3 => IR.run F99.b1 C N (fnO F99.res K0) (IR.run F99.b6 C N (fnO F99.res K0) (retK F99.res K0)) (F99.fr a0 .nils .nils .undef .undef .undef v1 .undef .undef .undef .undef .undef) h2 n3 := by
 rw [zI F99.tab]; kernel_rfl
theorem F99.L1 (Inv : Nat → AV → T Blk → Pa → Prop) {m : Nat} (hm : m < N) (hi : Inv m e h nx)
  (step : ∀ (m : Nat) (z2 z3 z7 : AV) (h : T Blk) (nx : Pa) (R : Ks Prop), Inv m z2 h nx → (∀ (m' : Nat) (w2 w3 w7 : AV) (h' : T Blk) (nx' : Pa), m' < m → Inv m' w2 h' nx' → R (F99.fr a c w2 w3 f i l w7 v w b d) h' nx' = .ok True) →
   (sNext C l h nx fun v1 h2 n3 => sExt 0 v1 fun v4 => zX v4 (sEntry l h2 fun v5 => sExt 1 v5 fun v6 => yK [.nils, (.bool false)] h2 n3 fun v7 h8 n9 => zL 2 v7 v6 h8 n9 fun vA hH nH => zK 2 v7 hH fun vD => jD 2 1 [.nils, (.bool false)] [(0, 2, vD)] hH nH fun vE hA nA => vG C 2 32 z2 vE hA nA fun vI h18 n19 => R (F99.fr a c vI v7 f i l v4 v w b d) h18 n19) (K (F99.fr a c z2 z3 f i l v4 v w b d) h2 n3)) = .ok True) :
  IR.run F99.b1 C N (fnO F99.res K0) K (F99.fr a c e g f i l s v w b d) h nx = .ok True := by
 rw [F99.b1, F99.g1_eq, F99.b2]
 refine yL (fun m tm h nx => ∃ z2 z3 z7, tm = (F99.fr a c z2 z3 f i l z7 v w b d) ∧ Inv m z2 h nx) ?_ hm ⟨_, _, _, rfl, hi⟩
 rintro m tm h nx R ⟨z2, z3, z7, rfl, hi⟩ hR
 refine Eq.trans ?_ (step m z2 z3 z7 h nx R hi fun m' w2 w3 w7 h' nx' hlt hi' => hR m' _ h' nx' hlt ⟨_, _, _, rfl, hi'⟩)
 kernel_rfl
theorem F99.k6 : IR.run F99.b6 C N (fnO F99.res K0) K (F99.fr a c e g f i l s v w b d) h nx =
 C.fn 164 (.of 164) [e, (.fn 162 (.of 162) [])] h nx fun v1 h2 n3 => sLen e fun v4 => IR.run F99.b7 C N (fnO F99.res K0) (IR.run F99.b14 C N (fnO F99.res K0) K) (F99.fr a c e g .nils i l s e v4 (I 0) d) h2 n3 := by kernel_rfl
theorem F99.L7 (Inv : Nat → AV → AV → T Blk → Pa → Prop) {m : Nat} (hm : m < N) (hi : Inv m f b h nx)
  (step : ∀ (m : Nat) (z4 z5 zJ zA : AV) (h : T Blk) (nx : Pa) (R : Ks Prop), Inv m z4 zJ h nx → (∀ (m' : Nat) (w4 w5 wH wA : AV) (h' : T Blk) (nx' : Pa), m' < m → Inv m' w4 wH h' nx' → R (F99.fr a c e g w4 w5 l s v w wH wA) h' nx' = .ok True) →
   (sBin .lss .int zJ w fun v1 => zX v1 (zR 2 v zJ fun v2 => zK 2 v2 h fun v3 => yK [.nils, (.bool false)] h nx fun v4 h5 n6 => zL 2 v4 v3 h5 n6 fun v7 h8 n9 => zK 2 v4 h8 fun vA => jD 2 1 [.nils, (.bool false)] [(0, 2, vA)] h8 n9 fun vB hD nD => vG C 2 32 z4 vB hD nD fun vE hA nA => sBin .add .int zJ (I 1) fun vI => R (F99.fr a c e g vE v4 l s v w vI v1) hA nA) (K (F99.fr a c e g z4 z5 l s v w zJ v1) h nx)) = .ok True) :
  IR.run F99.b7 C N (fnO F99.res K0) K (F99.fr a c e g f i l s v w b d) h nx = .ok True := by
 rw [F99.b7, F99.g7_eq, F99.b8]
 refine yL (fun m tm h nx => ∃ z4 z5 zJ zA, tm = (F99.fr a c e g z4 z5 l s v w zJ zA) ∧ Inv m z4 zJ h nx) ?_ hm ⟨_, _, _, _, rfl, hi⟩
 rintro m tm h nx R ⟨z4, z5, zJ, zA, rfl, hi⟩ hR
 refine Eq.trans ?_ (step m z4 z5 zJ zA h nx R hi fun m' w4 w5 wH wA h' nx' hlt hi' => hR m' _ h' nx' hlt ⟨_, _, _, _, rfl, hi'⟩)
 kernel_rfl
theorem F99.k14 : IR.run F99.b14 C N (fnO F99.res K0) K (F99.fr a c e g f i l s v w b d) h nx =
 K0 f h nx := by kernel_rfl
end Go.Ev
namespace Go.Ev
open Go Go.Proofs
set_option maxRecDepth 100000
section
variable {N : Nat} {C : Calls Prop} {K0 : Kw Prop} {K : Ks Prop} {h : T Blk} {nx : Pa} {a c e g f i l s v w b d u o p q y z B A a0 a1 a2 : AV} {O : Outs Prop} {tm : T AV} {Kt : KTm} {r : List RO} {s0 s1 s2 s3 s4 s5 s6 s7 s8 s9 s10 s11 s12 s13 s14 s15 s16 s17 s18 s19 s20 s21 s22 s23 s24 s25 s26 s27 s28 s29 s30 s31 s32 s33 s34 s35 s36 s37 s38 s39 : AV}
noncomputable def F39.t0 : IR := .reg [.w (.loc (.of 3)) none (.box (.t (.of 1))), .q (.of 4) (.mv (.c .nils)), .q (.of 5) (.mv (.c (I 0)))]
noncomputable def F39.t1 : IR := .reg [.s (.mv (.t (.of 0))), .s (.load (.t (.of 3))), .s (.mv (.t (.of 2))), .w .push none (.call (.c (.fn 120 (.of 120) [])) [(.s 2), (.s 1), (.s 0)]), .s (.mv (.s 0)), .s (.ext 0 (.s 0)), .s (.ext 1 (.s 1)), .s (.ext 2 (.s 2)), .w .push none (.alloc [.nils, .nils]), .s (.mv (.s 3)), .w .none none (.store 2 (.s 1) (.s 3)), .q (.of 6) (.mv (.s 2))]
noncomputable def F39.t2 : IR := .reg [.s (.mv (.t (.of 6))), .q (.of 12) (.bin .neq .int (.s 0) (.c (I 0)))]
noncomputable def F39.t3 : IR := .reg [.s (.mv (.t (.of 6))), .q (.of 4) (.mv (.c .nils)), .q (.of 5) (.mv (.s 0))]
noncomputable def F39.t4 : IR := .seq F39.t3 .ret
noncomputable def F39.t5 : IR := .cond (.t (.of 12)) F39.t4 .skip
noncomputable def F39.t6 : IR := .seq F39.t2 F39.t5
noncomputable def F39.t7 : IR := .seq F39.t1 F39.t6
noncomputable def F39.t8 : IR := .reg [.w .push none .mkmap, .w (.loc (.of 7)) none (.alloc [.nilm]), .w .none none (.store 1 (.t (.of 7)) (.s 0))]
noncomputable def F39.t9 : IR := .reg [.w (.loc (.of 8)) none (.alloc [.nils])]
noncomputable def F39.t10 : IR := .reg [.s (.mv (.t (.of 0))), .w (.loc (.of 13)) none (.call (.c (.fn 90 (.of 90) [])) [(.s 0)])]
noncomputable def F39.t11 : IR := .reg [.w (.loc (.of 9)) none (.alloc [.nils, (.bool false)]), .w .none none (.store 2 (.t (.of 9)) (.t (.of 15)))]
noncomputable def F39.t12 : IR := .reg [.s (.load (.t (.of 7))), .s (.loadN 2 (.t (.of 9))), .w (.loc (.of 16)) none (.call (.c (.fn 121 (.of 121) [])) [(.s 1), (.s 0)])]
noncomputable def F39.t13 : IR := .cond (.t (.of 16)) (.exit 1) .skip
noncomputable def F39.t14 : IR := .seq F39.t12 F39.t13
noncomputable def F39.t15 : IR := .reg [.s (.load (.t (.of 3))), .w (.loc (.of 17)) none (.call (.c (.fn 90 (.of 90) [])) [(.s 0)])]
noncomputable def F39.t16 : IR := .reg [.w (.loc (.of 10)) none (.alloc [.nils, (.bool false)]), .w .none none (.store 2 (.t (.of 10)) (.t (.of 19)))]
noncomputable def F39.t17 : IR := .reg [.s (.loadN 2 (.t (.of 9))), .s (.loadN 2 (.t (.of 10))), .w .push none (.call (.c (.fn 122 (.of 122) [])) [(.s 1), (.s 0)]), .w (.loc (.of 11)) none (.alloc [.nils, (.bool false)]), .w .none none (.store 2 (.t (.of 11)) (.s 0))]
noncomputable def F39.t18 : IR := .dreg [] [(.s (.load (.t (.of 7))), 1, []), (.s (.loadN 2 (.t (.of 11))), 0, []), (.s (.loadN 2 (.t (.of 11))), 1, []), (.w .push none (.call (.c (.fn 123 (.of 123) [])) [(.s 1)]), 0, []), (.w .none none (.mapup .str (.s 3) (.s 0) (.s 1)), 0, [])]
noncomputable def F39.t19 : IR := .seq F39.t17 F39.t18
noncomputable def F39.t20 : IR := .block 3 F39.t19
noncomputable def F39.t21 : IR := .rf (.t (.of 17)) [(.of 18), (.of 19)] F39.t16 F39.t20
noncomputable def F39.t22 : IR := .block 2 F39.t21
noncomputable def F39.t23 : IR := .seq F39.t15 F39.t22
noncomputable def F39.t24 : IR := .dreg [] [(.s (.load (.t (.of 8))), 2, []), (.s (.faddr 0 (.t (.of 9))), 0, []), (.s (.load (.s 0)), 0, []), (.s (.faddr 1 (.t (.of 9))), 1, []), (.s (.load (.s 0)), 1, []), (.w .push none (.call (.c (.fn 106 (.of 106) [])) [(.s 2)]), 0, []), (.s (.build [.nils, (.bool false)] [(0, 1, (.s 0)), (1, 1, (.s 1))]), 0, []), (.w .push none (.bslice 2 1 [.nils, (.bool false)] [(0, 2, (.s 0))]), 0, []), (.w .push none (.appq 2 32 (.s 7) (.s 0)), 0, []), (.w .none none (.store 1 (.t (.of 8)) (.s 0)), 0, [])]
noncomputable def F39.t25 : IR := .seq F39.t23 F39.t24
noncomputable def F39.t26 : IR := .seq F39.t14 F39.t25
noncomputable def F39.t27 : IR := .block 1 F39.t26
noncomputable def F39.t28 : IR := .rf (.t (.of 13)) [(.of 14), (.of 15)] F39.t11 F39.t27
noncomputable def F39.t29 : IR := .block 0 F39.t28
noncomputable def F39.t30 : IR := .seq F39.t10 F39.t29
noncomputable def F39.t31 : IR := .reg [.s (.load (.t (.of 8))), .q (.of 4) (.mv (.s 0)), .q (.of 5) (.mv (.c (I 0)))]
noncomputable def F39.t32 : IR := .seq F39.t31 .ret
noncomputable def F39.t33 : IR := .seq F39.t30 F39.t32
noncomputable def F39.t34 : IR := .seq F39.t9 F39.t33
noncomputable def F39.t35 : IR := .seq F39.t8 F39.t34
noncomputable def F39.t36 : IR := .seq F39.t7 F39.t35
noncomputable def F39.t37 : IR := .seq F39.t0 F39.t36
theorem F39.t0_s : IR.run F39.t0 C N O K (F39.fr a c e g f i l s v w b d u o p q y z B A) h nx =
 sBox c h nx fun v1 h2 n3 => K (F39.fr a c e v1 .nils (I 0) l s v w b d u o p q y z B A) h2 n3 := by kernel_rfl
theorem F39.t1_s : IR.run F39.t1 C N O K (F39.fr a c e g f i l s v w b d u o p q y z B A) h nx =
 zF g h fun v1 => C.fn 120 (.of 120) [a, v1, e] h nx fun v2 h3 n4 => sExt 0 v2 fun v5 => sExt 1 v2 fun v6 => sExt 2 v2 fun v7 => yK [.nils, .nils] h3 n4 fun v8 h9 nI => zL 2 v8 v6 h9 nI fun vB hD nD => K (F39.fr a c e g f i v7 s v w b d u o p q y z B A) hD nD := by kernel_rfl
theorem F39.t2_s : IR.run F39.t2 C N O K (F39.fr a c e g f i l s v w b d u o p q y z B A) h nx =
 sBin .neq .int l (I 0) fun v1 => K (F39.fr a c e g f i l s v w b d v1 o p q y z B A) h nx := by kernel_rfl
theorem F39.v12 : Arg.ev (.t (.of 12)) ⟨(F39.fr a c e g f i l s v w b d u o p q y z B A), []⟩ = u := by kernel_rfl
theorem F39.t8_s : IR.run F39.t8 C N O K (F39.fr a c e g f i l s v w b d u o p q y z B A) h nx =
 sMkmap h nx fun v1 h2 n3 => yK [.nilm] h2 n3 fun v4 h5 n6 => zL 1 v4 v1 h5 n6 fun v7 h8 n9 => K (F39.fr a c e g f i l v4 v w b d u o p q y z B A) h8 n9 := by kernel_rfl
theorem F39.t9_s : IR.run F39.t9 C N O K (F39.fr a c e g f i l s v w b d u o p q y z B A) h nx =
 yK [.nils] h nx fun v1 h2 n3 => K (F39.fr a c e g f i l s v1 w b d u o p q y z B A) h2 n3 := by kernel_rfl
theorem F39.t10_s : IR.run F39.t10 C N O K (F39.fr a c e g f i l s v w b d u o p q y z B A) h nx =
 C.fn 90 (.of 90) [a] h nx fun v1 h2 n3 => K (F39.fr a c e g f i l s v w b d u v1 p q y z B A) h2 n3 := by kernel_rfl
theorem F39.t11_s : IR.run F39.t11 C N O K (F39.fr a c e g f i l s v w b d u o p q y z B A) h nx =
 yK [.nils, (.bool false)] h nx fun v1 h2 n3 => zL 2 v1 q h2 n3 fun v4 h5 n6 => K (F39.fr a c e g f i l s v v1 b d u o p q y z B A) h5 n6 := by kernel_rfl
theorem F39.t12_s : IR.run F39.t12 C N O K (F39.fr a c e g f i l s v w b d u o p q y z B A) h nx =
 zF s h fun v1 => zK 2 w h fun v2 => C.fn 121 (.of 121) [v1, v2] h nx fun v3 h4 n5 => K (F39.fr a c e g f i l s v w b d u o p q v3 z B A) h4 n5 := by kernel_rfl
theorem F39.v16 : Arg.ev (.t (.of 16)) ⟨(F39.fr a c e g f i l s v w b d u o p q y z B A), []⟩ = y := by kernel_rfl
theorem F39.t15_s : IR.run F39.t15 C N O K (F39.fr a c e g f i l s v w b d u o p q y z B A) h nx =
 zF g h fun v1 => C.fn 90 (.of 90) [v1] h nx fun v2 h3 n4 => K (F39.fr a c e g f i l s v w b d u o p q y v2 B A) h3 n4 := by kernel_rfl
theorem F39.t16_s : IR.run F39.t16 C N O K (F39.fr a c e g f i l s v w b d u o p q y z B A) h nx =
 yK [.nils, (.bool false)] h nx fun v1 h2 n3 => zL 2 v1 A h2 n3 fun v4 h5 n6 => K (F39.fr a c e g f i l s v w v1 d u o p q y z B A) h5 n6 := by kernel_rfl
theorem F39.t17_s : IR.run F39.t17 C N O K (F39.fr a c e g f i l s v w b d u o p q y z B A) h nx =
 zK 2 w h fun v1 => zK 2 b h fun v2 => C.fn 122 (.of 122) [v1, v2] h nx fun v3 h4 n5 => yK [.nils, (.bool false)] h4 n5 fun v6 h7 n8 => zL 2 v6 v3 h7 n8 fun v9 hV nV => K (F39.fr a c e g f i l s v w b v6 u o p q y z B A) hV nV := by kernel_rfl
theorem F39.t18_s : IR.run F39.t18 C N O K (F39.fr a c e g f i l s v w b d u o p q y z B A) h nx =
 zF s h fun v1 => zK 2 d h fun v2 => zK 2 d h fun v3 => C.fn 123 (.of 123) [v2] h nx fun v4 h5 n6 => (zK 2 d h5 fun vB => zN vB v3 ((zF s h5 fun vA => zN vA v1 (pK .str v1 v4 v3 h5 n6 fun v7 h8 n9 => K (F39.fr a c e g f i l s v w b d u o p q y z B A) h8 n9)))) := by kernel_rfl
theorem F39.t21_f : Arg.ev (.t (.of 17)) ⟨(F39.fr a c e g f i l s v w b d u o p q y z B A), []⟩ = z := by kernel_rfl
theorem F39.t21_b {z0 z1 : AV} (k : T AV → OP) : yE [(.of 18), (.of 19)] [z0, z1] (F39.fr a c e g f i l s v w b d u o p q y z B A) k = k (F39.fr a c e g f i l s v w b d u o p q y z z0 z1) := by kernel_rfl
theorem F39.t24_s : IR.run F39.t24 C N O K (F39.fr a c e g f i l s v w b d u o p q y z B A) h nx =
 zF v h fun v1 => zP 0 w fun v2 => zF v2 h fun v3 => zP 1 w fun v4 => zF v4 h fun v5 => C.fn 106 (.of 106) [v3] h nx fun v6 h7 n8 => (zF v4 h7 fun vN => zN vN v5 ((zP 1 w fun vM => zN vM v4 ((zF v h7 fun vL => zN vL v1 (uD [.nils, (.bool false)] [(0, 1, v6), (1, 1, v5)] fun v9 => jD 2 1 [.nils, (.bool false)] [(0, 2, v9)] h7 n8 fun vA hH nH => (zF v hH fun vK => zN vK v1 (vG C 2 32 v1 vA hH nH fun vD hI nJ => zL 1 v vD hI nJ fun vH hG nG => K (F39.fr a c e g f i l s v w b d u o p q y z B A) hG nG)))))))) := by kernel_rfl
theorem F39.t28_f : Arg.ev (.t (.of 13)) ⟨(F39.fr a c e g f i l s v w b d u o p q y z B A), []⟩ = o := by kernel_rfl
theorem F39.t28_b {z0 z1 : AV} (k : T AV → OP) : yE [(.of 14), (.of 15)] [z0, z1] (F39.fr a c e g f i l s v w b d u o p q y z B A) k = k (F39.fr a c e g f i l s v w b d u o z0 z1 y z B A) := by kernel_rfl
theorem F39.t31_s : IR.run F39.t31 C N O K (F39.fr a c e g f i l s v w b d u o p q y z B A) h nx =
 zF v h fun v1 => K (F39.fr a c e g v1 (I 0) l s v w b d u o p q y z B A) h nx := by kernel_rfl
theorem F39.tab : T.get none (.of 39) tbl = some F39 := by kernel_rfl
theorem F39.bind (k : T AV → OP) : yE F39.params [a0, a1, a2] F39.init k = k (F39.fr a0 a1 a2 .undef .undef .undef .undef .undef .undef .undef .undef .undef .undef .undef .undef .undef .undef .undef .undef .undef) := by kernel_rfl
theorem F39.body_eq : F39.body = F39.t37 := by kernel_rfl
theorem F39.go : zV tbl N C (.of 39) [a0, a1, a2] h nx K0 = IR.run F39.t37 C N (fnO F39.res K0) (retK F39.res K0) (F39.fr a0 a1 a2 .undef .undef .undef .undef .undef .undef .undef .undef .undef .undef .undef .undef .undef .undef .undef .undef .undef) h nx := by
 rw [zI F39.tab, F39.bind, F39.body_eq]; kernel_rfl
theorem F39.ret : retK F39.res K0 (F39.fr a c e g f i l s v w b d u o p q y z B A) h nx = K0 (.tup [f, i]) h nx := by kernel_rfl
noncomputable def F40.t0 : IR := .reg [.q (.of 3) (.mv (.c (.bool false))), .q (.of 4) (.mv (.c (I 0)))]
noncomputable def F40.t1 : IR := .reg [.s (.mv (.t (.of 0))), .s (.mv (.t (.of 1))), .s (.mv (.t (.of 2))), .w .push none (.call (.c (.fn 120 (.of 120) [])) [(.s 2), (.s 1), (.s 0)]), .s (.mv (.s 0)), .s (.ext 0 (.s 0)), .s (.ext 1 (.s 1)), .s (.ext 2 (.s 2)), .w (.loc (.of 6)) none (.alloc [.nils, .nils]), .q (.of 5) (.mv (.s 2)), .w .none none (.store 2 (.t (.of 6)) (.s 1)), .q (.of 7) (.mv (.s 0))]
noncomputable def F40.t2 : IR := .reg [.s (.mv (.t (.of 7))), .q (.of 10) (.bin .neq .int (.s 0) (.c (I 0)))]
noncomputable def F40.t3 : IR := .reg [.s (.mv (.t (.of 7))), .q (.of 3) (.mv (.c (.bool false))), .q (.of 4) (.mv (.s 0))]
noncomputable def F40.t4 : IR := .seq F40.t3 .ret
noncomputable def F40.t5 : IR := .cond (.t (.of 10)) F40.t4 .skip
noncomputable def F40.t6 : IR := .seq F40.t2 F40.t5
noncomputable def F40.t7 : IR := .reg [.s (.aaddr 1 2 (.t (.of 6)) (.c (I 0))), .q (.of 11) (.load (.s 0)), .q (.of 12) (.len (.t (.of 11))), .q (.of 13) (.mv (.c (I 0)))]
noncomputable def F40.t8 : IR := .reg [.q (.of 14) (.bin .lss .int (.t (.of 13)) (.t (.of 12)))]
noncomputable def F40.t9 : IR := .cond (.t (.of 14)) .skip (.exit 0)
noncomputable def F40.t10 : IR := .reg [.s (.iaddr 2 (.t (.of 11)) (.t (.of 13))), .s (.loadN 2 (.s 0)), .w (.loc (.of 8)) none (.alloc [.nils, (.bool false)]), .w .none none (.store 2 (.t (.of 8)) (.s 0))]
noncomputable def F40.t11 : IR := .reg [.s (.aaddr 1 2 (.t (.of 6)) (.c (I 1))), .q (.of 15) (.load (.s 0)), .q (.of 16) (.len (.t (.of 15))), .q (.of 17) (.mv (.c (I 0)))]
noncomputable def F40.t12 : IR := .reg [.q (.of 18) (.bin .lss .int (.t (.of 17)) (.t (.of 16)))]
noncomputable def F40.t13 : IR := .cond (.t (.of 18)) .skip (.exit 2)
noncomputable def F40.t14 : IR := .reg [.s (.iaddr 2 (.t (.of 15)) (.t (.of 17))), .s (.loadN 2 (.s 0)), .w (.loc (.of 9)) none (.alloc [.nils, (.bool false)]), .w .none none (.store 2 (.t (.of 9)) (.s 0))]
noncomputable def F40.t15 : IR := .dreg [] [(.s (.mv (.t (.of 5))), 3, []), (.s (.loadN 2 (.t (.of 8))), 0, []), (.s (.loadN 2 (.t (.of 9))), 0, []), (.s (.loadN 2 (.t (.of 8))), 1, []), (.w .push none (.call (.c (.fn 122 (.of 122) [])) [(.s 2), (.s 1)]), 0, []), (.w .push none (.call (.c (.fn 124 (.of 124) [])) [(.s 1)]), 0, []), (.w .push none (.call (.c (.fn 122 (.of 122) [])) [(.s 1), (.s 0)]), 0, []), (.w .push none (.call (.c (.fn 121 (.of 121) [])) [(.s 6), (.s 0)]), 0, []), (.q (.of 19) (.not (.s 0)), 0, [])]
noncomputable def F40.t16 : IR := .reg [.q (.of 3) (.mv (.c (.bool false))), .q (.of 4) (.mv (.c (I 0)))]
noncomputable def F40.t17 : IR := .seq F40.t16 .ret
noncomputable def F40.t18 : IR := .cond (.t (.of 19)) F40.t17 .skip
noncomputable def F40.t19 : IR := .seq F40.t15 F40.t18
noncomputable def F40.t20 : IR := .seq F40.t14 F40.t19
noncomputable def F40.t21 : IR := .block 3 F40.t20
noncomputable def F40.t22 : IR := .reg [.s (.bin .add .int (.t (.of 17)) (.c (I 1))), .q (.of 17) (.mv (.s 0))]
noncomputable def F40.t23 : IR := .seq F40.t21 F40.t22
noncomputable def F40.t24 : IR := .seq F40.t13 F40.t23
noncomputable def F40.t25 : IR := .seq F40.t12 F40.t24
noncomputable def F40.t26 : IR := .loop F40.t25
noncomputable def F40.t27 : IR := .block 2 F40.t26
noncomputable def F40.t28 : IR := .seq F40.t11 F40.t27
noncomputable def F40.t29 : IR := .seq F40.t10 F40.t28
noncomputable def F40.t30 : IR := .block 1 F40.t29
noncomputable def F40.t31 : IR := .reg [.s (.bin .add .int (.t (.of 13)) (.c (I 1))), .q (.of 13) (.mv (.s 0))]
noncomputable def F40.t32 : IR := .seq F40.t30 F40.t31
noncomputable def F40.t33 : IR := .seq F40.t9 F40.t32
noncomputable def F40.t34 : IR := .seq F40.t8 F40.t33
noncomputable def F40.t35 : IR := .loop F40.t34
noncomputable def F40.t36 : IR := .block 0 F40.t35
noncomputable def F40.t37 : IR := .seq F40.t7 F40.t36
noncomputable def F40.t38 : IR := .reg [.q (.of 3) (.mv (.c (.bool true))), .q (.of 4) (.mv (.c (I 0)))]
noncomputable def F40.t39 : IR := .seq F40.t38 .ret
noncomputable def F40.t40 : IR := .seq F40.t37 F40.t39
noncomputable def F40.t41 : IR := .seq F40.t6 F40.t40
noncomputable def F40.t42 : IR := .seq F40.t1 F40.t41
noncomputable def F40.t43 : IR := .seq F40.t0 F40.t42
theorem F40.t0_s : IR.run F40.t0 C N O K (F40.fr a c e g f i l s v w b d u o p q y z B A) h nx =
 K (F40.fr a c e (.bool false) (I 0) i l s v w b d u o p q y z B A) h nx := by kernel_rfl
theorem F40.t1_s : IR.run F40.t1 C N O K (F40.fr a c e g f i l s v w b d u o p q y z B A) h nx =
 C.fn 120 (.of 120) [a, c, e] h nx fun v1 h2 n3 => sExt 0 v1 fun v4 => sExt 1 v1 fun v5 => sExt 2 v1 fun v6 => yK [.nils, .nils] h2 n3 fun v7 h8 n9 => zL 2 v7 v5 h8 n9 fun vA hH nH => K (F40.fr a c e g f v4 v7 v6 v w b d u o p q y z B A) hH nH := by kernel_rfl
theorem F40.t2_s : IR.run F40.t2 C N O K (F40.fr a c e g f i l s v w b d u o p q y z B A) h nx =
 sBin .neq .int s (I 0) fun v1 => K (F40.fr a c e g f i l s v w v1 d u o p q y z B A) h nx := by kernel_rfl
theorem F40.t3_s : IR.run F40.t3 C N O K (F40.fr a c e g f i l s v w b d u o p q y z B A) h nx =
 K (F40.fr a c e (.bool false) s i l s v w b d u o p q y z B A) h nx := by kernel_rfl
theorem F40.v10 : Arg.ev (.t (.of 10)) ⟨(F40.fr a c e g f i l s v w b d u o p q y z B A), []⟩ = b := by kernel_rfl
theorem F40.t7_s : IR.run F40.t7 C N O K (F40.fr a c e g f i l s v w b d u o p q y z B A) h nx =
 vV 1 2 l (I 0) fun v1 => zF v1 h fun v2 => sLen v2 fun v3 => K (F40.fr a c e g f i l s v w b v2 v3 (I 0) p q y z B A) h nx := by kernel_rfl
theorem F40.t8_s : IR.run F40.t8 C N O K (F40.fr a c e g f i l s v w b d u o p q y z B A) h nx =
 sBin .lss .int o u fun v1 => K (F40.fr a c e g f i l s v w b d u o v1 q y z B A) h nx := by kernel_rfl
theorem F40.v14 : Arg.ev (.t (.of 14)) ⟨(F40.fr a c e g f i l s v w b d u o p q y z B A), []⟩ = p := by kernel_rfl
theorem F40.t10_s : IR.run F40.t10 C N O K (F40.fr a c e g f i l s v w b d u o p q y z B A) h nx =
 zR 2 d o fun v1 => zK 2 v1 h fun v2 => yK [.nils, (.bool false)] h nx fun v3 h4 n5 => zL 2 v3 v2 h4 n5 fun v6 h7 n8 => K (F40.fr a c e g f i l s v3 w b d u o p q y z B A) h7 n8 := by kernel_rfl
theorem F40.t11_s : IR.run F40.t11 C N O K (F40.fr a c e g f i l s v w b d u o p q y z B A) h nx =
 vV 1 2 l (I 1) fun v1 => zF v1 h fun v2 => sLen v2 fun v3 => K (F40.fr a c e g f i l s v w b d u o p v2 v3 (I 0) B A) h nx := by kernel_rfl
theorem F40.t12_s : IR.run F40.t12 C N O K (F40.fr a c e g f i l s v w b d u o p q y z B A) h nx =
 sBin .lss .int z y fun v1 => K (F40.fr a c e g f i l s v w b d u o p q y z v1 A) h nx := by kernel_rfl
theorem F40.v18 : Arg.ev (.t (.of 18)) ⟨(F40.fr a c e g f i l s v w b d u o p q y z B A), []⟩ = B := by kernel_rfl
theorem F40.t14_s : IR.run F40.t14 C N O K (F40.fr a c e g f i l s v w b d u o p q y z B A) h nx =
 zR 2 q z fun v1 => zK 2 v1 h fun v2 => yK [.nils, (.bool false)] h nx fun v3 h4 n5 => zL 2 v3 v2 h4 n5 fun v6 h7 n8 => K (F40.fr a c e g f i l s v v3 b d u o p q y z B A) h7 n8 := by kernel_rfl
theorem F40.t15_s : IR.run F40.t15 C N O K (F40.fr a c e g f i l s v w b d u o p q y z B A) h nx =
 zK 2 v h fun v1 => zK 2 w h fun v2 => zK 2 v h fun v3 => C.fn 122 (.of 122) [v1, v2] h nx fun v4 h5 n6 => (zK 2 v h5 fun vI => zN vI v3 (zN i i (C.fn 124 (.of 124) [v3] h5 n6 fun v7 h8 n9 => zN i i (C.fn 122 (.of 122) [v4, v7] h8 n9 fun vA hH nH => zN i i (C.fn 121 (.of 121) [i, vA] hH nH fun vD hI nJ => sNot vD fun vH => K (F40.fr a c e g f i l s v w b d u o p q y z B vH) hI nJ))))) := by kernel_rfl
theorem F40.t16_s : IR.run F40.t16 C N O K (F40.fr a c e g f i l s v w b d u o p q y z B A) h nx =
 K (F40.fr a c e (.bool false) (I 0) i l s v w b d u o p q y z B A) h nx := by kernel_rfl
theorem F40.v19 : Arg.ev (.t (.of 19)) ⟨(F40.fr a c e g f i l s v w b d u o p q y z B A), []⟩ = A := by kernel_rfl
theorem F40.t22_s : IR.run F40.t22 C N O K (F40.fr a c e g f i l s v w b d u o p q y z B A) h nx =
 sBin .add .int z (I 1) fun v1 => K (F40.fr a c e g f i l s v w b d u o p q y v1 B A) h nx := by kernel_rfl
theorem F40.t26_L (Inv : Nat → AV → T Blk → Pa → Prop) {m : Nat} (hm : m < N) (hi : Inv m z h nx)
  (step : ∀ (m : Nat) (z3 z4 z9 zH zM zO : AV) (h : T Blk) (nx : Pa) (R : Ks Prop), Inv m zH h nx → (∀ (m' : Nat) (w3 w4 w9 wG wI wJ : AV) (h' : T Blk) (nx' : Pa), m' < m → Inv m' wG h' nx' → R (F40.fr a c e w3 w4 i l s v w9 b d u o p q y wG wI wJ) h' nx' = .ok True) → IR.run F40.t25 C N O R (F40.fr a c e z3 z4 i l s v z9 b d u o p q y zH zM zO) h nx = .ok True) :
  IR.run F40.t26 C N O K (F40.fr a c e g f i l s v w b d u o p q y z B A) h nx = .ok True := by
 rw [F40.t26]
 refine yL (fun m tm h nx => ∃ z3 z4 z9 zH zM zO, tm = (F40.fr a c e z3 z4 i l s v z9 b d u o p q y zH zM zO) ∧ Inv m zH h nx) ?_ hm ⟨_, _, _, _, _, _, rfl, hi⟩
 rintro m tm h nx R ⟨z3, z4, z9, zH, zM, zO, rfl, hi⟩ hR
 exact step m z3 z4 z9 zH zM zO h nx R hi fun m' w3 w4 w9 wG wI wJ h' nx' hlt hi' => hR m' _ h' nx' hlt ⟨_, _, _, _, _, _, rfl, hi'⟩
theorem F40.t31_s : IR.run F40.t31 C N O K (F40.fr a c e g f i l s v w b d u o p q y z B A) h nx =
 sBin .add .int o (I 1) fun v1 => K (F40.fr a c e g f i l s v w b d u v1 p q y z B A) h nx := by kernel_rfl
theorem F40.t35_L (Inv : Nat → AV → T Blk → Pa → Prop) {m : Nat} (hm : m < N) (hi : Inv m o h nx)
  (step : ∀ (m : Nat) (z3 z4 z8 z9 zC zD zE zG zH zM zO : AV) (h : T Blk) (nx : Pa) (R : Ks Prop), Inv m zC h nx → (∀ (m' : Nat) (w3 w4 w8 w9 wC wD wE wF wG wI wJ : AV) (h' : T Blk) (nx' : Pa), m' < m → Inv m' wC h' nx' → R (F40.fr a c e w3 w4 i l s w8 w9 b d u wC wD wE wF wG wI wJ) h' nx' = .ok True) → IR.run F40.t34 C N O R (F40.fr a c e z3 z4 i l s z8 z9 b d u zC zD zE zG zH zM zO) h nx = .ok True) :
  IR.run F40.t35 C N O K (F40.fr a c e g f i l s v w b d u o p q y z B A) h nx = .ok True := by
 rw [F40.t35]
 refine yL (fun m tm h nx => ∃ z3 z4 z8 z9 zC zD zE zG zH zM zO, tm = (F40.fr a c e z3 z4 i l s z8 z9 b d u zC zD zE zG zH zM zO) ∧ Inv m zC h nx) ?_ hm ⟨_, _, _, _, _, _, _, _, _, _, _, rfl, hi⟩
 rintro m tm h nx R ⟨z3, z4, z8, z9, zC, zD, zE, zG, zH, zM, zO, rfl, hi⟩ hR
 exact step m z3 z4 z8 z9 zC zD zE zG zH zM zO h nx R hi fun m' w3 w4 w8 w9 wC wD wE wF wG wI wJ h' nx' hlt hi' => hR m' _ h' nx' hlt ⟨_, _, _, _, _, _, _, _, _, _, _, rfl, hi'⟩
theorem F40.t38_s : IR.run F40.t38 C N O K (F40.fr a c e g f i l s v w b d u o p q y z B A) h nx =
 K (F40.fr a c e (.bool true) (I 0) i l s v w b d u o p q y z B A) h nx := by kernel_rfl
theorem F40.tab : T.get none (.of 40) tbl = some F40 := by kernel_rfl
theorem F40.bind (k : T AV → OP) : yE F40.params [a0, a1, a2] F40.init k = k (F40.fr a0 a1 a2 .undef .undef .undef .undef .undef .undef .undef .undef .undef .undef .undef .undef .undef .undef .undef .undef .undef) := by kernel_rfl
theorem F40.body_eq : F40.body = F40.t43 := by kernel_rfl
theorem F40.go : zV tbl N C (.of 40) [a0, a1, a2] h nx K0 = IR.run F40.t43 C N (fnO F40.res K0) (retK F40.res K0) (F40.fr a0 a1 a2 .undef .undef .undef .undef .undef .undef .undef .undef .undef .undef .undef .undef .undef .undef .undef .undef .undef) h nx := by
 rw [zI F40.tab, F40.bind, F40.body_eq]; kernel_rfl
theorem F40.ret : retK F40.res K0 (F40.fr a c e g f i l s v w b d u o p q y z B A) h nx = K0 (.tup [g, f]) h nx := by kernel_rfl
end
end Go.Ev
namespace Go.Ev
open Go Go.Proofs
set_option maxRecDepth 100000
section
variable {N : Nat} {C : Calls Prop} {K0 : Kw Prop} {K : Ks Prop} {h : T Blk} {nx : Pa} {a c e g f i l s v w a0 : AV} {O : Outs Prop} {tm : T AV} {Kt : KTm} {r : List RO} {s0 s1 s2 s3 s4 s5 s6 s7 s8 s9 s10 s11 s12 s13 s14 s15 s16 s17 s18 s19 s20 s21 s22 s23 s24 s25 s26 s27 s28 s29 s30 s31 s32 s33 s34 s35 s36 s37 s38 s39 : AV}
noncomputable def F124.t0 : IR := .reg [.w (.loc (.of 1)) none (.box (.t (.of 0))), .w (.loc (.of 2)) none (.alloc [.nils, (.bool false)])]
noncomputable def F124.t1 : IR := .dreg [(.alloc [.nils, (.bool false)])] [(.s (.faddr 0 (.t (.of 1))), 2, []), (.s (.load (.s 0)), 2, []), (.s (.len (.s 0)), 2, [(.mkslice 1 8 [(I 0)] (.s 0) (.s 0))]), (.s (.faddr 1 (.t (.of 1))), 2, []), (.s (.load (.s 0)), 2, []), (.w .push none (.mkslice 1 8 [(I 0)] (.s 2) (.s 2)), 0, []), (.s (.build [.nils, (.bool false)] [(0, 1, (.s 0)), (1, 1, (.s 1))]), 1, []), (.w (.loc (.of 3)) none (.alloc [.nils, (.bool false)]), 0, []), (.w .none none (.store 2 (.t (.of 3)) (.s 0)), 0, [])]
noncomputable def F124.t2 : IR := .reg [.s (.faddr 0 (.t (.of 1))), .q (.of 6) (.load (.s 0)), .q (.of 7) (.len (.t (.of 6))), .q (.of 8) (.mv (.c (I 0)))]
noncomputable def F124.t3 : IR := .reg [.q (.of 9) (.bin .lss .int (.t (.of 8)) (.t (.of 7)))]
noncomputable def F124.t4 : IR := .cond (.t (.of 9)) .skip (.exit 0)
noncomputable def F124.t5 : IR := .reg [.s (.mv (.t (.of 8))), .s (.iaddr 1 (.t (.of 6)) (.t (.of 8))), .s (.load (.s 0)), .q (.of 4) (.mv (.s 2)), .q (.of 5) (.mv (.s 0))]
noncomputable def F124.t6 : IR := .reg [.s (.faddr 0 (.t (.of 3))), .s (.load (.s 0)), .s (.mv (.t (.of 5))), .s (.mv (.t (.of 4))), .s (.iaddr 1 (.s 2) (.s 1)), .w .none none (.store 1 (.s 0) (.s 1))]
noncomputable def F124.t7 : IR := .seq F124.t5 F124.t6
noncomputable def F124.t8 : IR := .block 1 F124.t7
noncomputable def F124.t9 : IR := .reg [.s (.bin .add .int (.t (.of 8)) (.c (I 1))), .q (.of 8) (.mv (.s 0))]
noncomputable def F124.t10 : IR := .seq F124.t8 F124.t9
noncomputable def F124.t11 : IR := .seq F124.t4 F124.t10
noncomputable def F124.t12 : IR := .seq F124.t3 F124.t11
noncomputable def F124.t13 : IR := .loop F124.t12
noncomputable def F124.t14 : IR := .block 0 F124.t13
noncomputable def F124.t15 : IR := .seq F124.t2 F124.t14
noncomputable def F124.t16 : IR := .reg [.s (.loadN 2 (.t (.of 3))), .w .none none (.store 2 (.t (.of 2)) (.s 0))]
noncomputable def F124.t17 : IR := .seq F124.t16 .ret
noncomputable def F124.t18 : IR := .seq F124.t15 F124.t17
noncomputable def F124.t19 : IR := .seq F124.t1 F124.t18
noncomputable def F124.t20 : IR := .seq F124.t0 F124.t19
theorem F124.t0_s : IR.run F124.t0 C N O K (F124.fr a c e g f i l s v w) h nx =
 sBox a h nx fun v1 h2 n3 => yK [.nils, (.bool false)] h2 n3 fun v4 h5 n6 => K (F124.fr a v1 v4 g f i l s v w) h5 n6 := by kernel_rfl
theorem F124.t1_s : IR.run F124.t1 C N O K (F124.fr a c e g f i l s v w) h nx =
 sChk (true && true) (zP 0 c fun v1 => zF v1 h fun v2 => sLen v2 fun v3 => sChk (mkSl 8 v3 v3 && true) (zP 1 c fun v4 => zF v4 h fun v5 => gO 1 8 [(I 0)] v3 v3 h nx fun v6 h7 n8 => (zF v4 h7 fun vW => zN vW v5 ((zP 1 c fun v25 => zN v25 v4 ((sLen v2 fun vP => zN vP v3 ((zF v1 h7 fun vO => zN vO v2 ((zP 0 c fun vN => zN vN v1 (uD [.nils, (.bool false)] [(0, 1, v6), (1, 1, v5)] fun v9 => yK [.nils, (.bool false)] h7 n8 fun vA hH nH => (uD [.nils, (.bool false)] [(0, 1, v6), (1, 1, v5)] fun vM => zN vM v9 ((zF v4 hH fun vL => zN vL v5 ((zP 1 c fun vK => zN vK v4 ((sLen v2 fun vJ => zN vJ v3 ((zF v1 hH fun vI => zN vI v2 ((zP 0 c fun vH => zN vH v1 (zL 2 vA v9 hH nH fun vD hI nJ => K (F124.fr a c e vA f i l s v w) hI nJ)))))))))))))))))))))))) := by kernel_rfl
theorem F124.t2_s : IR.run F124.t2 C N O K (F124.fr a c e g f i l s v w) h nx =
 zP 0 c fun v1 => zF v1 h fun v2 => sLen v2 fun v3 => K (F124.fr a c e g f i v2 v3 (I 0) w) h nx := by kernel_rfl
theorem F124.t3_s : IR.run F124.t3 C N O K (F124.fr a c e g f i l s v w) h nx =
 sBin .lss .int v s fun v1 => K (F124.fr a c e g f i l s v v1) h nx := by kernel_rfl
theorem F124.v9 : Arg.ev (.t (.of 9)) ⟨(F124.fr a c e g f i l s v w), []⟩ = w := by kernel_rfl
theorem F124.t5_s : IR.run F124.t5 C N O K (F124.fr a c e g f i l s v w) h nx =
 zR 1 l v fun v1 => zF v1 h fun v2 => K (F124.fr a c e g v v2 l s v w) h nx := by kernel_rfl
theorem F124.t6_s : IR.run F124.t6 C N O K (F124.fr a c e g f i l s v w) h nx =
 zP 0 g fun v1 => zF v1 h fun v2 => zR 1 v2 i fun v3 => zL 1 v3 f h nx fun v4 h5 n6 => K (F124.fr a c e g f i l s v w) h5 n6 := by kernel_rfl
theorem F124.t9_s : IR.run F124.t9 C N O K (F124.fr a c e g f i l s v w) h nx =
 sBin .add .int v (I 1) fun v1 => K (F124.fr a c e g f i l s v1 w) h nx := by kernel_rfl
theorem F124.t13_L (Inv : Nat → AV → T Blk → Pa → Prop) {m : Nat} (hm : m < N) (hi : Inv m v h nx)
  (step : ∀ (m : Nat) (z4 z5 z8 z9 : AV) (h : T Blk) (nx : Pa) (R : Ks Prop), Inv m z8 h nx → (∀ (m' : Nat) (w4 w5 w8 w9 : AV) (h' : T Blk) (nx' : Pa), m' < m → Inv m' w8 h' nx' → R (F124.fr a c e g w4 w5 l s w8 w9) h' nx' = .ok True) → IR.run F124.t12 C N O R (F124.fr a c e g z4 z5 l s z8 z9) h nx = .ok True) :
  IR.run F124.t13 C N O K (F124.fr a c e g f i l s v w) h nx = .ok True := by
 rw [F124.t13]
 refine yL (fun m tm h nx => ∃ z4 z5 z8 z9, tm = (F124.fr a c e g z4 z5 l s z8 z9) ∧ Inv m z8 h nx) ?_ hm ⟨_, _, _, _, rfl, hi⟩
 rintro m tm h nx R ⟨z4, z5, z8, z9, rfl, hi⟩ hR
 exact step m z4 z5 z8 z9 h nx R hi fun m' w4 w5 w8 w9 h' nx' hlt hi' => hR m' _ h' nx' hlt ⟨_, _, _, _, rfl, hi'⟩
theorem F124.t16_s : IR.run F124.t16 C N O K (F124.fr a c e g f i l s v w) h nx =
 zK 2 g h fun v1 => zL 2 e v1 h nx fun v2 h3 n4 => K (F124.fr a c e g f i l s v w) h3 n4 := by kernel_rfl
theorem F124.tab : T.get none (.of 124) tbl = some F124 := by kernel_rfl
theorem F124.bind (k : T AV → OP) : yE F124.params [a0] F124.init k = k (F124.fr a0 .undef .undef .undef .undef .undef .undef .undef .undef .undef) := by kernel_rfl
theorem F124.body_eq : F124.body = F124.t20 := by kernel_rfl
theorem F124.go : zV tbl N C (.of 124) [a0] h nx K0 = IR.run F124.t20 C N (fnO F124.res K0) (retK F124.res K0) (F124.fr a0 .undef .undef .undef .undef .undef .undef .undef .undef .undef) h nx := by
 rw [zI F124.tab, F124.bind, F124.body_eq]; kernel_rfl
theorem F124.ret : retK F124.res K0 (F124.fr a c e g f i l s v w) h nx = zK 2 e h fun v1 => K0 v1 h nx := by kernel_rfl
end
end Go.Ev
