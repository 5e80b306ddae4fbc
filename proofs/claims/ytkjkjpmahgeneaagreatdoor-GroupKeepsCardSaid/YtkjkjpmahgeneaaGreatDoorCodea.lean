import Derived.Test.YtkjkjpmahgeneaaGreatDoorIrT
import Derived.KernelRfl
import Derived.Test.YtkjkjpmahgeneaaGreatDoorEvD
set_option linter.unusedSimpArgs false
set_option linter.unusedVariables false
namespace Go.Ev
open Go Go.Proofs
set_option maxRecDepth 100000
variable {N : Nat} {C : Calls Prop} {K0 : Kw Prop} {K R : Ks Prop} {h : T Blk} {nx : Pa} {b c e g f i d a0 a1 a2 : AV}
theorem F93.g2_eq (X3 : IR) (O : Outs Prop) (t : T AV) : IR.run (F93.g2 X3) C N O K t h nx = IR.run X3 C N (O.blk 0 K) K t h nx := by kernel_rfl
theorem F93.tab : T.get none (.of 93) tbl = some F93 := by kernel_rfl
theorem F93.go : zT tbl N C (.of 93) [a0] h nx K0 =
 sLen a0 fun v1 => sBin .gtr .int v1 (I 256) fun v2 => zY v2 (K0 (I 5) h nx) (sLen a0 fun v3 => u5 1 1 [(.bool false)] v3 v3 h nx fun v4 h5 n6 => IR.run F93.b2 C N (fnO F93.res K0) (IR.run F93.b10 C N (fnO F93.res K0) (retK F93.res K0)) (F93.fr a0 (I 0) v4 (I 0) v2 .undef .undef) h5 n6) := by
 rw [zH F93.tab]; kernel_rfl
theorem F93.L2 (Inv : Nat → AV → T Blk → Pa → Prop) {m : Nat} (hm : m < N) (hi : Inv m g h nx)
  (step : ∀ (m : Nat) (z1 z3 z5 z6 : AV) (h : T Blk) (nx : Pa) (R : Ks Prop), Inv m z3 h nx → (∀ (m' : Nat) (w1 w3 w5 w6 : AV) (h' : T Blk) (nx' : Pa), m' < m → Inv m' w3 h' nx' → R (F93.fr b w1 e w3 f w5 w6) h' nx' = .ok True) →
   (sLen b fun v1 => sBin .lss .int z3 v1 fun v2 => zY v2 (zS 1 b z3 fun v3 => zF v3 h fun v4 => sBin .lss .int v4 (I 0) fun v5 => sG v5 false (fun k => k b) fun v6 => sG v5 false (fun k => k z3) fun v7 => sG v5 false (fun k => zS 1 v6 v7 k) fun v8 => sG v5 false (fun k => zF v8 h k) fun v9 => sG v5 false (fun k => k b) fun vA => sG v5 false (fun k => sLen vA k) fun vB => sG v5 false (fun k => sBin .geq .int v9 vB k) fun vC => gH v5 (.bool true) vC fun vD => sG vD false (fun k => k e) fun vE => sG vD false (fun k => k b) fun vF => sG vD false (fun k => k z3) fun vG => sG vD false (fun k => zS 1 vF vG k) fun vI => sG vD false (fun k => zF vI h k) fun vJ => sG vD false (fun k => zS 1 vE vJ k) fun vK => sG vD false (fun k => zF vK h k) fun vL => gH vD (.bool true) vL fun vM => zY vM (K0 (I 14) h nx) ((IR.run F93.b8 C N (((fnO F93.res K0).blk 0 K).blk 1 (IR.run F93.b9 C N ((fnO F93.res K0).blk 0 K) R)) (IR.run F93.b9 C N ((fnO F93.res K0).blk 0 K) R)) (F93.fr b z1 e z3 f v2 vM) h nx)) (K (F93.fr b z1 e z3 f v2 z6) h nx)) = .ok True) :
  IR.run F93.b2 C N (fnO F93.res K0) K (F93.fr b c e g f i d) h nx = .ok True := by
 rw [F93.b2, F93.g2_eq, F93.b3]
 refine yJ (fun m tm h nx => ∃ z1 z3 z5 z6, tm = (F93.fr b z1 e z3 f z5 z6) ∧ Inv m z3 h nx) ?_ hm ⟨_, _, _, _, rfl, hi⟩
 rintro m tm h nx R ⟨z1, z3, z5, z6, rfl, hi⟩ hR
 refine Eq.trans ?_ (step m z1 z3 z5 z6 h nx R hi fun m' w1 w3 w5 w6 h' nx' hlt hi' => hR m' _ h' nx' hlt ⟨_, _, _, _, rfl, hi'⟩)
 kernel_rfl
theorem F93.k10 : IR.run F93.b10 C N (fnO F93.res K0) K (F93.fr b c e g f i d) h nx =
 K0 (I 0) h nx := by kernel_rfl
theorem F93.k9 {E0 : Ks Prop} : IR.run F93.b9 C N ((fnO F93.res K0).blk 0 E0) K (F93.fr b c e g f i d) h nx =
 sBin .add .int g (I 1) fun v1 => K (F93.fr b c e v1 f i d) h nx := by kernel_rfl
theorem F93.k8 {E0 E1 : Ks Prop} : IR.run F93.b8 C N (((fnO F93.res K0).blk 0 E0).blk 1 E1) K (F93.fr b c e g f i d) h nx =
 zS 1 b g fun v1 => zF v1 h fun v2 => zS 1 e v2 fun v3 => zQ 1 v3 (.bool true) h nx fun v4 h5 n6 => K (F93.fr b c e g f i d) h5 n6 := by kernel_rfl
theorem F26.tab : T.get none (.of 26) tbl = some F26 := by kernel_rfl
theorem F26.go : zT tbl N C (.of 26) [a0, a1] h nx K0 =
 sBox a0 h nx fun v1 h2 n3 => C.fn 25 (.of 25) [a1] h2 n3 fun v4 h5 n6 => sBin .neq .int v4 (I 0) fun v7 => zY v7 (K0 (I 3) h5 n6) (zO 0 v1 fun v8 => zF v8 h5 fun v9 => sLen v9 fun vA => sBin .neq .int vA a1 fun vB => zY vB (K0 (I 2) h5 n6) (zO 0 v1 fun vC => zF vC h5 fun vD => C.fn 93 (.of 93) [vD] h5 n6 fun vE hA nA => K0 vE hA nA)) := by
 rw [zH F26.tab]; kernel_rfl
theorem F25.tab : T.get none (.of 25) tbl = some F25 := by kernel_rfl
theorem F25.go : zT tbl N C (.of 25) [a0] h nx K0 =
 sBin .lss .int a0 (I 0) fun v1 => sG v1 false (fun k => k a0) fun v2 => sG v1 false (fun k => sBin .gtr .int v2 (I 256) k) fun v3 => gH v1 (.bool true) v3 fun v4 => zY v4 (K0 (I 3) h nx) (K0 (I 0) h nx) := by
 rw [zH F25.tab]; kernel_rfl
end Go.Ev
namespace Go.Ev
open Go Go.Proofs
set_option maxRecDepth 100000
variable {N : Nat} {C : Calls Prop} {K0 : Kw Prop} {K R : Ks Prop} {h : T Blk} {nx : Pa} {b c e g f i d l o a0 a1 : AV}
end Go.Ev
namespace Go.Ev
open Go Go.Proofs
set_option maxRecDepth 100000
variable {N : Nat} {C : Calls Prop} {K0 : Kw Prop} {K R : Ks Prop} {h : T Blk} {nx : Pa} {b c e g f i d a0 a1 : AV}
theorem F82.g2_eq (X3 : IR) (O : Outs Prop) (t : T AV) : IR.run (F82.g2 X3) C N O K t h nx = IR.run X3 C N (O.blk 0 K) K t h nx := by kernel_rfl
theorem F82.tab : T.get none (.of 82) tbl = some F82 := by kernel_rfl
theorem F82.go : zT tbl N C (.of 82) [a0, a1] h nx K0 =
 sLen a0 fun v1 => sLen a1 fun v2 => sBin .neq .int v1 v2 fun v3 => zY v3 (K0 (.bool false) h nx) (IR.run F82.b2 C N (fnO F82.res K0) (IR.run F82.b9 C N (fnO F82.res K0) (retK F82.res K0)) (F82.fr a0 a1 (.bool false) (I 0) v3 .undef .undef) h nx) := by
 rw [zH F82.tab]; kernel_rfl
theorem F82.L2 (Inv : Nat → AV → T Blk → Pa → Prop) {m : Nat} (hm : m < N) (hi : Inv m g h nx)
  (step : ∀ (m : Nat) (z2 z3 z5 z6 : AV) (h : T Blk) (nx : Pa) (R : Ks Prop), Inv m z3 h nx → (∀ (m' : Nat) (w2 w3 w5 w6 : AV) (h' : T Blk) (nx' : Pa), m' < m → Inv m' w3 h' nx' → R (F82.fr b c w2 w3 f w5 w6) h' nx' = .ok True) →
   (sLen b fun v1 => sBin .lss .int z3 v1 fun v2 => zY v2 (zS 1 b z3 fun v3 => zF v3 h fun v4 => zS 1 c z3 fun v5 => zF v5 h fun v6 => sBin .neq .int v4 v6 fun v7 => zY v7 (K0 (.bool false) h nx) (sBin .add .int z3 (I 1) fun v8 => R (F82.fr b c z2 v8 f v2 v7) h nx)) (K (F82.fr b c z2 z3 f v2 z6) h nx)) = .ok True) :
  IR.run F82.b2 C N (fnO F82.res K0) K (F82.fr b c e g f i d) h nx = .ok True := by
 rw [F82.b2, F82.g2_eq, F82.b3]
 refine yJ (fun m tm h nx => ∃ z2 z3 z5 z6, tm = (F82.fr b c z2 z3 f z5 z6) ∧ Inv m z3 h nx) ?_ hm ⟨_, _, _, _, rfl, hi⟩
 rintro m tm h nx R ⟨z2, z3, z5, z6, rfl, hi⟩ hR
 refine Eq.trans ?_ (step m z2 z3 z5 z6 h nx R hi fun m' w2 w3 w5 w6 h' nx' hlt hi' => hR m' _ h' nx' hlt ⟨_, _, _, _, rfl, hi'⟩)
 kernel_rfl
theorem F82.k9 : IR.run F82.b9 C N (fnO F82.res K0) K (F82.fr b c e g f i d) h nx =
 K0 (.bool true) h nx := by kernel_rfl
theorem F106.tab : T.get none (.of 106) tbl = some F106 := by kernel_rfl
theorem F106.go : zT tbl N C (.of 106) [a0] h nx K0 =
 sBin .eql (.nil .sl) a0 .nils fun v1 => zY v1 (K0 .nils h nx) (jH 1 0 [(I 0)] [] h nx fun v2 h3 n4 => sApp 1 8 v2 a0 h3 n4 fun v5 h6 n7 => K0 v5 h6 n7) := by
 rw [zH F106.tab]; kernel_rfl
end Go.Ev
namespace Go.Ev
open Go Go.Proofs
set_option maxRecDepth 100000
variable {N : Nat} {C : Calls Prop} {K0 : Kw Prop} {K R : Ks Prop} {h : T Blk} {nx : Pa} {b c e g f i d l o a0 a1 : AV}
theorem F217.tab : T.get none (.of 217) tbl = some F217 := by kernel_rfl
theorem F217.go : zT tbl N C (.of 217) [a0, a1] h nx K0 =
 zF a1 h fun v1 => C.fn 158 (.of 158) [a0, v1] h nx fun v2 h3 n4 => K0 v2 h3 n4 := by
 rw [zH F217.tab]; kernel_rfl
theorem F216.tab : T.get none (.of 216) tbl = some F216 := by kernel_rfl
theorem F216.go : zT tbl N C (.of 216) [a0, a1] h nx K0 =
 C.fn 259 (.of 259) [a0, a1] h nx fun v1 h2 n3 => sBin .geq .int v1 (I 0) fun v4 => K0 v4 h2 n3 := by
 rw [zH F216.tab]; kernel_rfl
theorem F259.g1_eq (X2 : IR) (O : Outs Prop) (t : T AV) : IR.run (F259.g1 X2) C N O K t h nx = IR.run X2 C N (O.blk 0 K) K t h nx := by kernel_rfl
theorem F259.tab : T.get none (.of 259) tbl = some F259 := by kernel_rfl
theorem F259.go : zT tbl N C (.of 259) [a0, a1] h nx K0 =
 sLen a0 fun v1 => IR.run F259.b1 C N (fnO F259.res K0) (IR.run F259.b8 C N (fnO F259.res K0) (retK F259.res K0)) (F259.fr a0 a1 (I 0) .undef v1 (I 0) .undef .undef) h nx := by
 rw [zH F259.tab]; kernel_rfl
theorem F259.L1 (Inv : Nat → AV → T Blk → Pa → Prop) {m : Nat} (hm : m < N) (hi : Inv m i h nx)
  (step : ∀ (m : Nat) (z2 z3 z5 z6 z7 : AV) (h : T Blk) (nx : Pa) (R : Ks Prop), Inv m z5 h nx → (∀ (m' : Nat) (w2 w3 w5 w6 w7 : AV) (h' : T Blk) (nx' : Pa), m' < m → Inv m' w5 h' nx' → R (F259.fr b c w2 w3 f w5 w6 w7) h' nx' = .ok True) →
   (sBin .lss .int z5 f fun v1 => zY v1 (zS 1 b z5 fun v2 => zF v2 h fun v3 => sCall C c [v3] h nx fun v4 h5 n6 => zY v4 (K0 z5 h5 n6) (sBin .add .int z5 (I 1) fun v7 => R (F259.fr b c z2 z5 f v7 v1 v4) h5 n6)) (K (F259.fr b c z2 z3 f z5 v1 z7) h nx)) = .ok True) :
  IR.run F259.b1 C N (fnO F259.res K0) K (F259.fr b c e g f i d l) h nx = .ok True := by
 rw [F259.b1, F259.g1_eq, F259.b2]
 refine yJ (fun m tm h nx => ∃ z2 z3 z5 z6 z7, tm = (F259.fr b c z2 z3 f z5 z6 z7) ∧ Inv m z5 h nx) ?_ hm ⟨_, _, _, _, _, rfl, hi⟩
 rintro m tm h nx R ⟨z2, z3, z5, z6, z7, rfl, hi⟩ hR
 refine Eq.trans ?_ (step m z2 z3 z5 z6 z7 h nx R hi fun m' w2 w3 w5 w6 w7 h' nx' hlt hi' => hR m' _ h' nx' hlt ⟨_, _, _, _, _, rfl, hi'⟩)
 kernel_rfl
theorem F259.k8 : IR.run F259.b8 C N (fnO F259.res K0) K (F259.fr b c e g f i d l) h nx =
 K0 (I (-1)) h nx := by kernel_rfl
theorem F158.g2_eq (X3 : IR) (O : Outs Prop) (t : T AV) : IR.run (F158.g2 X3) C N O K t h nx = IR.run X3 C N (O.blk 0 K) K t h nx := by kernel_rfl
theorem F158.tab : T.get none (.of 158) tbl = some F158 := by kernel_rfl
theorem F158.go : zT tbl N C (.of 158) [a0, a1] h nx K0 =
 sLen a0 fun v1 => sLen a1 fun v2 => sBin .neq .int v1 v2 fun v3 => zY v3 (K0 (.bool false) h nx) (sLen a0 fun v4 => IR.run F158.b2 C N (fnO F158.res K0) (IR.run F158.b9 C N (fnO F158.res K0) (retK F158.res K0)) (F158.fr a0 a1 (.bool false) .undef v3 v4 (I 0) .undef .undef) h nx) := by
 rw [zH F158.tab]; kernel_rfl
theorem F158.L2 (Inv : Nat → AV → T Blk → Pa → Prop) {m : Nat} (hm : m < N) (hi : Inv m d h nx)
  (step : ∀ (m : Nat) (z2 z3 z6 z7 z8 : AV) (h : T Blk) (nx : Pa) (R : Ks Prop), Inv m z6 h nx → (∀ (m' : Nat) (w2 w3 w6 w7 w8 : AV) (h' : T Blk) (nx' : Pa), m' < m → Inv m' w6 h' nx' → R (F158.fr b c w2 w3 f i w6 w7 w8) h' nx' = .ok True) →
   (sBin .lss .int z6 i fun v1 => zY v1 (zS 1 b z6 fun v2 => zF v2 h fun v3 => zS 1 c z6 fun v4 => zF v4 h fun v5 => sBin .neq .int v3 v5 fun v6 => zY v6 (K0 (.bool false) h nx) (sBin .add .int z6 (I 1) fun v7 => R (F158.fr b c z2 z6 f i v7 v1 v6) h nx)) (K (F158.fr b c z2 z3 f i z6 v1 z8) h nx)) = .ok True) :
  IR.run F158.b2 C N (fnO F158.res K0) K (F158.fr b c e g f i d l o) h nx = .ok True := by
 rw [F158.b2, F158.g2_eq, F158.b3]
 refine yJ (fun m tm h nx => ∃ z2 z3 z6 z7 z8, tm = (F158.fr b c z2 z3 f i z6 z7 z8) ∧ Inv m z6 h nx) ?_ hm ⟨_, _, _, _, _, rfl, hi⟩
 rintro m tm h nx R ⟨z2, z3, z6, z7, z8, rfl, hi⟩ hR
 refine Eq.trans ?_ (step m z2 z3 z6 z7 z8 h nx R hi fun m' w2 w3 w6 w7 w8 h' nx' hlt hi' => hR m' _ h' nx' hlt ⟨_, _, _, _, _, rfl, hi'⟩)
 kernel_rfl
theorem F158.k9 : IR.run F158.b9 C N (fnO F158.res K0) K (F158.fr b c e g f i d l o) h nx =
 K0 (.bool true) h nx := by kernel_rfl
theorem F102.g1_eq (X2 : IR) (O : Outs Prop) (t : T AV) : IR.run (F102.g1 X2) C N O K t h nx = IR.run X2 C N (O.blk 0 K) K t h nx := by kernel_rfl
theorem F102.tab : T.get none (.of 102) tbl = some F102 := by kernel_rfl
theorem F102.go : zT tbl N C (.of 102) [a0, a1] h nx K0 =
 IR.run F102.b1 C N (fnO F102.res K0) (IR.run F102.b8 C N (fnO F102.res K0) (retK F102.res K0)) (F102.fr a0 a1 (.bool false) (I 0) .undef .undef) h nx := by
 rw [zH F102.tab]; kernel_rfl
theorem F102.L1 (Inv : Nat → AV → T Blk → Pa → Prop) {m : Nat} (hm : m < N) (hi : Inv m g h nx)
  (step : ∀ (m : Nat) (z2 z3 z4 z5 : AV) (h : T Blk) (nx : Pa) (R : Ks Prop), Inv m z3 h nx → (∀ (m' : Nat) (w2 w3 w4 w5 : AV) (h' : T Blk) (nx' : Pa), m' < m → Inv m' w3 h' nx' → R (F102.fr b c w2 w3 w4 w5) h' nx' = .ok True) →
   (sLen b fun v1 => sBin .lss .int z3 v1 fun v2 => zY v2 (zS 1 b z3 fun v3 => zF v3 h fun v4 => C.fn 82 (.of 82) [v4, c] h nx fun v5 h6 n7 => zY v5 (K0 (.bool true) h6 n7) (sBin .add .int z3 (I 1) fun v8 => R (F102.fr b c z2 v8 v2 v5) h6 n7)) (K (F102.fr b c z2 z3 v2 z5) h nx)) = .ok True) :
  IR.run F102.b1 C N (fnO F102.res K0) K (F102.fr b c e g f i) h nx = .ok True := by
 rw [F102.b1, F102.g1_eq, F102.b2]
 refine yJ (fun m tm h nx => ∃ z2 z3 z4 z5, tm = (F102.fr b c z2 z3 z4 z5) ∧ Inv m z3 h nx) ?_ hm ⟨_, _, _, _, rfl, hi⟩
 rintro m tm h nx R ⟨z2, z3, z4, z5, rfl, hi⟩ hR
 refine Eq.trans ?_ (step m z2 z3 z4 z5 h nx R hi fun m' w2 w3 w4 w5 h' nx' hlt hi' => hR m' _ h' nx' hlt ⟨_, _, _, _, rfl, hi'⟩)
 kernel_rfl
theorem F102.k8 : IR.run F102.b8 C N (fnO F102.res K0) K (F102.fr b c e g f i) h nx =
 K0 (.bool false) h nx := by kernel_rfl
theorem F165.g1_eq (X2 : IR) (O : Outs Prop) (t : T AV) : IR.run (F165.g1 X2) C N O K t h nx = IR.run X2 C N (O.blk 0 K) K t h nx := by kernel_rfl
theorem F165.tab : T.get none (.of 165) tbl = some F165 := by kernel_rfl
theorem F165.go : zT tbl N C (.of 165) [a0] h nx K0 =
 sLen a0 fun v1 => IR.run F165.b1 C N (fnO F165.res K0) (IR.run F165.b8 C N (fnO F165.res K0) (retK F165.res K0)) (F165.fr a0 (I 0) .undef a0 v1 (I 0) .undef .undef) h nx := by
 rw [zH F165.tab]; kernel_rfl
theorem F165.L1 (Inv : Nat → AV → T Blk → Pa → Prop) {m : Nat} (hm : m < N) (hi : Inv m i h nx)
  (step : ∀ (m : Nat) (z1 z2 z5 z6 z7 : AV) (h : T Blk) (nx : Pa) (R : Ks Prop), Inv m z5 h nx → (∀ (m' : Nat) (w1 w2 w5 w6 w7 : AV) (h' : T Blk) (nx' : Pa), m' < m → Inv m' w5 h' nx' → R (F165.fr b w1 w2 g f w5 w6 w7) h' nx' = .ok True) →
   (sBin .lss .int z5 f fun v1 => zY v1 (zS 1 g z5 fun v2 => zF v2 h fun v3 => sBin .neq .int v3 (I 0) fun v4 => zY v4 (K0 v3 h nx) (sBin .add .int z5 (I 1) fun v5 => R (F165.fr b z1 v3 g f v5 v1 v4) h nx)) (K (F165.fr b z1 z2 g f z5 v1 z7) h nx)) = .ok True) :
  IR.run F165.b1 C N (fnO F165.res K0) K (F165.fr b c e g f i d l) h nx = .ok True := by
 rw [F165.b1, F165.g1_eq, F165.b2]
 refine yJ (fun m tm h nx => ∃ z1 z2 z5 z6 z7, tm = (F165.fr b z1 z2 g f z5 z6 z7) ∧ Inv m z5 h nx) ?_ hm ⟨_, _, _, _, _, rfl, hi⟩
 rintro m tm h nx R ⟨z1, z2, z5, z6, z7, rfl, hi⟩ hR
 refine Eq.trans ?_ (step m z1 z2 z5 z6 z7 h nx R hi fun m' w1 w2 w5 w6 w7 h' nx' hlt hi' => hR m' _ h' nx' hlt ⟨_, _, _, _, _, rfl, hi'⟩)
 kernel_rfl
theorem F165.k8 : IR.run F165.b8 C N (fnO F165.res K0) K (F165.fr b c e g f i d l) h nx =
 K0 (I 0) h nx := by kernel_rfl
theorem F167.tab : T.get none (.of 167) tbl = some F167 := by kernel_rfl
theorem F167.go : zT tbl N C (.of 167) [a0, a1] h nx K0 =
 zY a0 (K0 a1 h nx) (K0 (I 0) h nx) := by
 rw [zH F167.tab]; kernel_rfl
end Go.Ev
namespace Go.Ev
open Go Go.Proofs
set_option maxRecDepth 100000
variable {N : Nat} {C : Calls Prop} {K0 : Kw Prop} {K R : Ks Prop} {h : T Blk} {nx : Pa} {b c e g f i d l o a0 a1 a2 : AV}
theorem F32.g2_eq (X3 : IR) (O : Outs Prop) (t : T AV) : IR.run (F32.g2 X3) C N O K t h nx = IR.run X3 C N (O.blk 0 K) K t h nx := by kernel_rfl
theorem F32.tab : T.get none (.of 32) tbl = some F32 := by kernel_rfl
theorem F32.go : zT tbl N C (.of 32) [a0, a1, a2] h nx K0 =
 sBox a0 h nx fun v1 h2 n3 => zO 1 v1 fun v4 => zF v4 h2 fun v5 => sLen v5 fun v6 => sBin .gtr .int v6 a2 fun v7 => zY v7 (K0 (.bool false) h2 n3) (IR.run F32.b2 C N (fnO F32.res K0) (IR.run F32.b9 C N (fnO F32.res K0) (retK F32.res K0)) (F32.fr a0 a1 a2 v1 (.bool false) (I 0) v7 .undef .undef) h2 n3) := by
 rw [zH F32.tab]; kernel_rfl
theorem F32.L2 (Inv : Nat → AV → T Blk → Pa → Prop) {m : Nat} (hm : m < N) (hi : Inv m i h nx)
  (step : ∀ (m : Nat) (z4 z5 z7 z8 : AV) (h : T Blk) (nx : Pa) (R : Ks Prop), Inv m z5 h nx → (∀ (m' : Nat) (w4 w5 w7 w8 : AV) (h' : T Blk) (nx' : Pa), m' < m → Inv m' w5 h' nx' → R (F32.fr b c e g w4 w5 d w7 w8) h' nx' = .ok True) →
   (zO 1 g fun v1 => zF v1 h fun v2 => sLen v2 fun v3 => sBin .lss .int z5 v3 fun v4 => zY v4 (zO 1 g fun v5 => zF v5 h fun v6 => zS 1 v6 z5 fun v7 => zF v7 h fun v8 => sLen v8 fun v9 => sBin .gtr .int v9 c fun vA => zY vA (K0 (.bool false) h nx) (sBin .add .int z5 (I 1) fun vB => R (F32.fr b c e g z4 vB d v4 vA) h nx)) (K (F32.fr b c e g z4 z5 d v4 z8) h nx)) = .ok True) :
  IR.run F32.b2 C N (fnO F32.res K0) K (F32.fr b c e g f i d l o) h nx = .ok True := by
 rw [F32.b2, F32.g2_eq, F32.b3]
 refine yJ (fun m tm h nx => ∃ z4 z5 z7 z8, tm = (F32.fr b c e g z4 z5 d z7 z8) ∧ Inv m z5 h nx) ?_ hm ⟨_, _, _, _, rfl, hi⟩
 rintro m tm h nx R ⟨z4, z5, z7, z8, rfl, hi⟩ hR
 refine Eq.trans ?_ (step m z4 z5 z7 z8 h nx R hi fun m' w4 w5 w7 w8 h' nx' hlt hi' => hR m' _ h' nx' hlt ⟨_, _, _, _, rfl, hi'⟩)
 kernel_rfl
theorem F32.k9 : IR.run F32.b9 C N (fnO F32.res K0) K (F32.fr b c e g f i d l o) h nx =
 K0 (.bool true) h nx := by kernel_rfl
end Go.Ev
namespace Go.Ev
open Go Go.Proofs
set_option maxRecDepth 100000
variable {N : Nat} {C : Calls Prop} {K0 : Kw Prop} {K R : Ks Prop} {h : T Blk} {nx : Pa} {b c e g f i d l o q a p u s a0 : AV}
theorem F33.g10_eq (X11 : IR) (O : Outs Prop) (t : T AV) : IR.run (F33.g10 X11) C N O K t h nx = IR.run X11 C N (O.blk 2 K) K t h nx := by kernel_rfl
theorem F33.g3_eq (X4 : IR) (O : Outs Prop) (t : T AV) : IR.run (F33.g3 X4) C N O K t h nx = IR.run X4 C N (O.blk 0 K) K t h nx := by kernel_rfl
theorem F33.tab : T.get none (.of 33) tbl = some F33 := by kernel_rfl
theorem F33.go : zT tbl N C (.of 33) [a0] h nx K0 =
 sBox a0 h nx fun v1 h2 n3 => zO 0 v1 fun v4 => zF v4 h2 fun v5 => sBin .lss .int v5 (I 1) fun v6 => sG v6 false (fun k => zO 0 v1 k) fun v7 => sG v6 false (fun k => zF v7 h2 k) fun v8 => sG v6 false (fun k => sBin .gtr .int v8 (I 256) k) fun v9 => gH v6 (.bool true) v9 fun vA => zY vA (K0 (I 3) h2 n3) (zO 1 v1 fun vB => zF vB h2 fun vC => sLen vC fun vD => sBin .gtr .int vD (I 128) fun vE => zY vE (K0 (I 5) h2 n3) (IR.run F33.b3 C N (fnO F33.res K0) (IR.run F33.b20 C N (fnO F33.res K0) (retK F33.res K0)) (F33.fr a0 v1 (I 0) (I 0) .undef .undef vA vE .undef .undef .undef .undef .undef .undef) h2 n3)) := by
 rw [zH F33.tab]; kernel_rfl
theorem F33.L3 (Inv : Nat → AV → T Blk → Pa → Prop) {m : Nat} (hm : m < N) (hi : Inv m g h nx)
  (step : ∀ (m : Nat) (z2 z3 z4 z5 z8 z9 zA zB zC zD : AV) (h : T Blk) (nx : Pa) (R : Ks Prop), Inv m z3 h nx → (∀ (m' : Nat) (w2 w3 w4 w5 w8 w9 wA wB wC wD : AV) (h' : T Blk) (nx' : Pa), m' < m → Inv m' w3 h' nx' → R (F33.fr b c w2 w3 w4 w5 d l w8 w9 wA wB wC wD) h' nx' = .ok True) →
   (zO 1 c fun v1 => zF v1 h fun v2 => sLen v2 fun v3 => sBin .lss .int z3 v3 fun v4 => zY v4 (zO 1 c fun v5 => zF v5 h fun v6 => zS 1 v6 z3 fun v7 => zF v7 h fun v8 => sLen v8 fun v9 => sBin .eql .int v9 (I 0) fun vA => zY vA (K0 (I 12) h nx) (IR.run F33.b10 C N (((fnO F33.res K0).blk 0 K).blk 1 (IR.run F33.b19 C N ((fnO F33.res K0).blk 0 K) R)) (IR.run F33.b18 C N (((fnO F33.res K0).blk 0 K).blk 1 (IR.run F33.b19 C N ((fnO F33.res K0).blk 0 K) R)) (IR.run F33.b19 C N ((fnO F33.res K0).blk 0 K) R)) (F33.fr b c z2 z3 v8 (I 0) d l v4 vA zA zB zC zD) h nx)) (K (F33.fr b c z2 z3 z4 z5 d l v4 z9 zA zB zC zD) h nx)) = .ok True) :
  IR.run F33.b3 C N (fnO F33.res K0) K (F33.fr b c e g f i d l o q a p u s) h nx = .ok True := by
 rw [F33.b3, F33.g3_eq, F33.b4]
 refine yJ (fun m tm h nx => ∃ z2 z3 z4 z5 z8 z9 zA zB zC zD, tm = (F33.fr b c z2 z3 z4 z5 d l z8 z9 zA zB zC zD) ∧ Inv m z3 h nx) ?_ hm ⟨_, _, _, _, _, _, _, _, _, _, rfl, hi⟩
 rintro m tm h nx R ⟨z2, z3, z4, z5, z8, z9, zA, zB, zC, zD, rfl, hi⟩ hR
 refine Eq.trans ?_ (step m z2 z3 z4 z5 z8 z9 zA zB zC zD h nx R hi fun m' w2 w3 w4 w5 w8 w9 wA wB wC wD h' nx' hlt hi' => hR m' _ h' nx' hlt ⟨_, _, _, _, _, _, _, _, _, _, rfl, hi'⟩)
 kernel_rfl
theorem F33.k20 : IR.run F33.b20 C N (fnO F33.res K0) K (F33.fr b c e g f i d l o q a p u s) h nx =
 K0 (I 0) h nx := by kernel_rfl
theorem F33.k19 {E0 : Ks Prop} : IR.run F33.b19 C N ((fnO F33.res K0).blk 0 E0) K (F33.fr b c e g f i d l o q a p u s) h nx =
 sBin .add .int g (I 1) fun v1 => K (F33.fr b c e v1 f i d l o q a p u s) h nx := by kernel_rfl
theorem F33.L10 {E0 E1 : Ks Prop} (Inv : Nat → AV → T Blk → Pa → Prop) {m : Nat} (hm : m < N) (hi : Inv m i h nx)
  (step : ∀ (m : Nat) (z2 z5 zA zB zC : AV) (h : T Blk) (nx : Pa) (R : Ks Prop), Inv m z5 h nx → (∀ (m' : Nat) (w2 w5 wA wB wC : AV) (h' : T Blk) (nx' : Pa), m' < m → Inv m' w5 h' nx' → R (F33.fr b c w2 g f w5 d l o q wA wB wC s) h' nx' = .ok True) →
   (sLen f fun v1 => sBin .lss .int z5 v1 fun v2 => zY v2 (zS 1 f z5 fun v3 => zF v3 h fun v4 => sBin .lss .int v4 (I 0) fun v5 => sG v5 false (fun k => k f) fun v6 => sG v5 false (fun k => k z5) fun v7 => sG v5 false (fun k => zS 1 v6 v7 k) fun v8 => sG v5 false (fun k => zF v8 h k) fun v9 => sG v5 false (fun k => zO 0 c k) fun vA => sG v5 false (fun k => zF vA h k) fun vB => sG v5 false (fun k => sBin .geq .int v9 vB k) fun vC => gH v5 (.bool true) vC fun vD => zY vD (K0 (I 10) h nx) ((IR.run F33.b16 C N (((((fnO F33.res K0).blk 0 E0).blk 1 E1).blk 2 K).blk 3 (IR.run F33.b17 C N ((((fnO F33.res K0).blk 0 E0).blk 1 E1).blk 2 K) R)) (IR.run F33.b17 C N ((((fnO F33.res K0).blk 0 E0).blk 1 E1).blk 2 K) R)) (F33.fr b c z2 g f z5 d l o q v2 vD zC s) h nx)) (K (F33.fr b c z2 g f z5 d l o q v2 zB zC s) h nx)) = .ok True) :
  IR.run F33.b10 C N (((fnO F33.res K0).blk 0 E0).blk 1 E1) K (F33.fr b c e g f i d l o q a p u s) h nx = .ok True := by
 rw [F33.b10, F33.g10_eq, F33.b11]
 refine yJ (fun m tm h nx => ∃ z2 z5 zA zB zC, tm = (F33.fr b c z2 g f z5 d l o q zA zB zC s) ∧ Inv m z5 h nx) ?_ hm ⟨_, _, _, _, _, rfl, hi⟩
 rintro m tm h nx R ⟨z2, z5, zA, zB, zC, rfl, hi⟩ hR
 refine Eq.trans ?_ (step m z2 z5 zA zB zC h nx R hi fun m' w2 w5 wA wB wC h' nx' hlt hi' => hR m' _ h' nx' hlt ⟨_, _, _, _, _, rfl, hi'⟩)
 kernel_rfl
theorem F33.k18 {E0 E1 : Ks Prop} : IR.run F33.b18 C N (((fnO F33.res K0).blk 0 E0).blk 1 E1) K (F33.fr b c e g f i d l o q a p u s) h nx =
 zO 1 c fun v1 => zF v1 h fun v2 => gG 1 v2 none (some g) none fun v3 => C.fn 102 (.of 102) [v3, f] h nx fun v4 h5 n6 => zY v4 (K0 (I 9) h5 n6) (K (F33.fr b c e g f i d l o q a p u v4) h5 n6) := by kernel_rfl
theorem F33.k17 {E0 E1 E2 : Ks Prop} : IR.run F33.b17 C N ((((fnO F33.res K0).blk 0 E0).blk 1 E1).blk 2 E2) K (F33.fr b c e g f i d l o q a p u s) h nx =
 sBin .add .int i (I 1) fun v1 => K (F33.fr b c e g f v1 d l o q a p u s) h nx := by kernel_rfl
theorem F33.k16 {E0 E1 E2 E3 : Ks Prop} : IR.run F33.b16 C N (((((fnO F33.res K0).blk 0 E0).blk 1 E1).blk 2 E2).blk 3 E3) K (F33.fr b c e g f i d l o q a p u s) h nx =
 sBin .gtr .int i (I 0) fun v1 => sG v1 true (fun k => k f) fun v2 => sG v1 true (fun k => k i) fun v3 => sG v1 true (fun k => zS 1 v2 v3 k) fun v4 => sG v1 true (fun k => zF v4 h k) fun v5 => sG v1 true (fun k => k f) fun v6 => sG v1 true (fun k => k i) fun v7 => sG v1 true (fun k => sBin .sub .int v7 (I 1) k) fun v8 => sG v1 true (fun k => zS 1 v6 v8 k) fun v9 => sG v1 true (fun k => zF v9 h k) fun vA => sG v1 true (fun k => sBin .leq .int v5 vA k) fun vB => gH v1 vB (.bool false) fun vC => zY vC (K0 (I 11) h nx) (K (F33.fr b c e g f i d l o q a p vC s) h nx) := by kernel_rfl
end Go.Ev
namespace Go.Ev
open Go Go.Proofs
set_option maxRecDepth 100000
variable {N : Nat} {C : Calls Prop} {K0 : Kw Prop} {K R : Ks Prop} {h : T Blk} {nx : Pa} {b c e g f i d l a0 a1 a2 : AV}
theorem F166.tab : T.get none (.of 166) tbl = some F166 := by kernel_rfl
theorem F166.go : zT tbl N C (.of 166) [a0, a1, a2] h nx K0 =
 sBox a0 h nx fun v1 h2 n3 => sBox a1 h2 n3 fun v4 h5 n6 => C.fn 136 (.of 136) [a2, (.fn 215 (.of 215) [v1, v4])] h5 n6 fun v7 h8 n9 => C.fn 167 (.of 167) [v7, (I 3)] h8 n9 fun vA hB nB => K0 vA hB nB := by
 rw [zH F166.tab]; kernel_rfl
theorem F215.tab : T.get none (.of 215) tbl = some F215 := by kernel_rfl
theorem F215.go : zT tbl N C (.of 215) [a0, a1, a2] h nx K0 =
 zF a1 h fun v1 => sBin .lss .int a0 v1 fun v2 => sG v2 false (fun k => k a0) fun v3 => sG v2 false (fun k => zF a2 h k) fun v4 => sG v2 false (fun k => sBin .gtr .int v3 v4 k) fun v5 => gH v2 (.bool true) v5 fun v6 => K0 v6 h nx := by
 rw [zH F215.tab]; kernel_rfl
theorem F136.tab : T.get none (.of 136) tbl = some F136 := by kernel_rfl
theorem F136.go : zT tbl N C (.of 136) [a0, a1] h nx K0 =
 C.fn 197 (.of 197) [a0, a1] h nx fun v1 h2 n3 => sBin .geq .int v1 (I 0) fun v4 => K0 v4 h2 n3 := by
 rw [zH F136.tab]; kernel_rfl
theorem F197.g1_eq (X2 : IR) (O : Outs Prop) (t : T AV) : IR.run (F197.g1 X2) C N O K t h nx = IR.run X2 C N (O.blk 0 K) K t h nx := by kernel_rfl
theorem F197.tab : T.get none (.of 197) tbl = some F197 := by kernel_rfl
theorem F197.go : zT tbl N C (.of 197) [a0, a1] h nx K0 =
 sLen a0 fun v1 => IR.run F197.b1 C N (fnO F197.res K0) (IR.run F197.b8 C N (fnO F197.res K0) (retK F197.res K0)) (F197.fr a0 a1 (I 0) .undef v1 (I 0) .undef .undef) h nx := by
 rw [zH F197.tab]; kernel_rfl
theorem F197.L1 (Inv : Nat → AV → T Blk → Pa → Prop) {m : Nat} (hm : m < N) (hi : Inv m i h nx)
  (step : ∀ (m : Nat) (z2 z3 z5 z6 z7 : AV) (h : T Blk) (nx : Pa) (R : Ks Prop), Inv m z5 h nx → (∀ (m' : Nat) (w2 w3 w5 w6 w7 : AV) (h' : T Blk) (nx' : Pa), m' < m → Inv m' w5 h' nx' → R (F197.fr b c w2 w3 f w5 w6 w7) h' nx' = .ok True) →
   (sBin .lss .int z5 f fun v1 => zY v1 (zS 1 b z5 fun v2 => zF v2 h fun v3 => sCall C c [v3] h nx fun v4 h5 n6 => zY v4 (K0 z5 h5 n6) (sBin .add .int z5 (I 1) fun v7 => R (F197.fr b c z2 z5 f v7 v1 v4) h5 n6)) (K (F197.fr b c z2 z3 f z5 v1 z7) h nx)) = .ok True) :
  IR.run F197.b1 C N (fnO F197.res K0) K (F197.fr b c e g f i d l) h nx = .ok True := by
 rw [F197.b1, F197.g1_eq, F197.b2]
 refine yJ (fun m tm h nx => ∃ z2 z3 z5 z6 z7, tm = (F197.fr b c z2 z3 f z5 z6 z7) ∧ Inv m z5 h nx) ?_ hm ⟨_, _, _, _, _, rfl, hi⟩
 rintro m tm h nx R ⟨z2, z3, z5, z6, z7, rfl, hi⟩ hR
 refine Eq.trans ?_ (step m z2 z3 z5 z6 z7 h nx R hi fun m' w2 w3 w5 w6 w7 h' nx' hlt hi' => hR m' _ h' nx' hlt ⟨_, _, _, _, _, rfl, hi'⟩)
 kernel_rfl
theorem F197.k8 : IR.run F197.b8 C N (fnO F197.res K0) K (F197.fr b c e g f i d l) h nx =
 K0 (I (-1)) h nx := by kernel_rfl
end Go.Ev
namespace Go.Ev
open Go Go.Proofs
set_option maxRecDepth 100000
variable {N : Nat} {C : Calls Prop} {K0 : Kw Prop} {K R : Ks Prop} {h : T Blk} {nx : Pa} {b c e g f i d l o q a p u s a0 a1 : AV}
theorem F103.g2_eq (X3 : IR) (O : Outs Prop) (t : T AV) : IR.run (F103.g2 X3) C N O K t h nx = IR.run X3 C N (O.blk 0 K) K t h nx := by kernel_rfl
theorem F103.tab : T.get none (.of 103) tbl = some F103 := by kernel_rfl
theorem F103.go : zT tbl N C (.of 103) [a0] h nx K0 =
 sBox a0 h nx fun v1 h2 n3 => zO 0 v1 fun v4 => zF v4 h2 fun v5 => zO 1 v1 fun v6 => zF v6 h2 fun v7 => sLen v7 fun v8 => sBin .gtr .int v8 (I 128) fun v9 => jH 1 1 [(I 0)] [(0, 1, v5)] h2 n3 fun vA hB nB => (sBin .gtr .int v8 (I 128) fun vN => zI vN v9 ((sLen v7 fun vO => zI vO v8 ((zF v6 hB fun vP => zI vP v7 ((zO 1 v1 fun vQ => zI vQ v6 (C.fn 166 (.of 166) [(I 1), (I 256), vA] hB nB fun vD hC nC => (sBin .gtr .int v8 (I 128) fun vR => zI vR v9 ((sLen v7 fun vS => zI vS v8 ((zF v6 hC fun vU => zI vU v7 ((zO 1 v1 fun vV => zI vV v6 (C.fn 167 (.of 167) [v9, (I 5)] hC nC fun vG hD nD => jH 1 2 [(I 0)] [(0, 1, vD), (1, 1, vG)] hD nD fun vK hE nE => C.fn 165 (.of 165) [vK] hE nE fun vW hF nF => sBin .neq .int vW (I 0) fun vX => zY vX (K0 vW hF nF) (zO 1 v1 fun vY => zF vY hF fun vZ => sLen vZ fun v28 => IR.run F103.b2 C N (fnO F103.res K0) (IR.run F103.b9 C N (fnO F103.res K0) (retK F103.res K0)) (F103.fr a0 v1 (I 0) vW .undef .undef vX v28 (I 0) .undef .undef) hF nF))))))))))))))))) := by
 rw [zH F103.tab]; kernel_rfl
theorem F103.L2 (Inv : Nat → AV → T Blk → Pa → Prop) {m : Nat} (hm : m < N) (hi : Inv m o h nx)
  (step : ∀ (m : Nat) (z2 z4 z5 z8 z9 zA : AV) (h : T Blk) (nx : Pa) (R : Ks Prop), Inv m z8 h nx → (∀ (m' : Nat) (w2 w4 w5 w8 w9 wA : AV) (h' : T Blk) (nx' : Pa), m' < m → Inv m' w8 h' nx' → R (F103.fr b c w2 g w4 w5 d l w8 w9 wA) h' nx' = .ok True) →
   (sBin .lss .int z8 l fun v1 => zY v1 (zJ 2 c h fun v2 => C.fn 168 (.of 168) [v2, z8] h nx fun v3 h4 n5 => sBin .neq .int v3 (I 0) fun v6 => zY v6 (K0 v3 h4 n5) (sBin .add .int z8 (I 1) fun v7 => R (F103.fr b c z2 g z8 v3 d l v7 v1 v6) h4 n5)) (K (F103.fr b c z2 g z4 z5 d l z8 v1 zA) h nx)) = .ok True) :
  IR.run F103.b2 C N (fnO F103.res K0) K (F103.fr b c e g f i d l o q a) h nx = .ok True := by
 rw [F103.b2, F103.g2_eq, F103.b3]
 refine yJ (fun m tm h nx => ∃ z2 z4 z5 z8 z9 zA, tm = (F103.fr b c z2 g z4 z5 d l z8 z9 zA) ∧ Inv m z8 h nx) ?_ hm ⟨_, _, _, _, _, _, rfl, hi⟩
 rintro m tm h nx R ⟨z2, z4, z5, z8, z9, zA, rfl, hi⟩ hR
 refine Eq.trans ?_ (step m z2 z4 z5 z8 z9 zA h nx R hi fun m' w2 w4 w5 w8 w9 wA h' nx' hlt hi' => hR m' _ h' nx' hlt ⟨_, _, _, _, _, _, rfl, hi'⟩)
 kernel_rfl
theorem F103.k9 : IR.run F103.b9 C N (fnO F103.res K0) K (F103.fr b c e g f i d l o q a) h nx =
 K0 (I 0) h nx := by kernel_rfl
theorem F168.g2_eq (X3 : IR) (O : Outs Prop) (t : T AV) : IR.run (F168.g2 X3) C N O K t h nx = IR.run X3 C N (O.blk 0 K) K t h nx := by kernel_rfl
theorem F168.tab : T.get none (.of 168) tbl = some F168 := by kernel_rfl
theorem F168.go : zT tbl N C (.of 168) [a0, a1] h nx K0 =
 sBox a0 h nx fun v1 h2 n3 => zO 1 v1 fun v4 => zF v4 h2 fun v5 => zS 1 v5 a1 fun v6 => zF v6 h2 fun v7 => yQ [.nils] h2 n3 fun v8 h9 nG => zQ 1 v8 v7 h9 nG fun vB hG nH => zF v8 hG fun vE => sLen vE fun vF => sBin .eql .int vF (I 0) fun vG => zY vG (K0 (I 12) hG nH) (zF v8 hG fun vI => sLen vI fun vJ => IR.run F168.b2 C N (fnO F168.res K0) (IR.run F168.b9 C N (fnO F168.res K0) (retK F168.res K0)) (F168.fr a0 a1 v1 (I 0) v8 .undef .undef .undef vG vI vJ (I 0) .undef .undef) hG nH) := by
 rw [zH F168.tab]; kernel_rfl
theorem F168.L2 (Inv : Nat → AV → T Blk → Pa → Prop) {m : Nat} (hm : m < N) (hi : Inv m p h nx)
  (step : ∀ (m : Nat) (z3 z5 z6 z7 zB zC zD : AV) (h : T Blk) (nx : Pa) (R : Ks Prop), Inv m zB h nx → (∀ (m' : Nat) (w3 w5 w6 w7 wB wC wD : AV) (h' : T Blk) (nx' : Pa), m' < m → Inv m' wB h' nx' → R (F168.fr b c e w3 f w5 w6 w7 o q a wB wC wD) h' nx' = .ok True) →
   (sBin .lss .int zB a fun v1 => zY v1 (zS 1 q zB fun v2 => zF v2 h fun v3 => sBin .lss .int v3 (I 0) fun v4 => sG v4 false (fun k => k v3) fun v5 => sG v4 false (fun k => zO 0 e k) fun v6 => sG v4 false (fun k => zF v6 h k) fun v7 => sG v4 false (fun k => sBin .geq .int v5 v7 k) fun v8 => gH v4 (.bool true) v8 fun v9 => C.fn 167 (.of 167) [v9, (I 10)] h nx fun vA hB nB => sBin .gtr .int zB (I 0) fun vD => sG vD true (fun k => zF f hB k) fun vE => sG vD true (fun k => k zB) fun vF => sG vD true (fun k => sBin .sub .int vF (I 1) k) fun vG => sG vD true (fun k => zS 1 vE vG k) fun vI => sG vD true (fun k => zF vI hB k) fun vJ => sG vD true (fun k => k v3) fun vK => sG vD true (fun k => sBin .geq .int vJ vK k) fun vL => gH vD vL (.bool false) fun vM => C.fn 167 (.of 167) [vM, (I 11)] hB nB fun vW hF nF => jH 1 2 [(I 0)] [(0, 1, vA), (1, 1, vW)] hF nF fun vX hH nI => C.fn 165 (.of 165) [vX] hH nI fun v28 hI nJ => sBin .neq .int v28 (I 0) fun vS => zY vS (K0 v28 hI nJ) (sBin .add .int zB (I 1) fun vR => R (F168.fr b c e z3 f zB v3 v28 o q a vR v1 vS) hI nJ)) (K (F168.fr b c e z3 f z5 z6 z7 o q a zB v1 zD) h nx)) = .ok True) :
  IR.run F168.b2 C N (fnO F168.res K0) K (F168.fr b c e g f i d l o q a p u s) h nx = .ok True := by
 rw [F168.b2, F168.g2_eq, F168.b3]
 refine yJ (fun m tm h nx => ∃ z3 z5 z6 z7 zB zC zD, tm = (F168.fr b c e z3 f z5 z6 z7 o q a zB zC zD) ∧ Inv m zB h nx) ?_ hm ⟨_, _, _, _, _, _, _, rfl, hi⟩
 rintro m tm h nx R ⟨z3, z5, z6, z7, zB, zC, zD, rfl, hi⟩ hR
 refine Eq.trans ?_ (step m z3 z5 z6 z7 zB zC zD h nx R hi fun m' w3 w5 w6 w7 wB wC wD h' nx' hlt hi' => hR m' _ h' nx' hlt ⟨_, _, _, _, _, _, _, rfl, hi'⟩)
 kernel_rfl
theorem F168.k9 : IR.run F168.b9 C N (fnO F168.res K0) K (F168.fr b c e g f i d l o q a p u s) h nx =
 zO 1 e fun v1 => zF v1 h fun v2 => gG 1 v2 none (some c) none fun v3 => C.fn 216 (.of 216) [v3, (.fn 217 (.of 217) [f])] h nx fun v4 h5 n6 => C.fn 167 (.of 167) [v4, (I 9)] h5 n6 fun v7 h8 n9 => K0 v7 h8 n9 := by kernel_rfl
end Go.Ev
namespace Go.Ev
open Go Go.Proofs
set_option maxRecDepth 100000
variable {N : Nat} {C : Calls Prop} {K0 : Kw Prop} {K R : Ks Prop} {h : T Blk} {nx : Pa} {b c e g f i d l o q a p u s v w y z a0 a1 : AV}
end Go.Ev
namespace Go.Ev
open Go Go.Proofs
set_option maxRecDepth 100000
variable {N : Nat} {C : Calls Prop} {K0 : Kw Prop} {K R : Ks Prop} {h : T Blk} {nx : Pa} {b c e g f i d l o q a p u s a0 a1 : AV}
theorem F201.g1_eq (X2 : IR) (O : Outs Prop) (t : T AV) : IR.run (F201.g1 X2) C N O K t h nx = IR.run X2 C N (O.blk 0 K) K t h nx := by kernel_rfl
theorem F201.tab : T.get none (.of 201) tbl = some F201 := by kernel_rfl
theorem F201.go : zT tbl N C (.of 201) [a0, a1] h nx K0 =
 sLen a0 fun v1 => IR.run F201.b1 C N (fnO F201.res K0) (IR.run F201.b9 C N (fnO F201.res K0) (retK F201.res K0)) (F201.fr a0 a1 (I 0) .undef .undef .undef .undef a0 v1 (I 0) .undef .undef .undef .undef) h nx := by
 rw [zH F201.tab]; kernel_rfl
theorem F201.L1 (Inv : Nat → AV → T Blk → Pa → Prop) {m : Nat} (hm : m < N) (hi : Inv m q h nx)
  (step : ∀ (m : Nat) (z2 z3 z4 z5 z6 z9 zA zB zC : AV) (h : T Blk) (nx : Pa) (R : Ks Prop), Inv m z9 h nx → (∀ (m' : Nat) (w2 w3 w4 w5 w6 w9 wA wB wC : AV) (h' : T Blk) (nx' : Pa), m' < m → Inv m' w9 h' nx' → R (F201.fr b c w2 w3 w4 w5 w6 l o w9 wA wB wC s) h' nx' = .ok True) →
   (sBin .lss .int z9 o fun v1 => zY v1 (zS 1 l z9 fun v2 => zF v2 h fun v3 => sLen c fun v4 => sBin .geq .int z9 v4 fun v5 => zY v5 (K0 (I 1) h nx) (zS 1 c z9 fun v6 => zF v6 h fun v7 => C.fn 244 (.of 244) [v3, v7] h nx fun v8 h9 nG => sBin .neq .int v8 (I 0) fun vB => zY vB (K0 v8 h9 nG) (sBin .add .int z9 (I 1) fun vC => R (F201.fr b c z2 z9 v3 v7 v8 l o vC v1 v5 vB s) h9 nG))) (K (F201.fr b c z2 z3 z4 z5 z6 l o z9 v1 zB zC s) h nx)) = .ok True) :
  IR.run F201.b1 C N (fnO F201.res K0) K (F201.fr b c e g f i d l o q a p u s) h nx = .ok True := by
 rw [F201.b1, F201.g1_eq, F201.b2]
 refine yJ (fun m tm h nx => ∃ z2 z3 z4 z5 z6 z9 zA zB zC, tm = (F201.fr b c z2 z3 z4 z5 z6 l o z9 zA zB zC s) ∧ Inv m z9 h nx) ?_ hm ⟨_, _, _, _, _, _, _, _, _, rfl, hi⟩
 rintro m tm h nx R ⟨z2, z3, z4, z5, z6, z9, zA, zB, zC, rfl, hi⟩ hR
 refine Eq.trans ?_ (step m z2 z3 z4 z5 z6 z9 zA zB zC h nx R hi fun m' w2 w3 w4 w5 w6 w9 wA wB wC h' nx' hlt hi' => hR m' _ h' nx' hlt ⟨_, _, _, _, _, _, _, _, _, rfl, hi'⟩)
 kernel_rfl
theorem F201.k9 : IR.run F201.b9 C N (fnO F201.res K0) K (F201.fr b c e g f i d l o q a p u s) h nx =
 sLen b fun v1 => sLen c fun v2 => sBin .lss .int v1 v2 fun v3 => zY v3 (K0 (I (-1)) h nx) (K0 (I 0) h nx) := by kernel_rfl
theorem F244.tab : T.get none (.of 244) tbl = some F244 := by kernel_rfl
theorem F244.go : zT tbl N C (.of 244) [a0, a1] h nx K0 =
 C.fn 250 (.of 250) [a0] h nx fun v1 h2 n3 => C.fn 250 (.of 250) [a1] h2 n3 fun v4 h5 n6 => zY v1 (zY v4 (K0 (I 0) h5 n6) (K0 (I (-1)) h5 n6)) (zY v4 (K0 (I 1) h5 n6) (sBin .lss .int a0 a1 fun v7 => zY v7 (K0 (I (-1)) h5 n6) (sBin .gtr .int a0 a1 fun v8 => zY v8 (K0 (I 1) h5 n6) (K0 (I 0) h5 n6)))) := by
 rw [zH F244.tab]; kernel_rfl
theorem F250.tab : T.get none (.of 250) tbl = some F250 := by kernel_rfl
theorem F250.go : zT tbl N C (.of 250) [a0] h nx K0 =
 sBin .neq .int a0 a0 fun v1 => K0 v1 h nx := by
 rw [zH F250.tab]; kernel_rfl
end Go.Ev
namespace Go.Ev
open Go Go.Proofs
set_option maxRecDepth 100000
variable {N : Nat} {C : Calls Prop} {K0 : Kw Prop} {K R : Ks Prop} {h : T Blk} {nx : Pa} {b c e g f i d l o q a p a0 a1 : AV}
theorem F97.g1_eq (X2 : IR) (O : Outs Prop) (t : T AV) : IR.run (F97.g1 X2) C N O K t h nx = IR.run X2 C N (O.blk 0 K) K t h nx := by kernel_rfl
theorem F97.tab : T.get none (.of 97) tbl = some F97 := by kernel_rfl
theorem F97.go : zT tbl N C (.of 97) [a0, a1] h nx K0 =
 sLen a0 fun v1 => IR.run F97.b1 C N (fnO F97.res K0) (IR.run F97.b8 C N (fnO F97.res K0) (retK F97.res K0)) (F97.fr a0 a1 (I 0) .undef .undef a0 v1 (I 0) .undef .undef) h nx := by
 rw [zH F97.tab]; kernel_rfl
theorem F97.L1 (Inv : Nat → AV → T Blk → Pa → Prop) {m : Nat} (hm : m < N) (hi : Inv m l h nx)
  (step : ∀ (m : Nat) (z2 z3 z4 z7 z8 z9 : AV) (h : T Blk) (nx : Pa) (R : Ks Prop), Inv m z7 h nx → (∀ (m' : Nat) (w2 w3 w4 w7 w8 w9 : AV) (h' : T Blk) (nx' : Pa), m' < m → Inv m' w7 h' nx' → R (F97.fr b c w2 w3 w4 i d w7 w8 w9) h' nx' = .ok True) →
   (sBin .lss .int z7 d fun v1 => zY v1 (zS 2 i z7 fun v2 => zJ 2 v2 h fun v3 => yQ [.nils, (.bool false)] h nx fun v4 h5 n6 => zQ 2 v4 v3 h5 n6 fun v7 h8 n9 => zJ 2 v4 h8 fun vA => C.fn 56 (.of 56) [vA, c] h8 n9 fun vB hG nH => sBin .neq .int vB (I 0) fun vE => zY vE (K0 vB hG nH) (sBin .add .int z7 (I 1) fun vF => R (F97.fr b c z2 v4 vB i d vF v1 vE) hG nH)) (K (F97.fr b c z2 z3 z4 i d z7 v1 z9) h nx)) = .ok True) :
  IR.run F97.b1 C N (fnO F97.res K0) K (F97.fr b c e g f i d l o q) h nx = .ok True := by
 rw [F97.b1, F97.g1_eq, F97.b2]
 refine yJ (fun m tm h nx => ∃ z2 z3 z4 z7 z8 z9, tm = (F97.fr b c z2 z3 z4 i d z7 z8 z9) ∧ Inv m z7 h nx) ?_ hm ⟨_, _, _, _, _, _, rfl, hi⟩
 rintro m tm h nx R ⟨z2, z3, z4, z7, z8, z9, rfl, hi⟩ hR
 refine Eq.trans ?_ (step m z2 z3 z4 z7 z8 z9 h nx R hi fun m' w2 w3 w4 w7 w8 w9 h' nx' hlt hi' => hR m' _ h' nx' hlt ⟨_, _, _, _, _, _, rfl, hi'⟩)
 kernel_rfl
theorem F97.k8 : IR.run F97.b8 C N (fnO F97.res K0) K (F97.fr b c e g f i d l o q) h nx =
 K0 (I 0) h nx := by kernel_rfl
theorem F90.tab : T.get none (.of 90) tbl = some F90 := by kernel_rfl
theorem F90.go : zT tbl N C (.of 90) [a0] h nx K0 =
 sBox a0 h nx fun v1 h2 n3 => K0 (.fn 159 (.of 159) [v1]) h2 n3 := by
 rw [zH F90.tab]; kernel_rfl
theorem F162.tab : T.get none (.of 162) tbl = some F162 := by kernel_rfl
theorem F162.go : zT tbl N C (.of 162) [a0, a1] h nx K0 =
 sBox a0 h nx fun v1 h2 n3 => sBox a1 h2 n3 fun v4 h5 n6 => zO 0 v1 fun v7 => zF v7 h5 fun v8 => zO 0 v4 fun v9 => zF v9 h5 fun vA => C.fn 201 (.of 201) [v8, vA] h5 n6 fun vB hG nH => sBin .neq .int vB (I 0) fun vE => sG vE false (fun k => zO 1 v1 k) fun vF => sG vE false (fun k => zF vF hG k) fun vG => sG vE false (fun k => zO 1 v4 k) fun vI => sG vE false (fun k => zF vI hG k) fun vJ => sG vE false (fun k => sBin .eql .bool vG vJ k) fun vK => gH vE (.bool true) vK fun vL => zY vL (K0 vB hG nH) ((IR.run F162.b1 C N (fnO F162.res K0) (retK F162.res K0)) (F162.fr a0 a1 v1 v4 (I 0) vB vL .undef) hG nH) := by
 rw [zH F162.tab]; kernel_rfl
theorem F162.k1 : IR.run F162.b1 C N (fnO F162.res K0) K (F162.fr b c e g f i d l) h nx =
 zO 1 e fun v1 => zF v1 h fun v2 => zY v2 (K0 (I 1) h nx) (K0 (I (-1)) h nx) := by kernel_rfl
theorem F56.tab : T.get none (.of 56) tbl = some F56 := by kernel_rfl
theorem F56.go : zT tbl N C (.of 56) [a0, a1] h nx K0 =
 sBox a0 h nx fun v1 h2 n3 => zO 0 v1 fun v4 => zF v4 h2 fun v5 => sLen v5 fun v6 => sBin .neq .int v6 a1 fun v7 => zO 0 v1 fun v8 => zF v8 h2 fun v9 => C.fn 95 (.of 95) [a1] h2 n3 fun vA hB nB => (zF v8 hB fun vN => zI vN v9 ((zO 0 v1 fun vO => zI vO v8 ((sBin .neq .int v6 a1 fun vP => zI vP v7 (zI a1 a1 ((sLen v5 fun vQ => zI vQ v6 ((zF v4 hB fun vR => zI vR v5 ((zO 0 v1 fun vS => zI vS v4 (C.fn 96 (.of 96) [v7, (I 2)] hB nB fun vD hC nC => (zF v8 hC fun vU => zI vU v9 ((zO 0 v1 fun vV => zI vV v8 (C.fn 140 (.of 140) [v9] hC nC fun vG hD nD => sNot vG fun vK => C.fn 96 (.of 96) [vK, (I 14)] hD nD fun vL hJ nK => jH 1 3 [(I 0)] [(0, 1, vA), (1, 1, vD), (2, 1, vL)] hJ nK fun v23 hK nL => C.fn 94 (.of 94) [v23] hK nL fun vY hL nM => K0 vY hL nM))))))))))))))))) := by
 rw [zH F56.tab]; kernel_rfl
theorem F159.g1_eq (X2 : IR) (O : Outs Prop) (t : T AV) : IR.run (F159.g1 X2) C N O K t h nx = IR.run X2 C N (O.blk 0 K) K t h nx := by kernel_rfl
theorem F159.tab : T.get none (.of 159) tbl = some F159 := by kernel_rfl
theorem F159.go : zT tbl N C (.of 159) [a0, a1] h nx K0 =
 zF a1 h fun v1 => sLen v1 fun v2 => IR.run F159.b1 C N (fnO F159.res K0) (retK F159.res K0) (F159.fr a0 a1 .undef .undef v1 v2 (I 0) .undef .undef) h nx := by
 rw [zH F159.tab]; kernel_rfl
theorem F159.L1 (Inv : Nat → AV → T Blk → Pa → Prop) {m : Nat} (hm : m < N) (hi : Inv m d h nx)
  (step : ∀ (m : Nat) (z2 z3 z6 z7 z8 : AV) (h : T Blk) (nx : Pa) (R : Ks Prop), Inv m z6 h nx → (∀ (m' : Nat) (w2 w3 w6 w7 w8 : AV) (h' : T Blk) (nx' : Pa), m' < m → Inv m' w6 h' nx' → R (F159.fr b c w2 w3 f i w6 w7 w8) h' nx' = .ok True) →
   (sBin .lss .int z6 i fun v1 => zY v1 (zS 2 f z6 fun v2 => zJ 2 v2 h fun v3 => yQ [.nils, (.bool false)] h nx fun v4 h5 n6 => zQ 2 v4 v3 h5 n6 fun v7 h8 n9 => zJ 2 v4 h8 fun vA => sCall C b [z6, vA] h8 n9 fun vB hG nH => sNot vB fun vE => zY vE (K0 (.tup []) hG nH) (sBin .add .int z6 (I 1) fun vF => R (F159.fr b c z6 v4 f i vF v1 vE) hG nH)) (K (F159.fr b c z2 z3 f i z6 v1 z8) h nx)) = .ok True) :
  IR.run F159.b1 C N (fnO F159.res K0) K (F159.fr b c e g f i d l o) h nx = .ok True := by
 rw [F159.b1, F159.g1_eq, F159.b2]
 refine yJ (fun m tm h nx => ∃ z2 z3 z6 z7 z8, tm = (F159.fr b c z2 z3 f i z6 z7 z8) ∧ Inv m z6 h nx) ?_ hm ⟨_, _, _, _, _, rfl, hi⟩
 rintro m tm h nx R ⟨z2, z3, z6, z7, z8, rfl, hi⟩ hR
 refine Eq.trans ?_ (step m z2 z3 z6 z7 z8 h nx R hi fun m' w2 w3 w6 w7 w8 h' nx' hlt hi' => hR m' _ h' nx' hlt ⟨_, _, _, _, _, rfl, hi'⟩)
 kernel_rfl
theorem F163.g1_eq (X2 : IR) (O : Outs Prop) (t : T AV) : IR.run (F163.g1 X2) C N O K t h nx = IR.run X2 C N (O.blk 0 K) K t h nx := by kernel_rfl
theorem F163.tab : T.get none (.of 163) tbl = some F163 := by kernel_rfl
theorem F163.go : zT tbl N C (.of 163) [a0] h nx K0 =
 yQ [.nils, (.bool false)] h nx fun v1 h2 n3 => u5 1 8 [(I 0)] a0 a0 h2 n3 fun v4 h5 n6 => kC [.nils, (.bool false)] [(0, 1, v4)] fun v7 => yQ [.nils, (.bool false)] h5 n6 fun v8 h9 nG => zQ 2 v8 v7 h9 nG fun vB hG nH => zO 0 v8 fun vE => zF vE hG fun vF => sLen vF fun vG => IR.run F163.b1 C N (fnO F163.res K0) (IR.run F163.b8 C N (fnO F163.res K0) (retK F163.res K0)) (F163.fr a0 v1 v8 .undef vG (I 0) .undef) hG nH := by
 rw [zH F163.tab]; kernel_rfl
theorem F163.L1 (Inv : Nat → AV → T Blk → Pa → Prop) {m : Nat} (hm : m < N) (hi : Inv m i h nx)
  (step : ∀ (m : Nat) (z3 z5 z6 : AV) (h : T Blk) (nx : Pa) (R : Ks Prop), Inv m z5 h nx → (∀ (m' : Nat) (w3 w5 w6 : AV) (h' : T Blk) (nx' : Pa), m' < m → Inv m' w5 h' nx' → R (F163.fr b c e w3 f w5 w6) h' nx' = .ok True) →
   (sBin .lss .int z5 f fun v1 => zY v1 (zO 0 e fun v2 => zF v2 h fun v3 => zS 1 v3 z5 fun v4 => zQ 1 v4 z5 h nx fun v5 h6 n7 => sBin .add .int z5 (I 1) fun v8 => R (F163.fr b c e z5 f v8 v1) h6 n7) (K (F163.fr b c e z3 f z5 v1) h nx)) = .ok True) :
  IR.run F163.b1 C N (fnO F163.res K0) K (F163.fr b c e g f i d) h nx = .ok True := by
 rw [F163.b1, F163.g1_eq, F163.b2]
 refine yJ (fun m tm h nx => ∃ z3 z5 z6, tm = (F163.fr b c e z3 f z5 z6) ∧ Inv m z5 h nx) ?_ hm ⟨_, _, _, rfl, hi⟩
 rintro m tm h nx R ⟨z3, z5, z6, rfl, hi⟩ hR
 refine Eq.trans ?_ (step m z3 z5 z6 h nx R hi fun m' w3 w5 w6 h' nx' hlt hi' => hR m' _ h' nx' hlt ⟨_, _, _, rfl, hi'⟩)
 kernel_rfl
theorem F163.k8 : IR.run F163.b8 C N (fnO F163.res K0) K (F163.fr b c e g f i d) h nx =
 zJ 2 e h fun v1 => zQ 2 c v1 h nx fun v2 h3 n4 => zJ 2 c h3 fun v5 => K0 v5 h3 n4 := by kernel_rfl
theorem F123.g1_eq (X2 : IR) (O : Outs Prop) (t : T AV) : IR.run (F123.g1 X2) C N O K t h nx = IR.run X2 C N (O.blk 0 K) K t h nx := by kernel_rfl
theorem F123.tab : T.get none (.of 123) tbl = some F123 := by kernel_rfl
theorem F123.go : zT tbl N C (.of 123) [a0] h nx K0 =
 sBox a0 h nx fun v1 h2 n3 => zO 0 v1 fun v4 => zF v4 h2 fun v5 => sLen v5 fun v6 => sBin .add .int v6 (I 1) fun v7 => u5 1 1 [(.int .u8 0)] (I 0) v7 h2 n3 fun v8 h9 nG => zO 0 v1 fun vB => zF vB h9 fun vC => sLen vC fun vD => IR.run F123.b1 C N (fnO F123.res K0) (IR.run F123.b8 C N (fnO F123.res K0) (retK F123.res K0)) (F123.fr a0 v1 (.str []) v8 .undef vC vD (I 0) .undef .undef) h9 nG := by
 rw [zH F123.tab]; kernel_rfl
theorem F123.L1 (Inv : Nat → AV → AV → T Blk → Pa → Prop) {m : Nat} (hm : m < N) (hi : Inv m g l h nx)
  (step : ∀ (m : Nat) (z3 z4 z7 z8 : AV) (h : T Blk) (nx : Pa) (R : Ks Prop), Inv m z3 z7 h nx → (∀ (m' : Nat) (w3 w4 w7 w8 : AV) (h' : T Blk) (nx' : Pa), m' < m → Inv m' w3 w7 h' nx' → R (F123.fr b c e w3 w4 i d w7 w8 q) h' nx' = .ok True) →
   (sBin .lss .int z7 d fun v1 => zY v1 (zS 1 i z7 fun v2 => zF v2 h fun v3 => sConv .u8 v3 fun v4 => jH 1 1 [(.int .u8 0)] [(0, 1, v4)] h nx fun v5 h6 n7 => sApp 1 1 z3 v5 h6 n7 fun v8 h9 nG => sBin .add .int z7 (I 1) fun vB => R (F123.fr b c e v8 v3 i d vB v1 q) h9 nG) (K (F123.fr b c e z3 z4 i d z7 v1 q) h nx)) = .ok True) :
  IR.run F123.b1 C N (fnO F123.res K0) K (F123.fr b c e g f i d l o q) h nx = .ok True := by
 rw [F123.b1, F123.g1_eq, F123.b2]
 refine yJ (fun m tm h nx => ∃ z3 z4 z7 z8, tm = (F123.fr b c e z3 z4 i d z7 z8 q) ∧ Inv m z3 z7 h nx) ?_ hm ⟨_, _, _, _, rfl, hi⟩
 rintro m tm h nx R ⟨z3, z4, z7, z8, rfl, hi⟩ hR
 refine Eq.trans ?_ (step m z3 z4 z7 z8 h nx R hi fun m' w3 w4 w7 w8 h' nx' hlt hi' => hR m' _ h' nx' hlt ⟨_, _, _, _, rfl, hi'⟩)
 kernel_rfl
theorem F123.k8 : IR.run F123.b8 C N (fnO F123.res K0) K (F123.fr b c e g f i d l o q) h nx =
 zO 1 c fun v1 => zF v1 h fun v2 => zY v2 (jH 1 1 [(.int .u8 0)] [(0, 1, (.int .u8 1))] h nx fun v3 h4 n5 => sApp 1 1 g v3 h4 n5 fun v6 h7 n8 => sB2s v6 h7 fun v9 => K0 v9 h7 n8) (sB2s g h fun vA => K0 vA h nx) := by kernel_rfl
theorem F121.tab : T.get none (.of 121) tbl = some F121 := by kernel_rfl
theorem F121.go : zT tbl N C (.of 121) [a0, a1] h nx K0 =
 sBox a1 h nx fun v1 h2 n3 => zJ 2 v1 h2 fun v4 => C.fn 123 (.of 123) [v4] h2 n3 fun v5 h6 n7 => sLook .str (.agg [.nils, (.bool false)]) true a0 v5 h6 fun v8 => sExt 0 v8 fun v9 => sExt 1 v8 fun vA => yQ [.nils, (.bool false)] h6 n7 fun vB hG nH => zQ 2 vB v9 hG nH fun vE hA nA => K0 vA hA nA := by
 rw [zH F121.tab]; kernel_rfl
theorem F122.g1_eq (X2 : IR) (O : Outs Prop) (t : T AV) : IR.run (F122.g1 X2) C N O K t h nx = IR.run X2 C N (O.blk 0 K) K t h nx := by kernel_rfl
theorem F122.tab : T.get none (.of 122) tbl = some F122 := by kernel_rfl
theorem F122.go : zT tbl N C (.of 122) [a0, a1] h nx K0 =
 sBox a0 h nx fun v1 h2 n3 => sBox a1 h2 n3 fun v4 h5 n6 => yQ [.nils, (.bool false)] h5 n6 fun v7 h8 n9 => sChk (true && true) (zO 0 v4 fun vA => zF vA h8 fun vB => sLen vB fun vC => sChk (mkSl 8 vC vC && true) (zO 1 v1 fun vD => zF vD h8 fun vE => zO 1 v4 fun vF => zF vF h8 fun vG => sBin .neq .bool vE vG fun vI => u5 1 8 [(I 0)] vC vC h8 n9 fun vJ hM nN => (sBin .neq .bool vE vG fun v47 => zI v47 vI ((zF vF hM fun v46 => zI v46 vG ((zO 1 v4 fun v45 => zI v45 vF ((zF vD hM fun v44 => zI v44 vE ((zO 1 v1 fun v43 => zI v43 vD ((sLen vB fun v42 => zI v42 vC ((zF vA hM fun v41 => zI v41 vB ((zO 0 v4 fun v40 => zI v40 vA (kC [.nils, (.bool false)] [(0, 1, vJ), (1, 1, vI)] fun vM => yQ [.nils, (.bool false)] hM nN fun vW hF nF => (kC [.nils, (.bool false)] [(0, 1, vJ), (1, 1, vI)] fun v39 => zI v39 vM ((sBin .neq .bool vE vG fun v38 => zI v38 vI ((zF vF hF fun v37 => zI v37 vG ((zO 1 v4 fun vN => zI vN vF ((zF vD hF fun vO => zI vO vE ((zO 1 v1 fun vP => zI vP vD ((sLen vB fun vQ => zI vQ vC ((zF vA hF fun vR => zI vR vB ((zO 0 v4 fun vS => zI vS vA (zQ 2 vW vM hF nF fun vX hH nI => zO 0 v4 fun v28 => zF v28 hH fun vV => sLen vV fun vU => IR.run F122.b1 C N (fnO F122.res K0) (IR.run F122.b8 C N (fnO F122.res K0) (retK F122.res K0)) (F122.fr a0 a1 v1 v4 v7 vW .undef .undef vV vU (I 0) .undef) hH nI)))))))))))))))))))))))))))))))))))) := by
 rw [zH F122.tab]; kernel_rfl
theorem F122.L1 (Inv : Nat → AV → T Blk → Pa → Prop) {m : Nat} (hm : m < N) (hi : Inv m a h nx)
  (step : ∀ (m : Nat) (z6 z7 zA zB : AV) (h : T Blk) (nx : Pa) (R : Ks Prop), Inv m zA h nx → (∀ (m' : Nat) (w6 w7 wA wB : AV) (h' : T Blk) (nx' : Pa), m' < m → Inv m' wA h' nx' → R (F122.fr b c e g f i w6 w7 o q wA wB) h' nx' = .ok True) →
   (sBin .lss .int zA q fun v1 => zY v1 (zS 1 o zA fun v2 => zF v2 h fun v3 => zO 0 i fun v4 => zF v4 h fun v5 => zO 0 e fun v6 => zF v6 h fun v7 => zS 1 v7 v3 fun v8 => zF v8 h fun v9 => zS 1 v5 zA fun vA => zQ 1 vA v9 h nx fun vB hG nH => sBin .add .int zA (I 1) fun vE => R (F122.fr b c e g f i zA v3 o q vE v1) hG nH) (K (F122.fr b c e g f i z6 z7 o q zA v1) h nx)) = .ok True) :
  IR.run F122.b1 C N (fnO F122.res K0) K (F122.fr b c e g f i d l o q a p) h nx = .ok True := by
 rw [F122.b1, F122.g1_eq, F122.b2]
 refine yJ (fun m tm h nx => ∃ z6 z7 zA zB, tm = (F122.fr b c e g f i z6 z7 o q zA zB) ∧ Inv m zA h nx) ?_ hm ⟨_, _, _, _, rfl, hi⟩
 rintro m tm h nx R ⟨z6, z7, zA, zB, rfl, hi⟩ hR
 refine Eq.trans ?_ (step m z6 z7 zA zB h nx R hi fun m' w6 w7 wA wB h' nx' hlt hi' => hR m' _ h' nx' hlt ⟨_, _, _, _, rfl, hi'⟩)
 kernel_rfl
theorem F122.k8 : IR.run F122.b8 C N (fnO F122.res K0) K (F122.fr b c e g f i d l o q a p) h nx =
 zJ 2 i h fun v1 => zQ 2 f v1 h nx fun v2 h3 n4 => zJ 2 f h3 fun v5 => K0 v5 h3 n4 := by kernel_rfl
theorem F140.tab : T.get none (.of 140) tbl = some F140 := by kernel_rfl
theorem F140.go : zT tbl N C (.of 140) [a0] h nx K0 =
 C.fn 198 (.of 198) [a0] h nx fun v1 h2 n3 => sBin .eql .int v1 (I 0) fun v4 => K0 v4 h2 n3 := by
 rw [zH F140.tab]; kernel_rfl
theorem F198.g2_eq (X3 : IR) (O : Outs Prop) (t : T AV) : IR.run (F198.g2 X3) C N O K t h nx = IR.run X3 C N (O.blk 0 K) K t h nx := by kernel_rfl
theorem F198.tab : T.get none (.of 198) tbl = some F198 := by kernel_rfl
theorem F198.go : zT tbl N C (.of 198) [a0] h nx K0 =
 sLen a0 fun v1 => sBin .gtr .int v1 (I 256) fun v2 => zY v2 (K0 (I 5) h nx) (sLen a0 fun v3 => u5 1 1 [(.bool false)] v3 v3 h nx fun v4 h5 n6 => sLen a0 fun v7 => IR.run F198.b2 C N (fnO F198.res K0) (IR.run F198.b10 C N (fnO F198.res K0) (retK F198.res K0)) (F198.fr a0 (I 0) v4 .undef v2 a0 v7 (I 0) .undef .undef) h5 n6) := by
 rw [zH F198.tab]; kernel_rfl
theorem F198.L2 (Inv : Nat → AV → T Blk → Pa → Prop) {m : Nat} (hm : m < N) (hi : Inv m l h nx)
  (step : ∀ (m : Nat) (z1 z3 z7 z8 z9 : AV) (h : T Blk) (nx : Pa) (R : Ks Prop), Inv m z7 h nx → (∀ (m' : Nat) (w1 w3 w7 w8 w9 : AV) (h' : T Blk) (nx' : Pa), m' < m → Inv m' w7 h' nx' → R (F198.fr b w1 e w3 f i d w7 w8 w9) h' nx' = .ok True) →
   (sBin .lss .int z7 d fun v1 => zY v1 (zS 1 i z7 fun v2 => zF v2 h fun v3 => sBin .lss .int v3 (I 0) fun v4 => sG v4 false (fun k => k v3) fun v5 => sG v4 false (fun k => k b) fun v6 => sG v4 false (fun k => sLen v6 k) fun v7 => sG v4 false (fun k => sBin .geq .int v5 v7 k) fun v8 => gH v4 (.bool true) v8 fun v9 => sG v9 false (fun k => k e) fun vA => sG v9 false (fun k => k v3) fun vB => sG v9 false (fun k => zS 1 vA vB k) fun vC => sG v9 false (fun k => zF vC h k) fun vD => gH v9 (.bool true) vD fun vE => zY vE (K0 (I 14) h nx) ((IR.run F198.b8 C N (((fnO F198.res K0).blk 0 K).blk 1 (IR.run F198.b9 C N ((fnO F198.res K0).blk 0 K) R)) (IR.run F198.b9 C N ((fnO F198.res K0).blk 0 K) R)) (F198.fr b z1 e v3 f i d z7 v1 vE) h nx)) (K (F198.fr b z1 e z3 f i d z7 v1 z9) h nx)) = .ok True) :
  IR.run F198.b2 C N (fnO F198.res K0) K (F198.fr b c e g f i d l o q) h nx = .ok True := by
 rw [F198.b2, F198.g2_eq, F198.b3]
 refine yJ (fun m tm h nx => ∃ z1 z3 z7 z8 z9, tm = (F198.fr b z1 e z3 f i d z7 z8 z9) ∧ Inv m z7 h nx) ?_ hm ⟨_, _, _, _, _, rfl, hi⟩
 rintro m tm h nx R ⟨z1, z3, z7, z8, z9, rfl, hi⟩ hR
 refine Eq.trans ?_ (step m z1 z3 z7 z8 z9 h nx R hi fun m' w1 w3 w7 w8 w9 h' nx' hlt hi' => hR m' _ h' nx' hlt ⟨_, _, _, _, _, rfl, hi'⟩)
 kernel_rfl
theorem F198.k10 : IR.run F198.b10 C N (fnO F198.res K0) K (F198.fr b c e g f i d l o q) h nx =
 K0 (I 0) h nx := by kernel_rfl
theorem F198.k9 {E0 : Ks Prop} : IR.run F198.b9 C N ((fnO F198.res K0).blk 0 E0) K (F198.fr b c e g f i d l o q) h nx =
 sBin .add .int l (I 1) fun v1 => K (F198.fr b c e g f i d v1 o q) h nx := by kernel_rfl
theorem F198.k8 {E0 E1 : Ks Prop} : IR.run F198.b8 C N (((fnO F198.res K0).blk 0 E0).blk 1 E1) K (F198.fr b c e g f i d l o q) h nx =
 zS 1 e g fun v1 => zQ 1 v1 (.bool true) h nx fun v2 h3 n4 => K (F198.fr b c e g f i d l o q) h3 n4 := by kernel_rfl
theorem F94.g1_eq (X2 : IR) (O : Outs Prop) (t : T AV) : IR.run (F94.g1 X2) C N O K t h nx = IR.run X2 C N (O.blk 0 K) K t h nx := by kernel_rfl
theorem F94.tab : T.get none (.of 94) tbl = some F94 := by kernel_rfl
theorem F94.go : zT tbl N C (.of 94) [a0] h nx K0 =
 sLen a0 fun v1 => IR.run F94.b1 C N (fnO F94.res K0) (IR.run F94.b8 C N (fnO F94.res K0) (retK F94.res K0)) (F94.fr a0 (I 0) .undef a0 v1 (I 0) .undef .undef) h nx := by
 rw [zH F94.tab]; kernel_rfl
theorem F94.L1 (Inv : Nat → AV → T Blk → Pa → Prop) {m : Nat} (hm : m < N) (hi : Inv m i h nx)
  (step : ∀ (m : Nat) (z1 z2 z5 z6 z7 : AV) (h : T Blk) (nx : Pa) (R : Ks Prop), Inv m z5 h nx → (∀ (m' : Nat) (w1 w2 w5 w6 w7 : AV) (h' : T Blk) (nx' : Pa), m' < m → Inv m' w5 h' nx' → R (F94.fr b w1 w2 g f w5 w6 w7) h' nx' = .ok True) →
   (sBin .lss .int z5 f fun v1 => zY v1 (zS 1 g z5 fun v2 => zF v2 h fun v3 => sBin .neq .int v3 (I 0) fun v4 => zY v4 (K0 v3 h nx) (sBin .add .int z5 (I 1) fun v5 => R (F94.fr b z1 v3 g f v5 v1 v4) h nx)) (K (F94.fr b z1 z2 g f z5 v1 z7) h nx)) = .ok True) :
  IR.run F94.b1 C N (fnO F94.res K0) K (F94.fr b c e g f i d l) h nx = .ok True := by
 rw [F94.b1, F94.g1_eq, F94.b2]
 refine yJ (fun m tm h nx => ∃ z1 z2 z5 z6 z7, tm = (F94.fr b z1 z2 g f z5 z6 z7) ∧ Inv m z5 h nx) ?_ hm ⟨_, _, _, _, _, rfl, hi⟩
 rintro m tm h nx R ⟨z1, z2, z5, z6, z7, rfl, hi⟩ hR
 refine Eq.trans ?_ (step m z1 z2 z5 z6 z7 h nx R hi fun m' w1 w2 w5 w6 w7 h' nx' hlt hi' => hR m' _ h' nx' hlt ⟨_, _, _, _, _, rfl, hi'⟩)
 kernel_rfl
theorem F94.k8 : IR.run F94.b8 C N (fnO F94.res K0) K (F94.fr b c e g f i d l) h nx =
 K0 (I 0) h nx := by kernel_rfl
theorem F95.tab : T.get none (.of 95) tbl = some F95 := by kernel_rfl
theorem F95.go : zT tbl N C (.of 95) [a0] h nx K0 =
 sBin .lss .int a0 (I 0) fun v1 => sG v1 false (fun k => k a0) fun v2 => sG v1 false (fun k => sBin .gtr .int v2 (I 256) k) fun v3 => gH v1 (.bool true) v3 fun v4 => C.fn 96 (.of 96) [v4, (I 3)] h nx fun v5 h6 n7 => K0 v5 h6 n7 := by
 rw [zH F95.tab]; kernel_rfl
theorem F96.tab : T.get none (.of 96) tbl = some F96 := by kernel_rfl
theorem F96.go : zT tbl N C (.of 96) [a0, a1] h nx K0 =
 zY a0 (K0 a1 h nx) (K0 (I 0) h nx) := by
 rw [zH F96.tab]; kernel_rfl
end Go.Ev
namespace Go.Ev
open Go Go.Proofs
set_option maxRecDepth 100000
variable {N : Nat} {C : Calls Prop} {K0 : Kw Prop} {K R : Ks Prop} {h : T Blk} {nx : Pa} {b c e g f i d l o q a p u s v w y z B A D E F G H a0 a1 a2 : AV}
theorem F98.g13_eq (X14 : IR) (O : Outs Prop) (t : T AV) : IR.run (F98.g13 X14) C N O K t h nx = IR.run X14 C N (O.blk 4 K) K t h nx := by kernel_rfl
theorem F98.g7_eq (X8 : IR) (O : Outs Prop) (t : T AV) : IR.run (F98.g7 X8) C N O K t h nx = IR.run X8 C N (O.blk 2 K) K t h nx := by kernel_rfl
theorem F98.tab : T.get none (.of 98) tbl = some F98 := by kernel_rfl
theorem F98.go : zT tbl N C (.of 98) [a0, a1, a2] h nx K0 =
 sBox a2 h nx fun v1 h2 n3 => yQ [.nilm] h2 n3 fun v4 h5 n6 => yQ [.nils] h5 n6 fun v7 h8 n9 => yQ [(.bool false)] h8 n9 fun vA hB nB => C.fn 163 (.of 163) [a1] hB nB fun vD hC nC => yQ [.nils, (.bool false)] hC nC fun vG hD nD => zQ 2 vG vD hD nD fun vK hE nE => sChk (true && (true && true)) (zJ 2 vG hE fun vW => zJ 2 vG hE fun v23 => C.fn 123 (.of 123) [vW] hE nE fun v24 hN nO => (zJ 2 vG hN fun v52 => zI v52 v23 ((zJ 2 vG hN fun v51 => zI v51 vW (pN hN nO fun vZ hO nP => (zJ 2 vG hO fun v50 => zI v50 v23 ((zJ 2 vG hO fun v49 => zI v49 vW (xD .str vZ v24 v23 hO nP fun vU hP nQ => (zJ 2 vG hP fun v48 => zI v48 v23 ((zJ 2 vG hP fun v47 => zI v47 vW (yQ [.nilm] hP nQ fun vQ hQ nR => zI vZ vZ ((zJ 2 vG hQ fun v46 => zI v46 v23 ((zJ 2 vG hQ fun v45 => zI v45 vW (zQ 1 vQ vZ hQ nR fun vN hS nS => yQ [.nils] hS nS fun v39 hT nT => C.fn 90 (.of 90) [a0] hT nT fun v42 hU nU => IR.run (.rf (.t (.of 14)) [(.of 15), (.of 16)] F98.b3 F98.b4) C N ((fnO F98.res K0).blk 0 (IR.run F98.b23 C N (fnO F98.res K0) (retK F98.res K0))) (IR.run F98.b23 C N (fnO F98.res K0) (retK F98.res K0)) (F98.fr a0 a1 a2 v1 v4 v7 vA vG vQ v39 .undef .undef .undef .undef v42 .undef .undef .undef .undef .undef .undef .undef .undef .undef .undef) hU nU)))))))))))))))))) := by
 rw [zH F98.tab]; kernel_rfl
theorem F98.k23 : IR.run F98.b23 C N (fnO F98.res K0) K (F98.fr b c e g f i d l o q a p u s v w y z B A D E F G H) h nx =
 zF o h fun v1 => zF q h fun v2 => zQ 1 f v1 h nx fun v3 h4 n5 => (zF q h4 fun vF => zI vF v2 (zQ 1 i v2 h4 n5 fun v6 h7 n8 => zQ 1 d (.bool true) h7 n8 fun v9 hV nV => zF f hV fun vC => zF i hV fun vD => zF d hV fun vE => K0 (.tup [vC, vD, vE]) hV nV)) := by kernel_rfl
theorem F98.p4 {N : Nat} {C : Calls Prop} {K0 : Kw Prop} {id nx : Pa} {j : Jump} {h : T Blk} {b c e g f i d l o q a p u s v w y z B A D E F G H z0 z1 : AV} (hl : T.get .no id h = .loop .ready j (F98.fr b c e g f i d l o q a p u s v w y z B A D E F G H) [.of 15, .of 16] F98.b3 F98.b4) :
 qV N C id [z0, z1] h nx K0 =
 yQ [.nils, (.bool false)] h nx fun v1 h2 n3 => zQ 2 v1 z1 h2 n3 fun v4 h5 n6 => rMid N C id K0 F98.b4 (F98.fr b c e g f i d l o q v1 p u s v z0 z1 z B A D E F G H) h5 n6 := by
 rw [rnd_gen hl (tm1 := (F98.fr b c e g f i d l o q a p u s v z0 z1 z B A D E F G H)) (by intro k; kernel_rfl)]; kernel_rfl
theorem F98.y4 {N : Nat} {C : Calls Prop} {K0 : Kw Prop} {id nx : Pa} {h : T Blk} {b c e g f i d l o q a p u s v w y z B A D E F G H : AV} :
 IR.run F98.b4 C N (rO id K0) (yY id K0 .none true) (F98.fr b c e g f i d l o q a p u s v w y z B A D E F G H) h nx =
 zF o h fun v1 => zJ 2 a h fun v2 => C.fn 121 (.of 121) [v1, v2] h nx fun v3 h4 n5 => zY v3 (yY id K0 .none true .e h4 n5) (zF q h4 fun v6 => zJ 2 a h4 fun v7 => jH 2 1 [.nils, (.bool false)] [(0, 2, v7)] h4 n5 fun v8 h9 nG => vH C 2 32 v6 v8 h9 nG fun vB hG nH => zQ 1 q vB hG nH fun vE hA nA => sChk (true && true) (zJ 2 l hA fun vI => zJ 2 l hA fun vJ => C.fn 123 (.of 123) [vI] hA nA fun vK hE nE => (zJ 2 l hE fun v38 => zI v38 vJ ((zJ 2 l hE fun v37 => zI v37 vI (pN hE nE fun vW hF nF => (zJ 2 l hF fun vN => zI vN vJ ((zJ 2 l hF fun vO => zI vO vI (xD .str vW vK vJ hF nF fun vX hH nI => zQ 1 o vW hH nI fun v28 hI nJ => zJ 2 l hI fun vS => jH 2 1 [.nils, (.bool false)] [(0, 2, vS)] hI nJ fun vR hW nW => IR.run F98.b7 C N ((rO id K0).blk 1 (yY id K0 .none true)) (yY id K0 .none true) (F98.fr b c e g f i d l o q a vR u s v w y v3 B A D E F G H) hW nW)))))))))) := by kernel_rfl
theorem F98.L7 {id : Pa} {E1 : Ks Prop} (Inv : Nat → AV → T Blk → Pa → Prop) {m : Nat} (hm : m < N) (hi : Inv m p h nx)
  (step : ∀ (m : Nat) (zB zC zD zE zG zK zL zM zN zP : AV) (h : T Blk) (nx : Pa) (R : Ks Prop), Inv m zB h nx → (∀ (m' : Nat) (wB wC wD wE wF wG wH wI wJ wK : AV) (h' : T Blk) (nx' : Pa), m' < m → Inv m' wB h' nx' → R (F98.fr b c e g f i d l o q a wB wC wD v w y z wE wF wG wH wI wJ wK) h' nx' = .ok True) →
   (sLen zB fun v1 => sBin .gtr .int v1 (I 0) fun v2 => zY v2 (zF q h fun v3 => sLen v3 fun v4 => IR.run F98.b13 C N ((((rO id K0).blk 1 E1).blk 2 K).blk 3 (IR.run F98.b22 C N (((rO id K0).blk 1 E1).blk 2 K) R)) (IR.run F98.b22 C N (((rO id K0).blk 1 E1).blk 2 K) R) (F98.fr b c e g f i d l o q a zB zC zD v w y z v2 v3 v4 (I 0) zM zN zP) h nx) (K (F98.fr b c e g f i d l o q a zB zC zD v w y z v2 zG zK zL zM zN zP) h nx)) = .ok True) :
  IR.run F98.b7 C N ((rO id K0).blk 1 E1) K (F98.fr b c e g f i d l o q a p u s v w y z B A D E F G H) h nx = .ok True := by
 rw [F98.b7, F98.g7_eq, F98.b8]
 refine yJ (fun m tm h nx => ∃ zB zC zD zE zG zK zL zM zN zP, tm = (F98.fr b c e g f i d l o q a zB zC zD v w y z zE zG zK zL zM zN zP) ∧ Inv m zB h nx) ?_ hm ⟨_, _, _, _, _, _, _, _, _, _, rfl, hi⟩
 rintro m tm h nx R ⟨zB, zC, zD, zE, zG, zK, zL, zM, zN, zP, rfl, hi⟩ hR
 refine Eq.trans ?_ (step m zB zC zD zE zG zK zL zM zN zP h nx R hi fun m' wB wC wD wE wF wG wH wI wJ wK h' nx' hlt hi' => hR m' _ h' nx' hlt ⟨_, _, _, _, _, _, _, _, _, _, rfl, hi'⟩)
 kernel_rfl
theorem F98.k22 {id : Pa} {E1 E2 : Ks Prop} : IR.run F98.b22 C N (((rO id K0).blk 1 E1).blk 2 E2) K (F98.fr b c e g f i d l o q a p u s v w y z B A D E F G H) h nx =
 gG 2 p (some (I 1)) none none fun v1 => K (F98.fr b c e g f i d l o q a v1 u s v w y z B A D E F G H) h nx := by kernel_rfl
theorem F98.L13 {id : Pa} {E1 E2 E3 : Ks Prop} (Inv : Nat → AV → AV → T Blk → Pa → Prop) {m : Nat} (hm : m < N) (hi : Inv m p E h nx)
  (step : ∀ (m : Nat) (zB zC zD zL zM zN zP : AV) (h : T Blk) (nx : Pa) (R : Ks Prop), Inv m zB zL h nx → (∀ (m' : Nat) (wB wC wD wH wI wJ wK : AV) (h' : T Blk) (nx' : Pa), m' < m → Inv m' wB wH h' nx' → R (F98.fr b c e g f i d l o q a wB wC wD v w y z B A D wH wI wJ wK) h' nx' = .ok True) →
   (sBin .lss .int zL D fun v1 => zY v1 (zS 2 A zL fun v2 => zJ 2 v2 h fun v3 => yQ [.nils, (.bool false)] h nx fun v4 h5 n6 => zQ 2 v4 v3 h5 n6 fun v7 h8 n9 => sChk (true && true) (zJ 2 v4 h8 fun vA => zS 2 zB (I 0) fun vB => zJ 2 vB h8 fun vC => C.fn 122 (.of 122) [vA, vC] h8 n9 fun vD hC nC => (zJ 2 vB hC fun v65 => zI v65 vC ((zS 2 zB (I 0) fun v64 => zI v64 vB (zI zB zB ((zJ 2 v4 hC fun v63 => zI v63 vA (yQ [.nils, (.bool false)] hC nC fun vG hD nD => (zJ 2 vB hD fun v62 => zI v62 vC ((zS 2 zB (I 0) fun v61 => zI v61 vB (zI zB zB ((zJ 2 v4 hD fun v60 => zI v60 vA (zQ 2 vG vD hD nD fun vK hE nE => zF o hE fun vW => zJ 2 vG hE fun v23 => C.fn 121 (.of 121) [vW, v23] hE nE fun v24 hN nO => zY v24 (sBin .add .int zL (I 1) fun vZ => R (F98.fr b c e g f i d l o q a zB v4 vG v w y z B A D vZ v1 v24 zP) hN nO) (zF o hN fun v28 => sMlen v28 hN fun vV => zF g hN fun vU => sBin .eql .int vV vU fun vS => zY vS (zQ 1 f .nilm hN nO fun vR hW nW => zQ 1 i .nils hW nW fun vO hX nX => zQ 1 d (.bool false) hX nX fun v38 hY nY => yY id K0 .ret false .e hY nY) (zF o hN fun v41 => zJ 2 vG hN fun v42 => zJ 2 vG hN fun v43 => C.fn 123 (.of 123) [v42] hN nO fun v44 hZ nZ => (zJ 2 vG hZ fun v59 => zI v59 v43 ((zF o hZ fun v58 => zI v58 v41 (xD .str v41 v44 v43 hZ nZ fun v47 h48 n49 => zJ 2 vG h48 fun v50 => jH 2 1 [.nils, (.bool false)] [(0, 2, v50)] h48 n49 fun v51 h52 n53 => vH C 2 32 zB v51 h52 n53 fun v54 h55 n56 => sBin .add .int zL (I 1) fun v57 => R (F98.fr b c e g f i d l o q a v54 v4 vG v w y z B A D v57 v1 v24 vS) h55 n56)))))))))))))))))))))) (K (F98.fr b c e g f i d l o q a zB zC zD v w y z B A D zL v1 zN zP) h nx)) = .ok True) :
  IR.run F98.b13 C N ((((rO id K0).blk 1 E1).blk 2 E2).blk 3 E3) K (F98.fr b c e g f i d l o q a p u s v w y z B A D E F G H) h nx = .ok True := by
 rw [F98.b13, F98.g13_eq, F98.b14]
 refine yJ (fun m tm h nx => ∃ zB zC zD zL zM zN zP, tm = (F98.fr b c e g f i d l o q a zB zC zD v w y z B A D zL zM zN zP) ∧ Inv m zB zL h nx) ?_ hm ⟨_, _, _, _, _, _, _, rfl, hi⟩
 rintro m tm h nx R ⟨zB, zC, zD, zL, zM, zN, zP, rfl, hi⟩ hR
 refine Eq.trans ?_ (step m zB zC zD zL zM zN zP h nx R hi fun m' wB wC wD wH wI wJ wK h' nx' hlt hi' => hR m' _ h' nx' hlt ⟨_, _, _, _, _, _, _, rfl, hi'⟩)
 kernel_rfl
end Go.Ev
namespace Go.Ev
open Go Go.Proofs
set_option maxRecDepth 100000
variable {N : Nat} {C : Calls Prop} {K0 : Kw Prop} {K R : Ks Prop} {h : T Blk} {nx : Pa} {b c e g f i d l o q a p u s v w y z B A a0 a1 : AV}
theorem F92.tab : T.get none (.of 92) tbl = some F92 := by kernel_rfl
theorem F92.go : zT tbl N C (.of 92) [a0, a1] h nx K0 =
 sBox a0 h nx fun v1 h2 n3 => yQ [.nilm] h2 n3 fun v4 h5 n6 => yQ [.nils] h5 n6 fun v7 h8 n9 => yQ [(I 0)] h8 n9 fun vA hB nB => zF v1 hB fun vD => sLen vD fun vE => sBin .eql .int vE (I 0) fun vF => zF v1 hB fun vG => sLen vG fun vI => sBin .gtr .int vI (I 1536) fun vJ => C.fn 95 (.of 95) [a1] hB nB fun vK hE nE => (sBin .gtr .int vI (I 1536) fun v76 => zI v76 vJ ((sLen vG fun v75 => zI v75 vI ((zF v1 hE fun v74 => zI v74 vG ((sBin .eql .int vE (I 0) fun v73 => zI v73 vF ((sLen vD fun v72 => zI v72 vE ((zF v1 hE fun v71 => zI v71 vD (C.fn 96 (.of 96) [vF, (I 12)] hE nE fun vW hF nF => (sBin .gtr .int vI (I 1536) fun v70 => zI v70 vJ ((sLen vG fun v69 => zI v69 vI ((zF v1 hF fun v68 => zI v68 vG (C.fn 96 (.of 96) [vJ, (I 5)] hF nF fun vX hH nI => jH 1 3 [(I 0)] [(0, 1, vK), (1, 1, vW), (2, 1, vX)] hH nI fun v28 hI nJ => C.fn 94 (.of 94) [v28] hI nJ fun vS h32 n33 => sBin .neq .int vS (I 0) fun vP => zY vP (zQ 1 v4 .nilm h32 n33 fun vO hX nX => zQ 1 v7 .nils hX nX fun v38 hY nY => zQ 1 vA vS hY nY fun v41 h42 n43 => zF v4 h42 fun v44 => zF v7 h42 fun v45 => zF vA h42 fun v46 => K0 (.tup [v44, v45, v46]) h42 n43) (zF v1 h32 fun v47 => C.fn 97 (.of 97) [v47, a1] h32 n33 fun v48 h49 n50 => sBin .neq .int v48 (I 0) fun v51 => zY v51 (zQ 1 v4 .nilm h49 n50 fun v52 h53 n54 => zQ 1 v7 .nils h53 n54 fun v55 h56 n57 => zQ 1 vA v48 h56 n57 fun v58 h59 n60 => zF v4 h59 fun v61 => zF v7 h59 fun v62 => zF vA h59 fun v63 => K0 (.tup [v61, v62, v63]) h59 n60) (zF v1 h49 fun v64 => C.fn 90 (.of 90) [v64] h49 n50 fun v65 h66 n67 => IR.run (.rf (.t (.of 15)) [(.of 16), (.of 17)] F92.b5 F92.b6) C N ((fnO F92.res K0).blk 0 (IR.run F92.b8 C N (fnO F92.res K0) (retK F92.res K0))) (IR.run F92.b8 C N (fnO F92.res K0) (retK F92.res K0)) (F92.fr a0 a1 v1 v4 v7 vA vS v48 .undef .undef .undef .undef .undef vP v51 v65 .undef .undef .undef .undef) h66 n67)))))))))))))))))))) := by
 rw [zH F92.tab]; kernel_rfl
theorem F92.k8 : IR.run F92.b8 C N (fnO F92.res K0) K (F92.fr b c e g f i d l o q a p u s v w y z B A) h nx =
 zF e h fun v1 => zF e h fun v2 => sLen v2 fun v3 => C.fn 98 (.of 98) [v1, c, v3] h nx fun v4 h5 n6 => sExt 0 v4 fun v7 => sExt 1 v4 fun v8 => sExt 2 v4 fun v9 => sNot v9 fun vA => sG vA false (fun k => k v7) fun vB => sG vA false (fun k => sMlen vB h5 k) fun vC => sG vA false (fun k => zF e h5 k) fun vD => sG vA false (fun k => sLen vD k) fun vE => sG vA false (fun k => sBin .neq .int vC vE k) fun vF => gH vA (.bool true) vF fun vG => zY vG (zQ 1 g .nilm h5 n6 fun vI h18 n19 => zQ 1 f .nils h18 n19 fun vL hJ nK => zQ 1 i (I 28) hJ nK fun v23 hK nL => zF g hK fun vY => zF f hK fun vZ => zF i hK fun v28 => K0 (.tup [vY, vZ, v28]) hK nL) ((IR.run F92.b9 C N (fnO F92.res K0) K) (F92.fr b c e g f i d l o q v7 v8 v9 s v w y z B vG) h5 n6) := by kernel_rfl
theorem F92.p6 {N : Nat} {C : Calls Prop} {K0 : Kw Prop} {id nx : Pa} {j : Jump} {h : T Blk} {b c e g f i d l o q a p u s v w y z B A z0 z1 : AV} (hl : T.get .no id h = .loop .ready j (F92.fr b c e g f i d l o q a p u s v w y z B A) [.of 16, .of 17] F92.b5 F92.b6) :
 qV N C id [z0, z1] h nx K0 =
 yQ [.nils, (.bool false)] h nx fun v1 h2 n3 => zQ 2 v1 z1 h2 n3 fun v4 h5 n6 => rMid N C id K0 F92.b6 (F92.fr b c e g f i d l z0 v1 a p u s v w z0 z1 B A) h5 n6 := by
 rw [rnd_gen hl (tm1 := (F92.fr b c e g f i d l o q a p u s v w z0 z1 B A)) (by intro k; kernel_rfl)]; kernel_rfl
theorem F92.y6 {N : Nat} {C : Calls Prop} {K0 : Kw Prop} {id nx : Pa} {h : T Blk} {b c e g f i d l o q a p u s v w y z B A : AV} :
 IR.run F92.b6 C N (rO id K0) (yY id K0 .none true) (F92.fr b c e g f i d l o q a p u s v w y z B A) h nx =
 sBin .gtr .int o (I 0) fun v1 => sG v1 true (fun k => zF e h k) fun v2 => sG v1 true (fun k => k o) fun v3 => sG v1 true (fun k => sBin .sub .int v3 (I 1) k) fun v4 => sG v1 true (fun k => zS 2 v2 v4 k) fun v5 => sG v1 true (fun k => zJ 2 v5 h k) fun v6 => sG v1 true (fun k => zJ 2 q h k) fun v7 => sGW v1 true (fun k => C.fn 162 (.of 162) [v6, v7] h nx k) h nx fun v8 h9 nG => sG v1 true (fun k => sBin .geq .int v8 (I 0) k) fun vB => gH v1 vB (.bool false) fun vC => zY vC (zQ 1 g .nilm h9 nG fun vD hC nC => zQ 1 f .nils hC nC fun vG hD nD => zQ 1 i (I 11) hD nD fun vK hE nE => yY id K0 .ret false .e hE nE) (yY id K0 .none true .e h9 nG) := by kernel_rfl
theorem F92.k9 : IR.run F92.b9 C N (fnO F92.res K0) K (F92.fr b c e g f i d l o q a p u s v w y z B A) h nx =
 zQ 1 g a h nx fun v1 h2 n3 => zQ 1 f p h2 n3 fun v4 h5 n6 => zQ 1 i (I 0) h5 n6 fun v7 h8 n9 => zF g h8 fun vA => zF f h8 fun vB => zF i h8 fun vC => K0 (.tup [vA, vB, vC]) h8 n9 := by kernel_rfl
end Go.Ev
namespace Go.Ev
open Go Go.Proofs
set_option maxRecDepth 100000
variable {N : Nat} {C : Calls Prop} {K0 : Kw Prop} {K R : Ks Prop} {h : T Blk} {nx : Pa} {b c e g a0 a1 : AV}
theorem F22.tab : T.get none (.of 22) tbl = some F22 := by kernel_rfl
theorem F22.go : zT tbl N C (.of 22) [a0, a1] h nx K0 =
 C.fn 92 (.of 92) [a0, a1] h nx fun v1 h2 n3 => sExt 0 v1 fun v4 => sExt 1 v1 fun v5 => sExt 2 v1 fun v6 => K0 v6 h2 n3 := by
 rw [zH F22.tab]; kernel_rfl
end Go.Ev
namespace Go.Ev
open Go Go.Proofs
set_option maxRecDepth 100000
section
variable {N : Nat} {C : Calls Prop} {K0 : Kw Prop} {K : Ks Prop} {h : T Blk} {nx : Pa} {b c e g f i d l o q a p a0 a1 : AV} {O : Outs Prop} {tm : T AV} {Kt : KTm} {r : List RO} {s0 s1 s2 s3 s4 s5 s6 s7 s8 s9 s10 s11 s12 s13 s14 s15 s16 s17 s18 s19 s20 s21 s22 s23 s24 s25 s26 s27 s28 s29 s30 s31 s32 s33 s34 s35 s36 s37 s38 s39 s40 s41 s42 s43 s44 s45 s46 s47 s48 s49 s50 s51 s52 s53 s54 s55 s56 s57 s58 s59 : AV}
noncomputable def F51.t0 : IR := .reg [.q (.of 1) (.mv (.c (.bool false)))]
noncomputable def F51.r1_1 : List RO := .s (.mv (.s 0)) :: .p .push (some ((.s 0), false)) (.mv (.t (.of 0))) :: .p .push (some ((.s 1), false)) (.len (.s 0)) :: .p .push (some ((.s 2), false)) (.bin .gtr .int (.s 0) (.c (I 260))) :: .s (.pick (.s 3) (.c (.bool true)) (.s 0)) :: .q (.of 1) (.mv (.s 0)) :: []
noncomputable def F51.r1_0 : List RO := .s (.mv (.t (.of 0))) :: .s (.len (.s 0)) :: .s (.bin .gtr .int (.s 0) (.c (I 16))) :: .s (.mv (.s 0)) :: .p .push (some ((.s 0), true)) (.mv (.t (.of 0))) :: .p .push (some ((.s 1), true)) (.len (.s 0)) :: .p .push (some ((.s 2), true)) (.bin .lss .int (.s 0) (.c (I 250))) :: .s (.pick (.s 3) (.s 0) (.c (.bool false))) :: F51.r1_1
noncomputable def F51.t1 : IR := .reg F51.r1_0
noncomputable def F51.t2 : IR := .seq F51.t1 .ret
noncomputable def F51.t3 : IR := .seq F51.t0 F51.t2
theorem F51.t0_s : IR.run F51.t0 C N O K (F51.fr b c) h nx =
 K (F51.fr b (.bool false)) h nx := by kernel_rfl
theorem F51.t1_s : IR.run F51.t1 C N O K tm h nx = j8 F51.r1_0 C ⟨tm, []⟩ h nx (fun tm h nx => K tm.v h nx) := xC ..
theorem F51.r1_0_g : j8 (.s (.mv (.t (.of 0))) :: .s (.len (.s 0)) :: .s (.bin .gtr .int (.s 0) (.c (I 16))) :: .s (.mv (.s 0)) :: .p .push (some ((.s 0), true)) (.mv (.t (.of 0))) :: .p .push (some ((.s 1), true)) (.len (.s 0)) :: .p .push (some ((.s 2), true)) (.bin .lss .int (.s 0) (.c (I 250))) :: .s (.pick (.s 3) (.s 0) (.c (.bool false))) :: r) C ⟨(F51.fr b c), []⟩ h nx Kt =
 sLen b fun v1 => sBin .gtr .int v1 (I 16) fun v2 => sG v2 true (fun k => k b) fun v3 => sG v2 true (fun k => sLen v3 k) fun v4 => sG v2 true (fun k => sBin .lss .int v4 (I 250) k) fun v5 => gH v2 v5 (.bool false) fun v6 => j8 r C ⟨(F51.fr b c), v6 :: v5 :: v4 :: v3 :: v2 :: v2 :: v1 :: b :: []⟩ h nx Kt := by kernel_rfl
theorem F51.r1_1_g : j8 (.s (.mv (.s 0)) :: .p .push (some ((.s 0), false)) (.mv (.t (.of 0))) :: .p .push (some ((.s 1), false)) (.len (.s 0)) :: .p .push (some ((.s 2), false)) (.bin .gtr .int (.s 0) (.c (I 260))) :: .s (.pick (.s 3) (.c (.bool true)) (.s 0)) :: .q (.of 1) (.mv (.s 0)) :: []) C ⟨(F51.fr b c), s0 :: s1 :: s2 :: s3 :: s4 :: s5 :: s6 :: s7 :: []⟩ h nx Kt =
 sG s0 false (fun k => k b) fun v1 => sG s0 false (fun k => sLen v1 k) fun v2 => sG s0 false (fun k => sBin .gtr .int v2 (I 260) k) fun v3 => gH s0 (.bool true) v3 fun v4 => Kt ⟨(F51.fr b v4), v4 :: v3 :: v2 :: v1 :: s0 :: s0 :: s1 :: s2 :: s3 :: s4 :: s5 :: s6 :: s7 :: []⟩ h nx := by kernel_rfl
theorem F51.tab : T.get none (.of 51) tbl = some F51 := by kernel_rfl
theorem F51.bind (k : T AV → OP) : yV F51.params [a0] F51.init k = k (F51.fr a0 .undef) := by kernel_rfl
theorem F51.body_eq : F51.body = F51.t3 := by kernel_rfl
theorem F51.go : zT tbl N C (.of 51) [a0] h nx K0 = IR.run F51.t3 C N (fnO F51.res K0) (retK F51.res K0) (F51.fr a0 .undef) h nx := by
 rw [zH F51.tab, F51.bind, F51.body_eq]; kernel_rfl
theorem F51.ret : retK F51.res K0 (F51.fr b c) h nx = K0 c h nx := by kernel_rfl
end
end Go.Ev
namespace Go.Ev
open Go Go.Proofs
set_option maxRecDepth 100000
section
variable {N : Nat} {C : Calls Prop} {K0 : Kw Prop} {K : Ks Prop} {h : T Blk} {nx : Pa} {b c e g f i d a0 a1 a2 a3 : AV} {O : Outs Prop} {tm : T AV} {Kt : KTm} {r : List RO} {s0 s1 s2 s3 s4 s5 s6 s7 s8 s9 s10 s11 s12 s13 s14 s15 s16 s17 s18 s19 s20 s21 s22 s23 s24 s25 s26 s27 s28 s29 s30 s31 s32 s33 s34 s35 s36 s37 s38 s39 s40 s41 s42 s43 s44 s45 s46 s47 s48 s49 s50 s51 s52 s53 s54 s55 s56 s57 s58 s59 : AV}
end
end Go.Ev
namespace Go.Ev
open Go Go.Proofs
set_option maxRecDepth 100000
section
variable {N : Nat} {C : Calls Prop} {K0 : Kw Prop} {K : Ks Prop} {h : T Blk} {nx : Pa} {b c e g f i d l o q a p u s v w a0 a1 a2 a3 : AV} {O : Outs Prop} {tm : T AV} {Kt : KTm} {r : List RO} {s0 s1 s2 s3 s4 s5 s6 s7 s8 s9 s10 s11 s12 s13 s14 s15 s16 s17 s18 s19 s20 s21 s22 s23 s24 s25 s26 s27 s28 s29 s30 s31 s32 s33 s34 s35 s36 s37 s38 s39 s40 s41 s42 s43 s44 s45 s46 s47 s48 s49 s50 s51 s52 s53 s54 s55 s56 s57 s58 s59 : AV}
end
end Go.Ev
namespace Go.Ev
open Go Go.Proofs
set_option maxRecDepth 100000
section
variable {N : Nat} {C : Calls Prop} {K0 : Kw Prop} {K : Ks Prop} {h : T Blk} {nx : Pa} {b c e g f i d l o q a p u s v w y z a0 a1 a2 : AV} {O : Outs Prop} {tm : T AV} {Kt : KTm} {r : List RO} {s0 s1 s2 s3 s4 s5 s6 s7 s8 s9 s10 s11 s12 s13 s14 s15 s16 s17 s18 s19 s20 s21 s22 s23 s24 s25 s26 s27 s28 s29 s30 s31 s32 s33 s34 s35 s36 s37 s38 s39 s40 s41 s42 s43 s44 s45 s46 s47 s48 s49 s50 s51 s52 s53 s54 s55 s56 s57 s58 s59 : AV}
noncomputable def F120.t0 : IR := .reg [.q (.of 3) (.mv (.c .nilm)), .w (.loc (.of 4)) none (.alloc [.nils, .nils]), .q (.of 5) (.mv (.c (I 0)))]
noncomputable def F120.t1 : IR := .reg [.w (.loc (.of 6)) none (.alloc [.nils, .nils])]
noncomputable def F120.t2 : IR := .reg [.s (.mv (.t (.of 0))), .s (.mv (.t (.of 2))), .w .push none (.call (.c (.fn 92 (.of 92) [])) [(.s 1), (.s 0)]), .s (.mv (.s 0)), .s (.ext 0 (.s 0)), .s (.ext 1 (.s 1)), .s (.ext 2 (.s 2)), .q (.of 7) (.mv (.s 2)), .q (.of 8) (.mv (.s 1)), .q (.of 9) (.mv (.s 0))]
noncomputable def F120.t3 : IR := .reg [.s (.mv (.t (.of 9))), .q (.of 13) (.bin .neq .int (.s 0) (.c (I 0)))]
noncomputable def F120.t4 : IR := .dreg [] [(.s (.loadN 2 (.t (.of 6))), 0, []), (.s (.mv (.t (.of 9))), 1, []), (.q (.of 3) (.mv (.c .nilm)), 0, []), (.w .none none (.store 2 (.t (.of 4)) (.s 1)), 0, []), (.q (.of 5) (.mv (.s 0)), 0, [])]
noncomputable def F120.t5 : IR := .seq F120.t4 .ret
noncomputable def F120.t6 : IR := .cond (.t (.of 13)) F120.t5 .skip
noncomputable def F120.t7 : IR := .seq F120.t3 F120.t6
noncomputable def F120.t8 : IR := .reg [.s (.mv (.t (.of 1))), .s (.mv (.t (.of 2))), .w .push none (.call (.c (.fn 92 (.of 92) [])) [(.s 1), (.s 0)]), .s (.mv (.s 0)), .s (.ext 0 (.s 0)), .s (.ext 1 (.s 1)), .s (.ext 2 (.s 2)), .q (.of 10) (.mv (.s 2)), .q (.of 11) (.mv (.s 1)), .q (.of 9) (.mv (.s 0))]
noncomputable def F120.t9 : IR := .reg [.s (.mv (.t (.of 9))), .q (.of 14) (.bin .neq .int (.s 0) (.c (I 0)))]
noncomputable def F120.t10 : IR := .dreg [] [(.s (.loadN 2 (.t (.of 6))), 0, []), (.s (.mv (.t (.of 9))), 1, []), (.q (.of 3) (.mv (.c .nilm)), 0, []), (.w .none none (.store 2 (.t (.of 4)) (.s 1)), 0, []), (.q (.of 5) (.mv (.s 0)), 0, [])]
noncomputable def F120.t11 : IR := .seq F120.t10 .ret
noncomputable def F120.t12 : IR := .cond (.t (.of 14)) F120.t11 .skip
noncomputable def F120.t13 : IR := .seq F120.t9 F120.t12
noncomputable def F120.t14 : IR := .reg [.s (.mv (.t (.of 10))), .w (.loc (.of 15)) none (.range (.s 0))]
noncomputable def F120.t15 : IR := .reg [.w .push none (.next (.t (.of 15))), .q (.of 16) (.ext 0 (.s 0))]
noncomputable def F120.t16 : IR := .cond (.t (.of 16)) .skip (.exit 0)
noncomputable def F120.t17 : IR := .reg [.s (.entry (.t (.of 15))), .s (.ext 1 (.s 0)), .w (.loc (.of 12)) none (.alloc [.nils, (.bool false)]), .w .none none (.store 2 (.t (.of 12)) (.s 0))]
noncomputable def F120.t18 : IR := .reg [.s (.mv (.t (.of 7))), .s (.loadN 2 (.t (.of 12))), .w .push none (.call (.c (.fn 121 (.of 121) [])) [(.s 1), (.s 0)]), .q (.of 17) (.not (.s 0))]
noncomputable def F120.t19 : IR := .dreg [] [(.s (.loadN 2 (.t (.of 6))), 0, []), (.q (.of 3) (.mv (.c .nilm)), 0, []), (.w .none none (.store 2 (.t (.of 4)) (.s 0)), 0, []), (.q (.of 5) (.mv (.c (I 28))), 0, [])]
noncomputable def F120.t20 : IR := .seq F120.t19 .ret
noncomputable def F120.t21 : IR := .cond (.t (.of 17)) F120.t20 .skip
noncomputable def F120.t22 : IR := .seq F120.t18 F120.t21
noncomputable def F120.t23 : IR := .seq F120.t17 F120.t22
noncomputable def F120.t24 : IR := .block 1 F120.t23
noncomputable def F120.t25 : IR := .seq F120.t16 F120.t24
noncomputable def F120.t26 : IR := .seq F120.t15 F120.t25
noncomputable def F120.t27 : IR := .loop F120.t26
noncomputable def F120.t28 : IR := .block 0 F120.t27
noncomputable def F120.t29 : IR := .seq F120.t14 F120.t28
noncomputable def F120.t30 : IR := .reg [.s (.mv (.t (.of 8))), .s (.mv (.t (.of 11))), .s (.aaddr 1 2 (.t (.of 6)) (.c (I 0))), .w .none none (.store 1 (.s 0) (.s 2)), .s (.aaddr 1 2 (.t (.of 6)) (.c (I 1))), .w .none none (.store 1 (.s 0) (.s 2))]
noncomputable def F120.t31 : IR := .dreg [] [(.s (.mv (.t (.of 10))), 0, []), (.s (.loadN 2 (.t (.of 6))), 0, []), (.q (.of 3) (.mv (.s 1)), 0, []), (.w .none none (.store 2 (.t (.of 4)) (.s 0)), 0, []), (.q (.of 5) (.mv (.c (I 0))), 0, [])]
noncomputable def F120.t32 : IR := .seq F120.t31 .ret
noncomputable def F120.t33 : IR := .seq F120.t30 F120.t32
noncomputable def F120.t34 : IR := .seq F120.t29 F120.t33
noncomputable def F120.t35 : IR := .seq F120.t13 F120.t34
noncomputable def F120.t36 : IR := .seq F120.t8 F120.t35
noncomputable def F120.t37 : IR := .seq F120.t7 F120.t36
noncomputable def F120.t38 : IR := .seq F120.t2 F120.t37
noncomputable def F120.t39 : IR := .seq F120.t1 F120.t38
noncomputable def F120.t40 : IR := .seq F120.t0 F120.t39
theorem F120.t0_s : IR.run F120.t0 C N O K (F120.fr b c e g f i d l o q a p u s v w y z) h nx =
 yQ [.nils, .nils] h nx fun v1 h2 n3 => K (F120.fr b c e .nilm v1 (I 0) d l o q a p u s v w y z) h2 n3 := by kernel_rfl
theorem F120.t1_s : IR.run F120.t1 C N O K (F120.fr b c e g f i d l o q a p u s v w y z) h nx =
 yQ [.nils, .nils] h nx fun v1 h2 n3 => K (F120.fr b c e g f i v1 l o q a p u s v w y z) h2 n3 := by kernel_rfl
theorem F120.t2_s : IR.run F120.t2 C N O K (F120.fr b c e g f i d l o q a p u s v w y z) h nx =
 C.fn 92 (.of 92) [b, e] h nx fun v1 h2 n3 => sExt 0 v1 fun v4 => sExt 1 v1 fun v5 => sExt 2 v1 fun v6 => K (F120.fr b c e g f i d v4 v5 v6 a p u s v w y z) h2 n3 := by kernel_rfl
theorem F120.t3_s : IR.run F120.t3 C N O K (F120.fr b c e g f i d l o q a p u s v w y z) h nx =
 sBin .neq .int q (I 0) fun v1 => K (F120.fr b c e g f i d l o q a p u v1 v w y z) h nx := by kernel_rfl
theorem F120.t4_s : IR.run F120.t4 C N O K (F120.fr b c e g f i d l o q a p u s v w y z) h nx =
 zJ 2 d h fun v1 => zQ 2 f v1 h nx fun v2 h3 n4 => zI q q (K (F120.fr b c e .nilm f q d l o q a p u s v w y z) h3 n4) := by kernel_rfl
theorem F120.v13 : Arg.ev (.t (.of 13)) ⟨(F120.fr b c e g f i d l o q a p u s v w y z), []⟩ = s := by kernel_rfl
theorem F120.t8_s : IR.run F120.t8 C N O K (F120.fr b c e g f i d l o q a p u s v w y z) h nx =
 C.fn 92 (.of 92) [c, e] h nx fun v1 h2 n3 => sExt 0 v1 fun v4 => sExt 1 v1 fun v5 => sExt 2 v1 fun v6 => K (F120.fr b c e g f i d l o v6 v4 v5 u s v w y z) h2 n3 := by kernel_rfl
theorem F120.t9_s : IR.run F120.t9 C N O K (F120.fr b c e g f i d l o q a p u s v w y z) h nx =
 sBin .neq .int q (I 0) fun v1 => K (F120.fr b c e g f i d l o q a p u s v1 w y z) h nx := by kernel_rfl
theorem F120.t10_s : IR.run F120.t10 C N O K (F120.fr b c e g f i d l o q a p u s v w y z) h nx =
 zJ 2 d h fun v1 => zQ 2 f v1 h nx fun v2 h3 n4 => zI q q (K (F120.fr b c e .nilm f q d l o q a p u s v w y z) h3 n4) := by kernel_rfl
theorem F120.v14 : Arg.ev (.t (.of 14)) ⟨(F120.fr b c e g f i d l o q a p u s v w y z), []⟩ = v := by kernel_rfl
theorem F120.t14_s : IR.run F120.t14 C N O K (F120.fr b c e g f i d l o q a p u s v w y z) h nx =
 sRange a h nx fun v1 h2 n3 => K (F120.fr b c e g f i d l o q a p u s v v1 y z) h2 n3 := by kernel_rfl
theorem F120.t15_s : IR.run F120.t15 C N O K (F120.fr b c e g f i d l o q a p u s v w y z) h nx =
 sNext C w h nx fun v1 h2 n3 => sExt 0 v1 fun v4 => K (F120.fr b c e g f i d l o q a p u s v w v4 z) h2 n3 := by kernel_rfl
theorem F120.v16 : Arg.ev (.t (.of 16)) ⟨(F120.fr b c e g f i d l o q a p u s v w y z), []⟩ = y := by kernel_rfl
theorem F120.t17_s : IR.run F120.t17 C N O K (F120.fr b c e g f i d l o q a p u s v w y z) h nx =
 sEntry w h fun v1 => sExt 1 v1 fun v2 => yQ [.nils, (.bool false)] h nx fun v3 h4 n5 => zQ 2 v3 v2 h4 n5 fun v6 h7 n8 => K (F120.fr b c e g f i d l o q a p v3 s v w y z) h7 n8 := by kernel_rfl
theorem F120.t18_s : IR.run F120.t18 C N O K (F120.fr b c e g f i d l o q a p u s v w y z) h nx =
 zJ 2 u h fun v1 => C.fn 121 (.of 121) [l, v1] h nx fun v2 h3 n4 => sNot v2 fun v5 => K (F120.fr b c e g f i d l o q a p u s v w y v5) h3 n4 := by kernel_rfl
theorem F120.t19_s : IR.run F120.t19 C N O K (F120.fr b c e g f i d l o q a p u s v w y z) h nx =
 zJ 2 d h fun v1 => zQ 2 f v1 h nx fun v2 h3 n4 => K (F120.fr b c e .nilm f (I 28) d l o q a p u s v w y z) h3 n4 := by kernel_rfl
theorem F120.v17 : Arg.ev (.t (.of 17)) ⟨(F120.fr b c e g f i d l o q a p u s v w y z), []⟩ = z := by kernel_rfl
theorem F120.t27_L (Inv : Nat → T Blk → Pa → Prop) {m : Nat} (hm : m < N) (hi : Inv m h nx)
  (step : ∀ (m : Nat) (z3 z5 zC zR zU : AV) (h : T Blk) (nx : Pa) (R : Ks Prop), Inv m h nx → (∀ (m' : Nat) (w3 w5 wC wL wM : AV) (h' : T Blk) (nx' : Pa), m' < m → Inv m' h' nx' → R (F120.fr b c e w3 f w5 d l o q a p wC s v w wL wM) h' nx' = .ok True) → IR.run F120.t26 C N O R (F120.fr b c e z3 f z5 d l o q a p zC s v w zR zU) h nx = .ok True) :
  IR.run F120.t27 C N O K (F120.fr b c e g f i d l o q a p u s v w y z) h nx = .ok True := by
 rw [F120.t27]
 refine yJ (fun m tm h nx => ∃ z3 z5 zC zR zU, tm = (F120.fr b c e z3 f z5 d l o q a p zC s v w zR zU) ∧ Inv m h nx) ?_ hm ⟨_, _, _, _, _, rfl, hi⟩
 rintro m tm h nx R ⟨z3, z5, zC, zR, zU, rfl, hi⟩ hR
 exact step m z3 z5 zC zR zU h nx R hi fun m' w3 w5 wC wL wM h' nx' hlt hi' => hR m' _ h' nx' hlt ⟨_, _, _, _, _, rfl, hi'⟩
theorem F120.t30_s : IR.run F120.t30 C N O K (F120.fr b c e g f i d l o q a p u s v w y z) h nx =
 vT 1 2 d (I 0) fun v1 => zQ 1 v1 o h nx fun v2 h3 n4 => vT 1 2 d (I 1) fun v5 => zQ 1 v5 p h3 n4 fun v6 h7 n8 => K (F120.fr b c e g f i d l o q a p u s v w y z) h7 n8 := by kernel_rfl
theorem F120.t31_s : IR.run F120.t31 C N O K (F120.fr b c e g f i d l o q a p u s v w y z) h nx =
 zJ 2 d h fun v1 => zQ 2 f v1 h nx fun v2 h3 n4 => K (F120.fr b c e a f (I 0) d l o q a p u s v w y z) h3 n4 := by kernel_rfl
theorem F120.tab : T.get none (.of 120) tbl = some F120 := by kernel_rfl
theorem F120.bind (k : T AV → OP) : yV F120.params [a0, a1, a2] F120.init k = k (F120.fr a0 a1 a2 .undef .undef .undef .undef .undef .undef .undef .undef .undef .undef .undef .undef .undef .undef .undef) := by kernel_rfl
theorem F120.body_eq : F120.body = F120.t40 := by kernel_rfl
theorem F120.go : zT tbl N C (.of 120) [a0, a1, a2] h nx K0 = IR.run F120.t40 C N (fnO F120.res K0) (retK F120.res K0) (F120.fr a0 a1 a2 .undef .undef .undef .undef .undef .undef .undef .undef .undef .undef .undef .undef .undef .undef .undef) h nx := by
 rw [zH F120.tab, F120.bind, F120.body_eq]; kernel_rfl
theorem F120.ret : retK F120.res K0 (F120.fr b c e g f i d l o q a p u s v w y z) h nx = zJ 2 f h fun v1 => K0 (.tup [g, v1, i]) h nx := by kernel_rfl
noncomputable def F27.t0 : IR := .reg [.q (.of 2) (.mv (.c .nils)), .q (.of 3) (.mv (.c (I 0)))]
noncomputable def F27.t1 : IR := .reg [.s (.mv (.t (.of 1))), .w .push none (.call (.c (.fn 95 (.of 95) [])) [(.s 0)]), .s (.mv (.t (.of 0))), .s (.len (.s 0)), .s (.bin .gtr .int (.s 0) (.c (I 256))), .w .push none (.call (.c (.fn 96 (.of 96) [])) [(.s 0), (.c (I 5))]), .w .push none (.bslice 1 2 [(I 0)] [(0, 1, (.s 4)), (1, 1, (.s 0))]), .w .push none (.call (.c (.fn 94 (.of 94) [])) [(.s 0)]), .q (.of 4) (.mv (.s 0))]
noncomputable def F27.t2 : IR := .reg [.s (.mv (.t (.of 4))), .q (.of 8) (.bin .neq .int (.s 0) (.c (I 0)))]
noncomputable def F27.t3 : IR := .reg [.s (.mv (.t (.of 4))), .q (.of 2) (.mv (.c .nils)), .q (.of 3) (.mv (.s 0))]
noncomputable def F27.t4 : IR := .seq F27.t3 .ret
noncomputable def F27.t5 : IR := .cond (.t (.of 8)) F27.t4 .skip
noncomputable def F27.t6 : IR := .seq F27.t2 F27.t5
noncomputable def F27.t7 : IR := .seq F27.t1 F27.t6
noncomputable def F27.t8 : IR := .reg [.s (.mv (.t (.of 0))), .s (.mv (.t (.of 1))), .w .push none (.call (.c (.fn 97 (.of 97) [])) [(.s 1), (.s 0)]), .q (.of 5) (.mv (.s 0))]
noncomputable def F27.t9 : IR := .reg [.s (.mv (.t (.of 5))), .q (.of 9) (.bin .neq .int (.s 0) (.c (I 0)))]
noncomputable def F27.t10 : IR := .reg [.s (.mv (.t (.of 5))), .q (.of 2) (.mv (.c .nils)), .q (.of 3) (.mv (.s 0))]
noncomputable def F27.t11 : IR := .seq F27.t10 .ret
noncomputable def F27.t12 : IR := .cond (.t (.of 9)) F27.t11 .skip
noncomputable def F27.t13 : IR := .seq F27.t9 F27.t12
noncomputable def F27.t14 : IR := .seq F27.t8 F27.t13
noncomputable def F27.t15 : IR := .reg [.s (.mv (.t (.of 0))), .s (.mv (.t (.of 1))), .w .push none (.call (.c (.fn 98 (.of 98) [])) [(.s 1), (.s 0), (.c (I 1536))]), .s (.mv (.s 0)), .s (.ext 0 (.s 0)), .s (.ext 1 (.s 1)), .s (.ext 2 (.s 2)), .q (.of 6) (.mv (.s 2)), .s (.mv (.s 1)), .q (.of 7) (.mv (.s 1))]
noncomputable def F27.t16 : IR := .reg [.s (.mv (.t (.of 7))), .q (.of 10) (.not (.s 0))]
noncomputable def F27.t17 : IR := .reg [.q (.of 2) (.mv (.c .nils)), .q (.of 3) (.mv (.c (I 20)))]
noncomputable def F27.t18 : IR := .seq F27.t17 .ret
noncomputable def F27.t19 : IR := .cond (.t (.of 10)) F27.t18 .skip
noncomputable def F27.t20 : IR := .seq F27.t16 F27.t19
noncomputable def F27.t21 : IR := .reg [.s (.mv (.t (.of 6))), .w .push none (.call (.c (.fn 99 (.of 99) [])) [(.s 0)]), .q (.of 2) (.mv (.s 0)), .q (.of 3) (.mv (.c (I 0)))]
noncomputable def F27.t22 : IR := .seq F27.t21 .ret
noncomputable def F27.t23 : IR := .seq F27.t20 F27.t22
noncomputable def F27.t24 : IR := .seq F27.t15 F27.t23
noncomputable def F27.t25 : IR := .seq F27.t14 F27.t24
noncomputable def F27.t26 : IR := .seq F27.t7 F27.t25
noncomputable def F27.t27 : IR := .seq F27.t0 F27.t26
theorem F27.t0_s : IR.run F27.t0 C N O K (F27.fr b c e g f i d l o q a) h nx =
 K (F27.fr b c .nils (I 0) f i d l o q a) h nx := by kernel_rfl
theorem F27.t1_s : IR.run F27.t1 C N O K (F27.fr b c e g f i d l o q a) h nx =
 C.fn 95 (.of 95) [c] h nx fun v1 h2 n3 => sLen b fun v4 => sBin .gtr .int v4 (I 256) fun v5 => C.fn 96 (.of 96) [v5, (I 5)] h2 n3 fun v6 h7 n8 => jH 1 2 [(I 0)] [(0, 1, v1), (1, 1, v6)] h7 n8 fun v9 hV nV => C.fn 94 (.of 94) [v9] hV nV fun vC h13 n14 => K (F27.fr b c e g vC i d l o q a) h13 n14 := by kernel_rfl
theorem F27.t2_s : IR.run F27.t2 C N O K (F27.fr b c e g f i d l o q a) h nx =
 sBin .neq .int f (I 0) fun v1 => K (F27.fr b c e g f i d l v1 q a) h nx := by kernel_rfl
theorem F27.t3_s : IR.run F27.t3 C N O K (F27.fr b c e g f i d l o q a) h nx =
 K (F27.fr b c .nils f f i d l o q a) h nx := by kernel_rfl
theorem F27.v8 : Arg.ev (.t (.of 8)) ⟨(F27.fr b c e g f i d l o q a), []⟩ = o := by kernel_rfl
theorem F27.t8_s : IR.run F27.t8 C N O K (F27.fr b c e g f i d l o q a) h nx =
 C.fn 97 (.of 97) [b, c] h nx fun v1 h2 n3 => K (F27.fr b c e g f v1 d l o q a) h2 n3 := by kernel_rfl
theorem F27.t9_s : IR.run F27.t9 C N O K (F27.fr b c e g f i d l o q a) h nx =
 sBin .neq .int i (I 0) fun v1 => K (F27.fr b c e g f i d l o v1 a) h nx := by kernel_rfl
theorem F27.t10_s : IR.run F27.t10 C N O K (F27.fr b c e g f i d l o q a) h nx =
 K (F27.fr b c .nils i f i d l o q a) h nx := by kernel_rfl
theorem F27.v9 : Arg.ev (.t (.of 9)) ⟨(F27.fr b c e g f i d l o q a), []⟩ = q := by kernel_rfl
theorem F27.t15_s : IR.run F27.t15 C N O K (F27.fr b c e g f i d l o q a) h nx =
 C.fn 98 (.of 98) [b, c, (I 1536)] h nx fun v1 h2 n3 => sExt 0 v1 fun v4 => sExt 1 v1 fun v5 => sExt 2 v1 fun v6 => K (F27.fr b c e g f i v4 v6 o q a) h2 n3 := by kernel_rfl
theorem F27.t16_s : IR.run F27.t16 C N O K (F27.fr b c e g f i d l o q a) h nx =
 sNot l fun v1 => K (F27.fr b c e g f i d l o q v1) h nx := by kernel_rfl
theorem F27.t17_s : IR.run F27.t17 C N O K (F27.fr b c e g f i d l o q a) h nx =
 K (F27.fr b c .nils (I 20) f i d l o q a) h nx := by kernel_rfl
theorem F27.v10 : Arg.ev (.t (.of 10)) ⟨(F27.fr b c e g f i d l o q a), []⟩ = a := by kernel_rfl
theorem F27.t21_s : IR.run F27.t21 C N O K (F27.fr b c e g f i d l o q a) h nx =
 C.fn 99 (.of 99) [d] h nx fun v1 h2 n3 => K (F27.fr b c v1 (I 0) f i d l o q a) h2 n3 := by kernel_rfl
theorem F27.tab : T.get none (.of 27) tbl = some F27 := by kernel_rfl
theorem F27.bind (k : T AV → OP) : yV F27.params [a0, a1] F27.init k = k (F27.fr a0 a1 .undef .undef .undef .undef .undef .undef .undef .undef .undef) := by kernel_rfl
theorem F27.body_eq : F27.body = F27.t27 := by kernel_rfl
theorem F27.go : zT tbl N C (.of 27) [a0, a1] h nx K0 = IR.run F27.t27 C N (fnO F27.res K0) (retK F27.res K0) (F27.fr a0 a1 .undef .undef .undef .undef .undef .undef .undef .undef .undef) h nx := by
 rw [zH F27.tab, F27.bind, F27.body_eq]; kernel_rfl
theorem F27.ret : retK F27.res K0 (F27.fr b c e g f i d l o q a) h nx = K0 (.tup [e, g]) h nx := by kernel_rfl
end
end Go.Ev
namespace Go.Ev
open Go Go.Proofs
set_option maxRecDepth 100000
variable {N : Nat} {C : Calls Prop} {K0 : Kw Prop} {K R : Ks Prop} {h : T Blk} {nx : Pa} {b c e g f i d l o q a p a0 : AV}
theorem F99.g1_eq (X2 : IR) (O : Outs Prop) (t : T AV) : IR.run (F99.g1 X2) C N O K t h nx = IR.run X2 C N (O.blk 0 K) K t h nx := by kernel_rfl
theorem F99.g7_eq (X8 : IR) (O : Outs Prop) (t : T AV) : IR.run (F99.g7 X8) C N O K t h nx = IR.run X8 C N (O.blk 2 K) K t h nx := by kernel_rfl
theorem F99.tab : T.get none (.of 99) tbl = some F99 := by kernel_rfl
theorem F99.go : zT tbl N C (.of 99) [a0] h nx K0 =
 sRange a0 h nx fun v1 h2 n3 => IR.run F99.b1 C N (fnO F99.res K0) (IR.run F99.b6 C N (fnO F99.res K0) (retK F99.res K0)) (F99.fr a0 .nils .nils .undef .undef .undef v1 .undef .undef .undef .undef .undef) h2 n3 := by
 rw [zH F99.tab]; kernel_rfl
theorem F99.L1 (Inv : Nat → AV → T Blk → Pa → Prop) {m : Nat} (hm : m < N) (hi : Inv m e h nx)
  (step : ∀ (m : Nat) (z2 z3 z7 : AV) (h : T Blk) (nx : Pa) (R : Ks Prop), Inv m z2 h nx → (∀ (m' : Nat) (w2 w3 w7 : AV) (h' : T Blk) (nx' : Pa), m' < m → Inv m' w2 h' nx' → R (F99.fr b c w2 w3 f i d w7 o q a p) h' nx' = .ok True) →
   (sNext C d h nx fun v1 h2 n3 => sExt 0 v1 fun v4 => zY v4 (sEntry d h2 fun v5 => sExt 1 v5 fun v6 => yQ [.nils, (.bool false)] h2 n3 fun v7 h8 n9 => zQ 2 v7 v6 h8 n9 fun vA hB nB => zJ 2 v7 hB fun vD => jH 2 1 [.nils, (.bool false)] [(0, 2, vD)] hB nB fun vE hA nA => vH C 2 32 z2 vE hA nA fun vI h18 n19 => R (F99.fr b c vI v7 f i d v4 o q a p) h18 n19) (K (F99.fr b c z2 z3 f i d v4 o q a p) h2 n3)) = .ok True) :
  IR.run F99.b1 C N (fnO F99.res K0) K (F99.fr b c e g f i d l o q a p) h nx = .ok True := by
 rw [F99.b1, F99.g1_eq, F99.b2]
 refine yJ (fun m tm h nx => ∃ z2 z3 z7, tm = (F99.fr b c z2 z3 f i d z7 o q a p) ∧ Inv m z2 h nx) ?_ hm ⟨_, _, _, rfl, hi⟩
 rintro m tm h nx R ⟨z2, z3, z7, rfl, hi⟩ hR
 refine Eq.trans ?_ (step m z2 z3 z7 h nx R hi fun m' w2 w3 w7 h' nx' hlt hi' => hR m' _ h' nx' hlt ⟨_, _, _, rfl, hi'⟩)
 kernel_rfl
theorem F99.k6 : IR.run F99.b6 C N (fnO F99.res K0) K (F99.fr b c e g f i d l o q a p) h nx =
 C.fn 164 (.of 164) [e, (.fn 162 (.of 162) [])] h nx fun v1 h2 n3 => sLen e fun v4 => IR.run F99.b7 C N (fnO F99.res K0) (IR.run F99.b14 C N (fnO F99.res K0) K) (F99.fr b c e g .nils i d l e v4 (I 0) p) h2 n3 := by kernel_rfl
theorem F99.L7 (Inv : Nat → AV → AV → T Blk → Pa → Prop) {m : Nat} (hm : m < N) (hi : Inv m f a h nx)
  (step : ∀ (m : Nat) (z4 z5 zA zB : AV) (h : T Blk) (nx : Pa) (R : Ks Prop), Inv m z4 zA h nx → (∀ (m' : Nat) (w4 w5 wA wB : AV) (h' : T Blk) (nx' : Pa), m' < m → Inv m' w4 wA h' nx' → R (F99.fr b c e g w4 w5 d l o q wA wB) h' nx' = .ok True) →
   (sBin .lss .int zA q fun v1 => zY v1 (zS 2 o zA fun v2 => zJ 2 v2 h fun v3 => yQ [.nils, (.bool false)] h nx fun v4 h5 n6 => zQ 2 v4 v3 h5 n6 fun v7 h8 n9 => zJ 2 v4 h8 fun vA => jH 2 1 [.nils, (.bool false)] [(0, 2, vA)] h8 n9 fun vB hG nH => vH C 2 32 z4 vB hG nH fun vE hA nA => sBin .add .int zA (I 1) fun vI => R (F99.fr b c e g vE v4 d l o q vI v1) hA nA) (K (F99.fr b c e g z4 z5 d l o q zA v1) h nx)) = .ok True) :
  IR.run F99.b7 C N (fnO F99.res K0) K (F99.fr b c e g f i d l o q a p) h nx = .ok True := by
 rw [F99.b7, F99.g7_eq, F99.b8]
 refine yJ (fun m tm h nx => ∃ z4 z5 zA zB, tm = (F99.fr b c e g z4 z5 d l o q zA zB) ∧ Inv m z4 zA h nx) ?_ hm ⟨_, _, _, _, rfl, hi⟩
 rintro m tm h nx R ⟨z4, z5, zA, zB, rfl, hi⟩ hR
 refine Eq.trans ?_ (step m z4 z5 zA zB h nx R hi fun m' w4 w5 wA wB h' nx' hlt hi' => hR m' _ h' nx' hlt ⟨_, _, _, _, rfl, hi'⟩)
 kernel_rfl
theorem F99.k14 : IR.run F99.b14 C N (fnO F99.res K0) K (F99.fr b c e g f i d l o q a p) h nx =
 K0 f h nx := by kernel_rfl
end Go.Ev
namespace Go.Ev
open Go Go.Proofs
set_option maxRecDepth 100000
section
variable {N : Nat} {C : Calls Prop} {K0 : Kw Prop} {K : Ks Prop} {h : T Blk} {nx : Pa} {b c e g f i d l o q a p u s v w y z B A a0 a1 a2 : AV} {O : Outs Prop} {tm : T AV} {Kt : KTm} {r : List RO} {s0 s1 s2 s3 s4 s5 s6 s7 s8 s9 s10 s11 s12 s13 s14 s15 s16 s17 s18 s19 s20 s21 s22 s23 s24 s25 s26 s27 s28 s29 s30 s31 s32 s33 s34 s35 s36 s37 s38 s39 s40 s41 s42 s43 s44 s45 s46 s47 s48 s49 s50 s51 s52 s53 s54 s55 s56 s57 s58 s59 : AV}
noncomputable def F39.t0 : IR := .reg [.w (.loc (.of 3)) none (.box (.t (.of 1))), .q (.of 4) (.mv (.c .nils)), .q (.of 5) (.mv (.c (I 0)))]
noncomputable def F39.t1 : IR := .reg [.s (.mv (.t (.of 0))), .s (.load (.t (.of 3))), .s (.mv (.t (.of 2))), .w .push none (.call (.c (.fn 120 (.of 120) [])) [(.s 2), (.s 1), (.s 0)]), .s (.mv (.s 0)), .s (.ext 0 (.s 0)), .s (.ext 1 (.s 1)), .s (.ext 2 (.s 2)), .w .push none (.alloc [.nils, .nils]), .s (.mv (.s 3)), .w .none none (.store 2 (.s 1) (.s 3)), .q (.of 6) (.mv (.s 2))]
noncomputable def F39.t2 : IR := .reg [.s (.mv (.t (.of 6))), .q (.of 12) (.bin .neq .int (.s 0) (.c (I 0)))]
noncomputable def F39.t3 : IR := .reg [.s (.mv (.t (.of 6))), .q (.of 4) (.mv (.c .nils)), .q (.of 5) (.mv (.s 0))]
noncomputable def F39.t4 : IR := .seq F39.t3 .ret
noncomputable def F39.t5 : IR := .cond (.t (.of 12)) F39.t4 .skip
noncomputable def F39.t6 : IR := .seq F39.t2 F39.t5
noncomputable def F39.t7 : IR := .seq F39.t1 F39.t6
noncomputable def F39.t8 : IR := .reg [.w .push none .mkmap, .w (.loc (.of 7)) none (.alloc [.nilm]), .w .none none (.store 1 (.t (.of 7)) (.s 0))]
noncomputable def F39.t9 : IR := .reg [.w (.loc (.of 8)) none (.alloc [.nils])]
noncomputable def F39.t10 : IR := .reg [.s (.mv (.t (.of 0))), .w (.loc (.of 13)) none (.call (.c (.fn 90 (.of 90) [])) [(.s 0)])]
noncomputable def F39.t11 : IR := .reg [.w (.loc (.of 9)) none (.alloc [.nils, (.bool false)]), .w .none none (.store 2 (.t (.of 9)) (.t (.of 15)))]
noncomputable def F39.t12 : IR := .reg [.s (.load (.t (.of 7))), .s (.loadN 2 (.t (.of 9))), .w (.loc (.of 16)) none (.call (.c (.fn 121 (.of 121) [])) [(.s 1), (.s 0)])]
noncomputable def F39.t13 : IR := .cond (.t (.of 16)) (.exit 1) .skip
noncomputable def F39.t14 : IR := .seq F39.t12 F39.t13
noncomputable def F39.t15 : IR := .reg [.s (.load (.t (.of 3))), .w (.loc (.of 17)) none (.call (.c (.fn 90 (.of 90) [])) [(.s 0)])]
noncomputable def F39.t16 : IR := .reg [.w (.loc (.of 10)) none (.alloc [.nils, (.bool false)]), .w .none none (.store 2 (.t (.of 10)) (.t (.of 19)))]
noncomputable def F39.t17 : IR := .reg [.s (.loadN 2 (.t (.of 9))), .s (.loadN 2 (.t (.of 10))), .w .push none (.call (.c (.fn 122 (.of 122) [])) [(.s 1), (.s 0)]), .w (.loc (.of 11)) none (.alloc [.nils, (.bool false)]), .w .none none (.store 2 (.t (.of 11)) (.s 0))]
noncomputable def F39.t18 : IR := .dreg [] [(.s (.load (.t (.of 7))), 1, []), (.s (.loadN 2 (.t (.of 11))), 0, []), (.s (.loadN 2 (.t (.of 11))), 1, []), (.w .push none (.call (.c (.fn 123 (.of 123) [])) [(.s 1)]), 0, []), (.w .none none (.mapup .str (.s 3) (.s 0) (.s 1)), 0, [])]
noncomputable def F39.t19 : IR := .seq F39.t17 F39.t18
noncomputable def F39.t20 : IR := .block 3 F39.t19
noncomputable def F39.t21 : IR := .rf (.t (.of 17)) [(.of 18), (.of 19)] F39.t16 F39.t20
noncomputable def F39.t22 : IR := .block 2 F39.t21
noncomputable def F39.t23 : IR := .seq F39.t15 F39.t22
noncomputable def F39.t24 : IR := .dreg [] [(.s (.load (.t (.of 8))), 2, []), (.s (.faddr 0 (.t (.of 9))), 0, []), (.s (.load (.s 0)), 0, []), (.s (.faddr 1 (.t (.of 9))), 1, []), (.s (.load (.s 0)), 1, []), (.w .push none (.call (.c (.fn 106 (.of 106) [])) [(.s 2)]), 0, []), (.s (.build [.nils, (.bool false)] [(0, 1, (.s 0)), (1, 1, (.s 1))]), 0, []), (.w .push none (.bslice 2 1 [.nils, (.bool false)] [(0, 2, (.s 0))]), 0, []), (.w .push none (.appq 2 32 (.s 7) (.s 0)), 0, []), (.w .none none (.store 1 (.t (.of 8)) (.s 0)), 0, [])]
noncomputable def F39.t25 : IR := .seq F39.t23 F39.t24
noncomputable def F39.t26 : IR := .seq F39.t14 F39.t25
noncomputable def F39.t27 : IR := .block 1 F39.t26
noncomputable def F39.t28 : IR := .rf (.t (.of 13)) [(.of 14), (.of 15)] F39.t11 F39.t27
noncomputable def F39.t29 : IR := .block 0 F39.t28
noncomputable def F39.t30 : IR := .seq F39.t10 F39.t29
noncomputable def F39.t31 : IR := .reg [.s (.load (.t (.of 8))), .q (.of 4) (.mv (.s 0)), .q (.of 5) (.mv (.c (I 0)))]
noncomputable def F39.t32 : IR := .seq F39.t31 .ret
noncomputable def F39.t33 : IR := .seq F39.t30 F39.t32
noncomputable def F39.t34 : IR := .seq F39.t9 F39.t33
noncomputable def F39.t35 : IR := .seq F39.t8 F39.t34
noncomputable def F39.t36 : IR := .seq F39.t7 F39.t35
noncomputable def F39.t37 : IR := .seq F39.t0 F39.t36
theorem F39.t0_s : IR.run F39.t0 C N O K (F39.fr b c e g f i d l o q a p u s v w y z B A) h nx =
 sBox c h nx fun v1 h2 n3 => K (F39.fr b c e v1 .nils (I 0) d l o q a p u s v w y z B A) h2 n3 := by kernel_rfl
theorem F39.t1_s : IR.run F39.t1 C N O K (F39.fr b c e g f i d l o q a p u s v w y z B A) h nx =
 zF g h fun v1 => C.fn 120 (.of 120) [b, v1, e] h nx fun v2 h3 n4 => sExt 0 v2 fun v5 => sExt 1 v2 fun v6 => sExt 2 v2 fun v7 => yQ [.nils, .nils] h3 n4 fun v8 h9 nG => zQ 2 v8 v6 h9 nG fun vB hG nH => K (F39.fr b c e g f i v7 l o q a p u s v w y z B A) hG nH := by kernel_rfl
theorem F39.t2_s : IR.run F39.t2 C N O K (F39.fr b c e g f i d l o q a p u s v w y z B A) h nx =
 sBin .neq .int d (I 0) fun v1 => K (F39.fr b c e g f i d l o q a p v1 s v w y z B A) h nx := by kernel_rfl
theorem F39.v12 : Arg.ev (.t (.of 12)) ⟨(F39.fr b c e g f i d l o q a p u s v w y z B A), []⟩ = u := by kernel_rfl
theorem F39.t8_s : IR.run F39.t8 C N O K (F39.fr b c e g f i d l o q a p u s v w y z B A) h nx =
 pN h nx fun v1 h2 n3 => yQ [.nilm] h2 n3 fun v4 h5 n6 => zQ 1 v4 v1 h5 n6 fun v7 h8 n9 => K (F39.fr b c e g f i d v4 o q a p u s v w y z B A) h8 n9 := by kernel_rfl
theorem F39.t9_s : IR.run F39.t9 C N O K (F39.fr b c e g f i d l o q a p u s v w y z B A) h nx =
 yQ [.nils] h nx fun v1 h2 n3 => K (F39.fr b c e g f i d l v1 q a p u s v w y z B A) h2 n3 := by kernel_rfl
theorem F39.t10_s : IR.run F39.t10 C N O K (F39.fr b c e g f i d l o q a p u s v w y z B A) h nx =
 C.fn 90 (.of 90) [b] h nx fun v1 h2 n3 => K (F39.fr b c e g f i d l o q a p u v1 v w y z B A) h2 n3 := by kernel_rfl
theorem F39.t11_s : IR.run F39.t11 C N O K (F39.fr b c e g f i d l o q a p u s v w y z B A) h nx =
 yQ [.nils, (.bool false)] h nx fun v1 h2 n3 => zQ 2 v1 w h2 n3 fun v4 h5 n6 => K (F39.fr b c e g f i d l o v1 a p u s v w y z B A) h5 n6 := by kernel_rfl
theorem F39.t12_s : IR.run F39.t12 C N O K (F39.fr b c e g f i d l o q a p u s v w y z B A) h nx =
 zF l h fun v1 => zJ 2 q h fun v2 => C.fn 121 (.of 121) [v1, v2] h nx fun v3 h4 n5 => K (F39.fr b c e g f i d l o q a p u s v w v3 z B A) h4 n5 := by kernel_rfl
theorem F39.v16 : Arg.ev (.t (.of 16)) ⟨(F39.fr b c e g f i d l o q a p u s v w y z B A), []⟩ = y := by kernel_rfl
theorem F39.t15_s : IR.run F39.t15 C N O K (F39.fr b c e g f i d l o q a p u s v w y z B A) h nx =
 zF g h fun v1 => C.fn 90 (.of 90) [v1] h nx fun v2 h3 n4 => K (F39.fr b c e g f i d l o q a p u s v w y v2 B A) h3 n4 := by kernel_rfl
theorem F39.t16_s : IR.run F39.t16 C N O K (F39.fr b c e g f i d l o q a p u s v w y z B A) h nx =
 yQ [.nils, (.bool false)] h nx fun v1 h2 n3 => zQ 2 v1 A h2 n3 fun v4 h5 n6 => K (F39.fr b c e g f i d l o q v1 p u s v w y z B A) h5 n6 := by kernel_rfl
theorem F39.t17_s : IR.run F39.t17 C N O K (F39.fr b c e g f i d l o q a p u s v w y z B A) h nx =
 zJ 2 q h fun v1 => zJ 2 a h fun v2 => C.fn 122 (.of 122) [v1, v2] h nx fun v3 h4 n5 => yQ [.nils, (.bool false)] h4 n5 fun v6 h7 n8 => zQ 2 v6 v3 h7 n8 fun v9 hV nV => K (F39.fr b c e g f i d l o q a v6 u s v w y z B A) hV nV := by kernel_rfl
theorem F39.t18_s : IR.run F39.t18 C N O K (F39.fr b c e g f i d l o q a p u s v w y z B A) h nx =
 zF l h fun v1 => zJ 2 p h fun v2 => zJ 2 p h fun v3 => C.fn 123 (.of 123) [v2] h nx fun v4 h5 n6 => (zJ 2 p h5 fun vB => zI vB v3 ((zF l h5 fun vA => zI vA v1 (xD .str v1 v4 v3 h5 n6 fun v7 h8 n9 => K (F39.fr b c e g f i d l o q a p u s v w y z B A) h8 n9)))) := by kernel_rfl
theorem F39.t21_f : Arg.ev (.t (.of 17)) ⟨(F39.fr b c e g f i d l o q a p u s v w y z B A), []⟩ = z := by kernel_rfl
theorem F39.t21_b {z0 z1 : AV} (k : T AV → OP) : yV [(.of 18), (.of 19)] [z0, z1] (F39.fr b c e g f i d l o q a p u s v w y z B A) k = k (F39.fr b c e g f i d l o q a p u s v w y z z0 z1) := by kernel_rfl
theorem F39.t24_s : IR.run F39.t24 C N O K (F39.fr b c e g f i d l o q a p u s v w y z B A) h nx =
 zF o h fun v1 => zO 0 q fun v2 => zF v2 h fun v3 => zO 1 q fun v4 => zF v4 h fun v5 => C.fn 106 (.of 106) [v3] h nx fun v6 h7 n8 => (zF v4 h7 fun vW => zI vW v5 ((zO 1 q fun vM => zI vM v4 ((zF o h7 fun vL => zI vL v1 (kC [.nils, (.bool false)] [(0, 1, v6), (1, 1, v5)] fun v9 => jH 2 1 [.nils, (.bool false)] [(0, 2, v9)] h7 n8 fun vA hB nB => (zF o hB fun vK => zI vK v1 (vH C 2 32 v1 vA hB nB fun vD hC nC => zQ 1 o vD hC nC fun vG hD nD => K (F39.fr b c e g f i d l o q a p u s v w y z B A) hD nD)))))))) := by kernel_rfl
theorem F39.t28_f : Arg.ev (.t (.of 13)) ⟨(F39.fr b c e g f i d l o q a p u s v w y z B A), []⟩ = s := by kernel_rfl
theorem F39.t28_b {z0 z1 : AV} (k : T AV → OP) : yV [(.of 14), (.of 15)] [z0, z1] (F39.fr b c e g f i d l o q a p u s v w y z B A) k = k (F39.fr b c e g f i d l o q a p u s z0 z1 y z B A) := by kernel_rfl
theorem F39.t31_s : IR.run F39.t31 C N O K (F39.fr b c e g f i d l o q a p u s v w y z B A) h nx =
 zF o h fun v1 => K (F39.fr b c e g v1 (I 0) d l o q a p u s v w y z B A) h nx := by kernel_rfl
theorem F39.tab : T.get none (.of 39) tbl = some F39 := by kernel_rfl
theorem F39.bind (k : T AV → OP) : yV F39.params [a0, a1, a2] F39.init k = k (F39.fr a0 a1 a2 .undef .undef .undef .undef .undef .undef .undef .undef .undef .undef .undef .undef .undef .undef .undef .undef .undef) := by kernel_rfl
theorem F39.body_eq : F39.body = F39.t37 := by kernel_rfl
theorem F39.go : zT tbl N C (.of 39) [a0, a1, a2] h nx K0 = IR.run F39.t37 C N (fnO F39.res K0) (retK F39.res K0) (F39.fr a0 a1 a2 .undef .undef .undef .undef .undef .undef .undef .undef .undef .undef .undef .undef .undef .undef .undef .undef .undef) h nx := by
 rw [zH F39.tab, F39.bind, F39.body_eq]; kernel_rfl
theorem F39.ret : retK F39.res K0 (F39.fr b c e g f i d l o q a p u s v w y z B A) h nx = K0 (.tup [f, i]) h nx := by kernel_rfl
noncomputable def F40.t0 : IR := .reg [.q (.of 3) (.mv (.c (.bool false))), .q (.of 4) (.mv (.c (I 0)))]
noncomputable def F40.t1 : IR := .reg [.s (.mv (.t (.of 0))), .s (.mv (.t (.of 1))), .s (.mv (.t (.of 2))), .w .push none (.call (.c (.fn 120 (.of 120) [])) [(.s 2), (.s 1), (.s 0)]), .s (.mv (.s 0)), .s (.ext 0 (.s 0)), .s (.ext 1 (.s 1)), .s (.ext 2 (.s 2)), .w (.loc (.of 6)) none (.alloc [.nils, .nils]), .q (.of 5) (.mv (.s 2)), .w .none none (.store 2 (.t (.of 6)) (.s 1)), .q (.of 7) (.mv (.s 0))]
noncomputable def F40.t2 : IR := .reg [.s (.mv (.t (.of 7))), .q (.of 10) (.bin .neq .int (.s 0) (.c (I 0)))]
noncomputable def F40.t3 : IR := .reg [.s (.mv (.t (.of 7))), .q (.of 3) (.mv (.c (.bool false))), .q (.of 4) (.mv (.s 0))]
noncomputable def F40.t4 : IR := .seq F40.t3 .ret
noncomputable def F40.t5 : IR := .cond (.t (.of 10)) F40.t4 .skip
noncomputable def F40.t6 : IR := .seq F40.t2 F40.t5
noncomputable def F40.t7 : IR := .reg [.s (.aaddr 1 2 (.t (.of 6)) (.c (I 0))), .q (.of 11) (.load (.s 0)), .q (.of 12) (.len (.t (.of 11))), .q (.of 13) (.mv (.c (I 0)))]
noncomputable def F40.t8 : IR := .reg [.q (.of 14) (.bin .lss .int (.t (.of 13)) (.t (.of 12)))]
noncomputable def F40.t9 : IR := .cond (.t (.of 14)) .skip (.exit 0)
noncomputable def F40.t10 : IR := .reg [.s (.iaddr 2 (.t (.of 11)) (.t (.of 13))), .s (.loadN 2 (.s 0)), .w (.loc (.of 8)) none (.alloc [.nils, (.bool false)]), .w .none none (.store 2 (.t (.of 8)) (.s 0))]
noncomputable def F40.t11 : IR := .reg [.s (.aaddr 1 2 (.t (.of 6)) (.c (I 1))), .q (.of 15) (.load (.s 0)), .q (.of 16) (.len (.t (.of 15))), .q (.of 17) (.mv (.c (I 0)))]
noncomputable def F40.t12 : IR := .reg [.q (.of 18) (.bin .lss .int (.t (.of 17)) (.t (.of 16)))]
noncomputable def F40.t13 : IR := .cond (.t (.of 18)) .skip (.exit 2)
noncomputable def F40.t14 : IR := .reg [.s (.iaddr 2 (.t (.of 15)) (.t (.of 17))), .s (.loadN 2 (.s 0)), .w (.loc (.of 9)) none (.alloc [.nils, (.bool false)]), .w .none none (.store 2 (.t (.of 9)) (.s 0))]
noncomputable def F40.t15 : IR := .dreg [] [(.s (.mv (.t (.of 5))), 3, []), (.s (.loadN 2 (.t (.of 8))), 0, []), (.s (.loadN 2 (.t (.of 9))), 0, []), (.s (.loadN 2 (.t (.of 8))), 1, []), (.w .push none (.call (.c (.fn 122 (.of 122) [])) [(.s 2), (.s 1)]), 0, []), (.w .push none (.call (.c (.fn 124 (.of 124) [])) [(.s 1)]), 0, []), (.w .push none (.call (.c (.fn 122 (.of 122) [])) [(.s 1), (.s 0)]), 0, []), (.w .push none (.call (.c (.fn 121 (.of 121) [])) [(.s 6), (.s 0)]), 0, []), (.q (.of 19) (.not (.s 0)), 0, [])]
noncomputable def F40.t16 : IR := .reg [.q (.of 3) (.mv (.c (.bool false))), .q (.of 4) (.mv (.c (I 0)))]
noncomputable def F40.t17 : IR := .seq F40.t16 .ret
noncomputable def F40.t18 : IR := .cond (.t (.of 19)) F40.t17 .skip
noncomputable def F40.t19 : IR := .seq F40.t15 F40.t18
noncomputable def F40.t20 : IR := .seq F40.t14 F40.t19
noncomputable def F40.t21 : IR := .block 3 F40.t20
noncomputable def F40.t22 : IR := .reg [.s (.bin .add .int (.t (.of 17)) (.c (I 1))), .q (.of 17) (.mv (.s 0))]
noncomputable def F40.t23 : IR := .seq F40.t21 F40.t22
noncomputable def F40.t24 : IR := .seq F40.t13 F40.t23
noncomputable def F40.t25 : IR := .seq F40.t12 F40.t24
noncomputable def F40.t26 : IR := .loop F40.t25
noncomputable def F40.t27 : IR := .block 2 F40.t26
noncomputable def F40.t28 : IR := .seq F40.t11 F40.t27
noncomputable def F40.t29 : IR := .seq F40.t10 F40.t28
noncomputable def F40.t30 : IR := .block 1 F40.t29
noncomputable def F40.t31 : IR := .reg [.s (.bin .add .int (.t (.of 13)) (.c (I 1))), .q (.of 13) (.mv (.s 0))]
noncomputable def F40.t32 : IR := .seq F40.t30 F40.t31
noncomputable def F40.t33 : IR := .seq F40.t9 F40.t32
noncomputable def F40.t34 : IR := .seq F40.t8 F40.t33
noncomputable def F40.t35 : IR := .loop F40.t34
noncomputable def F40.t36 : IR := .block 0 F40.t35
noncomputable def F40.t37 : IR := .seq F40.t7 F40.t36
noncomputable def F40.t38 : IR := .reg [.q (.of 3) (.mv (.c (.bool true))), .q (.of 4) (.mv (.c (I 0)))]
noncomputable def F40.t39 : IR := .seq F40.t38 .ret
noncomputable def F40.t40 : IR := .seq F40.t37 F40.t39
noncomputable def F40.t41 : IR := .seq F40.t6 F40.t40
noncomputable def F40.t42 : IR := .seq F40.t1 F40.t41
noncomputable def F40.t43 : IR := .seq F40.t0 F40.t42
theorem F40.t0_s : IR.run F40.t0 C N O K (F40.fr b c e g f i d l o q a p u s v w y z B A) h nx =
 K (F40.fr b c e (.bool false) (I 0) i d l o q a p u s v w y z B A) h nx := by kernel_rfl
theorem F40.t1_s : IR.run F40.t1 C N O K (F40.fr b c e g f i d l o q a p u s v w y z B A) h nx =
 C.fn 120 (.of 120) [b, c, e] h nx fun v1 h2 n3 => sExt 0 v1 fun v4 => sExt 1 v1 fun v5 => sExt 2 v1 fun v6 => yQ [.nils, .nils] h2 n3 fun v7 h8 n9 => zQ 2 v7 v5 h8 n9 fun vA hB nB => K (F40.fr b c e g f v4 v7 v6 o q a p u s v w y z B A) hB nB := by kernel_rfl
theorem F40.t2_s : IR.run F40.t2 C N O K (F40.fr b c e g f i d l o q a p u s v w y z B A) h nx =
 sBin .neq .int l (I 0) fun v1 => K (F40.fr b c e g f i d l o q v1 p u s v w y z B A) h nx := by kernel_rfl
theorem F40.t3_s : IR.run F40.t3 C N O K (F40.fr b c e g f i d l o q a p u s v w y z B A) h nx =
 K (F40.fr b c e (.bool false) l i d l o q a p u s v w y z B A) h nx := by kernel_rfl
theorem F40.v10 : Arg.ev (.t (.of 10)) ⟨(F40.fr b c e g f i d l o q a p u s v w y z B A), []⟩ = a := by kernel_rfl
theorem F40.t7_s : IR.run F40.t7 C N O K (F40.fr b c e g f i d l o q a p u s v w y z B A) h nx =
 vT 1 2 d (I 0) fun v1 => zF v1 h fun v2 => sLen v2 fun v3 => K (F40.fr b c e g f i d l o q a v2 v3 (I 0) v w y z B A) h nx := by kernel_rfl
theorem F40.t8_s : IR.run F40.t8 C N O K (F40.fr b c e g f i d l o q a p u s v w y z B A) h nx =
 sBin .lss .int s u fun v1 => K (F40.fr b c e g f i d l o q a p u s v1 w y z B A) h nx := by kernel_rfl
theorem F40.v14 : Arg.ev (.t (.of 14)) ⟨(F40.fr b c e g f i d l o q a p u s v w y z B A), []⟩ = v := by kernel_rfl
theorem F40.t10_s : IR.run F40.t10 C N O K (F40.fr b c e g f i d l o q a p u s v w y z B A) h nx =
 zS 2 p s fun v1 => zJ 2 v1 h fun v2 => yQ [.nils, (.bool false)] h nx fun v3 h4 n5 => zQ 2 v3 v2 h4 n5 fun v6 h7 n8 => K (F40.fr b c e g f i d l v3 q a p u s v w y z B A) h7 n8 := by kernel_rfl
theorem F40.t11_s : IR.run F40.t11 C N O K (F40.fr b c e g f i d l o q a p u s v w y z B A) h nx =
 vT 1 2 d (I 1) fun v1 => zF v1 h fun v2 => sLen v2 fun v3 => K (F40.fr b c e g f i d l o q a p u s v v2 v3 (I 0) B A) h nx := by kernel_rfl
theorem F40.t12_s : IR.run F40.t12 C N O K (F40.fr b c e g f i d l o q a p u s v w y z B A) h nx =
 sBin .lss .int z y fun v1 => K (F40.fr b c e g f i d l o q a p u s v w y z v1 A) h nx := by kernel_rfl
theorem F40.v18 : Arg.ev (.t (.of 18)) ⟨(F40.fr b c e g f i d l o q a p u s v w y z B A), []⟩ = B := by kernel_rfl
theorem F40.t14_s : IR.run F40.t14 C N O K (F40.fr b c e g f i d l o q a p u s v w y z B A) h nx =
 zS 2 w z fun v1 => zJ 2 v1 h fun v2 => yQ [.nils, (.bool false)] h nx fun v3 h4 n5 => zQ 2 v3 v2 h4 n5 fun v6 h7 n8 => K (F40.fr b c e g f i d l o v3 a p u s v w y z B A) h7 n8 := by kernel_rfl
theorem F40.t15_s : IR.run F40.t15 C N O K (F40.fr b c e g f i d l o q a p u s v w y z B A) h nx =
 zJ 2 o h fun v1 => zJ 2 q h fun v2 => zJ 2 o h fun v3 => C.fn 122 (.of 122) [v1, v2] h nx fun v4 h5 n6 => (zJ 2 o h5 fun vI => zI vI v3 (zI i i (C.fn 124 (.of 124) [v3] h5 n6 fun v7 h8 n9 => zI i i (C.fn 122 (.of 122) [v4, v7] h8 n9 fun vA hB nB => zI i i (C.fn 121 (.of 121) [i, vA] hB nB fun vD hC nC => sNot vD fun vG => K (F40.fr b c e g f i d l o q a p u s v w y z B vG) hC nC))))) := by kernel_rfl
theorem F40.t16_s : IR.run F40.t16 C N O K (F40.fr b c e g f i d l o q a p u s v w y z B A) h nx =
 K (F40.fr b c e (.bool false) (I 0) i d l o q a p u s v w y z B A) h nx := by kernel_rfl
theorem F40.v19 : Arg.ev (.t (.of 19)) ⟨(F40.fr b c e g f i d l o q a p u s v w y z B A), []⟩ = A := by kernel_rfl
theorem F40.t22_s : IR.run F40.t22 C N O K (F40.fr b c e g f i d l o q a p u s v w y z B A) h nx =
 sBin .add .int z (I 1) fun v1 => K (F40.fr b c e g f i d l o q a p u s v w y v1 B A) h nx := by kernel_rfl
theorem F40.t26_L (Inv : Nat → AV → T Blk → Pa → Prop) {m : Nat} (hm : m < N) (hi : Inv m z h nx)
  (step : ∀ (m : Nat) (z3 z4 z9 zU zE zG : AV) (h : T Blk) (nx : Pa) (R : Ks Prop), Inv m zU h nx → (∀ (m' : Nat) (w3 w4 w9 wM wE wF : AV) (h' : T Blk) (nx' : Pa), m' < m → Inv m' wM h' nx' → R (F40.fr b c e w3 w4 i d l o w9 a p u s v w y wM wE wF) h' nx' = .ok True) → IR.run F40.t25 C N O R (F40.fr b c e z3 z4 i d l o z9 a p u s v w y zU zE zG) h nx = .ok True) :
  IR.run F40.t26 C N O K (F40.fr b c e g f i d l o q a p u s v w y z B A) h nx = .ok True := by
 rw [F40.t26]
 refine yJ (fun m tm h nx => ∃ z3 z4 z9 zU zE zG, tm = (F40.fr b c e z3 z4 i d l o z9 a p u s v w y zU zE zG) ∧ Inv m zU h nx) ?_ hm ⟨_, _, _, _, _, _, rfl, hi⟩
 rintro m tm h nx R ⟨z3, z4, z9, zU, zE, zG, rfl, hi⟩ hR
 exact step m z3 z4 z9 zU zE zG h nx R hi fun m' w3 w4 w9 wM wE wF h' nx' hlt hi' => hR m' _ h' nx' hlt ⟨_, _, _, _, _, _, rfl, hi'⟩
theorem F40.t31_s : IR.run F40.t31 C N O K (F40.fr b c e g f i d l o q a p u s v w y z B A) h nx =
 sBin .add .int s (I 1) fun v1 => K (F40.fr b c e g f i d l o q a p u v1 v w y z B A) h nx := by kernel_rfl
theorem F40.t35_L (Inv : Nat → AV → T Blk → Pa → Prop) {m : Nat} (hm : m < N) (hi : Inv m s h nx)
  (step : ∀ (m : Nat) (z3 z4 z8 z9 zD zV zW zR zU zE zG : AV) (h : T Blk) (nx : Pa) (R : Ks Prop), Inv m zD h nx → (∀ (m' : Nat) (w3 w4 w8 w9 wD wN wO wL wM wE wF : AV) (h' : T Blk) (nx' : Pa), m' < m → Inv m' wD h' nx' → R (F40.fr b c e w3 w4 i d l w8 w9 a p u wD wN wO wL wM wE wF) h' nx' = .ok True) → IR.run F40.t34 C N O R (F40.fr b c e z3 z4 i d l z8 z9 a p u zD zV zW zR zU zE zG) h nx = .ok True) :
  IR.run F40.t35 C N O K (F40.fr b c e g f i d l o q a p u s v w y z B A) h nx = .ok True := by
 rw [F40.t35]
 refine yJ (fun m tm h nx => ∃ z3 z4 z8 z9 zD zV zW zR zU zE zG, tm = (F40.fr b c e z3 z4 i d l z8 z9 a p u zD zV zW zR zU zE zG) ∧ Inv m zD h nx) ?_ hm ⟨_, _, _, _, _, _, _, _, _, _, _, rfl, hi⟩
 rintro m tm h nx R ⟨z3, z4, z8, z9, zD, zV, zW, zR, zU, zE, zG, rfl, hi⟩ hR
 exact step m z3 z4 z8 z9 zD zV zW zR zU zE zG h nx R hi fun m' w3 w4 w8 w9 wD wN wO wL wM wE wF h' nx' hlt hi' => hR m' _ h' nx' hlt ⟨_, _, _, _, _, _, _, _, _, _, _, rfl, hi'⟩
theorem F40.t38_s : IR.run F40.t38 C N O K (F40.fr b c e g f i d l o q a p u s v w y z B A) h nx =
 K (F40.fr b c e (.bool true) (I 0) i d l o q a p u s v w y z B A) h nx := by kernel_rfl
theorem F40.tab : T.get none (.of 40) tbl = some F40 := by kernel_rfl
theorem F40.bind (k : T AV → OP) : yV F40.params [a0, a1, a2] F40.init k = k (F40.fr a0 a1 a2 .undef .undef .undef .undef .undef .undef .undef .undef .undef .undef .undef .undef .undef .undef .undef .undef .undef) := by kernel_rfl
theorem F40.body_eq : F40.body = F40.t43 := by kernel_rfl
theorem F40.go : zT tbl N C (.of 40) [a0, a1, a2] h nx K0 = IR.run F40.t43 C N (fnO F40.res K0) (retK F40.res K0) (F40.fr a0 a1 a2 .undef .undef .undef .undef .undef .undef .undef .undef .undef .undef .undef .undef .undef .undef .undef .undef .undef) h nx := by
 rw [zH F40.tab, F40.bind, F40.body_eq]; kernel_rfl
theorem F40.ret : retK F40.res K0 (F40.fr b c e g f i d l o q a p u s v w y z B A) h nx = K0 (.tup [g, f]) h nx := by kernel_rfl
end
end Go.Ev
namespace Go.Ev
open Go Go.Proofs
set_option maxRecDepth 100000
section
variable {N : Nat} {C : Calls Prop} {K0 : Kw Prop} {K : Ks Prop} {h : T Blk} {nx : Pa} {b c e g f i d l o q a0 : AV} {O : Outs Prop} {tm : T AV} {Kt : KTm} {r : List RO} {s0 s1 s2 s3 s4 s5 s6 s7 s8 s9 s10 s11 s12 s13 s14 s15 s16 s17 s18 s19 s20 s21 s22 s23 s24 s25 s26 s27 s28 s29 s30 s31 s32 s33 s34 s35 s36 s37 s38 s39 s40 s41 s42 s43 s44 s45 s46 s47 s48 s49 s50 s51 s52 s53 s54 s55 s56 s57 s58 s59 : AV}
noncomputable def F124.t0 : IR := .reg [.w (.loc (.of 1)) none (.box (.t (.of 0))), .w (.loc (.of 2)) none (.alloc [.nils, (.bool false)])]
noncomputable def F124.t1 : IR := .dreg [(.alloc [.nils, (.bool false)])] [(.s (.faddr 0 (.t (.of 1))), 2, []), (.s (.load (.s 0)), 2, []), (.s (.len (.s 0)), 2, [(.mkslice 1 8 [(I 0)] (.s 0) (.s 0))]), (.s (.faddr 1 (.t (.of 1))), 2, []), (.s (.load (.s 0)), 2, []), (.w .push none (.mkslice 1 8 [(I 0)] (.s 2) (.s 2)), 0, []), (.s (.build [.nils, (.bool false)] [(0, 1, (.s 0)), (1, 1, (.s 1))]), 1, []), (.w (.loc (.of 3)) none (.alloc [.nils, (.bool false)]), 0, []), (.w .none none (.store 2 (.t (.of 3)) (.s 0)), 0, [])]
noncomputable def F124.t2 : IR := .reg [.s (.faddr 0 (.t (.of 1))), .q (.of 6) (.load (.s 0)), .q (.of 7) (.len (.t (.of 6))), .q (.of 8) (.mv (.c (I 0)))]
noncomputable def F124.t3 : IR := .reg [.q (.of 9) (.bin .lss .int (.t (.of 8)) (.t (.of 7)))]
noncomputable def F124.t4 : IR := .cond (.t (.of 9)) .skip (.exit 0)
noncomputable def F124.t5 : IR := .reg [.s (.mv (.t (.of 8))), .s (.iaddr 1 (.t (.of 6)) (.t (.of 8))), .s (.load (.s 0)), .q (.of 4) (.mv (.s 2)), .q (.of 5) (.mv (.s 0))]
noncomputable def F124.t6 : IR := .reg [.s (.faddr 0 (.t (.of 3))), .s (.load (.s 0)), .s (.mv (.t (.of 5))), .s (.mv (.t (.of 4))), .s (.iaddr 1 (.s 2) (.s 1)), .w .none none (.store 1 (.s 0) (.s 1))]
noncomputable def F124.t7 : IR := .seq F124.t5 F124.t6
noncomputable def F124.t8 : IR := .block 1 F124.t7
noncomputable def F124.t9 : IR := .reg [.s (.bin .add .int (.t (.of 8)) (.c (I 1))), .q (.of 8) (.mv (.s 0))]
noncomputable def F124.t10 : IR := .seq F124.t8 F124.t9
noncomputable def F124.t11 : IR := .seq F124.t4 F124.t10
noncomputable def F124.t12 : IR := .seq F124.t3 F124.t11
noncomputable def F124.t13 : IR := .loop F124.t12
noncomputable def F124.t14 : IR := .block 0 F124.t13
noncomputable def F124.t15 : IR := .seq F124.t2 F124.t14
noncomputable def F124.t16 : IR := .reg [.s (.loadN 2 (.t (.of 3))), .w .none none (.store 2 (.t (.of 2)) (.s 0))]
noncomputable def F124.t17 : IR := .seq F124.t16 .ret
noncomputable def F124.t18 : IR := .seq F124.t15 F124.t17
noncomputable def F124.t19 : IR := .seq F124.t1 F124.t18
noncomputable def F124.t20 : IR := .seq F124.t0 F124.t19
theorem F124.t0_s : IR.run F124.t0 C N O K (F124.fr b c e g f i d l o q) h nx =
 sBox b h nx fun v1 h2 n3 => yQ [.nils, (.bool false)] h2 n3 fun v4 h5 n6 => K (F124.fr b v1 v4 g f i d l o q) h5 n6 := by kernel_rfl
theorem F124.t1_s : IR.run F124.t1 C N O K (F124.fr b c e g f i d l o q) h nx =
 sChk (true && true) (zO 0 c fun v1 => zF v1 h fun v2 => sLen v2 fun v3 => sChk (mkSl 8 v3 v3 && true) (zO 1 c fun v4 => zF v4 h fun v5 => u5 1 8 [(I 0)] v3 v3 h nx fun v6 h7 n8 => (zF v4 h7 fun vY => zI vY v5 ((zO 1 c fun vX => zI vX v4 ((sLen v2 fun v24 => zI v24 v3 ((zF v1 h7 fun v23 => zI v23 v2 ((zO 0 c fun vW => zI vW v1 (kC [.nils, (.bool false)] [(0, 1, v6), (1, 1, v5)] fun v9 => yQ [.nils, (.bool false)] h7 n8 fun vA hB nB => (kC [.nils, (.bool false)] [(0, 1, v6), (1, 1, v5)] fun vM => zI vM v9 ((zF v4 hB fun vL => zI vL v5 ((zO 1 c fun vK => zI vK v4 ((sLen v2 fun vJ => zI vJ v3 ((zF v1 hB fun vI => zI vI v2 ((zO 0 c fun vG => zI vG v1 (zQ 2 vA v9 hB nB fun vD hC nC => K (F124.fr b c e vA f i d l o q) hC nC)))))))))))))))))))))))) := by kernel_rfl
theorem F124.t2_s : IR.run F124.t2 C N O K (F124.fr b c e g f i d l o q) h nx =
 zO 0 c fun v1 => zF v1 h fun v2 => sLen v2 fun v3 => K (F124.fr b c e g f i v2 v3 (I 0) q) h nx := by kernel_rfl
theorem F124.t3_s : IR.run F124.t3 C N O K (F124.fr b c e g f i d l o q) h nx =
 sBin .lss .int o l fun v1 => K (F124.fr b c e g f i d l o v1) h nx := by kernel_rfl
theorem F124.v9 : Arg.ev (.t (.of 9)) ⟨(F124.fr b c e g f i d l o q), []⟩ = q := by kernel_rfl
theorem F124.t5_s : IR.run F124.t5 C N O K (F124.fr b c e g f i d l o q) h nx =
 zS 1 d o fun v1 => zF v1 h fun v2 => K (F124.fr b c e g o v2 d l o q) h nx := by kernel_rfl
theorem F124.t6_s : IR.run F124.t6 C N O K (F124.fr b c e g f i d l o q) h nx =
 zO 0 g fun v1 => zF v1 h fun v2 => zS 1 v2 i fun v3 => zQ 1 v3 f h nx fun v4 h5 n6 => K (F124.fr b c e g f i d l o q) h5 n6 := by kernel_rfl
theorem F124.t9_s : IR.run F124.t9 C N O K (F124.fr b c e g f i d l o q) h nx =
 sBin .add .int o (I 1) fun v1 => K (F124.fr b c e g f i d l v1 q) h nx := by kernel_rfl
theorem F124.t13_L (Inv : Nat → AV → T Blk → Pa → Prop) {m : Nat} (hm : m < N) (hi : Inv m o h nx)
  (step : ∀ (m : Nat) (z4 z5 z8 z9 : AV) (h : T Blk) (nx : Pa) (R : Ks Prop), Inv m z8 h nx → (∀ (m' : Nat) (w4 w5 w8 w9 : AV) (h' : T Blk) (nx' : Pa), m' < m → Inv m' w8 h' nx' → R (F124.fr b c e g w4 w5 d l w8 w9) h' nx' = .ok True) → IR.run F124.t12 C N O R (F124.fr b c e g z4 z5 d l z8 z9) h nx = .ok True) :
  IR.run F124.t13 C N O K (F124.fr b c e g f i d l o q) h nx = .ok True := by
 rw [F124.t13]
 refine yJ (fun m tm h nx => ∃ z4 z5 z8 z9, tm = (F124.fr b c e g z4 z5 d l z8 z9) ∧ Inv m z8 h nx) ?_ hm ⟨_, _, _, _, rfl, hi⟩
 rintro m tm h nx R ⟨z4, z5, z8, z9, rfl, hi⟩ hR
 exact step m z4 z5 z8 z9 h nx R hi fun m' w4 w5 w8 w9 h' nx' hlt hi' => hR m' _ h' nx' hlt ⟨_, _, _, _, rfl, hi'⟩
theorem F124.t16_s : IR.run F124.t16 C N O K (F124.fr b c e g f i d l o q) h nx =
 zJ 2 g h fun v1 => zQ 2 e v1 h nx fun v2 h3 n4 => K (F124.fr b c e g f i d l o q) h3 n4 := by kernel_rfl
theorem F124.tab : T.get none (.of 124) tbl = some F124 := by kernel_rfl
theorem F124.bind (k : T AV → OP) : yV F124.params [a0] F124.init k = k (F124.fr a0 .undef .undef .undef .undef .undef .undef .undef .undef .undef) := by kernel_rfl
theorem F124.body_eq : F124.body = F124.t20 := by kernel_rfl
theorem F124.go : zT tbl N C (.of 124) [a0] h nx K0 = IR.run F124.t20 C N (fnO F124.res K0) (retK F124.res K0) (F124.fr a0 .undef .undef .undef .undef .undef .undef .undef .undef .undef) h nx := by
 rw [zH F124.tab, F124.bind, F124.body_eq]; kernel_rfl
theorem F124.ret : retK F124.res K0 (F124.fr b c e g f i d l o q) h nx = zJ 2 e h fun v1 => K0 v1 h nx := by kernel_rfl
end
end Go.Ev
namespace Go.Ev
open Go Go.Proofs
set_option maxRecDepth 100000
section
variable {N : Nat} {C : Calls Prop} {K0 : Kw Prop} {K : Ks Prop} {h : T Blk} {nx : Pa} {b c e g f i d l o q a p a0 a1 a2 : AV} {O : Outs Prop} {tm : T AV} {Kt : KTm} {r : List RO} {s0 s1 s2 s3 s4 s5 s6 s7 s8 s9 s10 s11 s12 s13 s14 s15 s16 s17 s18 s19 s20 s21 s22 s23 s24 s25 s26 s27 s28 s29 s30 s31 s32 s33 s34 s35 s36 s37 s38 s39 s40 s41 s42 s43 s44 s45 s46 s47 s48 s49 s50 s51 s52 s53 s54 s55 s56 s57 s58 s59 : AV}
end
end Go.Ev
namespace Go.Ev
open Go Go.Proofs
set_option maxRecDepth 100000
section
variable {N : Nat} {C : Calls Prop} {K0 : Kw Prop} {K : Ks Prop} {h : T Blk} {nx : Pa} {b c e g f i d l o q a p u a0 a1 : AV} {O : Outs Prop} {tm : T AV} {Kt : KTm} {r : List RO} {s0 s1 s2 s3 s4 s5 s6 s7 s8 s9 s10 s11 s12 s13 s14 s15 s16 s17 s18 s19 s20 s21 s22 s23 s24 s25 s26 s27 s28 s29 s30 s31 s32 s33 s34 s35 s36 s37 s38 s39 s40 s41 s42 s43 s44 s45 s46 s47 s48 s49 s50 s51 s52 s53 s54 s55 s56 s57 s58 s59 : AV}
end
end Go.Ev
namespace Go.Ev
open Go Go.Proofs
set_option maxRecDepth 100000
section
variable {N : Nat} {C : Calls Prop} {K0 : Kw Prop} {K : Ks Prop} {h : T Blk} {nx : Pa} {b c e g f i d l o q a p u s v w a0 a1 : AV} {O : Outs Prop} {tm : T AV} {Kt : KTm} {r : List RO} {s0 s1 s2 s3 s4 s5 s6 s7 s8 s9 s10 s11 s12 s13 s14 s15 s16 s17 s18 s19 s20 s21 s22 s23 s24 s25 s26 s27 s28 s29 s30 s31 s32 s33 s34 s35 s36 s37 s38 s39 s40 s41 s42 s43 s44 s45 s46 s47 s48 s49 s50 s51 s52 s53 s54 s55 s56 s57 s58 s59 : AV}
end
end Go.Ev
namespace Go.Ev
open Go Go.Proofs
set_option maxRecDepth 100000
section
variable {N : Nat} {C : Calls Prop} {K0 : Kw Prop} {K : Ks Prop} {h : T Blk} {nx : Pa} {b c e g f i d l o q a p u s v w y z B A a0 a1 : AV} {O : Outs Prop} {tm : T AV} {Kt : KTm} {r : List RO} {s0 s1 s2 s3 s4 s5 s6 s7 s8 s9 s10 s11 s12 s13 s14 s15 s16 s17 s18 s19 s20 s21 s22 s23 s24 s25 s26 s27 s28 s29 s30 s31 s32 s33 s34 s35 s36 s37 s38 s39 s40 s41 s42 s43 s44 s45 s46 s47 s48 s49 s50 s51 s52 s53 s54 s55 s56 s57 s58 s59 : AV}
end
end Go.Ev
namespace Go.Ev
open Go Go.Proofs
set_option maxRecDepth 100000
section
variable {N : Nat} {C : Calls Prop} {K0 : Kw Prop} {K : Ks Prop} {h : T Blk} {nx : Pa} {b c e g f i d l o q a0 a1 a2 : AV} {O : Outs Prop} {tm : T AV} {Kt : KTm} {r : List RO} {s0 s1 s2 s3 s4 s5 s6 s7 s8 s9 s10 s11 s12 s13 s14 s15 s16 s17 s18 s19 s20 s21 s22 s23 s24 s25 s26 s27 s28 s29 s30 s31 s32 s33 s34 s35 s36 s37 s38 s39 s40 s41 s42 s43 s44 s45 s46 s47 s48 s49 s50 s51 s52 s53 s54 s55 s56 s57 s58 s59 : AV}
noncomputable def F104.t0 : IR := .reg [.w (.loc (.of 1)) none (.box (.t (.of 0))), .q (.of 2) (.mv (.c .nilf))]
noncomputable def F104.t1 : IR := .reg [.w .push none .mkmap, .w (.loc (.of 3)) none (.alloc [.nilm]), .w .none none (.store 1 (.t (.of 3)) (.s 0))]
noncomputable def F104.t2 : IR := .reg [.s (.faddr 1 (.t (.of 1))), .q (.of 5) (.load (.s 0)), .q (.of 6) (.len (.t (.of 5))), .q (.of 7) (.mv (.c (I 0)))]
noncomputable def F104.t3 : IR := .reg [.q (.of 8) (.bin .lss .int (.t (.of 7)) (.t (.of 6)))]
noncomputable def F104.t4 : IR := .cond (.t (.of 8)) .skip (.exit 0)
noncomputable def F104.t5 : IR := .reg [.s (.iaddr 1 (.t (.of 5)) (.t (.of 7))), .s (.load (.s 0)), .q (.of 4) (.mv (.s 0))]
noncomputable def F104.t6 : IR := .dreg [] [(.s (.load (.t (.of 3))), 1, []), (.s (.mv (.t (.of 4))), 0, []), (.s (.build [.nils, (.bool false)] [(0, 1, (.s 0))]), 0, []), (.w .push none (.call (.c (.fn 123 (.of 123) [])) [(.s 0)]), 0, []), (.w .none none (.mapup .str (.s 3) (.s 0) (.c (.bool true))), 0, [])]
noncomputable def F104.t7 : IR := .seq F104.t5 F104.t6
noncomputable def F104.t8 : IR := .block 1 F104.t7
noncomputable def F104.t9 : IR := .reg [.s (.bin .add .int (.t (.of 7)) (.c (I 1))), .q (.of 7) (.mv (.s 0))]
noncomputable def F104.t10 : IR := .seq F104.t8 F104.t9
noncomputable def F104.t11 : IR := .seq F104.t4 F104.t10
noncomputable def F104.t12 : IR := .seq F104.t3 F104.t11
noncomputable def F104.t13 : IR := .loop F104.t12
noncomputable def F104.t14 : IR := .block 0 F104.t13
noncomputable def F104.t15 : IR := .seq F104.t2 F104.t14
noncomputable def F104.t16 : IR := .reg [.s (.fn 169 (.of 169) [(.t (.of 3))]), .q (.of 2) (.mv (.s 0))]
noncomputable def F104.t17 : IR := .seq F104.t16 .ret
noncomputable def F104.t18 : IR := .seq F104.t15 F104.t17
noncomputable def F104.t19 : IR := .seq F104.t1 F104.t18
noncomputable def F104.t20 : IR := .seq F104.t0 F104.t19
theorem F104.t0_s : IR.run F104.t0 C N O K (F104.fr b c e g f i d l o) h nx =
 sBox b h nx fun v1 h2 n3 => K (F104.fr b v1 .nilf g f i d l o) h2 n3 := by kernel_rfl
theorem F104.t1_s : IR.run F104.t1 C N O K (F104.fr b c e g f i d l o) h nx =
 pN h nx fun v1 h2 n3 => yQ [.nilm] h2 n3 fun v4 h5 n6 => zQ 1 v4 v1 h5 n6 fun v7 h8 n9 => K (F104.fr b c e v4 f i d l o) h8 n9 := by kernel_rfl
theorem F104.t2_s : IR.run F104.t2 C N O K (F104.fr b c e g f i d l o) h nx =
 zO 1 c fun v1 => zF v1 h fun v2 => sLen v2 fun v3 => K (F104.fr b c e g f v2 v3 (I 0) o) h nx := by kernel_rfl
theorem F104.t3_s : IR.run F104.t3 C N O K (F104.fr b c e g f i d l o) h nx =
 sBin .lss .int l d fun v1 => K (F104.fr b c e g f i d l v1) h nx := by kernel_rfl
theorem F104.v8 : Arg.ev (.t (.of 8)) ⟨(F104.fr b c e g f i d l o), []⟩ = o := by kernel_rfl
theorem F104.t5_s : IR.run F104.t5 C N O K (F104.fr b c e g f i d l o) h nx =
 zS 1 i l fun v1 => zF v1 h fun v2 => K (F104.fr b c e g v2 i d l o) h nx := by kernel_rfl
theorem F104.t6_s : IR.run F104.t6 C N O K (F104.fr b c e g f i d l o) h nx =
 zF g h fun v1 => kC [.nils, (.bool false)] [(0, 1, f)] fun v2 => C.fn 123 (.of 123) [v2] h nx fun v3 h4 n5 => (zF g h4 fun v9 => zI v9 v1 (xD .str v1 v3 (.bool true) h4 n5 fun v6 h7 n8 => K (F104.fr b c e g f i d l o) h7 n8)) := by kernel_rfl
theorem F104.t9_s : IR.run F104.t9 C N O K (F104.fr b c e g f i d l o) h nx =
 sBin .add .int l (I 1) fun v1 => K (F104.fr b c e g f i d v1 o) h nx := by kernel_rfl
theorem F104.t13_L (Inv : Nat → AV → T Blk → Pa → Prop) {m : Nat} (hm : m < N) (hi : Inv m l h nx)
  (step : ∀ (m : Nat) (z4 z7 z8 : AV) (h : T Blk) (nx : Pa) (R : Ks Prop), Inv m z7 h nx → (∀ (m' : Nat) (w4 w7 w8 : AV) (h' : T Blk) (nx' : Pa), m' < m → Inv m' w7 h' nx' → R (F104.fr b c e g w4 i d w7 w8) h' nx' = .ok True) → IR.run F104.t12 C N O R (F104.fr b c e g z4 i d z7 z8) h nx = .ok True) :
  IR.run F104.t13 C N O K (F104.fr b c e g f i d l o) h nx = .ok True := by
 rw [F104.t13]
 refine yJ (fun m tm h nx => ∃ z4 z7 z8, tm = (F104.fr b c e g z4 i d z7 z8) ∧ Inv m z7 h nx) ?_ hm ⟨_, _, _, rfl, hi⟩
 rintro m tm h nx R ⟨z4, z7, z8, rfl, hi⟩ hR
 exact step m z4 z7 z8 h nx R hi fun m' w4 w7 w8 h' nx' hlt hi' => hR m' _ h' nx' hlt ⟨_, _, _, rfl, hi'⟩
theorem F104.t16_s : IR.run F104.t16 C N O K (F104.fr b c e g f i d l o) h nx =
 K (F104.fr b c (.fn 169 (.of 169) [g]) g f i d l o) h nx := by kernel_rfl
theorem F104.tab : T.get none (.of 104) tbl = some F104 := by kernel_rfl
theorem F104.bind (k : T AV → OP) : yV F104.params [a0] F104.init k = k (F104.fr a0 .undef .undef .undef .undef .undef .undef .undef .undef) := by kernel_rfl
theorem F104.body_eq : F104.body = F104.t20 := by kernel_rfl
theorem F104.go : zT tbl N C (.of 104) [a0] h nx K0 = IR.run F104.t20 C N (fnO F104.res K0) (retK F104.res K0) (F104.fr a0 .undef .undef .undef .undef .undef .undef .undef .undef) h nx := by
 rw [zH F104.tab, F104.bind, F104.body_eq]; kernel_rfl
theorem F104.ret : retK F104.res K0 (F104.fr b c e g f i d l o) h nx = K0 e h nx := by kernel_rfl
noncomputable def F155.t0 : IR := .reg [.q (.of 2) (.mv (.c .nils))]
noncomputable def F155.t1 : IR := .reg [.q (.of 3) (.mv (.c .nils))]
noncomputable def F155.t2 : IR := .reg [.q (.of 4) (.mv (.c (I 0)))]
noncomputable def F155.t3 : IR := .reg [.s (.mv (.t (.of 4))), .s (.mv (.t (.of 1))), .s (.len (.s 0)), .q (.of 7) (.bin .lss .int (.s 2) (.s 0))]
noncomputable def F155.t4 : IR := .cond (.t (.of 7)) .skip (.exit 0)
noncomputable def F155.t5 : IR := .seq F155.t3 F155.t4
noncomputable def F155.t6 : IR := .reg [.s (.mv (.t (.of 0))), .s (.mv (.t (.of 1))), .s (.mv (.t (.of 4))), .s (.iaddr 1 (.s 1) (.s 0)), .s (.load (.s 0)), .s (.iaddr 1 (.s 4) (.s 0)), .s (.load (.s 0)), .q (.of 5) (.mv (.s 0))]
noncomputable def F155.t7 : IR := .reg [.q (.of 6) (.mv (.c (I 0)))]
noncomputable def F155.r6_1 : List RO := .p .push (some ((.s 3), true)) (.load (.s 0)) :: .p .push (some ((.s 4), true)) (.mv (.t (.of 5))) :: .p .push (some ((.s 5), true)) (.bin .lss .int (.s 1) (.s 0)) :: .q (.of 8) (.pick (.s 6) (.s 0) (.c (.bool false))) :: []
noncomputable def F155.r6_0 : List RO := .s (.mv (.t (.of 6))) :: .s (.mv (.t (.of 3))) :: .s (.len (.s 0)) :: .s (.bin .lss .int (.s 2) (.s 0)) :: .s (.mv (.s 0)) :: .p .push (some ((.s 0), true)) (.mv (.t (.of 3))) :: .p .push (some ((.s 1), true)) (.mv (.t (.of 6))) :: .p .push (some ((.s 2), true)) (.iaddr 1 (.s 1) (.s 0)) :: F155.r6_1
noncomputable def F155.t8 : IR := .reg F155.r6_0
noncomputable def F155.t9 : IR := .cond (.t (.of 8)) .skip (.exit 2)
noncomputable def F155.t10 : IR := .seq F155.t8 F155.t9
noncomputable def F155.t11 : IR := .reg [.s (.mv (.t (.of 6))), .s (.bin .add .int (.s 0) (.c (I 1))), .q (.of 6) (.mv (.s 0))]
noncomputable def F155.t12 : IR := .block 3 F155.t11
noncomputable def F155.t13 : IR := .seq F155.t10 F155.t12
noncomputable def F155.t14 : IR := .loop F155.t13
noncomputable def F155.t15 : IR := .block 2 F155.t14
noncomputable def F155.t16 : IR := .dreg [(.bslice 1 0 [(I 0)] [])] [(.s (.mv (.t (.of 3))), 3, []), (.s (.mv (.t (.of 6))), 3, []), (.s (.slice 1 (.s 1) none (some (.s 0)) none), 3, []), (.s (.mv (.t (.of 5))), 2, [(.bslice 1 1 [(I 0)] [(0, 1, (.s 0))])]), (.s (.mv (.t (.of 3))), 4, []), (.s (.mv (.t (.of 6))), 4, []), (.s (.slice 1 (.s 1) (some (.s 0)) none none), 4, []), (.w .push none (.bslice 1 0 [(I 0)] []), 0, []), (.w .push none (.app 1 8 (.s 0) (.s 5)), 0, []), (.w .push none (.bslice 1 1 [(I 0)] [(0, 1, (.s 5))]), 0, []), (.w .push none (.app 1 8 (.s 1) (.s 0)), 0, []), (.w .push none (.app 1 8 (.s 0) (.s 4)), 0, []), (.q (.of 3) (.mv (.s 0)), 0, [])]
noncomputable def F155.t17 : IR := .seq F155.t15 F155.t16
noncomputable def F155.t18 : IR := .seq F155.t7 F155.t17
noncomputable def F155.t19 : IR := .seq F155.t6 F155.t18
noncomputable def F155.t20 : IR := .block 1 F155.t19
noncomputable def F155.t21 : IR := .reg [.s (.mv (.t (.of 4))), .s (.bin .add .int (.s 0) (.c (I 1))), .q (.of 4) (.mv (.s 0))]
noncomputable def F155.t22 : IR := .seq F155.t20 F155.t21
noncomputable def F155.t23 : IR := .seq F155.t5 F155.t22
noncomputable def F155.t24 : IR := .loop F155.t23
noncomputable def F155.t25 : IR := .block 0 F155.t24
noncomputable def F155.t26 : IR := .seq F155.t2 F155.t25
noncomputable def F155.t27 : IR := .reg [.s (.mv (.t (.of 3))), .q (.of 2) (.mv (.s 0))]
noncomputable def F155.t28 : IR := .seq F155.t27 .ret
noncomputable def F155.t29 : IR := .seq F155.t26 F155.t28
noncomputable def F155.t30 : IR := .seq F155.t1 F155.t29
noncomputable def F155.t31 : IR := .seq F155.t0 F155.t30
theorem F155.t0_s : IR.run F155.t0 C N O K (F155.fr b c e g f i d l o) h nx =
 K (F155.fr b c .nils g f i d l o) h nx := by kernel_rfl
theorem F155.t1_s : IR.run F155.t1 C N O K (F155.fr b c e g f i d l o) h nx =
 K (F155.fr b c e .nils f i d l o) h nx := by kernel_rfl
theorem F155.t2_s : IR.run F155.t2 C N O K (F155.fr b c e g f i d l o) h nx =
 K (F155.fr b c e g (I 0) i d l o) h nx := by kernel_rfl
theorem F155.t3_s : IR.run F155.t3 C N O K (F155.fr b c e g f i d l o) h nx =
 sLen c fun v1 => sBin .lss .int f v1 fun v2 => K (F155.fr b c e g f i d v2 o) h nx := by kernel_rfl
theorem F155.v7 : Arg.ev (.t (.of 7)) ⟨(F155.fr b c e g f i d l o), []⟩ = l := by kernel_rfl
theorem F155.t6_s : IR.run F155.t6 C N O K (F155.fr b c e g f i d l o) h nx =
 zS 1 c f fun v1 => zF v1 h fun v2 => zS 1 b v2 fun v3 => zF v3 h fun v4 => K (F155.fr b c e g f v4 d l o) h nx := by kernel_rfl
theorem F155.t7_s : IR.run F155.t7 C N O K (F155.fr b c e g f i d l o) h nx =
 K (F155.fr b c e g f i (I 0) l o) h nx := by kernel_rfl
theorem F155.t8_s : IR.run F155.t8 C N O K tm h nx = j8 F155.r6_0 C ⟨tm, []⟩ h nx (fun tm h nx => K tm.v h nx) := xC ..
theorem F155.r6_0_g : j8 (.s (.mv (.t (.of 6))) :: .s (.mv (.t (.of 3))) :: .s (.len (.s 0)) :: .s (.bin .lss .int (.s 2) (.s 0)) :: .s (.mv (.s 0)) :: .p .push (some ((.s 0), true)) (.mv (.t (.of 3))) :: .p .push (some ((.s 1), true)) (.mv (.t (.of 6))) :: .p .push (some ((.s 2), true)) (.iaddr 1 (.s 1) (.s 0)) :: r) C ⟨(F155.fr b c e g f i d l o), []⟩ h nx Kt =
 sLen g fun v1 => sBin .lss .int d v1 fun v2 => sG v2 true (fun k => k g) fun v3 => sG v2 true (fun k => k d) fun v4 => sG v2 true (fun k => zS 1 v3 v4 k) fun v5 => j8 r C ⟨(F155.fr b c e g f i d l o), v5 :: v4 :: v3 :: v2 :: v2 :: v1 :: g :: d :: []⟩ h nx Kt := by kernel_rfl
theorem F155.r6_1_g : j8 (.p .push (some ((.s 3), true)) (.load (.s 0)) :: .p .push (some ((.s 4), true)) (.mv (.t (.of 5))) :: .p .push (some ((.s 5), true)) (.bin .lss .int (.s 1) (.s 0)) :: .q (.of 8) (.pick (.s 6) (.s 0) (.c (.bool false))) :: []) C ⟨(F155.fr b c e g f i d l o), s0 :: s1 :: s2 :: s3 :: s4 :: s5 :: s6 :: s7 :: []⟩ h nx Kt =
 sG s3 true (fun k => zF s0 h k) fun v1 => sG s3 true (fun k => k i) fun v2 => sG s3 true (fun k => sBin .lss .int v1 v2 k) fun v3 => gH s3 v3 (.bool false) fun v4 => Kt ⟨(F155.fr b c e g f i d l v4), v3 :: v2 :: v1 :: s0 :: s1 :: s2 :: s3 :: s4 :: s5 :: s6 :: s7 :: []⟩ h nx := by kernel_rfl
theorem F155.v8 : Arg.ev (.t (.of 8)) ⟨(F155.fr b c e g f i d l o), []⟩ = o := by kernel_rfl
theorem F155.t11_s : IR.run F155.t11 C N O K (F155.fr b c e g f i d l o) h nx =
 sBin .add .int d (I 1) fun v1 => K (F155.fr b c e g f i v1 l o) h nx := by kernel_rfl
theorem F155.t14_L (Inv : Nat → AV → T Blk → Pa → Prop) {m : Nat} (hm : m < N) (hi : Inv m d h nx)
  (step : ∀ (m : Nat) (z6 z8 : AV) (h : T Blk) (nx : Pa) (R : Ks Prop), Inv m z6 h nx → (∀ (m' : Nat) (w6 w8 : AV) (h' : T Blk) (nx' : Pa), m' < m → Inv m' w6 h' nx' → R (F155.fr b c e g f i w6 l w8) h' nx' = .ok True) → IR.run F155.t13 C N O R (F155.fr b c e g f i z6 l z8) h nx = .ok True) :
  IR.run F155.t14 C N O K (F155.fr b c e g f i d l o) h nx = .ok True := by
 rw [F155.t14]
 refine yJ (fun m tm h nx => ∃ z6 z8, tm = (F155.fr b c e g f i z6 l z8) ∧ Inv m z6 h nx) ?_ hm ⟨_, _, rfl, hi⟩
 rintro m tm h nx R ⟨z6, z8, rfl, hi⟩ hR
 exact step m z6 z8 h nx R hi fun m' w6 w8 h' nx' hlt hi' => hR m' _ h' nx' hlt ⟨_, _, rfl, hi'⟩
theorem F155.t16_s : IR.run F155.t16 C N O K (F155.fr b c e g f i d l o) h nx =
 sChk ((gE (repl 0 [(I 0)]) []).isSome && true) (gG 1 g none (some d) none fun v1 => sChk ((gE (repl 1 [(I 0)]) [(0, 1, i)]).isSome && true) (gG 1 g (some d) none none fun v2 => jH 1 0 [(I 0)] [] h nx fun v3 h4 n5 => (gG 1 g (some d) none none fun v24 => zI v24 v2 (zI d d (zI g g (zI i i ((gG 1 g none (some d) none fun v23 => zI v23 v1 (zI d d (zI g g (sApp 1 8 v3 v1 h4 n5 fun v6 h7 n8 => (gG 1 g (some d) none none fun vW => zI vW v2 (zI d d (zI g g (zI i i ((gG 1 g none (some d) none fun vM => zI vM v1 (zI d d (zI g g (jH 1 1 [(I 0)] [(0, 1, i)] h7 n8 fun v9 hV nV => (gG 1 g (some d) none none fun vL => zI vL v2 (zI d d (zI g g ((gG 1 g none (some d) none fun vK => zI vK v1 (zI d d (zI g g (sApp 1 8 v6 v9 hV nV fun vC h13 n14 => (gG 1 g (some d) none none fun vJ => zI vJ v2 (zI d d (zI g g (sApp 1 8 vC v2 h13 n14 fun vF h16 n17 => K (F155.fr b c e vF f i d l o) h16 n17)))))))))))))))))))))))))))))))) := by kernel_rfl
theorem F155.t21_s : IR.run F155.t21 C N O K (F155.fr b c e g f i d l o) h nx =
 sBin .add .int f (I 1) fun v1 => K (F155.fr b c e g v1 i d l o) h nx := by kernel_rfl
theorem F155.t24_L (Inv : Nat → AV → AV → T Blk → Pa → Prop) {m : Nat} (hm : m < N) (hi : Inv m g f h nx)
  (step : ∀ (m : Nat) (z3 z4 z5 z6 z7 z8 : AV) (h : T Blk) (nx : Pa) (R : Ks Prop), Inv m z3 z4 h nx → (∀ (m' : Nat) (w3 w4 w5 w6 w7 w8 : AV) (h' : T Blk) (nx' : Pa), m' < m → Inv m' w3 w4 h' nx' → R (F155.fr b c e w3 w4 w5 w6 w7 w8) h' nx' = .ok True) → IR.run F155.t23 C N O R (F155.fr b c e z3 z4 z5 z6 z7 z8) h nx = .ok True) :
  IR.run F155.t24 C N O K (F155.fr b c e g f i d l o) h nx = .ok True := by
 rw [F155.t24]
 refine yJ (fun m tm h nx => ∃ z3 z4 z5 z6 z7 z8, tm = (F155.fr b c e z3 z4 z5 z6 z7 z8) ∧ Inv m z3 z4 h nx) ?_ hm ⟨_, _, _, _, _, _, rfl, hi⟩
 rintro m tm h nx R ⟨z3, z4, z5, z6, z7, z8, rfl, hi⟩ hR
 exact step m z3 z4 z5 z6 z7 z8 h nx R hi fun m' w3 w4 w5 w6 w7 w8 h' nx' hlt hi' => hR m' _ h' nx' hlt ⟨_, _, _, _, _, _, rfl, hi'⟩
theorem F155.t27_s : IR.run F155.t27 C N O K (F155.fr b c e g f i d l o) h nx =
 K (F155.fr b c g g f i d l o) h nx := by kernel_rfl
theorem F155.tab : T.get none (.of 155) tbl = some F155 := by kernel_rfl
theorem F155.bind (k : T AV → OP) : yV F155.params [a0, a1] F155.init k = k (F155.fr a0 a1 .undef .undef .undef .undef .undef .undef .undef) := by kernel_rfl
theorem F155.body_eq : F155.body = F155.t31 := by kernel_rfl
theorem F155.go : zT tbl N C (.of 155) [a0, a1] h nx K0 = IR.run F155.t31 C N (fnO F155.res K0) (retK F155.res K0) (F155.fr a0 a1 .undef .undef .undef .undef .undef .undef .undef) h nx := by
 rw [zH F155.tab, F155.bind, F155.body_eq]; kernel_rfl
theorem F155.ret : retK F155.res K0 (F155.fr b c e g f i d l o) h nx = K0 e h nx := by kernel_rfl
noncomputable def F169.t0 : IR := .reg [.q (.of 3) (.mv (.c (.bool false)))]
noncomputable def F169.t1 : IR := .reg [.q (.of 4) (.mv (.c .nils))]
noncomputable def F169.t2 : IR := .reg [.q (.of 6) (.mv (.t (.of 1))), .q (.of 7) (.len (.t (.of 6))), .q (.of 8) (.mv (.c (I 0)))]
noncomputable def F169.t3 : IR := .reg [.q (.of 9) (.bin .lss .int (.t (.of 8)) (.t (.of 7)))]
noncomputable def F169.t4 : IR := .cond (.t (.of 9)) .skip (.exit 0)
noncomputable def F169.t5 : IR := .reg [.s (.iaddr 1 (.t (.of 6)) (.t (.of 8))), .s (.load (.s 0)), .q (.of 5) (.mv (.s 0))]
noncomputable def F169.t6 : IR := .reg [.s (.mv (.t (.of 4))), .s (.mv (.t (.of 0))), .s (.mv (.t (.of 5))), .s (.iaddr 1 (.s 1) (.s 0)), .s (.load (.s 0)), .w .push none (.bslice 1 1 [(I 0)] [(0, 1, (.s 0))]), .w .push none (.app 1 8 (.s 5) (.s 0)), .q (.of 4) (.mv (.s 0))]
noncomputable def F169.t7 : IR := .seq F169.t5 F169.t6
noncomputable def F169.t8 : IR := .block 1 F169.t7
noncomputable def F169.t9 : IR := .reg [.s (.bin .add .int (.t (.of 8)) (.c (I 1))), .q (.of 8) (.mv (.s 0))]
noncomputable def F169.t10 : IR := .seq F169.t8 F169.t9
noncomputable def F169.t11 : IR := .seq F169.t4 F169.t10
noncomputable def F169.t12 : IR := .seq F169.t3 F169.t11
noncomputable def F169.t13 : IR := .loop F169.t12
noncomputable def F169.t14 : IR := .block 0 F169.t13
noncomputable def F169.t15 : IR := .seq F169.t2 F169.t14
noncomputable def F169.t16 : IR := .reg [.s (.mv (.t (.of 4))), .w .push none (.call (.c (.fn 91 (.of 91) [])) [(.s 0)])]
noncomputable def F169.t17 : IR := .dreg [] [(.s (.load (.t (.of 2))), 1, []), (.s (.mv (.t (.of 4))), 0, []), (.s (.build [.nils, (.bool false)] [(0, 1, (.s 0))]), 0, []), (.w .push none (.call (.c (.fn 123 (.of 123) [])) [(.s 0)]), 0, []), (.s (.look .str (.bool false) false (.s 3) (.s 0)), 0, []), (.q (.of 3) (.mv (.s 0)), 0, [])]
noncomputable def F169.t18 : IR := .seq F169.t17 .ret
noncomputable def F169.t19 : IR := .seq F169.t16 F169.t18
noncomputable def F169.t20 : IR := .seq F169.t15 F169.t19
noncomputable def F169.t21 : IR := .seq F169.t1 F169.t20
noncomputable def F169.t22 : IR := .seq F169.t0 F169.t21
theorem F169.t0_s : IR.run F169.t0 C N O K (F169.fr b c e g f i d l o q) h nx =
 K (F169.fr b c e (.bool false) f i d l o q) h nx := by kernel_rfl
theorem F169.t1_s : IR.run F169.t1 C N O K (F169.fr b c e g f i d l o q) h nx =
 K (F169.fr b c e g .nils i d l o q) h nx := by kernel_rfl
theorem F169.t2_s : IR.run F169.t2 C N O K (F169.fr b c e g f i d l o q) h nx =
 sLen c fun v1 => K (F169.fr b c e g f i c v1 (I 0) q) h nx := by kernel_rfl
theorem F169.t3_s : IR.run F169.t3 C N O K (F169.fr b c e g f i d l o q) h nx =
 sBin .lss .int o l fun v1 => K (F169.fr b c e g f i d l o v1) h nx := by kernel_rfl
theorem F169.v9 : Arg.ev (.t (.of 9)) ⟨(F169.fr b c e g f i d l o q), []⟩ = q := by kernel_rfl
theorem F169.t5_s : IR.run F169.t5 C N O K (F169.fr b c e g f i d l o q) h nx =
 zS 1 d o fun v1 => zF v1 h fun v2 => K (F169.fr b c e g f v2 d l o q) h nx := by kernel_rfl
theorem F169.t6_s : IR.run F169.t6 C N O K (F169.fr b c e g f i d l o q) h nx =
 zS 1 b i fun v1 => zF v1 h fun v2 => jH 1 1 [(I 0)] [(0, 1, v2)] h nx fun v3 h4 n5 => sApp 1 8 f v3 h4 n5 fun v6 h7 n8 => K (F169.fr b c e g v6 i d l o q) h7 n8 := by kernel_rfl
theorem F169.t9_s : IR.run F169.t9 C N O K (F169.fr b c e g f i d l o q) h nx =
 sBin .add .int o (I 1) fun v1 => K (F169.fr b c e g f i d l v1 q) h nx := by kernel_rfl
theorem F169.t13_L (Inv : Nat → AV → AV → T Blk → Pa → Prop) {m : Nat} (hm : m < N) (hi : Inv m f o h nx)
  (step : ∀ (m : Nat) (z4 z5 z8 z9 : AV) (h : T Blk) (nx : Pa) (R : Ks Prop), Inv m z4 z8 h nx → (∀ (m' : Nat) (w4 w5 w8 w9 : AV) (h' : T Blk) (nx' : Pa), m' < m → Inv m' w4 w8 h' nx' → R (F169.fr b c e g w4 w5 d l w8 w9) h' nx' = .ok True) → IR.run F169.t12 C N O R (F169.fr b c e g z4 z5 d l z8 z9) h nx = .ok True) :
  IR.run F169.t13 C N O K (F169.fr b c e g f i d l o q) h nx = .ok True := by
 rw [F169.t13]
 refine yJ (fun m tm h nx => ∃ z4 z5 z8 z9, tm = (F169.fr b c e g z4 z5 d l z8 z9) ∧ Inv m z4 z8 h nx) ?_ hm ⟨_, _, _, _, rfl, hi⟩
 rintro m tm h nx R ⟨z4, z5, z8, z9, rfl, hi⟩ hR
 exact step m z4 z5 z8 z9 h nx R hi fun m' w4 w5 w8 w9 h' nx' hlt hi' => hR m' _ h' nx' hlt ⟨_, _, _, _, rfl, hi'⟩
theorem F169.t16_s : IR.run F169.t16 C N O K (F169.fr b c e g f i d l o q) h nx =
 C.fn 91 (.of 91) [f] h nx fun v1 h2 n3 => K (F169.fr b c e g f i d l o q) h2 n3 := by kernel_rfl
theorem F169.t17_s : IR.run F169.t17 C N O K (F169.fr b c e g f i d l o q) h nx =
 zF e h fun v1 => kC [.nils, (.bool false)] [(0, 1, f)] fun v2 => C.fn 123 (.of 123) [v2] h nx fun v3 h4 n5 => (zF e h4 fun v7 => zI v7 v1 (sLook .str (.bool false) false v1 v3 h4 fun v6 => K (F169.fr b c e v6 f i d l o q) h4 n5)) := by kernel_rfl
theorem F169.tab : T.get none (.of 169) tbl = some F169 := by kernel_rfl
theorem F169.bind (k : T AV → OP) : yV F169.params [a0, a1, a2] F169.init k = k (F169.fr a0 a1 a2 .undef .undef .undef .undef .undef .undef .undef) := by kernel_rfl
theorem F169.body_eq : F169.body = F169.t22 := by kernel_rfl
theorem F169.go : zT tbl N C (.of 169) [a0, a1, a2] h nx K0 = IR.run F169.t22 C N (fnO F169.res K0) (retK F169.res K0) (F169.fr a0 a1 a2 .undef .undef .undef .undef .undef .undef .undef) h nx := by
 rw [zH F169.tab, F169.bind, F169.body_eq]; kernel_rfl
theorem F169.ret : retK F169.res K0 (F169.fr b c e g f i d l o q) h nx = K0 g h nx := by kernel_rfl
end
end Go.Ev
namespace Go.Ev
open Go Go.Proofs
set_option maxRecDepth 100000
section
variable {N : Nat} {C : Calls Prop} {K0 : Kw Prop} {K : Ks Prop} {h : T Blk} {nx : Pa} {b c e g f i d l o q a p u s v a0 a1 : AV} {O : Outs Prop} {tm : T AV} {Kt : KTm} {r : List RO} {s0 s1 s2 s3 s4 s5 s6 s7 s8 s9 s10 s11 s12 s13 s14 s15 s16 s17 s18 s19 s20 s21 s22 s23 s24 s25 s26 s27 s28 s29 s30 s31 s32 s33 s34 s35 s36 s37 s38 s39 s40 s41 s42 s43 s44 s45 s46 s47 s48 s49 s50 s51 s52 s53 s54 s55 s56 s57 s58 s59 : AV}
noncomputable def F11.t0 : IR := .reg [.w (.loc (.of 2)) none (.box (.t (.of 0))), .w (.loc (.of 3)) none (.box (.t (.of 1))), .q (.of 4) (.mv (.c (.bool false)))]
noncomputable def F11.r1_3 : List RO := .q (.of 8) (.pick (.s 3) (.c (.bool true)) (.s 0)) :: []
noncomputable def F11.r1_2 : List RO := .p .push (some ((.s 2), false)) (.not (.s 0)) :: .s (.pick (.s 3) (.c (.bool true)) (.s 0)) :: .s (.mv (.s 0)) :: .p .push (some ((.s 0), false)) (.faddr 0 (.t (.of 3))) :: .p .push (some ((.s 1), false)) (.load (.s 0)) :: .w .push (some ((.s 2), false)) (.call (.c (.fn 51 (.of 51) [])) [(.s 0)]) :: F11.r1_3
noncomputable def F11.r1_1 : List RO := .s (.not (.s 0)) :: .s (.mv (.s 0)) :: .p .push (some ((.s 0), false)) (.loadN 2 (.t (.of 2))) :: .w .push (some ((.s 1), false)) (.call (.c (.fn 32 (.of 32) [])) [(.s 0), (.c (I 20)), (.c (I 14))]) :: F11.r1_2
noncomputable def F11.r1_0 : List RO := .w .push none (.call (.c (.fn 18 (.of 18) [])) []) :: F11.r1_1
noncomputable def F11.t1 : IR := .reg F11.r1_0
noncomputable def F11.t2 : IR := .reg [.w .push none (.call (.c (.fn 18 (.of 18) [])) []), .q (.of 4) (.mv (.s 0))]
noncomputable def F11.t3 : IR := .seq F11.t2 .ret
noncomputable def F11.t4 : IR := .cond (.t (.of 8)) F11.t3 .skip
noncomputable def F11.t5 : IR := .seq F11.t1 F11.t4
noncomputable def F11.t6 : IR := .reg [.s (.loadN 2 (.t (.of 2))), .s (.loadN 2 (.t (.of 3))), .w .push none (.call (.c (.fn 73 (.of 73) [])) [(.s 1), (.s 0)]), .s (.mv (.s 0)), .s (.ext 0 (.s 0)), .s (.ext 1 (.s 1)), .q (.of 5) (.mv (.s 1)), .q (.of 6) (.mv (.s 0))]
noncomputable def F11.t7 : IR := .reg [.s (.loadN 2 (.t (.of 2))), .w .push none (.call (.c (.fn 33 (.of 33) [])) [(.s 0)]), .q (.of 7) (.mv (.s 0))]
noncomputable def F11.t8 : IR := .reg [.s (.mv (.t (.of 7))), .q (.of 9) (.bin .eql .int (.s 0) (.c (I 0)))]
noncomputable def F11.t9 : IR := .reg [.s (.loadN 2 (.t (.of 3))), .s (.faddr 0 (.t (.of 2))), .s (.load (.s 0)), .w .push none (.call (.c (.fn 26 (.of 26) [])) [(.s 2), (.s 0)]), .q (.of 7) (.mv (.s 0))]
noncomputable def F11.t10 : IR := .cond (.t (.of 9)) F11.t9 .skip
noncomputable def F11.t11 : IR := .seq F11.t8 F11.t10
noncomputable def F11.t12 : IR := .reg [.s (.mv (.t (.of 7))), .q (.of 10) (.bin .neq .int (.s 0) (.c (I 0)))]
noncomputable def F11.t13 : IR := .reg [.s (.mv (.t (.of 5))), .s (.not (.s 0)), .s (.mv (.s 0)), .p .push (some ((.s 0), true)) (.mv (.t (.of 6))), .p .push (some ((.s 1), true)) (.mv (.t (.of 7))), .p .push (some ((.s 2), true)) (.bin .eql .int (.s 1) (.s 0)), .s (.pick (.s 3) (.s 0) (.c (.bool false))), .q (.of 4) (.mv (.s 0))]
noncomputable def F11.t14 : IR := .seq F11.t13 .ret
noncomputable def F11.t15 : IR := .cond (.t (.of 10)) F11.t14 .skip
noncomputable def F11.t16 : IR := .seq F11.t12 F11.t15
noncomputable def F11.r9_1 : List RO := .p .push (some ((.s 5), true)) (.bin .eql .bool (.s 4) (.s 0)) :: .s (.pick (.s 6) (.s 0) (.c (.bool false))) :: .q (.of 4) (.mv (.s 0)) :: []
noncomputable def F11.r9_0 : List RO := .s (.mv (.t (.of 6))) :: .s (.bin .eql .int (.s 0) (.c (I 0))) :: .s (.mv (.s 0)) :: .p .push (some ((.s 0), true)) (.mv (.t (.of 5))) :: .p .push (some ((.s 1), true)) (.loadN 2 (.t (.of 2))) :: .p .push (some ((.s 2), true)) (.faddr 0 (.t (.of 3))) :: .p .push (some ((.s 3), true)) (.load (.s 0)) :: .w .push (some ((.s 4), true)) (.call (.c (.fn 74 (.of 74) [])) [(.s 2), (.s 0)]) :: F11.r9_1
noncomputable def F11.t17 : IR := .reg F11.r9_0
noncomputable def F11.t18 : IR := .seq F11.t17 .ret
noncomputable def F11.t19 : IR := .seq F11.t16 F11.t18
noncomputable def F11.t20 : IR := .seq F11.t11 F11.t19
noncomputable def F11.t21 : IR := .seq F11.t7 F11.t20
noncomputable def F11.t22 : IR := .seq F11.t6 F11.t21
noncomputable def F11.t23 : IR := .seq F11.t5 F11.t22
noncomputable def F11.t24 : IR := .seq F11.t0 F11.t23
theorem F11.t0_s : IR.run F11.t0 C N O K (F11.fr b c e g f i d l o q a) h nx =
 sBox b h nx fun v1 h2 n3 => sBox c h2 n3 fun v4 h5 n6 => K (F11.fr b c v1 v4 (.bool false) i d l o q a) h5 n6 := by kernel_rfl
theorem F11.t1_s : IR.run F11.t1 C N O K tm h nx = j8 F11.r1_0 C ⟨tm, []⟩ h nx (fun tm h nx => K tm.v h nx) := xC ..
theorem F11.r1_0_g : j8 (.w .push none (.call (.c (.fn 18 (.of 18) [])) []) :: r) C ⟨(F11.fr b c e g f i d l o q a), []⟩ h nx Kt =
 C.fn 18 (.of 18) [] h nx fun v1 h2 n3 => j8 r C ⟨(F11.fr b c e g f i d l o q a), v1 :: []⟩ h2 n3 Kt := by kernel_rfl
theorem F11.r1_1_g : j8 (.s (.not (.s 0)) :: .s (.mv (.s 0)) :: .p .push (some ((.s 0), false)) (.loadN 2 (.t (.of 2))) :: .w .push (some ((.s 1), false)) (.call (.c (.fn 32 (.of 32) [])) [(.s 0), (.c (I 20)), (.c (I 14))]) :: r) C ⟨(F11.fr b c e g f i d l o q a), s0 :: []⟩ h nx Kt =
 sNot s0 fun v1 => sG v1 false (fun k => zJ 2 e h k) fun v2 => sGW v1 false (fun k => C.fn 32 (.of 32) [v2, (I 20), (I 14)] h nx k) h nx fun v3 h4 n5 => j8 r C ⟨(F11.fr b c e g f i d l o q a), v3 :: v2 :: v1 :: v1 :: s0 :: []⟩ h4 n5 Kt := by kernel_rfl
theorem F11.r1_2_g : j8 (.p .push (some ((.s 2), false)) (.not (.s 0)) :: .s (.pick (.s 3) (.c (.bool true)) (.s 0)) :: .s (.mv (.s 0)) :: .p .push (some ((.s 0), false)) (.faddr 0 (.t (.of 3))) :: .p .push (some ((.s 1), false)) (.load (.s 0)) :: .w .push (some ((.s 2), false)) (.call (.c (.fn 51 (.of 51) [])) [(.s 0)]) :: r) C ⟨(F11.fr b c e g f i d l o q a), s0 :: s1 :: s2 :: s3 :: s4 :: []⟩ h nx Kt =
 sG s2 false (fun k => sNot s0 k) fun v1 => gH s2 (.bool true) v1 fun v2 => sG v2 false (fun k => zO 0 g k) fun v3 => sG v2 false (fun k => zF v3 h k) fun v4 => sGW v2 false (fun k => C.fn 51 (.of 51) [v4] h nx k) h nx fun v5 h6 n7 => j8 r C ⟨(F11.fr b c e g f i d l o q a), v5 :: v4 :: v3 :: v2 :: v2 :: v1 :: s0 :: s1 :: s2 :: s3 :: s4 :: []⟩ h6 n7 Kt := by kernel_rfl
theorem F11.r1_3_g : j8 (.q (.of 8) (.pick (.s 3) (.c (.bool true)) (.s 0)) :: []) C ⟨(F11.fr b c e g f i d l o q a), s0 :: s1 :: s2 :: s3 :: s4 :: s5 :: s6 :: s7 :: s8 :: s9 :: s10 :: []⟩ h nx Kt =
 gH s3 (.bool true) s0 fun v1 => Kt ⟨(F11.fr b c e g f i d l v1 q a), s0 :: s1 :: s2 :: s3 :: s4 :: s5 :: s6 :: s7 :: s8 :: s9 :: s10 :: []⟩ h nx := by kernel_rfl
theorem F11.t2_s : IR.run F11.t2 C N O K (F11.fr b c e g f i d l o q a) h nx =
 C.fn 18 (.of 18) [] h nx fun v1 h2 n3 => K (F11.fr b c e g v1 i d l o q a) h2 n3 := by kernel_rfl
theorem F11.v8 : Arg.ev (.t (.of 8)) ⟨(F11.fr b c e g f i d l o q a), []⟩ = o := by kernel_rfl
theorem F11.t6_s : IR.run F11.t6 C N O K (F11.fr b c e g f i d l o q a) h nx =
 zJ 2 e h fun v1 => zJ 2 g h fun v2 => C.fn 73 (.of 73) [v1, v2] h nx fun v3 h4 n5 => sExt 0 v3 fun v6 => sExt 1 v3 fun v7 => K (F11.fr b c e g f v6 v7 l o q a) h4 n5 := by kernel_rfl
theorem F11.t7_s : IR.run F11.t7 C N O K (F11.fr b c e g f i d l o q a) h nx =
 zJ 2 e h fun v1 => C.fn 33 (.of 33) [v1] h nx fun v2 h3 n4 => K (F11.fr b c e g f i d v2 o q a) h3 n4 := by kernel_rfl
theorem F11.t8_s : IR.run F11.t8 C N O K (F11.fr b c e g f i d l o q a) h nx =
 sBin .eql .int l (I 0) fun v1 => K (F11.fr b c e g f i d l o v1 a) h nx := by kernel_rfl
theorem F11.t9_s : IR.run F11.t9 C N O K (F11.fr b c e g f i d l o q a) h nx =
 zJ 2 g h fun v1 => zO 0 e fun v2 => zF v2 h fun v3 => C.fn 26 (.of 26) [v1, v3] h nx fun v4 h5 n6 => K (F11.fr b c e g f i d v4 o q a) h5 n6 := by kernel_rfl
theorem F11.v9 : Arg.ev (.t (.of 9)) ⟨(F11.fr b c e g f i d l o q a), []⟩ = q := by kernel_rfl
theorem F11.t12_s : IR.run F11.t12 C N O K (F11.fr b c e g f i d l o q a) h nx =
 sBin .neq .int l (I 0) fun v1 => K (F11.fr b c e g f i d l o q v1) h nx := by kernel_rfl
theorem F11.t13_s : IR.run F11.t13 C N O K (F11.fr b c e g f i d l o q a) h nx =
 sNot i fun v1 => sG v1 true (fun k => k d) fun v2 => sG v1 true (fun k => k l) fun v3 => sG v1 true (fun k => sBin .eql .int v2 v3 k) fun v4 => gH v1 v4 (.bool false) fun v5 => K (F11.fr b c e g v5 i d l o q a) h nx := by kernel_rfl
theorem F11.v10 : Arg.ev (.t (.of 10)) ⟨(F11.fr b c e g f i d l o q a), []⟩ = a := by kernel_rfl
theorem F11.t17_s : IR.run F11.t17 C N O K tm h nx = j8 F11.r9_0 C ⟨tm, []⟩ h nx (fun tm h nx => K tm.v h nx) := xC ..
theorem F11.r9_0_g : j8 (.s (.mv (.t (.of 6))) :: .s (.bin .eql .int (.s 0) (.c (I 0))) :: .s (.mv (.s 0)) :: .p .push (some ((.s 0), true)) (.mv (.t (.of 5))) :: .p .push (some ((.s 1), true)) (.loadN 2 (.t (.of 2))) :: .p .push (some ((.s 2), true)) (.faddr 0 (.t (.of 3))) :: .p .push (some ((.s 3), true)) (.load (.s 0)) :: .w .push (some ((.s 4), true)) (.call (.c (.fn 74 (.of 74) [])) [(.s 2), (.s 0)]) :: r) C ⟨(F11.fr b c e g f i d l o q a), []⟩ h nx Kt =
 sBin .eql .int d (I 0) fun v1 => sG v1 true (fun k => k i) fun v2 => sG v1 true (fun k => zJ 2 e h k) fun v3 => sG v1 true (fun k => zO 0 g k) fun v4 => sG v1 true (fun k => zF v4 h k) fun v5 => sGW v1 true (fun k => C.fn 74 (.of 74) [v3, v5] h nx k) h nx fun v6 h7 n8 => j8 r C ⟨(F11.fr b c e g f i d l o q a), v6 :: v5 :: v4 :: v3 :: v2 :: v1 :: v1 :: d :: []⟩ h7 n8 Kt := by kernel_rfl
theorem F11.r9_1_g : j8 (.p .push (some ((.s 5), true)) (.bin .eql .bool (.s 4) (.s 0)) :: .s (.pick (.s 6) (.s 0) (.c (.bool false))) :: .q (.of 4) (.mv (.s 0)) :: []) C ⟨(F11.fr b c e g f i d l o q a), s0 :: s1 :: s2 :: s3 :: s4 :: s5 :: s6 :: s7 :: []⟩ h nx Kt =
 sG s5 true (fun k => sBin .eql .bool s4 s0 k) fun v1 => gH s5 v1 (.bool false) fun v2 => Kt ⟨(F11.fr b c e g v2 i d l o q a), v2 :: v1 :: s0 :: s1 :: s2 :: s3 :: s4 :: s5 :: s6 :: s7 :: []⟩ h nx := by kernel_rfl
theorem F11.tab : T.get none (.of 11) tbl = some F11 := by kernel_rfl
theorem F11.bind (k : T AV → OP) : yV F11.params [a0, a1] F11.init k = k (F11.fr a0 a1 .undef .undef .undef .undef .undef .undef .undef .undef .undef) := by kernel_rfl
theorem F11.body_eq : F11.body = F11.t24 := by kernel_rfl
theorem F11.go : zT tbl N C (.of 11) [a0, a1] h nx K0 = IR.run F11.t24 C N (fnO F11.res K0) (retK F11.res K0) (F11.fr a0 a1 .undef .undef .undef .undef .undef .undef .undef .undef .undef) h nx := by
 rw [zH F11.tab, F11.bind, F11.body_eq]; kernel_rfl
theorem F11.ret : retK F11.res K0 (F11.fr b c e g f i d l o q a) h nx = K0 f h nx := by kernel_rfl
noncomputable def F73.t0 : IR := .reg [.w (.loc (.of 2)) none (.box (.t (.of 0))), .w (.loc (.of 3)) none (.box (.t (.of 1))), .q (.of 4) (.mv (.c (.bool false))), .q (.of 5) (.mv (.c (I 0)))]
noncomputable def F73.t1 : IR := .dreg [] [(.s (.loadN 2 (.t (.of 2))), 0, []), (.s (.loadN 2 (.t (.of 3))), 1, []), (.s (.faddr 0 (.t (.of 2))), 1, []), (.s (.load (.s 0)), 1, []), (.w .push none (.call (.c (.fn 103 (.of 103) [])) [(.s 3)]), 0, []), (.w .push none (.call (.c (.fn 56 (.of 56) [])) [(.s 3), (.s 1)]), 0, []), (.w .push none (.bslice 1 2 [(I 0)] [(0, 1, (.s 1)), (1, 1, (.s 0))]), 0, []), (.w .push none (.call (.c (.fn 94 (.of 94) [])) [(.s 0)]), 0, []), (.q (.of 6) (.mv (.s 0)), 0, [])]
noncomputable def F73.t2 : IR := .reg [.s (.mv (.t (.of 6))), .q (.of 9) (.bin .neq .int (.s 0) (.c (I 0)))]
noncomputable def F73.t3 : IR := .reg [.s (.mv (.t (.of 6))), .q (.of 4) (.mv (.c (.bool false))), .q (.of 5) (.mv (.s 0))]
noncomputable def F73.t4 : IR := .seq F73.t3 .ret
noncomputable def F73.t5 : IR := .cond (.t (.of 9)) F73.t4 .skip
noncomputable def F73.t6 : IR := .seq F73.t2 F73.t5
noncomputable def F73.t7 : IR := .seq F73.t1 F73.t6
noncomputable def F73.t8 : IR := .reg [.s (.loadN 2 (.t (.of 2))), .w .push none (.call (.c (.fn 104 (.of 104) [])) [(.s 0)]), .q (.of 7) (.mv (.s 0))]
noncomputable def F73.t9 : IR := .reg [.s (.faddr 1 (.t (.of 2))), .q (.of 10) (.load (.s 0)), .q (.of 11) (.len (.t (.of 10))), .q (.of 12) (.mv (.c (I 0)))]
noncomputable def F73.t10 : IR := .reg [.q (.of 13) (.bin .lss .int (.t (.of 12)) (.t (.of 11)))]
noncomputable def F73.t11 : IR := .cond (.t (.of 13)) .skip (.exit 0)
noncomputable def F73.t12 : IR := .reg [.s (.iaddr 1 (.t (.of 10)) (.t (.of 12))), .s (.load (.s 0)), .q (.of 8) (.mv (.s 0))]
noncomputable def F73.t13 : IR := .reg [.s (.mv (.t (.of 7))), .s (.faddr 0 (.t (.of 3))), .s (.load (.s 0)), .s (.mv (.t (.of 8))), .w .push none (.call (.s 3) [(.s 1), (.s 0)]), .q (.of 14) (.not (.s 0))]
noncomputable def F73.t14 : IR := .reg [.q (.of 4) (.mv (.c (.bool false))), .q (.of 5) (.mv (.c (I 0)))]
noncomputable def F73.t15 : IR := .seq F73.t14 .ret
noncomputable def F73.t16 : IR := .cond (.t (.of 14)) F73.t15 .skip
noncomputable def F73.t17 : IR := .seq F73.t13 F73.t16
noncomputable def F73.t18 : IR := .seq F73.t12 F73.t17
noncomputable def F73.t19 : IR := .block 1 F73.t18
noncomputable def F73.t20 : IR := .reg [.s (.bin .add .int (.t (.of 12)) (.c (I 1))), .q (.of 12) (.mv (.s 0))]
noncomputable def F73.t21 : IR := .seq F73.t19 F73.t20
noncomputable def F73.t22 : IR := .seq F73.t11 F73.t21
noncomputable def F73.t23 : IR := .seq F73.t10 F73.t22
noncomputable def F73.t24 : IR := .loop F73.t23
noncomputable def F73.t25 : IR := .block 0 F73.t24
noncomputable def F73.t26 : IR := .seq F73.t9 F73.t25
noncomputable def F73.t27 : IR := .reg [.q (.of 4) (.mv (.c (.bool true))), .q (.of 5) (.mv (.c (I 0)))]
noncomputable def F73.t28 : IR := .seq F73.t27 .ret
noncomputable def F73.t29 : IR := .seq F73.t26 F73.t28
noncomputable def F73.t30 : IR := .seq F73.t8 F73.t29
noncomputable def F73.t31 : IR := .seq F73.t7 F73.t30
noncomputable def F73.t32 : IR := .seq F73.t0 F73.t31
theorem F73.t0_s : IR.run F73.t0 C N O K (F73.fr b c e g f i d l o q a p u s v) h nx =
 sBox b h nx fun v1 h2 n3 => sBox c h2 n3 fun v4 h5 n6 => K (F73.fr b c v1 v4 (.bool false) (I 0) d l o q a p u s v) h5 n6 := by kernel_rfl
theorem F73.t1_s : IR.run F73.t1 C N O K (F73.fr b c e g f i d l o q a p u s v) h nx =
 zJ 2 e h fun v1 => zJ 2 g h fun v2 => zO 0 e fun v3 => zF v3 h fun v4 => C.fn 103 (.of 103) [v1] h nx fun v5 h6 n7 => (zF v3 h6 fun vK => zI vK v4 ((zO 0 e fun vJ => zI vJ v3 ((zJ 2 g h6 fun vI => zI vI v2 (C.fn 56 (.of 56) [v2, v4] h6 n7 fun v8 h9 nG => jH 1 2 [(I 0)] [(0, 1, v5), (1, 1, v8)] h9 nG fun vB hG nH => C.fn 94 (.of 94) [vB] hG nH fun vE hA nA => K (F73.fr b c e g f i vE l o q a p u s v) hA nA)))))) := by kernel_rfl
theorem F73.t2_s : IR.run F73.t2 C N O K (F73.fr b c e g f i d l o q a p u s v) h nx =
 sBin .neq .int d (I 0) fun v1 => K (F73.fr b c e g f i d l o v1 a p u s v) h nx := by kernel_rfl
theorem F73.t3_s : IR.run F73.t3 C N O K (F73.fr b c e g f i d l o q a p u s v) h nx =
 K (F73.fr b c e g (.bool false) d d l o q a p u s v) h nx := by kernel_rfl
theorem F73.v9 : Arg.ev (.t (.of 9)) ⟨(F73.fr b c e g f i d l o q a p u s v), []⟩ = q := by kernel_rfl
theorem F73.t8_s : IR.run F73.t8 C N O K (F73.fr b c e g f i d l o q a p u s v) h nx =
 zJ 2 e h fun v1 => C.fn 104 (.of 104) [v1] h nx fun v2 h3 n4 => K (F73.fr b c e g f i d v2 o q a p u s v) h3 n4 := by kernel_rfl
theorem F73.t9_s : IR.run F73.t9 C N O K (F73.fr b c e g f i d l o q a p u s v) h nx =
 zO 1 e fun v1 => zF v1 h fun v2 => sLen v2 fun v3 => K (F73.fr b c e g f i d l o q v2 v3 (I 0) s v) h nx := by kernel_rfl
theorem F73.t10_s : IR.run F73.t10 C N O K (F73.fr b c e g f i d l o q a p u s v) h nx =
 sBin .lss .int u p fun v1 => K (F73.fr b c e g f i d l o q a p u v1 v) h nx := by kernel_rfl
theorem F73.v13 : Arg.ev (.t (.of 13)) ⟨(F73.fr b c e g f i d l o q a p u s v), []⟩ = s := by kernel_rfl
theorem F73.t12_s : IR.run F73.t12 C N O K (F73.fr b c e g f i d l o q a p u s v) h nx =
 zS 1 a u fun v1 => zF v1 h fun v2 => K (F73.fr b c e g f i d l v2 q a p u s v) h nx := by kernel_rfl
theorem F73.t13_s : IR.run F73.t13 C N O K (F73.fr b c e g f i d l o q a p u s v) h nx =
 zO 0 g fun v1 => zF v1 h fun v2 => sCall C l [v2, o] h nx fun v3 h4 n5 => sNot v3 fun v6 => K (F73.fr b c e g f i d l o q a p u s v6) h4 n5 := by kernel_rfl
theorem F73.t14_s : IR.run F73.t14 C N O K (F73.fr b c e g f i d l o q a p u s v) h nx =
 K (F73.fr b c e g (.bool false) (I 0) d l o q a p u s v) h nx := by kernel_rfl
theorem F73.v14 : Arg.ev (.t (.of 14)) ⟨(F73.fr b c e g f i d l o q a p u s v), []⟩ = v := by kernel_rfl
theorem F73.t20_s : IR.run F73.t20 C N O K (F73.fr b c e g f i d l o q a p u s v) h nx =
 sBin .add .int u (I 1) fun v1 => K (F73.fr b c e g f i d l o q a p v1 s v) h nx := by kernel_rfl
theorem F73.t24_L (Inv : Nat → AV → T Blk → Pa → Prop) {m : Nat} (hm : m < N) (hi : Inv m u h nx)
  (step : ∀ (m : Nat) (z4 z5 z8 zC zD zV : AV) (h : T Blk) (nx : Pa) (R : Ks Prop), Inv m zC h nx → (∀ (m' : Nat) (w4 w5 w8 wC wD wN : AV) (h' : T Blk) (nx' : Pa), m' < m → Inv m' wC h' nx' → R (F73.fr b c e g w4 w5 d l w8 q a p wC wD wN) h' nx' = .ok True) → IR.run F73.t23 C N O R (F73.fr b c e g z4 z5 d l z8 q a p zC zD zV) h nx = .ok True) :
  IR.run F73.t24 C N O K (F73.fr b c e g f i d l o q a p u s v) h nx = .ok True := by
 rw [F73.t24]
 refine yJ (fun m tm h nx => ∃ z4 z5 z8 zC zD zV, tm = (F73.fr b c e g z4 z5 d l z8 q a p zC zD zV) ∧ Inv m zC h nx) ?_ hm ⟨_, _, _, _, _, _, rfl, hi⟩
 rintro m tm h nx R ⟨z4, z5, z8, zC, zD, zV, rfl, hi⟩ hR
 exact step m z4 z5 z8 zC zD zV h nx R hi fun m' w4 w5 w8 wC wD wN h' nx' hlt hi' => hR m' _ h' nx' hlt ⟨_, _, _, _, _, _, rfl, hi'⟩
theorem F73.t27_s : IR.run F73.t27 C N O K (F73.fr b c e g f i d l o q a p u s v) h nx =
 K (F73.fr b c e g (.bool true) (I 0) d l o q a p u s v) h nx := by kernel_rfl
theorem F73.tab : T.get none (.of 73) tbl = some F73 := by kernel_rfl
theorem F73.bind (k : T AV → OP) : yV F73.params [a0, a1] F73.init k = k (F73.fr a0 a1 .undef .undef .undef .undef .undef .undef .undef .undef .undef .undef .undef .undef .undef) := by kernel_rfl
theorem F73.body_eq : F73.body = F73.t32 := by kernel_rfl
theorem F73.go : zT tbl N C (.of 73) [a0, a1] h nx K0 = IR.run F73.t32 C N (fnO F73.res K0) (retK F73.res K0) (F73.fr a0 a1 .undef .undef .undef .undef .undef .undef .undef .undef .undef .undef .undef .undef .undef) h nx := by
 rw [zH F73.tab, F73.bind, F73.body_eq]; kernel_rfl
theorem F73.ret : retK F73.res K0 (F73.fr b c e g f i d l o q a p u s v) h nx = K0 (.tup [f, i]) h nx := by kernel_rfl
noncomputable def F74.t0 : IR := .reg [.w (.loc (.of 2)) none (.box (.t (.of 0))), .q (.of 3) (.mv (.c (.bool false)))]
noncomputable def F74.t1 : IR := .reg [.q (.of 4) (.mv (.c (I 0)))]
noncomputable def F74.t2 : IR := .reg [.s (.mv (.t (.of 4))), .s (.faddr 1 (.t (.of 2))), .s (.load (.s 0)), .s (.len (.s 0)), .q (.of 8) (.bin .lss .int (.s 3) (.s 0))]
noncomputable def F74.t3 : IR := .cond (.t (.of 8)) .skip (.exit 0)
noncomputable def F74.t4 : IR := .seq F74.t2 F74.t3
noncomputable def F74.t5 : IR := .reg [.s (.mv (.t (.of 1))), .s (.faddr 1 (.t (.of 2))), .s (.load (.s 0)), .s (.mv (.t (.of 4))), .s (.iaddr 1 (.s 1) (.s 0)), .s (.load (.s 0)), .w .push none (.call (.c (.fn 155 (.of 155) [])) [(.s 5), (.s 0)]), .q (.of 5) (.mv (.s 0))]
noncomputable def F74.t6 : IR := .reg [.q (.of 6) (.mv (.c (.bool false)))]
noncomputable def F74.t7 : IR := .reg [.q (.of 7) (.mv (.c (I 0)))]
noncomputable def F74.t8 : IR := .reg [.s (.mv (.t (.of 7))), .s (.faddr 1 (.t (.of 2))), .s (.load (.s 0)), .s (.len (.s 0)), .q (.of 9) (.bin .lss .int (.s 3) (.s 0))]
noncomputable def F74.t9 : IR := .cond (.t (.of 9)) .skip (.exit 2)
noncomputable def F74.t10 : IR := .seq F74.t8 F74.t9
noncomputable def F74.r7_2 : List RO := .s (.pick (.s 7) (.c (.bool true)) (.s 0)) :: .q (.of 6) (.mv (.s 0)) :: []
noncomputable def F74.r7_1 : List RO := .w .push (some ((.s 6), false)) (.call (.c (.fn 82 (.of 82) [])) [(.s 5), (.s 0)]) :: F74.r7_2
noncomputable def F74.r7_0 : List RO := .s (.mv (.t (.of 6))) :: .s (.mv (.s 0)) :: .p .push (some ((.s 0), false)) (.mv (.t (.of 5))) :: .p .push (some ((.s 1), false)) (.faddr 1 (.t (.of 2))) :: .p .push (some ((.s 2), false)) (.load (.s 0)) :: .p .push (some ((.s 3), false)) (.mv (.t (.of 7))) :: .p .push (some ((.s 4), false)) (.iaddr 1 (.s 1) (.s 0)) :: .p .push (some ((.s 5), false)) (.load (.s 0)) :: F74.r7_1
noncomputable def F74.t11 : IR := .reg F74.r7_0
noncomputable def F74.t12 : IR := .block 3 F74.t11
noncomputable def F74.t13 : IR := .reg [.s (.mv (.t (.of 7))), .s (.bin .add .int (.s 0) (.c (I 1))), .q (.of 7) (.mv (.s 0))]
noncomputable def F74.t14 : IR := .seq F74.t12 F74.t13
noncomputable def F74.t15 : IR := .seq F74.t10 F74.t14
noncomputable def F74.t16 : IR := .loop F74.t15
noncomputable def F74.t17 : IR := .block 2 F74.t16
noncomputable def F74.t18 : IR := .seq F74.t7 F74.t17
noncomputable def F74.t19 : IR := .reg [.s (.mv (.t (.of 6))), .q (.of 10) (.not (.s 0))]
noncomputable def F74.t20 : IR := .reg [.q (.of 3) (.mv (.c (.bool false)))]
noncomputable def F74.t21 : IR := .seq F74.t20 .ret
noncomputable def F74.t22 : IR := .cond (.t (.of 10)) F74.t21 .skip
noncomputable def F74.t23 : IR := .seq F74.t19 F74.t22
noncomputable def F74.t24 : IR := .seq F74.t18 F74.t23
noncomputable def F74.t25 : IR := .seq F74.t6 F74.t24
noncomputable def F74.t26 : IR := .seq F74.t5 F74.t25
noncomputable def F74.t27 : IR := .block 1 F74.t26
noncomputable def F74.t28 : IR := .reg [.s (.mv (.t (.of 4))), .s (.bin .add .int (.s 0) (.c (I 1))), .q (.of 4) (.mv (.s 0))]
noncomputable def F74.t29 : IR := .seq F74.t27 F74.t28
noncomputable def F74.t30 : IR := .seq F74.t4 F74.t29
noncomputable def F74.t31 : IR := .loop F74.t30
noncomputable def F74.t32 : IR := .block 0 F74.t31
noncomputable def F74.t33 : IR := .seq F74.t1 F74.t32
noncomputable def F74.t34 : IR := .reg [.q (.of 3) (.mv (.c (.bool true)))]
noncomputable def F74.t35 : IR := .seq F74.t34 .ret
noncomputable def F74.t36 : IR := .seq F74.t33 F74.t35
noncomputable def F74.t37 : IR := .seq F74.t0 F74.t36
theorem F74.t0_s : IR.run F74.t0 C N O K (F74.fr b c e g f i d l o q a) h nx =
 sBox b h nx fun v1 h2 n3 => K (F74.fr b c v1 (.bool false) f i d l o q a) h2 n3 := by kernel_rfl
theorem F74.t1_s : IR.run F74.t1 C N O K (F74.fr b c e g f i d l o q a) h nx =
 K (F74.fr b c e g (I 0) i d l o q a) h nx := by kernel_rfl
theorem F74.t2_s : IR.run F74.t2 C N O K (F74.fr b c e g f i d l o q a) h nx =
 zO 1 e fun v1 => zF v1 h fun v2 => sLen v2 fun v3 => sBin .lss .int f v3 fun v4 => K (F74.fr b c e g f i d l v4 q a) h nx := by kernel_rfl
theorem F74.v8 : Arg.ev (.t (.of 8)) ⟨(F74.fr b c e g f i d l o q a), []⟩ = o := by kernel_rfl
theorem F74.t5_s : IR.run F74.t5 C N O K (F74.fr b c e g f i d l o q a) h nx =
 zO 1 e fun v1 => zF v1 h fun v2 => zS 1 v2 f fun v3 => zF v3 h fun v4 => C.fn 155 (.of 155) [c, v4] h nx fun v5 h6 n7 => K (F74.fr b c e g f v5 d l o q a) h6 n7 := by kernel_rfl
theorem F74.t6_s : IR.run F74.t6 C N O K (F74.fr b c e g f i d l o q a) h nx =
 K (F74.fr b c e g f i (.bool false) l o q a) h nx := by kernel_rfl
theorem F74.t7_s : IR.run F74.t7 C N O K (F74.fr b c e g f i d l o q a) h nx =
 K (F74.fr b c e g f i d (I 0) o q a) h nx := by kernel_rfl
theorem F74.t8_s : IR.run F74.t8 C N O K (F74.fr b c e g f i d l o q a) h nx =
 zO 1 e fun v1 => zF v1 h fun v2 => sLen v2 fun v3 => sBin .lss .int l v3 fun v4 => K (F74.fr b c e g f i d l o v4 a) h nx := by kernel_rfl
theorem F74.v9 : Arg.ev (.t (.of 9)) ⟨(F74.fr b c e g f i d l o q a), []⟩ = q := by kernel_rfl
theorem F74.t11_s : IR.run F74.t11 C N O K tm h nx = j8 F74.r7_0 C ⟨tm, []⟩ h nx (fun tm h nx => K tm.v h nx) := xC ..
theorem F74.r7_0_g : j8 (.s (.mv (.t (.of 6))) :: .s (.mv (.s 0)) :: .p .push (some ((.s 0), false)) (.mv (.t (.of 5))) :: .p .push (some ((.s 1), false)) (.faddr 1 (.t (.of 2))) :: .p .push (some ((.s 2), false)) (.load (.s 0)) :: .p .push (some ((.s 3), false)) (.mv (.t (.of 7))) :: .p .push (some ((.s 4), false)) (.iaddr 1 (.s 1) (.s 0)) :: .p .push (some ((.s 5), false)) (.load (.s 0)) :: r) C ⟨(F74.fr b c e g f i d l o q a), []⟩ h nx Kt =
 sG d false (fun k => k i) fun v1 => sG d false (fun k => zO 1 e k) fun v2 => sG d false (fun k => zF v2 h k) fun v3 => sG d false (fun k => k l) fun v4 => sG d false (fun k => zS 1 v3 v4 k) fun v5 => sG d false (fun k => zF v5 h k) fun v6 => j8 r C ⟨(F74.fr b c e g f i d l o q a), v6 :: v5 :: v4 :: v3 :: v2 :: v1 :: d :: d :: []⟩ h nx Kt := by kernel_rfl
theorem F74.r7_1_g : j8 (.w .push (some ((.s 6), false)) (.call (.c (.fn 82 (.of 82) [])) [(.s 5), (.s 0)]) :: r) C ⟨(F74.fr b c e g f i d l o q a), s0 :: s1 :: s2 :: s3 :: s4 :: s5 :: s6 :: s7 :: []⟩ h nx Kt =
 sGW s6 false (fun k => C.fn 82 (.of 82) [s5, s0] h nx k) h nx fun v1 h2 n3 => j8 r C ⟨(F74.fr b c e g f i d l o q a), v1 :: s0 :: s1 :: s2 :: s3 :: s4 :: s5 :: s6 :: s7 :: []⟩ h2 n3 Kt := by kernel_rfl
theorem F74.r7_2_g : j8 (.s (.pick (.s 7) (.c (.bool true)) (.s 0)) :: .q (.of 6) (.mv (.s 0)) :: []) C ⟨(F74.fr b c e g f i d l o q a), s0 :: s1 :: s2 :: s3 :: s4 :: s5 :: s6 :: s7 :: s8 :: []⟩ h nx Kt =
 gH s7 (.bool true) s0 fun v1 => Kt ⟨(F74.fr b c e g f i v1 l o q a), v1 :: s0 :: s1 :: s2 :: s3 :: s4 :: s5 :: s6 :: s7 :: s8 :: []⟩ h nx := by kernel_rfl
theorem F74.t13_s : IR.run F74.t13 C N O K (F74.fr b c e g f i d l o q a) h nx =
 sBin .add .int l (I 1) fun v1 => K (F74.fr b c e g f i d v1 o q a) h nx := by kernel_rfl
theorem F74.t16_L (Inv : Nat → AV → AV → T Blk → Pa → Prop) {m : Nat} (hm : m < N) (hi : Inv m d l h nx)
  (step : ∀ (m : Nat) (z6 z7 z9 : AV) (h : T Blk) (nx : Pa) (R : Ks Prop), Inv m z6 z7 h nx → (∀ (m' : Nat) (w6 w7 w9 : AV) (h' : T Blk) (nx' : Pa), m' < m → Inv m' w6 w7 h' nx' → R (F74.fr b c e g f i w6 w7 o w9 a) h' nx' = .ok True) → IR.run F74.t15 C N O R (F74.fr b c e g f i z6 z7 o z9 a) h nx = .ok True) :
  IR.run F74.t16 C N O K (F74.fr b c e g f i d l o q a) h nx = .ok True := by
 rw [F74.t16]
 refine yJ (fun m tm h nx => ∃ z6 z7 z9, tm = (F74.fr b c e g f i z6 z7 o z9 a) ∧ Inv m z6 z7 h nx) ?_ hm ⟨_, _, _, rfl, hi⟩
 rintro m tm h nx R ⟨z6, z7, z9, rfl, hi⟩ hR
 exact step m z6 z7 z9 h nx R hi fun m' w6 w7 w9 h' nx' hlt hi' => hR m' _ h' nx' hlt ⟨_, _, _, rfl, hi'⟩
theorem F74.t19_s : IR.run F74.t19 C N O K (F74.fr b c e g f i d l o q a) h nx =
 sNot d fun v1 => K (F74.fr b c e g f i d l o q v1) h nx := by kernel_rfl
theorem F74.t20_s : IR.run F74.t20 C N O K (F74.fr b c e g f i d l o q a) h nx =
 K (F74.fr b c e (.bool false) f i d l o q a) h nx := by kernel_rfl
theorem F74.v10 : Arg.ev (.t (.of 10)) ⟨(F74.fr b c e g f i d l o q a), []⟩ = a := by kernel_rfl
theorem F74.t28_s : IR.run F74.t28 C N O K (F74.fr b c e g f i d l o q a) h nx =
 sBin .add .int f (I 1) fun v1 => K (F74.fr b c e g v1 i d l o q a) h nx := by kernel_rfl
theorem F74.t31_L (Inv : Nat → AV → T Blk → Pa → Prop) {m : Nat} (hm : m < N) (hi : Inv m f h nx)
  (step : ∀ (m : Nat) (z3 z4 z5 z6 z7 z8 z9 zA : AV) (h : T Blk) (nx : Pa) (R : Ks Prop), Inv m z4 h nx → (∀ (m' : Nat) (w3 w4 w5 w6 w7 w8 w9 wA : AV) (h' : T Blk) (nx' : Pa), m' < m → Inv m' w4 h' nx' → R (F74.fr b c e w3 w4 w5 w6 w7 w8 w9 wA) h' nx' = .ok True) → IR.run F74.t30 C N O R (F74.fr b c e z3 z4 z5 z6 z7 z8 z9 zA) h nx = .ok True) :
  IR.run F74.t31 C N O K (F74.fr b c e g f i d l o q a) h nx = .ok True := by
 rw [F74.t31]
 refine yJ (fun m tm h nx => ∃ z3 z4 z5 z6 z7 z8 z9 zA, tm = (F74.fr b c e z3 z4 z5 z6 z7 z8 z9 zA) ∧ Inv m z4 h nx) ?_ hm ⟨_, _, _, _, _, _, _, _, rfl, hi⟩
 rintro m tm h nx R ⟨z3, z4, z5, z6, z7, z8, z9, zA, rfl, hi⟩ hR
 exact step m z3 z4 z5 z6 z7 z8 z9 zA h nx R hi fun m' w3 w4 w5 w6 w7 w8 w9 wA h' nx' hlt hi' => hR m' _ h' nx' hlt ⟨_, _, _, _, _, _, _, _, rfl, hi'⟩
theorem F74.t34_s : IR.run F74.t34 C N O K (F74.fr b c e g f i d l o q a) h nx =
 K (F74.fr b c e (.bool true) f i d l o q a) h nx := by kernel_rfl
theorem F74.tab : T.get none (.of 74) tbl = some F74 := by kernel_rfl
theorem F74.bind (k : T AV → OP) : yV F74.params [a0, a1] F74.init k = k (F74.fr a0 a1 .undef .undef .undef .undef .undef .undef .undef .undef .undef) := by kernel_rfl
theorem F74.body_eq : F74.body = F74.t37 := by kernel_rfl
theorem F74.go : zT tbl N C (.of 74) [a0, a1] h nx K0 = IR.run F74.t37 C N (fnO F74.res K0) (retK F74.res K0) (F74.fr a0 a1 .undef .undef .undef .undef .undef .undef .undef .undef .undef) h nx := by
 rw [zH F74.tab, F74.bind, F74.body_eq]; kernel_rfl
theorem F74.ret : retK F74.res K0 (F74.fr b c e g f i d l o q a) h nx = K0 g h nx := by kernel_rfl
end
end Go.Ev
