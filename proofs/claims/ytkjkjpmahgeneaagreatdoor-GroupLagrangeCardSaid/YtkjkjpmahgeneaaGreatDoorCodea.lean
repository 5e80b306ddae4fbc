import Derived.Test.YtkjkjpmahgeneaaGreatDoorIrT
import Derived.KernelRfl
import Derived.Test.YtkjkjpmahgeneaaGreatDoorEvD
set_option linter.unusedSimpArgs false
set_option linter.unusedVariables false
noncomputable section
namespace Go.Ev
open Go Go.Proofs
set_option maxRecDepth 100000
variable {N : Nat} {C : Calls Prop} {K0 : Kw Prop} {K R : Ks Prop} {h : T Blk} {nx : Pa} {b c f d e g l a0 a1 a2 p q u a i o s v w y z A B D E F G H : AV}
theorem F93.g2_eq (X3 : IR) (O : uy Prop) (t : T AV) : IR.run (F93.g2 X3) C N O K t h nx = IR.run X3 C N (O.blk 0 K) K t h nx := by kernel_rfl
theorem F93.tab : T.get none (.of 93) tbl = some F93 := by kernel_rfl
theorem F93.go : zV tbl N C (.of 93) [a0] h nx K0 =
 sLen a0 fun v1 => zu .gtr .int v1 (I 256) fun v2 => yA v2 (K0 (I 5) h nx) (sLen a0 fun v3 => uS 1 1 [(.bool false)] v3 v3 h nx fun v4 h5 n6 => IR.run F93.b2 C N (fnO F93.res K0) (IR.run F93.b10 C N (fnO F93.res K0) (gu F93.res K0)) (F93.fr a0 (I 0) v4 (I 0) v2 .undef .undef) h5 n6) := by
 rw [zJ F93.tab]; kernel_rfl
theorem F93.L2 (Inv : Nat -> AV -> T Blk -> Pa -> Prop) {m : Nat} (hm : m < N) (hi : Inv m d h nx)
  (step : ∀ (m : Nat) (z1 z3 z5 z6 : AV) (h : T Blk) (nx : Pa) (R : Ks Prop), Inv m z3 h nx -> (∀ (m' : Nat) (w1 w3 w5 w6 : AV) (h' : T Blk) (nx' : Pa), m' < m -> Inv m' w3 h' nx' -> R (F93.fr b w1 f w3 e w5 w6) h' nx' = .ok True) ->
   (sLen b fun v1 => zu .lss .int z3 v1 fun v2 => yA v2 (zS 1 b z3 fun v3 => zF v3 h fun v4 => zu .lss .int v4 (I 0) fun v5 => sG v5 false (fun k => k b) fun v6 => sG v5 false (fun k => k z3) fun v7 => sG v5 false (fun k => zS 1 v6 v7 k) fun v8 => sG v5 false (fun k => zF v8 h k) fun v9 => sG v5 false (fun k => k b) fun vA => sG v5 false (fun k => sLen vA k) fun vB => sG v5 false (fun k => zu .geq .int v9 vB k) fun vC => j5 v5 (.bool true) vC fun vD => sG vD false (fun k => k f) fun vE => sG vD false (fun k => k b) fun vF => sG vD false (fun k => k z3) fun vG => sG vD false (fun k => zS 1 vF vG k) fun vH => sG vD false (fun k => zF vH h k) fun vI => sG vD false (fun k => zS 1 vE vI k) fun vJ => sG vD false (fun k => zF vJ h k) fun vK => j5 vD (.bool true) vK fun vL => yA vL (K0 (I 14) h nx) ((IR.run F93.b8 C N (((fnO F93.res K0).blk 0 K).blk 1 (IR.run F93.b9 C N ((fnO F93.res K0).blk 0 K) R)) (IR.run F93.b9 C N ((fnO F93.res K0).blk 0 K) R)) (F93.fr b z1 f z3 e v2 vL) h nx)) (K (F93.fr b z1 f z3 e v2 z6) h nx)) = .ok True) :
  IR.run F93.b2 C N (fnO F93.res K0) K (F93.fr b c f d e g l) h nx = .ok True := by
 rw [F93.b2, F93.g2_eq, F93.b3];refine yM (fun m tm h nx => ∃ z1 z3 z5 z6, tm = (F93.fr b z1 f z3 e z5 z6) /\ Inv m z3 h nx) ?_ hm ⟨_, _, _, _, rfl, hi⟩;rintro m tm h nx R ⟨z1, z3, z5, z6, rfl, hi⟩ hR;refine Eq.trans ?_ (step m z1 z3 z5 z6 h nx R hi fun m' w1 w3 w5 w6 h' nx' hlt hi' => hR m' _ h' nx' hlt ⟨_, _, _, _, rfl, hi'⟩)
 kernel_rfl
theorem F93.k10 : IR.run F93.b10 C N (fnO F93.res K0) K (F93.fr b c f d e g l) h nx =
 K0 (I 0) h nx := by kernel_rfl
theorem F93.k9 {E0 : Ks Prop} : IR.run F93.b9 C N ((fnO F93.res K0).blk 0 E0) K (F93.fr b c f d e g l) h nx =
 zu .add .int d (I 1) fun v1 => K (F93.fr b c f v1 e g l) h nx := by kernel_rfl
theorem F93.k8 {E0 E1 : Ks Prop} : IR.run F93.b8 C N (((fnO F93.res K0).blk 0 E0).blk 1 E1) K (F93.fr b c f d e g l) h nx =
 zS 1 b d fun v1 => zF v1 h fun v2 => zS 1 f v2 fun v3 => zO 1 v3 (.bool true) h nx fun v4 h5 n6 => K (F93.fr b c f d e g l) h5 n6 := by kernel_rfl
theorem F26.tab : T.get none (.of 26) tbl = some F26 := by kernel_rfl
theorem F26.go : zV tbl N C (.of 26) [a0, a1] h nx K0 =
 sBox a0 h nx fun v1 h2 n3 => C.fn 25 (.of 25) [a1] h2 n3 fun v4 h5 n6 => zu .neq .int v4 (I 0) fun v7 => yA v7 (K0 (I 3) h5 n6) (zW 0 v1 fun v8 => zF v8 h5 fun v9 => sLen v9 fun vA => zu .neq .int vA a1 fun vB => yA vB (K0 (I 2) h5 n6) (zW 0 v1 fun vC => zF vC h5 fun vD => C.fn 93 (.of 93) [vD] h5 n6 fun vE hA nA => K0 vE hA nA)) := by
 rw [zJ F26.tab]; kernel_rfl
theorem F25.tab : T.get none (.of 25) tbl = some F25 := by kernel_rfl
theorem F25.go : zV tbl N C (.of 25) [a0] h nx K0 =
 zu .lss .int a0 (I 0) fun v1 => sG v1 false (fun k => k a0) fun v2 => sG v1 false (fun k => zu .gtr .int v2 (I 256) k) fun v3 => j5 v1 (.bool true) v3 fun v4 => yA v4 (K0 (I 3) h nx) (K0 (I 0) h nx) := by
 rw [zJ F25.tab]; kernel_rfl
theorem F82.g2_eq (X3 : IR) (O : uy Prop) (t : T AV) : IR.run (F82.g2 X3) C N O K t h nx = IR.run X3 C N (O.blk 0 K) K t h nx := by kernel_rfl
theorem F82.tab : T.get none (.of 82) tbl = some F82 := by kernel_rfl
theorem F82.go : zV tbl N C (.of 82) [a0, a1] h nx K0 =
 sLen a0 fun v1 => sLen a1 fun v2 => zu .neq .int v1 v2 fun v3 => yA v3 (K0 (.bool false) h nx) (IR.run F82.b2 C N (fnO F82.res K0) (IR.run F82.b9 C N (fnO F82.res K0) (gu F82.res K0)) (F82.fr a0 a1 (.bool false) (I 0) v3 .undef .undef) h nx) := by
 rw [zJ F82.tab]; kernel_rfl
theorem F82.L2 (Inv : Nat -> AV -> T Blk -> Pa -> Prop) {m : Nat} (hm : m < N) (hi : Inv m d h nx)
  (step : ∀ (m : Nat) (z2 z3 z5 z6 : AV) (h : T Blk) (nx : Pa) (R : Ks Prop), Inv m z3 h nx -> (∀ (m' : Nat) (w2 w3 w5 w6 : AV) (h' : T Blk) (nx' : Pa), m' < m -> Inv m' w3 h' nx' -> R (F82.fr b c w2 w3 e w5 w6) h' nx' = .ok True) ->
   (sLen b fun v1 => zu .lss .int z3 v1 fun v2 => yA v2 (zS 1 b z3 fun v3 => zF v3 h fun v4 => zS 1 c z3 fun v5 => zF v5 h fun v6 => zu .neq .int v4 v6 fun v7 => yA v7 (K0 (.bool false) h nx) (zu .add .int z3 (I 1) fun v8 => R (F82.fr b c z2 v8 e v2 v7) h nx)) (K (F82.fr b c z2 z3 e v2 z6) h nx)) = .ok True) :
  IR.run F82.b2 C N (fnO F82.res K0) K (F82.fr b c f d e g l) h nx = .ok True := by
 rw [F82.b2, F82.g2_eq, F82.b3];refine yM (fun m tm h nx => ∃ z2 z3 z5 z6, tm = (F82.fr b c z2 z3 e z5 z6) /\ Inv m z3 h nx) ?_ hm ⟨_, _, _, _, rfl, hi⟩;rintro m tm h nx R ⟨z2, z3, z5, z6, rfl, hi⟩ hR;refine Eq.trans ?_ (step m z2 z3 z5 z6 h nx R hi fun m' w2 w3 w5 w6 h' nx' hlt hi' => hR m' _ h' nx' hlt ⟨_, _, _, _, rfl, hi'⟩)
 kernel_rfl
theorem F82.k9 : IR.run F82.b9 C N (fnO F82.res K0) K (F82.fr b c f d e g l) h nx =
 K0 (.bool true) h nx := by kernel_rfl
theorem F106.tab : T.get none (.of 106) tbl = some F106 := by kernel_rfl
theorem F106.go : zV tbl N C (.of 106) [a0] h nx K0 =
 zu .eql (.nil .sl) a0 .zf fun v1 => yA v1 (K0 .zf h nx) (jD 1 0 [(I 0)] [] h nx fun v2 h3 n4 => sApp 1 8 v2 a0 h3 n4 fun v5 h6 n7 => K0 v5 h6 n7) := by
 rw [zJ F106.tab]; kernel_rfl
theorem jy.g2_eq (X3 : IR) (O : uy Prop) (t : T AV) : IR.run (jy.g2 X3) C N O K t h nx = IR.run X3 C N (O.blk 0 K) K t h nx := by kernel_rfl
theorem jy.tab : T.get none (.of 158) tbl = some jy := by kernel_rfl
theorem jy.go : zV tbl N C (.of 158) [a0, a1] h nx K0 =
 sLen a0 fun v1 => sLen a1 fun v2 => zu .neq .int v1 v2 fun v3 => yA v3 (K0 (.bool false) h nx) (sLen a0 fun v4 => IR.run jy.b2 C N (fnO jy.res K0) (IR.run jy.b9 C N (fnO jy.res K0) (gu jy.res K0)) (jy.fr a0 a1 (.bool false) .undef v3 v4 (I 0) .undef .undef) h nx) := by
 rw [zJ jy.tab]; kernel_rfl
theorem jy.L2 (Inv : Nat -> AV -> T Blk -> Pa -> Prop) {m : Nat} (hm : m < N) (hi : Inv m l h nx)
  (step : ∀ (m : Nat) (z2 z3 z6 z7 z8 : AV) (h : T Blk) (nx : Pa) (R : Ks Prop), Inv m z6 h nx -> (∀ (m' : Nat) (w2 w3 w6 w7 w8 : AV) (h' : T Blk) (nx' : Pa), m' < m -> Inv m' w6 h' nx' -> R (jy.fr b c w2 w3 e g w6 w7 w8) h' nx' = .ok True) ->
   (zu .lss .int z6 g fun v1 => yA v1 (zS 1 b z6 fun v2 => zF v2 h fun v3 => zS 1 c z6 fun v4 => zF v4 h fun v5 => zu .neq .int v3 v5 fun v6 => yA v6 (K0 (.bool false) h nx) (zu .add .int z6 (I 1) fun v7 => R (jy.fr b c z2 z6 e g v7 v1 v6) h nx)) (K (jy.fr b c z2 z3 e g z6 v1 z8) h nx)) = .ok True) :
  IR.run jy.b2 C N (fnO jy.res K0) K (jy.fr b c f d e g l p q) h nx = .ok True := by
 rw [jy.b2, jy.g2_eq, jy.b3];refine yM (fun m tm h nx => ∃ z2 z3 z6 z7 z8, tm = (jy.fr b c z2 z3 e g z6 z7 z8) /\ Inv m z6 h nx) ?_ hm ⟨_, _, _, _, _, rfl, hi⟩;rintro m tm h nx R ⟨z2, z3, z6, z7, z8, rfl, hi⟩ hR;refine Eq.trans ?_ (step m z2 z3 z6 z7 z8 h nx R hi fun m' w2 w3 w6 w7 w8 h' nx' hlt hi' => hR m' _ h' nx' hlt ⟨_, _, _, _, _, rfl, hi'⟩)
 kernel_rfl
theorem jy.k9 : IR.run jy.b9 C N (fnO jy.res K0) K (jy.fr b c f d e g l p q) h nx =
 K0 (.bool true) h nx := by kernel_rfl
theorem F136.tab : T.get none (.of 136) tbl = some F136 := by kernel_rfl
theorem F136.go : zV tbl N C (.of 136) [a0, a1] h nx K0 =
 C.fn 197 (.of 197) [a0, a1] h nx fun v1 h2 n3 => zu .geq .int v1 (I 0) fun v4 => K0 v4 h2 n3 := by
 rw [zJ F136.tab]; kernel_rfl
theorem gy.bU (X2 : IR) (O : uy Prop) (t : T AV) : IR.run (gy.g1 X2) C N O K t h nx = IR.run X2 C N (O.blk 0 K) K t h nx := by kernel_rfl
theorem gy.tab : T.get none (.of 197) tbl = some gy := by kernel_rfl
theorem gy.go : zV tbl N C (.of 197) [a0, a1] h nx K0 =
 sLen a0 fun v1 => IR.run gy.b1 C N (fnO gy.res K0) (IR.run gy.b8 C N (fnO gy.res K0) (gu gy.res K0)) (gy.fr a0 a1 (I 0) .undef v1 (I 0) .undef .undef) h nx := by
 rw [zJ gy.tab]; kernel_rfl
theorem gy.L1 (Inv : Nat -> AV -> T Blk -> Pa -> Prop) {m : Nat} (hm : m < N) (hi : Inv m g h nx)
  (step : ∀ (m : Nat) (z2 z3 z5 z6 z7 : AV) (h : T Blk) (nx : Pa) (R : Ks Prop), Inv m z5 h nx -> (∀ (m' : Nat) (w2 w3 w5 w6 w7 : AV) (h' : T Blk) (nx' : Pa), m' < m -> Inv m' w5 h' nx' -> R (gy.fr b c w2 w3 e w5 w6 w7) h' nx' = .ok True) ->
   (zu .lss .int z5 e fun v1 => yA v1 (zS 1 b z5 fun v2 => zF v2 h fun v3 => mT C c [v3] h nx fun v4 h5 n6 => yA v4 (K0 z5 h5 n6) (zu .add .int z5 (I 1) fun v7 => R (gy.fr b c z2 z5 e v7 v1 v4) h5 n6)) (K (gy.fr b c z2 z3 e z5 v1 z7) h nx)) = .ok True) :
  IR.run gy.b1 C N (fnO gy.res K0) K (gy.fr b c f d e g l p) h nx = .ok True := by
 rw [gy.b1, gy.bU, gy.b2];refine yM (fun m tm h nx => ∃ z2 z3 z5 z6 z7, tm = (gy.fr b c z2 z3 e z5 z6 z7) /\ Inv m z5 h nx) ?_ hm ⟨_, _, _, _, _, rfl, hi⟩;rintro m tm h nx R ⟨z2, z3, z5, z6, z7, rfl, hi⟩ hR;refine Eq.trans ?_ (step m z2 z3 z5 z6 z7 h nx R hi fun m' w2 w3 w5 w6 w7 h' nx' hlt hi' => hR m' _ h' nx' hlt ⟨_, _, _, _, _, rfl, hi'⟩)
 kernel_rfl
theorem gy.k8 : IR.run gy.b8 C N (fnO gy.res K0) K (gy.fr b c f d e g l p) h nx =
 K0 (I (-1)) h nx := by kernel_rfl
theorem F85.tab : T.get none (.of 85) tbl = some F85 := by kernel_rfl
theorem F85.go : zV tbl N C (.of 85) [a0, a1] h nx K0 =
 sBox a0 h nx fun v1 h2 n3 => sBox a1 h2 n3 fun v4 h5 n6 => zW 0 v1 fun v7 => zF v7 h5 fun v8 => zW 0 v4 fun v9 => zF v9 h5 fun vA => C.fn 82 (.of 82) [v8, vA] h5 n6 fun vB hB nB => yA vB (zW 1 v1 fun vE => zF vE hB fun vF => sNot vF fun vG => sG vG true (fun k => zW 1 v4 k) fun vH => sG vG true (fun k => zF vH hB k) fun vI => j5 vG vI (.bool false) fun vJ => K0 vJ hB nB) (zW 0 v1 fun vK => zF vK hB fun vL => zW 0 v4 fun vM => zF vM hB fun vN => C.fn 88 (.of 88) [vL, vN] hB nB fun vO hC nC => K0 vO hC nC) := by
 rw [zJ F85.tab]; kernel_rfl
theorem F84.bU (X2 : IR) (O : uy Prop) (t : T AV) : IR.run (F84.g1 X2) C N O K t h nx = IR.run X2 C N (O.blk 0 K) K t h nx := by kernel_rfl
theorem F84.tab : T.get none (.of 84) tbl = some F84 := by kernel_rfl
theorem F84.go : zV tbl N C (.of 84) [a0, a1] h nx K0 =
 sBox a1 h nx fun v1 h2 n3 => IR.run F84.b1 C N (fnO F84.res K0) (IR.run F84.b8 C N (fnO F84.res K0) (gu F84.res K0)) (F84.fr a0 a1 v1 (I 0) (I 0) .undef .undef) h2 n3 := by
 rw [zJ F84.tab]; kernel_rfl
theorem F84.L1 (Inv : Nat -> AV -> T Blk -> Pa -> Prop) {m : Nat} (hm : m < N) (hi : Inv m e h nx)
  (step : ∀ (m : Nat) (z3 z4 z5 z6 : AV) (h : T Blk) (nx : Pa) (R : Ks Prop), Inv m z4 h nx -> (∀ (m' : Nat) (w3 w4 w5 w6 : AV) (h' : T Blk) (nx' : Pa), m' < m -> Inv m' w4 h' nx' -> R (F84.fr b c f w3 w4 w5 w6) h' nx' = .ok True) ->
   (sLen b fun v1 => zu .lss .int z4 v1 fun v2 => yA v2 (zS 2 b z4 fun v3 => zN 2 v3 h fun v4 => zN 2 f h fun v5 => C.fn 30 (.of 30) [v4, v5] h nx fun v6 h7 n8 => yA v6 (K0 z4 h7 n8) (zu .add .int z4 (I 1) fun v9 => R (F84.fr b c f z3 v9 v2 v6) h7 n8)) (K (F84.fr b c f z3 z4 v2 z6) h nx)) = .ok True) :
  IR.run F84.b1 C N (fnO F84.res K0) K (F84.fr b c f d e g l) h nx = .ok True := by
 rw [F84.b1, F84.bU, F84.b2];refine yM (fun m tm h nx => ∃ z3 z4 z5 z6, tm = (F84.fr b c f z3 z4 z5 z6) /\ Inv m z4 h nx) ?_ hm ⟨_, _, _, _, rfl, hi⟩;rintro m tm h nx R ⟨z3, z4, z5, z6, rfl, hi⟩ hR;refine Eq.trans ?_ (step m z3 z4 z5 z6 h nx R hi fun m' w3 w4 w5 w6 h' nx' hlt hi' => hR m' _ h' nx' hlt ⟨_, _, _, _, rfl, hi'⟩)
 kernel_rfl
theorem F84.k8 : IR.run F84.b8 C N (fnO F84.res K0) K (F84.fr b c f d e g l) h nx =
 K0 (I (-1)) h nx := by kernel_rfl
theorem F65.tab : T.get none (.of 65) tbl = some F65 := by kernel_rfl
theorem F65.go : zV tbl N C (.of 65) [a0, a1] h nx K0 =
 sBox a0 h nx fun v1 h2 n3 => sBox a1 h2 n3 fun v4 h5 n6 => yN [.zf, (.bool false)] h5 n6 fun v7 h8 n9 => zW 0 v1 fun vA => zF vA h8 fun vB => zW 0 v4 fun vC => zF vC h8 fun vD => zW 1 v1 fun vE => zF vE h8 fun vF => zW 1 v4 fun vG => zF vG h8 fun vH => zu .neq .bool vF vH fun vI => C.fn 144 (.of 144) [vB, vD] h8 n9 fun vJ hD nD => (zu .neq .bool vF vH fun vP => zM vP vI ((zF vG hD fun vQ => zM vQ vH ((zW 1 v4 fun vR => zM vR vG ((zF vE hD fun vS => zM vS vF ((zW 1 v1 fun vT => zM vT vE (kV [.zf, (.bool false)] [(0, 1, vJ), (1, 1, vI)] fun vM => zO 2 v7 vM hD nD fun vN hE nE => zN 2 v7 hE fun vU => K0 vU hE nE)))))))))) := by
 rw [zJ F65.tab]; kernel_rfl
theorem F30.tab : T.get none (.of 30) tbl = some F30 := by kernel_rfl
theorem F30.go : zV tbl N C (.of 30) [a0, a1] h nx K0 =
 sBox a0 h nx fun v1 h2 n3 => sBox a1 h2 n3 fun v4 h5 n6 => zW 1 v1 fun v7 => zF v7 h5 fun v8 => zW 1 v4 fun v9 => zF v9 h5 fun vA => zu .eql .bool v8 vA fun vB => sG vB true (fun k => zW 0 v1 k) fun vC => sG vB true (fun k => zF vC h5 k) fun vD => sG vB true (fun k => zW 0 v4 k) fun vE => sG vB true (fun k => zF vE h5 k) fun vF => sGW vB true (fun k => C.fn 82 (.of 82) [vD, vF] h5 n6 k) h5 n6 fun vG hF nF => j5 vB vG (.bool false) fun vJ => K0 vJ hF nF := by
 rw [zJ F30.tab]; kernel_rfl
theorem uf.bU (X2 : IR) (O : uy Prop) (t : T AV) : IR.run (uf.g1 X2) C N O K t h nx = IR.run X2 C N (O.blk 0 K) K t h nx := by kernel_rfl
theorem uf.tab : T.get none (.of 144) tbl = some uf := by kernel_rfl
theorem uf.go : zV tbl N C (.of 144) [a0, a1] h nx K0 =
 IR.run uf.b1 C N (fnO uf.res K0) (IR.run uf.b8 C N (fnO uf.res K0) (gu uf.res K0)) (uf.fr a0 a1 .zf .zf (I 0) .undef) h nx := by
 rw [zJ uf.tab]; kernel_rfl
theorem uf.L1 (Inv : Nat -> AV -> AV -> T Blk -> Pa -> Prop) {m : Nat} (hm : m < N) (hi : Inv m d e h nx)
  (step : ∀ (m : Nat) (z3 z4 z5 : AV) (h : T Blk) (nx : Pa) (R : Ks Prop), Inv m z3 z4 h nx -> (∀ (m' : Nat) (w3 w4 w5 : AV) (h' : T Blk) (nx' : Pa), m' < m -> Inv m' w3 w4 h' nx' -> R (uf.fr b c f w3 w4 w5) h' nx' = .ok True) ->
   (sLen c fun v1 => zu .lss .int z4 v1 fun v2 => yA v2 (zS 1 c z4 fun v3 => zF v3 h fun v4 => zS 1 b v4 fun v5 => zF v5 h fun v6 => jD 1 1 [(I 0)] [(0, 1, v6)] h nx fun v7 h8 n9 => sApp 1 8 z3 v7 h8 n9 fun vA hG nG => zu .add .int z4 (I 1) fun vD => R (uf.fr b c f vA vD v2) hG nG) (K (uf.fr b c f z3 z4 v2) h nx)) = .ok True) :
  IR.run uf.b1 C N (fnO uf.res K0) K (uf.fr b c f d e g) h nx = .ok True := by
 rw [uf.b1, uf.bU, uf.b2];refine yM (fun m tm h nx => ∃ z3 z4 z5, tm = (uf.fr b c f z3 z4 z5) /\ Inv m z3 z4 h nx) ?_ hm ⟨_, _, _, rfl, hi⟩;rintro m tm h nx R ⟨z3, z4, z5, rfl, hi⟩ hR;refine Eq.trans ?_ (step m z3 z4 z5 h nx R hi fun m' w3 w4 w5 h' nx' hlt hi' => hR m' _ h' nx' hlt ⟨_, _, _, rfl, hi'⟩)
 kernel_rfl
theorem uf.k8 : IR.run uf.b8 C N (fnO uf.res K0) K (uf.fr b c f d e g) h nx =
 K0 d h nx := by kernel_rfl
theorem F20.g4_eq (X5 : IR) (O : uy Prop) (t : T AV) : IR.run (F20.g4 X5) C N O K t h nx = IR.run X5 C N (O.blk 0 K) K t h nx := by kernel_rfl
theorem F20.g12_eq (X13 : IR) (O : uy Prop) (t : T AV) : IR.run (F20.g12 X13) C N O K t h nx = IR.run X13 C N (O.blk 2 K) K t h nx := by kernel_rfl
theorem F20.g26_eq (X27 : IR) (O : uy Prop) (t : T AV) : IR.run (F20.g26 X27) C N O K t h nx = IR.run X27 C N (O.blk 6 K) K t h nx := by kernel_rfl
theorem F20.g20_eq (X21 : IR) (O : uy Prop) (t : T AV) : IR.run (F20.g20 X21) C N O K t h nx = IR.run X21 C N (O.blk 4 K) K t h nx := by kernel_rfl
theorem F20.tab : T.get none (.of 20) tbl = some F20 := by kernel_rfl
theorem F20.go : zV tbl N C (.of 20) [a0, a1] h nx K0 =
 C.fn 25 (.of 25) [a1] h nx fun v1 h2 n3 => zu .neq .int v1 (I 0) fun v4 => yA v4 (K0 (I 3) h2 n3) (sLen a0 fun v5 => zu .eql .int v5 (I 0) fun v6 => yA v6 (K0 (I 12) h2 n3) (sLen a0 fun v7 => zu .gtr .int v7 (I 1536) fun v8 => yA v8 (K0 (I 5) h2 n3) (IR.run F20.b4 C N (fnO F20.res K0) (IR.run F20.b11 C N (fnO F20.res K0) (gu F20.res K0)) (F20.fr a0 a1 (I 0) (I 0) .undef .undef .undef .undef v4 v6 v8 .undef .undef .undef .undef .undef .undef .undef) h2 n3))) := by
 rw [zJ F20.tab]; kernel_rfl
theorem F20.L4 (Inv : Nat -> AV -> T Blk -> Pa -> Prop) {m : Nat} (hm : m < N) (hi : Inv m d h nx)
  (step : ∀ (m : Nat) (z2 z3 z4 zA zB : AV) (h : T Blk) (nx : Pa) (R : Ks Prop), Inv m z3 h nx -> (∀ (m' : Nat) (w2 w3 w4 wB wC : AV) (h' : T Blk) (nx' : Pa), m' < m -> Inv m' w3 h' nx' -> R (F20.fr b c w2 w3 w4 g l p q u a wB wC s v w y z) h' nx' = .ok True) ->
   (sLen b fun v1 => zu .lss .int z3 v1 fun v2 => yA v2 (zS 2 b z3 fun v3 => zN 2 v3 h fun v4 => C.fn 26 (.of 26) [v4, c] h nx fun v5 h6 n7 => zu .neq .int v5 (I 0) fun v8 => yA v8 (K0 v5 h6 n7) (zu .add .int z3 (I 1) fun v9 => R (F20.fr b c z2 v9 v5 g l p q u a v2 v8 s v w y z) h6 n7)) (K (F20.fr b c z2 z3 z4 g l p q u a v2 zB s v w y z) h nx)) = .ok True) :
  IR.run F20.b4 C N (fnO F20.res K0) K (F20.fr b c f d e g l p q u a i o s v w y z) h nx = .ok True := by
 rw [F20.b4, F20.g4_eq, F20.b5];refine yM (fun m tm h nx => ∃ z2 z3 z4 zA zB, tm = (F20.fr b c z2 z3 z4 g l p q u a zA zB s v w y z) /\ Inv m z3 h nx) ?_ hm ⟨_, _, _, _, _, rfl, hi⟩;rintro m tm h nx R ⟨z2, z3, z4, zA, zB, rfl, hi⟩ hR;refine Eq.trans ?_ (step m z2 z3 z4 zA zB h nx R hi fun m' w2 w3 w4 wB wC h' nx' hlt hi' => hR m' _ h' nx' hlt ⟨_, _, _, _, _, rfl, hi'⟩)
 kernel_rfl
theorem F20.k11 : IR.run F20.b11 C N (fnO F20.res K0) K (F20.fr b c f d e g l p q u a i o s v w y z) h nx =
 IR.run F20.b12 C N (fnO F20.res K0) (IR.run F20.b19 C N (fnO F20.res K0) K) (F20.fr b c f d e (I 1) l p q u a i o s v w y z) h nx := by kernel_rfl
theorem F20.L12 (Inv : Nat -> AV -> T Blk -> Pa -> Prop) {m : Nat} (hm : m < N) (hi : Inv m g h nx)
  (step : ∀ (m : Nat) (z2 z5 zC zD : AV) (h : T Blk) (nx : Pa) (R : Ks Prop), Inv m z5 h nx -> (∀ (m' : Nat) (w2 w5 wD wE : AV) (h' : T Blk) (nx' : Pa), m' < m -> Inv m' w5 h' nx' -> R (F20.fr b c w2 d e w5 l p q u a i o wD wE w y z) h' nx' = .ok True) ->
   (sLen b fun v1 => zu .lss .int z5 v1 fun v2 => yA v2 (zu .sub .int z5 (I 1) fun v3 => zS 2 b v3 fun v4 => zN 2 v4 h fun v5 => zS 2 b z5 fun v6 => zN 2 v6 h fun v7 => C.fn 85 (.of 85) [v5, v7] h nx fun v8 h9 nH => sNot v8 fun vB => yA vB (K0 (I 11) h9 nH) (zu .add .int z5 (I 1) fun vC => R (F20.fr b c z2 d e vC l p q u a i o v2 vB w y z) h9 nH)) (K (F20.fr b c z2 d e z5 l p q u a i o v2 zD w y z) h nx)) = .ok True) :
  IR.run F20.b12 C N (fnO F20.res K0) K (F20.fr b c f d e g l p q u a i o s v w y z) h nx = .ok True := by
 rw [F20.b12, F20.g12_eq, F20.b13];refine yM (fun m tm h nx => ∃ z2 z5 zC zD, tm = (F20.fr b c z2 d e z5 l p q u a i o zC zD w y z) /\ Inv m z5 h nx) ?_ hm ⟨_, _, _, _, rfl, hi⟩;rintro m tm h nx R ⟨z2, z5, zC, zD, rfl, hi⟩ hR;refine Eq.trans ?_ (step m z2 z5 zC zD h nx R hi fun m' w2 w5 wD wE h' nx' hlt hi' => hR m' _ h' nx' hlt ⟨_, _, _, _, rfl, hi'⟩)
 kernel_rfl
theorem F20.k19 : IR.run F20.b19 C N (fnO F20.res K0) K (F20.fr b c f d e g l p q u a i o s v w y z) h nx =
 IR.run F20.b20 C N (fnO F20.res K0) (IR.run F20.b34 C N (fnO F20.res K0) K) (F20.fr b c f d e g (I 0) p q u a i o s v w y z) h nx := by kernel_rfl
theorem F20.L20 (Inv : Nat -> AV -> T Blk -> Pa -> Prop) {m : Nat} (hm : m < N) (hi : Inv m l h nx)
  (step : ∀ (m : Nat) (z2 z6 z7 zE zG zH : AV) (h : T Blk) (nx : Pa) (R : Ks Prop), Inv m z6 h nx -> (∀ (m' : Nat) (w2 w6 w7 wF wG wH : AV) (h' : T Blk) (nx' : Pa), m' < m -> Inv m' w6 h' nx' -> R (F20.fr b c w2 d e g w6 w7 q u a i o s v wF wG wH) h' nx' = .ok True) ->
   (sLen b fun v1 => zu .lss .int z6 v1 fun v2 => yA v2 (IR.run F20.b26 C N (((fnO F20.res K0).blk 4 K).blk 5 (IR.run F20.b33 C N ((fnO F20.res K0).blk 4 K) R)) (IR.run F20.b33 C N ((fnO F20.res K0).blk 4 K) R) (F20.fr b c z2 d e g z6 (I 0) q u a i o s v v2 zG zH) h nx) (K (F20.fr b c z2 d e g z6 z7 q u a i o s v v2 zG zH) h nx)) = .ok True) :
  IR.run F20.b20 C N (fnO F20.res K0) K (F20.fr b c f d e g l p q u a i o s v w y z) h nx = .ok True := by
 rw [F20.b20, F20.g20_eq, F20.b21];refine yM (fun m tm h nx => ∃ z2 z6 z7 zE zG zH, tm = (F20.fr b c z2 d e g z6 z7 q u a i o s v zE zG zH) /\ Inv m z6 h nx) ?_ hm ⟨_, _, _, _, _, _, rfl, hi⟩;rintro m tm h nx R ⟨z2, z6, z7, zE, zG, zH, rfl, hi⟩ hR;refine Eq.trans ?_ (step m z2 z6 z7 zE zG zH h nx R hi fun m' w2 w6 w7 wF wG wH h' nx' hlt hi' => hR m' _ h' nx' hlt ⟨_, _, _, _, _, _, rfl, hi'⟩)
 kernel_rfl
theorem F20.k34 : IR.run F20.b34 C N (fnO F20.res K0) K (F20.fr b c f d e g l p q u a i o s v w y z) h nx =
 K0 (I 0) h nx := by kernel_rfl
theorem F20.k33 {E4 : Ks Prop} : IR.run F20.b33 C N ((fnO F20.res K0).blk 4 E4) K (F20.fr b c f d e g l p q u a i o s v w y z) h nx =
 zu .add .int l (I 1) fun v1 => K (F20.fr b c f d e g v1 p q u a i o s v w y z) h nx := by kernel_rfl
theorem F20.L26 {E4 E5 : Ks Prop} (Inv : Nat -> AV -> T Blk -> Pa -> Prop) {m : Nat} (hm : m < N) (hi : Inv m p h nx)
  (step : ∀ (m : Nat) (z2 z7 zG zH : AV) (h : T Blk) (nx : Pa) (R : Ks Prop), Inv m z7 h nx -> (∀ (m' : Nat) (w2 w7 wG wH : AV) (h' : T Blk) (nx' : Pa), m' < m -> Inv m' w7 h' nx' -> R (F20.fr b c w2 d e g l w7 q u a i o s v w wG wH) h' nx' = .ok True) ->
   (sLen b fun v1 => zu .lss .int z7 v1 fun v2 => yA v2 (zS 2 b l fun v3 => zN 2 v3 h fun v4 => zS 2 b z7 fun v5 => zN 2 v5 h fun v6 => C.fn 65 (.of 65) [v4, v6] h nx fun v7 h8 n9 => zM b b (C.fn 84 (.of 84) [b, v7] h8 n9 fun vA hG nG => zu .lss .int vA (I 0) fun vD => yA vD (K0 (I 28) hG nG) (zu .add .int z7 (I 1) fun vE => R (F20.fr b c z2 d e g l vE q u a i o s v w v2 vD) hG nG))) (K (F20.fr b c z2 d e g l z7 q u a i o s v w v2 zH) h nx)) = .ok True) :
  IR.run F20.b26 C N (((fnO F20.res K0).blk 4 E4).blk 5 E5) K (F20.fr b c f d e g l p q u a i o s v w y z) h nx = .ok True := by
 rw [F20.b26, F20.g26_eq, F20.b27];refine yM (fun m tm h nx => ∃ z2 z7 zG zH, tm = (F20.fr b c z2 d e g l z7 q u a i o s v w zG zH) /\ Inv m z7 h nx) ?_ hm ⟨_, _, _, _, rfl, hi⟩;rintro m tm h nx R ⟨z2, z7, zG, zH, rfl, hi⟩ hR;refine Eq.trans ?_ (step m z2 z7 zG zH h nx R hi fun m' w2 w7 wG wH h' nx' hlt hi' => hR m' _ h' nx' hlt ⟨_, _, _, _, rfl, hi'⟩)
 kernel_rfl
theorem F88.bU (X2 : IR) (O : uy Prop) (t : T AV) : IR.run (F88.g1 X2) C N O K t h nx = IR.run X2 C N (O.blk 0 K) K t h nx := by kernel_rfl
theorem F88.tab : T.get none (.of 88) tbl = some F88 := by kernel_rfl
theorem F88.go : zV tbl N C (.of 88) [a0, a1] h nx K0 =
 IR.run F88.b1 C N (fnO F88.res K0) (IR.run F88.b8 C N (fnO F88.res K0) (gu F88.res K0)) (F88.fr a0 a1 (.bool false) (I 0) .undef .undef) h nx := by
 rw [zJ F88.tab]; kernel_rfl
theorem F88.L1 (Inv : Nat -> AV -> T Blk -> Pa -> Prop) {m : Nat} (hm : m < N) (hi : Inv m d h nx)
  (step : ∀ (m : Nat) (z2 z3 z4 z5 : AV) (h : T Blk) (nx : Pa) (R : Ks Prop), Inv m z3 h nx -> (∀ (m' : Nat) (w2 w3 w4 w5 : AV) (h' : T Blk) (nx' : Pa), m' < m -> Inv m' w3 h' nx' -> R (F88.fr b c w2 w3 w4 w5) h' nx' = .ok True) ->
   (sLen b fun v1 => zu .lss .int z3 v1 fun v2 => sG v2 true (fun k => k z3) fun v3 => sG v2 true (fun k => k c) fun v4 => sG v2 true (fun k => sLen v4 k) fun v5 => sG v2 true (fun k => zu .lss .int v3 v5 k) fun v6 => j5 v2 v6 (.bool false) fun v7 => yA v7 ((IR.run F88.b4 C N ((fnO F88.res K0).blk 0 K) R) (F88.fr b c z2 z3 v7 z5) h nx) (K (F88.fr b c z2 z3 v7 z5) h nx)) = .ok True) :
  IR.run F88.b1 C N (fnO F88.res K0) K (F88.fr b c f d e g) h nx = .ok True := by
 rw [F88.b1, F88.bU, F88.b2];refine yM (fun m tm h nx => ∃ z2 z3 z4 z5, tm = (F88.fr b c z2 z3 z4 z5) /\ Inv m z3 h nx) ?_ hm ⟨_, _, _, _, rfl, hi⟩;rintro m tm h nx R ⟨z2, z3, z4, z5, rfl, hi⟩ hR;refine Eq.trans ?_ (step m z2 z3 z4 z5 h nx R hi fun m' w2 w3 w4 w5 h' nx' hlt hi' => hR m' _ h' nx' hlt ⟨_, _, _, _, rfl, hi'⟩)
 kernel_rfl
theorem F88.k8 : IR.run F88.b8 C N (fnO F88.res K0) K (F88.fr b c f d e g) h nx =
 sLen b fun v1 => sLen c fun v2 => zu .lss .int v1 v2 fun v3 => K0 v3 h nx := by kernel_rfl
theorem F88.k4 {E0 : Ks Prop} : IR.run F88.b4 C N ((fnO F88.res K0).blk 0 E0) K (F88.fr b c f d e g) h nx =
 zS 1 b d fun v1 => zF v1 h fun v2 => zS 1 c d fun v3 => zF v3 h fun v4 => zu .neq .int v2 v4 fun v5 => yA v5 (zS 1 b d fun v6 => zF v6 h fun v7 => zS 1 c d fun v8 => zF v8 h fun v9 => zu .lss .int v7 v9 fun vA => K0 vA h nx) (zu .add .int d (I 1) fun vB => K (F88.fr b c f vB e v5) h nx) := by kernel_rfl
theorem jm.bU (X2 : IR) (O : uy Prop) (t : T AV) : IR.run (jm.g1 X2) C N O K t h nx = IR.run X2 C N (O.blk 0 K) K t h nx := by kernel_rfl
theorem jm.tab : T.get none (.of 201) tbl = some jm := by kernel_rfl
theorem jm.go : zV tbl N C (.of 201) [a0, a1] h nx K0 =
 sLen a0 fun v1 => IR.run jm.b1 C N (fnO jm.res K0) (IR.run jm.b9 C N (fnO jm.res K0) (gu jm.res K0)) (jm.fr a0 a1 (I 0) .undef .undef .undef .undef a0 v1 (I 0) .undef .undef .undef .undef) h nx := by
 rw [zJ jm.tab]; kernel_rfl
theorem jm.L1 (Inv : Nat -> AV -> T Blk -> Pa -> Prop) {m : Nat} (hm : m < N) (hi : Inv m u h nx)
  (step : ∀ (m : Nat) (z2 z3 z4 z5 z6 z9 zI zA zB : AV) (h : T Blk) (nx : Pa) (R : Ks Prop), Inv m z9 h nx -> (∀ (m' : Nat) (w2 w3 w4 w5 w6 w9 wI wB wC : AV) (h' : T Blk) (nx' : Pa), m' < m -> Inv m' w9 h' nx' -> R (jm.fr b c w2 w3 w4 w5 w6 p q w9 wI wB wC s) h' nx' = .ok True) ->
   (zu .lss .int z9 q fun v1 => yA v1 (zS 1 p z9 fun v2 => zF v2 h fun v3 => sLen c fun v4 => zu .geq .int z9 v4 fun v5 => yA v5 (K0 (I 1) h nx) (zS 1 c z9 fun v6 => zF v6 h fun v7 => C.fn 244 (.of 244) [v3, v7] h nx fun v8 h9 nH => zu .neq .int v8 (I 0) fun vB => yA vB (K0 v8 h9 nH) (zu .add .int z9 (I 1) fun vC => R (jm.fr b c z2 z9 v3 v7 v8 p q vC v1 v5 vB s) h9 nH))) (K (jm.fr b c z2 z3 z4 z5 z6 p q z9 v1 zA zB s) h nx)) = .ok True) :
  IR.run jm.b1 C N (fnO jm.res K0) K (jm.fr b c f d e g l p q u a i o s) h nx = .ok True := by
 rw [jm.b1, jm.bU, jm.b2];refine yM (fun m tm h nx => ∃ z2 z3 z4 z5 z6 z9 zI zA zB, tm = (jm.fr b c z2 z3 z4 z5 z6 p q z9 zI zA zB s) /\ Inv m z9 h nx) ?_ hm ⟨_, _, _, _, _, _, _, _, _, rfl, hi⟩;rintro m tm h nx R ⟨z2, z3, z4, z5, z6, z9, zI, zA, zB, rfl, hi⟩ hR;refine Eq.trans ?_ (step m z2 z3 z4 z5 z6 z9 zI zA zB h nx R hi fun m' w2 w3 w4 w5 w6 w9 wI wB wC h' nx' hlt hi' => hR m' _ h' nx' hlt ⟨_, _, _, _, _, _, _, _, _, rfl, hi'⟩)
 kernel_rfl
theorem jm.k9 : IR.run jm.b9 C N (fnO jm.res K0) K (jm.fr b c f d e g l p q u a i o s) h nx =
 sLen b fun v1 => sLen c fun v2 => zu .lss .int v1 v2 fun v3 => yA v3 (K0 (I (-1)) h nx) (K0 (I 0) h nx) := by kernel_rfl
theorem bZ.tab : T.get none (.of 244) tbl = some bZ := by kernel_rfl
theorem bZ.go : zV tbl N C (.of 244) [a0, a1] h nx K0 =
 C.fn 250 (.of 250) [a0] h nx fun v1 h2 n3 => C.fn 250 (.of 250) [a1] h2 n3 fun v4 h5 n6 => yA v1 (yA v4 (K0 (I 0) h5 n6) (K0 (I (-1)) h5 n6)) (yA v4 (K0 (I 1) h5 n6) (zu .lss .int a0 a1 fun v7 => yA v7 (K0 (I (-1)) h5 n6) (zu .gtr .int a0 a1 fun v8 => yA v8 (K0 (I 1) h5 n6) (K0 (I 0) h5 n6)))) := by
 rw [zJ bZ.tab]; kernel_rfl
theorem F250.tab : T.get none (.of 250) tbl = some F250 := by kernel_rfl
theorem F250.go : zV tbl N C (.of 250) [a0] h nx K0 =
 zu .neq .int a0 a0 fun v1 => K0 v1 h nx := by
 rw [zJ F250.tab]; kernel_rfl
theorem F97.bU (X2 : IR) (O : uy Prop) (t : T AV) : IR.run (F97.g1 X2) C N O K t h nx = IR.run X2 C N (O.blk 0 K) K t h nx := by kernel_rfl
theorem F97.tab : T.get none (.of 97) tbl = some F97 := by kernel_rfl
theorem F97.go : zV tbl N C (.of 97) [a0, a1] h nx K0 =
 sLen a0 fun v1 => IR.run F97.b1 C N (fnO F97.res K0) (IR.run F97.b8 C N (fnO F97.res K0) (gu F97.res K0)) (F97.fr a0 a1 (I 0) .undef .undef a0 v1 (I 0) .undef .undef) h nx := by
 rw [zJ F97.tab]; kernel_rfl
theorem F97.L1 (Inv : Nat -> AV -> T Blk -> Pa -> Prop) {m : Nat} (hm : m < N) (hi : Inv m p h nx)
  (step : ∀ (m : Nat) (z2 z3 z4 z7 z8 z9 : AV) (h : T Blk) (nx : Pa) (R : Ks Prop), Inv m z7 h nx -> (∀ (m' : Nat) (w2 w3 w4 w7 w8 w9 : AV) (h' : T Blk) (nx' : Pa), m' < m -> Inv m' w7 h' nx' -> R (F97.fr b c w2 w3 w4 g l w7 w8 w9) h' nx' = .ok True) ->
   (zu .lss .int z7 l fun v1 => yA v1 (zS 2 g z7 fun v2 => zN 2 v2 h fun v3 => yN [.zf, (.bool false)] h nx fun v4 h5 n6 => zO 2 v4 v3 h5 n6 fun v7 h8 n9 => zN 2 v4 h8 fun vA => C.fn 56 (.of 56) [vA, c] h8 n9 fun vB hB nB => zu .neq .int vB (I 0) fun vE => yA vE (K0 vB hB nB) (zu .add .int z7 (I 1) fun vF => R (F97.fr b c z2 v4 vB g l vF v1 vE) hB nB)) (K (F97.fr b c z2 z3 z4 g l z7 v1 z9) h nx)) = .ok True) :
  IR.run F97.b1 C N (fnO F97.res K0) K (F97.fr b c f d e g l p q u) h nx = .ok True := by
 rw [F97.b1, F97.bU, F97.b2];refine yM (fun m tm h nx => ∃ z2 z3 z4 z7 z8 z9, tm = (F97.fr b c z2 z3 z4 g l z7 z8 z9) /\ Inv m z7 h nx) ?_ hm ⟨_, _, _, _, _, _, rfl, hi⟩;rintro m tm h nx R ⟨z2, z3, z4, z7, z8, z9, rfl, hi⟩ hR;refine Eq.trans ?_ (step m z2 z3 z4 z7 z8 z9 h nx R hi fun m' w2 w3 w4 w7 w8 w9 h' nx' hlt hi' => hR m' _ h' nx' hlt ⟨_, _, _, _, _, _, rfl, hi'⟩)
 kernel_rfl
theorem F97.k8 : IR.run F97.b8 C N (fnO F97.res K0) K (F97.fr b c f d e g l p q u) h nx =
 K0 (I 0) h nx := by kernel_rfl
theorem F90.tab : T.get none (.of 90) tbl = some F90 := by kernel_rfl
theorem F90.go : zV tbl N C (.of 90) [a0] h nx K0 =
 sBox a0 h nx fun v1 h2 n3 => K0 (.fn 159 (.of 159) [v1]) h2 n3 := by
 rw [zJ F90.tab]; kernel_rfl
theorem cu.tab : T.get none (.of 162) tbl = some cu := by kernel_rfl
theorem cu.go : zV tbl N C (.of 162) [a0, a1] h nx K0 =
 sBox a0 h nx fun v1 h2 n3 => sBox a1 h2 n3 fun v4 h5 n6 => zW 0 v1 fun v7 => zF v7 h5 fun v8 => zW 0 v4 fun v9 => zF v9 h5 fun vA => C.fn 201 (.of 201) [v8, vA] h5 n6 fun vB hB nB => zu .neq .int vB (I 0) fun vE => sG vE false (fun k => zW 1 v1 k) fun vF => sG vE false (fun k => zF vF hB k) fun vG => sG vE false (fun k => zW 1 v4 k) fun vH => sG vE false (fun k => zF vH hB k) fun vI => sG vE false (fun k => zu .eql .bool vG vI k) fun vJ => j5 vE (.bool true) vJ fun vK => yA vK (K0 vB hB nB) ((IR.run cu.b1 C N (fnO cu.res K0) (gu cu.res K0)) (cu.fr a0 a1 v1 v4 (I 0) vB vK .undef) hB nB) := by
 rw [zJ cu.tab]; kernel_rfl
theorem cu.k1 : IR.run cu.b1 C N (fnO cu.res K0) K (cu.fr b c f d e g l p) h nx =
 zW 1 f fun v1 => zF v1 h fun v2 => yA v2 (K0 (I 1) h nx) (K0 (I (-1)) h nx) := by kernel_rfl
theorem F56.tab : T.get none (.of 56) tbl = some F56 := by kernel_rfl
theorem F56.go : zV tbl N C (.of 56) [a0, a1] h nx K0 =
 sBox a0 h nx fun v1 h2 n3 => zW 0 v1 fun v4 => zF v4 h2 fun v5 => sLen v5 fun v6 => zu .neq .int v6 a1 fun v7 => zW 0 v1 fun v8 => zF v8 h2 fun v9 => C.fn 95 (.of 95) [a1] h2 n3 fun vA hG nG => (zF v8 hG fun vV => zM vV v9 ((zW 0 v1 fun vW => zM vW v8 ((zu .neq .int v6 a1 fun vX => zM vX v7 (zM a1 a1 ((sLen v5 fun vY => zM vY v6 ((zF v4 hG fun vZ => zM vZ v5 ((zW 0 v1 fun vP => zM vP v4 (C.fn 96 (.of 96) [v7, (I 2)] hG nG fun vD hH nI => (zF v8 hH fun vQ => zM vQ v9 ((zW 0 v1 fun vR => zM vR v8 (C.fn 140 (.of 140) [v9] hH nI fun vG hF nF => sNot vG fun vJ => C.fn 96 (.of 96) [vJ, (I 14)] hF nF fun vK hI nJ => jD 1 3 [(I 0)] [(0, 1, vA), (1, 1, vD), (2, 1, vK)] hI nJ fun vN hE nE => C.fn 94 (.of 94) [vN] hE nE fun vU hJ nK => K0 vU hJ nK))))))))))))))))) := by
 rw [zJ F56.tab]; kernel_rfl
theorem qi.bU (X2 : IR) (O : uy Prop) (t : T AV) : IR.run (qi.g1 X2) C N O K t h nx = IR.run X2 C N (O.blk 0 K) K t h nx := by kernel_rfl
theorem qi.tab : T.get none (.of 159) tbl = some qi := by kernel_rfl
theorem qi.go : zV tbl N C (.of 159) [a0, a1] h nx K0 =
 zF a1 h fun v1 => sLen v1 fun v2 => IR.run qi.b1 C N (fnO qi.res K0) (gu qi.res K0) (qi.fr a0 a1 .undef .undef v1 v2 (I 0) .undef .undef) h nx := by
 rw [zJ qi.tab]; kernel_rfl
theorem qi.L1 (Inv : Nat -> AV -> T Blk -> Pa -> Prop) {m : Nat} (hm : m < N) (hi : Inv m l h nx)
  (step : ∀ (m : Nat) (z2 z3 z6 z7 z8 : AV) (h : T Blk) (nx : Pa) (R : Ks Prop), Inv m z6 h nx -> (∀ (m' : Nat) (w2 w3 w6 w7 w8 : AV) (h' : T Blk) (nx' : Pa), m' < m -> Inv m' w6 h' nx' -> R (qi.fr b c w2 w3 e g w6 w7 w8) h' nx' = .ok True) ->
   (zu .lss .int z6 g fun v1 => yA v1 (zS 2 e z6 fun v2 => zN 2 v2 h fun v3 => yN [.zf, (.bool false)] h nx fun v4 h5 n6 => zO 2 v4 v3 h5 n6 fun v7 h8 n9 => zN 2 v4 h8 fun vA => mT C b [z6, vA] h8 n9 fun vB hB nB => sNot vB fun vE => yA vE (K0 (.tup []) hB nB) (zu .add .int z6 (I 1) fun vF => R (qi.fr b c z6 v4 e g vF v1 vE) hB nB)) (K (qi.fr b c z2 z3 e g z6 v1 z8) h nx)) = .ok True) :
  IR.run qi.b1 C N (fnO qi.res K0) K (qi.fr b c f d e g l p q) h nx = .ok True := by
 rw [qi.b1, qi.bU, qi.b2];refine yM (fun m tm h nx => ∃ z2 z3 z6 z7 z8, tm = (qi.fr b c z2 z3 e g z6 z7 z8) /\ Inv m z6 h nx) ?_ hm ⟨_, _, _, _, _, rfl, hi⟩;rintro m tm h nx R ⟨z2, z3, z6, z7, z8, rfl, hi⟩ hR;refine Eq.trans ?_ (step m z2 z3 z6 z7 z8 h nx R hi fun m' w2 w3 w6 w7 w8 h' nx' hlt hi' => hR m' _ h' nx' hlt ⟨_, _, _, _, _, rfl, hi'⟩)
 kernel_rfl
theorem ug.bU (X2 : IR) (O : uy Prop) (t : T AV) : IR.run (ug.g1 X2) C N O K t h nx = IR.run X2 C N (O.blk 0 K) K t h nx := by kernel_rfl
theorem ug.tab : T.get none (.of 163) tbl = some ug := by kernel_rfl
theorem ug.go : zV tbl N C (.of 163) [a0] h nx K0 =
 yN [.zf, (.bool false)] h nx fun v1 h2 n3 => uS 1 8 [(I 0)] a0 a0 h2 n3 fun v4 h5 n6 => kV [.zf, (.bool false)] [(0, 1, v4)] fun v7 => yN [.zf, (.bool false)] h5 n6 fun v8 h9 nH => zO 2 v8 v7 h9 nH fun vB hB nB => zW 0 v8 fun vE => zF vE hB fun vF => sLen vF fun vG => IR.run ug.b1 C N (fnO ug.res K0) (IR.run ug.b8 C N (fnO ug.res K0) (gu ug.res K0)) (ug.fr a0 v1 v8 .undef vG (I 0) .undef) hB nB := by
 rw [zJ ug.tab]; kernel_rfl
theorem ug.L1 (Inv : Nat -> AV -> T Blk -> Pa -> Prop) {m : Nat} (hm : m < N) (hi : Inv m g h nx)
  (step : ∀ (m : Nat) (z3 z5 z6 : AV) (h : T Blk) (nx : Pa) (R : Ks Prop), Inv m z5 h nx -> (∀ (m' : Nat) (w3 w5 w6 : AV) (h' : T Blk) (nx' : Pa), m' < m -> Inv m' w5 h' nx' -> R (ug.fr b c f w3 e w5 w6) h' nx' = .ok True) ->
   (zu .lss .int z5 e fun v1 => yA v1 (zW 0 f fun v2 => zF v2 h fun v3 => zS 1 v3 z5 fun v4 => zO 1 v4 z5 h nx fun v5 h6 n7 => zu .add .int z5 (I 1) fun v8 => R (ug.fr b c f z5 e v8 v1) h6 n7) (K (ug.fr b c f z3 e z5 v1) h nx)) = .ok True) :
  IR.run ug.b1 C N (fnO ug.res K0) K (ug.fr b c f d e g l) h nx = .ok True := by
 rw [ug.b1, ug.bU, ug.b2];refine yM (fun m tm h nx => ∃ z3 z5 z6, tm = (ug.fr b c f z3 e z5 z6) /\ Inv m z5 h nx) ?_ hm ⟨_, _, _, rfl, hi⟩;rintro m tm h nx R ⟨z3, z5, z6, rfl, hi⟩ hR;refine Eq.trans ?_ (step m z3 z5 z6 h nx R hi fun m' w3 w5 w6 h' nx' hlt hi' => hR m' _ h' nx' hlt ⟨_, _, _, rfl, hi'⟩)
 kernel_rfl
theorem ug.k8 : IR.run ug.b8 C N (fnO ug.res K0) K (ug.fr b c f d e g l) h nx =
 zN 2 f h fun v1 => zO 2 c v1 h nx fun v2 h3 n4 => zN 2 c h3 fun v5 => K0 v5 h3 n4 := by kernel_rfl
theorem gq.bU (X2 : IR) (O : uy Prop) (t : T AV) : IR.run (gq.g1 X2) C N O K t h nx = IR.run X2 C N (O.blk 0 K) K t h nx := by kernel_rfl
theorem gq.tab : T.get none (.of 123) tbl = some gq := by kernel_rfl
theorem gq.go : zV tbl N C (.of 123) [a0] h nx K0 =
 sBox a0 h nx fun v1 h2 n3 => zW 0 v1 fun v4 => zF v4 h2 fun v5 => sLen v5 fun v6 => zu .add .int v6 (I 1) fun v7 => uS 1 1 [(.int .u8 0)] (I 0) v7 h2 n3 fun v8 h9 nH => zW 0 v1 fun vB => zF vB h9 fun vC => sLen vC fun vD => IR.run gq.b1 C N (fnO gq.res K0) (IR.run gq.b8 C N (fnO gq.res K0) (gu gq.res K0)) (gq.fr a0 v1 (.str []) v8 .undef vC vD (I 0) .undef .undef) h9 nH := by
 rw [zJ gq.tab]; kernel_rfl
theorem gq.L1 (Inv : Nat -> AV -> AV -> T Blk -> Pa -> Prop) {m : Nat} (hm : m < N) (hi : Inv m d p h nx)
  (step : ∀ (m : Nat) (z3 z4 z7 z8 : AV) (h : T Blk) (nx : Pa) (R : Ks Prop), Inv m z3 z7 h nx -> (∀ (m' : Nat) (w3 w4 w7 w8 : AV) (h' : T Blk) (nx' : Pa), m' < m -> Inv m' w3 w7 h' nx' -> R (gq.fr b c f w3 w4 g l w7 w8 u) h' nx' = .ok True) ->
   (zu .lss .int z7 l fun v1 => yA v1 (zS 1 g z7 fun v2 => zF v2 h fun v3 => sConv .u8 v3 fun v4 => jD 1 1 [(.int .u8 0)] [(0, 1, v4)] h nx fun v5 h6 n7 => sApp 1 1 z3 v5 h6 n7 fun v8 h9 nH => zu .add .int z7 (I 1) fun vB => R (gq.fr b c f v8 v3 g l vB v1 u) h9 nH) (K (gq.fr b c f z3 z4 g l z7 v1 u) h nx)) = .ok True) :
  IR.run gq.b1 C N (fnO gq.res K0) K (gq.fr b c f d e g l p q u) h nx = .ok True := by
 rw [gq.b1, gq.bU, gq.b2];refine yM (fun m tm h nx => ∃ z3 z4 z7 z8, tm = (gq.fr b c f z3 z4 g l z7 z8 u) /\ Inv m z3 z7 h nx) ?_ hm ⟨_, _, _, _, rfl, hi⟩;rintro m tm h nx R ⟨z3, z4, z7, z8, rfl, hi⟩ hR;refine Eq.trans ?_ (step m z3 z4 z7 z8 h nx R hi fun m' w3 w4 w7 w8 h' nx' hlt hi' => hR m' _ h' nx' hlt ⟨_, _, _, _, rfl, hi'⟩)
 kernel_rfl
theorem gq.k8 : IR.run gq.b8 C N (fnO gq.res K0) K (gq.fr b c f d e g l p q u) h nx =
 zW 1 c fun v1 => zF v1 h fun v2 => yA v2 (jD 1 1 [(.int .u8 0)] [(0, 1, (.int .u8 1))] h nx fun v3 h4 n5 => sApp 1 1 d v3 h4 n5 fun v6 h7 n8 => sB2s v6 h7 fun v9 => K0 v9 h7 n8) (sB2s d h fun vA => K0 vA h nx) := by kernel_rfl
theorem F121.tab : T.get none (.of 121) tbl = some F121 := by kernel_rfl
theorem F121.go : zV tbl N C (.of 121) [a0, a1] h nx K0 =
 sBox a1 h nx fun v1 h2 n3 => zN 2 v1 h2 fun v4 => C.fn 123 (.of 123) [v4] h2 n3 fun v5 h6 n7 => sLook .str (.agg [.zf, (.bool false)]) true a0 v5 h6 fun v8 => xq 0 v8 fun v9 => xq 1 v8 fun vA => yN [.zf, (.bool false)] h6 n7 fun vB hB nB => zO 2 vB v9 hB nB fun vE hA nA => K0 vA hA nA := by
 rw [zJ F121.tab]; kernel_rfl
theorem uh.bU (X2 : IR) (O : uy Prop) (t : T AV) : IR.run (uh.g1 X2) C N O K t h nx = IR.run X2 C N (O.blk 0 K) K t h nx := by kernel_rfl
theorem uh.tab : T.get none (.of 122) tbl = some uh := by kernel_rfl
theorem uh.go : zV tbl N C (.of 122) [a0, a1] h nx K0 =
 sBox a0 h nx fun v1 h2 n3 => sBox a1 h2 n3 fun v4 h5 n6 => yN [.zf, (.bool false)] h5 n6 fun v7 h8 n9 => sChk (true && true) (zW 0 v4 fun vA => zF vA h8 fun vB => sLen vB fun vC => sChk (mkSl 8 vC vC && true) (zW 1 v1 fun vD => zF vD h8 fun vE => zW 1 v4 fun vF => zF vF h8 fun vG => zu .neq .bool vE vG fun vH => uS 1 8 [(I 0)] vC vC h8 n9 fun vI hK nL => (zu .neq .bool vE vG fun v47 => zM v47 vH ((zF vF hK fun v46 => zM v46 vG ((zW 1 v4 fun v45 => zM v45 vF ((zF vD hK fun v44 => zM v44 vE ((zW 1 v1 fun v43 => zM v43 vD ((sLen vB fun v42 => zM v42 vC ((zF vA hK fun v41 => zM v41 vB ((zW 0 v4 fun v40 => zM v40 vA (kV [.zf, (.bool false)] [(0, 1, vI), (1, 1, vH)] fun vL => yN [.zf, (.bool false)] hK nL fun vM hL nM => (kV [.zf, (.bool false)] [(0, 1, vI), (1, 1, vH)] fun v39 => zM v39 vL ((zu .neq .bool vE vG fun v38 => zM v38 vH ((zF vF hL fun v37 => zM v37 vG ((zW 1 v4 fun vV => zM vV vF ((zF vD hL fun vW => zM vW vE ((zW 1 v1 fun vX => zM vX vD ((sLen vB fun vY => zM vY vC ((zF vA hL fun vZ => zM vZ vB ((zW 0 v4 fun vP => zM vP vA (zO 2 vM vL hL nM fun v25 hM nN => zW 0 v4 fun vS => zF vS hM fun vR => sLen vR fun vQ => IR.run uh.b1 C N (fnO uh.res K0) (IR.run uh.b8 C N (fnO uh.res K0) (gu uh.res K0)) (uh.fr a0 a1 v1 v4 v7 vM .undef .undef vR vQ (I 0) .undef) hM nN)))))))))))))))))))))))))))))))))))) := by
 rw [zJ uh.tab]; kernel_rfl
theorem uh.L1 (Inv : Nat -> AV -> T Blk -> Pa -> Prop) {m : Nat} (hm : m < N) (hi : Inv m a h nx)
  (step : ∀ (m : Nat) (z6 z7 zI zA : AV) (h : T Blk) (nx : Pa) (R : Ks Prop), Inv m zI h nx -> (∀ (m' : Nat) (w6 w7 wI wB : AV) (h' : T Blk) (nx' : Pa), m' < m -> Inv m' wI h' nx' -> R (uh.fr b c f d e g w6 w7 q u wI wB) h' nx' = .ok True) ->
   (zu .lss .int zI u fun v1 => yA v1 (zS 1 q zI fun v2 => zF v2 h fun v3 => zW 0 g fun v4 => zF v4 h fun v5 => zW 0 f fun v6 => zF v6 h fun v7 => zS 1 v7 v3 fun v8 => zF v8 h fun v9 => zS 1 v5 zI fun vA => zO 1 vA v9 h nx fun vB hB nB => zu .add .int zI (I 1) fun vE => R (uh.fr b c f d e g zI v3 q u vE v1) hB nB) (K (uh.fr b c f d e g z6 z7 q u zI v1) h nx)) = .ok True) :
  IR.run uh.b1 C N (fnO uh.res K0) K (uh.fr b c f d e g l p q u a i) h nx = .ok True := by
 rw [uh.b1, uh.bU, uh.b2];refine yM (fun m tm h nx => ∃ z6 z7 zI zA, tm = (uh.fr b c f d e g z6 z7 q u zI zA) /\ Inv m zI h nx) ?_ hm ⟨_, _, _, _, rfl, hi⟩;rintro m tm h nx R ⟨z6, z7, zI, zA, rfl, hi⟩ hR;refine Eq.trans ?_ (step m z6 z7 zI zA h nx R hi fun m' w6 w7 wI wB h' nx' hlt hi' => hR m' _ h' nx' hlt ⟨_, _, _, _, rfl, hi'⟩)
 kernel_rfl
theorem uh.k8 : IR.run uh.b8 C N (fnO uh.res K0) K (uh.fr b c f d e g l p q u a i) h nx =
 zN 2 g h fun v1 => zO 2 e v1 h nx fun v2 h3 n4 => zN 2 e h3 fun v5 => K0 v5 h3 n4 := by kernel_rfl
theorem F140.tab : T.get none (.of 140) tbl = some F140 := by kernel_rfl
theorem F140.go : zV tbl N C (.of 140) [a0] h nx K0 =
 C.fn 198 (.of 198) [a0] h nx fun v1 h2 n3 => zu .eql .int v1 (I 0) fun v4 => K0 v4 h2 n3 := by
 rw [zJ F140.tab]; kernel_rfl
theorem jf.g2_eq (X3 : IR) (O : uy Prop) (t : T AV) : IR.run (jf.g2 X3) C N O K t h nx = IR.run X3 C N (O.blk 0 K) K t h nx := by kernel_rfl
theorem jf.tab : T.get none (.of 198) tbl = some jf := by kernel_rfl
theorem jf.go : zV tbl N C (.of 198) [a0] h nx K0 =
 sLen a0 fun v1 => zu .gtr .int v1 (I 256) fun v2 => yA v2 (K0 (I 5) h nx) (sLen a0 fun v3 => uS 1 1 [(.bool false)] v3 v3 h nx fun v4 h5 n6 => sLen a0 fun v7 => IR.run jf.b2 C N (fnO jf.res K0) (IR.run jf.b10 C N (fnO jf.res K0) (gu jf.res K0)) (jf.fr a0 (I 0) v4 .undef v2 a0 v7 (I 0) .undef .undef) h5 n6) := by
 rw [zJ jf.tab]; kernel_rfl
theorem jf.L2 (Inv : Nat -> AV -> T Blk -> Pa -> Prop) {m : Nat} (hm : m < N) (hi : Inv m p h nx)
  (step : ∀ (m : Nat) (z1 z3 z7 z8 z9 : AV) (h : T Blk) (nx : Pa) (R : Ks Prop), Inv m z7 h nx -> (∀ (m' : Nat) (w1 w3 w7 w8 w9 : AV) (h' : T Blk) (nx' : Pa), m' < m -> Inv m' w7 h' nx' -> R (jf.fr b w1 f w3 e g l w7 w8 w9) h' nx' = .ok True) ->
   (zu .lss .int z7 l fun v1 => yA v1 (zS 1 g z7 fun v2 => zF v2 h fun v3 => zu .lss .int v3 (I 0) fun v4 => sG v4 false (fun k => k v3) fun v5 => sG v4 false (fun k => k b) fun v6 => sG v4 false (fun k => sLen v6 k) fun v7 => sG v4 false (fun k => zu .geq .int v5 v7 k) fun v8 => j5 v4 (.bool true) v8 fun v9 => sG v9 false (fun k => k f) fun vA => sG v9 false (fun k => k v3) fun vB => sG v9 false (fun k => zS 1 vA vB k) fun vC => sG v9 false (fun k => zF vC h k) fun vD => j5 v9 (.bool true) vD fun vE => yA vE (K0 (I 14) h nx) ((IR.run jf.b8 C N (((fnO jf.res K0).blk 0 K).blk 1 (IR.run jf.b9 C N ((fnO jf.res K0).blk 0 K) R)) (IR.run jf.b9 C N ((fnO jf.res K0).blk 0 K) R)) (jf.fr b z1 f v3 e g l z7 v1 vE) h nx)) (K (jf.fr b z1 f z3 e g l z7 v1 z9) h nx)) = .ok True) :
  IR.run jf.b2 C N (fnO jf.res K0) K (jf.fr b c f d e g l p q u) h nx = .ok True := by
 rw [jf.b2, jf.g2_eq, jf.b3];refine yM (fun m tm h nx => ∃ z1 z3 z7 z8 z9, tm = (jf.fr b z1 f z3 e g l z7 z8 z9) /\ Inv m z7 h nx) ?_ hm ⟨_, _, _, _, _, rfl, hi⟩;rintro m tm h nx R ⟨z1, z3, z7, z8, z9, rfl, hi⟩ hR;refine Eq.trans ?_ (step m z1 z3 z7 z8 z9 h nx R hi fun m' w1 w3 w7 w8 w9 h' nx' hlt hi' => hR m' _ h' nx' hlt ⟨_, _, _, _, _, rfl, hi'⟩)
 kernel_rfl
theorem jf.k10 : IR.run jf.b10 C N (fnO jf.res K0) K (jf.fr b c f d e g l p q u) h nx =
 K0 (I 0) h nx := by kernel_rfl
theorem jf.k9 {E0 : Ks Prop} : IR.run jf.b9 C N ((fnO jf.res K0).blk 0 E0) K (jf.fr b c f d e g l p q u) h nx =
 zu .add .int p (I 1) fun v1 => K (jf.fr b c f d e g l v1 q u) h nx := by kernel_rfl
theorem jf.k8 {E0 E1 : Ks Prop} : IR.run jf.b8 C N (((fnO jf.res K0).blk 0 E0).blk 1 E1) K (jf.fr b c f d e g l p q u) h nx =
 zS 1 f d fun v1 => zO 1 v1 (.bool true) h nx fun v2 h3 n4 => K (jf.fr b c f d e g l p q u) h3 n4 := by kernel_rfl
theorem F94.bU (X2 : IR) (O : uy Prop) (t : T AV) : IR.run (F94.g1 X2) C N O K t h nx = IR.run X2 C N (O.blk 0 K) K t h nx := by kernel_rfl
theorem F94.tab : T.get none (.of 94) tbl = some F94 := by kernel_rfl
theorem F94.go : zV tbl N C (.of 94) [a0] h nx K0 =
 sLen a0 fun v1 => IR.run F94.b1 C N (fnO F94.res K0) (IR.run F94.b8 C N (fnO F94.res K0) (gu F94.res K0)) (F94.fr a0 (I 0) .undef a0 v1 (I 0) .undef .undef) h nx := by
 rw [zJ F94.tab]; kernel_rfl
theorem F94.L1 (Inv : Nat -> AV -> T Blk -> Pa -> Prop) {m : Nat} (hm : m < N) (hi : Inv m g h nx)
  (step : ∀ (m : Nat) (z1 z2 z5 z6 z7 : AV) (h : T Blk) (nx : Pa) (R : Ks Prop), Inv m z5 h nx -> (∀ (m' : Nat) (w1 w2 w5 w6 w7 : AV) (h' : T Blk) (nx' : Pa), m' < m -> Inv m' w5 h' nx' -> R (F94.fr b w1 w2 d e w5 w6 w7) h' nx' = .ok True) ->
   (zu .lss .int z5 e fun v1 => yA v1 (zS 1 d z5 fun v2 => zF v2 h fun v3 => zu .neq .int v3 (I 0) fun v4 => yA v4 (K0 v3 h nx) (zu .add .int z5 (I 1) fun v5 => R (F94.fr b z1 v3 d e v5 v1 v4) h nx)) (K (F94.fr b z1 z2 d e z5 v1 z7) h nx)) = .ok True) :
  IR.run F94.b1 C N (fnO F94.res K0) K (F94.fr b c f d e g l p) h nx = .ok True := by
 rw [F94.b1, F94.bU, F94.b2];refine yM (fun m tm h nx => ∃ z1 z2 z5 z6 z7, tm = (F94.fr b z1 z2 d e z5 z6 z7) /\ Inv m z5 h nx) ?_ hm ⟨_, _, _, _, _, rfl, hi⟩;rintro m tm h nx R ⟨z1, z2, z5, z6, z7, rfl, hi⟩ hR;refine Eq.trans ?_ (step m z1 z2 z5 z6 z7 h nx R hi fun m' w1 w2 w5 w6 w7 h' nx' hlt hi' => hR m' _ h' nx' hlt ⟨_, _, _, _, _, rfl, hi'⟩)
 kernel_rfl
theorem F94.k8 : IR.run F94.b8 C N (fnO F94.res K0) K (F94.fr b c f d e g l p) h nx =
 K0 (I 0) h nx := by kernel_rfl
theorem F95.tab : T.get none (.of 95) tbl = some F95 := by kernel_rfl
theorem F95.go : zV tbl N C (.of 95) [a0] h nx K0 =
 zu .lss .int a0 (I 0) fun v1 => sG v1 false (fun k => k a0) fun v2 => sG v1 false (fun k => zu .gtr .int v2 (I 256) k) fun v3 => j5 v1 (.bool true) v3 fun v4 => C.fn 96 (.of 96) [v4, (I 3)] h nx fun v5 h6 n7 => K0 v5 h6 n7 := by
 rw [zJ F95.tab]; kernel_rfl
theorem F96.tab : T.get none (.of 96) tbl = some F96 := by kernel_rfl
theorem F96.go : zV tbl N C (.of 96) [a0, a1] h nx K0 =
 yA a0 (K0 a1 h nx) (K0 (I 0) h nx) := by
 rw [zJ F96.tab]; kernel_rfl
theorem F98.g13_eq (X14 : IR) (O : uy Prop) (t : T AV) : IR.run (F98.g13 X14) C N O K t h nx = IR.run X14 C N (O.blk 4 K) K t h nx := by kernel_rfl
theorem F98.g7_eq (X8 : IR) (O : uy Prop) (t : T AV) : IR.run (F98.g7 X8) C N O K t h nx = IR.run X8 C N (O.blk 2 K) K t h nx := by kernel_rfl
theorem F98.tab : T.get none (.of 98) tbl = some F98 := by kernel_rfl
theorem F98.go : zV tbl N C (.of 98) [a0, a1, a2] h nx K0 =
 sBox a2 h nx fun v1 h2 n3 => yN [.jv] h2 n3 fun v4 h5 n6 => yN [.zf] h5 n6 fun v7 h8 n9 => yN [(.bool false)] h8 n9 fun vA hG nG => C.fn 163 (.of 163) [a1] hG nG fun vD hH nI => yN [.zf, (.bool false)] hH nI fun vG hF nF => zO 2 vG vD hF nF fun vJ hD nD => sChk (true && (true && true)) (zN 2 vG hD fun vM => zN 2 vG hD fun vN => C.fn 123 (.of 123) [vM] hD nD fun vO hC nC => (zN 2 vG hC fun v52 => zM v52 vN ((zN 2 vG hC fun v51 => zM v51 vM (sMkmap hC nC fun vT hN nO => (zN 2 vG hN fun v50 => zM v50 vN ((zN 2 vG hN fun v49 => zM v49 vM (pY .str vT vO vN hN nO fun vQ hO nP => (zN 2 vG hO fun v48 => zM v48 vN ((zN 2 vG hO fun v47 => zM v47 vM (yN [.jv] hO nP fun vY hP nQ => zM vT vT ((zN 2 vG hP fun v46 => zM v46 vN ((zN 2 vG hP fun v45 => zM v45 vM (zO 1 vY vT hP nQ fun vV hQ nR => yN [.zf] hQ nR fun v39 hS nS => C.fn 90 (.of 90) [a0] hS nS fun v42 hT nT => IR.run (.rf (.t (.of 14)) [(.of 15), (.of 16)] F98.b3 F98.b4) C N ((fnO F98.res K0).blk 0 (IR.run F98.b23 C N (fnO F98.res K0) (gu F98.res K0))) (IR.run F98.b23 C N (fnO F98.res K0) (gu F98.res K0)) (F98.fr a0 a1 a2 v1 v4 v7 vA vG vY v39 .undef .undef .undef .undef v42 .undef .undef .undef .undef .undef .undef .undef .undef .undef .undef) hT nT)))))))))))))))))) := by
 rw [zJ F98.tab]; kernel_rfl
theorem F98.k23 : IR.run F98.b23 C N (fnO F98.res K0) K (F98.fr b c f d e g l p q u a i o s v w y z A B D E F G H) h nx =
 zF q h fun v1 => zF u h fun v2 => zO 1 e v1 h nx fun v3 h4 n5 => (zF u h4 fun vF => zM vF v2 (zO 1 g v2 h4 n5 fun v6 h7 n8 => zO 1 l (.bool true) h7 n8 fun v9 hU nU => zF e hU fun vC => zF g hU fun vD => zF l hU fun vE => K0 (.tup [vC, vD, vE]) hU nU)) := by kernel_rfl
theorem F98.p4 {N : Nat} {C : Calls Prop} {K0 : Kw Prop} {id nx : Pa} {j : Jump} {h : T Blk} {b c f d e g l p q u a i o s v w y z A B D E F G H z0 z1 : AV} (hl : T.get .no id h = .loop .ready j (F98.fr b c f d e g l p q u a i o s v w y z A B D E F G H) [.of 15, .of 16] F98.b3 F98.b4) :
 wA N C id [z0, z1] h nx K0 =
 yN [.zf, (.bool false)] h nx fun v1 h2 n3 => zO 2 v1 z1 h2 n3 fun v4 h5 n6 => rMid N C id K0 F98.b4 (F98.fr b c f d e g l p q u v1 i o s v z0 z1 z A B D E F G H) h5 n6 := by
 rw [rnd_gen hl (tm1 := (F98.fr b c f d e g l p q u a i o s v z0 z1 z A B D E F G H)) (by intro k; kernel_rfl)]; kernel_rfl
theorem F98.y4 {N : Nat} {C : Calls Prop} {K0 : Kw Prop} {id nx : Pa} {h : T Blk} {b c f d e g l p q u a i o s v w y z A B D E F G H : AV} :
 IR.run F98.b4 C N (rO id K0) (yW id K0 .none true) (F98.fr b c f d e g l p q u a i o s v w y z A B D E F G H) h nx =
 zF q h fun v1 => zN 2 a h fun v2 => C.fn 121 (.of 121) [v1, v2] h nx fun v3 h4 n5 => yA v3 (yW id K0 .none true .e h4 n5) (zF u h4 fun v6 => zN 2 a h4 fun v7 => jD 2 1 [.zf, (.bool false)] [(0, 2, v7)] h4 n5 fun v8 h9 nH => xQ C 2 32 v6 v8 h9 nH fun vB hB nB => zO 1 u vB hB nB fun vE hA nA => sChk (true && true) (zN 2 p hA fun vH => zN 2 p hA fun vI => C.fn 123 (.of 123) [vH] hA nA fun vJ hD nD => (zN 2 p hD fun v38 => zM v38 vI ((zN 2 p hD fun v37 => zM v37 vH (sMkmap hD nD fun vM hL nM => (zN 2 p hL fun vV => zM vV vI ((zN 2 p hL fun vW => zM vW vH (pY .str vM vJ vI hL nM fun v25 hM nN => zO 1 q vM hM nN fun vS hV nV => zN 2 p hV fun vP => jD 2 1 [.zf, (.bool false)] [(0, 2, vP)] hV nV fun vZ hW nW => IR.run F98.b7 C N ((rO id K0).blk 1 (yW id K0 .none true)) (yW id K0 .none true) (F98.fr b c f d e g l p q u a vZ o s v w y v3 A B D E F G H) hW nW)))))))))) := by kernel_rfl
theorem F98.L7 {id : Pa} {E1 : Ks Prop} (Inv : Nat -> AV -> T Blk -> Pa -> Prop) {m : Nat} (hm : m < N) (hi : Inv m i h nx)
  (step : ∀ (m : Nat) (zA zB zC zK zL zP zQ zR zT zU : AV) (h : T Blk) (nx : Pa) (R : Ks Prop), Inv m zA h nx -> (∀ (m' : Nat) (wB wC wD wJ wK wL wM wN wO wP : AV) (h' : T Blk) (nx' : Pa), m' < m -> Inv m' wB h' nx' -> R (F98.fr b c f d e g l p q u a wB wC wD v w y z wJ wK wL wM wN wO wP) h' nx' = .ok True) ->
   (sLen zA fun v1 => zu .gtr .int v1 (I 0) fun v2 => yA v2 (zF u h fun v3 => sLen v3 fun v4 => IR.run F98.b13 C N ((((rO id K0).blk 1 E1).blk 2 K).blk 3 (IR.run F98.b22 C N (((rO id K0).blk 1 E1).blk 2 K) R)) (IR.run F98.b22 C N (((rO id K0).blk 1 E1).blk 2 K) R) (F98.fr b c f d e g l p q u a zA zB zC v w y z v2 v3 v4 (I 0) zR zT zU) h nx) (K (F98.fr b c f d e g l p q u a zA zB zC v w y z v2 zL zP zQ zR zT zU) h nx)) = .ok True) :
  IR.run F98.b7 C N ((rO id K0).blk 1 E1) K (F98.fr b c f d e g l p q u a i o s v w y z A B D E F G H) h nx = .ok True := by
 rw [F98.b7, F98.g7_eq, F98.b8];refine yM (fun m tm h nx => ∃ zA zB zC zK zL zP zQ zR zT zU, tm = (F98.fr b c f d e g l p q u a zA zB zC v w y z zK zL zP zQ zR zT zU) /\ Inv m zA h nx) ?_ hm ⟨_, _, _, _, _, _, _, _, _, _, rfl, hi⟩;rintro m tm h nx R ⟨zA, zB, zC, zK, zL, zP, zQ, zR, zT, zU, rfl, hi⟩ hR;refine Eq.trans ?_ (step m zA zB zC zK zL zP zQ zR zT zU h nx R hi fun m' wB wC wD wJ wK wL wM wN wO wP h' nx' hlt hi' => hR m' _ h' nx' hlt ⟨_, _, _, _, _, _, _, _, _, _, rfl, hi'⟩)
 kernel_rfl
theorem F98.k22 {id : Pa} {E1 E2 : Ks Prop} : IR.run F98.b22 C N (((rO id K0).blk 1 E1).blk 2 E2) K (F98.fr b c f d e g l p q u a i o s v w y z A B D E F G H) h nx =
 jX 2 i (some (I 1)) none none fun v1 => K (F98.fr b c f d e g l p q u a v1 o s v w y z A B D E F G H) h nx := by kernel_rfl
theorem F98.L13 {id : Pa} {E1 E2 E3 : Ks Prop} (Inv : Nat -> AV -> AV -> T Blk -> Pa -> Prop) {m : Nat} (hm : m < N) (hi : Inv m i E h nx)
  (step : ∀ (m : Nat) (zA zB zC zQ zR zT zU : AV) (h : T Blk) (nx : Pa) (R : Ks Prop), Inv m zA zQ h nx -> (∀ (m' : Nat) (wB wC wD wM wN wO wP : AV) (h' : T Blk) (nx' : Pa), m' < m -> Inv m' wB wM h' nx' -> R (F98.fr b c f d e g l p q u a wB wC wD v w y z A B D wM wN wO wP) h' nx' = .ok True) ->
   (zu .lss .int zQ D fun v1 => yA v1 (zS 2 B zQ fun v2 => zN 2 v2 h fun v3 => yN [.zf, (.bool false)] h nx fun v4 h5 n6 => zO 2 v4 v3 h5 n6 fun v7 h8 n9 => sChk (true && true) (zN 2 v4 h8 fun vA => zS 2 zA (I 0) fun vB => zN 2 vB h8 fun vC => C.fn 122 (.of 122) [vA, vC] h8 n9 fun vD hH nI => (zN 2 vB hH fun v65 => zM v65 vC ((zS 2 zA (I 0) fun v64 => zM v64 vB (zM zA zA ((zN 2 v4 hH fun v63 => zM v63 vA (yN [.zf, (.bool false)] hH nI fun vG hF nF => (zN 2 vB hF fun v62 => zM v62 vC ((zS 2 zA (I 0) fun v61 => zM v61 vB (zM zA zA ((zN 2 v4 hF fun v60 => zM v60 vA (zO 2 vG vD hF nF fun vJ hD nD => zF q hD fun vM => zN 2 vG hD fun vN => C.fn 121 (.of 121) [vM, vN] hD nD fun vO hC nC => yA vO (zu .add .int zQ (I 1) fun vT => R (F98.fr b c f d e g l p q u a zA v4 vG v w y z A B D vT v1 vO zU) hC nC) (zF q hC fun vS => sMlen vS hC fun vR => zF d hC fun vQ => zu .eql .int vR vQ fun vP => yA vP (zO 1 e .jv hC nC fun vZ hW nW => zO 1 g .zf hW nW fun vW hX nX => zO 1 l (.bool false) hX nX fun v38 hY nY => yW id K0 .ret false .e hY nY) (zF q hC fun v41 => zN 2 vG hC fun v42 => zN 2 vG hC fun v43 => C.fn 123 (.of 123) [v42] hC nC fun v44 hZ nZ => (zN 2 vG hZ fun v59 => zM v59 v43 ((zF q hZ fun v58 => zM v58 v41 (pY .str v41 v44 v43 hZ nZ fun v47 h48 n49 => zN 2 vG h48 fun v50 => jD 2 1 [.zf, (.bool false)] [(0, 2, v50)] h48 n49 fun v51 h52 n53 => xQ C 2 32 zA v51 h52 n53 fun v54 h55 n56 => zu .add .int zQ (I 1) fun v57 => R (F98.fr b c f d e g l p q u a v54 v4 vG v w y z A B D v57 v1 vO vP) h55 n56)))))))))))))))))))))) (K (F98.fr b c f d e g l p q u a zA zB zC v w y z A B D zQ v1 zT zU) h nx)) = .ok True) :
  IR.run F98.b13 C N ((((rO id K0).blk 1 E1).blk 2 E2).blk 3 E3) K (F98.fr b c f d e g l p q u a i o s v w y z A B D E F G H) h nx = .ok True := by
 rw [F98.b13, F98.g13_eq, F98.b14];refine yM (fun m tm h nx => ∃ zA zB zC zQ zR zT zU, tm = (F98.fr b c f d e g l p q u a zA zB zC v w y z A B D zQ zR zT zU) /\ Inv m zA zQ h nx) ?_ hm ⟨_, _, _, _, _, _, _, rfl, hi⟩;rintro m tm h nx R ⟨zA, zB, zC, zQ, zR, zT, zU, rfl, hi⟩ hR;refine Eq.trans ?_ (step m zA zB zC zQ zR zT zU h nx R hi fun m' wB wC wD wM wN wO wP h' nx' hlt hi' => hR m' _ h' nx' hlt ⟨_, _, _, _, _, _, _, rfl, hi'⟩)
 kernel_rfl
theorem F92.tab : T.get none (.of 92) tbl = some F92 := by kernel_rfl
theorem F92.go : zV tbl N C (.of 92) [a0, a1] h nx K0 =
 sBox a0 h nx fun v1 h2 n3 => yN [.jv] h2 n3 fun v4 h5 n6 => yN [.zf] h5 n6 fun v7 h8 n9 => yN [(I 0)] h8 n9 fun vA hG nG => zF v1 hG fun vD => sLen vD fun vE => zu .eql .int vE (I 0) fun vF => zF v1 hG fun vG => sLen vG fun vH => zu .gtr .int vH (I 1536) fun vI => C.fn 95 (.of 95) [a1] hG nG fun vJ hD nD => (zu .gtr .int vH (I 1536) fun v76 => zM v76 vI ((sLen vG fun v75 => zM v75 vH ((zF v1 hD fun v74 => zM v74 vG ((zu .eql .int vE (I 0) fun v73 => zM v73 vF ((sLen vD fun v72 => zM v72 vE ((zF v1 hD fun v71 => zM v71 vD (C.fn 96 (.of 96) [vF, (I 12)] hD nD fun vM hL nM => (zu .gtr .int vH (I 1536) fun v70 => zM v70 vI ((sLen vG fun v69 => zM v69 vH ((zF v1 hL fun v68 => zM v68 vG (C.fn 96 (.of 96) [vI, (I 5)] hL nM fun v25 hM nN => jD 1 3 [(I 0)] [(0, 1, vJ), (1, 1, vM), (2, 1, v25)] hM nN fun vS hV nV => C.fn 94 (.of 94) [vS] hV nV fun vP h32 n33 => zu .neq .int vP (I 0) fun vX => yA vX (zO 1 v4 .jv h32 n33 fun vW hX nX => zO 1 v7 .zf hX nX fun v38 hY nY => zO 1 vA vP hY nY fun v41 h42 n43 => zF v4 h42 fun v44 => zF v7 h42 fun v45 => zF vA h42 fun v46 => K0 (.tup [v44, v45, v46]) h42 n43) (zF v1 h32 fun v47 => C.fn 97 (.of 97) [v47, a1] h32 n33 fun v48 h49 n50 => zu .neq .int v48 (I 0) fun v51 => yA v51 (zO 1 v4 .jv h49 n50 fun v52 h53 n54 => zO 1 v7 .zf h53 n54 fun v55 h56 n57 => zO 1 vA v48 h56 n57 fun v58 h59 n60 => zF v4 h59 fun v61 => zF v7 h59 fun v62 => zF vA h59 fun v63 => K0 (.tup [v61, v62, v63]) h59 n60) (zF v1 h49 fun v64 => C.fn 90 (.of 90) [v64] h49 n50 fun v65 h66 n67 => IR.run (.rf (.t (.of 15)) [(.of 16), (.of 17)] F92.b5 F92.b6) C N ((fnO F92.res K0).blk 0 (IR.run F92.b8 C N (fnO F92.res K0) (gu F92.res K0))) (IR.run F92.b8 C N (fnO F92.res K0) (gu F92.res K0)) (F92.fr a0 a1 v1 v4 v7 vA vP v48 .undef .undef .undef .undef .undef vX v51 v65 .undef .undef .undef .undef) h66 n67)))))))))))))))))))) := by
 rw [zJ F92.tab]; kernel_rfl
theorem F92.k8 : IR.run F92.b8 C N (fnO F92.res K0) K (F92.fr b c f d e g l p q u a i o s v w y z A B) h nx =
 zF f h fun v1 => zF f h fun v2 => sLen v2 fun v3 => C.fn 98 (.of 98) [v1, c, v3] h nx fun v4 h5 n6 => xq 0 v4 fun v7 => xq 1 v4 fun v8 => xq 2 v4 fun v9 => sNot v9 fun vA => sG vA false (fun k => k v7) fun vB => sG vA false (fun k => sMlen vB h5 k) fun vC => sG vA false (fun k => zF f h5 k) fun vD => sG vA false (fun k => sLen vD k) fun vE => sG vA false (fun k => zu .neq .int vC vE k) fun vF => j5 vA (.bool true) vF fun vG => yA vG (zO 1 d .jv h5 n6 fun vH h18 n19 => zO 1 e .zf h18 n19 fun vK hI nJ => zO 1 g (I 28) hI nJ fun vN hE nE => zF d hE fun vU => zF e hE fun vT => zF g hE fun vS => K0 (.tup [vU, vT, vS]) hE nE) ((IR.run F92.b9 C N (fnO F92.res K0) K) (F92.fr b c f d e g l p q u v7 v8 v9 s v w y z A vG) h5 n6) := by kernel_rfl
theorem F92.p6 {N : Nat} {C : Calls Prop} {K0 : Kw Prop} {id nx : Pa} {j : Jump} {h : T Blk} {b c f d e g l p q u a i o s v w y z A B z0 z1 : AV} (hl : T.get .no id h = .loop .ready j (F92.fr b c f d e g l p q u a i o s v w y z A B) [.of 16, .of 17] F92.b5 F92.b6) :
 wA N C id [z0, z1] h nx K0 =
 yN [.zf, (.bool false)] h nx fun v1 h2 n3 => zO 2 v1 z1 h2 n3 fun v4 h5 n6 => rMid N C id K0 F92.b6 (F92.fr b c f d e g l p z0 v1 a i o s v w z0 z1 A B) h5 n6 := by
 rw [rnd_gen hl (tm1 := (F92.fr b c f d e g l p q u a i o s v w z0 z1 A B)) (by intro k; kernel_rfl)]; kernel_rfl
theorem F92.y6 {N : Nat} {C : Calls Prop} {K0 : Kw Prop} {id nx : Pa} {h : T Blk} {b c f d e g l p q u a i o s v w y z A B : AV} :
 IR.run F92.b6 C N (rO id K0) (yW id K0 .none true) (F92.fr b c f d e g l p q u a i o s v w y z A B) h nx =
 zu .gtr .int q (I 0) fun v1 => sG v1 true (fun k => zF f h k) fun v2 => sG v1 true (fun k => k q) fun v3 => sG v1 true (fun k => zu .sub .int v3 (I 1) k) fun v4 => sG v1 true (fun k => zS 2 v2 v4 k) fun v5 => sG v1 true (fun k => zN 2 v5 h k) fun v6 => sG v1 true (fun k => zN 2 u h k) fun v7 => sGW v1 true (fun k => C.fn 162 (.of 162) [v6, v7] h nx k) h nx fun v8 h9 nH => sG v1 true (fun k => zu .geq .int v8 (I 0) k) fun vB => j5 v1 vB (.bool false) fun vC => yA vC (zO 1 d .jv h9 nH fun vD hH nI => zO 1 e .zf hH nI fun vG hF nF => zO 1 g (I 11) hF nF fun vJ hD nD => yW id K0 .ret false .e hD nD) (yW id K0 .none true .e h9 nH) := by kernel_rfl
theorem F92.k9 : IR.run F92.b9 C N (fnO F92.res K0) K (F92.fr b c f d e g l p q u a i o s v w y z A B) h nx =
 zO 1 d a h nx fun v1 h2 n3 => zO 1 e i h2 n3 fun v4 h5 n6 => zO 1 g (I 0) h5 n6 fun v7 h8 n9 => zF d h8 fun vA => zF e h8 fun vB => zF g h8 fun vC => K0 (.tup [vA, vB, vC]) h8 n9 := by kernel_rfl
theorem F22.tab : T.get none (.of 22) tbl = some F22 := by kernel_rfl
theorem F22.go : zV tbl N C (.of 22) [a0, a1] h nx K0 =
 C.fn 92 (.of 92) [a0, a1] h nx fun v1 h2 n3 => xq 0 v1 fun v4 => xq 1 v1 fun v5 => xq 2 v1 fun v6 => K0 v6 h2 n3 := by
 rw [zJ F22.tab]; kernel_rfl
end Go.Ev
namespace Go.Ev
open Go Go.Proofs
set_option maxRecDepth 100000
section
variable {N : Nat} {C : Calls Prop} {K0 : Kw Prop} {K : Ks Prop} {h : T Blk} {nx : Pa} {b c f d e g l p q u a i a0 a1 : AV} {O : uy Prop} {tm : T AV} {Kt : KTm} {r : List RO} {s0 s1 s2 s3 s4 s5 s6 s7 s8 s9 s10 s11 s12 s13 s14 s15 s16 s17 s18 s19 s20 s21 s22 s23 s24 s25 s26 s27 s28 s29 s30 s31 s32 s33 s34 s35 s36 s37 s38 s39 : AV}
def zo.t0 : IR := .reg [.w (.loc (.of 2)) none (.box (.t (.of 0))), .q (.of 3) (.mv (.c .zf))]
def zo.t1 : IR := .reg [.s (.mv (.t (.of 1))), .s (.len (.s 0)), .w .push none (.um 1 8 [(I 0)] (.s 0) (.s 0)), .q (.of 4) (.mv (.s 0))]
def zo.t2 : IR := .reg [.q (.of 7) (.mv (.t (.of 1))), .q (.of 8) (.len (.t (.of 7))), .q (.of 9) (.mv (.c (I 0)))]
def zo.t3 : IR := .reg [.q (.of 10) (.bin .lss .int (.t (.of 9)) (.t (.of 8)))]
def zo.t4 : IR := .cond (.t (.of 10)) .skip (.exit 0)
def zo.t5 : IR := .reg [.s (.mv (.t (.of 9))), .s (.zn 1 (.t (.of 7)) (.t (.of 9))), .s (.load (.s 0)), .q (.of 5) (.mv (.s 2)), .q (.of 6) (.mv (.s 0))]
def zo.t6 : IR := .reg [.s (.zx 1 (.t (.of 2))), .q (.of 11) (.load (.s 0))]
def zo.t7 : IR := .reg [.s (.mv (.t (.of 1))), .s (.len (.s 0)), .s (.bin .add .int (.s 0) (.c (I 1))), .s (.mv (.t (.of 6))), .s (.bin .sub .int (.s 1) (.s 0)), .q (.of 6) (.mv (.s 0))]
def zo.t8 : IR := .cond (.t (.of 11)) zo.t7 .skip
def zo.t9 : IR := .seq zo.t6 zo.t8
def zo.t10 : IR := .reg [.s (.mv (.t (.of 4))), .s (.zx 0 (.t (.of 2))), .s (.load (.s 0)), .s (.mv (.t (.of 5))), .s (.zn 1 (.s 1) (.s 0)), .s (.load (.s 0)), .s (.mv (.t (.of 6))), .s (.zn 1 (.s 6) (.s 1)), .w .none none (.store 1 (.s 0) (.s 1))]
def zo.t11 : IR := .seq zo.t9 zo.t10
def zo.t12 : IR := .seq zo.t5 zo.t11
def zo.t13 : IR := .block 1 zo.t12
def zo.t14 : IR := .reg [.s (.bin .add .int (.t (.of 9)) (.c (I 1))), .q (.of 9) (.mv (.s 0))]
def zo.t15 : IR := .seq zo.t13 zo.t14
def zo.t16 : IR := .seq zo.t4 zo.t15
def zo.t17 : IR := .seq zo.t3 zo.t16
def zo.t18 : IR := .loop zo.t17
def zo.t19 : IR := .block 0 zo.t18
def zo.t20 : IR := .seq zo.t2 zo.t19
def zo.t21 : IR := .reg [.s (.mv (.t (.of 4))), .q (.of 3) (.mv (.s 0))]
def zo.t22 : IR := .seq zo.t21 .ret
def zo.t23 : IR := .seq zo.t20 zo.t22
def zo.t24 : IR := .seq zo.t1 zo.t23
def zo.t25 : IR := .seq zo.t0 zo.t24
theorem zo.xu : IR.run zo.t0 C N O K (zo.fr b c f d e g l p q u a i) h nx =
 sBox b h nx fun v1 h2 n3 => K (zo.fr b c v1 .zf e g l p q u a i) h2 n3 := by kernel_rfl
theorem zo.xw : IR.run zo.t1 C N O K (zo.fr b c f d e g l p q u a i) h nx =
 sLen c fun v1 => uS 1 8 [(I 0)] v1 v1 h nx fun v2 h3 n4 => K (zo.fr b c f d v2 g l p q u a i) h3 n4 := by kernel_rfl
theorem zo.bQ : IR.run zo.t2 C N O K (zo.fr b c f d e g l p q u a i) h nx =
 sLen c fun v1 => K (zo.fr b c f d e g l c v1 (I 0) a i) h nx := by kernel_rfl
theorem zo.t3_s : IR.run zo.t3 C N O K (zo.fr b c f d e g l p q u a i) h nx =
 zu .lss .int u q fun v1 => K (zo.fr b c f d e g l p q u v1 i) h nx := by kernel_rfl
theorem zo.v10 : Arg.ev (.t (.of 10)) ⟨(zo.fr b c f d e g l p q u a i), []⟩ = a := by kernel_rfl
theorem zo.t5_s : IR.run zo.t5 C N O K (zo.fr b c f d e g l p q u a i) h nx =
 zS 1 p u fun v1 => zF v1 h fun v2 => K (zo.fr b c f d e u v2 p q u a i) h nx := by kernel_rfl
theorem zo.t6_s : IR.run zo.t6 C N O K (zo.fr b c f d e g l p q u a i) h nx =
 zW 1 f fun v1 => zF v1 h fun v2 => K (zo.fr b c f d e g l p q u a v2) h nx := by kernel_rfl
theorem zo.t7_s : IR.run zo.t7 C N O K (zo.fr b c f d e g l p q u a i) h nx =
 sLen c fun v1 => zu .add .int v1 (I 1) fun v2 => zu .sub .int v2 l fun v3 => K (zo.fr b c f d e g v3 p q u a i) h nx := by kernel_rfl
theorem zo.v11 : Arg.ev (.t (.of 11)) ⟨(zo.fr b c f d e g l p q u a i), []⟩ = i := by kernel_rfl
theorem zo.mr : IR.run zo.t10 C N O K (zo.fr b c f d e g l p q u a i) h nx =
 zW 0 f fun v1 => zF v1 h fun v2 => zS 1 v2 g fun v3 => zF v3 h fun v4 => zS 1 e v4 fun v5 => zO 1 v5 l h nx fun v6 h7 n8 => K (zo.fr b c f d e g l p q u a i) h7 n8 := by kernel_rfl
theorem zo.t14_s : IR.run zo.t14 C N O K (zo.fr b c f d e g l p q u a i) h nx =
 zu .add .int u (I 1) fun v1 => K (zo.fr b c f d e g l p q v1 a i) h nx := by kernel_rfl
theorem zo.t18_L (Inv : Nat -> AV -> T Blk -> Pa -> Prop) {m : Nat} (hm : m < N) (hi : Inv m u h nx)
  (step : ∀ (m : Nat) (z5 z6 z9 zI zA : AV) (h : T Blk) (nx : Pa) (R : Ks Prop), Inv m z9 h nx -> (∀ (m' : Nat) (w5 w6 w9 wI wB : AV) (h' : T Blk) (nx' : Pa), m' < m -> Inv m' w9 h' nx' -> R (zo.fr b c f d e w5 w6 p q w9 wI wB) h' nx' = .ok True) -> IR.run zo.t17 C N O R (zo.fr b c f d e z5 z6 p q z9 zI zA) h nx = .ok True) :
  IR.run zo.t18 C N O K (zo.fr b c f d e g l p q u a i) h nx = .ok True := by
 rw [zo.t18];refine yM (fun m tm h nx => ∃ z5 z6 z9 zI zA, tm = (zo.fr b c f d e z5 z6 p q z9 zI zA) /\ Inv m z9 h nx) ?_ hm ⟨_, _, _, _, _, rfl, hi⟩;rintro m tm h nx R ⟨z5, z6, z9, zI, zA, rfl, hi⟩ hR;exact step m z5 z6 z9 zI zA h nx R hi fun m' w5 w6 w9 wI wB h' nx' hlt hi' => hR m' _ h' nx' hlt ⟨_, _, _, _, _, rfl, hi'⟩
theorem zo.t21_s : IR.run zo.t21 C N O K (zo.fr b c f d e g l p q u a i) h nx =
 K (zo.fr b c f e e g l p q u a i) h nx := by kernel_rfl
theorem zo.tab : T.get none (.of 135) tbl = some zo := by kernel_rfl
theorem zo.bind (k : T AV -> OP) : yC zo.params [a0, a1] zo.init k = k (zo.fr a0 a1 .undef .undef .undef .undef .undef .undef .undef .undef .undef .undef) := by kernel_rfl
theorem zo.yx : zo.body = zo.t25 := by kernel_rfl
theorem zo.go : zV tbl N C (.of 135) [a0, a1] h nx K0 = IR.run zo.t25 C N (fnO zo.res K0) (gu zo.res K0) (zo.fr a0 a1 .undef .undef .undef .undef .undef .undef .undef .undef .undef .undef) h nx := by
 rw [zJ zo.tab, zo.bind, zo.yx]; kernel_rfl
theorem zo.ret : gu zo.res K0 (zo.fr b c f d e g l p q u a i) h nx = K0 d h nx := by kernel_rfl
def qw.t0 : IR := .reg [.q (.of 1) (.mv (.c (I 0)))]
def qw.t1 : IR := .reg [.s (.mv (.t (.of 0))), .s (.len (.s 0)), .s (.bin .gtr .int (.s 0) (.c (I 256))), .w .push none (.call (.c (.fn 96 (.of 96) [])) [(.s 0), (.c (I 5))]), .s (.mv (.t (.of 0))), .w .push none (.call (.c (.fn 136 (.of 136) [])) [(.s 0), (.c (.fn 137 (.of 137) []))]), .w .push none (.call (.c (.fn 96 (.of 96) [])) [(.s 0), (.c (I 3))]), .w .push none (.zy 1 2 [(I 0)] [(0, 1, (.s 3)), (1, 1, (.s 0))]), .w .push none (.call (.c (.fn 94 (.of 94) [])) [(.s 0)]), .q (.of 1) (.mv (.s 0))]
def qw.t2 : IR := .seq qw.t1 .ret
def qw.t3 : IR := .seq qw.t0 qw.t2
theorem qw.xu : IR.run qw.t0 C N O K (qw.fr b c) h nx =
 K (qw.fr b (I 0)) h nx := by kernel_rfl
theorem qw.xw : IR.run qw.t1 C N O K (qw.fr b c) h nx =
 sLen b fun v1 => zu .gtr .int v1 (I 256) fun v2 => C.fn 96 (.of 96) [v2, (I 5)] h nx fun v3 h4 n5 => C.fn 136 (.of 136) [b, (.fn 137 (.of 137) [])] h4 n5 fun v6 h7 n8 => C.fn 96 (.of 96) [v6, (I 3)] h7 n8 fun v9 hU nU => jD 1 2 [(I 0)] [(0, 1, v3), (1, 1, v9)] hU nU fun vC h13 n14 => C.fn 94 (.of 94) [vC] h13 n14 fun vF h16 n17 => K (qw.fr b vF) h16 n17 := by kernel_rfl
theorem qw.tab : T.get none (.of 134) tbl = some qw := by kernel_rfl
theorem qw.bind (k : T AV -> OP) : yC qw.params [a0] qw.init k = k (qw.fr a0 .undef) := by kernel_rfl
theorem qw.yx : qw.body = qw.t3 := by kernel_rfl
theorem qw.go : zV tbl N C (.of 134) [a0] h nx K0 = IR.run qw.t3 C N (fnO qw.res K0) (gu qw.res K0) (qw.fr a0 .undef) h nx := by
 rw [zJ qw.tab, qw.bind, qw.yx]; kernel_rfl
theorem qw.ret : gu qw.res K0 (qw.fr b c) h nx = K0 c h nx := by kernel_rfl
def qp.t0 : IR := .reg [.q (.of 1) (.mv (.c (.bool false)))]
def qp.t1 : IR := .reg [.s (.mv (.t (.of 0))), .s (.bin .lss .int (.s 0) (.c (I (-999999999)))), .s (.mv (.s 0)), .p .push (some ((.s 0), false)) (.mv (.t (.of 0))), .p .push (some ((.s 1), false)) (.bin .gtr .int (.s 0) (.c (I 999999999))), .s (.pick (.s 2) (.c (.bool true)) (.s 0)), .q (.of 1) (.mv (.s 0))]
def qp.t2 : IR := .seq qp.t1 .ret
def qp.t3 : IR := .seq qp.t0 qp.t2
theorem qp.xu : IR.run qp.t0 C N O K (qp.fr b c) h nx =
 K (qp.fr b (.bool false)) h nx := by kernel_rfl
theorem qp.xw : IR.run qp.t1 C N O K (qp.fr b c) h nx =
 zu .lss .int b (I (-999999999)) fun v1 => sG v1 false (fun k => k b) fun v2 => sG v1 false (fun k => zu .gtr .int v2 (I 999999999) k) fun v3 => j5 v1 (.bool true) v3 fun v4 => K (qp.fr b v4) h nx := by kernel_rfl
theorem qp.tab : T.get none (.of 137) tbl = some qp := by kernel_rfl
theorem qp.bind (k : T AV -> OP) : yC qp.params [a0] qp.init k = k (qp.fr a0 .undef) := by kernel_rfl
theorem qp.yx : qp.body = qp.t3 := by kernel_rfl
theorem qp.go : zV tbl N C (.of 137) [a0] h nx K0 = IR.run qp.t3 C N (fnO qp.res K0) (gu qp.res K0) (qp.fr a0 .undef) h nx := by
 rw [zJ qp.tab, qp.bind, qp.yx]; kernel_rfl
theorem qp.ret : gu qp.res K0 (qp.fr b c) h nx = K0 c h nx := by kernel_rfl
def F19.t0 : IR := .reg [.q (.of 2) (.mv (.c (.bool false)))]
def F19.t1 : IR := .reg [.s (.mv (.t (.of 0))), .s (.len (.s 0)), .s (.mv (.t (.of 1))), .q (.of 4) (.bin .gtr .int (.s 1) (.s 0))]
def F19.t2 : IR := .reg [.q (.of 2) (.mv (.c (.bool true)))]
def F19.t3 : IR := .seq F19.t2 .ret
def F19.t4 : IR := .cond (.t (.of 4)) F19.t3 .skip
def F19.t5 : IR := .seq F19.t1 F19.t4
def F19.t6 : IR := .reg [.q (.of 3) (.mv (.c (I 0)))]
def F19.t7 : IR := .reg [.s (.mv (.t (.of 3))), .s (.mv (.t (.of 0))), .s (.len (.s 0)), .q (.of 5) (.bin .lss .int (.s 2) (.s 0))]
def F19.t8 : IR := .cond (.t (.of 5)) .skip (.exit 0)
def F19.t9 : IR := .seq F19.t7 F19.t8
def F19.t10 : IR := .reg [.s (.mv (.t (.of 0))), .s (.mv (.t (.of 3))), .s (.zn 2 (.s 1) (.s 0)), .s (.zx 0 (.s 0)), .s (.load (.s 0)), .s (.len (.s 0)), .q (.of 6) (.bin .gtr .int (.s 0) (.c (I 16)))]
def F19.t11 : IR := .reg [.q (.of 2) (.mv (.c (.bool true)))]
def F19.t12 : IR := .seq F19.t11 .ret
def F19.t13 : IR := .cond (.t (.of 6)) F19.t12 .skip
def F19.t14 : IR := .seq F19.t10 F19.t13
def F19.t15 : IR := .block 1 F19.t14
def F19.t16 : IR := .reg [.s (.mv (.t (.of 3))), .s (.bin .add .int (.s 0) (.c (I 1))), .q (.of 3) (.mv (.s 0))]
def F19.t17 : IR := .seq F19.t15 F19.t16
def F19.t18 : IR := .seq F19.t9 F19.t17
def F19.t19 : IR := .loop F19.t18
def F19.t20 : IR := .block 0 F19.t19
def F19.t21 : IR := .seq F19.t6 F19.t20
def F19.t22 : IR := .reg [.q (.of 2) (.mv (.c (.bool false)))]
def F19.t23 : IR := .seq F19.t22 .ret
def F19.t24 : IR := .seq F19.t21 F19.t23
def F19.t25 : IR := .seq F19.t5 F19.t24
def F19.t26 : IR := .seq F19.t0 F19.t25
theorem F19.xu : IR.run F19.t0 C N O K (F19.fr b c f d e g l) h nx =
 K (F19.fr b c (.bool false) d e g l) h nx := by kernel_rfl
theorem F19.xw : IR.run F19.t1 C N O K (F19.fr b c f d e g l) h nx =
 sLen b fun v1 => zu .gtr .int v1 c fun v2 => K (F19.fr b c f d v2 g l) h nx := by kernel_rfl
theorem F19.bQ : IR.run F19.t2 C N O K (F19.fr b c f d e g l) h nx =
 K (F19.fr b c (.bool true) d e g l) h nx := by kernel_rfl
theorem F19.v4 : Arg.ev (.t (.of 4)) ⟨(F19.fr b c f d e g l), []⟩ = e := by kernel_rfl
theorem F19.t6_s : IR.run F19.t6 C N O K (F19.fr b c f d e g l) h nx =
 K (F19.fr b c f (I 0) e g l) h nx := by kernel_rfl
theorem F19.t7_s : IR.run F19.t7 C N O K (F19.fr b c f d e g l) h nx =
 sLen b fun v1 => zu .lss .int d v1 fun v2 => K (F19.fr b c f d e v2 l) h nx := by kernel_rfl
theorem F19.v5 : Arg.ev (.t (.of 5)) ⟨(F19.fr b c f d e g l), []⟩ = g := by kernel_rfl
theorem F19.mr : IR.run F19.t10 C N O K (F19.fr b c f d e g l) h nx =
 zS 2 b d fun v1 => zW 0 v1 fun v2 => zF v2 h fun v3 => sLen v3 fun v4 => zu .gtr .int v4 (I 16) fun v5 => K (F19.fr b c f d e g v5) h nx := by kernel_rfl
theorem F19.t11_s : IR.run F19.t11 C N O K (F19.fr b c f d e g l) h nx =
 K (F19.fr b c (.bool true) d e g l) h nx := by kernel_rfl
theorem F19.v6 : Arg.ev (.t (.of 6)) ⟨(F19.fr b c f d e g l), []⟩ = l := by kernel_rfl
theorem F19.cO : IR.run F19.t16 C N O K (F19.fr b c f d e g l) h nx =
 zu .add .int d (I 1) fun v1 => K (F19.fr b c f v1 e g l) h nx := by kernel_rfl
theorem F19.t19_L (Inv : Nat -> AV -> T Blk -> Pa -> Prop) {m : Nat} (hm : m < N) (hi : Inv m d h nx)
  (step : ∀ (m : Nat) (z2 z3 z5 z6 : AV) (h : T Blk) (nx : Pa) (R : Ks Prop), Inv m z3 h nx -> (∀ (m' : Nat) (w2 w3 w5 w6 : AV) (h' : T Blk) (nx' : Pa), m' < m -> Inv m' w3 h' nx' -> R (F19.fr b c w2 w3 e w5 w6) h' nx' = .ok True) -> IR.run F19.t18 C N O R (F19.fr b c z2 z3 e z5 z6) h nx = .ok True) :
  IR.run F19.t19 C N O K (F19.fr b c f d e g l) h nx = .ok True := by
 rw [F19.t19];refine yM (fun m tm h nx => ∃ z2 z3 z5 z6, tm = (F19.fr b c z2 z3 e z5 z6) /\ Inv m z3 h nx) ?_ hm ⟨_, _, _, _, rfl, hi⟩;rintro m tm h nx R ⟨z2, z3, z5, z6, rfl, hi⟩ hR;exact step m z2 z3 z5 z6 h nx R hi fun m' w2 w3 w5 w6 h' nx' hlt hi' => hR m' _ h' nx' hlt ⟨_, _, _, _, rfl, hi'⟩
theorem F19.t22_s : IR.run F19.t22 C N O K (F19.fr b c f d e g l) h nx =
 K (F19.fr b c (.bool false) d e g l) h nx := by kernel_rfl
theorem F19.tab : T.get none (.of 19) tbl = some F19 := by kernel_rfl
theorem F19.bind (k : T AV -> OP) : yC F19.params [a0, a1] F19.init k = k (F19.fr a0 a1 .undef .undef .undef .undef .undef) := by kernel_rfl
theorem F19.yx : F19.body = F19.t26 := by kernel_rfl
theorem F19.go : zV tbl N C (.of 19) [a0, a1] h nx K0 = IR.run F19.t26 C N (fnO F19.res K0) (gu F19.res K0) (F19.fr a0 a1 .undef .undef .undef .undef .undef) h nx := by
 rw [zJ F19.tab, F19.bind, F19.yx]; kernel_rfl
theorem F19.ret : gu F19.res K0 (F19.fr b c f d e g l) h nx = K0 f h nx := by kernel_rfl
end
end Go.Ev
namespace Go.Ev
open Go Go.Proofs
set_option maxRecDepth 100000
section
variable {N : Nat} {C : Calls Prop} {K0 : Kw Prop} {K : Ks Prop} {h : T Blk} {nx : Pa} {b c f d e g l a0 a1 a2 a3 : AV} {O : uy Prop} {tm : T AV} {Kt : KTm} {r : List RO} {s0 s1 s2 s3 s4 s5 s6 s7 s8 s9 s10 s11 s12 s13 s14 s15 s16 s17 s18 s19 s20 s21 s22 s23 s24 s25 s26 s27 s28 s29 s30 s31 s32 s33 s34 s35 s36 s37 s38 s39 : AV}
def F81.t0 : IR := .reg [.q (.of 2) (.mv (.c (.bool false)))]
def F81.t1 : IR := .reg [.s (.mv (.t (.of 0))), .s (.len (.s 0)), .s (.mv (.t (.of 1))), .s (.len (.s 0)), .q (.of 4) (.bin .neq .int (.s 2) (.s 0))]
def F81.t2 : IR := .reg [.q (.of 2) (.mv (.c (.bool false)))]
def F81.t3 : IR := .seq F81.t2 .ret
def F81.t4 : IR := .cond (.t (.of 4)) F81.t3 .skip
def F81.t5 : IR := .seq F81.t1 F81.t4
def F81.t6 : IR := .reg [.q (.of 3) (.mv (.c (I 0)))]
def F81.t7 : IR := .reg [.s (.mv (.t (.of 3))), .s (.mv (.t (.of 0))), .s (.len (.s 0)), .q (.of 5) (.bin .lss .int (.s 2) (.s 0))]
def F81.t8 : IR := .cond (.t (.of 5)) .skip (.exit 0)
def F81.t9 : IR := .seq F81.t7 F81.t8
def F81.t10 : IR := .yt [] [(.s (.mv (.t (.of 0))), 0, []), (.s (.mv (.t (.of 3))), 0, []), (.s (.zn 1 (.s 1) (.s 0)), 0, []), (.s (.load (.s 0)), 0, []), (.s (.mv (.t (.of 1))), 0, []), (.s (.mv (.t (.of 3))), 0, []), (.s (.zn 1 (.s 1) (.s 0)), 0, []), (.s (.load (.s 0)), 0, []), (.w .push none (.call (.c (.fn 82 (.of 82) [])) [(.s 4), (.s 0)]), 0, []), (.q (.of 6) (.not (.s 0)), 0, [])]
def F81.t11 : IR := .reg [.q (.of 2) (.mv (.c (.bool false)))]
def F81.t12 : IR := .seq F81.t11 .ret
def F81.t13 : IR := .cond (.t (.of 6)) F81.t12 .skip
def F81.t14 : IR := .seq F81.t10 F81.t13
def F81.t15 : IR := .block 1 F81.t14
def F81.t16 : IR := .reg [.s (.mv (.t (.of 3))), .s (.bin .add .int (.s 0) (.c (I 1))), .q (.of 3) (.mv (.s 0))]
def F81.t17 : IR := .seq F81.t15 F81.t16
def F81.t18 : IR := .seq F81.t9 F81.t17
def F81.t19 : IR := .loop F81.t18
def F81.t20 : IR := .block 0 F81.t19
def F81.t21 : IR := .seq F81.t6 F81.t20
def F81.t22 : IR := .reg [.q (.of 2) (.mv (.c (.bool true)))]
def F81.t23 : IR := .seq F81.t22 .ret
def F81.t24 : IR := .seq F81.t21 F81.t23
def F81.t25 : IR := .seq F81.t5 F81.t24
def F81.t26 : IR := .seq F81.t0 F81.t25
theorem F81.xu : IR.run F81.t0 C N O K (F81.fr b c f d e g l) h nx =
 K (F81.fr b c (.bool false) d e g l) h nx := by kernel_rfl
theorem F81.xw : IR.run F81.t1 C N O K (F81.fr b c f d e g l) h nx =
 sLen b fun v1 => sLen c fun v2 => zu .neq .int v1 v2 fun v3 => K (F81.fr b c f d v3 g l) h nx := by kernel_rfl
theorem F81.v4 : Arg.ev (.t (.of 4)) ⟨(F81.fr b c f d e g l), []⟩ = e := by kernel_rfl
theorem F81.t6_s : IR.run F81.t6 C N O K (F81.fr b c f d e g l) h nx =
 K (F81.fr b c f (I 0) e g l) h nx := by kernel_rfl
theorem F81.t7_s : IR.run F81.t7 C N O K (F81.fr b c f d e g l) h nx =
 sLen b fun v1 => zu .lss .int d v1 fun v2 => K (F81.fr b c f d e v2 l) h nx := by kernel_rfl
theorem F81.v5 : Arg.ev (.t (.of 5)) ⟨(F81.fr b c f d e g l), []⟩ = g := by kernel_rfl
theorem F81.mr : IR.run F81.t10 C N O K (F81.fr b c f d e g l) h nx =
 zS 1 b d fun v1 => zF v1 h fun v2 => zS 1 c d fun v3 => zF v3 h fun v4 => C.fn 82 (.of 82) [v2, v4] h nx fun v5 h6 n7 => sNot v5 fun v8 => K (F81.fr b c f d e g v8) h6 n7 := by kernel_rfl
theorem F81.v6 : Arg.ev (.t (.of 6)) ⟨(F81.fr b c f d e g l), []⟩ = l := by kernel_rfl
theorem F81.cO : IR.run F81.t16 C N O K (F81.fr b c f d e g l) h nx =
 zu .add .int d (I 1) fun v1 => K (F81.fr b c f v1 e g l) h nx := by kernel_rfl
theorem F81.t19_L (Inv : Nat -> AV -> T Blk -> Pa -> Prop) {m : Nat} (hm : m < N) (hi : Inv m d h nx)
  (step : ∀ (m : Nat) (z2 z3 z5 z6 : AV) (h : T Blk) (nx : Pa) (R : Ks Prop), Inv m z3 h nx -> (∀ (m' : Nat) (w2 w3 w5 w6 : AV) (h' : T Blk) (nx' : Pa), m' < m -> Inv m' w3 h' nx' -> R (F81.fr b c w2 w3 e w5 w6) h' nx' = .ok True) -> IR.run F81.t18 C N O R (F81.fr b c z2 z3 e z5 z6) h nx = .ok True) :
  IR.run F81.t19 C N O K (F81.fr b c f d e g l) h nx = .ok True := by
 rw [F81.t19];refine yM (fun m tm h nx => ∃ z2 z3 z5 z6, tm = (F81.fr b c z2 z3 e z5 z6) /\ Inv m z3 h nx) ?_ hm ⟨_, _, _, _, rfl, hi⟩;rintro m tm h nx R ⟨z2, z3, z5, z6, rfl, hi⟩ hR;exact step m z2 z3 z5 z6 h nx R hi fun m' w2 w3 w5 w6 h' nx' hlt hi' => hR m' _ h' nx' hlt ⟨_, _, _, _, rfl, hi'⟩
theorem F81.t22_s : IR.run F81.t22 C N O K (F81.fr b c f d e g l) h nx =
 K (F81.fr b c (.bool true) d e g l) h nx := by kernel_rfl
theorem F81.tab : T.get none (.of 81) tbl = some F81 := by kernel_rfl
theorem F81.bind (k : T AV -> OP) : yC F81.params [a0, a1] F81.init k = k (F81.fr a0 a1 .undef .undef .undef .undef .undef) := by kernel_rfl
theorem F81.yx : F81.body = F81.t26 := by kernel_rfl
theorem F81.go : zV tbl N C (.of 81) [a0, a1] h nx K0 = IR.run F81.t26 C N (fnO F81.res K0) (gu F81.res K0) (F81.fr a0 a1 .undef .undef .undef .undef .undef) h nx := by
 rw [zJ F81.tab, F81.bind, F81.yx]; kernel_rfl
theorem F81.ret : gu F81.res K0 (F81.fr b c f d e g l) h nx = K0 f h nx := by kernel_rfl
end
end Go.Ev
namespace Go.Ev
open Go Go.Proofs
set_option maxRecDepth 100000
section
variable {N : Nat} {C : Calls Prop} {K0 : Kw Prop} {K : Ks Prop} {h : T Blk} {nx : Pa} {b c f d e g l p q u a i o s v w a0 a1 a2 a3 : AV} {O : uy Prop} {tm : T AV} {Kt : KTm} {r : List RO} {s0 s1 s2 s3 s4 s5 s6 s7 s8 s9 s10 s11 s12 s13 s14 s15 s16 s17 s18 s19 s20 s21 s22 s23 s24 s25 s26 s27 s28 s29 s30 s31 s32 s33 s34 s35 s36 s37 s38 s39 : AV}
end
end Go.Ev
namespace Go.Ev
open Go Go.Proofs
set_option maxRecDepth 100000
section
variable {N : Nat} {C : Calls Prop} {K0 : Kw Prop} {K : Ks Prop} {h : T Blk} {nx : Pa} {b c f d e g l p q u a i o s v w y z a0 a1 a2 : AV} {O : uy Prop} {tm : T AV} {Kt : KTm} {r : List RO} {s0 s1 s2 s3 s4 s5 s6 s7 s8 s9 s10 s11 s12 s13 s14 s15 s16 s17 s18 s19 s20 s21 s22 s23 s24 s25 s26 s27 s28 s29 s30 s31 s32 s33 s34 s35 s36 s37 s38 s39 : AV}
def zk.t0 : IR := .reg [.q (.of 3) (.mv (.c .jv)), .w (.loc (.of 4)) none (.alloc [.zf, .zf]), .q (.of 5) (.mv (.c (I 0)))]
def zk.t1 : IR := .reg [.w (.loc (.of 6)) none (.alloc [.zf, .zf])]
def zk.t2 : IR := .reg [.s (.mv (.t (.of 0))), .s (.mv (.t (.of 2))), .w .push none (.call (.c (.fn 92 (.of 92) [])) [(.s 1), (.s 0)]), .s (.mv (.s 0)), .s (.ext 0 (.s 0)), .s (.ext 1 (.s 1)), .s (.ext 2 (.s 2)), .q (.of 7) (.mv (.s 2)), .q (.of 8) (.mv (.s 1)), .q (.of 9) (.mv (.s 0))]
def zk.t3 : IR := .reg [.s (.mv (.t (.of 9))), .q (.of 13) (.bin .neq .int (.s 0) (.c (I 0)))]
def zk.t4 : IR := .yt [] [(.s (.zi 2 (.t (.of 6))), 0, []), (.s (.mv (.t (.of 9))), 1, []), (.q (.of 3) (.mv (.c .jv)), 0, []), (.w .none none (.store 2 (.t (.of 4)) (.s 1)), 0, []), (.q (.of 5) (.mv (.s 0)), 0, [])]
def zk.t5 : IR := .seq zk.t4 .ret
def zk.t6 : IR := .cond (.t (.of 13)) zk.t5 .skip
def zk.t7 : IR := .seq zk.t3 zk.t6
def zk.t8 : IR := .reg [.s (.mv (.t (.of 1))), .s (.mv (.t (.of 2))), .w .push none (.call (.c (.fn 92 (.of 92) [])) [(.s 1), (.s 0)]), .s (.mv (.s 0)), .s (.ext 0 (.s 0)), .s (.ext 1 (.s 1)), .s (.ext 2 (.s 2)), .q (.of 10) (.mv (.s 2)), .q (.of 11) (.mv (.s 1)), .q (.of 9) (.mv (.s 0))]
def zk.t9 : IR := .reg [.s (.mv (.t (.of 9))), .q (.of 14) (.bin .neq .int (.s 0) (.c (I 0)))]
def zk.t10 : IR := .yt [] [(.s (.zi 2 (.t (.of 6))), 0, []), (.s (.mv (.t (.of 9))), 1, []), (.q (.of 3) (.mv (.c .jv)), 0, []), (.w .none none (.store 2 (.t (.of 4)) (.s 1)), 0, []), (.q (.of 5) (.mv (.s 0)), 0, [])]
def zk.t11 : IR := .seq zk.t10 .ret
def zk.t12 : IR := .cond (.t (.of 14)) zk.t11 .skip
def zk.t13 : IR := .seq zk.t9 zk.t12
def zk.t14 : IR := .reg [.s (.mv (.t (.of 10))), .w (.loc (.of 15)) none (.range (.s 0))]
def zk.t15 : IR := .reg [.w .push none (.next (.t (.of 15))), .q (.of 16) (.ext 0 (.s 0))]
def zk.t16 : IR := .cond (.t (.of 16)) .skip (.exit 0)
def zk.t17 : IR := .reg [.s (.entry (.t (.of 15))), .s (.ext 1 (.s 0)), .w (.loc (.of 12)) none (.alloc [.zf, (.bool false)]), .w .none none (.store 2 (.t (.of 12)) (.s 0))]
def zk.t18 : IR := .reg [.s (.mv (.t (.of 7))), .s (.zi 2 (.t (.of 12))), .w .push none (.call (.c (.fn 121 (.of 121) [])) [(.s 1), (.s 0)]), .q (.of 17) (.not (.s 0))]
def zk.t19 : IR := .yt [] [(.s (.zi 2 (.t (.of 6))), 0, []), (.q (.of 3) (.mv (.c .jv)), 0, []), (.w .none none (.store 2 (.t (.of 4)) (.s 0)), 0, []), (.q (.of 5) (.mv (.c (I 28))), 0, [])]
def zk.t20 : IR := .seq zk.t19 .ret
def zk.t21 : IR := .cond (.t (.of 17)) zk.t20 .skip
def zk.t22 : IR := .seq zk.t18 zk.t21
def zk.t23 : IR := .seq zk.t17 zk.t22
def zk.t24 : IR := .block 1 zk.t23
def zk.t25 : IR := .seq zk.t16 zk.t24
def zk.t26 : IR := .seq zk.t15 zk.t25
def zk.t27 : IR := .loop zk.t26
def zk.t28 : IR := .block 0 zk.t27
def zk.t29 : IR := .seq zk.t14 zk.t28
def zk.t30 : IR := .reg [.s (.mv (.t (.of 8))), .s (.mv (.t (.of 11))), .s (.aaddr 1 2 (.t (.of 6)) (.c (I 0))), .w .none none (.store 1 (.s 0) (.s 2)), .s (.aaddr 1 2 (.t (.of 6)) (.c (I 1))), .w .none none (.store 1 (.s 0) (.s 2))]
def zk.t31 : IR := .yt [] [(.s (.mv (.t (.of 10))), 0, []), (.s (.zi 2 (.t (.of 6))), 0, []), (.q (.of 3) (.mv (.s 1)), 0, []), (.w .none none (.store 2 (.t (.of 4)) (.s 0)), 0, []), (.q (.of 5) (.mv (.c (I 0))), 0, [])]
def zk.t32 : IR := .seq zk.t31 .ret
def zk.t33 : IR := .seq zk.t30 zk.t32
def zk.t34 : IR := .seq zk.t29 zk.t33
def zk.t35 : IR := .seq zk.t13 zk.t34
def zk.t36 : IR := .seq zk.t8 zk.t35
def zk.t37 : IR := .seq zk.t7 zk.t36
def zk.t38 : IR := .seq zk.t2 zk.t37
def zk.t39 : IR := .seq zk.t1 zk.t38
def zk.t40 : IR := .seq zk.t0 zk.t39
theorem zk.xu : IR.run zk.t0 C N O K (zk.fr b c f d e g l p q u a i o s v w y z) h nx =
 yN [.zf, .zf] h nx fun v1 h2 n3 => K (zk.fr b c f .jv v1 (I 0) l p q u a i o s v w y z) h2 n3 := by kernel_rfl
theorem zk.xw : IR.run zk.t1 C N O K (zk.fr b c f d e g l p q u a i o s v w y z) h nx =
 yN [.zf, .zf] h nx fun v1 h2 n3 => K (zk.fr b c f d e g v1 p q u a i o s v w y z) h2 n3 := by kernel_rfl
theorem zk.bQ : IR.run zk.t2 C N O K (zk.fr b c f d e g l p q u a i o s v w y z) h nx =
 C.fn 92 (.of 92) [b, f] h nx fun v1 h2 n3 => xq 0 v1 fun v4 => xq 1 v1 fun v5 => xq 2 v1 fun v6 => K (zk.fr b c f d e g l v4 v5 v6 a i o s v w y z) h2 n3 := by kernel_rfl
theorem zk.t3_s : IR.run zk.t3 C N O K (zk.fr b c f d e g l p q u a i o s v w y z) h nx =
 zu .neq .int u (I 0) fun v1 => K (zk.fr b c f d e g l p q u a i o v1 v w y z) h nx := by kernel_rfl
theorem zk.t4_s : IR.run zk.t4 C N O K (zk.fr b c f d e g l p q u a i o s v w y z) h nx =
 zN 2 l h fun v1 => zO 2 e v1 h nx fun v2 h3 n4 => zM u u (K (zk.fr b c f .jv e u l p q u a i o s v w y z) h3 n4) := by kernel_rfl
theorem zk.v13 : Arg.ev (.t (.of 13)) ⟨(zk.fr b c f d e g l p q u a i o s v w y z), []⟩ = s := by kernel_rfl
theorem zk.t8_s : IR.run zk.t8 C N O K (zk.fr b c f d e g l p q u a i o s v w y z) h nx =
 C.fn 92 (.of 92) [c, f] h nx fun v1 h2 n3 => xq 0 v1 fun v4 => xq 1 v1 fun v5 => xq 2 v1 fun v6 => K (zk.fr b c f d e g l p q v6 v4 v5 o s v w y z) h2 n3 := by kernel_rfl
theorem zk.t9_s : IR.run zk.t9 C N O K (zk.fr b c f d e g l p q u a i o s v w y z) h nx =
 zu .neq .int u (I 0) fun v1 => K (zk.fr b c f d e g l p q u a i o s v1 w y z) h nx := by kernel_rfl
theorem zk.mr : IR.run zk.t10 C N O K (zk.fr b c f d e g l p q u a i o s v w y z) h nx =
 zN 2 l h fun v1 => zO 2 e v1 h nx fun v2 h3 n4 => zM u u (K (zk.fr b c f .jv e u l p q u a i o s v w y z) h3 n4) := by kernel_rfl
theorem zk.v14 : Arg.ev (.t (.of 14)) ⟨(zk.fr b c f d e g l p q u a i o s v w y z), []⟩ = v := by kernel_rfl
theorem zk.t14_s : IR.run zk.t14 C N O K (zk.fr b c f d e g l p q u a i o s v w y z) h nx =
 sRange a h nx fun v1 h2 n3 => K (zk.fr b c f d e g l p q u a i o s v v1 y z) h2 n3 := by kernel_rfl
theorem zk.t15_s : IR.run zk.t15 C N O K (zk.fr b c f d e g l p q u a i o s v w y z) h nx =
 sNext C w h nx fun v1 h2 n3 => xq 0 v1 fun v4 => K (zk.fr b c f d e g l p q u a i o s v w v4 z) h2 n3 := by kernel_rfl
theorem zk.v16 : Arg.ev (.t (.of 16)) ⟨(zk.fr b c f d e g l p q u a i o s v w y z), []⟩ = y := by kernel_rfl
theorem zk.t17_s : IR.run zk.t17 C N O K (zk.fr b c f d e g l p q u a i o s v w y z) h nx =
 sEntry w h fun v1 => xq 1 v1 fun v2 => yN [.zf, (.bool false)] h nx fun v3 h4 n5 => zO 2 v3 v2 h4 n5 fun v6 h7 n8 => K (zk.fr b c f d e g l p q u a i v3 s v w y z) h7 n8 := by kernel_rfl
theorem zk.t18_s : IR.run zk.t18 C N O K (zk.fr b c f d e g l p q u a i o s v w y z) h nx =
 zN 2 o h fun v1 => C.fn 121 (.of 121) [p, v1] h nx fun v2 h3 n4 => sNot v2 fun v5 => K (zk.fr b c f d e g l p q u a i o s v w y v5) h3 n4 := by kernel_rfl
theorem zk.t19_s : IR.run zk.t19 C N O K (zk.fr b c f d e g l p q u a i o s v w y z) h nx =
 zN 2 l h fun v1 => zO 2 e v1 h nx fun v2 h3 n4 => K (zk.fr b c f .jv e (I 28) l p q u a i o s v w y z) h3 n4 := by kernel_rfl
theorem zk.v17 : Arg.ev (.t (.of 17)) ⟨(zk.fr b c f d e g l p q u a i o s v w y z), []⟩ = z := by kernel_rfl
theorem zk.t27_L (Inv : Nat -> T Blk -> Pa -> Prop) {m : Nat} (hm : m < N) (hi : Inv m h nx)
  (step : ∀ (m : Nat) (z3 z5 zB zG zH : AV) (h : T Blk) (nx : Pa) (R : Ks Prop), Inv m h nx -> (∀ (m' : Nat) (w3 w5 wC wG wH : AV) (h' : T Blk) (nx' : Pa), m' < m -> Inv m' h' nx' -> R (zk.fr b c f w3 e w5 l p q u a i wC s v w wG wH) h' nx' = .ok True) -> IR.run zk.t26 C N O R (zk.fr b c f z3 e z5 l p q u a i zB s v w zG zH) h nx = .ok True) :
  IR.run zk.t27 C N O K (zk.fr b c f d e g l p q u a i o s v w y z) h nx = .ok True := by
 rw [zk.t27];refine yM (fun m tm h nx => ∃ z3 z5 zB zG zH, tm = (zk.fr b c f z3 e z5 l p q u a i zB s v w zG zH) /\ Inv m h nx) ?_ hm ⟨_, _, _, _, _, rfl, hi⟩;rintro m tm h nx R ⟨z3, z5, zB, zG, zH, rfl, hi⟩ hR;exact step m z3 z5 zB zG zH h nx R hi fun m' w3 w5 wC wG wH h' nx' hlt hi' => hR m' _ h' nx' hlt ⟨_, _, _, _, _, rfl, hi'⟩
theorem zk.t30_s : IR.run zk.t30 C N O K (zk.fr b c f d e g l p q u a i o s v w y z) h nx =
 dJ 1 2 l (I 0) fun v1 => zO 1 v1 q h nx fun v2 h3 n4 => dJ 1 2 l (I 1) fun v5 => zO 1 v5 i h3 n4 fun v6 h7 n8 => K (zk.fr b c f d e g l p q u a i o s v w y z) h7 n8 := by kernel_rfl
theorem zk.t31_s : IR.run zk.t31 C N O K (zk.fr b c f d e g l p q u a i o s v w y z) h nx =
 zN 2 l h fun v1 => zO 2 e v1 h nx fun v2 h3 n4 => K (zk.fr b c f a e (I 0) l p q u a i o s v w y z) h3 n4 := by kernel_rfl
theorem zk.tab : T.get none (.of 120) tbl = some zk := by kernel_rfl
theorem zk.bind (k : T AV -> OP) : yC zk.params [a0, a1, a2] zk.init k = k (zk.fr a0 a1 a2 .undef .undef .undef .undef .undef .undef .undef .undef .undef .undef .undef .undef .undef .undef .undef) := by kernel_rfl
theorem zk.yx : zk.body = zk.t40 := by kernel_rfl
theorem zk.go : zV tbl N C (.of 120) [a0, a1, a2] h nx K0 = IR.run zk.t40 C N (fnO zk.res K0) (gu zk.res K0) (zk.fr a0 a1 a2 .undef .undef .undef .undef .undef .undef .undef .undef .undef .undef .undef .undef .undef .undef .undef) h nx := by
 rw [zJ zk.tab, zk.bind, zk.yx]; kernel_rfl
theorem zk.ret : gu zk.res K0 (zk.fr b c f d e g l p q u a i o s v w y z) h nx = zN 2 e h fun v1 => K0 (.tup [d, v1, g]) h nx := by kernel_rfl
def F27.t0 : IR := .reg [.q (.of 2) (.mv (.c .zf)), .q (.of 3) (.mv (.c (I 0)))]
def F27.t1 : IR := .reg [.s (.mv (.t (.of 1))), .w .push none (.call (.c (.fn 95 (.of 95) [])) [(.s 0)]), .s (.mv (.t (.of 0))), .s (.len (.s 0)), .s (.bin .gtr .int (.s 0) (.c (I 256))), .w .push none (.call (.c (.fn 96 (.of 96) [])) [(.s 0), (.c (I 5))]), .w .push none (.zy 1 2 [(I 0)] [(0, 1, (.s 4)), (1, 1, (.s 0))]), .w .push none (.call (.c (.fn 94 (.of 94) [])) [(.s 0)]), .q (.of 4) (.mv (.s 0))]
def F27.t2 : IR := .reg [.s (.mv (.t (.of 4))), .q (.of 8) (.bin .neq .int (.s 0) (.c (I 0)))]
def F27.t3 : IR := .reg [.s (.mv (.t (.of 4))), .q (.of 2) (.mv (.c .zf)), .q (.of 3) (.mv (.s 0))]
def F27.t4 : IR := .seq F27.t3 .ret
def F27.t5 : IR := .cond (.t (.of 8)) F27.t4 .skip
def F27.t6 : IR := .seq F27.t2 F27.t5
def F27.t7 : IR := .seq F27.t1 F27.t6
def F27.t8 : IR := .reg [.s (.mv (.t (.of 0))), .s (.mv (.t (.of 1))), .w .push none (.call (.c (.fn 97 (.of 97) [])) [(.s 1), (.s 0)]), .q (.of 5) (.mv (.s 0))]
def F27.t9 : IR := .reg [.s (.mv (.t (.of 5))), .q (.of 9) (.bin .neq .int (.s 0) (.c (I 0)))]
def F27.t10 : IR := .reg [.s (.mv (.t (.of 5))), .q (.of 2) (.mv (.c .zf)), .q (.of 3) (.mv (.s 0))]
def F27.t11 : IR := .seq F27.t10 .ret
def F27.t12 : IR := .cond (.t (.of 9)) F27.t11 .skip
def F27.t13 : IR := .seq F27.t9 F27.t12
def F27.t14 : IR := .seq F27.t8 F27.t13
def F27.t15 : IR := .reg [.s (.mv (.t (.of 0))), .s (.mv (.t (.of 1))), .w .push none (.call (.c (.fn 98 (.of 98) [])) [(.s 1), (.s 0), (.c (I 1536))]), .s (.mv (.s 0)), .s (.ext 0 (.s 0)), .s (.ext 1 (.s 1)), .s (.ext 2 (.s 2)), .q (.of 6) (.mv (.s 2)), .s (.mv (.s 1)), .q (.of 7) (.mv (.s 1))]
def F27.t16 : IR := .reg [.s (.mv (.t (.of 7))), .q (.of 10) (.not (.s 0))]
def F27.t17 : IR := .reg [.q (.of 2) (.mv (.c .zf)), .q (.of 3) (.mv (.c (I 20)))]
def F27.t18 : IR := .seq F27.t17 .ret
def F27.t19 : IR := .cond (.t (.of 10)) F27.t18 .skip
def F27.t20 : IR := .seq F27.t16 F27.t19
def F27.t21 : IR := .reg [.s (.mv (.t (.of 6))), .w .push none (.call (.c (.fn 99 (.of 99) [])) [(.s 0)]), .q (.of 2) (.mv (.s 0)), .q (.of 3) (.mv (.c (I 0)))]
def F27.t22 : IR := .seq F27.t21 .ret
def F27.t23 : IR := .seq F27.t20 F27.t22
def F27.t24 : IR := .seq F27.t15 F27.t23
def F27.t25 : IR := .seq F27.t14 F27.t24
def F27.t26 : IR := .seq F27.t7 F27.t25
def F27.t27 : IR := .seq F27.t0 F27.t26
theorem F27.xu : IR.run F27.t0 C N O K (F27.fr b c f d e g l p q u a) h nx =
 K (F27.fr b c .zf (I 0) e g l p q u a) h nx := by kernel_rfl
theorem F27.xw : IR.run F27.t1 C N O K (F27.fr b c f d e g l p q u a) h nx =
 C.fn 95 (.of 95) [c] h nx fun v1 h2 n3 => sLen b fun v4 => zu .gtr .int v4 (I 256) fun v5 => C.fn 96 (.of 96) [v5, (I 5)] h2 n3 fun v6 h7 n8 => jD 1 2 [(I 0)] [(0, 1, v1), (1, 1, v6)] h7 n8 fun v9 hU nU => C.fn 94 (.of 94) [v9] hU nU fun vC h13 n14 => K (F27.fr b c f d vC g l p q u a) h13 n14 := by kernel_rfl
theorem F27.bQ : IR.run F27.t2 C N O K (F27.fr b c f d e g l p q u a) h nx =
 zu .neq .int e (I 0) fun v1 => K (F27.fr b c f d e g l p v1 u a) h nx := by kernel_rfl
theorem F27.t3_s : IR.run F27.t3 C N O K (F27.fr b c f d e g l p q u a) h nx =
 K (F27.fr b c .zf e e g l p q u a) h nx := by kernel_rfl
theorem F27.v8 : Arg.ev (.t (.of 8)) ⟨(F27.fr b c f d e g l p q u a), []⟩ = q := by kernel_rfl
theorem F27.t8_s : IR.run F27.t8 C N O K (F27.fr b c f d e g l p q u a) h nx =
 C.fn 97 (.of 97) [b, c] h nx fun v1 h2 n3 => K (F27.fr b c f d e v1 l p q u a) h2 n3 := by kernel_rfl
theorem F27.t9_s : IR.run F27.t9 C N O K (F27.fr b c f d e g l p q u a) h nx =
 zu .neq .int g (I 0) fun v1 => K (F27.fr b c f d e g l p q v1 a) h nx := by kernel_rfl
theorem F27.mr : IR.run F27.t10 C N O K (F27.fr b c f d e g l p q u a) h nx =
 K (F27.fr b c .zf g e g l p q u a) h nx := by kernel_rfl
theorem F27.v9 : Arg.ev (.t (.of 9)) ⟨(F27.fr b c f d e g l p q u a), []⟩ = u := by kernel_rfl
theorem F27.t15_s : IR.run F27.t15 C N O K (F27.fr b c f d e g l p q u a) h nx =
 C.fn 98 (.of 98) [b, c, (I 1536)] h nx fun v1 h2 n3 => xq 0 v1 fun v4 => xq 1 v1 fun v5 => xq 2 v1 fun v6 => K (F27.fr b c f d e g v4 v6 q u a) h2 n3 := by kernel_rfl
theorem F27.cO : IR.run F27.t16 C N O K (F27.fr b c f d e g l p q u a) h nx =
 sNot p fun v1 => K (F27.fr b c f d e g l p q u v1) h nx := by kernel_rfl
theorem F27.t17_s : IR.run F27.t17 C N O K (F27.fr b c f d e g l p q u a) h nx =
 K (F27.fr b c .zf (I 20) e g l p q u a) h nx := by kernel_rfl
theorem F27.v10 : Arg.ev (.t (.of 10)) ⟨(F27.fr b c f d e g l p q u a), []⟩ = a := by kernel_rfl
theorem F27.t21_s : IR.run F27.t21 C N O K (F27.fr b c f d e g l p q u a) h nx =
 C.fn 99 (.of 99) [l] h nx fun v1 h2 n3 => K (F27.fr b c v1 (I 0) e g l p q u a) h2 n3 := by kernel_rfl
theorem F27.tab : T.get none (.of 27) tbl = some F27 := by kernel_rfl
theorem F27.bind (k : T AV -> OP) : yC F27.params [a0, a1] F27.init k = k (F27.fr a0 a1 .undef .undef .undef .undef .undef .undef .undef .undef .undef) := by kernel_rfl
theorem F27.yx : F27.body = F27.t27 := by kernel_rfl
theorem F27.go : zV tbl N C (.of 27) [a0, a1] h nx K0 = IR.run F27.t27 C N (fnO F27.res K0) (gu F27.res K0) (F27.fr a0 a1 .undef .undef .undef .undef .undef .undef .undef .undef .undef) h nx := by
 rw [zJ F27.tab, F27.bind, F27.yx]; kernel_rfl
theorem F27.ret : gu F27.res K0 (F27.fr b c f d e g l p q u a) h nx = K0 (.tup [f, d]) h nx := by kernel_rfl
end
end Go.Ev
namespace Go.Ev
open Go Go.Proofs
set_option maxRecDepth 100000
variable {N : Nat} {C : Calls Prop} {K0 : Kw Prop} {K R : Ks Prop} {h : T Blk} {nx : Pa} {b c f d e g l a0 a1 a2 p q u a i o s v w y z A B D E F G H : AV}
theorem F99.bU (X2 : IR) (O : uy Prop) (t : T AV) : IR.run (F99.g1 X2) C N O K t h nx = IR.run X2 C N (O.blk 0 K) K t h nx := by kernel_rfl
theorem F99.g7_eq (X8 : IR) (O : uy Prop) (t : T AV) : IR.run (F99.g7 X8) C N O K t h nx = IR.run X8 C N (O.blk 2 K) K t h nx := by kernel_rfl
theorem F99.tab : T.get none (.of 99) tbl = some F99 := by kernel_rfl
theorem F99.go : zV tbl N C (.of 99) [a0] h nx K0 =
 sRange a0 h nx fun v1 h2 n3 => IR.run F99.b1 C N (fnO F99.res K0) (IR.run F99.b6 C N (fnO F99.res K0) (gu F99.res K0)) (F99.fr a0 .zf .zf .undef .undef .undef v1 .undef .undef .undef .undef .undef) h2 n3 := by
 rw [zJ F99.tab]; kernel_rfl
theorem F99.L1 (Inv : Nat -> AV -> T Blk -> Pa -> Prop) {m : Nat} (hm : m < N) (hi : Inv m f h nx)
  (step : ∀ (m : Nat) (z2 z3 z7 : AV) (h : T Blk) (nx : Pa) (R : Ks Prop), Inv m z2 h nx -> (∀ (m' : Nat) (w2 w3 w7 : AV) (h' : T Blk) (nx' : Pa), m' < m -> Inv m' w2 h' nx' -> R (F99.fr b c w2 w3 e g l w7 q u a i) h' nx' = .ok True) ->
   (sNext C l h nx fun v1 h2 n3 => xq 0 v1 fun v4 => yA v4 (sEntry l h2 fun v5 => xq 1 v5 fun v6 => yN [.zf, (.bool false)] h2 n3 fun v7 h8 n9 => zO 2 v7 v6 h8 n9 fun vA hG nG => zN 2 v7 hG fun vD => jD 2 1 [.zf, (.bool false)] [(0, 2, vD)] hG nG fun vE hA nA => xQ C 2 32 z2 vE hA nA fun vH h18 n19 => R (F99.fr b c vH v7 e g l v4 q u a i) h18 n19) (K (F99.fr b c z2 z3 e g l v4 q u a i) h2 n3)) = .ok True) :
  IR.run F99.b1 C N (fnO F99.res K0) K (F99.fr b c f d e g l p q u a i) h nx = .ok True := by
 rw [F99.b1, F99.bU, F99.b2];refine yM (fun m tm h nx => ∃ z2 z3 z7, tm = (F99.fr b c z2 z3 e g l z7 q u a i) /\ Inv m z2 h nx) ?_ hm ⟨_, _, _, rfl, hi⟩;rintro m tm h nx R ⟨z2, z3, z7, rfl, hi⟩ hR;refine Eq.trans ?_ (step m z2 z3 z7 h nx R hi fun m' w2 w3 w7 h' nx' hlt hi' => hR m' _ h' nx' hlt ⟨_, _, _, rfl, hi'⟩)
 kernel_rfl
theorem F99.k6 : IR.run F99.b6 C N (fnO F99.res K0) K (F99.fr b c f d e g l p q u a i) h nx =
 C.fn 164 (.of 164) [f, (.fn 162 (.of 162) [])] h nx fun v1 h2 n3 => sLen f fun v4 => IR.run F99.b7 C N (fnO F99.res K0) (IR.run F99.b14 C N (fnO F99.res K0) K) (F99.fr b c f d .zf g l p f v4 (I 0) i) h2 n3 := by kernel_rfl
theorem F99.L7 (Inv : Nat -> AV -> AV -> T Blk -> Pa -> Prop) {m : Nat} (hm : m < N) (hi : Inv m e a h nx)
  (step : ∀ (m : Nat) (z4 z5 zI zA : AV) (h : T Blk) (nx : Pa) (R : Ks Prop), Inv m z4 zI h nx -> (∀ (m' : Nat) (w4 w5 wI wB : AV) (h' : T Blk) (nx' : Pa), m' < m -> Inv m' w4 wI h' nx' -> R (F99.fr b c f d w4 w5 l p q u wI wB) h' nx' = .ok True) ->
   (zu .lss .int zI u fun v1 => yA v1 (zS 2 q zI fun v2 => zN 2 v2 h fun v3 => yN [.zf, (.bool false)] h nx fun v4 h5 n6 => zO 2 v4 v3 h5 n6 fun v7 h8 n9 => zN 2 v4 h8 fun vA => jD 2 1 [.zf, (.bool false)] [(0, 2, vA)] h8 n9 fun vB hB nB => xQ C 2 32 z4 vB hB nB fun vE hA nA => zu .add .int zI (I 1) fun vH => R (F99.fr b c f d vE v4 l p q u vH v1) hA nA) (K (F99.fr b c f d z4 z5 l p q u zI v1) h nx)) = .ok True) :
  IR.run F99.b7 C N (fnO F99.res K0) K (F99.fr b c f d e g l p q u a i) h nx = .ok True := by
 rw [F99.b7, F99.g7_eq, F99.b8];refine yM (fun m tm h nx => ∃ z4 z5 zI zA, tm = (F99.fr b c f d z4 z5 l p q u zI zA) /\ Inv m z4 zI h nx) ?_ hm ⟨_, _, _, _, rfl, hi⟩;rintro m tm h nx R ⟨z4, z5, zI, zA, rfl, hi⟩ hR;refine Eq.trans ?_ (step m z4 z5 zI zA h nx R hi fun m' w4 w5 wI wB h' nx' hlt hi' => hR m' _ h' nx' hlt ⟨_, _, _, _, rfl, hi'⟩)
 kernel_rfl
theorem F99.k14 : IR.run F99.b14 C N (fnO F99.res K0) K (F99.fr b c f d e g l p q u a i) h nx =
 K0 e h nx := by kernel_rfl
end Go.Ev
namespace Go.Ev
open Go Go.Proofs
set_option maxRecDepth 100000
section
variable {N : Nat} {C : Calls Prop} {K0 : Kw Prop} {K : Ks Prop} {h : T Blk} {nx : Pa} {b c f d e g l p q u a i o s v w y z A B a0 a1 a2 : AV} {O : uy Prop} {tm : T AV} {Kt : KTm} {r : List RO} {s0 s1 s2 s3 s4 s5 s6 s7 s8 s9 s10 s11 s12 s13 s14 s15 s16 s17 s18 s19 s20 s21 s22 s23 s24 s25 s26 s27 s28 s29 s30 s31 s32 s33 s34 s35 s36 s37 s38 s39 : AV}
def F39.t0 : IR := .reg [.w (.loc (.of 3)) none (.box (.t (.of 1))), .q (.of 4) (.mv (.c .zf)), .q (.of 5) (.mv (.c (I 0)))]
def F39.t1 : IR := .reg [.s (.mv (.t (.of 0))), .s (.load (.t (.of 3))), .s (.mv (.t (.of 2))), .w .push none (.call (.c (.fn 120 (.of 120) [])) [(.s 2), (.s 1), (.s 0)]), .s (.mv (.s 0)), .s (.ext 0 (.s 0)), .s (.ext 1 (.s 1)), .s (.ext 2 (.s 2)), .w .push none (.alloc [.zf, .zf]), .s (.mv (.s 3)), .w .none none (.store 2 (.s 1) (.s 3)), .q (.of 6) (.mv (.s 2))]
def F39.t2 : IR := .reg [.s (.mv (.t (.of 6))), .q (.of 12) (.bin .neq .int (.s 0) (.c (I 0)))]
def F39.t3 : IR := .reg [.s (.mv (.t (.of 6))), .q (.of 4) (.mv (.c .zf)), .q (.of 5) (.mv (.s 0))]
def F39.t4 : IR := .seq F39.t3 .ret
def F39.t5 : IR := .cond (.t (.of 12)) F39.t4 .skip
def F39.t6 : IR := .seq F39.t2 F39.t5
def F39.t7 : IR := .seq F39.t1 F39.t6
def F39.t8 : IR := .reg [.w .push none .fH, .w (.loc (.of 7)) none (.alloc [.jv]), .w .none none (.store 1 (.t (.of 7)) (.s 0))]
def F39.t9 : IR := .reg [.w (.loc (.of 8)) none (.alloc [.zf])]
def F39.t10 : IR := .reg [.s (.mv (.t (.of 0))), .w (.loc (.of 13)) none (.call (.c (.fn 90 (.of 90) [])) [(.s 0)])]
def F39.t11 : IR := .reg [.w (.loc (.of 9)) none (.alloc [.zf, (.bool false)]), .w .none none (.store 2 (.t (.of 9)) (.t (.of 15)))]
def F39.t12 : IR := .reg [.s (.load (.t (.of 7))), .s (.zi 2 (.t (.of 9))), .w (.loc (.of 16)) none (.call (.c (.fn 121 (.of 121) [])) [(.s 1), (.s 0)])]
def F39.t13 : IR := .cond (.t (.of 16)) (.exit 1) .skip
def F39.t14 : IR := .seq F39.t12 F39.t13
def F39.t15 : IR := .reg [.s (.load (.t (.of 3))), .w (.loc (.of 17)) none (.call (.c (.fn 90 (.of 90) [])) [(.s 0)])]
def F39.t16 : IR := .reg [.w (.loc (.of 10)) none (.alloc [.zf, (.bool false)]), .w .none none (.store 2 (.t (.of 10)) (.t (.of 19)))]
def F39.t17 : IR := .reg [.s (.zi 2 (.t (.of 9))), .s (.zi 2 (.t (.of 10))), .w .push none (.call (.c (.fn 122 (.of 122) [])) [(.s 1), (.s 0)]), .w (.loc (.of 11)) none (.alloc [.zf, (.bool false)]), .w .none none (.store 2 (.t (.of 11)) (.s 0))]
def F39.t18 : IR := .yt [] [(.s (.load (.t (.of 7))), 1, []), (.s (.zi 2 (.t (.of 11))), 0, []), (.s (.zi 2 (.t (.of 11))), 1, []), (.w .push none (.call (.c (.fn 123 (.of 123) [])) [(.s 1)]), 0, []), (.w .none none (.mapup .str (.s 3) (.s 0) (.s 1)), 0, [])]
def F39.t19 : IR := .seq F39.t17 F39.t18
def F39.t20 : IR := .block 3 F39.t19
def F39.t21 : IR := .rf (.t (.of 17)) [(.of 18), (.of 19)] F39.t16 F39.t20
def F39.t22 : IR := .block 2 F39.t21
def F39.t23 : IR := .seq F39.t15 F39.t22
def F39.t24 : IR := .yt [] [(.s (.load (.t (.of 8))), 2, []), (.s (.zx 0 (.t (.of 9))), 0, []), (.s (.load (.s 0)), 0, []), (.s (.zx 1 (.t (.of 9))), 1, []), (.s (.load (.s 0)), 1, []), (.w .push none (.call (.c (.fn 106 (.of 106) [])) [(.s 2)]), 0, []), (.s (.build [.zf, (.bool false)] [(0, 1, (.s 0)), (1, 1, (.s 1))]), 0, []), (.w .push none (.zy 2 1 [.zf, (.bool false)] [(0, 2, (.s 0))]), 0, []), (.w .push none (.appq 2 32 (.s 7) (.s 0)), 0, []), (.w .none none (.store 1 (.t (.of 8)) (.s 0)), 0, [])]
def F39.t25 : IR := .seq F39.t23 F39.t24
def F39.t26 : IR := .seq F39.t14 F39.t25
def F39.t27 : IR := .block 1 F39.t26
def F39.t28 : IR := .rf (.t (.of 13)) [(.of 14), (.of 15)] F39.t11 F39.t27
def F39.t29 : IR := .block 0 F39.t28
def F39.t30 : IR := .seq F39.t10 F39.t29
def F39.t31 : IR := .reg [.s (.load (.t (.of 8))), .q (.of 4) (.mv (.s 0)), .q (.of 5) (.mv (.c (I 0)))]
def F39.t32 : IR := .seq F39.t31 .ret
def F39.t33 : IR := .seq F39.t30 F39.t32
def F39.t34 : IR := .seq F39.t9 F39.t33
def F39.t35 : IR := .seq F39.t8 F39.t34
def F39.t36 : IR := .seq F39.t7 F39.t35
def F39.t37 : IR := .seq F39.t0 F39.t36
theorem F39.xu : IR.run F39.t0 C N O K (F39.fr b c f d e g l p q u a i o s v w y z A B) h nx =
 sBox c h nx fun v1 h2 n3 => K (F39.fr b c f v1 .zf (I 0) l p q u a i o s v w y z A B) h2 n3 := by kernel_rfl
theorem F39.xw : IR.run F39.t1 C N O K (F39.fr b c f d e g l p q u a i o s v w y z A B) h nx =
 zF d h fun v1 => C.fn 120 (.of 120) [b, v1, f] h nx fun v2 h3 n4 => xq 0 v2 fun v5 => xq 1 v2 fun v6 => xq 2 v2 fun v7 => yN [.zf, .zf] h3 n4 fun v8 h9 nH => zO 2 v8 v6 h9 nH fun vB hB nB => K (F39.fr b c f d e g v7 p q u a i o s v w y z A B) hB nB := by kernel_rfl
theorem F39.bQ : IR.run F39.t2 C N O K (F39.fr b c f d e g l p q u a i o s v w y z A B) h nx =
 zu .neq .int l (I 0) fun v1 => K (F39.fr b c f d e g l p q u a i v1 s v w y z A B) h nx := by kernel_rfl
theorem F39.t3_s : IR.run F39.t3 C N O K (F39.fr b c f d e g l p q u a i o s v w y z A B) h nx =
 K (F39.fr b c f d .zf l l p q u a i o s v w y z A B) h nx := by kernel_rfl
theorem F39.v12 : Arg.ev (.t (.of 12)) ⟨(F39.fr b c f d e g l p q u a i o s v w y z A B), []⟩ = o := by kernel_rfl
theorem F39.t8_s : IR.run F39.t8 C N O K (F39.fr b c f d e g l p q u a i o s v w y z A B) h nx =
 sMkmap h nx fun v1 h2 n3 => yN [.jv] h2 n3 fun v4 h5 n6 => zO 1 v4 v1 h5 n6 fun v7 h8 n9 => K (F39.fr b c f d e g l v4 q u a i o s v w y z A B) h8 n9 := by kernel_rfl
theorem F39.t9_s : IR.run F39.t9 C N O K (F39.fr b c f d e g l p q u a i o s v w y z A B) h nx =
 yN [.zf] h nx fun v1 h2 n3 => K (F39.fr b c f d e g l p v1 u a i o s v w y z A B) h2 n3 := by kernel_rfl
theorem F39.mr : IR.run F39.t10 C N O K (F39.fr b c f d e g l p q u a i o s v w y z A B) h nx =
 C.fn 90 (.of 90) [b] h nx fun v1 h2 n3 => K (F39.fr b c f d e g l p q u a i o v1 v w y z A B) h2 n3 := by kernel_rfl
theorem F39.t11_s : IR.run F39.t11 C N O K (F39.fr b c f d e g l p q u a i o s v w y z A B) h nx =
 yN [.zf, (.bool false)] h nx fun v1 h2 n3 => zO 2 v1 w h2 n3 fun v4 h5 n6 => K (F39.fr b c f d e g l p q v1 a i o s v w y z A B) h5 n6 := by kernel_rfl
theorem F39.t12_s : IR.run F39.t12 C N O K (F39.fr b c f d e g l p q u a i o s v w y z A B) h nx =
 zF p h fun v1 => zN 2 u h fun v2 => C.fn 121 (.of 121) [v1, v2] h nx fun v3 h4 n5 => K (F39.fr b c f d e g l p q u a i o s v w v3 z A B) h4 n5 := by kernel_rfl
theorem F39.v16 : Arg.ev (.t (.of 16)) ⟨(F39.fr b c f d e g l p q u a i o s v w y z A B), []⟩ = y := by kernel_rfl
theorem F39.t15_s : IR.run F39.t15 C N O K (F39.fr b c f d e g l p q u a i o s v w y z A B) h nx =
 zF d h fun v1 => C.fn 90 (.of 90) [v1] h nx fun v2 h3 n4 => K (F39.fr b c f d e g l p q u a i o s v w y v2 A B) h3 n4 := by kernel_rfl
theorem F39.cO : IR.run F39.t16 C N O K (F39.fr b c f d e g l p q u a i o s v w y z A B) h nx =
 yN [.zf, (.bool false)] h nx fun v1 h2 n3 => zO 2 v1 B h2 n3 fun v4 h5 n6 => K (F39.fr b c f d e g l p q u v1 i o s v w y z A B) h5 n6 := by kernel_rfl
theorem F39.t17_s : IR.run F39.t17 C N O K (F39.fr b c f d e g l p q u a i o s v w y z A B) h nx =
 zN 2 u h fun v1 => zN 2 a h fun v2 => C.fn 122 (.of 122) [v1, v2] h nx fun v3 h4 n5 => yN [.zf, (.bool false)] h4 n5 fun v6 h7 n8 => zO 2 v6 v3 h7 n8 fun v9 hU nU => K (F39.fr b c f d e g l p q u a v6 o s v w y z A B) hU nU := by kernel_rfl
theorem F39.t18_s : IR.run F39.t18 C N O K (F39.fr b c f d e g l p q u a i o s v w y z A B) h nx =
 zF p h fun v1 => zN 2 i h fun v2 => zN 2 i h fun v3 => C.fn 123 (.of 123) [v2] h nx fun v4 h5 n6 => (zN 2 i h5 fun vB => zM vB v3 ((zF p h5 fun vA => zM vA v1 (pY .str v1 v4 v3 h5 n6 fun v7 h8 n9 => K (F39.fr b c f d e g l p q u a i o s v w y z A B) h8 n9)))) := by kernel_rfl
theorem F39.t21_f : Arg.ev (.t (.of 17)) ⟨(F39.fr b c f d e g l p q u a i o s v w y z A B), []⟩ = z := by kernel_rfl
theorem F39.t21_b {z0 z1 : AV} (k : T AV -> OP) : yC [(.of 18), (.of 19)] [z0, z1] (F39.fr b c f d e g l p q u a i o s v w y z A B) k = k (F39.fr b c f d e g l p q u a i o s v w y z z0 z1) := by kernel_rfl
theorem F39.t24_s : IR.run F39.t24 C N O K (F39.fr b c f d e g l p q u a i o s v w y z A B) h nx =
 zF q h fun v1 => zW 0 u fun v2 => zF v2 h fun v3 => zW 1 u fun v4 => zF v4 h fun v5 => C.fn 106 (.of 106) [v3] h nx fun v6 h7 n8 => (zF v4 h7 fun vM => zM vM v5 ((zW 1 u fun vL => zM vL v4 ((zF q h7 fun vK => zM vK v1 (kV [.zf, (.bool false)] [(0, 1, v6), (1, 1, v5)] fun v9 => jD 2 1 [.zf, (.bool false)] [(0, 2, v9)] h7 n8 fun vA hG nG => (zF q hG fun vJ => zM vJ v1 (xQ C 2 32 v1 vA hG nG fun vD hH nI => zO 1 q vD hH nI fun vG hF nF => K (F39.fr b c f d e g l p q u a i o s v w y z A B) hF nF)))))))) := by kernel_rfl
theorem F39.t28_f : Arg.ev (.t (.of 13)) ⟨(F39.fr b c f d e g l p q u a i o s v w y z A B), []⟩ = s := by kernel_rfl
theorem F39.t28_b {z0 z1 : AV} (k : T AV -> OP) : yC [(.of 14), (.of 15)] [z0, z1] (F39.fr b c f d e g l p q u a i o s v w y z A B) k = k (F39.fr b c f d e g l p q u a i o s z0 z1 y z A B) := by kernel_rfl
theorem F39.t31_s : IR.run F39.t31 C N O K (F39.fr b c f d e g l p q u a i o s v w y z A B) h nx =
 zF q h fun v1 => K (F39.fr b c f d v1 (I 0) l p q u a i o s v w y z A B) h nx := by kernel_rfl
theorem F39.tab : T.get none (.of 39) tbl = some F39 := by kernel_rfl
theorem F39.bind (k : T AV -> OP) : yC F39.params [a0, a1, a2] F39.init k = k (F39.fr a0 a1 a2 .undef .undef .undef .undef .undef .undef .undef .undef .undef .undef .undef .undef .undef .undef .undef .undef .undef) := by kernel_rfl
theorem F39.yx : F39.body = F39.t37 := by kernel_rfl
theorem F39.go : zV tbl N C (.of 39) [a0, a1, a2] h nx K0 = IR.run F39.t37 C N (fnO F39.res K0) (gu F39.res K0) (F39.fr a0 a1 a2 .undef .undef .undef .undef .undef .undef .undef .undef .undef .undef .undef .undef .undef .undef .undef .undef .undef) h nx := by
 rw [zJ F39.tab, F39.bind, F39.yx]; kernel_rfl
theorem F39.ret : gu F39.res K0 (F39.fr b c f d e g l p q u a i o s v w y z A B) h nx = K0 (.tup [e, g]) h nx := by kernel_rfl
def F40.t0 : IR := .reg [.q (.of 3) (.mv (.c (.bool false))), .q (.of 4) (.mv (.c (I 0)))]
def F40.t1 : IR := .reg [.s (.mv (.t (.of 0))), .s (.mv (.t (.of 1))), .s (.mv (.t (.of 2))), .w .push none (.call (.c (.fn 120 (.of 120) [])) [(.s 2), (.s 1), (.s 0)]), .s (.mv (.s 0)), .s (.ext 0 (.s 0)), .s (.ext 1 (.s 1)), .s (.ext 2 (.s 2)), .w (.loc (.of 6)) none (.alloc [.zf, .zf]), .q (.of 5) (.mv (.s 2)), .w .none none (.store 2 (.t (.of 6)) (.s 1)), .q (.of 7) (.mv (.s 0))]
def F40.t2 : IR := .reg [.s (.mv (.t (.of 7))), .q (.of 10) (.bin .neq .int (.s 0) (.c (I 0)))]
def F40.t3 : IR := .reg [.s (.mv (.t (.of 7))), .q (.of 3) (.mv (.c (.bool false))), .q (.of 4) (.mv (.s 0))]
def F40.t4 : IR := .seq F40.t3 .ret
def F40.t5 : IR := .cond (.t (.of 10)) F40.t4 .skip
def F40.t6 : IR := .seq F40.t2 F40.t5
def F40.t7 : IR := .reg [.s (.aaddr 1 2 (.t (.of 6)) (.c (I 0))), .q (.of 11) (.load (.s 0)), .q (.of 12) (.len (.t (.of 11))), .q (.of 13) (.mv (.c (I 0)))]
def F40.t8 : IR := .reg [.q (.of 14) (.bin .lss .int (.t (.of 13)) (.t (.of 12)))]
def F40.t9 : IR := .cond (.t (.of 14)) .skip (.exit 0)
def F40.t10 : IR := .reg [.s (.zn 2 (.t (.of 11)) (.t (.of 13))), .s (.zi 2 (.s 0)), .w (.loc (.of 8)) none (.alloc [.zf, (.bool false)]), .w .none none (.store 2 (.t (.of 8)) (.s 0))]
def F40.t11 : IR := .reg [.s (.aaddr 1 2 (.t (.of 6)) (.c (I 1))), .q (.of 15) (.load (.s 0)), .q (.of 16) (.len (.t (.of 15))), .q (.of 17) (.mv (.c (I 0)))]
def F40.t12 : IR := .reg [.q (.of 18) (.bin .lss .int (.t (.of 17)) (.t (.of 16)))]
def F40.t13 : IR := .cond (.t (.of 18)) .skip (.exit 2)
def F40.t14 : IR := .reg [.s (.zn 2 (.t (.of 15)) (.t (.of 17))), .s (.zi 2 (.s 0)), .w (.loc (.of 9)) none (.alloc [.zf, (.bool false)]), .w .none none (.store 2 (.t (.of 9)) (.s 0))]
def F40.t15 : IR := .yt [] [(.s (.mv (.t (.of 5))), 3, []), (.s (.zi 2 (.t (.of 8))), 0, []), (.s (.zi 2 (.t (.of 9))), 0, []), (.s (.zi 2 (.t (.of 8))), 1, []), (.w .push none (.call (.c (.fn 122 (.of 122) [])) [(.s 2), (.s 1)]), 0, []), (.w .push none (.call (.c (.fn 124 (.of 124) [])) [(.s 1)]), 0, []), (.w .push none (.call (.c (.fn 122 (.of 122) [])) [(.s 1), (.s 0)]), 0, []), (.w .push none (.call (.c (.fn 121 (.of 121) [])) [(.s 6), (.s 0)]), 0, []), (.q (.of 19) (.not (.s 0)), 0, [])]
def F40.t16 : IR := .reg [.q (.of 3) (.mv (.c (.bool false))), .q (.of 4) (.mv (.c (I 0)))]
def F40.t17 : IR := .seq F40.t16 .ret
def F40.t18 : IR := .cond (.t (.of 19)) F40.t17 .skip
def F40.t19 : IR := .seq F40.t15 F40.t18
def F40.t20 : IR := .seq F40.t14 F40.t19
def F40.t21 : IR := .block 3 F40.t20
def F40.t22 : IR := .reg [.s (.bin .add .int (.t (.of 17)) (.c (I 1))), .q (.of 17) (.mv (.s 0))]
def F40.t23 : IR := .seq F40.t21 F40.t22
def F40.t24 : IR := .seq F40.t13 F40.t23
def F40.t25 : IR := .seq F40.t12 F40.t24
def F40.t26 : IR := .loop F40.t25
def F40.t27 : IR := .block 2 F40.t26
def F40.t28 : IR := .seq F40.t11 F40.t27
def F40.t29 : IR := .seq F40.t10 F40.t28
def F40.t30 : IR := .block 1 F40.t29
def F40.t31 : IR := .reg [.s (.bin .add .int (.t (.of 13)) (.c (I 1))), .q (.of 13) (.mv (.s 0))]
def F40.t32 : IR := .seq F40.t30 F40.t31
def F40.t33 : IR := .seq F40.t9 F40.t32
def F40.t34 : IR := .seq F40.t8 F40.t33
def F40.t35 : IR := .loop F40.t34
def F40.t36 : IR := .block 0 F40.t35
def F40.t37 : IR := .seq F40.t7 F40.t36
def F40.t38 : IR := .reg [.q (.of 3) (.mv (.c (.bool true))), .q (.of 4) (.mv (.c (I 0)))]
def F40.t39 : IR := .seq F40.t38 .ret
def F40.t40 : IR := .seq F40.t37 F40.t39
def F40.t41 : IR := .seq F40.t6 F40.t40
def F40.t42 : IR := .seq F40.t1 F40.t41
def F40.t43 : IR := .seq F40.t0 F40.t42
theorem F40.xu : IR.run F40.t0 C N O K (F40.fr b c f d e g l p q u a i o s v w y z A B) h nx =
 K (F40.fr b c f (.bool false) (I 0) g l p q u a i o s v w y z A B) h nx := by kernel_rfl
theorem F40.xw : IR.run F40.t1 C N O K (F40.fr b c f d e g l p q u a i o s v w y z A B) h nx =
 C.fn 120 (.of 120) [b, c, f] h nx fun v1 h2 n3 => xq 0 v1 fun v4 => xq 1 v1 fun v5 => xq 2 v1 fun v6 => yN [.zf, .zf] h2 n3 fun v7 h8 n9 => zO 2 v7 v5 h8 n9 fun vA hG nG => K (F40.fr b c f d e v4 v7 v6 q u a i o s v w y z A B) hG nG := by kernel_rfl
theorem F40.bQ : IR.run F40.t2 C N O K (F40.fr b c f d e g l p q u a i o s v w y z A B) h nx =
 zu .neq .int p (I 0) fun v1 => K (F40.fr b c f d e g l p q u v1 i o s v w y z A B) h nx := by kernel_rfl
theorem F40.t3_s : IR.run F40.t3 C N O K (F40.fr b c f d e g l p q u a i o s v w y z A B) h nx =
 K (F40.fr b c f (.bool false) p g l p q u a i o s v w y z A B) h nx := by kernel_rfl
theorem F40.v10 : Arg.ev (.t (.of 10)) ⟨(F40.fr b c f d e g l p q u a i o s v w y z A B), []⟩ = a := by kernel_rfl
theorem F40.t7_s : IR.run F40.t7 C N O K (F40.fr b c f d e g l p q u a i o s v w y z A B) h nx =
 dJ 1 2 l (I 0) fun v1 => zF v1 h fun v2 => sLen v2 fun v3 => K (F40.fr b c f d e g l p q u a v2 v3 (I 0) v w y z A B) h nx := by kernel_rfl
theorem F40.t8_s : IR.run F40.t8 C N O K (F40.fr b c f d e g l p q u a i o s v w y z A B) h nx =
 zu .lss .int s o fun v1 => K (F40.fr b c f d e g l p q u a i o s v1 w y z A B) h nx := by kernel_rfl
theorem F40.v14 : Arg.ev (.t (.of 14)) ⟨(F40.fr b c f d e g l p q u a i o s v w y z A B), []⟩ = v := by kernel_rfl
theorem F40.mr : IR.run F40.t10 C N O K (F40.fr b c f d e g l p q u a i o s v w y z A B) h nx =
 zS 2 i s fun v1 => zN 2 v1 h fun v2 => yN [.zf, (.bool false)] h nx fun v3 h4 n5 => zO 2 v3 v2 h4 n5 fun v6 h7 n8 => K (F40.fr b c f d e g l p v3 u a i o s v w y z A B) h7 n8 := by kernel_rfl
theorem F40.t11_s : IR.run F40.t11 C N O K (F40.fr b c f d e g l p q u a i o s v w y z A B) h nx =
 dJ 1 2 l (I 1) fun v1 => zF v1 h fun v2 => sLen v2 fun v3 => K (F40.fr b c f d e g l p q u a i o s v v2 v3 (I 0) A B) h nx := by kernel_rfl
theorem F40.t12_s : IR.run F40.t12 C N O K (F40.fr b c f d e g l p q u a i o s v w y z A B) h nx =
 zu .lss .int z y fun v1 => K (F40.fr b c f d e g l p q u a i o s v w y z v1 B) h nx := by kernel_rfl
theorem F40.v18 : Arg.ev (.t (.of 18)) ⟨(F40.fr b c f d e g l p q u a i o s v w y z A B), []⟩ = A := by kernel_rfl
theorem F40.t14_s : IR.run F40.t14 C N O K (F40.fr b c f d e g l p q u a i o s v w y z A B) h nx =
 zS 2 w z fun v1 => zN 2 v1 h fun v2 => yN [.zf, (.bool false)] h nx fun v3 h4 n5 => zO 2 v3 v2 h4 n5 fun v6 h7 n8 => K (F40.fr b c f d e g l p q v3 a i o s v w y z A B) h7 n8 := by kernel_rfl
theorem F40.t15_s : IR.run F40.t15 C N O K (F40.fr b c f d e g l p q u a i o s v w y z A B) h nx =
 zN 2 q h fun v1 => zN 2 u h fun v2 => zN 2 q h fun v3 => C.fn 122 (.of 122) [v1, v2] h nx fun v4 h5 n6 => (zN 2 q h5 fun vH => zM vH v3 (zM g g (C.fn 124 (.of 124) [v3] h5 n6 fun v7 h8 n9 => zM g g (C.fn 122 (.of 122) [v4, v7] h8 n9 fun vA hG nG => zM g g (C.fn 121 (.of 121) [g, vA] hG nG fun vD hH nI => sNot vD fun vG => K (F40.fr b c f d e g l p q u a i o s v w y z A vG) hH nI))))) := by kernel_rfl
theorem F40.cO : IR.run F40.t16 C N O K (F40.fr b c f d e g l p q u a i o s v w y z A B) h nx =
 K (F40.fr b c f (.bool false) (I 0) g l p q u a i o s v w y z A B) h nx := by kernel_rfl
theorem F40.v19 : Arg.ev (.t (.of 19)) ⟨(F40.fr b c f d e g l p q u a i o s v w y z A B), []⟩ = B := by kernel_rfl
theorem F40.t22_s : IR.run F40.t22 C N O K (F40.fr b c f d e g l p q u a i o s v w y z A B) h nx =
 zu .add .int z (I 1) fun v1 => K (F40.fr b c f d e g l p q u a i o s v w y v1 A B) h nx := by kernel_rfl
theorem F40.t26_L (Inv : Nat -> AV -> T Blk -> Pa -> Prop) {m : Nat} (hm : m < N) (hi : Inv m z h nx)
  (step : ∀ (m : Nat) (z3 z4 z9 zH zK zL : AV) (h : T Blk) (nx : Pa) (R : Ks Prop), Inv m zH h nx -> (∀ (m' : Nat) (w3 w4 w9 wH wJ wK : AV) (h' : T Blk) (nx' : Pa), m' < m -> Inv m' wH h' nx' -> R (F40.fr b c f w3 w4 g l p q w9 a i o s v w y wH wJ wK) h' nx' = .ok True) -> IR.run F40.t25 C N O R (F40.fr b c f z3 z4 g l p q z9 a i o s v w y zH zK zL) h nx = .ok True) :
  IR.run F40.t26 C N O K (F40.fr b c f d e g l p q u a i o s v w y z A B) h nx = .ok True := by
 rw [F40.t26];refine yM (fun m tm h nx => ∃ z3 z4 z9 zH zK zL, tm = (F40.fr b c f z3 z4 g l p q z9 a i o s v w y zH zK zL) /\ Inv m zH h nx) ?_ hm ⟨_, _, _, _, _, _, rfl, hi⟩;rintro m tm h nx R ⟨z3, z4, z9, zH, zK, zL, rfl, hi⟩ hR;exact step m z3 z4 z9 zH zK zL h nx R hi fun m' w3 w4 w9 wH wJ wK h' nx' hlt hi' => hR m' _ h' nx' hlt ⟨_, _, _, _, _, _, rfl, hi'⟩
theorem F40.t31_s : IR.run F40.t31 C N O K (F40.fr b c f d e g l p q u a i o s v w y z A B) h nx =
 zu .add .int s (I 1) fun v1 => K (F40.fr b c f d e g l p q u a i o v1 v w y z A B) h nx := by kernel_rfl
theorem F40.t35_L (Inv : Nat -> AV -> T Blk -> Pa -> Prop) {m : Nat} (hm : m < N) (hi : Inv m s h nx)
  (step : ∀ (m : Nat) (z3 z4 z8 z9 zC zD zE zG zH zK zL : AV) (h : T Blk) (nx : Pa) (R : Ks Prop), Inv m zC h nx -> (∀ (m' : Nat) (w3 w4 w8 w9 wD wE wF wG wH wJ wK : AV) (h' : T Blk) (nx' : Pa), m' < m -> Inv m' wD h' nx' -> R (F40.fr b c f w3 w4 g l p w8 w9 a i o wD wE wF wG wH wJ wK) h' nx' = .ok True) -> IR.run F40.t34 C N O R (F40.fr b c f z3 z4 g l p z8 z9 a i o zC zD zE zG zH zK zL) h nx = .ok True) :
  IR.run F40.t35 C N O K (F40.fr b c f d e g l p q u a i o s v w y z A B) h nx = .ok True := by
 rw [F40.t35];refine yM (fun m tm h nx => ∃ z3 z4 z8 z9 zC zD zE zG zH zK zL, tm = (F40.fr b c f z3 z4 g l p z8 z9 a i o zC zD zE zG zH zK zL) /\ Inv m zC h nx) ?_ hm ⟨_, _, _, _, _, _, _, _, _, _, _, rfl, hi⟩;rintro m tm h nx R ⟨z3, z4, z8, z9, zC, zD, zE, zG, zH, zK, zL, rfl, hi⟩ hR;exact step m z3 z4 z8 z9 zC zD zE zG zH zK zL h nx R hi fun m' w3 w4 w8 w9 wD wE wF wG wH wJ wK h' nx' hlt hi' => hR m' _ h' nx' hlt ⟨_, _, _, _, _, _, _, _, _, _, _, rfl, hi'⟩
theorem F40.t38_s : IR.run F40.t38 C N O K (F40.fr b c f d e g l p q u a i o s v w y z A B) h nx =
 K (F40.fr b c f (.bool true) (I 0) g l p q u a i o s v w y z A B) h nx := by kernel_rfl
theorem F40.tab : T.get none (.of 40) tbl = some F40 := by kernel_rfl
theorem F40.bind (k : T AV -> OP) : yC F40.params [a0, a1, a2] F40.init k = k (F40.fr a0 a1 a2 .undef .undef .undef .undef .undef .undef .undef .undef .undef .undef .undef .undef .undef .undef .undef .undef .undef) := by kernel_rfl
theorem F40.yx : F40.body = F40.t43 := by kernel_rfl
theorem F40.go : zV tbl N C (.of 40) [a0, a1, a2] h nx K0 = IR.run F40.t43 C N (fnO F40.res K0) (gu F40.res K0) (F40.fr a0 a1 a2 .undef .undef .undef .undef .undef .undef .undef .undef .undef .undef .undef .undef .undef .undef .undef .undef .undef) h nx := by
 rw [zJ F40.tab, F40.bind, F40.yx]; kernel_rfl
theorem F40.ret : gu F40.res K0 (F40.fr b c f d e g l p q u a i o s v w y z A B) h nx = K0 (.tup [d, e]) h nx := by kernel_rfl
end
end Go.Ev
namespace Go.Ev
open Go Go.Proofs
set_option maxRecDepth 100000
section
variable {N : Nat} {C : Calls Prop} {K0 : Kw Prop} {K : Ks Prop} {h : T Blk} {nx : Pa} {b c f d e g l p q u a0 : AV} {O : uy Prop} {tm : T AV} {Kt : KTm} {r : List RO} {s0 s1 s2 s3 s4 s5 s6 s7 s8 s9 s10 s11 s12 s13 s14 s15 s16 s17 s18 s19 s20 s21 s22 s23 s24 s25 s26 s27 s28 s29 s30 s31 s32 s33 s34 s35 s36 s37 s38 s39 : AV}
def yj.t0 : IR := .reg [.w (.loc (.of 1)) none (.box (.t (.of 0))), .w (.loc (.of 2)) none (.alloc [.zf, (.bool false)])]
def yj.t1 : IR := .yt [(.alloc [.zf, (.bool false)])] [(.s (.zx 0 (.t (.of 1))), 2, []), (.s (.load (.s 0)), 2, []), (.s (.len (.s 0)), 2, [(.um 1 8 [(I 0)] (.s 0) (.s 0))]), (.s (.zx 1 (.t (.of 1))), 2, []), (.s (.load (.s 0)), 2, []), (.w .push none (.um 1 8 [(I 0)] (.s 2) (.s 2)), 0, []), (.s (.build [.zf, (.bool false)] [(0, 1, (.s 0)), (1, 1, (.s 1))]), 1, []), (.w (.loc (.of 3)) none (.alloc [.zf, (.bool false)]), 0, []), (.w .none none (.store 2 (.t (.of 3)) (.s 0)), 0, [])]
def yj.t2 : IR := .reg [.s (.zx 0 (.t (.of 1))), .q (.of 6) (.load (.s 0)), .q (.of 7) (.len (.t (.of 6))), .q (.of 8) (.mv (.c (I 0)))]
def yj.t3 : IR := .reg [.q (.of 9) (.bin .lss .int (.t (.of 8)) (.t (.of 7)))]
def yj.t4 : IR := .cond (.t (.of 9)) .skip (.exit 0)
def yj.t5 : IR := .reg [.s (.mv (.t (.of 8))), .s (.zn 1 (.t (.of 6)) (.t (.of 8))), .s (.load (.s 0)), .q (.of 4) (.mv (.s 2)), .q (.of 5) (.mv (.s 0))]
def yj.t6 : IR := .reg [.s (.zx 0 (.t (.of 3))), .s (.load (.s 0)), .s (.mv (.t (.of 5))), .s (.mv (.t (.of 4))), .s (.zn 1 (.s 2) (.s 1)), .w .none none (.store 1 (.s 0) (.s 1))]
def yj.t7 : IR := .seq yj.t5 yj.t6
def yj.t8 : IR := .block 1 yj.t7
def yj.t9 : IR := .reg [.s (.bin .add .int (.t (.of 8)) (.c (I 1))), .q (.of 8) (.mv (.s 0))]
def yj.t10 : IR := .seq yj.t8 yj.t9
def yj.t11 : IR := .seq yj.t4 yj.t10
def yj.t12 : IR := .seq yj.t3 yj.t11
def yj.t13 : IR := .loop yj.t12
def yj.t14 : IR := .block 0 yj.t13
def yj.t15 : IR := .seq yj.t2 yj.t14
def yj.t16 : IR := .reg [.s (.zi 2 (.t (.of 3))), .w .none none (.store 2 (.t (.of 2)) (.s 0))]
def yj.t17 : IR := .seq yj.t16 .ret
def yj.t18 : IR := .seq yj.t15 yj.t17
def yj.t19 : IR := .seq yj.t1 yj.t18
def yj.t20 : IR := .seq yj.t0 yj.t19
theorem yj.xu : IR.run yj.t0 C N O K (yj.fr b c f d e g l p q u) h nx =
 sBox b h nx fun v1 h2 n3 => yN [.zf, (.bool false)] h2 n3 fun v4 h5 n6 => K (yj.fr b v1 v4 d e g l p q u) h5 n6 := by kernel_rfl
theorem yj.xw : IR.run yj.t1 C N O K (yj.fr b c f d e g l p q u) h nx =
 sChk (true && true) (zW 0 c fun v1 => zF v1 h fun v2 => sLen v2 fun v3 => sChk (mkSl 8 v3 v3 && true) (zW 1 c fun v4 => zF v4 h fun v5 => uS 1 8 [(I 0)] v3 v3 h nx fun v6 h7 n8 => (zF v4 h7 fun vU => zM vU v5 ((zW 1 c fun v25 => zM v25 v4 ((sLen v2 fun vO => zM vO v3 ((zF v1 h7 fun vN => zM vN v2 ((zW 0 c fun vM => zM vM v1 (kV [.zf, (.bool false)] [(0, 1, v6), (1, 1, v5)] fun v9 => yN [.zf, (.bool false)] h7 n8 fun vA hG nG => (kV [.zf, (.bool false)] [(0, 1, v6), (1, 1, v5)] fun vL => zM vL v9 ((zF v4 hG fun vK => zM vK v5 ((zW 1 c fun vJ => zM vJ v4 ((sLen v2 fun vI => zM vI v3 ((zF v1 hG fun vH => zM vH v2 ((zW 0 c fun vG => zM vG v1 (zO 2 vA v9 hG nG fun vD hH nI => K (yj.fr b c f vA e g l p q u) hH nI)))))))))))))))))))))))) := by kernel_rfl
theorem yj.bQ : IR.run yj.t2 C N O K (yj.fr b c f d e g l p q u) h nx =
 zW 0 c fun v1 => zF v1 h fun v2 => sLen v2 fun v3 => K (yj.fr b c f d e g v2 v3 (I 0) u) h nx := by kernel_rfl
theorem yj.t3_s : IR.run yj.t3 C N O K (yj.fr b c f d e g l p q u) h nx =
 zu .lss .int q p fun v1 => K (yj.fr b c f d e g l p q v1) h nx := by kernel_rfl
theorem yj.v9 : Arg.ev (.t (.of 9)) ⟨(yj.fr b c f d e g l p q u), []⟩ = u := by kernel_rfl
theorem yj.t5_s : IR.run yj.t5 C N O K (yj.fr b c f d e g l p q u) h nx =
 zS 1 l q fun v1 => zF v1 h fun v2 => K (yj.fr b c f d q v2 l p q u) h nx := by kernel_rfl
theorem yj.t6_s : IR.run yj.t6 C N O K (yj.fr b c f d e g l p q u) h nx =
 zW 0 d fun v1 => zF v1 h fun v2 => zS 1 v2 g fun v3 => zO 1 v3 e h nx fun v4 h5 n6 => K (yj.fr b c f d e g l p q u) h5 n6 := by kernel_rfl
theorem yj.t9_s : IR.run yj.t9 C N O K (yj.fr b c f d e g l p q u) h nx =
 zu .add .int q (I 1) fun v1 => K (yj.fr b c f d e g l p v1 u) h nx := by kernel_rfl
theorem yj.t13_L (Inv : Nat -> AV -> T Blk -> Pa -> Prop) {m : Nat} (hm : m < N) (hi : Inv m q h nx)
  (step : ∀ (m : Nat) (z4 z5 z8 z9 : AV) (h : T Blk) (nx : Pa) (R : Ks Prop), Inv m z8 h nx -> (∀ (m' : Nat) (w4 w5 w8 w9 : AV) (h' : T Blk) (nx' : Pa), m' < m -> Inv m' w8 h' nx' -> R (yj.fr b c f d w4 w5 l p w8 w9) h' nx' = .ok True) -> IR.run yj.t12 C N O R (yj.fr b c f d z4 z5 l p z8 z9) h nx = .ok True) :
  IR.run yj.t13 C N O K (yj.fr b c f d e g l p q u) h nx = .ok True := by
 rw [yj.t13];refine yM (fun m tm h nx => ∃ z4 z5 z8 z9, tm = (yj.fr b c f d z4 z5 l p z8 z9) /\ Inv m z8 h nx) ?_ hm ⟨_, _, _, _, rfl, hi⟩;rintro m tm h nx R ⟨z4, z5, z8, z9, rfl, hi⟩ hR;exact step m z4 z5 z8 z9 h nx R hi fun m' w4 w5 w8 w9 h' nx' hlt hi' => hR m' _ h' nx' hlt ⟨_, _, _, _, rfl, hi'⟩
theorem yj.cO : IR.run yj.t16 C N O K (yj.fr b c f d e g l p q u) h nx =
 zN 2 d h fun v1 => zO 2 f v1 h nx fun v2 h3 n4 => K (yj.fr b c f d e g l p q u) h3 n4 := by kernel_rfl
theorem yj.tab : T.get none (.of 124) tbl = some yj := by kernel_rfl
theorem yj.bind (k : T AV -> OP) : yC yj.params [a0] yj.init k = k (yj.fr a0 .undef .undef .undef .undef .undef .undef .undef .undef .undef) := by kernel_rfl
theorem yj.yx : yj.body = yj.t20 := by kernel_rfl
theorem yj.go : zV tbl N C (.of 124) [a0] h nx K0 = IR.run yj.t20 C N (fnO yj.res K0) (gu yj.res K0) (yj.fr a0 .undef .undef .undef .undef .undef .undef .undef .undef .undef) h nx := by
 rw [zJ yj.tab, yj.bind, yj.yx]; kernel_rfl
theorem yj.ret : gu yj.res K0 (yj.fr b c f d e g l p q u) h nx = zN 2 f h fun v1 => K0 v1 h nx := by kernel_rfl
end
end Go.Ev
namespace Go.Ev
open Go Go.Proofs
set_option maxRecDepth 100000
section
variable {N : Nat} {C : Calls Prop} {K0 : Kw Prop} {K : Ks Prop} {h : T Blk} {nx : Pa} {b c f d e g l p q u a i a0 a1 a2 : AV} {O : uy Prop} {tm : T AV} {Kt : KTm} {r : List RO} {s0 s1 s2 s3 s4 s5 s6 s7 s8 s9 s10 s11 s12 s13 s14 s15 s16 s17 s18 s19 s20 s21 s22 s23 s24 s25 s26 s27 s28 s29 s30 s31 s32 s33 s34 s35 s36 s37 s38 s39 : AV}
def F42.t0 : IR := .reg [.q (.of 2) (.mv (.c (.bool false)))]
def F42.t1 : IR := .reg [.q (.of 3) (.mv (.c (I 0)))]
def F42.t2 : IR := .reg [.s (.mv (.t (.of 3))), .s (.mv (.t (.of 0))), .s (.len (.s 0)), .q (.of 4) (.bin .lss .int (.s 2) (.s 0))]
def F42.t3 : IR := .cond (.t (.of 4)) .skip (.exit 0)
def F42.t4 : IR := .seq F42.t2 F42.t3
def F42.t5 : IR := .reg [.s (.mv (.t (.of 1))), .s (.mv (.t (.of 0))), .s (.mv (.t (.of 3))), .s (.zn 2 (.s 1) (.s 0)), .s (.zi 2 (.s 0)), .w .push none (.call (.c (.fn 84 (.of 84) [])) [(.s 4), (.s 0)]), .q (.of 5) (.bin .lss .int (.s 0) (.c (I 0)))]
def F42.t6 : IR := .reg [.q (.of 2) (.mv (.c (.bool false)))]
def F42.t7 : IR := .seq F42.t6 .ret
def F42.t8 : IR := .cond (.t (.of 5)) F42.t7 .skip
def F42.t9 : IR := .seq F42.t5 F42.t8
def F42.t10 : IR := .block 1 F42.t9
def F42.t11 : IR := .reg [.s (.mv (.t (.of 3))), .s (.bin .add .int (.s 0) (.c (I 1))), .q (.of 3) (.mv (.s 0))]
def F42.t12 : IR := .seq F42.t10 F42.t11
def F42.t13 : IR := .seq F42.t4 F42.t12
def F42.t14 : IR := .loop F42.t13
def F42.t15 : IR := .block 0 F42.t14
def F42.t16 : IR := .seq F42.t1 F42.t15
def F42.t17 : IR := .reg [.q (.of 2) (.mv (.c (.bool true)))]
def F42.t18 : IR := .seq F42.t17 .ret
def F42.t19 : IR := .seq F42.t16 F42.t18
def F42.t20 : IR := .seq F42.t0 F42.t19
theorem F42.xu : IR.run F42.t0 C N O K (F42.fr b c f d e g) h nx =
 K (F42.fr b c (.bool false) d e g) h nx := by kernel_rfl
theorem F42.xw : IR.run F42.t1 C N O K (F42.fr b c f d e g) h nx =
 K (F42.fr b c f (I 0) e g) h nx := by kernel_rfl
theorem F42.bQ : IR.run F42.t2 C N O K (F42.fr b c f d e g) h nx =
 sLen b fun v1 => zu .lss .int d v1 fun v2 => K (F42.fr b c f d v2 g) h nx := by kernel_rfl
theorem F42.v4 : Arg.ev (.t (.of 4)) ⟨(F42.fr b c f d e g), []⟩ = e := by kernel_rfl
theorem F42.t5_s : IR.run F42.t5 C N O K (F42.fr b c f d e g) h nx =
 zS 2 b d fun v1 => zN 2 v1 h fun v2 => C.fn 84 (.of 84) [c, v2] h nx fun v3 h4 n5 => zu .lss .int v3 (I 0) fun v6 => K (F42.fr b c f d e v6) h4 n5 := by kernel_rfl
theorem F42.t6_s : IR.run F42.t6 C N O K (F42.fr b c f d e g) h nx =
 K (F42.fr b c (.bool false) d e g) h nx := by kernel_rfl
theorem F42.v5 : Arg.ev (.t (.of 5)) ⟨(F42.fr b c f d e g), []⟩ = g := by kernel_rfl
theorem F42.t11_s : IR.run F42.t11 C N O K (F42.fr b c f d e g) h nx =
 zu .add .int d (I 1) fun v1 => K (F42.fr b c f v1 e g) h nx := by kernel_rfl
theorem F42.t14_L (Inv : Nat -> AV -> T Blk -> Pa -> Prop) {m : Nat} (hm : m < N) (hi : Inv m d h nx)
  (step : ∀ (m : Nat) (z2 z3 z4 z5 : AV) (h : T Blk) (nx : Pa) (R : Ks Prop), Inv m z3 h nx -> (∀ (m' : Nat) (w2 w3 w4 w5 : AV) (h' : T Blk) (nx' : Pa), m' < m -> Inv m' w3 h' nx' -> R (F42.fr b c w2 w3 w4 w5) h' nx' = .ok True) -> IR.run F42.t13 C N O R (F42.fr b c z2 z3 z4 z5) h nx = .ok True) :
  IR.run F42.t14 C N O K (F42.fr b c f d e g) h nx = .ok True := by
 rw [F42.t14];refine yM (fun m tm h nx => ∃ z2 z3 z4 z5, tm = (F42.fr b c z2 z3 z4 z5) /\ Inv m z3 h nx) ?_ hm ⟨_, _, _, _, rfl, hi⟩;rintro m tm h nx R ⟨z2, z3, z4, z5, rfl, hi⟩ hR;exact step m z2 z3 z4 z5 h nx R hi fun m' w2 w3 w4 w5 h' nx' hlt hi' => hR m' _ h' nx' hlt ⟨_, _, _, _, rfl, hi'⟩
theorem F42.t17_s : IR.run F42.t17 C N O K (F42.fr b c f d e g) h nx =
 K (F42.fr b c (.bool true) d e g) h nx := by kernel_rfl
theorem F42.tab : T.get none (.of 42) tbl = some F42 := by kernel_rfl
theorem F42.bind (k : T AV -> OP) : yC F42.params [a0, a1] F42.init k = k (F42.fr a0 a1 .undef .undef .undef .undef) := by kernel_rfl
theorem F42.yx : F42.body = F42.t20 := by kernel_rfl
theorem F42.go : zV tbl N C (.of 42) [a0, a1] h nx K0 = IR.run F42.t20 C N (fnO F42.res K0) (gu F42.res K0) (F42.fr a0 a1 .undef .undef .undef .undef) h nx := by
 rw [zJ F42.tab, F42.bind, F42.yx]; kernel_rfl
theorem F42.ret : gu F42.res K0 (F42.fr b c f d e g) h nx = K0 f h nx := by kernel_rfl
end
end Go.Ev
namespace Go.Ev
open Go Go.Proofs
set_option maxRecDepth 100000
section
variable {N : Nat} {C : Calls Prop} {K0 : Kw Prop} {K : Ks Prop} {h : T Blk} {nx : Pa} {b c f d e g l p q u a i o a0 a1 : AV} {O : uy Prop} {tm : T AV} {Kt : KTm} {r : List RO} {s0 s1 s2 s3 s4 s5 s6 s7 s8 s9 s10 s11 s12 s13 s14 s15 s16 s17 s18 s19 s20 s21 s22 s23 s24 s25 s26 s27 s28 s29 s30 s31 s32 s33 s34 s35 s36 s37 s38 s39 : AV}
def F75.t0 : IR := .reg [.q (.of 2) (.mv (.c .zf)), .q (.of 3) (.mv (.c (I 0)))]
def F75.t1 : IR := .reg [.s (.mv (.t (.of 0))), .s (.mv (.t (.of 1))), .w .push none (.call (.c (.fn 156 (.of 156) [])) [(.s 1), (.s 0)]), .q (.of 4) (.mv (.s 0))]
def F75.t2 : IR := .reg [.s (.mv (.t (.of 4))), .q (.of 5) (.bin .neq .int (.s 0) (.c (I 0)))]
def F75.t3 : IR := .reg [.s (.mv (.t (.of 4))), .q (.of 2) (.mv (.c .zf)), .q (.of 3) (.mv (.s 0))]
def F75.t4 : IR := .seq F75.t3 .ret
def F75.t5 : IR := .cond (.t (.of 5)) F75.t4 .skip
def F75.t6 : IR := .seq F75.t2 F75.t5
def F75.t7 : IR := .seq F75.t1 F75.t6
def F75.t8 : IR := .reg [.s (.mv (.t (.of 0))), .s (.mv (.t (.of 1))), .w .push none (.call (.c (.fn 157 (.of 157) [])) [(.s 1), (.s 0)]), .s (.ext 0 (.s 0)), .s (.ext 1 (.s 1)), .q (.of 2) (.mv (.s 1)), .q (.of 3) (.mv (.s 0))]
def F75.t9 : IR := .seq F75.t8 .ret
def F75.t10 : IR := .seq F75.t7 F75.t9
def F75.t11 : IR := .seq F75.t0 F75.t10
theorem F75.xu : IR.run F75.t0 C N O K (F75.fr b c f d e g) h nx =
 K (F75.fr b c .zf (I 0) e g) h nx := by kernel_rfl
theorem F75.xw : IR.run F75.t1 C N O K (F75.fr b c f d e g) h nx =
 C.fn 156 (.of 156) [b, c] h nx fun v1 h2 n3 => K (F75.fr b c f d v1 g) h2 n3 := by kernel_rfl
theorem F75.bQ : IR.run F75.t2 C N O K (F75.fr b c f d e g) h nx =
 zu .neq .int e (I 0) fun v1 => K (F75.fr b c f d e v1) h nx := by kernel_rfl
theorem F75.t3_s : IR.run F75.t3 C N O K (F75.fr b c f d e g) h nx =
 K (F75.fr b c .zf e e g) h nx := by kernel_rfl
theorem F75.v5 : Arg.ev (.t (.of 5)) ⟨(F75.fr b c f d e g), []⟩ = g := by kernel_rfl
theorem F75.t8_s : IR.run F75.t8 C N O K (F75.fr b c f d e g) h nx =
 C.fn 157 (.of 157) [b, c] h nx fun v1 h2 n3 => xq 0 v1 fun v4 => xq 1 v1 fun v5 => K (F75.fr b c v4 v5 e g) h2 n3 := by kernel_rfl
theorem F75.tab : T.get none (.of 75) tbl = some F75 := by kernel_rfl
theorem F75.bind (k : T AV -> OP) : yC F75.params [a0, a1] F75.init k = k (F75.fr a0 a1 .undef .undef .undef .undef) := by kernel_rfl
theorem F75.yx : F75.body = F75.t11 := by kernel_rfl
theorem F75.go : zV tbl N C (.of 75) [a0, a1] h nx K0 = IR.run F75.t11 C N (fnO F75.res K0) (gu F75.res K0) (F75.fr a0 a1 .undef .undef .undef .undef) h nx := by
 rw [zJ F75.tab, F75.bind, F75.yx]; kernel_rfl
theorem F75.ret : gu F75.res K0 (F75.fr b c f d e g) h nx = K0 (.tup [f, d]) h nx := by kernel_rfl
def F76.t0 : IR := .reg [.w (.loc (.of 2)) none (.box (.t (.of 1))), .q (.of 3) (.mv (.c .zf)), .q (.of 4) (.mv (.c (I 0)))]
def F76.t1 : IR := .reg [.s (.mv (.t (.of 0))), .s (.load (.t (.of 2))), .w .push none (.call (.c (.fn 156 (.of 156) [])) [(.s 1), (.s 0)]), .q (.of 5) (.mv (.s 0))]
def F76.t2 : IR := .reg [.s (.mv (.t (.of 5))), .q (.of 8) (.bin .neq .int (.s 0) (.c (I 0)))]
def F76.t3 : IR := .reg [.s (.mv (.t (.of 5))), .q (.of 3) (.mv (.c .zf)), .q (.of 4) (.mv (.s 0))]
def F76.t4 : IR := .seq F76.t3 .ret
def F76.t5 : IR := .cond (.t (.of 8)) F76.t4 .skip
def F76.t6 : IR := .seq F76.t2 F76.t5
def F76.t7 : IR := .seq F76.t1 F76.t6
def F76.t8 : IR := .reg [.w (.loc (.of 6)) none (.alloc [.zf])]
def F76.t9 : IR := .reg [.s (.mv (.t (.of 0))), .w (.loc (.of 9)) none (.call (.c (.fn 90 (.of 90) [])) [(.s 0)])]
def F76.t10 : IR := .reg [.w (.loc (.of 7)) none (.alloc [.zf, (.bool false)]), .w .none none (.store 2 (.t (.of 7)) (.t (.of 11)))]
def F76.t11 : IR := .yt [] [(.s (.zi 2 (.t (.of 7))), 0, []), (.s (.load (.t (.of 2))), 0, []), (.s (.load (.t (.of 2))), 1, []), (.w .push none (.call (.c (.fn 135 (.of 135) [])) [(.s 2), (.s 1)]), 0, []), (.w (.loc (.of 12)) none (.call (.c (.fn 158 (.of 158) [])) [(.s 0), (.s 1)]), 0, [])]
def F76.t12 : IR := .yt [] [(.s (.load (.t (.of 6))), 2, []), (.s (.zx 0 (.t (.of 7))), 0, []), (.s (.load (.s 0)), 0, []), (.s (.zx 1 (.t (.of 7))), 1, []), (.s (.load (.s 0)), 1, []), (.w .push none (.call (.c (.fn 106 (.of 106) [])) [(.s 2)]), 0, []), (.s (.build [.zf, (.bool false)] [(0, 1, (.s 0)), (1, 1, (.s 1))]), 0, []), (.w .push none (.zy 2 1 [.zf, (.bool false)] [(0, 2, (.s 0))]), 0, []), (.w .push none (.appq 2 32 (.s 7) (.s 0)), 0, []), (.w .none none (.store 1 (.t (.of 6)) (.s 0)), 0, [])]
def F76.t13 : IR := .cond (.t (.of 12)) F76.t12 .skip
def F76.t14 : IR := .seq F76.t11 F76.t13
def F76.t15 : IR := .block 1 F76.t14
def F76.t16 : IR := .rf (.t (.of 9)) [(.of 10), (.of 11)] F76.t10 F76.t15
def F76.t17 : IR := .block 0 F76.t16
def F76.t18 : IR := .seq F76.t9 F76.t17
def F76.t19 : IR := .reg [.s (.load (.t (.of 6))), .q (.of 3) (.mv (.s 0)), .q (.of 4) (.mv (.c (I 0)))]
def F76.t20 : IR := .seq F76.t19 .ret
def F76.t21 : IR := .seq F76.t18 F76.t20
def F76.t22 : IR := .seq F76.t8 F76.t21
def F76.t23 : IR := .seq F76.t7 F76.t22
def F76.t24 : IR := .seq F76.t0 F76.t23
theorem F76.xu : IR.run F76.t0 C N O K (F76.fr b c f d e g l p q u a i o) h nx =
 sBox c h nx fun v1 h2 n3 => K (F76.fr b c v1 .zf (I 0) g l p q u a i o) h2 n3 := by kernel_rfl
theorem F76.xw : IR.run F76.t1 C N O K (F76.fr b c f d e g l p q u a i o) h nx =
 zF f h fun v1 => C.fn 156 (.of 156) [b, v1] h nx fun v2 h3 n4 => K (F76.fr b c f d e v2 l p q u a i o) h3 n4 := by kernel_rfl
theorem F76.bQ : IR.run F76.t2 C N O K (F76.fr b c f d e g l p q u a i o) h nx =
 zu .neq .int g (I 0) fun v1 => K (F76.fr b c f d e g l p v1 u a i o) h nx := by kernel_rfl
theorem F76.t3_s : IR.run F76.t3 C N O K (F76.fr b c f d e g l p q u a i o) h nx =
 K (F76.fr b c f .zf g g l p q u a i o) h nx := by kernel_rfl
theorem F76.v8 : Arg.ev (.t (.of 8)) ⟨(F76.fr b c f d e g l p q u a i o), []⟩ = q := by kernel_rfl
theorem F76.t8_s : IR.run F76.t8 C N O K (F76.fr b c f d e g l p q u a i o) h nx =
 yN [.zf] h nx fun v1 h2 n3 => K (F76.fr b c f d e g v1 p q u a i o) h2 n3 := by kernel_rfl
theorem F76.t9_s : IR.run F76.t9 C N O K (F76.fr b c f d e g l p q u a i o) h nx =
 C.fn 90 (.of 90) [b] h nx fun v1 h2 n3 => K (F76.fr b c f d e g l p q v1 a i o) h2 n3 := by kernel_rfl
theorem F76.mr : IR.run F76.t10 C N O K (F76.fr b c f d e g l p q u a i o) h nx =
 yN [.zf, (.bool false)] h nx fun v1 h2 n3 => zO 2 v1 i h2 n3 fun v4 h5 n6 => K (F76.fr b c f d e g l v1 q u a i o) h5 n6 := by kernel_rfl
theorem F76.t11_s : IR.run F76.t11 C N O K (F76.fr b c f d e g l p q u a i o) h nx =
 zN 2 p h fun v1 => zF f h fun v2 => zF f h fun v3 => C.fn 135 (.of 135) [v1, v2] h nx fun v4 h5 n6 => (zF f h5 fun vA => zM vA v3 (C.fn 158 (.of 158) [v4, v3] h5 n6 fun v7 h8 n9 => K (F76.fr b c f d e g l p q u a i v7) h8 n9)) := by kernel_rfl
theorem F76.t12_s : IR.run F76.t12 C N O K (F76.fr b c f d e g l p q u a i o) h nx =
 zF l h fun v1 => zW 0 p fun v2 => zF v2 h fun v3 => zW 1 p fun v4 => zF v4 h fun v5 => C.fn 106 (.of 106) [v3] h nx fun v6 h7 n8 => (zF v4 h7 fun vM => zM vM v5 ((zW 1 p fun vL => zM vL v4 ((zF l h7 fun vK => zM vK v1 (kV [.zf, (.bool false)] [(0, 1, v6), (1, 1, v5)] fun v9 => jD 2 1 [.zf, (.bool false)] [(0, 2, v9)] h7 n8 fun vA hG nG => (zF l hG fun vJ => zM vJ v1 (xQ C 2 32 v1 vA hG nG fun vD hH nI => zO 1 l vD hH nI fun vG hF nF => K (F76.fr b c f d e g l p q u a i o) hF nF)))))))) := by kernel_rfl
theorem F76.v12 : Arg.ev (.t (.of 12)) ⟨(F76.fr b c f d e g l p q u a i o), []⟩ = o := by kernel_rfl
theorem F76.t16_f : Arg.ev (.t (.of 9)) ⟨(F76.fr b c f d e g l p q u a i o), []⟩ = u := by kernel_rfl
theorem F76.t16_b {z0 z1 : AV} (k : T AV -> OP) : yC [(.of 10), (.of 11)] [z0, z1] (F76.fr b c f d e g l p q u a i o) k = k (F76.fr b c f d e g l p q u z0 z1 o) := by kernel_rfl
theorem F76.t19_s : IR.run F76.t19 C N O K (F76.fr b c f d e g l p q u a i o) h nx =
 zF l h fun v1 => K (F76.fr b c f v1 (I 0) g l p q u a i o) h nx := by kernel_rfl
theorem F76.tab : T.get none (.of 76) tbl = some F76 := by kernel_rfl
theorem F76.bind (k : T AV -> OP) : yC F76.params [a0, a1] F76.init k = k (F76.fr a0 a1 .undef .undef .undef .undef .undef .undef .undef .undef .undef .undef .undef) := by kernel_rfl
theorem F76.yx : F76.body = F76.t24 := by kernel_rfl
theorem F76.go : zV tbl N C (.of 76) [a0, a1] h nx K0 = IR.run F76.t24 C N (fnO F76.res K0) (gu F76.res K0) (F76.fr a0 a1 .undef .undef .undef .undef .undef .undef .undef .undef .undef .undef .undef) h nx := by
 rw [zJ F76.tab, F76.bind, F76.yx]; kernel_rfl
theorem F76.ret : gu F76.res K0 (F76.fr b c f d e g l p q u a i o) h nx = K0 (.tup [d, e]) h nx := by kernel_rfl
def yc.t0 : IR := .reg [.w (.loc (.of 2)) none (.box (.t (.of 1))), .w (.loc (.of 3)) none (.alloc [.zf]), .w (.loc (.of 4)) none (.alloc [(I 0)])]
def yc.t1 : IR := .reg [.w (.loc (.of 5)) none (.alloc [.zf])]
def yc.t2 : IR := .reg [.s (.mv (.t (.of 0))), .w (.loc (.of 8)) none (.call (.c (.fn 90 (.of 90) [])) [(.s 0)])]
def yc.t3 : IR := .reg [.w (.loc (.of 6)) none (.alloc [.zf, (.bool false)]), .w .none none (.store 2 (.t (.of 6)) (.t (.of 10)))]
def yc.t4 : IR := .reg [.s (.zi 2 (.t (.of 6))), .s (.load (.t (.of 2))), .w .push none (.call (.c (.fn 135 (.of 135) [])) [(.s 1), (.s 0)]), .q (.of 7) (.mv (.s 0))]
def yc.t5 : IR := .reg [.s (.mv (.t (.of 7))), .w (.loc (.of 11)) none (.call (.c (.fn 136 (.of 136) [])) [(.s 0), (.c (.fn 137 (.of 137) []))])]
def yc.t6 : IR := .reg [.w .none none (.store 1 (.t (.of 3)) (.c .zf)), .w .none none (.store 1 (.t (.of 4)) (.c (I 3)))]
def yc.t7 : IR := .seq yc.t6 .ret
def yc.t8 : IR := .cond (.t (.of 11)) yc.t7 .skip
def yc.t9 : IR := .seq yc.t5 yc.t8
def yc.t10 : IR := .reg [.s (.load (.t (.of 5))), .s (.mv (.t (.of 7))), .w .push none (.zy 1 1 [.zf] [(0, 1, (.s 0))]), .w .push none (.app 1 24 (.s 2) (.s 0)), .w .none none (.store 1 (.t (.of 5)) (.s 0))]
def yc.t11 : IR := .seq yc.t9 yc.t10
def yc.t12 : IR := .seq yc.t4 yc.t11
def yc.t13 : IR := .block 1 yc.t12
def yc.t14 : IR := .rf (.t (.of 8)) [(.of 9), (.of 10)] yc.t3 yc.t13
def yc.t15 : IR := .block 0 yc.t14
def yc.t16 : IR := .seq yc.t2 yc.t15
def yc.t17 : IR := .reg [.s (.load (.t (.of 5))), .w .push none (.call (.c (.fn 200 (.of 200) [])) [(.s 0), (.c (.fn 201 (.of 201) []))])]
def yc.t18 : IR := .reg [.s (.load (.t (.of 5))), .w .push none (.call (.c (.fn 202 (.of 202) [])) [(.s 0), (.c (.fn 158 (.of 158) []))]), .w .none none (.store 1 (.t (.of 3)) (.s 0)), .w .none none (.store 1 (.t (.of 4)) (.c (I 0)))]
def yc.t19 : IR := .seq yc.t18 .ret
def yc.t20 : IR := .seq yc.t17 yc.t19
def yc.t21 : IR := .seq yc.t16 yc.t20
def yc.t22 : IR := .seq yc.t1 yc.t21
def yc.t23 : IR := .seq yc.t0 yc.t22
theorem yc.xu : IR.run yc.t0 C N O K (yc.fr b c f d e g l p q u a i) h nx =
 sBox c h nx fun v1 h2 n3 => yN [.zf] h2 n3 fun v4 h5 n6 => yN [(I 0)] h5 n6 fun v7 h8 n9 => K (yc.fr b c v1 v4 v7 g l p q u a i) h8 n9 := by kernel_rfl
theorem yc.xw : IR.run yc.t1 C N O K (yc.fr b c f d e g l p q u a i) h nx =
 yN [.zf] h nx fun v1 h2 n3 => K (yc.fr b c f d e v1 l p q u a i) h2 n3 := by kernel_rfl
theorem yc.bQ : IR.run yc.t2 C N O K (yc.fr b c f d e g l p q u a i) h nx =
 C.fn 90 (.of 90) [b] h nx fun v1 h2 n3 => K (yc.fr b c f d e g l p v1 u a i) h2 n3 := by kernel_rfl
theorem yc.t3_s : IR.run yc.t3 C N O K (yc.fr b c f d e g l p q u a i) h nx =
 yN [.zf, (.bool false)] h nx fun v1 h2 n3 => zO 2 v1 a h2 n3 fun v4 h5 n6 => K (yc.fr b c f d e g v1 p q u a i) h5 n6 := by kernel_rfl
theorem yc.t4_s : IR.run yc.t4 C N O K (yc.fr b c f d e g l p q u a i) h nx =
 zN 2 l h fun v1 => zF f h fun v2 => C.fn 135 (.of 135) [v1, v2] h nx fun v3 h4 n5 => K (yc.fr b c f d e g l v3 q u a i) h4 n5 := by kernel_rfl
theorem yc.t5_s : IR.run yc.t5 C N O K (yc.fr b c f d e g l p q u a i) h nx =
 C.fn 136 (.of 136) [p, (.fn 137 (.of 137) [])] h nx fun v1 h2 n3 => K (yc.fr b c f d e g l p q u a v1) h2 n3 := by kernel_rfl
theorem yc.t6_s : IR.run yc.t6 C N O K (yc.fr b c f d e g l p q u a i) h nx =
 zO 1 d .zf h nx fun v1 h2 n3 => zO 1 e (I 3) h2 n3 fun v4 h5 n6 => K (yc.fr b c f d e g l p q u a i) h5 n6 := by kernel_rfl
theorem yc.v11 : Arg.ev (.t (.of 11)) ⟨(yc.fr b c f d e g l p q u a i), []⟩ = i := by kernel_rfl
theorem yc.mr : IR.run yc.t10 C N O K (yc.fr b c f d e g l p q u a i) h nx =
 zF g h fun v1 => jD 1 1 [.zf] [(0, 1, p)] h nx fun v2 h3 n4 => sApp 1 24 v1 v2 h3 n4 fun v5 h6 n7 => zO 1 g v5 h6 n7 fun v8 h9 nH => K (yc.fr b c f d e g l p q u a i) h9 nH := by kernel_rfl
theorem yc.t14_f : Arg.ev (.t (.of 8)) ⟨(yc.fr b c f d e g l p q u a i), []⟩ = q := by kernel_rfl
theorem yc.t14_b {z0 z1 : AV} (k : T AV -> OP) : yC [(.of 9), (.of 10)] [z0, z1] (yc.fr b c f d e g l p q u a i) k = k (yc.fr b c f d e g l p q z0 z1 i) := by kernel_rfl
theorem yc.t17_s : IR.run yc.t17 C N O K (yc.fr b c f d e g l p q u a i) h nx =
 zF g h fun v1 => C.fn 200 (.of 200) [v1, (.fn 201 (.of 201) [])] h nx fun v2 h3 n4 => K (yc.fr b c f d e g l p q u a i) h3 n4 := by kernel_rfl
theorem yc.t18_s : IR.run yc.t18 C N O K (yc.fr b c f d e g l p q u a i) h nx =
 zF g h fun v1 => C.fn 202 (.of 202) [v1, (.fn 158 (.of 158) [])] h nx fun v2 h3 n4 => zO 1 d v2 h3 n4 fun v5 h6 n7 => zO 1 e (I 0) h6 n7 fun v8 h9 nH => K (yc.fr b c f d e g l p q u a i) h9 nH := by kernel_rfl
theorem yc.tab : T.get none (.of 157) tbl = some yc := by kernel_rfl
theorem yc.bind (k : T AV -> OP) : yC yc.params [a0, a1] yc.init k = k (yc.fr a0 a1 .undef .undef .undef .undef .undef .undef .undef .undef .undef .undef) := by kernel_rfl
theorem yc.yx : yc.body = yc.t23 := by kernel_rfl
theorem yc.go : zV tbl N C (.of 157) [a0, a1] h nx K0 = IR.run yc.t23 C N (fnO yc.res K0) (gu yc.res K0) (yc.fr a0 a1 .undef .undef .undef .undef .undef .undef .undef .undef .undef .undef) h nx := by
 rw [zJ yc.tab, yc.bind, yc.yx]; kernel_rfl
theorem yc.ret : gu yc.res K0 (yc.fr b c f d e g l p q u a i) h nx = zF d h fun v1 => zF e h fun v2 => K0 (.tup [v1, v2]) h nx := by kernel_rfl
def jd.t0 : IR := .reg [.q (.of 2) (.mv (.c (I 0)))]
def jd.t1 : IR := .reg [.s (.mv (.t (.of 1))), .w .push none (.call (.c (.fn 134 (.of 134) [])) [(.s 0)]), .q (.of 3) (.mv (.s 0))]
def jd.t2 : IR := .reg [.s (.mv (.t (.of 3))), .q (.of 4) (.bin .neq .int (.s 0) (.c (I 0)))]
def jd.t3 : IR := .reg [.s (.mv (.t (.of 3))), .q (.of 2) (.mv (.s 0))]
def jd.t4 : IR := .seq jd.t3 .ret
def jd.t5 : IR := .cond (.t (.of 4)) jd.t4 .skip
def jd.t6 : IR := .seq jd.t2 jd.t5
def jd.t7 : IR := .seq jd.t1 jd.t6
def jd.t8 : IR := .reg [.s (.mv (.t (.of 0))), .s (.mv (.t (.of 1))), .s (.len (.s 0)), .w .push none (.call (.c (.fn 22 (.of 22) [])) [(.s 2), (.s 0)]), .q (.of 2) (.mv (.s 0))]
def jd.t9 : IR := .seq jd.t8 .ret
def jd.t10 : IR := .seq jd.t7 jd.t9
def jd.t11 : IR := .seq jd.t0 jd.t10
theorem jd.xu : IR.run jd.t0 C N O K (jd.fr b c f d e) h nx =
 K (jd.fr b c (I 0) d e) h nx := by kernel_rfl
theorem jd.xw : IR.run jd.t1 C N O K (jd.fr b c f d e) h nx =
 C.fn 134 (.of 134) [c] h nx fun v1 h2 n3 => K (jd.fr b c f v1 e) h2 n3 := by kernel_rfl
theorem jd.bQ : IR.run jd.t2 C N O K (jd.fr b c f d e) h nx =
 zu .neq .int d (I 0) fun v1 => K (jd.fr b c f d v1) h nx := by kernel_rfl
theorem jd.t3_s : IR.run jd.t3 C N O K (jd.fr b c f d e) h nx =
 K (jd.fr b c d d e) h nx := by kernel_rfl
theorem jd.v4 : Arg.ev (.t (.of 4)) ⟨(jd.fr b c f d e), []⟩ = e := by kernel_rfl
theorem jd.t8_s : IR.run jd.t8 C N O K (jd.fr b c f d e) h nx =
 sLen c fun v1 => C.fn 22 (.of 22) [b, v1] h nx fun v2 h3 n4 => K (jd.fr b c v2 d e) h3 n4 := by kernel_rfl
theorem jd.tab : T.get none (.of 156) tbl = some jd := by kernel_rfl
theorem jd.bind (k : T AV -> OP) : yC jd.params [a0, a1] jd.init k = k (jd.fr a0 a1 .undef .undef .undef) := by kernel_rfl
theorem jd.yx : jd.body = jd.t11 := by kernel_rfl
theorem jd.go : zV tbl N C (.of 156) [a0, a1] h nx K0 = IR.run jd.t11 C N (fnO jd.res K0) (gu jd.res K0) (jd.fr a0 a1 .undef .undef .undef) h nx := by
 rw [zJ jd.tab, jd.bind, jd.yx]; kernel_rfl
theorem jd.ret : gu jd.res K0 (jd.fr b c f d e) h nx = K0 f h nx := by kernel_rfl
def zh.t0 : IR := .reg [.q (.of 2) (.mv (.c .zf))]
def zh.t1 : IR := .reg [.s (.mv (.t (.of 0))), .s (.len (.s 0)), .q (.of 6) (.bin .lss .int (.s 0) (.c (I 2)))]
def zh.t2 : IR := .reg [.s (.mv (.t (.of 0))), .q (.of 2) (.mv (.s 0))]
def zh.t3 : IR := .seq zh.t2 .ret
def zh.t4 : IR := .cond (.t (.of 6)) zh.t3 .skip
def zh.t5 : IR := .seq zh.t1 zh.t4
def zh.t6 : IR := .reg [.q (.of 3) (.mv (.c (I 1)))]
def zh.t7 : IR := .reg [.s (.mv (.t (.of 3))), .s (.mv (.t (.of 0))), .s (.len (.s 0)), .q (.of 7) (.bin .lss .int (.s 2) (.s 0))]
def zh.t8 : IR := .cond (.t (.of 7)) .skip (.exit 0)
def zh.t9 : IR := .seq zh.t7 zh.t8
def zh.t10 : IR := .yt [] [(.s (.mv (.t (.of 1))), 0, []), (.s (.mv (.t (.of 0))), 0, []), (.s (.mv (.t (.of 3))), 0, []), (.s (.zn 1 (.s 1) (.s 0)), 0, []), (.s (.load (.s 0)), 0, []), (.s (.mv (.t (.of 0))), 0, []), (.s (.mv (.t (.of 3))), 0, []), (.s (.bin .sub .int (.s 0) (.c (I 1))), 0, []), (.s (.zn 1 (.s 2) (.s 0)), 0, []), (.s (.load (.s 0)), 0, []), (.w (.loc (.of 8)) none (.call (.s 9) [(.s 5), (.s 0)]), 0, [])]
def zh.t11 : IR := .reg [.s (.mv (.t (.of 0))), .s (.mv (.t (.of 3))), .s (.slice 1 (.s 1) (some (.s 0)) none none), .q (.of 4) (.mv (.s 0))]
def zh.t12 : IR := .reg [.q (.of 5) (.mv (.c (I 1)))]
def zh.t13 : IR := .reg [.s (.mv (.t (.of 5))), .s (.mv (.t (.of 4))), .s (.len (.s 0)), .q (.of 9) (.bin .lss .int (.s 2) (.s 0))]
def zh.t14 : IR := .cond (.t (.of 9)) .skip (.exit 2)
def zh.t15 : IR := .seq zh.t13 zh.t14
def zh.t16 : IR := .yt [] [(.s (.mv (.t (.of 1))), 0, []), (.s (.mv (.t (.of 4))), 0, []), (.s (.mv (.t (.of 5))), 0, []), (.s (.zn 1 (.s 1) (.s 0)), 0, []), (.s (.load (.s 0)), 0, []), (.s (.mv (.t (.of 4))), 0, []), (.s (.mv (.t (.of 5))), 0, []), (.s (.bin .sub .int (.s 0) (.c (I 1))), 0, []), (.s (.zn 1 (.s 2) (.s 0)), 0, []), (.s (.load (.s 0)), 0, []), (.w .push none (.call (.s 9) [(.s 5), (.s 0)]), 0, []), (.q (.of 10) (.not (.s 0)), 0, [])]
def zh.t17 : IR := .reg [.s (.mv (.t (.of 0))), .s (.mv (.t (.of 3))), .s (.mv (.t (.of 4))), .s (.mv (.t (.of 5))), .s (.zn 1 (.s 1) (.s 0)), .s (.load (.s 0)), .s (.zn 1 (.s 5) (.s 4)), .w .none none (.store 1 (.s 0) (.s 1))]
def zh.t18 : IR := .reg [.s (.mv (.t (.of 3))), .s (.bin .add .int (.s 0) (.c (I 1))), .q (.of 3) (.mv (.s 0))]
def zh.t19 : IR := .seq zh.t17 zh.t18
def zh.t20 : IR := .cond (.t (.of 10)) zh.t19 .skip
def zh.t21 : IR := .seq zh.t16 zh.t20
def zh.t22 : IR := .block 3 zh.t21
def zh.t23 : IR := .reg [.s (.mv (.t (.of 5))), .s (.bin .add .int (.s 0) (.c (I 1))), .q (.of 5) (.mv (.s 0))]
def zh.t24 : IR := .seq zh.t22 zh.t23
def zh.t25 : IR := .seq zh.t15 zh.t24
def zh.t26 : IR := .loop zh.t25
def zh.t27 : IR := .block 2 zh.t26
def zh.t28 : IR := .seq zh.t12 zh.t27
def zh.t29 : IR := .reg [.s (.mv (.t (.of 0))), .s (.mv (.t (.of 3))), .s (.slice 1 (.s 1) (some (.s 0)) none none), .w .none none (.clr 1 [.zf] (.s 0))]
def zh.t30 : IR := .reg [.s (.mv (.t (.of 0))), .s (.mv (.t (.of 3))), .s (.slice 1 (.s 1) none (some (.s 0)) none), .q (.of 2) (.mv (.s 0))]
def zh.t31 : IR := .seq zh.t30 .ret
def zh.t32 : IR := .seq zh.t29 zh.t31
def zh.t33 : IR := .seq zh.t28 zh.t32
def zh.t34 : IR := .seq zh.t11 zh.t33
def zh.t35 : IR := .cond (.t (.of 8)) zh.t34 .skip
def zh.t36 : IR := .seq zh.t10 zh.t35
def zh.t37 : IR := .block 1 zh.t36
def zh.t38 : IR := .reg [.s (.mv (.t (.of 3))), .s (.bin .add .int (.s 0) (.c (I 1))), .q (.of 3) (.mv (.s 0))]
def zh.t39 : IR := .seq zh.t37 zh.t38
def zh.t40 : IR := .seq zh.t9 zh.t39
def zh.t41 : IR := .loop zh.t40
def zh.t42 : IR := .block 0 zh.t41
def zh.t43 : IR := .seq zh.t6 zh.t42
def zh.t44 : IR := .reg [.s (.mv (.t (.of 0))), .q (.of 2) (.mv (.s 0))]
def zh.t45 : IR := .seq zh.t44 .ret
def zh.t46 : IR := .seq zh.t43 zh.t45
def zh.t47 : IR := .seq zh.t5 zh.t46
def zh.t48 : IR := .seq zh.t0 zh.t47
theorem zh.xu : IR.run zh.t0 C N O K (zh.fr b c f d e g l p q u a) h nx =
 K (zh.fr b c .zf d e g l p q u a) h nx := by kernel_rfl
theorem zh.xw : IR.run zh.t1 C N O K (zh.fr b c f d e g l p q u a) h nx =
 sLen b fun v1 => zu .lss .int v1 (I 2) fun v2 => K (zh.fr b c f d e g v2 p q u a) h nx := by kernel_rfl
theorem zh.bQ : IR.run zh.t2 C N O K (zh.fr b c f d e g l p q u a) h nx =
 K (zh.fr b c b d e g l p q u a) h nx := by kernel_rfl
theorem zh.v6 : Arg.ev (.t (.of 6)) ⟨(zh.fr b c f d e g l p q u a), []⟩ = l := by kernel_rfl
theorem zh.t6_s : IR.run zh.t6 C N O K (zh.fr b c f d e g l p q u a) h nx =
 K (zh.fr b c f (I 1) e g l p q u a) h nx := by kernel_rfl
theorem zh.t7_s : IR.run zh.t7 C N O K (zh.fr b c f d e g l p q u a) h nx =
 sLen b fun v1 => zu .lss .int d v1 fun v2 => K (zh.fr b c f d e g l v2 q u a) h nx := by kernel_rfl
theorem zh.v7 : Arg.ev (.t (.of 7)) ⟨(zh.fr b c f d e g l p q u a), []⟩ = p := by kernel_rfl
theorem zh.mr : IR.run zh.t10 C N O K (zh.fr b c f d e g l p q u a) h nx =
 zS 1 b d fun v1 => zF v1 h fun v2 => zu .sub .int d (I 1) fun v3 => zS 1 b v3 fun v4 => zF v4 h fun v5 => mT C c [v2, v5] h nx fun v6 h7 n8 => K (zh.fr b c f d e g l p v6 u a) h7 n8 := by kernel_rfl
theorem zh.t11_s : IR.run zh.t11 C N O K (zh.fr b c f d e g l p q u a) h nx =
 jX 1 b (some d) none none fun v1 => K (zh.fr b c f d v1 g l p q u a) h nx := by kernel_rfl
theorem zh.t12_s : IR.run zh.t12 C N O K (zh.fr b c f d e g l p q u a) h nx =
 K (zh.fr b c f d e (I 1) l p q u a) h nx := by kernel_rfl
theorem zh.t13_s : IR.run zh.t13 C N O K (zh.fr b c f d e g l p q u a) h nx =
 sLen e fun v1 => zu .lss .int g v1 fun v2 => K (zh.fr b c f d e g l p q v2 a) h nx := by kernel_rfl
theorem zh.v9 : Arg.ev (.t (.of 9)) ⟨(zh.fr b c f d e g l p q u a), []⟩ = u := by kernel_rfl
theorem zh.cO : IR.run zh.t16 C N O K (zh.fr b c f d e g l p q u a) h nx =
 zS 1 e g fun v1 => zF v1 h fun v2 => zu .sub .int g (I 1) fun v3 => zS 1 e v3 fun v4 => zF v4 h fun v5 => mT C c [v2, v5] h nx fun v6 h7 n8 => sNot v6 fun v9 => K (zh.fr b c f d e g l p q u v9) h7 n8 := by kernel_rfl
theorem zh.t17_s : IR.run zh.t17 C N O K (zh.fr b c f d e g l p q u a) h nx =
 zS 1 e g fun v1 => zF v1 h fun v2 => zS 1 b d fun v3 => zO 1 v3 v2 h nx fun v4 h5 n6 => K (zh.fr b c f d e g l p q u a) h5 n6 := by kernel_rfl
theorem zh.t18_s : IR.run zh.t18 C N O K (zh.fr b c f d e g l p q u a) h nx =
 zu .add .int d (I 1) fun v1 => K (zh.fr b c f v1 e g l p q u a) h nx := by kernel_rfl
theorem zh.v10 : Arg.ev (.t (.of 10)) ⟨(zh.fr b c f d e g l p q u a), []⟩ = a := by kernel_rfl
theorem zh.t23_s : IR.run zh.t23 C N O K (zh.fr b c f d e g l p q u a) h nx =
 zu .add .int g (I 1) fun v1 => K (zh.fr b c f d e v1 l p q u a) h nx := by kernel_rfl
theorem zh.t26_L (Inv : Nat -> AV -> AV -> T Blk -> Pa -> Prop) {m : Nat} (hm : m < N) (hi : Inv m d g h nx)
  (step : ∀ (m : Nat) (z3 z5 z9 zI : AV) (h : T Blk) (nx : Pa) (R : Ks Prop), Inv m z3 z5 h nx -> (∀ (m' : Nat) (w3 w5 w9 wI : AV) (h' : T Blk) (nx' : Pa), m' < m -> Inv m' w3 w5 h' nx' -> R (zh.fr b c f w3 e w5 l p q w9 wI) h' nx' = .ok True) -> IR.run zh.t25 C N O R (zh.fr b c f z3 e z5 l p q z9 zI) h nx = .ok True) :
  IR.run zh.t26 C N O K (zh.fr b c f d e g l p q u a) h nx = .ok True := by
 rw [zh.t26];refine yM (fun m tm h nx => ∃ z3 z5 z9 zI, tm = (zh.fr b c f z3 e z5 l p q z9 zI) /\ Inv m z3 z5 h nx) ?_ hm ⟨_, _, _, _, rfl, hi⟩;rintro m tm h nx R ⟨z3, z5, z9, zI, rfl, hi⟩ hR;exact step m z3 z5 z9 zI h nx R hi fun m' w3 w5 w9 wI h' nx' hlt hi' => hR m' _ h' nx' hlt ⟨_, _, _, _, rfl, hi'⟩
theorem zh.t29_s : IR.run zh.t29 C N O K (zh.fr b c f d e g l p q u a) h nx =
 jX 1 b (some d) none none fun v1 => sClr 1 [.zf] v1 h nx fun v2 h3 n4 => K (zh.fr b c f d e g l p q u a) h3 n4 := by kernel_rfl
theorem zh.t30_s : IR.run zh.t30 C N O K (zh.fr b c f d e g l p q u a) h nx =
 jX 1 b none (some d) none fun v1 => K (zh.fr b c v1 d e g l p q u a) h nx := by kernel_rfl
theorem zh.v8 : Arg.ev (.t (.of 8)) ⟨(zh.fr b c f d e g l p q u a), []⟩ = q := by kernel_rfl
theorem zh.t38_s : IR.run zh.t38 C N O K (zh.fr b c f d e g l p q u a) h nx =
 zu .add .int d (I 1) fun v1 => K (zh.fr b c f v1 e g l p q u a) h nx := by kernel_rfl
theorem zh.t41_L (Inv : Nat -> AV -> T Blk -> Pa -> Prop) {m : Nat} (hm : m < N) (hi : Inv m d h nx)
  (step : ∀ (m : Nat) (z2 z3 z4 z5 z7 z8 z9 zI : AV) (h : T Blk) (nx : Pa) (R : Ks Prop), Inv m z3 h nx -> (∀ (m' : Nat) (w2 w3 w4 w5 w7 w8 w9 wI : AV) (h' : T Blk) (nx' : Pa), m' < m -> Inv m' w3 h' nx' -> R (zh.fr b c w2 w3 w4 w5 l w7 w8 w9 wI) h' nx' = .ok True) -> IR.run zh.t40 C N O R (zh.fr b c z2 z3 z4 z5 l z7 z8 z9 zI) h nx = .ok True) :
  IR.run zh.t41 C N O K (zh.fr b c f d e g l p q u a) h nx = .ok True := by
 rw [zh.t41];refine yM (fun m tm h nx => ∃ z2 z3 z4 z5 z7 z8 z9 zI, tm = (zh.fr b c z2 z3 z4 z5 l z7 z8 z9 zI) /\ Inv m z3 h nx) ?_ hm ⟨_, _, _, _, _, _, _, _, rfl, hi⟩;rintro m tm h nx R ⟨z2, z3, z4, z5, z7, z8, z9, zI, rfl, hi⟩ hR;exact step m z2 z3 z4 z5 z7 z8 z9 zI h nx R hi fun m' w2 w3 w4 w5 w7 w8 w9 wI h' nx' hlt hi' => hR m' _ h' nx' hlt ⟨_, _, _, _, _, _, _, _, rfl, hi'⟩
theorem zh.t44_s : IR.run zh.t44 C N O K (zh.fr b c f d e g l p q u a) h nx =
 K (zh.fr b c b d e g l p q u a) h nx := by kernel_rfl
theorem zh.tab : T.get none (.of 202) tbl = some zh := by kernel_rfl
theorem zh.bind (k : T AV -> OP) : yC zh.params [a0, a1] zh.init k = k (zh.fr a0 a1 .undef .undef .undef .undef .undef .undef .undef .undef .undef) := by kernel_rfl
theorem zh.yx : zh.body = zh.t48 := by kernel_rfl
theorem zh.go : zV tbl N C (.of 202) [a0, a1] h nx K0 = IR.run zh.t48 C N (fnO zh.res K0) (gu zh.res K0) (zh.fr a0 a1 .undef .undef .undef .undef .undef .undef .undef .undef .undef) h nx := by
 rw [zJ zh.tab, zh.bind, zh.yx]; kernel_rfl
theorem zh.ret : gu zh.res K0 (zh.fr b c f d e g l p q u a) h nx = K0 f h nx := by kernel_rfl
end
end Go.Ev
namespace Go.Ev
open Go Go.Proofs
set_option maxRecDepth 100000
section
variable {N : Nat} {C : Calls Prop} {K0 : Kw Prop} {K : Ks Prop} {h : T Blk} {nx : Pa} {b c f d e g l p q u a i o s v w a0 a1 : AV} {O : uy Prop} {tm : T AV} {Kt : KTm} {r : List RO} {s0 s1 s2 s3 s4 s5 s6 s7 s8 s9 s10 s11 s12 s13 s14 s15 s16 s17 s18 s19 s20 s21 s22 s23 s24 s25 s26 s27 s28 s29 s30 s31 s32 s33 s34 s35 s36 s37 s38 s39 : AV}
def F48.t0 : IR := .reg [.q (.of 2) (.mv (.c .zf))]
def F48.t1 : IR := .reg [.q (.of 3) (.mv (.c (I 0)))]
def F48.r2_2 : List RO := .q (.of 4) (.pick (.s 6) (.s 0) (.c (.bool false))) :: []
def F48.r2_1 : List RO := .p .push (some ((.s 3), true)) (.load (.s 0)) :: .p .push (some ((.s 4), true)) (.mv (.t (.of 1))) :: .w .push (some ((.s 5), true)) (.call (.c (.fn 88 (.of 88) [])) [(.s 1), (.s 0)]) :: F48.r2_2
def F48.r2_0 : List RO := .s (.mv (.t (.of 3))) :: .s (.mv (.t (.of 0))) :: .s (.len (.s 0)) :: .s (.bin .lss .int (.s 2) (.s 0)) :: .s (.mv (.s 0)) :: .p .push (some ((.s 0), true)) (.mv (.t (.of 0))) :: .p .push (some ((.s 1), true)) (.mv (.t (.of 3))) :: .p .push (some ((.s 2), true)) (.zn 1 (.s 1) (.s 0)) :: F48.r2_1
def F48.t2 : IR := .reg F48.r2_0
def F48.t3 : IR := .cond (.t (.of 4)) .skip (.exit 0)
def F48.t4 : IR := .seq F48.t2 F48.t3
def F48.t5 : IR := .reg [.s (.mv (.t (.of 3))), .s (.bin .add .int (.s 0) (.c (I 1))), .q (.of 3) (.mv (.s 0))]
def F48.t6 : IR := .block 1 F48.t5
def F48.t7 : IR := .seq F48.t4 F48.t6
def F48.t8 : IR := .loop F48.t7
def F48.t9 : IR := .block 0 F48.t8
def F48.r4_2 : List RO := .q (.of 5) (.pick (.s 6) (.s 0) (.c (.bool false))) :: []
def F48.r4_1 : List RO := .p .push (some ((.s 3), true)) (.load (.s 0)) :: .p .push (some ((.s 4), true)) (.mv (.t (.of 1))) :: .w .push (some ((.s 5), true)) (.call (.c (.fn 82 (.of 82) [])) [(.s 1), (.s 0)]) :: F48.r4_2
def F48.r4_0 : List RO := .s (.mv (.t (.of 3))) :: .s (.mv (.t (.of 0))) :: .s (.len (.s 0)) :: .s (.bin .lss .int (.s 2) (.s 0)) :: .s (.mv (.s 0)) :: .p .push (some ((.s 0), true)) (.mv (.t (.of 0))) :: .p .push (some ((.s 1), true)) (.mv (.t (.of 3))) :: .p .push (some ((.s 2), true)) (.zn 1 (.s 1) (.s 0)) :: F48.r4_1
def F48.t10 : IR := .reg F48.r4_0
def F48.t11 : IR := .reg [.s (.mv (.t (.of 0))), .q (.of 2) (.mv (.s 0))]
def F48.t12 : IR := .seq F48.t11 .ret
def F48.t13 : IR := .cond (.t (.of 5)) F48.t12 .skip
def F48.t14 : IR := .seq F48.t10 F48.t13
def F48.t15 : IR := .yt [(.zy 1 0 [.zf] [])] [(.s (.mv (.t (.of 0))), 3, []), (.s (.mv (.t (.of 3))), 3, []), (.s (.slice 1 (.s 1) none (some (.s 0)) none), 3, []), (.s (.mv (.t (.of 1))), 2, [(.zy 1 1 [.zf] [(0, 1, (.s 0))])]), (.s (.mv (.t (.of 0))), 4, []), (.s (.mv (.t (.of 3))), 4, []), (.s (.slice 1 (.s 1) (some (.s 0)) none none), 4, []), (.w .push none (.zy 1 0 [.zf] []), 0, []), (.w .push none (.app 1 24 (.s 0) (.s 5)), 0, []), (.w .push none (.zy 1 1 [.zf] [(0, 1, (.s 5))]), 0, []), (.w .push none (.app 1 24 (.s 1) (.s 0)), 0, []), (.w .push none (.app 1 24 (.s 0) (.s 4)), 0, []), (.q (.of 2) (.mv (.s 0)), 0, [])]
def F48.t16 : IR := .seq F48.t15 .ret
def F48.t17 : IR := .seq F48.t14 F48.t16
def F48.t18 : IR := .seq F48.t9 F48.t17
def F48.t19 : IR := .seq F48.t1 F48.t18
def F48.t20 : IR := .seq F48.t0 F48.t19
theorem F48.xu : IR.run F48.t0 C N O K (F48.fr b c f d e g) h nx =
 K (F48.fr b c .zf d e g) h nx := by kernel_rfl
theorem F48.xw : IR.run F48.t1 C N O K (F48.fr b c f d e g) h nx =
 K (F48.fr b c f (I 0) e g) h nx := by kernel_rfl
theorem F48.bQ : IR.run F48.t2 C N O K tm h nx = yS F48.r2_0 C ⟨tm, []⟩ h nx (fun tm h nx => K tm.v h nx) := qO ..
theorem F48.r2_0_g : yS (.s (.mv (.t (.of 3))) :: .s (.mv (.t (.of 0))) :: .s (.len (.s 0)) :: .s (.bin .lss .int (.s 2) (.s 0)) :: .s (.mv (.s 0)) :: .p .push (some ((.s 0), true)) (.mv (.t (.of 0))) :: .p .push (some ((.s 1), true)) (.mv (.t (.of 3))) :: .p .push (some ((.s 2), true)) (.zn 1 (.s 1) (.s 0)) :: r) C ⟨(F48.fr b c f d e g), []⟩ h nx Kt =
 sLen b fun v1 => zu .lss .int d v1 fun v2 => sG v2 true (fun k => k b) fun v3 => sG v2 true (fun k => k d) fun v4 => sG v2 true (fun k => zS 1 v3 v4 k) fun v5 => yS r C ⟨(F48.fr b c f d e g), v5 :: v4 :: v3 :: v2 :: v2 :: v1 :: b :: d :: []⟩ h nx Kt := by kernel_rfl
theorem F48.r2_1_g : yS (.p .push (some ((.s 3), true)) (.load (.s 0)) :: .p .push (some ((.s 4), true)) (.mv (.t (.of 1))) :: .w .push (some ((.s 5), true)) (.call (.c (.fn 88 (.of 88) [])) [(.s 1), (.s 0)]) :: r) C ⟨(F48.fr b c f d e g), s0 :: s1 :: s2 :: s3 :: s4 :: s5 :: s6 :: s7 :: []⟩ h nx Kt =
 sG s3 true (fun k => zF s0 h k) fun v1 => sG s3 true (fun k => k c) fun v2 => sGW s3 true (fun k => C.fn 88 (.of 88) [v1, v2] h nx k) h nx fun v3 h4 n5 => yS r C ⟨(F48.fr b c f d e g), v3 :: v2 :: v1 :: s0 :: s1 :: s2 :: s3 :: s4 :: s5 :: s6 :: s7 :: []⟩ h4 n5 Kt := by kernel_rfl
theorem F48.r2_2_g : yS (.q (.of 4) (.pick (.s 6) (.s 0) (.c (.bool false))) :: []) C ⟨(F48.fr b c f d e g), s0 :: s1 :: s2 :: s3 :: s4 :: s5 :: s6 :: s7 :: s8 :: s9 :: s10 :: []⟩ h nx Kt =
 j5 s6 s0 (.bool false) fun v1 => Kt ⟨(F48.fr b c f d v1 g), s0 :: s1 :: s2 :: s3 :: s4 :: s5 :: s6 :: s7 :: s8 :: s9 :: s10 :: []⟩ h nx := by kernel_rfl
theorem F48.v4 : Arg.ev (.t (.of 4)) ⟨(F48.fr b c f d e g), []⟩ = e := by kernel_rfl
theorem F48.t5_s : IR.run F48.t5 C N O K (F48.fr b c f d e g) h nx =
 zu .add .int d (I 1) fun v1 => K (F48.fr b c f v1 e g) h nx := by kernel_rfl
theorem F48.t8_L (Inv : Nat -> AV -> T Blk -> Pa -> Prop) {m : Nat} (hm : m < N) (hi : Inv m d h nx)
  (step : ∀ (m : Nat) (z3 z4 : AV) (h : T Blk) (nx : Pa) (R : Ks Prop), Inv m z3 h nx -> (∀ (m' : Nat) (w3 w4 : AV) (h' : T Blk) (nx' : Pa), m' < m -> Inv m' w3 h' nx' -> R (F48.fr b c f w3 w4 g) h' nx' = .ok True) -> IR.run F48.t7 C N O R (F48.fr b c f z3 z4 g) h nx = .ok True) :
  IR.run F48.t8 C N O K (F48.fr b c f d e g) h nx = .ok True := by
 rw [F48.t8];refine yM (fun m tm h nx => ∃ z3 z4, tm = (F48.fr b c f z3 z4 g) /\ Inv m z3 h nx) ?_ hm ⟨_, _, rfl, hi⟩;rintro m tm h nx R ⟨z3, z4, rfl, hi⟩ hR;exact step m z3 z4 h nx R hi fun m' w3 w4 h' nx' hlt hi' => hR m' _ h' nx' hlt ⟨_, _, rfl, hi'⟩
theorem F48.mr : IR.run F48.t10 C N O K tm h nx = yS F48.r4_0 C ⟨tm, []⟩ h nx (fun tm h nx => K tm.v h nx) := qO ..
theorem F48.r4_0_g : yS (.s (.mv (.t (.of 3))) :: .s (.mv (.t (.of 0))) :: .s (.len (.s 0)) :: .s (.bin .lss .int (.s 2) (.s 0)) :: .s (.mv (.s 0)) :: .p .push (some ((.s 0), true)) (.mv (.t (.of 0))) :: .p .push (some ((.s 1), true)) (.mv (.t (.of 3))) :: .p .push (some ((.s 2), true)) (.zn 1 (.s 1) (.s 0)) :: r) C ⟨(F48.fr b c f d e g), []⟩ h nx Kt =
 sLen b fun v1 => zu .lss .int d v1 fun v2 => sG v2 true (fun k => k b) fun v3 => sG v2 true (fun k => k d) fun v4 => sG v2 true (fun k => zS 1 v3 v4 k) fun v5 => yS r C ⟨(F48.fr b c f d e g), v5 :: v4 :: v3 :: v2 :: v2 :: v1 :: b :: d :: []⟩ h nx Kt := by kernel_rfl
theorem F48.r4_1_g : yS (.p .push (some ((.s 3), true)) (.load (.s 0)) :: .p .push (some ((.s 4), true)) (.mv (.t (.of 1))) :: .w .push (some ((.s 5), true)) (.call (.c (.fn 82 (.of 82) [])) [(.s 1), (.s 0)]) :: r) C ⟨(F48.fr b c f d e g), s0 :: s1 :: s2 :: s3 :: s4 :: s5 :: s6 :: s7 :: []⟩ h nx Kt =
 sG s3 true (fun k => zF s0 h k) fun v1 => sG s3 true (fun k => k c) fun v2 => sGW s3 true (fun k => C.fn 82 (.of 82) [v1, v2] h nx k) h nx fun v3 h4 n5 => yS r C ⟨(F48.fr b c f d e g), v3 :: v2 :: v1 :: s0 :: s1 :: s2 :: s3 :: s4 :: s5 :: s6 :: s7 :: []⟩ h4 n5 Kt := by kernel_rfl
theorem F48.r4_2_g : yS (.q (.of 5) (.pick (.s 6) (.s 0) (.c (.bool false))) :: []) C ⟨(F48.fr b c f d e g), s0 :: s1 :: s2 :: s3 :: s4 :: s5 :: s6 :: s7 :: s8 :: s9 :: s10 :: []⟩ h nx Kt =
 j5 s6 s0 (.bool false) fun v1 => Kt ⟨(F48.fr b c f d e v1), s0 :: s1 :: s2 :: s3 :: s4 :: s5 :: s6 :: s7 :: s8 :: s9 :: s10 :: []⟩ h nx := by kernel_rfl
theorem F48.t11_s : IR.run F48.t11 C N O K (F48.fr b c f d e g) h nx =
 K (F48.fr b c b d e g) h nx := by kernel_rfl
theorem F48.v5 : Arg.ev (.t (.of 5)) ⟨(F48.fr b c f d e g), []⟩ = g := by kernel_rfl
theorem F48.t15_s : IR.run F48.t15 C N O K (F48.fr b c f d e g) h nx =
 sChk ((gD (dh 0 [.zf]) []).isSome && true) (jX 1 b none (some d) none fun v1 => sChk ((gD (dh 1 [.zf]) [(0, 1, c)]).isSome && true) (jX 1 b (some d) none none fun v2 => jD 1 0 [.zf] [] h nx fun v3 h4 n5 => (jX 1 b (some d) none none fun vO => zM vO v2 (zM d d (zM b b (zM c c ((jX 1 b none (some d) none fun vN => zM vN v1 (zM d d (zM b b (sApp 1 24 v3 v1 h4 n5 fun v6 h7 n8 => (jX 1 b (some d) none none fun vM => zM vM v2 (zM d d (zM b b (zM c c ((jX 1 b none (some d) none fun vL => zM vL v1 (zM d d (zM b b (jD 1 1 [.zf] [(0, 1, c)] h7 n8 fun v9 hU nU => (jX 1 b (some d) none none fun vK => zM vK v2 (zM d d (zM b b ((jX 1 b none (some d) none fun vJ => zM vJ v1 (zM d d (zM b b (sApp 1 24 v6 v9 hU nU fun vC h13 n14 => (jX 1 b (some d) none none fun vI => zM vI v2 (zM d d (zM b b (sApp 1 24 vC v2 h13 n14 fun vF h16 n17 => K (F48.fr b c vF d e g) h16 n17)))))))))))))))))))))))))))))))) := by kernel_rfl
theorem F48.tab : T.get none (.of 48) tbl = some F48 := by kernel_rfl
theorem F48.bind (k : T AV -> OP) : yC F48.params [a0, a1] F48.init k = k (F48.fr a0 a1 .undef .undef .undef .undef) := by kernel_rfl
theorem F48.yx : F48.body = F48.t20 := by kernel_rfl
theorem F48.go : zV tbl N C (.of 48) [a0, a1] h nx K0 = IR.run F48.t20 C N (fnO F48.res K0) (gu F48.res K0) (F48.fr a0 a1 .undef .undef .undef .undef) h nx := by
 rw [zJ F48.tab, F48.bind, F48.yx]; kernel_rfl
theorem F48.ret : gu F48.res K0 (F48.fr b c f d e g) h nx = K0 f h nx := by kernel_rfl
end
end Go.Ev
namespace Go.Ev
open Go Go.Proofs
set_option maxRecDepth 100000
section
variable {N : Nat} {C : Calls Prop} {K0 : Kw Prop} {K : Ks Prop} {h : T Blk} {nx : Pa} {b c f d e g l p q u a i o s v w y z A B D E a0 a1 a2 : AV} {O : uy Prop} {tm : T AV} {Kt : KTm} {r : List RO} {s0 s1 s2 s3 s4 s5 s6 s7 s8 s9 s10 s11 s12 s13 s14 s15 s16 s17 s18 s19 s20 s21 s22 s23 s24 s25 s26 s27 s28 s29 s30 s31 s32 s33 s34 s35 s36 s37 s38 s39 : AV}
def F45.t0 : IR := .reg [.q (.of 3) (.mv (.c (.bool false)))]
def F45.r1_2 : List RO := .p .push (some ((.s 3), true)) (.bin .eql .int (.s 0) (.c (I 0))) :: .s (.pick (.s 4) (.s 0) (.c (.bool false))) :: .q (.of 3) (.mv (.s 0)) :: []
def F45.r1_1 : List RO := .s (.mv (.s 0)) :: .p .push (some ((.s 0), true)) (.mv (.t (.of 0))) :: .p .push (some ((.s 1), true)) (.mv (.t (.of 1))) :: .w .push (some ((.s 2), true)) (.call (.c (.fn 20 (.of 20) [])) [(.s 1), (.s 0)]) :: F45.r1_2
def F45.r1_0 : List RO := .s (.mv (.t (.of 0))) :: .s (.len (.s 0)) :: .s (.mv (.t (.of 2))) :: .s (.bin .leq .int (.s 1) (.s 0)) :: .s (.mv (.s 0)) :: .p .push (some ((.s 0), true)) (.mv (.t (.of 1))) :: .p .push (some ((.s 1), true)) (.bin .leq .int (.s 0) (.c (I 16))) :: .s (.pick (.s 2) (.s 0) (.c (.bool false))) :: F45.r1_1
def F45.t1 : IR := .reg F45.r1_0
def F45.t2 : IR := .seq F45.t1 .ret
def F45.t3 : IR := .seq F45.t0 F45.t2
theorem F45.xu : IR.run F45.t0 C N O K (F45.fr b c f d) h nx =
 K (F45.fr b c f (.bool false)) h nx := by kernel_rfl
theorem F45.xw : IR.run F45.t1 C N O K tm h nx = yS F45.r1_0 C ⟨tm, []⟩ h nx (fun tm h nx => K tm.v h nx) := qO ..
theorem F45.r1_0_g : yS (.s (.mv (.t (.of 0))) :: .s (.len (.s 0)) :: .s (.mv (.t (.of 2))) :: .s (.bin .leq .int (.s 1) (.s 0)) :: .s (.mv (.s 0)) :: .p .push (some ((.s 0), true)) (.mv (.t (.of 1))) :: .p .push (some ((.s 1), true)) (.bin .leq .int (.s 0) (.c (I 16))) :: .s (.pick (.s 2) (.s 0) (.c (.bool false))) :: r) C ⟨(F45.fr b c f d), []⟩ h nx Kt =
 sLen b fun v1 => zu .leq .int v1 f fun v2 => sG v2 true (fun k => k c) fun v3 => sG v2 true (fun k => zu .leq .int v3 (I 16) k) fun v4 => j5 v2 v4 (.bool false) fun v5 => yS r C ⟨(F45.fr b c f d), v5 :: v4 :: v3 :: v2 :: v2 :: f :: v1 :: b :: []⟩ h nx Kt := by kernel_rfl
theorem F45.r1_1_g : yS (.s (.mv (.s 0)) :: .p .push (some ((.s 0), true)) (.mv (.t (.of 0))) :: .p .push (some ((.s 1), true)) (.mv (.t (.of 1))) :: .w .push (some ((.s 2), true)) (.call (.c (.fn 20 (.of 20) [])) [(.s 1), (.s 0)]) :: r) C ⟨(F45.fr b c f d), s0 :: s1 :: s2 :: s3 :: s4 :: s5 :: s6 :: s7 :: []⟩ h nx Kt =
 sG s0 true (fun k => k b) fun v1 => sG s0 true (fun k => k c) fun v2 => sGW s0 true (fun k => C.fn 20 (.of 20) [v1, v2] h nx k) h nx fun v3 h4 n5 => yS r C ⟨(F45.fr b c f d), v3 :: v2 :: v1 :: s0 :: s0 :: s1 :: s2 :: s3 :: s4 :: s5 :: s6 :: s7 :: []⟩ h4 n5 Kt := by kernel_rfl
theorem F45.r1_2_g : yS (.p .push (some ((.s 3), true)) (.bin .eql .int (.s 0) (.c (I 0))) :: .s (.pick (.s 4) (.s 0) (.c (.bool false))) :: .q (.of 3) (.mv (.s 0)) :: []) C ⟨(F45.fr b c f d), s0 :: s1 :: s2 :: s3 :: s4 :: s5 :: s6 :: s7 :: s8 :: s9 :: s10 :: s11 :: []⟩ h nx Kt =
 sG s3 true (fun k => zu .eql .int s0 (I 0) k) fun v1 => j5 s3 v1 (.bool false) fun v2 => Kt ⟨(F45.fr b c f v2), v2 :: v1 :: s0 :: s1 :: s2 :: s3 :: s4 :: s5 :: s6 :: s7 :: s8 :: s9 :: s10 :: s11 :: []⟩ h nx := by kernel_rfl
theorem F45.tab : T.get none (.of 45) tbl = some F45 := by kernel_rfl
theorem F45.bind (k : T AV -> OP) : yC F45.params [a0, a1, a2] F45.init k = k (F45.fr a0 a1 a2 .undef) := by kernel_rfl
theorem F45.yx : F45.body = F45.t3 := by kernel_rfl
theorem F45.go : zV tbl N C (.of 45) [a0, a1, a2] h nx K0 = IR.run F45.t3 C N (fnO F45.res K0) (gu F45.res K0) (F45.fr a0 a1 a2 .undef) h nx := by
 rw [zJ F45.tab, F45.bind, F45.yx]; kernel_rfl
theorem F45.ret : gu F45.res K0 (F45.fr b c f d) h nx = K0 d h nx := by kernel_rfl
def F80.t0 : IR := .reg [.q (.of 1) (.mv (.c (.bool false)))]
def F80.t1 : IR := .reg [.s (.mv (.t (.of 0))), .s (.len (.s 0)), .q (.of 3) (.bin .gtr .int (.s 0) (.c (I 9)))]
def F80.t2 : IR := .reg [.q (.of 1) (.mv (.c (.bool false)))]
def F80.t3 : IR := .seq F80.t2 .ret
def F80.t4 : IR := .cond (.t (.of 3)) F80.t3 .skip
def F80.t5 : IR := .seq F80.t1 F80.t4
def F80.t6 : IR := .reg [.q (.of 2) (.mv (.c (I 0)))]
def F80.t7 : IR := .reg [.s (.mv (.t (.of 2))), .s (.mv (.t (.of 0))), .s (.len (.s 0)), .q (.of 4) (.bin .lss .int (.s 2) (.s 0))]
def F80.t8 : IR := .cond (.t (.of 4)) .skip (.exit 0)
def F80.t9 : IR := .seq F80.t7 F80.t8
def F80.r5_1 : List RO := .p .push (some ((.s 2), false)) (.zn 1 (.s 1) (.s 0)) :: .p .push (some ((.s 3), false)) (.load (.s 0)) :: .p .push (some ((.s 4), false)) (.bin .gtr .int (.s 0) (.c (I 1000))) :: .q (.of 5) (.pick (.s 5) (.c (.bool true)) (.s 0)) :: []
def F80.r5_0 : List RO := .s (.mv (.t (.of 0))) :: .s (.mv (.t (.of 2))) :: .s (.zn 1 (.s 1) (.s 0)) :: .s (.load (.s 0)) :: .s (.bin .lss .int (.s 0) (.c (I (-1000)))) :: .s (.mv (.s 0)) :: .p .push (some ((.s 0), false)) (.mv (.t (.of 0))) :: .p .push (some ((.s 1), false)) (.mv (.t (.of 2))) :: F80.r5_1
def F80.t10 : IR := .reg F80.r5_0
def F80.t11 : IR := .reg [.q (.of 1) (.mv (.c (.bool false)))]
def F80.t12 : IR := .seq F80.t11 .ret
def F80.t13 : IR := .cond (.t (.of 5)) F80.t12 .skip
def F80.t14 : IR := .seq F80.t10 F80.t13
def F80.t15 : IR := .block 1 F80.t14
def F80.t16 : IR := .reg [.s (.mv (.t (.of 2))), .s (.bin .add .int (.s 0) (.c (I 1))), .q (.of 2) (.mv (.s 0))]
def F80.t17 : IR := .seq F80.t15 F80.t16
def F80.t18 : IR := .seq F80.t9 F80.t17
def F80.t19 : IR := .loop F80.t18
def F80.t20 : IR := .block 0 F80.t19
def F80.t21 : IR := .seq F80.t6 F80.t20
def F80.t22 : IR := .reg [.q (.of 1) (.mv (.c (.bool true)))]
def F80.t23 : IR := .seq F80.t22 .ret
def F80.t24 : IR := .seq F80.t21 F80.t23
def F80.t25 : IR := .seq F80.t5 F80.t24
def F80.t26 : IR := .seq F80.t0 F80.t25
theorem F80.xu : IR.run F80.t0 C N O K (F80.fr b c f d e g) h nx =
 K (F80.fr b (.bool false) f d e g) h nx := by kernel_rfl
theorem F80.xw : IR.run F80.t1 C N O K (F80.fr b c f d e g) h nx =
 sLen b fun v1 => zu .gtr .int v1 (I 9) fun v2 => K (F80.fr b c f v2 e g) h nx := by kernel_rfl
theorem F80.bQ : IR.run F80.t2 C N O K (F80.fr b c f d e g) h nx =
 K (F80.fr b (.bool false) f d e g) h nx := by kernel_rfl
theorem F80.v3 : Arg.ev (.t (.of 3)) ⟨(F80.fr b c f d e g), []⟩ = d := by kernel_rfl
theorem F80.t6_s : IR.run F80.t6 C N O K (F80.fr b c f d e g) h nx =
 K (F80.fr b c (I 0) d e g) h nx := by kernel_rfl
theorem F80.t7_s : IR.run F80.t7 C N O K (F80.fr b c f d e g) h nx =
 sLen b fun v1 => zu .lss .int f v1 fun v2 => K (F80.fr b c f d v2 g) h nx := by kernel_rfl
theorem F80.v4 : Arg.ev (.t (.of 4)) ⟨(F80.fr b c f d e g), []⟩ = e := by kernel_rfl
theorem F80.mr : IR.run F80.t10 C N O K tm h nx = yS F80.r5_0 C ⟨tm, []⟩ h nx (fun tm h nx => K tm.v h nx) := qO ..
theorem F80.r5_0_g : yS (.s (.mv (.t (.of 0))) :: .s (.mv (.t (.of 2))) :: .s (.zn 1 (.s 1) (.s 0)) :: .s (.load (.s 0)) :: .s (.bin .lss .int (.s 0) (.c (I (-1000)))) :: .s (.mv (.s 0)) :: .p .push (some ((.s 0), false)) (.mv (.t (.of 0))) :: .p .push (some ((.s 1), false)) (.mv (.t (.of 2))) :: r) C ⟨(F80.fr b c f d e g), []⟩ h nx Kt =
 zS 1 b f fun v1 => zF v1 h fun v2 => zu .lss .int v2 (I (-1000)) fun v3 => sG v3 false (fun k => k b) fun v4 => sG v3 false (fun k => k f) fun v5 => yS r C ⟨(F80.fr b c f d e g), v5 :: v4 :: v3 :: v3 :: v2 :: v1 :: f :: b :: []⟩ h nx Kt := by kernel_rfl
theorem F80.r5_1_g : yS (.p .push (some ((.s 2), false)) (.zn 1 (.s 1) (.s 0)) :: .p .push (some ((.s 3), false)) (.load (.s 0)) :: .p .push (some ((.s 4), false)) (.bin .gtr .int (.s 0) (.c (I 1000))) :: .q (.of 5) (.pick (.s 5) (.c (.bool true)) (.s 0)) :: []) C ⟨(F80.fr b c f d e g), s0 :: s1 :: s2 :: s3 :: s4 :: s5 :: s6 :: s7 :: []⟩ h nx Kt =
 sG s2 false (fun k => zS 1 s1 s0 k) fun v1 => sG s2 false (fun k => zF v1 h k) fun v2 => sG s2 false (fun k => zu .gtr .int v2 (I 1000) k) fun v3 => j5 s2 (.bool true) v3 fun v4 => Kt ⟨(F80.fr b c f d e v4), v3 :: v2 :: v1 :: s0 :: s1 :: s2 :: s3 :: s4 :: s5 :: s6 :: s7 :: []⟩ h nx := by kernel_rfl
theorem F80.t11_s : IR.run F80.t11 C N O K (F80.fr b c f d e g) h nx =
 K (F80.fr b (.bool false) f d e g) h nx := by kernel_rfl
theorem F80.v5 : Arg.ev (.t (.of 5)) ⟨(F80.fr b c f d e g), []⟩ = g := by kernel_rfl
theorem F80.cO : IR.run F80.t16 C N O K (F80.fr b c f d e g) h nx =
 zu .add .int f (I 1) fun v1 => K (F80.fr b c v1 d e g) h nx := by kernel_rfl
theorem F80.t19_L (Inv : Nat -> AV -> T Blk -> Pa -> Prop) {m : Nat} (hm : m < N) (hi : Inv m f h nx)
  (step : ∀ (m : Nat) (z1 z2 z4 z5 : AV) (h : T Blk) (nx : Pa) (R : Ks Prop), Inv m z2 h nx -> (∀ (m' : Nat) (w1 w2 w4 w5 : AV) (h' : T Blk) (nx' : Pa), m' < m -> Inv m' w2 h' nx' -> R (F80.fr b w1 w2 d w4 w5) h' nx' = .ok True) -> IR.run F80.t18 C N O R (F80.fr b z1 z2 d z4 z5) h nx = .ok True) :
  IR.run F80.t19 C N O K (F80.fr b c f d e g) h nx = .ok True := by
 rw [F80.t19];refine yM (fun m tm h nx => ∃ z1 z2 z4 z5, tm = (F80.fr b z1 z2 d z4 z5) /\ Inv m z2 h nx) ?_ hm ⟨_, _, _, _, rfl, hi⟩;rintro m tm h nx R ⟨z1, z2, z4, z5, rfl, hi⟩ hR;exact step m z1 z2 z4 z5 h nx R hi fun m' w1 w2 w4 w5 h' nx' hlt hi' => hR m' _ h' nx' hlt ⟨_, _, _, _, rfl, hi'⟩
theorem F80.t22_s : IR.run F80.t22 C N O K (F80.fr b c f d e g) h nx =
 K (F80.fr b (.bool true) f d e g) h nx := by kernel_rfl
theorem F80.tab : T.get none (.of 80) tbl = some F80 := by kernel_rfl
theorem F80.bind (k : T AV -> OP) : yC F80.params [a0] F80.init k = k (F80.fr a0 .undef .undef .undef .undef .undef) := by kernel_rfl
theorem F80.yx : F80.body = F80.t26 := by kernel_rfl
theorem F80.go : zV tbl N C (.of 80) [a0] h nx K0 = IR.run F80.t26 C N (fnO F80.res K0) (gu F80.res K0) (F80.fr a0 .undef .undef .undef .undef .undef) h nx := by
 rw [zJ F80.tab, F80.bind, F80.yx]; kernel_rfl
theorem F80.ret : gu F80.res K0 (F80.fr b c f d e g) h nx = K0 c h nx := by kernel_rfl
end
end Go.Ev
namespace Go.Ev
open Go Go.Proofs
set_option maxRecDepth 100000
section
variable {N : Nat} {C : Calls Prop} {K0 : Kw Prop} {K : Ks Prop} {h : T Blk} {nx : Pa} {b c f d e g l p q u a i o s v w y z A B D E F a0 a1 a2 : AV} {O : uy Prop} {tm : T AV} {Kt : KTm} {r : List RO} {s0 s1 s2 s3 s4 s5 s6 s7 s8 s9 s10 s11 s12 s13 s14 s15 s16 s17 s18 s19 s20 s21 s22 s23 s24 s25 s26 s27 s28 s29 s30 s31 s32 s33 s34 s35 s36 s37 s38 s39 : AV}
def F52.t0 : IR := .reg [.w (.loc (.of 2)) none (.box (.t (.of 0))), .q (.of 3) (.mv (.c .zf)), .q (.of 4) (.mv (.c (I 0)))]
def F52.t1 : IR := .reg [.s (.mv (.t (.of 1))), .w .push none (.call (.c (.fn 134 (.of 134) [])) [(.s 0)]), .q (.of 5) (.mv (.s 0))]
def F52.t2 : IR := .reg [.s (.mv (.t (.of 5))), .q (.of 8) (.bin .neq .int (.s 0) (.c (I 0)))]
def F52.t3 : IR := .reg [.s (.mv (.t (.of 5))), .q (.of 3) (.mv (.c .zf)), .q (.of 4) (.mv (.s 0))]
def F52.t4 : IR := .seq F52.t3 .ret
def F52.t5 : IR := .cond (.t (.of 8)) F52.t4 .skip
def F52.t6 : IR := .seq F52.t2 F52.t5
def F52.t7 : IR := .seq F52.t1 F52.t6
def F52.t8 : IR := .reg [.s (.zi 2 (.t (.of 2))), .s (.mv (.t (.of 1))), .s (.len (.s 0)), .w .push none (.call (.c (.fn 56 (.of 56) [])) [(.s 2), (.s 0)]), .q (.of 6) (.mv (.s 0))]
def F52.t9 : IR := .reg [.s (.mv (.t (.of 6))), .q (.of 9) (.bin .neq .int (.s 0) (.c (I 0)))]
def F52.t10 : IR := .reg [.s (.mv (.t (.of 6))), .q (.of 3) (.mv (.c .zf)), .q (.of 4) (.mv (.s 0))]
def F52.t11 : IR := .seq F52.t10 .ret
def F52.t12 : IR := .cond (.t (.of 9)) F52.t11 .skip
def F52.t13 : IR := .seq F52.t9 F52.t12
def F52.t14 : IR := .seq F52.t8 F52.t13
def F52.t15 : IR := .reg [.s (.zi 2 (.t (.of 2))), .s (.mv (.t (.of 1))), .w .push none (.call (.c (.fn 135 (.of 135) [])) [(.s 1), (.s 0)]), .q (.of 7) (.mv (.s 0))]
def F52.t16 : IR := .reg [.s (.mv (.t (.of 7))), .w (.loc (.of 10)) none (.call (.c (.fn 136 (.of 136) [])) [(.s 0), (.c (.fn 137 (.of 137) []))])]
def F52.t17 : IR := .reg [.q (.of 3) (.mv (.c .zf)), .q (.of 4) (.mv (.c (I 3)))]
def F52.t18 : IR := .seq F52.t17 .ret
def F52.t19 : IR := .cond (.t (.of 10)) F52.t18 .skip
def F52.t20 : IR := .seq F52.t16 F52.t19
def F52.t21 : IR := .reg [.s (.mv (.t (.of 7))), .q (.of 3) (.mv (.s 0)), .q (.of 4) (.mv (.c (I 0)))]
def F52.t22 : IR := .seq F52.t21 .ret
def F52.t23 : IR := .seq F52.t20 F52.t22
def F52.t24 : IR := .seq F52.t15 F52.t23
def F52.t25 : IR := .seq F52.t14 F52.t24
def F52.t26 : IR := .seq F52.t7 F52.t25
def F52.t27 : IR := .seq F52.t0 F52.t26
theorem F52.xu : IR.run F52.t0 C N O K (F52.fr b c f d e g l p q u a) h nx =
 sBox b h nx fun v1 h2 n3 => K (F52.fr b c v1 .zf (I 0) g l p q u a) h2 n3 := by kernel_rfl
theorem F52.xw : IR.run F52.t1 C N O K (F52.fr b c f d e g l p q u a) h nx =
 C.fn 134 (.of 134) [c] h nx fun v1 h2 n3 => K (F52.fr b c f d e v1 l p q u a) h2 n3 := by kernel_rfl
theorem F52.bQ : IR.run F52.t2 C N O K (F52.fr b c f d e g l p q u a) h nx =
 zu .neq .int g (I 0) fun v1 => K (F52.fr b c f d e g l p v1 u a) h nx := by kernel_rfl
theorem F52.v8 : Arg.ev (.t (.of 8)) ⟨(F52.fr b c f d e g l p q u a), []⟩ = q := by kernel_rfl
theorem F52.t8_s : IR.run F52.t8 C N O K (F52.fr b c f d e g l p q u a) h nx =
 zN 2 f h fun v1 => sLen c fun v2 => C.fn 56 (.of 56) [v1, v2] h nx fun v3 h4 n5 => K (F52.fr b c f d e g v3 p q u a) h4 n5 := by kernel_rfl
theorem F52.t9_s : IR.run F52.t9 C N O K (F52.fr b c f d e g l p q u a) h nx =
 zu .neq .int l (I 0) fun v1 => K (F52.fr b c f d e g l p q v1 a) h nx := by kernel_rfl
theorem F52.v9 : Arg.ev (.t (.of 9)) ⟨(F52.fr b c f d e g l p q u a), []⟩ = u := by kernel_rfl
theorem F52.t15_s : IR.run F52.t15 C N O K (F52.fr b c f d e g l p q u a) h nx =
 zN 2 f h fun v1 => C.fn 135 (.of 135) [v1, c] h nx fun v2 h3 n4 => K (F52.fr b c f d e g l v2 q u a) h3 n4 := by kernel_rfl
theorem F52.cO : IR.run F52.t16 C N O K (F52.fr b c f d e g l p q u a) h nx =
 C.fn 136 (.of 136) [p, (.fn 137 (.of 137) [])] h nx fun v1 h2 n3 => K (F52.fr b c f d e g l p q u v1) h2 n3 := by kernel_rfl
theorem F52.v10 : Arg.ev (.t (.of 10)) ⟨(F52.fr b c f d e g l p q u a), []⟩ = a := by kernel_rfl
theorem F52.t21_s : IR.run F52.t21 C N O K (F52.fr b c f d e g l p q u a) h nx =
 K (F52.fr b c f p (I 0) g l p q u a) h nx := by kernel_rfl
theorem F52.tab : T.get none (.of 52) tbl = some F52 := by kernel_rfl
theorem F52.bind (k : T AV -> OP) : yC F52.params [a0, a1] F52.init k = k (F52.fr a0 a1 .undef .undef .undef .undef .undef .undef .undef .undef .undef) := by kernel_rfl
theorem F52.yx : F52.body = F52.t27 := by kernel_rfl
theorem F52.go : zV tbl N C (.of 52) [a0, a1] h nx K0 = IR.run F52.t27 C N (fnO F52.res K0) (gu F52.res K0) (F52.fr a0 a1 .undef .undef .undef .undef .undef .undef .undef .undef .undef) h nx := by
 rw [zJ F52.tab, F52.bind, F52.yx]; kernel_rfl
theorem F52.ret : gu F52.res K0 (F52.fr b c f d e g l p q u a) h nx = K0 (.tup [d, e]) h nx := by kernel_rfl
end
end Go.Ev
namespace Go.Ev
open Go Go.Proofs
set_option maxRecDepth 100000
section
variable {N : Nat} {C : Calls Prop} {K0 : Kw Prop} {K : Ks Prop} {h : T Blk} {nx : Pa} {b c f d e g l p q u a i o s v w y z A a0 a1 : AV} {O : uy Prop} {tm : T AV} {Kt : KTm} {r : List RO} {s0 s1 s2 s3 s4 s5 s6 s7 s8 s9 s10 s11 s12 s13 s14 s15 s16 s17 s18 s19 s20 s21 s22 s23 s24 s25 s26 s27 s28 s29 s30 s31 s32 s33 s34 s35 s36 s37 s38 s39 s40 s41 s42 s43 s44 s45 s46 s47 s48 s49 s50 s51 s52 s53 s54 s55 s56 s57 s58 s59 : AV}
def F13.t0 : IR := .reg [.q (.of 2) (.mv (.c (.bool false)))]
def F13.r1_3 : List RO := .p .push (some ((.s 4), false)) (.not (.s 0)) :: .q (.of 13) (.pick (.s 5) (.c (.bool true)) (.s 0)) :: []
def F13.r1_2 : List RO := .p .push (some ((.s 2), false)) (.not (.s 0)) :: .s (.pick (.s 3) (.c (.bool true)) (.s 0)) :: .s (.mv (.s 0)) :: .p .push (some ((.s 0), false)) (.mv (.t (.of 0))) :: .p .push (some ((.s 1), false)) (.mv (.t (.of 1))) :: .p .push (some ((.s 2), false)) (.len (.s 0)) :: .w .push (some ((.s 3), false)) (.call (.c (.fn 45 (.of 45) [])) [(.s 2), (.s 0), (.c (I 48))]) :: F13.r1_3
def F13.r1_1 : List RO := .s (.not (.s 0)) :: .s (.mv (.s 0)) :: .p .push (some ((.s 0), false)) (.mv (.t (.of 1))) :: .w .push (some ((.s 1), false)) (.call (.c (.fn 80 (.of 80) [])) [(.s 0)]) :: F13.r1_2
def F13.r1_0 : List RO := .w .push none (.call (.c (.fn 18 (.of 18) [])) []) :: F13.r1_1
def F13.t1 : IR := .reg F13.r1_0
def F13.t2 : IR := .reg [.w .push none (.call (.c (.fn 18 (.of 18) [])) []), .q (.of 2) (.mv (.s 0))]
def F13.t3 : IR := .seq F13.t2 .ret
def F13.t4 : IR := .cond (.t (.of 13)) F13.t3 .skip
def F13.t5 : IR := .seq F13.t1 F13.t4
def F13.t6 : IR := .reg [.s (.mv (.t (.of 0))), .s (.mv (.t (.of 1))), .w .push none (.call (.c (.fn 75 (.of 75) [])) [(.s 1), (.s 0)]), .s (.mv (.s 0)), .s (.ext 0 (.s 0)), .s (.ext 1 (.s 1)), .q (.of 3) (.mv (.s 1)), .q (.of 4) (.mv (.s 0))]
def F13.t7 : IR := .reg [.s (.mv (.t (.of 0))), .s (.mv (.t (.of 1))), .w .push none (.call (.c (.fn 76 (.of 76) [])) [(.s 1), (.s 0)]), .s (.mv (.s 0)), .s (.ext 0 (.s 0)), .s (.ext 1 (.s 1)), .q (.of 5) (.mv (.s 1)), .q (.of 6) (.mv (.s 0))]
def F13.t8 : IR := .reg [.s (.mv (.t (.of 0))), .s (.mv (.t (.of 5))), .s (.mv (.t (.of 1))), .s (.len (.s 0)), .w .push none (.call (.c (.fn 39 (.of 39) [])) [(.s 3), (.s 2), (.s 0)]), .s (.mv (.s 0)), .s (.ext 0 (.s 0)), .s (.ext 1 (.s 1)), .q (.of 7) (.mv (.s 1)), .q (.of 8) (.mv (.s 0))]
def F13.r6_7 : List RO := .p .push (some ((.s 3), false)) (.not (.s 0)) :: .q (.of 14) (.pick (.s 4) (.c (.bool true)) (.s 0)) :: []
def F13.r6_6 : List RO := .p .push (some ((.s 4), false)) (.bin .neq .int (.s 0) (.c (I 0))) :: .s (.pick (.s 5) (.c (.bool true)) (.s 0)) :: .s (.mv (.s 0)) :: .p .push (some ((.s 0), false)) (.mv (.t (.of 7))) :: .p .push (some ((.s 1), false)) (.mv (.t (.of 0))) :: .w .push (some ((.s 2), false)) (.call (.c (.fn 42 (.of 42) [])) [(.s 1), (.s 0)]) :: F13.r6_7
def F13.r6_5 : List RO := .s (.pick (.s 2) (.c (.bool true)) (.s 0)) :: .s (.mv (.s 0)) :: .p .push (some ((.s 0), false)) (.mv (.t (.of 5))) :: .p .push (some ((.s 1), false)) (.mv (.t (.of 1))) :: .p .push (some ((.s 2), false)) (.len (.s 0)) :: .w .push (some ((.s 3), false)) (.call (.c (.fn 20 (.of 20) [])) [(.s 2), (.s 0)]) :: F13.r6_6
def F13.r6_4 : List RO := .s (.pick (.s 2) (.c (.bool true)) (.s 0)) :: .s (.mv (.s 0)) :: .p .push (some ((.s 0), false)) (.mv (.t (.of 7))) :: .w .push (some ((.s 1), false)) (.call (.c (.fn 19 (.of 19) [])) [(.s 0), (.c (I 48))]) :: F13.r6_5
def F13.r6_3 : List RO := .p .push (some ((.s 0), false)) (.mv (.t (.of 5))) :: .w .push (some ((.s 1), false)) (.call (.c (.fn 19 (.of 19) [])) [(.s 0), (.c (I 48))]) :: F13.r6_4
def F13.r6_2 : List RO := .s (.mv (.s 0)) :: .p .push (some ((.s 0), false)) (.mv (.t (.of 7))) :: .p .push (some ((.s 1), false)) (.len (.s 0)) :: .p .push (some ((.s 2), false)) (.mv (.t (.of 3))) :: .p .push (some ((.s 3), false)) (.len (.s 0)) :: .p .push (some ((.s 4), false)) (.bin .neq .int (.s 2) (.s 0)) :: .s (.pick (.s 5) (.c (.bool true)) (.s 0)) :: .s (.mv (.s 0)) :: F13.r6_3
def F13.r6_1 : List RO := .p .push (some ((.s 1), false)) (.len (.s 0)) :: .p .push (some ((.s 2), false)) (.mv (.t (.of 5))) :: .p .push (some ((.s 3), false)) (.len (.s 0)) :: .p .push (some ((.s 4), false)) (.bin .mul .int (.s 2) (.s 0)) :: .p .push (some ((.s 5), false)) (.mv (.t (.of 0))) :: .p .push (some ((.s 6), false)) (.len (.s 0)) :: .p .push (some ((.s 7), false)) (.bin .neq .int (.s 2) (.s 0)) :: .s (.pick (.s 8) (.c (.bool true)) (.s 0)) :: F13.r6_2
def F13.r6_0 : List RO := .s (.mv (.t (.of 4))) :: .s (.mv (.t (.of 6))) :: .s (.bin .add .int (.s 1) (.s 0)) :: .s (.mv (.t (.of 8))) :: .s (.bin .add .int (.s 1) (.s 0)) :: .s (.bin .neq .int (.s 0) (.c (I 0))) :: .s (.mv (.s 0)) :: .p .push (some ((.s 0), false)) (.mv (.t (.of 3))) :: F13.r6_1
def F13.t9 : IR := .reg F13.r6_0
def F13.t10 : IR := .reg [.q (.of 2) (.mv (.c (.bool false)))]
def F13.t11 : IR := .seq F13.t10 .ret
def F13.t12 : IR := .cond (.t (.of 14)) F13.t11 .skip
def F13.t13 : IR := .seq F13.t9 F13.t12
def F13.t14 : IR := .reg [.q (.of 9) (.mv (.c .zf))]
def F13.t15 : IR := .reg [.s (.mv (.t (.of 7))), .q (.of 15) (.len (.s 0)), .q (.of 16) (.mv (.c (I 0)))]
def F13.t16 : IR := .reg [.q (.of 17) (.bin .lss .int (.t (.of 16)) (.t (.of 15)))]
def F13.t17 : IR := .cond (.t (.of 17)) .skip (.exit 0)
def F13.t18 : IR := .reg [.s (.mv (.t (.of 16))), .q (.of 10) (.mv (.s 0))]
def F13.t19 : IR := .reg [.s (.mv (.t (.of 7))), .s (.mv (.t (.of 10))), .s (.zn 2 (.s 1) (.s 0)), .s (.zi 2 (.s 0)), .s (.mv (.t (.of 1))), .w .push none (.call (.c (.fn 52 (.of 52) [])) [(.s 1), (.s 0)]), .s (.mv (.s 0)), .s (.ext 0 (.s 0)), .s (.ext 1 (.s 1)), .q (.of 11) (.mv (.s 1)), .q (.of 12) (.mv (.s 0))]
def F13.r13_1 : List RO := .q (.of 18) (.pick (.s 5) (.c (.bool true)) (.s 0)) :: []
def F13.r13_0 : List RO := .s (.mv (.t (.of 12))) :: .s (.bin .neq .int (.s 0) (.c (I 0))) :: .s (.mv (.s 0)) :: .p .push (some ((.s 0), false)) (.mv (.t (.of 11))) :: .p .push (some ((.s 1), false)) (.len (.s 0)) :: .p .push (some ((.s 2), false)) (.mv (.t (.of 1))) :: .p .push (some ((.s 3), false)) (.len (.s 0)) :: .p .push (some ((.s 4), false)) (.bin .neq .int (.s 2) (.s 0)) :: F13.r13_1
def F13.t20 : IR := .reg F13.r13_0
def F13.t21 : IR := .reg [.q (.of 2) (.mv (.c (.bool false)))]
def F13.t22 : IR := .seq F13.t21 .ret
def F13.t23 : IR := .cond (.t (.of 18)) F13.t22 .skip
def F13.t24 : IR := .seq F13.t20 F13.t23
def F13.t25 : IR := .reg [.s (.mv (.t (.of 9))), .s (.mv (.t (.of 11))), .w .push none (.call (.c (.fn 48 (.of 48) [])) [(.s 1), (.s 0)]), .q (.of 9) (.mv (.s 0))]
def F13.t26 : IR := .seq F13.t24 F13.t25
def F13.t27 : IR := .seq F13.t19 F13.t26
def F13.t28 : IR := .seq F13.t18 F13.t27
def F13.t29 : IR := .block 1 F13.t28
def F13.t30 : IR := .reg [.s (.bin .add .int (.t (.of 16)) (.c (I 1))), .q (.of 16) (.mv (.s 0))]
def F13.t31 : IR := .seq F13.t29 F13.t30
def F13.t32 : IR := .seq F13.t17 F13.t31
def F13.t33 : IR := .seq F13.t16 F13.t32
def F13.t34 : IR := .loop F13.t33
def F13.t35 : IR := .block 0 F13.t34
def F13.t36 : IR := .seq F13.t15 F13.t35
def F13.t37 : IR := .reg [.s (.mv (.t (.of 9))), .s (.mv (.t (.of 3))), .w .push none (.call (.c (.fn 81 (.of 81) [])) [(.s 1), (.s 0)]), .q (.of 2) (.mv (.s 0))]
def F13.t38 : IR := .seq F13.t37 .ret
def F13.t39 : IR := .seq F13.t36 F13.t38
def F13.t40 : IR := .seq F13.t14 F13.t39
def F13.t41 : IR := .seq F13.t13 F13.t40
def F13.t42 : IR := .seq F13.t8 F13.t41
def F13.t43 : IR := .seq F13.t7 F13.t42
def F13.t44 : IR := .seq F13.t6 F13.t43
def F13.t45 : IR := .seq F13.t5 F13.t44
def F13.t46 : IR := .seq F13.t0 F13.t45
theorem F13.xu : IR.run F13.t0 C N O K (F13.fr b c f d e g l p q u a i o s v w y z A) h nx =
 K (F13.fr b c (.bool false) d e g l p q u a i o s v w y z A) h nx := by kernel_rfl
theorem F13.xw : IR.run F13.t1 C N O K tm h nx = yS F13.r1_0 C ⟨tm, []⟩ h nx (fun tm h nx => K tm.v h nx) := qO ..
theorem F13.r1_0_g : yS (.w .push none (.call (.c (.fn 18 (.of 18) [])) []) :: r) C ⟨(F13.fr b c f d e g l p q u a i o s v w y z A), []⟩ h nx Kt =
 C.fn 18 (.of 18) [] h nx fun v1 h2 n3 => yS r C ⟨(F13.fr b c f d e g l p q u a i o s v w y z A), v1 :: []⟩ h2 n3 Kt := by kernel_rfl
theorem F13.r1_1_g : yS (.s (.not (.s 0)) :: .s (.mv (.s 0)) :: .p .push (some ((.s 0), false)) (.mv (.t (.of 1))) :: .w .push (some ((.s 1), false)) (.call (.c (.fn 80 (.of 80) [])) [(.s 0)]) :: r) C ⟨(F13.fr b c f d e g l p q u a i o s v w y z A), s0 :: []⟩ h nx Kt =
 sNot s0 fun v1 => sG v1 false (fun k => k c) fun v2 => sGW v1 false (fun k => C.fn 80 (.of 80) [v2] h nx k) h nx fun v3 h4 n5 => yS r C ⟨(F13.fr b c f d e g l p q u a i o s v w y z A), v3 :: v2 :: v1 :: v1 :: s0 :: []⟩ h4 n5 Kt := by kernel_rfl
theorem F13.r1_2_g : yS (.p .push (some ((.s 2), false)) (.not (.s 0)) :: .s (.pick (.s 3) (.c (.bool true)) (.s 0)) :: .s (.mv (.s 0)) :: .p .push (some ((.s 0), false)) (.mv (.t (.of 0))) :: .p .push (some ((.s 1), false)) (.mv (.t (.of 1))) :: .p .push (some ((.s 2), false)) (.len (.s 0)) :: .w .push (some ((.s 3), false)) (.call (.c (.fn 45 (.of 45) [])) [(.s 2), (.s 0), (.c (I 48))]) :: r) C ⟨(F13.fr b c f d e g l p q u a i o s v w y z A), s0 :: s1 :: s2 :: s3 :: s4 :: []⟩ h nx Kt =
 sG s2 false (fun k => sNot s0 k) fun v1 => j5 s2 (.bool true) v1 fun v2 => sG v2 false (fun k => k b) fun v3 => sG v2 false (fun k => k c) fun v4 => sG v2 false (fun k => sLen v4 k) fun v5 => sGW v2 false (fun k => C.fn 45 (.of 45) [v3, v5, (I 48)] h nx k) h nx fun v6 h7 n8 => yS r C ⟨(F13.fr b c f d e g l p q u a i o s v w y z A), v6 :: v5 :: v4 :: v3 :: v2 :: v2 :: v1 :: s0 :: s1 :: s2 :: s3 :: s4 :: []⟩ h7 n8 Kt := by kernel_rfl
theorem F13.r1_3_g : yS (.p .push (some ((.s 4), false)) (.not (.s 0)) :: .q (.of 13) (.pick (.s 5) (.c (.bool true)) (.s 0)) :: []) C ⟨(F13.fr b c f d e g l p q u a i o s v w y z A), s0 :: s1 :: s2 :: s3 :: s4 :: s5 :: s6 :: s7 :: s8 :: s9 :: s10 :: s11 :: []⟩ h nx Kt =
 sG s4 false (fun k => sNot s0 k) fun v1 => j5 s4 (.bool true) v1 fun v2 => Kt ⟨(F13.fr b c f d e g l p q u a i o v2 v w y z A), v1 :: s0 :: s1 :: s2 :: s3 :: s4 :: s5 :: s6 :: s7 :: s8 :: s9 :: s10 :: s11 :: []⟩ h nx := by kernel_rfl
theorem F13.bQ : IR.run F13.t2 C N O K (F13.fr b c f d e g l p q u a i o s v w y z A) h nx =
 C.fn 18 (.of 18) [] h nx fun v1 h2 n3 => K (F13.fr b c v1 d e g l p q u a i o s v w y z A) h2 n3 := by kernel_rfl
theorem F13.v13 : Arg.ev (.t (.of 13)) ⟨(F13.fr b c f d e g l p q u a i o s v w y z A), []⟩ = s := by kernel_rfl
theorem F13.t6_s : IR.run F13.t6 C N O K (F13.fr b c f d e g l p q u a i o s v w y z A) h nx =
 C.fn 75 (.of 75) [b, c] h nx fun v1 h2 n3 => xq 0 v1 fun v4 => xq 1 v1 fun v5 => K (F13.fr b c f v4 v5 g l p q u a i o s v w y z A) h2 n3 := by kernel_rfl
theorem F13.t7_s : IR.run F13.t7 C N O K (F13.fr b c f d e g l p q u a i o s v w y z A) h nx =
 C.fn 76 (.of 76) [b, c] h nx fun v1 h2 n3 => xq 0 v1 fun v4 => xq 1 v1 fun v5 => K (F13.fr b c f d e v4 v5 p q u a i o s v w y z A) h2 n3 := by kernel_rfl
theorem F13.t8_s : IR.run F13.t8 C N O K (F13.fr b c f d e g l p q u a i o s v w y z A) h nx =
 sLen c fun v1 => C.fn 39 (.of 39) [b, g, v1] h nx fun v2 h3 n4 => xq 0 v2 fun v5 => xq 1 v2 fun v6 => K (F13.fr b c f d e g l v5 v6 u a i o s v w y z A) h3 n4 := by kernel_rfl
theorem F13.t9_s : IR.run F13.t9 C N O K tm h nx = yS F13.r6_0 C ⟨tm, []⟩ h nx (fun tm h nx => K tm.v h nx) := qO ..
theorem F13.r6_0_g : yS (.s (.mv (.t (.of 4))) :: .s (.mv (.t (.of 6))) :: .s (.bin .add .int (.s 1) (.s 0)) :: .s (.mv (.t (.of 8))) :: .s (.bin .add .int (.s 1) (.s 0)) :: .s (.bin .neq .int (.s 0) (.c (I 0))) :: .s (.mv (.s 0)) :: .p .push (some ((.s 0), false)) (.mv (.t (.of 3))) :: r) C ⟨(F13.fr b c f d e g l p q u a i o s v w y z A), []⟩ h nx Kt =
 zu .add .int e l fun v1 => zu .add .int v1 q fun v2 => zu .neq .int v2 (I 0) fun v3 => sG v3 false (fun k => k d) fun v4 => yS r C ⟨(F13.fr b c f d e g l p q u a i o s v w y z A), v4 :: v3 :: v3 :: v2 :: q :: v1 :: l :: e :: []⟩ h nx Kt := by kernel_rfl
theorem F13.r6_1_g : yS (.p .push (some ((.s 1), false)) (.len (.s 0)) :: .p .push (some ((.s 2), false)) (.mv (.t (.of 5))) :: .p .push (some ((.s 3), false)) (.len (.s 0)) :: .p .push (some ((.s 4), false)) (.bin .mul .int (.s 2) (.s 0)) :: .p .push (some ((.s 5), false)) (.mv (.t (.of 0))) :: .p .push (some ((.s 6), false)) (.len (.s 0)) :: .p .push (some ((.s 7), false)) (.bin .neq .int (.s 2) (.s 0)) :: .s (.pick (.s 8) (.c (.bool true)) (.s 0)) :: r) C ⟨(F13.fr b c f d e g l p q u a i o s v w y z A), s0 :: s1 :: s2 :: s3 :: s4 :: s5 :: s6 :: s7 :: []⟩ h nx Kt =
 sG s1 false (fun k => sLen s0 k) fun v1 => sG s1 false (fun k => k g) fun v2 => sG s1 false (fun k => sLen v2 k) fun v3 => sG s1 false (fun k => zu .mul .int v1 v3 k) fun v4 => sG s1 false (fun k => k b) fun v5 => sG s1 false (fun k => sLen v5 k) fun v6 => sG s1 false (fun k => zu .neq .int v4 v6 k) fun v7 => j5 s1 (.bool true) v7 fun v8 => yS r C ⟨(F13.fr b c f d e g l p q u a i o s v w y z A), v8 :: v7 :: v6 :: v5 :: v4 :: v3 :: v2 :: v1 :: s0 :: s1 :: s2 :: s3 :: s4 :: s5 :: s6 :: s7 :: []⟩ h nx Kt := by kernel_rfl
theorem F13.r6_2_g : yS (.s (.mv (.s 0)) :: .p .push (some ((.s 0), false)) (.mv (.t (.of 7))) :: .p .push (some ((.s 1), false)) (.len (.s 0)) :: .p .push (some ((.s 2), false)) (.mv (.t (.of 3))) :: .p .push (some ((.s 3), false)) (.len (.s 0)) :: .p .push (some ((.s 4), false)) (.bin .neq .int (.s 2) (.s 0)) :: .s (.pick (.s 5) (.c (.bool true)) (.s 0)) :: .s (.mv (.s 0)) :: r) C ⟨(F13.fr b c f d e g l p q u a i o s v w y z A), s0 :: s1 :: s2 :: s3 :: s4 :: s5 :: s6 :: s7 :: s8 :: s9 :: s10 :: s11 :: s12 :: s13 :: s14 :: s15 :: []⟩ h nx Kt =
 sG s0 false (fun k => k p) fun v1 => sG s0 false (fun k => sLen v1 k) fun v2 => sG s0 false (fun k => k d) fun v3 => sG s0 false (fun k => sLen v3 k) fun v4 => sG s0 false (fun k => zu .neq .int v2 v4 k) fun v5 => j5 s0 (.bool true) v5 fun v6 => yS r C ⟨(F13.fr b c f d e g l p q u a i o s v w y z A), v6 :: v6 :: v5 :: v4 :: v3 :: v2 :: v1 :: s0 :: s0 :: s1 :: s2 :: s3 :: s4 :: s5 :: s6 :: s7 :: s8 :: s9 :: s10 :: s11 :: s12 :: s13 :: s14 :: s15 :: []⟩ h nx Kt := by kernel_rfl
theorem F13.r6_3_g : yS (.p .push (some ((.s 0), false)) (.mv (.t (.of 5))) :: .w .push (some ((.s 1), false)) (.call (.c (.fn 19 (.of 19) [])) [(.s 0), (.c (I 48))]) :: r) C ⟨(F13.fr b c f d e g l p q u a i o s v w y z A), s0 :: s1 :: s2 :: s3 :: s4 :: s5 :: s6 :: s7 :: s8 :: s9 :: s10 :: s11 :: s12 :: s13 :: s14 :: s15 :: s16 :: s17 :: s18 :: s19 :: s20 :: s21 :: s22 :: s23 :: []⟩ h nx Kt =
 sG s0 false (fun k => k g) fun v1 => sGW s0 false (fun k => C.fn 19 (.of 19) [v1, (I 48)] h nx k) h nx fun v2 h3 n4 => yS r C ⟨(F13.fr b c f d e g l p q u a i o s v w y z A), v2 :: v1 :: s0 :: s1 :: s2 :: s3 :: s4 :: s5 :: s6 :: s7 :: s8 :: s9 :: s10 :: s11 :: s12 :: s13 :: s14 :: s15 :: s16 :: s17 :: s18 :: s19 :: s20 :: s21 :: s22 :: s23 :: []⟩ h3 n4 Kt := by kernel_rfl
theorem F13.r6_4_g : yS (.s (.pick (.s 2) (.c (.bool true)) (.s 0)) :: .s (.mv (.s 0)) :: .p .push (some ((.s 0), false)) (.mv (.t (.of 7))) :: .w .push (some ((.s 1), false)) (.call (.c (.fn 19 (.of 19) [])) [(.s 0), (.c (I 48))]) :: r) C ⟨(F13.fr b c f d e g l p q u a i o s v w y z A), s0 :: s1 :: s2 :: s3 :: s4 :: s5 :: s6 :: s7 :: s8 :: s9 :: s10 :: s11 :: s12 :: s13 :: s14 :: s15 :: s16 :: s17 :: s18 :: s19 :: s20 :: s21 :: s22 :: s23 :: s24 :: s25 :: []⟩ h nx Kt =
 j5 s2 (.bool true) s0 fun v1 => sG v1 false (fun k => k p) fun v2 => sGW v1 false (fun k => C.fn 19 (.of 19) [v2, (I 48)] h nx k) h nx fun v3 h4 n5 => yS r C ⟨(F13.fr b c f d e g l p q u a i o s v w y z A), v3 :: v2 :: v1 :: v1 :: s0 :: s1 :: s2 :: s3 :: s4 :: s5 :: s6 :: s7 :: s8 :: s9 :: s10 :: s11 :: s12 :: s13 :: s14 :: s15 :: s16 :: s17 :: s18 :: s19 :: s20 :: s21 :: s22 :: s23 :: s24 :: s25 :: []⟩ h4 n5 Kt := by kernel_rfl
theorem F13.r6_5_g : yS (.s (.pick (.s 2) (.c (.bool true)) (.s 0)) :: .s (.mv (.s 0)) :: .p .push (some ((.s 0), false)) (.mv (.t (.of 5))) :: .p .push (some ((.s 1), false)) (.mv (.t (.of 1))) :: .p .push (some ((.s 2), false)) (.len (.s 0)) :: .w .push (some ((.s 3), false)) (.call (.c (.fn 20 (.of 20) [])) [(.s 2), (.s 0)]) :: r) C ⟨(F13.fr b c f d e g l p q u a i o s v w y z A), s0 :: s1 :: s2 :: s3 :: s4 :: s5 :: s6 :: s7 :: s8 :: s9 :: s10 :: s11 :: s12 :: s13 :: s14 :: s15 :: s16 :: s17 :: s18 :: s19 :: s20 :: s21 :: s22 :: s23 :: s24 :: s25 :: s26 :: s27 :: s28 :: s29 :: []⟩ h nx Kt =
 j5 s2 (.bool true) s0 fun v1 => sG v1 false (fun k => k g) fun v2 => sG v1 false (fun k => k c) fun v3 => sG v1 false (fun k => sLen v3 k) fun v4 => sGW v1 false (fun k => C.fn 20 (.of 20) [v2, v4] h nx k) h nx fun v5 h6 n7 => yS r C ⟨(F13.fr b c f d e g l p q u a i o s v w y z A), v5 :: v4 :: v3 :: v2 :: v1 :: v1 :: s0 :: s1 :: s2 :: s3 :: s4 :: s5 :: s6 :: s7 :: s8 :: s9 :: s10 :: s11 :: s12 :: s13 :: s14 :: s15 :: s16 :: s17 :: s18 :: s19 :: s20 :: s21 :: s22 :: s23 :: s24 :: s25 :: s26 :: s27 :: s28 :: s29 :: []⟩ h6 n7 Kt := by kernel_rfl
theorem F13.r6_6_g : yS (.p .push (some ((.s 4), false)) (.bin .neq .int (.s 0) (.c (I 0))) :: .s (.pick (.s 5) (.c (.bool true)) (.s 0)) :: .s (.mv (.s 0)) :: .p .push (some ((.s 0), false)) (.mv (.t (.of 7))) :: .p .push (some ((.s 1), false)) (.mv (.t (.of 0))) :: .w .push (some ((.s 2), false)) (.call (.c (.fn 42 (.of 42) [])) [(.s 1), (.s 0)]) :: r) C ⟨(F13.fr b c f d e g l p q u a i o s v w y z A), s0 :: s1 :: s2 :: s3 :: s4 :: s5 :: s6 :: s7 :: s8 :: s9 :: s10 :: s11 :: s12 :: s13 :: s14 :: s15 :: s16 :: s17 :: s18 :: s19 :: s20 :: s21 :: s22 :: s23 :: s24 :: s25 :: s26 :: s27 :: s28 :: s29 :: s30 :: s31 :: s32 :: s33 :: s34 :: s35 :: []⟩ h nx Kt =
 sG s4 false (fun k => zu .neq .int s0 (I 0) k) fun v1 => j5 s4 (.bool true) v1 fun v2 => sG v2 false (fun k => k p) fun v3 => sG v2 false (fun k => k b) fun v4 => sGW v2 false (fun k => C.fn 42 (.of 42) [v3, v4] h nx k) h nx fun v5 h6 n7 => yS r C ⟨(F13.fr b c f d e g l p q u a i o s v w y z A), v5 :: v4 :: v3 :: v2 :: v2 :: v1 :: s0 :: s1 :: s2 :: s3 :: s4 :: s5 :: s6 :: s7 :: s8 :: s9 :: s10 :: s11 :: s12 :: s13 :: s14 :: s15 :: s16 :: s17 :: s18 :: s19 :: s20 :: s21 :: s22 :: s23 :: s24 :: s25 :: s26 :: s27 :: s28 :: s29 :: s30 :: s31 :: s32 :: s33 :: s34 :: s35 :: []⟩ h6 n7 Kt := by kernel_rfl
theorem F13.r6_7_g : yS (.p .push (some ((.s 3), false)) (.not (.s 0)) :: .q (.of 14) (.pick (.s 4) (.c (.bool true)) (.s 0)) :: []) C ⟨(F13.fr b c f d e g l p q u a i o s v w y z A), s0 :: s1 :: s2 :: s3 :: s4 :: s5 :: s6 :: s7 :: s8 :: s9 :: s10 :: s11 :: s12 :: s13 :: s14 :: s15 :: s16 :: s17 :: s18 :: s19 :: s20 :: s21 :: s22 :: s23 :: s24 :: s25 :: s26 :: s27 :: s28 :: s29 :: s30 :: s31 :: s32 :: s33 :: s34 :: s35 :: s36 :: s37 :: s38 :: s39 :: s40 :: s41 :: []⟩ h nx Kt =
 sG s3 false (fun k => sNot s0 k) fun v1 => j5 s3 (.bool true) v1 fun v2 => Kt ⟨(F13.fr b c f d e g l p q u a i o s v2 w y z A), v1 :: s0 :: s1 :: s2 :: s3 :: s4 :: s5 :: s6 :: s7 :: s8 :: s9 :: s10 :: s11 :: s12 :: s13 :: s14 :: s15 :: s16 :: s17 :: s18 :: s19 :: s20 :: s21 :: s22 :: s23 :: s24 :: s25 :: s26 :: s27 :: s28 :: s29 :: s30 :: s31 :: s32 :: s33 :: s34 :: s35 :: s36 :: s37 :: s38 :: s39 :: s40 :: s41 :: []⟩ h nx := by kernel_rfl
theorem F13.v14 : Arg.ev (.t (.of 14)) ⟨(F13.fr b c f d e g l p q u a i o s v w y z A), []⟩ = v := by kernel_rfl
theorem F13.t14_s : IR.run F13.t14 C N O K (F13.fr b c f d e g l p q u a i o s v w y z A) h nx =
 K (F13.fr b c f d e g l p q .zf a i o s v w y z A) h nx := by kernel_rfl
theorem F13.t15_s : IR.run F13.t15 C N O K (F13.fr b c f d e g l p q u a i o s v w y z A) h nx =
 sLen p fun v1 => K (F13.fr b c f d e g l p q u a i o s v v1 (I 0) z A) h nx := by kernel_rfl
theorem F13.cO : IR.run F13.t16 C N O K (F13.fr b c f d e g l p q u a i o s v w y z A) h nx =
 zu .lss .int y w fun v1 => K (F13.fr b c f d e g l p q u a i o s v w y v1 A) h nx := by kernel_rfl
theorem F13.v17 : Arg.ev (.t (.of 17)) ⟨(F13.fr b c f d e g l p q u a i o s v w y z A), []⟩ = z := by kernel_rfl
theorem F13.t18_s : IR.run F13.t18 C N O K (F13.fr b c f d e g l p q u a i o s v w y z A) h nx =
 K (F13.fr b c f d e g l p q u y i o s v w y z A) h nx := by kernel_rfl
theorem F13.t19_s : IR.run F13.t19 C N O K (F13.fr b c f d e g l p q u a i o s v w y z A) h nx =
 zS 2 p a fun v1 => zN 2 v1 h fun v2 => C.fn 52 (.of 52) [v2, c] h nx fun v3 h4 n5 => xq 0 v3 fun v6 => xq 1 v3 fun v7 => K (F13.fr b c f d e g l p q u a v6 v7 s v w y z A) h4 n5 := by kernel_rfl
theorem F13.t20_s : IR.run F13.t20 C N O K tm h nx = yS F13.r13_0 C ⟨tm, []⟩ h nx (fun tm h nx => K tm.v h nx) := qO ..
theorem F13.r13_0_g : yS (.s (.mv (.t (.of 12))) :: .s (.bin .neq .int (.s 0) (.c (I 0))) :: .s (.mv (.s 0)) :: .p .push (some ((.s 0), false)) (.mv (.t (.of 11))) :: .p .push (some ((.s 1), false)) (.len (.s 0)) :: .p .push (some ((.s 2), false)) (.mv (.t (.of 1))) :: .p .push (some ((.s 3), false)) (.len (.s 0)) :: .p .push (some ((.s 4), false)) (.bin .neq .int (.s 2) (.s 0)) :: r) C ⟨(F13.fr b c f d e g l p q u a i o s v w y z A), []⟩ h nx Kt =
 zu .neq .int o (I 0) fun v1 => sG v1 false (fun k => k i) fun v2 => sG v1 false (fun k => sLen v2 k) fun v3 => sG v1 false (fun k => k c) fun v4 => sG v1 false (fun k => sLen v4 k) fun v5 => sG v1 false (fun k => zu .neq .int v3 v5 k) fun v6 => yS r C ⟨(F13.fr b c f d e g l p q u a i o s v w y z A), v6 :: v5 :: v4 :: v3 :: v2 :: v1 :: v1 :: o :: []⟩ h nx Kt := by kernel_rfl
theorem F13.r13_1_g : yS (.q (.of 18) (.pick (.s 5) (.c (.bool true)) (.s 0)) :: []) C ⟨(F13.fr b c f d e g l p q u a i o s v w y z A), s0 :: s1 :: s2 :: s3 :: s4 :: s5 :: s6 :: s7 :: []⟩ h nx Kt =
 j5 s5 (.bool true) s0 fun v1 => Kt ⟨(F13.fr b c f d e g l p q u a i o s v w y z v1), s0 :: s1 :: s2 :: s3 :: s4 :: s5 :: s6 :: s7 :: []⟩ h nx := by kernel_rfl
theorem F13.v18 : Arg.ev (.t (.of 18)) ⟨(F13.fr b c f d e g l p q u a i o s v w y z A), []⟩ = A := by kernel_rfl
theorem F13.t25_s : IR.run F13.t25 C N O K (F13.fr b c f d e g l p q u a i o s v w y z A) h nx =
 C.fn 48 (.of 48) [u, i] h nx fun v1 h2 n3 => K (F13.fr b c f d e g l p q v1 a i o s v w y z A) h2 n3 := by kernel_rfl
theorem F13.t30_s : IR.run F13.t30 C N O K (F13.fr b c f d e g l p q u a i o s v w y z A) h nx =
 zu .add .int y (I 1) fun v1 => K (F13.fr b c f d e g l p q u a i o s v w v1 z A) h nx := by kernel_rfl
theorem F13.t34_L (Inv : Nat -> AV -> AV -> T Blk -> Pa -> Prop) {m : Nat} (hm : m < N) (hi : Inv m u y h nx)
  (step : ∀ (m : Nat) (z2 z9 zI zA zB zG zH zK : AV) (h : T Blk) (nx : Pa) (R : Ks Prop), Inv m z9 zG h nx -> (∀ (m' : Nat) (w2 w9 wI wB wC wG wH wJ : AV) (h' : T Blk) (nx' : Pa), m' < m -> Inv m' w9 wG h' nx' -> R (F13.fr b c w2 d e g l p q w9 wI wB wC s v w wG wH wJ) h' nx' = .ok True) -> IR.run F13.t33 C N O R (F13.fr b c z2 d e g l p q z9 zI zA zB s v w zG zH zK) h nx = .ok True) :
  IR.run F13.t34 C N O K (F13.fr b c f d e g l p q u a i o s v w y z A) h nx = .ok True := by
 rw [F13.t34];refine yM (fun m tm h nx => ∃ z2 z9 zI zA zB zG zH zK, tm = (F13.fr b c z2 d e g l p q z9 zI zA zB s v w zG zH zK) /\ Inv m z9 zG h nx) ?_ hm ⟨_, _, _, _, _, _, _, _, rfl, hi⟩;rintro m tm h nx R ⟨z2, z9, zI, zA, zB, zG, zH, zK, rfl, hi⟩ hR;exact step m z2 z9 zI zA zB zG zH zK h nx R hi fun m' w2 w9 wI wB wC wG wH wJ h' nx' hlt hi' => hR m' _ h' nx' hlt ⟨_, _, _, _, _, _, _, _, rfl, hi'⟩
theorem F13.t37_s : IR.run F13.t37 C N O K (F13.fr b c f d e g l p q u a i o s v w y z A) h nx =
 C.fn 81 (.of 81) [u, d] h nx fun v1 h2 n3 => K (F13.fr b c v1 d e g l p q u a i o s v w y z A) h2 n3 := by kernel_rfl
theorem F13.tab : T.get none (.of 13) tbl = some F13 := by kernel_rfl
theorem F13.bind (k : T AV -> OP) : yC F13.params [a0, a1] F13.init k = k (F13.fr a0 a1 .undef .undef .undef .undef .undef .undef .undef .undef .undef .undef .undef .undef .undef .undef .undef .undef .undef) := by kernel_rfl
theorem F13.yx : F13.body = F13.t46 := by kernel_rfl
theorem F13.go : zV tbl N C (.of 13) [a0, a1] h nx K0 = IR.run F13.t46 C N (fnO F13.res K0) (gu F13.res K0) (F13.fr a0 a1 .undef .undef .undef .undef .undef .undef .undef .undef .undef .undef .undef .undef .undef .undef .undef .undef .undef) h nx := by
 rw [zJ F13.tab, F13.bind, F13.yx]; kernel_rfl
theorem F13.ret : gu F13.res K0 (F13.fr b c f d e g l p q u a i o s v w y z A) h nx = K0 f h nx := by kernel_rfl
end
end Go.Ev
