import Derived.Test.YtkjkjpmahgeneaaGreatDoorIrT
import Derived.KernelRfl
import Derived.Test.YtkjkjpmahgeneaaGreatDoorEvD
set_option linter.unusedSimpArgs false
set_option linter.unusedVariables false
noncomputable section
namespace Go.Ev
open Go Go.Proofs
set_option maxRecDepth 100000
variable {N : Nat} {C : Calls Prop} {K0 : Kw Prop} {K R : Ks Prop} {h : T Blk} {nx : Pa} {a b f e d g l a0 a1 a2 q p w c i o s u v y z B A D E F G H : AV}
theorem F93.g2_eq (X3 : IR) (O : uz Prop) (t : T AV) : IR.run (F93.g2 X3) C N O K t h nx = IR.run X3 C N (O.blk 0 K) K t h nx := by kernel_rfl
theorem F93.tab : T.get none (.of 93) tbl = some F93 := by kernel_rfl
theorem F93.go : zV tbl N C (.of 93) [a0] h nx K0 =
 sLen a0 fun v1 => zo .gtr .int v1 (I 256) fun v2 => yD v2 (K0 (I 5) h nx) (sLen a0 fun v3 => uG 1 1 [(.bool false)] v3 v3 h nx fun v4 h5 n6 => IR.run F93.b2 C N (fnO F93.res K0) (IR.run F93.b10 C N (fnO F93.res K0) (ji F93.res K0)) (F93.fr a0 (I 0) v4 (I 0) v2 .undef .undef) h5 n6) := by
 rw [zJ F93.tab]; kernel_rfl
theorem F93.L2 (Inv : Nat -> AV -> T Blk -> Pa -> Prop) {m : Nat} (hm : m < N) (hi : Inv m e h nx)
  (step : ∀ (m : Nat) (z1 z3 z5 z6 : AV) (h : T Blk) (nx : Pa) (R : Ks Prop), Inv m z3 h nx -> (∀ (m' : Nat) (w1 w3 w5 w6 : AV) (h' : T Blk) (nx' : Pa), m' < m -> Inv m' w3 h' nx' -> R (F93.fr a w1 f w3 d w5 w6) h' nx' = .ok True) ->
   (sLen a fun v1 => zo .lss .int z3 v1 fun v2 => yD v2 (zP 1 a z3 fun v3 => zF v3 h fun v4 => zo .lss .int v4 (I 0) fun v5 => sG v5 false (fun k => k a) fun v6 => sG v5 false (fun k => k z3) fun v7 => sG v5 false (fun k => zP 1 v6 v7 k) fun v8 => sG v5 false (fun k => zF v8 h k) fun v9 => sG v5 false (fun k => k a) fun vA => sG v5 false (fun k => sLen vA k) fun vB => sG v5 false (fun k => zo .geq .int v9 vB k) fun vC => jM v5 (.bool true) vC fun vD => sG vD false (fun k => k f) fun vE => sG vD false (fun k => k a) fun vF => sG vD false (fun k => k z3) fun vG => sG vD false (fun k => zP 1 vF vG k) fun vH => sG vD false (fun k => zF vH h k) fun vI => sG vD false (fun k => zP 1 vE vI k) fun vJ => sG vD false (fun k => zF vJ h k) fun vK => jM vD (.bool true) vK fun vL => yD vL (K0 (I 14) h nx) ((IR.run F93.b8 C N (((fnO F93.res K0).blk 0 K).blk 1 (IR.run F93.b9 C N ((fnO F93.res K0).blk 0 K) R)) (IR.run F93.b9 C N ((fnO F93.res K0).blk 0 K) R)) (F93.fr a z1 f z3 d v2 vL) h nx)) (K (F93.fr a z1 f z3 d v2 z6) h nx)) = .ok True) :
  IR.run F93.b2 C N (fnO F93.res K0) K (F93.fr a b f e d g l) h nx = .ok True := by
 rw [F93.b2, F93.g2_eq, F93.b3];refine yK (fun m tm h nx => ∃ z1 z3 z5 z6, tm = (F93.fr a z1 f z3 d z5 z6) /\ Inv m z3 h nx) ?_ hm ⟨_, _, _, _, rfl, hi⟩;rintro m tm h nx R ⟨z1, z3, z5, z6, rfl, hi⟩ hR;refine Eq.trans ?_ (step m z1 z3 z5 z6 h nx R hi fun m' w1 w3 w5 w6 h' nx' hlt hi' => hR m' _ h' nx' hlt ⟨_, _, _, _, rfl, hi'⟩)
 kernel_rfl
theorem F93.k10 : IR.run F93.b10 C N (fnO F93.res K0) K (F93.fr a b f e d g l) h nx =
 K0 (I 0) h nx := by kernel_rfl
theorem F93.k9 {E0 : Ks Prop} : IR.run F93.b9 C N ((fnO F93.res K0).blk 0 E0) K (F93.fr a b f e d g l) h nx =
 zo .add .int e (I 1) fun v1 => K (F93.fr a b f v1 d g l) h nx := by kernel_rfl
theorem F93.k8 {E0 E1 : Ks Prop} : IR.run F93.b8 C N (((fnO F93.res K0).blk 0 E0).blk 1 E1) K (F93.fr a b f e d g l) h nx =
 zP 1 a e fun v1 => zF v1 h fun v2 => zP 1 f v2 fun v3 => zQ 1 v3 (.bool true) h nx fun v4 h5 n6 => K (F93.fr a b f e d g l) h5 n6 := by kernel_rfl
theorem F26.tab : T.get none (.of 26) tbl = some F26 := by kernel_rfl
theorem F26.go : zV tbl N C (.of 26) [a0, a1] h nx K0 =
 sBox a0 h nx fun v1 h2 n3 => C.fn 25 (.of 25) [a1] h2 n3 fun v4 h5 n6 => zo .neq .int v4 (I 0) fun v7 => yD v7 (K0 (I 3) h5 n6) (zW 0 v1 fun v8 => zF v8 h5 fun v9 => sLen v9 fun vA => zo .neq .int vA a1 fun vB => yD vB (K0 (I 2) h5 n6) (zW 0 v1 fun vC => zF vC h5 fun vD => C.fn 93 (.of 93) [vD] h5 n6 fun vE hA nA => K0 vE hA nA)) := by
 rw [zJ F26.tab]; kernel_rfl
theorem F25.tab : T.get none (.of 25) tbl = some F25 := by kernel_rfl
theorem F25.go : zV tbl N C (.of 25) [a0] h nx K0 =
 zo .lss .int a0 (I 0) fun v1 => sG v1 false (fun k => k a0) fun v2 => sG v1 false (fun k => zo .gtr .int v2 (I 256) k) fun v3 => jM v1 (.bool true) v3 fun v4 => yD v4 (K0 (I 3) h nx) (K0 (I 0) h nx) := by
 rw [zJ F25.tab]; kernel_rfl
theorem F58.mr (X2 : IR) (O : uz Prop) (t : T AV) : IR.run (F58.g1 X2) C N O K t h nx = IR.run X2 C N (O.blk 0 K) K t h nx := by kernel_rfl
theorem F58.tab : T.get none (.of 58) tbl = some F58 := by kernel_rfl
theorem F58.go : zV tbl N C (.of 58) [a0, a1] h nx K0 =
 sBox a0 h nx fun v1 h2 n3 => sLen a1 fun v4 => uG 1 8 [(I 0)] v4 v4 h2 n3 fun v5 h6 n7 => IR.run F58.b1 C N (fnO F58.res K0) (IR.run F58.b9 C N (fnO F58.res K0) (ji F58.res K0)) (F58.fr a0 a1 v1 .zf v5 (I 0) .undef .undef .undef) h6 n7 := by
 rw [zJ F58.tab]; kernel_rfl
theorem F58.L1 (Inv : Nat -> AV -> T Blk -> Pa -> Prop) {m : Nat} (hm : m < N) (hi : Inv m g h nx)
  (step : ∀ (m : Nat) (z5 z6 z7 z8 : AV) (h : T Blk) (nx : Pa) (R : Ks Prop), Inv m z5 h nx -> (∀ (m' : Nat) (w5 w6 w7 w8 : AV) (h' : T Blk) (nx' : Pa), m' < m -> Inv m' w5 h' nx' -> R (F58.fr a b f e d w5 w6 w7 w8) h' nx' = .ok True) ->
   (sLen b fun v1 => zo .lss .int z5 v1 fun v2 => yD v2 (zP 1 b z5 fun v3 => zF v3 h fun v4 => zW 1 f fun v5 => zF v5 h fun v6 => yD v6 (sLen b fun v7 => zo .add .int v7 (I 1) fun v8 => zo .sub .int v8 v4 fun v9 => zW 0 f fun vA => zF vA h fun vB => zP 1 vB z5 fun vC => zF vC h fun vD => zP 1 d vD fun vE => zQ 1 vE v9 h nx fun vF hB nB => zo .add .int z5 (I 1) fun vI => R (F58.fr a b f e d vI v9 v2 v6) hB nB) (zW 0 f fun vJ => zF vJ h fun vK => zP 1 vK z5 fun vL => zF vL h fun vM => zP 1 d vM fun vN => zQ 1 vN v4 h nx fun vO hC nC => zo .add .int z5 (I 1) fun vP => R (F58.fr a b f e d vP v4 v2 v6) hC nC)) (K (F58.fr a b f e d z5 z6 v2 z8) h nx)) = .ok True) :
  IR.run F58.b1 C N (fnO F58.res K0) K (F58.fr a b f e d g l q p) h nx = .ok True := by
 rw [F58.b1, F58.mr, F58.b2];refine yK (fun m tm h nx => ∃ z5 z6 z7 z8, tm = (F58.fr a b f e d z5 z6 z7 z8) /\ Inv m z5 h nx) ?_ hm ⟨_, _, _, _, rfl, hi⟩;rintro m tm h nx R ⟨z5, z6, z7, z8, rfl, hi⟩ hR;refine Eq.trans ?_ (step m z5 z6 z7 z8 h nx R hi fun m' w5 w6 w7 w8 h' nx' hlt hi' => hR m' _ h' nx' hlt ⟨_, _, _, _, rfl, hi'⟩)
 kernel_rfl
theorem F58.k9 : IR.run F58.b9 C N (fnO F58.res K0) K (F58.fr a b f e d g l q p) h nx =
 K0 d h nx := by kernel_rfl
theorem F82.g2_eq (X3 : IR) (O : uz Prop) (t : T AV) : IR.run (F82.g2 X3) C N O K t h nx = IR.run X3 C N (O.blk 0 K) K t h nx := by kernel_rfl
theorem F82.tab : T.get none (.of 82) tbl = some F82 := by kernel_rfl
theorem F82.go : zV tbl N C (.of 82) [a0, a1] h nx K0 =
 sLen a0 fun v1 => sLen a1 fun v2 => zo .neq .int v1 v2 fun v3 => yD v3 (K0 (.bool false) h nx) (IR.run F82.b2 C N (fnO F82.res K0) (IR.run F82.b9 C N (fnO F82.res K0) (ji F82.res K0)) (F82.fr a0 a1 (.bool false) (I 0) v3 .undef .undef) h nx) := by
 rw [zJ F82.tab]; kernel_rfl
theorem F82.L2 (Inv : Nat -> AV -> T Blk -> Pa -> Prop) {m : Nat} (hm : m < N) (hi : Inv m e h nx)
  (step : ∀ (m : Nat) (z2 z3 z5 z6 : AV) (h : T Blk) (nx : Pa) (R : Ks Prop), Inv m z3 h nx -> (∀ (m' : Nat) (w2 w3 w5 w6 : AV) (h' : T Blk) (nx' : Pa), m' < m -> Inv m' w3 h' nx' -> R (F82.fr a b w2 w3 d w5 w6) h' nx' = .ok True) ->
   (sLen a fun v1 => zo .lss .int z3 v1 fun v2 => yD v2 (zP 1 a z3 fun v3 => zF v3 h fun v4 => zP 1 b z3 fun v5 => zF v5 h fun v6 => zo .neq .int v4 v6 fun v7 => yD v7 (K0 (.bool false) h nx) (zo .add .int z3 (I 1) fun v8 => R (F82.fr a b z2 v8 d v2 v7) h nx)) (K (F82.fr a b z2 z3 d v2 z6) h nx)) = .ok True) :
  IR.run F82.b2 C N (fnO F82.res K0) K (F82.fr a b f e d g l) h nx = .ok True := by
 rw [F82.b2, F82.g2_eq, F82.b3];refine yK (fun m tm h nx => ∃ z2 z3 z5 z6, tm = (F82.fr a b z2 z3 d z5 z6) /\ Inv m z3 h nx) ?_ hm ⟨_, _, _, _, rfl, hi⟩;rintro m tm h nx R ⟨z2, z3, z5, z6, rfl, hi⟩ hR;refine Eq.trans ?_ (step m z2 z3 z5 z6 h nx R hi fun m' w2 w3 w5 w6 h' nx' hlt hi' => hR m' _ h' nx' hlt ⟨_, _, _, _, rfl, hi'⟩)
 kernel_rfl
theorem F82.k9 : IR.run F82.b9 C N (fnO F82.res K0) K (F82.fr a b f e d g l) h nx =
 K0 (.bool true) h nx := by kernel_rfl
theorem F106.tab : T.get none (.of 106) tbl = some F106 := by kernel_rfl
theorem F106.go : zV tbl N C (.of 106) [a0] h nx K0 =
 zo .eql (.nil .sl) a0 .zf fun v1 => yD v1 (K0 .zf h nx) (jD 1 0 [(I 0)] [] h nx fun v2 h3 n4 => sApp 1 8 v2 a0 h3 n4 fun v5 h6 n7 => K0 v5 h6 n7) := by
 rw [zJ F106.tab]; kernel_rfl
theorem jy.g2_eq (X3 : IR) (O : uz Prop) (t : T AV) : IR.run (jy.g2 X3) C N O K t h nx = IR.run X3 C N (O.blk 0 K) K t h nx := by kernel_rfl
theorem jy.tab : T.get none (.of 158) tbl = some jy := by kernel_rfl
theorem jy.go : zV tbl N C (.of 158) [a0, a1] h nx K0 =
 sLen a0 fun v1 => sLen a1 fun v2 => zo .neq .int v1 v2 fun v3 => yD v3 (K0 (.bool false) h nx) (sLen a0 fun v4 => IR.run jy.b2 C N (fnO jy.res K0) (IR.run jy.b9 C N (fnO jy.res K0) (ji jy.res K0)) (jy.fr a0 a1 (.bool false) .undef v3 v4 (I 0) .undef .undef) h nx) := by
 rw [zJ jy.tab]; kernel_rfl
theorem jy.L2 (Inv : Nat -> AV -> T Blk -> Pa -> Prop) {m : Nat} (hm : m < N) (hi : Inv m l h nx)
  (step : ∀ (m : Nat) (z2 z3 z6 z7 z8 : AV) (h : T Blk) (nx : Pa) (R : Ks Prop), Inv m z6 h nx -> (∀ (m' : Nat) (w2 w3 w6 w7 w8 : AV) (h' : T Blk) (nx' : Pa), m' < m -> Inv m' w6 h' nx' -> R (jy.fr a b w2 w3 d g w6 w7 w8) h' nx' = .ok True) ->
   (zo .lss .int z6 g fun v1 => yD v1 (zP 1 a z6 fun v2 => zF v2 h fun v3 => zP 1 b z6 fun v4 => zF v4 h fun v5 => zo .neq .int v3 v5 fun v6 => yD v6 (K0 (.bool false) h nx) (zo .add .int z6 (I 1) fun v7 => R (jy.fr a b z2 z6 d g v7 v1 v6) h nx)) (K (jy.fr a b z2 z3 d g z6 v1 z8) h nx)) = .ok True) :
  IR.run jy.b2 C N (fnO jy.res K0) K (jy.fr a b f e d g l q p) h nx = .ok True := by
 rw [jy.b2, jy.g2_eq, jy.b3];refine yK (fun m tm h nx => ∃ z2 z3 z6 z7 z8, tm = (jy.fr a b z2 z3 d g z6 z7 z8) /\ Inv m z6 h nx) ?_ hm ⟨_, _, _, _, _, rfl, hi⟩;rintro m tm h nx R ⟨z2, z3, z6, z7, z8, rfl, hi⟩ hR;refine Eq.trans ?_ (step m z2 z3 z6 z7 z8 h nx R hi fun m' w2 w3 w6 w7 w8 h' nx' hlt hi' => hR m' _ h' nx' hlt ⟨_, _, _, _, _, rfl, hi'⟩)
 kernel_rfl
theorem jy.k9 : IR.run jy.b9 C N (fnO jy.res K0) K (jy.fr a b f e d g l q p) h nx =
 K0 (.bool true) h nx := by kernel_rfl
theorem F136.tab : T.get none (.of 136) tbl = some F136 := by kernel_rfl
theorem F136.go : zV tbl N C (.of 136) [a0, a1] h nx K0 =
 C.fn 197 (.of 197) [a0, a1] h nx fun v1 h2 n3 => zo .geq .int v1 (I 0) fun v4 => K0 v4 h2 n3 := by
 rw [zJ F136.tab]; kernel_rfl
theorem gy.mr (X2 : IR) (O : uz Prop) (t : T AV) : IR.run (gy.g1 X2) C N O K t h nx = IR.run X2 C N (O.blk 0 K) K t h nx := by kernel_rfl
theorem gy.tab : T.get none (.of 197) tbl = some gy := by kernel_rfl
theorem gy.go : zV tbl N C (.of 197) [a0, a1] h nx K0 =
 sLen a0 fun v1 => IR.run gy.b1 C N (fnO gy.res K0) (IR.run gy.b8 C N (fnO gy.res K0) (ji gy.res K0)) (gy.fr a0 a1 (I 0) .undef v1 (I 0) .undef .undef) h nx := by
 rw [zJ gy.tab]; kernel_rfl
theorem gy.L1 (Inv : Nat -> AV -> T Blk -> Pa -> Prop) {m : Nat} (hm : m < N) (hi : Inv m g h nx)
  (step : ∀ (m : Nat) (z2 z3 z5 z6 z7 : AV) (h : T Blk) (nx : Pa) (R : Ks Prop), Inv m z5 h nx -> (∀ (m' : Nat) (w2 w3 w5 w6 w7 : AV) (h' : T Blk) (nx' : Pa), m' < m -> Inv m' w5 h' nx' -> R (gy.fr a b w2 w3 d w5 w6 w7) h' nx' = .ok True) ->
   (zo .lss .int z5 d fun v1 => yD v1 (zP 1 a z5 fun v2 => zF v2 h fun v3 => mP C b [v3] h nx fun v4 h5 n6 => yD v4 (K0 z5 h5 n6) (zo .add .int z5 (I 1) fun v7 => R (gy.fr a b z2 z5 d v7 v1 v4) h5 n6)) (K (gy.fr a b z2 z3 d z5 v1 z7) h nx)) = .ok True) :
  IR.run gy.b1 C N (fnO gy.res K0) K (gy.fr a b f e d g l q) h nx = .ok True := by
 rw [gy.b1, gy.mr, gy.b2];refine yK (fun m tm h nx => ∃ z2 z3 z5 z6 z7, tm = (gy.fr a b z2 z3 d z5 z6 z7) /\ Inv m z5 h nx) ?_ hm ⟨_, _, _, _, _, rfl, hi⟩;rintro m tm h nx R ⟨z2, z3, z5, z6, z7, rfl, hi⟩ hR;refine Eq.trans ?_ (step m z2 z3 z5 z6 z7 h nx R hi fun m' w2 w3 w5 w6 w7 h' nx' hlt hi' => hR m' _ h' nx' hlt ⟨_, _, _, _, _, rfl, hi'⟩)
 kernel_rfl
theorem gy.k8 : IR.run gy.b8 C N (fnO gy.res K0) K (gy.fr a b f e d g l q) h nx =
 K0 (I (-1)) h nx := by kernel_rfl
theorem F85.tab : T.get none (.of 85) tbl = some F85 := by kernel_rfl
theorem F85.go : zV tbl N C (.of 85) [a0, a1] h nx K0 =
 sBox a0 h nx fun v1 h2 n3 => sBox a1 h2 n3 fun v4 h5 n6 => zW 0 v1 fun v7 => zF v7 h5 fun v8 => zW 0 v4 fun v9 => zF v9 h5 fun vA => C.fn 82 (.of 82) [v8, vA] h5 n6 fun vB hD nD => yD vB (zW 1 v1 fun vE => zF vE hD fun vF => sNot vF fun vG => sG vG true (fun k => zW 1 v4 k) fun vH => sG vG true (fun k => zF vH hD k) fun vI => jM vG vI (.bool false) fun vJ => K0 vJ hD nD) (zW 0 v1 fun vK => zF vK hD fun vL => zW 0 v4 fun vM => zF vM hD fun vN => C.fn 88 (.of 88) [vL, vN] hD nD fun vO hC nC => K0 vO hC nC) := by
 rw [zJ F85.tab]; kernel_rfl
theorem F84.mr (X2 : IR) (O : uz Prop) (t : T AV) : IR.run (F84.g1 X2) C N O K t h nx = IR.run X2 C N (O.blk 0 K) K t h nx := by kernel_rfl
theorem F84.tab : T.get none (.of 84) tbl = some F84 := by kernel_rfl
theorem F84.go : zV tbl N C (.of 84) [a0, a1] h nx K0 =
 sBox a1 h nx fun v1 h2 n3 => IR.run F84.b1 C N (fnO F84.res K0) (IR.run F84.b8 C N (fnO F84.res K0) (ji F84.res K0)) (F84.fr a0 a1 v1 (I 0) (I 0) .undef .undef) h2 n3 := by
 rw [zJ F84.tab]; kernel_rfl
theorem F84.L1 (Inv : Nat -> AV -> T Blk -> Pa -> Prop) {m : Nat} (hm : m < N) (hi : Inv m d h nx)
  (step : ∀ (m : Nat) (z3 z4 z5 z6 : AV) (h : T Blk) (nx : Pa) (R : Ks Prop), Inv m z4 h nx -> (∀ (m' : Nat) (w3 w4 w5 w6 : AV) (h' : T Blk) (nx' : Pa), m' < m -> Inv m' w4 h' nx' -> R (F84.fr a b f w3 w4 w5 w6) h' nx' = .ok True) ->
   (sLen a fun v1 => zo .lss .int z4 v1 fun v2 => yD v2 (zP 2 a z4 fun v3 => zO 2 v3 h fun v4 => zO 2 f h fun v5 => C.fn 30 (.of 30) [v4, v5] h nx fun v6 h7 n8 => yD v6 (K0 z4 h7 n8) (zo .add .int z4 (I 1) fun v9 => R (F84.fr a b f z3 v9 v2 v6) h7 n8)) (K (F84.fr a b f z3 z4 v2 z6) h nx)) = .ok True) :
  IR.run F84.b1 C N (fnO F84.res K0) K (F84.fr a b f e d g l) h nx = .ok True := by
 rw [F84.b1, F84.mr, F84.b2];refine yK (fun m tm h nx => ∃ z3 z4 z5 z6, tm = (F84.fr a b f z3 z4 z5 z6) /\ Inv m z4 h nx) ?_ hm ⟨_, _, _, _, rfl, hi⟩;rintro m tm h nx R ⟨z3, z4, z5, z6, rfl, hi⟩ hR;refine Eq.trans ?_ (step m z3 z4 z5 z6 h nx R hi fun m' w3 w4 w5 w6 h' nx' hlt hi' => hR m' _ h' nx' hlt ⟨_, _, _, _, rfl, hi'⟩)
 kernel_rfl
theorem F84.k8 : IR.run F84.b8 C N (fnO F84.res K0) K (F84.fr a b f e d g l) h nx =
 K0 (I (-1)) h nx := by kernel_rfl
theorem F65.tab : T.get none (.of 65) tbl = some F65 := by kernel_rfl
theorem F65.go : zV tbl N C (.of 65) [a0, a1] h nx K0 =
 sBox a0 h nx fun v1 h2 n3 => sBox a1 h2 n3 fun v4 h5 n6 => yM [.zf, (.bool false)] h5 n6 fun v7 h8 n9 => zW 0 v1 fun vA => zF vA h8 fun vB => zW 0 v4 fun vC => zF vC h8 fun vD => zW 1 v1 fun vE => zF vE h8 fun vF => zW 1 v4 fun vG => zF vG h8 fun vH => zo .neq .bool vF vH fun vI => C.fn 144 (.of 144) [vB, vD] h8 n9 fun vJ hE nE => (zo .neq .bool vF vH fun vQ => zN vQ vI ((zF vG hE fun vR => zN vR vH ((zW 1 v4 fun vS => zN vS vG ((zF vE hE fun vT => zN vT vF ((zW 1 v1 fun vP => zN vP vE (kZ [.zf, (.bool false)] [(0, 1, vJ), (1, 1, vI)] fun vM => zQ 2 v7 vM hE nE fun vN hF nF => zO 2 v7 hF fun vU => K0 vU hF nF)))))))))) := by
 rw [zJ F65.tab]; kernel_rfl
theorem F30.tab : T.get none (.of 30) tbl = some F30 := by kernel_rfl
theorem F30.go : zV tbl N C (.of 30) [a0, a1] h nx K0 =
 sBox a0 h nx fun v1 h2 n3 => sBox a1 h2 n3 fun v4 h5 n6 => zW 1 v1 fun v7 => zF v7 h5 fun v8 => zW 1 v4 fun v9 => zF v9 h5 fun vA => zo .eql .bool v8 vA fun vB => sG vB true (fun k => zW 0 v1 k) fun vC => sG vB true (fun k => zF vC h5 k) fun vD => sG vB true (fun k => zW 0 v4 k) fun vE => sG vB true (fun k => zF vE h5 k) fun vF => sGW vB true (fun k => C.fn 82 (.of 82) [vD, vF] h5 n6 k) h5 n6 fun vG hG nG => jM vB vG (.bool false) fun vJ => K0 vJ hG nG := by
 rw [zJ F30.tab]; kernel_rfl
theorem uf.mr (X2 : IR) (O : uz Prop) (t : T AV) : IR.run (uf.g1 X2) C N O K t h nx = IR.run X2 C N (O.blk 0 K) K t h nx := by kernel_rfl
theorem uf.tab : T.get none (.of 144) tbl = some uf := by kernel_rfl
theorem uf.go : zV tbl N C (.of 144) [a0, a1] h nx K0 =
 IR.run uf.b1 C N (fnO uf.res K0) (IR.run uf.b8 C N (fnO uf.res K0) (ji uf.res K0)) (uf.fr a0 a1 .zf .zf (I 0) .undef) h nx := by
 rw [zJ uf.tab]; kernel_rfl
theorem uf.L1 (Inv : Nat -> AV -> AV -> T Blk -> Pa -> Prop) {m : Nat} (hm : m < N) (hi : Inv m e d h nx)
  (step : ∀ (m : Nat) (z3 z4 z5 : AV) (h : T Blk) (nx : Pa) (R : Ks Prop), Inv m z3 z4 h nx -> (∀ (m' : Nat) (w3 w4 w5 : AV) (h' : T Blk) (nx' : Pa), m' < m -> Inv m' w3 w4 h' nx' -> R (uf.fr a b f w3 w4 w5) h' nx' = .ok True) ->
   (sLen b fun v1 => zo .lss .int z4 v1 fun v2 => yD v2 (zP 1 b z4 fun v3 => zF v3 h fun v4 => zP 1 a v4 fun v5 => zF v5 h fun v6 => jD 1 1 [(I 0)] [(0, 1, v6)] h nx fun v7 h8 n9 => sApp 1 8 z3 v7 h8 n9 fun vA hH nH => zo .add .int z4 (I 1) fun vD => R (uf.fr a b f vA vD v2) hH nH) (K (uf.fr a b f z3 z4 v2) h nx)) = .ok True) :
  IR.run uf.b1 C N (fnO uf.res K0) K (uf.fr a b f e d g) h nx = .ok True := by
 rw [uf.b1, uf.mr, uf.b2];refine yK (fun m tm h nx => ∃ z3 z4 z5, tm = (uf.fr a b f z3 z4 z5) /\ Inv m z3 z4 h nx) ?_ hm ⟨_, _, _, rfl, hi⟩;rintro m tm h nx R ⟨z3, z4, z5, rfl, hi⟩ hR;refine Eq.trans ?_ (step m z3 z4 z5 h nx R hi fun m' w3 w4 w5 h' nx' hlt hi' => hR m' _ h' nx' hlt ⟨_, _, _, rfl, hi'⟩)
 kernel_rfl
theorem uf.k8 : IR.run uf.b8 C N (fnO uf.res K0) K (uf.fr a b f e d g) h nx =
 K0 e h nx := by kernel_rfl
theorem F20.g4_eq (X5 : IR) (O : uz Prop) (t : T AV) : IR.run (F20.g4 X5) C N O K t h nx = IR.run X5 C N (O.blk 0 K) K t h nx := by kernel_rfl
theorem F20.g12_eq (X13 : IR) (O : uz Prop) (t : T AV) : IR.run (F20.g12 X13) C N O K t h nx = IR.run X13 C N (O.blk 2 K) K t h nx := by kernel_rfl
theorem F20.g26_eq (X27 : IR) (O : uz Prop) (t : T AV) : IR.run (F20.g26 X27) C N O K t h nx = IR.run X27 C N (O.blk 6 K) K t h nx := by kernel_rfl
theorem F20.g20_eq (X21 : IR) (O : uz Prop) (t : T AV) : IR.run (F20.g20 X21) C N O K t h nx = IR.run X21 C N (O.blk 4 K) K t h nx := by kernel_rfl
theorem F20.tab : T.get none (.of 20) tbl = some F20 := by kernel_rfl
theorem F20.go : zV tbl N C (.of 20) [a0, a1] h nx K0 =
 C.fn 25 (.of 25) [a1] h nx fun v1 h2 n3 => zo .neq .int v1 (I 0) fun v4 => yD v4 (K0 (I 3) h2 n3) (sLen a0 fun v5 => zo .eql .int v5 (I 0) fun v6 => yD v6 (K0 (I 12) h2 n3) (sLen a0 fun v7 => zo .gtr .int v7 (I 1536) fun v8 => yD v8 (K0 (I 5) h2 n3) (IR.run F20.b4 C N (fnO F20.res K0) (IR.run F20.b11 C N (fnO F20.res K0) (ji F20.res K0)) (F20.fr a0 a1 (I 0) (I 0) .undef .undef .undef .undef v4 v6 v8 .undef .undef .undef .undef .undef .undef .undef) h2 n3))) := by
 rw [zJ F20.tab]; kernel_rfl
theorem F20.L4 (Inv : Nat -> AV -> T Blk -> Pa -> Prop) {m : Nat} (hm : m < N) (hi : Inv m e h nx)
  (step : ∀ (m : Nat) (z2 z3 z4 zA zB : AV) (h : T Blk) (nx : Pa) (R : Ks Prop), Inv m z3 h nx -> (∀ (m' : Nat) (w2 w3 w4 wA wC : AV) (h' : T Blk) (nx' : Pa), m' < m -> Inv m' w3 h' nx' -> R (F20.fr a b w2 w3 w4 g l q p w c wA wC s u v y z) h' nx' = .ok True) ->
   (sLen a fun v1 => zo .lss .int z3 v1 fun v2 => yD v2 (zP 2 a z3 fun v3 => zO 2 v3 h fun v4 => C.fn 26 (.of 26) [v4, b] h nx fun v5 h6 n7 => zo .neq .int v5 (I 0) fun v8 => yD v8 (K0 v5 h6 n7) (zo .add .int z3 (I 1) fun v9 => R (F20.fr a b z2 v9 v5 g l q p w c v2 v8 s u v y z) h6 n7)) (K (F20.fr a b z2 z3 z4 g l q p w c v2 zB s u v y z) h nx)) = .ok True) :
  IR.run F20.b4 C N (fnO F20.res K0) K (F20.fr a b f e d g l q p w c i o s u v y z) h nx = .ok True := by
 rw [F20.b4, F20.g4_eq, F20.b5];refine yK (fun m tm h nx => ∃ z2 z3 z4 zA zB, tm = (F20.fr a b z2 z3 z4 g l q p w c zA zB s u v y z) /\ Inv m z3 h nx) ?_ hm ⟨_, _, _, _, _, rfl, hi⟩;rintro m tm h nx R ⟨z2, z3, z4, zA, zB, rfl, hi⟩ hR;refine Eq.trans ?_ (step m z2 z3 z4 zA zB h nx R hi fun m' w2 w3 w4 wA wC h' nx' hlt hi' => hR m' _ h' nx' hlt ⟨_, _, _, _, _, rfl, hi'⟩)
 kernel_rfl
theorem F20.k11 : IR.run F20.b11 C N (fnO F20.res K0) K (F20.fr a b f e d g l q p w c i o s u v y z) h nx =
 IR.run F20.b12 C N (fnO F20.res K0) (IR.run F20.b19 C N (fnO F20.res K0) K) (F20.fr a b f e d (I 1) l q p w c i o s u v y z) h nx := by kernel_rfl
theorem F20.L12 (Inv : Nat -> AV -> T Blk -> Pa -> Prop) {m : Nat} (hm : m < N) (hi : Inv m g h nx)
  (step : ∀ (m : Nat) (z2 z5 zC zD : AV) (h : T Blk) (nx : Pa) (R : Ks Prop), Inv m z5 h nx -> (∀ (m' : Nat) (w2 w5 wD wE : AV) (h' : T Blk) (nx' : Pa), m' < m -> Inv m' w5 h' nx' -> R (F20.fr a b w2 e d w5 l q p w c i o wD wE v y z) h' nx' = .ok True) ->
   (sLen a fun v1 => zo .lss .int z5 v1 fun v2 => yD v2 (zo .sub .int z5 (I 1) fun v3 => zP 2 a v3 fun v4 => zO 2 v4 h fun v5 => zP 2 a z5 fun v6 => zO 2 v6 h fun v7 => C.fn 85 (.of 85) [v5, v7] h nx fun v8 h9 nI => sNot v8 fun vB => yD vB (K0 (I 11) h9 nI) (zo .add .int z5 (I 1) fun vC => R (F20.fr a b z2 e d vC l q p w c i o v2 vB v y z) h9 nI)) (K (F20.fr a b z2 e d z5 l q p w c i o v2 zD v y z) h nx)) = .ok True) :
  IR.run F20.b12 C N (fnO F20.res K0) K (F20.fr a b f e d g l q p w c i o s u v y z) h nx = .ok True := by
 rw [F20.b12, F20.g12_eq, F20.b13];refine yK (fun m tm h nx => ∃ z2 z5 zC zD, tm = (F20.fr a b z2 e d z5 l q p w c i o zC zD v y z) /\ Inv m z5 h nx) ?_ hm ⟨_, _, _, _, rfl, hi⟩;rintro m tm h nx R ⟨z2, z5, zC, zD, rfl, hi⟩ hR;refine Eq.trans ?_ (step m z2 z5 zC zD h nx R hi fun m' w2 w5 wD wE h' nx' hlt hi' => hR m' _ h' nx' hlt ⟨_, _, _, _, rfl, hi'⟩)
 kernel_rfl
theorem F20.k19 : IR.run F20.b19 C N (fnO F20.res K0) K (F20.fr a b f e d g l q p w c i o s u v y z) h nx =
 IR.run F20.b20 C N (fnO F20.res K0) (IR.run F20.b34 C N (fnO F20.res K0) K) (F20.fr a b f e d g (I 0) q p w c i o s u v y z) h nx := by kernel_rfl
theorem F20.L20 (Inv : Nat -> AV -> T Blk -> Pa -> Prop) {m : Nat} (hm : m < N) (hi : Inv m l h nx)
  (step : ∀ (m : Nat) (z2 z6 z7 zE zG zH : AV) (h : T Blk) (nx : Pa) (R : Ks Prop), Inv m z6 h nx -> (∀ (m' : Nat) (w2 w6 w7 wF wG wH : AV) (h' : T Blk) (nx' : Pa), m' < m -> Inv m' w6 h' nx' -> R (F20.fr a b w2 e d g w6 w7 p w c i o s u wF wG wH) h' nx' = .ok True) ->
   (sLen a fun v1 => zo .lss .int z6 v1 fun v2 => yD v2 (IR.run F20.b26 C N (((fnO F20.res K0).blk 4 K).blk 5 (IR.run F20.b33 C N ((fnO F20.res K0).blk 4 K) R)) (IR.run F20.b33 C N ((fnO F20.res K0).blk 4 K) R) (F20.fr a b z2 e d g z6 (I 0) p w c i o s u v2 zG zH) h nx) (K (F20.fr a b z2 e d g z6 z7 p w c i o s u v2 zG zH) h nx)) = .ok True) :
  IR.run F20.b20 C N (fnO F20.res K0) K (F20.fr a b f e d g l q p w c i o s u v y z) h nx = .ok True := by
 rw [F20.b20, F20.g20_eq, F20.b21];refine yK (fun m tm h nx => ∃ z2 z6 z7 zE zG zH, tm = (F20.fr a b z2 e d g z6 z7 p w c i o s u zE zG zH) /\ Inv m z6 h nx) ?_ hm ⟨_, _, _, _, _, _, rfl, hi⟩;rintro m tm h nx R ⟨z2, z6, z7, zE, zG, zH, rfl, hi⟩ hR;refine Eq.trans ?_ (step m z2 z6 z7 zE zG zH h nx R hi fun m' w2 w6 w7 wF wG wH h' nx' hlt hi' => hR m' _ h' nx' hlt ⟨_, _, _, _, _, _, rfl, hi'⟩)
 kernel_rfl
theorem F20.k34 : IR.run F20.b34 C N (fnO F20.res K0) K (F20.fr a b f e d g l q p w c i o s u v y z) h nx =
 K0 (I 0) h nx := by kernel_rfl
theorem F20.k33 {E4 : Ks Prop} : IR.run F20.b33 C N ((fnO F20.res K0).blk 4 E4) K (F20.fr a b f e d g l q p w c i o s u v y z) h nx =
 zo .add .int l (I 1) fun v1 => K (F20.fr a b f e d g v1 q p w c i o s u v y z) h nx := by kernel_rfl
theorem F20.L26 {E4 E5 : Ks Prop} (Inv : Nat -> AV -> T Blk -> Pa -> Prop) {m : Nat} (hm : m < N) (hi : Inv m q h nx)
  (step : ∀ (m : Nat) (z2 z7 zG zH : AV) (h : T Blk) (nx : Pa) (R : Ks Prop), Inv m z7 h nx -> (∀ (m' : Nat) (w2 w7 wG wH : AV) (h' : T Blk) (nx' : Pa), m' < m -> Inv m' w7 h' nx' -> R (F20.fr a b w2 e d g l w7 p w c i o s u v wG wH) h' nx' = .ok True) ->
   (sLen a fun v1 => zo .lss .int z7 v1 fun v2 => yD v2 (zP 2 a l fun v3 => zO 2 v3 h fun v4 => zP 2 a z7 fun v5 => zO 2 v5 h fun v6 => C.fn 65 (.of 65) [v4, v6] h nx fun v7 h8 n9 => zN a a (C.fn 84 (.of 84) [a, v7] h8 n9 fun vA hH nH => zo .lss .int vA (I 0) fun vD => yD vD (K0 (I 28) hH nH) (zo .add .int z7 (I 1) fun vE => R (F20.fr a b z2 e d g l vE p w c i o s u v v2 vD) hH nH))) (K (F20.fr a b z2 e d g l z7 p w c i o s u v v2 zH) h nx)) = .ok True) :
  IR.run F20.b26 C N (((fnO F20.res K0).blk 4 E4).blk 5 E5) K (F20.fr a b f e d g l q p w c i o s u v y z) h nx = .ok True := by
 rw [F20.b26, F20.g26_eq, F20.b27];refine yK (fun m tm h nx => ∃ z2 z7 zG zH, tm = (F20.fr a b z2 e d g l z7 p w c i o s u v zG zH) /\ Inv m z7 h nx) ?_ hm ⟨_, _, _, _, rfl, hi⟩;rintro m tm h nx R ⟨z2, z7, zG, zH, rfl, hi⟩ hR;refine Eq.trans ?_ (step m z2 z7 zG zH h nx R hi fun m' w2 w7 wG wH h' nx' hlt hi' => hR m' _ h' nx' hlt ⟨_, _, _, _, rfl, hi'⟩)
 kernel_rfl
theorem F88.mr (X2 : IR) (O : uz Prop) (t : T AV) : IR.run (F88.g1 X2) C N O K t h nx = IR.run X2 C N (O.blk 0 K) K t h nx := by kernel_rfl
theorem F88.tab : T.get none (.of 88) tbl = some F88 := by kernel_rfl
theorem F88.go : zV tbl N C (.of 88) [a0, a1] h nx K0 =
 IR.run F88.b1 C N (fnO F88.res K0) (IR.run F88.b8 C N (fnO F88.res K0) (ji F88.res K0)) (F88.fr a0 a1 (.bool false) (I 0) .undef .undef) h nx := by
 rw [zJ F88.tab]; kernel_rfl
theorem F88.L1 (Inv : Nat -> AV -> T Blk -> Pa -> Prop) {m : Nat} (hm : m < N) (hi : Inv m e h nx)
  (step : ∀ (m : Nat) (z2 z3 z4 z5 : AV) (h : T Blk) (nx : Pa) (R : Ks Prop), Inv m z3 h nx -> (∀ (m' : Nat) (w2 w3 w4 w5 : AV) (h' : T Blk) (nx' : Pa), m' < m -> Inv m' w3 h' nx' -> R (F88.fr a b w2 w3 w4 w5) h' nx' = .ok True) ->
   (sLen a fun v1 => zo .lss .int z3 v1 fun v2 => sG v2 true (fun k => k z3) fun v3 => sG v2 true (fun k => k b) fun v4 => sG v2 true (fun k => sLen v4 k) fun v5 => sG v2 true (fun k => zo .lss .int v3 v5 k) fun v6 => jM v2 v6 (.bool false) fun v7 => yD v7 ((IR.run F88.b4 C N ((fnO F88.res K0).blk 0 K) R) (F88.fr a b z2 z3 v7 z5) h nx) (K (F88.fr a b z2 z3 v7 z5) h nx)) = .ok True) :
  IR.run F88.b1 C N (fnO F88.res K0) K (F88.fr a b f e d g) h nx = .ok True := by
 rw [F88.b1, F88.mr, F88.b2];refine yK (fun m tm h nx => ∃ z2 z3 z4 z5, tm = (F88.fr a b z2 z3 z4 z5) /\ Inv m z3 h nx) ?_ hm ⟨_, _, _, _, rfl, hi⟩;rintro m tm h nx R ⟨z2, z3, z4, z5, rfl, hi⟩ hR;refine Eq.trans ?_ (step m z2 z3 z4 z5 h nx R hi fun m' w2 w3 w4 w5 h' nx' hlt hi' => hR m' _ h' nx' hlt ⟨_, _, _, _, rfl, hi'⟩)
 kernel_rfl
theorem F88.k8 : IR.run F88.b8 C N (fnO F88.res K0) K (F88.fr a b f e d g) h nx =
 sLen a fun v1 => sLen b fun v2 => zo .lss .int v1 v2 fun v3 => K0 v3 h nx := by kernel_rfl
theorem F88.k4 {E0 : Ks Prop} : IR.run F88.b4 C N ((fnO F88.res K0).blk 0 E0) K (F88.fr a b f e d g) h nx =
 zP 1 a e fun v1 => zF v1 h fun v2 => zP 1 b e fun v3 => zF v3 h fun v4 => zo .neq .int v2 v4 fun v5 => yD v5 (zP 1 a e fun v6 => zF v6 h fun v7 => zP 1 b e fun v8 => zF v8 h fun v9 => zo .lss .int v7 v9 fun vA => K0 vA h nx) (zo .add .int e (I 1) fun vB => K (F88.fr a b f vB d v5) h nx) := by kernel_rfl
theorem jm.mr (X2 : IR) (O : uz Prop) (t : T AV) : IR.run (jm.g1 X2) C N O K t h nx = IR.run X2 C N (O.blk 0 K) K t h nx := by kernel_rfl
theorem jm.tab : T.get none (.of 201) tbl = some jm := by kernel_rfl
theorem jm.go : zV tbl N C (.of 201) [a0, a1] h nx K0 =
 sLen a0 fun v1 => IR.run jm.b1 C N (fnO jm.res K0) (IR.run jm.b9 C N (fnO jm.res K0) (ji jm.res K0)) (jm.fr a0 a1 (I 0) .undef .undef .undef .undef a0 v1 (I 0) .undef .undef .undef .undef) h nx := by
 rw [zJ jm.tab]; kernel_rfl
theorem jm.L1 (Inv : Nat -> AV -> T Blk -> Pa -> Prop) {m : Nat} (hm : m < N) (hi : Inv m w h nx)
  (step : ∀ (m : Nat) (z2 z3 z4 z5 z6 z9 zI zA zB : AV) (h : T Blk) (nx : Pa) (R : Ks Prop), Inv m z9 h nx -> (∀ (m' : Nat) (w2 w3 w4 w5 w6 w9 wI wA wC : AV) (h' : T Blk) (nx' : Pa), m' < m -> Inv m' w9 h' nx' -> R (jm.fr a b w2 w3 w4 w5 w6 q p w9 wI wA wC s) h' nx' = .ok True) ->
   (zo .lss .int z9 p fun v1 => yD v1 (zP 1 q z9 fun v2 => zF v2 h fun v3 => sLen b fun v4 => zo .geq .int z9 v4 fun v5 => yD v5 (K0 (I 1) h nx) (zP 1 b z9 fun v6 => zF v6 h fun v7 => C.fn 244 (.of 244) [v3, v7] h nx fun v8 h9 nI => zo .neq .int v8 (I 0) fun vB => yD vB (K0 v8 h9 nI) (zo .add .int z9 (I 1) fun vC => R (jm.fr a b z2 z9 v3 v7 v8 q p vC v1 v5 vB s) h9 nI))) (K (jm.fr a b z2 z3 z4 z5 z6 q p z9 v1 zA zB s) h nx)) = .ok True) :
  IR.run jm.b1 C N (fnO jm.res K0) K (jm.fr a b f e d g l q p w c i o s) h nx = .ok True := by
 rw [jm.b1, jm.mr, jm.b2];refine yK (fun m tm h nx => ∃ z2 z3 z4 z5 z6 z9 zI zA zB, tm = (jm.fr a b z2 z3 z4 z5 z6 q p z9 zI zA zB s) /\ Inv m z9 h nx) ?_ hm ⟨_, _, _, _, _, _, _, _, _, rfl, hi⟩;rintro m tm h nx R ⟨z2, z3, z4, z5, z6, z9, zI, zA, zB, rfl, hi⟩ hR;refine Eq.trans ?_ (step m z2 z3 z4 z5 z6 z9 zI zA zB h nx R hi fun m' w2 w3 w4 w5 w6 w9 wI wA wC h' nx' hlt hi' => hR m' _ h' nx' hlt ⟨_, _, _, _, _, _, _, _, _, rfl, hi'⟩)
 kernel_rfl
theorem jm.k9 : IR.run jm.b9 C N (fnO jm.res K0) K (jm.fr a b f e d g l q p w c i o s) h nx =
 sLen a fun v1 => sLen b fun v2 => zo .lss .int v1 v2 fun v3 => yD v3 (K0 (I (-1)) h nx) (K0 (I 0) h nx) := by kernel_rfl
theorem bT.tab : T.get none (.of 244) tbl = some bT := by kernel_rfl
theorem bT.go : zV tbl N C (.of 244) [a0, a1] h nx K0 =
 C.fn 250 (.of 250) [a0] h nx fun v1 h2 n3 => C.fn 250 (.of 250) [a1] h2 n3 fun v4 h5 n6 => yD v1 (yD v4 (K0 (I 0) h5 n6) (K0 (I (-1)) h5 n6)) (yD v4 (K0 (I 1) h5 n6) (zo .lss .int a0 a1 fun v7 => yD v7 (K0 (I (-1)) h5 n6) (zo .gtr .int a0 a1 fun v8 => yD v8 (K0 (I 1) h5 n6) (K0 (I 0) h5 n6)))) := by
 rw [zJ bT.tab]; kernel_rfl
theorem F250.tab : T.get none (.of 250) tbl = some F250 := by kernel_rfl
theorem F250.go : zV tbl N C (.of 250) [a0] h nx K0 =
 zo .neq .int a0 a0 fun v1 => K0 v1 h nx := by
 rw [zJ F250.tab]; kernel_rfl
theorem F97.mr (X2 : IR) (O : uz Prop) (t : T AV) : IR.run (F97.g1 X2) C N O K t h nx = IR.run X2 C N (O.blk 0 K) K t h nx := by kernel_rfl
theorem F97.tab : T.get none (.of 97) tbl = some F97 := by kernel_rfl
theorem F97.go : zV tbl N C (.of 97) [a0, a1] h nx K0 =
 sLen a0 fun v1 => IR.run F97.b1 C N (fnO F97.res K0) (IR.run F97.b8 C N (fnO F97.res K0) (ji F97.res K0)) (F97.fr a0 a1 (I 0) .undef .undef a0 v1 (I 0) .undef .undef) h nx := by
 rw [zJ F97.tab]; kernel_rfl
theorem F97.L1 (Inv : Nat -> AV -> T Blk -> Pa -> Prop) {m : Nat} (hm : m < N) (hi : Inv m q h nx)
  (step : ∀ (m : Nat) (z2 z3 z4 z7 z8 z9 : AV) (h : T Blk) (nx : Pa) (R : Ks Prop), Inv m z7 h nx -> (∀ (m' : Nat) (w2 w3 w4 w7 w8 w9 : AV) (h' : T Blk) (nx' : Pa), m' < m -> Inv m' w7 h' nx' -> R (F97.fr a b w2 w3 w4 g l w7 w8 w9) h' nx' = .ok True) ->
   (zo .lss .int z7 l fun v1 => yD v1 (zP 2 g z7 fun v2 => zO 2 v2 h fun v3 => yM [.zf, (.bool false)] h nx fun v4 h5 n6 => zQ 2 v4 v3 h5 n6 fun v7 h8 n9 => zO 2 v4 h8 fun vA => C.fn 56 (.of 56) [vA, b] h8 n9 fun vB hD nD => zo .neq .int vB (I 0) fun vE => yD vE (K0 vB hD nD) (zo .add .int z7 (I 1) fun vF => R (F97.fr a b z2 v4 vB g l vF v1 vE) hD nD)) (K (F97.fr a b z2 z3 z4 g l z7 v1 z9) h nx)) = .ok True) :
  IR.run F97.b1 C N (fnO F97.res K0) K (F97.fr a b f e d g l q p w) h nx = .ok True := by
 rw [F97.b1, F97.mr, F97.b2];refine yK (fun m tm h nx => ∃ z2 z3 z4 z7 z8 z9, tm = (F97.fr a b z2 z3 z4 g l z7 z8 z9) /\ Inv m z7 h nx) ?_ hm ⟨_, _, _, _, _, _, rfl, hi⟩;rintro m tm h nx R ⟨z2, z3, z4, z7, z8, z9, rfl, hi⟩ hR;refine Eq.trans ?_ (step m z2 z3 z4 z7 z8 z9 h nx R hi fun m' w2 w3 w4 w7 w8 w9 h' nx' hlt hi' => hR m' _ h' nx' hlt ⟨_, _, _, _, _, _, rfl, hi'⟩)
 kernel_rfl
theorem F97.k8 : IR.run F97.b8 C N (fnO F97.res K0) K (F97.fr a b f e d g l q p w) h nx =
 K0 (I 0) h nx := by kernel_rfl
theorem F90.tab : T.get none (.of 90) tbl = some F90 := by kernel_rfl
theorem F90.go : zV tbl N C (.of 90) [a0] h nx K0 =
 sBox a0 h nx fun v1 h2 n3 => K0 (.fn 159 (.of 159) [v1]) h2 n3 := by
 rw [zJ F90.tab]; kernel_rfl
theorem bV.tab : T.get none (.of 162) tbl = some bV := by kernel_rfl
theorem bV.go : zV tbl N C (.of 162) [a0, a1] h nx K0 =
 sBox a0 h nx fun v1 h2 n3 => sBox a1 h2 n3 fun v4 h5 n6 => zW 0 v1 fun v7 => zF v7 h5 fun v8 => zW 0 v4 fun v9 => zF v9 h5 fun vA => C.fn 201 (.of 201) [v8, vA] h5 n6 fun vB hD nD => zo .neq .int vB (I 0) fun vE => sG vE false (fun k => zW 1 v1 k) fun vF => sG vE false (fun k => zF vF hD k) fun vG => sG vE false (fun k => zW 1 v4 k) fun vH => sG vE false (fun k => zF vH hD k) fun vI => sG vE false (fun k => zo .eql .bool vG vI k) fun vJ => jM vE (.bool true) vJ fun vK => yD vK (K0 vB hD nD) ((IR.run bV.b1 C N (fnO bV.res K0) (ji bV.res K0)) (bV.fr a0 a1 v1 v4 (I 0) vB vK .undef) hD nD) := by
 rw [zJ bV.tab]; kernel_rfl
theorem bV.k1 : IR.run bV.b1 C N (fnO bV.res K0) K (bV.fr a b f e d g l q) h nx =
 zW 1 f fun v1 => zF v1 h fun v2 => yD v2 (K0 (I 1) h nx) (K0 (I (-1)) h nx) := by kernel_rfl
theorem F56.tab : T.get none (.of 56) tbl = some F56 := by kernel_rfl
theorem F56.go : zV tbl N C (.of 56) [a0, a1] h nx K0 =
 sBox a0 h nx fun v1 h2 n3 => zW 0 v1 fun v4 => zF v4 h2 fun v5 => sLen v5 fun v6 => zo .neq .int v6 a1 fun v7 => zW 0 v1 fun v8 => zF v8 h2 fun v9 => C.fn 95 (.of 95) [a1] h2 n3 fun vA hH nH => (zF v8 hH fun vV => zN vV v9 ((zW 0 v1 fun vW => zN vW v8 ((zo .neq .int v6 a1 fun vX => zN vX v7 (zN a1 a1 ((sLen v5 fun vY => zN vY v6 ((zF v4 hH fun vZ => zN vZ v5 ((zW 0 v1 fun vQ => zN vQ v4 (C.fn 96 (.of 96) [v7, (I 2)] hH nH fun vD hI nJ => (zF v8 hI fun vR => zN vR v9 ((zW 0 v1 fun vS => zN vS v8 (C.fn 140 (.of 140) [v9] hI nJ fun vG hG nG => sNot vG fun vJ => C.fn 96 (.of 96) [vJ, (I 14)] hG nG fun vK hJ nK => jD 1 3 [(I 0)] [(0, 1, vA), (1, 1, vD), (2, 1, vK)] hJ nK fun vN hF nF => C.fn 94 (.of 94) [vN] hF nF fun vU hK nL => K0 vU hK nL))))))))))))))))) := by
 rw [zJ F56.tab]; kernel_rfl
theorem qg.mr (X2 : IR) (O : uz Prop) (t : T AV) : IR.run (qg.g1 X2) C N O K t h nx = IR.run X2 C N (O.blk 0 K) K t h nx := by kernel_rfl
theorem qg.tab : T.get none (.of 159) tbl = some qg := by kernel_rfl
theorem qg.go : zV tbl N C (.of 159) [a0, a1] h nx K0 =
 zF a1 h fun v1 => sLen v1 fun v2 => IR.run qg.b1 C N (fnO qg.res K0) (ji qg.res K0) (qg.fr a0 a1 .undef .undef v1 v2 (I 0) .undef .undef) h nx := by
 rw [zJ qg.tab]; kernel_rfl
theorem qg.L1 (Inv : Nat -> AV -> T Blk -> Pa -> Prop) {m : Nat} (hm : m < N) (hi : Inv m l h nx)
  (step : ∀ (m : Nat) (z2 z3 z6 z7 z8 : AV) (h : T Blk) (nx : Pa) (R : Ks Prop), Inv m z6 h nx -> (∀ (m' : Nat) (w2 w3 w6 w7 w8 : AV) (h' : T Blk) (nx' : Pa), m' < m -> Inv m' w6 h' nx' -> R (qg.fr a b w2 w3 d g w6 w7 w8) h' nx' = .ok True) ->
   (zo .lss .int z6 g fun v1 => yD v1 (zP 2 d z6 fun v2 => zO 2 v2 h fun v3 => yM [.zf, (.bool false)] h nx fun v4 h5 n6 => zQ 2 v4 v3 h5 n6 fun v7 h8 n9 => zO 2 v4 h8 fun vA => mP C a [z6, vA] h8 n9 fun vB hD nD => sNot vB fun vE => yD vE (K0 (.tup []) hD nD) (zo .add .int z6 (I 1) fun vF => R (qg.fr a b z6 v4 d g vF v1 vE) hD nD)) (K (qg.fr a b z2 z3 d g z6 v1 z8) h nx)) = .ok True) :
  IR.run qg.b1 C N (fnO qg.res K0) K (qg.fr a b f e d g l q p) h nx = .ok True := by
 rw [qg.b1, qg.mr, qg.b2];refine yK (fun m tm h nx => ∃ z2 z3 z6 z7 z8, tm = (qg.fr a b z2 z3 d g z6 z7 z8) /\ Inv m z6 h nx) ?_ hm ⟨_, _, _, _, _, rfl, hi⟩;rintro m tm h nx R ⟨z2, z3, z6, z7, z8, rfl, hi⟩ hR;refine Eq.trans ?_ (step m z2 z3 z6 z7 z8 h nx R hi fun m' w2 w3 w6 w7 w8 h' nx' hlt hi' => hR m' _ h' nx' hlt ⟨_, _, _, _, _, rfl, hi'⟩)
 kernel_rfl
theorem ug.mr (X2 : IR) (O : uz Prop) (t : T AV) : IR.run (ug.g1 X2) C N O K t h nx = IR.run X2 C N (O.blk 0 K) K t h nx := by kernel_rfl
theorem ug.tab : T.get none (.of 163) tbl = some ug := by kernel_rfl
theorem ug.go : zV tbl N C (.of 163) [a0] h nx K0 =
 yM [.zf, (.bool false)] h nx fun v1 h2 n3 => uG 1 8 [(I 0)] a0 a0 h2 n3 fun v4 h5 n6 => kZ [.zf, (.bool false)] [(0, 1, v4)] fun v7 => yM [.zf, (.bool false)] h5 n6 fun v8 h9 nI => zQ 2 v8 v7 h9 nI fun vB hD nD => zW 0 v8 fun vE => zF vE hD fun vF => sLen vF fun vG => IR.run ug.b1 C N (fnO ug.res K0) (IR.run ug.b8 C N (fnO ug.res K0) (ji ug.res K0)) (ug.fr a0 v1 v8 .undef vG (I 0) .undef) hD nD := by
 rw [zJ ug.tab]; kernel_rfl
theorem ug.L1 (Inv : Nat -> AV -> T Blk -> Pa -> Prop) {m : Nat} (hm : m < N) (hi : Inv m g h nx)
  (step : ∀ (m : Nat) (z3 z5 z6 : AV) (h : T Blk) (nx : Pa) (R : Ks Prop), Inv m z5 h nx -> (∀ (m' : Nat) (w3 w5 w6 : AV) (h' : T Blk) (nx' : Pa), m' < m -> Inv m' w5 h' nx' -> R (ug.fr a b f w3 d w5 w6) h' nx' = .ok True) ->
   (zo .lss .int z5 d fun v1 => yD v1 (zW 0 f fun v2 => zF v2 h fun v3 => zP 1 v3 z5 fun v4 => zQ 1 v4 z5 h nx fun v5 h6 n7 => zo .add .int z5 (I 1) fun v8 => R (ug.fr a b f z5 d v8 v1) h6 n7) (K (ug.fr a b f z3 d z5 v1) h nx)) = .ok True) :
  IR.run ug.b1 C N (fnO ug.res K0) K (ug.fr a b f e d g l) h nx = .ok True := by
 rw [ug.b1, ug.mr, ug.b2];refine yK (fun m tm h nx => ∃ z3 z5 z6, tm = (ug.fr a b f z3 d z5 z6) /\ Inv m z5 h nx) ?_ hm ⟨_, _, _, rfl, hi⟩;rintro m tm h nx R ⟨z3, z5, z6, rfl, hi⟩ hR;refine Eq.trans ?_ (step m z3 z5 z6 h nx R hi fun m' w3 w5 w6 h' nx' hlt hi' => hR m' _ h' nx' hlt ⟨_, _, _, rfl, hi'⟩)
 kernel_rfl
theorem ug.k8 : IR.run ug.b8 C N (fnO ug.res K0) K (ug.fr a b f e d g l) h nx =
 zO 2 f h fun v1 => zQ 2 b v1 h nx fun v2 h3 n4 => zO 2 b h3 fun v5 => K0 v5 h3 n4 := by kernel_rfl
theorem gq.mr (X2 : IR) (O : uz Prop) (t : T AV) : IR.run (gq.g1 X2) C N O K t h nx = IR.run X2 C N (O.blk 0 K) K t h nx := by kernel_rfl
theorem gq.tab : T.get none (.of 123) tbl = some gq := by kernel_rfl
theorem gq.go : zV tbl N C (.of 123) [a0] h nx K0 =
 sBox a0 h nx fun v1 h2 n3 => zW 0 v1 fun v4 => zF v4 h2 fun v5 => sLen v5 fun v6 => zo .add .int v6 (I 1) fun v7 => uG 1 1 [(.int .u8 0)] (I 0) v7 h2 n3 fun v8 h9 nI => zW 0 v1 fun vB => zF vB h9 fun vC => sLen vC fun vD => IR.run gq.b1 C N (fnO gq.res K0) (IR.run gq.b8 C N (fnO gq.res K0) (ji gq.res K0)) (gq.fr a0 v1 (.str []) v8 .undef vC vD (I 0) .undef .undef) h9 nI := by
 rw [zJ gq.tab]; kernel_rfl
theorem gq.L1 (Inv : Nat -> AV -> AV -> T Blk -> Pa -> Prop) {m : Nat} (hm : m < N) (hi : Inv m e q h nx)
  (step : ∀ (m : Nat) (z3 z4 z7 z8 : AV) (h : T Blk) (nx : Pa) (R : Ks Prop), Inv m z3 z7 h nx -> (∀ (m' : Nat) (w3 w4 w7 w8 : AV) (h' : T Blk) (nx' : Pa), m' < m -> Inv m' w3 w7 h' nx' -> R (gq.fr a b f w3 w4 g l w7 w8 w) h' nx' = .ok True) ->
   (zo .lss .int z7 l fun v1 => yD v1 (zP 1 g z7 fun v2 => zF v2 h fun v3 => sConv .u8 v3 fun v4 => jD 1 1 [(.int .u8 0)] [(0, 1, v4)] h nx fun v5 h6 n7 => sApp 1 1 z3 v5 h6 n7 fun v8 h9 nI => zo .add .int z7 (I 1) fun vB => R (gq.fr a b f v8 v3 g l vB v1 w) h9 nI) (K (gq.fr a b f z3 z4 g l z7 v1 w) h nx)) = .ok True) :
  IR.run gq.b1 C N (fnO gq.res K0) K (gq.fr a b f e d g l q p w) h nx = .ok True := by
 rw [gq.b1, gq.mr, gq.b2];refine yK (fun m tm h nx => ∃ z3 z4 z7 z8, tm = (gq.fr a b f z3 z4 g l z7 z8 w) /\ Inv m z3 z7 h nx) ?_ hm ⟨_, _, _, _, rfl, hi⟩;rintro m tm h nx R ⟨z3, z4, z7, z8, rfl, hi⟩ hR;refine Eq.trans ?_ (step m z3 z4 z7 z8 h nx R hi fun m' w3 w4 w7 w8 h' nx' hlt hi' => hR m' _ h' nx' hlt ⟨_, _, _, _, rfl, hi'⟩)
 kernel_rfl
theorem gq.k8 : IR.run gq.b8 C N (fnO gq.res K0) K (gq.fr a b f e d g l q p w) h nx =
 zW 1 b fun v1 => zF v1 h fun v2 => yD v2 (jD 1 1 [(.int .u8 0)] [(0, 1, (.int .u8 1))] h nx fun v3 h4 n5 => sApp 1 1 e v3 h4 n5 fun v6 h7 n8 => sB2s v6 h7 fun v9 => K0 v9 h7 n8) (sB2s e h fun vA => K0 vA h nx) := by kernel_rfl
theorem F121.tab : T.get none (.of 121) tbl = some F121 := by kernel_rfl
theorem F121.go : zV tbl N C (.of 121) [a0, a1] h nx K0 =
 sBox a1 h nx fun v1 h2 n3 => zO 2 v1 h2 fun v4 => C.fn 123 (.of 123) [v4] h2 n3 fun v5 h6 n7 => sLook .str (.agg [.zf, (.bool false)]) true a0 v5 h6 fun v8 => xw 0 v8 fun v9 => xw 1 v8 fun vA => yM [.zf, (.bool false)] h6 n7 fun vB hD nD => zQ 2 vB v9 hD nD fun vE hA nA => K0 vA hA nA := by
 rw [zJ F121.tab]; kernel_rfl
theorem uh.mr (X2 : IR) (O : uz Prop) (t : T AV) : IR.run (uh.g1 X2) C N O K t h nx = IR.run X2 C N (O.blk 0 K) K t h nx := by kernel_rfl
theorem uh.tab : T.get none (.of 122) tbl = some uh := by kernel_rfl
theorem uh.go : zV tbl N C (.of 122) [a0, a1] h nx K0 =
 sBox a0 h nx fun v1 h2 n3 => sBox a1 h2 n3 fun v4 h5 n6 => yM [.zf, (.bool false)] h5 n6 fun v7 h8 n9 => sChk (true && true) (zW 0 v4 fun vA => zF vA h8 fun vB => sLen vB fun vC => sChk (mkSl 8 vC vC && true) (zW 1 v1 fun vD => zF vD h8 fun vE => zW 1 v4 fun vF => zF vF h8 fun vG => zo .neq .bool vE vG fun vH => uG 1 8 [(I 0)] vC vC h8 n9 fun vI hL nM => (zo .neq .bool vE vG fun v47 => zN v47 vH ((zF vF hL fun v46 => zN v46 vG ((zW 1 v4 fun v45 => zN v45 vF ((zF vD hL fun v44 => zN v44 vE ((zW 1 v1 fun v43 => zN v43 vD ((sLen vB fun v42 => zN v42 vC ((zF vA hL fun v41 => zN v41 vB ((zW 0 v4 fun v40 => zN v40 vA (kZ [.zf, (.bool false)] [(0, 1, vI), (1, 1, vH)] fun vL => yM [.zf, (.bool false)] hL nM fun vM hM nN => (kZ [.zf, (.bool false)] [(0, 1, vI), (1, 1, vH)] fun v39 => zN v39 vL ((zo .neq .bool vE vG fun v38 => zN v38 vH ((zF vF hM fun v37 => zN v37 vG ((zW 1 v4 fun vV => zN vV vF ((zF vD hM fun vW => zN vW vE ((zW 1 v1 fun vX => zN vX vD ((sLen vB fun vY => zN vY vC ((zF vA hM fun vZ => zN vZ vB ((zW 0 v4 fun vQ => zN vQ vA (zQ 2 vM vL hM nN fun v25 hN nO => zW 0 v4 fun vT => zF vT hN fun vS => sLen vS fun vR => IR.run uh.b1 C N (fnO uh.res K0) (IR.run uh.b8 C N (fnO uh.res K0) (ji uh.res K0)) (uh.fr a0 a1 v1 v4 v7 vM .undef .undef vS vR (I 0) .undef) hN nO)))))))))))))))))))))))))))))))))))) := by
 rw [zJ uh.tab]; kernel_rfl
theorem uh.L1 (Inv : Nat -> AV -> T Blk -> Pa -> Prop) {m : Nat} (hm : m < N) (hi : Inv m c h nx)
  (step : ∀ (m : Nat) (z6 z7 zI zA : AV) (h : T Blk) (nx : Pa) (R : Ks Prop), Inv m zI h nx -> (∀ (m' : Nat) (w6 w7 wI wA : AV) (h' : T Blk) (nx' : Pa), m' < m -> Inv m' wI h' nx' -> R (uh.fr a b f e d g w6 w7 p w wI wA) h' nx' = .ok True) ->
   (zo .lss .int zI w fun v1 => yD v1 (zP 1 p zI fun v2 => zF v2 h fun v3 => zW 0 g fun v4 => zF v4 h fun v5 => zW 0 f fun v6 => zF v6 h fun v7 => zP 1 v7 v3 fun v8 => zF v8 h fun v9 => zP 1 v5 zI fun vA => zQ 1 vA v9 h nx fun vB hD nD => zo .add .int zI (I 1) fun vE => R (uh.fr a b f e d g zI v3 p w vE v1) hD nD) (K (uh.fr a b f e d g z6 z7 p w zI v1) h nx)) = .ok True) :
  IR.run uh.b1 C N (fnO uh.res K0) K (uh.fr a b f e d g l q p w c i) h nx = .ok True := by
 rw [uh.b1, uh.mr, uh.b2];refine yK (fun m tm h nx => ∃ z6 z7 zI zA, tm = (uh.fr a b f e d g z6 z7 p w zI zA) /\ Inv m zI h nx) ?_ hm ⟨_, _, _, _, rfl, hi⟩;rintro m tm h nx R ⟨z6, z7, zI, zA, rfl, hi⟩ hR;refine Eq.trans ?_ (step m z6 z7 zI zA h nx R hi fun m' w6 w7 wI wA h' nx' hlt hi' => hR m' _ h' nx' hlt ⟨_, _, _, _, rfl, hi'⟩)
 kernel_rfl
theorem uh.k8 : IR.run uh.b8 C N (fnO uh.res K0) K (uh.fr a b f e d g l q p w c i) h nx =
 zO 2 g h fun v1 => zQ 2 d v1 h nx fun v2 h3 n4 => zO 2 d h3 fun v5 => K0 v5 h3 n4 := by kernel_rfl
theorem F140.tab : T.get none (.of 140) tbl = some F140 := by kernel_rfl
theorem F140.go : zV tbl N C (.of 140) [a0] h nx K0 =
 C.fn 198 (.of 198) [a0] h nx fun v1 h2 n3 => zo .eql .int v1 (I 0) fun v4 => K0 v4 h2 n3 := by
 rw [zJ F140.tab]; kernel_rfl
theorem jf.g2_eq (X3 : IR) (O : uz Prop) (t : T AV) : IR.run (jf.g2 X3) C N O K t h nx = IR.run X3 C N (O.blk 0 K) K t h nx := by kernel_rfl
theorem jf.tab : T.get none (.of 198) tbl = some jf := by kernel_rfl
theorem jf.go : zV tbl N C (.of 198) [a0] h nx K0 =
 sLen a0 fun v1 => zo .gtr .int v1 (I 256) fun v2 => yD v2 (K0 (I 5) h nx) (sLen a0 fun v3 => uG 1 1 [(.bool false)] v3 v3 h nx fun v4 h5 n6 => sLen a0 fun v7 => IR.run jf.b2 C N (fnO jf.res K0) (IR.run jf.b10 C N (fnO jf.res K0) (ji jf.res K0)) (jf.fr a0 (I 0) v4 .undef v2 a0 v7 (I 0) .undef .undef) h5 n6) := by
 rw [zJ jf.tab]; kernel_rfl
theorem jf.L2 (Inv : Nat -> AV -> T Blk -> Pa -> Prop) {m : Nat} (hm : m < N) (hi : Inv m q h nx)
  (step : ∀ (m : Nat) (z1 z3 z7 z8 z9 : AV) (h : T Blk) (nx : Pa) (R : Ks Prop), Inv m z7 h nx -> (∀ (m' : Nat) (w1 w3 w7 w8 w9 : AV) (h' : T Blk) (nx' : Pa), m' < m -> Inv m' w7 h' nx' -> R (jf.fr a w1 f w3 d g l w7 w8 w9) h' nx' = .ok True) ->
   (zo .lss .int z7 l fun v1 => yD v1 (zP 1 g z7 fun v2 => zF v2 h fun v3 => zo .lss .int v3 (I 0) fun v4 => sG v4 false (fun k => k v3) fun v5 => sG v4 false (fun k => k a) fun v6 => sG v4 false (fun k => sLen v6 k) fun v7 => sG v4 false (fun k => zo .geq .int v5 v7 k) fun v8 => jM v4 (.bool true) v8 fun v9 => sG v9 false (fun k => k f) fun vA => sG v9 false (fun k => k v3) fun vB => sG v9 false (fun k => zP 1 vA vB k) fun vC => sG v9 false (fun k => zF vC h k) fun vD => jM v9 (.bool true) vD fun vE => yD vE (K0 (I 14) h nx) ((IR.run jf.b8 C N (((fnO jf.res K0).blk 0 K).blk 1 (IR.run jf.b9 C N ((fnO jf.res K0).blk 0 K) R)) (IR.run jf.b9 C N ((fnO jf.res K0).blk 0 K) R)) (jf.fr a z1 f v3 d g l z7 v1 vE) h nx)) (K (jf.fr a z1 f z3 d g l z7 v1 z9) h nx)) = .ok True) :
  IR.run jf.b2 C N (fnO jf.res K0) K (jf.fr a b f e d g l q p w) h nx = .ok True := by
 rw [jf.b2, jf.g2_eq, jf.b3];refine yK (fun m tm h nx => ∃ z1 z3 z7 z8 z9, tm = (jf.fr a z1 f z3 d g l z7 z8 z9) /\ Inv m z7 h nx) ?_ hm ⟨_, _, _, _, _, rfl, hi⟩;rintro m tm h nx R ⟨z1, z3, z7, z8, z9, rfl, hi⟩ hR;refine Eq.trans ?_ (step m z1 z3 z7 z8 z9 h nx R hi fun m' w1 w3 w7 w8 w9 h' nx' hlt hi' => hR m' _ h' nx' hlt ⟨_, _, _, _, _, rfl, hi'⟩)
 kernel_rfl
theorem jf.k10 : IR.run jf.b10 C N (fnO jf.res K0) K (jf.fr a b f e d g l q p w) h nx =
 K0 (I 0) h nx := by kernel_rfl
theorem jf.k9 {E0 : Ks Prop} : IR.run jf.b9 C N ((fnO jf.res K0).blk 0 E0) K (jf.fr a b f e d g l q p w) h nx =
 zo .add .int q (I 1) fun v1 => K (jf.fr a b f e d g l v1 p w) h nx := by kernel_rfl
theorem jf.k8 {E0 E1 : Ks Prop} : IR.run jf.b8 C N (((fnO jf.res K0).blk 0 E0).blk 1 E1) K (jf.fr a b f e d g l q p w) h nx =
 zP 1 f e fun v1 => zQ 1 v1 (.bool true) h nx fun v2 h3 n4 => K (jf.fr a b f e d g l q p w) h3 n4 := by kernel_rfl
theorem F94.mr (X2 : IR) (O : uz Prop) (t : T AV) : IR.run (F94.g1 X2) C N O K t h nx = IR.run X2 C N (O.blk 0 K) K t h nx := by kernel_rfl
theorem F94.tab : T.get none (.of 94) tbl = some F94 := by kernel_rfl
theorem F94.go : zV tbl N C (.of 94) [a0] h nx K0 =
 sLen a0 fun v1 => IR.run F94.b1 C N (fnO F94.res K0) (IR.run F94.b8 C N (fnO F94.res K0) (ji F94.res K0)) (F94.fr a0 (I 0) .undef a0 v1 (I 0) .undef .undef) h nx := by
 rw [zJ F94.tab]; kernel_rfl
theorem F94.L1 (Inv : Nat -> AV -> T Blk -> Pa -> Prop) {m : Nat} (hm : m < N) (hi : Inv m g h nx)
  (step : ∀ (m : Nat) (z1 z2 z5 z6 z7 : AV) (h : T Blk) (nx : Pa) (R : Ks Prop), Inv m z5 h nx -> (∀ (m' : Nat) (w1 w2 w5 w6 w7 : AV) (h' : T Blk) (nx' : Pa), m' < m -> Inv m' w5 h' nx' -> R (F94.fr a w1 w2 e d w5 w6 w7) h' nx' = .ok True) ->
   (zo .lss .int z5 d fun v1 => yD v1 (zP 1 e z5 fun v2 => zF v2 h fun v3 => zo .neq .int v3 (I 0) fun v4 => yD v4 (K0 v3 h nx) (zo .add .int z5 (I 1) fun v5 => R (F94.fr a z1 v3 e d v5 v1 v4) h nx)) (K (F94.fr a z1 z2 e d z5 v1 z7) h nx)) = .ok True) :
  IR.run F94.b1 C N (fnO F94.res K0) K (F94.fr a b f e d g l q) h nx = .ok True := by
 rw [F94.b1, F94.mr, F94.b2];refine yK (fun m tm h nx => ∃ z1 z2 z5 z6 z7, tm = (F94.fr a z1 z2 e d z5 z6 z7) /\ Inv m z5 h nx) ?_ hm ⟨_, _, _, _, _, rfl, hi⟩;rintro m tm h nx R ⟨z1, z2, z5, z6, z7, rfl, hi⟩ hR;refine Eq.trans ?_ (step m z1 z2 z5 z6 z7 h nx R hi fun m' w1 w2 w5 w6 w7 h' nx' hlt hi' => hR m' _ h' nx' hlt ⟨_, _, _, _, _, rfl, hi'⟩)
 kernel_rfl
theorem F94.k8 : IR.run F94.b8 C N (fnO F94.res K0) K (F94.fr a b f e d g l q) h nx =
 K0 (I 0) h nx := by kernel_rfl
theorem F95.tab : T.get none (.of 95) tbl = some F95 := by kernel_rfl
theorem F95.go : zV tbl N C (.of 95) [a0] h nx K0 =
 zo .lss .int a0 (I 0) fun v1 => sG v1 false (fun k => k a0) fun v2 => sG v1 false (fun k => zo .gtr .int v2 (I 256) k) fun v3 => jM v1 (.bool true) v3 fun v4 => C.fn 96 (.of 96) [v4, (I 3)] h nx fun v5 h6 n7 => K0 v5 h6 n7 := by
 rw [zJ F95.tab]; kernel_rfl
theorem F96.tab : T.get none (.of 96) tbl = some F96 := by kernel_rfl
theorem F96.go : zV tbl N C (.of 96) [a0, a1] h nx K0 =
 yD a0 (K0 a1 h nx) (K0 (I 0) h nx) := by
 rw [zJ F96.tab]; kernel_rfl
theorem F98.g13_eq (X14 : IR) (O : uz Prop) (t : T AV) : IR.run (F98.g13 X14) C N O K t h nx = IR.run X14 C N (O.blk 4 K) K t h nx := by kernel_rfl
theorem F98.g7_eq (X8 : IR) (O : uz Prop) (t : T AV) : IR.run (F98.g7 X8) C N O K t h nx = IR.run X8 C N (O.blk 2 K) K t h nx := by kernel_rfl
theorem F98.tab : T.get none (.of 98) tbl = some F98 := by kernel_rfl
theorem F98.go : zV tbl N C (.of 98) [a0, a1, a2] h nx K0 =
 sBox a2 h nx fun v1 h2 n3 => yM [.jv] h2 n3 fun v4 h5 n6 => yM [.zf] h5 n6 fun v7 h8 n9 => yM [(.bool false)] h8 n9 fun vA hH nH => C.fn 163 (.of 163) [a1] hH nH fun vD hI nJ => yM [.zf, (.bool false)] hI nJ fun vG hG nG => zQ 2 vG vD hG nG fun vJ hE nE => sChk (true && (true && true)) (zO 2 vG hE fun vM => zO 2 vG hE fun vN => C.fn 123 (.of 123) [vM] hE nE fun vO hC nC => (zO 2 vG hC fun v52 => zN v52 vN ((zO 2 vG hC fun v51 => zN v51 vM (sMkmap hC nC fun vP hO nP => (zO 2 vG hO fun v50 => zN v50 vN ((zO 2 vG hO fun v49 => zN v49 vM (pW .str vP vO vN hO nP fun vR hP nQ => (zO 2 vG hP fun v48 => zN v48 vN ((zO 2 vG hP fun v47 => zN v47 vM (yM [.jv] hP nQ fun vY hQ nR => zN vP vP ((zO 2 vG hQ fun v46 => zN v46 vN ((zO 2 vG hQ fun v45 => zN v45 vM (zQ 1 vY vP hQ nR fun vV hS nS => yM [.zf] hS nS fun v39 hT nT => C.fn 90 (.of 90) [a0] hT nT fun v42 hU nU => IR.run (.rf (.t (.of 14)) [(.of 15), (.of 16)] F98.b3 F98.b4) C N ((fnO F98.res K0).blk 0 (IR.run F98.b23 C N (fnO F98.res K0) (ji F98.res K0))) (IR.run F98.b23 C N (fnO F98.res K0) (ji F98.res K0)) (F98.fr a0 a1 a2 v1 v4 v7 vA vG vY v39 .undef .undef .undef .undef v42 .undef .undef .undef .undef .undef .undef .undef .undef .undef .undef) hU nU)))))))))))))))))) := by
 rw [zJ F98.tab]; kernel_rfl
theorem F98.k23 : IR.run F98.b23 C N (fnO F98.res K0) K (F98.fr a b f e d g l q p w c i o s u v y z B A D E F G H) h nx =
 zF p h fun v1 => zF w h fun v2 => zQ 1 d v1 h nx fun v3 h4 n5 => (zF w h4 fun vF => zN vF v2 (zQ 1 g v2 h4 n5 fun v6 h7 n8 => zQ 1 l (.bool true) h7 n8 fun v9 hV nV => zF d hV fun vC => zF g hV fun vD => zF l hV fun vE => K0 (.tup [vC, vD, vE]) hV nV)) := by kernel_rfl
theorem F98.p4 {N : Nat} {C : Calls Prop} {K0 : Kw Prop} {id nx : Pa} {j : Jump} {h : T Blk} {a b f e d g l q p w c i o s u v y z B A D E F G H z0 z1 : AV} (hl : T.get .no id h = .loop .ready j (F98.fr a b f e d g l q p w c i o s u v y z B A D E F G H) [.of 15, .of 16] F98.b3 F98.b4) :
 wB N C id [z0, z1] h nx K0 =
 yM [.zf, (.bool false)] h nx fun v1 h2 n3 => zQ 2 v1 z1 h2 n3 fun v4 h5 n6 => rMid N C id K0 F98.b4 (F98.fr a b f e d g l q p w v1 i o s u z0 z1 z B A D E F G H) h5 n6 := by
 rw [rnd_gen hl (tm1 := (F98.fr a b f e d g l q p w c i o s u z0 z1 z B A D E F G H)) (by intro k; kernel_rfl)]; kernel_rfl
theorem F98.y4 {N : Nat} {C : Calls Prop} {K0 : Kw Prop} {id nx : Pa} {h : T Blk} {a b f e d g l q p w c i o s u v y z B A D E F G H : AV} :
 IR.run F98.b4 C N (rO id K0) (yU id K0 .none true) (F98.fr a b f e d g l q p w c i o s u v y z B A D E F G H) h nx =
 zF p h fun v1 => zO 2 c h fun v2 => C.fn 121 (.of 121) [v1, v2] h nx fun v3 h4 n5 => yD v3 (yU id K0 .none true .e h4 n5) (zF w h4 fun v6 => zO 2 c h4 fun v7 => jD 2 1 [.zf, (.bool false)] [(0, 2, v7)] h4 n5 fun v8 h9 nI => xM C 2 32 v6 v8 h9 nI fun vB hD nD => zQ 1 w vB hD nD fun vE hA nA => sChk (true && true) (zO 2 q hA fun vH => zO 2 q hA fun vI => C.fn 123 (.of 123) [vH] hA nA fun vJ hE nE => (zO 2 q hE fun v38 => zN v38 vI ((zO 2 q hE fun v37 => zN v37 vH (sMkmap hE nE fun vM hM nN => (zO 2 q hM fun vV => zN vV vI ((zO 2 q hM fun vW => zN vW vH (pW .str vM vJ vI hM nN fun v25 hN nO => zQ 1 p vM hN nO fun vT hW nW => zO 2 q hW fun vQ => jD 2 1 [.zf, (.bool false)] [(0, 2, vQ)] hW nW fun vZ hX nX => IR.run F98.b7 C N ((rO id K0).blk 1 (yU id K0 .none true)) (yU id K0 .none true) (F98.fr a b f e d g l q p w c vZ o s u v y v3 B A D E F G H) hX nX)))))))))) := by kernel_rfl
theorem F98.L7 {id : Pa} {E1 : Ks Prop} (Inv : Nat -> AV -> T Blk -> Pa -> Prop) {m : Nat} (hm : m < N) (hi : Inv m i h nx)
  (step : ∀ (m : Nat) (zA zB zC zK zL zM zR zS zT zU : AV) (h : T Blk) (nx : Pa) (R : Ks Prop), Inv m zA h nx -> (∀ (m' : Nat) (wA wC wD wJ wK wL wM wN wO wP : AV) (h' : T Blk) (nx' : Pa), m' < m -> Inv m' wA h' nx' -> R (F98.fr a b f e d g l q p w c wA wC wD u v y z wJ wK wL wM wN wO wP) h' nx' = .ok True) ->
   (sLen zA fun v1 => zo .gtr .int v1 (I 0) fun v2 => yD v2 (zF w h fun v3 => sLen v3 fun v4 => IR.run F98.b13 C N ((((rO id K0).blk 1 E1).blk 2 K).blk 3 (IR.run F98.b22 C N (((rO id K0).blk 1 E1).blk 2 K) R)) (IR.run F98.b22 C N (((rO id K0).blk 1 E1).blk 2 K) R) (F98.fr a b f e d g l q p w c zA zB zC u v y z v2 v3 v4 (I 0) zS zT zU) h nx) (K (F98.fr a b f e d g l q p w c zA zB zC u v y z v2 zL zM zR zS zT zU) h nx)) = .ok True) :
  IR.run F98.b7 C N ((rO id K0).blk 1 E1) K (F98.fr a b f e d g l q p w c i o s u v y z B A D E F G H) h nx = .ok True := by
 rw [F98.b7, F98.g7_eq, F98.b8];refine yK (fun m tm h nx => ∃ zA zB zC zK zL zM zR zS zT zU, tm = (F98.fr a b f e d g l q p w c zA zB zC u v y z zK zL zM zR zS zT zU) /\ Inv m zA h nx) ?_ hm ⟨_, _, _, _, _, _, _, _, _, _, rfl, hi⟩;rintro m tm h nx R ⟨zA, zB, zC, zK, zL, zM, zR, zS, zT, zU, rfl, hi⟩ hR;refine Eq.trans ?_ (step m zA zB zC zK zL zM zR zS zT zU h nx R hi fun m' wA wC wD wJ wK wL wM wN wO wP h' nx' hlt hi' => hR m' _ h' nx' hlt ⟨_, _, _, _, _, _, _, _, _, _, rfl, hi'⟩)
 kernel_rfl
theorem F98.k22 {id : Pa} {E1 E2 : Ks Prop} : IR.run F98.b22 C N (((rO id K0).blk 1 E1).blk 2 E2) K (F98.fr a b f e d g l q p w c i o s u v y z B A D E F G H) h nx =
 jT 2 i (some (I 1)) none none fun v1 => K (F98.fr a b f e d g l q p w c v1 o s u v y z B A D E F G H) h nx := by kernel_rfl
theorem F98.L13 {id : Pa} {E1 E2 E3 : Ks Prop} (Inv : Nat -> AV -> AV -> T Blk -> Pa -> Prop) {m : Nat} (hm : m < N) (hi : Inv m i E h nx)
  (step : ∀ (m : Nat) (zA zB zC zR zS zT zU : AV) (h : T Blk) (nx : Pa) (R : Ks Prop), Inv m zA zR h nx -> (∀ (m' : Nat) (wA wC wD wM wN wO wP : AV) (h' : T Blk) (nx' : Pa), m' < m -> Inv m' wA wM h' nx' -> R (F98.fr a b f e d g l q p w c wA wC wD u v y z B A D wM wN wO wP) h' nx' = .ok True) ->
   (zo .lss .int zR D fun v1 => yD v1 (zP 2 A zR fun v2 => zO 2 v2 h fun v3 => yM [.zf, (.bool false)] h nx fun v4 h5 n6 => zQ 2 v4 v3 h5 n6 fun v7 h8 n9 => sChk (true && true) (zO 2 v4 h8 fun vA => zP 2 zA (I 0) fun vB => zO 2 vB h8 fun vC => C.fn 122 (.of 122) [vA, vC] h8 n9 fun vD hI nJ => (zO 2 vB hI fun v65 => zN v65 vC ((zP 2 zA (I 0) fun v64 => zN v64 vB (zN zA zA ((zO 2 v4 hI fun v63 => zN v63 vA (yM [.zf, (.bool false)] hI nJ fun vG hG nG => (zO 2 vB hG fun v62 => zN v62 vC ((zP 2 zA (I 0) fun v61 => zN v61 vB (zN zA zA ((zO 2 v4 hG fun v60 => zN v60 vA (zQ 2 vG vD hG nG fun vJ hE nE => zF p hE fun vM => zO 2 vG hE fun vN => C.fn 121 (.of 121) [vM, vN] hE nE fun vO hC nC => yD vO (zo .add .int zR (I 1) fun vP => R (F98.fr a b f e d g l q p w c zA v4 vG u v y z B A D vP v1 vO zU) hC nC) (zF p hC fun vT => sMlen vT hC fun vS => zF e hC fun vR => zo .eql .int vS vR fun vQ => yD vQ (zQ 1 d .jv hC nC fun vZ hX nX => zQ 1 g .zf hX nX fun vW hY nY => zQ 1 l (.bool false) hY nY fun v38 hZ nZ => yU id K0 .ret false .e hZ nZ) (zF p hC fun v41 => zO 2 vG hC fun v42 => zO 2 vG hC fun v43 => C.fn 123 (.of 123) [v42] hC nC fun v44 h45 n46 => (zO 2 vG h45 fun v59 => zN v59 v43 ((zF p h45 fun v58 => zN v58 v41 (pW .str v41 v44 v43 h45 n46 fun v47 h48 n49 => zO 2 vG h48 fun v50 => jD 2 1 [.zf, (.bool false)] [(0, 2, v50)] h48 n49 fun v51 h52 n53 => xM C 2 32 zA v51 h52 n53 fun v54 h55 n56 => zo .add .int zR (I 1) fun v57 => R (F98.fr a b f e d g l q p w c v54 v4 vG u v y z B A D v57 v1 vO vQ) h55 n56)))))))))))))))))))))) (K (F98.fr a b f e d g l q p w c zA zB zC u v y z B A D zR v1 zT zU) h nx)) = .ok True) :
  IR.run F98.b13 C N ((((rO id K0).blk 1 E1).blk 2 E2).blk 3 E3) K (F98.fr a b f e d g l q p w c i o s u v y z B A D E F G H) h nx = .ok True := by
 rw [F98.b13, F98.g13_eq, F98.b14];refine yK (fun m tm h nx => ∃ zA zB zC zR zS zT zU, tm = (F98.fr a b f e d g l q p w c zA zB zC u v y z B A D zR zS zT zU) /\ Inv m zA zR h nx) ?_ hm ⟨_, _, _, _, _, _, _, rfl, hi⟩;rintro m tm h nx R ⟨zA, zB, zC, zR, zS, zT, zU, rfl, hi⟩ hR;refine Eq.trans ?_ (step m zA zB zC zR zS zT zU h nx R hi fun m' wA wC wD wM wN wO wP h' nx' hlt hi' => hR m' _ h' nx' hlt ⟨_, _, _, _, _, _, _, rfl, hi'⟩)
 kernel_rfl
theorem F92.tab : T.get none (.of 92) tbl = some F92 := by kernel_rfl
theorem F92.go : zV tbl N C (.of 92) [a0, a1] h nx K0 =
 sBox a0 h nx fun v1 h2 n3 => yM [.jv] h2 n3 fun v4 h5 n6 => yM [.zf] h5 n6 fun v7 h8 n9 => yM [(I 0)] h8 n9 fun vA hH nH => zF v1 hH fun vD => sLen vD fun vE => zo .eql .int vE (I 0) fun vF => zF v1 hH fun vG => sLen vG fun vH => zo .gtr .int vH (I 1536) fun vI => C.fn 95 (.of 95) [a1] hH nH fun vJ hE nE => (zo .gtr .int vH (I 1536) fun v76 => zN v76 vI ((sLen vG fun v75 => zN v75 vH ((zF v1 hE fun v74 => zN v74 vG ((zo .eql .int vE (I 0) fun v73 => zN v73 vF ((sLen vD fun v72 => zN v72 vE ((zF v1 hE fun v71 => zN v71 vD (C.fn 96 (.of 96) [vF, (I 12)] hE nE fun vM hM nN => (zo .gtr .int vH (I 1536) fun v70 => zN v70 vI ((sLen vG fun v69 => zN v69 vH ((zF v1 hM fun v68 => zN v68 vG (C.fn 96 (.of 96) [vI, (I 5)] hM nN fun v25 hN nO => jD 1 3 [(I 0)] [(0, 1, vJ), (1, 1, vM), (2, 1, v25)] hN nO fun vT hW nW => C.fn 94 (.of 94) [vT] hW nW fun vQ h32 n33 => zo .neq .int vQ (I 0) fun vX => yD vX (zQ 1 v4 .jv h32 n33 fun vW hY nY => zQ 1 v7 .zf hY nY fun v38 hZ nZ => zQ 1 vA vQ hZ nZ fun v41 h42 n43 => zF v4 h42 fun v44 => zF v7 h42 fun v45 => zF vA h42 fun v46 => K0 (.tup [v44, v45, v46]) h42 n43) (zF v1 h32 fun v47 => C.fn 97 (.of 97) [v47, a1] h32 n33 fun v48 h49 n50 => zo .neq .int v48 (I 0) fun v51 => yD v51 (zQ 1 v4 .jv h49 n50 fun v52 h53 n54 => zQ 1 v7 .zf h53 n54 fun v55 h56 n57 => zQ 1 vA v48 h56 n57 fun v58 h59 n60 => zF v4 h59 fun v61 => zF v7 h59 fun v62 => zF vA h59 fun v63 => K0 (.tup [v61, v62, v63]) h59 n60) (zF v1 h49 fun v64 => C.fn 90 (.of 90) [v64] h49 n50 fun v65 h66 n67 => IR.run (.rf (.t (.of 15)) [(.of 16), (.of 17)] F92.b5 F92.b6) C N ((fnO F92.res K0).blk 0 (IR.run F92.b8 C N (fnO F92.res K0) (ji F92.res K0))) (IR.run F92.b8 C N (fnO F92.res K0) (ji F92.res K0)) (F92.fr a0 a1 v1 v4 v7 vA vQ v48 .undef .undef .undef .undef .undef vX v51 v65 .undef .undef .undef .undef) h66 n67)))))))))))))))))))) := by
 rw [zJ F92.tab]; kernel_rfl
theorem F92.k8 : IR.run F92.b8 C N (fnO F92.res K0) K (F92.fr a b f e d g l q p w c i o s u v y z B A) h nx =
 zF f h fun v1 => zF f h fun v2 => sLen v2 fun v3 => C.fn 98 (.of 98) [v1, b, v3] h nx fun v4 h5 n6 => xw 0 v4 fun v7 => xw 1 v4 fun v8 => xw 2 v4 fun v9 => sNot v9 fun vA => sG vA false (fun k => k v7) fun vB => sG vA false (fun k => sMlen vB h5 k) fun vC => sG vA false (fun k => zF f h5 k) fun vD => sG vA false (fun k => sLen vD k) fun vE => sG vA false (fun k => zo .neq .int vC vE k) fun vF => jM vA (.bool true) vF fun vG => yD vG (zQ 1 e .jv h5 n6 fun vH h18 n19 => zQ 1 d .zf h18 n19 fun vK hJ nK => zQ 1 g (I 28) hJ nK fun vN hF nF => zF e hF fun vU => zF d hF fun vP => zF g hF fun vT => K0 (.tup [vU, vP, vT]) hF nF) ((IR.run F92.b9 C N (fnO F92.res K0) K) (F92.fr a b f e d g l q p w v7 v8 v9 s u v y z B vG) h5 n6) := by kernel_rfl
theorem F92.p6 {N : Nat} {C : Calls Prop} {K0 : Kw Prop} {id nx : Pa} {j : Jump} {h : T Blk} {a b f e d g l q p w c i o s u v y z B A z0 z1 : AV} (hl : T.get .no id h = .loop .ready j (F92.fr a b f e d g l q p w c i o s u v y z B A) [.of 16, .of 17] F92.b5 F92.b6) :
 wB N C id [z0, z1] h nx K0 =
 yM [.zf, (.bool false)] h nx fun v1 h2 n3 => zQ 2 v1 z1 h2 n3 fun v4 h5 n6 => rMid N C id K0 F92.b6 (F92.fr a b f e d g l q z0 v1 c i o s u v z0 z1 B A) h5 n6 := by
 rw [rnd_gen hl (tm1 := (F92.fr a b f e d g l q p w c i o s u v z0 z1 B A)) (by intro k; kernel_rfl)]; kernel_rfl
theorem F92.y6 {N : Nat} {C : Calls Prop} {K0 : Kw Prop} {id nx : Pa} {h : T Blk} {a b f e d g l q p w c i o s u v y z B A : AV} :
 IR.run F92.b6 C N (rO id K0) (yU id K0 .none true) (F92.fr a b f e d g l q p w c i o s u v y z B A) h nx =
 zo .gtr .int p (I 0) fun v1 => sG v1 true (fun k => zF f h k) fun v2 => sG v1 true (fun k => k p) fun v3 => sG v1 true (fun k => zo .sub .int v3 (I 1) k) fun v4 => sG v1 true (fun k => zP 2 v2 v4 k) fun v5 => sG v1 true (fun k => zO 2 v5 h k) fun v6 => sG v1 true (fun k => zO 2 w h k) fun v7 => sGW v1 true (fun k => C.fn 162 (.of 162) [v6, v7] h nx k) h nx fun v8 h9 nI => sG v1 true (fun k => zo .geq .int v8 (I 0) k) fun vB => jM v1 vB (.bool false) fun vC => yD vC (zQ 1 e .jv h9 nI fun vD hI nJ => zQ 1 d .zf hI nJ fun vG hG nG => zQ 1 g (I 11) hG nG fun vJ hE nE => yU id K0 .ret false .e hE nE) (yU id K0 .none true .e h9 nI) := by kernel_rfl
theorem F92.k9 : IR.run F92.b9 C N (fnO F92.res K0) K (F92.fr a b f e d g l q p w c i o s u v y z B A) h nx =
 zQ 1 e c h nx fun v1 h2 n3 => zQ 1 d i h2 n3 fun v4 h5 n6 => zQ 1 g (I 0) h5 n6 fun v7 h8 n9 => zF e h8 fun vA => zF d h8 fun vB => zF g h8 fun vC => K0 (.tup [vA, vB, vC]) h8 n9 := by kernel_rfl
theorem F22.tab : T.get none (.of 22) tbl = some F22 := by kernel_rfl
theorem F22.go : zV tbl N C (.of 22) [a0, a1] h nx K0 =
 C.fn 92 (.of 92) [a0, a1] h nx fun v1 h2 n3 => xw 0 v1 fun v4 => xw 1 v1 fun v5 => xw 2 v1 fun v6 => K0 v6 h2 n3 := by
 rw [zJ F22.tab]; kernel_rfl
end Go.Ev
namespace Go.Ev
open Go Go.Proofs
set_option maxRecDepth 100000
section
variable {N : Nat} {C : Calls Prop} {K0 : Kw Prop} {K : Ks Prop} {h : T Blk} {nx : Pa} {a b f e d g l q p w c i a0 a1 : AV} {O : uz Prop} {tm : T AV} {Kt : KTm} {r : List RO} {s0 s1 s2 s3 s4 s5 s6 s7 s8 s9 s10 s11 s12 s13 s14 s15 s16 s17 s18 s19 s20 s21 s22 s23 s24 s25 s26 s27 s28 s29 s30 s31 s32 s33 s34 s35 s36 s37 s38 s39 : AV}
def zu.t0 : IR := .reg [.w (.loc (.of 2)) none (.box (.t (.of 0))), .q (.of 3) (.mv (.c .zf))]
def zu.t1 : IR := .reg [.s (.mv (.t (.of 1))), .s (.len (.s 0)), .w .push none (.gu 1 8 [(I 0)] (.s 0) (.s 0)), .q (.of 4) (.mv (.s 0))]
def zu.t2 : IR := .reg [.q (.of 7) (.mv (.t (.of 1))), .q (.of 8) (.len (.t (.of 7))), .q (.of 9) (.mv (.c (I 0)))]
def zu.t3 : IR := .reg [.q (.of 10) (.bin .lss .int (.t (.of 9)) (.t (.of 8)))]
def zu.t4 : IR := .cond (.t (.of 10)) .skip (.exit 0)
def zu.t5 : IR := .reg [.s (.mv (.t (.of 9))), .s (.zn 1 (.t (.of 7)) (.t (.of 9))), .s (.load (.s 0)), .q (.of 5) (.mv (.s 2)), .q (.of 6) (.mv (.s 0))]
def zu.t6 : IR := .reg [.s (.zx 1 (.t (.of 2))), .q (.of 11) (.load (.s 0))]
def zu.t7 : IR := .reg [.s (.mv (.t (.of 1))), .s (.len (.s 0)), .s (.bin .add .int (.s 0) (.c (I 1))), .s (.mv (.t (.of 6))), .s (.bin .sub .int (.s 1) (.s 0)), .q (.of 6) (.mv (.s 0))]
def zu.t8 : IR := .cond (.t (.of 11)) zu.t7 .skip
def zu.t9 : IR := .seq zu.t6 zu.t8
def zu.t10 : IR := .reg [.s (.mv (.t (.of 4))), .s (.zx 0 (.t (.of 2))), .s (.load (.s 0)), .s (.mv (.t (.of 5))), .s (.zn 1 (.s 1) (.s 0)), .s (.load (.s 0)), .s (.mv (.t (.of 6))), .s (.zn 1 (.s 6) (.s 1)), .w .none none (.store 1 (.s 0) (.s 1))]
def zu.t11 : IR := .seq zu.t9 zu.t10
def zu.t12 : IR := .seq zu.t5 zu.t11
def zu.t13 : IR := .block 1 zu.t12
def zu.t14 : IR := .reg [.s (.bin .add .int (.t (.of 9)) (.c (I 1))), .q (.of 9) (.mv (.s 0))]
def zu.t15 : IR := .seq zu.t13 zu.t14
def zu.t16 : IR := .seq zu.t4 zu.t15
def zu.t17 : IR := .seq zu.t3 zu.t16
def zu.t18 : IR := .loop zu.t17
def zu.t19 : IR := .block 0 zu.t18
def zu.t20 : IR := .seq zu.t2 zu.t19
def zu.t21 : IR := .reg [.s (.mv (.t (.of 4))), .q (.of 3) (.mv (.s 0))]
def zu.t22 : IR := .seq zu.t21 .ret
def zu.t23 : IR := .seq zu.t20 zu.t22
def zu.t24 : IR := .seq zu.t1 zu.t23
def zu.t25 : IR := .seq zu.t0 zu.t24
theorem zu.qi : IR.run zu.t0 C N O K (zu.fr a b f e d g l q p w c i) h nx =
 sBox a h nx fun v1 h2 n3 => K (zu.fr a b v1 .zf d g l q p w c i) h2 n3 := by kernel_rfl
theorem zu.qj : IR.run zu.t1 C N O K (zu.fr a b f e d g l q p w c i) h nx =
 sLen b fun v1 => uG 1 8 [(I 0)] v1 v1 h nx fun v2 h3 n4 => K (zu.fr a b f e v2 g l q p w c i) h3 n4 := by kernel_rfl
theorem zu.xg : IR.run zu.t2 C N O K (zu.fr a b f e d g l q p w c i) h nx =
 sLen b fun v1 => K (zu.fr a b f e d g l b v1 (I 0) c i) h nx := by kernel_rfl
theorem zu.t3_s : IR.run zu.t3 C N O K (zu.fr a b f e d g l q p w c i) h nx =
 zo .lss .int w p fun v1 => K (zu.fr a b f e d g l q p w v1 i) h nx := by kernel_rfl
theorem zu.v10 : Arg.ev (.t (.of 10)) ⟨(zu.fr a b f e d g l q p w c i), []⟩ = c := by kernel_rfl
theorem zu.t5_s : IR.run zu.t5 C N O K (zu.fr a b f e d g l q p w c i) h nx =
 zP 1 q w fun v1 => zF v1 h fun v2 => K (zu.fr a b f e d w v2 q p w c i) h nx := by kernel_rfl
theorem zu.bW : IR.run zu.t6 C N O K (zu.fr a b f e d g l q p w c i) h nx =
 zW 1 f fun v1 => zF v1 h fun v2 => K (zu.fr a b f e d g l q p w c v2) h nx := by kernel_rfl
theorem zu.t7_s : IR.run zu.t7 C N O K (zu.fr a b f e d g l q p w c i) h nx =
 sLen b fun v1 => zo .add .int v1 (I 1) fun v2 => zo .sub .int v2 l fun v3 => K (zu.fr a b f e d g v3 q p w c i) h nx := by kernel_rfl
theorem zu.v11 : Arg.ev (.t (.of 11)) ⟨(zu.fr a b f e d g l q p w c i), []⟩ = i := by kernel_rfl
theorem zu.pq : IR.run zu.t10 C N O K (zu.fr a b f e d g l q p w c i) h nx =
 zW 0 f fun v1 => zF v1 h fun v2 => zP 1 v2 g fun v3 => zF v3 h fun v4 => zP 1 d v4 fun v5 => zQ 1 v5 l h nx fun v6 h7 n8 => K (zu.fr a b f e d g l q p w c i) h7 n8 := by kernel_rfl
theorem zu.t14_s : IR.run zu.t14 C N O K (zu.fr a b f e d g l q p w c i) h nx =
 zo .add .int w (I 1) fun v1 => K (zu.fr a b f e d g l q p v1 c i) h nx := by kernel_rfl
theorem zu.t18_L (Inv : Nat -> AV -> T Blk -> Pa -> Prop) {m : Nat} (hm : m < N) (hi : Inv m w h nx)
  (step : ∀ (m : Nat) (z5 z6 z9 zI zA : AV) (h : T Blk) (nx : Pa) (R : Ks Prop), Inv m z9 h nx -> (∀ (m' : Nat) (w5 w6 w9 wI wA : AV) (h' : T Blk) (nx' : Pa), m' < m -> Inv m' w9 h' nx' -> R (zu.fr a b f e d w5 w6 q p w9 wI wA) h' nx' = .ok True) -> IR.run zu.t17 C N O R (zu.fr a b f e d z5 z6 q p z9 zI zA) h nx = .ok True) :
  IR.run zu.t18 C N O K (zu.fr a b f e d g l q p w c i) h nx = .ok True := by
 rw [zu.t18];refine yK (fun m tm h nx => ∃ z5 z6 z9 zI zA, tm = (zu.fr a b f e d z5 z6 q p z9 zI zA) /\ Inv m z9 h nx) ?_ hm ⟨_, _, _, _, _, rfl, hi⟩;rintro m tm h nx R ⟨z5, z6, z9, zI, zA, rfl, hi⟩ hR;exact step m z5 z6 z9 zI zA h nx R hi fun m' w5 w6 w9 wI wA h' nx' hlt hi' => hR m' _ h' nx' hlt ⟨_, _, _, _, _, rfl, hi'⟩
theorem zu.t21_s : IR.run zu.t21 C N O K (zu.fr a b f e d g l q p w c i) h nx =
 K (zu.fr a b f d d g l q p w c i) h nx := by kernel_rfl
theorem zu.tab : T.get none (.of 135) tbl = some zu := by kernel_rfl
theorem zu.bind (k : T AV -> OP) : zX zu.params [a0, a1] zu.init k = k (zu.fr a0 a1 .undef .undef .undef .undef .undef .undef .undef .undef .undef .undef) := by kernel_rfl
theorem zu.yu : zu.body = zu.t25 := by kernel_rfl
theorem zu.go : zV tbl N C (.of 135) [a0, a1] h nx K0 = IR.run zu.t25 C N (fnO zu.res K0) (ji zu.res K0) (zu.fr a0 a1 .undef .undef .undef .undef .undef .undef .undef .undef .undef .undef) h nx := by
 rw [zJ zu.tab, zu.bind, zu.yu]; kernel_rfl
theorem zu.ret : ji zu.res K0 (zu.fr a b f e d g l q p w c i) h nx = K0 e h nx := by kernel_rfl
def wo.t0 : IR := .reg [.q (.of 1) (.mv (.c (I 0)))]
def wo.t1 : IR := .reg [.s (.mv (.t (.of 0))), .s (.len (.s 0)), .s (.bin .gtr .int (.s 0) (.c (I 256))), .w .push none (.call (.c (.fn 96 (.of 96) [])) [(.s 0), (.c (I 5))]), .s (.mv (.t (.of 0))), .w .push none (.call (.c (.fn 136 (.of 136) [])) [(.s 0), (.c (.fn 137 (.of 137) []))]), .w .push none (.call (.c (.fn 96 (.of 96) [])) [(.s 0), (.c (I 3))]), .w .push none (.zy 1 2 [(I 0)] [(0, 1, (.s 3)), (1, 1, (.s 0))]), .w .push none (.call (.c (.fn 94 (.of 94) [])) [(.s 0)]), .q (.of 1) (.mv (.s 0))]
def wo.t2 : IR := .seq wo.t1 .ret
def wo.t3 : IR := .seq wo.t0 wo.t2
theorem wo.qi : IR.run wo.t0 C N O K (wo.fr a b) h nx =
 K (wo.fr a (I 0)) h nx := by kernel_rfl
theorem wo.qj : IR.run wo.t1 C N O K (wo.fr a b) h nx =
 sLen a fun v1 => zo .gtr .int v1 (I 256) fun v2 => C.fn 96 (.of 96) [v2, (I 5)] h nx fun v3 h4 n5 => C.fn 136 (.of 136) [a, (.fn 137 (.of 137) [])] h4 n5 fun v6 h7 n8 => C.fn 96 (.of 96) [v6, (I 3)] h7 n8 fun v9 hV nV => jD 1 2 [(I 0)] [(0, 1, v3), (1, 1, v9)] hV nV fun vC h13 n14 => C.fn 94 (.of 94) [vC] h13 n14 fun vF hB nB => K (wo.fr a vF) hB nB := by kernel_rfl
theorem wo.tab : T.get none (.of 134) tbl = some wo := by kernel_rfl
theorem wo.bind (k : T AV -> OP) : zX wo.params [a0] wo.init k = k (wo.fr a0 .undef) := by kernel_rfl
theorem wo.yu : wo.body = wo.t3 := by kernel_rfl
theorem wo.go : zV tbl N C (.of 134) [a0] h nx K0 = IR.run wo.t3 C N (fnO wo.res K0) (ji wo.res K0) (wo.fr a0 .undef) h nx := by
 rw [zJ wo.tab, wo.bind, wo.yu]; kernel_rfl
theorem wo.ret : ji wo.res K0 (wo.fr a b) h nx = K0 b h nx := by kernel_rfl
def qy.t0 : IR := .reg [.q (.of 1) (.mv (.c (.bool false)))]
def qy.t1 : IR := .reg [.s (.mv (.t (.of 0))), .s (.bin .lss .int (.s 0) (.c (I (-999999999)))), .s (.mv (.s 0)), .p .push (some ((.s 0), false)) (.mv (.t (.of 0))), .p .push (some ((.s 1), false)) (.bin .gtr .int (.s 0) (.c (I 999999999))), .s (.pick (.s 2) (.c (.bool true)) (.s 0)), .q (.of 1) (.mv (.s 0))]
def qy.t2 : IR := .seq qy.t1 .ret
def qy.t3 : IR := .seq qy.t0 qy.t2
theorem qy.qi : IR.run qy.t0 C N O K (qy.fr a b) h nx =
 K (qy.fr a (.bool false)) h nx := by kernel_rfl
theorem qy.qj : IR.run qy.t1 C N O K (qy.fr a b) h nx =
 zo .lss .int a (I (-999999999)) fun v1 => sG v1 false (fun k => k a) fun v2 => sG v1 false (fun k => zo .gtr .int v2 (I 999999999) k) fun v3 => jM v1 (.bool true) v3 fun v4 => K (qy.fr a v4) h nx := by kernel_rfl
theorem qy.tab : T.get none (.of 137) tbl = some qy := by kernel_rfl
theorem qy.bind (k : T AV -> OP) : zX qy.params [a0] qy.init k = k (qy.fr a0 .undef) := by kernel_rfl
theorem qy.yu : qy.body = qy.t3 := by kernel_rfl
theorem qy.go : zV tbl N C (.of 137) [a0] h nx K0 = IR.run qy.t3 C N (fnO qy.res K0) (ji qy.res K0) (qy.fr a0 .undef) h nx := by
 rw [zJ qy.tab, qy.bind, qy.yu]; kernel_rfl
theorem qy.ret : ji qy.res K0 (qy.fr a b) h nx = K0 b h nx := by kernel_rfl
def F57.t0 : IR := .reg [.q (.of 1) (.mv (.c (I 0)))]
def F57.t1 : IR := .reg [.s (.mv (.t (.of 0))), .s (.len (.s 0)), .q (.of 2) (.bin .gtr .int (.s 0) (.c (I 256)))]
def F57.t2 : IR := .reg [.q (.of 1) (.mv (.c (I 5)))]
def F57.t3 : IR := .seq F57.t2 .ret
def F57.t4 : IR := .cond (.t (.of 2)) F57.t3 .skip
def F57.t5 : IR := .seq F57.t1 F57.t4
def F57.t6 : IR := .reg [.s (.mv (.t (.of 0))), .w .push none (.call (.c (.fn 59 (.of 59) [])) [(.s 0)]), .q (.of 1) (.mv (.s 0))]
def F57.t7 : IR := .seq F57.t6 .ret
def F57.t8 : IR := .seq F57.t5 F57.t7
def F57.t9 : IR := .seq F57.t0 F57.t8
theorem F57.qi : IR.run F57.t0 C N O K (F57.fr a b f) h nx =
 K (F57.fr a (I 0) f) h nx := by kernel_rfl
theorem F57.qj : IR.run F57.t1 C N O K (F57.fr a b f) h nx =
 sLen a fun v1 => zo .gtr .int v1 (I 256) fun v2 => K (F57.fr a b v2) h nx := by kernel_rfl
theorem F57.xg : IR.run F57.t2 C N O K (F57.fr a b f) h nx =
 K (F57.fr a (I 5) f) h nx := by kernel_rfl
theorem F57.v2 : Arg.ev (.t (.of 2)) ⟨(F57.fr a b f), []⟩ = f := by kernel_rfl
theorem F57.bW : IR.run F57.t6 C N O K (F57.fr a b f) h nx =
 C.fn 59 (.of 59) [a] h nx fun v1 h2 n3 => K (F57.fr a v1 f) h2 n3 := by kernel_rfl
theorem F57.tab : T.get none (.of 57) tbl = some F57 := by kernel_rfl
theorem F57.bind (k : T AV -> OP) : zX F57.params [a0] F57.init k = k (F57.fr a0 .undef .undef) := by kernel_rfl
theorem F57.yu : F57.body = F57.t9 := by kernel_rfl
theorem F57.go : zV tbl N C (.of 57) [a0] h nx K0 = IR.run F57.t9 C N (fnO F57.res K0) (ji F57.res K0) (F57.fr a0 .undef .undef) h nx := by
 rw [zJ F57.tab, F57.bind, F57.yu]; kernel_rfl
theorem F57.ret : ji F57.res K0 (F57.fr a b f) h nx = K0 b h nx := by kernel_rfl
def F59.t0 : IR := .reg [.q (.of 1) (.mv (.c (I 0)))]
def F59.t1 : IR := .reg [.q (.of 2) (.mv (.c (I 0)))]
def F59.t2 : IR := .reg [.s (.mv (.t (.of 2))), .s (.mv (.t (.of 0))), .s (.len (.s 0)), .q (.of 3) (.bin .lss .int (.s 2) (.s 0))]
def F59.t3 : IR := .cond (.t (.of 3)) .skip (.exit 0)
def F59.t4 : IR := .seq F59.t2 F59.t3
def F59.r3_1 : List RO := .p .push (some ((.s 2), false)) (.zn 1 (.s 1) (.s 0)) :: .p .push (some ((.s 3), false)) (.load (.s 0)) :: .p .push (some ((.s 4), false)) (.bin .gtr .int (.s 0) (.c (I 999999999))) :: .q (.of 4) (.pick (.s 5) (.c (.bool true)) (.s 0)) :: []
def F59.r3_0 : List RO := .s (.mv (.t (.of 0))) :: .s (.mv (.t (.of 2))) :: .s (.zn 1 (.s 1) (.s 0)) :: .s (.load (.s 0)) :: .s (.bin .lss .int (.s 0) (.c (I (-999999999)))) :: .s (.mv (.s 0)) :: .p .push (some ((.s 0), false)) (.mv (.t (.of 0))) :: .p .push (some ((.s 1), false)) (.mv (.t (.of 2))) :: F59.r3_1
def F59.t5 : IR := .reg F59.r3_0
def F59.t6 : IR := .reg [.q (.of 1) (.mv (.c (I 3)))]
def F59.t7 : IR := .seq F59.t6 .ret
def F59.t8 : IR := .cond (.t (.of 4)) F59.t7 .skip
def F59.t9 : IR := .seq F59.t5 F59.t8
def F59.t10 : IR := .block 1 F59.t9
def F59.t11 : IR := .reg [.s (.mv (.t (.of 2))), .s (.bin .add .int (.s 0) (.c (I 1))), .q (.of 2) (.mv (.s 0))]
def F59.t12 : IR := .seq F59.t10 F59.t11
def F59.t13 : IR := .seq F59.t4 F59.t12
def F59.t14 : IR := .loop F59.t13
def F59.t15 : IR := .block 0 F59.t14
def F59.t16 : IR := .seq F59.t1 F59.t15
def F59.t17 : IR := .reg [.q (.of 1) (.mv (.c (I 0)))]
def F59.t18 : IR := .seq F59.t17 .ret
def F59.t19 : IR := .seq F59.t16 F59.t18
def F59.t20 : IR := .seq F59.t0 F59.t19
theorem F59.qi : IR.run F59.t0 C N O K (F59.fr a b f e d) h nx =
 K (F59.fr a (I 0) f e d) h nx := by kernel_rfl
theorem F59.qj : IR.run F59.t1 C N O K (F59.fr a b f e d) h nx =
 K (F59.fr a b (I 0) e d) h nx := by kernel_rfl
theorem F59.xg : IR.run F59.t2 C N O K (F59.fr a b f e d) h nx =
 sLen a fun v1 => zo .lss .int f v1 fun v2 => K (F59.fr a b f v2 d) h nx := by kernel_rfl
theorem F59.v3 : Arg.ev (.t (.of 3)) ⟨(F59.fr a b f e d), []⟩ = e := by kernel_rfl
theorem F59.t5_s : IR.run F59.t5 C N O K tm h nx = yS F59.r3_0 C ⟨tm, []⟩ h nx (fun tm h nx => K tm.v h nx) := kT ..
theorem F59.r3_0_g : yS (.s (.mv (.t (.of 0))) :: .s (.mv (.t (.of 2))) :: .s (.zn 1 (.s 1) (.s 0)) :: .s (.load (.s 0)) :: .s (.bin .lss .int (.s 0) (.c (I (-999999999)))) :: .s (.mv (.s 0)) :: .p .push (some ((.s 0), false)) (.mv (.t (.of 0))) :: .p .push (some ((.s 1), false)) (.mv (.t (.of 2))) :: r) C ⟨(F59.fr a b f e d), []⟩ h nx Kt =
 zP 1 a f fun v1 => zF v1 h fun v2 => zo .lss .int v2 (I (-999999999)) fun v3 => sG v3 false (fun k => k a) fun v4 => sG v3 false (fun k => k f) fun v5 => yS r C ⟨(F59.fr a b f e d), v5 :: v4 :: v3 :: v3 :: v2 :: v1 :: f :: a :: []⟩ h nx Kt := by kernel_rfl
theorem F59.r3_1_g : yS (.p .push (some ((.s 2), false)) (.zn 1 (.s 1) (.s 0)) :: .p .push (some ((.s 3), false)) (.load (.s 0)) :: .p .push (some ((.s 4), false)) (.bin .gtr .int (.s 0) (.c (I 999999999))) :: .q (.of 4) (.pick (.s 5) (.c (.bool true)) (.s 0)) :: []) C ⟨(F59.fr a b f e d), s0 :: s1 :: s2 :: s3 :: s4 :: s5 :: s6 :: s7 :: []⟩ h nx Kt =
 sG s2 false (fun k => zP 1 s1 s0 k) fun v1 => sG s2 false (fun k => zF v1 h k) fun v2 => sG s2 false (fun k => zo .gtr .int v2 (I 999999999) k) fun v3 => jM s2 (.bool true) v3 fun v4 => Kt ⟨(F59.fr a b f e v4), v3 :: v2 :: v1 :: s0 :: s1 :: s2 :: s3 :: s4 :: s5 :: s6 :: s7 :: []⟩ h nx := by kernel_rfl
theorem F59.bW : IR.run F59.t6 C N O K (F59.fr a b f e d) h nx =
 K (F59.fr a (I 3) f e d) h nx := by kernel_rfl
theorem F59.v4 : Arg.ev (.t (.of 4)) ⟨(F59.fr a b f e d), []⟩ = d := by kernel_rfl
theorem F59.fA : IR.run F59.t11 C N O K (F59.fr a b f e d) h nx =
 zo .add .int f (I 1) fun v1 => K (F59.fr a b v1 e d) h nx := by kernel_rfl
theorem F59.t14_L (Inv : Nat -> AV -> T Blk -> Pa -> Prop) {m : Nat} (hm : m < N) (hi : Inv m f h nx)
  (step : ∀ (m : Nat) (z1 z2 z3 z4 : AV) (h : T Blk) (nx : Pa) (R : Ks Prop), Inv m z2 h nx -> (∀ (m' : Nat) (w1 w2 w3 w4 : AV) (h' : T Blk) (nx' : Pa), m' < m -> Inv m' w2 h' nx' -> R (F59.fr a w1 w2 w3 w4) h' nx' = .ok True) -> IR.run F59.t13 C N O R (F59.fr a z1 z2 z3 z4) h nx = .ok True) :
  IR.run F59.t14 C N O K (F59.fr a b f e d) h nx = .ok True := by
 rw [F59.t14];refine yK (fun m tm h nx => ∃ z1 z2 z3 z4, tm = (F59.fr a z1 z2 z3 z4) /\ Inv m z2 h nx) ?_ hm ⟨_, _, _, _, rfl, hi⟩;rintro m tm h nx R ⟨z1, z2, z3, z4, rfl, hi⟩ hR;exact step m z1 z2 z3 z4 h nx R hi fun m' w1 w2 w3 w4 h' nx' hlt hi' => hR m' _ h' nx' hlt ⟨_, _, _, _, rfl, hi'⟩
theorem F59.t17_s : IR.run F59.t17 C N O K (F59.fr a b f e d) h nx =
 K (F59.fr a (I 0) f e d) h nx := by kernel_rfl
theorem F59.tab : T.get none (.of 59) tbl = some F59 := by kernel_rfl
theorem F59.bind (k : T AV -> OP) : zX F59.params [a0] F59.init k = k (F59.fr a0 .undef .undef .undef .undef) := by kernel_rfl
theorem F59.yu : F59.body = F59.t20 := by kernel_rfl
theorem F59.go : zV tbl N C (.of 59) [a0] h nx K0 = IR.run F59.t20 C N (fnO F59.res K0) (ji F59.res K0) (F59.fr a0 .undef .undef .undef .undef) h nx := by
 rw [zJ F59.tab, F59.bind, F59.yu]; kernel_rfl
theorem F59.ret : ji F59.res K0 (F59.fr a b f e d) h nx = K0 b h nx := by kernel_rfl
def F51.t0 : IR := .reg [.q (.of 1) (.mv (.c (.bool false)))]
def F51.r1_1 : List RO := .s (.mv (.s 0)) :: .p .push (some ((.s 0), false)) (.mv (.t (.of 0))) :: .p .push (some ((.s 1), false)) (.len (.s 0)) :: .p .push (some ((.s 2), false)) (.bin .gtr .int (.s 0) (.c (I 260))) :: .s (.pick (.s 3) (.c (.bool true)) (.s 0)) :: .q (.of 1) (.mv (.s 0)) :: []
def F51.r1_0 : List RO := .s (.mv (.t (.of 0))) :: .s (.len (.s 0)) :: .s (.bin .gtr .int (.s 0) (.c (I 16))) :: .s (.mv (.s 0)) :: .p .push (some ((.s 0), true)) (.mv (.t (.of 0))) :: .p .push (some ((.s 1), true)) (.len (.s 0)) :: .p .push (some ((.s 2), true)) (.bin .lss .int (.s 0) (.c (I 250))) :: .s (.pick (.s 3) (.s 0) (.c (.bool false))) :: F51.r1_1
def F51.t1 : IR := .reg F51.r1_0
def F51.t2 : IR := .seq F51.t1 .ret
def F51.t3 : IR := .seq F51.t0 F51.t2
theorem F51.qi : IR.run F51.t0 C N O K (F51.fr a b) h nx =
 K (F51.fr a (.bool false)) h nx := by kernel_rfl
theorem F51.qj : IR.run F51.t1 C N O K tm h nx = yS F51.r1_0 C ⟨tm, []⟩ h nx (fun tm h nx => K tm.v h nx) := kT ..
theorem F51.r1_0_g : yS (.s (.mv (.t (.of 0))) :: .s (.len (.s 0)) :: .s (.bin .gtr .int (.s 0) (.c (I 16))) :: .s (.mv (.s 0)) :: .p .push (some ((.s 0), true)) (.mv (.t (.of 0))) :: .p .push (some ((.s 1), true)) (.len (.s 0)) :: .p .push (some ((.s 2), true)) (.bin .lss .int (.s 0) (.c (I 250))) :: .s (.pick (.s 3) (.s 0) (.c (.bool false))) :: r) C ⟨(F51.fr a b), []⟩ h nx Kt =
 sLen a fun v1 => zo .gtr .int v1 (I 16) fun v2 => sG v2 true (fun k => k a) fun v3 => sG v2 true (fun k => sLen v3 k) fun v4 => sG v2 true (fun k => zo .lss .int v4 (I 250) k) fun v5 => jM v2 v5 (.bool false) fun v6 => yS r C ⟨(F51.fr a b), v6 :: v5 :: v4 :: v3 :: v2 :: v2 :: v1 :: a :: []⟩ h nx Kt := by kernel_rfl
theorem F51.r1_1_g : yS (.s (.mv (.s 0)) :: .p .push (some ((.s 0), false)) (.mv (.t (.of 0))) :: .p .push (some ((.s 1), false)) (.len (.s 0)) :: .p .push (some ((.s 2), false)) (.bin .gtr .int (.s 0) (.c (I 260))) :: .s (.pick (.s 3) (.c (.bool true)) (.s 0)) :: .q (.of 1) (.mv (.s 0)) :: []) C ⟨(F51.fr a b), s0 :: s1 :: s2 :: s3 :: s4 :: s5 :: s6 :: s7 :: []⟩ h nx Kt =
 sG s0 false (fun k => k a) fun v1 => sG s0 false (fun k => sLen v1 k) fun v2 => sG s0 false (fun k => zo .gtr .int v2 (I 260) k) fun v3 => jM s0 (.bool true) v3 fun v4 => Kt ⟨(F51.fr a v4), v4 :: v3 :: v2 :: v1 :: s0 :: s0 :: s1 :: s2 :: s3 :: s4 :: s5 :: s6 :: s7 :: []⟩ h nx := by kernel_rfl
theorem F51.tab : T.get none (.of 51) tbl = some F51 := by kernel_rfl
theorem F51.bind (k : T AV -> OP) : zX F51.params [a0] F51.init k = k (F51.fr a0 .undef) := by kernel_rfl
theorem F51.yu : F51.body = F51.t3 := by kernel_rfl
theorem F51.go : zV tbl N C (.of 51) [a0] h nx K0 = IR.run F51.t3 C N (fnO F51.res K0) (ji F51.res K0) (F51.fr a0 .undef) h nx := by
 rw [zJ F51.tab, F51.bind, F51.yu]; kernel_rfl
theorem F51.ret : ji F51.res K0 (F51.fr a b) h nx = K0 b h nx := by kernel_rfl
def F19.t0 : IR := .reg [.q (.of 2) (.mv (.c (.bool false)))]
def F19.t1 : IR := .reg [.s (.mv (.t (.of 0))), .s (.len (.s 0)), .s (.mv (.t (.of 1))), .q (.of 4) (.bin .gtr .int (.s 1) (.s 0))]
def F19.t2 : IR := .reg [.q (.of 2) (.mv (.c (.bool true)))]
def F19.t3 : IR := .seq F19.t2 .ret
def F19.t4 : IR := .cond (.t (.of 4)) F19.t3 .skip
def F19.t5 : IR := .seq F19.t1 F19.t4
def F19.t6 : IR := .reg [.q (.of 3) (.mv (.c (I 0)))]
def F19.t7 : IR := .reg [.s (.mv (.t (.of 3))), .s (.mv (.t (.of 0))), .s (.len (.s 0)), .q (.of 5) (.bin .lss .int (.s 2) (.s 0))]
def F19.t8 : IR := .cond (.t (.of 5)) .skip (.exit 0)
def F19.t9 : IR := .seq F19.t7 F19.t8
def F19.t10 : IR := .reg [.s (.mv (.t (.of 0))), .s (.mv (.t (.of 3))), .s (.zn 2 (.s 1) (.s 0)), .s (.zx 0 (.s 0)), .s (.load (.s 0)), .s (.len (.s 0)), .q (.of 6) (.bin .gtr .int (.s 0) (.c (I 16)))]
def F19.t11 : IR := .reg [.q (.of 2) (.mv (.c (.bool true)))]
def F19.t12 : IR := .seq F19.t11 .ret
def F19.t13 : IR := .cond (.t (.of 6)) F19.t12 .skip
def F19.t14 : IR := .seq F19.t10 F19.t13
def F19.t15 : IR := .block 1 F19.t14
def F19.t16 : IR := .reg [.s (.mv (.t (.of 3))), .s (.bin .add .int (.s 0) (.c (I 1))), .q (.of 3) (.mv (.s 0))]
def F19.t17 : IR := .seq F19.t15 F19.t16
def F19.t18 : IR := .seq F19.t9 F19.t17
def F19.t19 : IR := .loop F19.t18
def F19.t20 : IR := .block 0 F19.t19
def F19.t21 : IR := .seq F19.t6 F19.t20
def F19.t22 : IR := .reg [.q (.of 2) (.mv (.c (.bool false)))]
def F19.t23 : IR := .seq F19.t22 .ret
def F19.t24 : IR := .seq F19.t21 F19.t23
def F19.t25 : IR := .seq F19.t5 F19.t24
def F19.t26 : IR := .seq F19.t0 F19.t25
theorem F19.qi : IR.run F19.t0 C N O K (F19.fr a b f e d g l) h nx =
 K (F19.fr a b (.bool false) e d g l) h nx := by kernel_rfl
theorem F19.qj : IR.run F19.t1 C N O K (F19.fr a b f e d g l) h nx =
 sLen a fun v1 => zo .gtr .int v1 b fun v2 => K (F19.fr a b f e v2 g l) h nx := by kernel_rfl
theorem F19.xg : IR.run F19.t2 C N O K (F19.fr a b f e d g l) h nx =
 K (F19.fr a b (.bool true) e d g l) h nx := by kernel_rfl
theorem F19.v4 : Arg.ev (.t (.of 4)) ⟨(F19.fr a b f e d g l), []⟩ = d := by kernel_rfl
theorem F19.bW : IR.run F19.t6 C N O K (F19.fr a b f e d g l) h nx =
 K (F19.fr a b f (I 0) d g l) h nx := by kernel_rfl
theorem F19.t7_s : IR.run F19.t7 C N O K (F19.fr a b f e d g l) h nx =
 sLen a fun v1 => zo .lss .int e v1 fun v2 => K (F19.fr a b f e d v2 l) h nx := by kernel_rfl
theorem F19.v5 : Arg.ev (.t (.of 5)) ⟨(F19.fr a b f e d g l), []⟩ = g := by kernel_rfl
theorem F19.pq : IR.run F19.t10 C N O K (F19.fr a b f e d g l) h nx =
 zP 2 a e fun v1 => zW 0 v1 fun v2 => zF v2 h fun v3 => sLen v3 fun v4 => zo .gtr .int v4 (I 16) fun v5 => K (F19.fr a b f e d g v5) h nx := by kernel_rfl
theorem F19.fA : IR.run F19.t11 C N O K (F19.fr a b f e d g l) h nx =
 K (F19.fr a b (.bool true) e d g l) h nx := by kernel_rfl
theorem F19.v6 : Arg.ev (.t (.of 6)) ⟨(F19.fr a b f e d g l), []⟩ = l := by kernel_rfl
theorem F19.t16_s : IR.run F19.t16 C N O K (F19.fr a b f e d g l) h nx =
 zo .add .int e (I 1) fun v1 => K (F19.fr a b f v1 d g l) h nx := by kernel_rfl
theorem F19.t19_L (Inv : Nat -> AV -> T Blk -> Pa -> Prop) {m : Nat} (hm : m < N) (hi : Inv m e h nx)
  (step : ∀ (m : Nat) (z2 z3 z5 z6 : AV) (h : T Blk) (nx : Pa) (R : Ks Prop), Inv m z3 h nx -> (∀ (m' : Nat) (w2 w3 w5 w6 : AV) (h' : T Blk) (nx' : Pa), m' < m -> Inv m' w3 h' nx' -> R (F19.fr a b w2 w3 d w5 w6) h' nx' = .ok True) -> IR.run F19.t18 C N O R (F19.fr a b z2 z3 d z5 z6) h nx = .ok True) :
  IR.run F19.t19 C N O K (F19.fr a b f e d g l) h nx = .ok True := by
 rw [F19.t19];refine yK (fun m tm h nx => ∃ z2 z3 z5 z6, tm = (F19.fr a b z2 z3 d z5 z6) /\ Inv m z3 h nx) ?_ hm ⟨_, _, _, _, rfl, hi⟩;rintro m tm h nx R ⟨z2, z3, z5, z6, rfl, hi⟩ hR;exact step m z2 z3 z5 z6 h nx R hi fun m' w2 w3 w5 w6 h' nx' hlt hi' => hR m' _ h' nx' hlt ⟨_, _, _, _, rfl, hi'⟩
theorem F19.t22_s : IR.run F19.t22 C N O K (F19.fr a b f e d g l) h nx =
 K (F19.fr a b (.bool false) e d g l) h nx := by kernel_rfl
theorem F19.tab : T.get none (.of 19) tbl = some F19 := by kernel_rfl
theorem F19.bind (k : T AV -> OP) : zX F19.params [a0, a1] F19.init k = k (F19.fr a0 a1 .undef .undef .undef .undef .undef) := by kernel_rfl
theorem F19.yu : F19.body = F19.t26 := by kernel_rfl
theorem F19.go : zV tbl N C (.of 19) [a0, a1] h nx K0 = IR.run F19.t26 C N (fnO F19.res K0) (ji F19.res K0) (F19.fr a0 a1 .undef .undef .undef .undef .undef) h nx := by
 rw [zJ F19.tab, F19.bind, F19.yu]; kernel_rfl
theorem F19.ret : ji F19.res K0 (F19.fr a b f e d g l) h nx = K0 f h nx := by kernel_rfl
end
end Go.Ev
namespace Go.Ev
open Go Go.Proofs
set_option maxRecDepth 100000
section
variable {N : Nat} {C : Calls Prop} {K0 : Kw Prop} {K : Ks Prop} {h : T Blk} {nx : Pa} {a b f e d g l a0 a1 a2 a3 : AV} {O : uz Prop} {tm : T AV} {Kt : KTm} {r : List RO} {s0 s1 s2 s3 s4 s5 s6 s7 s8 s9 s10 s11 s12 s13 s14 s15 s16 s17 s18 s19 s20 s21 s22 s23 s24 s25 s26 s27 s28 s29 s30 s31 s32 s33 s34 s35 s36 s37 s38 s39 : AV}
def F28.t0 : IR := .reg [.q (.of 4) (.mv (.c (.bool false)))]
def F28.t1 : IR := .reg [.s (.mv (.t (.of 2))), .q (.of 5) (.bin .neq .int (.s 0) (.c (I 0)))]
def F28.t2 : IR := .reg [.s (.mv (.t (.of 0))), .s (.len (.s 0)), .s (.bin .eql .int (.s 0) (.c (I 0))), .s (.mv (.s 0)), .p .push (some ((.s 0), true)) (.mv (.t (.of 1))), .p .push (some ((.s 1), true)) (.mv (.t (.of 2))), .p .push (some ((.s 2), true)) (.bin .eql .int (.s 1) (.s 0)), .s (.pick (.s 3) (.s 0) (.c (.bool false))), .q (.of 4) (.mv (.s 0))]
def F28.t3 : IR := .seq F28.t2 .ret
def F28.t4 : IR := .cond (.t (.of 5)) F28.t3 .skip
def F28.t5 : IR := .seq F28.t1 F28.t4
def F28.t6 : IR := .reg [.s (.mv (.t (.of 1))), .s (.bin .eql .int (.s 0) (.c (I 0))), .s (.mv (.s 0)), .p .push (some ((.s 0), true)) (.mv (.t (.of 0))), .p .push (some ((.s 1), true)) (.mv (.t (.of 3))), .w .push (some ((.s 2), true)) (.call (.c (.fn 69 (.of 69) [])) [(.s 1), (.s 0)]), .s (.pick (.s 3) (.s 0) (.c (.bool false))), .q (.of 4) (.mv (.s 0))]
def F28.t7 : IR := .seq F28.t6 .ret
def F28.t8 : IR := .seq F28.t5 F28.t7
def F28.t9 : IR := .seq F28.t0 F28.t8
theorem F28.qi : IR.run F28.t0 C N O K (F28.fr a b f e d g) h nx =
 K (F28.fr a b f e (.bool false) g) h nx := by kernel_rfl
theorem F28.qj : IR.run F28.t1 C N O K (F28.fr a b f e d g) h nx =
 zo .neq .int f (I 0) fun v1 => K (F28.fr a b f e d v1) h nx := by kernel_rfl
theorem F28.xg : IR.run F28.t2 C N O K (F28.fr a b f e d g) h nx =
 sLen a fun v1 => zo .eql .int v1 (I 0) fun v2 => sG v2 true (fun k => k b) fun v3 => sG v2 true (fun k => k f) fun v4 => sG v2 true (fun k => zo .eql .int v3 v4 k) fun v5 => jM v2 v5 (.bool false) fun v6 => K (F28.fr a b f e v6 g) h nx := by kernel_rfl
theorem F28.v5 : Arg.ev (.t (.of 5)) ⟨(F28.fr a b f e d g), []⟩ = g := by kernel_rfl
theorem F28.bW : IR.run F28.t6 C N O K (F28.fr a b f e d g) h nx =
 zo .eql .int b (I 0) fun v1 => sG v1 true (fun k => k a) fun v2 => sG v1 true (fun k => k e) fun v3 => sGW v1 true (fun k => C.fn 69 (.of 69) [v2, v3] h nx k) h nx fun v4 h5 n6 => jM v1 v4 (.bool false) fun v7 => K (F28.fr a b f e v7 g) h5 n6 := by kernel_rfl
theorem F28.tab : T.get none (.of 28) tbl = some F28 := by kernel_rfl
theorem F28.bind (k : T AV -> OP) : zX F28.params [a0, a1, a2, a3] F28.init k = k (F28.fr a0 a1 a2 a3 .undef .undef) := by kernel_rfl
theorem F28.yu : F28.body = F28.t9 := by kernel_rfl
theorem F28.go : zV tbl N C (.of 28) [a0, a1, a2, a3] h nx K0 = IR.run F28.t9 C N (fnO F28.res K0) (ji F28.res K0) (F28.fr a0 a1 a2 a3 .undef .undef) h nx := by
 rw [zJ F28.tab, F28.bind, F28.yu]; kernel_rfl
theorem F28.ret : ji F28.res K0 (F28.fr a b f e d g) h nx = K0 d h nx := by kernel_rfl
def F23.t0 : IR := .reg [.q (.of 4) (.mv (.c (.bool false)))]
def F23.t1 : IR := .reg [.s (.mv (.t (.of 2))), .q (.of 5) (.bin .neq .int (.s 0) (.c (I 0)))]
def F23.t2 : IR := .reg [.s (.mv (.t (.of 0))), .s (.len (.s 0)), .s (.bin .eql .int (.s 0) (.c (I 0))), .s (.mv (.s 0)), .p .push (some ((.s 0), true)) (.mv (.t (.of 1))), .p .push (some ((.s 1), true)) (.mv (.t (.of 2))), .p .push (some ((.s 2), true)) (.bin .eql .int (.s 1) (.s 0)), .s (.pick (.s 3) (.s 0) (.c (.bool false))), .q (.of 4) (.mv (.s 0))]
def F23.t3 : IR := .seq F23.t2 .ret
def F23.t4 : IR := .cond (.t (.of 5)) F23.t3 .skip
def F23.t5 : IR := .seq F23.t1 F23.t4
def F23.t6 : IR := .reg [.s (.mv (.t (.of 1))), .s (.bin .eql .int (.s 0) (.c (I 0))), .s (.mv (.s 0)), .p .push (some ((.s 0), true)) (.mv (.t (.of 0))), .p .push (some ((.s 1), true)) (.mv (.t (.of 3))), .w .push (some ((.s 2), true)) (.call (.c (.fn 81 (.of 81) [])) [(.s 1), (.s 0)]), .s (.pick (.s 3) (.s 0) (.c (.bool false))), .q (.of 4) (.mv (.s 0))]
def F23.t7 : IR := .seq F23.t6 .ret
def F23.t8 : IR := .seq F23.t5 F23.t7
def F23.t9 : IR := .seq F23.t0 F23.t8
theorem F23.qi : IR.run F23.t0 C N O K (F23.fr a b f e d g) h nx =
 K (F23.fr a b f e (.bool false) g) h nx := by kernel_rfl
theorem F23.qj : IR.run F23.t1 C N O K (F23.fr a b f e d g) h nx =
 zo .neq .int f (I 0) fun v1 => K (F23.fr a b f e d v1) h nx := by kernel_rfl
theorem F23.xg : IR.run F23.t2 C N O K (F23.fr a b f e d g) h nx =
 sLen a fun v1 => zo .eql .int v1 (I 0) fun v2 => sG v2 true (fun k => k b) fun v3 => sG v2 true (fun k => k f) fun v4 => sG v2 true (fun k => zo .eql .int v3 v4 k) fun v5 => jM v2 v5 (.bool false) fun v6 => K (F23.fr a b f e v6 g) h nx := by kernel_rfl
theorem F23.v5 : Arg.ev (.t (.of 5)) ⟨(F23.fr a b f e d g), []⟩ = g := by kernel_rfl
theorem F23.bW : IR.run F23.t6 C N O K (F23.fr a b f e d g) h nx =
 zo .eql .int b (I 0) fun v1 => sG v1 true (fun k => k a) fun v2 => sG v1 true (fun k => k e) fun v3 => sGW v1 true (fun k => C.fn 81 (.of 81) [v2, v3] h nx k) h nx fun v4 h5 n6 => jM v1 v4 (.bool false) fun v7 => K (F23.fr a b f e v7 g) h5 n6 := by kernel_rfl
theorem F23.tab : T.get none (.of 23) tbl = some F23 := by kernel_rfl
theorem F23.bind (k : T AV -> OP) : zX F23.params [a0, a1, a2, a3] F23.init k = k (F23.fr a0 a1 a2 a3 .undef .undef) := by kernel_rfl
theorem F23.yu : F23.body = F23.t9 := by kernel_rfl
theorem F23.go : zV tbl N C (.of 23) [a0, a1, a2, a3] h nx K0 = IR.run F23.t9 C N (fnO F23.res K0) (ji F23.res K0) (F23.fr a0 a1 a2 a3 .undef .undef) h nx := by
 rw [zJ F23.tab, F23.bind, F23.yu]; kernel_rfl
theorem F23.ret : ji F23.res K0 (F23.fr a b f e d g) h nx = K0 d h nx := by kernel_rfl
def F60.t0 : IR := .reg [.q (.of 4) (.mv (.c (.bool false)))]
def F60.t1 : IR := .reg [.s (.mv (.t (.of 2))), .q (.of 5) (.bin .neq .int (.s 0) (.c (I 0)))]
def F60.t2 : IR := .reg [.s (.mv (.t (.of 0))), .s (.len (.s 0)), .s (.bin .eql .int (.s 0) (.c (I 0))), .s (.mv (.s 0)), .p .push (some ((.s 0), true)) (.mv (.t (.of 1))), .p .push (some ((.s 1), true)) (.mv (.t (.of 2))), .p .push (some ((.s 2), true)) (.bin .eql .int (.s 1) (.s 0)), .s (.pick (.s 3) (.s 0) (.c (.bool false))), .q (.of 4) (.mv (.s 0))]
def F60.t3 : IR := .seq F60.t2 .ret
def F60.t4 : IR := .cond (.t (.of 5)) F60.t3 .skip
def F60.t5 : IR := .seq F60.t1 F60.t4
def F60.t6 : IR := .reg [.s (.mv (.t (.of 1))), .s (.bin .eql .int (.s 0) (.c (I 0))), .s (.mv (.s 0)), .p .push (some ((.s 0), true)) (.mv (.t (.of 0))), .p .push (some ((.s 1), true)) (.mv (.t (.of 3))), .w .push (some ((.s 2), true)) (.call (.c (.fn 82 (.of 82) [])) [(.s 1), (.s 0)]), .s (.pick (.s 3) (.s 0) (.c (.bool false))), .q (.of 4) (.mv (.s 0))]
def F60.t7 : IR := .seq F60.t6 .ret
def F60.t8 : IR := .seq F60.t5 F60.t7
def F60.t9 : IR := .seq F60.t0 F60.t8
theorem F60.qi : IR.run F60.t0 C N O K (F60.fr a b f e d g) h nx =
 K (F60.fr a b f e (.bool false) g) h nx := by kernel_rfl
theorem F60.qj : IR.run F60.t1 C N O K (F60.fr a b f e d g) h nx =
 zo .neq .int f (I 0) fun v1 => K (F60.fr a b f e d v1) h nx := by kernel_rfl
theorem F60.xg : IR.run F60.t2 C N O K (F60.fr a b f e d g) h nx =
 sLen a fun v1 => zo .eql .int v1 (I 0) fun v2 => sG v2 true (fun k => k b) fun v3 => sG v2 true (fun k => k f) fun v4 => sG v2 true (fun k => zo .eql .int v3 v4 k) fun v5 => jM v2 v5 (.bool false) fun v6 => K (F60.fr a b f e v6 g) h nx := by kernel_rfl
theorem F60.v5 : Arg.ev (.t (.of 5)) ⟨(F60.fr a b f e d g), []⟩ = g := by kernel_rfl
theorem F60.bW : IR.run F60.t6 C N O K (F60.fr a b f e d g) h nx =
 zo .eql .int b (I 0) fun v1 => sG v1 true (fun k => k a) fun v2 => sG v1 true (fun k => k e) fun v3 => sGW v1 true (fun k => C.fn 82 (.of 82) [v2, v3] h nx k) h nx fun v4 h5 n6 => jM v1 v4 (.bool false) fun v7 => K (F60.fr a b f e v7 g) h5 n6 := by kernel_rfl
theorem F60.tab : T.get none (.of 60) tbl = some F60 := by kernel_rfl
theorem F60.bind (k : T AV -> OP) : zX F60.params [a0, a1, a2, a3] F60.init k = k (F60.fr a0 a1 a2 a3 .undef .undef) := by kernel_rfl
theorem F60.yu : F60.body = F60.t9 := by kernel_rfl
theorem F60.go : zV tbl N C (.of 60) [a0, a1, a2, a3] h nx K0 = IR.run F60.t9 C N (fnO F60.res K0) (ji F60.res K0) (F60.fr a0 a1 a2 a3 .undef .undef) h nx := by
 rw [zJ F60.tab, F60.bind, F60.yu]; kernel_rfl
theorem F60.ret : ji F60.res K0 (F60.fr a b f e d g) h nx = K0 d h nx := by kernel_rfl
def F69.t0 : IR := .reg [.q (.of 2) (.mv (.c (.bool false)))]
def F69.t1 : IR := .reg [.s (.mv (.t (.of 0))), .s (.len (.s 0)), .s (.mv (.t (.of 1))), .s (.len (.s 0)), .q (.of 4) (.bin .neq .int (.s 2) (.s 0))]
def F69.t2 : IR := .reg [.q (.of 2) (.mv (.c (.bool false)))]
def F69.t3 : IR := .seq F69.t2 .ret
def F69.t4 : IR := .cond (.t (.of 4)) F69.t3 .skip
def F69.t5 : IR := .seq F69.t1 F69.t4
def F69.t6 : IR := .reg [.q (.of 3) (.mv (.c (I 0)))]
def F69.t7 : IR := .reg [.s (.mv (.t (.of 3))), .s (.mv (.t (.of 0))), .s (.len (.s 0)), .q (.of 5) (.bin .lss .int (.s 2) (.s 0))]
def F69.t8 : IR := .cond (.t (.of 5)) .skip (.exit 0)
def F69.t9 : IR := .seq F69.t7 F69.t8
def F69.t10 : IR := .yt [] [(.s (.mv (.t (.of 0))), 0, []), (.s (.mv (.t (.of 3))), 0, []), (.s (.zn 2 (.s 1) (.s 0)), 0, []), (.s (.zi 2 (.s 0)), 0, []), (.s (.mv (.t (.of 1))), 0, []), (.s (.mv (.t (.of 3))), 0, []), (.s (.zn 2 (.s 1) (.s 0)), 0, []), (.s (.zi 2 (.s 0)), 0, []), (.w .push none (.call (.c (.fn 30 (.of 30) [])) [(.s 4), (.s 0)]), 0, []), (.q (.of 6) (.not (.s 0)), 0, [])]
def F69.t11 : IR := .reg [.q (.of 2) (.mv (.c (.bool false)))]
def F69.t12 : IR := .seq F69.t11 .ret
def F69.t13 : IR := .cond (.t (.of 6)) F69.t12 .skip
def F69.t14 : IR := .seq F69.t10 F69.t13
def F69.t15 : IR := .block 1 F69.t14
def F69.t16 : IR := .reg [.s (.mv (.t (.of 3))), .s (.bin .add .int (.s 0) (.c (I 1))), .q (.of 3) (.mv (.s 0))]
def F69.t17 : IR := .seq F69.t15 F69.t16
def F69.t18 : IR := .seq F69.t9 F69.t17
def F69.t19 : IR := .loop F69.t18
def F69.t20 : IR := .block 0 F69.t19
def F69.t21 : IR := .seq F69.t6 F69.t20
def F69.t22 : IR := .reg [.q (.of 2) (.mv (.c (.bool true)))]
def F69.t23 : IR := .seq F69.t22 .ret
def F69.t24 : IR := .seq F69.t21 F69.t23
def F69.t25 : IR := .seq F69.t5 F69.t24
def F69.t26 : IR := .seq F69.t0 F69.t25
theorem F69.qi : IR.run F69.t0 C N O K (F69.fr a b f e d g l) h nx =
 K (F69.fr a b (.bool false) e d g l) h nx := by kernel_rfl
theorem F69.qj : IR.run F69.t1 C N O K (F69.fr a b f e d g l) h nx =
 sLen a fun v1 => sLen b fun v2 => zo .neq .int v1 v2 fun v3 => K (F69.fr a b f e v3 g l) h nx := by kernel_rfl
theorem F69.v4 : Arg.ev (.t (.of 4)) ⟨(F69.fr a b f e d g l), []⟩ = d := by kernel_rfl
theorem F69.bW : IR.run F69.t6 C N O K (F69.fr a b f e d g l) h nx =
 K (F69.fr a b f (I 0) d g l) h nx := by kernel_rfl
theorem F69.t7_s : IR.run F69.t7 C N O K (F69.fr a b f e d g l) h nx =
 sLen a fun v1 => zo .lss .int e v1 fun v2 => K (F69.fr a b f e d v2 l) h nx := by kernel_rfl
theorem F69.v5 : Arg.ev (.t (.of 5)) ⟨(F69.fr a b f e d g l), []⟩ = g := by kernel_rfl
theorem F69.pq : IR.run F69.t10 C N O K (F69.fr a b f e d g l) h nx =
 zP 2 a e fun v1 => zO 2 v1 h fun v2 => zP 2 b e fun v3 => zO 2 v3 h fun v4 => C.fn 30 (.of 30) [v2, v4] h nx fun v5 h6 n7 => sNot v5 fun v8 => K (F69.fr a b f e d g v8) h6 n7 := by kernel_rfl
theorem F69.v6 : Arg.ev (.t (.of 6)) ⟨(F69.fr a b f e d g l), []⟩ = l := by kernel_rfl
theorem F69.t16_s : IR.run F69.t16 C N O K (F69.fr a b f e d g l) h nx =
 zo .add .int e (I 1) fun v1 => K (F69.fr a b f v1 d g l) h nx := by kernel_rfl
theorem F69.t19_L (Inv : Nat -> AV -> T Blk -> Pa -> Prop) {m : Nat} (hm : m < N) (hi : Inv m e h nx)
  (step : ∀ (m : Nat) (z2 z3 z5 z6 : AV) (h : T Blk) (nx : Pa) (R : Ks Prop), Inv m z3 h nx -> (∀ (m' : Nat) (w2 w3 w5 w6 : AV) (h' : T Blk) (nx' : Pa), m' < m -> Inv m' w3 h' nx' -> R (F69.fr a b w2 w3 d w5 w6) h' nx' = .ok True) -> IR.run F69.t18 C N O R (F69.fr a b z2 z3 d z5 z6) h nx = .ok True) :
  IR.run F69.t19 C N O K (F69.fr a b f e d g l) h nx = .ok True := by
 rw [F69.t19];refine yK (fun m tm h nx => ∃ z2 z3 z5 z6, tm = (F69.fr a b z2 z3 d z5 z6) /\ Inv m z3 h nx) ?_ hm ⟨_, _, _, _, rfl, hi⟩;rintro m tm h nx R ⟨z2, z3, z5, z6, rfl, hi⟩ hR;exact step m z2 z3 z5 z6 h nx R hi fun m' w2 w3 w5 w6 h' nx' hlt hi' => hR m' _ h' nx' hlt ⟨_, _, _, _, rfl, hi'⟩
theorem F69.t22_s : IR.run F69.t22 C N O K (F69.fr a b f e d g l) h nx =
 K (F69.fr a b (.bool true) e d g l) h nx := by kernel_rfl
theorem F69.tab : T.get none (.of 69) tbl = some F69 := by kernel_rfl
theorem F69.bind (k : T AV -> OP) : zX F69.params [a0, a1] F69.init k = k (F69.fr a0 a1 .undef .undef .undef .undef .undef) := by kernel_rfl
theorem F69.yu : F69.body = F69.t26 := by kernel_rfl
theorem F69.go : zV tbl N C (.of 69) [a0, a1] h nx K0 = IR.run F69.t26 C N (fnO F69.res K0) (ji F69.res K0) (F69.fr a0 a1 .undef .undef .undef .undef .undef) h nx := by
 rw [zJ F69.tab, F69.bind, F69.yu]; kernel_rfl
theorem F69.ret : ji F69.res K0 (F69.fr a b f e d g l) h nx = K0 f h nx := by kernel_rfl
def F81.t0 : IR := .reg [.q (.of 2) (.mv (.c (.bool false)))]
def F81.t1 : IR := .reg [.s (.mv (.t (.of 0))), .s (.len (.s 0)), .s (.mv (.t (.of 1))), .s (.len (.s 0)), .q (.of 4) (.bin .neq .int (.s 2) (.s 0))]
def F81.t2 : IR := .reg [.q (.of 2) (.mv (.c (.bool false)))]
def F81.t3 : IR := .seq F81.t2 .ret
def F81.t4 : IR := .cond (.t (.of 4)) F81.t3 .skip
def F81.t5 : IR := .seq F81.t1 F81.t4
def F81.t6 : IR := .reg [.q (.of 3) (.mv (.c (I 0)))]
def F81.t7 : IR := .reg [.s (.mv (.t (.of 3))), .s (.mv (.t (.of 0))), .s (.len (.s 0)), .q (.of 5) (.bin .lss .int (.s 2) (.s 0))]
def F81.t8 : IR := .cond (.t (.of 5)) .skip (.exit 0)
def F81.t9 : IR := .seq F81.t7 F81.t8
def F81.t10 : IR := .yt [] [(.s (.mv (.t (.of 0))), 0, []), (.s (.mv (.t (.of 3))), 0, []), (.s (.zn 1 (.s 1) (.s 0)), 0, []), (.s (.load (.s 0)), 0, []), (.s (.mv (.t (.of 1))), 0, []), (.s (.mv (.t (.of 3))), 0, []), (.s (.zn 1 (.s 1) (.s 0)), 0, []), (.s (.load (.s 0)), 0, []), (.w .push none (.call (.c (.fn 82 (.of 82) [])) [(.s 4), (.s 0)]), 0, []), (.q (.of 6) (.not (.s 0)), 0, [])]
def F81.t11 : IR := .reg [.q (.of 2) (.mv (.c (.bool false)))]
def F81.t12 : IR := .seq F81.t11 .ret
def F81.t13 : IR := .cond (.t (.of 6)) F81.t12 .skip
def F81.t14 : IR := .seq F81.t10 F81.t13
def F81.t15 : IR := .block 1 F81.t14
def F81.t16 : IR := .reg [.s (.mv (.t (.of 3))), .s (.bin .add .int (.s 0) (.c (I 1))), .q (.of 3) (.mv (.s 0))]
def F81.t17 : IR := .seq F81.t15 F81.t16
def F81.t18 : IR := .seq F81.t9 F81.t17
def F81.t19 : IR := .loop F81.t18
def F81.t20 : IR := .block 0 F81.t19
def F81.t21 : IR := .seq F81.t6 F81.t20
def F81.t22 : IR := .reg [.q (.of 2) (.mv (.c (.bool true)))]
def F81.t23 : IR := .seq F81.t22 .ret
def F81.t24 : IR := .seq F81.t21 F81.t23
def F81.t25 : IR := .seq F81.t5 F81.t24
def F81.t26 : IR := .seq F81.t0 F81.t25
theorem F81.qi : IR.run F81.t0 C N O K (F81.fr a b f e d g l) h nx =
 K (F81.fr a b (.bool false) e d g l) h nx := by kernel_rfl
theorem F81.qj : IR.run F81.t1 C N O K (F81.fr a b f e d g l) h nx =
 sLen a fun v1 => sLen b fun v2 => zo .neq .int v1 v2 fun v3 => K (F81.fr a b f e v3 g l) h nx := by kernel_rfl
theorem F81.v4 : Arg.ev (.t (.of 4)) ⟨(F81.fr a b f e d g l), []⟩ = d := by kernel_rfl
theorem F81.bW : IR.run F81.t6 C N O K (F81.fr a b f e d g l) h nx =
 K (F81.fr a b f (I 0) d g l) h nx := by kernel_rfl
theorem F81.t7_s : IR.run F81.t7 C N O K (F81.fr a b f e d g l) h nx =
 sLen a fun v1 => zo .lss .int e v1 fun v2 => K (F81.fr a b f e d v2 l) h nx := by kernel_rfl
theorem F81.v5 : Arg.ev (.t (.of 5)) ⟨(F81.fr a b f e d g l), []⟩ = g := by kernel_rfl
theorem F81.pq : IR.run F81.t10 C N O K (F81.fr a b f e d g l) h nx =
 zP 1 a e fun v1 => zF v1 h fun v2 => zP 1 b e fun v3 => zF v3 h fun v4 => C.fn 82 (.of 82) [v2, v4] h nx fun v5 h6 n7 => sNot v5 fun v8 => K (F81.fr a b f e d g v8) h6 n7 := by kernel_rfl
theorem F81.v6 : Arg.ev (.t (.of 6)) ⟨(F81.fr a b f e d g l), []⟩ = l := by kernel_rfl
theorem F81.t16_s : IR.run F81.t16 C N O K (F81.fr a b f e d g l) h nx =
 zo .add .int e (I 1) fun v1 => K (F81.fr a b f v1 d g l) h nx := by kernel_rfl
theorem F81.t19_L (Inv : Nat -> AV -> T Blk -> Pa -> Prop) {m : Nat} (hm : m < N) (hi : Inv m e h nx)
  (step : ∀ (m : Nat) (z2 z3 z5 z6 : AV) (h : T Blk) (nx : Pa) (R : Ks Prop), Inv m z3 h nx -> (∀ (m' : Nat) (w2 w3 w5 w6 : AV) (h' : T Blk) (nx' : Pa), m' < m -> Inv m' w3 h' nx' -> R (F81.fr a b w2 w3 d w5 w6) h' nx' = .ok True) -> IR.run F81.t18 C N O R (F81.fr a b z2 z3 d z5 z6) h nx = .ok True) :
  IR.run F81.t19 C N O K (F81.fr a b f e d g l) h nx = .ok True := by
 rw [F81.t19];refine yK (fun m tm h nx => ∃ z2 z3 z5 z6, tm = (F81.fr a b z2 z3 d z5 z6) /\ Inv m z3 h nx) ?_ hm ⟨_, _, _, _, rfl, hi⟩;rintro m tm h nx R ⟨z2, z3, z5, z6, rfl, hi⟩ hR;exact step m z2 z3 z5 z6 h nx R hi fun m' w2 w3 w5 w6 h' nx' hlt hi' => hR m' _ h' nx' hlt ⟨_, _, _, _, rfl, hi'⟩
theorem F81.t22_s : IR.run F81.t22 C N O K (F81.fr a b f e d g l) h nx =
 K (F81.fr a b (.bool true) e d g l) h nx := by kernel_rfl
theorem F81.tab : T.get none (.of 81) tbl = some F81 := by kernel_rfl
theorem F81.bind (k : T AV -> OP) : zX F81.params [a0, a1] F81.init k = k (F81.fr a0 a1 .undef .undef .undef .undef .undef) := by kernel_rfl
theorem F81.yu : F81.body = F81.t26 := by kernel_rfl
theorem F81.go : zV tbl N C (.of 81) [a0, a1] h nx K0 = IR.run F81.t26 C N (fnO F81.res K0) (ji F81.res K0) (F81.fr a0 a1 .undef .undef .undef .undef .undef) h nx := by
 rw [zJ F81.tab, F81.bind, F81.yu]; kernel_rfl
theorem F81.ret : ji F81.res K0 (F81.fr a b f e d g l) h nx = K0 f h nx := by kernel_rfl
end
end Go.Ev
namespace Go.Ev
open Go Go.Proofs
set_option maxRecDepth 100000
section
variable {N : Nat} {C : Calls Prop} {K0 : Kw Prop} {K : Ks Prop} {h : T Blk} {nx : Pa} {a b f e d g l q p w c i o s u v a0 a1 a2 a3 : AV} {O : uz Prop} {tm : T AV} {Kt : KTm} {r : List RO} {s0 s1 s2 s3 s4 s5 s6 s7 s8 s9 s10 s11 s12 s13 s14 s15 s16 s17 s18 s19 s20 s21 s22 s23 s24 s25 s26 s27 s28 s29 s30 s31 s32 s33 s34 s35 s36 s37 s38 s39 : AV}
end
end Go.Ev
namespace Go.Ev
open Go Go.Proofs
set_option maxRecDepth 100000
section
variable {N : Nat} {C : Calls Prop} {K0 : Kw Prop} {K : Ks Prop} {h : T Blk} {nx : Pa} {a b f e d g l q p w c i o s u v y z a0 a1 a2 : AV} {O : uz Prop} {tm : T AV} {Kt : KTm} {r : List RO} {s0 s1 s2 s3 s4 s5 s6 s7 s8 s9 s10 s11 s12 s13 s14 s15 s16 s17 s18 s19 s20 s21 s22 s23 s24 s25 s26 s27 s28 s29 s30 s31 s32 s33 s34 s35 s36 s37 s38 s39 : AV}
def zk.t0 : IR := .reg [.q (.of 3) (.mv (.c .jv)), .w (.loc (.of 4)) none (.alloc [.zf, .zf]), .q (.of 5) (.mv (.c (I 0)))]
def zk.t1 : IR := .reg [.w (.loc (.of 6)) none (.alloc [.zf, .zf])]
def zk.t2 : IR := .reg [.s (.mv (.t (.of 0))), .s (.mv (.t (.of 2))), .w .push none (.call (.c (.fn 92 (.of 92) [])) [(.s 1), (.s 0)]), .s (.mv (.s 0)), .s (.ext 0 (.s 0)), .s (.ext 1 (.s 1)), .s (.ext 2 (.s 2)), .q (.of 7) (.mv (.s 2)), .q (.of 8) (.mv (.s 1)), .q (.of 9) (.mv (.s 0))]
def zk.t3 : IR := .reg [.s (.mv (.t (.of 9))), .q (.of 13) (.bin .neq .int (.s 0) (.c (I 0)))]
def zk.t4 : IR := .yt [] [(.s (.zi 2 (.t (.of 6))), 0, []), (.s (.mv (.t (.of 9))), 1, []), (.q (.of 3) (.mv (.c .jv)), 0, []), (.w .none none (.store 2 (.t (.of 4)) (.s 1)), 0, []), (.q (.of 5) (.mv (.s 0)), 0, [])]
def zk.t5 : IR := .seq zk.t4 .ret
def zk.t6 : IR := .cond (.t (.of 13)) zk.t5 .skip
def zk.t7 : IR := .seq zk.t3 zk.t6
def zk.t8 : IR := .reg [.s (.mv (.t (.of 1))), .s (.mv (.t (.of 2))), .w .push none (.call (.c (.fn 92 (.of 92) [])) [(.s 1), (.s 0)]), .s (.mv (.s 0)), .s (.ext 0 (.s 0)), .s (.ext 1 (.s 1)), .s (.ext 2 (.s 2)), .q (.of 10) (.mv (.s 2)), .q (.of 11) (.mv (.s 1)), .q (.of 9) (.mv (.s 0))]
def zk.t9 : IR := .reg [.s (.mv (.t (.of 9))), .q (.of 14) (.bin .neq .int (.s 0) (.c (I 0)))]
def zk.t10 : IR := .yt [] [(.s (.zi 2 (.t (.of 6))), 0, []), (.s (.mv (.t (.of 9))), 1, []), (.q (.of 3) (.mv (.c .jv)), 0, []), (.w .none none (.store 2 (.t (.of 4)) (.s 1)), 0, []), (.q (.of 5) (.mv (.s 0)), 0, [])]
def zk.t11 : IR := .seq zk.t10 .ret
def zk.t12 : IR := .cond (.t (.of 14)) zk.t11 .skip
def zk.t13 : IR := .seq zk.t9 zk.t12
def zk.t14 : IR := .reg [.s (.mv (.t (.of 10))), .w (.loc (.of 15)) none (.range (.s 0))]
def zk.t15 : IR := .reg [.w .push none (.next (.t (.of 15))), .q (.of 16) (.ext 0 (.s 0))]
def zk.t16 : IR := .cond (.t (.of 16)) .skip (.exit 0)
def zk.t17 : IR := .reg [.s (.entry (.t (.of 15))), .s (.ext 1 (.s 0)), .w (.loc (.of 12)) none (.alloc [.zf, (.bool false)]), .w .none none (.store 2 (.t (.of 12)) (.s 0))]
def zk.t18 : IR := .reg [.s (.mv (.t (.of 7))), .s (.zi 2 (.t (.of 12))), .w .push none (.call (.c (.fn 121 (.of 121) [])) [(.s 1), (.s 0)]), .q (.of 17) (.not (.s 0))]
def zk.t19 : IR := .yt [] [(.s (.zi 2 (.t (.of 6))), 0, []), (.q (.of 3) (.mv (.c .jv)), 0, []), (.w .none none (.store 2 (.t (.of 4)) (.s 0)), 0, []), (.q (.of 5) (.mv (.c (I 28))), 0, [])]
def zk.t20 : IR := .seq zk.t19 .ret
def zk.t21 : IR := .cond (.t (.of 17)) zk.t20 .skip
def zk.t22 : IR := .seq zk.t18 zk.t21
def zk.t23 : IR := .seq zk.t17 zk.t22
def zk.t24 : IR := .block 1 zk.t23
def zk.t25 : IR := .seq zk.t16 zk.t24
def zk.t26 : IR := .seq zk.t15 zk.t25
def zk.t27 : IR := .loop zk.t26
def zk.t28 : IR := .block 0 zk.t27
def zk.t29 : IR := .seq zk.t14 zk.t28
def zk.t30 : IR := .reg [.s (.mv (.t (.of 8))), .s (.mv (.t (.of 11))), .s (.aaddr 1 2 (.t (.of 6)) (.c (I 0))), .w .none none (.store 1 (.s 0) (.s 2)), .s (.aaddr 1 2 (.t (.of 6)) (.c (I 1))), .w .none none (.store 1 (.s 0) (.s 2))]
def zk.t31 : IR := .yt [] [(.s (.mv (.t (.of 10))), 0, []), (.s (.zi 2 (.t (.of 6))), 0, []), (.q (.of 3) (.mv (.s 1)), 0, []), (.w .none none (.store 2 (.t (.of 4)) (.s 0)), 0, []), (.q (.of 5) (.mv (.c (I 0))), 0, [])]
def zk.t32 : IR := .seq zk.t31 .ret
def zk.t33 : IR := .seq zk.t30 zk.t32
def zk.t34 : IR := .seq zk.t29 zk.t33
def zk.t35 : IR := .seq zk.t13 zk.t34
def zk.t36 : IR := .seq zk.t8 zk.t35
def zk.t37 : IR := .seq zk.t7 zk.t36
def zk.t38 : IR := .seq zk.t2 zk.t37
def zk.t39 : IR := .seq zk.t1 zk.t38
def zk.t40 : IR := .seq zk.t0 zk.t39
theorem zk.qi : IR.run zk.t0 C N O K (zk.fr a b f e d g l q p w c i o s u v y z) h nx =
 yM [.zf, .zf] h nx fun v1 h2 n3 => K (zk.fr a b f .jv v1 (I 0) l q p w c i o s u v y z) h2 n3 := by kernel_rfl
theorem zk.qj : IR.run zk.t1 C N O K (zk.fr a b f e d g l q p w c i o s u v y z) h nx =
 yM [.zf, .zf] h nx fun v1 h2 n3 => K (zk.fr a b f e d g v1 q p w c i o s u v y z) h2 n3 := by kernel_rfl
theorem zk.xg : IR.run zk.t2 C N O K (zk.fr a b f e d g l q p w c i o s u v y z) h nx =
 C.fn 92 (.of 92) [a, f] h nx fun v1 h2 n3 => xw 0 v1 fun v4 => xw 1 v1 fun v5 => xw 2 v1 fun v6 => K (zk.fr a b f e d g l v4 v5 v6 c i o s u v y z) h2 n3 := by kernel_rfl
theorem zk.t3_s : IR.run zk.t3 C N O K (zk.fr a b f e d g l q p w c i o s u v y z) h nx =
 zo .neq .int w (I 0) fun v1 => K (zk.fr a b f e d g l q p w c i o v1 u v y z) h nx := by kernel_rfl
theorem zk.t4_s : IR.run zk.t4 C N O K (zk.fr a b f e d g l q p w c i o s u v y z) h nx =
 zO 2 l h fun v1 => zQ 2 d v1 h nx fun v2 h3 n4 => zN w w (K (zk.fr a b f .jv d w l q p w c i o s u v y z) h3 n4) := by kernel_rfl
theorem zk.v13 : Arg.ev (.t (.of 13)) ⟨(zk.fr a b f e d g l q p w c i o s u v y z), []⟩ = s := by kernel_rfl
theorem zk.t8_s : IR.run zk.t8 C N O K (zk.fr a b f e d g l q p w c i o s u v y z) h nx =
 C.fn 92 (.of 92) [b, f] h nx fun v1 h2 n3 => xw 0 v1 fun v4 => xw 1 v1 fun v5 => xw 2 v1 fun v6 => K (zk.fr a b f e d g l q p v6 v4 v5 o s u v y z) h2 n3 := by kernel_rfl
theorem zk.t9_s : IR.run zk.t9 C N O K (zk.fr a b f e d g l q p w c i o s u v y z) h nx =
 zo .neq .int w (I 0) fun v1 => K (zk.fr a b f e d g l q p w c i o s v1 v y z) h nx := by kernel_rfl
theorem zk.pq : IR.run zk.t10 C N O K (zk.fr a b f e d g l q p w c i o s u v y z) h nx =
 zO 2 l h fun v1 => zQ 2 d v1 h nx fun v2 h3 n4 => zN w w (K (zk.fr a b f .jv d w l q p w c i o s u v y z) h3 n4) := by kernel_rfl
theorem zk.v14 : Arg.ev (.t (.of 14)) ⟨(zk.fr a b f e d g l q p w c i o s u v y z), []⟩ = u := by kernel_rfl
theorem zk.t14_s : IR.run zk.t14 C N O K (zk.fr a b f e d g l q p w c i o s u v y z) h nx =
 sRange c h nx fun v1 h2 n3 => K (zk.fr a b f e d g l q p w c i o s u v1 y z) h2 n3 := by kernel_rfl
theorem zk.t15_s : IR.run zk.t15 C N O K (zk.fr a b f e d g l q p w c i o s u v y z) h nx =
 sNext C v h nx fun v1 h2 n3 => xw 0 v1 fun v4 => K (zk.fr a b f e d g l q p w c i o s u v v4 z) h2 n3 := by kernel_rfl
theorem zk.v16 : Arg.ev (.t (.of 16)) ⟨(zk.fr a b f e d g l q p w c i o s u v y z), []⟩ = y := by kernel_rfl
theorem zk.t17_s : IR.run zk.t17 C N O K (zk.fr a b f e d g l q p w c i o s u v y z) h nx =
 sEntry v h fun v1 => xw 1 v1 fun v2 => yM [.zf, (.bool false)] h nx fun v3 h4 n5 => zQ 2 v3 v2 h4 n5 fun v6 h7 n8 => K (zk.fr a b f e d g l q p w c i v3 s u v y z) h7 n8 := by kernel_rfl
theorem zk.t18_s : IR.run zk.t18 C N O K (zk.fr a b f e d g l q p w c i o s u v y z) h nx =
 zO 2 o h fun v1 => C.fn 121 (.of 121) [q, v1] h nx fun v2 h3 n4 => sNot v2 fun v5 => K (zk.fr a b f e d g l q p w c i o s u v y v5) h3 n4 := by kernel_rfl
theorem zk.t19_s : IR.run zk.t19 C N O K (zk.fr a b f e d g l q p w c i o s u v y z) h nx =
 zO 2 l h fun v1 => zQ 2 d v1 h nx fun v2 h3 n4 => K (zk.fr a b f .jv d (I 28) l q p w c i o s u v y z) h3 n4 := by kernel_rfl
theorem zk.v17 : Arg.ev (.t (.of 17)) ⟨(zk.fr a b f e d g l q p w c i o s u v y z), []⟩ = z := by kernel_rfl
theorem zk.t27_L (Inv : Nat -> T Blk -> Pa -> Prop) {m : Nat} (hm : m < N) (hi : Inv m h nx)
  (step : ∀ (m : Nat) (z3 z5 zB zG zH : AV) (h : T Blk) (nx : Pa) (R : Ks Prop), Inv m h nx -> (∀ (m' : Nat) (w3 w5 wC wG wH : AV) (h' : T Blk) (nx' : Pa), m' < m -> Inv m' h' nx' -> R (zk.fr a b f w3 d w5 l q p w c i wC s u v wG wH) h' nx' = .ok True) -> IR.run zk.t26 C N O R (zk.fr a b f z3 d z5 l q p w c i zB s u v zG zH) h nx = .ok True) :
  IR.run zk.t27 C N O K (zk.fr a b f e d g l q p w c i o s u v y z) h nx = .ok True := by
 rw [zk.t27];refine yK (fun m tm h nx => ∃ z3 z5 zB zG zH, tm = (zk.fr a b f z3 d z5 l q p w c i zB s u v zG zH) /\ Inv m h nx) ?_ hm ⟨_, _, _, _, _, rfl, hi⟩;rintro m tm h nx R ⟨z3, z5, zB, zG, zH, rfl, hi⟩ hR;exact step m z3 z5 zB zG zH h nx R hi fun m' w3 w5 wC wG wH h' nx' hlt hi' => hR m' _ h' nx' hlt ⟨_, _, _, _, _, rfl, hi'⟩
theorem zk.t30_s : IR.run zk.t30 C N O K (zk.fr a b f e d g l q p w c i o s u v y z) h nx =
 dH 1 2 l (I 0) fun v1 => zQ 1 v1 p h nx fun v2 h3 n4 => dH 1 2 l (I 1) fun v5 => zQ 1 v5 i h3 n4 fun v6 h7 n8 => K (zk.fr a b f e d g l q p w c i o s u v y z) h7 n8 := by kernel_rfl
theorem zk.t31_s : IR.run zk.t31 C N O K (zk.fr a b f e d g l q p w c i o s u v y z) h nx =
 zO 2 l h fun v1 => zQ 2 d v1 h nx fun v2 h3 n4 => K (zk.fr a b f c d (I 0) l q p w c i o s u v y z) h3 n4 := by kernel_rfl
theorem zk.tab : T.get none (.of 120) tbl = some zk := by kernel_rfl
theorem zk.bind (k : T AV -> OP) : zX zk.params [a0, a1, a2] zk.init k = k (zk.fr a0 a1 a2 .undef .undef .undef .undef .undef .undef .undef .undef .undef .undef .undef .undef .undef .undef .undef) := by kernel_rfl
theorem zk.yu : zk.body = zk.t40 := by kernel_rfl
theorem zk.go : zV tbl N C (.of 120) [a0, a1, a2] h nx K0 = IR.run zk.t40 C N (fnO zk.res K0) (ji zk.res K0) (zk.fr a0 a1 a2 .undef .undef .undef .undef .undef .undef .undef .undef .undef .undef .undef .undef .undef .undef .undef) h nx := by
 rw [zJ zk.tab, zk.bind, zk.yu]; kernel_rfl
theorem zk.ret : ji zk.res K0 (zk.fr a b f e d g l q p w c i o s u v y z) h nx = zO 2 d h fun v1 => K0 (.tup [e, v1, g]) h nx := by kernel_rfl
def F27.t0 : IR := .reg [.q (.of 2) (.mv (.c .zf)), .q (.of 3) (.mv (.c (I 0)))]
def F27.t1 : IR := .reg [.s (.mv (.t (.of 1))), .w .push none (.call (.c (.fn 95 (.of 95) [])) [(.s 0)]), .s (.mv (.t (.of 0))), .s (.len (.s 0)), .s (.bin .gtr .int (.s 0) (.c (I 256))), .w .push none (.call (.c (.fn 96 (.of 96) [])) [(.s 0), (.c (I 5))]), .w .push none (.zy 1 2 [(I 0)] [(0, 1, (.s 4)), (1, 1, (.s 0))]), .w .push none (.call (.c (.fn 94 (.of 94) [])) [(.s 0)]), .q (.of 4) (.mv (.s 0))]
def F27.t2 : IR := .reg [.s (.mv (.t (.of 4))), .q (.of 8) (.bin .neq .int (.s 0) (.c (I 0)))]
def F27.t3 : IR := .reg [.s (.mv (.t (.of 4))), .q (.of 2) (.mv (.c .zf)), .q (.of 3) (.mv (.s 0))]
def F27.t4 : IR := .seq F27.t3 .ret
def F27.t5 : IR := .cond (.t (.of 8)) F27.t4 .skip
def F27.t6 : IR := .seq F27.t2 F27.t5
def F27.t7 : IR := .seq F27.t1 F27.t6
def F27.t8 : IR := .reg [.s (.mv (.t (.of 0))), .s (.mv (.t (.of 1))), .w .push none (.call (.c (.fn 97 (.of 97) [])) [(.s 1), (.s 0)]), .q (.of 5) (.mv (.s 0))]
def F27.t9 : IR := .reg [.s (.mv (.t (.of 5))), .q (.of 9) (.bin .neq .int (.s 0) (.c (I 0)))]
def F27.t10 : IR := .reg [.s (.mv (.t (.of 5))), .q (.of 2) (.mv (.c .zf)), .q (.of 3) (.mv (.s 0))]
def F27.t11 : IR := .seq F27.t10 .ret
def F27.t12 : IR := .cond (.t (.of 9)) F27.t11 .skip
def F27.t13 : IR := .seq F27.t9 F27.t12
def F27.t14 : IR := .seq F27.t8 F27.t13
def F27.t15 : IR := .reg [.s (.mv (.t (.of 0))), .s (.mv (.t (.of 1))), .w .push none (.call (.c (.fn 98 (.of 98) [])) [(.s 1), (.s 0), (.c (I 1536))]), .s (.mv (.s 0)), .s (.ext 0 (.s 0)), .s (.ext 1 (.s 1)), .s (.ext 2 (.s 2)), .q (.of 6) (.mv (.s 2)), .s (.mv (.s 1)), .q (.of 7) (.mv (.s 1))]
def F27.t16 : IR := .reg [.s (.mv (.t (.of 7))), .q (.of 10) (.not (.s 0))]
def F27.t17 : IR := .reg [.q (.of 2) (.mv (.c .zf)), .q (.of 3) (.mv (.c (I 20)))]
def F27.t18 : IR := .seq F27.t17 .ret
def F27.t19 : IR := .cond (.t (.of 10)) F27.t18 .skip
def F27.t20 : IR := .seq F27.t16 F27.t19
def F27.t21 : IR := .reg [.s (.mv (.t (.of 6))), .w .push none (.call (.c (.fn 99 (.of 99) [])) [(.s 0)]), .q (.of 2) (.mv (.s 0)), .q (.of 3) (.mv (.c (I 0)))]
def F27.t22 : IR := .seq F27.t21 .ret
def F27.t23 : IR := .seq F27.t20 F27.t22
def F27.t24 : IR := .seq F27.t15 F27.t23
def F27.t25 : IR := .seq F27.t14 F27.t24
def F27.t26 : IR := .seq F27.t7 F27.t25
def F27.t27 : IR := .seq F27.t0 F27.t26
theorem F27.qi : IR.run F27.t0 C N O K (F27.fr a b f e d g l q p w c) h nx =
 K (F27.fr a b .zf (I 0) d g l q p w c) h nx := by kernel_rfl
theorem F27.qj : IR.run F27.t1 C N O K (F27.fr a b f e d g l q p w c) h nx =
 C.fn 95 (.of 95) [b] h nx fun v1 h2 n3 => sLen a fun v4 => zo .gtr .int v4 (I 256) fun v5 => C.fn 96 (.of 96) [v5, (I 5)] h2 n3 fun v6 h7 n8 => jD 1 2 [(I 0)] [(0, 1, v1), (1, 1, v6)] h7 n8 fun v9 hV nV => C.fn 94 (.of 94) [v9] hV nV fun vC h13 n14 => K (F27.fr a b f e vC g l q p w c) h13 n14 := by kernel_rfl
theorem F27.xg : IR.run F27.t2 C N O K (F27.fr a b f e d g l q p w c) h nx =
 zo .neq .int d (I 0) fun v1 => K (F27.fr a b f e d g l q v1 w c) h nx := by kernel_rfl
theorem F27.t3_s : IR.run F27.t3 C N O K (F27.fr a b f e d g l q p w c) h nx =
 K (F27.fr a b .zf d d g l q p w c) h nx := by kernel_rfl
theorem F27.v8 : Arg.ev (.t (.of 8)) ⟨(F27.fr a b f e d g l q p w c), []⟩ = p := by kernel_rfl
theorem F27.t8_s : IR.run F27.t8 C N O K (F27.fr a b f e d g l q p w c) h nx =
 C.fn 97 (.of 97) [a, b] h nx fun v1 h2 n3 => K (F27.fr a b f e d v1 l q p w c) h2 n3 := by kernel_rfl
theorem F27.t9_s : IR.run F27.t9 C N O K (F27.fr a b f e d g l q p w c) h nx =
 zo .neq .int g (I 0) fun v1 => K (F27.fr a b f e d g l q p v1 c) h nx := by kernel_rfl
theorem F27.pq : IR.run F27.t10 C N O K (F27.fr a b f e d g l q p w c) h nx =
 K (F27.fr a b .zf g d g l q p w c) h nx := by kernel_rfl
theorem F27.v9 : Arg.ev (.t (.of 9)) ⟨(F27.fr a b f e d g l q p w c), []⟩ = w := by kernel_rfl
theorem F27.t15_s : IR.run F27.t15 C N O K (F27.fr a b f e d g l q p w c) h nx =
 C.fn 98 (.of 98) [a, b, (I 1536)] h nx fun v1 h2 n3 => xw 0 v1 fun v4 => xw 1 v1 fun v5 => xw 2 v1 fun v6 => K (F27.fr a b f e d g v4 v6 p w c) h2 n3 := by kernel_rfl
theorem F27.t16_s : IR.run F27.t16 C N O K (F27.fr a b f e d g l q p w c) h nx =
 sNot q fun v1 => K (F27.fr a b f e d g l q p w v1) h nx := by kernel_rfl
theorem F27.t17_s : IR.run F27.t17 C N O K (F27.fr a b f e d g l q p w c) h nx =
 K (F27.fr a b .zf (I 20) d g l q p w c) h nx := by kernel_rfl
theorem F27.v10 : Arg.ev (.t (.of 10)) ⟨(F27.fr a b f e d g l q p w c), []⟩ = c := by kernel_rfl
theorem F27.t21_s : IR.run F27.t21 C N O K (F27.fr a b f e d g l q p w c) h nx =
 C.fn 99 (.of 99) [l] h nx fun v1 h2 n3 => K (F27.fr a b v1 (I 0) d g l q p w c) h2 n3 := by kernel_rfl
theorem F27.tab : T.get none (.of 27) tbl = some F27 := by kernel_rfl
theorem F27.bind (k : T AV -> OP) : zX F27.params [a0, a1] F27.init k = k (F27.fr a0 a1 .undef .undef .undef .undef .undef .undef .undef .undef .undef) := by kernel_rfl
theorem F27.yu : F27.body = F27.t27 := by kernel_rfl
theorem F27.go : zV tbl N C (.of 27) [a0, a1] h nx K0 = IR.run F27.t27 C N (fnO F27.res K0) (ji F27.res K0) (F27.fr a0 a1 .undef .undef .undef .undef .undef .undef .undef .undef .undef) h nx := by
 rw [zJ F27.tab, F27.bind, F27.yu]; kernel_rfl
theorem F27.ret : ji F27.res K0 (F27.fr a b f e d g l q p w c) h nx = K0 (.tup [f, e]) h nx := by kernel_rfl
end
end Go.Ev
namespace Go.Ev
open Go Go.Proofs
set_option maxRecDepth 100000
variable {N : Nat} {C : Calls Prop} {K0 : Kw Prop} {K R : Ks Prop} {h : T Blk} {nx : Pa} {a b f e d g l a0 a1 a2 q p w c i o s u v y z B A D E F G H : AV}
theorem F99.mr (X2 : IR) (O : uz Prop) (t : T AV) : IR.run (F99.g1 X2) C N O K t h nx = IR.run X2 C N (O.blk 0 K) K t h nx := by kernel_rfl
theorem F99.g7_eq (X8 : IR) (O : uz Prop) (t : T AV) : IR.run (F99.g7 X8) C N O K t h nx = IR.run X8 C N (O.blk 2 K) K t h nx := by kernel_rfl
theorem F99.tab : T.get none (.of 99) tbl = some F99 := by kernel_rfl
theorem F99.go : zV tbl N C (.of 99) [a0] h nx K0 =
 sRange a0 h nx fun v1 h2 n3 => IR.run F99.b1 C N (fnO F99.res K0) (IR.run F99.b6 C N (fnO F99.res K0) (ji F99.res K0)) (F99.fr a0 .zf .zf .undef .undef .undef v1 .undef .undef .undef .undef .undef) h2 n3 := by
 rw [zJ F99.tab]; kernel_rfl
theorem F99.L1 (Inv : Nat -> AV -> T Blk -> Pa -> Prop) {m : Nat} (hm : m < N) (hi : Inv m f h nx)
  (step : ∀ (m : Nat) (z2 z3 z7 : AV) (h : T Blk) (nx : Pa) (R : Ks Prop), Inv m z2 h nx -> (∀ (m' : Nat) (w2 w3 w7 : AV) (h' : T Blk) (nx' : Pa), m' < m -> Inv m' w2 h' nx' -> R (F99.fr a b w2 w3 d g l w7 p w c i) h' nx' = .ok True) ->
   (sNext C l h nx fun v1 h2 n3 => xw 0 v1 fun v4 => yD v4 (sEntry l h2 fun v5 => xw 1 v5 fun v6 => yM [.zf, (.bool false)] h2 n3 fun v7 h8 n9 => zQ 2 v7 v6 h8 n9 fun vA hH nH => zO 2 v7 hH fun vD => jD 2 1 [.zf, (.bool false)] [(0, 2, vD)] hH nH fun vE hA nA => xM C 2 32 z2 vE hA nA fun vH h18 n19 => R (F99.fr a b vH v7 d g l v4 p w c i) h18 n19) (K (F99.fr a b z2 z3 d g l v4 p w c i) h2 n3)) = .ok True) :
  IR.run F99.b1 C N (fnO F99.res K0) K (F99.fr a b f e d g l q p w c i) h nx = .ok True := by
 rw [F99.b1, F99.mr, F99.b2];refine yK (fun m tm h nx => ∃ z2 z3 z7, tm = (F99.fr a b z2 z3 d g l z7 p w c i) /\ Inv m z2 h nx) ?_ hm ⟨_, _, _, rfl, hi⟩;rintro m tm h nx R ⟨z2, z3, z7, rfl, hi⟩ hR;refine Eq.trans ?_ (step m z2 z3 z7 h nx R hi fun m' w2 w3 w7 h' nx' hlt hi' => hR m' _ h' nx' hlt ⟨_, _, _, rfl, hi'⟩)
 kernel_rfl
theorem F99.k6 : IR.run F99.b6 C N (fnO F99.res K0) K (F99.fr a b f e d g l q p w c i) h nx =
 C.fn 164 (.of 164) [f, (.fn 162 (.of 162) [])] h nx fun v1 h2 n3 => sLen f fun v4 => IR.run F99.b7 C N (fnO F99.res K0) (IR.run F99.b14 C N (fnO F99.res K0) K) (F99.fr a b f e .zf g l q f v4 (I 0) i) h2 n3 := by kernel_rfl
theorem F99.L7 (Inv : Nat -> AV -> AV -> T Blk -> Pa -> Prop) {m : Nat} (hm : m < N) (hi : Inv m d c h nx)
  (step : ∀ (m : Nat) (z4 z5 zI zA : AV) (h : T Blk) (nx : Pa) (R : Ks Prop), Inv m z4 zI h nx -> (∀ (m' : Nat) (w4 w5 wI wA : AV) (h' : T Blk) (nx' : Pa), m' < m -> Inv m' w4 wI h' nx' -> R (F99.fr a b f e w4 w5 l q p w wI wA) h' nx' = .ok True) ->
   (zo .lss .int zI w fun v1 => yD v1 (zP 2 p zI fun v2 => zO 2 v2 h fun v3 => yM [.zf, (.bool false)] h nx fun v4 h5 n6 => zQ 2 v4 v3 h5 n6 fun v7 h8 n9 => zO 2 v4 h8 fun vA => jD 2 1 [.zf, (.bool false)] [(0, 2, vA)] h8 n9 fun vB hD nD => xM C 2 32 z4 vB hD nD fun vE hA nA => zo .add .int zI (I 1) fun vH => R (F99.fr a b f e vE v4 l q p w vH v1) hA nA) (K (F99.fr a b f e z4 z5 l q p w zI v1) h nx)) = .ok True) :
  IR.run F99.b7 C N (fnO F99.res K0) K (F99.fr a b f e d g l q p w c i) h nx = .ok True := by
 rw [F99.b7, F99.g7_eq, F99.b8];refine yK (fun m tm h nx => ∃ z4 z5 zI zA, tm = (F99.fr a b f e z4 z5 l q p w zI zA) /\ Inv m z4 zI h nx) ?_ hm ⟨_, _, _, _, rfl, hi⟩;rintro m tm h nx R ⟨z4, z5, zI, zA, rfl, hi⟩ hR;refine Eq.trans ?_ (step m z4 z5 zI zA h nx R hi fun m' w4 w5 wI wA h' nx' hlt hi' => hR m' _ h' nx' hlt ⟨_, _, _, _, rfl, hi'⟩)
 kernel_rfl
theorem F99.k14 : IR.run F99.b14 C N (fnO F99.res K0) K (F99.fr a b f e d g l q p w c i) h nx =
 K0 d h nx := by kernel_rfl
end Go.Ev
namespace Go.Ev
open Go Go.Proofs
set_option maxRecDepth 100000
section
variable {N : Nat} {C : Calls Prop} {K0 : Kw Prop} {K : Ks Prop} {h : T Blk} {nx : Pa} {a b f e d g l q p w c i o s u v y z B A a0 a1 a2 : AV} {O : uz Prop} {tm : T AV} {Kt : KTm} {r : List RO} {s0 s1 s2 s3 s4 s5 s6 s7 s8 s9 s10 s11 s12 s13 s14 s15 s16 s17 s18 s19 s20 s21 s22 s23 s24 s25 s26 s27 s28 s29 s30 s31 s32 s33 s34 s35 s36 s37 s38 s39 : AV}
def F39.t0 : IR := .reg [.w (.loc (.of 3)) none (.box (.t (.of 1))), .q (.of 4) (.mv (.c .zf)), .q (.of 5) (.mv (.c (I 0)))]
def F39.t1 : IR := .reg [.s (.mv (.t (.of 0))), .s (.load (.t (.of 3))), .s (.mv (.t (.of 2))), .w .push none (.call (.c (.fn 120 (.of 120) [])) [(.s 2), (.s 1), (.s 0)]), .s (.mv (.s 0)), .s (.ext 0 (.s 0)), .s (.ext 1 (.s 1)), .s (.ext 2 (.s 2)), .w .push none (.alloc [.zf, .zf]), .s (.mv (.s 3)), .w .none none (.store 2 (.s 1) (.s 3)), .q (.of 6) (.mv (.s 2))]
def F39.t2 : IR := .reg [.s (.mv (.t (.of 6))), .q (.of 12) (.bin .neq .int (.s 0) (.c (I 0)))]
def F39.t3 : IR := .reg [.s (.mv (.t (.of 6))), .q (.of 4) (.mv (.c .zf)), .q (.of 5) (.mv (.s 0))]
def F39.t4 : IR := .seq F39.t3 .ret
def F39.t5 : IR := .cond (.t (.of 12)) F39.t4 .skip
def F39.t6 : IR := .seq F39.t2 F39.t5
def F39.t7 : IR := .seq F39.t1 F39.t6
def F39.t8 : IR := .reg [.w .push none .mkmap, .w (.loc (.of 7)) none (.alloc [.jv]), .w .none none (.store 1 (.t (.of 7)) (.s 0))]
def F39.t9 : IR := .reg [.w (.loc (.of 8)) none (.alloc [.zf])]
def F39.t10 : IR := .reg [.s (.mv (.t (.of 0))), .w (.loc (.of 13)) none (.call (.c (.fn 90 (.of 90) [])) [(.s 0)])]
def F39.t11 : IR := .reg [.w (.loc (.of 9)) none (.alloc [.zf, (.bool false)]), .w .none none (.store 2 (.t (.of 9)) (.t (.of 15)))]
def F39.t12 : IR := .reg [.s (.load (.t (.of 7))), .s (.zi 2 (.t (.of 9))), .w (.loc (.of 16)) none (.call (.c (.fn 121 (.of 121) [])) [(.s 1), (.s 0)])]
def F39.t13 : IR := .cond (.t (.of 16)) (.exit 1) .skip
def F39.t14 : IR := .seq F39.t12 F39.t13
def F39.t15 : IR := .reg [.s (.load (.t (.of 3))), .w (.loc (.of 17)) none (.call (.c (.fn 90 (.of 90) [])) [(.s 0)])]
def F39.t16 : IR := .reg [.w (.loc (.of 10)) none (.alloc [.zf, (.bool false)]), .w .none none (.store 2 (.t (.of 10)) (.t (.of 19)))]
def F39.t17 : IR := .reg [.s (.zi 2 (.t (.of 9))), .s (.zi 2 (.t (.of 10))), .w .push none (.call (.c (.fn 122 (.of 122) [])) [(.s 1), (.s 0)]), .w (.loc (.of 11)) none (.alloc [.zf, (.bool false)]), .w .none none (.store 2 (.t (.of 11)) (.s 0))]
def F39.t18 : IR := .yt [] [(.s (.load (.t (.of 7))), 1, []), (.s (.zi 2 (.t (.of 11))), 0, []), (.s (.zi 2 (.t (.of 11))), 1, []), (.w .push none (.call (.c (.fn 123 (.of 123) [])) [(.s 1)]), 0, []), (.w .none none (.mapup .str (.s 3) (.s 0) (.s 1)), 0, [])]
def F39.t19 : IR := .seq F39.t17 F39.t18
def F39.t20 : IR := .block 3 F39.t19
def F39.t21 : IR := .rf (.t (.of 17)) [(.of 18), (.of 19)] F39.t16 F39.t20
def F39.t22 : IR := .block 2 F39.t21
def F39.t23 : IR := .seq F39.t15 F39.t22
def F39.t24 : IR := .yt [] [(.s (.load (.t (.of 8))), 2, []), (.s (.zx 0 (.t (.of 9))), 0, []), (.s (.load (.s 0)), 0, []), (.s (.zx 1 (.t (.of 9))), 1, []), (.s (.load (.s 0)), 1, []), (.w .push none (.call (.c (.fn 106 (.of 106) [])) [(.s 2)]), 0, []), (.s (.build [.zf, (.bool false)] [(0, 1, (.s 0)), (1, 1, (.s 1))]), 0, []), (.w .push none (.zy 2 1 [.zf, (.bool false)] [(0, 2, (.s 0))]), 0, []), (.w .push none (.appq 2 32 (.s 7) (.s 0)), 0, []), (.w .none none (.store 1 (.t (.of 8)) (.s 0)), 0, [])]
def F39.t25 : IR := .seq F39.t23 F39.t24
def F39.t26 : IR := .seq F39.t14 F39.t25
def F39.t27 : IR := .block 1 F39.t26
def F39.t28 : IR := .rf (.t (.of 13)) [(.of 14), (.of 15)] F39.t11 F39.t27
def F39.t29 : IR := .block 0 F39.t28
def F39.t30 : IR := .seq F39.t10 F39.t29
def F39.t31 : IR := .reg [.s (.load (.t (.of 8))), .q (.of 4) (.mv (.s 0)), .q (.of 5) (.mv (.c (I 0)))]
def F39.t32 : IR := .seq F39.t31 .ret
def F39.t33 : IR := .seq F39.t30 F39.t32
def F39.t34 : IR := .seq F39.t9 F39.t33
def F39.t35 : IR := .seq F39.t8 F39.t34
def F39.t36 : IR := .seq F39.t7 F39.t35
def F39.t37 : IR := .seq F39.t0 F39.t36
theorem F39.qi : IR.run F39.t0 C N O K (F39.fr a b f e d g l q p w c i o s u v y z B A) h nx =
 sBox b h nx fun v1 h2 n3 => K (F39.fr a b f v1 .zf (I 0) l q p w c i o s u v y z B A) h2 n3 := by kernel_rfl
theorem F39.qj : IR.run F39.t1 C N O K (F39.fr a b f e d g l q p w c i o s u v y z B A) h nx =
 zF e h fun v1 => C.fn 120 (.of 120) [a, v1, f] h nx fun v2 h3 n4 => xw 0 v2 fun v5 => xw 1 v2 fun v6 => xw 2 v2 fun v7 => yM [.zf, .zf] h3 n4 fun v8 h9 nI => zQ 2 v8 v6 h9 nI fun vB hD nD => K (F39.fr a b f e d g v7 q p w c i o s u v y z B A) hD nD := by kernel_rfl
theorem F39.xg : IR.run F39.t2 C N O K (F39.fr a b f e d g l q p w c i o s u v y z B A) h nx =
 zo .neq .int l (I 0) fun v1 => K (F39.fr a b f e d g l q p w c i v1 s u v y z B A) h nx := by kernel_rfl
theorem F39.v12 : Arg.ev (.t (.of 12)) ⟨(F39.fr a b f e d g l q p w c i o s u v y z B A), []⟩ = o := by kernel_rfl
theorem F39.t8_s : IR.run F39.t8 C N O K (F39.fr a b f e d g l q p w c i o s u v y z B A) h nx =
 sMkmap h nx fun v1 h2 n3 => yM [.jv] h2 n3 fun v4 h5 n6 => zQ 1 v4 v1 h5 n6 fun v7 h8 n9 => K (F39.fr a b f e d g l v4 p w c i o s u v y z B A) h8 n9 := by kernel_rfl
theorem F39.t9_s : IR.run F39.t9 C N O K (F39.fr a b f e d g l q p w c i o s u v y z B A) h nx =
 yM [.zf] h nx fun v1 h2 n3 => K (F39.fr a b f e d g l q v1 w c i o s u v y z B A) h2 n3 := by kernel_rfl
theorem F39.pq : IR.run F39.t10 C N O K (F39.fr a b f e d g l q p w c i o s u v y z B A) h nx =
 C.fn 90 (.of 90) [a] h nx fun v1 h2 n3 => K (F39.fr a b f e d g l q p w c i o v1 u v y z B A) h2 n3 := by kernel_rfl
theorem F39.fA : IR.run F39.t11 C N O K (F39.fr a b f e d g l q p w c i o s u v y z B A) h nx =
 yM [.zf, (.bool false)] h nx fun v1 h2 n3 => zQ 2 v1 v h2 n3 fun v4 h5 n6 => K (F39.fr a b f e d g l q p v1 c i o s u v y z B A) h5 n6 := by kernel_rfl
theorem F39.t12_s : IR.run F39.t12 C N O K (F39.fr a b f e d g l q p w c i o s u v y z B A) h nx =
 zF q h fun v1 => zO 2 w h fun v2 => C.fn 121 (.of 121) [v1, v2] h nx fun v3 h4 n5 => K (F39.fr a b f e d g l q p w c i o s u v v3 z B A) h4 n5 := by kernel_rfl
theorem F39.v16 : Arg.ev (.t (.of 16)) ⟨(F39.fr a b f e d g l q p w c i o s u v y z B A), []⟩ = y := by kernel_rfl
theorem F39.t15_s : IR.run F39.t15 C N O K (F39.fr a b f e d g l q p w c i o s u v y z B A) h nx =
 zF e h fun v1 => C.fn 90 (.of 90) [v1] h nx fun v2 h3 n4 => K (F39.fr a b f e d g l q p w c i o s u v y v2 B A) h3 n4 := by kernel_rfl
theorem F39.t16_s : IR.run F39.t16 C N O K (F39.fr a b f e d g l q p w c i o s u v y z B A) h nx =
 yM [.zf, (.bool false)] h nx fun v1 h2 n3 => zQ 2 v1 A h2 n3 fun v4 h5 n6 => K (F39.fr a b f e d g l q p w v1 i o s u v y z B A) h5 n6 := by kernel_rfl
theorem F39.t17_s : IR.run F39.t17 C N O K (F39.fr a b f e d g l q p w c i o s u v y z B A) h nx =
 zO 2 w h fun v1 => zO 2 c h fun v2 => C.fn 122 (.of 122) [v1, v2] h nx fun v3 h4 n5 => yM [.zf, (.bool false)] h4 n5 fun v6 h7 n8 => zQ 2 v6 v3 h7 n8 fun v9 hV nV => K (F39.fr a b f e d g l q p w c v6 o s u v y z B A) hV nV := by kernel_rfl
theorem F39.t18_s : IR.run F39.t18 C N O K (F39.fr a b f e d g l q p w c i o s u v y z B A) h nx =
 zF q h fun v1 => zO 2 i h fun v2 => zO 2 i h fun v3 => C.fn 123 (.of 123) [v2] h nx fun v4 h5 n6 => (zO 2 i h5 fun vB => zN vB v3 ((zF q h5 fun vA => zN vA v1 (pW .str v1 v4 v3 h5 n6 fun v7 h8 n9 => K (F39.fr a b f e d g l q p w c i o s u v y z B A) h8 n9)))) := by kernel_rfl
theorem F39.t21_f : Arg.ev (.t (.of 17)) ⟨(F39.fr a b f e d g l q p w c i o s u v y z B A), []⟩ = z := by kernel_rfl
theorem F39.t21_b {z0 z1 : AV} (k : T AV -> OP) : zX [(.of 18), (.of 19)] [z0, z1] (F39.fr a b f e d g l q p w c i o s u v y z B A) k = k (F39.fr a b f e d g l q p w c i o s u v y z z0 z1) := by kernel_rfl
theorem F39.t24_s : IR.run F39.t24 C N O K (F39.fr a b f e d g l q p w c i o s u v y z B A) h nx =
 zF p h fun v1 => zW 0 w fun v2 => zF v2 h fun v3 => zW 1 w fun v4 => zF v4 h fun v5 => C.fn 106 (.of 106) [v3] h nx fun v6 h7 n8 => (zF v4 h7 fun vM => zN vM v5 ((zW 1 w fun vL => zN vL v4 ((zF p h7 fun vK => zN vK v1 (kZ [.zf, (.bool false)] [(0, 1, v6), (1, 1, v5)] fun v9 => jD 2 1 [.zf, (.bool false)] [(0, 2, v9)] h7 n8 fun vA hH nH => (zF p hH fun vJ => zN vJ v1 (xM C 2 32 v1 vA hH nH fun vD hI nJ => zQ 1 p vD hI nJ fun vG hG nG => K (F39.fr a b f e d g l q p w c i o s u v y z B A) hG nG)))))))) := by kernel_rfl
theorem F39.t28_f : Arg.ev (.t (.of 13)) ⟨(F39.fr a b f e d g l q p w c i o s u v y z B A), []⟩ = s := by kernel_rfl
theorem F39.t28_b {z0 z1 : AV} (k : T AV -> OP) : zX [(.of 14), (.of 15)] [z0, z1] (F39.fr a b f e d g l q p w c i o s u v y z B A) k = k (F39.fr a b f e d g l q p w c i o s z0 z1 y z B A) := by kernel_rfl
theorem F39.t31_s : IR.run F39.t31 C N O K (F39.fr a b f e d g l q p w c i o s u v y z B A) h nx =
 zF p h fun v1 => K (F39.fr a b f e v1 (I 0) l q p w c i o s u v y z B A) h nx := by kernel_rfl
theorem F39.tab : T.get none (.of 39) tbl = some F39 := by kernel_rfl
theorem F39.bind (k : T AV -> OP) : zX F39.params [a0, a1, a2] F39.init k = k (F39.fr a0 a1 a2 .undef .undef .undef .undef .undef .undef .undef .undef .undef .undef .undef .undef .undef .undef .undef .undef .undef) := by kernel_rfl
theorem F39.yu : F39.body = F39.t37 := by kernel_rfl
theorem F39.go : zV tbl N C (.of 39) [a0, a1, a2] h nx K0 = IR.run F39.t37 C N (fnO F39.res K0) (ji F39.res K0) (F39.fr a0 a1 a2 .undef .undef .undef .undef .undef .undef .undef .undef .undef .undef .undef .undef .undef .undef .undef .undef .undef) h nx := by
 rw [zJ F39.tab, F39.bind, F39.yu]; kernel_rfl
theorem F39.ret : ji F39.res K0 (F39.fr a b f e d g l q p w c i o s u v y z B A) h nx = K0 (.tup [d, g]) h nx := by kernel_rfl
def F40.t0 : IR := .reg [.q (.of 3) (.mv (.c (.bool false))), .q (.of 4) (.mv (.c (I 0)))]
def F40.t1 : IR := .reg [.s (.mv (.t (.of 0))), .s (.mv (.t (.of 1))), .s (.mv (.t (.of 2))), .w .push none (.call (.c (.fn 120 (.of 120) [])) [(.s 2), (.s 1), (.s 0)]), .s (.mv (.s 0)), .s (.ext 0 (.s 0)), .s (.ext 1 (.s 1)), .s (.ext 2 (.s 2)), .w (.loc (.of 6)) none (.alloc [.zf, .zf]), .q (.of 5) (.mv (.s 2)), .w .none none (.store 2 (.t (.of 6)) (.s 1)), .q (.of 7) (.mv (.s 0))]
def F40.t2 : IR := .reg [.s (.mv (.t (.of 7))), .q (.of 10) (.bin .neq .int (.s 0) (.c (I 0)))]
def F40.t3 : IR := .reg [.s (.mv (.t (.of 7))), .q (.of 3) (.mv (.c (.bool false))), .q (.of 4) (.mv (.s 0))]
def F40.t4 : IR := .seq F40.t3 .ret
def F40.t5 : IR := .cond (.t (.of 10)) F40.t4 .skip
def F40.t6 : IR := .seq F40.t2 F40.t5
def F40.t7 : IR := .reg [.s (.aaddr 1 2 (.t (.of 6)) (.c (I 0))), .q (.of 11) (.load (.s 0)), .q (.of 12) (.len (.t (.of 11))), .q (.of 13) (.mv (.c (I 0)))]
def F40.t8 : IR := .reg [.q (.of 14) (.bin .lss .int (.t (.of 13)) (.t (.of 12)))]
def F40.t9 : IR := .cond (.t (.of 14)) .skip (.exit 0)
def F40.t10 : IR := .reg [.s (.zn 2 (.t (.of 11)) (.t (.of 13))), .s (.zi 2 (.s 0)), .w (.loc (.of 8)) none (.alloc [.zf, (.bool false)]), .w .none none (.store 2 (.t (.of 8)) (.s 0))]
def F40.t11 : IR := .reg [.s (.aaddr 1 2 (.t (.of 6)) (.c (I 1))), .q (.of 15) (.load (.s 0)), .q (.of 16) (.len (.t (.of 15))), .q (.of 17) (.mv (.c (I 0)))]
def F40.t12 : IR := .reg [.q (.of 18) (.bin .lss .int (.t (.of 17)) (.t (.of 16)))]
def F40.t13 : IR := .cond (.t (.of 18)) .skip (.exit 2)
def F40.t14 : IR := .reg [.s (.zn 2 (.t (.of 15)) (.t (.of 17))), .s (.zi 2 (.s 0)), .w (.loc (.of 9)) none (.alloc [.zf, (.bool false)]), .w .none none (.store 2 (.t (.of 9)) (.s 0))]
def F40.t15 : IR := .yt [] [(.s (.mv (.t (.of 5))), 3, []), (.s (.zi 2 (.t (.of 8))), 0, []), (.s (.zi 2 (.t (.of 9))), 0, []), (.s (.zi 2 (.t (.of 8))), 1, []), (.w .push none (.call (.c (.fn 122 (.of 122) [])) [(.s 2), (.s 1)]), 0, []), (.w .push none (.call (.c (.fn 124 (.of 124) [])) [(.s 1)]), 0, []), (.w .push none (.call (.c (.fn 122 (.of 122) [])) [(.s 1), (.s 0)]), 0, []), (.w .push none (.call (.c (.fn 121 (.of 121) [])) [(.s 6), (.s 0)]), 0, []), (.q (.of 19) (.not (.s 0)), 0, [])]
def F40.t16 : IR := .reg [.q (.of 3) (.mv (.c (.bool false))), .q (.of 4) (.mv (.c (I 0)))]
def F40.t17 : IR := .seq F40.t16 .ret
def F40.t18 : IR := .cond (.t (.of 19)) F40.t17 .skip
def F40.t19 : IR := .seq F40.t15 F40.t18
def F40.t20 : IR := .seq F40.t14 F40.t19
def F40.t21 : IR := .block 3 F40.t20
def F40.t22 : IR := .reg [.s (.bin .add .int (.t (.of 17)) (.c (I 1))), .q (.of 17) (.mv (.s 0))]
def F40.t23 : IR := .seq F40.t21 F40.t22
def F40.t24 : IR := .seq F40.t13 F40.t23
def F40.t25 : IR := .seq F40.t12 F40.t24
def F40.t26 : IR := .loop F40.t25
def F40.t27 : IR := .block 2 F40.t26
def F40.t28 : IR := .seq F40.t11 F40.t27
def F40.t29 : IR := .seq F40.t10 F40.t28
def F40.t30 : IR := .block 1 F40.t29
def F40.t31 : IR := .reg [.s (.bin .add .int (.t (.of 13)) (.c (I 1))), .q (.of 13) (.mv (.s 0))]
def F40.t32 : IR := .seq F40.t30 F40.t31
def F40.t33 : IR := .seq F40.t9 F40.t32
def F40.t34 : IR := .seq F40.t8 F40.t33
def F40.t35 : IR := .loop F40.t34
def F40.t36 : IR := .block 0 F40.t35
def F40.t37 : IR := .seq F40.t7 F40.t36
def F40.t38 : IR := .reg [.q (.of 3) (.mv (.c (.bool true))), .q (.of 4) (.mv (.c (I 0)))]
def F40.t39 : IR := .seq F40.t38 .ret
def F40.t40 : IR := .seq F40.t37 F40.t39
def F40.t41 : IR := .seq F40.t6 F40.t40
def F40.t42 : IR := .seq F40.t1 F40.t41
def F40.t43 : IR := .seq F40.t0 F40.t42
theorem F40.qi : IR.run F40.t0 C N O K (F40.fr a b f e d g l q p w c i o s u v y z B A) h nx =
 K (F40.fr a b f (.bool false) (I 0) g l q p w c i o s u v y z B A) h nx := by kernel_rfl
theorem F40.qj : IR.run F40.t1 C N O K (F40.fr a b f e d g l q p w c i o s u v y z B A) h nx =
 C.fn 120 (.of 120) [a, b, f] h nx fun v1 h2 n3 => xw 0 v1 fun v4 => xw 1 v1 fun v5 => xw 2 v1 fun v6 => yM [.zf, .zf] h2 n3 fun v7 h8 n9 => zQ 2 v7 v5 h8 n9 fun vA hH nH => K (F40.fr a b f e d v4 v7 v6 p w c i o s u v y z B A) hH nH := by kernel_rfl
theorem F40.xg : IR.run F40.t2 C N O K (F40.fr a b f e d g l q p w c i o s u v y z B A) h nx =
 zo .neq .int q (I 0) fun v1 => K (F40.fr a b f e d g l q p w v1 i o s u v y z B A) h nx := by kernel_rfl
theorem F40.t3_s : IR.run F40.t3 C N O K (F40.fr a b f e d g l q p w c i o s u v y z B A) h nx =
 K (F40.fr a b f (.bool false) q g l q p w c i o s u v y z B A) h nx := by kernel_rfl
theorem F40.v10 : Arg.ev (.t (.of 10)) ⟨(F40.fr a b f e d g l q p w c i o s u v y z B A), []⟩ = c := by kernel_rfl
theorem F40.t7_s : IR.run F40.t7 C N O K (F40.fr a b f e d g l q p w c i o s u v y z B A) h nx =
 dH 1 2 l (I 0) fun v1 => zF v1 h fun v2 => sLen v2 fun v3 => K (F40.fr a b f e d g l q p w c v2 v3 (I 0) u v y z B A) h nx := by kernel_rfl
theorem F40.t8_s : IR.run F40.t8 C N O K (F40.fr a b f e d g l q p w c i o s u v y z B A) h nx =
 zo .lss .int s o fun v1 => K (F40.fr a b f e d g l q p w c i o s v1 v y z B A) h nx := by kernel_rfl
theorem F40.v14 : Arg.ev (.t (.of 14)) ⟨(F40.fr a b f e d g l q p w c i o s u v y z B A), []⟩ = u := by kernel_rfl
theorem F40.pq : IR.run F40.t10 C N O K (F40.fr a b f e d g l q p w c i o s u v y z B A) h nx =
 zP 2 i s fun v1 => zO 2 v1 h fun v2 => yM [.zf, (.bool false)] h nx fun v3 h4 n5 => zQ 2 v3 v2 h4 n5 fun v6 h7 n8 => K (F40.fr a b f e d g l q v3 w c i o s u v y z B A) h7 n8 := by kernel_rfl
theorem F40.fA : IR.run F40.t11 C N O K (F40.fr a b f e d g l q p w c i o s u v y z B A) h nx =
 dH 1 2 l (I 1) fun v1 => zF v1 h fun v2 => sLen v2 fun v3 => K (F40.fr a b f e d g l q p w c i o s u v2 v3 (I 0) B A) h nx := by kernel_rfl
theorem F40.t12_s : IR.run F40.t12 C N O K (F40.fr a b f e d g l q p w c i o s u v y z B A) h nx =
 zo .lss .int z y fun v1 => K (F40.fr a b f e d g l q p w c i o s u v y z v1 A) h nx := by kernel_rfl
theorem F40.v18 : Arg.ev (.t (.of 18)) ⟨(F40.fr a b f e d g l q p w c i o s u v y z B A), []⟩ = B := by kernel_rfl
theorem F40.t14_s : IR.run F40.t14 C N O K (F40.fr a b f e d g l q p w c i o s u v y z B A) h nx =
 zP 2 v z fun v1 => zO 2 v1 h fun v2 => yM [.zf, (.bool false)] h nx fun v3 h4 n5 => zQ 2 v3 v2 h4 n5 fun v6 h7 n8 => K (F40.fr a b f e d g l q p v3 c i o s u v y z B A) h7 n8 := by kernel_rfl
theorem F40.t15_s : IR.run F40.t15 C N O K (F40.fr a b f e d g l q p w c i o s u v y z B A) h nx =
 zO 2 p h fun v1 => zO 2 w h fun v2 => zO 2 p h fun v3 => C.fn 122 (.of 122) [v1, v2] h nx fun v4 h5 n6 => (zO 2 p h5 fun vH => zN vH v3 (zN g g (C.fn 124 (.of 124) [v3] h5 n6 fun v7 h8 n9 => zN g g (C.fn 122 (.of 122) [v4, v7] h8 n9 fun vA hH nH => zN g g (C.fn 121 (.of 121) [g, vA] hH nH fun vD hI nJ => sNot vD fun vG => K (F40.fr a b f e d g l q p w c i o s u v y z B vG) hI nJ))))) := by kernel_rfl
theorem F40.t16_s : IR.run F40.t16 C N O K (F40.fr a b f e d g l q p w c i o s u v y z B A) h nx =
 K (F40.fr a b f (.bool false) (I 0) g l q p w c i o s u v y z B A) h nx := by kernel_rfl
theorem F40.v19 : Arg.ev (.t (.of 19)) ⟨(F40.fr a b f e d g l q p w c i o s u v y z B A), []⟩ = A := by kernel_rfl
theorem F40.t22_s : IR.run F40.t22 C N O K (F40.fr a b f e d g l q p w c i o s u v y z B A) h nx =
 zo .add .int z (I 1) fun v1 => K (F40.fr a b f e d g l q p w c i o s u v y v1 B A) h nx := by kernel_rfl
theorem F40.t26_L (Inv : Nat -> AV -> T Blk -> Pa -> Prop) {m : Nat} (hm : m < N) (hi : Inv m z h nx)
  (step : ∀ (m : Nat) (z3 z4 z9 zH zK zL : AV) (h : T Blk) (nx : Pa) (R : Ks Prop), Inv m zH h nx -> (∀ (m' : Nat) (w3 w4 w9 wH wJ wK : AV) (h' : T Blk) (nx' : Pa), m' < m -> Inv m' wH h' nx' -> R (F40.fr a b f w3 w4 g l q p w9 c i o s u v y wH wJ wK) h' nx' = .ok True) -> IR.run F40.t25 C N O R (F40.fr a b f z3 z4 g l q p z9 c i o s u v y zH zK zL) h nx = .ok True) :
  IR.run F40.t26 C N O K (F40.fr a b f e d g l q p w c i o s u v y z B A) h nx = .ok True := by
 rw [F40.t26];refine yK (fun m tm h nx => ∃ z3 z4 z9 zH zK zL, tm = (F40.fr a b f z3 z4 g l q p z9 c i o s u v y zH zK zL) /\ Inv m zH h nx) ?_ hm ⟨_, _, _, _, _, _, rfl, hi⟩;rintro m tm h nx R ⟨z3, z4, z9, zH, zK, zL, rfl, hi⟩ hR;exact step m z3 z4 z9 zH zK zL h nx R hi fun m' w3 w4 w9 wH wJ wK h' nx' hlt hi' => hR m' _ h' nx' hlt ⟨_, _, _, _, _, _, rfl, hi'⟩
theorem F40.t31_s : IR.run F40.t31 C N O K (F40.fr a b f e d g l q p w c i o s u v y z B A) h nx =
 zo .add .int s (I 1) fun v1 => K (F40.fr a b f e d g l q p w c i o v1 u v y z B A) h nx := by kernel_rfl
theorem F40.t35_L (Inv : Nat -> AV -> T Blk -> Pa -> Prop) {m : Nat} (hm : m < N) (hi : Inv m s h nx)
  (step : ∀ (m : Nat) (z3 z4 z8 z9 zC zD zE zG zH zK zL : AV) (h : T Blk) (nx : Pa) (R : Ks Prop), Inv m zC h nx -> (∀ (m' : Nat) (w3 w4 w8 w9 wD wE wF wG wH wJ wK : AV) (h' : T Blk) (nx' : Pa), m' < m -> Inv m' wD h' nx' -> R (F40.fr a b f w3 w4 g l q w8 w9 c i o wD wE wF wG wH wJ wK) h' nx' = .ok True) -> IR.run F40.t34 C N O R (F40.fr a b f z3 z4 g l q z8 z9 c i o zC zD zE zG zH zK zL) h nx = .ok True) :
  IR.run F40.t35 C N O K (F40.fr a b f e d g l q p w c i o s u v y z B A) h nx = .ok True := by
 rw [F40.t35];refine yK (fun m tm h nx => ∃ z3 z4 z8 z9 zC zD zE zG zH zK zL, tm = (F40.fr a b f z3 z4 g l q z8 z9 c i o zC zD zE zG zH zK zL) /\ Inv m zC h nx) ?_ hm ⟨_, _, _, _, _, _, _, _, _, _, _, rfl, hi⟩;rintro m tm h nx R ⟨z3, z4, z8, z9, zC, zD, zE, zG, zH, zK, zL, rfl, hi⟩ hR;exact step m z3 z4 z8 z9 zC zD zE zG zH zK zL h nx R hi fun m' w3 w4 w8 w9 wD wE wF wG wH wJ wK h' nx' hlt hi' => hR m' _ h' nx' hlt ⟨_, _, _, _, _, _, _, _, _, _, _, rfl, hi'⟩
theorem F40.t38_s : IR.run F40.t38 C N O K (F40.fr a b f e d g l q p w c i o s u v y z B A) h nx =
 K (F40.fr a b f (.bool true) (I 0) g l q p w c i o s u v y z B A) h nx := by kernel_rfl
theorem F40.tab : T.get none (.of 40) tbl = some F40 := by kernel_rfl
theorem F40.bind (k : T AV -> OP) : zX F40.params [a0, a1, a2] F40.init k = k (F40.fr a0 a1 a2 .undef .undef .undef .undef .undef .undef .undef .undef .undef .undef .undef .undef .undef .undef .undef .undef .undef) := by kernel_rfl
theorem F40.yu : F40.body = F40.t43 := by kernel_rfl
theorem F40.go : zV tbl N C (.of 40) [a0, a1, a2] h nx K0 = IR.run F40.t43 C N (fnO F40.res K0) (ji F40.res K0) (F40.fr a0 a1 a2 .undef .undef .undef .undef .undef .undef .undef .undef .undef .undef .undef .undef .undef .undef .undef .undef .undef) h nx := by
 rw [zJ F40.tab, F40.bind, F40.yu]; kernel_rfl
theorem F40.ret : ji F40.res K0 (F40.fr a b f e d g l q p w c i o s u v y z B A) h nx = K0 (.tup [e, d]) h nx := by kernel_rfl
end
end Go.Ev
namespace Go.Ev
open Go Go.Proofs
set_option maxRecDepth 100000
section
variable {N : Nat} {C : Calls Prop} {K0 : Kw Prop} {K : Ks Prop} {h : T Blk} {nx : Pa} {a b f e d g l q p w a0 : AV} {O : uz Prop} {tm : T AV} {Kt : KTm} {r : List RO} {s0 s1 s2 s3 s4 s5 s6 s7 s8 s9 s10 s11 s12 s13 s14 s15 s16 s17 s18 s19 s20 s21 s22 s23 s24 s25 s26 s27 s28 s29 s30 s31 s32 s33 s34 s35 s36 s37 s38 s39 : AV}
def yj.t0 : IR := .reg [.w (.loc (.of 1)) none (.box (.t (.of 0))), .w (.loc (.of 2)) none (.alloc [.zf, (.bool false)])]
def yj.t1 : IR := .yt [(.alloc [.zf, (.bool false)])] [(.s (.zx 0 (.t (.of 1))), 2, []), (.s (.load (.s 0)), 2, []), (.s (.len (.s 0)), 2, [(.gu 1 8 [(I 0)] (.s 0) (.s 0))]), (.s (.zx 1 (.t (.of 1))), 2, []), (.s (.load (.s 0)), 2, []), (.w .push none (.gu 1 8 [(I 0)] (.s 2) (.s 2)), 0, []), (.s (.build [.zf, (.bool false)] [(0, 1, (.s 0)), (1, 1, (.s 1))]), 1, []), (.w (.loc (.of 3)) none (.alloc [.zf, (.bool false)]), 0, []), (.w .none none (.store 2 (.t (.of 3)) (.s 0)), 0, [])]
def yj.t2 : IR := .reg [.s (.zx 0 (.t (.of 1))), .q (.of 6) (.load (.s 0)), .q (.of 7) (.len (.t (.of 6))), .q (.of 8) (.mv (.c (I 0)))]
def yj.t3 : IR := .reg [.q (.of 9) (.bin .lss .int (.t (.of 8)) (.t (.of 7)))]
def yj.t4 : IR := .cond (.t (.of 9)) .skip (.exit 0)
def yj.t5 : IR := .reg [.s (.mv (.t (.of 8))), .s (.zn 1 (.t (.of 6)) (.t (.of 8))), .s (.load (.s 0)), .q (.of 4) (.mv (.s 2)), .q (.of 5) (.mv (.s 0))]
def yj.t6 : IR := .reg [.s (.zx 0 (.t (.of 3))), .s (.load (.s 0)), .s (.mv (.t (.of 5))), .s (.mv (.t (.of 4))), .s (.zn 1 (.s 2) (.s 1)), .w .none none (.store 1 (.s 0) (.s 1))]
def yj.t7 : IR := .seq yj.t5 yj.t6
def yj.t8 : IR := .block 1 yj.t7
def yj.t9 : IR := .reg [.s (.bin .add .int (.t (.of 8)) (.c (I 1))), .q (.of 8) (.mv (.s 0))]
def yj.t10 : IR := .seq yj.t8 yj.t9
def yj.t11 : IR := .seq yj.t4 yj.t10
def yj.t12 : IR := .seq yj.t3 yj.t11
def yj.t13 : IR := .loop yj.t12
def yj.t14 : IR := .block 0 yj.t13
def yj.t15 : IR := .seq yj.t2 yj.t14
def yj.t16 : IR := .reg [.s (.zi 2 (.t (.of 3))), .w .none none (.store 2 (.t (.of 2)) (.s 0))]
def yj.t17 : IR := .seq yj.t16 .ret
def yj.t18 : IR := .seq yj.t15 yj.t17
def yj.t19 : IR := .seq yj.t1 yj.t18
def yj.t20 : IR := .seq yj.t0 yj.t19
theorem yj.qi : IR.run yj.t0 C N O K (yj.fr a b f e d g l q p w) h nx =
 sBox a h nx fun v1 h2 n3 => yM [.zf, (.bool false)] h2 n3 fun v4 h5 n6 => K (yj.fr a v1 v4 e d g l q p w) h5 n6 := by kernel_rfl
theorem yj.qj : IR.run yj.t1 C N O K (yj.fr a b f e d g l q p w) h nx =
 sChk (true && true) (zW 0 b fun v1 => zF v1 h fun v2 => sLen v2 fun v3 => sChk (mkSl 8 v3 v3 && true) (zW 1 b fun v4 => zF v4 h fun v5 => uG 1 8 [(I 0)] v3 v3 h nx fun v6 h7 n8 => (zF v4 h7 fun vU => zN vU v5 ((zW 1 b fun v25 => zN v25 v4 ((sLen v2 fun vO => zN vO v3 ((zF v1 h7 fun vN => zN vN v2 ((zW 0 b fun vM => zN vM v1 (kZ [.zf, (.bool false)] [(0, 1, v6), (1, 1, v5)] fun v9 => yM [.zf, (.bool false)] h7 n8 fun vA hH nH => (kZ [.zf, (.bool false)] [(0, 1, v6), (1, 1, v5)] fun vL => zN vL v9 ((zF v4 hH fun vK => zN vK v5 ((zW 1 b fun vJ => zN vJ v4 ((sLen v2 fun vI => zN vI v3 ((zF v1 hH fun vH => zN vH v2 ((zW 0 b fun vG => zN vG v1 (zQ 2 vA v9 hH nH fun vD hI nJ => K (yj.fr a b f vA d g l q p w) hI nJ)))))))))))))))))))))))) := by kernel_rfl
theorem yj.xg : IR.run yj.t2 C N O K (yj.fr a b f e d g l q p w) h nx =
 zW 0 b fun v1 => zF v1 h fun v2 => sLen v2 fun v3 => K (yj.fr a b f e d g v2 v3 (I 0) w) h nx := by kernel_rfl
theorem yj.t3_s : IR.run yj.t3 C N O K (yj.fr a b f e d g l q p w) h nx =
 zo .lss .int p q fun v1 => K (yj.fr a b f e d g l q p v1) h nx := by kernel_rfl
theorem yj.v9 : Arg.ev (.t (.of 9)) ⟨(yj.fr a b f e d g l q p w), []⟩ = w := by kernel_rfl
theorem yj.t5_s : IR.run yj.t5 C N O K (yj.fr a b f e d g l q p w) h nx =
 zP 1 l p fun v1 => zF v1 h fun v2 => K (yj.fr a b f e p v2 l q p w) h nx := by kernel_rfl
theorem yj.bW : IR.run yj.t6 C N O K (yj.fr a b f e d g l q p w) h nx =
 zW 0 e fun v1 => zF v1 h fun v2 => zP 1 v2 g fun v3 => zQ 1 v3 d h nx fun v4 h5 n6 => K (yj.fr a b f e d g l q p w) h5 n6 := by kernel_rfl
theorem yj.t9_s : IR.run yj.t9 C N O K (yj.fr a b f e d g l q p w) h nx =
 zo .add .int p (I 1) fun v1 => K (yj.fr a b f e d g l q v1 w) h nx := by kernel_rfl
theorem yj.t13_L (Inv : Nat -> AV -> T Blk -> Pa -> Prop) {m : Nat} (hm : m < N) (hi : Inv m p h nx)
  (step : ∀ (m : Nat) (z4 z5 z8 z9 : AV) (h : T Blk) (nx : Pa) (R : Ks Prop), Inv m z8 h nx -> (∀ (m' : Nat) (w4 w5 w8 w9 : AV) (h' : T Blk) (nx' : Pa), m' < m -> Inv m' w8 h' nx' -> R (yj.fr a b f e w4 w5 l q w8 w9) h' nx' = .ok True) -> IR.run yj.t12 C N O R (yj.fr a b f e z4 z5 l q z8 z9) h nx = .ok True) :
  IR.run yj.t13 C N O K (yj.fr a b f e d g l q p w) h nx = .ok True := by
 rw [yj.t13];refine yK (fun m tm h nx => ∃ z4 z5 z8 z9, tm = (yj.fr a b f e z4 z5 l q z8 z9) /\ Inv m z8 h nx) ?_ hm ⟨_, _, _, _, rfl, hi⟩;rintro m tm h nx R ⟨z4, z5, z8, z9, rfl, hi⟩ hR;exact step m z4 z5 z8 z9 h nx R hi fun m' w4 w5 w8 w9 h' nx' hlt hi' => hR m' _ h' nx' hlt ⟨_, _, _, _, rfl, hi'⟩
theorem yj.t16_s : IR.run yj.t16 C N O K (yj.fr a b f e d g l q p w) h nx =
 zO 2 e h fun v1 => zQ 2 f v1 h nx fun v2 h3 n4 => K (yj.fr a b f e d g l q p w) h3 n4 := by kernel_rfl
theorem yj.tab : T.get none (.of 124) tbl = some yj := by kernel_rfl
theorem yj.bind (k : T AV -> OP) : zX yj.params [a0] yj.init k = k (yj.fr a0 .undef .undef .undef .undef .undef .undef .undef .undef .undef) := by kernel_rfl
theorem yj.yu : yj.body = yj.t20 := by kernel_rfl
theorem yj.go : zV tbl N C (.of 124) [a0] h nx K0 = IR.run yj.t20 C N (fnO yj.res K0) (ji yj.res K0) (yj.fr a0 .undef .undef .undef .undef .undef .undef .undef .undef .undef) h nx := by
 rw [zJ yj.tab, yj.bind, yj.yu]; kernel_rfl
theorem yj.ret : ji yj.res K0 (yj.fr a b f e d g l q p w) h nx = zO 2 f h fun v1 => K0 v1 h nx := by kernel_rfl
end
end Go.Ev
namespace Go.Ev
open Go Go.Proofs
set_option maxRecDepth 100000
section
variable {N : Nat} {C : Calls Prop} {K0 : Kw Prop} {K : Ks Prop} {h : T Blk} {nx : Pa} {a b f e d g l q p w c i a0 a1 a2 : AV} {O : uz Prop} {tm : T AV} {Kt : KTm} {r : List RO} {s0 s1 s2 s3 s4 s5 s6 s7 s8 s9 s10 s11 s12 s13 s14 s15 s16 s17 s18 s19 s20 s21 s22 s23 s24 s25 s26 s27 s28 s29 s30 s31 s32 s33 s34 s35 s36 s37 s38 s39 : AV}
end
end Go.Ev
namespace Go.Ev
open Go Go.Proofs
set_option maxRecDepth 100000
section
variable {N : Nat} {C : Calls Prop} {K0 : Kw Prop} {K : Ks Prop} {h : T Blk} {nx : Pa} {a b f e d g l q p w c i o a0 a1 : AV} {O : uz Prop} {tm : T AV} {Kt : KTm} {r : List RO} {s0 s1 s2 s3 s4 s5 s6 s7 s8 s9 s10 s11 s12 s13 s14 s15 s16 s17 s18 s19 s20 s21 s22 s23 s24 s25 s26 s27 s28 s29 s30 s31 s32 s33 s34 s35 s36 s37 s38 s39 : AV}
def F75.t0 : IR := .reg [.q (.of 2) (.mv (.c .zf)), .q (.of 3) (.mv (.c (I 0)))]
def F75.t1 : IR := .reg [.s (.mv (.t (.of 0))), .s (.mv (.t (.of 1))), .w .push none (.call (.c (.fn 156 (.of 156) [])) [(.s 1), (.s 0)]), .q (.of 4) (.mv (.s 0))]
def F75.t2 : IR := .reg [.s (.mv (.t (.of 4))), .q (.of 5) (.bin .neq .int (.s 0) (.c (I 0)))]
def F75.t3 : IR := .reg [.s (.mv (.t (.of 4))), .q (.of 2) (.mv (.c .zf)), .q (.of 3) (.mv (.s 0))]
def F75.t4 : IR := .seq F75.t3 .ret
def F75.t5 : IR := .cond (.t (.of 5)) F75.t4 .skip
def F75.t6 : IR := .seq F75.t2 F75.t5
def F75.t7 : IR := .seq F75.t1 F75.t6
def F75.t8 : IR := .reg [.s (.mv (.t (.of 0))), .s (.mv (.t (.of 1))), .w .push none (.call (.c (.fn 157 (.of 157) [])) [(.s 1), (.s 0)]), .s (.ext 0 (.s 0)), .s (.ext 1 (.s 1)), .q (.of 2) (.mv (.s 1)), .q (.of 3) (.mv (.s 0))]
def F75.t9 : IR := .seq F75.t8 .ret
def F75.t10 : IR := .seq F75.t7 F75.t9
def F75.t11 : IR := .seq F75.t0 F75.t10
theorem F75.qi : IR.run F75.t0 C N O K (F75.fr a b f e d g) h nx =
 K (F75.fr a b .zf (I 0) d g) h nx := by kernel_rfl
theorem F75.qj : IR.run F75.t1 C N O K (F75.fr a b f e d g) h nx =
 C.fn 156 (.of 156) [a, b] h nx fun v1 h2 n3 => K (F75.fr a b f e v1 g) h2 n3 := by kernel_rfl
theorem F75.xg : IR.run F75.t2 C N O K (F75.fr a b f e d g) h nx =
 zo .neq .int d (I 0) fun v1 => K (F75.fr a b f e d v1) h nx := by kernel_rfl
theorem F75.t3_s : IR.run F75.t3 C N O K (F75.fr a b f e d g) h nx =
 K (F75.fr a b .zf d d g) h nx := by kernel_rfl
theorem F75.v5 : Arg.ev (.t (.of 5)) ⟨(F75.fr a b f e d g), []⟩ = g := by kernel_rfl
theorem F75.t8_s : IR.run F75.t8 C N O K (F75.fr a b f e d g) h nx =
 C.fn 157 (.of 157) [a, b] h nx fun v1 h2 n3 => xw 0 v1 fun v4 => xw 1 v1 fun v5 => K (F75.fr a b v4 v5 d g) h2 n3 := by kernel_rfl
theorem F75.tab : T.get none (.of 75) tbl = some F75 := by kernel_rfl
theorem F75.bind (k : T AV -> OP) : zX F75.params [a0, a1] F75.init k = k (F75.fr a0 a1 .undef .undef .undef .undef) := by kernel_rfl
theorem F75.yu : F75.body = F75.t11 := by kernel_rfl
theorem F75.go : zV tbl N C (.of 75) [a0, a1] h nx K0 = IR.run F75.t11 C N (fnO F75.res K0) (ji F75.res K0) (F75.fr a0 a1 .undef .undef .undef .undef) h nx := by
 rw [zJ F75.tab, F75.bind, F75.yu]; kernel_rfl
theorem F75.ret : ji F75.res K0 (F75.fr a b f e d g) h nx = K0 (.tup [f, e]) h nx := by kernel_rfl
def F76.t0 : IR := .reg [.w (.loc (.of 2)) none (.box (.t (.of 1))), .q (.of 3) (.mv (.c .zf)), .q (.of 4) (.mv (.c (I 0)))]
def F76.t1 : IR := .reg [.s (.mv (.t (.of 0))), .s (.load (.t (.of 2))), .w .push none (.call (.c (.fn 156 (.of 156) [])) [(.s 1), (.s 0)]), .q (.of 5) (.mv (.s 0))]
def F76.t2 : IR := .reg [.s (.mv (.t (.of 5))), .q (.of 8) (.bin .neq .int (.s 0) (.c (I 0)))]
def F76.t3 : IR := .reg [.s (.mv (.t (.of 5))), .q (.of 3) (.mv (.c .zf)), .q (.of 4) (.mv (.s 0))]
def F76.t4 : IR := .seq F76.t3 .ret
def F76.t5 : IR := .cond (.t (.of 8)) F76.t4 .skip
def F76.t6 : IR := .seq F76.t2 F76.t5
def F76.t7 : IR := .seq F76.t1 F76.t6
def F76.t8 : IR := .reg [.w (.loc (.of 6)) none (.alloc [.zf])]
def F76.t9 : IR := .reg [.s (.mv (.t (.of 0))), .w (.loc (.of 9)) none (.call (.c (.fn 90 (.of 90) [])) [(.s 0)])]
def F76.t10 : IR := .reg [.w (.loc (.of 7)) none (.alloc [.zf, (.bool false)]), .w .none none (.store 2 (.t (.of 7)) (.t (.of 11)))]
def F76.t11 : IR := .yt [] [(.s (.zi 2 (.t (.of 7))), 0, []), (.s (.load (.t (.of 2))), 0, []), (.s (.load (.t (.of 2))), 1, []), (.w .push none (.call (.c (.fn 135 (.of 135) [])) [(.s 2), (.s 1)]), 0, []), (.w (.loc (.of 12)) none (.call (.c (.fn 158 (.of 158) [])) [(.s 0), (.s 1)]), 0, [])]
def F76.t12 : IR := .yt [] [(.s (.load (.t (.of 6))), 2, []), (.s (.zx 0 (.t (.of 7))), 0, []), (.s (.load (.s 0)), 0, []), (.s (.zx 1 (.t (.of 7))), 1, []), (.s (.load (.s 0)), 1, []), (.w .push none (.call (.c (.fn 106 (.of 106) [])) [(.s 2)]), 0, []), (.s (.build [.zf, (.bool false)] [(0, 1, (.s 0)), (1, 1, (.s 1))]), 0, []), (.w .push none (.zy 2 1 [.zf, (.bool false)] [(0, 2, (.s 0))]), 0, []), (.w .push none (.appq 2 32 (.s 7) (.s 0)), 0, []), (.w .none none (.store 1 (.t (.of 6)) (.s 0)), 0, [])]
def F76.t13 : IR := .cond (.t (.of 12)) F76.t12 .skip
def F76.t14 : IR := .seq F76.t11 F76.t13
def F76.t15 : IR := .block 1 F76.t14
def F76.t16 : IR := .rf (.t (.of 9)) [(.of 10), (.of 11)] F76.t10 F76.t15
def F76.t17 : IR := .block 0 F76.t16
def F76.t18 : IR := .seq F76.t9 F76.t17
def F76.t19 : IR := .reg [.s (.load (.t (.of 6))), .q (.of 3) (.mv (.s 0)), .q (.of 4) (.mv (.c (I 0)))]
def F76.t20 : IR := .seq F76.t19 .ret
def F76.t21 : IR := .seq F76.t18 F76.t20
def F76.t22 : IR := .seq F76.t8 F76.t21
def F76.t23 : IR := .seq F76.t7 F76.t22
def F76.t24 : IR := .seq F76.t0 F76.t23
theorem F76.qi : IR.run F76.t0 C N O K (F76.fr a b f e d g l q p w c i o) h nx =
 sBox b h nx fun v1 h2 n3 => K (F76.fr a b v1 .zf (I 0) g l q p w c i o) h2 n3 := by kernel_rfl
theorem F76.qj : IR.run F76.t1 C N O K (F76.fr a b f e d g l q p w c i o) h nx =
 zF f h fun v1 => C.fn 156 (.of 156) [a, v1] h nx fun v2 h3 n4 => K (F76.fr a b f e d v2 l q p w c i o) h3 n4 := by kernel_rfl
theorem F76.xg : IR.run F76.t2 C N O K (F76.fr a b f e d g l q p w c i o) h nx =
 zo .neq .int g (I 0) fun v1 => K (F76.fr a b f e d g l q v1 w c i o) h nx := by kernel_rfl
theorem F76.t3_s : IR.run F76.t3 C N O K (F76.fr a b f e d g l q p w c i o) h nx =
 K (F76.fr a b f .zf g g l q p w c i o) h nx := by kernel_rfl
theorem F76.v8 : Arg.ev (.t (.of 8)) ⟨(F76.fr a b f e d g l q p w c i o), []⟩ = p := by kernel_rfl
theorem F76.t8_s : IR.run F76.t8 C N O K (F76.fr a b f e d g l q p w c i o) h nx =
 yM [.zf] h nx fun v1 h2 n3 => K (F76.fr a b f e d g v1 q p w c i o) h2 n3 := by kernel_rfl
theorem F76.t9_s : IR.run F76.t9 C N O K (F76.fr a b f e d g l q p w c i o) h nx =
 C.fn 90 (.of 90) [a] h nx fun v1 h2 n3 => K (F76.fr a b f e d g l q p v1 c i o) h2 n3 := by kernel_rfl
theorem F76.pq : IR.run F76.t10 C N O K (F76.fr a b f e d g l q p w c i o) h nx =
 yM [.zf, (.bool false)] h nx fun v1 h2 n3 => zQ 2 v1 i h2 n3 fun v4 h5 n6 => K (F76.fr a b f e d g l v1 p w c i o) h5 n6 := by kernel_rfl
theorem F76.fA : IR.run F76.t11 C N O K (F76.fr a b f e d g l q p w c i o) h nx =
 zO 2 q h fun v1 => zF f h fun v2 => zF f h fun v3 => C.fn 135 (.of 135) [v1, v2] h nx fun v4 h5 n6 => (zF f h5 fun vA => zN vA v3 (C.fn 158 (.of 158) [v4, v3] h5 n6 fun v7 h8 n9 => K (F76.fr a b f e d g l q p w c i v7) h8 n9)) := by kernel_rfl
theorem F76.t12_s : IR.run F76.t12 C N O K (F76.fr a b f e d g l q p w c i o) h nx =
 zF l h fun v1 => zW 0 q fun v2 => zF v2 h fun v3 => zW 1 q fun v4 => zF v4 h fun v5 => C.fn 106 (.of 106) [v3] h nx fun v6 h7 n8 => (zF v4 h7 fun vM => zN vM v5 ((zW 1 q fun vL => zN vL v4 ((zF l h7 fun vK => zN vK v1 (kZ [.zf, (.bool false)] [(0, 1, v6), (1, 1, v5)] fun v9 => jD 2 1 [.zf, (.bool false)] [(0, 2, v9)] h7 n8 fun vA hH nH => (zF l hH fun vJ => zN vJ v1 (xM C 2 32 v1 vA hH nH fun vD hI nJ => zQ 1 l vD hI nJ fun vG hG nG => K (F76.fr a b f e d g l q p w c i o) hG nG)))))))) := by kernel_rfl
theorem F76.v12 : Arg.ev (.t (.of 12)) ⟨(F76.fr a b f e d g l q p w c i o), []⟩ = o := by kernel_rfl
theorem F76.t16_f : Arg.ev (.t (.of 9)) ⟨(F76.fr a b f e d g l q p w c i o), []⟩ = w := by kernel_rfl
theorem F76.t16_b {z0 z1 : AV} (k : T AV -> OP) : zX [(.of 10), (.of 11)] [z0, z1] (F76.fr a b f e d g l q p w c i o) k = k (F76.fr a b f e d g l q p w z0 z1 o) := by kernel_rfl
theorem F76.t19_s : IR.run F76.t19 C N O K (F76.fr a b f e d g l q p w c i o) h nx =
 zF l h fun v1 => K (F76.fr a b f v1 (I 0) g l q p w c i o) h nx := by kernel_rfl
theorem F76.tab : T.get none (.of 76) tbl = some F76 := by kernel_rfl
theorem F76.bind (k : T AV -> OP) : zX F76.params [a0, a1] F76.init k = k (F76.fr a0 a1 .undef .undef .undef .undef .undef .undef .undef .undef .undef .undef .undef) := by kernel_rfl
theorem F76.yu : F76.body = F76.t24 := by kernel_rfl
theorem F76.go : zV tbl N C (.of 76) [a0, a1] h nx K0 = IR.run F76.t24 C N (fnO F76.res K0) (ji F76.res K0) (F76.fr a0 a1 .undef .undef .undef .undef .undef .undef .undef .undef .undef .undef .undef) h nx := by
 rw [zJ F76.tab, F76.bind, F76.yu]; kernel_rfl
theorem F76.ret : ji F76.res K0 (F76.fr a b f e d g l q p w c i o) h nx = K0 (.tup [e, d]) h nx := by kernel_rfl
def F47.t0 : IR := .reg [.q (.of 2) (.mv (.c .zf)), .q (.of 3) (.mv (.c (I 0)))]
def F47.t1 : IR := .reg [.s (.mv (.t (.of 0))), .s (.mv (.t (.of 1))), .w .push none (.call (.c (.fn 75 (.of 75) [])) [(.s 1), (.s 0)]), .s (.mv (.s 0)), .s (.ext 0 (.s 0)), .s (.ext 1 (.s 1)), .q (.of 4) (.mv (.s 1)), .q (.of 5) (.mv (.s 0))]
def F47.t2 : IR := .reg [.s (.mv (.t (.of 5))), .q (.of 6) (.bin .neq .int (.s 0) (.c (I 0)))]
def F47.t3 : IR := .reg [.s (.mv (.t (.of 5))), .q (.of 2) (.mv (.c .zf)), .q (.of 3) (.mv (.s 0))]
def F47.t4 : IR := .seq F47.t3 .ret
def F47.t5 : IR := .cond (.t (.of 6)) F47.t4 .skip
def F47.t6 : IR := .seq F47.t2 F47.t5
def F47.t7 : IR := .reg [.s (.mv (.t (.of 4))), .s (.zn 1 (.s 0) (.c (I 0))), .s (.load (.s 0)), .q (.of 2) (.mv (.s 0)), .q (.of 3) (.mv (.c (I 0)))]
def F47.t8 : IR := .seq F47.t7 .ret
def F47.t9 : IR := .seq F47.t6 F47.t8
def F47.t10 : IR := .seq F47.t1 F47.t9
def F47.t11 : IR := .seq F47.t0 F47.t10
theorem F47.qi : IR.run F47.t0 C N O K (F47.fr a b f e d g l) h nx =
 K (F47.fr a b .zf (I 0) d g l) h nx := by kernel_rfl
theorem F47.qj : IR.run F47.t1 C N O K (F47.fr a b f e d g l) h nx =
 C.fn 75 (.of 75) [a, b] h nx fun v1 h2 n3 => xw 0 v1 fun v4 => xw 1 v1 fun v5 => K (F47.fr a b f e v4 v5 l) h2 n3 := by kernel_rfl
theorem F47.xg : IR.run F47.t2 C N O K (F47.fr a b f e d g l) h nx =
 zo .neq .int g (I 0) fun v1 => K (F47.fr a b f e d g v1) h nx := by kernel_rfl
theorem F47.t3_s : IR.run F47.t3 C N O K (F47.fr a b f e d g l) h nx =
 K (F47.fr a b .zf g d g l) h nx := by kernel_rfl
theorem F47.v6 : Arg.ev (.t (.of 6)) ⟨(F47.fr a b f e d g l), []⟩ = l := by kernel_rfl
theorem F47.t7_s : IR.run F47.t7 C N O K (F47.fr a b f e d g l) h nx =
 zP 1 d (I 0) fun v1 => zF v1 h fun v2 => K (F47.fr a b v2 (I 0) d g l) h nx := by kernel_rfl
theorem F47.tab : T.get none (.of 47) tbl = some F47 := by kernel_rfl
theorem F47.bind (k : T AV -> OP) : zX F47.params [a0, a1] F47.init k = k (F47.fr a0 a1 .undef .undef .undef .undef .undef) := by kernel_rfl
theorem F47.yu : F47.body = F47.t11 := by kernel_rfl
theorem F47.go : zV tbl N C (.of 47) [a0, a1] h nx K0 = IR.run F47.t11 C N (fnO F47.res K0) (ji F47.res K0) (F47.fr a0 a1 .undef .undef .undef .undef .undef) h nx := by
 rw [zJ F47.tab, F47.bind, F47.yu]; kernel_rfl
theorem F47.ret : ji F47.res K0 (F47.fr a b f e d g l) h nx = K0 (.tup [f, e]) h nx := by kernel_rfl
def yc.t0 : IR := .reg [.w (.loc (.of 2)) none (.box (.t (.of 1))), .w (.loc (.of 3)) none (.alloc [.zf]), .w (.loc (.of 4)) none (.alloc [(I 0)])]
def yc.t1 : IR := .reg [.w (.loc (.of 5)) none (.alloc [.zf])]
def yc.t2 : IR := .reg [.s (.mv (.t (.of 0))), .w (.loc (.of 8)) none (.call (.c (.fn 90 (.of 90) [])) [(.s 0)])]
def yc.t3 : IR := .reg [.w (.loc (.of 6)) none (.alloc [.zf, (.bool false)]), .w .none none (.store 2 (.t (.of 6)) (.t (.of 10)))]
def yc.t4 : IR := .reg [.s (.zi 2 (.t (.of 6))), .s (.load (.t (.of 2))), .w .push none (.call (.c (.fn 135 (.of 135) [])) [(.s 1), (.s 0)]), .q (.of 7) (.mv (.s 0))]
def yc.t5 : IR := .reg [.s (.mv (.t (.of 7))), .w (.loc (.of 11)) none (.call (.c (.fn 136 (.of 136) [])) [(.s 0), (.c (.fn 137 (.of 137) []))])]
def yc.t6 : IR := .reg [.w .none none (.store 1 (.t (.of 3)) (.c .zf)), .w .none none (.store 1 (.t (.of 4)) (.c (I 3)))]
def yc.t7 : IR := .seq yc.t6 .ret
def yc.t8 : IR := .cond (.t (.of 11)) yc.t7 .skip
def yc.t9 : IR := .seq yc.t5 yc.t8
def yc.t10 : IR := .reg [.s (.load (.t (.of 5))), .s (.mv (.t (.of 7))), .w .push none (.zy 1 1 [.zf] [(0, 1, (.s 0))]), .w .push none (.app 1 24 (.s 2) (.s 0)), .w .none none (.store 1 (.t (.of 5)) (.s 0))]
def yc.t11 : IR := .seq yc.t9 yc.t10
def yc.t12 : IR := .seq yc.t4 yc.t11
def yc.t13 : IR := .block 1 yc.t12
def yc.t14 : IR := .rf (.t (.of 8)) [(.of 9), (.of 10)] yc.t3 yc.t13
def yc.t15 : IR := .block 0 yc.t14
def yc.t16 : IR := .seq yc.t2 yc.t15
def yc.t17 : IR := .reg [.s (.load (.t (.of 5))), .w .push none (.call (.c (.fn 200 (.of 200) [])) [(.s 0), (.c (.fn 201 (.of 201) []))])]
def yc.t18 : IR := .reg [.s (.load (.t (.of 5))), .w .push none (.call (.c (.fn 202 (.of 202) [])) [(.s 0), (.c (.fn 158 (.of 158) []))]), .w .none none (.store 1 (.t (.of 3)) (.s 0)), .w .none none (.store 1 (.t (.of 4)) (.c (I 0)))]
def yc.t19 : IR := .seq yc.t18 .ret
def yc.t20 : IR := .seq yc.t17 yc.t19
def yc.t21 : IR := .seq yc.t16 yc.t20
def yc.t22 : IR := .seq yc.t1 yc.t21
def yc.t23 : IR := .seq yc.t0 yc.t22
theorem yc.qi : IR.run yc.t0 C N O K (yc.fr a b f e d g l q p w c i) h nx =
 sBox b h nx fun v1 h2 n3 => yM [.zf] h2 n3 fun v4 h5 n6 => yM [(I 0)] h5 n6 fun v7 h8 n9 => K (yc.fr a b v1 v4 v7 g l q p w c i) h8 n9 := by kernel_rfl
theorem yc.qj : IR.run yc.t1 C N O K (yc.fr a b f e d g l q p w c i) h nx =
 yM [.zf] h nx fun v1 h2 n3 => K (yc.fr a b f e d v1 l q p w c i) h2 n3 := by kernel_rfl
theorem yc.xg : IR.run yc.t2 C N O K (yc.fr a b f e d g l q p w c i) h nx =
 C.fn 90 (.of 90) [a] h nx fun v1 h2 n3 => K (yc.fr a b f e d g l q v1 w c i) h2 n3 := by kernel_rfl
theorem yc.t3_s : IR.run yc.t3 C N O K (yc.fr a b f e d g l q p w c i) h nx =
 yM [.zf, (.bool false)] h nx fun v1 h2 n3 => zQ 2 v1 c h2 n3 fun v4 h5 n6 => K (yc.fr a b f e d g v1 q p w c i) h5 n6 := by kernel_rfl
theorem yc.t4_s : IR.run yc.t4 C N O K (yc.fr a b f e d g l q p w c i) h nx =
 zO 2 l h fun v1 => zF f h fun v2 => C.fn 135 (.of 135) [v1, v2] h nx fun v3 h4 n5 => K (yc.fr a b f e d g l v3 p w c i) h4 n5 := by kernel_rfl
theorem yc.t5_s : IR.run yc.t5 C N O K (yc.fr a b f e d g l q p w c i) h nx =
 C.fn 136 (.of 136) [q, (.fn 137 (.of 137) [])] h nx fun v1 h2 n3 => K (yc.fr a b f e d g l q p w c v1) h2 n3 := by kernel_rfl
theorem yc.bW : IR.run yc.t6 C N O K (yc.fr a b f e d g l q p w c i) h nx =
 zQ 1 e .zf h nx fun v1 h2 n3 => zQ 1 d (I 3) h2 n3 fun v4 h5 n6 => K (yc.fr a b f e d g l q p w c i) h5 n6 := by kernel_rfl
theorem yc.v11 : Arg.ev (.t (.of 11)) ⟨(yc.fr a b f e d g l q p w c i), []⟩ = i := by kernel_rfl
theorem yc.pq : IR.run yc.t10 C N O K (yc.fr a b f e d g l q p w c i) h nx =
 zF g h fun v1 => jD 1 1 [.zf] [(0, 1, q)] h nx fun v2 h3 n4 => sApp 1 24 v1 v2 h3 n4 fun v5 h6 n7 => zQ 1 g v5 h6 n7 fun v8 h9 nI => K (yc.fr a b f e d g l q p w c i) h9 nI := by kernel_rfl
theorem yc.t14_f : Arg.ev (.t (.of 8)) ⟨(yc.fr a b f e d g l q p w c i), []⟩ = p := by kernel_rfl
theorem yc.t14_b {z0 z1 : AV} (k : T AV -> OP) : zX [(.of 9), (.of 10)] [z0, z1] (yc.fr a b f e d g l q p w c i) k = k (yc.fr a b f e d g l q p z0 z1 i) := by kernel_rfl
theorem yc.t17_s : IR.run yc.t17 C N O K (yc.fr a b f e d g l q p w c i) h nx =
 zF g h fun v1 => C.fn 200 (.of 200) [v1, (.fn 201 (.of 201) [])] h nx fun v2 h3 n4 => K (yc.fr a b f e d g l q p w c i) h3 n4 := by kernel_rfl
theorem yc.t18_s : IR.run yc.t18 C N O K (yc.fr a b f e d g l q p w c i) h nx =
 zF g h fun v1 => C.fn 202 (.of 202) [v1, (.fn 158 (.of 158) [])] h nx fun v2 h3 n4 => zQ 1 e v2 h3 n4 fun v5 h6 n7 => zQ 1 d (I 0) h6 n7 fun v8 h9 nI => K (yc.fr a b f e d g l q p w c i) h9 nI := by kernel_rfl
theorem yc.tab : T.get none (.of 157) tbl = some yc := by kernel_rfl
theorem yc.bind (k : T AV -> OP) : zX yc.params [a0, a1] yc.init k = k (yc.fr a0 a1 .undef .undef .undef .undef .undef .undef .undef .undef .undef .undef) := by kernel_rfl
theorem yc.yu : yc.body = yc.t23 := by kernel_rfl
theorem yc.go : zV tbl N C (.of 157) [a0, a1] h nx K0 = IR.run yc.t23 C N (fnO yc.res K0) (ji yc.res K0) (yc.fr a0 a1 .undef .undef .undef .undef .undef .undef .undef .undef .undef .undef) h nx := by
 rw [zJ yc.tab, yc.bind, yc.yu]; kernel_rfl
theorem yc.ret : ji yc.res K0 (yc.fr a b f e d g l q p w c i) h nx = zF e h fun v1 => zF d h fun v2 => K0 (.tup [v1, v2]) h nx := by kernel_rfl
def jd.t0 : IR := .reg [.q (.of 2) (.mv (.c (I 0)))]
def jd.t1 : IR := .reg [.s (.mv (.t (.of 1))), .w .push none (.call (.c (.fn 134 (.of 134) [])) [(.s 0)]), .q (.of 3) (.mv (.s 0))]
def jd.t2 : IR := .reg [.s (.mv (.t (.of 3))), .q (.of 4) (.bin .neq .int (.s 0) (.c (I 0)))]
def jd.t3 : IR := .reg [.s (.mv (.t (.of 3))), .q (.of 2) (.mv (.s 0))]
def jd.t4 : IR := .seq jd.t3 .ret
def jd.t5 : IR := .cond (.t (.of 4)) jd.t4 .skip
def jd.t6 : IR := .seq jd.t2 jd.t5
def jd.t7 : IR := .seq jd.t1 jd.t6
def jd.t8 : IR := .reg [.s (.mv (.t (.of 0))), .s (.mv (.t (.of 1))), .s (.len (.s 0)), .w .push none (.call (.c (.fn 22 (.of 22) [])) [(.s 2), (.s 0)]), .q (.of 2) (.mv (.s 0))]
def jd.t9 : IR := .seq jd.t8 .ret
def jd.t10 : IR := .seq jd.t7 jd.t9
def jd.t11 : IR := .seq jd.t0 jd.t10
theorem jd.qi : IR.run jd.t0 C N O K (jd.fr a b f e d) h nx =
 K (jd.fr a b (I 0) e d) h nx := by kernel_rfl
theorem jd.qj : IR.run jd.t1 C N O K (jd.fr a b f e d) h nx =
 C.fn 134 (.of 134) [b] h nx fun v1 h2 n3 => K (jd.fr a b f v1 d) h2 n3 := by kernel_rfl
theorem jd.xg : IR.run jd.t2 C N O K (jd.fr a b f e d) h nx =
 zo .neq .int e (I 0) fun v1 => K (jd.fr a b f e v1) h nx := by kernel_rfl
theorem jd.t3_s : IR.run jd.t3 C N O K (jd.fr a b f e d) h nx =
 K (jd.fr a b e e d) h nx := by kernel_rfl
theorem jd.v4 : Arg.ev (.t (.of 4)) ⟨(jd.fr a b f e d), []⟩ = d := by kernel_rfl
theorem jd.t8_s : IR.run jd.t8 C N O K (jd.fr a b f e d) h nx =
 sLen b fun v1 => C.fn 22 (.of 22) [a, v1] h nx fun v2 h3 n4 => K (jd.fr a b v2 e d) h3 n4 := by kernel_rfl
theorem jd.tab : T.get none (.of 156) tbl = some jd := by kernel_rfl
theorem jd.bind (k : T AV -> OP) : zX jd.params [a0, a1] jd.init k = k (jd.fr a0 a1 .undef .undef .undef) := by kernel_rfl
theorem jd.yu : jd.body = jd.t11 := by kernel_rfl
theorem jd.go : zV tbl N C (.of 156) [a0, a1] h nx K0 = IR.run jd.t11 C N (fnO jd.res K0) (ji jd.res K0) (jd.fr a0 a1 .undef .undef .undef) h nx := by
 rw [zJ jd.tab, jd.bind, jd.yu]; kernel_rfl
theorem jd.ret : ji jd.res K0 (jd.fr a b f e d) h nx = K0 f h nx := by kernel_rfl
def zh.t0 : IR := .reg [.q (.of 2) (.mv (.c .zf))]
def zh.t1 : IR := .reg [.s (.mv (.t (.of 0))), .s (.len (.s 0)), .q (.of 6) (.bin .lss .int (.s 0) (.c (I 2)))]
def zh.t2 : IR := .reg [.s (.mv (.t (.of 0))), .q (.of 2) (.mv (.s 0))]
def zh.t3 : IR := .seq zh.t2 .ret
def zh.t4 : IR := .cond (.t (.of 6)) zh.t3 .skip
def zh.t5 : IR := .seq zh.t1 zh.t4
def zh.t6 : IR := .reg [.q (.of 3) (.mv (.c (I 1)))]
def zh.t7 : IR := .reg [.s (.mv (.t (.of 3))), .s (.mv (.t (.of 0))), .s (.len (.s 0)), .q (.of 7) (.bin .lss .int (.s 2) (.s 0))]
def zh.t8 : IR := .cond (.t (.of 7)) .skip (.exit 0)
def zh.t9 : IR := .seq zh.t7 zh.t8
def zh.t10 : IR := .yt [] [(.s (.mv (.t (.of 1))), 0, []), (.s (.mv (.t (.of 0))), 0, []), (.s (.mv (.t (.of 3))), 0, []), (.s (.zn 1 (.s 1) (.s 0)), 0, []), (.s (.load (.s 0)), 0, []), (.s (.mv (.t (.of 0))), 0, []), (.s (.mv (.t (.of 3))), 0, []), (.s (.bin .sub .int (.s 0) (.c (I 1))), 0, []), (.s (.zn 1 (.s 2) (.s 0)), 0, []), (.s (.load (.s 0)), 0, []), (.w (.loc (.of 8)) none (.call (.s 9) [(.s 5), (.s 0)]), 0, [])]
def zh.t11 : IR := .reg [.s (.mv (.t (.of 0))), .s (.mv (.t (.of 3))), .s (.slice 1 (.s 1) (some (.s 0)) none none), .q (.of 4) (.mv (.s 0))]
def zh.t12 : IR := .reg [.q (.of 5) (.mv (.c (I 1)))]
def zh.t13 : IR := .reg [.s (.mv (.t (.of 5))), .s (.mv (.t (.of 4))), .s (.len (.s 0)), .q (.of 9) (.bin .lss .int (.s 2) (.s 0))]
def zh.t14 : IR := .cond (.t (.of 9)) .skip (.exit 2)
def zh.t15 : IR := .seq zh.t13 zh.t14
def zh.t16 : IR := .yt [] [(.s (.mv (.t (.of 1))), 0, []), (.s (.mv (.t (.of 4))), 0, []), (.s (.mv (.t (.of 5))), 0, []), (.s (.zn 1 (.s 1) (.s 0)), 0, []), (.s (.load (.s 0)), 0, []), (.s (.mv (.t (.of 4))), 0, []), (.s (.mv (.t (.of 5))), 0, []), (.s (.bin .sub .int (.s 0) (.c (I 1))), 0, []), (.s (.zn 1 (.s 2) (.s 0)), 0, []), (.s (.load (.s 0)), 0, []), (.w .push none (.call (.s 9) [(.s 5), (.s 0)]), 0, []), (.q (.of 10) (.not (.s 0)), 0, [])]
def zh.t17 : IR := .reg [.s (.mv (.t (.of 0))), .s (.mv (.t (.of 3))), .s (.mv (.t (.of 4))), .s (.mv (.t (.of 5))), .s (.zn 1 (.s 1) (.s 0)), .s (.load (.s 0)), .s (.zn 1 (.s 5) (.s 4)), .w .none none (.store 1 (.s 0) (.s 1))]
def zh.t18 : IR := .reg [.s (.mv (.t (.of 3))), .s (.bin .add .int (.s 0) (.c (I 1))), .q (.of 3) (.mv (.s 0))]
def zh.t19 : IR := .seq zh.t17 zh.t18
def zh.t20 : IR := .cond (.t (.of 10)) zh.t19 .skip
def zh.t21 : IR := .seq zh.t16 zh.t20
def zh.t22 : IR := .block 3 zh.t21
def zh.t23 : IR := .reg [.s (.mv (.t (.of 5))), .s (.bin .add .int (.s 0) (.c (I 1))), .q (.of 5) (.mv (.s 0))]
def zh.t24 : IR := .seq zh.t22 zh.t23
def zh.t25 : IR := .seq zh.t15 zh.t24
def zh.t26 : IR := .loop zh.t25
def zh.t27 : IR := .block 2 zh.t26
def zh.t28 : IR := .seq zh.t12 zh.t27
def zh.t29 : IR := .reg [.s (.mv (.t (.of 0))), .s (.mv (.t (.of 3))), .s (.slice 1 (.s 1) (some (.s 0)) none none), .w .none none (.clr 1 [.zf] (.s 0))]
def zh.t30 : IR := .reg [.s (.mv (.t (.of 0))), .s (.mv (.t (.of 3))), .s (.slice 1 (.s 1) none (some (.s 0)) none), .q (.of 2) (.mv (.s 0))]
def zh.t31 : IR := .seq zh.t30 .ret
def zh.t32 : IR := .seq zh.t29 zh.t31
def zh.t33 : IR := .seq zh.t28 zh.t32
def zh.t34 : IR := .seq zh.t11 zh.t33
def zh.t35 : IR := .cond (.t (.of 8)) zh.t34 .skip
def zh.t36 : IR := .seq zh.t10 zh.t35
def zh.t37 : IR := .block 1 zh.t36
def zh.t38 : IR := .reg [.s (.mv (.t (.of 3))), .s (.bin .add .int (.s 0) (.c (I 1))), .q (.of 3) (.mv (.s 0))]
def zh.t39 : IR := .seq zh.t37 zh.t38
def zh.t40 : IR := .seq zh.t9 zh.t39
def zh.t41 : IR := .loop zh.t40
def zh.t42 : IR := .block 0 zh.t41
def zh.t43 : IR := .seq zh.t6 zh.t42
def zh.t44 : IR := .reg [.s (.mv (.t (.of 0))), .q (.of 2) (.mv (.s 0))]
def zh.t45 : IR := .seq zh.t44 .ret
def zh.t46 : IR := .seq zh.t43 zh.t45
def zh.t47 : IR := .seq zh.t5 zh.t46
def zh.t48 : IR := .seq zh.t0 zh.t47
theorem zh.qi : IR.run zh.t0 C N O K (zh.fr a b f e d g l q p w c) h nx =
 K (zh.fr a b .zf e d g l q p w c) h nx := by kernel_rfl
theorem zh.qj : IR.run zh.t1 C N O K (zh.fr a b f e d g l q p w c) h nx =
 sLen a fun v1 => zo .lss .int v1 (I 2) fun v2 => K (zh.fr a b f e d g v2 q p w c) h nx := by kernel_rfl
theorem zh.xg : IR.run zh.t2 C N O K (zh.fr a b f e d g l q p w c) h nx =
 K (zh.fr a b a e d g l q p w c) h nx := by kernel_rfl
theorem zh.v6 : Arg.ev (.t (.of 6)) ⟨(zh.fr a b f e d g l q p w c), []⟩ = l := by kernel_rfl
theorem zh.bW : IR.run zh.t6 C N O K (zh.fr a b f e d g l q p w c) h nx =
 K (zh.fr a b f (I 1) d g l q p w c) h nx := by kernel_rfl
theorem zh.t7_s : IR.run zh.t7 C N O K (zh.fr a b f e d g l q p w c) h nx =
 sLen a fun v1 => zo .lss .int e v1 fun v2 => K (zh.fr a b f e d g l v2 p w c) h nx := by kernel_rfl
theorem zh.v7 : Arg.ev (.t (.of 7)) ⟨(zh.fr a b f e d g l q p w c), []⟩ = q := by kernel_rfl
theorem zh.pq : IR.run zh.t10 C N O K (zh.fr a b f e d g l q p w c) h nx =
 zP 1 a e fun v1 => zF v1 h fun v2 => zo .sub .int e (I 1) fun v3 => zP 1 a v3 fun v4 => zF v4 h fun v5 => mP C b [v2, v5] h nx fun v6 h7 n8 => K (zh.fr a b f e d g l q v6 w c) h7 n8 := by kernel_rfl
theorem zh.fA : IR.run zh.t11 C N O K (zh.fr a b f e d g l q p w c) h nx =
 jT 1 a (some e) none none fun v1 => K (zh.fr a b f e v1 g l q p w c) h nx := by kernel_rfl
theorem zh.t12_s : IR.run zh.t12 C N O K (zh.fr a b f e d g l q p w c) h nx =
 K (zh.fr a b f e d (I 1) l q p w c) h nx := by kernel_rfl
theorem zh.t13_s : IR.run zh.t13 C N O K (zh.fr a b f e d g l q p w c) h nx =
 sLen d fun v1 => zo .lss .int g v1 fun v2 => K (zh.fr a b f e d g l q p v2 c) h nx := by kernel_rfl
theorem zh.v9 : Arg.ev (.t (.of 9)) ⟨(zh.fr a b f e d g l q p w c), []⟩ = w := by kernel_rfl
theorem zh.t16_s : IR.run zh.t16 C N O K (zh.fr a b f e d g l q p w c) h nx =
 zP 1 d g fun v1 => zF v1 h fun v2 => zo .sub .int g (I 1) fun v3 => zP 1 d v3 fun v4 => zF v4 h fun v5 => mP C b [v2, v5] h nx fun v6 h7 n8 => sNot v6 fun v9 => K (zh.fr a b f e d g l q p w v9) h7 n8 := by kernel_rfl
theorem zh.t17_s : IR.run zh.t17 C N O K (zh.fr a b f e d g l q p w c) h nx =
 zP 1 d g fun v1 => zF v1 h fun v2 => zP 1 a e fun v3 => zQ 1 v3 v2 h nx fun v4 h5 n6 => K (zh.fr a b f e d g l q p w c) h5 n6 := by kernel_rfl
theorem zh.t18_s : IR.run zh.t18 C N O K (zh.fr a b f e d g l q p w c) h nx =
 zo .add .int e (I 1) fun v1 => K (zh.fr a b f v1 d g l q p w c) h nx := by kernel_rfl
theorem zh.v10 : Arg.ev (.t (.of 10)) ⟨(zh.fr a b f e d g l q p w c), []⟩ = c := by kernel_rfl
theorem zh.t23_s : IR.run zh.t23 C N O K (zh.fr a b f e d g l q p w c) h nx =
 zo .add .int g (I 1) fun v1 => K (zh.fr a b f e d v1 l q p w c) h nx := by kernel_rfl
theorem zh.t26_L (Inv : Nat -> AV -> AV -> T Blk -> Pa -> Prop) {m : Nat} (hm : m < N) (hi : Inv m e g h nx)
  (step : ∀ (m : Nat) (z3 z5 z9 zI : AV) (h : T Blk) (nx : Pa) (R : Ks Prop), Inv m z3 z5 h nx -> (∀ (m' : Nat) (w3 w5 w9 wI : AV) (h' : T Blk) (nx' : Pa), m' < m -> Inv m' w3 w5 h' nx' -> R (zh.fr a b f w3 d w5 l q p w9 wI) h' nx' = .ok True) -> IR.run zh.t25 C N O R (zh.fr a b f z3 d z5 l q p z9 zI) h nx = .ok True) :
  IR.run zh.t26 C N O K (zh.fr a b f e d g l q p w c) h nx = .ok True := by
 rw [zh.t26];refine yK (fun m tm h nx => ∃ z3 z5 z9 zI, tm = (zh.fr a b f z3 d z5 l q p z9 zI) /\ Inv m z3 z5 h nx) ?_ hm ⟨_, _, _, _, rfl, hi⟩;rintro m tm h nx R ⟨z3, z5, z9, zI, rfl, hi⟩ hR;exact step m z3 z5 z9 zI h nx R hi fun m' w3 w5 w9 wI h' nx' hlt hi' => hR m' _ h' nx' hlt ⟨_, _, _, _, rfl, hi'⟩
theorem zh.t29_s : IR.run zh.t29 C N O K (zh.fr a b f e d g l q p w c) h nx =
 jT 1 a (some e) none none fun v1 => sClr 1 [.zf] v1 h nx fun v2 h3 n4 => K (zh.fr a b f e d g l q p w c) h3 n4 := by kernel_rfl
theorem zh.t30_s : IR.run zh.t30 C N O K (zh.fr a b f e d g l q p w c) h nx =
 jT 1 a none (some e) none fun v1 => K (zh.fr a b v1 e d g l q p w c) h nx := by kernel_rfl
theorem zh.v8 : Arg.ev (.t (.of 8)) ⟨(zh.fr a b f e d g l q p w c), []⟩ = p := by kernel_rfl
theorem zh.t38_s : IR.run zh.t38 C N O K (zh.fr a b f e d g l q p w c) h nx =
 zo .add .int e (I 1) fun v1 => K (zh.fr a b f v1 d g l q p w c) h nx := by kernel_rfl
theorem zh.t41_L (Inv : Nat -> AV -> T Blk -> Pa -> Prop) {m : Nat} (hm : m < N) (hi : Inv m e h nx)
  (step : ∀ (m : Nat) (z2 z3 z4 z5 z7 z8 z9 zI : AV) (h : T Blk) (nx : Pa) (R : Ks Prop), Inv m z3 h nx -> (∀ (m' : Nat) (w2 w3 w4 w5 w7 w8 w9 wI : AV) (h' : T Blk) (nx' : Pa), m' < m -> Inv m' w3 h' nx' -> R (zh.fr a b w2 w3 w4 w5 l w7 w8 w9 wI) h' nx' = .ok True) -> IR.run zh.t40 C N O R (zh.fr a b z2 z3 z4 z5 l z7 z8 z9 zI) h nx = .ok True) :
  IR.run zh.t41 C N O K (zh.fr a b f e d g l q p w c) h nx = .ok True := by
 rw [zh.t41];refine yK (fun m tm h nx => ∃ z2 z3 z4 z5 z7 z8 z9 zI, tm = (zh.fr a b z2 z3 z4 z5 l z7 z8 z9 zI) /\ Inv m z3 h nx) ?_ hm ⟨_, _, _, _, _, _, _, _, rfl, hi⟩;rintro m tm h nx R ⟨z2, z3, z4, z5, z7, z8, z9, zI, rfl, hi⟩ hR;exact step m z2 z3 z4 z5 z7 z8 z9 zI h nx R hi fun m' w2 w3 w4 w5 w7 w8 w9 wI h' nx' hlt hi' => hR m' _ h' nx' hlt ⟨_, _, _, _, _, _, _, _, rfl, hi'⟩
theorem zh.t44_s : IR.run zh.t44 C N O K (zh.fr a b f e d g l q p w c) h nx =
 K (zh.fr a b a e d g l q p w c) h nx := by kernel_rfl
theorem zh.tab : T.get none (.of 202) tbl = some zh := by kernel_rfl
theorem zh.bind (k : T AV -> OP) : zX zh.params [a0, a1] zh.init k = k (zh.fr a0 a1 .undef .undef .undef .undef .undef .undef .undef .undef .undef) := by kernel_rfl
theorem zh.yu : zh.body = zh.t48 := by kernel_rfl
theorem zh.go : zV tbl N C (.of 202) [a0, a1] h nx K0 = IR.run zh.t48 C N (fnO zh.res K0) (ji zh.res K0) (zh.fr a0 a1 .undef .undef .undef .undef .undef .undef .undef .undef .undef) h nx := by
 rw [zJ zh.tab, zh.bind, zh.yu]; kernel_rfl
theorem zh.ret : ji zh.res K0 (zh.fr a b f e d g l q p w c) h nx = K0 f h nx := by kernel_rfl
end
end Go.Ev
namespace Go.Ev
open Go Go.Proofs
set_option maxRecDepth 100000
section
variable {N : Nat} {C : Calls Prop} {K0 : Kw Prop} {K : Ks Prop} {h : T Blk} {nx : Pa} {a b f e d g l q p w c i o s u v a0 a1 : AV} {O : uz Prop} {tm : T AV} {Kt : KTm} {r : List RO} {s0 s1 s2 s3 s4 s5 s6 s7 s8 s9 s10 s11 s12 s13 s14 s15 s16 s17 s18 s19 s20 s21 s22 s23 s24 s25 s26 s27 s28 s29 s30 s31 s32 s33 s34 s35 s36 s37 s38 s39 : AV}
def F77.t0 : IR := .reg [.q (.of 2) (.mv (.c .zf))]
def F77.t1 : IR := .reg [.q (.of 3) (.mv (.c .zf))]
def F77.t2 : IR := .reg [.q (.of 4) (.mv (.c (I 0)))]
def F77.t3 : IR := .reg [.s (.mv (.t (.of 4))), .s (.mv (.t (.of 0))), .s (.len (.s 0)), .q (.of 5) (.bin .lss .int (.s 2) (.s 0))]
def F77.t4 : IR := .cond (.t (.of 5)) .skip (.exit 0)
def F77.t5 : IR := .seq F77.t3 F77.t4
def F77.t6 : IR := .reg [.s (.mv (.t (.of 0))), .s (.mv (.t (.of 4))), .s (.zn 2 (.s 1) (.s 0)), .s (.zi 2 (.s 0)), .s (.mv (.t (.of 1))), .w .push none (.call (.c (.fn 58 (.of 58) [])) [(.s 1), (.s 0)]), .s (.mv (.t (.of 1))), .w (.loc (.of 6)) none (.call (.c (.fn 82 (.of 82) [])) [(.s 1), (.s 0)])]
def F77.t7 : IR := .reg [.s (.mv (.t (.of 3))), .s (.mv (.t (.of 0))), .s (.mv (.t (.of 4))), .s (.zn 2 (.s 1) (.s 0)), .s (.zi 2 (.s 0)), .w .push none (.zy 2 1 [.zf, (.bool false)] [(0, 2, (.s 0))]), .w .push none (.appq 2 32 (.s 5) (.s 0)), .q (.of 3) (.mv (.s 0))]
def F77.t8 : IR := .cond (.t (.of 6)) F77.t7 .skip
def F77.t9 : IR := .seq F77.t6 F77.t8
def F77.t10 : IR := .block 1 F77.t9
def F77.t11 : IR := .reg [.s (.mv (.t (.of 4))), .s (.bin .add .int (.s 0) (.c (I 1))), .q (.of 4) (.mv (.s 0))]
def F77.t12 : IR := .seq F77.t10 F77.t11
def F77.t13 : IR := .seq F77.t5 F77.t12
def F77.t14 : IR := .loop F77.t13
def F77.t15 : IR := .block 0 F77.t14
def F77.t16 : IR := .seq F77.t2 F77.t15
def F77.t17 : IR := .reg [.s (.mv (.t (.of 3))), .q (.of 2) (.mv (.s 0))]
def F77.t18 : IR := .seq F77.t17 .ret
def F77.t19 : IR := .seq F77.t16 F77.t18
def F77.t20 : IR := .seq F77.t1 F77.t19
def F77.t21 : IR := .seq F77.t0 F77.t20
theorem F77.qi : IR.run F77.t0 C N O K (F77.fr a b f e d g l) h nx =
 K (F77.fr a b .zf e d g l) h nx := by kernel_rfl
theorem F77.qj : IR.run F77.t1 C N O K (F77.fr a b f e d g l) h nx =
 K (F77.fr a b f .zf d g l) h nx := by kernel_rfl
theorem F77.xg : IR.run F77.t2 C N O K (F77.fr a b f e d g l) h nx =
 K (F77.fr a b f e (I 0) g l) h nx := by kernel_rfl
theorem F77.t3_s : IR.run F77.t3 C N O K (F77.fr a b f e d g l) h nx =
 sLen a fun v1 => zo .lss .int d v1 fun v2 => K (F77.fr a b f e d v2 l) h nx := by kernel_rfl
theorem F77.v5 : Arg.ev (.t (.of 5)) ⟨(F77.fr a b f e d g l), []⟩ = g := by kernel_rfl
theorem F77.bW : IR.run F77.t6 C N O K (F77.fr a b f e d g l) h nx =
 zP 2 a d fun v1 => zO 2 v1 h fun v2 => C.fn 58 (.of 58) [v2, b] h nx fun v3 h4 n5 => C.fn 82 (.of 82) [v3, b] h4 n5 fun v6 h7 n8 => K (F77.fr a b f e d g v6) h7 n8 := by kernel_rfl
theorem F77.t7_s : IR.run F77.t7 C N O K (F77.fr a b f e d g l) h nx =
 zP 2 a d fun v1 => zO 2 v1 h fun v2 => jD 2 1 [.zf, (.bool false)] [(0, 2, v2)] h nx fun v3 h4 n5 => xM C 2 32 e v3 h4 n5 fun v6 h7 n8 => K (F77.fr a b f v6 d g l) h7 n8 := by kernel_rfl
theorem F77.v6 : Arg.ev (.t (.of 6)) ⟨(F77.fr a b f e d g l), []⟩ = l := by kernel_rfl
theorem F77.fA : IR.run F77.t11 C N O K (F77.fr a b f e d g l) h nx =
 zo .add .int d (I 1) fun v1 => K (F77.fr a b f e v1 g l) h nx := by kernel_rfl
theorem F77.t14_L (Inv : Nat -> AV -> AV -> T Blk -> Pa -> Prop) {m : Nat} (hm : m < N) (hi : Inv m e d h nx)
  (step : ∀ (m : Nat) (z3 z4 z5 z6 : AV) (h : T Blk) (nx : Pa) (R : Ks Prop), Inv m z3 z4 h nx -> (∀ (m' : Nat) (w3 w4 w5 w6 : AV) (h' : T Blk) (nx' : Pa), m' < m -> Inv m' w3 w4 h' nx' -> R (F77.fr a b f w3 w4 w5 w6) h' nx' = .ok True) -> IR.run F77.t13 C N O R (F77.fr a b f z3 z4 z5 z6) h nx = .ok True) :
  IR.run F77.t14 C N O K (F77.fr a b f e d g l) h nx = .ok True := by
 rw [F77.t14];refine yK (fun m tm h nx => ∃ z3 z4 z5 z6, tm = (F77.fr a b f z3 z4 z5 z6) /\ Inv m z3 z4 h nx) ?_ hm ⟨_, _, _, _, rfl, hi⟩;rintro m tm h nx R ⟨z3, z4, z5, z6, rfl, hi⟩ hR;exact step m z3 z4 z5 z6 h nx R hi fun m' w3 w4 w5 w6 h' nx' hlt hi' => hR m' _ h' nx' hlt ⟨_, _, _, _, rfl, hi'⟩
theorem F77.t17_s : IR.run F77.t17 C N O K (F77.fr a b f e d g l) h nx =
 K (F77.fr a b e e d g l) h nx := by kernel_rfl
theorem F77.tab : T.get none (.of 77) tbl = some F77 := by kernel_rfl
theorem F77.bind (k : T AV -> OP) : zX F77.params [a0, a1] F77.init k = k (F77.fr a0 a1 .undef .undef .undef .undef .undef) := by kernel_rfl
theorem F77.yu : F77.body = F77.t21 := by kernel_rfl
theorem F77.go : zV tbl N C (.of 77) [a0, a1] h nx K0 = IR.run F77.t21 C N (fnO F77.res K0) (ji F77.res K0) (F77.fr a0 a1 .undef .undef .undef .undef .undef) h nx := by
 rw [zJ F77.tab, F77.bind, F77.yu]; kernel_rfl
theorem F77.ret : ji F77.res K0 (F77.fr a b f e d g l) h nx = K0 f h nx := by kernel_rfl
def F78.t0 : IR := .reg [.q (.of 2) (.mv (.c (I 0)))]
def F78.t1 : IR := .reg [.q (.of 3) (.mv (.c (I 0)))]
def F78.t2 : IR := .reg [.s (.mv (.t (.of 3))), .s (.mv (.t (.of 0))), .s (.len (.s 0)), .q (.of 4) (.bin .lss .int (.s 2) (.s 0))]
def F78.t3 : IR := .cond (.t (.of 4)) .skip (.exit 0)
def F78.t4 : IR := .seq F78.t2 F78.t3
def F78.t5 : IR := .reg [.s (.mv (.t (.of 0))), .s (.mv (.t (.of 3))), .s (.zn 2 (.s 1) (.s 0)), .s (.zi 2 (.s 0)), .s (.mv (.t (.of 1))), .w .push none (.call (.c (.fn 58 (.of 58) [])) [(.s 1), (.s 0)]), .w .push none (.call (.c (.fn 59 (.of 59) [])) [(.s 0)]), .q (.of 5) (.bin .neq .int (.s 0) (.c (I 0)))]
def F78.t6 : IR := .reg [.q (.of 2) (.mv (.c (I 3)))]
def F78.t7 : IR := .seq F78.t6 .ret
def F78.t8 : IR := .cond (.t (.of 5)) F78.t7 .skip
def F78.t9 : IR := .seq F78.t5 F78.t8
def F78.t10 : IR := .block 1 F78.t9
def F78.t11 : IR := .reg [.s (.mv (.t (.of 3))), .s (.bin .add .int (.s 0) (.c (I 1))), .q (.of 3) (.mv (.s 0))]
def F78.t12 : IR := .seq F78.t10 F78.t11
def F78.t13 : IR := .seq F78.t4 F78.t12
def F78.t14 : IR := .loop F78.t13
def F78.t15 : IR := .block 0 F78.t14
def F78.t16 : IR := .seq F78.t1 F78.t15
def F78.t17 : IR := .reg [.q (.of 2) (.mv (.c (I 0)))]
def F78.t18 : IR := .seq F78.t17 .ret
def F78.t19 : IR := .seq F78.t16 F78.t18
def F78.t20 : IR := .seq F78.t0 F78.t19
theorem F78.qi : IR.run F78.t0 C N O K (F78.fr a b f e d g) h nx =
 K (F78.fr a b (I 0) e d g) h nx := by kernel_rfl
theorem F78.qj : IR.run F78.t1 C N O K (F78.fr a b f e d g) h nx =
 K (F78.fr a b f (I 0) d g) h nx := by kernel_rfl
theorem F78.xg : IR.run F78.t2 C N O K (F78.fr a b f e d g) h nx =
 sLen a fun v1 => zo .lss .int e v1 fun v2 => K (F78.fr a b f e v2 g) h nx := by kernel_rfl
theorem F78.v4 : Arg.ev (.t (.of 4)) ⟨(F78.fr a b f e d g), []⟩ = d := by kernel_rfl
theorem F78.t5_s : IR.run F78.t5 C N O K (F78.fr a b f e d g) h nx =
 zP 2 a e fun v1 => zO 2 v1 h fun v2 => C.fn 58 (.of 58) [v2, b] h nx fun v3 h4 n5 => C.fn 59 (.of 59) [v3] h4 n5 fun v6 h7 n8 => zo .neq .int v6 (I 0) fun v9 => K (F78.fr a b f e d v9) h7 n8 := by kernel_rfl
theorem F78.bW : IR.run F78.t6 C N O K (F78.fr a b f e d g) h nx =
 K (F78.fr a b (I 3) e d g) h nx := by kernel_rfl
theorem F78.v5 : Arg.ev (.t (.of 5)) ⟨(F78.fr a b f e d g), []⟩ = g := by kernel_rfl
theorem F78.fA : IR.run F78.t11 C N O K (F78.fr a b f e d g) h nx =
 zo .add .int e (I 1) fun v1 => K (F78.fr a b f v1 d g) h nx := by kernel_rfl
theorem F78.t14_L (Inv : Nat -> AV -> T Blk -> Pa -> Prop) {m : Nat} (hm : m < N) (hi : Inv m e h nx)
  (step : ∀ (m : Nat) (z2 z3 z4 z5 : AV) (h : T Blk) (nx : Pa) (R : Ks Prop), Inv m z3 h nx -> (∀ (m' : Nat) (w2 w3 w4 w5 : AV) (h' : T Blk) (nx' : Pa), m' < m -> Inv m' w3 h' nx' -> R (F78.fr a b w2 w3 w4 w5) h' nx' = .ok True) -> IR.run F78.t13 C N O R (F78.fr a b z2 z3 z4 z5) h nx = .ok True) :
  IR.run F78.t14 C N O K (F78.fr a b f e d g) h nx = .ok True := by
 rw [F78.t14];refine yK (fun m tm h nx => ∃ z2 z3 z4 z5, tm = (F78.fr a b z2 z3 z4 z5) /\ Inv m z3 h nx) ?_ hm ⟨_, _, _, _, rfl, hi⟩;rintro m tm h nx R ⟨z2, z3, z4, z5, rfl, hi⟩ hR;exact step m z2 z3 z4 z5 h nx R hi fun m' w2 w3 w4 w5 h' nx' hlt hi' => hR m' _ h' nx' hlt ⟨_, _, _, _, rfl, hi'⟩
theorem F78.t17_s : IR.run F78.t17 C N O K (F78.fr a b f e d g) h nx =
 K (F78.fr a b (I 0) e d g) h nx := by kernel_rfl
theorem F78.tab : T.get none (.of 78) tbl = some F78 := by kernel_rfl
theorem F78.bind (k : T AV -> OP) : zX F78.params [a0, a1] F78.init k = k (F78.fr a0 a1 .undef .undef .undef .undef) := by kernel_rfl
theorem F78.yu : F78.body = F78.t20 := by kernel_rfl
theorem F78.go : zV tbl N C (.of 78) [a0, a1] h nx K0 = IR.run F78.t20 C N (fnO F78.res K0) (ji F78.res K0) (F78.fr a0 a1 .undef .undef .undef .undef) h nx := by
 rw [zJ F78.tab, F78.bind, F78.yu]; kernel_rfl
theorem F78.ret : ji F78.res K0 (F78.fr a b f e d g) h nx = K0 f h nx := by kernel_rfl
def F79.t0 : IR := .reg [.q (.of 2) (.mv (.c .zf))]
def F79.t1 : IR := .reg [.q (.of 3) (.mv (.c .zf))]
def F79.t2 : IR := .reg [.q (.of 4) (.mv (.c (I 0)))]
def F79.t3 : IR := .reg [.s (.mv (.t (.of 4))), .s (.mv (.t (.of 0))), .s (.len (.s 0)), .q (.of 5) (.bin .lss .int (.s 2) (.s 0))]
def F79.t4 : IR := .cond (.t (.of 5)) .skip (.exit 0)
def F79.t5 : IR := .seq F79.t3 F79.t4
def F79.t6 : IR := .reg [.s (.mv (.t (.of 3))), .s (.mv (.t (.of 0))), .s (.mv (.t (.of 4))), .s (.zn 2 (.s 1) (.s 0)), .s (.zi 2 (.s 0)), .s (.mv (.t (.of 1))), .w .push none (.call (.c (.fn 58 (.of 58) [])) [(.s 1), (.s 0)]), .w .push none (.call (.c (.fn 48 (.of 48) [])) [(.s 6), (.s 0)]), .q (.of 3) (.mv (.s 0))]
def F79.t7 : IR := .block 1 F79.t6
def F79.t8 : IR := .reg [.s (.mv (.t (.of 4))), .s (.bin .add .int (.s 0) (.c (I 1))), .q (.of 4) (.mv (.s 0))]
def F79.t9 : IR := .seq F79.t7 F79.t8
def F79.t10 : IR := .seq F79.t5 F79.t9
def F79.t11 : IR := .loop F79.t10
def F79.t12 : IR := .block 0 F79.t11
def F79.t13 : IR := .seq F79.t2 F79.t12
def F79.t14 : IR := .reg [.s (.mv (.t (.of 3))), .q (.of 2) (.mv (.s 0))]
def F79.t15 : IR := .seq F79.t14 .ret
def F79.t16 : IR := .seq F79.t13 F79.t15
def F79.t17 : IR := .seq F79.t1 F79.t16
def F79.t18 : IR := .seq F79.t0 F79.t17
theorem F79.qi : IR.run F79.t0 C N O K (F79.fr a b f e d g) h nx =
 K (F79.fr a b .zf e d g) h nx := by kernel_rfl
theorem F79.qj : IR.run F79.t1 C N O K (F79.fr a b f e d g) h nx =
 K (F79.fr a b f .zf d g) h nx := by kernel_rfl
theorem F79.xg : IR.run F79.t2 C N O K (F79.fr a b f e d g) h nx =
 K (F79.fr a b f e (I 0) g) h nx := by kernel_rfl
theorem F79.t3_s : IR.run F79.t3 C N O K (F79.fr a b f e d g) h nx =
 sLen a fun v1 => zo .lss .int d v1 fun v2 => K (F79.fr a b f e d v2) h nx := by kernel_rfl
theorem F79.v5 : Arg.ev (.t (.of 5)) ⟨(F79.fr a b f e d g), []⟩ = g := by kernel_rfl
theorem F79.bW : IR.run F79.t6 C N O K (F79.fr a b f e d g) h nx =
 zP 2 a d fun v1 => zO 2 v1 h fun v2 => C.fn 58 (.of 58) [v2, b] h nx fun v3 h4 n5 => C.fn 48 (.of 48) [e, v3] h4 n5 fun v6 h7 n8 => K (F79.fr a b f v6 d g) h7 n8 := by kernel_rfl
theorem F79.t8_s : IR.run F79.t8 C N O K (F79.fr a b f e d g) h nx =
 zo .add .int d (I 1) fun v1 => K (F79.fr a b f e v1 g) h nx := by kernel_rfl
theorem F79.t11_L (Inv : Nat -> AV -> AV -> T Blk -> Pa -> Prop) {m : Nat} (hm : m < N) (hi : Inv m e d h nx)
  (step : ∀ (m : Nat) (z3 z4 z5 : AV) (h : T Blk) (nx : Pa) (R : Ks Prop), Inv m z3 z4 h nx -> (∀ (m' : Nat) (w3 w4 w5 : AV) (h' : T Blk) (nx' : Pa), m' < m -> Inv m' w3 w4 h' nx' -> R (F79.fr a b f w3 w4 w5) h' nx' = .ok True) -> IR.run F79.t10 C N O R (F79.fr a b f z3 z4 z5) h nx = .ok True) :
  IR.run F79.t11 C N O K (F79.fr a b f e d g) h nx = .ok True := by
 rw [F79.t11];refine yK (fun m tm h nx => ∃ z3 z4 z5, tm = (F79.fr a b f z3 z4 z5) /\ Inv m z3 z4 h nx) ?_ hm ⟨_, _, _, rfl, hi⟩;rintro m tm h nx R ⟨z3, z4, z5, rfl, hi⟩ hR;exact step m z3 z4 z5 h nx R hi fun m' w3 w4 w5 h' nx' hlt hi' => hR m' _ h' nx' hlt ⟨_, _, _, rfl, hi'⟩
theorem F79.t14_s : IR.run F79.t14 C N O K (F79.fr a b f e d g) h nx =
 K (F79.fr a b e e d g) h nx := by kernel_rfl
theorem F79.tab : T.get none (.of 79) tbl = some F79 := by kernel_rfl
theorem F79.bind (k : T AV -> OP) : zX F79.params [a0, a1] F79.init k = k (F79.fr a0 a1 .undef .undef .undef .undef) := by kernel_rfl
theorem F79.yu : F79.body = F79.t18 := by kernel_rfl
theorem F79.go : zV tbl N C (.of 79) [a0, a1] h nx K0 = IR.run F79.t18 C N (fnO F79.res K0) (ji F79.res K0) (F79.fr a0 a1 .undef .undef .undef .undef) h nx := by
 rw [zJ F79.tab, F79.bind, F79.yu]; kernel_rfl
theorem F79.ret : ji F79.res K0 (F79.fr a b f e d g) h nx = K0 f h nx := by kernel_rfl
def F48.t0 : IR := .reg [.q (.of 2) (.mv (.c .zf))]
def F48.t1 : IR := .reg [.q (.of 3) (.mv (.c (I 0)))]
def F48.r2_2 : List RO := .q (.of 4) (.pick (.s 6) (.s 0) (.c (.bool false))) :: []
def F48.r2_1 : List RO := .p .push (some ((.s 3), true)) (.load (.s 0)) :: .p .push (some ((.s 4), true)) (.mv (.t (.of 1))) :: .w .push (some ((.s 5), true)) (.call (.c (.fn 88 (.of 88) [])) [(.s 1), (.s 0)]) :: F48.r2_2
def F48.r2_0 : List RO := .s (.mv (.t (.of 3))) :: .s (.mv (.t (.of 0))) :: .s (.len (.s 0)) :: .s (.bin .lss .int (.s 2) (.s 0)) :: .s (.mv (.s 0)) :: .p .push (some ((.s 0), true)) (.mv (.t (.of 0))) :: .p .push (some ((.s 1), true)) (.mv (.t (.of 3))) :: .p .push (some ((.s 2), true)) (.zn 1 (.s 1) (.s 0)) :: F48.r2_1
def F48.t2 : IR := .reg F48.r2_0
def F48.t3 : IR := .cond (.t (.of 4)) .skip (.exit 0)
def F48.t4 : IR := .seq F48.t2 F48.t3
def F48.t5 : IR := .reg [.s (.mv (.t (.of 3))), .s (.bin .add .int (.s 0) (.c (I 1))), .q (.of 3) (.mv (.s 0))]
def F48.t6 : IR := .block 1 F48.t5
def F48.t7 : IR := .seq F48.t4 F48.t6
def F48.t8 : IR := .loop F48.t7
def F48.t9 : IR := .block 0 F48.t8
def F48.r4_2 : List RO := .q (.of 5) (.pick (.s 6) (.s 0) (.c (.bool false))) :: []
def F48.r4_1 : List RO := .p .push (some ((.s 3), true)) (.load (.s 0)) :: .p .push (some ((.s 4), true)) (.mv (.t (.of 1))) :: .w .push (some ((.s 5), true)) (.call (.c (.fn 82 (.of 82) [])) [(.s 1), (.s 0)]) :: F48.r4_2
def F48.r4_0 : List RO := .s (.mv (.t (.of 3))) :: .s (.mv (.t (.of 0))) :: .s (.len (.s 0)) :: .s (.bin .lss .int (.s 2) (.s 0)) :: .s (.mv (.s 0)) :: .p .push (some ((.s 0), true)) (.mv (.t (.of 0))) :: .p .push (some ((.s 1), true)) (.mv (.t (.of 3))) :: .p .push (some ((.s 2), true)) (.zn 1 (.s 1) (.s 0)) :: F48.r4_1
def F48.t10 : IR := .reg F48.r4_0
def F48.t11 : IR := .reg [.s (.mv (.t (.of 0))), .q (.of 2) (.mv (.s 0))]
def F48.t12 : IR := .seq F48.t11 .ret
def F48.t13 : IR := .cond (.t (.of 5)) F48.t12 .skip
def F48.t14 : IR := .seq F48.t10 F48.t13
def F48.t15 : IR := .yt [(.zy 1 0 [.zf] [])] [(.s (.mv (.t (.of 0))), 3, []), (.s (.mv (.t (.of 3))), 3, []), (.s (.slice 1 (.s 1) none (some (.s 0)) none), 3, []), (.s (.mv (.t (.of 1))), 2, [(.zy 1 1 [.zf] [(0, 1, (.s 0))])]), (.s (.mv (.t (.of 0))), 4, []), (.s (.mv (.t (.of 3))), 4, []), (.s (.slice 1 (.s 1) (some (.s 0)) none none), 4, []), (.w .push none (.zy 1 0 [.zf] []), 0, []), (.w .push none (.app 1 24 (.s 0) (.s 5)), 0, []), (.w .push none (.zy 1 1 [.zf] [(0, 1, (.s 5))]), 0, []), (.w .push none (.app 1 24 (.s 1) (.s 0)), 0, []), (.w .push none (.app 1 24 (.s 0) (.s 4)), 0, []), (.q (.of 2) (.mv (.s 0)), 0, [])]
def F48.t16 : IR := .seq F48.t15 .ret
def F48.t17 : IR := .seq F48.t14 F48.t16
def F48.t18 : IR := .seq F48.t9 F48.t17
def F48.t19 : IR := .seq F48.t1 F48.t18
def F48.t20 : IR := .seq F48.t0 F48.t19
theorem F48.qi : IR.run F48.t0 C N O K (F48.fr a b f e d g) h nx =
 K (F48.fr a b .zf e d g) h nx := by kernel_rfl
theorem F48.qj : IR.run F48.t1 C N O K (F48.fr a b f e d g) h nx =
 K (F48.fr a b f (I 0) d g) h nx := by kernel_rfl
theorem F48.xg : IR.run F48.t2 C N O K tm h nx = yS F48.r2_0 C ⟨tm, []⟩ h nx (fun tm h nx => K tm.v h nx) := kT ..
theorem F48.r2_0_g : yS (.s (.mv (.t (.of 3))) :: .s (.mv (.t (.of 0))) :: .s (.len (.s 0)) :: .s (.bin .lss .int (.s 2) (.s 0)) :: .s (.mv (.s 0)) :: .p .push (some ((.s 0), true)) (.mv (.t (.of 0))) :: .p .push (some ((.s 1), true)) (.mv (.t (.of 3))) :: .p .push (some ((.s 2), true)) (.zn 1 (.s 1) (.s 0)) :: r) C ⟨(F48.fr a b f e d g), []⟩ h nx Kt =
 sLen a fun v1 => zo .lss .int e v1 fun v2 => sG v2 true (fun k => k a) fun v3 => sG v2 true (fun k => k e) fun v4 => sG v2 true (fun k => zP 1 v3 v4 k) fun v5 => yS r C ⟨(F48.fr a b f e d g), v5 :: v4 :: v3 :: v2 :: v2 :: v1 :: a :: e :: []⟩ h nx Kt := by kernel_rfl
theorem F48.r2_1_g : yS (.p .push (some ((.s 3), true)) (.load (.s 0)) :: .p .push (some ((.s 4), true)) (.mv (.t (.of 1))) :: .w .push (some ((.s 5), true)) (.call (.c (.fn 88 (.of 88) [])) [(.s 1), (.s 0)]) :: r) C ⟨(F48.fr a b f e d g), s0 :: s1 :: s2 :: s3 :: s4 :: s5 :: s6 :: s7 :: []⟩ h nx Kt =
 sG s3 true (fun k => zF s0 h k) fun v1 => sG s3 true (fun k => k b) fun v2 => sGW s3 true (fun k => C.fn 88 (.of 88) [v1, v2] h nx k) h nx fun v3 h4 n5 => yS r C ⟨(F48.fr a b f e d g), v3 :: v2 :: v1 :: s0 :: s1 :: s2 :: s3 :: s4 :: s5 :: s6 :: s7 :: []⟩ h4 n5 Kt := by kernel_rfl
theorem F48.r2_2_g : yS (.q (.of 4) (.pick (.s 6) (.s 0) (.c (.bool false))) :: []) C ⟨(F48.fr a b f e d g), s0 :: s1 :: s2 :: s3 :: s4 :: s5 :: s6 :: s7 :: s8 :: s9 :: s10 :: []⟩ h nx Kt =
 jM s6 s0 (.bool false) fun v1 => Kt ⟨(F48.fr a b f e v1 g), s0 :: s1 :: s2 :: s3 :: s4 :: s5 :: s6 :: s7 :: s8 :: s9 :: s10 :: []⟩ h nx := by kernel_rfl
theorem F48.v4 : Arg.ev (.t (.of 4)) ⟨(F48.fr a b f e d g), []⟩ = d := by kernel_rfl
theorem F48.t5_s : IR.run F48.t5 C N O K (F48.fr a b f e d g) h nx =
 zo .add .int e (I 1) fun v1 => K (F48.fr a b f v1 d g) h nx := by kernel_rfl
theorem F48.t8_L (Inv : Nat -> AV -> T Blk -> Pa -> Prop) {m : Nat} (hm : m < N) (hi : Inv m e h nx)
  (step : ∀ (m : Nat) (z3 z4 : AV) (h : T Blk) (nx : Pa) (R : Ks Prop), Inv m z3 h nx -> (∀ (m' : Nat) (w3 w4 : AV) (h' : T Blk) (nx' : Pa), m' < m -> Inv m' w3 h' nx' -> R (F48.fr a b f w3 w4 g) h' nx' = .ok True) -> IR.run F48.t7 C N O R (F48.fr a b f z3 z4 g) h nx = .ok True) :
  IR.run F48.t8 C N O K (F48.fr a b f e d g) h nx = .ok True := by
 rw [F48.t8];refine yK (fun m tm h nx => ∃ z3 z4, tm = (F48.fr a b f z3 z4 g) /\ Inv m z3 h nx) ?_ hm ⟨_, _, rfl, hi⟩;rintro m tm h nx R ⟨z3, z4, rfl, hi⟩ hR;exact step m z3 z4 h nx R hi fun m' w3 w4 h' nx' hlt hi' => hR m' _ h' nx' hlt ⟨_, _, rfl, hi'⟩
theorem F48.pq : IR.run F48.t10 C N O K tm h nx = yS F48.r4_0 C ⟨tm, []⟩ h nx (fun tm h nx => K tm.v h nx) := kT ..
theorem F48.r4_0_g : yS (.s (.mv (.t (.of 3))) :: .s (.mv (.t (.of 0))) :: .s (.len (.s 0)) :: .s (.bin .lss .int (.s 2) (.s 0)) :: .s (.mv (.s 0)) :: .p .push (some ((.s 0), true)) (.mv (.t (.of 0))) :: .p .push (some ((.s 1), true)) (.mv (.t (.of 3))) :: .p .push (some ((.s 2), true)) (.zn 1 (.s 1) (.s 0)) :: r) C ⟨(F48.fr a b f e d g), []⟩ h nx Kt =
 sLen a fun v1 => zo .lss .int e v1 fun v2 => sG v2 true (fun k => k a) fun v3 => sG v2 true (fun k => k e) fun v4 => sG v2 true (fun k => zP 1 v3 v4 k) fun v5 => yS r C ⟨(F48.fr a b f e d g), v5 :: v4 :: v3 :: v2 :: v2 :: v1 :: a :: e :: []⟩ h nx Kt := by kernel_rfl
theorem F48.r4_1_g : yS (.p .push (some ((.s 3), true)) (.load (.s 0)) :: .p .push (some ((.s 4), true)) (.mv (.t (.of 1))) :: .w .push (some ((.s 5), true)) (.call (.c (.fn 82 (.of 82) [])) [(.s 1), (.s 0)]) :: r) C ⟨(F48.fr a b f e d g), s0 :: s1 :: s2 :: s3 :: s4 :: s5 :: s6 :: s7 :: []⟩ h nx Kt =
 sG s3 true (fun k => zF s0 h k) fun v1 => sG s3 true (fun k => k b) fun v2 => sGW s3 true (fun k => C.fn 82 (.of 82) [v1, v2] h nx k) h nx fun v3 h4 n5 => yS r C ⟨(F48.fr a b f e d g), v3 :: v2 :: v1 :: s0 :: s1 :: s2 :: s3 :: s4 :: s5 :: s6 :: s7 :: []⟩ h4 n5 Kt := by kernel_rfl
theorem F48.r4_2_g : yS (.q (.of 5) (.pick (.s 6) (.s 0) (.c (.bool false))) :: []) C ⟨(F48.fr a b f e d g), s0 :: s1 :: s2 :: s3 :: s4 :: s5 :: s6 :: s7 :: s8 :: s9 :: s10 :: []⟩ h nx Kt =
 jM s6 s0 (.bool false) fun v1 => Kt ⟨(F48.fr a b f e d v1), s0 :: s1 :: s2 :: s3 :: s4 :: s5 :: s6 :: s7 :: s8 :: s9 :: s10 :: []⟩ h nx := by kernel_rfl
theorem F48.fA : IR.run F48.t11 C N O K (F48.fr a b f e d g) h nx =
 K (F48.fr a b a e d g) h nx := by kernel_rfl
theorem F48.v5 : Arg.ev (.t (.of 5)) ⟨(F48.fr a b f e d g), []⟩ = g := by kernel_rfl
theorem F48.t15_s : IR.run F48.t15 C N O K (F48.fr a b f e d g) h nx =
 sChk ((gB (dh 0 [.zf]) []).isSome && true) (jT 1 a none (some e) none fun v1 => sChk ((gB (dh 1 [.zf]) [(0, 1, b)]).isSome && true) (jT 1 a (some e) none none fun v2 => jD 1 0 [.zf] [] h nx fun v3 h4 n5 => (jT 1 a (some e) none none fun vO => zN vO v2 (zN e e (zN a a (zN b b ((jT 1 a none (some e) none fun vN => zN vN v1 (zN e e (zN a a (sApp 1 24 v3 v1 h4 n5 fun v6 h7 n8 => (jT 1 a (some e) none none fun vM => zN vM v2 (zN e e (zN a a (zN b b ((jT 1 a none (some e) none fun vL => zN vL v1 (zN e e (zN a a (jD 1 1 [.zf] [(0, 1, b)] h7 n8 fun v9 hV nV => (jT 1 a (some e) none none fun vK => zN vK v2 (zN e e (zN a a ((jT 1 a none (some e) none fun vJ => zN vJ v1 (zN e e (zN a a (sApp 1 24 v6 v9 hV nV fun vC h13 n14 => (jT 1 a (some e) none none fun vI => zN vI v2 (zN e e (zN a a (sApp 1 24 vC v2 h13 n14 fun vF hB nB => K (F48.fr a b vF e d g) hB nB)))))))))))))))))))))))))))))))) := by kernel_rfl
theorem F48.tab : T.get none (.of 48) tbl = some F48 := by kernel_rfl
theorem F48.bind (k : T AV -> OP) : zX F48.params [a0, a1] F48.init k = k (F48.fr a0 a1 .undef .undef .undef .undef) := by kernel_rfl
theorem F48.yu : F48.body = F48.t20 := by kernel_rfl
theorem F48.go : zV tbl N C (.of 48) [a0, a1] h nx K0 = IR.run F48.t20 C N (fnO F48.res K0) (ji F48.res K0) (F48.fr a0 a1 .undef .undef .undef .undef) h nx := by
 rw [zJ F48.tab, F48.bind, F48.yu]; kernel_rfl
theorem F48.ret : ji F48.res K0 (F48.fr a b f e d g) h nx = K0 f h nx := by kernel_rfl
def F12.t0 : IR := .reg [.q (.of 2) (.mv (.c (.bool false)))]
def F12.r1_3 : List RO := .q (.of 11) (.pick (.s 2) (.c (.bool true)) (.s 0)) :: []
def F12.r1_2 : List RO := .s (.pick (.s 2) (.c (.bool true)) (.s 0)) :: .s (.mv (.s 0)) :: .p .push (some ((.s 0), false)) (.mv (.t (.of 1))) :: .w .push (some ((.s 1), false)) (.call (.c (.fn 51 (.of 51) [])) [(.s 0)]) :: F12.r1_3
def F12.r1_1 : List RO := .s (.not (.s 0)) :: .s (.mv (.s 0)) :: .p .push (some ((.s 0), false)) (.mv (.t (.of 0))) :: .w .push (some ((.s 1), false)) (.call (.c (.fn 19 (.of 19) [])) [(.s 0), (.c (I 24))]) :: F12.r1_2
def F12.r1_0 : List RO := .w .push none (.call (.c (.fn 18 (.of 18) [])) []) :: F12.r1_1
def F12.t1 : IR := .reg F12.r1_0
def F12.t2 : IR := .reg [.w .push none (.call (.c (.fn 18 (.of 18) [])) []), .q (.of 2) (.mv (.s 0))]
def F12.t3 : IR := .seq F12.t2 .ret
def F12.t4 : IR := .cond (.t (.of 11)) F12.t3 .skip
def F12.t5 : IR := .seq F12.t1 F12.t4
def F12.t6 : IR := .reg [.s (.mv (.t (.of 0))), .s (.mv (.t (.of 1))), .w .push none (.call (.c (.fn 75 (.of 75) [])) [(.s 1), (.s 0)]), .s (.mv (.s 0)), .s (.ext 0 (.s 0)), .s (.ext 1 (.s 1)), .q (.of 3) (.mv (.s 1)), .q (.of 4) (.mv (.s 0))]
def F12.t7 : IR := .reg [.s (.mv (.t (.of 0))), .s (.mv (.t (.of 1))), .w .push none (.call (.c (.fn 76 (.of 76) [])) [(.s 1), (.s 0)]), .s (.mv (.s 0)), .s (.ext 0 (.s 0)), .s (.ext 1 (.s 1)), .q (.of 5) (.mv (.s 1)), .q (.of 6) (.mv (.s 0))]
def F12.t8 : IR := .reg [.s (.mv (.t (.of 0))), .s (.mv (.t (.of 1))), .w .push none (.call (.c (.fn 47 (.of 47) [])) [(.s 1), (.s 0)]), .s (.mv (.s 0)), .s (.ext 0 (.s 0)), .s (.ext 1 (.s 1)), .q (.of 7) (.mv (.s 1)), .q (.of 8) (.mv (.s 0))]
def F12.t9 : IR := .reg [.s (.mv (.t (.of 1))), .w .push none (.call (.c (.fn 57 (.of 57) [])) [(.s 0)]), .q (.of 9) (.mv (.s 0))]
def F12.t10 : IR := .reg [.s (.mv (.t (.of 9))), .q (.of 12) (.bin .eql .int (.s 0) (.c (I 0)))]
def F12.t11 : IR := .reg [.s (.mv (.t (.of 0))), .s (.mv (.t (.of 1))), .s (.len (.s 0)), .w .push none (.call (.c (.fn 20 (.of 20) [])) [(.s 2), (.s 0)]), .q (.of 9) (.mv (.s 0))]
def F12.t12 : IR := .cond (.t (.of 12)) F12.t11 .skip
def F12.t13 : IR := .seq F12.t10 F12.t12
def F12.t14 : IR := .reg [.s (.mv (.t (.of 9))), .q (.of 13) (.bin .neq .int (.s 0) (.c (I 0)))]
def F12.r10_3 : List RO := .s (.pick (.s 4) (.s 0) (.c (.bool false))) :: .q (.of 2) (.mv (.s 0)) :: []
def F12.r10_2 : List RO := .s (.pick (.s 4) (.s 0) (.c (.bool false))) :: .s (.mv (.s 0)) :: .p .push (some ((.s 0), true)) (.mv (.t (.of 7))) :: .p .push (some ((.s 1), true)) (.mv (.t (.of 8))) :: .p .push (some ((.s 2), true)) (.mv (.t (.of 9))) :: .w .push (some ((.s 3), true)) (.call (.c (.fn 60 (.of 60) [])) [(.s 2), (.s 1), (.s 0), (.c .zf)]) :: F12.r10_3
def F12.r10_1 : List RO := .s (.mv (.s 0)) :: .p .push (some ((.s 0), true)) (.mv (.t (.of 5))) :: .p .push (some ((.s 1), true)) (.mv (.t (.of 6))) :: .p .push (some ((.s 2), true)) (.mv (.t (.of 9))) :: .w .push (some ((.s 3), true)) (.call (.c (.fn 28 (.of 28) [])) [(.s 2), (.s 1), (.s 0), (.c .zf)]) :: F12.r10_2
def F12.r10_0 : List RO := .s (.mv (.t (.of 3))) :: .s (.mv (.t (.of 4))) :: .s (.mv (.t (.of 9))) :: .w .push none (.call (.c (.fn 23 (.of 23) [])) [(.s 2), (.s 1), (.s 0), (.c .zf)]) :: F12.r10_1
def F12.t15 : IR := .reg F12.r10_0
def F12.t16 : IR := .seq F12.t15 .ret
def F12.t17 : IR := .cond (.t (.of 13)) F12.t16 .skip
def F12.t18 : IR := .seq F12.t14 F12.t17
def F12.t19 : IR := .reg [.s (.mv (.t (.of 5))), .s (.mv (.t (.of 6))), .s (.mv (.t (.of 0))), .s (.mv (.t (.of 1))), .w .push none (.call (.c (.fn 77 (.of 77) [])) [(.s 1), (.s 0)]), .w .push none (.call (.c (.fn 28 (.of 28) [])) [(.s 4), (.s 3), (.c (I 0)), (.s 0)]), .q (.of 14) (.not (.s 0))]
def F12.t20 : IR := .reg [.q (.of 2) (.mv (.c (.bool false)))]
def F12.t21 : IR := .seq F12.t20 .ret
def F12.t22 : IR := .cond (.t (.of 14)) F12.t21 .skip
def F12.t23 : IR := .seq F12.t19 F12.t22
def F12.t24 : IR := .reg [.s (.mv (.t (.of 0))), .s (.mv (.t (.of 1))), .w .push none (.call (.c (.fn 78 (.of 78) [])) [(.s 1), (.s 0)]), .q (.of 9) (.mv (.s 0))]
def F12.t25 : IR := .reg [.s (.mv (.t (.of 9))), .q (.of 15) (.bin .neq .int (.s 0) (.c (I 0)))]
def F12.r15_2 : List RO := .s (.pick (.s 4) (.s 0) (.c (.bool false))) :: .q (.of 2) (.mv (.s 0)) :: []
def F12.r15_1 : List RO := .s (.mv (.s 0)) :: .p .push (some ((.s 0), true)) (.mv (.t (.of 7))) :: .p .push (some ((.s 1), true)) (.mv (.t (.of 8))) :: .p .push (some ((.s 2), true)) (.mv (.t (.of 9))) :: .w .push (some ((.s 3), true)) (.call (.c (.fn 60 (.of 60) [])) [(.s 2), (.s 1), (.s 0), (.c .zf)]) :: F12.r15_2
def F12.r15_0 : List RO := .s (.mv (.t (.of 3))) :: .s (.mv (.t (.of 4))) :: .s (.mv (.t (.of 9))) :: .w .push none (.call (.c (.fn 23 (.of 23) [])) [(.s 2), (.s 1), (.s 0), (.c .zf)]) :: F12.r15_1
def F12.t26 : IR := .reg F12.r15_0
def F12.t27 : IR := .seq F12.t26 .ret
def F12.t28 : IR := .cond (.t (.of 15)) F12.t27 .skip
def F12.t29 : IR := .seq F12.t25 F12.t28
def F12.t30 : IR := .seq F12.t24 F12.t29
def F12.t31 : IR := .reg [.s (.mv (.t (.of 0))), .s (.mv (.t (.of 1))), .w .push none (.call (.c (.fn 79 (.of 79) [])) [(.s 1), (.s 0)]), .q (.of 10) (.mv (.s 0))]
def F12.r17_2 : List RO := .s (.pick (.s 6) (.s 0) (.c (.bool false))) :: .q (.of 2) (.mv (.s 0)) :: []
def F12.r17_1 : List RO := .s (.mv (.s 0)) :: .p .push (some ((.s 0), true)) (.mv (.t (.of 7))) :: .p .push (some ((.s 1), true)) (.mv (.t (.of 8))) :: .p .push (some ((.s 2), true)) (.mv (.t (.of 10))) :: .p .push (some ((.s 3), true)) (.zn 1 (.s 0) (.c (I 0))) :: .p .push (some ((.s 4), true)) (.load (.s 0)) :: .w .push (some ((.s 5), true)) (.call (.c (.fn 60 (.of 60) [])) [(.s 4), (.s 3), (.c (I 0)), (.s 0)]) :: F12.r17_2
def F12.r17_0 : List RO := .s (.mv (.t (.of 3))) :: .s (.mv (.t (.of 4))) :: .s (.mv (.t (.of 10))) :: .w .push none (.call (.c (.fn 23 (.of 23) [])) [(.s 2), (.s 1), (.c (I 0)), (.s 0)]) :: F12.r17_1
def F12.t32 : IR := .reg F12.r17_0
def F12.t33 : IR := .seq F12.t32 .ret
def F12.t34 : IR := .seq F12.t31 F12.t33
def F12.t35 : IR := .seq F12.t30 F12.t34
def F12.t36 : IR := .seq F12.t23 F12.t35
def F12.t37 : IR := .seq F12.t18 F12.t36
def F12.t38 : IR := .seq F12.t13 F12.t37
def F12.t39 : IR := .seq F12.t9 F12.t38
def F12.t40 : IR := .seq F12.t8 F12.t39
def F12.t41 : IR := .seq F12.t7 F12.t40
def F12.t42 : IR := .seq F12.t6 F12.t41
def F12.t43 : IR := .seq F12.t5 F12.t42
def F12.t44 : IR := .seq F12.t0 F12.t43
theorem F12.qi : IR.run F12.t0 C N O K (F12.fr a b f e d g l q p w c i o s u v) h nx =
 K (F12.fr a b (.bool false) e d g l q p w c i o s u v) h nx := by kernel_rfl
theorem F12.qj : IR.run F12.t1 C N O K tm h nx = yS F12.r1_0 C ⟨tm, []⟩ h nx (fun tm h nx => K tm.v h nx) := kT ..
theorem F12.r1_0_g : yS (.w .push none (.call (.c (.fn 18 (.of 18) [])) []) :: r) C ⟨(F12.fr a b f e d g l q p w c i o s u v), []⟩ h nx Kt =
 C.fn 18 (.of 18) [] h nx fun v1 h2 n3 => yS r C ⟨(F12.fr a b f e d g l q p w c i o s u v), v1 :: []⟩ h2 n3 Kt := by kernel_rfl
theorem F12.r1_1_g : yS (.s (.not (.s 0)) :: .s (.mv (.s 0)) :: .p .push (some ((.s 0), false)) (.mv (.t (.of 0))) :: .w .push (some ((.s 1), false)) (.call (.c (.fn 19 (.of 19) [])) [(.s 0), (.c (I 24))]) :: r) C ⟨(F12.fr a b f e d g l q p w c i o s u v), s0 :: []⟩ h nx Kt =
 sNot s0 fun v1 => sG v1 false (fun k => k a) fun v2 => sGW v1 false (fun k => C.fn 19 (.of 19) [v2, (I 24)] h nx k) h nx fun v3 h4 n5 => yS r C ⟨(F12.fr a b f e d g l q p w c i o s u v), v3 :: v2 :: v1 :: v1 :: s0 :: []⟩ h4 n5 Kt := by kernel_rfl
theorem F12.r1_2_g : yS (.s (.pick (.s 2) (.c (.bool true)) (.s 0)) :: .s (.mv (.s 0)) :: .p .push (some ((.s 0), false)) (.mv (.t (.of 1))) :: .w .push (some ((.s 1), false)) (.call (.c (.fn 51 (.of 51) [])) [(.s 0)]) :: r) C ⟨(F12.fr a b f e d g l q p w c i o s u v), s0 :: s1 :: s2 :: s3 :: s4 :: []⟩ h nx Kt =
 jM s2 (.bool true) s0 fun v1 => sG v1 false (fun k => k b) fun v2 => sGW v1 false (fun k => C.fn 51 (.of 51) [v2] h nx k) h nx fun v3 h4 n5 => yS r C ⟨(F12.fr a b f e d g l q p w c i o s u v), v3 :: v2 :: v1 :: v1 :: s0 :: s1 :: s2 :: s3 :: s4 :: []⟩ h4 n5 Kt := by kernel_rfl
theorem F12.r1_3_g : yS (.q (.of 11) (.pick (.s 2) (.c (.bool true)) (.s 0)) :: []) C ⟨(F12.fr a b f e d g l q p w c i o s u v), s0 :: s1 :: s2 :: s3 :: s4 :: s5 :: s6 :: s7 :: s8 :: []⟩ h nx Kt =
 jM s2 (.bool true) s0 fun v1 => Kt ⟨(F12.fr a b f e d g l q p w c v1 o s u v), s0 :: s1 :: s2 :: s3 :: s4 :: s5 :: s6 :: s7 :: s8 :: []⟩ h nx := by kernel_rfl
theorem F12.xg : IR.run F12.t2 C N O K (F12.fr a b f e d g l q p w c i o s u v) h nx =
 C.fn 18 (.of 18) [] h nx fun v1 h2 n3 => K (F12.fr a b v1 e d g l q p w c i o s u v) h2 n3 := by kernel_rfl
theorem F12.v11 : Arg.ev (.t (.of 11)) ⟨(F12.fr a b f e d g l q p w c i o s u v), []⟩ = i := by kernel_rfl
theorem F12.bW : IR.run F12.t6 C N O K (F12.fr a b f e d g l q p w c i o s u v) h nx =
 C.fn 75 (.of 75) [a, b] h nx fun v1 h2 n3 => xw 0 v1 fun v4 => xw 1 v1 fun v5 => K (F12.fr a b f v4 v5 g l q p w c i o s u v) h2 n3 := by kernel_rfl
theorem F12.t7_s : IR.run F12.t7 C N O K (F12.fr a b f e d g l q p w c i o s u v) h nx =
 C.fn 76 (.of 76) [a, b] h nx fun v1 h2 n3 => xw 0 v1 fun v4 => xw 1 v1 fun v5 => K (F12.fr a b f e d v4 v5 q p w c i o s u v) h2 n3 := by kernel_rfl
theorem F12.t8_s : IR.run F12.t8 C N O K (F12.fr a b f e d g l q p w c i o s u v) h nx =
 C.fn 47 (.of 47) [a, b] h nx fun v1 h2 n3 => xw 0 v1 fun v4 => xw 1 v1 fun v5 => K (F12.fr a b f e d g l v4 v5 w c i o s u v) h2 n3 := by kernel_rfl
theorem F12.t9_s : IR.run F12.t9 C N O K (F12.fr a b f e d g l q p w c i o s u v) h nx =
 C.fn 57 (.of 57) [b] h nx fun v1 h2 n3 => K (F12.fr a b f e d g l q p v1 c i o s u v) h2 n3 := by kernel_rfl
theorem F12.pq : IR.run F12.t10 C N O K (F12.fr a b f e d g l q p w c i o s u v) h nx =
 zo .eql .int w (I 0) fun v1 => K (F12.fr a b f e d g l q p w c i v1 s u v) h nx := by kernel_rfl
theorem F12.fA : IR.run F12.t11 C N O K (F12.fr a b f e d g l q p w c i o s u v) h nx =
 sLen b fun v1 => C.fn 20 (.of 20) [a, v1] h nx fun v2 h3 n4 => K (F12.fr a b f e d g l q p v2 c i o s u v) h3 n4 := by kernel_rfl
theorem F12.v12 : Arg.ev (.t (.of 12)) ⟨(F12.fr a b f e d g l q p w c i o s u v), []⟩ = o := by kernel_rfl
theorem F12.t14_s : IR.run F12.t14 C N O K (F12.fr a b f e d g l q p w c i o s u v) h nx =
 zo .neq .int w (I 0) fun v1 => K (F12.fr a b f e d g l q p w c i o v1 u v) h nx := by kernel_rfl
theorem F12.t15_s : IR.run F12.t15 C N O K tm h nx = yS F12.r10_0 C ⟨tm, []⟩ h nx (fun tm h nx => K tm.v h nx) := kT ..
theorem F12.r10_0_g : yS (.s (.mv (.t (.of 3))) :: .s (.mv (.t (.of 4))) :: .s (.mv (.t (.of 9))) :: .w .push none (.call (.c (.fn 23 (.of 23) [])) [(.s 2), (.s 1), (.s 0), (.c .zf)]) :: r) C ⟨(F12.fr a b f e d g l q p w c i o s u v), []⟩ h nx Kt =
 C.fn 23 (.of 23) [e, d, w, .zf] h nx fun v1 h2 n3 => yS r C ⟨(F12.fr a b f e d g l q p w c i o s u v), v1 :: w :: d :: e :: []⟩ h2 n3 Kt := by kernel_rfl
theorem F12.r10_1_g : yS (.s (.mv (.s 0)) :: .p .push (some ((.s 0), true)) (.mv (.t (.of 5))) :: .p .push (some ((.s 1), true)) (.mv (.t (.of 6))) :: .p .push (some ((.s 2), true)) (.mv (.t (.of 9))) :: .w .push (some ((.s 3), true)) (.call (.c (.fn 28 (.of 28) [])) [(.s 2), (.s 1), (.s 0), (.c .zf)]) :: r) C ⟨(F12.fr a b f e d g l q p w c i o s u v), s0 :: s1 :: s2 :: s3 :: []⟩ h nx Kt =
 sG s0 true (fun k => k g) fun v1 => sG s0 true (fun k => k l) fun v2 => sG s0 true (fun k => k w) fun v3 => sGW s0 true (fun k => C.fn 28 (.of 28) [v1, v2, v3, .zf] h nx k) h nx fun v4 h5 n6 => yS r C ⟨(F12.fr a b f e d g l q p w c i o s u v), v4 :: v3 :: v2 :: v1 :: s0 :: s0 :: s1 :: s2 :: s3 :: []⟩ h5 n6 Kt := by kernel_rfl
theorem F12.r10_2_g : yS (.s (.pick (.s 4) (.s 0) (.c (.bool false))) :: .s (.mv (.s 0)) :: .p .push (some ((.s 0), true)) (.mv (.t (.of 7))) :: .p .push (some ((.s 1), true)) (.mv (.t (.of 8))) :: .p .push (some ((.s 2), true)) (.mv (.t (.of 9))) :: .w .push (some ((.s 3), true)) (.call (.c (.fn 60 (.of 60) [])) [(.s 2), (.s 1), (.s 0), (.c .zf)]) :: r) C ⟨(F12.fr a b f e d g l q p w c i o s u v), s0 :: s1 :: s2 :: s3 :: s4 :: s5 :: s6 :: s7 :: s8 :: []⟩ h nx Kt =
 jM s4 s0 (.bool false) fun v1 => sG v1 true (fun k => k q) fun v2 => sG v1 true (fun k => k p) fun v3 => sG v1 true (fun k => k w) fun v4 => sGW v1 true (fun k => C.fn 60 (.of 60) [v2, v3, v4, .zf] h nx k) h nx fun v5 h6 n7 => yS r C ⟨(F12.fr a b f e d g l q p w c i o s u v), v5 :: v4 :: v3 :: v2 :: v1 :: v1 :: s0 :: s1 :: s2 :: s3 :: s4 :: s5 :: s6 :: s7 :: s8 :: []⟩ h6 n7 Kt := by kernel_rfl
theorem F12.r10_3_g : yS (.s (.pick (.s 4) (.s 0) (.c (.bool false))) :: .q (.of 2) (.mv (.s 0)) :: []) C ⟨(F12.fr a b f e d g l q p w c i o s u v), s0 :: s1 :: s2 :: s3 :: s4 :: s5 :: s6 :: s7 :: s8 :: s9 :: s10 :: s11 :: s12 :: s13 :: s14 :: []⟩ h nx Kt =
 jM s4 s0 (.bool false) fun v1 => Kt ⟨(F12.fr a b v1 e d g l q p w c i o s u v), v1 :: s0 :: s1 :: s2 :: s3 :: s4 :: s5 :: s6 :: s7 :: s8 :: s9 :: s10 :: s11 :: s12 :: s13 :: s14 :: []⟩ h nx := by kernel_rfl
theorem F12.v13 : Arg.ev (.t (.of 13)) ⟨(F12.fr a b f e d g l q p w c i o s u v), []⟩ = s := by kernel_rfl
theorem F12.t19_s : IR.run F12.t19 C N O K (F12.fr a b f e d g l q p w c i o s u v) h nx =
 C.fn 77 (.of 77) [a, b] h nx fun v1 h2 n3 => C.fn 28 (.of 28) [g, l, (I 0), v1] h2 n3 fun v4 h5 n6 => sNot v4 fun v7 => K (F12.fr a b f e d g l q p w c i o s v7 v) h5 n6 := by kernel_rfl
theorem F12.v14 : Arg.ev (.t (.of 14)) ⟨(F12.fr a b f e d g l q p w c i o s u v), []⟩ = u := by kernel_rfl
theorem F12.t24_s : IR.run F12.t24 C N O K (F12.fr a b f e d g l q p w c i o s u v) h nx =
 C.fn 78 (.of 78) [a, b] h nx fun v1 h2 n3 => K (F12.fr a b f e d g l q p v1 c i o s u v) h2 n3 := by kernel_rfl
theorem F12.t25_s : IR.run F12.t25 C N O K (F12.fr a b f e d g l q p w c i o s u v) h nx =
 zo .neq .int w (I 0) fun v1 => K (F12.fr a b f e d g l q p w c i o s u v1) h nx := by kernel_rfl
theorem F12.t26_s : IR.run F12.t26 C N O K tm h nx = yS F12.r15_0 C ⟨tm, []⟩ h nx (fun tm h nx => K tm.v h nx) := kT ..
theorem F12.r15_0_g : yS (.s (.mv (.t (.of 3))) :: .s (.mv (.t (.of 4))) :: .s (.mv (.t (.of 9))) :: .w .push none (.call (.c (.fn 23 (.of 23) [])) [(.s 2), (.s 1), (.s 0), (.c .zf)]) :: r) C ⟨(F12.fr a b f e d g l q p w c i o s u v), []⟩ h nx Kt =
 C.fn 23 (.of 23) [e, d, w, .zf] h nx fun v1 h2 n3 => yS r C ⟨(F12.fr a b f e d g l q p w c i o s u v), v1 :: w :: d :: e :: []⟩ h2 n3 Kt := by kernel_rfl
theorem F12.r15_1_g : yS (.s (.mv (.s 0)) :: .p .push (some ((.s 0), true)) (.mv (.t (.of 7))) :: .p .push (some ((.s 1), true)) (.mv (.t (.of 8))) :: .p .push (some ((.s 2), true)) (.mv (.t (.of 9))) :: .w .push (some ((.s 3), true)) (.call (.c (.fn 60 (.of 60) [])) [(.s 2), (.s 1), (.s 0), (.c .zf)]) :: r) C ⟨(F12.fr a b f e d g l q p w c i o s u v), s0 :: s1 :: s2 :: s3 :: []⟩ h nx Kt =
 sG s0 true (fun k => k q) fun v1 => sG s0 true (fun k => k p) fun v2 => sG s0 true (fun k => k w) fun v3 => sGW s0 true (fun k => C.fn 60 (.of 60) [v1, v2, v3, .zf] h nx k) h nx fun v4 h5 n6 => yS r C ⟨(F12.fr a b f e d g l q p w c i o s u v), v4 :: v3 :: v2 :: v1 :: s0 :: s0 :: s1 :: s2 :: s3 :: []⟩ h5 n6 Kt := by kernel_rfl
theorem F12.r15_2_g : yS (.s (.pick (.s 4) (.s 0) (.c (.bool false))) :: .q (.of 2) (.mv (.s 0)) :: []) C ⟨(F12.fr a b f e d g l q p w c i o s u v), s0 :: s1 :: s2 :: s3 :: s4 :: s5 :: s6 :: s7 :: s8 :: []⟩ h nx Kt =
 jM s4 s0 (.bool false) fun v1 => Kt ⟨(F12.fr a b v1 e d g l q p w c i o s u v), v1 :: s0 :: s1 :: s2 :: s3 :: s4 :: s5 :: s6 :: s7 :: s8 :: []⟩ h nx := by kernel_rfl
theorem F12.v15 : Arg.ev (.t (.of 15)) ⟨(F12.fr a b f e d g l q p w c i o s u v), []⟩ = v := by kernel_rfl
theorem F12.t31_s : IR.run F12.t31 C N O K (F12.fr a b f e d g l q p w c i o s u v) h nx =
 C.fn 79 (.of 79) [a, b] h nx fun v1 h2 n3 => K (F12.fr a b f e d g l q p w v1 i o s u v) h2 n3 := by kernel_rfl
theorem F12.t32_s : IR.run F12.t32 C N O K tm h nx = yS F12.r17_0 C ⟨tm, []⟩ h nx (fun tm h nx => K tm.v h nx) := kT ..
theorem F12.r17_0_g : yS (.s (.mv (.t (.of 3))) :: .s (.mv (.t (.of 4))) :: .s (.mv (.t (.of 10))) :: .w .push none (.call (.c (.fn 23 (.of 23) [])) [(.s 2), (.s 1), (.c (I 0)), (.s 0)]) :: r) C ⟨(F12.fr a b f e d g l q p w c i o s u v), []⟩ h nx Kt =
 C.fn 23 (.of 23) [e, d, (I 0), c] h nx fun v1 h2 n3 => yS r C ⟨(F12.fr a b f e d g l q p w c i o s u v), v1 :: c :: d :: e :: []⟩ h2 n3 Kt := by kernel_rfl
theorem F12.r17_1_g : yS (.s (.mv (.s 0)) :: .p .push (some ((.s 0), true)) (.mv (.t (.of 7))) :: .p .push (some ((.s 1), true)) (.mv (.t (.of 8))) :: .p .push (some ((.s 2), true)) (.mv (.t (.of 10))) :: .p .push (some ((.s 3), true)) (.zn 1 (.s 0) (.c (I 0))) :: .p .push (some ((.s 4), true)) (.load (.s 0)) :: .w .push (some ((.s 5), true)) (.call (.c (.fn 60 (.of 60) [])) [(.s 4), (.s 3), (.c (I 0)), (.s 0)]) :: r) C ⟨(F12.fr a b f e d g l q p w c i o s u v), s0 :: s1 :: s2 :: s3 :: []⟩ h nx Kt =
 sG s0 true (fun k => k q) fun v1 => sG s0 true (fun k => k p) fun v2 => sG s0 true (fun k => k c) fun v3 => sG s0 true (fun k => zP 1 v3 (I 0) k) fun v4 => sG s0 true (fun k => zF v4 h k) fun v5 => sGW s0 true (fun k => C.fn 60 (.of 60) [v1, v2, (I 0), v5] h nx k) h nx fun v6 h7 n8 => yS r C ⟨(F12.fr a b f e d g l q p w c i o s u v), v6 :: v5 :: v4 :: v3 :: v2 :: v1 :: s0 :: s0 :: s1 :: s2 :: s3 :: []⟩ h7 n8 Kt := by kernel_rfl
theorem F12.r17_2_g : yS (.s (.pick (.s 6) (.s 0) (.c (.bool false))) :: .q (.of 2) (.mv (.s 0)) :: []) C ⟨(F12.fr a b f e d g l q p w c i o s u v), s0 :: s1 :: s2 :: s3 :: s4 :: s5 :: s6 :: s7 :: s8 :: s9 :: s10 :: []⟩ h nx Kt =
 jM s6 s0 (.bool false) fun v1 => Kt ⟨(F12.fr a b v1 e d g l q p w c i o s u v), v1 :: s0 :: s1 :: s2 :: s3 :: s4 :: s5 :: s6 :: s7 :: s8 :: s9 :: s10 :: []⟩ h nx := by kernel_rfl
theorem F12.tab : T.get none (.of 12) tbl = some F12 := by kernel_rfl
theorem F12.bind (k : T AV -> OP) : zX F12.params [a0, a1] F12.init k = k (F12.fr a0 a1 .undef .undef .undef .undef .undef .undef .undef .undef .undef .undef .undef .undef .undef .undef) := by kernel_rfl
theorem F12.yu : F12.body = F12.t44 := by kernel_rfl
theorem F12.go : zV tbl N C (.of 12) [a0, a1] h nx K0 = IR.run F12.t44 C N (fnO F12.res K0) (ji F12.res K0) (F12.fr a0 a1 .undef .undef .undef .undef .undef .undef .undef .undef .undef .undef .undef .undef .undef .undef) h nx := by
 rw [zJ F12.tab, F12.bind, F12.yu]; kernel_rfl
theorem F12.ret : ji F12.res K0 (F12.fr a b f e d g l q p w c i o s u v) h nx = K0 f h nx := by kernel_rfl
end
end Go.Ev
