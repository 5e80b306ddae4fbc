import Derived.Test.YtkjkjpmahgeneaaGreatDoorIrT
import Derived.KernelRfl
import Derived.Test.YtkjkjpmahgeneaaGreatDoorEvD
set_option linter.unusedSimpArgs false
set_option linter.unusedVariables false
noncomputable section
namespace Go.Ev
open Go Go.Proofs
set_option maxRecDepth 100000
variable {N : Nat} {C : Calls Prop} {K0 : Kw Prop} {K R : Ks Prop} {h : T Blk} {nx : Pa} {b c f i e g s a0 a1 a2 v u w a d q o p l y z A B D E F G H : AV}
theorem F93.g2_eq (X3 : IR) (O : uw Prop) (t : T AV) : IR.run (F93.g2 X3) C N O K t h nx = IR.run X3 C N (O.blk 0 K) K t h nx := by kernel_rfl
theorem F93.tab : T.get none (.of 93) tbl = some F93 := by kernel_rfl
theorem F93.go : zV tbl N C (.of 93) [a0] h nx K0 =
 sLen a0 fun v1 => zu .gtr .int v1 (I 256) fun v2 => zZ v2 (K0 (I 5) h nx) (sLen a0 fun v3 => gZ 1 1 [(.bool false)] v3 v3 h nx fun v4 h5 n6 => IR.run F93.b2 C N (fnO F93.res K0) (IR.run F93.b10 C N (fnO F93.res K0) (ku F93.res K0)) (F93.fr a0 (I 0) v4 (I 0) v2 .undef .undef) h5 n6) := by
 rw [zJ F93.tab]; kernel_rfl
theorem F93.L2 (Inv : Nat -> AV -> T Blk -> Pa -> Prop) {m : Nat} (hm : m < N) (hi : Inv m i h nx)
  (step : ∀ (m : Nat) (z1 z3 z5 z6 : AV) (h : T Blk) (nx : Pa) (R : Ks Prop), Inv m z3 h nx -> (∀ (m' : Nat) (w1 w3 w5 w6 : AV) (h' : T Blk) (nx' : Pa), m' < m -> Inv m' w3 h' nx' -> R (F93.fr b w1 f w3 e w5 w6) h' nx' = .ok True) ->
   (sLen b fun v1 => zu .lss .int z3 v1 fun v2 => zZ v2 (zO 1 b z3 fun v3 => zF v3 h fun v4 => zu .lss .int v4 (I 0) fun v5 => sG v5 false (fun k => k b) fun v6 => sG v5 false (fun k => k z3) fun v7 => sG v5 false (fun k => zO 1 v6 v7 k) fun v8 => sG v5 false (fun k => zF v8 h k) fun v9 => sG v5 false (fun k => k b) fun vA => sG v5 false (fun k => sLen vA k) fun vB => sG v5 false (fun k => zu .geq .int v9 vB k) fun vC => jQ v5 (.bool true) vC fun vD => sG vD false (fun k => k f) fun vE => sG vD false (fun k => k b) fun vF => sG vD false (fun k => k z3) fun vG => sG vD false (fun k => zO 1 vF vG k) fun vH => sG vD false (fun k => zF vH h k) fun vI => sG vD false (fun k => zO 1 vE vI k) fun vJ => sG vD false (fun k => zF vJ h k) fun vK => jQ vD (.bool true) vK fun vL => zZ vL (K0 (I 14) h nx) ((IR.run F93.b8 C N (((fnO F93.res K0).blk 0 K).blk 1 (IR.run F93.b9 C N ((fnO F93.res K0).blk 0 K) R)) (IR.run F93.b9 C N ((fnO F93.res K0).blk 0 K) R)) (F93.fr b z1 f z3 e v2 vL) h nx)) (K (F93.fr b z1 f z3 e v2 z6) h nx)) = .ok True) :
  IR.run F93.b2 C N (fnO F93.res K0) K (F93.fr b c f i e g s) h nx = .ok True := by
 rw [F93.b2, F93.g2_eq, F93.b3];refine yM (fun m tm h nx => ∃ z1 z3 z5 z6, tm = (F93.fr b z1 f z3 e z5 z6) /\ Inv m z3 h nx) ?_ hm ⟨_, _, _, _, rfl, hi⟩;rintro m tm h nx R ⟨z1, z3, z5, z6, rfl, hi⟩ hR;refine Eq.trans ?_ (step m z1 z3 z5 z6 h nx R hi fun m' w1 w3 w5 w6 h' nx' hlt hi' => hR m' _ h' nx' hlt ⟨_, _, _, _, rfl, hi'⟩)
 kernel_rfl
theorem F93.k10 : IR.run F93.b10 C N (fnO F93.res K0) K (F93.fr b c f i e g s) h nx =
 K0 (I 0) h nx := by kernel_rfl
theorem F93.k9 {E0 : Ks Prop} : IR.run F93.b9 C N ((fnO F93.res K0).blk 0 E0) K (F93.fr b c f i e g s) h nx =
 zu .add .int i (I 1) fun v1 => K (F93.fr b c f v1 e g s) h nx := by kernel_rfl
theorem F93.k8 {E0 E1 : Ks Prop} : IR.run F93.b8 C N (((fnO F93.res K0).blk 0 E0).blk 1 E1) K (F93.fr b c f i e g s) h nx =
 zO 1 b i fun v1 => zF v1 h fun v2 => zO 1 f v2 fun v3 => zK 1 v3 (.bool true) h nx fun v4 h5 n6 => K (F93.fr b c f i e g s) h5 n6 := by kernel_rfl
theorem F26.tab : T.get none (.of 26) tbl = some F26 := by kernel_rfl
theorem F26.go : zV tbl N C (.of 26) [a0, a1] h nx K0 =
 sBox a0 h nx fun v1 h2 n3 => C.fn 25 (.of 25) [a1] h2 n3 fun v4 h5 n6 => zu .neq .int v4 (I 0) fun v7 => zZ v7 (K0 (I 3) h5 n6) (zT 0 v1 fun v8 => zF v8 h5 fun v9 => sLen v9 fun vA => zu .neq .int vA a1 fun vB => zZ vB (K0 (I 2) h5 n6) (zT 0 v1 fun vC => zF vC h5 fun vD => C.fn 93 (.of 93) [vD] h5 n6 fun vE hA nA => K0 vE hA nA)) := by
 rw [zJ F26.tab]; kernel_rfl
theorem F25.tab : T.get none (.of 25) tbl = some F25 := by kernel_rfl
theorem F25.go : zV tbl N C (.of 25) [a0] h nx K0 =
 zu .lss .int a0 (I 0) fun v1 => sG v1 false (fun k => k a0) fun v2 => sG v1 false (fun k => zu .gtr .int v2 (I 256) k) fun v3 => jQ v1 (.bool true) v3 fun v4 => zZ v4 (K0 (I 3) h nx) (K0 (I 0) h nx) := by
 rw [zJ F25.tab]; kernel_rfl
theorem F58.dh (X2 : IR) (O : uw Prop) (t : T AV) : IR.run (F58.g1 X2) C N O K t h nx = IR.run X2 C N (O.blk 0 K) K t h nx := by kernel_rfl
theorem F58.tab : T.get none (.of 58) tbl = some F58 := by kernel_rfl
theorem F58.go : zV tbl N C (.of 58) [a0, a1] h nx K0 =
 sBox a0 h nx fun v1 h2 n3 => sLen a1 fun v4 => gZ 1 8 [(I 0)] v4 v4 h2 n3 fun v5 h6 n7 => IR.run F58.b1 C N (fnO F58.res K0) (IR.run F58.b9 C N (fnO F58.res K0) (ku F58.res K0)) (F58.fr a0 a1 v1 .zf v5 (I 0) .undef .undef .undef) h6 n7 := by
 rw [zJ F58.tab]; kernel_rfl
theorem F58.L1 (Inv : Nat -> AV -> T Blk -> Pa -> Prop) {m : Nat} (hm : m < N) (hi : Inv m g h nx)
  (step : ∀ (m : Nat) (z5 z6 z7 z8 : AV) (h : T Blk) (nx : Pa) (R : Ks Prop), Inv m z5 h nx -> (∀ (m' : Nat) (w5 w6 w7 w8 : AV) (h' : T Blk) (nx' : Pa), m' < m -> Inv m' w5 h' nx' -> R (F58.fr b c f i e w5 w6 w7 w8) h' nx' = .ok True) ->
   (sLen c fun v1 => zu .lss .int z5 v1 fun v2 => zZ v2 (zO 1 c z5 fun v3 => zF v3 h fun v4 => zT 1 f fun v5 => zF v5 h fun v6 => zZ v6 (sLen c fun v7 => zu .add .int v7 (I 1) fun v8 => zu .sub .int v8 v4 fun v9 => zT 0 f fun vA => zF vA h fun vB => zO 1 vB z5 fun vC => zF vC h fun vD => zO 1 e vD fun vE => zK 1 vE v9 h nx fun vF hB nB => zu .add .int z5 (I 1) fun vI => R (F58.fr b c f i e vI v9 v2 v6) hB nB) (zT 0 f fun vJ => zF vJ h fun vK => zO 1 vK z5 fun vL => zF vL h fun vM => zO 1 e vM fun vN => zK 1 vN v4 h nx fun vO hC nC => zu .add .int z5 (I 1) fun vP => R (F58.fr b c f i e vP v4 v2 v6) hC nC)) (K (F58.fr b c f i e z5 z6 v2 z8) h nx)) = .ok True) :
  IR.run F58.b1 C N (fnO F58.res K0) K (F58.fr b c f i e g s v u) h nx = .ok True := by
 rw [F58.b1, F58.dh, F58.b2];refine yM (fun m tm h nx => ∃ z5 z6 z7 z8, tm = (F58.fr b c f i e z5 z6 z7 z8) /\ Inv m z5 h nx) ?_ hm ⟨_, _, _, _, rfl, hi⟩;rintro m tm h nx R ⟨z5, z6, z7, z8, rfl, hi⟩ hR;refine Eq.trans ?_ (step m z5 z6 z7 z8 h nx R hi fun m' w5 w6 w7 w8 h' nx' hlt hi' => hR m' _ h' nx' hlt ⟨_, _, _, _, rfl, hi'⟩)
 kernel_rfl
theorem F58.k9 : IR.run F58.b9 C N (fnO F58.res K0) K (F58.fr b c f i e g s v u) h nx =
 K0 e h nx := by kernel_rfl
theorem F82.g2_eq (X3 : IR) (O : uw Prop) (t : T AV) : IR.run (F82.g2 X3) C N O K t h nx = IR.run X3 C N (O.blk 0 K) K t h nx := by kernel_rfl
theorem F82.tab : T.get none (.of 82) tbl = some F82 := by kernel_rfl
theorem F82.go : zV tbl N C (.of 82) [a0, a1] h nx K0 =
 sLen a0 fun v1 => sLen a1 fun v2 => zu .neq .int v1 v2 fun v3 => zZ v3 (K0 (.bool false) h nx) (IR.run F82.b2 C N (fnO F82.res K0) (IR.run F82.b9 C N (fnO F82.res K0) (ku F82.res K0)) (F82.fr a0 a1 (.bool false) (I 0) v3 .undef .undef) h nx) := by
 rw [zJ F82.tab]; kernel_rfl
theorem F82.L2 (Inv : Nat -> AV -> T Blk -> Pa -> Prop) {m : Nat} (hm : m < N) (hi : Inv m i h nx)
  (step : ∀ (m : Nat) (z2 z3 z5 z6 : AV) (h : T Blk) (nx : Pa) (R : Ks Prop), Inv m z3 h nx -> (∀ (m' : Nat) (w2 w3 w5 w6 : AV) (h' : T Blk) (nx' : Pa), m' < m -> Inv m' w3 h' nx' -> R (F82.fr b c w2 w3 e w5 w6) h' nx' = .ok True) ->
   (sLen b fun v1 => zu .lss .int z3 v1 fun v2 => zZ v2 (zO 1 b z3 fun v3 => zF v3 h fun v4 => zO 1 c z3 fun v5 => zF v5 h fun v6 => zu .neq .int v4 v6 fun v7 => zZ v7 (K0 (.bool false) h nx) (zu .add .int z3 (I 1) fun v8 => R (F82.fr b c z2 v8 e v2 v7) h nx)) (K (F82.fr b c z2 z3 e v2 z6) h nx)) = .ok True) :
  IR.run F82.b2 C N (fnO F82.res K0) K (F82.fr b c f i e g s) h nx = .ok True := by
 rw [F82.b2, F82.g2_eq, F82.b3];refine yM (fun m tm h nx => ∃ z2 z3 z5 z6, tm = (F82.fr b c z2 z3 e z5 z6) /\ Inv m z3 h nx) ?_ hm ⟨_, _, _, _, rfl, hi⟩;rintro m tm h nx R ⟨z2, z3, z5, z6, rfl, hi⟩ hR;refine Eq.trans ?_ (step m z2 z3 z5 z6 h nx R hi fun m' w2 w3 w5 w6 h' nx' hlt hi' => hR m' _ h' nx' hlt ⟨_, _, _, _, rfl, hi'⟩)
 kernel_rfl
theorem F82.k9 : IR.run F82.b9 C N (fnO F82.res K0) K (F82.fr b c f i e g s) h nx =
 K0 (.bool true) h nx := by kernel_rfl
theorem F106.tab : T.get none (.of 106) tbl = some F106 := by kernel_rfl
theorem F106.go : zV tbl N C (.of 106) [a0] h nx K0 =
 zu .eql (.nil .sl) a0 .zf fun v1 => zZ v1 (K0 .zf h nx) (jI 1 0 [(I 0)] [] h nx fun v2 h3 n4 => sApp 1 8 v2 a0 h3 n4 fun v5 h6 n7 => K0 v5 h6 n7) := by
 rw [zJ F106.tab]; kernel_rfl
theorem jy.g2_eq (X3 : IR) (O : uw Prop) (t : T AV) : IR.run (jy.g2 X3) C N O K t h nx = IR.run X3 C N (O.blk 0 K) K t h nx := by kernel_rfl
theorem jy.tab : T.get none (.of 158) tbl = some jy := by kernel_rfl
theorem jy.go : zV tbl N C (.of 158) [a0, a1] h nx K0 =
 sLen a0 fun v1 => sLen a1 fun v2 => zu .neq .int v1 v2 fun v3 => zZ v3 (K0 (.bool false) h nx) (sLen a0 fun v4 => IR.run jy.b2 C N (fnO jy.res K0) (IR.run jy.b9 C N (fnO jy.res K0) (ku jy.res K0)) (jy.fr a0 a1 (.bool false) .undef v3 v4 (I 0) .undef .undef) h nx) := by
 rw [zJ jy.tab]; kernel_rfl
theorem jy.L2 (Inv : Nat -> AV -> T Blk -> Pa -> Prop) {m : Nat} (hm : m < N) (hi : Inv m s h nx)
  (step : ∀ (m : Nat) (z2 z3 z6 z7 z8 : AV) (h : T Blk) (nx : Pa) (R : Ks Prop), Inv m z6 h nx -> (∀ (m' : Nat) (w2 w3 w6 w7 w8 : AV) (h' : T Blk) (nx' : Pa), m' < m -> Inv m' w6 h' nx' -> R (jy.fr b c w2 w3 e g w6 w7 w8) h' nx' = .ok True) ->
   (zu .lss .int z6 g fun v1 => zZ v1 (zO 1 b z6 fun v2 => zF v2 h fun v3 => zO 1 c z6 fun v4 => zF v4 h fun v5 => zu .neq .int v3 v5 fun v6 => zZ v6 (K0 (.bool false) h nx) (zu .add .int z6 (I 1) fun v7 => R (jy.fr b c z2 z6 e g v7 v1 v6) h nx)) (K (jy.fr b c z2 z3 e g z6 v1 z8) h nx)) = .ok True) :
  IR.run jy.b2 C N (fnO jy.res K0) K (jy.fr b c f i e g s v u) h nx = .ok True := by
 rw [jy.b2, jy.g2_eq, jy.b3];refine yM (fun m tm h nx => ∃ z2 z3 z6 z7 z8, tm = (jy.fr b c z2 z3 e g z6 z7 z8) /\ Inv m z6 h nx) ?_ hm ⟨_, _, _, _, _, rfl, hi⟩;rintro m tm h nx R ⟨z2, z3, z6, z7, z8, rfl, hi⟩ hR;refine Eq.trans ?_ (step m z2 z3 z6 z7 z8 h nx R hi fun m' w2 w3 w6 w7 w8 h' nx' hlt hi' => hR m' _ h' nx' hlt ⟨_, _, _, _, _, rfl, hi'⟩)
 kernel_rfl
theorem jy.k9 : IR.run jy.b9 C N (fnO jy.res K0) K (jy.fr b c f i e g s v u) h nx =
 K0 (.bool true) h nx := by kernel_rfl
theorem F136.tab : T.get none (.of 136) tbl = some F136 := by kernel_rfl
theorem F136.go : zV tbl N C (.of 136) [a0, a1] h nx K0 =
 C.fn 197 (.of 197) [a0, a1] h nx fun v1 h2 n3 => zu .geq .int v1 (I 0) fun v4 => K0 v4 h2 n3 := by
 rw [zJ F136.tab]; kernel_rfl
theorem gy.dh (X2 : IR) (O : uw Prop) (t : T AV) : IR.run (gy.g1 X2) C N O K t h nx = IR.run X2 C N (O.blk 0 K) K t h nx := by kernel_rfl
theorem gy.tab : T.get none (.of 197) tbl = some gy := by kernel_rfl
theorem gy.go : zV tbl N C (.of 197) [a0, a1] h nx K0 =
 sLen a0 fun v1 => IR.run gy.b1 C N (fnO gy.res K0) (IR.run gy.b8 C N (fnO gy.res K0) (ku gy.res K0)) (gy.fr a0 a1 (I 0) .undef v1 (I 0) .undef .undef) h nx := by
 rw [zJ gy.tab]; kernel_rfl
theorem gy.L1 (Inv : Nat -> AV -> T Blk -> Pa -> Prop) {m : Nat} (hm : m < N) (hi : Inv m g h nx)
  (step : ∀ (m : Nat) (z2 z3 z5 z6 z7 : AV) (h : T Blk) (nx : Pa) (R : Ks Prop), Inv m z5 h nx -> (∀ (m' : Nat) (w2 w3 w5 w6 w7 : AV) (h' : T Blk) (nx' : Pa), m' < m -> Inv m' w5 h' nx' -> R (gy.fr b c w2 w3 e w5 w6 w7) h' nx' = .ok True) ->
   (zu .lss .int z5 e fun v1 => zZ v1 (zO 1 b z5 fun v2 => zF v2 h fun v3 => mP C c [v3] h nx fun v4 h5 n6 => zZ v4 (K0 z5 h5 n6) (zu .add .int z5 (I 1) fun v7 => R (gy.fr b c z2 z5 e v7 v1 v4) h5 n6)) (K (gy.fr b c z2 z3 e z5 v1 z7) h nx)) = .ok True) :
  IR.run gy.b1 C N (fnO gy.res K0) K (gy.fr b c f i e g s v) h nx = .ok True := by
 rw [gy.b1, gy.dh, gy.b2];refine yM (fun m tm h nx => ∃ z2 z3 z5 z6 z7, tm = (gy.fr b c z2 z3 e z5 z6 z7) /\ Inv m z5 h nx) ?_ hm ⟨_, _, _, _, _, rfl, hi⟩;rintro m tm h nx R ⟨z2, z3, z5, z6, z7, rfl, hi⟩ hR;refine Eq.trans ?_ (step m z2 z3 z5 z6 z7 h nx R hi fun m' w2 w3 w5 w6 w7 h' nx' hlt hi' => hR m' _ h' nx' hlt ⟨_, _, _, _, _, rfl, hi'⟩)
 kernel_rfl
theorem gy.k8 : IR.run gy.b8 C N (fnO gy.res K0) K (gy.fr b c f i e g s v) h nx =
 K0 (I (-1)) h nx := by kernel_rfl
theorem F85.tab : T.get none (.of 85) tbl = some F85 := by kernel_rfl
theorem F85.go : zV tbl N C (.of 85) [a0, a1] h nx K0 =
 sBox a0 h nx fun v1 h2 n3 => sBox a1 h2 n3 fun v4 h5 n6 => zT 0 v1 fun v7 => zF v7 h5 fun v8 => zT 0 v4 fun v9 => zF v9 h5 fun vA => C.fn 82 (.of 82) [v8, vA] h5 n6 fun vB hD nD => zZ vB (zT 1 v1 fun vE => zF vE hD fun vF => sNot vF fun vG => sG vG true (fun k => zT 1 v4 k) fun vH => sG vG true (fun k => zF vH hD k) fun vI => jQ vG vI (.bool false) fun vJ => K0 vJ hD nD) (zT 0 v1 fun vK => zF vK hD fun vL => zT 0 v4 fun vM => zF vM hD fun vN => C.fn 88 (.of 88) [vL, vN] hD nD fun vO hC nC => K0 vO hC nC) := by
 rw [zJ F85.tab]; kernel_rfl
theorem F84.dh (X2 : IR) (O : uw Prop) (t : T AV) : IR.run (F84.g1 X2) C N O K t h nx = IR.run X2 C N (O.blk 0 K) K t h nx := by kernel_rfl
theorem F84.tab : T.get none (.of 84) tbl = some F84 := by kernel_rfl
theorem F84.go : zV tbl N C (.of 84) [a0, a1] h nx K0 =
 sBox a1 h nx fun v1 h2 n3 => IR.run F84.b1 C N (fnO F84.res K0) (IR.run F84.b8 C N (fnO F84.res K0) (ku F84.res K0)) (F84.fr a0 a1 v1 (I 0) (I 0) .undef .undef) h2 n3 := by
 rw [zJ F84.tab]; kernel_rfl
theorem F84.L1 (Inv : Nat -> AV -> T Blk -> Pa -> Prop) {m : Nat} (hm : m < N) (hi : Inv m e h nx)
  (step : ∀ (m : Nat) (z3 z4 z5 z6 : AV) (h : T Blk) (nx : Pa) (R : Ks Prop), Inv m z4 h nx -> (∀ (m' : Nat) (w3 w4 w5 w6 : AV) (h' : T Blk) (nx' : Pa), m' < m -> Inv m' w4 h' nx' -> R (F84.fr b c f w3 w4 w5 w6) h' nx' = .ok True) ->
   (sLen b fun v1 => zu .lss .int z4 v1 fun v2 => zZ v2 (zO 2 b z4 fun v3 => zM 2 v3 h fun v4 => zM 2 f h fun v5 => C.fn 30 (.of 30) [v4, v5] h nx fun v6 h7 n8 => zZ v6 (K0 z4 h7 n8) (zu .add .int z4 (I 1) fun v9 => R (F84.fr b c f z3 v9 v2 v6) h7 n8)) (K (F84.fr b c f z3 z4 v2 z6) h nx)) = .ok True) :
  IR.run F84.b1 C N (fnO F84.res K0) K (F84.fr b c f i e g s) h nx = .ok True := by
 rw [F84.b1, F84.dh, F84.b2];refine yM (fun m tm h nx => ∃ z3 z4 z5 z6, tm = (F84.fr b c f z3 z4 z5 z6) /\ Inv m z4 h nx) ?_ hm ⟨_, _, _, _, rfl, hi⟩;rintro m tm h nx R ⟨z3, z4, z5, z6, rfl, hi⟩ hR;refine Eq.trans ?_ (step m z3 z4 z5 z6 h nx R hi fun m' w3 w4 w5 w6 h' nx' hlt hi' => hR m' _ h' nx' hlt ⟨_, _, _, _, rfl, hi'⟩)
 kernel_rfl
theorem F84.k8 : IR.run F84.b8 C N (fnO F84.res K0) K (F84.fr b c f i e g s) h nx =
 K0 (I (-1)) h nx := by kernel_rfl
theorem F65.tab : T.get none (.of 65) tbl = some F65 := by kernel_rfl
theorem F65.go : zV tbl N C (.of 65) [a0, a1] h nx K0 =
 sBox a0 h nx fun v1 h2 n3 => sBox a1 h2 n3 fun v4 h5 n6 => yH [.zf, (.bool false)] h5 n6 fun v7 h8 n9 => zT 0 v1 fun vA => zF vA h8 fun vB => zT 0 v4 fun vC => zF vC h8 fun vD => zT 1 v1 fun vE => zF vE h8 fun vF => zT 1 v4 fun vG => zF vG h8 fun vH => zu .neq .bool vF vH fun vI => C.fn 144 (.of 144) [vB, vD] h8 n9 fun vJ hE nE => (zu .neq .bool vF vH fun vQ => zN vQ vI ((zF vG hE fun vR => zN vR vH ((zT 1 v4 fun vS => zN vS vG ((zF vE hE fun vU => zN vU vF ((zT 1 v1 fun vP => zN vP vE (uM [.zf, (.bool false)] [(0, 1, vJ), (1, 1, vI)] fun vM => zK 2 v7 vM hE nE fun vN hF nF => zM 2 v7 hF fun vV => K0 vV hF nF)))))))))) := by
 rw [zJ F65.tab]; kernel_rfl
theorem F30.tab : T.get none (.of 30) tbl = some F30 := by kernel_rfl
theorem F30.go : zV tbl N C (.of 30) [a0, a1] h nx K0 =
 sBox a0 h nx fun v1 h2 n3 => sBox a1 h2 n3 fun v4 h5 n6 => zT 1 v1 fun v7 => zF v7 h5 fun v8 => zT 1 v4 fun v9 => zF v9 h5 fun vA => zu .eql .bool v8 vA fun vB => sG vB true (fun k => zT 0 v1 k) fun vC => sG vB true (fun k => zF vC h5 k) fun vD => sG vB true (fun k => zT 0 v4 k) fun vE => sG vB true (fun k => zF vE h5 k) fun vF => sGW vB true (fun k => C.fn 82 (.of 82) [vD, vF] h5 n6 k) h5 n6 fun vG hG nG => jQ vB vG (.bool false) fun vJ => K0 vJ hG nG := by
 rw [zJ F30.tab]; kernel_rfl
theorem uf.dh (X2 : IR) (O : uw Prop) (t : T AV) : IR.run (uf.g1 X2) C N O K t h nx = IR.run X2 C N (O.blk 0 K) K t h nx := by kernel_rfl
theorem uf.tab : T.get none (.of 144) tbl = some uf := by kernel_rfl
theorem uf.go : zV tbl N C (.of 144) [a0, a1] h nx K0 =
 IR.run uf.b1 C N (fnO uf.res K0) (IR.run uf.b8 C N (fnO uf.res K0) (ku uf.res K0)) (uf.fr a0 a1 .zf .zf (I 0) .undef) h nx := by
 rw [zJ uf.tab]; kernel_rfl
theorem uf.L1 (Inv : Nat -> AV -> AV -> T Blk -> Pa -> Prop) {m : Nat} (hm : m < N) (hi : Inv m i e h nx)
  (step : ∀ (m : Nat) (z3 z4 z5 : AV) (h : T Blk) (nx : Pa) (R : Ks Prop), Inv m z3 z4 h nx -> (∀ (m' : Nat) (w3 w4 w5 : AV) (h' : T Blk) (nx' : Pa), m' < m -> Inv m' w3 w4 h' nx' -> R (uf.fr b c f w3 w4 w5) h' nx' = .ok True) ->
   (sLen c fun v1 => zu .lss .int z4 v1 fun v2 => zZ v2 (zO 1 c z4 fun v3 => zF v3 h fun v4 => zO 1 b v4 fun v5 => zF v5 h fun v6 => jI 1 1 [(I 0)] [(0, 1, v6)] h nx fun v7 h8 n9 => sApp 1 8 z3 v7 h8 n9 fun vA hH nH => zu .add .int z4 (I 1) fun vD => R (uf.fr b c f vA vD v2) hH nH) (K (uf.fr b c f z3 z4 v2) h nx)) = .ok True) :
  IR.run uf.b1 C N (fnO uf.res K0) K (uf.fr b c f i e g) h nx = .ok True := by
 rw [uf.b1, uf.dh, uf.b2];refine yM (fun m tm h nx => ∃ z3 z4 z5, tm = (uf.fr b c f z3 z4 z5) /\ Inv m z3 z4 h nx) ?_ hm ⟨_, _, _, rfl, hi⟩;rintro m tm h nx R ⟨z3, z4, z5, rfl, hi⟩ hR;refine Eq.trans ?_ (step m z3 z4 z5 h nx R hi fun m' w3 w4 w5 h' nx' hlt hi' => hR m' _ h' nx' hlt ⟨_, _, _, rfl, hi'⟩)
 kernel_rfl
theorem uf.k8 : IR.run uf.b8 C N (fnO uf.res K0) K (uf.fr b c f i e g) h nx =
 K0 i h nx := by kernel_rfl
theorem F20.g4_eq (X5 : IR) (O : uw Prop) (t : T AV) : IR.run (F20.g4 X5) C N O K t h nx = IR.run X5 C N (O.blk 0 K) K t h nx := by kernel_rfl
theorem F20.g12_eq (X13 : IR) (O : uw Prop) (t : T AV) : IR.run (F20.g12 X13) C N O K t h nx = IR.run X13 C N (O.blk 2 K) K t h nx := by kernel_rfl
theorem F20.g26_eq (X27 : IR) (O : uw Prop) (t : T AV) : IR.run (F20.g26 X27) C N O K t h nx = IR.run X27 C N (O.blk 6 K) K t h nx := by kernel_rfl
theorem F20.g20_eq (X21 : IR) (O : uw Prop) (t : T AV) : IR.run (F20.g20 X21) C N O K t h nx = IR.run X21 C N (O.blk 4 K) K t h nx := by kernel_rfl
theorem F20.tab : T.get none (.of 20) tbl = some F20 := by kernel_rfl
theorem F20.go : zV tbl N C (.of 20) [a0, a1] h nx K0 =
 C.fn 25 (.of 25) [a1] h nx fun v1 h2 n3 => zu .neq .int v1 (I 0) fun v4 => zZ v4 (K0 (I 3) h2 n3) (sLen a0 fun v5 => zu .eql .int v5 (I 0) fun v6 => zZ v6 (K0 (I 12) h2 n3) (sLen a0 fun v7 => zu .gtr .int v7 (I 1536) fun v8 => zZ v8 (K0 (I 5) h2 n3) (IR.run F20.b4 C N (fnO F20.res K0) (IR.run F20.b11 C N (fnO F20.res K0) (ku F20.res K0)) (F20.fr a0 a1 (I 0) (I 0) .undef .undef .undef .undef v4 v6 v8 .undef .undef .undef .undef .undef .undef .undef) h2 n3))) := by
 rw [zJ F20.tab]; kernel_rfl
theorem F20.L4 (Inv : Nat -> AV -> T Blk -> Pa -> Prop) {m : Nat} (hm : m < N) (hi : Inv m i h nx)
  (step : ∀ (m : Nat) (z2 z3 z4 zA zB : AV) (h : T Blk) (nx : Pa) (R : Ks Prop), Inv m z3 h nx -> (∀ (m' : Nat) (w2 w3 w4 wA wB : AV) (h' : T Blk) (nx' : Pa), m' < m -> Inv m' w3 h' nx' -> R (F20.fr b c w2 w3 w4 g s v u w a wA wB o p l y z) h' nx' = .ok True) ->
   (sLen b fun v1 => zu .lss .int z3 v1 fun v2 => zZ v2 (zO 2 b z3 fun v3 => zM 2 v3 h fun v4 => C.fn 26 (.of 26) [v4, c] h nx fun v5 h6 n7 => zu .neq .int v5 (I 0) fun v8 => zZ v8 (K0 v5 h6 n7) (zu .add .int z3 (I 1) fun v9 => R (F20.fr b c z2 v9 v5 g s v u w a v2 v8 o p l y z) h6 n7)) (K (F20.fr b c z2 z3 z4 g s v u w a v2 zB o p l y z) h nx)) = .ok True) :
  IR.run F20.b4 C N (fnO F20.res K0) K (F20.fr b c f i e g s v u w a d q o p l y z) h nx = .ok True := by
 rw [F20.b4, F20.g4_eq, F20.b5];refine yM (fun m tm h nx => ∃ z2 z3 z4 zA zB, tm = (F20.fr b c z2 z3 z4 g s v u w a zA zB o p l y z) /\ Inv m z3 h nx) ?_ hm ⟨_, _, _, _, _, rfl, hi⟩;rintro m tm h nx R ⟨z2, z3, z4, zA, zB, rfl, hi⟩ hR;refine Eq.trans ?_ (step m z2 z3 z4 zA zB h nx R hi fun m' w2 w3 w4 wA wB h' nx' hlt hi' => hR m' _ h' nx' hlt ⟨_, _, _, _, _, rfl, hi'⟩)
 kernel_rfl
theorem F20.k11 : IR.run F20.b11 C N (fnO F20.res K0) K (F20.fr b c f i e g s v u w a d q o p l y z) h nx =
 IR.run F20.b12 C N (fnO F20.res K0) (IR.run F20.b19 C N (fnO F20.res K0) K) (F20.fr b c f i e (I 1) s v u w a d q o p l y z) h nx := by kernel_rfl
theorem F20.L12 (Inv : Nat -> AV -> T Blk -> Pa -> Prop) {m : Nat} (hm : m < N) (hi : Inv m g h nx)
  (step : ∀ (m : Nat) (z2 z5 zC zD : AV) (h : T Blk) (nx : Pa) (R : Ks Prop), Inv m z5 h nx -> (∀ (m' : Nat) (w2 w5 wD wF : AV) (h' : T Blk) (nx' : Pa), m' < m -> Inv m' w5 h' nx' -> R (F20.fr b c w2 i e w5 s v u w a d q wD wF l y z) h' nx' = .ok True) ->
   (sLen b fun v1 => zu .lss .int z5 v1 fun v2 => zZ v2 (zu .sub .int z5 (I 1) fun v3 => zO 2 b v3 fun v4 => zM 2 v4 h fun v5 => zO 2 b z5 fun v6 => zM 2 v6 h fun v7 => C.fn 85 (.of 85) [v5, v7] h nx fun v8 h9 nI => sNot v8 fun vB => zZ vB (K0 (I 11) h9 nI) (zu .add .int z5 (I 1) fun vC => R (F20.fr b c z2 i e vC s v u w a d q v2 vB l y z) h9 nI)) (K (F20.fr b c z2 i e z5 s v u w a d q v2 zD l y z) h nx)) = .ok True) :
  IR.run F20.b12 C N (fnO F20.res K0) K (F20.fr b c f i e g s v u w a d q o p l y z) h nx = .ok True := by
 rw [F20.b12, F20.g12_eq, F20.b13];refine yM (fun m tm h nx => ∃ z2 z5 zC zD, tm = (F20.fr b c z2 i e z5 s v u w a d q zC zD l y z) /\ Inv m z5 h nx) ?_ hm ⟨_, _, _, _, rfl, hi⟩;rintro m tm h nx R ⟨z2, z5, zC, zD, rfl, hi⟩ hR;refine Eq.trans ?_ (step m z2 z5 zC zD h nx R hi fun m' w2 w5 wD wF h' nx' hlt hi' => hR m' _ h' nx' hlt ⟨_, _, _, _, rfl, hi'⟩)
 kernel_rfl
theorem F20.k19 : IR.run F20.b19 C N (fnO F20.res K0) K (F20.fr b c f i e g s v u w a d q o p l y z) h nx =
 IR.run F20.b20 C N (fnO F20.res K0) (IR.run F20.b34 C N (fnO F20.res K0) K) (F20.fr b c f i e g (I 0) v u w a d q o p l y z) h nx := by kernel_rfl
theorem F20.L20 (Inv : Nat -> AV -> T Blk -> Pa -> Prop) {m : Nat} (hm : m < N) (hi : Inv m s h nx)
  (step : ∀ (m : Nat) (z2 z6 z7 zE zG zH : AV) (h : T Blk) (nx : Pa) (R : Ks Prop), Inv m z6 h nx -> (∀ (m' : Nat) (w2 w6 w7 wG wH wI : AV) (h' : T Blk) (nx' : Pa), m' < m -> Inv m' w6 h' nx' -> R (F20.fr b c w2 i e g w6 w7 u w a d q o p wG wH wI) h' nx' = .ok True) ->
   (sLen b fun v1 => zu .lss .int z6 v1 fun v2 => zZ v2 (IR.run F20.b26 C N (((fnO F20.res K0).blk 4 K).blk 5 (IR.run F20.b33 C N ((fnO F20.res K0).blk 4 K) R)) (IR.run F20.b33 C N ((fnO F20.res K0).blk 4 K) R) (F20.fr b c z2 i e g z6 (I 0) u w a d q o p v2 zG zH) h nx) (K (F20.fr b c z2 i e g z6 z7 u w a d q o p v2 zG zH) h nx)) = .ok True) :
  IR.run F20.b20 C N (fnO F20.res K0) K (F20.fr b c f i e g s v u w a d q o p l y z) h nx = .ok True := by
 rw [F20.b20, F20.g20_eq, F20.b21];refine yM (fun m tm h nx => ∃ z2 z6 z7 zE zG zH, tm = (F20.fr b c z2 i e g z6 z7 u w a d q o p zE zG zH) /\ Inv m z6 h nx) ?_ hm ⟨_, _, _, _, _, _, rfl, hi⟩;rintro m tm h nx R ⟨z2, z6, z7, zE, zG, zH, rfl, hi⟩ hR;refine Eq.trans ?_ (step m z2 z6 z7 zE zG zH h nx R hi fun m' w2 w6 w7 wG wH wI h' nx' hlt hi' => hR m' _ h' nx' hlt ⟨_, _, _, _, _, _, rfl, hi'⟩)
 kernel_rfl
theorem F20.k34 : IR.run F20.b34 C N (fnO F20.res K0) K (F20.fr b c f i e g s v u w a d q o p l y z) h nx =
 K0 (I 0) h nx := by kernel_rfl
theorem F20.k33 {E4 : Ks Prop} : IR.run F20.b33 C N ((fnO F20.res K0).blk 4 E4) K (F20.fr b c f i e g s v u w a d q o p l y z) h nx =
 zu .add .int s (I 1) fun v1 => K (F20.fr b c f i e g v1 v u w a d q o p l y z) h nx := by kernel_rfl
theorem F20.L26 {E4 E5 : Ks Prop} (Inv : Nat -> AV -> T Blk -> Pa -> Prop) {m : Nat} (hm : m < N) (hi : Inv m v h nx)
  (step : ∀ (m : Nat) (z2 z7 zG zH : AV) (h : T Blk) (nx : Pa) (R : Ks Prop), Inv m z7 h nx -> (∀ (m' : Nat) (w2 w7 wH wI : AV) (h' : T Blk) (nx' : Pa), m' < m -> Inv m' w7 h' nx' -> R (F20.fr b c w2 i e g s w7 u w a d q o p l wH wI) h' nx' = .ok True) ->
   (sLen b fun v1 => zu .lss .int z7 v1 fun v2 => zZ v2 (zO 2 b s fun v3 => zM 2 v3 h fun v4 => zO 2 b z7 fun v5 => zM 2 v5 h fun v6 => C.fn 65 (.of 65) [v4, v6] h nx fun v7 h8 n9 => zN b b (C.fn 84 (.of 84) [b, v7] h8 n9 fun vA hH nH => zu .lss .int vA (I 0) fun vD => zZ vD (K0 (I 28) hH nH) (zu .add .int z7 (I 1) fun vE => R (F20.fr b c z2 i e g s vE u w a d q o p l v2 vD) hH nH))) (K (F20.fr b c z2 i e g s z7 u w a d q o p l v2 zH) h nx)) = .ok True) :
  IR.run F20.b26 C N (((fnO F20.res K0).blk 4 E4).blk 5 E5) K (F20.fr b c f i e g s v u w a d q o p l y z) h nx = .ok True := by
 rw [F20.b26, F20.g26_eq, F20.b27];refine yM (fun m tm h nx => ∃ z2 z7 zG zH, tm = (F20.fr b c z2 i e g s z7 u w a d q o p l zG zH) /\ Inv m z7 h nx) ?_ hm ⟨_, _, _, _, rfl, hi⟩;rintro m tm h nx R ⟨z2, z7, zG, zH, rfl, hi⟩ hR;refine Eq.trans ?_ (step m z2 z7 zG zH h nx R hi fun m' w2 w7 wH wI h' nx' hlt hi' => hR m' _ h' nx' hlt ⟨_, _, _, _, rfl, hi'⟩)
 kernel_rfl
theorem F88.dh (X2 : IR) (O : uw Prop) (t : T AV) : IR.run (F88.g1 X2) C N O K t h nx = IR.run X2 C N (O.blk 0 K) K t h nx := by kernel_rfl
theorem F88.tab : T.get none (.of 88) tbl = some F88 := by kernel_rfl
theorem F88.go : zV tbl N C (.of 88) [a0, a1] h nx K0 =
 IR.run F88.b1 C N (fnO F88.res K0) (IR.run F88.b8 C N (fnO F88.res K0) (ku F88.res K0)) (F88.fr a0 a1 (.bool false) (I 0) .undef .undef) h nx := by
 rw [zJ F88.tab]; kernel_rfl
theorem F88.L1 (Inv : Nat -> AV -> T Blk -> Pa -> Prop) {m : Nat} (hm : m < N) (hi : Inv m i h nx)
  (step : ∀ (m : Nat) (z2 z3 z4 z5 : AV) (h : T Blk) (nx : Pa) (R : Ks Prop), Inv m z3 h nx -> (∀ (m' : Nat) (w2 w3 w4 w5 : AV) (h' : T Blk) (nx' : Pa), m' < m -> Inv m' w3 h' nx' -> R (F88.fr b c w2 w3 w4 w5) h' nx' = .ok True) ->
   (sLen b fun v1 => zu .lss .int z3 v1 fun v2 => sG v2 true (fun k => k z3) fun v3 => sG v2 true (fun k => k c) fun v4 => sG v2 true (fun k => sLen v4 k) fun v5 => sG v2 true (fun k => zu .lss .int v3 v5 k) fun v6 => jQ v2 v6 (.bool false) fun v7 => zZ v7 ((IR.run F88.b4 C N ((fnO F88.res K0).blk 0 K) R) (F88.fr b c z2 z3 v7 z5) h nx) (K (F88.fr b c z2 z3 v7 z5) h nx)) = .ok True) :
  IR.run F88.b1 C N (fnO F88.res K0) K (F88.fr b c f i e g) h nx = .ok True := by
 rw [F88.b1, F88.dh, F88.b2];refine yM (fun m tm h nx => ∃ z2 z3 z4 z5, tm = (F88.fr b c z2 z3 z4 z5) /\ Inv m z3 h nx) ?_ hm ⟨_, _, _, _, rfl, hi⟩;rintro m tm h nx R ⟨z2, z3, z4, z5, rfl, hi⟩ hR;refine Eq.trans ?_ (step m z2 z3 z4 z5 h nx R hi fun m' w2 w3 w4 w5 h' nx' hlt hi' => hR m' _ h' nx' hlt ⟨_, _, _, _, rfl, hi'⟩)
 kernel_rfl
theorem F88.k8 : IR.run F88.b8 C N (fnO F88.res K0) K (F88.fr b c f i e g) h nx =
 sLen b fun v1 => sLen c fun v2 => zu .lss .int v1 v2 fun v3 => K0 v3 h nx := by kernel_rfl
theorem F88.k4 {E0 : Ks Prop} : IR.run F88.b4 C N ((fnO F88.res K0).blk 0 E0) K (F88.fr b c f i e g) h nx =
 zO 1 b i fun v1 => zF v1 h fun v2 => zO 1 c i fun v3 => zF v3 h fun v4 => zu .neq .int v2 v4 fun v5 => zZ v5 (zO 1 b i fun v6 => zF v6 h fun v7 => zO 1 c i fun v8 => zF v8 h fun v9 => zu .lss .int v7 v9 fun vA => K0 vA h nx) (zu .add .int i (I 1) fun vB => K (F88.fr b c f vB e v5) h nx) := by kernel_rfl
theorem jm.dh (X2 : IR) (O : uw Prop) (t : T AV) : IR.run (jm.g1 X2) C N O K t h nx = IR.run X2 C N (O.blk 0 K) K t h nx := by kernel_rfl
theorem jm.tab : T.get none (.of 201) tbl = some jm := by kernel_rfl
theorem jm.go : zV tbl N C (.of 201) [a0, a1] h nx K0 =
 sLen a0 fun v1 => IR.run jm.b1 C N (fnO jm.res K0) (IR.run jm.b9 C N (fnO jm.res K0) (ku jm.res K0)) (jm.fr a0 a1 (I 0) .undef .undef .undef .undef a0 v1 (I 0) .undef .undef .undef .undef) h nx := by
 rw [zJ jm.tab]; kernel_rfl
theorem jm.L1 (Inv : Nat -> AV -> T Blk -> Pa -> Prop) {m : Nat} (hm : m < N) (hi : Inv m w h nx)
  (step : ∀ (m : Nat) (z2 z3 z4 z5 z6 z9 zI zA zB : AV) (h : T Blk) (nx : Pa) (R : Ks Prop), Inv m z9 h nx -> (∀ (m' : Nat) (w2 w3 w4 w5 w6 w9 wK wA wB : AV) (h' : T Blk) (nx' : Pa), m' < m -> Inv m' w9 h' nx' -> R (jm.fr b c w2 w3 w4 w5 w6 v u w9 wK wA wB o) h' nx' = .ok True) ->
   (zu .lss .int z9 u fun v1 => zZ v1 (zO 1 v z9 fun v2 => zF v2 h fun v3 => sLen c fun v4 => zu .geq .int z9 v4 fun v5 => zZ v5 (K0 (I 1) h nx) (zO 1 c z9 fun v6 => zF v6 h fun v7 => C.fn 244 (.of 244) [v3, v7] h nx fun v8 h9 nI => zu .neq .int v8 (I 0) fun vB => zZ vB (K0 v8 h9 nI) (zu .add .int z9 (I 1) fun vC => R (jm.fr b c z2 z9 v3 v7 v8 v u vC v1 v5 vB o) h9 nI))) (K (jm.fr b c z2 z3 z4 z5 z6 v u z9 v1 zA zB o) h nx)) = .ok True) :
  IR.run jm.b1 C N (fnO jm.res K0) K (jm.fr b c f i e g s v u w a d q o) h nx = .ok True := by
 rw [jm.b1, jm.dh, jm.b2];refine yM (fun m tm h nx => ∃ z2 z3 z4 z5 z6 z9 zI zA zB, tm = (jm.fr b c z2 z3 z4 z5 z6 v u z9 zI zA zB o) /\ Inv m z9 h nx) ?_ hm ⟨_, _, _, _, _, _, _, _, _, rfl, hi⟩;rintro m tm h nx R ⟨z2, z3, z4, z5, z6, z9, zI, zA, zB, rfl, hi⟩ hR;refine Eq.trans ?_ (step m z2 z3 z4 z5 z6 z9 zI zA zB h nx R hi fun m' w2 w3 w4 w5 w6 w9 wK wA wB h' nx' hlt hi' => hR m' _ h' nx' hlt ⟨_, _, _, _, _, _, _, _, _, rfl, hi'⟩)
 kernel_rfl
theorem jm.k9 : IR.run jm.b9 C N (fnO jm.res K0) K (jm.fr b c f i e g s v u w a d q o) h nx =
 sLen b fun v1 => sLen c fun v2 => zu .lss .int v1 v2 fun v3 => zZ v3 (K0 (I (-1)) h nx) (K0 (I 0) h nx) := by kernel_rfl
theorem bK.tab : T.get none (.of 244) tbl = some bK := by kernel_rfl
theorem bK.go : zV tbl N C (.of 244) [a0, a1] h nx K0 =
 C.fn 250 (.of 250) [a0] h nx fun v1 h2 n3 => C.fn 250 (.of 250) [a1] h2 n3 fun v4 h5 n6 => zZ v1 (zZ v4 (K0 (I 0) h5 n6) (K0 (I (-1)) h5 n6)) (zZ v4 (K0 (I 1) h5 n6) (zu .lss .int a0 a1 fun v7 => zZ v7 (K0 (I (-1)) h5 n6) (zu .gtr .int a0 a1 fun v8 => zZ v8 (K0 (I 1) h5 n6) (K0 (I 0) h5 n6)))) := by
 rw [zJ bK.tab]; kernel_rfl
theorem F250.tab : T.get none (.of 250) tbl = some F250 := by kernel_rfl
theorem F250.go : zV tbl N C (.of 250) [a0] h nx K0 =
 zu .neq .int a0 a0 fun v1 => K0 v1 h nx := by
 rw [zJ F250.tab]; kernel_rfl
theorem F97.dh (X2 : IR) (O : uw Prop) (t : T AV) : IR.run (F97.g1 X2) C N O K t h nx = IR.run X2 C N (O.blk 0 K) K t h nx := by kernel_rfl
theorem F97.tab : T.get none (.of 97) tbl = some F97 := by kernel_rfl
theorem F97.go : zV tbl N C (.of 97) [a0, a1] h nx K0 =
 sLen a0 fun v1 => IR.run F97.b1 C N (fnO F97.res K0) (IR.run F97.b8 C N (fnO F97.res K0) (ku F97.res K0)) (F97.fr a0 a1 (I 0) .undef .undef a0 v1 (I 0) .undef .undef) h nx := by
 rw [zJ F97.tab]; kernel_rfl
theorem F97.L1 (Inv : Nat -> AV -> T Blk -> Pa -> Prop) {m : Nat} (hm : m < N) (hi : Inv m v h nx)
  (step : ∀ (m : Nat) (z2 z3 z4 z7 z8 z9 : AV) (h : T Blk) (nx : Pa) (R : Ks Prop), Inv m z7 h nx -> (∀ (m' : Nat) (w2 w3 w4 w7 w8 w9 : AV) (h' : T Blk) (nx' : Pa), m' < m -> Inv m' w7 h' nx' -> R (F97.fr b c w2 w3 w4 g s w7 w8 w9) h' nx' = .ok True) ->
   (zu .lss .int z7 s fun v1 => zZ v1 (zO 2 g z7 fun v2 => zM 2 v2 h fun v3 => yH [.zf, (.bool false)] h nx fun v4 h5 n6 => zK 2 v4 v3 h5 n6 fun v7 h8 n9 => zM 2 v4 h8 fun vA => C.fn 56 (.of 56) [vA, c] h8 n9 fun vB hD nD => zu .neq .int vB (I 0) fun vE => zZ vE (K0 vB hD nD) (zu .add .int z7 (I 1) fun vF => R (F97.fr b c z2 v4 vB g s vF v1 vE) hD nD)) (K (F97.fr b c z2 z3 z4 g s z7 v1 z9) h nx)) = .ok True) :
  IR.run F97.b1 C N (fnO F97.res K0) K (F97.fr b c f i e g s v u w) h nx = .ok True := by
 rw [F97.b1, F97.dh, F97.b2];refine yM (fun m tm h nx => ∃ z2 z3 z4 z7 z8 z9, tm = (F97.fr b c z2 z3 z4 g s z7 z8 z9) /\ Inv m z7 h nx) ?_ hm ⟨_, _, _, _, _, _, rfl, hi⟩;rintro m tm h nx R ⟨z2, z3, z4, z7, z8, z9, rfl, hi⟩ hR;refine Eq.trans ?_ (step m z2 z3 z4 z7 z8 z9 h nx R hi fun m' w2 w3 w4 w7 w8 w9 h' nx' hlt hi' => hR m' _ h' nx' hlt ⟨_, _, _, _, _, _, rfl, hi'⟩)
 kernel_rfl
theorem F97.k8 : IR.run F97.b8 C N (fnO F97.res K0) K (F97.fr b c f i e g s v u w) h nx =
 K0 (I 0) h nx := by kernel_rfl
theorem F90.tab : T.get none (.of 90) tbl = some F90 := by kernel_rfl
theorem F90.go : zV tbl N C (.of 90) [a0] h nx K0 =
 sBox a0 h nx fun v1 h2 n3 => K0 (.fn 159 (.of 159) [v1]) h2 n3 := by
 rw [zJ F90.tab]; kernel_rfl
theorem bT.tab : T.get none (.of 162) tbl = some bT := by kernel_rfl
theorem bT.go : zV tbl N C (.of 162) [a0, a1] h nx K0 =
 sBox a0 h nx fun v1 h2 n3 => sBox a1 h2 n3 fun v4 h5 n6 => zT 0 v1 fun v7 => zF v7 h5 fun v8 => zT 0 v4 fun v9 => zF v9 h5 fun vA => C.fn 201 (.of 201) [v8, vA] h5 n6 fun vB hD nD => zu .neq .int vB (I 0) fun vE => sG vE false (fun k => zT 1 v1 k) fun vF => sG vE false (fun k => zF vF hD k) fun vG => sG vE false (fun k => zT 1 v4 k) fun vH => sG vE false (fun k => zF vH hD k) fun vI => sG vE false (fun k => zu .eql .bool vG vI k) fun vJ => jQ vE (.bool true) vJ fun vK => zZ vK (K0 vB hD nD) ((IR.run bT.b1 C N (fnO bT.res K0) (ku bT.res K0)) (bT.fr a0 a1 v1 v4 (I 0) vB vK .undef) hD nD) := by
 rw [zJ bT.tab]; kernel_rfl
theorem bT.k1 : IR.run bT.b1 C N (fnO bT.res K0) K (bT.fr b c f i e g s v) h nx =
 zT 1 f fun v1 => zF v1 h fun v2 => zZ v2 (K0 (I 1) h nx) (K0 (I (-1)) h nx) := by kernel_rfl
theorem F56.tab : T.get none (.of 56) tbl = some F56 := by kernel_rfl
theorem F56.go : zV tbl N C (.of 56) [a0, a1] h nx K0 =
 sBox a0 h nx fun v1 h2 n3 => zT 0 v1 fun v4 => zF v4 h2 fun v5 => sLen v5 fun v6 => zu .neq .int v6 a1 fun v7 => zT 0 v1 fun v8 => zF v8 h2 fun v9 => C.fn 95 (.of 95) [a1] h2 n3 fun vA hH nH => (zF v8 hH fun vW => zN vW v9 ((zT 0 v1 fun vX => zN vX v8 ((zu .neq .int v6 a1 fun vY => zN vY v7 (zN a1 a1 ((sLen v5 fun vZ => zN vZ v6 ((zF v4 hH fun v32 => zN v32 v5 ((zT 0 v1 fun vQ => zN vQ v4 (C.fn 96 (.of 96) [v7, (I 2)] hH nH fun vD hI nJ => (zF v8 hI fun vR => zN vR v9 ((zT 0 v1 fun vS => zN vS v8 (C.fn 140 (.of 140) [v9] hI nJ fun vG hG nG => sNot vG fun vJ => C.fn 96 (.of 96) [vJ, (I 14)] hG nG fun vK hJ nK => jI 1 3 [(I 0)] [(0, 1, vA), (1, 1, vD), (2, 1, vK)] hJ nK fun vN hF nF => C.fn 94 (.of 94) [vN] hF nF fun vV hK nL => K0 vV hK nL))))))))))))))))) := by
 rw [zJ F56.tab]; kernel_rfl
theorem qc.dh (X2 : IR) (O : uw Prop) (t : T AV) : IR.run (qc.g1 X2) C N O K t h nx = IR.run X2 C N (O.blk 0 K) K t h nx := by kernel_rfl
theorem qc.tab : T.get none (.of 159) tbl = some qc := by kernel_rfl
theorem qc.go : zV tbl N C (.of 159) [a0, a1] h nx K0 =
 zF a1 h fun v1 => sLen v1 fun v2 => IR.run qc.b1 C N (fnO qc.res K0) (ku qc.res K0) (qc.fr a0 a1 .undef .undef v1 v2 (I 0) .undef .undef) h nx := by
 rw [zJ qc.tab]; kernel_rfl
theorem qc.L1 (Inv : Nat -> AV -> T Blk -> Pa -> Prop) {m : Nat} (hm : m < N) (hi : Inv m s h nx)
  (step : ∀ (m : Nat) (z2 z3 z6 z7 z8 : AV) (h : T Blk) (nx : Pa) (R : Ks Prop), Inv m z6 h nx -> (∀ (m' : Nat) (w2 w3 w6 w7 w8 : AV) (h' : T Blk) (nx' : Pa), m' < m -> Inv m' w6 h' nx' -> R (qc.fr b c w2 w3 e g w6 w7 w8) h' nx' = .ok True) ->
   (zu .lss .int z6 g fun v1 => zZ v1 (zO 2 e z6 fun v2 => zM 2 v2 h fun v3 => yH [.zf, (.bool false)] h nx fun v4 h5 n6 => zK 2 v4 v3 h5 n6 fun v7 h8 n9 => zM 2 v4 h8 fun vA => mP C b [z6, vA] h8 n9 fun vB hD nD => sNot vB fun vE => zZ vE (K0 (.tup []) hD nD) (zu .add .int z6 (I 1) fun vF => R (qc.fr b c z6 v4 e g vF v1 vE) hD nD)) (K (qc.fr b c z2 z3 e g z6 v1 z8) h nx)) = .ok True) :
  IR.run qc.b1 C N (fnO qc.res K0) K (qc.fr b c f i e g s v u) h nx = .ok True := by
 rw [qc.b1, qc.dh, qc.b2];refine yM (fun m tm h nx => ∃ z2 z3 z6 z7 z8, tm = (qc.fr b c z2 z3 e g z6 z7 z8) /\ Inv m z6 h nx) ?_ hm ⟨_, _, _, _, _, rfl, hi⟩;rintro m tm h nx R ⟨z2, z3, z6, z7, z8, rfl, hi⟩ hR;refine Eq.trans ?_ (step m z2 z3 z6 z7 z8 h nx R hi fun m' w2 w3 w6 w7 w8 h' nx' hlt hi' => hR m' _ h' nx' hlt ⟨_, _, _, _, _, rfl, hi'⟩)
 kernel_rfl
theorem ug.dh (X2 : IR) (O : uw Prop) (t : T AV) : IR.run (ug.g1 X2) C N O K t h nx = IR.run X2 C N (O.blk 0 K) K t h nx := by kernel_rfl
theorem ug.tab : T.get none (.of 163) tbl = some ug := by kernel_rfl
theorem ug.go : zV tbl N C (.of 163) [a0] h nx K0 =
 yH [.zf, (.bool false)] h nx fun v1 h2 n3 => gZ 1 8 [(I 0)] a0 a0 h2 n3 fun v4 h5 n6 => uM [.zf, (.bool false)] [(0, 1, v4)] fun v7 => yH [.zf, (.bool false)] h5 n6 fun v8 h9 nI => zK 2 v8 v7 h9 nI fun vB hD nD => zT 0 v8 fun vE => zF vE hD fun vF => sLen vF fun vG => IR.run ug.b1 C N (fnO ug.res K0) (IR.run ug.b8 C N (fnO ug.res K0) (ku ug.res K0)) (ug.fr a0 v1 v8 .undef vG (I 0) .undef) hD nD := by
 rw [zJ ug.tab]; kernel_rfl
theorem ug.L1 (Inv : Nat -> AV -> T Blk -> Pa -> Prop) {m : Nat} (hm : m < N) (hi : Inv m g h nx)
  (step : ∀ (m : Nat) (z3 z5 z6 : AV) (h : T Blk) (nx : Pa) (R : Ks Prop), Inv m z5 h nx -> (∀ (m' : Nat) (w3 w5 w6 : AV) (h' : T Blk) (nx' : Pa), m' < m -> Inv m' w5 h' nx' -> R (ug.fr b c f w3 e w5 w6) h' nx' = .ok True) ->
   (zu .lss .int z5 e fun v1 => zZ v1 (zT 0 f fun v2 => zF v2 h fun v3 => zO 1 v3 z5 fun v4 => zK 1 v4 z5 h nx fun v5 h6 n7 => zu .add .int z5 (I 1) fun v8 => R (ug.fr b c f z5 e v8 v1) h6 n7) (K (ug.fr b c f z3 e z5 v1) h nx)) = .ok True) :
  IR.run ug.b1 C N (fnO ug.res K0) K (ug.fr b c f i e g s) h nx = .ok True := by
 rw [ug.b1, ug.dh, ug.b2];refine yM (fun m tm h nx => ∃ z3 z5 z6, tm = (ug.fr b c f z3 e z5 z6) /\ Inv m z5 h nx) ?_ hm ⟨_, _, _, rfl, hi⟩;rintro m tm h nx R ⟨z3, z5, z6, rfl, hi⟩ hR;refine Eq.trans ?_ (step m z3 z5 z6 h nx R hi fun m' w3 w5 w6 h' nx' hlt hi' => hR m' _ h' nx' hlt ⟨_, _, _, rfl, hi'⟩)
 kernel_rfl
theorem ug.k8 : IR.run ug.b8 C N (fnO ug.res K0) K (ug.fr b c f i e g s) h nx =
 zM 2 f h fun v1 => zK 2 c v1 h nx fun v2 h3 n4 => zM 2 c h3 fun v5 => K0 v5 h3 n4 := by kernel_rfl
theorem gq.dh (X2 : IR) (O : uw Prop) (t : T AV) : IR.run (gq.g1 X2) C N O K t h nx = IR.run X2 C N (O.blk 0 K) K t h nx := by kernel_rfl
theorem gq.tab : T.get none (.of 123) tbl = some gq := by kernel_rfl
theorem gq.go : zV tbl N C (.of 123) [a0] h nx K0 =
 sBox a0 h nx fun v1 h2 n3 => zT 0 v1 fun v4 => zF v4 h2 fun v5 => sLen v5 fun v6 => zu .add .int v6 (I 1) fun v7 => gZ 1 1 [(.int .u8 0)] (I 0) v7 h2 n3 fun v8 h9 nI => zT 0 v1 fun vB => zF vB h9 fun vC => sLen vC fun vD => IR.run gq.b1 C N (fnO gq.res K0) (IR.run gq.b8 C N (fnO gq.res K0) (ku gq.res K0)) (gq.fr a0 v1 (.str []) v8 .undef vC vD (I 0) .undef .undef) h9 nI := by
 rw [zJ gq.tab]; kernel_rfl
theorem gq.L1 (Inv : Nat -> AV -> AV -> T Blk -> Pa -> Prop) {m : Nat} (hm : m < N) (hi : Inv m i v h nx)
  (step : ∀ (m : Nat) (z3 z4 z7 z8 : AV) (h : T Blk) (nx : Pa) (R : Ks Prop), Inv m z3 z7 h nx -> (∀ (m' : Nat) (w3 w4 w7 w8 : AV) (h' : T Blk) (nx' : Pa), m' < m -> Inv m' w3 w7 h' nx' -> R (gq.fr b c f w3 w4 g s w7 w8 w) h' nx' = .ok True) ->
   (zu .lss .int z7 s fun v1 => zZ v1 (zO 1 g z7 fun v2 => zF v2 h fun v3 => sConv .u8 v3 fun v4 => jI 1 1 [(.int .u8 0)] [(0, 1, v4)] h nx fun v5 h6 n7 => sApp 1 1 z3 v5 h6 n7 fun v8 h9 nI => zu .add .int z7 (I 1) fun vB => R (gq.fr b c f v8 v3 g s vB v1 w) h9 nI) (K (gq.fr b c f z3 z4 g s z7 v1 w) h nx)) = .ok True) :
  IR.run gq.b1 C N (fnO gq.res K0) K (gq.fr b c f i e g s v u w) h nx = .ok True := by
 rw [gq.b1, gq.dh, gq.b2];refine yM (fun m tm h nx => ∃ z3 z4 z7 z8, tm = (gq.fr b c f z3 z4 g s z7 z8 w) /\ Inv m z3 z7 h nx) ?_ hm ⟨_, _, _, _, rfl, hi⟩;rintro m tm h nx R ⟨z3, z4, z7, z8, rfl, hi⟩ hR;refine Eq.trans ?_ (step m z3 z4 z7 z8 h nx R hi fun m' w3 w4 w7 w8 h' nx' hlt hi' => hR m' _ h' nx' hlt ⟨_, _, _, _, rfl, hi'⟩)
 kernel_rfl
theorem gq.k8 : IR.run gq.b8 C N (fnO gq.res K0) K (gq.fr b c f i e g s v u w) h nx =
 zT 1 c fun v1 => zF v1 h fun v2 => zZ v2 (jI 1 1 [(.int .u8 0)] [(0, 1, (.int .u8 1))] h nx fun v3 h4 n5 => sApp 1 1 i v3 h4 n5 fun v6 h7 n8 => sB2s v6 h7 fun v9 => K0 v9 h7 n8) (sB2s i h fun vA => K0 vA h nx) := by kernel_rfl
theorem F121.tab : T.get none (.of 121) tbl = some F121 := by kernel_rfl
theorem F121.go : zV tbl N C (.of 121) [a0, a1] h nx K0 =
 sBox a1 h nx fun v1 h2 n3 => zM 2 v1 h2 fun v4 => C.fn 123 (.of 123) [v4] h2 n3 fun v5 h6 n7 => sLook .str (.agg [.zf, (.bool false)]) true a0 v5 h6 fun v8 => wo 0 v8 fun v9 => wo 1 v8 fun vA => yH [.zf, (.bool false)] h6 n7 fun vB hD nD => zK 2 vB v9 hD nD fun vE hA nA => K0 vA hA nA := by
 rw [zJ F121.tab]; kernel_rfl
theorem uh.dh (X2 : IR) (O : uw Prop) (t : T AV) : IR.run (uh.g1 X2) C N O K t h nx = IR.run X2 C N (O.blk 0 K) K t h nx := by kernel_rfl
theorem uh.tab : T.get none (.of 122) tbl = some uh := by kernel_rfl
theorem uh.go : zV tbl N C (.of 122) [a0, a1] h nx K0 =
 sBox a0 h nx fun v1 h2 n3 => sBox a1 h2 n3 fun v4 h5 n6 => yH [.zf, (.bool false)] h5 n6 fun v7 h8 n9 => sChk (true && true) (zT 0 v4 fun vA => zF vA h8 fun vB => sLen vB fun vC => sChk (mkSl 8 vC vC && true) (zT 1 v1 fun vD => zF vD h8 fun vE => zT 1 v4 fun vF => zF vF h8 fun vG => zu .neq .bool vE vG fun vH => gZ 1 8 [(I 0)] vC vC h8 n9 fun vI hL nM => (zu .neq .bool vE vG fun v47 => zN v47 vH ((zF vF hL fun v46 => zN v46 vG ((zT 1 v4 fun v45 => zN v45 vF ((zF vD hL fun v44 => zN v44 vE ((zT 1 v1 fun v43 => zN v43 vD ((sLen vB fun v42 => zN v42 vC ((zF vA hL fun v41 => zN v41 vB ((zT 0 v4 fun v40 => zN v40 vA (uM [.zf, (.bool false)] [(0, 1, vI), (1, 1, vH)] fun vL => yH [.zf, (.bool false)] hL nM fun vM hM nN => (uM [.zf, (.bool false)] [(0, 1, vI), (1, 1, vH)] fun v39 => zN v39 vL ((zu .neq .bool vE vG fun v38 => zN v38 vH ((zF vF hM fun v37 => zN v37 vG ((zT 1 v4 fun vW => zN vW vF ((zF vD hM fun vX => zN vX vE ((zT 1 v1 fun vY => zN vY vD ((sLen vB fun vZ => zN vZ vC ((zF vA hM fun v32 => zN v32 vB ((zT 0 v4 fun vQ => zN vQ vA (zK 2 vM vL hM nN fun v25 hN nO => zT 0 v4 fun vU => zF vU hN fun vS => sLen vS fun vR => IR.run uh.b1 C N (fnO uh.res K0) (IR.run uh.b8 C N (fnO uh.res K0) (ku uh.res K0)) (uh.fr a0 a1 v1 v4 v7 vM .undef .undef vS vR (I 0) .undef) hN nO)))))))))))))))))))))))))))))))))))) := by
 rw [zJ uh.tab]; kernel_rfl
theorem uh.L1 (Inv : Nat -> AV -> T Blk -> Pa -> Prop) {m : Nat} (hm : m < N) (hi : Inv m a h nx)
  (step : ∀ (m : Nat) (z6 z7 zI zA : AV) (h : T Blk) (nx : Pa) (R : Ks Prop), Inv m zI h nx -> (∀ (m' : Nat) (w6 w7 wK wA : AV) (h' : T Blk) (nx' : Pa), m' < m -> Inv m' wK h' nx' -> R (uh.fr b c f i e g w6 w7 u w wK wA) h' nx' = .ok True) ->
   (zu .lss .int zI w fun v1 => zZ v1 (zO 1 u zI fun v2 => zF v2 h fun v3 => zT 0 g fun v4 => zF v4 h fun v5 => zT 0 f fun v6 => zF v6 h fun v7 => zO 1 v7 v3 fun v8 => zF v8 h fun v9 => zO 1 v5 zI fun vA => zK 1 vA v9 h nx fun vB hD nD => zu .add .int zI (I 1) fun vE => R (uh.fr b c f i e g zI v3 u w vE v1) hD nD) (K (uh.fr b c f i e g z6 z7 u w zI v1) h nx)) = .ok True) :
  IR.run uh.b1 C N (fnO uh.res K0) K (uh.fr b c f i e g s v u w a d) h nx = .ok True := by
 rw [uh.b1, uh.dh, uh.b2];refine yM (fun m tm h nx => ∃ z6 z7 zI zA, tm = (uh.fr b c f i e g z6 z7 u w zI zA) /\ Inv m zI h nx) ?_ hm ⟨_, _, _, _, rfl, hi⟩;rintro m tm h nx R ⟨z6, z7, zI, zA, rfl, hi⟩ hR;refine Eq.trans ?_ (step m z6 z7 zI zA h nx R hi fun m' w6 w7 wK wA h' nx' hlt hi' => hR m' _ h' nx' hlt ⟨_, _, _, _, rfl, hi'⟩)
 kernel_rfl
theorem uh.k8 : IR.run uh.b8 C N (fnO uh.res K0) K (uh.fr b c f i e g s v u w a d) h nx =
 zM 2 g h fun v1 => zK 2 e v1 h nx fun v2 h3 n4 => zM 2 e h3 fun v5 => K0 v5 h3 n4 := by kernel_rfl
theorem F140.tab : T.get none (.of 140) tbl = some F140 := by kernel_rfl
theorem F140.go : zV tbl N C (.of 140) [a0] h nx K0 =
 C.fn 198 (.of 198) [a0] h nx fun v1 h2 n3 => zu .eql .int v1 (I 0) fun v4 => K0 v4 h2 n3 := by
 rw [zJ F140.tab]; kernel_rfl
theorem jc.g2_eq (X3 : IR) (O : uw Prop) (t : T AV) : IR.run (jc.g2 X3) C N O K t h nx = IR.run X3 C N (O.blk 0 K) K t h nx := by kernel_rfl
theorem jc.tab : T.get none (.of 198) tbl = some jc := by kernel_rfl
theorem jc.go : zV tbl N C (.of 198) [a0] h nx K0 =
 sLen a0 fun v1 => zu .gtr .int v1 (I 256) fun v2 => zZ v2 (K0 (I 5) h nx) (sLen a0 fun v3 => gZ 1 1 [(.bool false)] v3 v3 h nx fun v4 h5 n6 => sLen a0 fun v7 => IR.run jc.b2 C N (fnO jc.res K0) (IR.run jc.b10 C N (fnO jc.res K0) (ku jc.res K0)) (jc.fr a0 (I 0) v4 .undef v2 a0 v7 (I 0) .undef .undef) h5 n6) := by
 rw [zJ jc.tab]; kernel_rfl
theorem jc.L2 (Inv : Nat -> AV -> T Blk -> Pa -> Prop) {m : Nat} (hm : m < N) (hi : Inv m v h nx)
  (step : ∀ (m : Nat) (z1 z3 z7 z8 z9 : AV) (h : T Blk) (nx : Pa) (R : Ks Prop), Inv m z7 h nx -> (∀ (m' : Nat) (w1 w3 w7 w8 w9 : AV) (h' : T Blk) (nx' : Pa), m' < m -> Inv m' w7 h' nx' -> R (jc.fr b w1 f w3 e g s w7 w8 w9) h' nx' = .ok True) ->
   (zu .lss .int z7 s fun v1 => zZ v1 (zO 1 g z7 fun v2 => zF v2 h fun v3 => zu .lss .int v3 (I 0) fun v4 => sG v4 false (fun k => k v3) fun v5 => sG v4 false (fun k => k b) fun v6 => sG v4 false (fun k => sLen v6 k) fun v7 => sG v4 false (fun k => zu .geq .int v5 v7 k) fun v8 => jQ v4 (.bool true) v8 fun v9 => sG v9 false (fun k => k f) fun vA => sG v9 false (fun k => k v3) fun vB => sG v9 false (fun k => zO 1 vA vB k) fun vC => sG v9 false (fun k => zF vC h k) fun vD => jQ v9 (.bool true) vD fun vE => zZ vE (K0 (I 14) h nx) ((IR.run jc.b8 C N (((fnO jc.res K0).blk 0 K).blk 1 (IR.run jc.b9 C N ((fnO jc.res K0).blk 0 K) R)) (IR.run jc.b9 C N ((fnO jc.res K0).blk 0 K) R)) (jc.fr b z1 f v3 e g s z7 v1 vE) h nx)) (K (jc.fr b z1 f z3 e g s z7 v1 z9) h nx)) = .ok True) :
  IR.run jc.b2 C N (fnO jc.res K0) K (jc.fr b c f i e g s v u w) h nx = .ok True := by
 rw [jc.b2, jc.g2_eq, jc.b3];refine yM (fun m tm h nx => ∃ z1 z3 z7 z8 z9, tm = (jc.fr b z1 f z3 e g s z7 z8 z9) /\ Inv m z7 h nx) ?_ hm ⟨_, _, _, _, _, rfl, hi⟩;rintro m tm h nx R ⟨z1, z3, z7, z8, z9, rfl, hi⟩ hR;refine Eq.trans ?_ (step m z1 z3 z7 z8 z9 h nx R hi fun m' w1 w3 w7 w8 w9 h' nx' hlt hi' => hR m' _ h' nx' hlt ⟨_, _, _, _, _, rfl, hi'⟩)
 kernel_rfl
theorem jc.k10 : IR.run jc.b10 C N (fnO jc.res K0) K (jc.fr b c f i e g s v u w) h nx =
 K0 (I 0) h nx := by kernel_rfl
theorem jc.k9 {E0 : Ks Prop} : IR.run jc.b9 C N ((fnO jc.res K0).blk 0 E0) K (jc.fr b c f i e g s v u w) h nx =
 zu .add .int v (I 1) fun v1 => K (jc.fr b c f i e g s v1 u w) h nx := by kernel_rfl
theorem jc.k8 {E0 E1 : Ks Prop} : IR.run jc.b8 C N (((fnO jc.res K0).blk 0 E0).blk 1 E1) K (jc.fr b c f i e g s v u w) h nx =
 zO 1 f i fun v1 => zK 1 v1 (.bool true) h nx fun v2 h3 n4 => K (jc.fr b c f i e g s v u w) h3 n4 := by kernel_rfl
theorem F94.dh (X2 : IR) (O : uw Prop) (t : T AV) : IR.run (F94.g1 X2) C N O K t h nx = IR.run X2 C N (O.blk 0 K) K t h nx := by kernel_rfl
theorem F94.tab : T.get none (.of 94) tbl = some F94 := by kernel_rfl
theorem F94.go : zV tbl N C (.of 94) [a0] h nx K0 =
 sLen a0 fun v1 => IR.run F94.b1 C N (fnO F94.res K0) (IR.run F94.b8 C N (fnO F94.res K0) (ku F94.res K0)) (F94.fr a0 (I 0) .undef a0 v1 (I 0) .undef .undef) h nx := by
 rw [zJ F94.tab]; kernel_rfl
theorem F94.L1 (Inv : Nat -> AV -> T Blk -> Pa -> Prop) {m : Nat} (hm : m < N) (hi : Inv m g h nx)
  (step : ∀ (m : Nat) (z1 z2 z5 z6 z7 : AV) (h : T Blk) (nx : Pa) (R : Ks Prop), Inv m z5 h nx -> (∀ (m' : Nat) (w1 w2 w5 w6 w7 : AV) (h' : T Blk) (nx' : Pa), m' < m -> Inv m' w5 h' nx' -> R (F94.fr b w1 w2 i e w5 w6 w7) h' nx' = .ok True) ->
   (zu .lss .int z5 e fun v1 => zZ v1 (zO 1 i z5 fun v2 => zF v2 h fun v3 => zu .neq .int v3 (I 0) fun v4 => zZ v4 (K0 v3 h nx) (zu .add .int z5 (I 1) fun v5 => R (F94.fr b z1 v3 i e v5 v1 v4) h nx)) (K (F94.fr b z1 z2 i e z5 v1 z7) h nx)) = .ok True) :
  IR.run F94.b1 C N (fnO F94.res K0) K (F94.fr b c f i e g s v) h nx = .ok True := by
 rw [F94.b1, F94.dh, F94.b2];refine yM (fun m tm h nx => ∃ z1 z2 z5 z6 z7, tm = (F94.fr b z1 z2 i e z5 z6 z7) /\ Inv m z5 h nx) ?_ hm ⟨_, _, _, _, _, rfl, hi⟩;rintro m tm h nx R ⟨z1, z2, z5, z6, z7, rfl, hi⟩ hR;refine Eq.trans ?_ (step m z1 z2 z5 z6 z7 h nx R hi fun m' w1 w2 w5 w6 w7 h' nx' hlt hi' => hR m' _ h' nx' hlt ⟨_, _, _, _, _, rfl, hi'⟩)
 kernel_rfl
theorem F94.k8 : IR.run F94.b8 C N (fnO F94.res K0) K (F94.fr b c f i e g s v) h nx =
 K0 (I 0) h nx := by kernel_rfl
theorem F95.tab : T.get none (.of 95) tbl = some F95 := by kernel_rfl
theorem F95.go : zV tbl N C (.of 95) [a0] h nx K0 =
 zu .lss .int a0 (I 0) fun v1 => sG v1 false (fun k => k a0) fun v2 => sG v1 false (fun k => zu .gtr .int v2 (I 256) k) fun v3 => jQ v1 (.bool true) v3 fun v4 => C.fn 96 (.of 96) [v4, (I 3)] h nx fun v5 h6 n7 => K0 v5 h6 n7 := by
 rw [zJ F95.tab]; kernel_rfl
theorem F96.tab : T.get none (.of 96) tbl = some F96 := by kernel_rfl
theorem F96.go : zV tbl N C (.of 96) [a0, a1] h nx K0 =
 zZ a0 (K0 a1 h nx) (K0 (I 0) h nx) := by
 rw [zJ F96.tab]; kernel_rfl
theorem F98.g13_eq (X14 : IR) (O : uw Prop) (t : T AV) : IR.run (F98.g13 X14) C N O K t h nx = IR.run X14 C N (O.blk 4 K) K t h nx := by kernel_rfl
theorem F98.g7_eq (X8 : IR) (O : uw Prop) (t : T AV) : IR.run (F98.g7 X8) C N O K t h nx = IR.run X8 C N (O.blk 2 K) K t h nx := by kernel_rfl
theorem F98.tab : T.get none (.of 98) tbl = some F98 := by kernel_rfl
theorem F98.go : zV tbl N C (.of 98) [a0, a1, a2] h nx K0 =
 sBox a2 h nx fun v1 h2 n3 => yH [.jv] h2 n3 fun v4 h5 n6 => yH [.zf] h5 n6 fun v7 h8 n9 => yH [(.bool false)] h8 n9 fun vA hH nH => C.fn 163 (.of 163) [a1] hH nH fun vD hI nJ => yH [.zf, (.bool false)] hI nJ fun vG hG nG => zK 2 vG vD hG nG fun vJ hE nE => sChk (true && (true && true)) (zM 2 vG hE fun vM => zM 2 vG hE fun vN => C.fn 123 (.of 123) [vM] hE nE fun vO hC nC => (zM 2 vG hC fun v52 => zN v52 vN ((zM 2 vG hC fun v51 => zN v51 vM (sMkmap hC nC fun vP hO nP => (zM 2 vG hO fun v50 => zN v50 vN ((zM 2 vG hO fun v49 => zN v49 vM (pU .str vP vO vN hO nP fun vR hP nQ => (zM 2 vG hP fun v48 => zN v48 vN ((zM 2 vG hP fun v47 => zN v47 vM (yH [.jv] hP nQ fun vZ hQ nR => zN vP vP ((zM 2 vG hQ fun v46 => zN v46 vN ((zM 2 vG hQ fun v45 => zN v45 vM (zK 1 vZ vP hQ nR fun vW hS nS => yH [.zf] hS nS fun v39 hT nT => C.fn 90 (.of 90) [a0] hT nT fun v42 hU nU => IR.run (.rf (.t (.of 14)) [(.of 15), (.of 16)] F98.b3 F98.b4) C N ((fnO F98.res K0).blk 0 (IR.run F98.b23 C N (fnO F98.res K0) (ku F98.res K0))) (IR.run F98.b23 C N (fnO F98.res K0) (ku F98.res K0)) (F98.fr a0 a1 a2 v1 v4 v7 vA vG vZ v39 .undef .undef .undef .undef v42 .undef .undef .undef .undef .undef .undef .undef .undef .undef .undef) hU nU)))))))))))))))))) := by
 rw [zJ F98.tab]; kernel_rfl
theorem F98.k23 : IR.run F98.b23 C N (fnO F98.res K0) K (F98.fr b c f i e g s v u w a d q o p l y z A B D E F G H) h nx =
 zF u h fun v1 => zF w h fun v2 => zK 1 e v1 h nx fun v3 h4 n5 => (zF w h4 fun vF => zN vF v2 (zK 1 g v2 h4 n5 fun v6 h7 n8 => zK 1 s (.bool true) h7 n8 fun v9 hV nV => zF e hV fun vC => zF g hV fun vD => zF s hV fun vE => K0 (.tup [vC, vD, vE]) hV nV)) := by kernel_rfl
theorem F98.p4 {N : Nat} {C : Calls Prop} {K0 : Kw Prop} {id nx : Pa} {j : Jump} {h : T Blk} {b c f i e g s v u w a d q o p l y z A B D E F G H z0 z1 : AV} (hl : T.get .no id h = .loop .ready j (F98.fr b c f i e g s v u w a d q o p l y z A B D E F G H) [.of 15, .of 16] F98.b3 F98.b4) :
 wC N C id [z0, z1] h nx K0 =
 yH [.zf, (.bool false)] h nx fun v1 h2 n3 => zK 2 v1 z1 h2 n3 fun v4 h5 n6 => rMid N C id K0 F98.b4 (F98.fr b c f i e g s v u w v1 d q o p z0 z1 z A B D E F G H) h5 n6 := by
 rw [rnd_gen hl (tm1 := (F98.fr b c f i e g s v u w a d q o p z0 z1 z A B D E F G H)) (by intro k; kernel_rfl)]; kernel_rfl
theorem F98.y4 {N : Nat} {C : Calls Prop} {K0 : Kw Prop} {id nx : Pa} {h : T Blk} {b c f i e g s v u w a d q o p l y z A B D E F G H : AV} :
 IR.run F98.b4 C N (rO id K0) (yT id K0 .none true) (F98.fr b c f i e g s v u w a d q o p l y z A B D E F G H) h nx =
 zF u h fun v1 => zM 2 a h fun v2 => C.fn 121 (.of 121) [v1, v2] h nx fun v3 h4 n5 => zZ v3 (yT id K0 .none true .e h4 n5) (zF w h4 fun v6 => zM 2 a h4 fun v7 => jI 2 1 [.zf, (.bool false)] [(0, 2, v7)] h4 n5 fun v8 h9 nI => vT C 2 32 v6 v8 h9 nI fun vB hD nD => zK 1 w vB hD nD fun vE hA nA => sChk (true && true) (zM 2 v hA fun vH => zM 2 v hA fun vI => C.fn 123 (.of 123) [vH] hA nA fun vJ hE nE => (zM 2 v hE fun v38 => zN v38 vI ((zM 2 v hE fun v37 => zN v37 vH (sMkmap hE nE fun vM hM nN => (zM 2 v hM fun vW => zN vW vI ((zM 2 v hM fun vX => zN vX vH (pU .str vM vJ vI hM nN fun v25 hN nO => zK 1 u vM hN nO fun vU hW nW => zM 2 v hW fun vQ => jI 2 1 [.zf, (.bool false)] [(0, 2, vQ)] hW nW fun v32 hX nX => IR.run F98.b7 C N ((rO id K0).blk 1 (yT id K0 .none true)) (yT id K0 .none true) (F98.fr b c f i e g s v u w a v32 q o p l y v3 A B D E F G H) hX nX)))))))))) := by kernel_rfl
theorem F98.L7 {id : Pa} {E1 : Ks Prop} (Inv : Nat -> AV -> T Blk -> Pa -> Prop) {m : Nat} (hm : m < N) (hi : Inv m d h nx)
  (step : ∀ (m : Nat) (zA zB zC zL zP zQ zR zS zU zW : AV) (h : T Blk) (nx : Pa) (R : Ks Prop), Inv m zA h nx -> (∀ (m' : Nat) (wA wB wD wL wM wN wO wP wQ wR : AV) (h' : T Blk) (nx' : Pa), m' < m -> Inv m' wA h' nx' -> R (F98.fr b c f i e g s v u w a wA wB wD p l y z wL wM wN wO wP wQ wR) h' nx' = .ok True) ->
   (sLen zA fun v1 => zu .gtr .int v1 (I 0) fun v2 => zZ v2 (zF w h fun v3 => sLen v3 fun v4 => IR.run F98.b13 C N ((((rO id K0).blk 1 E1).blk 2 K).blk 3 (IR.run F98.b22 C N (((rO id K0).blk 1 E1).blk 2 K) R)) (IR.run F98.b22 C N (((rO id K0).blk 1 E1).blk 2 K) R) (F98.fr b c f i e g s v u w a zA zB zC p l y z v2 v3 v4 (I 0) zS zU zW) h nx) (K (F98.fr b c f i e g s v u w a zA zB zC p l y z v2 zP zQ zR zS zU zW) h nx)) = .ok True) :
  IR.run F98.b7 C N ((rO id K0).blk 1 E1) K (F98.fr b c f i e g s v u w a d q o p l y z A B D E F G H) h nx = .ok True := by
 rw [F98.b7, F98.g7_eq, F98.b8];refine yM (fun m tm h nx => ∃ zA zB zC zL zP zQ zR zS zU zW, tm = (F98.fr b c f i e g s v u w a zA zB zC p l y z zL zP zQ zR zS zU zW) /\ Inv m zA h nx) ?_ hm ⟨_, _, _, _, _, _, _, _, _, _, rfl, hi⟩;rintro m tm h nx R ⟨zA, zB, zC, zL, zP, zQ, zR, zS, zU, zW, rfl, hi⟩ hR;refine Eq.trans ?_ (step m zA zB zC zL zP zQ zR zS zU zW h nx R hi fun m' wA wB wD wL wM wN wO wP wQ wR h' nx' hlt hi' => hR m' _ h' nx' hlt ⟨_, _, _, _, _, _, _, _, _, _, rfl, hi'⟩)
 kernel_rfl
theorem F98.k22 {id : Pa} {E1 E2 : Ks Prop} : IR.run F98.b22 C N (((rO id K0).blk 1 E1).blk 2 E2) K (F98.fr b c f i e g s v u w a d q o p l y z A B D E F G H) h nx =
 wE 2 d (some (I 1)) none none fun v1 => K (F98.fr b c f i e g s v u w a v1 q o p l y z A B D E F G H) h nx := by kernel_rfl
theorem F98.L13 {id : Pa} {E1 E2 E3 : Ks Prop} (Inv : Nat -> AV -> AV -> T Blk -> Pa -> Prop) {m : Nat} (hm : m < N) (hi : Inv m d E h nx)
  (step : ∀ (m : Nat) (zA zB zC zR zS zU zW : AV) (h : T Blk) (nx : Pa) (R : Ks Prop), Inv m zA zR h nx -> (∀ (m' : Nat) (wA wB wD wO wP wQ wR : AV) (h' : T Blk) (nx' : Pa), m' < m -> Inv m' wA wO h' nx' -> R (F98.fr b c f i e g s v u w a wA wB wD p l y z A B D wO wP wQ wR) h' nx' = .ok True) ->
   (zu .lss .int zR D fun v1 => zZ v1 (zO 2 B zR fun v2 => zM 2 v2 h fun v3 => yH [.zf, (.bool false)] h nx fun v4 h5 n6 => zK 2 v4 v3 h5 n6 fun v7 h8 n9 => sChk (true && true) (zM 2 v4 h8 fun vA => zO 2 zA (I 0) fun vB => zM 2 vB h8 fun vC => C.fn 122 (.of 122) [vA, vC] h8 n9 fun vD hI nJ => (zM 2 vB hI fun v65 => zN v65 vC ((zO 2 zA (I 0) fun v64 => zN v64 vB (zN zA zA ((zM 2 v4 hI fun v63 => zN v63 vA (yH [.zf, (.bool false)] hI nJ fun vG hG nG => (zM 2 vB hG fun v62 => zN v62 vC ((zO 2 zA (I 0) fun v61 => zN v61 vB (zN zA zA ((zM 2 v4 hG fun v60 => zN v60 vA (zK 2 vG vD hG nG fun vJ hE nE => zF u hE fun vM => zM 2 vG hE fun vN => C.fn 121 (.of 121) [vM, vN] hE nE fun vO hC nC => zZ vO (zu .add .int zR (I 1) fun vP => R (F98.fr b c f i e g s v u w a zA v4 vG p l y z A B D vP v1 vO zW) hC nC) (zF u hC fun vU => sMlen vU hC fun vS => zF i hC fun vR => zu .eql .int vS vR fun vQ => zZ vQ (zK 1 e .jv hC nC fun v32 hX nX => zK 1 g .zf hX nX fun vX hY nY => zK 1 s (.bool false) hY nY fun v38 hZ nZ => yT id K0 .ret false .e hZ nZ) (zF u hC fun v41 => zM 2 vG hC fun v42 => zM 2 vG hC fun v43 => C.fn 123 (.of 123) [v42] hC nC fun v44 h45 n46 => (zM 2 vG h45 fun v59 => zN v59 v43 ((zF u h45 fun v58 => zN v58 v41 (pU .str v41 v44 v43 h45 n46 fun v47 h48 n49 => zM 2 vG h48 fun v50 => jI 2 1 [.zf, (.bool false)] [(0, 2, v50)] h48 n49 fun v51 h52 n53 => vT C 2 32 zA v51 h52 n53 fun v54 h55 n56 => zu .add .int zR (I 1) fun v57 => R (F98.fr b c f i e g s v u w a v54 v4 vG p l y z A B D v57 v1 vO vQ) h55 n56)))))))))))))))))))))) (K (F98.fr b c f i e g s v u w a zA zB zC p l y z A B D zR v1 zU zW) h nx)) = .ok True) :
  IR.run F98.b13 C N ((((rO id K0).blk 1 E1).blk 2 E2).blk 3 E3) K (F98.fr b c f i e g s v u w a d q o p l y z A B D E F G H) h nx = .ok True := by
 rw [F98.b13, F98.g13_eq, F98.b14];refine yM (fun m tm h nx => ∃ zA zB zC zR zS zU zW, tm = (F98.fr b c f i e g s v u w a zA zB zC p l y z A B D zR zS zU zW) /\ Inv m zA zR h nx) ?_ hm ⟨_, _, _, _, _, _, _, rfl, hi⟩;rintro m tm h nx R ⟨zA, zB, zC, zR, zS, zU, zW, rfl, hi⟩ hR;refine Eq.trans ?_ (step m zA zB zC zR zS zU zW h nx R hi fun m' wA wB wD wO wP wQ wR h' nx' hlt hi' => hR m' _ h' nx' hlt ⟨_, _, _, _, _, _, _, rfl, hi'⟩)
 kernel_rfl
theorem F92.tab : T.get none (.of 92) tbl = some F92 := by kernel_rfl
theorem F92.go : zV tbl N C (.of 92) [a0, a1] h nx K0 =
 sBox a0 h nx fun v1 h2 n3 => yH [.jv] h2 n3 fun v4 h5 n6 => yH [.zf] h5 n6 fun v7 h8 n9 => yH [(I 0)] h8 n9 fun vA hH nH => zF v1 hH fun vD => sLen vD fun vE => zu .eql .int vE (I 0) fun vF => zF v1 hH fun vG => sLen vG fun vH => zu .gtr .int vH (I 1536) fun vI => C.fn 95 (.of 95) [a1] hH nH fun vJ hE nE => (zu .gtr .int vH (I 1536) fun v76 => zN v76 vI ((sLen vG fun v75 => zN v75 vH ((zF v1 hE fun v74 => zN v74 vG ((zu .eql .int vE (I 0) fun v73 => zN v73 vF ((sLen vD fun v72 => zN v72 vE ((zF v1 hE fun v71 => zN v71 vD (C.fn 96 (.of 96) [vF, (I 12)] hE nE fun vM hM nN => (zu .gtr .int vH (I 1536) fun v70 => zN v70 vI ((sLen vG fun v69 => zN v69 vH ((zF v1 hM fun v68 => zN v68 vG (C.fn 96 (.of 96) [vI, (I 5)] hM nN fun v25 hN nO => jI 1 3 [(I 0)] [(0, 1, vJ), (1, 1, vM), (2, 1, v25)] hN nO fun vU hW nW => C.fn 94 (.of 94) [vU] hW nW fun vQ h32 n33 => zu .neq .int vQ (I 0) fun vY => zZ vY (zK 1 v4 .jv h32 n33 fun vX hY nY => zK 1 v7 .zf hY nY fun v38 hZ nZ => zK 1 vA vQ hZ nZ fun v41 h42 n43 => zF v4 h42 fun v44 => zF v7 h42 fun v45 => zF vA h42 fun v46 => K0 (.tup [v44, v45, v46]) h42 n43) (zF v1 h32 fun v47 => C.fn 97 (.of 97) [v47, a1] h32 n33 fun v48 h49 n50 => zu .neq .int v48 (I 0) fun v51 => zZ v51 (zK 1 v4 .jv h49 n50 fun v52 h53 n54 => zK 1 v7 .zf h53 n54 fun v55 h56 n57 => zK 1 vA v48 h56 n57 fun v58 h59 n60 => zF v4 h59 fun v61 => zF v7 h59 fun v62 => zF vA h59 fun v63 => K0 (.tup [v61, v62, v63]) h59 n60) (zF v1 h49 fun v64 => C.fn 90 (.of 90) [v64] h49 n50 fun v65 h66 n67 => IR.run (.rf (.t (.of 15)) [(.of 16), (.of 17)] F92.b5 F92.b6) C N ((fnO F92.res K0).blk 0 (IR.run F92.b8 C N (fnO F92.res K0) (ku F92.res K0))) (IR.run F92.b8 C N (fnO F92.res K0) (ku F92.res K0)) (F92.fr a0 a1 v1 v4 v7 vA vQ v48 .undef .undef .undef .undef .undef vY v51 v65 .undef .undef .undef .undef) h66 n67)))))))))))))))))))) := by
 rw [zJ F92.tab]; kernel_rfl
theorem F92.k8 : IR.run F92.b8 C N (fnO F92.res K0) K (F92.fr b c f i e g s v u w a d q o p l y z A B) h nx =
 zF f h fun v1 => zF f h fun v2 => sLen v2 fun v3 => C.fn 98 (.of 98) [v1, c, v3] h nx fun v4 h5 n6 => wo 0 v4 fun v7 => wo 1 v4 fun v8 => wo 2 v4 fun v9 => sNot v9 fun vA => sG vA false (fun k => k v7) fun vB => sG vA false (fun k => sMlen vB h5 k) fun vC => sG vA false (fun k => zF f h5 k) fun vD => sG vA false (fun k => sLen vD k) fun vE => sG vA false (fun k => zu .neq .int vC vE k) fun vF => jQ vA (.bool true) vF fun vG => zZ vG (zK 1 i .jv h5 n6 fun vH h18 n19 => zK 1 e .zf h18 n19 fun vK hJ nK => zK 1 g (I 28) hJ nK fun vN hF nF => zF i hF fun vV => zF e hF fun vP => zF g hF fun vU => K0 (.tup [vV, vP, vU]) hF nF) ((IR.run F92.b9 C N (fnO F92.res K0) K) (F92.fr b c f i e g s v u w v7 v8 v9 o p l y z A vG) h5 n6) := by kernel_rfl
theorem F92.p6 {N : Nat} {C : Calls Prop} {K0 : Kw Prop} {id nx : Pa} {j : Jump} {h : T Blk} {b c f i e g s v u w a d q o p l y z A B z0 z1 : AV} (hl : T.get .no id h = .loop .ready j (F92.fr b c f i e g s v u w a d q o p l y z A B) [.of 16, .of 17] F92.b5 F92.b6) :
 wC N C id [z0, z1] h nx K0 =
 yH [.zf, (.bool false)] h nx fun v1 h2 n3 => zK 2 v1 z1 h2 n3 fun v4 h5 n6 => rMid N C id K0 F92.b6 (F92.fr b c f i e g s v z0 v1 a d q o p l z0 z1 A B) h5 n6 := by
 rw [rnd_gen hl (tm1 := (F92.fr b c f i e g s v u w a d q o p l z0 z1 A B)) (by intro k; kernel_rfl)]; kernel_rfl
theorem F92.y6 {N : Nat} {C : Calls Prop} {K0 : Kw Prop} {id nx : Pa} {h : T Blk} {b c f i e g s v u w a d q o p l y z A B : AV} :
 IR.run F92.b6 C N (rO id K0) (yT id K0 .none true) (F92.fr b c f i e g s v u w a d q o p l y z A B) h nx =
 zu .gtr .int u (I 0) fun v1 => sG v1 true (fun k => zF f h k) fun v2 => sG v1 true (fun k => k u) fun v3 => sG v1 true (fun k => zu .sub .int v3 (I 1) k) fun v4 => sG v1 true (fun k => zO 2 v2 v4 k) fun v5 => sG v1 true (fun k => zM 2 v5 h k) fun v6 => sG v1 true (fun k => zM 2 w h k) fun v7 => sGW v1 true (fun k => C.fn 162 (.of 162) [v6, v7] h nx k) h nx fun v8 h9 nI => sG v1 true (fun k => zu .geq .int v8 (I 0) k) fun vB => jQ v1 vB (.bool false) fun vC => zZ vC (zK 1 i .jv h9 nI fun vD hI nJ => zK 1 e .zf hI nJ fun vG hG nG => zK 1 g (I 11) hG nG fun vJ hE nE => yT id K0 .ret false .e hE nE) (yT id K0 .none true .e h9 nI) := by kernel_rfl
theorem F92.k9 : IR.run F92.b9 C N (fnO F92.res K0) K (F92.fr b c f i e g s v u w a d q o p l y z A B) h nx =
 zK 1 i a h nx fun v1 h2 n3 => zK 1 e d h2 n3 fun v4 h5 n6 => zK 1 g (I 0) h5 n6 fun v7 h8 n9 => zF i h8 fun vA => zF e h8 fun vB => zF g h8 fun vC => K0 (.tup [vA, vB, vC]) h8 n9 := by kernel_rfl
theorem F22.tab : T.get none (.of 22) tbl = some F22 := by kernel_rfl
theorem F22.go : zV tbl N C (.of 22) [a0, a1] h nx K0 =
 C.fn 92 (.of 92) [a0, a1] h nx fun v1 h2 n3 => wo 0 v1 fun v4 => wo 1 v1 fun v5 => wo 2 v1 fun v6 => K0 v6 h2 n3 := by
 rw [zJ F22.tab]; kernel_rfl
end Go.Ev
namespace Go.Ev
open Go Go.Proofs
set_option maxRecDepth 100000
section
variable {N : Nat} {C : Calls Prop} {K0 : Kw Prop} {K : Ks Prop} {h : T Blk} {nx : Pa} {b c f i e g s v u w a d a0 a1 : AV} {O : uw Prop} {tm : T AV} {Kt : KTm} {r : List RO} {s0 s1 s2 s3 s4 s5 s6 s7 s8 s9 s10 s11 s12 s13 s14 s15 s16 s17 s18 s19 s20 s21 s22 s23 s24 s25 s26 s27 s28 s29 s30 s31 s32 s33 s34 s35 s36 s37 s38 s39 : AV}
def zo.t0 : IR := .reg [.w (.loc (.of 2)) none (.box (.t (.of 0))), .q (.of 3) (.mv (.c .zf))]
def zo.t1 : IR := .reg [.s (.mv (.t (.of 1))), .s (.len (.s 0)), .w .push none (.gu 1 8 [(I 0)] (.s 0) (.s 0)), .q (.of 4) (.mv (.s 0))]
def zo.t2 : IR := .reg [.q (.of 7) (.mv (.t (.of 1))), .q (.of 8) (.len (.t (.of 7))), .q (.of 9) (.mv (.c (I 0)))]
def zo.t3 : IR := .reg [.q (.of 10) (.bin .lss .int (.t (.of 9)) (.t (.of 8)))]
def zo.t4 : IR := .cond (.t (.of 10)) .skip (.exit 0)
def zo.t5 : IR := .reg [.s (.mv (.t (.of 9))), .s (.zn 1 (.t (.of 7)) (.t (.of 9))), .s (.load (.s 0)), .q (.of 5) (.mv (.s 2)), .q (.of 6) (.mv (.s 0))]
def zo.t6 : IR := .reg [.s (.zx 1 (.t (.of 2))), .q (.of 11) (.load (.s 0))]
def zo.t7 : IR := .reg [.s (.mv (.t (.of 1))), .s (.len (.s 0)), .s (.bin .add .int (.s 0) (.c (I 1))), .s (.mv (.t (.of 6))), .s (.bin .sub .int (.s 1) (.s 0)), .q (.of 6) (.mv (.s 0))]
def zo.t8 : IR := .cond (.t (.of 11)) zo.t7 .skip
def zo.t9 : IR := .seq zo.t6 zo.t8
def zo.t10 : IR := .reg [.s (.mv (.t (.of 4))), .s (.zx 0 (.t (.of 2))), .s (.load (.s 0)), .s (.mv (.t (.of 5))), .s (.zn 1 (.s 1) (.s 0)), .s (.load (.s 0)), .s (.mv (.t (.of 6))), .s (.zn 1 (.s 6) (.s 1)), .w .none none (.store 1 (.s 0) (.s 1))]
def zo.t11 : IR := .seq zo.t9 zo.t10
def zo.t12 : IR := .seq zo.t5 zo.t11
def zo.t13 : IR := .block 1 zo.t12
def zo.t14 : IR := .reg [.s (.bin .add .int (.t (.of 9)) (.c (I 1))), .q (.of 9) (.mv (.s 0))]
def zo.t15 : IR := .seq zo.t13 zo.t14
def zo.t16 : IR := .seq zo.t4 zo.t15
def zo.t17 : IR := .seq zo.t3 zo.t16
def zo.t18 : IR := .loop zo.t17
def zo.t19 : IR := .block 0 zo.t18
def zo.t20 : IR := .seq zo.t2 zo.t19
def zo.t21 : IR := .reg [.s (.mv (.t (.of 4))), .q (.of 3) (.mv (.s 0))]
def zo.t22 : IR := .seq zo.t21 .ret
def zo.t23 : IR := .seq zo.t20 zo.t22
def zo.t24 : IR := .seq zo.t1 zo.t23
def zo.t25 : IR := .seq zo.t0 zo.t24
theorem zo.bM : IR.run zo.t0 C N O K (zo.fr b c f i e g s v u w a d) h nx =
 sBox b h nx fun v1 h2 n3 => K (zo.fr b c v1 .zf e g s v u w a d) h2 n3 := by kernel_rfl
theorem zo.bP : IR.run zo.t1 C N O K (zo.fr b c f i e g s v u w a d) h nx =
 sLen c fun v1 => gZ 1 8 [(I 0)] v1 v1 h nx fun v2 h3 n4 => K (zo.fr b c f i v2 g s v u w a d) h3 n4 := by kernel_rfl
theorem zo.bU : IR.run zo.t2 C N O K (zo.fr b c f i e g s v u w a d) h nx =
 sLen c fun v1 => K (zo.fr b c f i e g s c v1 (I 0) a d) h nx := by kernel_rfl
theorem zo.t3_s : IR.run zo.t3 C N O K (zo.fr b c f i e g s v u w a d) h nx =
 zu .lss .int w u fun v1 => K (zo.fr b c f i e g s v u w v1 d) h nx := by kernel_rfl
theorem zo.v10 : Arg.ev (.t (.of 10)) ⟨(zo.fr b c f i e g s v u w a d), []⟩ = a := by kernel_rfl
theorem zo.t5_s : IR.run zo.t5 C N O K (zo.fr b c f i e g s v u w a d) h nx =
 zO 1 v w fun v1 => zF v1 h fun v2 => K (zo.fr b c f i e w v2 v u w a d) h nx := by kernel_rfl
theorem zo.t6_s : IR.run zo.t6 C N O K (zo.fr b c f i e g s v u w a d) h nx =
 zT 1 f fun v1 => zF v1 h fun v2 => K (zo.fr b c f i e g s v u w a v2) h nx := by kernel_rfl
theorem zo.t7_s : IR.run zo.t7 C N O K (zo.fr b c f i e g s v u w a d) h nx =
 sLen c fun v1 => zu .add .int v1 (I 1) fun v2 => zu .sub .int v2 s fun v3 => K (zo.fr b c f i e g v3 v u w a d) h nx := by kernel_rfl
theorem zo.v11 : Arg.ev (.t (.of 11)) ⟨(zo.fr b c f i e g s v u w a d), []⟩ = d := by kernel_rfl
theorem zo.t10_s : IR.run zo.t10 C N O K (zo.fr b c f i e g s v u w a d) h nx =
 zT 0 f fun v1 => zF v1 h fun v2 => zO 1 v2 g fun v3 => zF v3 h fun v4 => zO 1 e v4 fun v5 => zK 1 v5 s h nx fun v6 h7 n8 => K (zo.fr b c f i e g s v u w a d) h7 n8 := by kernel_rfl
theorem zo.t14_s : IR.run zo.t14 C N O K (zo.fr b c f i e g s v u w a d) h nx =
 zu .add .int w (I 1) fun v1 => K (zo.fr b c f i e g s v u v1 a d) h nx := by kernel_rfl
theorem zo.t18_L (Inv : Nat -> AV -> T Blk -> Pa -> Prop) {m : Nat} (hm : m < N) (hi : Inv m w h nx)
  (step : ∀ (m : Nat) (z5 z6 z9 zI zA : AV) (h : T Blk) (nx : Pa) (R : Ks Prop), Inv m z9 h nx -> (∀ (m' : Nat) (w5 w6 w9 wK wA : AV) (h' : T Blk) (nx' : Pa), m' < m -> Inv m' w9 h' nx' -> R (zo.fr b c f i e w5 w6 v u w9 wK wA) h' nx' = .ok True) -> IR.run zo.t17 C N O R (zo.fr b c f i e z5 z6 v u z9 zI zA) h nx = .ok True) :
  IR.run zo.t18 C N O K (zo.fr b c f i e g s v u w a d) h nx = .ok True := by
 rw [zo.t18];refine yM (fun m tm h nx => ∃ z5 z6 z9 zI zA, tm = (zo.fr b c f i e z5 z6 v u z9 zI zA) /\ Inv m z9 h nx) ?_ hm ⟨_, _, _, _, _, rfl, hi⟩;rintro m tm h nx R ⟨z5, z6, z9, zI, zA, rfl, hi⟩ hR;exact step m z5 z6 z9 zI zA h nx R hi fun m' w5 w6 w9 wK wA h' nx' hlt hi' => hR m' _ h' nx' hlt ⟨_, _, _, _, _, rfl, hi'⟩
theorem zo.t21_s : IR.run zo.t21 C N O K (zo.fr b c f i e g s v u w a d) h nx =
 K (zo.fr b c f e e g s v u w a d) h nx := by kernel_rfl
theorem zo.tab : T.get none (.of 135) tbl = some zo := by kernel_rfl
theorem zo.bind (k : T AV -> OP) : yG zo.params [a0, a1] zo.init k = k (zo.fr a0 a1 .undef .undef .undef .undef .undef .undef .undef .undef .undef .undef) := by kernel_rfl
theorem zo.jf : zo.body = zo.t25 := by kernel_rfl
theorem zo.go : zV tbl N C (.of 135) [a0, a1] h nx K0 = IR.run zo.t25 C N (fnO zo.res K0) (ku zo.res K0) (zo.fr a0 a1 .undef .undef .undef .undef .undef .undef .undef .undef .undef .undef) h nx := by
 rw [zJ zo.tab, zo.bind, zo.jf]; kernel_rfl
theorem zo.ret : ku zo.res K0 (zo.fr b c f i e g s v u w a d) h nx = K0 i h nx := by kernel_rfl
def qw.t0 : IR := .reg [.q (.of 1) (.mv (.c (I 0)))]
def qw.t1 : IR := .reg [.s (.mv (.t (.of 0))), .s (.len (.s 0)), .s (.bin .gtr .int (.s 0) (.c (I 256))), .w .push none (.call (.c (.fn 96 (.of 96) [])) [(.s 0), (.c (I 5))]), .s (.mv (.t (.of 0))), .w .push none (.call (.c (.fn 136 (.of 136) [])) [(.s 0), (.c (.fn 137 (.of 137) []))]), .w .push none (.call (.c (.fn 96 (.of 96) [])) [(.s 0), (.c (I 3))]), .w .push none (.yj 1 2 [(I 0)] [(0, 1, (.s 3)), (1, 1, (.s 0))]), .w .push none (.call (.c (.fn 94 (.of 94) [])) [(.s 0)]), .q (.of 1) (.mv (.s 0))]
def qw.t2 : IR := .seq qw.t1 .ret
def qw.t3 : IR := .seq qw.t0 qw.t2
theorem qw.bM : IR.run qw.t0 C N O K (qw.fr b c) h nx =
 K (qw.fr b (I 0)) h nx := by kernel_rfl
theorem qw.bP : IR.run qw.t1 C N O K (qw.fr b c) h nx =
 sLen b fun v1 => zu .gtr .int v1 (I 256) fun v2 => C.fn 96 (.of 96) [v2, (I 5)] h nx fun v3 h4 n5 => C.fn 136 (.of 136) [b, (.fn 137 (.of 137) [])] h4 n5 fun v6 h7 n8 => C.fn 96 (.of 96) [v6, (I 3)] h7 n8 fun v9 hV nV => jI 1 2 [(I 0)] [(0, 1, v3), (1, 1, v9)] hV nV fun vC h13 n14 => C.fn 94 (.of 94) [vC] h13 n14 fun vF hB nB => K (qw.fr b vF) hB nB := by kernel_rfl
theorem qw.tab : T.get none (.of 134) tbl = some qw := by kernel_rfl
theorem qw.bind (k : T AV -> OP) : yG qw.params [a0] qw.init k = k (qw.fr a0 .undef) := by kernel_rfl
theorem qw.jf : qw.body = qw.t3 := by kernel_rfl
theorem qw.go : zV tbl N C (.of 134) [a0] h nx K0 = IR.run qw.t3 C N (fnO qw.res K0) (ku qw.res K0) (qw.fr a0 .undef) h nx := by
 rw [zJ qw.tab, qw.bind, qw.jf]; kernel_rfl
theorem qw.ret : ku qw.res K0 (qw.fr b c) h nx = K0 c h nx := by kernel_rfl
def qo.t0 : IR := .reg [.q (.of 1) (.mv (.c (.bool false)))]
def qo.t1 : IR := .reg [.s (.mv (.t (.of 0))), .s (.bin .lss .int (.s 0) (.c (I (-999999999)))), .s (.mv (.s 0)), .p .push (some ((.s 0), false)) (.mv (.t (.of 0))), .p .push (some ((.s 1), false)) (.bin .gtr .int (.s 0) (.c (I 999999999))), .s (.pick (.s 2) (.c (.bool true)) (.s 0)), .q (.of 1) (.mv (.s 0))]
def qo.t2 : IR := .seq qo.t1 .ret
def qo.t3 : IR := .seq qo.t0 qo.t2
theorem qo.bM : IR.run qo.t0 C N O K (qo.fr b c) h nx =
 K (qo.fr b (.bool false)) h nx := by kernel_rfl
theorem qo.bP : IR.run qo.t1 C N O K (qo.fr b c) h nx =
 zu .lss .int b (I (-999999999)) fun v1 => sG v1 false (fun k => k b) fun v2 => sG v1 false (fun k => zu .gtr .int v2 (I 999999999) k) fun v3 => jQ v1 (.bool true) v3 fun v4 => K (qo.fr b v4) h nx := by kernel_rfl
theorem qo.tab : T.get none (.of 137) tbl = some qo := by kernel_rfl
theorem qo.bind (k : T AV -> OP) : yG qo.params [a0] qo.init k = k (qo.fr a0 .undef) := by kernel_rfl
theorem qo.jf : qo.body = qo.t3 := by kernel_rfl
theorem qo.go : zV tbl N C (.of 137) [a0] h nx K0 = IR.run qo.t3 C N (fnO qo.res K0) (ku qo.res K0) (qo.fr a0 .undef) h nx := by
 rw [zJ qo.tab, qo.bind, qo.jf]; kernel_rfl
theorem qo.ret : ku qo.res K0 (qo.fr b c) h nx = K0 c h nx := by kernel_rfl
end
end Go.Ev
namespace Go.Ev
open Go Go.Proofs
set_option maxRecDepth 100000
section
variable {N : Nat} {C : Calls Prop} {K0 : Kw Prop} {K : Ks Prop} {h : T Blk} {nx : Pa} {b c f i e g s a0 a1 a2 a3 : AV} {O : uw Prop} {tm : T AV} {Kt : KTm} {r : List RO} {s0 s1 s2 s3 s4 s5 s6 s7 s8 s9 s10 s11 s12 s13 s14 s15 s16 s17 s18 s19 s20 s21 s22 s23 s24 s25 s26 s27 s28 s29 s30 s31 s32 s33 s34 s35 s36 s37 s38 s39 : AV}
end
end Go.Ev
namespace Go.Ev
open Go Go.Proofs
set_option maxRecDepth 100000
section
variable {N : Nat} {C : Calls Prop} {K0 : Kw Prop} {K : Ks Prop} {h : T Blk} {nx : Pa} {b c f i e g s v u w a d q o p l a0 a1 a2 a3 : AV} {O : uw Prop} {tm : T AV} {Kt : KTm} {r : List RO} {s0 s1 s2 s3 s4 s5 s6 s7 s8 s9 s10 s11 s12 s13 s14 s15 s16 s17 s18 s19 s20 s21 s22 s23 s24 s25 s26 s27 s28 s29 s30 s31 s32 s33 s34 s35 s36 s37 s38 s39 : AV}
def F86.t0 : IR := .reg [.w (.loc (.of 3)) none (.box (.t (.of 1))), .w (.loc (.of 4)) none (.box (.t (.of 2))), .w (.loc (.of 5)) none (.alloc [.zf, (.bool false)]), .w (.loc (.of 6)) none (.alloc [(I 0)])]
def F86.t1 : IR := .yt [] [(.s (.load (.t (.of 3))), 0, []), (.s (.load (.t (.of 4))), 1, []), (.s (.load (.t (.of 3))), 2, []), (.s (.len (.s 0)), 2, []), (.s (.load (.t (.of 4))), 2, []), (.s (.len (.s 0)), 2, []), (.s (.bin .neq .int (.s 2) (.s 0)), 2, []), (.w .push none (.call (.c (.fn 134 (.of 134) [])) [(.s 6)]), 0, []), (.w .push none (.call (.c (.fn 134 (.of 134) [])) [(.s 6)]), 0, []), (.w .push none (.call (.c (.fn 96 (.of 96) [])) [(.s 2), (.c (I 2))]), 0, []), (.w .push none (.yj 1 3 [(I 0)] [(0, 1, (.s 2)), (1, 1, (.s 1)), (2, 1, (.s 0))]), 0, []), (.w .push none (.call (.c (.fn 94 (.of 94) [])) [(.s 0)]), 0, []), (.q (.of 7) (.mv (.s 0)), 0, [])]
def F86.t2 : IR := .reg [.s (.mv (.t (.of 7))), .q (.of 10) (.bin .neq .int (.s 0) (.c (I 0)))]
def F86.t3 : IR := .reg [.s (.build [.zf, (.bool false)] []), .s (.mv (.t (.of 7))), .w .none none (.store 2 (.t (.of 5)) (.s 1)), .w .none none (.store 1 (.t (.of 6)) (.s 0))]
def F86.t4 : IR := .seq F86.t3 .ret
def F86.t5 : IR := .cond (.t (.of 10)) F86.t4 .skip
def F86.t6 : IR := .seq F86.t2 F86.t5
def F86.t7 : IR := .seq F86.t1 F86.t6
def F86.t8 : IR := .reg [.s (.mv (.t (.of 0))), .s (.load (.t (.of 3))), .s (.len (.s 0)), .w .push none (.call (.c (.fn 22 (.of 22) [])) [(.s 2), (.s 0)]), .q (.of 8) (.mv (.s 0))]
def F86.t9 : IR := .reg [.s (.mv (.t (.of 8))), .q (.of 11) (.bin .neq .int (.s 0) (.c (I 0)))]
def F86.t10 : IR := .reg [.s (.build [.zf, (.bool false)] []), .s (.mv (.t (.of 8))), .w .none none (.store 2 (.t (.of 5)) (.s 1)), .w .none none (.store 1 (.t (.of 6)) (.s 0))]
def F86.t11 : IR := .seq F86.t10 .ret
def F86.t12 : IR := .cond (.t (.of 11)) F86.t11 .skip
def F86.t13 : IR := .seq F86.t9 F86.t12
def F86.t14 : IR := .seq F86.t8 F86.t13
def F86.t15 : IR := .reg [.s (.mv (.t (.of 0))), .w (.loc (.of 12)) none (.call (.c (.fn 90 (.of 90) [])) [(.s 0)])]
def F86.t16 : IR := .reg [.w (.loc (.of 9)) none (.alloc [.zf, (.bool false)]), .w .none none (.store 2 (.t (.of 9)) (.t (.of 14)))]
def F86.t17 : IR := .yt [] [(.s (.zi 2 (.t (.of 9))), 0, []), (.s (.load (.t (.of 3))), 0, []), (.s (.load (.t (.of 4))), 1, []), (.w .push none (.call (.c (.fn 135 (.of 135) [])) [(.s 2), (.s 1)]), 0, []), (.w (.loc (.of 15)) none (.call (.c (.fn 158 (.of 158) [])) [(.s 0), (.s 1)]), 0, [])]
def F86.t18 : IR := .yt [] [(.s (.zx 0 (.t (.of 9))), 0, []), (.s (.load (.s 0)), 0, []), (.s (.zx 1 (.t (.of 9))), 1, []), (.s (.load (.s 0)), 1, []), (.w .push none (.call (.c (.fn 106 (.of 106) [])) [(.s 2)]), 0, []), (.s (.build [.zf, (.bool false)] [(0, 1, (.s 0)), (1, 1, (.s 1))]), 0, []), (.w .none none (.store 2 (.t (.of 5)) (.s 0)), 0, []), (.w .none none (.store 1 (.t (.of 6)) (.c (I 0))), 0, [])]
def F86.t19 : IR := .seq F86.t18 .ret
def F86.t20 : IR := .cond (.t (.of 15)) F86.t19 .skip
def F86.t21 : IR := .seq F86.t17 F86.t20
def F86.t22 : IR := .block 1 F86.t21
def F86.t23 : IR := .rf (.t (.of 12)) [(.of 13), (.of 14)] F86.t16 F86.t22
def F86.t24 : IR := .block 0 F86.t23
def F86.t25 : IR := .seq F86.t15 F86.t24
def F86.t26 : IR := .reg [.s (.build [.zf, (.bool false)] []), .w .none none (.store 2 (.t (.of 5)) (.s 0)), .w .none none (.store 1 (.t (.of 6)) (.c (I 7)))]
def F86.t27 : IR := .seq F86.t26 .ret
def F86.t28 : IR := .seq F86.t25 F86.t27
def F86.t29 : IR := .seq F86.t14 F86.t28
def F86.t30 : IR := .seq F86.t7 F86.t29
def F86.t31 : IR := .seq F86.t0 F86.t30
theorem F86.bM : IR.run F86.t0 C N O K (F86.fr b c f i e g s v u w a d q o p l) h nx =
 sBox c h nx fun v1 h2 n3 => sBox f h2 n3 fun v4 h5 n6 => yH [.zf, (.bool false)] h5 n6 fun v7 h8 n9 => yH [(I 0)] h8 n9 fun vA hH nH => K (F86.fr b c f v1 v4 v7 vA v u w a d q o p l) hH nH := by kernel_rfl
theorem F86.bP : IR.run F86.t1 C N O K (F86.fr b c f i e g s v u w a d q o p l) h nx =
 zF i h fun v1 => zF e h fun v2 => zF i h fun v3 => sLen v3 fun v4 => zF e h fun v5 => sLen v5 fun v6 => zu .neq .int v4 v6 fun v7 => C.fn 134 (.of 134) [v1] h nx fun v8 h9 nI => (zu .neq .int v4 v6 fun vZ => zN vZ v7 ((sLen v5 fun v32 => zN v32 v6 ((zF e h9 fun vQ => zN vQ v5 ((sLen v3 fun vR => zN vR v4 ((zF i h9 fun vS => zN vS v3 ((zF e h9 fun vU => zN vU v2 (C.fn 134 (.of 134) [v2] h9 nI fun vB hD nD => (zu .neq .int v4 v6 fun vP => zN vP v7 ((sLen v5 fun vV => zN vV v6 ((zF e hD fun v25 => zN v25 v5 ((sLen v3 fun vO => zN vO v4 ((zF i hD fun vN => zN vN v3 (C.fn 96 (.of 96) [v7, (I 2)] hD nD fun vE hA nA => jI 1 3 [(I 0)] [(0, 1, v8), (1, 1, vB), (2, 1, vE)] hA nA fun vH h18 n19 => C.fn 94 (.of 94) [vH] h18 n19 fun vK hJ nK => K (F86.fr b c f i e g s vK u w a d q o p l) hJ nK)))))))))))))))))))))) := by kernel_rfl
theorem F86.bU : IR.run F86.t2 C N O K (F86.fr b c f i e g s v u w a d q o p l) h nx =
 zu .neq .int v (I 0) fun v1 => K (F86.fr b c f i e g s v u w v1 d q o p l) h nx := by kernel_rfl
theorem F86.t3_s : IR.run F86.t3 C N O K (F86.fr b c f i e g s v u w a d q o p l) h nx =
 uM [.zf, (.bool false)] [] fun v1 => zK 2 g v1 h nx fun v2 h3 n4 => zK 1 s v h3 n4 fun v5 h6 n7 => K (F86.fr b c f i e g s v u w a d q o p l) h6 n7 := by kernel_rfl
theorem F86.v10 : Arg.ev (.t (.of 10)) ⟨(F86.fr b c f i e g s v u w a d q o p l), []⟩ = a := by kernel_rfl
theorem F86.t8_s : IR.run F86.t8 C N O K (F86.fr b c f i e g s v u w a d q o p l) h nx =
 zF i h fun v1 => sLen v1 fun v2 => C.fn 22 (.of 22) [b, v2] h nx fun v3 h4 n5 => K (F86.fr b c f i e g s v v3 w a d q o p l) h4 n5 := by kernel_rfl
theorem F86.t9_s : IR.run F86.t9 C N O K (F86.fr b c f i e g s v u w a d q o p l) h nx =
 zu .neq .int u (I 0) fun v1 => K (F86.fr b c f i e g s v u w a v1 q o p l) h nx := by kernel_rfl
theorem F86.t10_s : IR.run F86.t10 C N O K (F86.fr b c f i e g s v u w a d q o p l) h nx =
 uM [.zf, (.bool false)] [] fun v1 => zK 2 g v1 h nx fun v2 h3 n4 => zK 1 s u h3 n4 fun v5 h6 n7 => K (F86.fr b c f i e g s v u w a d q o p l) h6 n7 := by kernel_rfl
theorem F86.v11 : Arg.ev (.t (.of 11)) ⟨(F86.fr b c f i e g s v u w a d q o p l), []⟩ = d := by kernel_rfl
theorem F86.t15_s : IR.run F86.t15 C N O K (F86.fr b c f i e g s v u w a d q o p l) h nx =
 C.fn 90 (.of 90) [b] h nx fun v1 h2 n3 => K (F86.fr b c f i e g s v u w a d v1 o p l) h2 n3 := by kernel_rfl
theorem F86.t16_s : IR.run F86.t16 C N O K (F86.fr b c f i e g s v u w a d q o p l) h nx =
 yH [.zf, (.bool false)] h nx fun v1 h2 n3 => zK 2 v1 p h2 n3 fun v4 h5 n6 => K (F86.fr b c f i e g s v u v1 a d q o p l) h5 n6 := by kernel_rfl
theorem F86.t17_s : IR.run F86.t17 C N O K (F86.fr b c f i e g s v u w a d q o p l) h nx =
 zM 2 w h fun v1 => zF i h fun v2 => zF e h fun v3 => C.fn 135 (.of 135) [v1, v2] h nx fun v4 h5 n6 => (zF e h5 fun vA => zN vA v3 (C.fn 158 (.of 158) [v4, v3] h5 n6 fun v7 h8 n9 => K (F86.fr b c f i e g s v u w a d q o p v7) h8 n9)) := by kernel_rfl
theorem F86.t18_s : IR.run F86.t18 C N O K (F86.fr b c f i e g s v u w a d q o p l) h nx =
 zT 0 w fun v1 => zF v1 h fun v2 => zT 1 w fun v3 => zF v3 h fun v4 => C.fn 106 (.of 106) [v2] h nx fun v5 h6 n7 => (zF v3 h6 fun vG => zN vG v4 ((zT 1 w fun vF => zN vF v3 (uM [.zf, (.bool false)] [(0, 1, v5), (1, 1, v4)] fun v8 => zK 2 g v8 h6 n7 fun v9 hV nV => zK 1 s (I 0) hV nV fun vC h13 n14 => K (F86.fr b c f i e g s v u w a d q o p l) h13 n14)))) := by kernel_rfl
theorem F86.v15 : Arg.ev (.t (.of 15)) ⟨(F86.fr b c f i e g s v u w a d q o p l), []⟩ = l := by kernel_rfl
theorem F86.t23_f : Arg.ev (.t (.of 12)) ⟨(F86.fr b c f i e g s v u w a d q o p l), []⟩ = q := by kernel_rfl
theorem F86.t23_b {z0 z1 : AV} (k : T AV -> OP) : yG [(.of 13), (.of 14)] [z0, z1] (F86.fr b c f i e g s v u w a d q o p l) k = k (F86.fr b c f i e g s v u w a d q z0 z1 l) := by kernel_rfl
theorem F86.t26_s : IR.run F86.t26 C N O K (F86.fr b c f i e g s v u w a d q o p l) h nx =
 uM [.zf, (.bool false)] [] fun v1 => zK 2 g v1 h nx fun v2 h3 n4 => zK 1 s (I 7) h3 n4 fun v5 h6 n7 => K (F86.fr b c f i e g s v u w a d q o p l) h6 n7 := by kernel_rfl
theorem F86.tab : T.get none (.of 86) tbl = some F86 := by kernel_rfl
theorem F86.bind (k : T AV -> OP) : yG F86.params [a0, a1, a2] F86.init k = k (F86.fr a0 a1 a2 .undef .undef .undef .undef .undef .undef .undef .undef .undef .undef .undef .undef .undef) := by kernel_rfl
theorem F86.jf : F86.body = F86.t31 := by kernel_rfl
theorem F86.go : zV tbl N C (.of 86) [a0, a1, a2] h nx K0 = IR.run F86.t31 C N (fnO F86.res K0) (ku F86.res K0) (F86.fr a0 a1 a2 .undef .undef .undef .undef .undef .undef .undef .undef .undef .undef .undef .undef .undef) h nx := by
 rw [zJ F86.tab, F86.bind, F86.jf]; kernel_rfl
theorem F86.ret : ku F86.res K0 (F86.fr b c f i e g s v u w a d q o p l) h nx = zM 2 g h fun v1 => zF s h fun v2 => K0 (.tup [v1, v2]) h nx := by kernel_rfl
end
end Go.Ev
namespace Go.Ev
open Go Go.Proofs
set_option maxRecDepth 100000
section
variable {N : Nat} {C : Calls Prop} {K0 : Kw Prop} {K : Ks Prop} {h : T Blk} {nx : Pa} {b c f i e g s v u w a d q o p l y z a0 a1 a2 : AV} {O : uw Prop} {tm : T AV} {Kt : KTm} {r : List RO} {s0 s1 s2 s3 s4 s5 s6 s7 s8 s9 s10 s11 s12 s13 s14 s15 s16 s17 s18 s19 s20 s21 s22 s23 s24 s25 s26 s27 s28 s29 s30 s31 s32 s33 s34 s35 s36 s37 s38 s39 : AV}
def zk.t0 : IR := .reg [.q (.of 3) (.mv (.c .jv)), .w (.loc (.of 4)) none (.alloc [.zf, .zf]), .q (.of 5) (.mv (.c (I 0)))]
def zk.t1 : IR := .reg [.w (.loc (.of 6)) none (.alloc [.zf, .zf])]
def zk.t2 : IR := .reg [.s (.mv (.t (.of 0))), .s (.mv (.t (.of 2))), .w .push none (.call (.c (.fn 92 (.of 92) [])) [(.s 1), (.s 0)]), .s (.mv (.s 0)), .s (.ext 0 (.s 0)), .s (.ext 1 (.s 1)), .s (.ext 2 (.s 2)), .q (.of 7) (.mv (.s 2)), .q (.of 8) (.mv (.s 1)), .q (.of 9) (.mv (.s 0))]
def zk.t3 : IR := .reg [.s (.mv (.t (.of 9))), .q (.of 13) (.bin .neq .int (.s 0) (.c (I 0)))]
def zk.t4 : IR := .yt [] [(.s (.zi 2 (.t (.of 6))), 0, []), (.s (.mv (.t (.of 9))), 1, []), (.q (.of 3) (.mv (.c .jv)), 0, []), (.w .none none (.store 2 (.t (.of 4)) (.s 1)), 0, []), (.q (.of 5) (.mv (.s 0)), 0, [])]
def zk.t5 : IR := .seq zk.t4 .ret
def zk.t6 : IR := .cond (.t (.of 13)) zk.t5 .skip
def zk.t7 : IR := .seq zk.t3 zk.t6
def zk.t8 : IR := .reg [.s (.mv (.t (.of 1))), .s (.mv (.t (.of 2))), .w .push none (.call (.c (.fn 92 (.of 92) [])) [(.s 1), (.s 0)]), .s (.mv (.s 0)), .s (.ext 0 (.s 0)), .s (.ext 1 (.s 1)), .s (.ext 2 (.s 2)), .q (.of 10) (.mv (.s 2)), .q (.of 11) (.mv (.s 1)), .q (.of 9) (.mv (.s 0))]
def zk.t9 : IR := .reg [.s (.mv (.t (.of 9))), .q (.of 14) (.bin .neq .int (.s 0) (.c (I 0)))]
def zk.t10 : IR := .yt [] [(.s (.zi 2 (.t (.of 6))), 0, []), (.s (.mv (.t (.of 9))), 1, []), (.q (.of 3) (.mv (.c .jv)), 0, []), (.w .none none (.store 2 (.t (.of 4)) (.s 1)), 0, []), (.q (.of 5) (.mv (.s 0)), 0, [])]
def zk.t11 : IR := .seq zk.t10 .ret
def zk.t12 : IR := .cond (.t (.of 14)) zk.t11 .skip
def zk.t13 : IR := .seq zk.t9 zk.t12
def zk.t14 : IR := .reg [.s (.mv (.t (.of 10))), .w (.loc (.of 15)) none (.range (.s 0))]
def zk.t15 : IR := .reg [.w .push none (.next (.t (.of 15))), .q (.of 16) (.ext 0 (.s 0))]
def zk.t16 : IR := .cond (.t (.of 16)) .skip (.exit 0)
def zk.t17 : IR := .reg [.s (.entry (.t (.of 15))), .s (.ext 1 (.s 0)), .w (.loc (.of 12)) none (.alloc [.zf, (.bool false)]), .w .none none (.store 2 (.t (.of 12)) (.s 0))]
def zk.t18 : IR := .reg [.s (.mv (.t (.of 7))), .s (.zi 2 (.t (.of 12))), .w .push none (.call (.c (.fn 121 (.of 121) [])) [(.s 1), (.s 0)]), .q (.of 17) (.not (.s 0))]
def zk.t19 : IR := .yt [] [(.s (.zi 2 (.t (.of 6))), 0, []), (.q (.of 3) (.mv (.c .jv)), 0, []), (.w .none none (.store 2 (.t (.of 4)) (.s 0)), 0, []), (.q (.of 5) (.mv (.c (I 28))), 0, [])]
def zk.t20 : IR := .seq zk.t19 .ret
def zk.t21 : IR := .cond (.t (.of 17)) zk.t20 .skip
def zk.t22 : IR := .seq zk.t18 zk.t21
def zk.t23 : IR := .seq zk.t17 zk.t22
def zk.t24 : IR := .block 1 zk.t23
def zk.t25 : IR := .seq zk.t16 zk.t24
def zk.t26 : IR := .seq zk.t15 zk.t25
def zk.t27 : IR := .loop zk.t26
def zk.t28 : IR := .block 0 zk.t27
def zk.t29 : IR := .seq zk.t14 zk.t28
def zk.t30 : IR := .reg [.s (.mv (.t (.of 8))), .s (.mv (.t (.of 11))), .s (.aaddr 1 2 (.t (.of 6)) (.c (I 0))), .w .none none (.store 1 (.s 0) (.s 2)), .s (.aaddr 1 2 (.t (.of 6)) (.c (I 1))), .w .none none (.store 1 (.s 0) (.s 2))]
def zk.t31 : IR := .yt [] [(.s (.mv (.t (.of 10))), 0, []), (.s (.zi 2 (.t (.of 6))), 0, []), (.q (.of 3) (.mv (.s 1)), 0, []), (.w .none none (.store 2 (.t (.of 4)) (.s 0)), 0, []), (.q (.of 5) (.mv (.c (I 0))), 0, [])]
def zk.t32 : IR := .seq zk.t31 .ret
def zk.t33 : IR := .seq zk.t30 zk.t32
def zk.t34 : IR := .seq zk.t29 zk.t33
def zk.t35 : IR := .seq zk.t13 zk.t34
def zk.t36 : IR := .seq zk.t8 zk.t35
def zk.t37 : IR := .seq zk.t7 zk.t36
def zk.t38 : IR := .seq zk.t2 zk.t37
def zk.t39 : IR := .seq zk.t1 zk.t38
def zk.t40 : IR := .seq zk.t0 zk.t39
theorem zk.bM : IR.run zk.t0 C N O K (zk.fr b c f i e g s v u w a d q o p l y z) h nx =
 yH [.zf, .zf] h nx fun v1 h2 n3 => K (zk.fr b c f .jv v1 (I 0) s v u w a d q o p l y z) h2 n3 := by kernel_rfl
theorem zk.bP : IR.run zk.t1 C N O K (zk.fr b c f i e g s v u w a d q o p l y z) h nx =
 yH [.zf, .zf] h nx fun v1 h2 n3 => K (zk.fr b c f i e g v1 v u w a d q o p l y z) h2 n3 := by kernel_rfl
theorem zk.bU : IR.run zk.t2 C N O K (zk.fr b c f i e g s v u w a d q o p l y z) h nx =
 C.fn 92 (.of 92) [b, f] h nx fun v1 h2 n3 => wo 0 v1 fun v4 => wo 1 v1 fun v5 => wo 2 v1 fun v6 => K (zk.fr b c f i e g s v4 v5 v6 a d q o p l y z) h2 n3 := by kernel_rfl
theorem zk.t3_s : IR.run zk.t3 C N O K (zk.fr b c f i e g s v u w a d q o p l y z) h nx =
 zu .neq .int w (I 0) fun v1 => K (zk.fr b c f i e g s v u w a d q v1 p l y z) h nx := by kernel_rfl
theorem zk.t4_s : IR.run zk.t4 C N O K (zk.fr b c f i e g s v u w a d q o p l y z) h nx =
 zM 2 s h fun v1 => zK 2 e v1 h nx fun v2 h3 n4 => zN w w (K (zk.fr b c f .jv e w s v u w a d q o p l y z) h3 n4) := by kernel_rfl
theorem zk.v13 : Arg.ev (.t (.of 13)) ⟨(zk.fr b c f i e g s v u w a d q o p l y z), []⟩ = o := by kernel_rfl
theorem zk.t8_s : IR.run zk.t8 C N O K (zk.fr b c f i e g s v u w a d q o p l y z) h nx =
 C.fn 92 (.of 92) [c, f] h nx fun v1 h2 n3 => wo 0 v1 fun v4 => wo 1 v1 fun v5 => wo 2 v1 fun v6 => K (zk.fr b c f i e g s v u v6 v4 v5 q o p l y z) h2 n3 := by kernel_rfl
theorem zk.t9_s : IR.run zk.t9 C N O K (zk.fr b c f i e g s v u w a d q o p l y z) h nx =
 zu .neq .int w (I 0) fun v1 => K (zk.fr b c f i e g s v u w a d q o v1 l y z) h nx := by kernel_rfl
theorem zk.t10_s : IR.run zk.t10 C N O K (zk.fr b c f i e g s v u w a d q o p l y z) h nx =
 zM 2 s h fun v1 => zK 2 e v1 h nx fun v2 h3 n4 => zN w w (K (zk.fr b c f .jv e w s v u w a d q o p l y z) h3 n4) := by kernel_rfl
theorem zk.v14 : Arg.ev (.t (.of 14)) ⟨(zk.fr b c f i e g s v u w a d q o p l y z), []⟩ = p := by kernel_rfl
theorem zk.t14_s : IR.run zk.t14 C N O K (zk.fr b c f i e g s v u w a d q o p l y z) h nx =
 sRange a h nx fun v1 h2 n3 => K (zk.fr b c f i e g s v u w a d q o p v1 y z) h2 n3 := by kernel_rfl
theorem zk.t15_s : IR.run zk.t15 C N O K (zk.fr b c f i e g s v u w a d q o p l y z) h nx =
 sNext C l h nx fun v1 h2 n3 => wo 0 v1 fun v4 => K (zk.fr b c f i e g s v u w a d q o p l v4 z) h2 n3 := by kernel_rfl
theorem zk.v16 : Arg.ev (.t (.of 16)) ⟨(zk.fr b c f i e g s v u w a d q o p l y z), []⟩ = y := by kernel_rfl
theorem zk.t17_s : IR.run zk.t17 C N O K (zk.fr b c f i e g s v u w a d q o p l y z) h nx =
 sEntry l h fun v1 => wo 1 v1 fun v2 => yH [.zf, (.bool false)] h nx fun v3 h4 n5 => zK 2 v3 v2 h4 n5 fun v6 h7 n8 => K (zk.fr b c f i e g s v u w a d v3 o p l y z) h7 n8 := by kernel_rfl
theorem zk.t18_s : IR.run zk.t18 C N O K (zk.fr b c f i e g s v u w a d q o p l y z) h nx =
 zM 2 q h fun v1 => C.fn 121 (.of 121) [v, v1] h nx fun v2 h3 n4 => sNot v2 fun v5 => K (zk.fr b c f i e g s v u w a d q o p l y v5) h3 n4 := by kernel_rfl
theorem zk.t19_s : IR.run zk.t19 C N O K (zk.fr b c f i e g s v u w a d q o p l y z) h nx =
 zM 2 s h fun v1 => zK 2 e v1 h nx fun v2 h3 n4 => K (zk.fr b c f .jv e (I 28) s v u w a d q o p l y z) h3 n4 := by kernel_rfl
theorem zk.v17 : Arg.ev (.t (.of 17)) ⟨(zk.fr b c f i e g s v u w a d q o p l y z), []⟩ = z := by kernel_rfl
theorem zk.t27_L (Inv : Nat -> T Blk -> Pa -> Prop) {m : Nat} (hm : m < N) (hi : Inv m h nx)
  (step : ∀ (m : Nat) (z3 z5 zB zG zH : AV) (h : T Blk) (nx : Pa) (R : Ks Prop), Inv m h nx -> (∀ (m' : Nat) (w3 w5 wB wH wI : AV) (h' : T Blk) (nx' : Pa), m' < m -> Inv m' h' nx' -> R (zk.fr b c f w3 e w5 s v u w a d wB o p l wH wI) h' nx' = .ok True) -> IR.run zk.t26 C N O R (zk.fr b c f z3 e z5 s v u w a d zB o p l zG zH) h nx = .ok True) :
  IR.run zk.t27 C N O K (zk.fr b c f i e g s v u w a d q o p l y z) h nx = .ok True := by
 rw [zk.t27];refine yM (fun m tm h nx => ∃ z3 z5 zB zG zH, tm = (zk.fr b c f z3 e z5 s v u w a d zB o p l zG zH) /\ Inv m h nx) ?_ hm ⟨_, _, _, _, _, rfl, hi⟩;rintro m tm h nx R ⟨z3, z5, zB, zG, zH, rfl, hi⟩ hR;exact step m z3 z5 zB zG zH h nx R hi fun m' w3 w5 wB wH wI h' nx' hlt hi' => hR m' _ h' nx' hlt ⟨_, _, _, _, _, rfl, hi'⟩
theorem zk.t30_s : IR.run zk.t30 C N O K (zk.fr b c f i e g s v u w a d q o p l y z) h nx =
 dE 1 2 s (I 0) fun v1 => zK 1 v1 u h nx fun v2 h3 n4 => dE 1 2 s (I 1) fun v5 => zK 1 v5 d h3 n4 fun v6 h7 n8 => K (zk.fr b c f i e g s v u w a d q o p l y z) h7 n8 := by kernel_rfl
theorem zk.t31_s : IR.run zk.t31 C N O K (zk.fr b c f i e g s v u w a d q o p l y z) h nx =
 zM 2 s h fun v1 => zK 2 e v1 h nx fun v2 h3 n4 => K (zk.fr b c f a e (I 0) s v u w a d q o p l y z) h3 n4 := by kernel_rfl
theorem zk.tab : T.get none (.of 120) tbl = some zk := by kernel_rfl
theorem zk.bind (k : T AV -> OP) : yG zk.params [a0, a1, a2] zk.init k = k (zk.fr a0 a1 a2 .undef .undef .undef .undef .undef .undef .undef .undef .undef .undef .undef .undef .undef .undef .undef) := by kernel_rfl
theorem zk.jf : zk.body = zk.t40 := by kernel_rfl
theorem zk.go : zV tbl N C (.of 120) [a0, a1, a2] h nx K0 = IR.run zk.t40 C N (fnO zk.res K0) (ku zk.res K0) (zk.fr a0 a1 a2 .undef .undef .undef .undef .undef .undef .undef .undef .undef .undef .undef .undef .undef .undef .undef) h nx := by
 rw [zJ zk.tab, zk.bind, zk.jf]; kernel_rfl
theorem zk.ret : ku zk.res K0 (zk.fr b c f i e g s v u w a d q o p l y z) h nx = zM 2 e h fun v1 => K0 (.tup [i, v1, g]) h nx := by kernel_rfl
def F27.t0 : IR := .reg [.q (.of 2) (.mv (.c .zf)), .q (.of 3) (.mv (.c (I 0)))]
def F27.t1 : IR := .reg [.s (.mv (.t (.of 1))), .w .push none (.call (.c (.fn 95 (.of 95) [])) [(.s 0)]), .s (.mv (.t (.of 0))), .s (.len (.s 0)), .s (.bin .gtr .int (.s 0) (.c (I 256))), .w .push none (.call (.c (.fn 96 (.of 96) [])) [(.s 0), (.c (I 5))]), .w .push none (.yj 1 2 [(I 0)] [(0, 1, (.s 4)), (1, 1, (.s 0))]), .w .push none (.call (.c (.fn 94 (.of 94) [])) [(.s 0)]), .q (.of 4) (.mv (.s 0))]
def F27.t2 : IR := .reg [.s (.mv (.t (.of 4))), .q (.of 8) (.bin .neq .int (.s 0) (.c (I 0)))]
def F27.t3 : IR := .reg [.s (.mv (.t (.of 4))), .q (.of 2) (.mv (.c .zf)), .q (.of 3) (.mv (.s 0))]
def F27.t4 : IR := .seq F27.t3 .ret
def F27.t5 : IR := .cond (.t (.of 8)) F27.t4 .skip
def F27.t6 : IR := .seq F27.t2 F27.t5
def F27.t7 : IR := .seq F27.t1 F27.t6
def F27.t8 : IR := .reg [.s (.mv (.t (.of 0))), .s (.mv (.t (.of 1))), .w .push none (.call (.c (.fn 97 (.of 97) [])) [(.s 1), (.s 0)]), .q (.of 5) (.mv (.s 0))]
def F27.t9 : IR := .reg [.s (.mv (.t (.of 5))), .q (.of 9) (.bin .neq .int (.s 0) (.c (I 0)))]
def F27.t10 : IR := .reg [.s (.mv (.t (.of 5))), .q (.of 2) (.mv (.c .zf)), .q (.of 3) (.mv (.s 0))]
def F27.t11 : IR := .seq F27.t10 .ret
def F27.t12 : IR := .cond (.t (.of 9)) F27.t11 .skip
def F27.t13 : IR := .seq F27.t9 F27.t12
def F27.t14 : IR := .seq F27.t8 F27.t13
def F27.t15 : IR := .reg [.s (.mv (.t (.of 0))), .s (.mv (.t (.of 1))), .w .push none (.call (.c (.fn 98 (.of 98) [])) [(.s 1), (.s 0), (.c (I 1536))]), .s (.mv (.s 0)), .s (.ext 0 (.s 0)), .s (.ext 1 (.s 1)), .s (.ext 2 (.s 2)), .q (.of 6) (.mv (.s 2)), .s (.mv (.s 1)), .q (.of 7) (.mv (.s 1))]
def F27.t16 : IR := .reg [.s (.mv (.t (.of 7))), .q (.of 10) (.not (.s 0))]
def F27.t17 : IR := .reg [.q (.of 2) (.mv (.c .zf)), .q (.of 3) (.mv (.c (I 20)))]
def F27.t18 : IR := .seq F27.t17 .ret
def F27.t19 : IR := .cond (.t (.of 10)) F27.t18 .skip
def F27.t20 : IR := .seq F27.t16 F27.t19
def F27.t21 : IR := .reg [.s (.mv (.t (.of 6))), .w .push none (.call (.c (.fn 99 (.of 99) [])) [(.s 0)]), .q (.of 2) (.mv (.s 0)), .q (.of 3) (.mv (.c (I 0)))]
def F27.t22 : IR := .seq F27.t21 .ret
def F27.t23 : IR := .seq F27.t20 F27.t22
def F27.t24 : IR := .seq F27.t15 F27.t23
def F27.t25 : IR := .seq F27.t14 F27.t24
def F27.t26 : IR := .seq F27.t7 F27.t25
def F27.t27 : IR := .seq F27.t0 F27.t26
theorem F27.bM : IR.run F27.t0 C N O K (F27.fr b c f i e g s v u w a) h nx =
 K (F27.fr b c .zf (I 0) e g s v u w a) h nx := by kernel_rfl
theorem F27.bP : IR.run F27.t1 C N O K (F27.fr b c f i e g s v u w a) h nx =
 C.fn 95 (.of 95) [c] h nx fun v1 h2 n3 => sLen b fun v4 => zu .gtr .int v4 (I 256) fun v5 => C.fn 96 (.of 96) [v5, (I 5)] h2 n3 fun v6 h7 n8 => jI 1 2 [(I 0)] [(0, 1, v1), (1, 1, v6)] h7 n8 fun v9 hV nV => C.fn 94 (.of 94) [v9] hV nV fun vC h13 n14 => K (F27.fr b c f i vC g s v u w a) h13 n14 := by kernel_rfl
theorem F27.bU : IR.run F27.t2 C N O K (F27.fr b c f i e g s v u w a) h nx =
 zu .neq .int e (I 0) fun v1 => K (F27.fr b c f i e g s v v1 w a) h nx := by kernel_rfl
theorem F27.t3_s : IR.run F27.t3 C N O K (F27.fr b c f i e g s v u w a) h nx =
 K (F27.fr b c .zf e e g s v u w a) h nx := by kernel_rfl
theorem F27.v8 : Arg.ev (.t (.of 8)) ⟨(F27.fr b c f i e g s v u w a), []⟩ = u := by kernel_rfl
theorem F27.t8_s : IR.run F27.t8 C N O K (F27.fr b c f i e g s v u w a) h nx =
 C.fn 97 (.of 97) [b, c] h nx fun v1 h2 n3 => K (F27.fr b c f i e v1 s v u w a) h2 n3 := by kernel_rfl
theorem F27.t9_s : IR.run F27.t9 C N O K (F27.fr b c f i e g s v u w a) h nx =
 zu .neq .int g (I 0) fun v1 => K (F27.fr b c f i e g s v u v1 a) h nx := by kernel_rfl
theorem F27.t10_s : IR.run F27.t10 C N O K (F27.fr b c f i e g s v u w a) h nx =
 K (F27.fr b c .zf g e g s v u w a) h nx := by kernel_rfl
theorem F27.v9 : Arg.ev (.t (.of 9)) ⟨(F27.fr b c f i e g s v u w a), []⟩ = w := by kernel_rfl
theorem F27.t15_s : IR.run F27.t15 C N O K (F27.fr b c f i e g s v u w a) h nx =
 C.fn 98 (.of 98) [b, c, (I 1536)] h nx fun v1 h2 n3 => wo 0 v1 fun v4 => wo 1 v1 fun v5 => wo 2 v1 fun v6 => K (F27.fr b c f i e g v4 v6 u w a) h2 n3 := by kernel_rfl
theorem F27.t16_s : IR.run F27.t16 C N O K (F27.fr b c f i e g s v u w a) h nx =
 sNot v fun v1 => K (F27.fr b c f i e g s v u w v1) h nx := by kernel_rfl
theorem F27.t17_s : IR.run F27.t17 C N O K (F27.fr b c f i e g s v u w a) h nx =
 K (F27.fr b c .zf (I 20) e g s v u w a) h nx := by kernel_rfl
theorem F27.v10 : Arg.ev (.t (.of 10)) ⟨(F27.fr b c f i e g s v u w a), []⟩ = a := by kernel_rfl
theorem F27.t21_s : IR.run F27.t21 C N O K (F27.fr b c f i e g s v u w a) h nx =
 C.fn 99 (.of 99) [s] h nx fun v1 h2 n3 => K (F27.fr b c v1 (I 0) e g s v u w a) h2 n3 := by kernel_rfl
theorem F27.tab : T.get none (.of 27) tbl = some F27 := by kernel_rfl
theorem F27.bind (k : T AV -> OP) : yG F27.params [a0, a1] F27.init k = k (F27.fr a0 a1 .undef .undef .undef .undef .undef .undef .undef .undef .undef) := by kernel_rfl
theorem F27.jf : F27.body = F27.t27 := by kernel_rfl
theorem F27.go : zV tbl N C (.of 27) [a0, a1] h nx K0 = IR.run F27.t27 C N (fnO F27.res K0) (ku F27.res K0) (F27.fr a0 a1 .undef .undef .undef .undef .undef .undef .undef .undef .undef) h nx := by
 rw [zJ F27.tab, F27.bind, F27.jf]; kernel_rfl
theorem F27.ret : ku F27.res K0 (F27.fr b c f i e g s v u w a) h nx = K0 (.tup [f, i]) h nx := by kernel_rfl
end
end Go.Ev
namespace Go.Ev
open Go Go.Proofs
set_option maxRecDepth 100000
variable {N : Nat} {C : Calls Prop} {K0 : Kw Prop} {K R : Ks Prop} {h : T Blk} {nx : Pa} {b c f i e g s a0 a1 a2 v u w a d q o p l y z A B D E F G H : AV}
theorem F99.dh (X2 : IR) (O : uw Prop) (t : T AV) : IR.run (F99.g1 X2) C N O K t h nx = IR.run X2 C N (O.blk 0 K) K t h nx := by kernel_rfl
theorem F99.g7_eq (X8 : IR) (O : uw Prop) (t : T AV) : IR.run (F99.g7 X8) C N O K t h nx = IR.run X8 C N (O.blk 2 K) K t h nx := by kernel_rfl
theorem F99.tab : T.get none (.of 99) tbl = some F99 := by kernel_rfl
theorem F99.go : zV tbl N C (.of 99) [a0] h nx K0 =
 sRange a0 h nx fun v1 h2 n3 => IR.run F99.b1 C N (fnO F99.res K0) (IR.run F99.b6 C N (fnO F99.res K0) (ku F99.res K0)) (F99.fr a0 .zf .zf .undef .undef .undef v1 .undef .undef .undef .undef .undef) h2 n3 := by
 rw [zJ F99.tab]; kernel_rfl
theorem F99.L1 (Inv : Nat -> AV -> T Blk -> Pa -> Prop) {m : Nat} (hm : m < N) (hi : Inv m f h nx)
  (step : ∀ (m : Nat) (z2 z3 z7 : AV) (h : T Blk) (nx : Pa) (R : Ks Prop), Inv m z2 h nx -> (∀ (m' : Nat) (w2 w3 w7 : AV) (h' : T Blk) (nx' : Pa), m' < m -> Inv m' w2 h' nx' -> R (F99.fr b c w2 w3 e g s w7 u w a d) h' nx' = .ok True) ->
   (sNext C s h nx fun v1 h2 n3 => wo 0 v1 fun v4 => zZ v4 (sEntry s h2 fun v5 => wo 1 v5 fun v6 => yH [.zf, (.bool false)] h2 n3 fun v7 h8 n9 => zK 2 v7 v6 h8 n9 fun vA hH nH => zM 2 v7 hH fun vD => jI 2 1 [.zf, (.bool false)] [(0, 2, vD)] hH nH fun vE hA nA => vT C 2 32 z2 vE hA nA fun vH h18 n19 => R (F99.fr b c vH v7 e g s v4 u w a d) h18 n19) (K (F99.fr b c z2 z3 e g s v4 u w a d) h2 n3)) = .ok True) :
  IR.run F99.b1 C N (fnO F99.res K0) K (F99.fr b c f i e g s v u w a d) h nx = .ok True := by
 rw [F99.b1, F99.dh, F99.b2];refine yM (fun m tm h nx => ∃ z2 z3 z7, tm = (F99.fr b c z2 z3 e g s z7 u w a d) /\ Inv m z2 h nx) ?_ hm ⟨_, _, _, rfl, hi⟩;rintro m tm h nx R ⟨z2, z3, z7, rfl, hi⟩ hR;refine Eq.trans ?_ (step m z2 z3 z7 h nx R hi fun m' w2 w3 w7 h' nx' hlt hi' => hR m' _ h' nx' hlt ⟨_, _, _, rfl, hi'⟩)
 kernel_rfl
theorem F99.k6 : IR.run F99.b6 C N (fnO F99.res K0) K (F99.fr b c f i e g s v u w a d) h nx =
 C.fn 164 (.of 164) [f, (.fn 162 (.of 162) [])] h nx fun v1 h2 n3 => sLen f fun v4 => IR.run F99.b7 C N (fnO F99.res K0) (IR.run F99.b14 C N (fnO F99.res K0) K) (F99.fr b c f i .zf g s v f v4 (I 0) d) h2 n3 := by kernel_rfl
theorem F99.L7 (Inv : Nat -> AV -> AV -> T Blk -> Pa -> Prop) {m : Nat} (hm : m < N) (hi : Inv m e a h nx)
  (step : ∀ (m : Nat) (z4 z5 zI zA : AV) (h : T Blk) (nx : Pa) (R : Ks Prop), Inv m z4 zI h nx -> (∀ (m' : Nat) (w4 w5 wK wA : AV) (h' : T Blk) (nx' : Pa), m' < m -> Inv m' w4 wK h' nx' -> R (F99.fr b c f i w4 w5 s v u w wK wA) h' nx' = .ok True) ->
   (zu .lss .int zI w fun v1 => zZ v1 (zO 2 u zI fun v2 => zM 2 v2 h fun v3 => yH [.zf, (.bool false)] h nx fun v4 h5 n6 => zK 2 v4 v3 h5 n6 fun v7 h8 n9 => zM 2 v4 h8 fun vA => jI 2 1 [.zf, (.bool false)] [(0, 2, vA)] h8 n9 fun vB hD nD => vT C 2 32 z4 vB hD nD fun vE hA nA => zu .add .int zI (I 1) fun vH => R (F99.fr b c f i vE v4 s v u w vH v1) hA nA) (K (F99.fr b c f i z4 z5 s v u w zI v1) h nx)) = .ok True) :
  IR.run F99.b7 C N (fnO F99.res K0) K (F99.fr b c f i e g s v u w a d) h nx = .ok True := by
 rw [F99.b7, F99.g7_eq, F99.b8];refine yM (fun m tm h nx => ∃ z4 z5 zI zA, tm = (F99.fr b c f i z4 z5 s v u w zI zA) /\ Inv m z4 zI h nx) ?_ hm ⟨_, _, _, _, rfl, hi⟩;rintro m tm h nx R ⟨z4, z5, zI, zA, rfl, hi⟩ hR;refine Eq.trans ?_ (step m z4 z5 zI zA h nx R hi fun m' w4 w5 wK wA h' nx' hlt hi' => hR m' _ h' nx' hlt ⟨_, _, _, _, rfl, hi'⟩)
 kernel_rfl
theorem F99.k14 : IR.run F99.b14 C N (fnO F99.res K0) K (F99.fr b c f i e g s v u w a d) h nx =
 K0 e h nx := by kernel_rfl
end Go.Ev
namespace Go.Ev
open Go Go.Proofs
set_option maxRecDepth 100000
section
variable {N : Nat} {C : Calls Prop} {K0 : Kw Prop} {K : Ks Prop} {h : T Blk} {nx : Pa} {b c f i e g s v u w a d q o p l y z A B a0 a1 a2 : AV} {O : uw Prop} {tm : T AV} {Kt : KTm} {r : List RO} {s0 s1 s2 s3 s4 s5 s6 s7 s8 s9 s10 s11 s12 s13 s14 s15 s16 s17 s18 s19 s20 s21 s22 s23 s24 s25 s26 s27 s28 s29 s30 s31 s32 s33 s34 s35 s36 s37 s38 s39 : AV}
def F39.t0 : IR := .reg [.w (.loc (.of 3)) none (.box (.t (.of 1))), .q (.of 4) (.mv (.c .zf)), .q (.of 5) (.mv (.c (I 0)))]
def F39.t1 : IR := .reg [.s (.mv (.t (.of 0))), .s (.load (.t (.of 3))), .s (.mv (.t (.of 2))), .w .push none (.call (.c (.fn 120 (.of 120) [])) [(.s 2), (.s 1), (.s 0)]), .s (.mv (.s 0)), .s (.ext 0 (.s 0)), .s (.ext 1 (.s 1)), .s (.ext 2 (.s 2)), .w .push none (.alloc [.zf, .zf]), .s (.mv (.s 3)), .w .none none (.store 2 (.s 1) (.s 3)), .q (.of 6) (.mv (.s 2))]
def F39.t2 : IR := .reg [.s (.mv (.t (.of 6))), .q (.of 12) (.bin .neq .int (.s 0) (.c (I 0)))]
def F39.t3 : IR := .reg [.s (.mv (.t (.of 6))), .q (.of 4) (.mv (.c .zf)), .q (.of 5) (.mv (.s 0))]
def F39.t4 : IR := .seq F39.t3 .ret
def F39.t5 : IR := .cond (.t (.of 12)) F39.t4 .skip
def F39.t6 : IR := .seq F39.t2 F39.t5
def F39.t7 : IR := .seq F39.t1 F39.t6
def F39.t8 : IR := .reg [.w .push none .mkmap, .w (.loc (.of 7)) none (.alloc [.jv]), .w .none none (.store 1 (.t (.of 7)) (.s 0))]
def F39.t9 : IR := .reg [.w (.loc (.of 8)) none (.alloc [.zf])]
def F39.t10 : IR := .reg [.s (.mv (.t (.of 0))), .w (.loc (.of 13)) none (.call (.c (.fn 90 (.of 90) [])) [(.s 0)])]
def F39.t11 : IR := .reg [.w (.loc (.of 9)) none (.alloc [.zf, (.bool false)]), .w .none none (.store 2 (.t (.of 9)) (.t (.of 15)))]
def F39.t12 : IR := .reg [.s (.load (.t (.of 7))), .s (.zi 2 (.t (.of 9))), .w (.loc (.of 16)) none (.call (.c (.fn 121 (.of 121) [])) [(.s 1), (.s 0)])]
def F39.t13 : IR := .cond (.t (.of 16)) (.exit 1) .skip
def F39.t14 : IR := .seq F39.t12 F39.t13
def F39.t15 : IR := .reg [.s (.load (.t (.of 3))), .w (.loc (.of 17)) none (.call (.c (.fn 90 (.of 90) [])) [(.s 0)])]
def F39.t16 : IR := .reg [.w (.loc (.of 10)) none (.alloc [.zf, (.bool false)]), .w .none none (.store 2 (.t (.of 10)) (.t (.of 19)))]
def F39.t17 : IR := .reg [.s (.zi 2 (.t (.of 9))), .s (.zi 2 (.t (.of 10))), .w .push none (.call (.c (.fn 122 (.of 122) [])) [(.s 1), (.s 0)]), .w (.loc (.of 11)) none (.alloc [.zf, (.bool false)]), .w .none none (.store 2 (.t (.of 11)) (.s 0))]
def F39.t18 : IR := .yt [] [(.s (.load (.t (.of 7))), 1, []), (.s (.zi 2 (.t (.of 11))), 0, []), (.s (.zi 2 (.t (.of 11))), 1, []), (.w .push none (.call (.c (.fn 123 (.of 123) [])) [(.s 1)]), 0, []), (.w .none none (.mapup .str (.s 3) (.s 0) (.s 1)), 0, [])]
def F39.t19 : IR := .seq F39.t17 F39.t18
def F39.t20 : IR := .block 3 F39.t19
def F39.t21 : IR := .rf (.t (.of 17)) [(.of 18), (.of 19)] F39.t16 F39.t20
def F39.t22 : IR := .block 2 F39.t21
def F39.t23 : IR := .seq F39.t15 F39.t22
def F39.t24 : IR := .yt [] [(.s (.load (.t (.of 8))), 2, []), (.s (.zx 0 (.t (.of 9))), 0, []), (.s (.load (.s 0)), 0, []), (.s (.zx 1 (.t (.of 9))), 1, []), (.s (.load (.s 0)), 1, []), (.w .push none (.call (.c (.fn 106 (.of 106) [])) [(.s 2)]), 0, []), (.s (.build [.zf, (.bool false)] [(0, 1, (.s 0)), (1, 1, (.s 1))]), 0, []), (.w .push none (.yj 2 1 [.zf, (.bool false)] [(0, 2, (.s 0))]), 0, []), (.w .push none (.appq 2 32 (.s 7) (.s 0)), 0, []), (.w .none none (.store 1 (.t (.of 8)) (.s 0)), 0, [])]
def F39.t25 : IR := .seq F39.t23 F39.t24
def F39.t26 : IR := .seq F39.t14 F39.t25
def F39.t27 : IR := .block 1 F39.t26
def F39.t28 : IR := .rf (.t (.of 13)) [(.of 14), (.of 15)] F39.t11 F39.t27
def F39.t29 : IR := .block 0 F39.t28
def F39.t30 : IR := .seq F39.t10 F39.t29
def F39.t31 : IR := .reg [.s (.load (.t (.of 8))), .q (.of 4) (.mv (.s 0)), .q (.of 5) (.mv (.c (I 0)))]
def F39.t32 : IR := .seq F39.t31 .ret
def F39.t33 : IR := .seq F39.t30 F39.t32
def F39.t34 : IR := .seq F39.t9 F39.t33
def F39.t35 : IR := .seq F39.t8 F39.t34
def F39.t36 : IR := .seq F39.t7 F39.t35
def F39.t37 : IR := .seq F39.t0 F39.t36
theorem F39.bM : IR.run F39.t0 C N O K (F39.fr b c f i e g s v u w a d q o p l y z A B) h nx =
 sBox c h nx fun v1 h2 n3 => K (F39.fr b c f v1 .zf (I 0) s v u w a d q o p l y z A B) h2 n3 := by kernel_rfl
theorem F39.bP : IR.run F39.t1 C N O K (F39.fr b c f i e g s v u w a d q o p l y z A B) h nx =
 zF i h fun v1 => C.fn 120 (.of 120) [b, v1, f] h nx fun v2 h3 n4 => wo 0 v2 fun v5 => wo 1 v2 fun v6 => wo 2 v2 fun v7 => yH [.zf, .zf] h3 n4 fun v8 h9 nI => zK 2 v8 v6 h9 nI fun vB hD nD => K (F39.fr b c f i e g v7 v u w a d q o p l y z A B) hD nD := by kernel_rfl
theorem F39.bU : IR.run F39.t2 C N O K (F39.fr b c f i e g s v u w a d q o p l y z A B) h nx =
 zu .neq .int s (I 0) fun v1 => K (F39.fr b c f i e g s v u w a d v1 o p l y z A B) h nx := by kernel_rfl
theorem F39.v12 : Arg.ev (.t (.of 12)) ⟨(F39.fr b c f i e g s v u w a d q o p l y z A B), []⟩ = q := by kernel_rfl
theorem F39.t8_s : IR.run F39.t8 C N O K (F39.fr b c f i e g s v u w a d q o p l y z A B) h nx =
 sMkmap h nx fun v1 h2 n3 => yH [.jv] h2 n3 fun v4 h5 n6 => zK 1 v4 v1 h5 n6 fun v7 h8 n9 => K (F39.fr b c f i e g s v4 u w a d q o p l y z A B) h8 n9 := by kernel_rfl
theorem F39.t9_s : IR.run F39.t9 C N O K (F39.fr b c f i e g s v u w a d q o p l y z A B) h nx =
 yH [.zf] h nx fun v1 h2 n3 => K (F39.fr b c f i e g s v v1 w a d q o p l y z A B) h2 n3 := by kernel_rfl
theorem F39.t10_s : IR.run F39.t10 C N O K (F39.fr b c f i e g s v u w a d q o p l y z A B) h nx =
 C.fn 90 (.of 90) [b] h nx fun v1 h2 n3 => K (F39.fr b c f i e g s v u w a d q v1 p l y z A B) h2 n3 := by kernel_rfl
theorem F39.t11_s : IR.run F39.t11 C N O K (F39.fr b c f i e g s v u w a d q o p l y z A B) h nx =
 yH [.zf, (.bool false)] h nx fun v1 h2 n3 => zK 2 v1 l h2 n3 fun v4 h5 n6 => K (F39.fr b c f i e g s v u v1 a d q o p l y z A B) h5 n6 := by kernel_rfl
theorem F39.t12_s : IR.run F39.t12 C N O K (F39.fr b c f i e g s v u w a d q o p l y z A B) h nx =
 zF v h fun v1 => zM 2 w h fun v2 => C.fn 121 (.of 121) [v1, v2] h nx fun v3 h4 n5 => K (F39.fr b c f i e g s v u w a d q o p l v3 z A B) h4 n5 := by kernel_rfl
theorem F39.v16 : Arg.ev (.t (.of 16)) ⟨(F39.fr b c f i e g s v u w a d q o p l y z A B), []⟩ = y := by kernel_rfl
theorem F39.t15_s : IR.run F39.t15 C N O K (F39.fr b c f i e g s v u w a d q o p l y z A B) h nx =
 zF i h fun v1 => C.fn 90 (.of 90) [v1] h nx fun v2 h3 n4 => K (F39.fr b c f i e g s v u w a d q o p l y v2 A B) h3 n4 := by kernel_rfl
theorem F39.t16_s : IR.run F39.t16 C N O K (F39.fr b c f i e g s v u w a d q o p l y z A B) h nx =
 yH [.zf, (.bool false)] h nx fun v1 h2 n3 => zK 2 v1 B h2 n3 fun v4 h5 n6 => K (F39.fr b c f i e g s v u w v1 d q o p l y z A B) h5 n6 := by kernel_rfl
theorem F39.t17_s : IR.run F39.t17 C N O K (F39.fr b c f i e g s v u w a d q o p l y z A B) h nx =
 zM 2 w h fun v1 => zM 2 a h fun v2 => C.fn 122 (.of 122) [v1, v2] h nx fun v3 h4 n5 => yH [.zf, (.bool false)] h4 n5 fun v6 h7 n8 => zK 2 v6 v3 h7 n8 fun v9 hV nV => K (F39.fr b c f i e g s v u w a v6 q o p l y z A B) hV nV := by kernel_rfl
theorem F39.t18_s : IR.run F39.t18 C N O K (F39.fr b c f i e g s v u w a d q o p l y z A B) h nx =
 zF v h fun v1 => zM 2 d h fun v2 => zM 2 d h fun v3 => C.fn 123 (.of 123) [v2] h nx fun v4 h5 n6 => (zM 2 d h5 fun vB => zN vB v3 ((zF v h5 fun vA => zN vA v1 (pU .str v1 v4 v3 h5 n6 fun v7 h8 n9 => K (F39.fr b c f i e g s v u w a d q o p l y z A B) h8 n9)))) := by kernel_rfl
theorem F39.t21_f : Arg.ev (.t (.of 17)) ⟨(F39.fr b c f i e g s v u w a d q o p l y z A B), []⟩ = z := by kernel_rfl
theorem F39.t21_b {z0 z1 : AV} (k : T AV -> OP) : yG [(.of 18), (.of 19)] [z0, z1] (F39.fr b c f i e g s v u w a d q o p l y z A B) k = k (F39.fr b c f i e g s v u w a d q o p l y z z0 z1) := by kernel_rfl
theorem F39.t24_s : IR.run F39.t24 C N O K (F39.fr b c f i e g s v u w a d q o p l y z A B) h nx =
 zF u h fun v1 => zT 0 w fun v2 => zF v2 h fun v3 => zT 1 w fun v4 => zF v4 h fun v5 => C.fn 106 (.of 106) [v3] h nx fun v6 h7 n8 => (zF v4 h7 fun vM => zN vM v5 ((zT 1 w fun vL => zN vL v4 ((zF u h7 fun vK => zN vK v1 (uM [.zf, (.bool false)] [(0, 1, v6), (1, 1, v5)] fun v9 => jI 2 1 [.zf, (.bool false)] [(0, 2, v9)] h7 n8 fun vA hH nH => (zF u hH fun vJ => zN vJ v1 (vT C 2 32 v1 vA hH nH fun vD hI nJ => zK 1 u vD hI nJ fun vG hG nG => K (F39.fr b c f i e g s v u w a d q o p l y z A B) hG nG)))))))) := by kernel_rfl
theorem F39.t28_f : Arg.ev (.t (.of 13)) ⟨(F39.fr b c f i e g s v u w a d q o p l y z A B), []⟩ = o := by kernel_rfl
theorem F39.t28_b {z0 z1 : AV} (k : T AV -> OP) : yG [(.of 14), (.of 15)] [z0, z1] (F39.fr b c f i e g s v u w a d q o p l y z A B) k = k (F39.fr b c f i e g s v u w a d q o z0 z1 y z A B) := by kernel_rfl
theorem F39.t31_s : IR.run F39.t31 C N O K (F39.fr b c f i e g s v u w a d q o p l y z A B) h nx =
 zF u h fun v1 => K (F39.fr b c f i v1 (I 0) s v u w a d q o p l y z A B) h nx := by kernel_rfl
theorem F39.tab : T.get none (.of 39) tbl = some F39 := by kernel_rfl
theorem F39.bind (k : T AV -> OP) : yG F39.params [a0, a1, a2] F39.init k = k (F39.fr a0 a1 a2 .undef .undef .undef .undef .undef .undef .undef .undef .undef .undef .undef .undef .undef .undef .undef .undef .undef) := by kernel_rfl
theorem F39.jf : F39.body = F39.t37 := by kernel_rfl
theorem F39.go : zV tbl N C (.of 39) [a0, a1, a2] h nx K0 = IR.run F39.t37 C N (fnO F39.res K0) (ku F39.res K0) (F39.fr a0 a1 a2 .undef .undef .undef .undef .undef .undef .undef .undef .undef .undef .undef .undef .undef .undef .undef .undef .undef) h nx := by
 rw [zJ F39.tab, F39.bind, F39.jf]; kernel_rfl
theorem F39.ret : ku F39.res K0 (F39.fr b c f i e g s v u w a d q o p l y z A B) h nx = K0 (.tup [e, g]) h nx := by kernel_rfl
def F40.t0 : IR := .reg [.q (.of 3) (.mv (.c (.bool false))), .q (.of 4) (.mv (.c (I 0)))]
def F40.t1 : IR := .reg [.s (.mv (.t (.of 0))), .s (.mv (.t (.of 1))), .s (.mv (.t (.of 2))), .w .push none (.call (.c (.fn 120 (.of 120) [])) [(.s 2), (.s 1), (.s 0)]), .s (.mv (.s 0)), .s (.ext 0 (.s 0)), .s (.ext 1 (.s 1)), .s (.ext 2 (.s 2)), .w (.loc (.of 6)) none (.alloc [.zf, .zf]), .q (.of 5) (.mv (.s 2)), .w .none none (.store 2 (.t (.of 6)) (.s 1)), .q (.of 7) (.mv (.s 0))]
def F40.t2 : IR := .reg [.s (.mv (.t (.of 7))), .q (.of 10) (.bin .neq .int (.s 0) (.c (I 0)))]
def F40.t3 : IR := .reg [.s (.mv (.t (.of 7))), .q (.of 3) (.mv (.c (.bool false))), .q (.of 4) (.mv (.s 0))]
def F40.t4 : IR := .seq F40.t3 .ret
def F40.t5 : IR := .cond (.t (.of 10)) F40.t4 .skip
def F40.t6 : IR := .seq F40.t2 F40.t5
def F40.t7 : IR := .reg [.s (.aaddr 1 2 (.t (.of 6)) (.c (I 0))), .q (.of 11) (.load (.s 0)), .q (.of 12) (.len (.t (.of 11))), .q (.of 13) (.mv (.c (I 0)))]
def F40.t8 : IR := .reg [.q (.of 14) (.bin .lss .int (.t (.of 13)) (.t (.of 12)))]
def F40.t9 : IR := .cond (.t (.of 14)) .skip (.exit 0)
def F40.t10 : IR := .reg [.s (.zn 2 (.t (.of 11)) (.t (.of 13))), .s (.zi 2 (.s 0)), .w (.loc (.of 8)) none (.alloc [.zf, (.bool false)]), .w .none none (.store 2 (.t (.of 8)) (.s 0))]
def F40.t11 : IR := .reg [.s (.aaddr 1 2 (.t (.of 6)) (.c (I 1))), .q (.of 15) (.load (.s 0)), .q (.of 16) (.len (.t (.of 15))), .q (.of 17) (.mv (.c (I 0)))]
def F40.t12 : IR := .reg [.q (.of 18) (.bin .lss .int (.t (.of 17)) (.t (.of 16)))]
def F40.t13 : IR := .cond (.t (.of 18)) .skip (.exit 2)
def F40.t14 : IR := .reg [.s (.zn 2 (.t (.of 15)) (.t (.of 17))), .s (.zi 2 (.s 0)), .w (.loc (.of 9)) none (.alloc [.zf, (.bool false)]), .w .none none (.store 2 (.t (.of 9)) (.s 0))]
def F40.t15 : IR := .yt [] [(.s (.mv (.t (.of 5))), 3, []), (.s (.zi 2 (.t (.of 8))), 0, []), (.s (.zi 2 (.t (.of 9))), 0, []), (.s (.zi 2 (.t (.of 8))), 1, []), (.w .push none (.call (.c (.fn 122 (.of 122) [])) [(.s 2), (.s 1)]), 0, []), (.w .push none (.call (.c (.fn 124 (.of 124) [])) [(.s 1)]), 0, []), (.w .push none (.call (.c (.fn 122 (.of 122) [])) [(.s 1), (.s 0)]), 0, []), (.w .push none (.call (.c (.fn 121 (.of 121) [])) [(.s 6), (.s 0)]), 0, []), (.q (.of 19) (.not (.s 0)), 0, [])]
def F40.t16 : IR := .reg [.q (.of 3) (.mv (.c (.bool false))), .q (.of 4) (.mv (.c (I 0)))]
def F40.t17 : IR := .seq F40.t16 .ret
def F40.t18 : IR := .cond (.t (.of 19)) F40.t17 .skip
def F40.t19 : IR := .seq F40.t15 F40.t18
def F40.t20 : IR := .seq F40.t14 F40.t19
def F40.t21 : IR := .block 3 F40.t20
def F40.t22 : IR := .reg [.s (.bin .add .int (.t (.of 17)) (.c (I 1))), .q (.of 17) (.mv (.s 0))]
def F40.t23 : IR := .seq F40.t21 F40.t22
def F40.t24 : IR := .seq F40.t13 F40.t23
def F40.t25 : IR := .seq F40.t12 F40.t24
def F40.t26 : IR := .loop F40.t25
def F40.t27 : IR := .block 2 F40.t26
def F40.t28 : IR := .seq F40.t11 F40.t27
def F40.t29 : IR := .seq F40.t10 F40.t28
def F40.t30 : IR := .block 1 F40.t29
def F40.t31 : IR := .reg [.s (.bin .add .int (.t (.of 13)) (.c (I 1))), .q (.of 13) (.mv (.s 0))]
def F40.t32 : IR := .seq F40.t30 F40.t31
def F40.t33 : IR := .seq F40.t9 F40.t32
def F40.t34 : IR := .seq F40.t8 F40.t33
def F40.t35 : IR := .loop F40.t34
def F40.t36 : IR := .block 0 F40.t35
def F40.t37 : IR := .seq F40.t7 F40.t36
def F40.t38 : IR := .reg [.q (.of 3) (.mv (.c (.bool true))), .q (.of 4) (.mv (.c (I 0)))]
def F40.t39 : IR := .seq F40.t38 .ret
def F40.t40 : IR := .seq F40.t37 F40.t39
def F40.t41 : IR := .seq F40.t6 F40.t40
def F40.t42 : IR := .seq F40.t1 F40.t41
def F40.t43 : IR := .seq F40.t0 F40.t42
theorem F40.bM : IR.run F40.t0 C N O K (F40.fr b c f i e g s v u w a d q o p l y z A B) h nx =
 K (F40.fr b c f (.bool false) (I 0) g s v u w a d q o p l y z A B) h nx := by kernel_rfl
theorem F40.bP : IR.run F40.t1 C N O K (F40.fr b c f i e g s v u w a d q o p l y z A B) h nx =
 C.fn 120 (.of 120) [b, c, f] h nx fun v1 h2 n3 => wo 0 v1 fun v4 => wo 1 v1 fun v5 => wo 2 v1 fun v6 => yH [.zf, .zf] h2 n3 fun v7 h8 n9 => zK 2 v7 v5 h8 n9 fun vA hH nH => K (F40.fr b c f i e v4 v7 v6 u w a d q o p l y z A B) hH nH := by kernel_rfl
theorem F40.bU : IR.run F40.t2 C N O K (F40.fr b c f i e g s v u w a d q o p l y z A B) h nx =
 zu .neq .int v (I 0) fun v1 => K (F40.fr b c f i e g s v u w v1 d q o p l y z A B) h nx := by kernel_rfl
theorem F40.t3_s : IR.run F40.t3 C N O K (F40.fr b c f i e g s v u w a d q o p l y z A B) h nx =
 K (F40.fr b c f (.bool false) v g s v u w a d q o p l y z A B) h nx := by kernel_rfl
theorem F40.v10 : Arg.ev (.t (.of 10)) ⟨(F40.fr b c f i e g s v u w a d q o p l y z A B), []⟩ = a := by kernel_rfl
theorem F40.t7_s : IR.run F40.t7 C N O K (F40.fr b c f i e g s v u w a d q o p l y z A B) h nx =
 dE 1 2 s (I 0) fun v1 => zF v1 h fun v2 => sLen v2 fun v3 => K (F40.fr b c f i e g s v u w a v2 v3 (I 0) p l y z A B) h nx := by kernel_rfl
theorem F40.t8_s : IR.run F40.t8 C N O K (F40.fr b c f i e g s v u w a d q o p l y z A B) h nx =
 zu .lss .int o q fun v1 => K (F40.fr b c f i e g s v u w a d q o v1 l y z A B) h nx := by kernel_rfl
theorem F40.v14 : Arg.ev (.t (.of 14)) ⟨(F40.fr b c f i e g s v u w a d q o p l y z A B), []⟩ = p := by kernel_rfl
theorem F40.t10_s : IR.run F40.t10 C N O K (F40.fr b c f i e g s v u w a d q o p l y z A B) h nx =
 zO 2 d o fun v1 => zM 2 v1 h fun v2 => yH [.zf, (.bool false)] h nx fun v3 h4 n5 => zK 2 v3 v2 h4 n5 fun v6 h7 n8 => K (F40.fr b c f i e g s v v3 w a d q o p l y z A B) h7 n8 := by kernel_rfl
theorem F40.t11_s : IR.run F40.t11 C N O K (F40.fr b c f i e g s v u w a d q o p l y z A B) h nx =
 dE 1 2 s (I 1) fun v1 => zF v1 h fun v2 => sLen v2 fun v3 => K (F40.fr b c f i e g s v u w a d q o p v2 v3 (I 0) A B) h nx := by kernel_rfl
theorem F40.t12_s : IR.run F40.t12 C N O K (F40.fr b c f i e g s v u w a d q o p l y z A B) h nx =
 zu .lss .int z y fun v1 => K (F40.fr b c f i e g s v u w a d q o p l y z v1 B) h nx := by kernel_rfl
theorem F40.v18 : Arg.ev (.t (.of 18)) ⟨(F40.fr b c f i e g s v u w a d q o p l y z A B), []⟩ = A := by kernel_rfl
theorem F40.t14_s : IR.run F40.t14 C N O K (F40.fr b c f i e g s v u w a d q o p l y z A B) h nx =
 zO 2 l z fun v1 => zM 2 v1 h fun v2 => yH [.zf, (.bool false)] h nx fun v3 h4 n5 => zK 2 v3 v2 h4 n5 fun v6 h7 n8 => K (F40.fr b c f i e g s v u v3 a d q o p l y z A B) h7 n8 := by kernel_rfl
theorem F40.t15_s : IR.run F40.t15 C N O K (F40.fr b c f i e g s v u w a d q o p l y z A B) h nx =
 zM 2 u h fun v1 => zM 2 w h fun v2 => zM 2 u h fun v3 => C.fn 122 (.of 122) [v1, v2] h nx fun v4 h5 n6 => (zM 2 u h5 fun vH => zN vH v3 (zN g g (C.fn 124 (.of 124) [v3] h5 n6 fun v7 h8 n9 => zN g g (C.fn 122 (.of 122) [v4, v7] h8 n9 fun vA hH nH => zN g g (C.fn 121 (.of 121) [g, vA] hH nH fun vD hI nJ => sNot vD fun vG => K (F40.fr b c f i e g s v u w a d q o p l y z A vG) hI nJ))))) := by kernel_rfl
theorem F40.t16_s : IR.run F40.t16 C N O K (F40.fr b c f i e g s v u w a d q o p l y z A B) h nx =
 K (F40.fr b c f (.bool false) (I 0) g s v u w a d q o p l y z A B) h nx := by kernel_rfl
theorem F40.v19 : Arg.ev (.t (.of 19)) ⟨(F40.fr b c f i e g s v u w a d q o p l y z A B), []⟩ = B := by kernel_rfl
theorem F40.t22_s : IR.run F40.t22 C N O K (F40.fr b c f i e g s v u w a d q o p l y z A B) h nx =
 zu .add .int z (I 1) fun v1 => K (F40.fr b c f i e g s v u w a d q o p l y v1 A B) h nx := by kernel_rfl
theorem F40.t26_L (Inv : Nat -> AV -> T Blk -> Pa -> Prop) {m : Nat} (hm : m < N) (hi : Inv m z h nx)
  (step : ∀ (m : Nat) (z3 z4 z9 zH zL zP : AV) (h : T Blk) (nx : Pa) (R : Ks Prop), Inv m zH h nx -> (∀ (m' : Nat) (w3 w4 w9 wI wL wM : AV) (h' : T Blk) (nx' : Pa), m' < m -> Inv m' wI h' nx' -> R (F40.fr b c f w3 w4 g s v u w9 a d q o p l y wI wL wM) h' nx' = .ok True) -> IR.run F40.t25 C N O R (F40.fr b c f z3 z4 g s v u z9 a d q o p l y zH zL zP) h nx = .ok True) :
  IR.run F40.t26 C N O K (F40.fr b c f i e g s v u w a d q o p l y z A B) h nx = .ok True := by
 rw [F40.t26];refine yM (fun m tm h nx => ∃ z3 z4 z9 zH zL zP, tm = (F40.fr b c f z3 z4 g s v u z9 a d q o p l y zH zL zP) /\ Inv m zH h nx) ?_ hm ⟨_, _, _, _, _, _, rfl, hi⟩;rintro m tm h nx R ⟨z3, z4, z9, zH, zL, zP, rfl, hi⟩ hR;exact step m z3 z4 z9 zH zL zP h nx R hi fun m' w3 w4 w9 wI wL wM h' nx' hlt hi' => hR m' _ h' nx' hlt ⟨_, _, _, _, _, _, rfl, hi'⟩
theorem F40.t31_s : IR.run F40.t31 C N O K (F40.fr b c f i e g s v u w a d q o p l y z A B) h nx =
 zu .add .int o (I 1) fun v1 => K (F40.fr b c f i e g s v u w a d q v1 p l y z A B) h nx := by kernel_rfl
theorem F40.t35_L (Inv : Nat -> AV -> T Blk -> Pa -> Prop) {m : Nat} (hm : m < N) (hi : Inv m o h nx)
  (step : ∀ (m : Nat) (z3 z4 z8 z9 zC zD zE zG zH zL zP : AV) (h : T Blk) (nx : Pa) (R : Ks Prop), Inv m zC h nx -> (∀ (m' : Nat) (w3 w4 w8 w9 wD wF wG wH wI wL wM : AV) (h' : T Blk) (nx' : Pa), m' < m -> Inv m' wD h' nx' -> R (F40.fr b c f w3 w4 g s v w8 w9 a d q wD wF wG wH wI wL wM) h' nx' = .ok True) -> IR.run F40.t34 C N O R (F40.fr b c f z3 z4 g s v z8 z9 a d q zC zD zE zG zH zL zP) h nx = .ok True) :
  IR.run F40.t35 C N O K (F40.fr b c f i e g s v u w a d q o p l y z A B) h nx = .ok True := by
 rw [F40.t35];refine yM (fun m tm h nx => ∃ z3 z4 z8 z9 zC zD zE zG zH zL zP, tm = (F40.fr b c f z3 z4 g s v z8 z9 a d q zC zD zE zG zH zL zP) /\ Inv m zC h nx) ?_ hm ⟨_, _, _, _, _, _, _, _, _, _, _, rfl, hi⟩;rintro m tm h nx R ⟨z3, z4, z8, z9, zC, zD, zE, zG, zH, zL, zP, rfl, hi⟩ hR;exact step m z3 z4 z8 z9 zC zD zE zG zH zL zP h nx R hi fun m' w3 w4 w8 w9 wD wF wG wH wI wL wM h' nx' hlt hi' => hR m' _ h' nx' hlt ⟨_, _, _, _, _, _, _, _, _, _, _, rfl, hi'⟩
theorem F40.t38_s : IR.run F40.t38 C N O K (F40.fr b c f i e g s v u w a d q o p l y z A B) h nx =
 K (F40.fr b c f (.bool true) (I 0) g s v u w a d q o p l y z A B) h nx := by kernel_rfl
theorem F40.tab : T.get none (.of 40) tbl = some F40 := by kernel_rfl
theorem F40.bind (k : T AV -> OP) : yG F40.params [a0, a1, a2] F40.init k = k (F40.fr a0 a1 a2 .undef .undef .undef .undef .undef .undef .undef .undef .undef .undef .undef .undef .undef .undef .undef .undef .undef) := by kernel_rfl
theorem F40.jf : F40.body = F40.t43 := by kernel_rfl
theorem F40.go : zV tbl N C (.of 40) [a0, a1, a2] h nx K0 = IR.run F40.t43 C N (fnO F40.res K0) (ku F40.res K0) (F40.fr a0 a1 a2 .undef .undef .undef .undef .undef .undef .undef .undef .undef .undef .undef .undef .undef .undef .undef .undef .undef) h nx := by
 rw [zJ F40.tab, F40.bind, F40.jf]; kernel_rfl
theorem F40.ret : ku F40.res K0 (F40.fr b c f i e g s v u w a d q o p l y z A B) h nx = K0 (.tup [i, e]) h nx := by kernel_rfl
end
end Go.Ev
namespace Go.Ev
open Go Go.Proofs
set_option maxRecDepth 100000
section
variable {N : Nat} {C : Calls Prop} {K0 : Kw Prop} {K : Ks Prop} {h : T Blk} {nx : Pa} {b c f i e g s v u w a0 : AV} {O : uw Prop} {tm : T AV} {Kt : KTm} {r : List RO} {s0 s1 s2 s3 s4 s5 s6 s7 s8 s9 s10 s11 s12 s13 s14 s15 s16 s17 s18 s19 s20 s21 s22 s23 s24 s25 s26 s27 s28 s29 s30 s31 s32 s33 s34 s35 s36 s37 s38 s39 : AV}
def yh.t0 : IR := .reg [.w (.loc (.of 1)) none (.box (.t (.of 0))), .w (.loc (.of 2)) none (.alloc [.zf, (.bool false)])]
def yh.t1 : IR := .yt [(.alloc [.zf, (.bool false)])] [(.s (.zx 0 (.t (.of 1))), 2, []), (.s (.load (.s 0)), 2, []), (.s (.len (.s 0)), 2, [(.gu 1 8 [(I 0)] (.s 0) (.s 0))]), (.s (.zx 1 (.t (.of 1))), 2, []), (.s (.load (.s 0)), 2, []), (.w .push none (.gu 1 8 [(I 0)] (.s 2) (.s 2)), 0, []), (.s (.build [.zf, (.bool false)] [(0, 1, (.s 0)), (1, 1, (.s 1))]), 1, []), (.w (.loc (.of 3)) none (.alloc [.zf, (.bool false)]), 0, []), (.w .none none (.store 2 (.t (.of 3)) (.s 0)), 0, [])]
def yh.t2 : IR := .reg [.s (.zx 0 (.t (.of 1))), .q (.of 6) (.load (.s 0)), .q (.of 7) (.len (.t (.of 6))), .q (.of 8) (.mv (.c (I 0)))]
def yh.t3 : IR := .reg [.q (.of 9) (.bin .lss .int (.t (.of 8)) (.t (.of 7)))]
def yh.t4 : IR := .cond (.t (.of 9)) .skip (.exit 0)
def yh.t5 : IR := .reg [.s (.mv (.t (.of 8))), .s (.zn 1 (.t (.of 6)) (.t (.of 8))), .s (.load (.s 0)), .q (.of 4) (.mv (.s 2)), .q (.of 5) (.mv (.s 0))]
def yh.t6 : IR := .reg [.s (.zx 0 (.t (.of 3))), .s (.load (.s 0)), .s (.mv (.t (.of 5))), .s (.mv (.t (.of 4))), .s (.zn 1 (.s 2) (.s 1)), .w .none none (.store 1 (.s 0) (.s 1))]
def yh.t7 : IR := .seq yh.t5 yh.t6
def yh.t8 : IR := .block 1 yh.t7
def yh.t9 : IR := .reg [.s (.bin .add .int (.t (.of 8)) (.c (I 1))), .q (.of 8) (.mv (.s 0))]
def yh.t10 : IR := .seq yh.t8 yh.t9
def yh.t11 : IR := .seq yh.t4 yh.t10
def yh.t12 : IR := .seq yh.t3 yh.t11
def yh.t13 : IR := .loop yh.t12
def yh.t14 : IR := .block 0 yh.t13
def yh.t15 : IR := .seq yh.t2 yh.t14
def yh.t16 : IR := .reg [.s (.zi 2 (.t (.of 3))), .w .none none (.store 2 (.t (.of 2)) (.s 0))]
def yh.t17 : IR := .seq yh.t16 .ret
def yh.t18 : IR := .seq yh.t15 yh.t17
def yh.t19 : IR := .seq yh.t1 yh.t18
def yh.t20 : IR := .seq yh.t0 yh.t19
theorem yh.bM : IR.run yh.t0 C N O K (yh.fr b c f i e g s v u w) h nx =
 sBox b h nx fun v1 h2 n3 => yH [.zf, (.bool false)] h2 n3 fun v4 h5 n6 => K (yh.fr b v1 v4 i e g s v u w) h5 n6 := by kernel_rfl
theorem yh.bP : IR.run yh.t1 C N O K (yh.fr b c f i e g s v u w) h nx =
 sChk (true && true) (zT 0 c fun v1 => zF v1 h fun v2 => sLen v2 fun v3 => sChk (mkSl 8 v3 v3 && true) (zT 1 c fun v4 => zF v4 h fun v5 => gZ 1 8 [(I 0)] v3 v3 h nx fun v6 h7 n8 => (zF v4 h7 fun vV => zN vV v5 ((zT 1 c fun v25 => zN v25 v4 ((sLen v2 fun vO => zN vO v3 ((zF v1 h7 fun vN => zN vN v2 ((zT 0 c fun vM => zN vM v1 (uM [.zf, (.bool false)] [(0, 1, v6), (1, 1, v5)] fun v9 => yH [.zf, (.bool false)] h7 n8 fun vA hH nH => (uM [.zf, (.bool false)] [(0, 1, v6), (1, 1, v5)] fun vL => zN vL v9 ((zF v4 hH fun vK => zN vK v5 ((zT 1 c fun vJ => zN vJ v4 ((sLen v2 fun vI => zN vI v3 ((zF v1 hH fun vH => zN vH v2 ((zT 0 c fun vG => zN vG v1 (zK 2 vA v9 hH nH fun vD hI nJ => K (yh.fr b c f vA e g s v u w) hI nJ)))))))))))))))))))))))) := by kernel_rfl
theorem yh.bU : IR.run yh.t2 C N O K (yh.fr b c f i e g s v u w) h nx =
 zT 0 c fun v1 => zF v1 h fun v2 => sLen v2 fun v3 => K (yh.fr b c f i e g v2 v3 (I 0) w) h nx := by kernel_rfl
theorem yh.t3_s : IR.run yh.t3 C N O K (yh.fr b c f i e g s v u w) h nx =
 zu .lss .int u v fun v1 => K (yh.fr b c f i e g s v u v1) h nx := by kernel_rfl
theorem yh.v9 : Arg.ev (.t (.of 9)) ⟨(yh.fr b c f i e g s v u w), []⟩ = w := by kernel_rfl
theorem yh.t5_s : IR.run yh.t5 C N O K (yh.fr b c f i e g s v u w) h nx =
 zO 1 s u fun v1 => zF v1 h fun v2 => K (yh.fr b c f i u v2 s v u w) h nx := by kernel_rfl
theorem yh.t6_s : IR.run yh.t6 C N O K (yh.fr b c f i e g s v u w) h nx =
 zT 0 i fun v1 => zF v1 h fun v2 => zO 1 v2 g fun v3 => zK 1 v3 e h nx fun v4 h5 n6 => K (yh.fr b c f i e g s v u w) h5 n6 := by kernel_rfl
theorem yh.t9_s : IR.run yh.t9 C N O K (yh.fr b c f i e g s v u w) h nx =
 zu .add .int u (I 1) fun v1 => K (yh.fr b c f i e g s v v1 w) h nx := by kernel_rfl
theorem yh.t13_L (Inv : Nat -> AV -> T Blk -> Pa -> Prop) {m : Nat} (hm : m < N) (hi : Inv m u h nx)
  (step : ∀ (m : Nat) (z4 z5 z8 z9 : AV) (h : T Blk) (nx : Pa) (R : Ks Prop), Inv m z8 h nx -> (∀ (m' : Nat) (w4 w5 w8 w9 : AV) (h' : T Blk) (nx' : Pa), m' < m -> Inv m' w8 h' nx' -> R (yh.fr b c f i w4 w5 s v w8 w9) h' nx' = .ok True) -> IR.run yh.t12 C N O R (yh.fr b c f i z4 z5 s v z8 z9) h nx = .ok True) :
  IR.run yh.t13 C N O K (yh.fr b c f i e g s v u w) h nx = .ok True := by
 rw [yh.t13];refine yM (fun m tm h nx => ∃ z4 z5 z8 z9, tm = (yh.fr b c f i z4 z5 s v z8 z9) /\ Inv m z8 h nx) ?_ hm ⟨_, _, _, _, rfl, hi⟩;rintro m tm h nx R ⟨z4, z5, z8, z9, rfl, hi⟩ hR;exact step m z4 z5 z8 z9 h nx R hi fun m' w4 w5 w8 w9 h' nx' hlt hi' => hR m' _ h' nx' hlt ⟨_, _, _, _, rfl, hi'⟩
theorem yh.t16_s : IR.run yh.t16 C N O K (yh.fr b c f i e g s v u w) h nx =
 zM 2 i h fun v1 => zK 2 f v1 h nx fun v2 h3 n4 => K (yh.fr b c f i e g s v u w) h3 n4 := by kernel_rfl
theorem yh.tab : T.get none (.of 124) tbl = some yh := by kernel_rfl
theorem yh.bind (k : T AV -> OP) : yG yh.params [a0] yh.init k = k (yh.fr a0 .undef .undef .undef .undef .undef .undef .undef .undef .undef) := by kernel_rfl
theorem yh.jf : yh.body = yh.t20 := by kernel_rfl
theorem yh.go : zV tbl N C (.of 124) [a0] h nx K0 = IR.run yh.t20 C N (fnO yh.res K0) (ku yh.res K0) (yh.fr a0 .undef .undef .undef .undef .undef .undef .undef .undef .undef) h nx := by
 rw [zJ yh.tab, yh.bind, yh.jf]; kernel_rfl
theorem yh.ret : ku yh.res K0 (yh.fr b c f i e g s v u w) h nx = zM 2 f h fun v1 => K0 v1 h nx := by kernel_rfl
end
end Go.Ev
namespace Go.Ev
open Go Go.Proofs
set_option maxRecDepth 100000
section
variable {N : Nat} {C : Calls Prop} {K0 : Kw Prop} {K : Ks Prop} {h : T Blk} {nx : Pa} {b c f i e g s v u w a d a0 a1 a2 : AV} {O : uw Prop} {tm : T AV} {Kt : KTm} {r : List RO} {s0 s1 s2 s3 s4 s5 s6 s7 s8 s9 s10 s11 s12 s13 s14 s15 s16 s17 s18 s19 s20 s21 s22 s23 s24 s25 s26 s27 s28 s29 s30 s31 s32 s33 s34 s35 s36 s37 s38 s39 : AV}
end
end Go.Ev
namespace Go.Ev
open Go Go.Proofs
set_option maxRecDepth 100000
section
variable {N : Nat} {C : Calls Prop} {K0 : Kw Prop} {K : Ks Prop} {h : T Blk} {nx : Pa} {b c f i e g s v u w a d q a0 a1 : AV} {O : uw Prop} {tm : T AV} {Kt : KTm} {r : List RO} {s0 s1 s2 s3 s4 s5 s6 s7 s8 s9 s10 s11 s12 s13 s14 s15 s16 s17 s18 s19 s20 s21 s22 s23 s24 s25 s26 s27 s28 s29 s30 s31 s32 s33 s34 s35 s36 s37 s38 s39 : AV}
def F75.t0 : IR := .reg [.q (.of 2) (.mv (.c .zf)), .q (.of 3) (.mv (.c (I 0)))]
def F75.t1 : IR := .reg [.s (.mv (.t (.of 0))), .s (.mv (.t (.of 1))), .w .push none (.call (.c (.fn 156 (.of 156) [])) [(.s 1), (.s 0)]), .q (.of 4) (.mv (.s 0))]
def F75.t2 : IR := .reg [.s (.mv (.t (.of 4))), .q (.of 5) (.bin .neq .int (.s 0) (.c (I 0)))]
def F75.t3 : IR := .reg [.s (.mv (.t (.of 4))), .q (.of 2) (.mv (.c .zf)), .q (.of 3) (.mv (.s 0))]
def F75.t4 : IR := .seq F75.t3 .ret
def F75.t5 : IR := .cond (.t (.of 5)) F75.t4 .skip
def F75.t6 : IR := .seq F75.t2 F75.t5
def F75.t7 : IR := .seq F75.t1 F75.t6
def F75.t8 : IR := .reg [.s (.mv (.t (.of 0))), .s (.mv (.t (.of 1))), .w .push none (.call (.c (.fn 157 (.of 157) [])) [(.s 1), (.s 0)]), .s (.ext 0 (.s 0)), .s (.ext 1 (.s 1)), .q (.of 2) (.mv (.s 1)), .q (.of 3) (.mv (.s 0))]
def F75.t9 : IR := .seq F75.t8 .ret
def F75.t10 : IR := .seq F75.t7 F75.t9
def F75.t11 : IR := .seq F75.t0 F75.t10
theorem F75.bM : IR.run F75.t0 C N O K (F75.fr b c f i e g) h nx =
 K (F75.fr b c .zf (I 0) e g) h nx := by kernel_rfl
theorem F75.bP : IR.run F75.t1 C N O K (F75.fr b c f i e g) h nx =
 C.fn 156 (.of 156) [b, c] h nx fun v1 h2 n3 => K (F75.fr b c f i v1 g) h2 n3 := by kernel_rfl
theorem F75.bU : IR.run F75.t2 C N O K (F75.fr b c f i e g) h nx =
 zu .neq .int e (I 0) fun v1 => K (F75.fr b c f i e v1) h nx := by kernel_rfl
theorem F75.t3_s : IR.run F75.t3 C N O K (F75.fr b c f i e g) h nx =
 K (F75.fr b c .zf e e g) h nx := by kernel_rfl
theorem F75.v5 : Arg.ev (.t (.of 5)) ⟨(F75.fr b c f i e g), []⟩ = g := by kernel_rfl
theorem F75.t8_s : IR.run F75.t8 C N O K (F75.fr b c f i e g) h nx =
 C.fn 157 (.of 157) [b, c] h nx fun v1 h2 n3 => wo 0 v1 fun v4 => wo 1 v1 fun v5 => K (F75.fr b c v4 v5 e g) h2 n3 := by kernel_rfl
theorem F75.tab : T.get none (.of 75) tbl = some F75 := by kernel_rfl
theorem F75.bind (k : T AV -> OP) : yG F75.params [a0, a1] F75.init k = k (F75.fr a0 a1 .undef .undef .undef .undef) := by kernel_rfl
theorem F75.jf : F75.body = F75.t11 := by kernel_rfl
theorem F75.go : zV tbl N C (.of 75) [a0, a1] h nx K0 = IR.run F75.t11 C N (fnO F75.res K0) (ku F75.res K0) (F75.fr a0 a1 .undef .undef .undef .undef) h nx := by
 rw [zJ F75.tab, F75.bind, F75.jf]; kernel_rfl
theorem F75.ret : ku F75.res K0 (F75.fr b c f i e g) h nx = K0 (.tup [f, i]) h nx := by kernel_rfl
def F47.t0 : IR := .reg [.q (.of 2) (.mv (.c .zf)), .q (.of 3) (.mv (.c (I 0)))]
def F47.t1 : IR := .reg [.s (.mv (.t (.of 0))), .s (.mv (.t (.of 1))), .w .push none (.call (.c (.fn 75 (.of 75) [])) [(.s 1), (.s 0)]), .s (.mv (.s 0)), .s (.ext 0 (.s 0)), .s (.ext 1 (.s 1)), .q (.of 4) (.mv (.s 1)), .q (.of 5) (.mv (.s 0))]
def F47.t2 : IR := .reg [.s (.mv (.t (.of 5))), .q (.of 6) (.bin .neq .int (.s 0) (.c (I 0)))]
def F47.t3 : IR := .reg [.s (.mv (.t (.of 5))), .q (.of 2) (.mv (.c .zf)), .q (.of 3) (.mv (.s 0))]
def F47.t4 : IR := .seq F47.t3 .ret
def F47.t5 : IR := .cond (.t (.of 6)) F47.t4 .skip
def F47.t6 : IR := .seq F47.t2 F47.t5
def F47.t7 : IR := .reg [.s (.mv (.t (.of 4))), .s (.zn 1 (.s 0) (.c (I 0))), .s (.load (.s 0)), .q (.of 2) (.mv (.s 0)), .q (.of 3) (.mv (.c (I 0)))]
def F47.t8 : IR := .seq F47.t7 .ret
def F47.t9 : IR := .seq F47.t6 F47.t8
def F47.t10 : IR := .seq F47.t1 F47.t9
def F47.t11 : IR := .seq F47.t0 F47.t10
theorem F47.bM : IR.run F47.t0 C N O K (F47.fr b c f i e g s) h nx =
 K (F47.fr b c .zf (I 0) e g s) h nx := by kernel_rfl
theorem F47.bP : IR.run F47.t1 C N O K (F47.fr b c f i e g s) h nx =
 C.fn 75 (.of 75) [b, c] h nx fun v1 h2 n3 => wo 0 v1 fun v4 => wo 1 v1 fun v5 => K (F47.fr b c f i v4 v5 s) h2 n3 := by kernel_rfl
theorem F47.bU : IR.run F47.t2 C N O K (F47.fr b c f i e g s) h nx =
 zu .neq .int g (I 0) fun v1 => K (F47.fr b c f i e g v1) h nx := by kernel_rfl
theorem F47.t3_s : IR.run F47.t3 C N O K (F47.fr b c f i e g s) h nx =
 K (F47.fr b c .zf g e g s) h nx := by kernel_rfl
theorem F47.v6 : Arg.ev (.t (.of 6)) ⟨(F47.fr b c f i e g s), []⟩ = s := by kernel_rfl
theorem F47.t7_s : IR.run F47.t7 C N O K (F47.fr b c f i e g s) h nx =
 zO 1 e (I 0) fun v1 => zF v1 h fun v2 => K (F47.fr b c v2 (I 0) e g s) h nx := by kernel_rfl
theorem F47.tab : T.get none (.of 47) tbl = some F47 := by kernel_rfl
theorem F47.bind (k : T AV -> OP) : yG F47.params [a0, a1] F47.init k = k (F47.fr a0 a1 .undef .undef .undef .undef .undef) := by kernel_rfl
theorem F47.jf : F47.body = F47.t11 := by kernel_rfl
theorem F47.go : zV tbl N C (.of 47) [a0, a1] h nx K0 = IR.run F47.t11 C N (fnO F47.res K0) (ku F47.res K0) (F47.fr a0 a1 .undef .undef .undef .undef .undef) h nx := by
 rw [zJ F47.tab, F47.bind, F47.jf]; kernel_rfl
theorem F47.ret : ku F47.res K0 (F47.fr b c f i e g s) h nx = K0 (.tup [f, i]) h nx := by kernel_rfl
def zy.t0 : IR := .reg [.w (.loc (.of 2)) none (.box (.t (.of 1))), .w (.loc (.of 3)) none (.alloc [.zf]), .w (.loc (.of 4)) none (.alloc [(I 0)])]
def zy.t1 : IR := .reg [.w (.loc (.of 5)) none (.alloc [.zf])]
def zy.t2 : IR := .reg [.s (.mv (.t (.of 0))), .w (.loc (.of 8)) none (.call (.c (.fn 90 (.of 90) [])) [(.s 0)])]
def zy.t3 : IR := .reg [.w (.loc (.of 6)) none (.alloc [.zf, (.bool false)]), .w .none none (.store 2 (.t (.of 6)) (.t (.of 10)))]
def zy.t4 : IR := .reg [.s (.zi 2 (.t (.of 6))), .s (.load (.t (.of 2))), .w .push none (.call (.c (.fn 135 (.of 135) [])) [(.s 1), (.s 0)]), .q (.of 7) (.mv (.s 0))]
def zy.t5 : IR := .reg [.s (.mv (.t (.of 7))), .w (.loc (.of 11)) none (.call (.c (.fn 136 (.of 136) [])) [(.s 0), (.c (.fn 137 (.of 137) []))])]
def zy.t6 : IR := .reg [.w .none none (.store 1 (.t (.of 3)) (.c .zf)), .w .none none (.store 1 (.t (.of 4)) (.c (I 3)))]
def zy.t7 : IR := .seq zy.t6 .ret
def zy.t8 : IR := .cond (.t (.of 11)) zy.t7 .skip
def zy.t9 : IR := .seq zy.t5 zy.t8
def zy.t10 : IR := .reg [.s (.load (.t (.of 5))), .s (.mv (.t (.of 7))), .w .push none (.yj 1 1 [.zf] [(0, 1, (.s 0))]), .w .push none (.app 1 24 (.s 2) (.s 0)), .w .none none (.store 1 (.t (.of 5)) (.s 0))]
def zy.t11 : IR := .seq zy.t9 zy.t10
def zy.t12 : IR := .seq zy.t4 zy.t11
def zy.t13 : IR := .block 1 zy.t12
def zy.t14 : IR := .rf (.t (.of 8)) [(.of 9), (.of 10)] zy.t3 zy.t13
def zy.t15 : IR := .block 0 zy.t14
def zy.t16 : IR := .seq zy.t2 zy.t15
def zy.t17 : IR := .reg [.s (.load (.t (.of 5))), .w .push none (.call (.c (.fn 200 (.of 200) [])) [(.s 0), (.c (.fn 201 (.of 201) []))])]
def zy.t18 : IR := .reg [.s (.load (.t (.of 5))), .w .push none (.call (.c (.fn 202 (.of 202) [])) [(.s 0), (.c (.fn 158 (.of 158) []))]), .w .none none (.store 1 (.t (.of 3)) (.s 0)), .w .none none (.store 1 (.t (.of 4)) (.c (I 0)))]
def zy.t19 : IR := .seq zy.t18 .ret
def zy.t20 : IR := .seq zy.t17 zy.t19
def zy.t21 : IR := .seq zy.t16 zy.t20
def zy.t22 : IR := .seq zy.t1 zy.t21
def zy.t23 : IR := .seq zy.t0 zy.t22
theorem zy.bM : IR.run zy.t0 C N O K (zy.fr b c f i e g s v u w a d) h nx =
 sBox c h nx fun v1 h2 n3 => yH [.zf] h2 n3 fun v4 h5 n6 => yH [(I 0)] h5 n6 fun v7 h8 n9 => K (zy.fr b c v1 v4 v7 g s v u w a d) h8 n9 := by kernel_rfl
theorem zy.bP : IR.run zy.t1 C N O K (zy.fr b c f i e g s v u w a d) h nx =
 yH [.zf] h nx fun v1 h2 n3 => K (zy.fr b c f i e v1 s v u w a d) h2 n3 := by kernel_rfl
theorem zy.bU : IR.run zy.t2 C N O K (zy.fr b c f i e g s v u w a d) h nx =
 C.fn 90 (.of 90) [b] h nx fun v1 h2 n3 => K (zy.fr b c f i e g s v v1 w a d) h2 n3 := by kernel_rfl
theorem zy.t3_s : IR.run zy.t3 C N O K (zy.fr b c f i e g s v u w a d) h nx =
 yH [.zf, (.bool false)] h nx fun v1 h2 n3 => zK 2 v1 a h2 n3 fun v4 h5 n6 => K (zy.fr b c f i e g v1 v u w a d) h5 n6 := by kernel_rfl
theorem zy.t4_s : IR.run zy.t4 C N O K (zy.fr b c f i e g s v u w a d) h nx =
 zM 2 s h fun v1 => zF f h fun v2 => C.fn 135 (.of 135) [v1, v2] h nx fun v3 h4 n5 => K (zy.fr b c f i e g s v3 u w a d) h4 n5 := by kernel_rfl
theorem zy.t5_s : IR.run zy.t5 C N O K (zy.fr b c f i e g s v u w a d) h nx =
 C.fn 136 (.of 136) [v, (.fn 137 (.of 137) [])] h nx fun v1 h2 n3 => K (zy.fr b c f i e g s v u w a v1) h2 n3 := by kernel_rfl
theorem zy.t6_s : IR.run zy.t6 C N O K (zy.fr b c f i e g s v u w a d) h nx =
 zK 1 i .zf h nx fun v1 h2 n3 => zK 1 e (I 3) h2 n3 fun v4 h5 n6 => K (zy.fr b c f i e g s v u w a d) h5 n6 := by kernel_rfl
theorem zy.v11 : Arg.ev (.t (.of 11)) ⟨(zy.fr b c f i e g s v u w a d), []⟩ = d := by kernel_rfl
theorem zy.t10_s : IR.run zy.t10 C N O K (zy.fr b c f i e g s v u w a d) h nx =
 zF g h fun v1 => jI 1 1 [.zf] [(0, 1, v)] h nx fun v2 h3 n4 => sApp 1 24 v1 v2 h3 n4 fun v5 h6 n7 => zK 1 g v5 h6 n7 fun v8 h9 nI => K (zy.fr b c f i e g s v u w a d) h9 nI := by kernel_rfl
theorem zy.t14_f : Arg.ev (.t (.of 8)) ⟨(zy.fr b c f i e g s v u w a d), []⟩ = u := by kernel_rfl
theorem zy.t14_b {z0 z1 : AV} (k : T AV -> OP) : yG [(.of 9), (.of 10)] [z0, z1] (zy.fr b c f i e g s v u w a d) k = k (zy.fr b c f i e g s v u z0 z1 d) := by kernel_rfl
theorem zy.t17_s : IR.run zy.t17 C N O K (zy.fr b c f i e g s v u w a d) h nx =
 zF g h fun v1 => C.fn 200 (.of 200) [v1, (.fn 201 (.of 201) [])] h nx fun v2 h3 n4 => K (zy.fr b c f i e g s v u w a d) h3 n4 := by kernel_rfl
theorem zy.t18_s : IR.run zy.t18 C N O K (zy.fr b c f i e g s v u w a d) h nx =
 zF g h fun v1 => C.fn 202 (.of 202) [v1, (.fn 158 (.of 158) [])] h nx fun v2 h3 n4 => zK 1 i v2 h3 n4 fun v5 h6 n7 => zK 1 e (I 0) h6 n7 fun v8 h9 nI => K (zy.fr b c f i e g s v u w a d) h9 nI := by kernel_rfl
theorem zy.tab : T.get none (.of 157) tbl = some zy := by kernel_rfl
theorem zy.bind (k : T AV -> OP) : yG zy.params [a0, a1] zy.init k = k (zy.fr a0 a1 .undef .undef .undef .undef .undef .undef .undef .undef .undef .undef) := by kernel_rfl
theorem zy.jf : zy.body = zy.t23 := by kernel_rfl
theorem zy.go : zV tbl N C (.of 157) [a0, a1] h nx K0 = IR.run zy.t23 C N (fnO zy.res K0) (ku zy.res K0) (zy.fr a0 a1 .undef .undef .undef .undef .undef .undef .undef .undef .undef .undef) h nx := by
 rw [zJ zy.tab, zy.bind, zy.jf]; kernel_rfl
theorem zy.ret : ku zy.res K0 (zy.fr b c f i e g s v u w a d) h nx = zF i h fun v1 => zF e h fun v2 => K0 (.tup [v1, v2]) h nx := by kernel_rfl
def yx.t0 : IR := .reg [.q (.of 2) (.mv (.c (I 0)))]
def yx.t1 : IR := .reg [.s (.mv (.t (.of 1))), .w .push none (.call (.c (.fn 134 (.of 134) [])) [(.s 0)]), .q (.of 3) (.mv (.s 0))]
def yx.t2 : IR := .reg [.s (.mv (.t (.of 3))), .q (.of 4) (.bin .neq .int (.s 0) (.c (I 0)))]
def yx.t3 : IR := .reg [.s (.mv (.t (.of 3))), .q (.of 2) (.mv (.s 0))]
def yx.t4 : IR := .seq yx.t3 .ret
def yx.t5 : IR := .cond (.t (.of 4)) yx.t4 .skip
def yx.t6 : IR := .seq yx.t2 yx.t5
def yx.t7 : IR := .seq yx.t1 yx.t6
def yx.t8 : IR := .reg [.s (.mv (.t (.of 0))), .s (.mv (.t (.of 1))), .s (.len (.s 0)), .w .push none (.call (.c (.fn 22 (.of 22) [])) [(.s 2), (.s 0)]), .q (.of 2) (.mv (.s 0))]
def yx.t9 : IR := .seq yx.t8 .ret
def yx.t10 : IR := .seq yx.t7 yx.t9
def yx.t11 : IR := .seq yx.t0 yx.t10
theorem yx.bM : IR.run yx.t0 C N O K (yx.fr b c f i e) h nx =
 K (yx.fr b c (I 0) i e) h nx := by kernel_rfl
theorem yx.bP : IR.run yx.t1 C N O K (yx.fr b c f i e) h nx =
 C.fn 134 (.of 134) [c] h nx fun v1 h2 n3 => K (yx.fr b c f v1 e) h2 n3 := by kernel_rfl
theorem yx.bU : IR.run yx.t2 C N O K (yx.fr b c f i e) h nx =
 zu .neq .int i (I 0) fun v1 => K (yx.fr b c f i v1) h nx := by kernel_rfl
theorem yx.t3_s : IR.run yx.t3 C N O K (yx.fr b c f i e) h nx =
 K (yx.fr b c i i e) h nx := by kernel_rfl
theorem yx.v4 : Arg.ev (.t (.of 4)) ⟨(yx.fr b c f i e), []⟩ = e := by kernel_rfl
theorem yx.t8_s : IR.run yx.t8 C N O K (yx.fr b c f i e) h nx =
 sLen c fun v1 => C.fn 22 (.of 22) [b, v1] h nx fun v2 h3 n4 => K (yx.fr b c v2 i e) h3 n4 := by kernel_rfl
theorem yx.tab : T.get none (.of 156) tbl = some yx := by kernel_rfl
theorem yx.bind (k : T AV -> OP) : yG yx.params [a0, a1] yx.init k = k (yx.fr a0 a1 .undef .undef .undef) := by kernel_rfl
theorem yx.jf : yx.body = yx.t11 := by kernel_rfl
theorem yx.go : zV tbl N C (.of 156) [a0, a1] h nx K0 = IR.run yx.t11 C N (fnO yx.res K0) (ku yx.res K0) (yx.fr a0 a1 .undef .undef .undef) h nx := by
 rw [zJ yx.tab, yx.bind, yx.jf]; kernel_rfl
theorem yx.ret : ku yx.res K0 (yx.fr b c f i e) h nx = K0 f h nx := by kernel_rfl
def zh.t0 : IR := .reg [.q (.of 2) (.mv (.c .zf))]
def zh.t1 : IR := .reg [.s (.mv (.t (.of 0))), .s (.len (.s 0)), .q (.of 6) (.bin .lss .int (.s 0) (.c (I 2)))]
def zh.t2 : IR := .reg [.s (.mv (.t (.of 0))), .q (.of 2) (.mv (.s 0))]
def zh.t3 : IR := .seq zh.t2 .ret
def zh.t4 : IR := .cond (.t (.of 6)) zh.t3 .skip
def zh.t5 : IR := .seq zh.t1 zh.t4
def zh.t6 : IR := .reg [.q (.of 3) (.mv (.c (I 1)))]
def zh.t7 : IR := .reg [.s (.mv (.t (.of 3))), .s (.mv (.t (.of 0))), .s (.len (.s 0)), .q (.of 7) (.bin .lss .int (.s 2) (.s 0))]
def zh.t8 : IR := .cond (.t (.of 7)) .skip (.exit 0)
def zh.t9 : IR := .seq zh.t7 zh.t8
def zh.t10 : IR := .yt [] [(.s (.mv (.t (.of 1))), 0, []), (.s (.mv (.t (.of 0))), 0, []), (.s (.mv (.t (.of 3))), 0, []), (.s (.zn 1 (.s 1) (.s 0)), 0, []), (.s (.load (.s 0)), 0, []), (.s (.mv (.t (.of 0))), 0, []), (.s (.mv (.t (.of 3))), 0, []), (.s (.bin .sub .int (.s 0) (.c (I 1))), 0, []), (.s (.zn 1 (.s 2) (.s 0)), 0, []), (.s (.load (.s 0)), 0, []), (.w (.loc (.of 8)) none (.call (.s 9) [(.s 5), (.s 0)]), 0, [])]
def zh.t11 : IR := .reg [.s (.mv (.t (.of 0))), .s (.mv (.t (.of 3))), .s (.slice 1 (.s 1) (some (.s 0)) none none), .q (.of 4) (.mv (.s 0))]
def zh.t12 : IR := .reg [.q (.of 5) (.mv (.c (I 1)))]
def zh.t13 : IR := .reg [.s (.mv (.t (.of 5))), .s (.mv (.t (.of 4))), .s (.len (.s 0)), .q (.of 9) (.bin .lss .int (.s 2) (.s 0))]
def zh.t14 : IR := .cond (.t (.of 9)) .skip (.exit 2)
def zh.t15 : IR := .seq zh.t13 zh.t14
def zh.t16 : IR := .yt [] [(.s (.mv (.t (.of 1))), 0, []), (.s (.mv (.t (.of 4))), 0, []), (.s (.mv (.t (.of 5))), 0, []), (.s (.zn 1 (.s 1) (.s 0)), 0, []), (.s (.load (.s 0)), 0, []), (.s (.mv (.t (.of 4))), 0, []), (.s (.mv (.t (.of 5))), 0, []), (.s (.bin .sub .int (.s 0) (.c (I 1))), 0, []), (.s (.zn 1 (.s 2) (.s 0)), 0, []), (.s (.load (.s 0)), 0, []), (.w .push none (.call (.s 9) [(.s 5), (.s 0)]), 0, []), (.q (.of 10) (.not (.s 0)), 0, [])]
def zh.t17 : IR := .reg [.s (.mv (.t (.of 0))), .s (.mv (.t (.of 3))), .s (.mv (.t (.of 4))), .s (.mv (.t (.of 5))), .s (.zn 1 (.s 1) (.s 0)), .s (.load (.s 0)), .s (.zn 1 (.s 5) (.s 4)), .w .none none (.store 1 (.s 0) (.s 1))]
def zh.t18 : IR := .reg [.s (.mv (.t (.of 3))), .s (.bin .add .int (.s 0) (.c (I 1))), .q (.of 3) (.mv (.s 0))]
def zh.t19 : IR := .seq zh.t17 zh.t18
def zh.t20 : IR := .cond (.t (.of 10)) zh.t19 .skip
def zh.t21 : IR := .seq zh.t16 zh.t20
def zh.t22 : IR := .block 3 zh.t21
def zh.t23 : IR := .reg [.s (.mv (.t (.of 5))), .s (.bin .add .int (.s 0) (.c (I 1))), .q (.of 5) (.mv (.s 0))]
def zh.t24 : IR := .seq zh.t22 zh.t23
def zh.t25 : IR := .seq zh.t15 zh.t24
def zh.t26 : IR := .loop zh.t25
def zh.t27 : IR := .block 2 zh.t26
def zh.t28 : IR := .seq zh.t12 zh.t27
def zh.t29 : IR := .reg [.s (.mv (.t (.of 0))), .s (.mv (.t (.of 3))), .s (.slice 1 (.s 1) (some (.s 0)) none none), .w .none none (.clr 1 [.zf] (.s 0))]
def zh.t30 : IR := .reg [.s (.mv (.t (.of 0))), .s (.mv (.t (.of 3))), .s (.slice 1 (.s 1) none (some (.s 0)) none), .q (.of 2) (.mv (.s 0))]
def zh.t31 : IR := .seq zh.t30 .ret
def zh.t32 : IR := .seq zh.t29 zh.t31
def zh.t33 : IR := .seq zh.t28 zh.t32
def zh.t34 : IR := .seq zh.t11 zh.t33
def zh.t35 : IR := .cond (.t (.of 8)) zh.t34 .skip
def zh.t36 : IR := .seq zh.t10 zh.t35
def zh.t37 : IR := .block 1 zh.t36
def zh.t38 : IR := .reg [.s (.mv (.t (.of 3))), .s (.bin .add .int (.s 0) (.c (I 1))), .q (.of 3) (.mv (.s 0))]
def zh.t39 : IR := .seq zh.t37 zh.t38
def zh.t40 : IR := .seq zh.t9 zh.t39
def zh.t41 : IR := .loop zh.t40
def zh.t42 : IR := .block 0 zh.t41
def zh.t43 : IR := .seq zh.t6 zh.t42
def zh.t44 : IR := .reg [.s (.mv (.t (.of 0))), .q (.of 2) (.mv (.s 0))]
def zh.t45 : IR := .seq zh.t44 .ret
def zh.t46 : IR := .seq zh.t43 zh.t45
def zh.t47 : IR := .seq zh.t5 zh.t46
def zh.t48 : IR := .seq zh.t0 zh.t47
theorem zh.bM : IR.run zh.t0 C N O K (zh.fr b c f i e g s v u w a) h nx =
 K (zh.fr b c .zf i e g s v u w a) h nx := by kernel_rfl
theorem zh.bP : IR.run zh.t1 C N O K (zh.fr b c f i e g s v u w a) h nx =
 sLen b fun v1 => zu .lss .int v1 (I 2) fun v2 => K (zh.fr b c f i e g v2 v u w a) h nx := by kernel_rfl
theorem zh.bU : IR.run zh.t2 C N O K (zh.fr b c f i e g s v u w a) h nx =
 K (zh.fr b c b i e g s v u w a) h nx := by kernel_rfl
theorem zh.v6 : Arg.ev (.t (.of 6)) ⟨(zh.fr b c f i e g s v u w a), []⟩ = s := by kernel_rfl
theorem zh.t6_s : IR.run zh.t6 C N O K (zh.fr b c f i e g s v u w a) h nx =
 K (zh.fr b c f (I 1) e g s v u w a) h nx := by kernel_rfl
theorem zh.t7_s : IR.run zh.t7 C N O K (zh.fr b c f i e g s v u w a) h nx =
 sLen b fun v1 => zu .lss .int i v1 fun v2 => K (zh.fr b c f i e g s v2 u w a) h nx := by kernel_rfl
theorem zh.v7 : Arg.ev (.t (.of 7)) ⟨(zh.fr b c f i e g s v u w a), []⟩ = v := by kernel_rfl
theorem zh.t10_s : IR.run zh.t10 C N O K (zh.fr b c f i e g s v u w a) h nx =
 zO 1 b i fun v1 => zF v1 h fun v2 => zu .sub .int i (I 1) fun v3 => zO 1 b v3 fun v4 => zF v4 h fun v5 => mP C c [v2, v5] h nx fun v6 h7 n8 => K (zh.fr b c f i e g s v v6 w a) h7 n8 := by kernel_rfl
theorem zh.t11_s : IR.run zh.t11 C N O K (zh.fr b c f i e g s v u w a) h nx =
 wE 1 b (some i) none none fun v1 => K (zh.fr b c f i v1 g s v u w a) h nx := by kernel_rfl
theorem zh.t12_s : IR.run zh.t12 C N O K (zh.fr b c f i e g s v u w a) h nx =
 K (zh.fr b c f i e (I 1) s v u w a) h nx := by kernel_rfl
theorem zh.t13_s : IR.run zh.t13 C N O K (zh.fr b c f i e g s v u w a) h nx =
 sLen e fun v1 => zu .lss .int g v1 fun v2 => K (zh.fr b c f i e g s v u v2 a) h nx := by kernel_rfl
theorem zh.v9 : Arg.ev (.t (.of 9)) ⟨(zh.fr b c f i e g s v u w a), []⟩ = w := by kernel_rfl
theorem zh.t16_s : IR.run zh.t16 C N O K (zh.fr b c f i e g s v u w a) h nx =
 zO 1 e g fun v1 => zF v1 h fun v2 => zu .sub .int g (I 1) fun v3 => zO 1 e v3 fun v4 => zF v4 h fun v5 => mP C c [v2, v5] h nx fun v6 h7 n8 => sNot v6 fun v9 => K (zh.fr b c f i e g s v u w v9) h7 n8 := by kernel_rfl
theorem zh.t17_s : IR.run zh.t17 C N O K (zh.fr b c f i e g s v u w a) h nx =
 zO 1 e g fun v1 => zF v1 h fun v2 => zO 1 b i fun v3 => zK 1 v3 v2 h nx fun v4 h5 n6 => K (zh.fr b c f i e g s v u w a) h5 n6 := by kernel_rfl
theorem zh.t18_s : IR.run zh.t18 C N O K (zh.fr b c f i e g s v u w a) h nx =
 zu .add .int i (I 1) fun v1 => K (zh.fr b c f v1 e g s v u w a) h nx := by kernel_rfl
theorem zh.v10 : Arg.ev (.t (.of 10)) ⟨(zh.fr b c f i e g s v u w a), []⟩ = a := by kernel_rfl
theorem zh.t23_s : IR.run zh.t23 C N O K (zh.fr b c f i e g s v u w a) h nx =
 zu .add .int g (I 1) fun v1 => K (zh.fr b c f i e v1 s v u w a) h nx := by kernel_rfl
theorem zh.t26_L (Inv : Nat -> AV -> AV -> T Blk -> Pa -> Prop) {m : Nat} (hm : m < N) (hi : Inv m i g h nx)
  (step : ∀ (m : Nat) (z3 z5 z9 zI : AV) (h : T Blk) (nx : Pa) (R : Ks Prop), Inv m z3 z5 h nx -> (∀ (m' : Nat) (w3 w5 w9 wK : AV) (h' : T Blk) (nx' : Pa), m' < m -> Inv m' w3 w5 h' nx' -> R (zh.fr b c f w3 e w5 s v u w9 wK) h' nx' = .ok True) -> IR.run zh.t25 C N O R (zh.fr b c f z3 e z5 s v u z9 zI) h nx = .ok True) :
  IR.run zh.t26 C N O K (zh.fr b c f i e g s v u w a) h nx = .ok True := by
 rw [zh.t26];refine yM (fun m tm h nx => ∃ z3 z5 z9 zI, tm = (zh.fr b c f z3 e z5 s v u z9 zI) /\ Inv m z3 z5 h nx) ?_ hm ⟨_, _, _, _, rfl, hi⟩;rintro m tm h nx R ⟨z3, z5, z9, zI, rfl, hi⟩ hR;exact step m z3 z5 z9 zI h nx R hi fun m' w3 w5 w9 wK h' nx' hlt hi' => hR m' _ h' nx' hlt ⟨_, _, _, _, rfl, hi'⟩
theorem zh.t29_s : IR.run zh.t29 C N O K (zh.fr b c f i e g s v u w a) h nx =
 wE 1 b (some i) none none fun v1 => sClr 1 [.zf] v1 h nx fun v2 h3 n4 => K (zh.fr b c f i e g s v u w a) h3 n4 := by kernel_rfl
theorem zh.t30_s : IR.run zh.t30 C N O K (zh.fr b c f i e g s v u w a) h nx =
 wE 1 b none (some i) none fun v1 => K (zh.fr b c v1 i e g s v u w a) h nx := by kernel_rfl
theorem zh.v8 : Arg.ev (.t (.of 8)) ⟨(zh.fr b c f i e g s v u w a), []⟩ = u := by kernel_rfl
theorem zh.t38_s : IR.run zh.t38 C N O K (zh.fr b c f i e g s v u w a) h nx =
 zu .add .int i (I 1) fun v1 => K (zh.fr b c f v1 e g s v u w a) h nx := by kernel_rfl
theorem zh.t41_L (Inv : Nat -> AV -> T Blk -> Pa -> Prop) {m : Nat} (hm : m < N) (hi : Inv m i h nx)
  (step : ∀ (m : Nat) (z2 z3 z4 z5 z7 z8 z9 zI : AV) (h : T Blk) (nx : Pa) (R : Ks Prop), Inv m z3 h nx -> (∀ (m' : Nat) (w2 w3 w4 w5 w7 w8 w9 wK : AV) (h' : T Blk) (nx' : Pa), m' < m -> Inv m' w3 h' nx' -> R (zh.fr b c w2 w3 w4 w5 s w7 w8 w9 wK) h' nx' = .ok True) -> IR.run zh.t40 C N O R (zh.fr b c z2 z3 z4 z5 s z7 z8 z9 zI) h nx = .ok True) :
  IR.run zh.t41 C N O K (zh.fr b c f i e g s v u w a) h nx = .ok True := by
 rw [zh.t41];refine yM (fun m tm h nx => ∃ z2 z3 z4 z5 z7 z8 z9 zI, tm = (zh.fr b c z2 z3 z4 z5 s z7 z8 z9 zI) /\ Inv m z3 h nx) ?_ hm ⟨_, _, _, _, _, _, _, _, rfl, hi⟩;rintro m tm h nx R ⟨z2, z3, z4, z5, z7, z8, z9, zI, rfl, hi⟩ hR;exact step m z2 z3 z4 z5 z7 z8 z9 zI h nx R hi fun m' w2 w3 w4 w5 w7 w8 w9 wK h' nx' hlt hi' => hR m' _ h' nx' hlt ⟨_, _, _, _, _, _, _, _, rfl, hi'⟩
theorem zh.t44_s : IR.run zh.t44 C N O K (zh.fr b c f i e g s v u w a) h nx =
 K (zh.fr b c b i e g s v u w a) h nx := by kernel_rfl
theorem zh.tab : T.get none (.of 202) tbl = some zh := by kernel_rfl
theorem zh.bind (k : T AV -> OP) : yG zh.params [a0, a1] zh.init k = k (zh.fr a0 a1 .undef .undef .undef .undef .undef .undef .undef .undef .undef) := by kernel_rfl
theorem zh.jf : zh.body = zh.t48 := by kernel_rfl
theorem zh.go : zV tbl N C (.of 202) [a0, a1] h nx K0 = IR.run zh.t48 C N (fnO zh.res K0) (ku zh.res K0) (zh.fr a0 a1 .undef .undef .undef .undef .undef .undef .undef .undef .undef) h nx := by
 rw [zJ zh.tab, zh.bind, zh.jf]; kernel_rfl
theorem zh.ret : ku zh.res K0 (zh.fr b c f i e g s v u w a) h nx = K0 f h nx := by kernel_rfl
end
end Go.Ev
namespace Go.Ev
open Go Go.Proofs
set_option maxRecDepth 100000
section
variable {N : Nat} {C : Calls Prop} {K0 : Kw Prop} {K : Ks Prop} {h : T Blk} {nx : Pa} {b c f i e g s v u w a d q o p l a0 a1 : AV} {O : uw Prop} {tm : T AV} {Kt : KTm} {r : List RO} {s0 s1 s2 s3 s4 s5 s6 s7 s8 s9 s10 s11 s12 s13 s14 s15 s16 s17 s18 s19 s20 s21 s22 s23 s24 s25 s26 s27 s28 s29 s30 s31 s32 s33 s34 s35 s36 s37 s38 s39 : AV}
end
end Go.Ev
namespace Go.Ev
open Go Go.Proofs
set_option maxRecDepth 100000
section
variable {N : Nat} {C : Calls Prop} {K0 : Kw Prop} {K : Ks Prop} {h : T Blk} {nx : Pa} {b c f i e g s v u w a d q o p l y z A B D E a0 a1 a2 : AV} {O : uw Prop} {tm : T AV} {Kt : KTm} {r : List RO} {s0 s1 s2 s3 s4 s5 s6 s7 s8 s9 s10 s11 s12 s13 s14 s15 s16 s17 s18 s19 s20 s21 s22 s23 s24 s25 s26 s27 s28 s29 s30 s31 s32 s33 s34 s35 s36 s37 s38 s39 : AV}
def F45.t0 : IR := .reg [.q (.of 3) (.mv (.c (.bool false)))]
def F45.r1_2 : List RO := .p .push (some ((.s 3), true)) (.bin .eql .int (.s 0) (.c (I 0))) :: .s (.pick (.s 4) (.s 0) (.c (.bool false))) :: .q (.of 3) (.mv (.s 0)) :: []
def F45.r1_1 : List RO := .s (.mv (.s 0)) :: .p .push (some ((.s 0), true)) (.mv (.t (.of 0))) :: .p .push (some ((.s 1), true)) (.mv (.t (.of 1))) :: .w .push (some ((.s 2), true)) (.call (.c (.fn 20 (.of 20) [])) [(.s 1), (.s 0)]) :: F45.r1_2
def F45.r1_0 : List RO := .s (.mv (.t (.of 0))) :: .s (.len (.s 0)) :: .s (.mv (.t (.of 2))) :: .s (.bin .leq .int (.s 1) (.s 0)) :: .s (.mv (.s 0)) :: .p .push (some ((.s 0), true)) (.mv (.t (.of 1))) :: .p .push (some ((.s 1), true)) (.bin .leq .int (.s 0) (.c (I 16))) :: .s (.pick (.s 2) (.s 0) (.c (.bool false))) :: F45.r1_1
def F45.t1 : IR := .reg F45.r1_0
def F45.t2 : IR := .seq F45.t1 .ret
def F45.t3 : IR := .seq F45.t0 F45.t2
theorem F45.bM : IR.run F45.t0 C N O K (F45.fr b c f i) h nx =
 K (F45.fr b c f (.bool false)) h nx := by kernel_rfl
theorem F45.bP : IR.run F45.t1 C N O K tm h nx = yV F45.r1_0 C ⟨tm, []⟩ h nx (fun tm h nx => K tm.v h nx) := wJ ..
theorem F45.r1_0_g : yV (.s (.mv (.t (.of 0))) :: .s (.len (.s 0)) :: .s (.mv (.t (.of 2))) :: .s (.bin .leq .int (.s 1) (.s 0)) :: .s (.mv (.s 0)) :: .p .push (some ((.s 0), true)) (.mv (.t (.of 1))) :: .p .push (some ((.s 1), true)) (.bin .leq .int (.s 0) (.c (I 16))) :: .s (.pick (.s 2) (.s 0) (.c (.bool false))) :: r) C ⟨(F45.fr b c f i), []⟩ h nx Kt =
 sLen b fun v1 => zu .leq .int v1 f fun v2 => sG v2 true (fun k => k c) fun v3 => sG v2 true (fun k => zu .leq .int v3 (I 16) k) fun v4 => jQ v2 v4 (.bool false) fun v5 => yV r C ⟨(F45.fr b c f i), v5 :: v4 :: v3 :: v2 :: v2 :: f :: v1 :: b :: []⟩ h nx Kt := by kernel_rfl
theorem F45.r1_1_g : yV (.s (.mv (.s 0)) :: .p .push (some ((.s 0), true)) (.mv (.t (.of 0))) :: .p .push (some ((.s 1), true)) (.mv (.t (.of 1))) :: .w .push (some ((.s 2), true)) (.call (.c (.fn 20 (.of 20) [])) [(.s 1), (.s 0)]) :: r) C ⟨(F45.fr b c f i), s0 :: s1 :: s2 :: s3 :: s4 :: s5 :: s6 :: s7 :: []⟩ h nx Kt =
 sG s0 true (fun k => k b) fun v1 => sG s0 true (fun k => k c) fun v2 => sGW s0 true (fun k => C.fn 20 (.of 20) [v1, v2] h nx k) h nx fun v3 h4 n5 => yV r C ⟨(F45.fr b c f i), v3 :: v2 :: v1 :: s0 :: s0 :: s1 :: s2 :: s3 :: s4 :: s5 :: s6 :: s7 :: []⟩ h4 n5 Kt := by kernel_rfl
theorem F45.r1_2_g : yV (.p .push (some ((.s 3), true)) (.bin .eql .int (.s 0) (.c (I 0))) :: .s (.pick (.s 4) (.s 0) (.c (.bool false))) :: .q (.of 3) (.mv (.s 0)) :: []) C ⟨(F45.fr b c f i), s0 :: s1 :: s2 :: s3 :: s4 :: s5 :: s6 :: s7 :: s8 :: s9 :: s10 :: s11 :: []⟩ h nx Kt =
 sG s3 true (fun k => zu .eql .int s0 (I 0) k) fun v1 => jQ s3 v1 (.bool false) fun v2 => Kt ⟨(F45.fr b c f v2), v2 :: v1 :: s0 :: s1 :: s2 :: s3 :: s4 :: s5 :: s6 :: s7 :: s8 :: s9 :: s10 :: s11 :: []⟩ h nx := by kernel_rfl
theorem F45.tab : T.get none (.of 45) tbl = some F45 := by kernel_rfl
theorem F45.bind (k : T AV -> OP) : yG F45.params [a0, a1, a2] F45.init k = k (F45.fr a0 a1 a2 .undef) := by kernel_rfl
theorem F45.jf : F45.body = F45.t3 := by kernel_rfl
theorem F45.go : zV tbl N C (.of 45) [a0, a1, a2] h nx K0 = IR.run F45.t3 C N (fnO F45.res K0) (ku F45.res K0) (F45.fr a0 a1 a2 .undef) h nx := by
 rw [zJ F45.tab, F45.bind, F45.jf]; kernel_rfl
theorem F45.ret : ku F45.res K0 (F45.fr b c f i) h nx = K0 i h nx := by kernel_rfl
def F80.t0 : IR := .reg [.q (.of 1) (.mv (.c (.bool false)))]
def F80.t1 : IR := .reg [.s (.mv (.t (.of 0))), .s (.len (.s 0)), .q (.of 3) (.bin .gtr .int (.s 0) (.c (I 9)))]
def F80.t2 : IR := .reg [.q (.of 1) (.mv (.c (.bool false)))]
def F80.t3 : IR := .seq F80.t2 .ret
def F80.t4 : IR := .cond (.t (.of 3)) F80.t3 .skip
def F80.t5 : IR := .seq F80.t1 F80.t4
def F80.t6 : IR := .reg [.q (.of 2) (.mv (.c (I 0)))]
def F80.t7 : IR := .reg [.s (.mv (.t (.of 2))), .s (.mv (.t (.of 0))), .s (.len (.s 0)), .q (.of 4) (.bin .lss .int (.s 2) (.s 0))]
def F80.t8 : IR := .cond (.t (.of 4)) .skip (.exit 0)
def F80.t9 : IR := .seq F80.t7 F80.t8
def F80.r5_1 : List RO := .p .push (some ((.s 2), false)) (.zn 1 (.s 1) (.s 0)) :: .p .push (some ((.s 3), false)) (.load (.s 0)) :: .p .push (some ((.s 4), false)) (.bin .gtr .int (.s 0) (.c (I 1000))) :: .q (.of 5) (.pick (.s 5) (.c (.bool true)) (.s 0)) :: []
def F80.r5_0 : List RO := .s (.mv (.t (.of 0))) :: .s (.mv (.t (.of 2))) :: .s (.zn 1 (.s 1) (.s 0)) :: .s (.load (.s 0)) :: .s (.bin .lss .int (.s 0) (.c (I (-1000)))) :: .s (.mv (.s 0)) :: .p .push (some ((.s 0), false)) (.mv (.t (.of 0))) :: .p .push (some ((.s 1), false)) (.mv (.t (.of 2))) :: F80.r5_1
def F80.t10 : IR := .reg F80.r5_0
def F80.t11 : IR := .reg [.q (.of 1) (.mv (.c (.bool false)))]
def F80.t12 : IR := .seq F80.t11 .ret
def F80.t13 : IR := .cond (.t (.of 5)) F80.t12 .skip
def F80.t14 : IR := .seq F80.t10 F80.t13
def F80.t15 : IR := .block 1 F80.t14
def F80.t16 : IR := .reg [.s (.mv (.t (.of 2))), .s (.bin .add .int (.s 0) (.c (I 1))), .q (.of 2) (.mv (.s 0))]
def F80.t17 : IR := .seq F80.t15 F80.t16
def F80.t18 : IR := .seq F80.t9 F80.t17
def F80.t19 : IR := .loop F80.t18
def F80.t20 : IR := .block 0 F80.t19
def F80.t21 : IR := .seq F80.t6 F80.t20
def F80.t22 : IR := .reg [.q (.of 1) (.mv (.c (.bool true)))]
def F80.t23 : IR := .seq F80.t22 .ret
def F80.t24 : IR := .seq F80.t21 F80.t23
def F80.t25 : IR := .seq F80.t5 F80.t24
def F80.t26 : IR := .seq F80.t0 F80.t25
theorem F80.bM : IR.run F80.t0 C N O K (F80.fr b c f i e g) h nx =
 K (F80.fr b (.bool false) f i e g) h nx := by kernel_rfl
theorem F80.bP : IR.run F80.t1 C N O K (F80.fr b c f i e g) h nx =
 sLen b fun v1 => zu .gtr .int v1 (I 9) fun v2 => K (F80.fr b c f v2 e g) h nx := by kernel_rfl
theorem F80.bU : IR.run F80.t2 C N O K (F80.fr b c f i e g) h nx =
 K (F80.fr b (.bool false) f i e g) h nx := by kernel_rfl
theorem F80.v3 : Arg.ev (.t (.of 3)) ⟨(F80.fr b c f i e g), []⟩ = i := by kernel_rfl
theorem F80.t6_s : IR.run F80.t6 C N O K (F80.fr b c f i e g) h nx =
 K (F80.fr b c (I 0) i e g) h nx := by kernel_rfl
theorem F80.t7_s : IR.run F80.t7 C N O K (F80.fr b c f i e g) h nx =
 sLen b fun v1 => zu .lss .int f v1 fun v2 => K (F80.fr b c f i v2 g) h nx := by kernel_rfl
theorem F80.v4 : Arg.ev (.t (.of 4)) ⟨(F80.fr b c f i e g), []⟩ = e := by kernel_rfl
theorem F80.t10_s : IR.run F80.t10 C N O K tm h nx = yV F80.r5_0 C ⟨tm, []⟩ h nx (fun tm h nx => K tm.v h nx) := wJ ..
theorem F80.r5_0_g : yV (.s (.mv (.t (.of 0))) :: .s (.mv (.t (.of 2))) :: .s (.zn 1 (.s 1) (.s 0)) :: .s (.load (.s 0)) :: .s (.bin .lss .int (.s 0) (.c (I (-1000)))) :: .s (.mv (.s 0)) :: .p .push (some ((.s 0), false)) (.mv (.t (.of 0))) :: .p .push (some ((.s 1), false)) (.mv (.t (.of 2))) :: r) C ⟨(F80.fr b c f i e g), []⟩ h nx Kt =
 zO 1 b f fun v1 => zF v1 h fun v2 => zu .lss .int v2 (I (-1000)) fun v3 => sG v3 false (fun k => k b) fun v4 => sG v3 false (fun k => k f) fun v5 => yV r C ⟨(F80.fr b c f i e g), v5 :: v4 :: v3 :: v3 :: v2 :: v1 :: f :: b :: []⟩ h nx Kt := by kernel_rfl
theorem F80.r5_1_g : yV (.p .push (some ((.s 2), false)) (.zn 1 (.s 1) (.s 0)) :: .p .push (some ((.s 3), false)) (.load (.s 0)) :: .p .push (some ((.s 4), false)) (.bin .gtr .int (.s 0) (.c (I 1000))) :: .q (.of 5) (.pick (.s 5) (.c (.bool true)) (.s 0)) :: []) C ⟨(F80.fr b c f i e g), s0 :: s1 :: s2 :: s3 :: s4 :: s5 :: s6 :: s7 :: []⟩ h nx Kt =
 sG s2 false (fun k => zO 1 s1 s0 k) fun v1 => sG s2 false (fun k => zF v1 h k) fun v2 => sG s2 false (fun k => zu .gtr .int v2 (I 1000) k) fun v3 => jQ s2 (.bool true) v3 fun v4 => Kt ⟨(F80.fr b c f i e v4), v3 :: v2 :: v1 :: s0 :: s1 :: s2 :: s3 :: s4 :: s5 :: s6 :: s7 :: []⟩ h nx := by kernel_rfl
theorem F80.t11_s : IR.run F80.t11 C N O K (F80.fr b c f i e g) h nx =
 K (F80.fr b (.bool false) f i e g) h nx := by kernel_rfl
theorem F80.v5 : Arg.ev (.t (.of 5)) ⟨(F80.fr b c f i e g), []⟩ = g := by kernel_rfl
theorem F80.t16_s : IR.run F80.t16 C N O K (F80.fr b c f i e g) h nx =
 zu .add .int f (I 1) fun v1 => K (F80.fr b c v1 i e g) h nx := by kernel_rfl
theorem F80.t19_L (Inv : Nat -> AV -> T Blk -> Pa -> Prop) {m : Nat} (hm : m < N) (hi : Inv m f h nx)
  (step : ∀ (m : Nat) (z1 z2 z4 z5 : AV) (h : T Blk) (nx : Pa) (R : Ks Prop), Inv m z2 h nx -> (∀ (m' : Nat) (w1 w2 w4 w5 : AV) (h' : T Blk) (nx' : Pa), m' < m -> Inv m' w2 h' nx' -> R (F80.fr b w1 w2 i w4 w5) h' nx' = .ok True) -> IR.run F80.t18 C N O R (F80.fr b z1 z2 i z4 z5) h nx = .ok True) :
  IR.run F80.t19 C N O K (F80.fr b c f i e g) h nx = .ok True := by
 rw [F80.t19];refine yM (fun m tm h nx => ∃ z1 z2 z4 z5, tm = (F80.fr b z1 z2 i z4 z5) /\ Inv m z2 h nx) ?_ hm ⟨_, _, _, _, rfl, hi⟩;rintro m tm h nx R ⟨z1, z2, z4, z5, rfl, hi⟩ hR;exact step m z1 z2 z4 z5 h nx R hi fun m' w1 w2 w4 w5 h' nx' hlt hi' => hR m' _ h' nx' hlt ⟨_, _, _, _, rfl, hi'⟩
theorem F80.t22_s : IR.run F80.t22 C N O K (F80.fr b c f i e g) h nx =
 K (F80.fr b (.bool true) f i e g) h nx := by kernel_rfl
theorem F80.tab : T.get none (.of 80) tbl = some F80 := by kernel_rfl
theorem F80.bind (k : T AV -> OP) : yG F80.params [a0] F80.init k = k (F80.fr a0 .undef .undef .undef .undef .undef) := by kernel_rfl
theorem F80.jf : F80.body = F80.t26 := by kernel_rfl
theorem F80.go : zV tbl N C (.of 80) [a0] h nx K0 = IR.run F80.t26 C N (fnO F80.res K0) (ku F80.res K0) (F80.fr a0 .undef .undef .undef .undef .undef) h nx := by
 rw [zJ F80.tab, F80.bind, F80.jf]; kernel_rfl
theorem F80.ret : ku F80.res K0 (F80.fr b c f i e g) h nx = K0 c h nx := by kernel_rfl
def F17.t0 : IR := .reg [.q (.of 3) (.mv (.c (.bool false)))]
def F17.r1_5 : List RO := .p .push (some ((.s 4), false)) (.not (.s 0)) :: .q (.of 16) (.pick (.s 5) (.c (.bool true)) (.s 0)) :: []
def F17.r1_4 : List RO := .s (.pick (.s 5) (.c (.bool true)) (.s 0)) :: .s (.mv (.s 0)) :: .p .push (some ((.s 0), false)) (.mv (.t (.of 0))) :: .p .push (some ((.s 1), false)) (.mv (.t (.of 1))) :: .p .push (some ((.s 2), false)) (.len (.s 0)) :: .w .push (some ((.s 3), false)) (.call (.c (.fn 45 (.of 45) [])) [(.s 2), (.s 0), (.c (I 48))]) :: F17.r1_5
def F17.r1_3 : List RO := .p .push (some ((.s 2), false)) (.not (.s 0)) :: .s (.pick (.s 3) (.c (.bool true)) (.s 0)) :: .s (.mv (.s 0)) :: .p .push (some ((.s 0), false)) (.mv (.t (.of 1))) :: .p .push (some ((.s 1), false)) (.len (.s 0)) :: .p .push (some ((.s 2), false)) (.mv (.t (.of 2))) :: .p .push (some ((.s 3), false)) (.len (.s 0)) :: .p .push (some ((.s 4), false)) (.bin .neq .int (.s 2) (.s 0)) :: F17.r1_4
def F17.r1_2 : List RO := .p .push (some ((.s 2), false)) (.not (.s 0)) :: .s (.pick (.s 3) (.c (.bool true)) (.s 0)) :: .s (.mv (.s 0)) :: .p .push (some ((.s 0), false)) (.mv (.t (.of 2))) :: .w .push (some ((.s 1), false)) (.call (.c (.fn 80 (.of 80) [])) [(.s 0)]) :: F17.r1_3
def F17.r1_1 : List RO := .s (.not (.s 0)) :: .s (.mv (.s 0)) :: .p .push (some ((.s 0), false)) (.mv (.t (.of 1))) :: .w .push (some ((.s 1), false)) (.call (.c (.fn 80 (.of 80) [])) [(.s 0)]) :: F17.r1_2
def F17.r1_0 : List RO := .w .push none (.call (.c (.fn 18 (.of 18) [])) []) :: F17.r1_1
def F17.t1 : IR := .reg F17.r1_0
def F17.t2 : IR := .reg [.w .push none (.call (.c (.fn 18 (.of 18) [])) []), .q (.of 3) (.mv (.s 0))]
def F17.t3 : IR := .seq F17.t2 .ret
def F17.t4 : IR := .cond (.t (.of 16)) F17.t3 .skip
def F17.t5 : IR := .seq F17.t1 F17.t4
def F17.t6 : IR := .reg [.s (.mv (.t (.of 0))), .s (.mv (.t (.of 1))), .w .push none (.call (.c (.fn 47 (.of 47) [])) [(.s 1), (.s 0)]), .s (.mv (.s 0)), .s (.ext 0 (.s 0)), .s (.ext 1 (.s 1)), .q (.of 4) (.mv (.s 1)), .q (.of 5) (.mv (.s 0))]
def F17.t7 : IR := .reg [.s (.mv (.t (.of 0))), .s (.mv (.t (.of 2))), .w .push none (.call (.c (.fn 47 (.of 47) [])) [(.s 1), (.s 0)]), .s (.mv (.s 0)), .s (.ext 0 (.s 0)), .s (.ext 1 (.s 1)), .q (.of 6) (.mv (.s 1)), .q (.of 7) (.mv (.s 0))]
def F17.r5_1 : List RO := .p .push (some ((.s 3), false)) (.len (.s 0)) :: .p .push (some ((.s 4), false)) (.bin .neq .int (.s 2) (.s 0)) :: .q (.of 17) (.pick (.s 5) (.c (.bool true)) (.s 0)) :: []
def F17.r5_0 : List RO := .s (.mv (.t (.of 5))) :: .s (.mv (.t (.of 7))) :: .s (.bin .add .int (.s 1) (.s 0)) :: .s (.bin .neq .int (.s 0) (.c (I 0))) :: .s (.mv (.s 0)) :: .p .push (some ((.s 0), false)) (.mv (.t (.of 4))) :: .p .push (some ((.s 1), false)) (.len (.s 0)) :: .p .push (some ((.s 2), false)) (.mv (.t (.of 1))) :: F17.r5_1
def F17.t8 : IR := .reg F17.r5_0
def F17.t9 : IR := .reg [.q (.of 3) (.mv (.c (.bool false)))]
def F17.t10 : IR := .seq F17.t9 .ret
def F17.t11 : IR := .cond (.t (.of 17)) F17.t10 .skip
def F17.t12 : IR := .seq F17.t8 F17.t11
def F17.t13 : IR := .reg [.q (.of 8) (.mv (.c (.bool false)))]
def F17.t14 : IR := .reg [.s (.mv (.t (.of 0))), .q (.of 18) (.len (.s 0)), .q (.of 19) (.mv (.c (I 0)))]
def F17.t15 : IR := .reg [.q (.of 20) (.bin .lss .int (.t (.of 19)) (.t (.of 18)))]
def F17.t16 : IR := .cond (.t (.of 20)) .skip (.exit 0)
def F17.t17 : IR := .reg [.s (.mv (.t (.of 19))), .q (.of 9) (.mv (.s 0))]
def F17.t18 : IR := .reg [.s (.mv (.t (.of 0))), .s (.mv (.t (.of 9))), .s (.zn 2 (.s 1) (.s 0)), .s (.zi 2 (.s 0)), .s (.mv (.t (.of 1))), .w .push none (.call (.c (.fn 58 (.of 58) [])) [(.s 1), (.s 0)]), .q (.of 10) (.mv (.s 0))]
def F17.t19 : IR := .reg [.s (.mv (.t (.of 0))), .s (.mv (.t (.of 10))), .w .push none (.call (.c (.fn 47 (.of 47) [])) [(.s 1), (.s 0)]), .s (.mv (.s 0)), .s (.ext 0 (.s 0)), .s (.ext 1 (.s 1)), .q (.of 11) (.mv (.s 1)), .q (.of 12) (.mv (.s 0))]
def F17.t20 : IR := .reg [.s (.mv (.t (.of 0))), .s (.mv (.t (.of 10))), .s (.mv (.t (.of 4))), .w .push none (.call (.c (.fn 86 (.of 86) [])) [(.s 2), (.s 1), (.s 0)]), .s (.mv (.s 0)), .s (.ext 0 (.s 0)), .s (.ext 1 (.s 1)), .w (.loc (.of 13)) none (.alloc [.zf, (.bool false)]), .w .none none (.store 2 (.t (.of 13)) (.s 1)), .q (.of 14) (.mv (.s 0))]
def F17.r14_5 : List RO := .p .push (some ((.s 5), false)) (.not (.s 0)) :: .q (.of 21) (.pick (.s 6) (.c (.bool true)) (.s 0)) :: []
def F17.r14_4 : List RO := .p .push (some ((.s 3), false)) (.mv (.t (.of 4))) :: .w .push (some ((.s 4), false)) (.call (.c (.fn 82 (.of 82) [])) [(.s 1), (.s 0)]) :: F17.r14_5
def F17.r14_3 : List RO := .p .push (some ((.s 3), false)) (.bin .lss .int (.s 0) (.c (I 0))) :: .s (.pick (.s 4) (.c (.bool true)) (.s 0)) :: .s (.mv (.s 0)) :: .p .push (some ((.s 0), false)) (.zi 2 (.t (.of 13))) :: .p .push (some ((.s 1), false)) (.mv (.t (.of 10))) :: .w .push (some ((.s 2), false)) (.call (.c (.fn 58 (.of 58) [])) [(.s 1), (.s 0)]) :: F17.r14_4
def F17.r14_2 : List RO := .s (.pick (.s 3) (.c (.bool true)) (.s 0)) :: .s (.mv (.s 0)) :: .p .push (some ((.s 0), false)) (.mv (.t (.of 0))) :: .p .push (some ((.s 1), false)) (.zi 2 (.t (.of 13))) :: .w .push (some ((.s 2), false)) (.call (.c (.fn 84 (.of 84) [])) [(.s 1), (.s 0)]) :: F17.r14_3
def F17.r14_1 : List RO := .p .push (some ((.s 3), false)) (.not (.s 0)) :: .s (.pick (.s 4) (.c (.bool true)) (.s 0)) :: .s (.mv (.s 0)) :: .p .push (some ((.s 0), false)) (.mv (.t (.of 10))) :: .p .push (some ((.s 1), false)) (.mv (.t (.of 4))) :: .w .push (some ((.s 2), false)) (.call (.c (.fn 88 (.of 88) [])) [(.s 1), (.s 0)]) :: F17.r14_2
def F17.r14_0 : List RO := .s (.mv (.t (.of 12))) :: .s (.mv (.t (.of 14))) :: .s (.bin .add .int (.s 1) (.s 0)) :: .s (.bin .neq .int (.s 0) (.c (I 0))) :: .s (.mv (.s 0)) :: .p .push (some ((.s 0), false)) (.mv (.t (.of 11))) :: .p .push (some ((.s 1), false)) (.mv (.t (.of 4))) :: .w .push (some ((.s 2), false)) (.call (.c (.fn 82 (.of 82) [])) [(.s 1), (.s 0)]) :: F17.r14_1
def F17.t21 : IR := .reg F17.r14_0
def F17.t22 : IR := .reg [.q (.of 3) (.mv (.c (.bool false)))]
def F17.t23 : IR := .seq F17.t22 .ret
def F17.t24 : IR := .cond (.t (.of 21)) F17.t23 .skip
def F17.t25 : IR := .seq F17.t21 F17.t24
def F17.t26 : IR := .reg [.s (.mv (.t (.of 8))), .s (.mv (.s 0)), .p .push (some ((.s 0), false)) (.mv (.t (.of 10))), .p .push (some ((.s 1), false)) (.mv (.t (.of 4))), .w .push (some ((.s 2), false)) (.call (.c (.fn 82 (.of 82) [])) [(.s 1), (.s 0)]), .s (.pick (.s 3) (.c (.bool true)) (.s 0)), .q (.of 8) (.mv (.s 0))]
def F17.t27 : IR := .seq F17.t25 F17.t26
def F17.t28 : IR := .seq F17.t20 F17.t27
def F17.t29 : IR := .seq F17.t19 F17.t28
def F17.t30 : IR := .seq F17.t18 F17.t29
def F17.t31 : IR := .seq F17.t17 F17.t30
def F17.t32 : IR := .block 1 F17.t31
def F17.t33 : IR := .reg [.s (.bin .add .int (.t (.of 19)) (.c (I 1))), .q (.of 19) (.mv (.s 0))]
def F17.t34 : IR := .seq F17.t32 F17.t33
def F17.t35 : IR := .seq F17.t16 F17.t34
def F17.t36 : IR := .seq F17.t15 F17.t35
def F17.t37 : IR := .loop F17.t36
def F17.t38 : IR := .block 0 F17.t37
def F17.t39 : IR := .seq F17.t14 F17.t38
def F17.t40 : IR := .reg [.s (.mv (.t (.of 0))), .s (.mv (.t (.of 1))), .s (.mv (.t (.of 2))), .w .push none (.call (.c (.fn 86 (.of 86) [])) [(.s 2), (.s 1), (.s 0)]), .s (.mv (.s 0)), .s (.ext 0 (.s 0)), .s (.ext 1 (.s 1)), .w .push none (.alloc [.zf, (.bool false)]), .w .none none (.store 2 (.s 0) (.s 2)), .q (.of 15) (.mv (.s 1))]
def F17.r19_2 : List RO := .p .push (some ((.s 5), true)) (.pick (.s 2) (.c (.bool true)) (.s 0)) :: .s (.pick (.s 6) (.s 0) (.c (.bool false))) :: .q (.of 3) (.mv (.s 0)) :: []
def F17.r19_1 : List RO := .p .push (some ((.s 5), true)) (.bin .eql .bool (.s 3) (.s 0)) :: .s (.pick (.s 6) (.s 0) (.c (.bool false))) :: .s (.mv (.s 0)) :: .p .push (some ((.s 0), true)) (.mv (.t (.of 15))) :: .p .push (some ((.s 1), true)) (.bin .eql .int (.s 0) (.c (I 0))) :: .p .push (some ((.s 2), true)) (.mv (.s 0)) :: .p .push (some ((.s 0), false)) (.mv (.t (.of 15))) :: .p .push (some ((.s 1), false)) (.bin .eql .int (.s 0) (.c (I 7))) :: F17.r19_2
def F17.r19_0 : List RO := .s (.mv (.t (.of 8))) :: .s (.mv (.s 0)) :: .p .push (some ((.s 0), true)) (.mv (.t (.of 15))) :: .p .push (some ((.s 1), true)) (.bin .eql .int (.s 0) (.c (I 0))) :: .p .push (some ((.s 2), true)) (.mv (.t (.of 4))) :: .p .push (some ((.s 3), true)) (.mv (.t (.of 6))) :: .w .push (some ((.s 4), true)) (.call (.c (.fn 82 (.of 82) [])) [(.s 1), (.s 0)]) :: F17.r19_1
def F17.t41 : IR := .reg F17.r19_0
def F17.t42 : IR := .seq F17.t41 .ret
def F17.t43 : IR := .seq F17.t40 F17.t42
def F17.t44 : IR := .seq F17.t39 F17.t43
def F17.t45 : IR := .seq F17.t13 F17.t44
def F17.t46 : IR := .seq F17.t12 F17.t45
def F17.t47 : IR := .seq F17.t7 F17.t46
def F17.t48 : IR := .seq F17.t6 F17.t47
def F17.t49 : IR := .seq F17.t5 F17.t48
def F17.t50 : IR := .seq F17.t0 F17.t49
theorem F17.bM : IR.run F17.t0 C N O K (F17.fr b c f i e g s v u w a d q o p l y z A B D E) h nx =
 K (F17.fr b c f (.bool false) e g s v u w a d q o p l y z A B D E) h nx := by kernel_rfl
theorem F17.bP : IR.run F17.t1 C N O K tm h nx = yV F17.r1_0 C ⟨tm, []⟩ h nx (fun tm h nx => K tm.v h nx) := wJ ..
theorem F17.r1_0_g : yV (.w .push none (.call (.c (.fn 18 (.of 18) [])) []) :: r) C ⟨(F17.fr b c f i e g s v u w a d q o p l y z A B D E), []⟩ h nx Kt =
 C.fn 18 (.of 18) [] h nx fun v1 h2 n3 => yV r C ⟨(F17.fr b c f i e g s v u w a d q o p l y z A B D E), v1 :: []⟩ h2 n3 Kt := by kernel_rfl
theorem F17.r1_1_g : yV (.s (.not (.s 0)) :: .s (.mv (.s 0)) :: .p .push (some ((.s 0), false)) (.mv (.t (.of 1))) :: .w .push (some ((.s 1), false)) (.call (.c (.fn 80 (.of 80) [])) [(.s 0)]) :: r) C ⟨(F17.fr b c f i e g s v u w a d q o p l y z A B D E), s0 :: []⟩ h nx Kt =
 sNot s0 fun v1 => sG v1 false (fun k => k c) fun v2 => sGW v1 false (fun k => C.fn 80 (.of 80) [v2] h nx k) h nx fun v3 h4 n5 => yV r C ⟨(F17.fr b c f i e g s v u w a d q o p l y z A B D E), v3 :: v2 :: v1 :: v1 :: s0 :: []⟩ h4 n5 Kt := by kernel_rfl
theorem F17.r1_2_g : yV (.p .push (some ((.s 2), false)) (.not (.s 0)) :: .s (.pick (.s 3) (.c (.bool true)) (.s 0)) :: .s (.mv (.s 0)) :: .p .push (some ((.s 0), false)) (.mv (.t (.of 2))) :: .w .push (some ((.s 1), false)) (.call (.c (.fn 80 (.of 80) [])) [(.s 0)]) :: r) C ⟨(F17.fr b c f i e g s v u w a d q o p l y z A B D E), s0 :: s1 :: s2 :: s3 :: s4 :: []⟩ h nx Kt =
 sG s2 false (fun k => sNot s0 k) fun v1 => jQ s2 (.bool true) v1 fun v2 => sG v2 false (fun k => k f) fun v3 => sGW v2 false (fun k => C.fn 80 (.of 80) [v3] h nx k) h nx fun v4 h5 n6 => yV r C ⟨(F17.fr b c f i e g s v u w a d q o p l y z A B D E), v4 :: v3 :: v2 :: v2 :: v1 :: s0 :: s1 :: s2 :: s3 :: s4 :: []⟩ h5 n6 Kt := by kernel_rfl
theorem F17.r1_3_g : yV (.p .push (some ((.s 2), false)) (.not (.s 0)) :: .s (.pick (.s 3) (.c (.bool true)) (.s 0)) :: .s (.mv (.s 0)) :: .p .push (some ((.s 0), false)) (.mv (.t (.of 1))) :: .p .push (some ((.s 1), false)) (.len (.s 0)) :: .p .push (some ((.s 2), false)) (.mv (.t (.of 2))) :: .p .push (some ((.s 3), false)) (.len (.s 0)) :: .p .push (some ((.s 4), false)) (.bin .neq .int (.s 2) (.s 0)) :: r) C ⟨(F17.fr b c f i e g s v u w a d q o p l y z A B D E), s0 :: s1 :: s2 :: s3 :: s4 :: s5 :: s6 :: s7 :: s8 :: s9 :: []⟩ h nx Kt =
 sG s2 false (fun k => sNot s0 k) fun v1 => jQ s2 (.bool true) v1 fun v2 => sG v2 false (fun k => k c) fun v3 => sG v2 false (fun k => sLen v3 k) fun v4 => sG v2 false (fun k => k f) fun v5 => sG v2 false (fun k => sLen v5 k) fun v6 => sG v2 false (fun k => zu .neq .int v4 v6 k) fun v7 => yV r C ⟨(F17.fr b c f i e g s v u w a d q o p l y z A B D E), v7 :: v6 :: v5 :: v4 :: v3 :: v2 :: v2 :: v1 :: s0 :: s1 :: s2 :: s3 :: s4 :: s5 :: s6 :: s7 :: s8 :: s9 :: []⟩ h nx Kt := by kernel_rfl
theorem F17.r1_4_g : yV (.s (.pick (.s 5) (.c (.bool true)) (.s 0)) :: .s (.mv (.s 0)) :: .p .push (some ((.s 0), false)) (.mv (.t (.of 0))) :: .p .push (some ((.s 1), false)) (.mv (.t (.of 1))) :: .p .push (some ((.s 2), false)) (.len (.s 0)) :: .w .push (some ((.s 3), false)) (.call (.c (.fn 45 (.of 45) [])) [(.s 2), (.s 0), (.c (I 48))]) :: r) C ⟨(F17.fr b c f i e g s v u w a d q o p l y z A B D E), s0 :: s1 :: s2 :: s3 :: s4 :: s5 :: s6 :: s7 :: s8 :: s9 :: s10 :: s11 :: s12 :: s13 :: s14 :: s15 :: s16 :: s17 :: []⟩ h nx Kt =
 jQ s5 (.bool true) s0 fun v1 => sG v1 false (fun k => k b) fun v2 => sG v1 false (fun k => k c) fun v3 => sG v1 false (fun k => sLen v3 k) fun v4 => sGW v1 false (fun k => C.fn 45 (.of 45) [v2, v4, (I 48)] h nx k) h nx fun v5 h6 n7 => yV r C ⟨(F17.fr b c f i e g s v u w a d q o p l y z A B D E), v5 :: v4 :: v3 :: v2 :: v1 :: v1 :: s0 :: s1 :: s2 :: s3 :: s4 :: s5 :: s6 :: s7 :: s8 :: s9 :: s10 :: s11 :: s12 :: s13 :: s14 :: s15 :: s16 :: s17 :: []⟩ h6 n7 Kt := by kernel_rfl
theorem F17.r1_5_g : yV (.p .push (some ((.s 4), false)) (.not (.s 0)) :: .q (.of 16) (.pick (.s 5) (.c (.bool true)) (.s 0)) :: []) C ⟨(F17.fr b c f i e g s v u w a d q o p l y z A B D E), s0 :: s1 :: s2 :: s3 :: s4 :: s5 :: s6 :: s7 :: s8 :: s9 :: s10 :: s11 :: s12 :: s13 :: s14 :: s15 :: s16 :: s17 :: s18 :: s19 :: s20 :: s21 :: s22 :: s23 :: []⟩ h nx Kt =
 sG s4 false (fun k => sNot s0 k) fun v1 => jQ s4 (.bool true) v1 fun v2 => Kt ⟨(F17.fr b c f i e g s v u w a d q o p l v2 z A B D E), v1 :: s0 :: s1 :: s2 :: s3 :: s4 :: s5 :: s6 :: s7 :: s8 :: s9 :: s10 :: s11 :: s12 :: s13 :: s14 :: s15 :: s16 :: s17 :: s18 :: s19 :: s20 :: s21 :: s22 :: s23 :: []⟩ h nx := by kernel_rfl
theorem F17.bU : IR.run F17.t2 C N O K (F17.fr b c f i e g s v u w a d q o p l y z A B D E) h nx =
 C.fn 18 (.of 18) [] h nx fun v1 h2 n3 => K (F17.fr b c f v1 e g s v u w a d q o p l y z A B D E) h2 n3 := by kernel_rfl
theorem F17.v16 : Arg.ev (.t (.of 16)) ⟨(F17.fr b c f i e g s v u w a d q o p l y z A B D E), []⟩ = y := by kernel_rfl
theorem F17.t6_s : IR.run F17.t6 C N O K (F17.fr b c f i e g s v u w a d q o p l y z A B D E) h nx =
 C.fn 47 (.of 47) [b, c] h nx fun v1 h2 n3 => wo 0 v1 fun v4 => wo 1 v1 fun v5 => K (F17.fr b c f i v4 v5 s v u w a d q o p l y z A B D E) h2 n3 := by kernel_rfl
theorem F17.t7_s : IR.run F17.t7 C N O K (F17.fr b c f i e g s v u w a d q o p l y z A B D E) h nx =
 C.fn 47 (.of 47) [b, f] h nx fun v1 h2 n3 => wo 0 v1 fun v4 => wo 1 v1 fun v5 => K (F17.fr b c f i e g v4 v5 u w a d q o p l y z A B D E) h2 n3 := by kernel_rfl
theorem F17.t8_s : IR.run F17.t8 C N O K tm h nx = yV F17.r5_0 C ⟨tm, []⟩ h nx (fun tm h nx => K tm.v h nx) := wJ ..
theorem F17.r5_0_g : yV (.s (.mv (.t (.of 5))) :: .s (.mv (.t (.of 7))) :: .s (.bin .add .int (.s 1) (.s 0)) :: .s (.bin .neq .int (.s 0) (.c (I 0))) :: .s (.mv (.s 0)) :: .p .push (some ((.s 0), false)) (.mv (.t (.of 4))) :: .p .push (some ((.s 1), false)) (.len (.s 0)) :: .p .push (some ((.s 2), false)) (.mv (.t (.of 1))) :: r) C ⟨(F17.fr b c f i e g s v u w a d q o p l y z A B D E), []⟩ h nx Kt =
 zu .add .int g v fun v1 => zu .neq .int v1 (I 0) fun v2 => sG v2 false (fun k => k e) fun v3 => sG v2 false (fun k => sLen v3 k) fun v4 => sG v2 false (fun k => k c) fun v5 => yV r C ⟨(F17.fr b c f i e g s v u w a d q o p l y z A B D E), v5 :: v4 :: v3 :: v2 :: v2 :: v1 :: v :: g :: []⟩ h nx Kt := by kernel_rfl
theorem F17.r5_1_g : yV (.p .push (some ((.s 3), false)) (.len (.s 0)) :: .p .push (some ((.s 4), false)) (.bin .neq .int (.s 2) (.s 0)) :: .q (.of 17) (.pick (.s 5) (.c (.bool true)) (.s 0)) :: []) C ⟨(F17.fr b c f i e g s v u w a d q o p l y z A B D E), s0 :: s1 :: s2 :: s3 :: s4 :: s5 :: s6 :: s7 :: []⟩ h nx Kt =
 sG s3 false (fun k => sLen s0 k) fun v1 => sG s3 false (fun k => zu .neq .int s1 v1 k) fun v2 => jQ s3 (.bool true) v2 fun v3 => Kt ⟨(F17.fr b c f i e g s v u w a d q o p l y v3 A B D E), v2 :: v1 :: s0 :: s1 :: s2 :: s3 :: s4 :: s5 :: s6 :: s7 :: []⟩ h nx := by kernel_rfl
theorem F17.v17 : Arg.ev (.t (.of 17)) ⟨(F17.fr b c f i e g s v u w a d q o p l y z A B D E), []⟩ = z := by kernel_rfl
theorem F17.t13_s : IR.run F17.t13 C N O K (F17.fr b c f i e g s v u w a d q o p l y z A B D E) h nx =
 K (F17.fr b c f i e g s v (.bool false) w a d q o p l y z A B D E) h nx := by kernel_rfl
theorem F17.t14_s : IR.run F17.t14 C N O K (F17.fr b c f i e g s v u w a d q o p l y z A B D E) h nx =
 sLen b fun v1 => K (F17.fr b c f i e g s v u w a d q o p l y z v1 (I 0) D E) h nx := by kernel_rfl
theorem F17.t15_s : IR.run F17.t15 C N O K (F17.fr b c f i e g s v u w a d q o p l y z A B D E) h nx =
 zu .lss .int B A fun v1 => K (F17.fr b c f i e g s v u w a d q o p l y z A B v1 E) h nx := by kernel_rfl
theorem F17.v20 : Arg.ev (.t (.of 20)) ⟨(F17.fr b c f i e g s v u w a d q o p l y z A B D E), []⟩ = D := by kernel_rfl
theorem F17.t17_s : IR.run F17.t17 C N O K (F17.fr b c f i e g s v u w a d q o p l y z A B D E) h nx =
 K (F17.fr b c f i e g s v u B a d q o p l y z A B D E) h nx := by kernel_rfl
theorem F17.t18_s : IR.run F17.t18 C N O K (F17.fr b c f i e g s v u w a d q o p l y z A B D E) h nx =
 zO 2 b w fun v1 => zM 2 v1 h fun v2 => C.fn 58 (.of 58) [v2, c] h nx fun v3 h4 n5 => K (F17.fr b c f i e g s v u w v3 d q o p l y z A B D E) h4 n5 := by kernel_rfl
theorem F17.t19_s : IR.run F17.t19 C N O K (F17.fr b c f i e g s v u w a d q o p l y z A B D E) h nx =
 C.fn 47 (.of 47) [b, a] h nx fun v1 h2 n3 => wo 0 v1 fun v4 => wo 1 v1 fun v5 => K (F17.fr b c f i e g s v u w a v4 v5 o p l y z A B D E) h2 n3 := by kernel_rfl
theorem F17.t20_s : IR.run F17.t20 C N O K (F17.fr b c f i e g s v u w a d q o p l y z A B D E) h nx =
 C.fn 86 (.of 86) [b, a, e] h nx fun v1 h2 n3 => wo 0 v1 fun v4 => wo 1 v1 fun v5 => yH [.zf, (.bool false)] h2 n3 fun v6 h7 n8 => zK 2 v6 v4 h7 n8 fun v9 hV nV => K (F17.fr b c f i e g s v u w a d q v6 v5 l y z A B D E) hV nV := by kernel_rfl
theorem F17.t21_s : IR.run F17.t21 C N O K tm h nx = yV F17.r14_0 C ⟨tm, []⟩ h nx (fun tm h nx => K tm.v h nx) := wJ ..
theorem F17.r14_0_g : yV (.s (.mv (.t (.of 12))) :: .s (.mv (.t (.of 14))) :: .s (.bin .add .int (.s 1) (.s 0)) :: .s (.bin .neq .int (.s 0) (.c (I 0))) :: .s (.mv (.s 0)) :: .p .push (some ((.s 0), false)) (.mv (.t (.of 11))) :: .p .push (some ((.s 1), false)) (.mv (.t (.of 4))) :: .w .push (some ((.s 2), false)) (.call (.c (.fn 82 (.of 82) [])) [(.s 1), (.s 0)]) :: r) C ⟨(F17.fr b c f i e g s v u w a d q o p l y z A B D E), []⟩ h nx Kt =
 zu .add .int q p fun v1 => zu .neq .int v1 (I 0) fun v2 => sG v2 false (fun k => k d) fun v3 => sG v2 false (fun k => k e) fun v4 => sGW v2 false (fun k => C.fn 82 (.of 82) [v3, v4] h nx k) h nx fun v5 h6 n7 => yV r C ⟨(F17.fr b c f i e g s v u w a d q o p l y z A B D E), v5 :: v4 :: v3 :: v2 :: v2 :: v1 :: p :: q :: []⟩ h6 n7 Kt := by kernel_rfl
theorem F17.r14_1_g : yV (.p .push (some ((.s 3), false)) (.not (.s 0)) :: .s (.pick (.s 4) (.c (.bool true)) (.s 0)) :: .s (.mv (.s 0)) :: .p .push (some ((.s 0), false)) (.mv (.t (.of 10))) :: .p .push (some ((.s 1), false)) (.mv (.t (.of 4))) :: .w .push (some ((.s 2), false)) (.call (.c (.fn 88 (.of 88) [])) [(.s 1), (.s 0)]) :: r) C ⟨(F17.fr b c f i e g s v u w a d q o p l y z A B D E), s0 :: s1 :: s2 :: s3 :: s4 :: s5 :: s6 :: s7 :: []⟩ h nx Kt =
 sG s3 false (fun k => sNot s0 k) fun v1 => jQ s3 (.bool true) v1 fun v2 => sG v2 false (fun k => k a) fun v3 => sG v2 false (fun k => k e) fun v4 => sGW v2 false (fun k => C.fn 88 (.of 88) [v3, v4] h nx k) h nx fun v5 h6 n7 => yV r C ⟨(F17.fr b c f i e g s v u w a d q o p l y z A B D E), v5 :: v4 :: v3 :: v2 :: v2 :: v1 :: s0 :: s1 :: s2 :: s3 :: s4 :: s5 :: s6 :: s7 :: []⟩ h6 n7 Kt := by kernel_rfl
theorem F17.r14_2_g : yV (.s (.pick (.s 3) (.c (.bool true)) (.s 0)) :: .s (.mv (.s 0)) :: .p .push (some ((.s 0), false)) (.mv (.t (.of 0))) :: .p .push (some ((.s 1), false)) (.zi 2 (.t (.of 13))) :: .w .push (some ((.s 2), false)) (.call (.c (.fn 84 (.of 84) [])) [(.s 1), (.s 0)]) :: r) C ⟨(F17.fr b c f i e g s v u w a d q o p l y z A B D E), s0 :: s1 :: s2 :: s3 :: s4 :: s5 :: s6 :: s7 :: s8 :: s9 :: s10 :: s11 :: s12 :: s13 :: []⟩ h nx Kt =
 jQ s3 (.bool true) s0 fun v1 => sG v1 false (fun k => k b) fun v2 => sG v1 false (fun k => zM 2 o h k) fun v3 => sGW v1 false (fun k => C.fn 84 (.of 84) [v2, v3] h nx k) h nx fun v4 h5 n6 => yV r C ⟨(F17.fr b c f i e g s v u w a d q o p l y z A B D E), v4 :: v3 :: v2 :: v1 :: v1 :: s0 :: s1 :: s2 :: s3 :: s4 :: s5 :: s6 :: s7 :: s8 :: s9 :: s10 :: s11 :: s12 :: s13 :: []⟩ h5 n6 Kt := by kernel_rfl
theorem F17.r14_3_g : yV (.p .push (some ((.s 3), false)) (.bin .lss .int (.s 0) (.c (I 0))) :: .s (.pick (.s 4) (.c (.bool true)) (.s 0)) :: .s (.mv (.s 0)) :: .p .push (some ((.s 0), false)) (.zi 2 (.t (.of 13))) :: .p .push (some ((.s 1), false)) (.mv (.t (.of 10))) :: .w .push (some ((.s 2), false)) (.call (.c (.fn 58 (.of 58) [])) [(.s 1), (.s 0)]) :: r) C ⟨(F17.fr b c f i e g s v u w a d q o p l y z A B D E), s0 :: s1 :: s2 :: s3 :: s4 :: s5 :: s6 :: s7 :: s8 :: s9 :: s10 :: s11 :: s12 :: s13 :: s14 :: s15 :: s16 :: s17 :: s18 :: []⟩ h nx Kt =
 sG s3 false (fun k => zu .lss .int s0 (I 0) k) fun v1 => jQ s3 (.bool true) v1 fun v2 => sG v2 false (fun k => zM 2 o h k) fun v3 => sG v2 false (fun k => k a) fun v4 => sGW v2 false (fun k => C.fn 58 (.of 58) [v3, v4] h nx k) h nx fun v5 h6 n7 => yV r C ⟨(F17.fr b c f i e g s v u w a d q o p l y z A B D E), v5 :: v4 :: v3 :: v2 :: v2 :: v1 :: s0 :: s1 :: s2 :: s3 :: s4 :: s5 :: s6 :: s7 :: s8 :: s9 :: s10 :: s11 :: s12 :: s13 :: s14 :: s15 :: s16 :: s17 :: s18 :: []⟩ h6 n7 Kt := by kernel_rfl
theorem F17.r14_4_g : yV (.p .push (some ((.s 3), false)) (.mv (.t (.of 4))) :: .w .push (some ((.s 4), false)) (.call (.c (.fn 82 (.of 82) [])) [(.s 1), (.s 0)]) :: r) C ⟨(F17.fr b c f i e g s v u w a d q o p l y z A B D E), s0 :: s1 :: s2 :: s3 :: s4 :: s5 :: s6 :: s7 :: s8 :: s9 :: s10 :: s11 :: s12 :: s13 :: s14 :: s15 :: s16 :: s17 :: s18 :: s19 :: s20 :: s21 :: s22 :: s23 :: s24 :: []⟩ h nx Kt =
 sG s3 false (fun k => k e) fun v1 => sGW s3 false (fun k => C.fn 82 (.of 82) [s0, v1] h nx k) h nx fun v2 h3 n4 => yV r C ⟨(F17.fr b c f i e g s v u w a d q o p l y z A B D E), v2 :: v1 :: s0 :: s1 :: s2 :: s3 :: s4 :: s5 :: s6 :: s7 :: s8 :: s9 :: s10 :: s11 :: s12 :: s13 :: s14 :: s15 :: s16 :: s17 :: s18 :: s19 :: s20 :: s21 :: s22 :: s23 :: s24 :: []⟩ h3 n4 Kt := by kernel_rfl
theorem F17.r14_5_g : yV (.p .push (some ((.s 5), false)) (.not (.s 0)) :: .q (.of 21) (.pick (.s 6) (.c (.bool true)) (.s 0)) :: []) C ⟨(F17.fr b c f i e g s v u w a d q o p l y z A B D E), s0 :: s1 :: s2 :: s3 :: s4 :: s5 :: s6 :: s7 :: s8 :: s9 :: s10 :: s11 :: s12 :: s13 :: s14 :: s15 :: s16 :: s17 :: s18 :: s19 :: s20 :: s21 :: s22 :: s23 :: s24 :: s25 :: s26 :: []⟩ h nx Kt =
 sG s5 false (fun k => sNot s0 k) fun v1 => jQ s5 (.bool true) v1 fun v2 => Kt ⟨(F17.fr b c f i e g s v u w a d q o p l y z A B D v2), v1 :: s0 :: s1 :: s2 :: s3 :: s4 :: s5 :: s6 :: s7 :: s8 :: s9 :: s10 :: s11 :: s12 :: s13 :: s14 :: s15 :: s16 :: s17 :: s18 :: s19 :: s20 :: s21 :: s22 :: s23 :: s24 :: s25 :: s26 :: []⟩ h nx := by kernel_rfl
theorem F17.v21 : Arg.ev (.t (.of 21)) ⟨(F17.fr b c f i e g s v u w a d q o p l y z A B D E), []⟩ = E := by kernel_rfl
theorem F17.t26_s : IR.run F17.t26 C N O K (F17.fr b c f i e g s v u w a d q o p l y z A B D E) h nx =
 sG u false (fun k => k a) fun v1 => sG u false (fun k => k e) fun v2 => sGW u false (fun k => C.fn 82 (.of 82) [v1, v2] h nx k) h nx fun v3 h4 n5 => jQ u (.bool true) v3 fun v6 => K (F17.fr b c f i e g s v v6 w a d q o p l y z A B D E) h4 n5 := by kernel_rfl
theorem F17.t33_s : IR.run F17.t33 C N O K (F17.fr b c f i e g s v u w a d q o p l y z A B D E) h nx =
 zu .add .int B (I 1) fun v1 => K (F17.fr b c f i e g s v u w a d q o p l y z A v1 D E) h nx := by kernel_rfl
theorem F17.t37_L (Inv : Nat -> AV -> AV -> T Blk -> Pa -> Prop) {m : Nat} (hm : m < N) (hi : Inv m u B h nx)
  (step : ∀ (m : Nat) (z3 z8 z9 zI zA zB zC zD zP zQ zR : AV) (h : T Blk) (nx : Pa) (R : Ks Prop), Inv m z8 zP h nx -> (∀ (m' : Nat) (w3 w8 w9 wK wA wB wD wF wM wN wO : AV) (h' : T Blk) (nx' : Pa), m' < m -> Inv m' w8 wM h' nx' -> R (F17.fr b c f w3 e g s v w8 w9 wK wA wB wD wF l y z A wM wN wO) h' nx' = .ok True) -> IR.run F17.t36 C N O R (F17.fr b c f z3 e g s v z8 z9 zI zA zB zC zD l y z A zP zQ zR) h nx = .ok True) :
  IR.run F17.t37 C N O K (F17.fr b c f i e g s v u w a d q o p l y z A B D E) h nx = .ok True := by
 rw [F17.t37];refine yM (fun m tm h nx => ∃ z3 z8 z9 zI zA zB zC zD zP zQ zR, tm = (F17.fr b c f z3 e g s v z8 z9 zI zA zB zC zD l y z A zP zQ zR) /\ Inv m z8 zP h nx) ?_ hm ⟨_, _, _, _, _, _, _, _, _, _, _, rfl, hi⟩;rintro m tm h nx R ⟨z3, z8, z9, zI, zA, zB, zC, zD, zP, zQ, zR, rfl, hi⟩ hR;exact step m z3 z8 z9 zI zA zB zC zD zP zQ zR h nx R hi fun m' w3 w8 w9 wK wA wB wD wF wM wN wO h' nx' hlt hi' => hR m' _ h' nx' hlt ⟨_, _, _, _, _, _, _, _, _, _, _, rfl, hi'⟩
theorem F17.t40_s : IR.run F17.t40 C N O K (F17.fr b c f i e g s v u w a d q o p l y z A B D E) h nx =
 C.fn 86 (.of 86) [b, c, f] h nx fun v1 h2 n3 => wo 0 v1 fun v4 => wo 1 v1 fun v5 => yH [.zf, (.bool false)] h2 n3 fun v6 h7 n8 => zK 2 v6 v4 h7 n8 fun v9 hV nV => K (F17.fr b c f i e g s v u w a d q o p v5 y z A B D E) hV nV := by kernel_rfl
theorem F17.t41_s : IR.run F17.t41 C N O K tm h nx = yV F17.r19_0 C ⟨tm, []⟩ h nx (fun tm h nx => K tm.v h nx) := wJ ..
theorem F17.r19_0_g : yV (.s (.mv (.t (.of 8))) :: .s (.mv (.s 0)) :: .p .push (some ((.s 0), true)) (.mv (.t (.of 15))) :: .p .push (some ((.s 1), true)) (.bin .eql .int (.s 0) (.c (I 0))) :: .p .push (some ((.s 2), true)) (.mv (.t (.of 4))) :: .p .push (some ((.s 3), true)) (.mv (.t (.of 6))) :: .w .push (some ((.s 4), true)) (.call (.c (.fn 82 (.of 82) [])) [(.s 1), (.s 0)]) :: r) C ⟨(F17.fr b c f i e g s v u w a d q o p l y z A B D E), []⟩ h nx Kt =
 sG u true (fun k => k l) fun v1 => sG u true (fun k => zu .eql .int v1 (I 0) k) fun v2 => sG u true (fun k => k e) fun v3 => sG u true (fun k => k s) fun v4 => sGW u true (fun k => C.fn 82 (.of 82) [v3, v4] h nx k) h nx fun v5 h6 n7 => yV r C ⟨(F17.fr b c f i e g s v u w a d q o p l y z A B D E), v5 :: v4 :: v3 :: v2 :: v1 :: u :: u :: []⟩ h6 n7 Kt := by kernel_rfl
theorem F17.r19_1_g : yV (.p .push (some ((.s 5), true)) (.bin .eql .bool (.s 3) (.s 0)) :: .s (.pick (.s 6) (.s 0) (.c (.bool false))) :: .s (.mv (.s 0)) :: .p .push (some ((.s 0), true)) (.mv (.t (.of 15))) :: .p .push (some ((.s 1), true)) (.bin .eql .int (.s 0) (.c (I 0))) :: .p .push (some ((.s 2), true)) (.mv (.s 0)) :: .p .push (some ((.s 0), false)) (.mv (.t (.of 15))) :: .p .push (some ((.s 1), false)) (.bin .eql .int (.s 0) (.c (I 7))) :: r) C ⟨(F17.fr b c f i e g s v u w a d q o p l y z A B D E), s0 :: s1 :: s2 :: s3 :: s4 :: s5 :: s6 :: []⟩ h nx Kt =
 sG s5 true (fun k => zu .eql .bool s3 s0 k) fun v1 => jQ s5 v1 (.bool false) fun v2 => sG v2 true (fun k => k l) fun v3 => sG v2 true (fun k => zu .eql .int v3 (I 0) k) fun v4 => sG v2 true (fun k => k v4) fun v5 => sG v5 false (fun k => k l) fun v6 => sG v5 false (fun k => zu .eql .int v6 (I 7) k) fun v7 => yV r C ⟨(F17.fr b c f i e g s v u w a d q o p l y z A B D E), v7 :: v6 :: v5 :: v4 :: v3 :: v2 :: v2 :: v1 :: s0 :: s1 :: s2 :: s3 :: s4 :: s5 :: s6 :: []⟩ h nx Kt := by kernel_rfl
theorem F17.r19_2_g : yV (.p .push (some ((.s 5), true)) (.pick (.s 2) (.c (.bool true)) (.s 0)) :: .s (.pick (.s 6) (.s 0) (.c (.bool false))) :: .q (.of 3) (.mv (.s 0)) :: []) C ⟨(F17.fr b c f i e g s v u w a d q o p l y z A B D E), s0 :: s1 :: s2 :: s3 :: s4 :: s5 :: s6 :: s7 :: s8 :: s9 :: s10 :: s11 :: s12 :: s13 :: s14 :: []⟩ h nx Kt =
 sG s5 true (fun k => jQ s2 (.bool true) s0 k) fun v1 => jQ s5 v1 (.bool false) fun v2 => Kt ⟨(F17.fr b c f v2 e g s v u w a d q o p l y z A B D E), v2 :: v1 :: s0 :: s1 :: s2 :: s3 :: s4 :: s5 :: s6 :: s7 :: s8 :: s9 :: s10 :: s11 :: s12 :: s13 :: s14 :: []⟩ h nx := by kernel_rfl
theorem F17.tab : T.get none (.of 17) tbl = some F17 := by kernel_rfl
theorem F17.bind (k : T AV -> OP) : yG F17.params [a0, a1, a2] F17.init k = k (F17.fr a0 a1 a2 .undef .undef .undef .undef .undef .undef .undef .undef .undef .undef .undef .undef .undef .undef .undef .undef .undef .undef .undef) := by kernel_rfl
theorem F17.jf : F17.body = F17.t50 := by kernel_rfl
theorem F17.go : zV tbl N C (.of 17) [a0, a1, a2] h nx K0 = IR.run F17.t50 C N (fnO F17.res K0) (ku F17.res K0) (F17.fr a0 a1 a2 .undef .undef .undef .undef .undef .undef .undef .undef .undef .undef .undef .undef .undef .undef .undef .undef .undef .undef .undef) h nx := by
 rw [zJ F17.tab, F17.bind, F17.jf]; kernel_rfl
theorem F17.ret : ku F17.res K0 (F17.fr b c f i e g s v u w a d q o p l y z A B D E) h nx = K0 i h nx := by kernel_rfl
end
end Go.Ev
