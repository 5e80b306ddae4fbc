import Derived.Test.YtkjkjpmahgeneaaGreatDoorIrT
import Derived.KernelRfl
import Derived.Test.YtkjkjpmahgeneaaGreatDoorEvD
set_option linter.unusedSimpArgs false
set_option linter.unusedVariables false
noncomputable section
namespace Go.Ev
open Go Go.Proofs
set_option maxRecDepth 100000
variable {N : Nat} {C : Calls Prop} {K0 : Kw Prop} {K R : Ks Prop} {h : T Blk} {nx : Pa} {c d o p i l q a0 a1 a2 y w z a b f e g s u v B A D E F G H : AV}
theorem F93.g2_eq (X3 : IR) (O : um Prop) (t : T AV) : IR.run (F93.g2 X3) C N O K t h nx = IR.run X3 C N (O.blk 0 K) K t h nx := by kernel_rfl
theorem F93.tab : T.get none (.of 93) tbl = some F93 := by kernel_rfl
theorem F93.go : zW tbl N C (.of 93) [a0] h nx K0 =
 sLen a0 fun v1 => yc .gtr .int v1 (I 256) fun v2 => yA v2 (K0 (I 5) h nx) (sLen a0 fun v3 => j4 1 1 [(.bool false)] v3 v3 h nx fun v4 h5 n6 => IR.run F93.b2 C N (fnO F93.res K0) (IR.run F93.b10 C N (fnO F93.res K0) (qj F93.res K0)) (F93.fr a0 (I 0) v4 (I 0) v2 .undef .undef) h5 n6) := by
 rw [zL F93.tab]; kernel_rfl
theorem F93.L2 (Inv : Nat -> AV -> T Blk -> Pa -> Prop) {m : Nat} (hm : m < N) (hi : Inv m p h nx)
  (step : ∀ (m : Nat) (z1 z3 z5 z6 : AV) (h : T Blk) (nx : Pa) (R : Ks Prop), Inv m z3 h nx -> (∀ (m' : Nat) (w1 w3 w5 w6 : AV) (h' : T Blk) (nx' : Pa), m' < m -> Inv m' w3 h' nx' -> R (F93.fr c w1 o w3 i w5 w6) h' nx' = .ok True) ->
   (sLen c fun v1 => yc .lss .int z3 v1 fun v2 => yA v2 (zO 1 c z3 fun v3 => zF v3 h fun v4 => yc .lss .int v4 (I 0) fun v5 => sG v5 false (fun k => k c) fun v6 => sG v5 false (fun k => k z3) fun v7 => sG v5 false (fun k => zO 1 v6 v7 k) fun v8 => sG v5 false (fun k => zF v8 h k) fun v9 => sG v5 false (fun k => k c) fun vA => sG v5 false (fun k => sLen vA k) fun vB => sG v5 false (fun k => yc .geq .int v9 vB k) fun vD => uR v5 (.bool true) vD fun vE => sG vE false (fun k => k o) fun vF => sG vE false (fun k => k c) fun vG => sG vE false (fun k => k z3) fun vH => sG vE false (fun k => zO 1 vG vH k) fun vI => sG vE false (fun k => zF vI h k) fun vJ => sG vE false (fun k => zO 1 vF vJ k) fun vK => sG vE false (fun k => zF vK h k) fun vL => uR vE (.bool true) vL fun vM => yA vM (K0 (I 14) h nx) ((IR.run F93.b8 C N (((fnO F93.res K0).blk 0 K).blk 1 (IR.run F93.b9 C N ((fnO F93.res K0).blk 0 K) R)) (IR.run F93.b9 C N ((fnO F93.res K0).blk 0 K) R)) (F93.fr c z1 o z3 i v2 vM) h nx)) (K (F93.fr c z1 o z3 i v2 z6) h nx)) = .ok True) :
  IR.run F93.b2 C N (fnO F93.res K0) K (F93.fr c d o p i l q) h nx = .ok True := by
 rw [F93.b2, F93.g2_eq, F93.b3];refine yI (fun m tm h nx => ∃ z1 z3 z5 z6, tm = (F93.fr c z1 o z3 i z5 z6) /\ Inv m z3 h nx) ?_ hm ⟨_, _, _, _, rfl, hi⟩;rintro m tm h nx R ⟨z1, z3, z5, z6, rfl, hi⟩ hR;refine Eq.trans ?_ (step m z1 z3 z5 z6 h nx R hi fun m' w1 w3 w5 w6 h' nx' hlt hi' => hR m' _ h' nx' hlt ⟨_, _, _, _, rfl, hi'⟩)
 kernel_rfl
theorem F93.k10 : IR.run F93.b10 C N (fnO F93.res K0) K (F93.fr c d o p i l q) h nx =
 K0 (I 0) h nx := by kernel_rfl
theorem F93.k9 {E0 : Ks Prop} : IR.run F93.b9 C N ((fnO F93.res K0).blk 0 E0) K (F93.fr c d o p i l q) h nx =
 yc .add .int p (I 1) fun v1 => K (F93.fr c d o v1 i l q) h nx := by kernel_rfl
theorem F93.k8 {E0 E1 : Ks Prop} : IR.run F93.b8 C N (((fnO F93.res K0).blk 0 E0).blk 1 E1) K (F93.fr c d o p i l q) h nx =
 zO 1 c p fun v1 => zF v1 h fun v2 => zO 1 o v2 fun v3 => zM 1 v3 (.bool true) h nx fun v4 h5 n6 => K (F93.fr c d o p i l q) h5 n6 := by kernel_rfl
theorem F26.tab : T.get none (.of 26) tbl = some F26 := by kernel_rfl
theorem F26.go : zW tbl N C (.of 26) [a0, a1] h nx K0 =
 sBox a0 h nx fun v1 h2 n3 => C.fn 25 (.of 25) [a1] h2 n3 fun v4 h5 n6 => yc .neq .int v4 (I 0) fun v7 => yA v7 (K0 (I 3) h5 n6) (zP 0 v1 fun v8 => zF v8 h5 fun v9 => sLen v9 fun vA => yc .neq .int vA a1 fun vB => yA vB (K0 (I 2) h5 n6) (zP 0 v1 fun vD => zF vD h5 fun vE => C.fn 93 (.of 93) [vE] h5 n6 fun vF hA nA => K0 vF hA nA)) := by
 rw [zL F26.tab]; kernel_rfl
theorem F25.tab : T.get none (.of 25) tbl = some F25 := by kernel_rfl
theorem F25.go : zW tbl N C (.of 25) [a0] h nx K0 =
 yc .lss .int a0 (I 0) fun v1 => sG v1 false (fun k => k a0) fun v2 => sG v1 false (fun k => yc .gtr .int v2 (I 256) k) fun v3 => uR v1 (.bool true) v3 fun v4 => yA v4 (K0 (I 3) h nx) (K0 (I 0) h nx) := by
 rw [zL F25.tab]; kernel_rfl
theorem F82.g2_eq (X3 : IR) (O : um Prop) (t : T AV) : IR.run (F82.g2 X3) C N O K t h nx = IR.run X3 C N (O.blk 0 K) K t h nx := by kernel_rfl
theorem F82.tab : T.get none (.of 82) tbl = some F82 := by kernel_rfl
theorem F82.go : zW tbl N C (.of 82) [a0, a1] h nx K0 =
 sLen a0 fun v1 => sLen a1 fun v2 => yc .neq .int v1 v2 fun v3 => yA v3 (K0 (.bool false) h nx) (IR.run F82.b2 C N (fnO F82.res K0) (IR.run F82.b9 C N (fnO F82.res K0) (qj F82.res K0)) (F82.fr a0 a1 (.bool false) (I 0) v3 .undef .undef) h nx) := by
 rw [zL F82.tab]; kernel_rfl
theorem F82.L2 (Inv : Nat -> AV -> T Blk -> Pa -> Prop) {m : Nat} (hm : m < N) (hi : Inv m p h nx)
  (step : ∀ (m : Nat) (z2 z3 z5 z6 : AV) (h : T Blk) (nx : Pa) (R : Ks Prop), Inv m z3 h nx -> (∀ (m' : Nat) (w2 w3 w5 w6 : AV) (h' : T Blk) (nx' : Pa), m' < m -> Inv m' w3 h' nx' -> R (F82.fr c d w2 w3 i w5 w6) h' nx' = .ok True) ->
   (sLen c fun v1 => yc .lss .int z3 v1 fun v2 => yA v2 (zO 1 c z3 fun v3 => zF v3 h fun v4 => zO 1 d z3 fun v5 => zF v5 h fun v6 => yc .neq .int v4 v6 fun v7 => yA v7 (K0 (.bool false) h nx) (yc .add .int z3 (I 1) fun v8 => R (F82.fr c d z2 v8 i v2 v7) h nx)) (K (F82.fr c d z2 z3 i v2 z6) h nx)) = .ok True) :
  IR.run F82.b2 C N (fnO F82.res K0) K (F82.fr c d o p i l q) h nx = .ok True := by
 rw [F82.b2, F82.g2_eq, F82.b3];refine yI (fun m tm h nx => ∃ z2 z3 z5 z6, tm = (F82.fr c d z2 z3 i z5 z6) /\ Inv m z3 h nx) ?_ hm ⟨_, _, _, _, rfl, hi⟩;rintro m tm h nx R ⟨z2, z3, z5, z6, rfl, hi⟩ hR;refine Eq.trans ?_ (step m z2 z3 z5 z6 h nx R hi fun m' w2 w3 w5 w6 h' nx' hlt hi' => hR m' _ h' nx' hlt ⟨_, _, _, _, rfl, hi'⟩)
 kernel_rfl
theorem F82.k9 : IR.run F82.b9 C N (fnO F82.res K0) K (F82.fr c d o p i l q) h nx =
 K0 (.bool true) h nx := by kernel_rfl
theorem F106.tab : T.get none (.of 106) tbl = some F106 := by kernel_rfl
theorem F106.go : zW tbl N C (.of 106) [a0] h nx K0 =
 yc .eql (.nil .sl) a0 .zf fun v1 => yA v1 (K0 .zf h nx) (y0 1 0 [(I 0)] [] h nx fun v2 h3 n4 => sApp 1 8 v2 a0 h3 n4 fun v5 h6 n7 => K0 v5 h6 n7) := by
 rw [zL F106.tab]; kernel_rfl
theorem F85.tab : T.get none (.of 85) tbl = some F85 := by kernel_rfl
theorem F85.go : zW tbl N C (.of 85) [a0, a1] h nx K0 =
 sBox a0 h nx fun v1 h2 n3 => sBox a1 h2 n3 fun v4 h5 n6 => zP 0 v1 fun v7 => zF v7 h5 fun v8 => zP 0 v4 fun v9 => zF v9 h5 fun vA => C.fn 82 (.of 82) [v8, vA] h5 n6 fun vB hB nB => yA vB (zP 1 v1 fun vF => zF vF hB fun vG => sNot vG fun vH => sG vH true (fun k => zP 1 v4 k) fun vI => sG vH true (fun k => zF vI hB k) fun vJ => uR vH vJ (.bool false) fun vK => K0 vK hB nB) (zP 0 v1 fun vL => zF vL hB fun vM => zP 0 v4 fun vN => zF vN hB fun vP => C.fn 88 (.of 88) [vM, vP] hB nB fun vQ hC nC => K0 vQ hC nC) := by
 rw [zL F85.tab]; kernel_rfl
theorem F84.bf (X2 : IR) (O : um Prop) (t : T AV) : IR.run (F84.g1 X2) C N O K t h nx = IR.run X2 C N (O.blk 0 K) K t h nx := by kernel_rfl
theorem F84.tab : T.get none (.of 84) tbl = some F84 := by kernel_rfl
theorem F84.go : zW tbl N C (.of 84) [a0, a1] h nx K0 =
 sBox a1 h nx fun v1 h2 n3 => IR.run F84.b1 C N (fnO F84.res K0) (IR.run F84.b8 C N (fnO F84.res K0) (qj F84.res K0)) (F84.fr a0 a1 v1 (I 0) (I 0) .undef .undef) h2 n3 := by
 rw [zL F84.tab]; kernel_rfl
theorem F84.L1 (Inv : Nat -> AV -> T Blk -> Pa -> Prop) {m : Nat} (hm : m < N) (hi : Inv m i h nx)
  (step : ∀ (m : Nat) (z3 z4 z5 z6 : AV) (h : T Blk) (nx : Pa) (R : Ks Prop), Inv m z4 h nx -> (∀ (m' : Nat) (w3 w4 w5 w6 : AV) (h' : T Blk) (nx' : Pa), m' < m -> Inv m' w4 h' nx' -> R (F84.fr c d o w3 w4 w5 w6) h' nx' = .ok True) ->
   (sLen c fun v1 => yc .lss .int z4 v1 fun v2 => yA v2 (zO 2 c z4 fun v3 => zK 2 v3 h fun v4 => zK 2 o h fun v5 => C.fn 30 (.of 30) [v4, v5] h nx fun v6 h7 n8 => yA v6 (K0 z4 h7 n8) (yc .add .int z4 (I 1) fun v9 => R (F84.fr c d o z3 v9 v2 v6) h7 n8)) (K (F84.fr c d o z3 z4 v2 z6) h nx)) = .ok True) :
  IR.run F84.b1 C N (fnO F84.res K0) K (F84.fr c d o p i l q) h nx = .ok True := by
 rw [F84.b1, F84.bf, F84.b2];refine yI (fun m tm h nx => ∃ z3 z4 z5 z6, tm = (F84.fr c d o z3 z4 z5 z6) /\ Inv m z4 h nx) ?_ hm ⟨_, _, _, _, rfl, hi⟩;rintro m tm h nx R ⟨z3, z4, z5, z6, rfl, hi⟩ hR;refine Eq.trans ?_ (step m z3 z4 z5 z6 h nx R hi fun m' w3 w4 w5 w6 h' nx' hlt hi' => hR m' _ h' nx' hlt ⟨_, _, _, _, rfl, hi'⟩)
 kernel_rfl
theorem F84.k8 : IR.run F84.b8 C N (fnO F84.res K0) K (F84.fr c d o p i l q) h nx =
 K0 (I (-1)) h nx := by kernel_rfl
theorem F65.tab : T.get none (.of 65) tbl = some F65 := by kernel_rfl
theorem F65.go : zW tbl N C (.of 65) [a0, a1] h nx K0 =
 sBox a0 h nx fun v1 h2 n3 => sBox a1 h2 n3 fun v4 h5 n6 => yE [.zf, (.bool false)] h5 n6 fun v7 h8 n9 => zP 0 v1 fun vA => zF vA h8 fun vB => zP 0 v4 fun vD => zF vD h8 fun vE => zP 1 v1 fun vF => zF vF h8 fun vG => zP 1 v4 fun vH => zF vH h8 fun vI => yc .neq .bool vG vI fun vJ => C.fn 144 (.of 144) [vB, vE] h8 n9 fun vK hD nD => (yc .neq .bool vG vI fun vR => zN vR vJ ((zF vH hD fun vS => zN vS vI ((zP 1 v4 fun vT => zN vT vH ((zF vF hD fun vU => zN vU vG ((zP 1 v1 fun vV => zN vV vF (qA [.zf, (.bool false)] [(0, 1, vK), (1, 1, vJ)] fun vN => zM 2 v7 vN hD nD fun vP hE nE => zK 2 v7 hE fun vW => K0 vW hE nE)))))))))) := by
 rw [zL F65.tab]; kernel_rfl
theorem F30.tab : T.get none (.of 30) tbl = some F30 := by kernel_rfl
theorem F30.go : zW tbl N C (.of 30) [a0, a1] h nx K0 =
 sBox a0 h nx fun v1 h2 n3 => sBox a1 h2 n3 fun v4 h5 n6 => zP 1 v1 fun v7 => zF v7 h5 fun v8 => zP 1 v4 fun v9 => zF v9 h5 fun vA => yc .eql .bool v8 vA fun vB => sG vB true (fun k => zP 0 v1 k) fun vD => sG vB true (fun k => zF vD h5 k) fun vE => sG vB true (fun k => zP 0 v4 k) fun vF => sG vB true (fun k => zF vF h5 k) fun vG => sGW vB true (fun k => C.fn 82 (.of 82) [vE, vG] h5 n6 k) h5 n6 fun vH hF nF => uR vB vH (.bool false) fun vK => K0 vK hF nF := by
 rw [zL F30.tab]; kernel_rfl
theorem jr.bf (X2 : IR) (O : um Prop) (t : T AV) : IR.run (jr.g1 X2) C N O K t h nx = IR.run X2 C N (O.blk 0 K) K t h nx := by kernel_rfl
theorem jr.tab : T.get none (.of 144) tbl = some jr := by kernel_rfl
theorem jr.go : zW tbl N C (.of 144) [a0, a1] h nx K0 =
 IR.run jr.b1 C N (fnO jr.res K0) (IR.run jr.b8 C N (fnO jr.res K0) (qj jr.res K0)) (jr.fr a0 a1 .zf .zf (I 0) .undef) h nx := by
 rw [zL jr.tab]; kernel_rfl
theorem jr.L1 (Inv : Nat -> AV -> AV -> T Blk -> Pa -> Prop) {m : Nat} (hm : m < N) (hi : Inv m p i h nx)
  (step : ∀ (m : Nat) (z3 z4 z5 : AV) (h : T Blk) (nx : Pa) (R : Ks Prop), Inv m z3 z4 h nx -> (∀ (m' : Nat) (w3 w4 w5 : AV) (h' : T Blk) (nx' : Pa), m' < m -> Inv m' w3 w4 h' nx' -> R (jr.fr c d o w3 w4 w5) h' nx' = .ok True) ->
   (sLen d fun v1 => yc .lss .int z4 v1 fun v2 => yA v2 (zO 1 d z4 fun v3 => zF v3 h fun v4 => zO 1 c v4 fun v5 => zF v5 h fun v6 => y0 1 1 [(I 0)] [(0, 1, v6)] h nx fun v7 h8 n9 => sApp 1 8 z3 v7 h8 n9 fun vA hG nG => yc .add .int z4 (I 1) fun vE => R (jr.fr c d o vA vE v2) hG nG) (K (jr.fr c d o z3 z4 v2) h nx)) = .ok True) :
  IR.run jr.b1 C N (fnO jr.res K0) K (jr.fr c d o p i l) h nx = .ok True := by
 rw [jr.b1, jr.bf, jr.b2];refine yI (fun m tm h nx => ∃ z3 z4 z5, tm = (jr.fr c d o z3 z4 z5) /\ Inv m z3 z4 h nx) ?_ hm ⟨_, _, _, rfl, hi⟩;rintro m tm h nx R ⟨z3, z4, z5, rfl, hi⟩ hR;refine Eq.trans ?_ (step m z3 z4 z5 h nx R hi fun m' w3 w4 w5 h' nx' hlt hi' => hR m' _ h' nx' hlt ⟨_, _, _, rfl, hi'⟩)
 kernel_rfl
theorem jr.k8 : IR.run jr.b8 C N (fnO jr.res K0) K (jr.fr c d o p i l) h nx =
 K0 p h nx := by kernel_rfl
theorem F20.g4_eq (X5 : IR) (O : um Prop) (t : T AV) : IR.run (F20.g4 X5) C N O K t h nx = IR.run X5 C N (O.blk 0 K) K t h nx := by kernel_rfl
theorem F20.g12_eq (X13 : IR) (O : um Prop) (t : T AV) : IR.run (F20.g12 X13) C N O K t h nx = IR.run X13 C N (O.blk 2 K) K t h nx := by kernel_rfl
theorem F20.g26_eq (X27 : IR) (O : um Prop) (t : T AV) : IR.run (F20.g26 X27) C N O K t h nx = IR.run X27 C N (O.blk 6 K) K t h nx := by kernel_rfl
theorem F20.g20_eq (X21 : IR) (O : um Prop) (t : T AV) : IR.run (F20.g20 X21) C N O K t h nx = IR.run X21 C N (O.blk 4 K) K t h nx := by kernel_rfl
theorem F20.tab : T.get none (.of 20) tbl = some F20 := by kernel_rfl
theorem F20.go : zW tbl N C (.of 20) [a0, a1] h nx K0 =
 C.fn 25 (.of 25) [a1] h nx fun v1 h2 n3 => yc .neq .int v1 (I 0) fun v4 => yA v4 (K0 (I 3) h2 n3) (sLen a0 fun v5 => yc .eql .int v5 (I 0) fun v6 => yA v6 (K0 (I 12) h2 n3) (sLen a0 fun v7 => yc .gtr .int v7 (I 1536) fun v8 => yA v8 (K0 (I 5) h2 n3) (IR.run F20.b4 C N (fnO F20.res K0) (IR.run F20.b11 C N (fnO F20.res K0) (qj F20.res K0)) (F20.fr a0 a1 (I 0) (I 0) .undef .undef .undef .undef v4 v6 v8 .undef .undef .undef .undef .undef .undef .undef) h2 n3))) := by
 rw [zL F20.tab]; kernel_rfl
theorem F20.L4 (Inv : Nat -> AV -> T Blk -> Pa -> Prop) {m : Nat} (hm : m < N) (hi : Inv m p h nx)
  (step : ∀ (m : Nat) (z2 z3 z4 zA zB : AV) (h : T Blk) (nx : Pa) (R : Ks Prop), Inv m z3 h nx -> (∀ (m' : Nat) (w2 w3 w4 wA wB : AV) (h' : T Blk) (nx' : Pa), m' < m -> Inv m' w3 h' nx' -> R (F20.fr c d w2 w3 w4 l q y w z a wA wB e g s u v) h' nx' = .ok True) ->
   (sLen c fun v1 => yc .lss .int z3 v1 fun v2 => yA v2 (zO 2 c z3 fun v3 => zK 2 v3 h fun v4 => C.fn 26 (.of 26) [v4, d] h nx fun v5 h6 n7 => yc .neq .int v5 (I 0) fun v8 => yA v8 (K0 v5 h6 n7) (yc .add .int z3 (I 1) fun v9 => R (F20.fr c d z2 v9 v5 l q y w z a v2 v8 e g s u v) h6 n7)) (K (F20.fr c d z2 z3 z4 l q y w z a v2 zB e g s u v) h nx)) = .ok True) :
  IR.run F20.b4 C N (fnO F20.res K0) K (F20.fr c d o p i l q y w z a b f e g s u v) h nx = .ok True := by
 rw [F20.b4, F20.g4_eq, F20.b5];refine yI (fun m tm h nx => ∃ z2 z3 z4 zA zB, tm = (F20.fr c d z2 z3 z4 l q y w z a zA zB e g s u v) /\ Inv m z3 h nx) ?_ hm ⟨_, _, _, _, _, rfl, hi⟩;rintro m tm h nx R ⟨z2, z3, z4, zA, zB, rfl, hi⟩ hR;refine Eq.trans ?_ (step m z2 z3 z4 zA zB h nx R hi fun m' w2 w3 w4 wA wB h' nx' hlt hi' => hR m' _ h' nx' hlt ⟨_, _, _, _, _, rfl, hi'⟩)
 kernel_rfl
theorem F20.k11 : IR.run F20.b11 C N (fnO F20.res K0) K (F20.fr c d o p i l q y w z a b f e g s u v) h nx =
 IR.run F20.b12 C N (fnO F20.res K0) (IR.run F20.b19 C N (fnO F20.res K0) K) (F20.fr c d o p i (I 1) q y w z a b f e g s u v) h nx := by kernel_rfl
theorem F20.L12 (Inv : Nat -> AV -> T Blk -> Pa -> Prop) {m : Nat} (hm : m < N) (hi : Inv m l h nx)
  (step : ∀ (m : Nat) (z2 z5 zC zD : AV) (h : T Blk) (nx : Pa) (R : Ks Prop), Inv m z5 h nx -> (∀ (m' : Nat) (w2 w5 wC wD : AV) (h' : T Blk) (nx' : Pa), m' < m -> Inv m' w5 h' nx' -> R (F20.fr c d w2 p i w5 q y w z a b f wC wD s u v) h' nx' = .ok True) ->
   (sLen c fun v1 => yc .lss .int z5 v1 fun v2 => yA v2 (yc .sub .int z5 (I 1) fun v3 => zO 2 c v3 fun v4 => zK 2 v4 h fun v5 => zO 2 c z5 fun v6 => zK 2 v6 h fun v7 => C.fn 85 (.of 85) [v5, v7] h nx fun v8 h9 nH => sNot v8 fun vB => yA vB (K0 (I 11) h9 nH) (yc .add .int z5 (I 1) fun vD => R (F20.fr c d z2 p i vD q y w z a b f v2 vB s u v) h9 nH)) (K (F20.fr c d z2 p i z5 q y w z a b f v2 zD s u v) h nx)) = .ok True) :
  IR.run F20.b12 C N (fnO F20.res K0) K (F20.fr c d o p i l q y w z a b f e g s u v) h nx = .ok True := by
 rw [F20.b12, F20.g12_eq, F20.b13];refine yI (fun m tm h nx => ∃ z2 z5 zC zD, tm = (F20.fr c d z2 p i z5 q y w z a b f zC zD s u v) /\ Inv m z5 h nx) ?_ hm ⟨_, _, _, _, rfl, hi⟩;rintro m tm h nx R ⟨z2, z5, zC, zD, rfl, hi⟩ hR;refine Eq.trans ?_ (step m z2 z5 zC zD h nx R hi fun m' w2 w5 wC wD h' nx' hlt hi' => hR m' _ h' nx' hlt ⟨_, _, _, _, rfl, hi'⟩)
 kernel_rfl
theorem F20.k19 : IR.run F20.b19 C N (fnO F20.res K0) K (F20.fr c d o p i l q y w z a b f e g s u v) h nx =
 IR.run F20.b20 C N (fnO F20.res K0) (IR.run F20.b34 C N (fnO F20.res K0) K) (F20.fr c d o p i l (I 0) y w z a b f e g s u v) h nx := by kernel_rfl
theorem F20.L20 (Inv : Nat -> AV -> T Blk -> Pa -> Prop) {m : Nat} (hm : m < N) (hi : Inv m q h nx)
  (step : ∀ (m : Nat) (z2 z6 z7 zE zG zH : AV) (h : T Blk) (nx : Pa) (R : Ks Prop), Inv m z6 h nx -> (∀ (m' : Nat) (w2 w6 w7 wE wF wG : AV) (h' : T Blk) (nx' : Pa), m' < m -> Inv m' w6 h' nx' -> R (F20.fr c d w2 p i l w6 w7 w z a b f e g wE wF wG) h' nx' = .ok True) ->
   (sLen c fun v1 => yc .lss .int z6 v1 fun v2 => yA v2 (IR.run F20.b26 C N (((fnO F20.res K0).blk 4 K).blk 5 (IR.run F20.b33 C N ((fnO F20.res K0).blk 4 K) R)) (IR.run F20.b33 C N ((fnO F20.res K0).blk 4 K) R) (F20.fr c d z2 p i l z6 (I 0) w z a b f e g v2 zG zH) h nx) (K (F20.fr c d z2 p i l z6 z7 w z a b f e g v2 zG zH) h nx)) = .ok True) :
  IR.run F20.b20 C N (fnO F20.res K0) K (F20.fr c d o p i l q y w z a b f e g s u v) h nx = .ok True := by
 rw [F20.b20, F20.g20_eq, F20.b21];refine yI (fun m tm h nx => ∃ z2 z6 z7 zE zG zH, tm = (F20.fr c d z2 p i l z6 z7 w z a b f e g zE zG zH) /\ Inv m z6 h nx) ?_ hm ⟨_, _, _, _, _, _, rfl, hi⟩;rintro m tm h nx R ⟨z2, z6, z7, zE, zG, zH, rfl, hi⟩ hR;refine Eq.trans ?_ (step m z2 z6 z7 zE zG zH h nx R hi fun m' w2 w6 w7 wE wF wG h' nx' hlt hi' => hR m' _ h' nx' hlt ⟨_, _, _, _, _, _, rfl, hi'⟩)
 kernel_rfl
theorem F20.k34 : IR.run F20.b34 C N (fnO F20.res K0) K (F20.fr c d o p i l q y w z a b f e g s u v) h nx =
 K0 (I 0) h nx := by kernel_rfl
theorem F20.k33 {E4 : Ks Prop} : IR.run F20.b33 C N ((fnO F20.res K0).blk 4 E4) K (F20.fr c d o p i l q y w z a b f e g s u v) h nx =
 yc .add .int q (I 1) fun v1 => K (F20.fr c d o p i l v1 y w z a b f e g s u v) h nx := by kernel_rfl
theorem F20.L26 {E4 E5 : Ks Prop} (Inv : Nat -> AV -> T Blk -> Pa -> Prop) {m : Nat} (hm : m < N) (hi : Inv m y h nx)
  (step : ∀ (m : Nat) (z2 z7 zG zH : AV) (h : T Blk) (nx : Pa) (R : Ks Prop), Inv m z7 h nx -> (∀ (m' : Nat) (w2 w7 wF wG : AV) (h' : T Blk) (nx' : Pa), m' < m -> Inv m' w7 h' nx' -> R (F20.fr c d w2 p i l q w7 w z a b f e g s wF wG) h' nx' = .ok True) ->
   (sLen c fun v1 => yc .lss .int z7 v1 fun v2 => yA v2 (zO 2 c q fun v3 => zK 2 v3 h fun v4 => zO 2 c z7 fun v5 => zK 2 v5 h fun v6 => C.fn 65 (.of 65) [v4, v6] h nx fun v7 h8 n9 => zN c c (C.fn 84 (.of 84) [c, v7] h8 n9 fun vA hG nG => yc .lss .int vA (I 0) fun vE => yA vE (K0 (I 28) hG nG) (yc .add .int z7 (I 1) fun vF => R (F20.fr c d z2 p i l q vF w z a b f e g s v2 vE) hG nG))) (K (F20.fr c d z2 p i l q z7 w z a b f e g s v2 zH) h nx)) = .ok True) :
  IR.run F20.b26 C N (((fnO F20.res K0).blk 4 E4).blk 5 E5) K (F20.fr c d o p i l q y w z a b f e g s u v) h nx = .ok True := by
 rw [F20.b26, F20.g26_eq, F20.b27];refine yI (fun m tm h nx => ∃ z2 z7 zG zH, tm = (F20.fr c d z2 p i l q z7 w z a b f e g s zG zH) /\ Inv m z7 h nx) ?_ hm ⟨_, _, _, _, rfl, hi⟩;rintro m tm h nx R ⟨z2, z7, zG, zH, rfl, hi⟩ hR;refine Eq.trans ?_ (step m z2 z7 zG zH h nx R hi fun m' w2 w7 wF wG h' nx' hlt hi' => hR m' _ h' nx' hlt ⟨_, _, _, _, rfl, hi'⟩)
 kernel_rfl
theorem F88.bf (X2 : IR) (O : um Prop) (t : T AV) : IR.run (F88.g1 X2) C N O K t h nx = IR.run X2 C N (O.blk 0 K) K t h nx := by kernel_rfl
theorem F88.tab : T.get none (.of 88) tbl = some F88 := by kernel_rfl
theorem F88.go : zW tbl N C (.of 88) [a0, a1] h nx K0 =
 IR.run F88.b1 C N (fnO F88.res K0) (IR.run F88.b8 C N (fnO F88.res K0) (qj F88.res K0)) (F88.fr a0 a1 (.bool false) (I 0) .undef .undef) h nx := by
 rw [zL F88.tab]; kernel_rfl
theorem F88.L1 (Inv : Nat -> AV -> T Blk -> Pa -> Prop) {m : Nat} (hm : m < N) (hi : Inv m p h nx)
  (step : ∀ (m : Nat) (z2 z3 z4 z5 : AV) (h : T Blk) (nx : Pa) (R : Ks Prop), Inv m z3 h nx -> (∀ (m' : Nat) (w2 w3 w4 w5 : AV) (h' : T Blk) (nx' : Pa), m' < m -> Inv m' w3 h' nx' -> R (F88.fr c d w2 w3 w4 w5) h' nx' = .ok True) ->
   (sLen c fun v1 => yc .lss .int z3 v1 fun v2 => sG v2 true (fun k => k z3) fun v3 => sG v2 true (fun k => k d) fun v4 => sG v2 true (fun k => sLen v4 k) fun v5 => sG v2 true (fun k => yc .lss .int v3 v5 k) fun v6 => uR v2 v6 (.bool false) fun v7 => yA v7 ((IR.run F88.b4 C N ((fnO F88.res K0).blk 0 K) R) (F88.fr c d z2 z3 v7 z5) h nx) (K (F88.fr c d z2 z3 v7 z5) h nx)) = .ok True) :
  IR.run F88.b1 C N (fnO F88.res K0) K (F88.fr c d o p i l) h nx = .ok True := by
 rw [F88.b1, F88.bf, F88.b2];refine yI (fun m tm h nx => ∃ z2 z3 z4 z5, tm = (F88.fr c d z2 z3 z4 z5) /\ Inv m z3 h nx) ?_ hm ⟨_, _, _, _, rfl, hi⟩;rintro m tm h nx R ⟨z2, z3, z4, z5, rfl, hi⟩ hR;refine Eq.trans ?_ (step m z2 z3 z4 z5 h nx R hi fun m' w2 w3 w4 w5 h' nx' hlt hi' => hR m' _ h' nx' hlt ⟨_, _, _, _, rfl, hi'⟩)
 kernel_rfl
theorem F88.k8 : IR.run F88.b8 C N (fnO F88.res K0) K (F88.fr c d o p i l) h nx =
 sLen c fun v1 => sLen d fun v2 => yc .lss .int v1 v2 fun v3 => K0 v3 h nx := by kernel_rfl
theorem F88.k4 {E0 : Ks Prop} : IR.run F88.b4 C N ((fnO F88.res K0).blk 0 E0) K (F88.fr c d o p i l) h nx =
 zO 1 c p fun v1 => zF v1 h fun v2 => zO 1 d p fun v3 => zF v3 h fun v4 => yc .neq .int v2 v4 fun v5 => yA v5 (zO 1 c p fun v6 => zF v6 h fun v7 => zO 1 d p fun v8 => zF v8 h fun v9 => yc .lss .int v7 v9 fun vA => K0 vA h nx) (yc .add .int p (I 1) fun vB => K (F88.fr c d o vB i v5) h nx) := by kernel_rfl
theorem jg.bf (X2 : IR) (O : um Prop) (t : T AV) : IR.run (jg.g1 X2) C N O K t h nx = IR.run X2 C N (O.blk 0 K) K t h nx := by kernel_rfl
theorem jg.tab : T.get none (.of 201) tbl = some jg := by kernel_rfl
theorem jg.go : zW tbl N C (.of 201) [a0, a1] h nx K0 =
 sLen a0 fun v1 => IR.run jg.b1 C N (fnO jg.res K0) (IR.run jg.b9 C N (fnO jg.res K0) (qj jg.res K0)) (jg.fr a0 a1 (I 0) .undef .undef .undef .undef a0 v1 (I 0) .undef .undef .undef .undef) h nx := by
 rw [zL jg.tab]; kernel_rfl
theorem jg.L1 (Inv : Nat -> AV -> T Blk -> Pa -> Prop) {m : Nat} (hm : m < N) (hi : Inv m z h nx)
  (step : ∀ (m : Nat) (z2 z3 z4 z5 z6 z9 zI zA zB : AV) (h : T Blk) (nx : Pa) (R : Ks Prop), Inv m z9 h nx -> (∀ (m' : Nat) (w2 w3 w4 w5 w6 w9 wH wA wB : AV) (h' : T Blk) (nx' : Pa), m' < m -> Inv m' w9 h' nx' -> R (jg.fr c d w2 w3 w4 w5 w6 y w w9 wH wA wB e) h' nx' = .ok True) ->
   (yc .lss .int z9 w fun v1 => yA v1 (zO 1 y z9 fun v2 => zF v2 h fun v3 => sLen d fun v4 => yc .geq .int z9 v4 fun v5 => yA v5 (K0 (I 1) h nx) (zO 1 d z9 fun v6 => zF v6 h fun v7 => C.fn 244 (.of 244) [v3, v7] h nx fun v8 h9 nH => yc .neq .int v8 (I 0) fun vB => yA vB (K0 v8 h9 nH) (yc .add .int z9 (I 1) fun vD => R (jg.fr c d z2 z9 v3 v7 v8 y w vD v1 v5 vB e) h9 nH))) (K (jg.fr c d z2 z3 z4 z5 z6 y w z9 v1 zA zB e) h nx)) = .ok True) :
  IR.run jg.b1 C N (fnO jg.res K0) K (jg.fr c d o p i l q y w z a b f e) h nx = .ok True := by
 rw [jg.b1, jg.bf, jg.b2];refine yI (fun m tm h nx => ∃ z2 z3 z4 z5 z6 z9 zI zA zB, tm = (jg.fr c d z2 z3 z4 z5 z6 y w z9 zI zA zB e) /\ Inv m z9 h nx) ?_ hm ⟨_, _, _, _, _, _, _, _, _, rfl, hi⟩;rintro m tm h nx R ⟨z2, z3, z4, z5, z6, z9, zI, zA, zB, rfl, hi⟩ hR;refine Eq.trans ?_ (step m z2 z3 z4 z5 z6 z9 zI zA zB h nx R hi fun m' w2 w3 w4 w5 w6 w9 wH wA wB h' nx' hlt hi' => hR m' _ h' nx' hlt ⟨_, _, _, _, _, _, _, _, _, rfl, hi'⟩)
 kernel_rfl
theorem jg.k9 : IR.run jg.b9 C N (fnO jg.res K0) K (jg.fr c d o p i l q y w z a b f e) h nx =
 sLen c fun v1 => sLen d fun v2 => yc .lss .int v1 v2 fun v3 => yA v3 (K0 (I (-1)) h nx) (K0 (I 0) h nx) := by kernel_rfl
theorem mZ.tab : T.get none (.of 244) tbl = some mZ := by kernel_rfl
theorem mZ.go : zW tbl N C (.of 244) [a0, a1] h nx K0 =
 C.fn 250 (.of 250) [a0] h nx fun v1 h2 n3 => C.fn 250 (.of 250) [a1] h2 n3 fun v4 h5 n6 => yA v1 (yA v4 (K0 (I 0) h5 n6) (K0 (I (-1)) h5 n6)) (yA v4 (K0 (I 1) h5 n6) (yc .lss .int a0 a1 fun v7 => yA v7 (K0 (I (-1)) h5 n6) (yc .gtr .int a0 a1 fun v8 => yA v8 (K0 (I 1) h5 n6) (K0 (I 0) h5 n6)))) := by
 rw [zL mZ.tab]; kernel_rfl
theorem F250.tab : T.get none (.of 250) tbl = some F250 := by kernel_rfl
theorem F250.go : zW tbl N C (.of 250) [a0] h nx K0 =
 yc .neq .int a0 a0 fun v1 => K0 v1 h nx := by
 rw [zL F250.tab]; kernel_rfl
theorem F97.bf (X2 : IR) (O : um Prop) (t : T AV) : IR.run (F97.g1 X2) C N O K t h nx = IR.run X2 C N (O.blk 0 K) K t h nx := by kernel_rfl
theorem F97.tab : T.get none (.of 97) tbl = some F97 := by kernel_rfl
theorem F97.go : zW tbl N C (.of 97) [a0, a1] h nx K0 =
 sLen a0 fun v1 => IR.run F97.b1 C N (fnO F97.res K0) (IR.run F97.b8 C N (fnO F97.res K0) (qj F97.res K0)) (F97.fr a0 a1 (I 0) .undef .undef a0 v1 (I 0) .undef .undef) h nx := by
 rw [zL F97.tab]; kernel_rfl
theorem F97.L1 (Inv : Nat -> AV -> T Blk -> Pa -> Prop) {m : Nat} (hm : m < N) (hi : Inv m y h nx)
  (step : ∀ (m : Nat) (z2 z3 z4 z7 z8 z9 : AV) (h : T Blk) (nx : Pa) (R : Ks Prop), Inv m z7 h nx -> (∀ (m' : Nat) (w2 w3 w4 w7 w8 w9 : AV) (h' : T Blk) (nx' : Pa), m' < m -> Inv m' w7 h' nx' -> R (F97.fr c d w2 w3 w4 l q w7 w8 w9) h' nx' = .ok True) ->
   (yc .lss .int z7 q fun v1 => yA v1 (zO 2 l z7 fun v2 => zK 2 v2 h fun v3 => yE [.zf, (.bool false)] h nx fun v4 h5 n6 => zM 2 v4 v3 h5 n6 fun v7 h8 n9 => zK 2 v4 h8 fun vA => C.fn 56 (.of 56) [vA, d] h8 n9 fun vB hB nB => yc .neq .int vB (I 0) fun vF => yA vF (K0 vB hB nB) (yc .add .int z7 (I 1) fun vG => R (F97.fr c d z2 v4 vB l q vG v1 vF) hB nB)) (K (F97.fr c d z2 z3 z4 l q z7 v1 z9) h nx)) = .ok True) :
  IR.run F97.b1 C N (fnO F97.res K0) K (F97.fr c d o p i l q y w z) h nx = .ok True := by
 rw [F97.b1, F97.bf, F97.b2];refine yI (fun m tm h nx => ∃ z2 z3 z4 z7 z8 z9, tm = (F97.fr c d z2 z3 z4 l q z7 z8 z9) /\ Inv m z7 h nx) ?_ hm ⟨_, _, _, _, _, _, rfl, hi⟩;rintro m tm h nx R ⟨z2, z3, z4, z7, z8, z9, rfl, hi⟩ hR;refine Eq.trans ?_ (step m z2 z3 z4 z7 z8 z9 h nx R hi fun m' w2 w3 w4 w7 w8 w9 h' nx' hlt hi' => hR m' _ h' nx' hlt ⟨_, _, _, _, _, _, rfl, hi'⟩)
 kernel_rfl
theorem F97.k8 : IR.run F97.b8 C N (fnO F97.res K0) K (F97.fr c d o p i l q y w z) h nx =
 K0 (I 0) h nx := by kernel_rfl
theorem F90.tab : T.get none (.of 90) tbl = some F90 := by kernel_rfl
theorem F90.go : zW tbl N C (.of 90) [a0] h nx K0 =
 sBox a0 h nx fun v1 h2 n3 => K0 (.fn 159 (.of 159) [v1]) h2 n3 := by
 rw [zL F90.tab]; kernel_rfl
theorem bg.tab : T.get none (.of 162) tbl = some bg := by kernel_rfl
theorem bg.go : zW tbl N C (.of 162) [a0, a1] h nx K0 =
 sBox a0 h nx fun v1 h2 n3 => sBox a1 h2 n3 fun v4 h5 n6 => zP 0 v1 fun v7 => zF v7 h5 fun v8 => zP 0 v4 fun v9 => zF v9 h5 fun vA => C.fn 201 (.of 201) [v8, vA] h5 n6 fun vB hB nB => yc .neq .int vB (I 0) fun vF => sG vF false (fun k => zP 1 v1 k) fun vG => sG vF false (fun k => zF vG hB k) fun vH => sG vF false (fun k => zP 1 v4 k) fun vI => sG vF false (fun k => zF vI hB k) fun vJ => sG vF false (fun k => yc .eql .bool vH vJ k) fun vK => uR vF (.bool true) vK fun vL => yA vL (K0 vB hB nB) ((IR.run bg.b1 C N (fnO bg.res K0) (qj bg.res K0)) (bg.fr a0 a1 v1 v4 (I 0) vB vL .undef) hB nB) := by
 rw [zL bg.tab]; kernel_rfl
theorem bg.k1 : IR.run bg.b1 C N (fnO bg.res K0) K (bg.fr c d o p i l q y) h nx =
 zP 1 o fun v1 => zF v1 h fun v2 => yA v2 (K0 (I 1) h nx) (K0 (I (-1)) h nx) := by kernel_rfl
theorem F56.tab : T.get none (.of 56) tbl = some F56 := by kernel_rfl
theorem F56.go : zW tbl N C (.of 56) [a0, a1] h nx K0 =
 sBox a0 h nx fun v1 h2 n3 => zP 0 v1 fun v4 => zF v4 h2 fun v5 => sLen v5 fun v6 => yc .neq .int v6 a1 fun v7 => zP 0 v1 fun v8 => zF v8 h2 fun v9 => C.fn 95 (.of 95) [a1] h2 n3 fun vA hG nG => (zF v8 hG fun vX => zN vX v9 ((zP 0 v1 fun vY => zN vY v8 ((yc .neq .int v6 a1 fun vZ => zN vZ v7 (zN a1 a1 ((sLen v5 fun v33 => zN v33 v6 ((zF v4 hG fun v32 => zN v32 v5 ((zP 0 v1 fun vR => zN vR v4 (C.fn 96 (.of 96) [v7, (I 2)] hG nG fun vE hH nI => (zF v8 hH fun vS => zN vS v9 ((zP 0 v1 fun vT => zN vT v8 (C.fn 140 (.of 140) [v9] hH nI fun vH hF nF => sNot vH fun vK => C.fn 96 (.of 96) [vK, (I 14)] hF nF fun vL hI nJ => y0 1 3 [(I 0)] [(0, 1, vA), (1, 1, vE), (2, 1, vL)] hI nJ fun vP hE nE => C.fn 94 (.of 94) [vP] hE nE fun vW hJ nK => K0 vW hJ nK))))))))))))))))) := by
 rw [zL F56.tab]; kernel_rfl
theorem uq.bf (X2 : IR) (O : um Prop) (t : T AV) : IR.run (uq.g1 X2) C N O K t h nx = IR.run X2 C N (O.blk 0 K) K t h nx := by kernel_rfl
theorem uq.tab : T.get none (.of 159) tbl = some uq := by kernel_rfl
theorem uq.go : zW tbl N C (.of 159) [a0, a1] h nx K0 =
 zF a1 h fun v1 => sLen v1 fun v2 => IR.run uq.b1 C N (fnO uq.res K0) (qj uq.res K0) (uq.fr a0 a1 .undef .undef v1 v2 (I 0) .undef .undef) h nx := by
 rw [zL uq.tab]; kernel_rfl
theorem uq.L1 (Inv : Nat -> AV -> T Blk -> Pa -> Prop) {m : Nat} (hm : m < N) (hi : Inv m q h nx)
  (step : ∀ (m : Nat) (z2 z3 z6 z7 z8 : AV) (h : T Blk) (nx : Pa) (R : Ks Prop), Inv m z6 h nx -> (∀ (m' : Nat) (w2 w3 w6 w7 w8 : AV) (h' : T Blk) (nx' : Pa), m' < m -> Inv m' w6 h' nx' -> R (uq.fr c d w2 w3 i l w6 w7 w8) h' nx' = .ok True) ->
   (yc .lss .int z6 l fun v1 => yA v1 (zO 2 i z6 fun v2 => zK 2 v2 h fun v3 => yE [.zf, (.bool false)] h nx fun v4 h5 n6 => zM 2 v4 v3 h5 n6 fun v7 h8 n9 => zK 2 v4 h8 fun vA => sCall C c [z6, vA] h8 n9 fun vB hB nB => sNot vB fun vF => yA vF (K0 (.tup []) hB nB) (yc .add .int z6 (I 1) fun vG => R (uq.fr c d z6 v4 i l vG v1 vF) hB nB)) (K (uq.fr c d z2 z3 i l z6 v1 z8) h nx)) = .ok True) :
  IR.run uq.b1 C N (fnO uq.res K0) K (uq.fr c d o p i l q y w) h nx = .ok True := by
 rw [uq.b1, uq.bf, uq.b2];refine yI (fun m tm h nx => ∃ z2 z3 z6 z7 z8, tm = (uq.fr c d z2 z3 i l z6 z7 z8) /\ Inv m z6 h nx) ?_ hm ⟨_, _, _, _, _, rfl, hi⟩;rintro m tm h nx R ⟨z2, z3, z6, z7, z8, rfl, hi⟩ hR;refine Eq.trans ?_ (step m z2 z3 z6 z7 z8 h nx R hi fun m' w2 w3 w6 w7 w8 h' nx' hlt hi' => hR m' _ h' nx' hlt ⟨_, _, _, _, _, rfl, hi'⟩)
 kernel_rfl
theorem jv.bf (X2 : IR) (O : um Prop) (t : T AV) : IR.run (jv.g1 X2) C N O K t h nx = IR.run X2 C N (O.blk 0 K) K t h nx := by kernel_rfl
theorem jv.tab : T.get none (.of 163) tbl = some jv := by kernel_rfl
theorem jv.go : zW tbl N C (.of 163) [a0] h nx K0 =
 yE [.zf, (.bool false)] h nx fun v1 h2 n3 => j4 1 8 [(I 0)] a0 a0 h2 n3 fun v4 h5 n6 => qA [.zf, (.bool false)] [(0, 1, v4)] fun v7 => yE [.zf, (.bool false)] h5 n6 fun v8 h9 nH => zM 2 v8 v7 h9 nH fun vB hB nB => zP 0 v8 fun vF => zF vF hB fun vG => sLen vG fun vH => IR.run jv.b1 C N (fnO jv.res K0) (IR.run jv.b8 C N (fnO jv.res K0) (qj jv.res K0)) (jv.fr a0 v1 v8 .undef vH (I 0) .undef) hB nB := by
 rw [zL jv.tab]; kernel_rfl
theorem jv.L1 (Inv : Nat -> AV -> T Blk -> Pa -> Prop) {m : Nat} (hm : m < N) (hi : Inv m l h nx)
  (step : ∀ (m : Nat) (z3 z5 z6 : AV) (h : T Blk) (nx : Pa) (R : Ks Prop), Inv m z5 h nx -> (∀ (m' : Nat) (w3 w5 w6 : AV) (h' : T Blk) (nx' : Pa), m' < m -> Inv m' w5 h' nx' -> R (jv.fr c d o w3 i w5 w6) h' nx' = .ok True) ->
   (yc .lss .int z5 i fun v1 => yA v1 (zP 0 o fun v2 => zF v2 h fun v3 => zO 1 v3 z5 fun v4 => zM 1 v4 z5 h nx fun v5 h6 n7 => yc .add .int z5 (I 1) fun v8 => R (jv.fr c d o z5 i v8 v1) h6 n7) (K (jv.fr c d o z3 i z5 v1) h nx)) = .ok True) :
  IR.run jv.b1 C N (fnO jv.res K0) K (jv.fr c d o p i l q) h nx = .ok True := by
 rw [jv.b1, jv.bf, jv.b2];refine yI (fun m tm h nx => ∃ z3 z5 z6, tm = (jv.fr c d o z3 i z5 z6) /\ Inv m z5 h nx) ?_ hm ⟨_, _, _, rfl, hi⟩;rintro m tm h nx R ⟨z3, z5, z6, rfl, hi⟩ hR;refine Eq.trans ?_ (step m z3 z5 z6 h nx R hi fun m' w3 w5 w6 h' nx' hlt hi' => hR m' _ h' nx' hlt ⟨_, _, _, rfl, hi'⟩)
 kernel_rfl
theorem jv.k8 : IR.run jv.b8 C N (fnO jv.res K0) K (jv.fr c d o p i l q) h nx =
 zK 2 o h fun v1 => zM 2 d v1 h nx fun v2 h3 n4 => zK 2 d h3 fun v5 => K0 v5 h3 n4 := by kernel_rfl
theorem jo.bf (X2 : IR) (O : um Prop) (t : T AV) : IR.run (jo.g1 X2) C N O K t h nx = IR.run X2 C N (O.blk 0 K) K t h nx := by kernel_rfl
theorem jo.tab : T.get none (.of 123) tbl = some jo := by kernel_rfl
theorem jo.go : zW tbl N C (.of 123) [a0] h nx K0 =
 sBox a0 h nx fun v1 h2 n3 => zP 0 v1 fun v4 => zF v4 h2 fun v5 => sLen v5 fun v6 => yc .add .int v6 (I 1) fun v7 => j4 1 1 [(.int .u8 0)] (I 0) v7 h2 n3 fun v8 h9 nH => zP 0 v1 fun vB => zF vB h9 fun vD => sLen vD fun vE => IR.run jo.b1 C N (fnO jo.res K0) (IR.run jo.b8 C N (fnO jo.res K0) (qj jo.res K0)) (jo.fr a0 v1 (.str []) v8 .undef vD vE (I 0) .undef .undef) h9 nH := by
 rw [zL jo.tab]; kernel_rfl
theorem jo.L1 (Inv : Nat -> AV -> AV -> T Blk -> Pa -> Prop) {m : Nat} (hm : m < N) (hi : Inv m p y h nx)
  (step : ∀ (m : Nat) (z3 z4 z7 z8 : AV) (h : T Blk) (nx : Pa) (R : Ks Prop), Inv m z3 z7 h nx -> (∀ (m' : Nat) (w3 w4 w7 w8 : AV) (h' : T Blk) (nx' : Pa), m' < m -> Inv m' w3 w7 h' nx' -> R (jo.fr c d o w3 w4 l q w7 w8 z) h' nx' = .ok True) ->
   (yc .lss .int z7 q fun v1 => yA v1 (zO 1 l z7 fun v2 => zF v2 h fun v3 => sConv .u8 v3 fun v4 => y0 1 1 [(.int .u8 0)] [(0, 1, v4)] h nx fun v5 h6 n7 => sApp 1 1 z3 v5 h6 n7 fun v8 h9 nH => yc .add .int z7 (I 1) fun vB => R (jo.fr c d o v8 v3 l q vB v1 z) h9 nH) (K (jo.fr c d o z3 z4 l q z7 v1 z) h nx)) = .ok True) :
  IR.run jo.b1 C N (fnO jo.res K0) K (jo.fr c d o p i l q y w z) h nx = .ok True := by
 rw [jo.b1, jo.bf, jo.b2];refine yI (fun m tm h nx => ∃ z3 z4 z7 z8, tm = (jo.fr c d o z3 z4 l q z7 z8 z) /\ Inv m z3 z7 h nx) ?_ hm ⟨_, _, _, _, rfl, hi⟩;rintro m tm h nx R ⟨z3, z4, z7, z8, rfl, hi⟩ hR;refine Eq.trans ?_ (step m z3 z4 z7 z8 h nx R hi fun m' w3 w4 w7 w8 h' nx' hlt hi' => hR m' _ h' nx' hlt ⟨_, _, _, _, rfl, hi'⟩)
 kernel_rfl
theorem jo.k8 : IR.run jo.b8 C N (fnO jo.res K0) K (jo.fr c d o p i l q y w z) h nx =
 zP 1 d fun v1 => zF v1 h fun v2 => yA v2 (y0 1 1 [(.int .u8 0)] [(0, 1, (.int .u8 1))] h nx fun v3 h4 n5 => sApp 1 1 p v3 h4 n5 fun v6 h7 n8 => sB2s v6 h7 fun v9 => K0 v9 h7 n8) (sB2s p h fun vA => K0 vA h nx) := by kernel_rfl
theorem F121.tab : T.get none (.of 121) tbl = some F121 := by kernel_rfl
theorem F121.go : zW tbl N C (.of 121) [a0, a1] h nx K0 =
 sBox a1 h nx fun v1 h2 n3 => zK 2 v1 h2 fun v4 => C.fn 123 (.of 123) [v4] h2 n3 fun v5 h6 n7 => sLook .str (.agg [.zf, (.bool false)]) true a0 v5 h6 fun v8 => mW 0 v8 fun v9 => mW 1 v8 fun vA => yE [.zf, (.bool false)] h6 n7 fun vB hB nB => zM 2 vB v9 hB nB fun vF hA nA => K0 vA hA nA := by
 rw [zL F121.tab]; kernel_rfl
theorem jy.bf (X2 : IR) (O : um Prop) (t : T AV) : IR.run (jy.g1 X2) C N O K t h nx = IR.run X2 C N (O.blk 0 K) K t h nx := by kernel_rfl
theorem jy.tab : T.get none (.of 122) tbl = some jy := by kernel_rfl
theorem jy.go : zW tbl N C (.of 122) [a0, a1] h nx K0 =
 sBox a0 h nx fun v1 h2 n3 => sBox a1 h2 n3 fun v4 h5 n6 => yE [.zf, (.bool false)] h5 n6 fun v7 h8 n9 => sChk (true && true) (zP 0 v4 fun vA => zF vA h8 fun vB => sLen vB fun vD => sChk (mkSl 8 vD vD && true) (zP 1 v1 fun vE => zF vE h8 fun vF => zP 1 v4 fun vG => zF vG h8 fun vH => yc .neq .bool vF vH fun vI => j4 1 8 [(I 0)] vD vD h8 n9 fun vJ hK nL => (yc .neq .bool vF vH fun v47 => zN v47 vI ((zF vG hK fun v46 => zN v46 vH ((zP 1 v4 fun v45 => zN v45 vG ((zF vE hK fun v44 => zN v44 vF ((zP 1 v1 fun v43 => zN v43 vE ((sLen vB fun v42 => zN v42 vD ((zF vA hK fun v41 => zN v41 vB ((zP 0 v4 fun v40 => zN v40 vA (qA [.zf, (.bool false)] [(0, 1, vJ), (1, 1, vI)] fun vM => yE [.zf, (.bool false)] hK nL fun vN hL nM => (qA [.zf, (.bool false)] [(0, 1, vJ), (1, 1, vI)] fun v39 => zN v39 vM ((yc .neq .bool vF vH fun v38 => zN v38 vI ((zF vG hL fun v37 => zN v37 vH ((zP 1 v4 fun vX => zN vX vG ((zF vE hL fun vY => zN vY vF ((zP 1 v1 fun vZ => zN vZ vE ((sLen vB fun v33 => zN v33 vD ((zF vA hL fun v32 => zN v32 vB ((zP 0 v4 fun vR => zN vR vA (zM 2 vN vM hL nM fun v25 hM nN => zP 0 v4 fun vU => zF vU hM fun vT => sLen vT fun vS => IR.run jy.b1 C N (fnO jy.res K0) (IR.run jy.b8 C N (fnO jy.res K0) (qj jy.res K0)) (jy.fr a0 a1 v1 v4 v7 vN .undef .undef vT vS (I 0) .undef) hM nN)))))))))))))))))))))))))))))))))))) := by
 rw [zL jy.tab]; kernel_rfl
theorem jy.L1 (Inv : Nat -> AV -> T Blk -> Pa -> Prop) {m : Nat} (hm : m < N) (hi : Inv m a h nx)
  (step : ∀ (m : Nat) (z6 z7 zI zA : AV) (h : T Blk) (nx : Pa) (R : Ks Prop), Inv m zI h nx -> (∀ (m' : Nat) (w6 w7 wH wA : AV) (h' : T Blk) (nx' : Pa), m' < m -> Inv m' wH h' nx' -> R (jy.fr c d o p i l w6 w7 w z wH wA) h' nx' = .ok True) ->
   (yc .lss .int zI z fun v1 => yA v1 (zO 1 w zI fun v2 => zF v2 h fun v3 => zP 0 l fun v4 => zF v4 h fun v5 => zP 0 o fun v6 => zF v6 h fun v7 => zO 1 v7 v3 fun v8 => zF v8 h fun v9 => zO 1 v5 zI fun vA => zM 1 vA v9 h nx fun vB hB nB => yc .add .int zI (I 1) fun vF => R (jy.fr c d o p i l zI v3 w z vF v1) hB nB) (K (jy.fr c d o p i l z6 z7 w z zI v1) h nx)) = .ok True) :
  IR.run jy.b1 C N (fnO jy.res K0) K (jy.fr c d o p i l q y w z a b) h nx = .ok True := by
 rw [jy.b1, jy.bf, jy.b2];refine yI (fun m tm h nx => ∃ z6 z7 zI zA, tm = (jy.fr c d o p i l z6 z7 w z zI zA) /\ Inv m zI h nx) ?_ hm ⟨_, _, _, _, rfl, hi⟩;rintro m tm h nx R ⟨z6, z7, zI, zA, rfl, hi⟩ hR;refine Eq.trans ?_ (step m z6 z7 zI zA h nx R hi fun m' w6 w7 wH wA h' nx' hlt hi' => hR m' _ h' nx' hlt ⟨_, _, _, _, rfl, hi'⟩)
 kernel_rfl
theorem jy.k8 : IR.run jy.b8 C N (fnO jy.res K0) K (jy.fr c d o p i l q y w z a b) h nx =
 zK 2 l h fun v1 => zM 2 i v1 h nx fun v2 h3 n4 => zK 2 i h3 fun v5 => K0 v5 h3 n4 := by kernel_rfl
theorem F140.tab : T.get none (.of 140) tbl = some F140 := by kernel_rfl
theorem F140.go : zW tbl N C (.of 140) [a0] h nx K0 =
 C.fn 198 (.of 198) [a0] h nx fun v1 h2 n3 => yc .eql .int v1 (I 0) fun v4 => K0 v4 h2 n3 := by
 rw [zL F140.tab]; kernel_rfl
theorem yt.g2_eq (X3 : IR) (O : um Prop) (t : T AV) : IR.run (yt.g2 X3) C N O K t h nx = IR.run X3 C N (O.blk 0 K) K t h nx := by kernel_rfl
theorem yt.tab : T.get none (.of 198) tbl = some yt := by kernel_rfl
theorem yt.go : zW tbl N C (.of 198) [a0] h nx K0 =
 sLen a0 fun v1 => yc .gtr .int v1 (I 256) fun v2 => yA v2 (K0 (I 5) h nx) (sLen a0 fun v3 => j4 1 1 [(.bool false)] v3 v3 h nx fun v4 h5 n6 => sLen a0 fun v7 => IR.run yt.b2 C N (fnO yt.res K0) (IR.run yt.b10 C N (fnO yt.res K0) (qj yt.res K0)) (yt.fr a0 (I 0) v4 .undef v2 a0 v7 (I 0) .undef .undef) h5 n6) := by
 rw [zL yt.tab]; kernel_rfl
theorem yt.L2 (Inv : Nat -> AV -> T Blk -> Pa -> Prop) {m : Nat} (hm : m < N) (hi : Inv m y h nx)
  (step : ∀ (m : Nat) (z1 z3 z7 z8 z9 : AV) (h : T Blk) (nx : Pa) (R : Ks Prop), Inv m z7 h nx -> (∀ (m' : Nat) (w1 w3 w7 w8 w9 : AV) (h' : T Blk) (nx' : Pa), m' < m -> Inv m' w7 h' nx' -> R (yt.fr c w1 o w3 i l q w7 w8 w9) h' nx' = .ok True) ->
   (yc .lss .int z7 q fun v1 => yA v1 (zO 1 l z7 fun v2 => zF v2 h fun v3 => yc .lss .int v3 (I 0) fun v4 => sG v4 false (fun k => k v3) fun v5 => sG v4 false (fun k => k c) fun v6 => sG v4 false (fun k => sLen v6 k) fun v7 => sG v4 false (fun k => yc .geq .int v5 v7 k) fun v8 => uR v4 (.bool true) v8 fun v9 => sG v9 false (fun k => k o) fun vA => sG v9 false (fun k => k v3) fun vB => sG v9 false (fun k => zO 1 vA vB k) fun vD => sG v9 false (fun k => zF vD h k) fun vE => uR v9 (.bool true) vE fun vF => yA vF (K0 (I 14) h nx) ((IR.run yt.b8 C N (((fnO yt.res K0).blk 0 K).blk 1 (IR.run yt.b9 C N ((fnO yt.res K0).blk 0 K) R)) (IR.run yt.b9 C N ((fnO yt.res K0).blk 0 K) R)) (yt.fr c z1 o v3 i l q z7 v1 vF) h nx)) (K (yt.fr c z1 o z3 i l q z7 v1 z9) h nx)) = .ok True) :
  IR.run yt.b2 C N (fnO yt.res K0) K (yt.fr c d o p i l q y w z) h nx = .ok True := by
 rw [yt.b2, yt.g2_eq, yt.b3];refine yI (fun m tm h nx => ∃ z1 z3 z7 z8 z9, tm = (yt.fr c z1 o z3 i l q z7 z8 z9) /\ Inv m z7 h nx) ?_ hm ⟨_, _, _, _, _, rfl, hi⟩;rintro m tm h nx R ⟨z1, z3, z7, z8, z9, rfl, hi⟩ hR;refine Eq.trans ?_ (step m z1 z3 z7 z8 z9 h nx R hi fun m' w1 w3 w7 w8 w9 h' nx' hlt hi' => hR m' _ h' nx' hlt ⟨_, _, _, _, _, rfl, hi'⟩)
 kernel_rfl
theorem yt.k10 : IR.run yt.b10 C N (fnO yt.res K0) K (yt.fr c d o p i l q y w z) h nx =
 K0 (I 0) h nx := by kernel_rfl
theorem yt.k9 {E0 : Ks Prop} : IR.run yt.b9 C N ((fnO yt.res K0).blk 0 E0) K (yt.fr c d o p i l q y w z) h nx =
 yc .add .int y (I 1) fun v1 => K (yt.fr c d o p i l q v1 w z) h nx := by kernel_rfl
theorem yt.k8 {E0 E1 : Ks Prop} : IR.run yt.b8 C N (((fnO yt.res K0).blk 0 E0).blk 1 E1) K (yt.fr c d o p i l q y w z) h nx =
 zO 1 o p fun v1 => zM 1 v1 (.bool true) h nx fun v2 h3 n4 => K (yt.fr c d o p i l q y w z) h3 n4 := by kernel_rfl
theorem F94.bf (X2 : IR) (O : um Prop) (t : T AV) : IR.run (F94.g1 X2) C N O K t h nx = IR.run X2 C N (O.blk 0 K) K t h nx := by kernel_rfl
theorem F94.tab : T.get none (.of 94) tbl = some F94 := by kernel_rfl
theorem F94.go : zW tbl N C (.of 94) [a0] h nx K0 =
 sLen a0 fun v1 => IR.run F94.b1 C N (fnO F94.res K0) (IR.run F94.b8 C N (fnO F94.res K0) (qj F94.res K0)) (F94.fr a0 (I 0) .undef a0 v1 (I 0) .undef .undef) h nx := by
 rw [zL F94.tab]; kernel_rfl
theorem F94.L1 (Inv : Nat -> AV -> T Blk -> Pa -> Prop) {m : Nat} (hm : m < N) (hi : Inv m l h nx)
  (step : ∀ (m : Nat) (z1 z2 z5 z6 z7 : AV) (h : T Blk) (nx : Pa) (R : Ks Prop), Inv m z5 h nx -> (∀ (m' : Nat) (w1 w2 w5 w6 w7 : AV) (h' : T Blk) (nx' : Pa), m' < m -> Inv m' w5 h' nx' -> R (F94.fr c w1 w2 p i w5 w6 w7) h' nx' = .ok True) ->
   (yc .lss .int z5 i fun v1 => yA v1 (zO 1 p z5 fun v2 => zF v2 h fun v3 => yc .neq .int v3 (I 0) fun v4 => yA v4 (K0 v3 h nx) (yc .add .int z5 (I 1) fun v5 => R (F94.fr c z1 v3 p i v5 v1 v4) h nx)) (K (F94.fr c z1 z2 p i z5 v1 z7) h nx)) = .ok True) :
  IR.run F94.b1 C N (fnO F94.res K0) K (F94.fr c d o p i l q y) h nx = .ok True := by
 rw [F94.b1, F94.bf, F94.b2];refine yI (fun m tm h nx => ∃ z1 z2 z5 z6 z7, tm = (F94.fr c z1 z2 p i z5 z6 z7) /\ Inv m z5 h nx) ?_ hm ⟨_, _, _, _, _, rfl, hi⟩;rintro m tm h nx R ⟨z1, z2, z5, z6, z7, rfl, hi⟩ hR;refine Eq.trans ?_ (step m z1 z2 z5 z6 z7 h nx R hi fun m' w1 w2 w5 w6 w7 h' nx' hlt hi' => hR m' _ h' nx' hlt ⟨_, _, _, _, _, rfl, hi'⟩)
 kernel_rfl
theorem F94.k8 : IR.run F94.b8 C N (fnO F94.res K0) K (F94.fr c d o p i l q y) h nx =
 K0 (I 0) h nx := by kernel_rfl
theorem F95.tab : T.get none (.of 95) tbl = some F95 := by kernel_rfl
theorem F95.go : zW tbl N C (.of 95) [a0] h nx K0 =
 yc .lss .int a0 (I 0) fun v1 => sG v1 false (fun k => k a0) fun v2 => sG v1 false (fun k => yc .gtr .int v2 (I 256) k) fun v3 => uR v1 (.bool true) v3 fun v4 => C.fn 96 (.of 96) [v4, (I 3)] h nx fun v5 h6 n7 => K0 v5 h6 n7 := by
 rw [zL F95.tab]; kernel_rfl
theorem F96.tab : T.get none (.of 96) tbl = some F96 := by kernel_rfl
theorem F96.go : zW tbl N C (.of 96) [a0, a1] h nx K0 =
 yA a0 (K0 a1 h nx) (K0 (I 0) h nx) := by
 rw [zL F96.tab]; kernel_rfl
theorem F98.g13_eq (X14 : IR) (O : um Prop) (t : T AV) : IR.run (F98.g13 X14) C N O K t h nx = IR.run X14 C N (O.blk 4 K) K t h nx := by kernel_rfl
theorem F98.g7_eq (X8 : IR) (O : um Prop) (t : T AV) : IR.run (F98.g7 X8) C N O K t h nx = IR.run X8 C N (O.blk 2 K) K t h nx := by kernel_rfl
theorem F98.tab : T.get none (.of 98) tbl = some F98 := by kernel_rfl
theorem F98.go : zW tbl N C (.of 98) [a0, a1, a2] h nx K0 =
 sBox a2 h nx fun v1 h2 n3 => yE [.jl] h2 n3 fun v4 h5 n6 => yE [.zf] h5 n6 fun v7 h8 n9 => yE [(.bool false)] h8 n9 fun vA hG nG => C.fn 163 (.of 163) [a1] hG nG fun vE hH nI => yE [.zf, (.bool false)] hH nI fun vH hF nF => zM 2 vH vE hF nF fun vK hD nD => sChk (true && (true && true)) (zK 2 vH hD fun vN => zK 2 vH hD fun vP => C.fn 123 (.of 123) [vN] hD nD fun vQ hC nC => (zK 2 vH hC fun v52 => zN v52 vP ((zK 2 vH hC fun v51 => zN v51 vN (sMkmap hC nC fun vV hN nO => (zK 2 vH hN fun v50 => zN v50 vP ((zK 2 vH hN fun v49 => zN v49 vN (pF .str vV vQ vP hN nO fun vS hO nP => (zK 2 vH hO fun v48 => zN v48 vP ((zK 2 vH hO fun v47 => zN v47 vN (yE [.jl] hO nP fun v33 hP nQ => zN vV vV ((zK 2 vH hP fun v46 => zN v46 vP ((zK 2 vH hP fun v45 => zN v45 vN (zM 1 v33 vV hP nQ fun vX hQ nR => yE [.zf] hQ nR fun v39 hS nS => C.fn 90 (.of 90) [a0] hS nS fun v42 hT nT => IR.run (.rf (.t (.of 14)) [(.of 15), (.of 16)] F98.b3 F98.b4) C N ((fnO F98.res K0).blk 0 (IR.run F98.b23 C N (fnO F98.res K0) (qj F98.res K0))) (IR.run F98.b23 C N (fnO F98.res K0) (qj F98.res K0)) (F98.fr a0 a1 a2 v1 v4 v7 vA vH v33 v39 .undef .undef .undef .undef v42 .undef .undef .undef .undef .undef .undef .undef .undef .undef .undef) hT nT)))))))))))))))))) := by
 rw [zL F98.tab]; kernel_rfl
theorem F98.k23 : IR.run F98.b23 C N (fnO F98.res K0) K (F98.fr c d o p i l q y w z a b f e g s u v B A D E F G H) h nx =
 zF w h fun v1 => zF z h fun v2 => zM 1 i v1 h nx fun v3 h4 n5 => (zF z h4 fun vG => zN vG v2 (zM 1 l v2 h4 n5 fun v6 h7 n8 => zM 1 q (.bool true) h7 n8 fun v9 hU nU => zF i hU fun vD => zF l hU fun vE => zF q hU fun vF => K0 (.tup [vD, vE, vF]) hU nU)) := by kernel_rfl
theorem F98.p4 {N : Nat} {C : Calls Prop} {K0 : Kw Prop} {id nx : Pa} {j : Jump} {h : T Blk} {c d o p i l q y w z a b f e g s u v B A D E F G H z0 z1 : AV} (hl : T.get .no id h = .loop .ready j (F98.fr c d o p i l q y w z a b f e g s u v B A D E F G H) [.of 15, .of 16] F98.b3 F98.b4) :
 qQ N C id [z0, z1] h nx K0 =
 yE [.zf, (.bool false)] h nx fun v1 h2 n3 => zM 2 v1 z1 h2 n3 fun v4 h5 n6 => rMid N C id K0 F98.b4 (F98.fr c d o p i l q y w z v1 b f e g z0 z1 v B A D E F G H) h5 n6 := by
 rw [rnd_gen hl (tm1 := (F98.fr c d o p i l q y w z a b f e g z0 z1 v B A D E F G H)) (by intro k; kernel_rfl)]; kernel_rfl
theorem F98.y4 {N : Nat} {C : Calls Prop} {K0 : Kw Prop} {id nx : Pa} {h : T Blk} {c d o p i l q y w z a b f e g s u v B A D E F G H : AV} :
 IR.run F98.b4 C N (rO id K0) (yM id K0 .none true) (F98.fr c d o p i l q y w z a b f e g s u v B A D E F G H) h nx =
 zF w h fun v1 => zK 2 a h fun v2 => C.fn 121 (.of 121) [v1, v2] h nx fun v3 h4 n5 => yA v3 (yM id K0 .none true .e h4 n5) (zF z h4 fun v6 => zK 2 a h4 fun v7 => y0 2 1 [.zf, (.bool false)] [(0, 2, v7)] h4 n5 fun v8 h9 nH => vC C 2 32 v6 v8 h9 nH fun vB hB nB => zM 1 z vB hB nB fun vF hA nA => sChk (true && true) (zK 2 y hA fun vI => zK 2 y hA fun vJ => C.fn 123 (.of 123) [vI] hA nA fun vK hD nD => (zK 2 y hD fun v38 => zN v38 vJ ((zK 2 y hD fun v37 => zN v37 vI (sMkmap hD nD fun vN hL nM => (zK 2 y hL fun vX => zN vX vJ ((zK 2 y hL fun vY => zN vY vI (pF .str vN vK vJ hL nM fun v25 hM nN => zM 1 w vN hM nN fun vU hV nV => zK 2 y hV fun vR => y0 2 1 [.zf, (.bool false)] [(0, 2, vR)] hV nV fun v32 hW nW => IR.run F98.b7 C N ((rO id K0).blk 1 (yM id K0 .none true)) (yM id K0 .none true) (F98.fr c d o p i l q y w z a v32 f e g s u v3 B A D E F G H) hW nW)))))))))) := by kernel_rfl
theorem F98.L7 {id : Pa} {E1 : Ks Prop} (Inv : Nat -> AV -> T Blk -> Pa -> Prop) {m : Nat} (hm : m < N) (hi : Inv m b h nx)
  (step : ∀ (m : Nat) (zA zB zC zJ zQ zR zS zT zU zV : AV) (h : T Blk) (nx : Pa) (R : Ks Prop), Inv m zA h nx -> (∀ (m' : Nat) (wA wB wC wI wJ wK wL wM wN wO : AV) (h' : T Blk) (nx' : Pa), m' < m -> Inv m' wA h' nx' -> R (F98.fr c d o p i l q y w z a wA wB wC g s u v wI wJ wK wL wM wN wO) h' nx' = .ok True) ->
   (sLen zA fun v1 => yc .gtr .int v1 (I 0) fun v2 => yA v2 (zF z h fun v3 => sLen v3 fun v4 => IR.run F98.b13 C N ((((rO id K0).blk 1 E1).blk 2 K).blk 3 (IR.run F98.b22 C N (((rO id K0).blk 1 E1).blk 2 K) R)) (IR.run F98.b22 C N (((rO id K0).blk 1 E1).blk 2 K) R) (F98.fr c d o p i l q y w z a zA zB zC g s u v v2 v3 v4 (I 0) zT zU zV) h nx) (K (F98.fr c d o p i l q y w z a zA zB zC g s u v v2 zQ zR zS zT zU zV) h nx)) = .ok True) :
  IR.run F98.b7 C N ((rO id K0).blk 1 E1) K (F98.fr c d o p i l q y w z a b f e g s u v B A D E F G H) h nx = .ok True := by
 rw [F98.b7, F98.g7_eq, F98.b8];refine yI (fun m tm h nx => ∃ zA zB zC zJ zQ zR zS zT zU zV, tm = (F98.fr c d o p i l q y w z a zA zB zC g s u v zJ zQ zR zS zT zU zV) /\ Inv m zA h nx) ?_ hm ⟨_, _, _, _, _, _, _, _, _, _, rfl, hi⟩;rintro m tm h nx R ⟨zA, zB, zC, zJ, zQ, zR, zS, zT, zU, zV, rfl, hi⟩ hR;refine Eq.trans ?_ (step m zA zB zC zJ zQ zR zS zT zU zV h nx R hi fun m' wA wB wC wI wJ wK wL wM wN wO h' nx' hlt hi' => hR m' _ h' nx' hlt ⟨_, _, _, _, _, _, _, _, _, _, rfl, hi'⟩)
 kernel_rfl
theorem F98.k22 {id : Pa} {E1 E2 : Ks Prop} : IR.run F98.b22 C N (((rO id K0).blk 1 E1).blk 2 E2) K (F98.fr c d o p i l q y w z a b f e g s u v B A D E F G H) h nx =
 sSlice 2 b (some (I 1)) none none fun v1 => K (F98.fr c d o p i l q y w z a v1 f e g s u v B A D E F G H) h nx := by kernel_rfl
theorem F98.L13 {id : Pa} {E1 E2 E3 : Ks Prop} (Inv : Nat -> AV -> AV -> T Blk -> Pa -> Prop) {m : Nat} (hm : m < N) (hi : Inv m b E h nx)
  (step : ∀ (m : Nat) (zA zB zC zS zT zU zV : AV) (h : T Blk) (nx : Pa) (R : Ks Prop), Inv m zA zS h nx -> (∀ (m' : Nat) (wA wB wC wL wM wN wO : AV) (h' : T Blk) (nx' : Pa), m' < m -> Inv m' wA wL h' nx' -> R (F98.fr c d o p i l q y w z a wA wB wC g s u v B A D wL wM wN wO) h' nx' = .ok True) ->
   (yc .lss .int zS D fun v1 => yA v1 (zO 2 A zS fun v2 => zK 2 v2 h fun v3 => yE [.zf, (.bool false)] h nx fun v4 h5 n6 => zM 2 v4 v3 h5 n6 fun v7 h8 n9 => sChk (true && true) (zK 2 v4 h8 fun vA => zO 2 zA (I 0) fun vB => zK 2 vB h8 fun vD => C.fn 122 (.of 122) [vA, vD] h8 n9 fun vE hH nI => (zK 2 vB hH fun v65 => zN v65 vD ((zO 2 zA (I 0) fun v64 => zN v64 vB (zN zA zA ((zK 2 v4 hH fun v63 => zN v63 vA (yE [.zf, (.bool false)] hH nI fun vH hF nF => (zK 2 vB hF fun v62 => zN v62 vD ((zO 2 zA (I 0) fun v61 => zN v61 vB (zN zA zA ((zK 2 v4 hF fun v60 => zN v60 vA (zM 2 vH vE hF nF fun vK hD nD => zF w hD fun vN => zK 2 vH hD fun vP => C.fn 121 (.of 121) [vN, vP] hD nD fun vQ hC nC => yA vQ (yc .add .int zS (I 1) fun vV => R (F98.fr c d o p i l q y w z a zA v4 vH g s u v B A D vV v1 vQ zV) hC nC) (zF w hC fun vU => sMlen vU hC fun vT => zF p hC fun vS => yc .eql .int vT vS fun vR => yA vR (zM 1 i .jl hC nC fun v32 hW nW => zM 1 l .zf hW nW fun vY hX nX => zM 1 q (.bool false) hX nX fun v38 hY nY => yM id K0 .ret false .e hY nY) (zF w hC fun v41 => zK 2 vH hC fun v42 => zK 2 vH hC fun v43 => C.fn 123 (.of 123) [v42] hC nC fun v44 hZ nZ => (zK 2 vH hZ fun v59 => zN v59 v43 ((zF w hZ fun v58 => zN v58 v41 (pF .str v41 v44 v43 hZ nZ fun v47 h48 n49 => zK 2 vH h48 fun v50 => y0 2 1 [.zf, (.bool false)] [(0, 2, v50)] h48 n49 fun v51 h52 n53 => vC C 2 32 zA v51 h52 n53 fun v54 h55 n56 => yc .add .int zS (I 1) fun v57 => R (F98.fr c d o p i l q y w z a v54 v4 vH g s u v B A D v57 v1 vQ vR) h55 n56)))))))))))))))))))))) (K (F98.fr c d o p i l q y w z a zA zB zC g s u v B A D zS v1 zU zV) h nx)) = .ok True) :
  IR.run F98.b13 C N ((((rO id K0).blk 1 E1).blk 2 E2).blk 3 E3) K (F98.fr c d o p i l q y w z a b f e g s u v B A D E F G H) h nx = .ok True := by
 rw [F98.b13, F98.g13_eq, F98.b14];refine yI (fun m tm h nx => ∃ zA zB zC zS zT zU zV, tm = (F98.fr c d o p i l q y w z a zA zB zC g s u v B A D zS zT zU zV) /\ Inv m zA zS h nx) ?_ hm ⟨_, _, _, _, _, _, _, rfl, hi⟩;rintro m tm h nx R ⟨zA, zB, zC, zS, zT, zU, zV, rfl, hi⟩ hR;refine Eq.trans ?_ (step m zA zB zC zS zT zU zV h nx R hi fun m' wA wB wC wL wM wN wO h' nx' hlt hi' => hR m' _ h' nx' hlt ⟨_, _, _, _, _, _, _, rfl, hi'⟩)
 kernel_rfl
theorem F92.tab : T.get none (.of 92) tbl = some F92 := by kernel_rfl
theorem F92.go : zW tbl N C (.of 92) [a0, a1] h nx K0 =
 sBox a0 h nx fun v1 h2 n3 => yE [.jl] h2 n3 fun v4 h5 n6 => yE [.zf] h5 n6 fun v7 h8 n9 => yE [(I 0)] h8 n9 fun vA hG nG => zF v1 hG fun vE => sLen vE fun vF => yc .eql .int vF (I 0) fun vG => zF v1 hG fun vH => sLen vH fun vI => yc .gtr .int vI (I 1536) fun vJ => C.fn 95 (.of 95) [a1] hG nG fun vK hD nD => (yc .gtr .int vI (I 1536) fun v76 => zN v76 vJ ((sLen vH fun v75 => zN v75 vI ((zF v1 hD fun v74 => zN v74 vH ((yc .eql .int vF (I 0) fun v73 => zN v73 vG ((sLen vE fun v72 => zN v72 vF ((zF v1 hD fun v71 => zN v71 vE (C.fn 96 (.of 96) [vG, (I 12)] hD nD fun vN hL nM => (yc .gtr .int vI (I 1536) fun v70 => zN v70 vJ ((sLen vH fun v69 => zN v69 vI ((zF v1 hL fun v68 => zN v68 vH (C.fn 96 (.of 96) [vJ, (I 5)] hL nM fun v25 hM nN => y0 1 3 [(I 0)] [(0, 1, vK), (1, 1, vN), (2, 1, v25)] hM nN fun vU hV nV => C.fn 94 (.of 94) [vU] hV nV fun vR h32 n33 => yc .neq .int vR (I 0) fun vZ => yA vZ (zM 1 v4 .jl h32 n33 fun vY hX nX => zM 1 v7 .zf hX nX fun v38 hY nY => zM 1 vA vR hY nY fun v41 h42 n43 => zF v4 h42 fun v44 => zF v7 h42 fun v45 => zF vA h42 fun v46 => K0 (.tup [v44, v45, v46]) h42 n43) (zF v1 h32 fun v47 => C.fn 97 (.of 97) [v47, a1] h32 n33 fun v48 h49 n50 => yc .neq .int v48 (I 0) fun v51 => yA v51 (zM 1 v4 .jl h49 n50 fun v52 h53 n54 => zM 1 v7 .zf h53 n54 fun v55 h56 n57 => zM 1 vA v48 h56 n57 fun v58 h59 n60 => zF v4 h59 fun v61 => zF v7 h59 fun v62 => zF vA h59 fun v63 => K0 (.tup [v61, v62, v63]) h59 n60) (zF v1 h49 fun v64 => C.fn 90 (.of 90) [v64] h49 n50 fun v65 h66 n67 => IR.run (.rf (.t (.of 15)) [(.of 16), (.of 17)] F92.b5 F92.b6) C N ((fnO F92.res K0).blk 0 (IR.run F92.b8 C N (fnO F92.res K0) (qj F92.res K0))) (IR.run F92.b8 C N (fnO F92.res K0) (qj F92.res K0)) (F92.fr a0 a1 v1 v4 v7 vA vR v48 .undef .undef .undef .undef .undef vZ v51 v65 .undef .undef .undef .undef) h66 n67)))))))))))))))))))) := by
 rw [zL F92.tab]; kernel_rfl
theorem F92.k8 : IR.run F92.b8 C N (fnO F92.res K0) K (F92.fr c d o p i l q y w z a b f e g s u v B A) h nx =
 zF o h fun v1 => zF o h fun v2 => sLen v2 fun v3 => C.fn 98 (.of 98) [v1, d, v3] h nx fun v4 h5 n6 => mW 0 v4 fun v7 => mW 1 v4 fun v8 => mW 2 v4 fun v9 => sNot v9 fun vA => sG vA false (fun k => k v7) fun vB => sG vA false (fun k => sMlen vB h5 k) fun vD => sG vA false (fun k => zF o h5 k) fun vE => sG vA false (fun k => sLen vE k) fun vF => sG vA false (fun k => yc .neq .int vD vF k) fun vG => uR vA (.bool true) vG fun vH => yA vH (zM 1 p .jl h5 n6 fun vI h18 n19 => zM 1 i .zf h18 n19 fun vL hI nJ => zM 1 l (I 28) hI nJ fun vP hE nE => zF p hE fun vW => zF i hE fun vV => zF l hE fun vU => K0 (.tup [vW, vV, vU]) hE nE) ((IR.run F92.b9 C N (fnO F92.res K0) K) (F92.fr c d o p i l q y w z v7 v8 v9 e g s u v B vH) h5 n6) := by kernel_rfl
theorem F92.p6 {N : Nat} {C : Calls Prop} {K0 : Kw Prop} {id nx : Pa} {j : Jump} {h : T Blk} {c d o p i l q y w z a b f e g s u v B A z0 z1 : AV} (hl : T.get .no id h = .loop .ready j (F92.fr c d o p i l q y w z a b f e g s u v B A) [.of 16, .of 17] F92.b5 F92.b6) :
 qQ N C id [z0, z1] h nx K0 =
 yE [.zf, (.bool false)] h nx fun v1 h2 n3 => zM 2 v1 z1 h2 n3 fun v4 h5 n6 => rMid N C id K0 F92.b6 (F92.fr c d o p i l q y z0 v1 a b f e g s z0 z1 B A) h5 n6 := by
 rw [rnd_gen hl (tm1 := (F92.fr c d o p i l q y w z a b f e g s z0 z1 B A)) (by intro k; kernel_rfl)]; kernel_rfl
theorem F92.y6 {N : Nat} {C : Calls Prop} {K0 : Kw Prop} {id nx : Pa} {h : T Blk} {c d o p i l q y w z a b f e g s u v B A : AV} :
 IR.run F92.b6 C N (rO id K0) (yM id K0 .none true) (F92.fr c d o p i l q y w z a b f e g s u v B A) h nx =
 yc .gtr .int w (I 0) fun v1 => sG v1 true (fun k => zF o h k) fun v2 => sG v1 true (fun k => k w) fun v3 => sG v1 true (fun k => yc .sub .int v3 (I 1) k) fun v4 => sG v1 true (fun k => zO 2 v2 v4 k) fun v5 => sG v1 true (fun k => zK 2 v5 h k) fun v6 => sG v1 true (fun k => zK 2 z h k) fun v7 => sGW v1 true (fun k => C.fn 162 (.of 162) [v6, v7] h nx k) h nx fun v8 h9 nH => sG v1 true (fun k => yc .geq .int v8 (I 0) k) fun vB => uR v1 vB (.bool false) fun vD => yA vD (zM 1 p .jl h9 nH fun vE hH nI => zM 1 i .zf hH nI fun vH hF nF => zM 1 l (I 11) hF nF fun vK hD nD => yM id K0 .ret false .e hD nD) (yM id K0 .none true .e h9 nH) := by kernel_rfl
theorem F92.k9 : IR.run F92.b9 C N (fnO F92.res K0) K (F92.fr c d o p i l q y w z a b f e g s u v B A) h nx =
 zM 1 p a h nx fun v1 h2 n3 => zM 1 i b h2 n3 fun v4 h5 n6 => zM 1 l (I 0) h5 n6 fun v7 h8 n9 => zF p h8 fun vA => zF i h8 fun vB => zF l h8 fun vD => K0 (.tup [vA, vB, vD]) h8 n9 := by kernel_rfl
theorem F22.tab : T.get none (.of 22) tbl = some F22 := by kernel_rfl
theorem F22.go : zW tbl N C (.of 22) [a0, a1] h nx K0 =
 C.fn 92 (.of 92) [a0, a1] h nx fun v1 h2 n3 => mW 0 v1 fun v4 => mW 1 v1 fun v5 => mW 2 v1 fun v6 => K0 v6 h2 n3 := by
 rw [zL F22.tab]; kernel_rfl
end Go.Ev
namespace Go.Ev
open Go Go.Proofs
set_option maxRecDepth 100000
section
variable {N : Nat} {C : Calls Prop} {K0 : Kw Prop} {K : Ks Prop} {h : T Blk} {nx : Pa} {c d o p i l q y w z a b a0 a1 : AV} {O : um Prop} {tm : T AV} {Kt : KTm} {r : List RO} {s0 s1 s2 s3 s4 s5 s6 s7 s8 s9 s10 s11 s12 s13 s14 s15 s16 s17 s18 s19 s20 s21 s22 s23 s24 s25 s26 s27 s28 s29 s30 s31 s32 s33 s34 s35 s36 s37 s38 s39 : AV}
def F19.t0 : IR := .reg [.q (.of 2) (.mv (.c (.bool false)))]
def F19.t1 : IR := .reg [.s (.mv (.t (.of 0))), .s (.len (.s 0)), .s (.mv (.t (.of 1))), .q (.of 4) (.bin .gtr .int (.s 1) (.s 0))]
def F19.t2 : IR := .reg [.q (.of 2) (.mv (.c (.bool true)))]
def F19.t3 : IR := .seq F19.t2 .ret
def F19.t4 : IR := .cond (.t (.of 4)) F19.t3 .skip
def F19.t5 : IR := .seq F19.t1 F19.t4
def F19.t6 : IR := .reg [.q (.of 3) (.mv (.c (I 0)))]
def F19.t7 : IR := .reg [.s (.mv (.t (.of 3))), .s (.mv (.t (.of 0))), .s (.len (.s 0)), .q (.of 5) (.bin .lss .int (.s 2) (.s 0))]
def F19.t8 : IR := .cond (.t (.of 5)) .skip (.exit 0)
def F19.t9 : IR := .seq F19.t7 F19.t8
def F19.t10 : IR := .reg [.s (.mv (.t (.of 0))), .s (.mv (.t (.of 3))), .s (.zk 2 (.s 1) (.s 0)), .s (.zn 0 (.s 0)), .s (.load (.s 0)), .s (.len (.s 0)), .q (.of 6) (.bin .gtr .int (.s 0) (.c (I 16)))]
def F19.t11 : IR := .reg [.q (.of 2) (.mv (.c (.bool true)))]
def F19.t12 : IR := .seq F19.t11 .ret
def F19.t13 : IR := .cond (.t (.of 6)) F19.t12 .skip
def F19.t14 : IR := .seq F19.t10 F19.t13
def F19.t15 : IR := .block 1 F19.t14
def F19.t16 : IR := .reg [.s (.mv (.t (.of 3))), .s (.bin .add .int (.s 0) (.c (I 1))), .q (.of 3) (.mv (.s 0))]
def F19.t17 : IR := .seq F19.t15 F19.t16
def F19.t18 : IR := .seq F19.t9 F19.t17
def F19.t19 : IR := .loop F19.t18
def F19.t20 : IR := .block 0 F19.t19
def F19.t21 : IR := .seq F19.t6 F19.t20
def F19.t22 : IR := .reg [.q (.of 2) (.mv (.c (.bool false)))]
def F19.t23 : IR := .seq F19.t22 .ret
def F19.t24 : IR := .seq F19.t21 F19.t23
def F19.t25 : IR := .seq F19.t5 F19.t24
def F19.t26 : IR := .seq F19.t0 F19.t25
theorem F19.t0_s : IR.run F19.t0 C N O K (F19.fr c d o p i l q) h nx =
 K (F19.fr c d (.bool false) p i l q) h nx := by kernel_rfl
theorem F19.t1_s : IR.run F19.t1 C N O K (F19.fr c d o p i l q) h nx =
 sLen c fun v1 => yc .gtr .int v1 d fun v2 => K (F19.fr c d o p v2 l q) h nx := by kernel_rfl
theorem F19.t2_s : IR.run F19.t2 C N O K (F19.fr c d o p i l q) h nx =
 K (F19.fr c d (.bool true) p i l q) h nx := by kernel_rfl
theorem F19.v4 : Arg.ev (.t (.of 4)) ⟨(F19.fr c d o p i l q), []⟩ = i := by kernel_rfl
theorem F19.t6_s : IR.run F19.t6 C N O K (F19.fr c d o p i l q) h nx =
 K (F19.fr c d o (I 0) i l q) h nx := by kernel_rfl
theorem F19.t7_s : IR.run F19.t7 C N O K (F19.fr c d o p i l q) h nx =
 sLen c fun v1 => yc .lss .int p v1 fun v2 => K (F19.fr c d o p i v2 q) h nx := by kernel_rfl
theorem F19.v5 : Arg.ev (.t (.of 5)) ⟨(F19.fr c d o p i l q), []⟩ = l := by kernel_rfl
theorem F19.t10_s : IR.run F19.t10 C N O K (F19.fr c d o p i l q) h nx =
 zO 2 c p fun v1 => zP 0 v1 fun v2 => zF v2 h fun v3 => sLen v3 fun v4 => yc .gtr .int v4 (I 16) fun v5 => K (F19.fr c d o p i l v5) h nx := by kernel_rfl
theorem F19.t11_s : IR.run F19.t11 C N O K (F19.fr c d o p i l q) h nx =
 K (F19.fr c d (.bool true) p i l q) h nx := by kernel_rfl
theorem F19.v6 : Arg.ev (.t (.of 6)) ⟨(F19.fr c d o p i l q), []⟩ = q := by kernel_rfl
theorem F19.t16_s : IR.run F19.t16 C N O K (F19.fr c d o p i l q) h nx =
 yc .add .int p (I 1) fun v1 => K (F19.fr c d o v1 i l q) h nx := by kernel_rfl
theorem F19.t19_L (Inv : Nat -> AV -> T Blk -> Pa -> Prop) {m : Nat} (hm : m < N) (hi : Inv m p h nx)
  (step : ∀ (m : Nat) (z2 z3 z5 z6 : AV) (h : T Blk) (nx : Pa) (R : Ks Prop), Inv m z3 h nx -> (∀ (m' : Nat) (w2 w3 w5 w6 : AV) (h' : T Blk) (nx' : Pa), m' < m -> Inv m' w3 h' nx' -> R (F19.fr c d w2 w3 i w5 w6) h' nx' = .ok True) -> IR.run F19.t18 C N O R (F19.fr c d z2 z3 i z5 z6) h nx = .ok True) :
  IR.run F19.t19 C N O K (F19.fr c d o p i l q) h nx = .ok True := by
 rw [F19.t19];refine yI (fun m tm h nx => ∃ z2 z3 z5 z6, tm = (F19.fr c d z2 z3 i z5 z6) /\ Inv m z3 h nx) ?_ hm ⟨_, _, _, _, rfl, hi⟩;rintro m tm h nx R ⟨z2, z3, z5, z6, rfl, hi⟩ hR;exact step m z2 z3 z5 z6 h nx R hi fun m' w2 w3 w5 w6 h' nx' hlt hi' => hR m' _ h' nx' hlt ⟨_, _, _, _, rfl, hi'⟩
theorem F19.t22_s : IR.run F19.t22 C N O K (F19.fr c d o p i l q) h nx =
 K (F19.fr c d (.bool false) p i l q) h nx := by kernel_rfl
theorem F19.tab : T.get none (.of 19) tbl = some F19 := by kernel_rfl
theorem F19.bind (k : T AV -> OP) : yK F19.params [a0, a1] F19.init k = k (F19.fr a0 a1 .undef .undef .undef .undef .undef) := by kernel_rfl
theorem F19.uz : F19.body = F19.t26 := by kernel_rfl
theorem F19.go : zW tbl N C (.of 19) [a0, a1] h nx K0 = IR.run F19.t26 C N (fnO F19.res K0) (qj F19.res K0) (F19.fr a0 a1 .undef .undef .undef .undef .undef) h nx := by
 rw [zL F19.tab, F19.bind, F19.uz]; kernel_rfl
theorem F19.ret : qj F19.res K0 (F19.fr c d o p i l q) h nx = K0 o h nx := by kernel_rfl
end
end Go.Ev
namespace Go.Ev
open Go Go.Proofs
set_option maxRecDepth 100000
section
variable {N : Nat} {C : Calls Prop} {K0 : Kw Prop} {K : Ks Prop} {h : T Blk} {nx : Pa} {c d o p i l q a0 a1 a2 a3 : AV} {O : um Prop} {tm : T AV} {Kt : KTm} {r : List RO} {s0 s1 s2 s3 s4 s5 s6 s7 s8 s9 s10 s11 s12 s13 s14 s15 s16 s17 s18 s19 s20 s21 s22 s23 s24 s25 s26 s27 s28 s29 s30 s31 s32 s33 s34 s35 s36 s37 s38 s39 : AV}
def F23.t0 : IR := .reg [.q (.of 4) (.mv (.c (.bool false)))]
def F23.t1 : IR := .reg [.s (.mv (.t (.of 2))), .q (.of 5) (.bin .neq .int (.s 0) (.c (I 0)))]
def F23.t2 : IR := .reg [.s (.mv (.t (.of 0))), .s (.len (.s 0)), .s (.bin .eql .int (.s 0) (.c (I 0))), .s (.mv (.s 0)), .p .push (some ((.s 0), true)) (.mv (.t (.of 1))), .p .push (some ((.s 1), true)) (.mv (.t (.of 2))), .p .push (some ((.s 2), true)) (.bin .eql .int (.s 1) (.s 0)), .s (.pick (.s 3) (.s 0) (.c (.bool false))), .q (.of 4) (.mv (.s 0))]
def F23.t3 : IR := .seq F23.t2 .ret
def F23.t4 : IR := .cond (.t (.of 5)) F23.t3 .skip
def F23.t5 : IR := .seq F23.t1 F23.t4
def F23.t6 : IR := .reg [.s (.mv (.t (.of 1))), .s (.bin .eql .int (.s 0) (.c (I 0))), .s (.mv (.s 0)), .p .push (some ((.s 0), true)) (.mv (.t (.of 0))), .p .push (some ((.s 1), true)) (.mv (.t (.of 3))), .w .push (some ((.s 2), true)) (.call (.c (.fn 81 (.of 81) [])) [(.s 1), (.s 0)]), .s (.pick (.s 3) (.s 0) (.c (.bool false))), .q (.of 4) (.mv (.s 0))]
def F23.t7 : IR := .seq F23.t6 .ret
def F23.t8 : IR := .seq F23.t5 F23.t7
def F23.t9 : IR := .seq F23.t0 F23.t8
theorem F23.t0_s : IR.run F23.t0 C N O K (F23.fr c d o p i l) h nx =
 K (F23.fr c d o p (.bool false) l) h nx := by kernel_rfl
theorem F23.t1_s : IR.run F23.t1 C N O K (F23.fr c d o p i l) h nx =
 yc .neq .int o (I 0) fun v1 => K (F23.fr c d o p i v1) h nx := by kernel_rfl
theorem F23.t2_s : IR.run F23.t2 C N O K (F23.fr c d o p i l) h nx =
 sLen c fun v1 => yc .eql .int v1 (I 0) fun v2 => sG v2 true (fun k => k d) fun v3 => sG v2 true (fun k => k o) fun v4 => sG v2 true (fun k => yc .eql .int v3 v4 k) fun v5 => uR v2 v5 (.bool false) fun v6 => K (F23.fr c d o p v6 l) h nx := by kernel_rfl
theorem F23.v5 : Arg.ev (.t (.of 5)) ⟨(F23.fr c d o p i l), []⟩ = l := by kernel_rfl
theorem F23.t6_s : IR.run F23.t6 C N O K (F23.fr c d o p i l) h nx =
 yc .eql .int d (I 0) fun v1 => sG v1 true (fun k => k c) fun v2 => sG v1 true (fun k => k p) fun v3 => sGW v1 true (fun k => C.fn 81 (.of 81) [v2, v3] h nx k) h nx fun v4 h5 n6 => uR v1 v4 (.bool false) fun v7 => K (F23.fr c d o p v7 l) h5 n6 := by kernel_rfl
theorem F23.tab : T.get none (.of 23) tbl = some F23 := by kernel_rfl
theorem F23.bind (k : T AV -> OP) : yK F23.params [a0, a1, a2, a3] F23.init k = k (F23.fr a0 a1 a2 a3 .undef .undef) := by kernel_rfl
theorem F23.uz : F23.body = F23.t9 := by kernel_rfl
theorem F23.go : zW tbl N C (.of 23) [a0, a1, a2, a3] h nx K0 = IR.run F23.t9 C N (fnO F23.res K0) (qj F23.res K0) (F23.fr a0 a1 a2 a3 .undef .undef) h nx := by
 rw [zL F23.tab, F23.bind, F23.uz]; kernel_rfl
theorem F23.ret : qj F23.res K0 (F23.fr c d o p i l) h nx = K0 i h nx := by kernel_rfl
def F81.t0 : IR := .reg [.q (.of 2) (.mv (.c (.bool false)))]
def F81.t1 : IR := .reg [.s (.mv (.t (.of 0))), .s (.len (.s 0)), .s (.mv (.t (.of 1))), .s (.len (.s 0)), .q (.of 4) (.bin .neq .int (.s 2) (.s 0))]
def F81.t2 : IR := .reg [.q (.of 2) (.mv (.c (.bool false)))]
def F81.t3 : IR := .seq F81.t2 .ret
def F81.t4 : IR := .cond (.t (.of 4)) F81.t3 .skip
def F81.t5 : IR := .seq F81.t1 F81.t4
def F81.t6 : IR := .reg [.q (.of 3) (.mv (.c (I 0)))]
def F81.t7 : IR := .reg [.s (.mv (.t (.of 3))), .s (.mv (.t (.of 0))), .s (.len (.s 0)), .q (.of 5) (.bin .lss .int (.s 2) (.s 0))]
def F81.t8 : IR := .cond (.t (.of 5)) .skip (.exit 0)
def F81.t9 : IR := .seq F81.t7 F81.t8
def F81.t10 : IR := .yg [] [(.s (.mv (.t (.of 0))), 0, []), (.s (.mv (.t (.of 3))), 0, []), (.s (.zk 1 (.s 1) (.s 0)), 0, []), (.s (.load (.s 0)), 0, []), (.s (.mv (.t (.of 1))), 0, []), (.s (.mv (.t (.of 3))), 0, []), (.s (.zk 1 (.s 1) (.s 0)), 0, []), (.s (.load (.s 0)), 0, []), (.w .push none (.call (.c (.fn 82 (.of 82) [])) [(.s 4), (.s 0)]), 0, []), (.q (.of 6) (.not (.s 0)), 0, [])]
def F81.t11 : IR := .reg [.q (.of 2) (.mv (.c (.bool false)))]
def F81.t12 : IR := .seq F81.t11 .ret
def F81.t13 : IR := .cond (.t (.of 6)) F81.t12 .skip
def F81.t14 : IR := .seq F81.t10 F81.t13
def F81.t15 : IR := .block 1 F81.t14
def F81.t16 : IR := .reg [.s (.mv (.t (.of 3))), .s (.bin .add .int (.s 0) (.c (I 1))), .q (.of 3) (.mv (.s 0))]
def F81.t17 : IR := .seq F81.t15 F81.t16
def F81.t18 : IR := .seq F81.t9 F81.t17
def F81.t19 : IR := .loop F81.t18
def F81.t20 : IR := .block 0 F81.t19
def F81.t21 : IR := .seq F81.t6 F81.t20
def F81.t22 : IR := .reg [.q (.of 2) (.mv (.c (.bool true)))]
def F81.t23 : IR := .seq F81.t22 .ret
def F81.t24 : IR := .seq F81.t21 F81.t23
def F81.t25 : IR := .seq F81.t5 F81.t24
def F81.t26 : IR := .seq F81.t0 F81.t25
theorem F81.t0_s : IR.run F81.t0 C N O K (F81.fr c d o p i l q) h nx =
 K (F81.fr c d (.bool false) p i l q) h nx := by kernel_rfl
theorem F81.t1_s : IR.run F81.t1 C N O K (F81.fr c d o p i l q) h nx =
 sLen c fun v1 => sLen d fun v2 => yc .neq .int v1 v2 fun v3 => K (F81.fr c d o p v3 l q) h nx := by kernel_rfl
theorem F81.v4 : Arg.ev (.t (.of 4)) ⟨(F81.fr c d o p i l q), []⟩ = i := by kernel_rfl
theorem F81.t6_s : IR.run F81.t6 C N O K (F81.fr c d o p i l q) h nx =
 K (F81.fr c d o (I 0) i l q) h nx := by kernel_rfl
theorem F81.t7_s : IR.run F81.t7 C N O K (F81.fr c d o p i l q) h nx =
 sLen c fun v1 => yc .lss .int p v1 fun v2 => K (F81.fr c d o p i v2 q) h nx := by kernel_rfl
theorem F81.v5 : Arg.ev (.t (.of 5)) ⟨(F81.fr c d o p i l q), []⟩ = l := by kernel_rfl
theorem F81.t10_s : IR.run F81.t10 C N O K (F81.fr c d o p i l q) h nx =
 zO 1 c p fun v1 => zF v1 h fun v2 => zO 1 d p fun v3 => zF v3 h fun v4 => C.fn 82 (.of 82) [v2, v4] h nx fun v5 h6 n7 => sNot v5 fun v8 => K (F81.fr c d o p i l v8) h6 n7 := by kernel_rfl
theorem F81.v6 : Arg.ev (.t (.of 6)) ⟨(F81.fr c d o p i l q), []⟩ = q := by kernel_rfl
theorem F81.t16_s : IR.run F81.t16 C N O K (F81.fr c d o p i l q) h nx =
 yc .add .int p (I 1) fun v1 => K (F81.fr c d o v1 i l q) h nx := by kernel_rfl
theorem F81.t19_L (Inv : Nat -> AV -> T Blk -> Pa -> Prop) {m : Nat} (hm : m < N) (hi : Inv m p h nx)
  (step : ∀ (m : Nat) (z2 z3 z5 z6 : AV) (h : T Blk) (nx : Pa) (R : Ks Prop), Inv m z3 h nx -> (∀ (m' : Nat) (w2 w3 w5 w6 : AV) (h' : T Blk) (nx' : Pa), m' < m -> Inv m' w3 h' nx' -> R (F81.fr c d w2 w3 i w5 w6) h' nx' = .ok True) -> IR.run F81.t18 C N O R (F81.fr c d z2 z3 i z5 z6) h nx = .ok True) :
  IR.run F81.t19 C N O K (F81.fr c d o p i l q) h nx = .ok True := by
 rw [F81.t19];refine yI (fun m tm h nx => ∃ z2 z3 z5 z6, tm = (F81.fr c d z2 z3 i z5 z6) /\ Inv m z3 h nx) ?_ hm ⟨_, _, _, _, rfl, hi⟩;rintro m tm h nx R ⟨z2, z3, z5, z6, rfl, hi⟩ hR;exact step m z2 z3 z5 z6 h nx R hi fun m' w2 w3 w5 w6 h' nx' hlt hi' => hR m' _ h' nx' hlt ⟨_, _, _, _, rfl, hi'⟩
theorem F81.t22_s : IR.run F81.t22 C N O K (F81.fr c d o p i l q) h nx =
 K (F81.fr c d (.bool true) p i l q) h nx := by kernel_rfl
theorem F81.tab : T.get none (.of 81) tbl = some F81 := by kernel_rfl
theorem F81.bind (k : T AV -> OP) : yK F81.params [a0, a1] F81.init k = k (F81.fr a0 a1 .undef .undef .undef .undef .undef) := by kernel_rfl
theorem F81.uz : F81.body = F81.t26 := by kernel_rfl
theorem F81.go : zW tbl N C (.of 81) [a0, a1] h nx K0 = IR.run F81.t26 C N (fnO F81.res K0) (qj F81.res K0) (F81.fr a0 a1 .undef .undef .undef .undef .undef) h nx := by
 rw [zL F81.tab, F81.bind, F81.uz]; kernel_rfl
theorem F81.ret : qj F81.res K0 (F81.fr c d o p i l q) h nx = K0 o h nx := by kernel_rfl
end
end Go.Ev
namespace Go.Ev
open Go Go.Proofs
set_option maxRecDepth 100000
section
variable {N : Nat} {C : Calls Prop} {K0 : Kw Prop} {K : Ks Prop} {h : T Blk} {nx : Pa} {c d o p i l q y w z a b f e g s a0 a1 a2 a3 : AV} {O : um Prop} {tm : T AV} {Kt : KTm} {r : List RO} {s0 s1 s2 s3 s4 s5 s6 s7 s8 s9 s10 s11 s12 s13 s14 s15 s16 s17 s18 s19 s20 s21 s22 s23 s24 s25 s26 s27 s28 s29 s30 s31 s32 s33 s34 s35 s36 s37 s38 s39 : AV}
end
end Go.Ev
namespace Go.Ev
open Go Go.Proofs
set_option maxRecDepth 100000
section
variable {N : Nat} {C : Calls Prop} {K0 : Kw Prop} {K : Ks Prop} {h : T Blk} {nx : Pa} {c d o p i l q y w z a b f e g s u v a0 a1 a2 : AV} {O : um Prop} {tm : T AV} {Kt : KTm} {r : List RO} {s0 s1 s2 s3 s4 s5 s6 s7 s8 s9 s10 s11 s12 s13 s14 s15 s16 s17 s18 s19 s20 s21 s22 s23 s24 s25 s26 s27 s28 s29 s30 s31 s32 s33 s34 s35 s36 s37 s38 s39 : AV}
def zh.t0 : IR := .reg [.q (.of 3) (.mv (.c .jl)), .w (.loc (.of 4)) none (.alloc [.zf, .zf]), .q (.of 5) (.mv (.c (I 0)))]
def zh.t1 : IR := .reg [.w (.loc (.of 6)) none (.alloc [.zf, .zf])]
def zh.t2 : IR := .reg [.s (.mv (.t (.of 0))), .s (.mv (.t (.of 2))), .w .push none (.call (.c (.fn 92 (.of 92) [])) [(.s 1), (.s 0)]), .s (.mv (.s 0)), .s (.ext 0 (.s 0)), .s (.ext 1 (.s 1)), .s (.ext 2 (.s 2)), .q (.of 7) (.mv (.s 2)), .q (.of 8) (.mv (.s 1)), .q (.of 9) (.mv (.s 0))]
def zh.t3 : IR := .reg [.s (.mv (.t (.of 9))), .q (.of 13) (.bin .neq .int (.s 0) (.c (I 0)))]
def zh.t4 : IR := .yg [] [(.s (.zi 2 (.t (.of 6))), 0, []), (.s (.mv (.t (.of 9))), 1, []), (.q (.of 3) (.mv (.c .jl)), 0, []), (.w .none none (.store 2 (.t (.of 4)) (.s 1)), 0, []), (.q (.of 5) (.mv (.s 0)), 0, [])]
def zh.t5 : IR := .seq zh.t4 .ret
def zh.t6 : IR := .cond (.t (.of 13)) zh.t5 .skip
def zh.t7 : IR := .seq zh.t3 zh.t6
def zh.t8 : IR := .reg [.s (.mv (.t (.of 1))), .s (.mv (.t (.of 2))), .w .push none (.call (.c (.fn 92 (.of 92) [])) [(.s 1), (.s 0)]), .s (.mv (.s 0)), .s (.ext 0 (.s 0)), .s (.ext 1 (.s 1)), .s (.ext 2 (.s 2)), .q (.of 10) (.mv (.s 2)), .q (.of 11) (.mv (.s 1)), .q (.of 9) (.mv (.s 0))]
def zh.t9 : IR := .reg [.s (.mv (.t (.of 9))), .q (.of 14) (.bin .neq .int (.s 0) (.c (I 0)))]
def zh.t10 : IR := .yg [] [(.s (.zi 2 (.t (.of 6))), 0, []), (.s (.mv (.t (.of 9))), 1, []), (.q (.of 3) (.mv (.c .jl)), 0, []), (.w .none none (.store 2 (.t (.of 4)) (.s 1)), 0, []), (.q (.of 5) (.mv (.s 0)), 0, [])]
def zh.t11 : IR := .seq zh.t10 .ret
def zh.t12 : IR := .cond (.t (.of 14)) zh.t11 .skip
def zh.t13 : IR := .seq zh.t9 zh.t12
def zh.t14 : IR := .reg [.s (.mv (.t (.of 10))), .w (.loc (.of 15)) none (.range (.s 0))]
def zh.t15 : IR := .reg [.w .push none (.next (.t (.of 15))), .q (.of 16) (.ext 0 (.s 0))]
def zh.t16 : IR := .cond (.t (.of 16)) .skip (.exit 0)
def zh.t17 : IR := .reg [.s (.entry (.t (.of 15))), .s (.ext 1 (.s 0)), .w (.loc (.of 12)) none (.alloc [.zf, (.bool false)]), .w .none none (.store 2 (.t (.of 12)) (.s 0))]
def zh.t18 : IR := .reg [.s (.mv (.t (.of 7))), .s (.zi 2 (.t (.of 12))), .w .push none (.call (.c (.fn 121 (.of 121) [])) [(.s 1), (.s 0)]), .q (.of 17) (.not (.s 0))]
def zh.t19 : IR := .yg [] [(.s (.zi 2 (.t (.of 6))), 0, []), (.q (.of 3) (.mv (.c .jl)), 0, []), (.w .none none (.store 2 (.t (.of 4)) (.s 0)), 0, []), (.q (.of 5) (.mv (.c (I 28))), 0, [])]
def zh.t20 : IR := .seq zh.t19 .ret
def zh.t21 : IR := .cond (.t (.of 17)) zh.t20 .skip
def zh.t22 : IR := .seq zh.t18 zh.t21
def zh.t23 : IR := .seq zh.t17 zh.t22
def zh.t24 : IR := .block 1 zh.t23
def zh.t25 : IR := .seq zh.t16 zh.t24
def zh.t26 : IR := .seq zh.t15 zh.t25
def zh.t27 : IR := .loop zh.t26
def zh.t28 : IR := .block 0 zh.t27
def zh.t29 : IR := .seq zh.t14 zh.t28
def zh.t30 : IR := .reg [.s (.mv (.t (.of 8))), .s (.mv (.t (.of 11))), .s (.aaddr 1 2 (.t (.of 6)) (.c (I 0))), .w .none none (.store 1 (.s 0) (.s 2)), .s (.aaddr 1 2 (.t (.of 6)) (.c (I 1))), .w .none none (.store 1 (.s 0) (.s 2))]
def zh.t31 : IR := .yg [] [(.s (.mv (.t (.of 10))), 0, []), (.s (.zi 2 (.t (.of 6))), 0, []), (.q (.of 3) (.mv (.s 1)), 0, []), (.w .none none (.store 2 (.t (.of 4)) (.s 0)), 0, []), (.q (.of 5) (.mv (.c (I 0))), 0, [])]
def zh.t32 : IR := .seq zh.t31 .ret
def zh.t33 : IR := .seq zh.t30 zh.t32
def zh.t34 : IR := .seq zh.t29 zh.t33
def zh.t35 : IR := .seq zh.t13 zh.t34
def zh.t36 : IR := .seq zh.t8 zh.t35
def zh.t37 : IR := .seq zh.t7 zh.t36
def zh.t38 : IR := .seq zh.t2 zh.t37
def zh.t39 : IR := .seq zh.t1 zh.t38
def zh.t40 : IR := .seq zh.t0 zh.t39
theorem zh.t0_s : IR.run zh.t0 C N O K (zh.fr c d o p i l q y w z a b f e g s u v) h nx =
 yE [.zf, .zf] h nx fun v1 h2 n3 => K (zh.fr c d o .jl v1 (I 0) q y w z a b f e g s u v) h2 n3 := by kernel_rfl
theorem zh.t1_s : IR.run zh.t1 C N O K (zh.fr c d o p i l q y w z a b f e g s u v) h nx =
 yE [.zf, .zf] h nx fun v1 h2 n3 => K (zh.fr c d o p i l v1 y w z a b f e g s u v) h2 n3 := by kernel_rfl
theorem zh.t2_s : IR.run zh.t2 C N O K (zh.fr c d o p i l q y w z a b f e g s u v) h nx =
 C.fn 92 (.of 92) [c, o] h nx fun v1 h2 n3 => mW 0 v1 fun v4 => mW 1 v1 fun v5 => mW 2 v1 fun v6 => K (zh.fr c d o p i l q v4 v5 v6 a b f e g s u v) h2 n3 := by kernel_rfl
theorem zh.t3_s : IR.run zh.t3 C N O K (zh.fr c d o p i l q y w z a b f e g s u v) h nx =
 yc .neq .int z (I 0) fun v1 => K (zh.fr c d o p i l q y w z a b f v1 g s u v) h nx := by kernel_rfl
theorem zh.t4_s : IR.run zh.t4 C N O K (zh.fr c d o p i l q y w z a b f e g s u v) h nx =
 zK 2 q h fun v1 => zM 2 i v1 h nx fun v2 h3 n4 => zN z z (K (zh.fr c d o .jl i z q y w z a b f e g s u v) h3 n4) := by kernel_rfl
theorem zh.v13 : Arg.ev (.t (.of 13)) ⟨(zh.fr c d o p i l q y w z a b f e g s u v), []⟩ = e := by kernel_rfl
theorem zh.t8_s : IR.run zh.t8 C N O K (zh.fr c d o p i l q y w z a b f e g s u v) h nx =
 C.fn 92 (.of 92) [d, o] h nx fun v1 h2 n3 => mW 0 v1 fun v4 => mW 1 v1 fun v5 => mW 2 v1 fun v6 => K (zh.fr c d o p i l q y w v6 v4 v5 f e g s u v) h2 n3 := by kernel_rfl
theorem zh.t9_s : IR.run zh.t9 C N O K (zh.fr c d o p i l q y w z a b f e g s u v) h nx =
 yc .neq .int z (I 0) fun v1 => K (zh.fr c d o p i l q y w z a b f e v1 s u v) h nx := by kernel_rfl
theorem zh.t10_s : IR.run zh.t10 C N O K (zh.fr c d o p i l q y w z a b f e g s u v) h nx =
 zK 2 q h fun v1 => zM 2 i v1 h nx fun v2 h3 n4 => zN z z (K (zh.fr c d o .jl i z q y w z a b f e g s u v) h3 n4) := by kernel_rfl
theorem zh.v14 : Arg.ev (.t (.of 14)) ⟨(zh.fr c d o p i l q y w z a b f e g s u v), []⟩ = g := by kernel_rfl
theorem zh.t14_s : IR.run zh.t14 C N O K (zh.fr c d o p i l q y w z a b f e g s u v) h nx =
 sRange a h nx fun v1 h2 n3 => K (zh.fr c d o p i l q y w z a b f e g v1 u v) h2 n3 := by kernel_rfl
theorem zh.t15_s : IR.run zh.t15 C N O K (zh.fr c d o p i l q y w z a b f e g s u v) h nx =
 sNext C s h nx fun v1 h2 n3 => mW 0 v1 fun v4 => K (zh.fr c d o p i l q y w z a b f e g s v4 v) h2 n3 := by kernel_rfl
theorem zh.v16 : Arg.ev (.t (.of 16)) ⟨(zh.fr c d o p i l q y w z a b f e g s u v), []⟩ = u := by kernel_rfl
theorem zh.t17_s : IR.run zh.t17 C N O K (zh.fr c d o p i l q y w z a b f e g s u v) h nx =
 sEntry s h fun v1 => mW 1 v1 fun v2 => yE [.zf, (.bool false)] h nx fun v3 h4 n5 => zM 2 v3 v2 h4 n5 fun v6 h7 n8 => K (zh.fr c d o p i l q y w z a b v3 e g s u v) h7 n8 := by kernel_rfl
theorem zh.t18_s : IR.run zh.t18 C N O K (zh.fr c d o p i l q y w z a b f e g s u v) h nx =
 zK 2 f h fun v1 => C.fn 121 (.of 121) [y, v1] h nx fun v2 h3 n4 => sNot v2 fun v5 => K (zh.fr c d o p i l q y w z a b f e g s u v5) h3 n4 := by kernel_rfl
theorem zh.t19_s : IR.run zh.t19 C N O K (zh.fr c d o p i l q y w z a b f e g s u v) h nx =
 zK 2 q h fun v1 => zM 2 i v1 h nx fun v2 h3 n4 => K (zh.fr c d o .jl i (I 28) q y w z a b f e g s u v) h3 n4 := by kernel_rfl
theorem zh.v17 : Arg.ev (.t (.of 17)) ⟨(zh.fr c d o p i l q y w z a b f e g s u v), []⟩ = v := by kernel_rfl
theorem zh.t27_L (Inv : Nat -> T Blk -> Pa -> Prop) {m : Nat} (hm : m < N) (hi : Inv m h nx)
  (step : ∀ (m : Nat) (z3 z5 zB zG zH : AV) (h : T Blk) (nx : Pa) (R : Ks Prop), Inv m h nx -> (∀ (m' : Nat) (w3 w5 wB wF wG : AV) (h' : T Blk) (nx' : Pa), m' < m -> Inv m' h' nx' -> R (zh.fr c d o w3 i w5 q y w z a b wB e g s wF wG) h' nx' = .ok True) -> IR.run zh.t26 C N O R (zh.fr c d o z3 i z5 q y w z a b zB e g s zG zH) h nx = .ok True) :
  IR.run zh.t27 C N O K (zh.fr c d o p i l q y w z a b f e g s u v) h nx = .ok True := by
 rw [zh.t27];refine yI (fun m tm h nx => ∃ z3 z5 zB zG zH, tm = (zh.fr c d o z3 i z5 q y w z a b zB e g s zG zH) /\ Inv m h nx) ?_ hm ⟨_, _, _, _, _, rfl, hi⟩;rintro m tm h nx R ⟨z3, z5, zB, zG, zH, rfl, hi⟩ hR;exact step m z3 z5 zB zG zH h nx R hi fun m' w3 w5 wB wF wG h' nx' hlt hi' => hR m' _ h' nx' hlt ⟨_, _, _, _, _, rfl, hi'⟩
theorem zh.t30_s : IR.run zh.t30 C N O K (zh.fr c d o p i l q y w z a b f e g s u v) h nx =
 vO 1 2 q (I 0) fun v1 => zM 1 v1 w h nx fun v2 h3 n4 => vO 1 2 q (I 1) fun v5 => zM 1 v5 b h3 n4 fun v6 h7 n8 => K (zh.fr c d o p i l q y w z a b f e g s u v) h7 n8 := by kernel_rfl
theorem zh.t31_s : IR.run zh.t31 C N O K (zh.fr c d o p i l q y w z a b f e g s u v) h nx =
 zK 2 q h fun v1 => zM 2 i v1 h nx fun v2 h3 n4 => K (zh.fr c d o a i (I 0) q y w z a b f e g s u v) h3 n4 := by kernel_rfl
theorem zh.tab : T.get none (.of 120) tbl = some zh := by kernel_rfl
theorem zh.bind (k : T AV -> OP) : yK zh.params [a0, a1, a2] zh.init k = k (zh.fr a0 a1 a2 .undef .undef .undef .undef .undef .undef .undef .undef .undef .undef .undef .undef .undef .undef .undef) := by kernel_rfl
theorem zh.uz : zh.body = zh.t40 := by kernel_rfl
theorem zh.go : zW tbl N C (.of 120) [a0, a1, a2] h nx K0 = IR.run zh.t40 C N (fnO zh.res K0) (qj zh.res K0) (zh.fr a0 a1 a2 .undef .undef .undef .undef .undef .undef .undef .undef .undef .undef .undef .undef .undef .undef .undef) h nx := by
 rw [zL zh.tab, zh.bind, zh.uz]; kernel_rfl
theorem zh.ret : qj zh.res K0 (zh.fr c d o p i l q y w z a b f e g s u v) h nx = zK 2 i h fun v1 => K0 (.tup [p, v1, l]) h nx := by kernel_rfl
def F27.t0 : IR := .reg [.q (.of 2) (.mv (.c .zf)), .q (.of 3) (.mv (.c (I 0)))]
def F27.t1 : IR := .reg [.s (.mv (.t (.of 1))), .w .push none (.call (.c (.fn 95 (.of 95) [])) [(.s 0)]), .s (.mv (.t (.of 0))), .s (.len (.s 0)), .s (.bin .gtr .int (.s 0) (.c (I 256))), .w .push none (.call (.c (.fn 96 (.of 96) [])) [(.s 0), (.c (I 5))]), .w .push none (.zy 1 2 [(I 0)] [(0, 1, (.s 4)), (1, 1, (.s 0))]), .w .push none (.call (.c (.fn 94 (.of 94) [])) [(.s 0)]), .q (.of 4) (.mv (.s 0))]
def F27.t2 : IR := .reg [.s (.mv (.t (.of 4))), .q (.of 8) (.bin .neq .int (.s 0) (.c (I 0)))]
def F27.t3 : IR := .reg [.s (.mv (.t (.of 4))), .q (.of 2) (.mv (.c .zf)), .q (.of 3) (.mv (.s 0))]
def F27.t4 : IR := .seq F27.t3 .ret
def F27.t5 : IR := .cond (.t (.of 8)) F27.t4 .skip
def F27.t6 : IR := .seq F27.t2 F27.t5
def F27.t7 : IR := .seq F27.t1 F27.t6
def F27.t8 : IR := .reg [.s (.mv (.t (.of 0))), .s (.mv (.t (.of 1))), .w .push none (.call (.c (.fn 97 (.of 97) [])) [(.s 1), (.s 0)]), .q (.of 5) (.mv (.s 0))]
def F27.t9 : IR := .reg [.s (.mv (.t (.of 5))), .q (.of 9) (.bin .neq .int (.s 0) (.c (I 0)))]
def F27.t10 : IR := .reg [.s (.mv (.t (.of 5))), .q (.of 2) (.mv (.c .zf)), .q (.of 3) (.mv (.s 0))]
def F27.t11 : IR := .seq F27.t10 .ret
def F27.t12 : IR := .cond (.t (.of 9)) F27.t11 .skip
def F27.t13 : IR := .seq F27.t9 F27.t12
def F27.t14 : IR := .seq F27.t8 F27.t13
def F27.t15 : IR := .reg [.s (.mv (.t (.of 0))), .s (.mv (.t (.of 1))), .w .push none (.call (.c (.fn 98 (.of 98) [])) [(.s 1), (.s 0), (.c (I 1536))]), .s (.mv (.s 0)), .s (.ext 0 (.s 0)), .s (.ext 1 (.s 1)), .s (.ext 2 (.s 2)), .q (.of 6) (.mv (.s 2)), .s (.mv (.s 1)), .q (.of 7) (.mv (.s 1))]
def F27.t16 : IR := .reg [.s (.mv (.t (.of 7))), .q (.of 10) (.not (.s 0))]
def F27.t17 : IR := .reg [.q (.of 2) (.mv (.c .zf)), .q (.of 3) (.mv (.c (I 20)))]
def F27.t18 : IR := .seq F27.t17 .ret
def F27.t19 : IR := .cond (.t (.of 10)) F27.t18 .skip
def F27.t20 : IR := .seq F27.t16 F27.t19
def F27.t21 : IR := .reg [.s (.mv (.t (.of 6))), .w .push none (.call (.c (.fn 99 (.of 99) [])) [(.s 0)]), .q (.of 2) (.mv (.s 0)), .q (.of 3) (.mv (.c (I 0)))]
def F27.t22 : IR := .seq F27.t21 .ret
def F27.t23 : IR := .seq F27.t20 F27.t22
def F27.t24 : IR := .seq F27.t15 F27.t23
def F27.t25 : IR := .seq F27.t14 F27.t24
def F27.t26 : IR := .seq F27.t7 F27.t25
def F27.t27 : IR := .seq F27.t0 F27.t26
theorem F27.t0_s : IR.run F27.t0 C N O K (F27.fr c d o p i l q y w z a) h nx =
 K (F27.fr c d .zf (I 0) i l q y w z a) h nx := by kernel_rfl
theorem F27.t1_s : IR.run F27.t1 C N O K (F27.fr c d o p i l q y w z a) h nx =
 C.fn 95 (.of 95) [d] h nx fun v1 h2 n3 => sLen c fun v4 => yc .gtr .int v4 (I 256) fun v5 => C.fn 96 (.of 96) [v5, (I 5)] h2 n3 fun v6 h7 n8 => y0 1 2 [(I 0)] [(0, 1, v1), (1, 1, v6)] h7 n8 fun v9 hU nU => C.fn 94 (.of 94) [v9] hU nU fun vD h13 n14 => K (F27.fr c d o p vD l q y w z a) h13 n14 := by kernel_rfl
theorem F27.t2_s : IR.run F27.t2 C N O K (F27.fr c d o p i l q y w z a) h nx =
 yc .neq .int i (I 0) fun v1 => K (F27.fr c d o p i l q y v1 z a) h nx := by kernel_rfl
theorem F27.t3_s : IR.run F27.t3 C N O K (F27.fr c d o p i l q y w z a) h nx =
 K (F27.fr c d .zf i i l q y w z a) h nx := by kernel_rfl
theorem F27.v8 : Arg.ev (.t (.of 8)) ⟨(F27.fr c d o p i l q y w z a), []⟩ = w := by kernel_rfl
theorem F27.t8_s : IR.run F27.t8 C N O K (F27.fr c d o p i l q y w z a) h nx =
 C.fn 97 (.of 97) [c, d] h nx fun v1 h2 n3 => K (F27.fr c d o p i v1 q y w z a) h2 n3 := by kernel_rfl
theorem F27.t9_s : IR.run F27.t9 C N O K (F27.fr c d o p i l q y w z a) h nx =
 yc .neq .int l (I 0) fun v1 => K (F27.fr c d o p i l q y w v1 a) h nx := by kernel_rfl
theorem F27.t10_s : IR.run F27.t10 C N O K (F27.fr c d o p i l q y w z a) h nx =
 K (F27.fr c d .zf l i l q y w z a) h nx := by kernel_rfl
theorem F27.v9 : Arg.ev (.t (.of 9)) ⟨(F27.fr c d o p i l q y w z a), []⟩ = z := by kernel_rfl
theorem F27.t15_s : IR.run F27.t15 C N O K (F27.fr c d o p i l q y w z a) h nx =
 C.fn 98 (.of 98) [c, d, (I 1536)] h nx fun v1 h2 n3 => mW 0 v1 fun v4 => mW 1 v1 fun v5 => mW 2 v1 fun v6 => K (F27.fr c d o p i l v4 v6 w z a) h2 n3 := by kernel_rfl
theorem F27.t16_s : IR.run F27.t16 C N O K (F27.fr c d o p i l q y w z a) h nx =
 sNot y fun v1 => K (F27.fr c d o p i l q y w z v1) h nx := by kernel_rfl
theorem F27.t17_s : IR.run F27.t17 C N O K (F27.fr c d o p i l q y w z a) h nx =
 K (F27.fr c d .zf (I 20) i l q y w z a) h nx := by kernel_rfl
theorem F27.v10 : Arg.ev (.t (.of 10)) ⟨(F27.fr c d o p i l q y w z a), []⟩ = a := by kernel_rfl
theorem F27.t21_s : IR.run F27.t21 C N O K (F27.fr c d o p i l q y w z a) h nx =
 C.fn 99 (.of 99) [q] h nx fun v1 h2 n3 => K (F27.fr c d v1 (I 0) i l q y w z a) h2 n3 := by kernel_rfl
theorem F27.tab : T.get none (.of 27) tbl = some F27 := by kernel_rfl
theorem F27.bind (k : T AV -> OP) : yK F27.params [a0, a1] F27.init k = k (F27.fr a0 a1 .undef .undef .undef .undef .undef .undef .undef .undef .undef) := by kernel_rfl
theorem F27.uz : F27.body = F27.t27 := by kernel_rfl
theorem F27.go : zW tbl N C (.of 27) [a0, a1] h nx K0 = IR.run F27.t27 C N (fnO F27.res K0) (qj F27.res K0) (F27.fr a0 a1 .undef .undef .undef .undef .undef .undef .undef .undef .undef) h nx := by
 rw [zL F27.tab, F27.bind, F27.uz]; kernel_rfl
theorem F27.ret : qj F27.res K0 (F27.fr c d o p i l q y w z a) h nx = K0 (.tup [o, p]) h nx := by kernel_rfl
end
end Go.Ev
namespace Go.Ev
open Go Go.Proofs
set_option maxRecDepth 100000
variable {N : Nat} {C : Calls Prop} {K0 : Kw Prop} {K R : Ks Prop} {h : T Blk} {nx : Pa} {c d o p i l q a0 a1 a2 y w z a b f e g s u v B A D E F G H : AV}
theorem F99.bf (X2 : IR) (O : um Prop) (t : T AV) : IR.run (F99.g1 X2) C N O K t h nx = IR.run X2 C N (O.blk 0 K) K t h nx := by kernel_rfl
theorem F99.g7_eq (X8 : IR) (O : um Prop) (t : T AV) : IR.run (F99.g7 X8) C N O K t h nx = IR.run X8 C N (O.blk 2 K) K t h nx := by kernel_rfl
theorem F99.tab : T.get none (.of 99) tbl = some F99 := by kernel_rfl
theorem F99.go : zW tbl N C (.of 99) [a0] h nx K0 =
 sRange a0 h nx fun v1 h2 n3 => IR.run F99.b1 C N (fnO F99.res K0) (IR.run F99.b6 C N (fnO F99.res K0) (qj F99.res K0)) (F99.fr a0 .zf .zf .undef .undef .undef v1 .undef .undef .undef .undef .undef) h2 n3 := by
 rw [zL F99.tab]; kernel_rfl
theorem F99.L1 (Inv : Nat -> AV -> T Blk -> Pa -> Prop) {m : Nat} (hm : m < N) (hi : Inv m o h nx)
  (step : ∀ (m : Nat) (z2 z3 z7 : AV) (h : T Blk) (nx : Pa) (R : Ks Prop), Inv m z2 h nx -> (∀ (m' : Nat) (w2 w3 w7 : AV) (h' : T Blk) (nx' : Pa), m' < m -> Inv m' w2 h' nx' -> R (F99.fr c d w2 w3 i l q w7 w z a b) h' nx' = .ok True) ->
   (sNext C q h nx fun v1 h2 n3 => mW 0 v1 fun v4 => yA v4 (sEntry q h2 fun v5 => mW 1 v5 fun v6 => yE [.zf, (.bool false)] h2 n3 fun v7 h8 n9 => zM 2 v7 v6 h8 n9 fun vA hG nG => zK 2 v7 hG fun vE => y0 2 1 [.zf, (.bool false)] [(0, 2, vE)] hG nG fun vF hA nA => vC C 2 32 z2 vF hA nA fun vI h18 n19 => R (F99.fr c d vI v7 i l q v4 w z a b) h18 n19) (K (F99.fr c d z2 z3 i l q v4 w z a b) h2 n3)) = .ok True) :
  IR.run F99.b1 C N (fnO F99.res K0) K (F99.fr c d o p i l q y w z a b) h nx = .ok True := by
 rw [F99.b1, F99.bf, F99.b2];refine yI (fun m tm h nx => ∃ z2 z3 z7, tm = (F99.fr c d z2 z3 i l q z7 w z a b) /\ Inv m z2 h nx) ?_ hm ⟨_, _, _, rfl, hi⟩;rintro m tm h nx R ⟨z2, z3, z7, rfl, hi⟩ hR;refine Eq.trans ?_ (step m z2 z3 z7 h nx R hi fun m' w2 w3 w7 h' nx' hlt hi' => hR m' _ h' nx' hlt ⟨_, _, _, rfl, hi'⟩)
 kernel_rfl
theorem F99.k6 : IR.run F99.b6 C N (fnO F99.res K0) K (F99.fr c d o p i l q y w z a b) h nx =
 C.fn 164 (.of 164) [o, (.fn 162 (.of 162) [])] h nx fun v1 h2 n3 => sLen o fun v4 => IR.run F99.b7 C N (fnO F99.res K0) (IR.run F99.b14 C N (fnO F99.res K0) K) (F99.fr c d o p .zf l q y o v4 (I 0) b) h2 n3 := by kernel_rfl
theorem F99.L7 (Inv : Nat -> AV -> AV -> T Blk -> Pa -> Prop) {m : Nat} (hm : m < N) (hi : Inv m i a h nx)
  (step : ∀ (m : Nat) (z4 z5 zI zA : AV) (h : T Blk) (nx : Pa) (R : Ks Prop), Inv m z4 zI h nx -> (∀ (m' : Nat) (w4 w5 wH wA : AV) (h' : T Blk) (nx' : Pa), m' < m -> Inv m' w4 wH h' nx' -> R (F99.fr c d o p w4 w5 q y w z wH wA) h' nx' = .ok True) ->
   (yc .lss .int zI z fun v1 => yA v1 (zO 2 w zI fun v2 => zK 2 v2 h fun v3 => yE [.zf, (.bool false)] h nx fun v4 h5 n6 => zM 2 v4 v3 h5 n6 fun v7 h8 n9 => zK 2 v4 h8 fun vA => y0 2 1 [.zf, (.bool false)] [(0, 2, vA)] h8 n9 fun vB hB nB => vC C 2 32 z4 vB hB nB fun vF hA nA => yc .add .int zI (I 1) fun vI => R (F99.fr c d o p vF v4 q y w z vI v1) hA nA) (K (F99.fr c d o p z4 z5 q y w z zI v1) h nx)) = .ok True) :
  IR.run F99.b7 C N (fnO F99.res K0) K (F99.fr c d o p i l q y w z a b) h nx = .ok True := by
 rw [F99.b7, F99.g7_eq, F99.b8];refine yI (fun m tm h nx => ∃ z4 z5 zI zA, tm = (F99.fr c d o p z4 z5 q y w z zI zA) /\ Inv m z4 zI h nx) ?_ hm ⟨_, _, _, _, rfl, hi⟩;rintro m tm h nx R ⟨z4, z5, zI, zA, rfl, hi⟩ hR;refine Eq.trans ?_ (step m z4 z5 zI zA h nx R hi fun m' w4 w5 wH wA h' nx' hlt hi' => hR m' _ h' nx' hlt ⟨_, _, _, _, rfl, hi'⟩)
 kernel_rfl
theorem F99.k14 : IR.run F99.b14 C N (fnO F99.res K0) K (F99.fr c d o p i l q y w z a b) h nx =
 K0 i h nx := by kernel_rfl
end Go.Ev
namespace Go.Ev
open Go Go.Proofs
set_option maxRecDepth 100000
section
variable {N : Nat} {C : Calls Prop} {K0 : Kw Prop} {K : Ks Prop} {h : T Blk} {nx : Pa} {c d o p i l q y w z a b f e g s u v B A a0 a1 a2 : AV} {O : um Prop} {tm : T AV} {Kt : KTm} {r : List RO} {s0 s1 s2 s3 s4 s5 s6 s7 s8 s9 s10 s11 s12 s13 s14 s15 s16 s17 s18 s19 s20 s21 s22 s23 s24 s25 s26 s27 s28 s29 s30 s31 s32 s33 s34 s35 s36 s37 s38 s39 : AV}
def F39.t0 : IR := .reg [.w (.loc (.of 3)) none (.box (.t (.of 1))), .q (.of 4) (.mv (.c .zf)), .q (.of 5) (.mv (.c (I 0)))]
def F39.t1 : IR := .reg [.s (.mv (.t (.of 0))), .s (.load (.t (.of 3))), .s (.mv (.t (.of 2))), .w .push none (.call (.c (.fn 120 (.of 120) [])) [(.s 2), (.s 1), (.s 0)]), .s (.mv (.s 0)), .s (.ext 0 (.s 0)), .s (.ext 1 (.s 1)), .s (.ext 2 (.s 2)), .w .push none (.alloc [.zf, .zf]), .s (.mv (.s 3)), .w .none none (.store 2 (.s 1) (.s 3)), .q (.of 6) (.mv (.s 2))]
def F39.t2 : IR := .reg [.s (.mv (.t (.of 6))), .q (.of 12) (.bin .neq .int (.s 0) (.c (I 0)))]
def F39.t3 : IR := .reg [.s (.mv (.t (.of 6))), .q (.of 4) (.mv (.c .zf)), .q (.of 5) (.mv (.s 0))]
def F39.t4 : IR := .seq F39.t3 .ret
def F39.t5 : IR := .cond (.t (.of 12)) F39.t4 .skip
def F39.t6 : IR := .seq F39.t2 F39.t5
def F39.t7 : IR := .seq F39.t1 F39.t6
def F39.t8 : IR := .reg [.w .push none .mkmap, .w (.loc (.of 7)) none (.alloc [.jl]), .w .none none (.store 1 (.t (.of 7)) (.s 0))]
def F39.t9 : IR := .reg [.w (.loc (.of 8)) none (.alloc [.zf])]
def F39.t10 : IR := .reg [.s (.mv (.t (.of 0))), .w (.loc (.of 13)) none (.call (.c (.fn 90 (.of 90) [])) [(.s 0)])]
def F39.t11 : IR := .reg [.w (.loc (.of 9)) none (.alloc [.zf, (.bool false)]), .w .none none (.store 2 (.t (.of 9)) (.t (.of 15)))]
def F39.t12 : IR := .reg [.s (.load (.t (.of 7))), .s (.zi 2 (.t (.of 9))), .w (.loc (.of 16)) none (.call (.c (.fn 121 (.of 121) [])) [(.s 1), (.s 0)])]
def F39.t13 : IR := .cond (.t (.of 16)) (.exit 1) .skip
def F39.t14 : IR := .seq F39.t12 F39.t13
def F39.t15 : IR := .reg [.s (.load (.t (.of 3))), .w (.loc (.of 17)) none (.call (.c (.fn 90 (.of 90) [])) [(.s 0)])]
def F39.t16 : IR := .reg [.w (.loc (.of 10)) none (.alloc [.zf, (.bool false)]), .w .none none (.store 2 (.t (.of 10)) (.t (.of 19)))]
def F39.t17 : IR := .reg [.s (.zi 2 (.t (.of 9))), .s (.zi 2 (.t (.of 10))), .w .push none (.call (.c (.fn 122 (.of 122) [])) [(.s 1), (.s 0)]), .w (.loc (.of 11)) none (.alloc [.zf, (.bool false)]), .w .none none (.store 2 (.t (.of 11)) (.s 0))]
def F39.t18 : IR := .yg [] [(.s (.load (.t (.of 7))), 1, []), (.s (.zi 2 (.t (.of 11))), 0, []), (.s (.zi 2 (.t (.of 11))), 1, []), (.w .push none (.call (.c (.fn 123 (.of 123) [])) [(.s 1)]), 0, []), (.w .none none (.mapup .str (.s 3) (.s 0) (.s 1)), 0, [])]
def F39.t19 : IR := .seq F39.t17 F39.t18
def F39.t20 : IR := .block 3 F39.t19
def F39.t21 : IR := .rf (.t (.of 17)) [(.of 18), (.of 19)] F39.t16 F39.t20
def F39.t22 : IR := .block 2 F39.t21
def F39.t23 : IR := .seq F39.t15 F39.t22
def F39.t24 : IR := .yg [] [(.s (.load (.t (.of 8))), 2, []), (.s (.zn 0 (.t (.of 9))), 0, []), (.s (.load (.s 0)), 0, []), (.s (.zn 1 (.t (.of 9))), 1, []), (.s (.load (.s 0)), 1, []), (.w .push none (.call (.c (.fn 106 (.of 106) [])) [(.s 2)]), 0, []), (.s (.build [.zf, (.bool false)] [(0, 1, (.s 0)), (1, 1, (.s 1))]), 0, []), (.w .push none (.zy 2 1 [.zf, (.bool false)] [(0, 2, (.s 0))]), 0, []), (.w .push none (.appq 2 32 (.s 7) (.s 0)), 0, []), (.w .none none (.store 1 (.t (.of 8)) (.s 0)), 0, [])]
def F39.t25 : IR := .seq F39.t23 F39.t24
def F39.t26 : IR := .seq F39.t14 F39.t25
def F39.t27 : IR := .block 1 F39.t26
def F39.t28 : IR := .rf (.t (.of 13)) [(.of 14), (.of 15)] F39.t11 F39.t27
def F39.t29 : IR := .block 0 F39.t28
def F39.t30 : IR := .seq F39.t10 F39.t29
def F39.t31 : IR := .reg [.s (.load (.t (.of 8))), .q (.of 4) (.mv (.s 0)), .q (.of 5) (.mv (.c (I 0)))]
def F39.t32 : IR := .seq F39.t31 .ret
def F39.t33 : IR := .seq F39.t30 F39.t32
def F39.t34 : IR := .seq F39.t9 F39.t33
def F39.t35 : IR := .seq F39.t8 F39.t34
def F39.t36 : IR := .seq F39.t7 F39.t35
def F39.t37 : IR := .seq F39.t0 F39.t36
theorem F39.t0_s : IR.run F39.t0 C N O K (F39.fr c d o p i l q y w z a b f e g s u v B A) h nx =
 sBox d h nx fun v1 h2 n3 => K (F39.fr c d o v1 .zf (I 0) q y w z a b f e g s u v B A) h2 n3 := by kernel_rfl
theorem F39.t1_s : IR.run F39.t1 C N O K (F39.fr c d o p i l q y w z a b f e g s u v B A) h nx =
 zF p h fun v1 => C.fn 120 (.of 120) [c, v1, o] h nx fun v2 h3 n4 => mW 0 v2 fun v5 => mW 1 v2 fun v6 => mW 2 v2 fun v7 => yE [.zf, .zf] h3 n4 fun v8 h9 nH => zM 2 v8 v6 h9 nH fun vB hB nB => K (F39.fr c d o p i l v7 y w z a b f e g s u v B A) hB nB := by kernel_rfl
theorem F39.t2_s : IR.run F39.t2 C N O K (F39.fr c d o p i l q y w z a b f e g s u v B A) h nx =
 yc .neq .int q (I 0) fun v1 => K (F39.fr c d o p i l q y w z a b v1 e g s u v B A) h nx := by kernel_rfl
theorem F39.v12 : Arg.ev (.t (.of 12)) ⟨(F39.fr c d o p i l q y w z a b f e g s u v B A), []⟩ = f := by kernel_rfl
theorem F39.t8_s : IR.run F39.t8 C N O K (F39.fr c d o p i l q y w z a b f e g s u v B A) h nx =
 sMkmap h nx fun v1 h2 n3 => yE [.jl] h2 n3 fun v4 h5 n6 => zM 1 v4 v1 h5 n6 fun v7 h8 n9 => K (F39.fr c d o p i l q v4 w z a b f e g s u v B A) h8 n9 := by kernel_rfl
theorem F39.t9_s : IR.run F39.t9 C N O K (F39.fr c d o p i l q y w z a b f e g s u v B A) h nx =
 yE [.zf] h nx fun v1 h2 n3 => K (F39.fr c d o p i l q y v1 z a b f e g s u v B A) h2 n3 := by kernel_rfl
theorem F39.t10_s : IR.run F39.t10 C N O K (F39.fr c d o p i l q y w z a b f e g s u v B A) h nx =
 C.fn 90 (.of 90) [c] h nx fun v1 h2 n3 => K (F39.fr c d o p i l q y w z a b f v1 g s u v B A) h2 n3 := by kernel_rfl
theorem F39.t11_s : IR.run F39.t11 C N O K (F39.fr c d o p i l q y w z a b f e g s u v B A) h nx =
 yE [.zf, (.bool false)] h nx fun v1 h2 n3 => zM 2 v1 s h2 n3 fun v4 h5 n6 => K (F39.fr c d o p i l q y w v1 a b f e g s u v B A) h5 n6 := by kernel_rfl
theorem F39.t12_s : IR.run F39.t12 C N O K (F39.fr c d o p i l q y w z a b f e g s u v B A) h nx =
 zF y h fun v1 => zK 2 z h fun v2 => C.fn 121 (.of 121) [v1, v2] h nx fun v3 h4 n5 => K (F39.fr c d o p i l q y w z a b f e g s v3 v B A) h4 n5 := by kernel_rfl
theorem F39.v16 : Arg.ev (.t (.of 16)) ⟨(F39.fr c d o p i l q y w z a b f e g s u v B A), []⟩ = u := by kernel_rfl
theorem F39.t15_s : IR.run F39.t15 C N O K (F39.fr c d o p i l q y w z a b f e g s u v B A) h nx =
 zF p h fun v1 => C.fn 90 (.of 90) [v1] h nx fun v2 h3 n4 => K (F39.fr c d o p i l q y w z a b f e g s u v2 B A) h3 n4 := by kernel_rfl
theorem F39.t16_s : IR.run F39.t16 C N O K (F39.fr c d o p i l q y w z a b f e g s u v B A) h nx =
 yE [.zf, (.bool false)] h nx fun v1 h2 n3 => zM 2 v1 A h2 n3 fun v4 h5 n6 => K (F39.fr c d o p i l q y w z v1 b f e g s u v B A) h5 n6 := by kernel_rfl
theorem F39.t17_s : IR.run F39.t17 C N O K (F39.fr c d o p i l q y w z a b f e g s u v B A) h nx =
 zK 2 z h fun v1 => zK 2 a h fun v2 => C.fn 122 (.of 122) [v1, v2] h nx fun v3 h4 n5 => yE [.zf, (.bool false)] h4 n5 fun v6 h7 n8 => zM 2 v6 v3 h7 n8 fun v9 hU nU => K (F39.fr c d o p i l q y w z a v6 f e g s u v B A) hU nU := by kernel_rfl
theorem F39.t18_s : IR.run F39.t18 C N O K (F39.fr c d o p i l q y w z a b f e g s u v B A) h nx =
 zF y h fun v1 => zK 2 b h fun v2 => zK 2 b h fun v3 => C.fn 123 (.of 123) [v2] h nx fun v4 h5 n6 => (zK 2 b h5 fun vB => zN vB v3 ((zF y h5 fun vA => zN vA v1 (pF .str v1 v4 v3 h5 n6 fun v7 h8 n9 => K (F39.fr c d o p i l q y w z a b f e g s u v B A) h8 n9)))) := by kernel_rfl
theorem F39.t21_f : Arg.ev (.t (.of 17)) ⟨(F39.fr c d o p i l q y w z a b f e g s u v B A), []⟩ = v := by kernel_rfl
theorem F39.t21_b {z0 z1 : AV} (k : T AV -> OP) : yK [(.of 18), (.of 19)] [z0, z1] (F39.fr c d o p i l q y w z a b f e g s u v B A) k = k (F39.fr c d o p i l q y w z a b f e g s u v z0 z1) := by kernel_rfl
theorem F39.t24_s : IR.run F39.t24 C N O K (F39.fr c d o p i l q y w z a b f e g s u v B A) h nx =
 zF w h fun v1 => zP 0 z fun v2 => zF v2 h fun v3 => zP 1 z fun v4 => zF v4 h fun v5 => C.fn 106 (.of 106) [v3] h nx fun v6 h7 n8 => (zF v4 h7 fun vN => zN vN v5 ((zP 1 z fun vM => zN vM v4 ((zF w h7 fun vL => zN vL v1 (qA [.zf, (.bool false)] [(0, 1, v6), (1, 1, v5)] fun v9 => y0 2 1 [.zf, (.bool false)] [(0, 2, v9)] h7 n8 fun vA hG nG => (zF w hG fun vK => zN vK v1 (vC C 2 32 v1 vA hG nG fun vE hH nI => zM 1 w vE hH nI fun vH hF nF => K (F39.fr c d o p i l q y w z a b f e g s u v B A) hF nF)))))))) := by kernel_rfl
theorem F39.t28_f : Arg.ev (.t (.of 13)) ⟨(F39.fr c d o p i l q y w z a b f e g s u v B A), []⟩ = e := by kernel_rfl
theorem F39.t28_b {z0 z1 : AV} (k : T AV -> OP) : yK [(.of 14), (.of 15)] [z0, z1] (F39.fr c d o p i l q y w z a b f e g s u v B A) k = k (F39.fr c d o p i l q y w z a b f e z0 z1 u v B A) := by kernel_rfl
theorem F39.t31_s : IR.run F39.t31 C N O K (F39.fr c d o p i l q y w z a b f e g s u v B A) h nx =
 zF w h fun v1 => K (F39.fr c d o p v1 (I 0) q y w z a b f e g s u v B A) h nx := by kernel_rfl
theorem F39.tab : T.get none (.of 39) tbl = some F39 := by kernel_rfl
theorem F39.bind (k : T AV -> OP) : yK F39.params [a0, a1, a2] F39.init k = k (F39.fr a0 a1 a2 .undef .undef .undef .undef .undef .undef .undef .undef .undef .undef .undef .undef .undef .undef .undef .undef .undef) := by kernel_rfl
theorem F39.uz : F39.body = F39.t37 := by kernel_rfl
theorem F39.go : zW tbl N C (.of 39) [a0, a1, a2] h nx K0 = IR.run F39.t37 C N (fnO F39.res K0) (qj F39.res K0) (F39.fr a0 a1 a2 .undef .undef .undef .undef .undef .undef .undef .undef .undef .undef .undef .undef .undef .undef .undef .undef .undef) h nx := by
 rw [zL F39.tab, F39.bind, F39.uz]; kernel_rfl
theorem F39.ret : qj F39.res K0 (F39.fr c d o p i l q y w z a b f e g s u v B A) h nx = K0 (.tup [i, l]) h nx := by kernel_rfl
def F40.t0 : IR := .reg [.q (.of 3) (.mv (.c (.bool false))), .q (.of 4) (.mv (.c (I 0)))]
def F40.t1 : IR := .reg [.s (.mv (.t (.of 0))), .s (.mv (.t (.of 1))), .s (.mv (.t (.of 2))), .w .push none (.call (.c (.fn 120 (.of 120) [])) [(.s 2), (.s 1), (.s 0)]), .s (.mv (.s 0)), .s (.ext 0 (.s 0)), .s (.ext 1 (.s 1)), .s (.ext 2 (.s 2)), .w (.loc (.of 6)) none (.alloc [.zf, .zf]), .q (.of 5) (.mv (.s 2)), .w .none none (.store 2 (.t (.of 6)) (.s 1)), .q (.of 7) (.mv (.s 0))]
def F40.t2 : IR := .reg [.s (.mv (.t (.of 7))), .q (.of 10) (.bin .neq .int (.s 0) (.c (I 0)))]
def F40.t3 : IR := .reg [.s (.mv (.t (.of 7))), .q (.of 3) (.mv (.c (.bool false))), .q (.of 4) (.mv (.s 0))]
def F40.t4 : IR := .seq F40.t3 .ret
def F40.t5 : IR := .cond (.t (.of 10)) F40.t4 .skip
def F40.t6 : IR := .seq F40.t2 F40.t5
def F40.t7 : IR := .reg [.s (.aaddr 1 2 (.t (.of 6)) (.c (I 0))), .q (.of 11) (.load (.s 0)), .q (.of 12) (.len (.t (.of 11))), .q (.of 13) (.mv (.c (I 0)))]
def F40.t8 : IR := .reg [.q (.of 14) (.bin .lss .int (.t (.of 13)) (.t (.of 12)))]
def F40.t9 : IR := .cond (.t (.of 14)) .skip (.exit 0)
def F40.t10 : IR := .reg [.s (.zk 2 (.t (.of 11)) (.t (.of 13))), .s (.zi 2 (.s 0)), .w (.loc (.of 8)) none (.alloc [.zf, (.bool false)]), .w .none none (.store 2 (.t (.of 8)) (.s 0))]
def F40.t11 : IR := .reg [.s (.aaddr 1 2 (.t (.of 6)) (.c (I 1))), .q (.of 15) (.load (.s 0)), .q (.of 16) (.len (.t (.of 15))), .q (.of 17) (.mv (.c (I 0)))]
def F40.t12 : IR := .reg [.q (.of 18) (.bin .lss .int (.t (.of 17)) (.t (.of 16)))]
def F40.t13 : IR := .cond (.t (.of 18)) .skip (.exit 2)
def F40.t14 : IR := .reg [.s (.zk 2 (.t (.of 15)) (.t (.of 17))), .s (.zi 2 (.s 0)), .w (.loc (.of 9)) none (.alloc [.zf, (.bool false)]), .w .none none (.store 2 (.t (.of 9)) (.s 0))]
def F40.t15 : IR := .yg [] [(.s (.mv (.t (.of 5))), 3, []), (.s (.zi 2 (.t (.of 8))), 0, []), (.s (.zi 2 (.t (.of 9))), 0, []), (.s (.zi 2 (.t (.of 8))), 1, []), (.w .push none (.call (.c (.fn 122 (.of 122) [])) [(.s 2), (.s 1)]), 0, []), (.w .push none (.call (.c (.fn 124 (.of 124) [])) [(.s 1)]), 0, []), (.w .push none (.call (.c (.fn 122 (.of 122) [])) [(.s 1), (.s 0)]), 0, []), (.w .push none (.call (.c (.fn 121 (.of 121) [])) [(.s 6), (.s 0)]), 0, []), (.q (.of 19) (.not (.s 0)), 0, [])]
def F40.t16 : IR := .reg [.q (.of 3) (.mv (.c (.bool false))), .q (.of 4) (.mv (.c (I 0)))]
def F40.t17 : IR := .seq F40.t16 .ret
def F40.t18 : IR := .cond (.t (.of 19)) F40.t17 .skip
def F40.t19 : IR := .seq F40.t15 F40.t18
def F40.t20 : IR := .seq F40.t14 F40.t19
def F40.t21 : IR := .block 3 F40.t20
def F40.t22 : IR := .reg [.s (.bin .add .int (.t (.of 17)) (.c (I 1))), .q (.of 17) (.mv (.s 0))]
def F40.t23 : IR := .seq F40.t21 F40.t22
def F40.t24 : IR := .seq F40.t13 F40.t23
def F40.t25 : IR := .seq F40.t12 F40.t24
def F40.t26 : IR := .loop F40.t25
def F40.t27 : IR := .block 2 F40.t26
def F40.t28 : IR := .seq F40.t11 F40.t27
def F40.t29 : IR := .seq F40.t10 F40.t28
def F40.t30 : IR := .block 1 F40.t29
def F40.t31 : IR := .reg [.s (.bin .add .int (.t (.of 13)) (.c (I 1))), .q (.of 13) (.mv (.s 0))]
def F40.t32 : IR := .seq F40.t30 F40.t31
def F40.t33 : IR := .seq F40.t9 F40.t32
def F40.t34 : IR := .seq F40.t8 F40.t33
def F40.t35 : IR := .loop F40.t34
def F40.t36 : IR := .block 0 F40.t35
def F40.t37 : IR := .seq F40.t7 F40.t36
def F40.t38 : IR := .reg [.q (.of 3) (.mv (.c (.bool true))), .q (.of 4) (.mv (.c (I 0)))]
def F40.t39 : IR := .seq F40.t38 .ret
def F40.t40 : IR := .seq F40.t37 F40.t39
def F40.t41 : IR := .seq F40.t6 F40.t40
def F40.t42 : IR := .seq F40.t1 F40.t41
def F40.t43 : IR := .seq F40.t0 F40.t42
theorem F40.t0_s : IR.run F40.t0 C N O K (F40.fr c d o p i l q y w z a b f e g s u v B A) h nx =
 K (F40.fr c d o (.bool false) (I 0) l q y w z a b f e g s u v B A) h nx := by kernel_rfl
theorem F40.t1_s : IR.run F40.t1 C N O K (F40.fr c d o p i l q y w z a b f e g s u v B A) h nx =
 C.fn 120 (.of 120) [c, d, o] h nx fun v1 h2 n3 => mW 0 v1 fun v4 => mW 1 v1 fun v5 => mW 2 v1 fun v6 => yE [.zf, .zf] h2 n3 fun v7 h8 n9 => zM 2 v7 v5 h8 n9 fun vA hG nG => K (F40.fr c d o p i v4 v7 v6 w z a b f e g s u v B A) hG nG := by kernel_rfl
theorem F40.t2_s : IR.run F40.t2 C N O K (F40.fr c d o p i l q y w z a b f e g s u v B A) h nx =
 yc .neq .int y (I 0) fun v1 => K (F40.fr c d o p i l q y w z v1 b f e g s u v B A) h nx := by kernel_rfl
theorem F40.t3_s : IR.run F40.t3 C N O K (F40.fr c d o p i l q y w z a b f e g s u v B A) h nx =
 K (F40.fr c d o (.bool false) y l q y w z a b f e g s u v B A) h nx := by kernel_rfl
theorem F40.v10 : Arg.ev (.t (.of 10)) ⟨(F40.fr c d o p i l q y w z a b f e g s u v B A), []⟩ = a := by kernel_rfl
theorem F40.t7_s : IR.run F40.t7 C N O K (F40.fr c d o p i l q y w z a b f e g s u v B A) h nx =
 vO 1 2 q (I 0) fun v1 => zF v1 h fun v2 => sLen v2 fun v3 => K (F40.fr c d o p i l q y w z a v2 v3 (I 0) g s u v B A) h nx := by kernel_rfl
theorem F40.t8_s : IR.run F40.t8 C N O K (F40.fr c d o p i l q y w z a b f e g s u v B A) h nx =
 yc .lss .int e f fun v1 => K (F40.fr c d o p i l q y w z a b f e v1 s u v B A) h nx := by kernel_rfl
theorem F40.v14 : Arg.ev (.t (.of 14)) ⟨(F40.fr c d o p i l q y w z a b f e g s u v B A), []⟩ = g := by kernel_rfl
theorem F40.t10_s : IR.run F40.t10 C N O K (F40.fr c d o p i l q y w z a b f e g s u v B A) h nx =
 zO 2 b e fun v1 => zK 2 v1 h fun v2 => yE [.zf, (.bool false)] h nx fun v3 h4 n5 => zM 2 v3 v2 h4 n5 fun v6 h7 n8 => K (F40.fr c d o p i l q y v3 z a b f e g s u v B A) h7 n8 := by kernel_rfl
theorem F40.t11_s : IR.run F40.t11 C N O K (F40.fr c d o p i l q y w z a b f e g s u v B A) h nx =
 vO 1 2 q (I 1) fun v1 => zF v1 h fun v2 => sLen v2 fun v3 => K (F40.fr c d o p i l q y w z a b f e g v2 v3 (I 0) B A) h nx := by kernel_rfl
theorem F40.t12_s : IR.run F40.t12 C N O K (F40.fr c d o p i l q y w z a b f e g s u v B A) h nx =
 yc .lss .int v u fun v1 => K (F40.fr c d o p i l q y w z a b f e g s u v v1 A) h nx := by kernel_rfl
theorem F40.v18 : Arg.ev (.t (.of 18)) ⟨(F40.fr c d o p i l q y w z a b f e g s u v B A), []⟩ = B := by kernel_rfl
theorem F40.t14_s : IR.run F40.t14 C N O K (F40.fr c d o p i l q y w z a b f e g s u v B A) h nx =
 zO 2 s v fun v1 => zK 2 v1 h fun v2 => yE [.zf, (.bool false)] h nx fun v3 h4 n5 => zM 2 v3 v2 h4 n5 fun v6 h7 n8 => K (F40.fr c d o p i l q y w v3 a b f e g s u v B A) h7 n8 := by kernel_rfl
theorem F40.t15_s : IR.run F40.t15 C N O K (F40.fr c d o p i l q y w z a b f e g s u v B A) h nx =
 zK 2 w h fun v1 => zK 2 z h fun v2 => zK 2 w h fun v3 => C.fn 122 (.of 122) [v1, v2] h nx fun v4 h5 n6 => (zK 2 w h5 fun vI => zN vI v3 (zN l l (C.fn 124 (.of 124) [v3] h5 n6 fun v7 h8 n9 => zN l l (C.fn 122 (.of 122) [v4, v7] h8 n9 fun vA hG nG => zN l l (C.fn 121 (.of 121) [l, vA] hG nG fun vE hH nI => sNot vE fun vH => K (F40.fr c d o p i l q y w z a b f e g s u v B vH) hH nI))))) := by kernel_rfl
theorem F40.t16_s : IR.run F40.t16 C N O K (F40.fr c d o p i l q y w z a b f e g s u v B A) h nx =
 K (F40.fr c d o (.bool false) (I 0) l q y w z a b f e g s u v B A) h nx := by kernel_rfl
theorem F40.v19 : Arg.ev (.t (.of 19)) ⟨(F40.fr c d o p i l q y w z a b f e g s u v B A), []⟩ = A := by kernel_rfl
theorem F40.t22_s : IR.run F40.t22 C N O K (F40.fr c d o p i l q y w z a b f e g s u v B A) h nx =
 yc .add .int v (I 1) fun v1 => K (F40.fr c d o p i l q y w z a b f e g s u v1 B A) h nx := by kernel_rfl
theorem F40.t26_L (Inv : Nat -> AV -> T Blk -> Pa -> Prop) {m : Nat} (hm : m < N) (hi : Inv m v h nx)
  (step : ∀ (m : Nat) (z3 z4 z9 zH zJ zQ : AV) (h : T Blk) (nx : Pa) (R : Ks Prop), Inv m zH h nx -> (∀ (m' : Nat) (w3 w4 w9 wG wI wJ : AV) (h' : T Blk) (nx' : Pa), m' < m -> Inv m' wG h' nx' -> R (F40.fr c d o w3 w4 l q y w w9 a b f e g s u wG wI wJ) h' nx' = .ok True) -> IR.run F40.t25 C N O R (F40.fr c d o z3 z4 l q y w z9 a b f e g s u zH zJ zQ) h nx = .ok True) :
  IR.run F40.t26 C N O K (F40.fr c d o p i l q y w z a b f e g s u v B A) h nx = .ok True := by
 rw [F40.t26];refine yI (fun m tm h nx => ∃ z3 z4 z9 zH zJ zQ, tm = (F40.fr c d o z3 z4 l q y w z9 a b f e g s u zH zJ zQ) /\ Inv m zH h nx) ?_ hm ⟨_, _, _, _, _, _, rfl, hi⟩;rintro m tm h nx R ⟨z3, z4, z9, zH, zJ, zQ, rfl, hi⟩ hR;exact step m z3 z4 z9 zH zJ zQ h nx R hi fun m' w3 w4 w9 wG wI wJ h' nx' hlt hi' => hR m' _ h' nx' hlt ⟨_, _, _, _, _, _, rfl, hi'⟩
theorem F40.t31_s : IR.run F40.t31 C N O K (F40.fr c d o p i l q y w z a b f e g s u v B A) h nx =
 yc .add .int e (I 1) fun v1 => K (F40.fr c d o p i l q y w z a b f v1 g s u v B A) h nx := by kernel_rfl
theorem F40.t35_L (Inv : Nat -> AV -> T Blk -> Pa -> Prop) {m : Nat} (hm : m < N) (hi : Inv m e h nx)
  (step : ∀ (m : Nat) (z3 z4 z8 z9 zC zD zE zG zH zJ zQ : AV) (h : T Blk) (nx : Pa) (R : Ks Prop), Inv m zC h nx -> (∀ (m' : Nat) (w3 w4 w8 w9 wC wD wE wF wG wI wJ : AV) (h' : T Blk) (nx' : Pa), m' < m -> Inv m' wC h' nx' -> R (F40.fr c d o w3 w4 l q y w8 w9 a b f wC wD wE wF wG wI wJ) h' nx' = .ok True) -> IR.run F40.t34 C N O R (F40.fr c d o z3 z4 l q y z8 z9 a b f zC zD zE zG zH zJ zQ) h nx = .ok True) :
  IR.run F40.t35 C N O K (F40.fr c d o p i l q y w z a b f e g s u v B A) h nx = .ok True := by
 rw [F40.t35];refine yI (fun m tm h nx => ∃ z3 z4 z8 z9 zC zD zE zG zH zJ zQ, tm = (F40.fr c d o z3 z4 l q y z8 z9 a b f zC zD zE zG zH zJ zQ) /\ Inv m zC h nx) ?_ hm ⟨_, _, _, _, _, _, _, _, _, _, _, rfl, hi⟩;rintro m tm h nx R ⟨z3, z4, z8, z9, zC, zD, zE, zG, zH, zJ, zQ, rfl, hi⟩ hR;exact step m z3 z4 z8 z9 zC zD zE zG zH zJ zQ h nx R hi fun m' w3 w4 w8 w9 wC wD wE wF wG wI wJ h' nx' hlt hi' => hR m' _ h' nx' hlt ⟨_, _, _, _, _, _, _, _, _, _, _, rfl, hi'⟩
theorem F40.t38_s : IR.run F40.t38 C N O K (F40.fr c d o p i l q y w z a b f e g s u v B A) h nx =
 K (F40.fr c d o (.bool true) (I 0) l q y w z a b f e g s u v B A) h nx := by kernel_rfl
theorem F40.tab : T.get none (.of 40) tbl = some F40 := by kernel_rfl
theorem F40.bind (k : T AV -> OP) : yK F40.params [a0, a1, a2] F40.init k = k (F40.fr a0 a1 a2 .undef .undef .undef .undef .undef .undef .undef .undef .undef .undef .undef .undef .undef .undef .undef .undef .undef) := by kernel_rfl
theorem F40.uz : F40.body = F40.t43 := by kernel_rfl
theorem F40.go : zW tbl N C (.of 40) [a0, a1, a2] h nx K0 = IR.run F40.t43 C N (fnO F40.res K0) (qj F40.res K0) (F40.fr a0 a1 a2 .undef .undef .undef .undef .undef .undef .undef .undef .undef .undef .undef .undef .undef .undef .undef .undef .undef) h nx := by
 rw [zL F40.tab, F40.bind, F40.uz]; kernel_rfl
theorem F40.ret : qj F40.res K0 (F40.fr c d o p i l q y w z a b f e g s u v B A) h nx = K0 (.tup [p, i]) h nx := by kernel_rfl
end
end Go.Ev
namespace Go.Ev
open Go Go.Proofs
set_option maxRecDepth 100000
section
variable {N : Nat} {C : Calls Prop} {K0 : Kw Prop} {K : Ks Prop} {h : T Blk} {nx : Pa} {c d o p i l q y w z a0 : AV} {O : um Prop} {tm : T AV} {Kt : KTm} {r : List RO} {s0 s1 s2 s3 s4 s5 s6 s7 s8 s9 s10 s11 s12 s13 s14 s15 s16 s17 s18 s19 s20 s21 s22 s23 s24 s25 s26 s27 s28 s29 s30 s31 s32 s33 s34 s35 s36 s37 s38 s39 : AV}
def zx.t0 : IR := .reg [.w (.loc (.of 1)) none (.box (.t (.of 0))), .w (.loc (.of 2)) none (.alloc [.zf, (.bool false)])]
def zx.t1 : IR := .yg [(.alloc [.zf, (.bool false)])] [(.s (.zn 0 (.t (.of 1))), 2, []), (.s (.load (.s 0)), 2, []), (.s (.len (.s 0)), 2, [(.jf 1 8 [(I 0)] (.s 0) (.s 0))]), (.s (.zn 1 (.t (.of 1))), 2, []), (.s (.load (.s 0)), 2, []), (.w .push none (.jf 1 8 [(I 0)] (.s 2) (.s 2)), 0, []), (.s (.build [.zf, (.bool false)] [(0, 1, (.s 0)), (1, 1, (.s 1))]), 1, []), (.w (.loc (.of 3)) none (.alloc [.zf, (.bool false)]), 0, []), (.w .none none (.store 2 (.t (.of 3)) (.s 0)), 0, [])]
def zx.t2 : IR := .reg [.s (.zn 0 (.t (.of 1))), .q (.of 6) (.load (.s 0)), .q (.of 7) (.len (.t (.of 6))), .q (.of 8) (.mv (.c (I 0)))]
def zx.t3 : IR := .reg [.q (.of 9) (.bin .lss .int (.t (.of 8)) (.t (.of 7)))]
def zx.t4 : IR := .cond (.t (.of 9)) .skip (.exit 0)
def zx.t5 : IR := .reg [.s (.mv (.t (.of 8))), .s (.zk 1 (.t (.of 6)) (.t (.of 8))), .s (.load (.s 0)), .q (.of 4) (.mv (.s 2)), .q (.of 5) (.mv (.s 0))]
def zx.t6 : IR := .reg [.s (.zn 0 (.t (.of 3))), .s (.load (.s 0)), .s (.mv (.t (.of 5))), .s (.mv (.t (.of 4))), .s (.zk 1 (.s 2) (.s 1)), .w .none none (.store 1 (.s 0) (.s 1))]
def zx.t7 : IR := .seq zx.t5 zx.t6
def zx.t8 : IR := .block 1 zx.t7
def zx.t9 : IR := .reg [.s (.bin .add .int (.t (.of 8)) (.c (I 1))), .q (.of 8) (.mv (.s 0))]
def zx.t10 : IR := .seq zx.t8 zx.t9
def zx.t11 : IR := .seq zx.t4 zx.t10
def zx.t12 : IR := .seq zx.t3 zx.t11
def zx.t13 : IR := .loop zx.t12
def zx.t14 : IR := .block 0 zx.t13
def zx.t15 : IR := .seq zx.t2 zx.t14
def zx.t16 : IR := .reg [.s (.zi 2 (.t (.of 3))), .w .none none (.store 2 (.t (.of 2)) (.s 0))]
def zx.t17 : IR := .seq zx.t16 .ret
def zx.t18 : IR := .seq zx.t15 zx.t17
def zx.t19 : IR := .seq zx.t1 zx.t18
def zx.t20 : IR := .seq zx.t0 zx.t19
theorem zx.t0_s : IR.run zx.t0 C N O K (zx.fr c d o p i l q y w z) h nx =
 sBox c h nx fun v1 h2 n3 => yE [.zf, (.bool false)] h2 n3 fun v4 h5 n6 => K (zx.fr c v1 v4 p i l q y w z) h5 n6 := by kernel_rfl
theorem zx.t1_s : IR.run zx.t1 C N O K (zx.fr c d o p i l q y w z) h nx =
 sChk (true && true) (zP 0 d fun v1 => zF v1 h fun v2 => sLen v2 fun v3 => sChk (mkSl 8 v3 v3 && true) (zP 1 d fun v4 => zF v4 h fun v5 => j4 1 8 [(I 0)] v3 v3 h nx fun v6 h7 n8 => (zF v4 h7 fun vW => zN vW v5 ((zP 1 d fun v25 => zN v25 v4 ((sLen v2 fun vQ => zN vQ v3 ((zF v1 h7 fun vP => zN vP v2 ((zP 0 d fun vN => zN vN v1 (qA [.zf, (.bool false)] [(0, 1, v6), (1, 1, v5)] fun v9 => yE [.zf, (.bool false)] h7 n8 fun vA hG nG => (qA [.zf, (.bool false)] [(0, 1, v6), (1, 1, v5)] fun vM => zN vM v9 ((zF v4 hG fun vL => zN vL v5 ((zP 1 d fun vK => zN vK v4 ((sLen v2 fun vJ => zN vJ v3 ((zF v1 hG fun vI => zN vI v2 ((zP 0 d fun vH => zN vH v1 (zM 2 vA v9 hG nG fun vE hH nI => K (zx.fr c d o vA i l q y w z) hH nI)))))))))))))))))))))))) := by kernel_rfl
theorem zx.t2_s : IR.run zx.t2 C N O K (zx.fr c d o p i l q y w z) h nx =
 zP 0 d fun v1 => zF v1 h fun v2 => sLen v2 fun v3 => K (zx.fr c d o p i l v2 v3 (I 0) z) h nx := by kernel_rfl
theorem zx.t3_s : IR.run zx.t3 C N O K (zx.fr c d o p i l q y w z) h nx =
 yc .lss .int w y fun v1 => K (zx.fr c d o p i l q y w v1) h nx := by kernel_rfl
theorem zx.v9 : Arg.ev (.t (.of 9)) ⟨(zx.fr c d o p i l q y w z), []⟩ = z := by kernel_rfl
theorem zx.t5_s : IR.run zx.t5 C N O K (zx.fr c d o p i l q y w z) h nx =
 zO 1 q w fun v1 => zF v1 h fun v2 => K (zx.fr c d o p w v2 q y w z) h nx := by kernel_rfl
theorem zx.t6_s : IR.run zx.t6 C N O K (zx.fr c d o p i l q y w z) h nx =
 zP 0 p fun v1 => zF v1 h fun v2 => zO 1 v2 l fun v3 => zM 1 v3 i h nx fun v4 h5 n6 => K (zx.fr c d o p i l q y w z) h5 n6 := by kernel_rfl
theorem zx.t9_s : IR.run zx.t9 C N O K (zx.fr c d o p i l q y w z) h nx =
 yc .add .int w (I 1) fun v1 => K (zx.fr c d o p i l q y v1 z) h nx := by kernel_rfl
theorem zx.t13_L (Inv : Nat -> AV -> T Blk -> Pa -> Prop) {m : Nat} (hm : m < N) (hi : Inv m w h nx)
  (step : ∀ (m : Nat) (z4 z5 z8 z9 : AV) (h : T Blk) (nx : Pa) (R : Ks Prop), Inv m z8 h nx -> (∀ (m' : Nat) (w4 w5 w8 w9 : AV) (h' : T Blk) (nx' : Pa), m' < m -> Inv m' w8 h' nx' -> R (zx.fr c d o p w4 w5 q y w8 w9) h' nx' = .ok True) -> IR.run zx.t12 C N O R (zx.fr c d o p z4 z5 q y z8 z9) h nx = .ok True) :
  IR.run zx.t13 C N O K (zx.fr c d o p i l q y w z) h nx = .ok True := by
 rw [zx.t13];refine yI (fun m tm h nx => ∃ z4 z5 z8 z9, tm = (zx.fr c d o p z4 z5 q y z8 z9) /\ Inv m z8 h nx) ?_ hm ⟨_, _, _, _, rfl, hi⟩;rintro m tm h nx R ⟨z4, z5, z8, z9, rfl, hi⟩ hR;exact step m z4 z5 z8 z9 h nx R hi fun m' w4 w5 w8 w9 h' nx' hlt hi' => hR m' _ h' nx' hlt ⟨_, _, _, _, rfl, hi'⟩
theorem zx.t16_s : IR.run zx.t16 C N O K (zx.fr c d o p i l q y w z) h nx =
 zK 2 p h fun v1 => zM 2 o v1 h nx fun v2 h3 n4 => K (zx.fr c d o p i l q y w z) h3 n4 := by kernel_rfl
theorem zx.tab : T.get none (.of 124) tbl = some zx := by kernel_rfl
theorem zx.bind (k : T AV -> OP) : yK zx.params [a0] zx.init k = k (zx.fr a0 .undef .undef .undef .undef .undef .undef .undef .undef .undef) := by kernel_rfl
theorem zx.uz : zx.body = zx.t20 := by kernel_rfl
theorem zx.go : zW tbl N C (.of 124) [a0] h nx K0 = IR.run zx.t20 C N (fnO zx.res K0) (qj zx.res K0) (zx.fr a0 .undef .undef .undef .undef .undef .undef .undef .undef .undef) h nx := by
 rw [zL zx.tab, zx.bind, zx.uz]; kernel_rfl
theorem zx.ret : qj zx.res K0 (zx.fr c d o p i l q y w z) h nx = zK 2 o h fun v1 => K0 v1 h nx := by kernel_rfl
end
end Go.Ev
namespace Go.Ev
open Go Go.Proofs
set_option maxRecDepth 100000
section
variable {N : Nat} {C : Calls Prop} {K0 : Kw Prop} {K : Ks Prop} {h : T Blk} {nx : Pa} {c d o p i l q y w z a b a0 a1 a2 : AV} {O : um Prop} {tm : T AV} {Kt : KTm} {r : List RO} {s0 s1 s2 s3 s4 s5 s6 s7 s8 s9 s10 s11 s12 s13 s14 s15 s16 s17 s18 s19 s20 s21 s22 s23 s24 s25 s26 s27 s28 s29 s30 s31 s32 s33 s34 s35 s36 s37 s38 s39 : AV}
end
end Go.Ev
namespace Go.Ev
open Go Go.Proofs
set_option maxRecDepth 100000
section
variable {N : Nat} {C : Calls Prop} {K0 : Kw Prop} {K : Ks Prop} {h : T Blk} {nx : Pa} {c d o p i l q y w z a b f a0 a1 : AV} {O : um Prop} {tm : T AV} {Kt : KTm} {r : List RO} {s0 s1 s2 s3 s4 s5 s6 s7 s8 s9 s10 s11 s12 s13 s14 s15 s16 s17 s18 s19 s20 s21 s22 s23 s24 s25 s26 s27 s28 s29 s30 s31 s32 s33 s34 s35 s36 s37 s38 s39 : AV}
end
end Go.Ev
namespace Go.Ev
open Go Go.Proofs
set_option maxRecDepth 100000
section
variable {N : Nat} {C : Calls Prop} {K0 : Kw Prop} {K : Ks Prop} {h : T Blk} {nx : Pa} {c d o p i l q y w z a b f e g s a0 a1 : AV} {O : um Prop} {tm : T AV} {Kt : KTm} {r : List RO} {s0 s1 s2 s3 s4 s5 s6 s7 s8 s9 s10 s11 s12 s13 s14 s15 s16 s17 s18 s19 s20 s21 s22 s23 s24 s25 s26 s27 s28 s29 s30 s31 s32 s33 s34 s35 s36 s37 s38 s39 : AV}
end
end Go.Ev
namespace Go.Ev
open Go Go.Proofs
set_option maxRecDepth 100000
section
variable {N : Nat} {C : Calls Prop} {K0 : Kw Prop} {K : Ks Prop} {h : T Blk} {nx : Pa} {c d o p i l q y w z a b f e g s u v B A a0 a1 : AV} {O : um Prop} {tm : T AV} {Kt : KTm} {r : List RO} {s0 s1 s2 s3 s4 s5 s6 s7 s8 s9 s10 s11 s12 s13 s14 s15 s16 s17 s18 s19 s20 s21 s22 s23 s24 s25 s26 s27 s28 s29 s30 s31 s32 s33 s34 s35 s36 s37 s38 s39 : AV}
def F21.t0 : IR := .reg [.q (.of 2) (.mv (.c .zf)), .q (.of 3) (.mv (.c (I 0)))]
def F21.t1 : IR := .reg [.s (.mv (.t (.of 0))), .s (.mv (.t (.of 1))), .w .push none (.call (.c (.fn 22 (.of 22) [])) [(.s 1), (.s 0)]), .q (.of 4) (.mv (.s 0))]
def F21.t2 : IR := .reg [.s (.mv (.t (.of 4))), .q (.of 11) (.bin .neq .int (.s 0) (.c (I 0)))]
def F21.t3 : IR := .reg [.s (.mv (.t (.of 4))), .q (.of 2) (.mv (.c .zf)), .q (.of 3) (.mv (.s 0))]
def F21.t4 : IR := .seq F21.t3 .ret
def F21.t5 : IR := .cond (.t (.of 11)) F21.t4 .skip
def F21.t6 : IR := .seq F21.t2 F21.t5
def F21.t7 : IR := .seq F21.t1 F21.t6
def F21.t8 : IR := .reg [.q (.of 5) (.mv (.c .zf))]
def F21.t9 : IR := .reg [.s (.mv (.t (.of 1))), .w .push none (.jf 1 1 [(.bool false)] (.s 0) (.s 0)), .w (.loc (.of 6)) none (.alloc [.zf]), .w .none none (.store 1 (.t (.of 6)) (.s 0))]
def F21.t10 : IR := .reg [.q (.of 12) (.mv (.t (.of 1))), .q (.of 13) (.mv (.c (I 0)))]
def F21.t11 : IR := .reg [.q (.of 14) (.bin .lss .int (.t (.of 13)) (.t (.of 12)))]
def F21.t12 : IR := .cond (.t (.of 14)) .skip (.exit 0)
def F21.t13 : IR := .reg [.s (.mv (.t (.of 13))), .w (.loc (.of 7)) none (.alloc [(I 0)]), .w .none none (.store 1 (.t (.of 7)) (.s 0))]
def F21.t14 : IR := .reg [.s (.load (.t (.of 6))), .s (.load (.t (.of 7))), .s (.zk 1 (.s 1) (.s 0)), .q (.of 15) (.load (.s 0))]
def F21.t15 : IR := .cond (.t (.of 15)) (.exit 1) .skip
def F21.t16 : IR := .seq F21.t14 F21.t15
def F21.t17 : IR := .reg [.w (.loc (.of 8)) none (.alloc [.zf])]
def F21.t18 : IR := .reg [.s (.mv (.t (.of 0))), .w (.loc (.of 16)) none (.call (.c (.fn 90 (.of 90) [])) [(.s 0)])]
def F21.t19 : IR := .reg [.w (.loc (.of 9)) none (.alloc [.zf, (.bool false)]), .w .none none (.store 2 (.t (.of 9)) (.t (.of 18)))]
def F21.t20 : IR := .reg [.s (.zn 0 (.t (.of 9))), .s (.load (.s 0)), .s (.load (.t (.of 7))), .s (.zk 1 (.s 1) (.s 0)), .s (.load (.s 0)), .q (.of 10) (.mv (.s 0))]
def F21.t21 : IR := .reg [.s (.load (.t (.of 6))), .s (.mv (.t (.of 10))), .s (.zk 1 (.s 1) (.s 0)), .s (.load (.s 0)), .q (.of 19) (.not (.s 0))]
def F21.t22 : IR := .reg [.s (.load (.t (.of 6))), .s (.mv (.t (.of 10))), .s (.zk 1 (.s 1) (.s 0)), .w .none none (.store 1 (.s 0) (.c (.bool true)))]
def F21.t23 : IR := .reg [.s (.load (.t (.of 8))), .s (.mv (.t (.of 10))), .w .push none (.zy 1 1 [(I 0)] [(0, 1, (.s 0))]), .w .push none (.app 1 8 (.s 2) (.s 0)), .w .none none (.store 1 (.t (.of 8)) (.s 0))]
def F21.t24 : IR := .seq F21.t22 F21.t23
def F21.t25 : IR := .cond (.t (.of 19)) F21.t24 .skip
def F21.t26 : IR := .seq F21.t21 F21.t25
def F21.t27 : IR := .seq F21.t20 F21.t26
def F21.t28 : IR := .block 3 F21.t27
def F21.t29 : IR := .rf (.t (.of 16)) [(.of 17), (.of 18)] F21.t19 F21.t28
def F21.t30 : IR := .block 2 F21.t29
def F21.t31 : IR := .seq F21.t18 F21.t30
def F21.t32 : IR := .reg [.s (.load (.t (.of 8))), .w .push none (.call (.c (.fn 91 (.of 91) [])) [(.s 0)])]
def F21.t33 : IR := .reg [.s (.mv (.t (.of 5))), .s (.load (.t (.of 8))), .w .push none (.zy 1 1 [.zf] [(0, 1, (.s 0))]), .w .push none (.app 1 24 (.s 2) (.s 0)), .q (.of 5) (.mv (.s 0))]
def F21.t34 : IR := .seq F21.t32 F21.t33
def F21.t35 : IR := .seq F21.t31 F21.t34
def F21.t36 : IR := .seq F21.t17 F21.t35
def F21.t37 : IR := .seq F21.t16 F21.t36
def F21.t38 : IR := .seq F21.t13 F21.t37
def F21.t39 : IR := .block 1 F21.t38
def F21.t40 : IR := .reg [.s (.bin .add .int (.t (.of 13)) (.c (I 1))), .q (.of 13) (.mv (.s 0))]
def F21.t41 : IR := .seq F21.t39 F21.t40
def F21.t42 : IR := .seq F21.t12 F21.t41
def F21.t43 : IR := .seq F21.t11 F21.t42
def F21.t44 : IR := .loop F21.t43
def F21.t45 : IR := .block 0 F21.t44
def F21.t46 : IR := .seq F21.t10 F21.t45
def F21.t47 : IR := .reg [.s (.mv (.t (.of 5))), .q (.of 2) (.mv (.s 0)), .q (.of 3) (.mv (.c (I 0)))]
def F21.t48 : IR := .seq F21.t47 .ret
def F21.t49 : IR := .seq F21.t46 F21.t48
def F21.t50 : IR := .seq F21.t9 F21.t49
def F21.t51 : IR := .seq F21.t8 F21.t50
def F21.t52 : IR := .seq F21.t7 F21.t51
def F21.t53 : IR := .seq F21.t0 F21.t52
theorem F21.t0_s : IR.run F21.t0 C N O K (F21.fr c d o p i l q y w z a b f e g s u v B A) h nx =
 K (F21.fr c d .zf (I 0) i l q y w z a b f e g s u v B A) h nx := by kernel_rfl
theorem F21.t1_s : IR.run F21.t1 C N O K (F21.fr c d o p i l q y w z a b f e g s u v B A) h nx =
 C.fn 22 (.of 22) [c, d] h nx fun v1 h2 n3 => K (F21.fr c d o p v1 l q y w z a b f e g s u v B A) h2 n3 := by kernel_rfl
theorem F21.t2_s : IR.run F21.t2 C N O K (F21.fr c d o p i l q y w z a b f e g s u v B A) h nx =
 yc .neq .int i (I 0) fun v1 => K (F21.fr c d o p i l q y w z a v1 f e g s u v B A) h nx := by kernel_rfl
theorem F21.t3_s : IR.run F21.t3 C N O K (F21.fr c d o p i l q y w z a b f e g s u v B A) h nx =
 K (F21.fr c d .zf i i l q y w z a b f e g s u v B A) h nx := by kernel_rfl
theorem F21.v11 : Arg.ev (.t (.of 11)) ⟨(F21.fr c d o p i l q y w z a b f e g s u v B A), []⟩ = b := by kernel_rfl
theorem F21.t8_s : IR.run F21.t8 C N O K (F21.fr c d o p i l q y w z a b f e g s u v B A) h nx =
 K (F21.fr c d o p i .zf q y w z a b f e g s u v B A) h nx := by kernel_rfl
theorem F21.t9_s : IR.run F21.t9 C N O K (F21.fr c d o p i l q y w z a b f e g s u v B A) h nx =
 j4 1 1 [(.bool false)] d d h nx fun v1 h2 n3 => yE [.zf] h2 n3 fun v4 h5 n6 => zM 1 v4 v1 h5 n6 fun v7 h8 n9 => K (F21.fr c d o p i l v4 y w z a b f e g s u v B A) h8 n9 := by kernel_rfl
theorem F21.t10_s : IR.run F21.t10 C N O K (F21.fr c d o p i l q y w z a b f e g s u v B A) h nx =
 K (F21.fr c d o p i l q y w z a b d (I 0) g s u v B A) h nx := by kernel_rfl
theorem F21.t11_s : IR.run F21.t11 C N O K (F21.fr c d o p i l q y w z a b f e g s u v B A) h nx =
 yc .lss .int e f fun v1 => K (F21.fr c d o p i l q y w z a b f e v1 s u v B A) h nx := by kernel_rfl
theorem F21.v14 : Arg.ev (.t (.of 14)) ⟨(F21.fr c d o p i l q y w z a b f e g s u v B A), []⟩ = g := by kernel_rfl
theorem F21.t13_s : IR.run F21.t13 C N O K (F21.fr c d o p i l q y w z a b f e g s u v B A) h nx =
 yE [(I 0)] h nx fun v1 h2 n3 => zM 1 v1 e h2 n3 fun v4 h5 n6 => K (F21.fr c d o p i l q v1 w z a b f e g s u v B A) h5 n6 := by kernel_rfl
theorem F21.t14_s : IR.run F21.t14 C N O K (F21.fr c d o p i l q y w z a b f e g s u v B A) h nx =
 zF q h fun v1 => zF y h fun v2 => zO 1 v1 v2 fun v3 => zF v3 h fun v4 => K (F21.fr c d o p i l q y w z a b f e g v4 u v B A) h nx := by kernel_rfl
theorem F21.v15 : Arg.ev (.t (.of 15)) ⟨(F21.fr c d o p i l q y w z a b f e g s u v B A), []⟩ = s := by kernel_rfl
theorem F21.t17_s : IR.run F21.t17 C N O K (F21.fr c d o p i l q y w z a b f e g s u v B A) h nx =
 yE [.zf] h nx fun v1 h2 n3 => K (F21.fr c d o p i l q y v1 z a b f e g s u v B A) h2 n3 := by kernel_rfl
theorem F21.t18_s : IR.run F21.t18 C N O K (F21.fr c d o p i l q y w z a b f e g s u v B A) h nx =
 C.fn 90 (.of 90) [c] h nx fun v1 h2 n3 => K (F21.fr c d o p i l q y w z a b f e g s v1 v B A) h2 n3 := by kernel_rfl
theorem F21.t19_s : IR.run F21.t19 C N O K (F21.fr c d o p i l q y w z a b f e g s u v B A) h nx =
 yE [.zf, (.bool false)] h nx fun v1 h2 n3 => zM 2 v1 B h2 n3 fun v4 h5 n6 => K (F21.fr c d o p i l q y w v1 a b f e g s u v B A) h5 n6 := by kernel_rfl
theorem F21.t20_s : IR.run F21.t20 C N O K (F21.fr c d o p i l q y w z a b f e g s u v B A) h nx =
 zP 0 z fun v1 => zF v1 h fun v2 => zF y h fun v3 => zO 1 v2 v3 fun v4 => zF v4 h fun v5 => K (F21.fr c d o p i l q y w z v5 b f e g s u v B A) h nx := by kernel_rfl
theorem F21.t21_s : IR.run F21.t21 C N O K (F21.fr c d o p i l q y w z a b f e g s u v B A) h nx =
 zF q h fun v1 => zO 1 v1 a fun v2 => zF v2 h fun v3 => sNot v3 fun v4 => K (F21.fr c d o p i l q y w z a b f e g s u v B v4) h nx := by kernel_rfl
theorem F21.t22_s : IR.run F21.t22 C N O K (F21.fr c d o p i l q y w z a b f e g s u v B A) h nx =
 zF q h fun v1 => zO 1 v1 a fun v2 => zM 1 v2 (.bool true) h nx fun v3 h4 n5 => K (F21.fr c d o p i l q y w z a b f e g s u v B A) h4 n5 := by kernel_rfl
theorem F21.t23_s : IR.run F21.t23 C N O K (F21.fr c d o p i l q y w z a b f e g s u v B A) h nx =
 zF w h fun v1 => y0 1 1 [(I 0)] [(0, 1, a)] h nx fun v2 h3 n4 => sApp 1 8 v1 v2 h3 n4 fun v5 h6 n7 => zM 1 w v5 h6 n7 fun v8 h9 nH => K (F21.fr c d o p i l q y w z a b f e g s u v B A) h9 nH := by kernel_rfl
theorem F21.v19 : Arg.ev (.t (.of 19)) ⟨(F21.fr c d o p i l q y w z a b f e g s u v B A), []⟩ = A := by kernel_rfl
theorem F21.t29_f : Arg.ev (.t (.of 16)) ⟨(F21.fr c d o p i l q y w z a b f e g s u v B A), []⟩ = u := by kernel_rfl
theorem F21.t29_b {z0 z1 : AV} (k : T AV -> OP) : yK [(.of 17), (.of 18)] [z0, z1] (F21.fr c d o p i l q y w z a b f e g s u v B A) k = k (F21.fr c d o p i l q y w z a b f e g s u z0 z1 A) := by kernel_rfl
theorem F21.t32_s : IR.run F21.t32 C N O K (F21.fr c d o p i l q y w z a b f e g s u v B A) h nx =
 zF w h fun v1 => C.fn 91 (.of 91) [v1] h nx fun v2 h3 n4 => K (F21.fr c d o p i l q y w z a b f e g s u v B A) h3 n4 := by kernel_rfl
theorem F21.t33_s : IR.run F21.t33 C N O K (F21.fr c d o p i l q y w z a b f e g s u v B A) h nx =
 zF w h fun v1 => y0 1 1 [.zf] [(0, 1, v1)] h nx fun v2 h3 n4 => sApp 1 24 l v2 h3 n4 fun v5 h6 n7 => K (F21.fr c d o p i v5 q y w z a b f e g s u v B A) h6 n7 := by kernel_rfl
theorem F21.t40_s : IR.run F21.t40 C N O K (F21.fr c d o p i l q y w z a b f e g s u v B A) h nx =
 yc .add .int e (I 1) fun v1 => K (F21.fr c d o p i l q y w z a b f v1 g s u v B A) h nx := by kernel_rfl
theorem F21.t44_L (Inv : Nat -> AV -> AV -> AV -> AV -> AV -> AV -> AV -> T Blk -> Pa -> Prop) {m : Nat} (hm : m < N) (hi : Inv m l z a e v B A h nx)
  (step : ∀ (m : Nat) (z5 z7 z8 z9 zI zC zD zE zG zH zJ zQ : AV) (h : T Blk) (nx : Pa) (R : Ks Prop), Inv m z5 z9 zI zC zH zJ zQ h nx -> (∀ (m' : Nat) (w5 w7 w8 w9 wH wC wD wE wF wG wI wJ : AV) (h' : T Blk) (nx' : Pa), m' < m -> Inv m' w5 w9 wH wC wG wI wJ h' nx' -> R (F21.fr c d o p i w5 q w7 w8 w9 wH b f wC wD wE wF wG wI wJ) h' nx' = .ok True) -> IR.run F21.t43 C N O R (F21.fr c d o p i z5 q z7 z8 z9 zI b f zC zD zE zG zH zJ zQ) h nx = .ok True) :
  IR.run F21.t44 C N O K (F21.fr c d o p i l q y w z a b f e g s u v B A) h nx = .ok True := by
 rw [F21.t44];refine yI (fun m tm h nx => ∃ z5 z7 z8 z9 zI zC zD zE zG zH zJ zQ, tm = (F21.fr c d o p i z5 q z7 z8 z9 zI b f zC zD zE zG zH zJ zQ) /\ Inv m z5 z9 zI zC zH zJ zQ h nx) ?_ hm ⟨_, _, _, _, _, _, _, _, _, _, _, _, rfl, hi⟩;rintro m tm h nx R ⟨z5, z7, z8, z9, zI, zC, zD, zE, zG, zH, zJ, zQ, rfl, hi⟩ hR;exact step m z5 z7 z8 z9 zI zC zD zE zG zH zJ zQ h nx R hi fun m' w5 w7 w8 w9 wH wC wD wE wF wG wI wJ h' nx' hlt hi' => hR m' _ h' nx' hlt ⟨_, _, _, _, _, _, _, _, _, _, _, _, rfl, hi'⟩
theorem F21.t47_s : IR.run F21.t47 C N O K (F21.fr c d o p i l q y w z a b f e g s u v B A) h nx =
 K (F21.fr c d l (I 0) i l q y w z a b f e g s u v B A) h nx := by kernel_rfl
theorem F21.tab : T.get none (.of 21) tbl = some F21 := by kernel_rfl
theorem F21.bind (k : T AV -> OP) : yK F21.params [a0, a1] F21.init k = k (F21.fr a0 a1 .undef .undef .undef .undef .undef .undef .undef .undef .undef .undef .undef .undef .undef .undef .undef .undef .undef .undef) := by kernel_rfl
theorem F21.uz : F21.body = F21.t53 := by kernel_rfl
theorem F21.go : zW tbl N C (.of 21) [a0, a1] h nx K0 = IR.run F21.t53 C N (fnO F21.res K0) (qj F21.res K0) (F21.fr a0 a1 .undef .undef .undef .undef .undef .undef .undef .undef .undef .undef .undef .undef .undef .undef .undef .undef .undef .undef) h nx := by
 rw [zL F21.tab, F21.bind, F21.uz]; kernel_rfl
theorem F21.ret : qj F21.res K0 (F21.fr c d o p i l q y w z a b f e g s u v B A) h nx = K0 (.tup [o, p]) h nx := by kernel_rfl
def F24.t0 : IR := .reg [.q (.of 2) (.mv (.c .zf))]
def F24.t1 : IR := .reg [.q (.of 3) (.mv (.c .zf))]
def F24.t2 : IR := .reg [.s (.mv (.t (.of 1))), .w .push none (.jf 1 1 [(.bool false)] (.s 0) (.s 0)), .q (.of 4) (.mv (.s 0))]
def F24.t3 : IR := .reg [.q (.of 5) (.mv (.c (I 0)))]
def F24.t4 : IR := .reg [.s (.mv (.t (.of 5))), .s (.mv (.t (.of 1))), .q (.of 10) (.bin .lss .int (.s 1) (.s 0))]
def F24.t5 : IR := .cond (.t (.of 10)) .skip (.exit 0)
def F24.t6 : IR := .seq F24.t4 F24.t5
def F24.t7 : IR := .reg [.s (.mv (.t (.of 4))), .s (.mv (.t (.of 5))), .s (.zk 1 (.s 1) (.s 0)), .q (.of 11) (.load (.s 0))]
def F24.t8 : IR := .cond (.t (.of 11)) (.exit 1) .skip
def F24.t9 : IR := .seq F24.t7 F24.t8
def F24.t10 : IR := .reg [.s (.mv (.t (.of 1))), .w .push none (.jf 1 1 [(.bool false)] (.s 0) (.s 0)), .q (.of 6) (.mv (.s 0))]
def F24.t11 : IR := .reg [.q (.of 7) (.mv (.c (I 0)))]
def F24.t12 : IR := .reg [.s (.mv (.t (.of 7))), .s (.mv (.t (.of 0))), .s (.len (.s 0)), .q (.of 12) (.bin .lss .int (.s 2) (.s 0))]
def F24.t13 : IR := .cond (.t (.of 12)) .skip (.exit 2)
def F24.t14 : IR := .seq F24.t12 F24.t13
def F24.t15 : IR := .reg [.s (.mv (.t (.of 6))), .s (.mv (.t (.of 0))), .s (.mv (.t (.of 7))), .s (.zk 2 (.s 1) (.s 0)), .s (.zn 0 (.s 0)), .s (.load (.s 0)), .s (.mv (.t (.of 5))), .s (.zk 1 (.s 1) (.s 0)), .s (.load (.s 0)), .s (.zk 1 (.s 8) (.s 0)), .w .none none (.store 1 (.s 0) (.c (.bool true)))]
def F24.t16 : IR := .block 3 F24.t15
def F24.t17 : IR := .reg [.s (.mv (.t (.of 7))), .s (.bin .add .int (.s 0) (.c (I 1))), .q (.of 7) (.mv (.s 0))]
def F24.t18 : IR := .seq F24.t16 F24.t17
def F24.t19 : IR := .seq F24.t14 F24.t18
def F24.t20 : IR := .loop F24.t19
def F24.t21 : IR := .block 2 F24.t20
def F24.t22 : IR := .seq F24.t11 F24.t21
def F24.t23 : IR := .reg [.q (.of 8) (.mv (.c .zf))]
def F24.t24 : IR := .reg [.q (.of 9) (.mv (.c (I 0)))]
def F24.t25 : IR := .reg [.s (.mv (.t (.of 9))), .s (.mv (.t (.of 1))), .q (.of 13) (.bin .lss .int (.s 1) (.s 0))]
def F24.t26 : IR := .cond (.t (.of 13)) .skip (.exit 4)
def F24.t27 : IR := .seq F24.t25 F24.t26
def F24.t28 : IR := .reg [.s (.mv (.t (.of 6))), .s (.mv (.t (.of 9))), .s (.zk 1 (.s 1) (.s 0)), .q (.of 14) (.load (.s 0))]
def F24.t29 : IR := .reg [.s (.mv (.t (.of 8))), .s (.mv (.t (.of 9))), .w .push none (.zy 1 1 [(I 0)] [(0, 1, (.s 0))]), .w .push none (.app 1 8 (.s 2) (.s 0)), .q (.of 8) (.mv (.s 0))]
def F24.t30 : IR := .reg [.s (.mv (.t (.of 4))), .s (.mv (.t (.of 9))), .s (.zk 1 (.s 1) (.s 0)), .w .none none (.store 1 (.s 0) (.c (.bool true)))]
def F24.t31 : IR := .seq F24.t29 F24.t30
def F24.t32 : IR := .cond (.t (.of 14)) F24.t31 .skip
def F24.t33 : IR := .seq F24.t28 F24.t32
def F24.t34 : IR := .block 5 F24.t33
def F24.t35 : IR := .reg [.s (.mv (.t (.of 9))), .s (.bin .add .int (.s 0) (.c (I 1))), .q (.of 9) (.mv (.s 0))]
def F24.t36 : IR := .seq F24.t34 F24.t35
def F24.t37 : IR := .seq F24.t27 F24.t36
def F24.t38 : IR := .loop F24.t37
def F24.t39 : IR := .block 4 F24.t38
def F24.t40 : IR := .seq F24.t24 F24.t39
def F24.t41 : IR := .reg [.s (.mv (.t (.of 3))), .s (.mv (.t (.of 8))), .w .push none (.zy 1 1 [.zf] [(0, 1, (.s 0))]), .w .push none (.app 1 24 (.s 2) (.s 0)), .q (.of 3) (.mv (.s 0))]
def F24.t42 : IR := .seq F24.t40 F24.t41
def F24.t43 : IR := .seq F24.t23 F24.t42
def F24.t44 : IR := .seq F24.t22 F24.t43
def F24.t45 : IR := .seq F24.t10 F24.t44
def F24.t46 : IR := .seq F24.t9 F24.t45
def F24.t47 : IR := .block 1 F24.t46
def F24.t48 : IR := .reg [.s (.mv (.t (.of 5))), .s (.bin .add .int (.s 0) (.c (I 1))), .q (.of 5) (.mv (.s 0))]
def F24.t49 : IR := .seq F24.t47 F24.t48
def F24.t50 : IR := .seq F24.t6 F24.t49
def F24.t51 : IR := .loop F24.t50
def F24.t52 : IR := .block 0 F24.t51
def F24.t53 : IR := .seq F24.t3 F24.t52
def F24.t54 : IR := .reg [.s (.mv (.t (.of 3))), .q (.of 2) (.mv (.s 0))]
def F24.t55 : IR := .seq F24.t54 .ret
def F24.t56 : IR := .seq F24.t53 F24.t55
def F24.t57 : IR := .seq F24.t2 F24.t56
def F24.t58 : IR := .seq F24.t1 F24.t57
def F24.t59 : IR := .seq F24.t0 F24.t58
theorem F24.t0_s : IR.run F24.t0 C N O K (F24.fr c d o p i l q y w z a b f e g) h nx =
 K (F24.fr c d .zf p i l q y w z a b f e g) h nx := by kernel_rfl
theorem F24.t1_s : IR.run F24.t1 C N O K (F24.fr c d o p i l q y w z a b f e g) h nx =
 K (F24.fr c d o .zf i l q y w z a b f e g) h nx := by kernel_rfl
theorem F24.t2_s : IR.run F24.t2 C N O K (F24.fr c d o p i l q y w z a b f e g) h nx =
 j4 1 1 [(.bool false)] d d h nx fun v1 h2 n3 => K (F24.fr c d o p v1 l q y w z a b f e g) h2 n3 := by kernel_rfl
theorem F24.t3_s : IR.run F24.t3 C N O K (F24.fr c d o p i l q y w z a b f e g) h nx =
 K (F24.fr c d o p i (I 0) q y w z a b f e g) h nx := by kernel_rfl
theorem F24.t4_s : IR.run F24.t4 C N O K (F24.fr c d o p i l q y w z a b f e g) h nx =
 yc .lss .int l d fun v1 => K (F24.fr c d o p i l q y w z v1 b f e g) h nx := by kernel_rfl
theorem F24.v10 : Arg.ev (.t (.of 10)) ⟨(F24.fr c d o p i l q y w z a b f e g), []⟩ = a := by kernel_rfl
theorem F24.t7_s : IR.run F24.t7 C N O K (F24.fr c d o p i l q y w z a b f e g) h nx =
 zO 1 i l fun v1 => zF v1 h fun v2 => K (F24.fr c d o p i l q y w z a v2 f e g) h nx := by kernel_rfl
theorem F24.v11 : Arg.ev (.t (.of 11)) ⟨(F24.fr c d o p i l q y w z a b f e g), []⟩ = b := by kernel_rfl
theorem F24.t10_s : IR.run F24.t10 C N O K (F24.fr c d o p i l q y w z a b f e g) h nx =
 j4 1 1 [(.bool false)] d d h nx fun v1 h2 n3 => K (F24.fr c d o p i l v1 y w z a b f e g) h2 n3 := by kernel_rfl
theorem F24.t11_s : IR.run F24.t11 C N O K (F24.fr c d o p i l q y w z a b f e g) h nx =
 K (F24.fr c d o p i l q (I 0) w z a b f e g) h nx := by kernel_rfl
theorem F24.t12_s : IR.run F24.t12 C N O K (F24.fr c d o p i l q y w z a b f e g) h nx =
 sLen c fun v1 => yc .lss .int y v1 fun v2 => K (F24.fr c d o p i l q y w z a b v2 e g) h nx := by kernel_rfl
theorem F24.v12 : Arg.ev (.t (.of 12)) ⟨(F24.fr c d o p i l q y w z a b f e g), []⟩ = f := by kernel_rfl
theorem F24.t15_s : IR.run F24.t15 C N O K (F24.fr c d o p i l q y w z a b f e g) h nx =
 zO 2 c y fun v1 => zP 0 v1 fun v2 => zF v2 h fun v3 => zO 1 v3 l fun v4 => zF v4 h fun v5 => zO 1 q v5 fun v6 => zM 1 v6 (.bool true) h nx fun v7 h8 n9 => K (F24.fr c d o p i l q y w z a b f e g) h8 n9 := by kernel_rfl
theorem F24.t17_s : IR.run F24.t17 C N O K (F24.fr c d o p i l q y w z a b f e g) h nx =
 yc .add .int y (I 1) fun v1 => K (F24.fr c d o p i l q v1 w z a b f e g) h nx := by kernel_rfl
theorem F24.t20_L (Inv : Nat -> AV -> T Blk -> Pa -> Prop) {m : Nat} (hm : m < N) (hi : Inv m y h nx)
  (step : ∀ (m : Nat) (z7 zB : AV) (h : T Blk) (nx : Pa) (R : Ks Prop), Inv m z7 h nx -> (∀ (m' : Nat) (w7 wB : AV) (h' : T Blk) (nx' : Pa), m' < m -> Inv m' w7 h' nx' -> R (F24.fr c d o p i l q w7 w z a b wB e g) h' nx' = .ok True) -> IR.run F24.t19 C N O R (F24.fr c d o p i l q z7 w z a b zB e g) h nx = .ok True) :
  IR.run F24.t20 C N O K (F24.fr c d o p i l q y w z a b f e g) h nx = .ok True := by
 rw [F24.t20];refine yI (fun m tm h nx => ∃ z7 zB, tm = (F24.fr c d o p i l q z7 w z a b zB e g) /\ Inv m z7 h nx) ?_ hm ⟨_, _, rfl, hi⟩;rintro m tm h nx R ⟨z7, zB, rfl, hi⟩ hR;exact step m z7 zB h nx R hi fun m' w7 wB h' nx' hlt hi' => hR m' _ h' nx' hlt ⟨_, _, rfl, hi'⟩
theorem F24.t23_s : IR.run F24.t23 C N O K (F24.fr c d o p i l q y w z a b f e g) h nx =
 K (F24.fr c d o p i l q y .zf z a b f e g) h nx := by kernel_rfl
theorem F24.t24_s : IR.run F24.t24 C N O K (F24.fr c d o p i l q y w z a b f e g) h nx =
 K (F24.fr c d o p i l q y w (I 0) a b f e g) h nx := by kernel_rfl
theorem F24.t25_s : IR.run F24.t25 C N O K (F24.fr c d o p i l q y w z a b f e g) h nx =
 yc .lss .int z d fun v1 => K (F24.fr c d o p i l q y w z a b f v1 g) h nx := by kernel_rfl
theorem F24.v13 : Arg.ev (.t (.of 13)) ⟨(F24.fr c d o p i l q y w z a b f e g), []⟩ = e := by kernel_rfl
theorem F24.t28_s : IR.run F24.t28 C N O K (F24.fr c d o p i l q y w z a b f e g) h nx =
 zO 1 q z fun v1 => zF v1 h fun v2 => K (F24.fr c d o p i l q y w z a b f e v2) h nx := by kernel_rfl
theorem F24.t29_s : IR.run F24.t29 C N O K (F24.fr c d o p i l q y w z a b f e g) h nx =
 y0 1 1 [(I 0)] [(0, 1, z)] h nx fun v1 h2 n3 => sApp 1 8 w v1 h2 n3 fun v4 h5 n6 => K (F24.fr c d o p i l q y v4 z a b f e g) h5 n6 := by kernel_rfl
theorem F24.t30_s : IR.run F24.t30 C N O K (F24.fr c d o p i l q y w z a b f e g) h nx =
 zO 1 i z fun v1 => zM 1 v1 (.bool true) h nx fun v2 h3 n4 => K (F24.fr c d o p i l q y w z a b f e g) h3 n4 := by kernel_rfl
theorem F24.v14 : Arg.ev (.t (.of 14)) ⟨(F24.fr c d o p i l q y w z a b f e g), []⟩ = g := by kernel_rfl
theorem F24.t35_s : IR.run F24.t35 C N O K (F24.fr c d o p i l q y w z a b f e g) h nx =
 yc .add .int z (I 1) fun v1 => K (F24.fr c d o p i l q y w v1 a b f e g) h nx := by kernel_rfl
theorem F24.t38_L (Inv : Nat -> AV -> AV -> T Blk -> Pa -> Prop) {m : Nat} (hm : m < N) (hi : Inv m w z h nx)
  (step : ∀ (m : Nat) (z8 z9 zC zD : AV) (h : T Blk) (nx : Pa) (R : Ks Prop), Inv m z8 z9 h nx -> (∀ (m' : Nat) (w8 w9 wC wD : AV) (h' : T Blk) (nx' : Pa), m' < m -> Inv m' w8 w9 h' nx' -> R (F24.fr c d o p i l q y w8 w9 a b f wC wD) h' nx' = .ok True) -> IR.run F24.t37 C N O R (F24.fr c d o p i l q y z8 z9 a b f zC zD) h nx = .ok True) :
  IR.run F24.t38 C N O K (F24.fr c d o p i l q y w z a b f e g) h nx = .ok True := by
 rw [F24.t38];refine yI (fun m tm h nx => ∃ z8 z9 zC zD, tm = (F24.fr c d o p i l q y z8 z9 a b f zC zD) /\ Inv m z8 z9 h nx) ?_ hm ⟨_, _, _, _, rfl, hi⟩;rintro m tm h nx R ⟨z8, z9, zC, zD, rfl, hi⟩ hR;exact step m z8 z9 zC zD h nx R hi fun m' w8 w9 wC wD h' nx' hlt hi' => hR m' _ h' nx' hlt ⟨_, _, _, _, rfl, hi'⟩
theorem F24.t41_s : IR.run F24.t41 C N O K (F24.fr c d o p i l q y w z a b f e g) h nx =
 y0 1 1 [.zf] [(0, 1, w)] h nx fun v1 h2 n3 => sApp 1 24 p v1 h2 n3 fun v4 h5 n6 => K (F24.fr c d o v4 i l q y w z a b f e g) h5 n6 := by kernel_rfl
theorem F24.t48_s : IR.run F24.t48 C N O K (F24.fr c d o p i l q y w z a b f e g) h nx =
 yc .add .int l (I 1) fun v1 => K (F24.fr c d o p i v1 q y w z a b f e g) h nx := by kernel_rfl
theorem F24.t51_L (Inv : Nat -> AV -> AV -> T Blk -> Pa -> Prop) {m : Nat} (hm : m < N) (hi : Inv m p l h nx)
  (step : ∀ (m : Nat) (z3 z5 z6 z7 z8 z9 zI zA zB zC zD : AV) (h : T Blk) (nx : Pa) (R : Ks Prop), Inv m z3 z5 h nx -> (∀ (m' : Nat) (w3 w5 w6 w7 w8 w9 wH wA wB wC wD : AV) (h' : T Blk) (nx' : Pa), m' < m -> Inv m' w3 w5 h' nx' -> R (F24.fr c d o w3 i w5 w6 w7 w8 w9 wH wA wB wC wD) h' nx' = .ok True) -> IR.run F24.t50 C N O R (F24.fr c d o z3 i z5 z6 z7 z8 z9 zI zA zB zC zD) h nx = .ok True) :
  IR.run F24.t51 C N O K (F24.fr c d o p i l q y w z a b f e g) h nx = .ok True := by
 rw [F24.t51];refine yI (fun m tm h nx => ∃ z3 z5 z6 z7 z8 z9 zI zA zB zC zD, tm = (F24.fr c d o z3 i z5 z6 z7 z8 z9 zI zA zB zC zD) /\ Inv m z3 z5 h nx) ?_ hm ⟨_, _, _, _, _, _, _, _, _, _, _, rfl, hi⟩;rintro m tm h nx R ⟨z3, z5, z6, z7, z8, z9, zI, zA, zB, zC, zD, rfl, hi⟩ hR;exact step m z3 z5 z6 z7 z8 z9 zI zA zB zC zD h nx R hi fun m' w3 w5 w6 w7 w8 w9 wH wA wB wC wD h' nx' hlt hi' => hR m' _ h' nx' hlt ⟨_, _, _, _, _, _, _, _, _, _, _, rfl, hi'⟩
theorem F24.t54_s : IR.run F24.t54 C N O K (F24.fr c d o p i l q y w z a b f e g) h nx =
 K (F24.fr c d p p i l q y w z a b f e g) h nx := by kernel_rfl
theorem F24.tab : T.get none (.of 24) tbl = some F24 := by kernel_rfl
theorem F24.bind (k : T AV -> OP) : yK F24.params [a0, a1] F24.init k = k (F24.fr a0 a1 .undef .undef .undef .undef .undef .undef .undef .undef .undef .undef .undef .undef .undef) := by kernel_rfl
theorem F24.uz : F24.body = F24.t59 := by kernel_rfl
theorem F24.go : zW tbl N C (.of 24) [a0, a1] h nx K0 = IR.run F24.t59 C N (fnO F24.res K0) (qj F24.res K0) (F24.fr a0 a1 .undef .undef .undef .undef .undef .undef .undef .undef .undef .undef .undef .undef .undef) h nx := by
 rw [zL F24.tab, F24.bind, F24.uz]; kernel_rfl
theorem F24.ret : qj F24.res K0 (F24.fr c d o p i l q y w z a b f e g) h nx = K0 o h nx := by kernel_rfl
end
end Go.Ev
namespace Go.Ev
open Go Go.Proofs
set_option maxRecDepth 100000
section
variable {N : Nat} {C : Calls Prop} {K0 : Kw Prop} {K : Ks Prop} {h : T Blk} {nx : Pa} {c d o p i l q y w a0 a1 : AV} {O : um Prop} {tm : T AV} {Kt : KTm} {r : List RO} {s0 s1 s2 s3 s4 s5 s6 s7 s8 s9 s10 s11 s12 s13 s14 s15 s16 s17 s18 s19 s20 s21 s22 s23 s24 s25 s26 s27 s28 s29 s30 s31 s32 s33 s34 s35 s36 s37 s38 s39 s40 s41 s42 s43 s44 s45 s46 s47 s48 s49 s50 s51 s52 s53 s54 s55 s56 s57 s58 s59 : AV}
def F3.t0 : IR := .reg [.q (.of 2) (.mv (.c (.bool false)))]
def F3.t1 : IR := .reg [.w .push none (.call (.c (.fn 18 (.of 18) [])) []), .s (.not (.s 0)), .s (.mv (.s 0)), .p .push (some ((.s 0), false)) (.mv (.t (.of 0))), .w .push (some ((.s 1), false)) (.call (.c (.fn 19 (.of 19) [])) [(.s 0), (.c (I 24))]), .q (.of 6) (.pick (.s 2) (.c (.bool true)) (.s 0))]
def F3.t2 : IR := .reg [.w .push none (.call (.c (.fn 18 (.of 18) [])) []), .q (.of 2) (.mv (.s 0))]
def F3.t3 : IR := .seq F3.t2 .ret
def F3.t4 : IR := .cond (.t (.of 6)) F3.t3 .skip
def F3.t5 : IR := .seq F3.t1 F3.t4
def F3.t6 : IR := .reg [.s (.mv (.t (.of 0))), .s (.mv (.t (.of 1))), .w .push none (.call (.c (.fn 20 (.of 20) [])) [(.s 1), (.s 0)]), .q (.of 3) (.mv (.s 0))]
def F3.t7 : IR := .reg [.s (.mv (.t (.of 0))), .s (.mv (.t (.of 1))), .w .push none (.call (.c (.fn 21 (.of 21) [])) [(.s 1), (.s 0)]), .s (.mv (.s 0)), .s (.ext 0 (.s 0)), .s (.ext 1 (.s 1)), .q (.of 4) (.mv (.s 1)), .q (.of 5) (.mv (.s 0))]
def F3.t8 : IR := .reg [.s (.mv (.t (.of 0))), .s (.mv (.t (.of 1))), .w .push none (.call (.c (.fn 22 (.of 22) [])) [(.s 1), (.s 0)]), .s (.mv (.t (.of 3))), .q (.of 7) (.bin .neq .int (.s 1) (.s 0))]
def F3.t9 : IR := .reg [.q (.of 2) (.mv (.c (.bool false)))]
def F3.t10 : IR := .seq F3.t9 .ret
def F3.t11 : IR := .cond (.t (.of 7)) F3.t10 .skip
def F3.t12 : IR := .seq F3.t8 F3.t11
def F3.t13 : IR := .reg [.s (.mv (.t (.of 3))), .q (.of 8) (.bin .neq .int (.s 0) (.c (I 0)))]
def F3.t14 : IR := .reg [.s (.mv (.t (.of 4))), .s (.mv (.t (.of 5))), .s (.mv (.t (.of 3))), .w .push none (.call (.c (.fn 23 (.of 23) [])) [(.s 2), (.s 1), (.s 0), (.c .zf)]), .q (.of 2) (.mv (.s 0))]
def F3.t15 : IR := .seq F3.t14 .ret
def F3.t16 : IR := .cond (.t (.of 8)) F3.t15 .skip
def F3.t17 : IR := .seq F3.t13 F3.t16
def F3.t18 : IR := .reg [.s (.mv (.t (.of 4))), .s (.mv (.t (.of 5))), .s (.mv (.t (.of 0))), .s (.mv (.t (.of 1))), .w .push none (.call (.c (.fn 24 (.of 24) [])) [(.s 1), (.s 0)]), .w .push none (.call (.c (.fn 23 (.of 23) [])) [(.s 4), (.s 3), (.c (I 0)), (.s 0)]), .q (.of 2) (.mv (.s 0))]
def F3.t19 : IR := .seq F3.t18 .ret
def F3.t20 : IR := .seq F3.t17 F3.t19
def F3.t21 : IR := .seq F3.t12 F3.t20
def F3.t22 : IR := .seq F3.t7 F3.t21
def F3.t23 : IR := .seq F3.t6 F3.t22
def F3.t24 : IR := .seq F3.t5 F3.t23
def F3.t25 : IR := .seq F3.t0 F3.t24
theorem F3.t0_s : IR.run F3.t0 C N O K (F3.fr c d o p i l q y w) h nx =
 K (F3.fr c d (.bool false) p i l q y w) h nx := by kernel_rfl
theorem F3.t1_s : IR.run F3.t1 C N O K (F3.fr c d o p i l q y w) h nx =
 C.fn 18 (.of 18) [] h nx fun v1 h2 n3 => sNot v1 fun v4 => sG v4 false (fun k => k c) fun v5 => sGW v4 false (fun k => C.fn 19 (.of 19) [v5, (I 24)] h2 n3 k) h2 n3 fun v6 h7 n8 => uR v4 (.bool true) v6 fun v9 => K (F3.fr c d o p i l v9 y w) h7 n8 := by kernel_rfl
theorem F3.t2_s : IR.run F3.t2 C N O K (F3.fr c d o p i l q y w) h nx =
 C.fn 18 (.of 18) [] h nx fun v1 h2 n3 => K (F3.fr c d v1 p i l q y w) h2 n3 := by kernel_rfl
theorem F3.v6 : Arg.ev (.t (.of 6)) ⟨(F3.fr c d o p i l q y w), []⟩ = q := by kernel_rfl
theorem F3.t6_s : IR.run F3.t6 C N O K (F3.fr c d o p i l q y w) h nx =
 C.fn 20 (.of 20) [c, d] h nx fun v1 h2 n3 => K (F3.fr c d o v1 i l q y w) h2 n3 := by kernel_rfl
theorem F3.t7_s : IR.run F3.t7 C N O K (F3.fr c d o p i l q y w) h nx =
 C.fn 21 (.of 21) [c, d] h nx fun v1 h2 n3 => mW 0 v1 fun v4 => mW 1 v1 fun v5 => K (F3.fr c d o p v4 v5 q y w) h2 n3 := by kernel_rfl
theorem F3.t8_s : IR.run F3.t8 C N O K (F3.fr c d o p i l q y w) h nx =
 C.fn 22 (.of 22) [c, d] h nx fun v1 h2 n3 => yc .neq .int v1 p fun v4 => K (F3.fr c d o p i l q v4 w) h2 n3 := by kernel_rfl
theorem F3.v7 : Arg.ev (.t (.of 7)) ⟨(F3.fr c d o p i l q y w), []⟩ = y := by kernel_rfl
theorem F3.t13_s : IR.run F3.t13 C N O K (F3.fr c d o p i l q y w) h nx =
 yc .neq .int p (I 0) fun v1 => K (F3.fr c d o p i l q y v1) h nx := by kernel_rfl
theorem F3.t14_s : IR.run F3.t14 C N O K (F3.fr c d o p i l q y w) h nx =
 C.fn 23 (.of 23) [i, l, p, .zf] h nx fun v1 h2 n3 => K (F3.fr c d v1 p i l q y w) h2 n3 := by kernel_rfl
theorem F3.v8 : Arg.ev (.t (.of 8)) ⟨(F3.fr c d o p i l q y w), []⟩ = w := by kernel_rfl
theorem F3.t18_s : IR.run F3.t18 C N O K (F3.fr c d o p i l q y w) h nx =
 C.fn 24 (.of 24) [c, d] h nx fun v1 h2 n3 => C.fn 23 (.of 23) [i, l, (I 0), v1] h2 n3 fun v4 h5 n6 => K (F3.fr c d v4 p i l q y w) h5 n6 := by kernel_rfl
theorem F3.tab : T.get none (.of 3) tbl = some F3 := by kernel_rfl
theorem F3.bind (k : T AV -> OP) : yK F3.params [a0, a1] F3.init k = k (F3.fr a0 a1 .undef .undef .undef .undef .undef .undef .undef) := by kernel_rfl
theorem F3.uz : F3.body = F3.t25 := by kernel_rfl
theorem F3.go : zW tbl N C (.of 3) [a0, a1] h nx K0 = IR.run F3.t25 C N (fnO F3.res K0) (qj F3.res K0) (F3.fr a0 a1 .undef .undef .undef .undef .undef .undef .undef) h nx := by
 rw [zL F3.tab, F3.bind, F3.uz]; kernel_rfl
theorem F3.ret : qj F3.res K0 (F3.fr c d o p i l q y w) h nx = K0 o h nx := by kernel_rfl
end
end Go.Ev
