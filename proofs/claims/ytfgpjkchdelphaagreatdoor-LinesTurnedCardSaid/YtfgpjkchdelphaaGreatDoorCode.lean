import Derived.Test.YtfgpjkchdelphaaGreatDoorIrT
import Derived.KernelRfl
set_option linter.unusedSimpArgs false
set_option linter.unusedVariables false
namespace Go.Ev
open Go Go.Proofs
set_option maxRecDepth 100000
variable {N : Nat} {C : Calls Prop} {K0 : Kw Prop} {K R : Ks Prop} {h : T Blk} {nx : Pa} {x0 x1 x2 x3 x4 x5 x6 a0 a1 : AV}
end Go.Ev
namespace Go.Ev
open Go Go.Proofs
set_option maxRecDepth 100000
variable {N : Nat} {C : Calls Prop} {K0 : Kw Prop} {K R : Ks Prop} {h : T Blk} {nx : Pa} {x0 x1 x2 x3 x4 x5 x6 x7 x8 a0 a1 : AV}
theorem F86.g1_eq (X2 : IR) (O : Outs Prop) (t : T AV) : IR.run (F86.g1 X2) C N O K t h nx = IR.run X2 C N (O.blk 0 K) K t h nx := by kernel_rfl
theorem F86.tab : T.get none (.of 86) tbl = some F86 := by kernel_rfl
theorem F86.go : callFn tbl N C (.of 86) [a0] h nx K0 =
 sLen a0 fun v1 =>
 IR.run F86.b1 C N (fnO F86.res K0) (IR.run F86.b8 C N (fnO F86.res K0) (retK F86.res K0)) (F86.fr a0 (I 0) .undef a0 v1 (I 0) .undef .undef) h nx := by
 rw [callFn_of F86.tab]; kernel_rfl
theorem F86.L1 (Inv : Nat → AV → T Blk → Pa → Prop) {m : Nat} (hm : m < N) (hi : Inv m x5 h nx)
  (step : ∀ (m : Nat) (z1 z2 z5 z6 z7 : AV) (h : T Blk) (nx : Pa) (R : Ks Prop), Inv m z5 h nx → (∀ (m' : Nat) (w1 w2 w5 w6 w7 : AV) (h' : T Blk) (nx' : Pa), m' < m → Inv m' w5 h' nx' → R (F86.fr x0 w1 w2 x3 x4 w5 w6 w7) h' nx' = .ok True) →
   (sBin .lss .int z5 x4 fun v1 =>
 sCond v1 (sIaddr 1 x3 z5 fun v2 =>
 sLoad v2 h fun v3 =>
 sBin .neq .int v3 (I 0) fun v4 =>
 sCond v4 (K0 v3 h nx) (sBin .add .int z5 (I 1) fun v5 =>
 R (F86.fr x0 z1 v3 x3 x4 v5 v1 v4) h nx)) (K (F86.fr x0 z1 z2 x3 x4 z5 v1 z7) h nx)) = .ok True) :
  IR.run F86.b1 C N (fnO F86.res K0) K (F86.fr x0 x1 x2 x3 x4 x5 x6 x7) h nx = .ok True := by
 rw [F86.b1, F86.g1_eq, F86.b2]
 refine loop_ok (fun m tm h nx => ∃ z1 z2 z5 z6 z7, tm = (F86.fr x0 z1 z2 x3 x4 z5 z6 z7) ∧ Inv m z5 h nx) ?_ hm ⟨_, _, _, _, _, rfl, hi⟩
 rintro m tm h nx R ⟨z1, z2, z5, z6, z7, rfl, hi⟩ hR
 refine Eq.trans ?_ (step m z1 z2 z5 z6 z7 h nx R hi fun m' w1 w2 w5 w6 w7 h' nx' hlt hi' => hR m' _ h' nx' hlt ⟨_, _, _, _, _, rfl, hi'⟩)
 kernel_rfl
theorem F86.k8 : IR.run F86.b8 C N (fnO F86.res K0) K (F86.fr x0 x1 x2 x3 x4 x5 x6 x7) h nx =
 K0 (I 0) h nx := by kernel_rfl
theorem F88.tab : T.get none (.of 88) tbl = some F88 := by kernel_rfl
theorem F88.go : callFn tbl N C (.of 88) [a0, a1] h nx K0 =
 sCond a0 (K0 a1 h nx) (K0 (I 0) h nx) := by
 rw [callFn_of F88.tab]; kernel_rfl
end Go.Ev
namespace Go.Ev
open Go Go.Proofs
set_option maxRecDepth 100000
variable {N : Nat} {C : Calls Prop} {K0 : Kw Prop} {K R : Ks Prop} {h : T Blk} {nx : Pa} {x0 x1 x2 x3 x4 x5 x6 x7 x8 a0 a1 a2 : AV}
end Go.Ev
namespace Go.Ev
open Go Go.Proofs
set_option maxRecDepth 100000
variable {N : Nat} {C : Calls Prop} {K0 : Kw Prop} {K R : Ks Prop} {h : T Blk} {nx : Pa} {x0 x1 x2 x3 x4 x5 x6 x7 x8 x9 x10 x11 x12 x13 a0 : AV}
end Go.Ev
namespace Go.Ev
open Go Go.Proofs
set_option maxRecDepth 100000
variable {N : Nat} {C : Calls Prop} {K0 : Kw Prop} {K R : Ks Prop} {h : T Blk} {nx : Pa} {x0 x1 x2 x3 x4 x5 x6 x7 a0 a1 a2 : AV}
theorem F87.tab : T.get none (.of 87) tbl = some F87 := by kernel_rfl
theorem F87.go : callFn tbl N C (.of 87) [a0, a1, a2] h nx K0 =
 sBox a0 h nx fun v1 h2 n3 =>
 sBox a1 h2 n3 fun v4 h5 n6 =>
 C.fn 173 (.of 173) [a2, (.fn 174 (.of 174) [v1, v4])] h5 n6 fun v7 h8 n9 =>
 C.fn 88 (.of 88) [v7, (I 3)] h8 n9 fun v10 h11 n12 =>
 K0 v10 h11 n12 := by
 rw [callFn_of F87.tab]; kernel_rfl
theorem F174.tab : T.get none (.of 174) tbl = some F174 := by kernel_rfl
theorem F174.go : callFn tbl N C (.of 174) [a0, a1, a2] h nx K0 =
 sLoad a1 h fun v1 =>
 sBin .lss .int a0 v1 fun v2 =>
 sG v2 false (fun k => k a0) fun v3 =>
 sG v2 false (fun k => sLoad a2 h k) fun v4 =>
 sG v2 false (fun k => sBin .gtr .int v3 v4 k) fun v5 =>
 sPick v2 (.bool true) v5 fun v6 =>
 K0 v6 h nx := by
 rw [callFn_of F174.tab]; kernel_rfl
theorem F173.tab : T.get none (.of 173) tbl = some F173 := by kernel_rfl
theorem F173.go : callFn tbl N C (.of 173) [a0, a1] h nx K0 =
 C.fn 184 (.of 184) [a0, a1] h nx fun v1 h2 n3 =>
 sBin .geq .int v1 (I 0) fun v4 =>
 K0 v4 h2 n3 := by
 rw [callFn_of F173.tab]; kernel_rfl
theorem F184.g1_eq (X2 : IR) (O : Outs Prop) (t : T AV) : IR.run (F184.g1 X2) C N O K t h nx = IR.run X2 C N (O.blk 0 K) K t h nx := by kernel_rfl
theorem F184.tab : T.get none (.of 184) tbl = some F184 := by kernel_rfl
theorem F184.go : callFn tbl N C (.of 184) [a0, a1] h nx K0 =
 sLen a0 fun v1 =>
 IR.run F184.b1 C N (fnO F184.res K0) (IR.run F184.b8 C N (fnO F184.res K0) (retK F184.res K0)) (F184.fr a0 a1 (I 0) .undef v1 (I 0) .undef .undef) h nx := by
 rw [callFn_of F184.tab]; kernel_rfl
theorem F184.L1 (Inv : Nat → AV → T Blk → Pa → Prop) {m : Nat} (hm : m < N) (hi : Inv m x5 h nx)
  (step : ∀ (m : Nat) (z2 z3 z5 z6 z7 : AV) (h : T Blk) (nx : Pa) (R : Ks Prop), Inv m z5 h nx → (∀ (m' : Nat) (w2 w3 w5 w6 w7 : AV) (h' : T Blk) (nx' : Pa), m' < m → Inv m' w5 h' nx' → R (F184.fr x0 x1 w2 w3 x4 w5 w6 w7) h' nx' = .ok True) →
   (sBin .lss .int z5 x4 fun v1 =>
 sCond v1 (sIaddr 1 x0 z5 fun v2 =>
 sLoad v2 h fun v3 =>
 sCall C x1 [v3] h nx fun v4 h5 n6 =>
 sCond v4 (K0 z5 h5 n6) (sBin .add .int z5 (I 1) fun v7 =>
 R (F184.fr x0 x1 z2 z5 x4 v7 v1 v4) h5 n6)) (K (F184.fr x0 x1 z2 z3 x4 z5 v1 z7) h nx)) = .ok True) :
  IR.run F184.b1 C N (fnO F184.res K0) K (F184.fr x0 x1 x2 x3 x4 x5 x6 x7) h nx = .ok True := by
 rw [F184.b1, F184.g1_eq, F184.b2]
 refine loop_ok (fun m tm h nx => ∃ z2 z3 z5 z6 z7, tm = (F184.fr x0 x1 z2 z3 x4 z5 z6 z7) ∧ Inv m z5 h nx) ?_ hm ⟨_, _, _, _, _, rfl, hi⟩
 rintro m tm h nx R ⟨z2, z3, z5, z6, z7, rfl, hi⟩ hR
 refine Eq.trans ?_ (step m z2 z3 z5 z6 z7 h nx R hi fun m' w2 w3 w5 w6 w7 h' nx' hlt hi' => hR m' _ h' nx' hlt ⟨_, _, _, _, _, rfl, hi'⟩)
 kernel_rfl
theorem F184.k8 : IR.run F184.b8 C N (fnO F184.res K0) K (F184.fr x0 x1 x2 x3 x4 x5 x6 x7) h nx =
 K0 (I (-1)) h nx := by kernel_rfl
end Go.Ev
namespace Go.Ev
open Go Go.Proofs
set_option maxRecDepth 100000
variable {N : Nat} {C : Calls Prop} {K0 : Kw Prop} {K R : Ks Prop} {h : T Blk} {nx : Pa} {x0 x1 x2 x3 x4 x5 x6 x7 x8 x9 x10 x11 x12 x13 a0 a1 : AV}
end Go.Ev
namespace Go.Ev
open Go Go.Proofs
set_option maxRecDepth 100000
variable {N : Nat} {C : Calls Prop} {K0 : Kw Prop} {K R : Ks Prop} {h : T Blk} {nx : Pa} {x0 x1 x2 x3 x4 x5 x6 x7 a0 a1 : AV}
theorem F171.tab : T.get none (.of 171) tbl = some F171 := by kernel_rfl
theorem F171.go : callFn tbl N C (.of 171) [a0] h nx K0 =
 sBox a0 h nx fun v1 h2 n3 =>
 K0 (.fn 244 (.of 244) [v1]) h2 n3 := by
 rw [callFn_of F171.tab]; kernel_rfl
theorem F170.tab : T.get none (.of 170) tbl = some F170 := by kernel_rfl
theorem F170.go : callFn tbl N C (.of 170) [a0] h nx K0 =
 C.fn 242 (.of 242) [a0] h nx fun v1 h2 n3 =>
 C.fn 243 (.of 243) [v1] h2 n3 fun v4 h5 n6 =>
 K0 v1 h5 n6 := by
 rw [callFn_of F170.tab]; kernel_rfl
theorem F242.tab : T.get none (.of 242) tbl = some F242 := by kernel_rfl
theorem F242.go : callFn tbl N C (.of 242) [a0] h nx K0 =
 C.fn 282 (.of 282) [.nils, a0] h nx fun v1 h2 n3 =>
 K0 v1 h2 n3 := by
 rw [callFn_of F242.tab]; kernel_rfl
theorem F244.g1_eq (X2 : IR) (O : Outs Prop) (t : T AV) : IR.run (F244.g1 X2) C N O K t h nx = IR.run X2 C N (O.blk 0 K) K t h nx := by kernel_rfl
theorem F244.tab : T.get none (.of 244) tbl = some F244 := by kernel_rfl
theorem F244.go : callFn tbl N C (.of 244) [a0, a1] h nx K0 =
 sLoad a1 h fun v1 =>
 sLen v1 fun v2 =>
 IR.run F244.b1 C N (fnO F244.res K0) (retK F244.res K0) (F244.fr a0 a1 .undef v1 v2 (I 0) .undef .undef) h nx := by
 rw [callFn_of F244.tab]; kernel_rfl
theorem F244.L1 (Inv : Nat → AV → T Blk → Pa → Prop) {m : Nat} (hm : m < N) (hi : Inv m x5 h nx)
  (step : ∀ (m : Nat) (z2 z5 z6 z7 : AV) (h : T Blk) (nx : Pa) (R : Ks Prop), Inv m z5 h nx → (∀ (m' : Nat) (w2 w5 w6 w7 : AV) (h' : T Blk) (nx' : Pa), m' < m → Inv m' w5 h' nx' → R (F244.fr x0 x1 w2 x3 x4 w5 w6 w7) h' nx' = .ok True) →
   (sBin .lss .int z5 x4 fun v1 =>
 sCond v1 (sIaddr 1 x3 z5 fun v2 =>
 sLoad v2 h fun v3 =>
 sCall C x0 [v3] h nx fun v4 h5 n6 =>
 sNot v4 fun v7 =>
 sCond v7 (K0 (.tup []) h5 n6) (sBin .add .int z5 (I 1) fun v8 =>
 R (F244.fr x0 x1 v3 x3 x4 v8 v1 v7) h5 n6)) (K (F244.fr x0 x1 z2 x3 x4 z5 v1 z7) h nx)) = .ok True) :
  IR.run F244.b1 C N (fnO F244.res K0) K (F244.fr x0 x1 x2 x3 x4 x5 x6 x7) h nx = .ok True := by
 rw [F244.b1, F244.g1_eq, F244.b2]
 refine loop_ok (fun m tm h nx => ∃ z2 z5 z6 z7, tm = (F244.fr x0 x1 z2 x3 x4 z5 z6 z7) ∧ Inv m z5 h nx) ?_ hm ⟨_, _, _, _, rfl, hi⟩
 rintro m tm h nx R ⟨z2, z5, z6, z7, rfl, hi⟩ hR
 refine Eq.trans ?_ (step m z2 z5 z6 z7 h nx R hi fun m' w2 w5 w6 w7 h' nx' hlt hi' => hR m' _ h' nx' hlt ⟨_, _, _, _, rfl, hi'⟩)
 kernel_rfl
end Go.Ev
namespace Go.Ev
open Go Go.Proofs
set_option maxRecDepth 100000
variable {N : Nat} {C : Calls Prop} {K0 : Kw Prop} {K R : Ks Prop} {h : T Blk} {nx : Pa} {x0 x1 x2 x3 x4 x5 x6 a0 a1 : AV}
theorem F282.tab : T.get none (.of 282) tbl = some F282 := by kernel_rfl
theorem F282.go : callFn tbl N C (.of 282) [a0, a1] h nx K0 =
 sBox a0 h nx fun v1 h2 n3 =>
 IR.run (.rf (.t (.of 5)) [(.of 6)] F282.b3 F282.b4) C N ((fnO F282.res K0).blk 0 (IR.run F282.b6 C N (fnO F282.res K0) (retK F282.res K0))) (IR.run F282.b6 C N (fnO F282.res K0) (retK F282.res K0)) (F282.fr a0 a1 v1 .nils .undef a1 .undef) h2 n3 := by
 rw [callFn_of F282.tab]; kernel_rfl
theorem F282.k6 : IR.run F282.b6 C N (fnO F282.res K0) K (F282.fr x0 x1 x2 x3 x4 x5 x6) h nx =
 sLoad x2 h fun v1 =>
 K0 v1 h nx := by kernel_rfl
theorem F282.y4 {N : Nat} {C : Calls Prop} {K0 : Kw Prop} {id nx : Pa} {j : Jump} {h h1 : T Blk} {x0 x1 x2 x3 x4 x5 x6 z0 : AV} (hl : T.get .no id h = .loop .ready j (F282.fr x0 x1 x2 x3 x4 x5 x6) [.of 6] F282.b3 F282.b4) (he : h1 = T.set .no (.loop .busy j (F282.fr x0 x1 x2 x3 x4 x5 x6) [.of 6] F282.b3 F282.b4) id h) :
 callYld N C id [z0] h nx K0 =
 sLoad x2 h1 fun v1 =>
 sBslice 1 1 [(I 0)] [(0, 1, z0)] h1 nx fun v2 h3 n4 =>
 sApp 1 8 v1 v2 h3 n4 fun v5 h6 n7 =>
 sStore 1 x2 v5 h6 n7 fun v8 h9 n10 =>
 roundEnd id K0 .none true .e h9 n10 := by
 subst he
 rw [rnd_of hl (tm1 := (F282.fr x0 x1 x2 x3 x4 x5 z0)) (tm2 := (F282.fr x0 x1 x2 x3 z0 x5 z0)) (by intro k; kernel_rfl) (by intro O K h nx; kernel_rfl)]; kernel_rfl
end Go.Ev
namespace Go.Ev
open Go Go.Proofs
set_option maxRecDepth 100000
variable {N : Nat} {C : Calls Prop} {K0 : Kw Prop} {K R : Ks Prop} {h : T Blk} {nx : Pa} {x0 x1 x2 x3 x4 x5 x6 x7 x8 x9 x10 x11 x12 x13 a0 a1 : AV}
end Go.Ev
namespace Go.Ev
open Go Go.Proofs
set_option maxRecDepth 100000
variable {N : Nat} {C : Calls Prop} {K0 : Kw Prop} {K R : Ks Prop} {h : T Blk} {nx : Pa} {x0 x1 x2 x3 x4 x5 x6 x7 x8 x9 x10 a0 a1 : AV}
theorem F136.g1_eq (X2 : IR) (O : Outs Prop) (t : T AV) : IR.run (F136.g1 X2) C N O K t h nx = IR.run X2 C N (O.blk 0 K) K t h nx := by kernel_rfl
theorem F136.tab : T.get none (.of 136) tbl = some F136 := by kernel_rfl
theorem F136.go : callFn tbl N C (.of 136) [a0] h nx K0 =
 C.fn 171 (.of 171) [a0] h nx fun v1 h2 n3 =>
 C.fn 170 (.of 170) [v1] h2 n3 fun v4 h5 n6 =>
 sLen v4 fun v7 =>
 IR.run F136.b1 C N (fnO F136.res K0) (IR.run F136.b8 C N (fnO F136.res K0) (retK F136.res K0)) (F136.fr a0 (.bool false) .undef .undef v4 v7 (I 0) .undef .undef) h5 n6 := by
 rw [callFn_of F136.tab]; kernel_rfl
theorem F136.L1 (Inv : Nat → AV → T Blk → Pa → Prop) {m : Nat} (hm : m < N) (hi : Inv m x6 h nx)
  (step : ∀ (m : Nat) (z1 z2 z3 z6 z7 z8 : AV) (h : T Blk) (nx : Pa) (R : Ks Prop), Inv m z6 h nx → (∀ (m' : Nat) (w1 w2 w3 w6 w7 w8 : AV) (h' : T Blk) (nx' : Pa), m' < m → Inv m' w6 h' nx' → R (F136.fr x0 w1 w2 w3 x4 x5 w6 w7 w8) h' nx' = .ok True) →
   (sBin .lss .int z6 x5 fun v1 =>
 sCond v1 (sIaddr 1 x4 z6 fun v2 =>
 sLoad v2 h fun v3 =>
 sBin .add .int z6 (I 1) fun v4 =>
 sBin .neq .int v3 v4 fun v5 =>
 sCond v5 (K0 (.bool false) h nx) (sBin .add .int z6 (I 1) fun v6 =>
 R (F136.fr x0 z1 z6 v3 x4 x5 v6 v1 v5) h nx)) (K (F136.fr x0 z1 z2 z3 x4 x5 z6 v1 z8) h nx)) = .ok True) :
  IR.run F136.b1 C N (fnO F136.res K0) K (F136.fr x0 x1 x2 x3 x4 x5 x6 x7 x8) h nx = .ok True := by
 rw [F136.b1, F136.g1_eq, F136.b2]
 refine loop_ok (fun m tm h nx => ∃ z1 z2 z3 z6 z7 z8, tm = (F136.fr x0 z1 z2 z3 x4 x5 z6 z7 z8) ∧ Inv m z6 h nx) ?_ hm ⟨_, _, _, _, _, _, rfl, hi⟩
 rintro m tm h nx R ⟨z1, z2, z3, z6, z7, z8, rfl, hi⟩ hR
 refine Eq.trans ?_ (step m z1 z2 z3 z6 z7 z8 h nx R hi fun m' w1 w2 w3 w6 w7 w8 h' nx' hlt hi' => hR m' _ h' nx' hlt ⟨_, _, _, _, _, _, rfl, hi'⟩)
 kernel_rfl
theorem F136.k8 : IR.run F136.b8 C N (fnO F136.res K0) K (F136.fr x0 x1 x2 x3 x4 x5 x6 x7 x8) h nx =
 K0 (.bool true) h nx := by kernel_rfl
theorem F183.tab : T.get none (.of 183) tbl = some F183 := by kernel_rfl
theorem F183.go : callFn tbl N C (.of 183) [a0] h nx K0 =
 C.fn 87 (.of 87) [(I (-999999999)), (I 999999999), a0] h nx fun v1 h2 n3 =>
 K0 v1 h2 n3 := by
 rw [callFn_of F183.tab]; kernel_rfl
theorem F102.g1_eq (X2 : IR) (O : Outs Prop) (t : T AV) : IR.run (F102.g1 X2) C N O K t h nx = IR.run X2 C N (O.blk 0 K) K t h nx := by kernel_rfl
theorem F102.tab : T.get none (.of 102) tbl = some F102 := by kernel_rfl
theorem F102.go : callFn tbl N C (.of 102) [a0] h nx K0 =
 IR.run F102.b1 C N (fnO F102.res K0) (IR.run F102.b8 C N (fnO F102.res K0) (retK F102.res K0)) (F102.fr a0 (I 0) (I 0) .undef .undef) h nx := by
 rw [callFn_of F102.tab]; kernel_rfl
theorem F102.L1 (Inv : Nat → AV → T Blk → Pa → Prop) {m : Nat} (hm : m < N) (hi : Inv m x2 h nx)
  (step : ∀ (m : Nat) (z1 z2 z3 z4 : AV) (h : T Blk) (nx : Pa) (R : Ks Prop), Inv m z2 h nx → (∀ (m' : Nat) (w1 w2 w3 w4 : AV) (h' : T Blk) (nx' : Pa), m' < m → Inv m' w2 h' nx' → R (F102.fr x0 w1 w2 w3 w4) h' nx' = .ok True) →
   (sLen x0 fun v1 =>
 sBin .lss .int z2 v1 fun v2 =>
 sCond v2 (sIaddr 1 x0 z2 fun v3 =>
 sLoad v3 h fun v4 =>
 sBin .lss .int v4 (I (-999999999)) fun v5 =>
 sG v5 false (fun k => k x0) fun v6 =>
 sG v5 false (fun k => k z2) fun v7 =>
 sG v5 false (fun k => sIaddr 1 v6 v7 k) fun v8 =>
 sG v5 false (fun k => sLoad v8 h k) fun v9 =>
 sG v5 false (fun k => sBin .gtr .int v9 (I 999999999) k) fun v10 =>
 sPick v5 (.bool true) v10 fun v11 =>
 sCond v11 (K0 (I 3) h nx) (sBin .add .int z2 (I 1) fun v12 =>
 R (F102.fr x0 z1 v12 v2 v11) h nx)) (K (F102.fr x0 z1 z2 v2 z4) h nx)) = .ok True) :
  IR.run F102.b1 C N (fnO F102.res K0) K (F102.fr x0 x1 x2 x3 x4) h nx = .ok True := by
 rw [F102.b1, F102.g1_eq, F102.b2]
 refine loop_ok (fun m tm h nx => ∃ z1 z2 z3 z4, tm = (F102.fr x0 z1 z2 z3 z4) ∧ Inv m z2 h nx) ?_ hm ⟨_, _, _, _, rfl, hi⟩
 rintro m tm h nx R ⟨z1, z2, z3, z4, rfl, hi⟩ hR
 refine Eq.trans ?_ (step m z1 z2 z3 z4 h nx R hi fun m' w1 w2 w3 w4 h' nx' hlt hi' => hR m' _ h' nx' hlt ⟨_, _, _, _, rfl, hi'⟩)
 kernel_rfl
theorem F102.k8 : IR.run F102.b8 C N (fnO F102.res K0) K (F102.fr x0 x1 x2 x3 x4) h nx =
 K0 (I 0) h nx := by kernel_rfl
end Go.Ev
namespace Go.Ev
open Go Go.Proofs
set_option maxRecDepth 100000
variable {N : Nat} {C : Calls Prop} {K0 : Kw Prop} {K R : Ks Prop} {h : T Blk} {nx : Pa} {x0 x1 x2 x3 x4 x5 x6 x7 x8 x9 a0 a1 : AV}
theorem F139.g1_eq (X2 : IR) (O : Outs Prop) (t : T AV) : IR.run (F139.g1 X2) C N O K t h nx = IR.run X2 C N (O.blk 0 K) K t h nx := by kernel_rfl
theorem F139.tab : T.get none (.of 139) tbl = some F139 := by kernel_rfl
theorem F139.go : callFn tbl N C (.of 139) [a0, a1] h nx K0 =
 sBox a0 h nx fun v1 h2 n3 =>
 sFaddr 1 v1 fun v4 =>
 sLoad v4 h2 fun v5 =>
 sLen v5 fun v6 =>
 IR.run F139.b1 C N (fnO F139.res K0) (IR.run F139.b8 C N (fnO F139.res K0) (retK F139.res K0)) (F139.fr a0 a1 v1 .nils .nils .undef v5 v6 (I 0) .undef) h2 n3 := by
 rw [callFn_of F139.tab]; kernel_rfl
theorem F139.L1 (Inv : Nat → AV → AV → T Blk → Pa → Prop) {m : Nat} (hm : m < N) (hi : Inv m x4 x8 h nx)
  (step : ∀ (m : Nat) (z4 z5 z8 z9 : AV) (h : T Blk) (nx : Pa) (R : Ks Prop), Inv m z4 z8 h nx → (∀ (m' : Nat) (w4 w5 w8 w9 : AV) (h' : T Blk) (nx' : Pa), m' < m → Inv m' w4 w8 h' nx' → R (F139.fr x0 x1 x2 x3 w4 w5 x6 x7 w8 w9) h' nx' = .ok True) →
   (sBin .lss .int z8 x7 fun v1 =>
 sCond v1 (sIaddr 1 x6 z8 fun v2 =>
 sLoad v2 h fun v3 =>
 C.fn 219 (.of 219) [v3, x1] h nx fun v4 h5 n6 =>
 sBslice 1 1 [(I 0)] [(0, 1, v4)] h5 n6 fun v7 h8 n9 =>
 sApp 1 8 z4 v7 h8 n9 fun v10 h11 n12 =>
 sBin .add .int z8 (I 1) fun v13 =>
 R (F139.fr x0 x1 x2 x3 v10 v3 x6 x7 v13 v1) h11 n12) (K (F139.fr x0 x1 x2 x3 z4 z5 x6 x7 z8 v1) h nx)) = .ok True) :
  IR.run F139.b1 C N (fnO F139.res K0) K (F139.fr x0 x1 x2 x3 x4 x5 x6 x7 x8 x9) h nx = .ok True := by
 rw [F139.b1, F139.g1_eq, F139.b2]
 refine loop_ok (fun m tm h nx => ∃ z4 z5 z8 z9, tm = (F139.fr x0 x1 x2 x3 z4 z5 x6 x7 z8 z9) ∧ Inv m z4 z8 h nx) ?_ hm ⟨_, _, _, _, rfl, hi⟩
 rintro m tm h nx R ⟨z4, z5, z8, z9, rfl, hi⟩ hR
 refine Eq.trans ?_ (step m z4 z5 z8 z9 h nx R hi fun m' w4 w5 w8 w9 h' nx' hlt hi' => hR m' _ h' nx' hlt ⟨_, _, _, _, rfl, hi'⟩)
 kernel_rfl
theorem F139.k8 : IR.run F139.b8 C N (fnO F139.res K0) K (F139.fr x0 x1 x2 x3 x4 x5 x6 x7 x8 x9) h nx =
 K0 x4 h nx := by kernel_rfl
theorem F95.tab : T.get none (.of 95) tbl = some F95 := by kernel_rfl
theorem F95.go : callFn tbl N C (.of 95) [a0, a1] h nx K0 =
 sBox a0 h nx fun v1 h2 n3 =>
 sLoadN 2 v1 h2 fun v4 =>
 C.fn 139 (.of 139) [v4, a1] h2 n3 fun v5 h6 n7 =>
 sAlloc [.nils] h6 n7 fun v8 h9 n10 =>
 sStore 1 v8 v5 h9 n10 fun v11 h12 n13 =>
 sLoad v8 h12 fun v14 =>
 C.fn 184 (.of 184) [v14, (.fn 185 (.of 185) [v8])] h12 n13 fun v15 h16 n17 =>
 K0 v15 h16 n17 := by
 rw [callFn_of F95.tab]; kernel_rfl
theorem F185.tab : T.get none (.of 185) tbl = some F185 := by kernel_rfl
theorem F185.go : callFn tbl N C (.of 185) [a0, a1] h nx K0 =
 sLoad a1 h fun v1 =>
 sIaddr 1 v1 (I 0) fun v2 =>
 sLoad v2 h fun v3 =>
 sBin .neq .int a0 v3 fun v4 =>
 K0 v4 h nx := by
 rw [callFn_of F185.tab]; kernel_rfl
theorem F219.g1_eq (X2 : IR) (O : Outs Prop) (t : T AV) : IR.run (F219.g1 X2) C N O K t h nx = IR.run X2 C N (O.blk 0 K) K t h nx := by kernel_rfl
theorem F219.tab : T.get none (.of 219) tbl = some F219 := by kernel_rfl
theorem F219.go : callFn tbl N C (.of 219) [a0, a1] h nx K0 =
 sLen a0 fun v1 =>
 IR.run F219.b1 C N (fnO F219.res K0) (IR.run F219.b8 C N (fnO F219.res K0) (retK F219.res K0)) (F219.fr a0 a1 (I 0) (I 0) .undef a0 v1 (I 0) .undef) h nx := by
 rw [callFn_of F219.tab]; kernel_rfl
theorem F219.L1 (Inv : Nat → AV → AV → T Blk → Pa → Prop) {m : Nat} (hm : m < N) (hi : Inv m x3 x7 h nx)
  (step : ∀ (m : Nat) (z3 z4 z7 z8 : AV) (h : T Blk) (nx : Pa) (R : Ks Prop), Inv m z3 z7 h nx → (∀ (m' : Nat) (w3 w4 w7 w8 : AV) (h' : T Blk) (nx' : Pa), m' < m → Inv m' w3 w7 h' nx' → R (F219.fr x0 x1 x2 w3 w4 x5 x6 w7 w8) h' nx' = .ok True) →
   (sBin .lss .int z7 x6 fun v1 =>
 sCond v1 (sIaddr 1 x5 z7 fun v2 =>
 sLoad v2 h fun v3 =>
 sIaddr 1 x1 v3 fun v4 =>
 sLoad v4 h fun v5 =>
 sBin .add .int z3 v5 fun v6 =>
 sBin .add .int z7 (I 1) fun v7 =>
 R (F219.fr x0 x1 x2 v6 v3 x5 x6 v7 v1) h nx) (K (F219.fr x0 x1 x2 z3 z4 x5 x6 z7 v1) h nx)) = .ok True) :
  IR.run F219.b1 C N (fnO F219.res K0) K (F219.fr x0 x1 x2 x3 x4 x5 x6 x7 x8) h nx = .ok True := by
 rw [F219.b1, F219.g1_eq, F219.b2]
 refine loop_ok (fun m tm h nx => ∃ z3 z4 z7 z8, tm = (F219.fr x0 x1 x2 z3 z4 x5 x6 z7 z8) ∧ Inv m z3 z7 h nx) ?_ hm ⟨_, _, _, _, rfl, hi⟩
 rintro m tm h nx R ⟨z3, z4, z7, z8, rfl, hi⟩ hR
 refine Eq.trans ?_ (step m z3 z4 z7 z8 h nx R hi fun m' w3 w4 w7 w8 h' nx' hlt hi' => hR m' _ h' nx' hlt ⟨_, _, _, _, rfl, hi'⟩)
 kernel_rfl
theorem F219.k8 : IR.run F219.b8 C N (fnO F219.res K0) K (F219.fr x0 x1 x2 x3 x4 x5 x6 x7 x8) h nx =
 K0 x3 h nx := by kernel_rfl
end Go.Ev
