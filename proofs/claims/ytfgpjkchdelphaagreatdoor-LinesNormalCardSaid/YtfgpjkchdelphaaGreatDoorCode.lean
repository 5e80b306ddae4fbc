import Derived.Test.YtfgpjkchdelphaaGreatDoorIrT
import Derived.KernelRfl
set_option linter.unusedSimpArgs false
set_option linter.unusedVariables false
namespace Go.Ev
open Go Go.Proofs
set_option maxRecDepth 100000
variable {N : Nat} {C : Calls Prop} {K0 : Kw Prop} {K R : Ks Prop} {h : T Blk} {nx : Pa} {x0 x1 x2 x3 x4 x5 x6 a0 a1 : AV}
theorem F49.g2_eq (X3 : IR) (O : Outs Prop) (t : T AV) : IR.run (F49.g2 X3) C N O K t h nx = IR.run X3 C N (O.blk 0 K) K t h nx := by kernel_rfl
theorem F49.tab : T.get none (.of 49) tbl = some F49 := by kernel_rfl
theorem F49.go : callFn tbl N C (.of 49) [a0, a1] h nx K0 =
 sLen a0 fun v1 =>
 sLen a1 fun v2 =>
 sBin .neq .int v1 v2 fun v3 =>
 sCond v3 (K0 (.bool false) h nx) (IR.run F49.b2 C N (fnO F49.res K0) (IR.run F49.b9 C N (fnO F49.res K0) (retK F49.res K0)) (F49.fr a0 a1 (.bool false) (I 0) v3 .undef .undef) h nx) := by
 rw [callFn_of F49.tab]; kernel_rfl
theorem F49.L2 (Inv : Nat → AV → T Blk → Pa → Prop) {m : Nat} (hm : m < N) (hi : Inv m x3 h nx)
  (step : ∀ (m : Nat) (z2 z3 z5 z6 : AV) (h : T Blk) (nx : Pa) (R : Ks Prop), Inv m z3 h nx → (∀ (m' : Nat) (w2 w3 w5 w6 : AV) (h' : T Blk) (nx' : Pa), m' < m → Inv m' w3 h' nx' → R (F49.fr x0 x1 w2 w3 x4 w5 w6) h' nx' = .ok True) →
   (sLen x0 fun v1 =>
 sBin .lss .int z3 v1 fun v2 =>
 sCond v2 (sIaddr 1 x0 z3 fun v3 =>
 sLoad v3 h fun v4 =>
 sIaddr 1 x1 z3 fun v5 =>
 sLoad v5 h fun v6 =>
 sBin .neq .int v4 v6 fun v7 =>
 sCond v7 (K0 (.bool false) h nx) (sBin .add .int z3 (I 1) fun v8 =>
 R (F49.fr x0 x1 z2 v8 x4 v2 v7) h nx)) (K (F49.fr x0 x1 z2 z3 x4 v2 z6) h nx)) = .ok True) :
  IR.run F49.b2 C N (fnO F49.res K0) K (F49.fr x0 x1 x2 x3 x4 x5 x6) h nx = .ok True := by
 rw [F49.b2, F49.g2_eq, F49.b3]
 refine loop_ok (fun m tm h nx => ∃ z2 z3 z5 z6, tm = (F49.fr x0 x1 z2 z3 x4 z5 z6) ∧ Inv m z3 h nx) ?_ hm ⟨_, _, _, _, rfl, hi⟩
 rintro m tm h nx R ⟨z2, z3, z5, z6, rfl, hi⟩ hR
 refine Eq.trans ?_ (step m z2 z3 z5 z6 h nx R hi fun m' w2 w3 w5 w6 h' nx' hlt hi' => hR m' _ h' nx' hlt ⟨_, _, _, _, rfl, hi'⟩)
 kernel_rfl
theorem F49.k9 : IR.run F49.b9 C N (fnO F49.res K0) K (F49.fr x0 x1 x2 x3 x4 x5 x6) h nx =
 K0 (.bool true) h nx := by kernel_rfl
end Go.Ev
namespace Go.Ev
open Go Go.Proofs
set_option maxRecDepth 100000
variable {N : Nat} {C : Calls Prop} {K0 : Kw Prop} {K R : Ks Prop} {h : T Blk} {nx : Pa} {x0 x1 x2 x3 x4 x5 x6 x7 x8 a0 a1 : AV}
theorem F86.g1_eq (X2 : IR) (O : Outs Prop) (t : T AV) : IR.run (F86.g1 X2) C N O K t h nx = IR.run X2 C N (O.blk 0 K) K t h nx := by kernel_rfl
theorem F86.tab : T.get none (.of 86) tbl = some F86 := by kernel_rfl
theorem F86.go : callFn tbl N C (.of 86) [a0] h nx K0 =
 sLen a0 fun v1 =>
 IR.run F86.b1 C N (fnO F86.res K0) (IR.run F86.b8 C N (fnO F86.res K0) (retK F86.res K0)) (F86.fr a0 (I 0) .undef a0 v1 (I 0) .undef .undef) h nx := by
 rw [callFn_of F86.tab]; kernel_rfl
theorem F86.L1 (Inv : Nat → AV → T Blk → Pa → Prop) {m : Nat} (hm : m < N) (hi : Inv m x5 h nx)
  (step : ∀ (m : Nat) (z1 z2 z5 z6 z7 : AV) (h : T Blk) (nx : Pa) (R : Ks Prop), Inv m z5 h nx → (∀ (m' : Nat) (w1 w2 w5 w6 w7 : AV) (h' : T Blk) (nx' : Pa), m' < m → Inv m' w5 h' nx' → R (F86.fr x0 w1 w2 x3 x4 w5 w6 w7) h' nx' = .ok True) →
   (sBin .lss .int z5 x4 fun v1 =>
 sCond v1 (sIaddr 1 x3 z5 fun v2 =>
 sLoad v2 h fun v3 =>
 sBin .neq .int v3 (I 0) fun v4 =>
 sCond v4 (K0 v3 h nx) (sBin .add .int z5 (I 1) fun v5 =>
 R (F86.fr x0 z1 v3 x3 x4 v5 v1 v4) h nx)) (K (F86.fr x0 z1 z2 x3 x4 z5 v1 z7) h nx)) = .ok True) :
  IR.run F86.b1 C N (fnO F86.res K0) K (F86.fr x0 x1 x2 x3 x4 x5 x6 x7) h nx = .ok True := by
 rw [F86.b1, F86.g1_eq, F86.b2]
 refine loop_ok (fun m tm h nx => ∃ z1 z2 z5 z6 z7, tm = (F86.fr x0 z1 z2 x3 x4 z5 z6 z7) ∧ Inv m z5 h nx) ?_ hm ⟨_, _, _, _, _, rfl, hi⟩
 rintro m tm h nx R ⟨z1, z2, z5, z6, z7, rfl, hi⟩ hR
 refine Eq.trans ?_ (step m z1 z2 z5 z6 z7 h nx R hi fun m' w1 w2 w5 w6 w7 h' nx' hlt hi' => hR m' _ h' nx' hlt ⟨_, _, _, _, _, rfl, hi'⟩)
 kernel_rfl
theorem F86.k8 : IR.run F86.b8 C N (fnO F86.res K0) K (F86.fr x0 x1 x2 x3 x4 x5 x6 x7) h nx =
 K0 (I 0) h nx := by kernel_rfl
theorem F88.tab : T.get none (.of 88) tbl = some F88 := by kernel_rfl
theorem F88.go : callFn tbl N C (.of 88) [a0, a1] h nx K0 =
 sCond a0 (K0 a1 h nx) (K0 (I 0) h nx) := by
 rw [callFn_of F88.tab]; kernel_rfl
end Go.Ev
namespace Go.Ev
open Go Go.Proofs
set_option maxRecDepth 100000
variable {N : Nat} {C : Calls Prop} {K0 : Kw Prop} {K R : Ks Prop} {h : T Blk} {nx : Pa} {x0 x1 x2 x3 x4 x5 x6 x7 x8 a0 a1 a2 : AV}
end Go.Ev
namespace Go.Ev
open Go Go.Proofs
set_option maxRecDepth 100000
variable {N : Nat} {C : Calls Prop} {K0 : Kw Prop} {K R : Ks Prop} {h : T Blk} {nx : Pa} {x0 x1 x2 x3 x4 x5 x6 x7 x8 x9 x10 x11 x12 x13 a0 : AV}
end Go.Ev
namespace Go.Ev
open Go Go.Proofs
set_option maxRecDepth 100000
variable {N : Nat} {C : Calls Prop} {K0 : Kw Prop} {K R : Ks Prop} {h : T Blk} {nx : Pa} {x0 x1 x2 x3 x4 x5 x6 x7 a0 a1 a2 : AV}
theorem F87.tab : T.get none (.of 87) tbl = some F87 := by kernel_rfl
theorem F87.go : callFn tbl N C (.of 87) [a0, a1, a2] h nx K0 =
 sBox a0 h nx fun v1 h2 n3 =>
 sBox a1 h2 n3 fun v4 h5 n6 =>
 C.fn 173 (.of 173) [a2, (.fn 174 (.of 174) [v1, v4])] h5 n6 fun v7 h8 n9 =>
 C.fn 88 (.of 88) [v7, (I 3)] h8 n9 fun v10 h11 n12 =>
 K0 v10 h11 n12 := by
 rw [callFn_of F87.tab]; kernel_rfl
theorem F174.tab : T.get none (.of 174) tbl = some F174 := by kernel_rfl
theorem F174.go : callFn tbl N C (.of 174) [a0, a1, a2] h nx K0 =
 sLoad a1 h fun v1 =>
 sBin .lss .int a0 v1 fun v2 =>
 sG v2 false (fun k => k a0) fun v3 =>
 sG v2 false (fun k => sLoad a2 h k) fun v4 =>
 sG v2 false (fun k => sBin .gtr .int v3 v4 k) fun v5 =>
 sPick v2 (.bool true) v5 fun v6 =>
 K0 v6 h nx := by
 rw [callFn_of F174.tab]; kernel_rfl
theorem F173.tab : T.get none (.of 173) tbl = some F173 := by kernel_rfl
theorem F173.go : callFn tbl N C (.of 173) [a0, a1] h nx K0 =
 C.fn 184 (.of 184) [a0, a1] h nx fun v1 h2 n3 =>
 sBin .geq .int v1 (I 0) fun v4 =>
 K0 v4 h2 n3 := by
 rw [callFn_of F173.tab]; kernel_rfl
theorem F184.g1_eq (X2 : IR) (O : Outs Prop) (t : T AV) : IR.run (F184.g1 X2) C N O K t h nx = IR.run X2 C N (O.blk 0 K) K t h nx := by kernel_rfl
theorem F184.tab : T.get none (.of 184) tbl = some F184 := by kernel_rfl
theorem F184.go : callFn tbl N C (.of 184) [a0, a1] h nx K0 =
 sLen a0 fun v1 =>
 IR.run F184.b1 C N (fnO F184.res K0) (IR.run F184.b8 C N (fnO F184.res K0) (retK F184.res K0)) (F184.fr a0 a1 (I 0) .undef v1 (I 0) .undef .undef) h nx := by
 rw [callFn_of F184.tab]; kernel_rfl
theorem F184.L1 (Inv : Nat → AV → T Blk → Pa → Prop) {m : Nat} (hm : m < N) (hi : Inv m x5 h nx)
  (step : ∀ (m : Nat) (z2 z3 z5 z6 z7 : AV) (h : T Blk) (nx : Pa) (R : Ks Prop), Inv m z5 h nx → (∀ (m' : Nat) (w2 w3 w5 w6 w7 : AV) (h' : T Blk) (nx' : Pa), m' < m → Inv m' w5 h' nx' → R (F184.fr x0 x1 w2 w3 x4 w5 w6 w7) h' nx' = .ok True) →
   (sBin .lss .int z5 x4 fun v1 =>
 sCond v1 (sIaddr 1 x0 z5 fun v2 =>
 sLoad v2 h fun v3 =>
 sCall C x1 [v3] h nx fun v4 h5 n6 =>
 sCond v4 (K0 z5 h5 n6) (sBin .add .int z5 (I 1) fun v7 =>
 R (F184.fr x0 x1 z2 z5 x4 v7 v1 v4) h5 n6)) (K (F184.fr x0 x1 z2 z3 x4 z5 v1 z7) h nx)) = .ok True) :
  IR.run F184.b1 C N (fnO F184.res K0) K (F184.fr x0 x1 x2 x3 x4 x5 x6 x7) h nx = .ok True := by
 rw [F184.b1, F184.g1_eq, F184.b2]
 refine loop_ok (fun m tm h nx => ∃ z2 z3 z5 z6 z7, tm = (F184.fr x0 x1 z2 z3 x4 z5 z6 z7) ∧ Inv m z5 h nx) ?_ hm ⟨_, _, _, _, _, rfl, hi⟩
 rintro m tm h nx R ⟨z2, z3, z5, z6, z7, rfl, hi⟩ hR
 refine Eq.trans ?_ (step m z2 z3 z5 z6 z7 h nx R hi fun m' w2 w3 w5 w6 w7 h' nx' hlt hi' => hR m' _ h' nx' hlt ⟨_, _, _, _, _, rfl, hi'⟩)
 kernel_rfl
theorem F184.k8 : IR.run F184.b8 C N (fnO F184.res K0) K (F184.fr x0 x1 x2 x3 x4 x5 x6 x7) h nx =
 K0 (I (-1)) h nx := by kernel_rfl
end Go.Ev
namespace Go.Ev
open Go Go.Proofs
set_option maxRecDepth 100000
variable {N : Nat} {C : Calls Prop} {K0 : Kw Prop} {K R : Ks Prop} {h : T Blk} {nx : Pa} {x0 x1 x2 x3 x4 x5 x6 x7 x8 x9 x10 x11 x12 x13 a0 a1 : AV}
end Go.Ev
namespace Go.Ev
open Go Go.Proofs
set_option maxRecDepth 100000
variable {N : Nat} {C : Calls Prop} {K0 : Kw Prop} {K R : Ks Prop} {h : T Blk} {nx : Pa} {x0 x1 x2 x3 x4 x5 x6 x7 a0 a1 : AV}
theorem F171.tab : T.get none (.of 171) tbl = some F171 := by kernel_rfl
theorem F171.go : callFn tbl N C (.of 171) [a0] h nx K0 =
 sBox a0 h nx fun v1 h2 n3 =>
 K0 (.fn 244 (.of 244) [v1]) h2 n3 := by
 rw [callFn_of F171.tab]; kernel_rfl
theorem F170.tab : T.get none (.of 170) tbl = some F170 := by kernel_rfl
theorem F170.go : callFn tbl N C (.of 170) [a0] h nx K0 =
 C.fn 242 (.of 242) [a0] h nx fun v1 h2 n3 =>
 C.fn 243 (.of 243) [v1] h2 n3 fun v4 h5 n6 =>
 K0 v1 h5 n6 := by
 rw [callFn_of F170.tab]; kernel_rfl
theorem F242.tab : T.get none (.of 242) tbl = some F242 := by kernel_rfl
theorem F242.go : callFn tbl N C (.of 242) [a0] h nx K0 =
 C.fn 282 (.of 282) [.nils, a0] h nx fun v1 h2 n3 =>
 K0 v1 h2 n3 := by
 rw [callFn_of F242.tab]; kernel_rfl
theorem F244.g1_eq (X2 : IR) (O : Outs Prop) (t : T AV) : IR.run (F244.g1 X2) C N O K t h nx = IR.run X2 C N (O.blk 0 K) K t h nx := by kernel_rfl
theorem F244.tab : T.get none (.of 244) tbl = some F244 := by kernel_rfl
theorem F244.go : callFn tbl N C (.of 244) [a0, a1] h nx K0 =
 sLoad a1 h fun v1 =>
 sLen v1 fun v2 =>
 IR.run F244.b1 C N (fnO F244.res K0) (retK F244.res K0) (F244.fr a0 a1 .undef v1 v2 (I 0) .undef .undef) h nx := by
 rw [callFn_of F244.tab]; kernel_rfl
theorem F244.L1 (Inv : Nat → AV → T Blk → Pa → Prop) {m : Nat} (hm : m < N) (hi : Inv m x5 h nx)
  (step : ∀ (m : Nat) (z2 z5 z6 z7 : AV) (h : T Blk) (nx : Pa) (R : Ks Prop), Inv m z5 h nx → (∀ (m' : Nat) (w2 w5 w6 w7 : AV) (h' : T Blk) (nx' : Pa), m' < m → Inv m' w5 h' nx' → R (F244.fr x0 x1 w2 x3 x4 w5 w6 w7) h' nx' = .ok True) →
   (sBin .lss .int z5 x4 fun v1 =>
 sCond v1 (sIaddr 1 x3 z5 fun v2 =>
 sLoad v2 h fun v3 =>
 sCall C x0 [v3] h nx fun v4 h5 n6 =>
 sNot v4 fun v7 =>
 sCond v7 (K0 (.tup []) h5 n6) (sBin .add .int z5 (I 1) fun v8 =>
 R (F244.fr x0 x1 v3 x3 x4 v8 v1 v7) h5 n6)) (K (F244.fr x0 x1 z2 x3 x4 z5 v1 z7) h nx)) = .ok True) :
  IR.run F244.b1 C N (fnO F244.res K0) K (F244.fr x0 x1 x2 x3 x4 x5 x6 x7) h nx = .ok True := by
 rw [F244.b1, F244.g1_eq, F244.b2]
 refine loop_ok (fun m tm h nx => ∃ z2 z5 z6 z7, tm = (F244.fr x0 x1 z2 x3 x4 z5 z6 z7) ∧ Inv m z5 h nx) ?_ hm ⟨_, _, _, _, rfl, hi⟩
 rintro m tm h nx R ⟨z2, z5, z6, z7, rfl, hi⟩ hR
 refine Eq.trans ?_ (step m z2 z5 z6 z7 h nx R hi fun m' w2 w5 w6 w7 h' nx' hlt hi' => hR m' _ h' nx' hlt ⟨_, _, _, _, rfl, hi'⟩)
 kernel_rfl
end Go.Ev
namespace Go.Ev
open Go Go.Proofs
set_option maxRecDepth 100000
variable {N : Nat} {C : Calls Prop} {K0 : Kw Prop} {K R : Ks Prop} {h : T Blk} {nx : Pa} {x0 x1 x2 x3 x4 x5 x6 a0 a1 : AV}
theorem F282.tab : T.get none (.of 282) tbl = some F282 := by kernel_rfl
theorem F282.go : callFn tbl N C (.of 282) [a0, a1] h nx K0 =
 sBox a0 h nx fun v1 h2 n3 =>
 IR.run (.rf (.t (.of 5)) [(.of 6)] F282.b3 F282.b4) C N ((fnO F282.res K0).blk 0 (IR.run F282.b6 C N (fnO F282.res K0) (retK F282.res K0))) (IR.run F282.b6 C N (fnO F282.res K0) (retK F282.res K0)) (F282.fr a0 a1 v1 .nils .undef a1 .undef) h2 n3 := by
 rw [callFn_of F282.tab]; kernel_rfl
theorem F282.k6 : IR.run F282.b6 C N (fnO F282.res K0) K (F282.fr x0 x1 x2 x3 x4 x5 x6) h nx =
 sLoad x2 h fun v1 =>
 K0 v1 h nx := by kernel_rfl
theorem F282.y4 {N : Nat} {C : Calls Prop} {K0 : Kw Prop} {id nx : Pa} {j : Jump} {h h1 : T Blk} {x0 x1 x2 x3 x4 x5 x6 z0 : AV} (hl : T.get .no id h = .loop .ready j (F282.fr x0 x1 x2 x3 x4 x5 x6) [.of 6] F282.b3 F282.b4) (he : h1 = T.set .no (.loop .busy j (F282.fr x0 x1 x2 x3 x4 x5 x6) [.of 6] F282.b3 F282.b4) id h) :
 callYld N C id [z0] h nx K0 =
 sLoad x2 h1 fun v1 =>
 sBslice 1 1 [(I 0)] [(0, 1, z0)] h1 nx fun v2 h3 n4 =>
 sApp 1 8 v1 v2 h3 n4 fun v5 h6 n7 =>
 sStore 1 x2 v5 h6 n7 fun v8 h9 n10 =>
 roundEnd id K0 .none true .e h9 n10 := by
 subst he
 rw [rnd_of hl (tm1 := (F282.fr x0 x1 x2 x3 x4 x5 z0)) (tm2 := (F282.fr x0 x1 x2 x3 z0 x5 z0)) (by intro k; kernel_rfl) (by intro O K h nx; kernel_rfl)]; kernel_rfl
end Go.Ev
namespace Go.Ev
open Go Go.Proofs
set_option maxRecDepth 100000
variable {N : Nat} {C : Calls Prop} {K0 : Kw Prop} {K R : Ks Prop} {h : T Blk} {nx : Pa} {x0 x1 x2 x3 x4 x5 x6 x7 x8 x9 x10 x11 x12 x13 a0 a1 : AV}
end Go.Ev
namespace Go.Ev
open Go Go.Proofs
set_option maxRecDepth 100000
variable {N : Nat} {C : Calls Prop} {K0 : Kw Prop} {K R : Ks Prop} {h : T Blk} {nx : Pa} {x0 x1 x2 x3 x4 x5 x6 x7 x8 x9 x10 a0 a1 : AV}
theorem F11.tab : T.get none (.of 11) tbl = some F11 := by kernel_rfl
theorem F11.go : callFn tbl N C (.of 11) [a0] h nx K0 =
 sLen a0 fun v1 =>
 sBin .gtr .int v1 (I 300) fun v2 =>
 sCond v2 (C.fn 17 (.of 17) [] h nx fun v3 h4 n5 =>
 K0 v3 h4 n5) (C.fn 55 (.of 55) [a0] h nx fun v6 h7 n8 =>
 sExt 0 v6 fun v9 =>
 sExt 1 v6 fun v10 =>
 C.fn 47 (.of 47) [a0] h7 n8 fun v11 h12 n13 =>
 sExt 0 v11 fun v14 =>
 sExt 1 v11 fun v15 =>
 C.fn 56 (.of 56) [a0] h12 n13 fun v16 h17 n18 =>
 sBin .neq .int v16 (I 0) fun v19 =>
 sCond v19 (sNot v9 fun v20 =>
 sG v20 true (fun k => k v10) fun v21 =>
 sG v20 true (fun k => k v16) fun v22 =>
 sG v20 true (fun k => sBin .eql .int v21 v22 k) fun v23 =>
 sPick v20 v23 (.bool false) fun v24 =>
 sG v24 true (fun k => k v14) fun v25 =>
 sG v24 true (fun k => sLen v25 k) fun v26 =>
 sG v24 true (fun k => sBin .eql .int v26 (I 0) k) fun v27 =>
 sPick v24 v27 (.bool false) fun v28 =>
 sG v28 true (fun k => k v15) fun v29 =>
 sG v28 true (fun k => k v16) fun v30 =>
 sG v28 true (fun k => sBin .eql .int v29 v30 k) fun v31 =>
 sPick v28 v31 (.bool false) fun v32 =>
 sGW v32 true (fun k => C.fn 17 (.of 17) [] h17 n18 k) h17 n18 fun v33 h34 n35 =>
 sPick v32 v33 (.bool false) fun v36 =>
 K0 v36 h34 n35) ((IR.run F11.b2 C N (fnO F11.res K0) (retK F11.res K0)) (F11.fr a0 (.bool false) v9 v10 v14 v15 v16 v2 v19 .undef .undef) h17 n18)) := by
 rw [callFn_of F11.tab]; kernel_rfl
theorem F11.k2 : IR.run F11.b2 C N (fnO F11.res K0) K (F11.fr x0 x1 x2 x3 x4 x5 x6 x7 x8 x9 x10) h nx =
 sBin .neq .int x3 (I 0) fun v1 =>
 sG v1 false (fun k => k x2) fun v2 =>
 sG v1 false (fun k => k x0) fun v3 =>
 sGW v1 false (fun k => C.fn 46 (.of 46) [v3] h nx k) h nx fun v4 h5 n6 =>
 sG v1 false (fun k => sBin .neq .bool v2 v4 k) fun v7 =>
 sPick v1 (.bool true) v7 fun v8 =>
 sCond v8 (K0 (.bool false) h5 n6) ((IR.run F11.b3 C N (fnO F11.res K0) K) (F11.fr x0 x1 x2 x3 x4 x5 x6 x7 x8 v8 x10) h5 n6) := by kernel_rfl
theorem F11.k3 : IR.run F11.b3 C N (fnO F11.res K0) K (F11.fr x0 x1 x2 x3 x4 x5 x6 x7 x8 x9 x10) h nx =
 sNot x2 fun v1 =>
 sCond v1 (sLen x4 fun v2 =>
 sBin .eql .int v2 (I 0) fun v3 =>
 sG v3 true (fun k => k x5) fun v4 =>
 sG v3 true (fun k => sBin .eql .int v4 (I 14) k) fun v5 =>
 sPick v3 v5 (.bool false) fun v6 =>
 sGW v6 true (fun k => C.fn 17 (.of 17) [] h nx k) h nx fun v7 h8 n9 =>
 sPick v6 v7 (.bool false) fun v10 =>
 K0 v10 h8 n9) (sBin .eql .int x5 (I 0) fun v11 =>
 sG v11 true (fun k => k x4) fun v12 =>
 sG v11 true (fun k => k x0) fun v13 =>
 sGW v11 true (fun k => C.fn 57 (.of 57) [v13] h nx k) h nx fun v14 h15 n16 =>
 sGW v11 true (fun k => C.fn 49 (.of 49) [v12, v14] h15 n16 k) h15 n16 fun v17 h18 n19 =>
 sPick v11 v17 (.bool false) fun v20 =>
 sGW v20 true (fun k => C.fn 17 (.of 17) [] h18 n19 k) h18 n19 fun v21 h22 n23 =>
 sPick v20 v21 (.bool false) fun v24 =>
 K0 v24 h22 n23) := by kernel_rfl
theorem F55.tab : T.get none (.of 55) tbl = some F55 := by kernel_rfl
theorem F55.go : callFn tbl N C (.of 55) [a0] h nx K0 =
 C.fn 135 (.of 135) [a0] h nx fun v1 h2 n3 =>
 sBin .neq .int v1 (I 0) fun v4 =>
 sCond v4 (K0 (.tup [(.bool false), v1]) h2 n3) (C.fn 136 (.of 136) [a0] h2 n3 fun v5 h6 n7 =>
 K0 (.tup [v5, (I 0)]) h6 n7) := by
 rw [callFn_of F55.tab]; kernel_rfl
theorem F47.tab : T.get none (.of 47) tbl = some F47 := by kernel_rfl
theorem F47.go : callFn tbl N C (.of 47) [a0] h nx K0 =
 sBox a0 h nx fun v1 h2 n3 =>
 sLoad v1 h2 fun v4 =>
 sLoad v1 h2 fun v5 =>
 C.fn 135 (.of 135) [v4] h2 n3 fun v6 h7 n8 =>
 (sLoad v1 h7 fun v28 => sSame v28 v5 (C.fn 136 (.of 136) [v5] h7 n8 fun v9 h10 n11 =>
 sNot v9 fun v12 =>
 C.fn 88 (.of 88) [v12, (I 14)] h10 n11 fun v13 h14 n15 =>
 sBslice 1 2 [(I 0)] [(0, 1, v6), (1, 1, v13)] h14 n15 fun v16 h17 n18 =>
 C.fn 86 (.of 86) [v16] h17 n18 fun v19 h20 n21 =>
 sBin .neq .int v19 (I 0) fun v22 =>
 sCond v22 (K0 (.tup [.nils, v19]) h20 n21) (sLoad v1 h20 fun v23 =>
 sLen v23 fun v24 =>
 C.fn 137 (.of 137) [v24, (.fn 138 (.of 138) [v1])] h20 n21 fun v25 h26 n27 =>
 K0 (.tup [v25, (I 0)]) h26 n27))) := by
 rw [callFn_of F47.tab]; kernel_rfl
theorem F56.tab : T.get none (.of 56) tbl = some F56 := by kernel_rfl
theorem F56.go : callFn tbl N C (.of 56) [a0] h nx K0 =
 sLen a0 fun v1 =>
 sBin .eql .int v1 (I 0) fun v2 =>
 sCond v2 (K0 (I 12) h nx) (sLen a0 fun v3 =>
 sBin .gtr .int v3 (I 256) fun v4 =>
 sCond v4 (K0 (I 5) h nx) (C.fn 102 (.of 102) [a0] h nx fun v5 h6 n7 =>
 K0 v5 h6 n7)) := by
 rw [callFn_of F56.tab]; kernel_rfl
theorem F46.g7_eq (X8 : IR) (O : Outs Prop) (t : T AV) : IR.run (F46.g7 X8) C N O K t h nx = IR.run X8 C N (O.blk 2 K) K t h nx := by kernel_rfl
theorem F46.g1_eq (X2 : IR) (O : Outs Prop) (t : T AV) : IR.run (F46.g1 X2) C N O K t h nx = IR.run X2 C N (O.blk 0 K) K t h nx := by kernel_rfl
theorem F46.tab : T.get none (.of 46) tbl = some F46 := by kernel_rfl
theorem F46.go : callFn tbl N C (.of 46) [a0] h nx K0 =
 IR.run F46.b1 C N (fnO F46.res K0) (IR.run F46.b16 C N (fnO F46.res K0) (retK F46.res K0)) (F46.fr a0 (.bool false) (I 1) .undef .undef .undef .undef .undef) h nx := by
 rw [callFn_of F46.tab]; kernel_rfl
theorem F46.L1 (Inv : Nat → AV → T Blk → Pa → Prop) {m : Nat} (hm : m < N) (hi : Inv m x2 h nx)
  (step : ∀ (m : Nat) (z1 z2 z3 z4 z5 z6 z7 : AV) (h : T Blk) (nx : Pa) (R : Ks Prop), Inv m z2 h nx → (∀ (m' : Nat) (w1 w2 w3 w4 w5 w6 w7 : AV) (h' : T Blk) (nx' : Pa), m' < m → Inv m' w2 h' nx' → R (F46.fr x0 w1 w2 w3 w4 w5 w6 w7) h' nx' = .ok True) →
   (sLen x0 fun v1 =>
 sBin .leq .int z2 v1 fun v2 =>
 sCond v2 (IR.run F46.b7 C N (((fnO F46.res K0).blk 0 K).blk 1 (IR.run F46.b15 C N ((fnO F46.res K0).blk 0 K) R)) (IR.run F46.b14 C N (((fnO F46.res K0).blk 0 K).blk 1 (IR.run F46.b15 C N ((fnO F46.res K0).blk 0 K) R)) (IR.run F46.b15 C N ((fnO F46.res K0).blk 0 K) R)) (F46.fr x0 z1 z2 (.bool false) (I 0) v2 z6 z7) h nx) (K (F46.fr x0 z1 z2 z3 z4 v2 z6 z7) h nx)) = .ok True) :
  IR.run F46.b1 C N (fnO F46.res K0) K (F46.fr x0 x1 x2 x3 x4 x5 x6 x7) h nx = .ok True := by
 rw [F46.b1, F46.g1_eq, F46.b2]
 refine loop_ok (fun m tm h nx => ∃ z1 z2 z3 z4 z5 z6 z7, tm = (F46.fr x0 z1 z2 z3 z4 z5 z6 z7) ∧ Inv m z2 h nx) ?_ hm ⟨_, _, _, _, _, _, _, rfl, hi⟩
 rintro m tm h nx R ⟨z1, z2, z3, z4, z5, z6, z7, rfl, hi⟩ hR
 refine Eq.trans ?_ (step m z1 z2 z3 z4 z5 z6 z7 h nx R hi fun m' w1 w2 w3 w4 w5 w6 w7 h' nx' hlt hi' => hR m' _ h' nx' hlt ⟨_, _, _, _, _, _, _, rfl, hi'⟩)
 kernel_rfl
theorem F46.k16 : IR.run F46.b16 C N (fnO F46.res K0) K (F46.fr x0 x1 x2 x3 x4 x5 x6 x7) h nx =
 K0 (.bool true) h nx := by kernel_rfl
theorem F46.k15 {E0 : Ks Prop} : IR.run F46.b15 C N ((fnO F46.res K0).blk 0 E0) K (F46.fr x0 x1 x2 x3 x4 x5 x6 x7) h nx =
 sBin .add .int x2 (I 1) fun v1 =>
 K (F46.fr x0 x1 v1 x3 x4 x5 x6 x7) h nx := by kernel_rfl
theorem F46.L7 {E0 E1 : Ks Prop} (Inv : Nat → AV → AV → T Blk → Pa → Prop) {m : Nat} (hm : m < N) (hi : Inv m x3 x4 h nx)
  (step : ∀ (m : Nat) (z3 z4 z6 : AV) (h : T Blk) (nx : Pa) (R : Ks Prop), Inv m z3 z4 h nx → (∀ (m' : Nat) (w3 w4 w6 : AV) (h' : T Blk) (nx' : Pa), m' < m → Inv m' w3 w4 h' nx' → R (F46.fr x0 x1 x2 w3 w4 x5 w6 x7) h' nx' = .ok True) →
   (sLen x0 fun v1 =>
 sBin .lss .int z4 v1 fun v2 =>
 sCond v2 (sG z3 false (fun k => k x0) fun v3 =>
 sG z3 false (fun k => k z4) fun v4 =>
 sG z3 false (fun k => sIaddr 1 v3 v4 k) fun v5 =>
 sG z3 false (fun k => sLoad v5 h k) fun v6 =>
 sG z3 false (fun k => k x2) fun v7 =>
 sG z3 false (fun k => sBin .eql .int v6 v7 k) fun v8 =>
 sPick z3 (.bool true) v8 fun v9 =>
 sBin .add .int z4 (I 1) fun v10 =>
 R (F46.fr x0 x1 x2 v9 v10 x5 v2 x7) h nx) (K (F46.fr x0 x1 x2 z3 z4 x5 v2 x7) h nx)) = .ok True) :
  IR.run F46.b7 C N (((fnO F46.res K0).blk 0 E0).blk 1 E1) K (F46.fr x0 x1 x2 x3 x4 x5 x6 x7) h nx = .ok True := by
 rw [F46.b7, F46.g7_eq, F46.b8]
 refine loop_ok (fun m tm h nx => ∃ z3 z4 z6, tm = (F46.fr x0 x1 x2 z3 z4 x5 z6 x7) ∧ Inv m z3 z4 h nx) ?_ hm ⟨_, _, _, rfl, hi⟩
 rintro m tm h nx R ⟨z3, z4, z6, rfl, hi⟩ hR
 refine Eq.trans ?_ (step m z3 z4 z6 h nx R hi fun m' w3 w4 w6 h' nx' hlt hi' => hR m' _ h' nx' hlt ⟨_, _, _, rfl, hi'⟩)
 kernel_rfl
theorem F46.k14 {E0 E1 : Ks Prop} : IR.run F46.b14 C N (((fnO F46.res K0).blk 0 E0).blk 1 E1) K (F46.fr x0 x1 x2 x3 x4 x5 x6 x7) h nx =
 sNot x3 fun v1 =>
 sCond v1 (K0 (.bool false) h nx) (K (F46.fr x0 x1 x2 x3 x4 x5 x6 v1) h nx) := by kernel_rfl
theorem F57.g1_eq (X2 : IR) (O : Outs Prop) (t : T AV) : IR.run (F57.g1 X2) C N O K t h nx = IR.run X2 C N (O.blk 0 K) K t h nx := by kernel_rfl
theorem F57.tab : T.get none (.of 57) tbl = some F57 := by kernel_rfl
theorem F57.go : callFn tbl N C (.of 57) [a0] h nx K0 =
 IR.run F57.b1 C N (fnO F57.res K0) (IR.run F57.b8 C N (fnO F57.res K0) (retK F57.res K0)) (F57.fr a0 .nils .nils (I 0) .undef) h nx := by
 rw [callFn_of F57.tab]; kernel_rfl
theorem F57.L1 (Inv : Nat → AV → AV → T Blk → Pa → Prop) {m : Nat} (hm : m < N) (hi : Inv m x2 x3 h nx)
  (step : ∀ (m : Nat) (z2 z3 z4 : AV) (h : T Blk) (nx : Pa) (R : Ks Prop), Inv m z2 z3 h nx → (∀ (m' : Nat) (w2 w3 w4 : AV) (h' : T Blk) (nx' : Pa), m' < m → Inv m' w2 w3 h' nx' → R (F57.fr x0 x1 w2 w3 w4) h' nx' = .ok True) →
   (sLen x0 fun v1 =>
 sBin .lss .int z3 v1 fun v2 =>
 sCond v2 (sLen x0 fun v3 =>
 sBin .add .int v3 (I 1) fun v4 =>
 sIaddr 1 x0 z3 fun v5 =>
 sLoad v5 h fun v6 =>
 sBin .sub .int v4 v6 fun v7 =>
 sBslice 1 1 [(I 0)] [(0, 1, v7)] h nx fun v8 h9 n10 =>
 sApp 1 8 z2 v8 h9 n10 fun v11 h12 n13 =>
 sBin .add .int z3 (I 1) fun v14 =>
 R (F57.fr x0 x1 v11 v14 v2) h12 n13) (K (F57.fr x0 x1 z2 z3 v2) h nx)) = .ok True) :
  IR.run F57.b1 C N (fnO F57.res K0) K (F57.fr x0 x1 x2 x3 x4) h nx = .ok True := by
 rw [F57.b1, F57.g1_eq, F57.b2]
 refine loop_ok (fun m tm h nx => ∃ z2 z3 z4, tm = (F57.fr x0 x1 z2 z3 z4) ∧ Inv m z2 z3 h nx) ?_ hm ⟨_, _, _, rfl, hi⟩
 rintro m tm h nx R ⟨z2, z3, z4, rfl, hi⟩ hR
 refine Eq.trans ?_ (step m z2 z3 z4 h nx R hi fun m' w2 w3 w4 h' nx' hlt hi' => hR m' _ h' nx' hlt ⟨_, _, _, rfl, hi'⟩)
 kernel_rfl
theorem F57.k8 : IR.run F57.b8 C N (fnO F57.res K0) K (F57.fr x0 x1 x2 x3 x4) h nx =
 K0 x2 h nx := by kernel_rfl
theorem F138.tab : T.get none (.of 138) tbl = some F138 := by kernel_rfl
theorem F138.go : callFn tbl N C (.of 138) [a0, a1] h nx K0 =
 sLoad a1 h fun v1 =>
 sLen v1 fun v2 =>
 sBin .add .int v2 (I 1) fun v3 =>
 sLoad a1 h fun v4 =>
 sIaddr 1 v4 a0 fun v5 =>
 sLoad v5 h fun v6 =>
 sBin .sub .int v3 v6 fun v7 =>
 K0 v7 h nx := by
 rw [callFn_of F138.tab]; kernel_rfl
theorem F136.g1_eq (X2 : IR) (O : Outs Prop) (t : T AV) : IR.run (F136.g1 X2) C N O K t h nx = IR.run X2 C N (O.blk 0 K) K t h nx := by kernel_rfl
theorem F136.tab : T.get none (.of 136) tbl = some F136 := by kernel_rfl
theorem F136.go : callFn tbl N C (.of 136) [a0] h nx K0 =
 C.fn 171 (.of 171) [a0] h nx fun v1 h2 n3 =>
 C.fn 170 (.of 170) [v1] h2 n3 fun v4 h5 n6 =>
 sLen v4 fun v7 =>
 IR.run F136.b1 C N (fnO F136.res K0) (IR.run F136.b8 C N (fnO F136.res K0) (retK F136.res K0)) (F136.fr a0 (.bool false) .undef .undef v4 v7 (I 0) .undef .undef) h5 n6 := by
 rw [callFn_of F136.tab]; kernel_rfl
theorem F136.L1 (Inv : Nat → AV → T Blk → Pa → Prop) {m : Nat} (hm : m < N) (hi : Inv m x6 h nx)
  (step : ∀ (m : Nat) (z1 z2 z3 z6 z7 z8 : AV) (h : T Blk) (nx : Pa) (R : Ks Prop), Inv m z6 h nx → (∀ (m' : Nat) (w1 w2 w3 w6 w7 w8 : AV) (h' : T Blk) (nx' : Pa), m' < m → Inv m' w6 h' nx' → R (F136.fr x0 w1 w2 w3 x4 x5 w6 w7 w8) h' nx' = .ok True) →
   (sBin .lss .int z6 x5 fun v1 =>
 sCond v1 (sIaddr 1 x4 z6 fun v2 =>
 sLoad v2 h fun v3 =>
 sBin .add .int z6 (I 1) fun v4 =>
 sBin .neq .int v3 v4 fun v5 =>
 sCond v5 (K0 (.bool false) h nx) (sBin .add .int z6 (I 1) fun v6 =>
 R (F136.fr x0 z1 z6 v3 x4 x5 v6 v1 v5) h nx)) (K (F136.fr x0 z1 z2 z3 x4 x5 z6 v1 z8) h nx)) = .ok True) :
  IR.run F136.b1 C N (fnO F136.res K0) K (F136.fr x0 x1 x2 x3 x4 x5 x6 x7 x8) h nx = .ok True := by
 rw [F136.b1, F136.g1_eq, F136.b2]
 refine loop_ok (fun m tm h nx => ∃ z1 z2 z3 z6 z7 z8, tm = (F136.fr x0 z1 z2 z3 x4 x5 z6 z7 z8) ∧ Inv m z6 h nx) ?_ hm ⟨_, _, _, _, _, _, rfl, hi⟩
 rintro m tm h nx R ⟨z1, z2, z3, z6, z7, z8, rfl, hi⟩ hR
 refine Eq.trans ?_ (step m z1 z2 z3 z6 z7 z8 h nx R hi fun m' w1 w2 w3 w6 w7 w8 h' nx' hlt hi' => hR m' _ h' nx' hlt ⟨_, _, _, _, _, _, rfl, hi'⟩)
 kernel_rfl
theorem F136.k8 : IR.run F136.b8 C N (fnO F136.res K0) K (F136.fr x0 x1 x2 x3 x4 x5 x6 x7 x8) h nx =
 K0 (.bool true) h nx := by kernel_rfl
theorem F183.tab : T.get none (.of 183) tbl = some F183 := by kernel_rfl
theorem F183.go : callFn tbl N C (.of 183) [a0] h nx K0 =
 C.fn 87 (.of 87) [(I (-999999999)), (I 999999999), a0] h nx fun v1 h2 n3 =>
 K0 v1 h2 n3 := by
 rw [callFn_of F183.tab]; kernel_rfl
theorem F135.tab : T.get none (.of 135) tbl = some F135 := by kernel_rfl
theorem F135.go : callFn tbl N C (.of 135) [a0] h nx K0 =
 sLen a0 fun v1 =>
 sBin .eql .int v1 (I 0) fun v2 =>
 C.fn 88 (.of 88) [v2, (I 12)] h nx fun v3 h4 n5 =>
 sLen a0 fun v6 =>
 sBin .gtr .int v6 (I 256) fun v7 =>
 C.fn 88 (.of 88) [v7, (I 5)] h4 n5 fun v8 h9 n10 =>
 C.fn 183 (.of 183) [a0] h9 n10 fun v11 h12 n13 =>
 sBslice 1 3 [(I 0)] [(0, 1, v3), (1, 1, v8), (2, 1, v11)] h12 n13 fun v14 h15 n16 =>
 C.fn 86 (.of 86) [v14] h15 n16 fun v17 h18 n19 =>
 K0 v17 h18 n19 := by
 rw [callFn_of F135.tab]; kernel_rfl
theorem F137.g1_eq (X2 : IR) (O : Outs Prop) (t : T AV) : IR.run (F137.g1 X2) C N O K t h nx = IR.run X2 C N (O.blk 0 K) K t h nx := by kernel_rfl
theorem F137.tab : T.get none (.of 137) tbl = some F137 := by kernel_rfl
theorem F137.go : callFn tbl N C (.of 137) [a0, a1] h nx K0 =
 sMkslice 1 8 [(I 0)] a0 a0 h nx fun v1 h2 n3 =>
 sLen v1 fun v4 =>
 IR.run F137.b1 C N (fnO F137.res K0) (IR.run F137.b8 C N (fnO F137.res K0) (retK F137.res K0)) (F137.fr a0 a1 .nils v1 .undef v4 (I 0) .undef) h2 n3 := by
 rw [callFn_of F137.tab]; kernel_rfl
theorem F137.L1 (Inv : Nat → AV → T Blk → Pa → Prop) {m : Nat} (hm : m < N) (hi : Inv m x6 h nx)
  (step : ∀ (m : Nat) (z4 z6 z7 : AV) (h : T Blk) (nx : Pa) (R : Ks Prop), Inv m z6 h nx → (∀ (m' : Nat) (w4 w6 w7 : AV) (h' : T Blk) (nx' : Pa), m' < m → Inv m' w6 h' nx' → R (F137.fr x0 x1 x2 x3 w4 x5 w6 w7) h' nx' = .ok True) →
   (sBin .lss .int z6 x5 fun v1 =>
 sCond v1 (sCall C x1 [z6] h nx fun v2 h3 n4 =>
 sIaddr 1 x3 z6 fun v5 =>
 sStore 1 v5 v2 h3 n4 fun v6 h7 n8 =>
 sBin .add .int z6 (I 1) fun v9 =>
 R (F137.fr x0 x1 x2 x3 z6 x5 v9 v1) h7 n8) (K (F137.fr x0 x1 x2 x3 z4 x5 z6 v1) h nx)) = .ok True) :
  IR.run F137.b1 C N (fnO F137.res K0) K (F137.fr x0 x1 x2 x3 x4 x5 x6 x7) h nx = .ok True := by
 rw [F137.b1, F137.g1_eq, F137.b2]
 refine loop_ok (fun m tm h nx => ∃ z4 z6 z7, tm = (F137.fr x0 x1 x2 x3 z4 x5 z6 z7) ∧ Inv m z6 h nx) ?_ hm ⟨_, _, _, rfl, hi⟩
 rintro m tm h nx R ⟨z4, z6, z7, rfl, hi⟩ hR
 refine Eq.trans ?_ (step m z4 z6 z7 h nx R hi fun m' w4 w6 w7 h' nx' hlt hi' => hR m' _ h' nx' hlt ⟨_, _, _, rfl, hi'⟩)
 kernel_rfl
theorem F137.k8 : IR.run F137.b8 C N (fnO F137.res K0) K (F137.fr x0 x1 x2 x3 x4 x5 x6 x7) h nx =
 K0 x3 h nx := by kernel_rfl
theorem F102.g1_eq (X2 : IR) (O : Outs Prop) (t : T AV) : IR.run (F102.g1 X2) C N O K t h nx = IR.run X2 C N (O.blk 0 K) K t h nx := by kernel_rfl
theorem F102.tab : T.get none (.of 102) tbl = some F102 := by kernel_rfl
theorem F102.go : callFn tbl N C (.of 102) [a0] h nx K0 =
 IR.run F102.b1 C N (fnO F102.res K0) (IR.run F102.b8 C N (fnO F102.res K0) (retK F102.res K0)) (F102.fr a0 (I 0) (I 0) .undef .undef) h nx := by
 rw [callFn_of F102.tab]; kernel_rfl
theorem F102.L1 (Inv : Nat → AV → T Blk → Pa → Prop) {m : Nat} (hm : m < N) (hi : Inv m x2 h nx)
  (step : ∀ (m : Nat) (z1 z2 z3 z4 : AV) (h : T Blk) (nx : Pa) (R : Ks Prop), Inv m z2 h nx → (∀ (m' : Nat) (w1 w2 w3 w4 : AV) (h' : T Blk) (nx' : Pa), m' < m → Inv m' w2 h' nx' → R (F102.fr x0 w1 w2 w3 w4) h' nx' = .ok True) →
   (sLen x0 fun v1 =>
 sBin .lss .int z2 v1 fun v2 =>
 sCond v2 (sIaddr 1 x0 z2 fun v3 =>
 sLoad v3 h fun v4 =>
 sBin .lss .int v4 (I (-999999999)) fun v5 =>
 sG v5 false (fun k => k x0) fun v6 =>
 sG v5 false (fun k => k z2) fun v7 =>
 sG v5 false (fun k => sIaddr 1 v6 v7 k) fun v8 =>
 sG v5 false (fun k => sLoad v8 h k) fun v9 =>
 sG v5 false (fun k => sBin .gtr .int v9 (I 999999999) k) fun v10 =>
 sPick v5 (.bool true) v10 fun v11 =>
 sCond v11 (K0 (I 3) h nx) (sBin .add .int z2 (I 1) fun v12 =>
 R (F102.fr x0 z1 v12 v2 v11) h nx)) (K (F102.fr x0 z1 z2 v2 z4) h nx)) = .ok True) :
  IR.run F102.b1 C N (fnO F102.res K0) K (F102.fr x0 x1 x2 x3 x4) h nx = .ok True := by
 rw [F102.b1, F102.g1_eq, F102.b2]
 refine loop_ok (fun m tm h nx => ∃ z1 z2 z3 z4, tm = (F102.fr x0 z1 z2 z3 z4) ∧ Inv m z2 h nx) ?_ hm ⟨_, _, _, _, rfl, hi⟩
 rintro m tm h nx R ⟨z1, z2, z3, z4, rfl, hi⟩ hR
 refine Eq.trans ?_ (step m z1 z2 z3 z4 h nx R hi fun m' w1 w2 w3 w4 h' nx' hlt hi' => hR m' _ h' nx' hlt ⟨_, _, _, _, rfl, hi'⟩)
 kernel_rfl
theorem F102.k8 : IR.run F102.b8 C N (fnO F102.res K0) K (F102.fr x0 x1 x2 x3 x4) h nx =
 K0 (I 0) h nx := by kernel_rfl
end Go.Ev
