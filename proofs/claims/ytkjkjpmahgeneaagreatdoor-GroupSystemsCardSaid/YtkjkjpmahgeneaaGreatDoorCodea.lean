import Derived.Test.YtkjkjpmahgeneaaGreatDoorIrT
import Derived.KernelRfl
import Derived.Test.YtkjkjpmahgeneaaGreatDoorEvD
set_option linter.unusedSimpArgs false
set_option linter.unusedVariables false
noncomputable section
namespace Go.Ev
open Go Go.Proofs
set_option maxRecDepth 100000
variable {N:Nat} {C:Calls Prop} {K0:Kw Prop} {K R:Ks Prop} {h:T Blk} {nx:Pa} {f g q s p v u a0 a1 a2 w y A a b d c e i l o z B D F E G H:AV}
theorem F83.tab:T.get none (.of 83) tbl=some F83:=by kernel_rfl
theorem F83.go:zV tbl N C (.of 83) [a0,a1,a2] h nx K0 =
 cu a0 h nx fun v1 h2 n3=>zH 2 v1 h2 fun v4=>C.fn 32 (.of 32) [v4,a1,a2] h2 n3 fun v5 h6 n7=>sG v5 true (fun k=>zH 2 v1 h6 k) fun v8=>sGW v5 true (fun k=>C.fn 33 (.of 33) [v8] h6 n7 k) h6 n7 fun v9 hA nA=>sG v5 true (fun k=>zo .eql .int v9 (I 0) k) fun vA=>jR v5 vA (.bool false) fun vB=>sG vB true (fun k=>zL 0 v1 k) fun vC=>sG vB true (fun k=>zE vC hA k) fun vD=>sG vB true (fun k=>k a1) fun vE=>sG vB true (fun k=>zo .leq .int vD vE k) fun vF=>jR vB vF (.bool false) fun vG=>K0 vG hA nA:=by
 rw [zI F83.tab];kernel_rfl
theorem F93.sN (X3:IR) (O:jl Prop) (t:T AV):IR.run (F93.g2 X3) C N O K t h nx=IR.run X3 C N (O.blk 0 K) K t h nx:=by kernel_rfl
theorem F93.tab:T.get none (.of 93) tbl=some F93:=by kernel_rfl
theorem F93.go:zV tbl N C (.of 93) [a0] h nx K0 =
 sLen a0 fun v1=>zo .gtr .int v1 (I 256) fun v2=>zT v2 (K0 (I 5) h nx) (sLen a0 fun v3=>gR 1 1 [(.bool false)] v3 v3 h nx fun v4 h5 n6=>IR.run F93.b2 C N (fnO F93.res K0) (IR.run F93.b10 C N (fnO F93.res K0) (wu F93.res K0)) (F93.fr a0 (I 0) v4 (I 0) v2 .undef .undef) h5 n6):=by
 rw [zI F93.tab];kernel_rfl
theorem F93.L2 (Inv:Nat->AV->T Blk->Pa->Prop) {m:Nat} (hm:m<N) (hi:Inv m s h nx)
  (step:∀ (m:Nat) (z1 z3 z5 z6:AV) (h:T Blk) (nx:Pa) (R:Ks Prop),Inv m z3 h nx->(∀ (m':Nat) (w1 w3 w5 w6:AV) (h':T Blk) (nx':Pa),m'<m->Inv m' w3 h' nx'->R (F93.fr f w1 q w3 p w5 w6) h' nx'=.ok True) ->
   (sLen f fun v1=>zo .lss .int z3 v1 fun v2=>zT v2 (zO 1 f z3 fun v3=>zE v3 h fun v4=>zo .lss .int v4 (I 0) fun v5=>sG v5 false (fun k=>k f) fun v6=>sG v5 false (fun k=>k z3) fun v7=>sG v5 false (fun k=>zO 1 v6 v7 k) fun v8=>sG v5 false (fun k=>zE v8 h k) fun v9=>sG v5 false (fun k=>k f) fun vH=>sG v5 false (fun k=>sLen vH k) fun vI=>sG v5 false (fun k=>zo .geq .int v9 vI k) fun vA=>jR v5 (.bool true) vA fun vB=>sG vB false (fun k=>k q) fun vC=>sG vB false (fun k=>k f) fun vD=>sG vB false (fun k=>k z3) fun vE=>sG vB false (fun k=>zO 1 vD vE k) fun vF=>sG vB false (fun k=>zE vF h k) fun vG=>sG vB false (fun k=>zO 1 vC vG k) fun vJ=>sG vB false (fun k=>zE vJ h k) fun vK=>jR vB (.bool true) vK fun vL=>zT vL (K0 (I 14) h nx) ((IR.run F93.b8 C N (((fnO F93.res K0).blk 0 K).blk 1 (IR.run F93.b9 C N ((fnO F93.res K0).blk 0 K) R)) (IR.run F93.b9 C N ((fnO F93.res K0).blk 0 K) R)) (F93.fr f z1 q z3 p v2 vL) h nx)) (K (F93.fr f z1 q z3 p v2 z6) h nx))=.ok True) :
  IR.run F93.b2 C N (fnO F93.res K0) K (F93.fr f g q s p v u) h nx=.ok True:=by
 rw [F93.b2,F93.sN,F93.b3];refine yF (fun m tm h nx=>∃ z1 z3 z5 z6,tm=(F93.fr f z1 q z3 p z5 z6)/\Inv m z3 h nx) ?_ hm ⟨_,_,_,_,rfl,hi⟩;rintro m tm h nx R ⟨z1,z3,z5,z6,rfl,hi⟩ hR;refine Eq.trans ?_ (step m z1 z3 z5 z6 h nx R hi fun m' w1 w3 w5 w6 h' nx' hlt hi'=>hR m' _ h' nx' hlt ⟨_,_,_,_,rfl,hi'⟩)
 kernel_rfl
theorem F93.k10:IR.run F93.b10 C N (fnO F93.res K0) K (F93.fr f g q s p v u) h nx =
 K0 (I 0) h nx:=by kernel_rfl
theorem F93.k9 {E0:Ks Prop}:IR.run F93.b9 C N ((fnO F93.res K0).blk 0 E0) K (F93.fr f g q s p v u) h nx =
 zo .add .int s (I 1) fun v1=>K (F93.fr f g q v1 p v u) h nx:=by kernel_rfl
theorem F93.k8 {E0 E1:Ks Prop}:IR.run F93.b8 C N (((fnO F93.res K0).blk 0 E0).blk 1 E1) K (F93.fr f g q s p v u) h nx =
 zO 1 f s fun v1=>zE v1 h fun v2=>zO 1 q v2 fun v3=>zQ 1 v3 (.bool true) h nx fun v4 h5 n6=>K (F93.fr f g q s p v u) h5 n6:=by kernel_rfl
theorem F26.tab:T.get none (.of 26) tbl=some F26:=by kernel_rfl
theorem F26.go:zV tbl N C (.of 26) [a0,a1] h nx K0 =
 cu a0 h nx fun v1 h2 n3=>C.fn 25 (.of 25) [a1] h2 n3 fun v4 h5 n6=>zo .neq .int v4 (I 0) fun v7=>zT v7 (K0 (I 3) h5 n6) (zL 0 v1 fun v8=>zE v8 h5 fun v9=>sLen v9 fun vH=>zo .neq .int vH a1 fun vI=>zT vI (K0 (I 2) h5 n6) (zL 0 v1 fun vA=>zE vA h5 fun vB=>C.fn 93 (.of 93) [vB] h5 n6 fun vC hB nB=>K0 vC hB nB)):=by
 rw [zI F26.tab];kernel_rfl
theorem F25.tab:T.get none (.of 25) tbl=some F25:=by kernel_rfl
theorem F25.go:zV tbl N C (.of 25) [a0] h nx K0 =
 zo .lss .int a0 (I 0) fun v1=>sG v1 false (fun k=>k a0) fun v2=>sG v1 false (fun k=>zo .gtr .int v2 (I 256) k) fun v3=>jR v1 (.bool true) v3 fun v4=>zT v4 (K0 (I 3) h nx) (K0 (I 0) h nx):=by
 rw [zI F25.tab];kernel_rfl
theorem F82.sN (X3:IR) (O:jl Prop) (t:T AV):IR.run (F82.g2 X3) C N O K t h nx=IR.run X3 C N (O.blk 0 K) K t h nx:=by kernel_rfl
theorem F82.tab:T.get none (.of 82) tbl=some F82:=by kernel_rfl
theorem F82.go:zV tbl N C (.of 82) [a0,a1] h nx K0 =
 sLen a0 fun v1=>sLen a1 fun v2=>zo .neq .int v1 v2 fun v3=>zT v3 (K0 (.bool false) h nx) (IR.run F82.b2 C N (fnO F82.res K0) (IR.run F82.b9 C N (fnO F82.res K0) (wu F82.res K0)) (F82.fr a0 a1 (.bool false) (I 0) v3 .undef .undef) h nx):=by
 rw [zI F82.tab];kernel_rfl
theorem F82.L2 (Inv:Nat->AV->T Blk->Pa->Prop) {m:Nat} (hm:m<N) (hi:Inv m s h nx)
  (step:∀ (m:Nat) (z2 z3 z5 z6:AV) (h:T Blk) (nx:Pa) (R:Ks Prop),Inv m z3 h nx->(∀ (m':Nat) (w2 w3 w5 w6:AV) (h':T Blk) (nx':Pa),m'<m->Inv m' w3 h' nx'->R (F82.fr f g w2 w3 p w5 w6) h' nx'=.ok True) ->
   (sLen f fun v1=>zo .lss .int z3 v1 fun v2=>zT v2 (zO 1 f z3 fun v3=>zE v3 h fun v4=>zO 1 g z3 fun v5=>zE v5 h fun v6=>zo .neq .int v4 v6 fun v7=>zT v7 (K0 (.bool false) h nx) (zo .add .int z3 (I 1) fun v8=>R (F82.fr f g z2 v8 p v2 v7) h nx)) (K (F82.fr f g z2 z3 p v2 z6) h nx))=.ok True) :
  IR.run F82.b2 C N (fnO F82.res K0) K (F82.fr f g q s p v u) h nx=.ok True:=by
 rw [F82.b2,F82.sN,F82.b3];refine yF (fun m tm h nx=>∃ z2 z3 z5 z6,tm=(F82.fr f g z2 z3 p z5 z6)/\Inv m z3 h nx) ?_ hm ⟨_,_,_,_,rfl,hi⟩;rintro m tm h nx R ⟨z2,z3,z5,z6,rfl,hi⟩ hR;refine Eq.trans ?_ (step m z2 z3 z5 z6 h nx R hi fun m' w2 w3 w5 w6 h' nx' hlt hi'=>hR m' _ h' nx' hlt ⟨_,_,_,_,rfl,hi'⟩)
 kernel_rfl
theorem F82.k9:IR.run F82.b9 C N (fnO F82.res K0) K (F82.fr f g q s p v u) h nx =
 K0 (.bool true) h nx:=by kernel_rfl
theorem sO.tab:T.get none (.of 106) tbl=some sO:=by kernel_rfl
theorem sO.go:zV tbl N C (.of 106) [a0] h nx K0 =
 zo .eql (.nil .sl) a0 .zh fun v1=>zT v1 (K0 .zh h nx) (yY 1 0 [(I 0)] [] h nx fun v2 h3 n4=>tq 1 8 v2 a0 h3 n4 fun v5 h6 n7=>K0 v5 h6 n7):=by
 rw [zI sO.tab];kernel_rfl
theorem aU.tab:T.get none (.of 217) tbl=some aU:=by kernel_rfl
theorem aU.go:zV tbl N C (.of 217) [a0,a1] h nx K0 =
 zE a1 h fun v1=>C.fn 158 (.of 158) [a0,v1] h nx fun v2 h3 n4=>K0 v2 h3 n4:=by
 rw [zI aU.tab];kernel_rfl
theorem aV.tab:T.get none (.of 216) tbl=some aV:=by kernel_rfl
theorem aV.go:zV tbl N C (.of 216) [a0,a1] h nx K0 =
 C.fn 259 (.of 259) [a0,a1] h nx fun v1 h2 n3=>zo .geq .int v1 (I 0) fun v4=>K0 v4 h2 n3:=by
 rw [zI aV.tab];kernel_rfl
theorem ug.pz (X2:IR) (O:jl Prop) (t:T AV):IR.run (ug.g1 X2) C N O K t h nx=IR.run X2 C N (O.blk 0 K) K t h nx:=by kernel_rfl
theorem ug.tab:T.get none (.of 259) tbl=some ug:=by kernel_rfl
theorem ug.go:zV tbl N C (.of 259) [a0,a1] h nx K0 =
 sLen a0 fun v1=>IR.run ug.b1 C N (fnO ug.res K0) (IR.run ug.b8 C N (fnO ug.res K0) (wu ug.res K0)) (ug.fr a0 a1 (I 0) .undef v1 (I 0) .undef .undef) h nx:=by
 rw [zI ug.tab];kernel_rfl
theorem ug.L1 (Inv:Nat->AV->T Blk->Pa->Prop) {m:Nat} (hm:m<N) (hi:Inv m v h nx)
  (step:∀ (m:Nat) (z2 z3 z5 z6 z7:AV) (h:T Blk) (nx:Pa) (R:Ks Prop),Inv m z5 h nx->(∀ (m':Nat) (w2 w3 w5 w6 w7:AV) (h':T Blk) (nx':Pa),m'<m->Inv m' w5 h' nx'->R (ug.fr f g w2 w3 p w5 w6 w7) h' nx'=.ok True) ->
   (zo .lss .int z5 p fun v1=>zT v1 (zO 1 f z5 fun v2=>zE v2 h fun v3=>vQ C g [v3] h nx fun v4 h5 n6=>zT v4 (K0 z5 h5 n6) (zo .add .int z5 (I 1) fun v7=>R (ug.fr f g z2 z5 p v7 v1 v4) h5 n6)) (K (ug.fr f g z2 z3 p z5 v1 z7) h nx))=.ok True) :
  IR.run ug.b1 C N (fnO ug.res K0) K (ug.fr f g q s p v u w) h nx=.ok True:=by
 rw [ug.b1,ug.pz,ug.b2];refine yF (fun m tm h nx=>∃ z2 z3 z5 z6 z7,tm=(ug.fr f g z2 z3 p z5 z6 z7)/\Inv m z5 h nx) ?_ hm ⟨_,_,_,_,_,rfl,hi⟩;rintro m tm h nx R ⟨z2,z3,z5,z6,z7,rfl,hi⟩ hR;refine Eq.trans ?_ (step m z2 z3 z5 z6 z7 h nx R hi fun m' w2 w3 w5 w6 w7 h' nx' hlt hi'=>hR m' _ h' nx' hlt ⟨_,_,_,_,_,rfl,hi'⟩)
 kernel_rfl
theorem ug.k8:IR.run ug.b8 C N (fnO ug.res K0) K (ug.fr f g q s p v u w) h nx =
 K0 (I (-1)) h nx:=by kernel_rfl
theorem jv.sN (X3:IR) (O:jl Prop) (t:T AV):IR.run (jv.g2 X3) C N O K t h nx=IR.run X3 C N (O.blk 0 K) K t h nx:=by kernel_rfl
theorem jv.tab:T.get none (.of 158) tbl=some jv:=by kernel_rfl
theorem jv.go:zV tbl N C (.of 158) [a0,a1] h nx K0 =
 sLen a0 fun v1=>sLen a1 fun v2=>zo .neq .int v1 v2 fun v3=>zT v3 (K0 (.bool false) h nx) (sLen a0 fun v4=>IR.run jv.b2 C N (fnO jv.res K0) (IR.run jv.b9 C N (fnO jv.res K0) (wu jv.res K0)) (jv.fr a0 a1 (.bool false) .undef v3 v4 (I 0) .undef .undef) h nx):=by
 rw [zI jv.tab];kernel_rfl
theorem jv.L2 (Inv:Nat->AV->T Blk->Pa->Prop) {m:Nat} (hm:m<N) (hi:Inv m u h nx)
  (step:∀ (m:Nat) (z2 z3 z6 z7 z8:AV) (h:T Blk) (nx:Pa) (R:Ks Prop),Inv m z6 h nx->(∀ (m':Nat) (w2 w3 w6 w7 w8:AV) (h':T Blk) (nx':Pa),m'<m->Inv m' w6 h' nx'->R (jv.fr f g w2 w3 p v w6 w7 w8) h' nx'=.ok True) ->
   (zo .lss .int z6 v fun v1=>zT v1 (zO 1 f z6 fun v2=>zE v2 h fun v3=>zO 1 g z6 fun v4=>zE v4 h fun v5=>zo .neq .int v3 v5 fun v6=>zT v6 (K0 (.bool false) h nx) (zo .add .int z6 (I 1) fun v7=>R (jv.fr f g z2 z6 p v v7 v1 v6) h nx)) (K (jv.fr f g z2 z3 p v z6 v1 z8) h nx))=.ok True) :
  IR.run jv.b2 C N (fnO jv.res K0) K (jv.fr f g q s p v u w y) h nx=.ok True:=by
 rw [jv.b2,jv.sN,jv.b3];refine yF (fun m tm h nx=>∃ z2 z3 z6 z7 z8,tm=(jv.fr f g z2 z3 p v z6 z7 z8)/\Inv m z6 h nx) ?_ hm ⟨_,_,_,_,_,rfl,hi⟩;rintro m tm h nx R ⟨z2,z3,z6,z7,z8,rfl,hi⟩ hR;refine Eq.trans ?_ (step m z2 z3 z6 z7 z8 h nx R hi fun m' w2 w3 w6 w7 w8 h' nx' hlt hi'=>hR m' _ h' nx' hlt ⟨_,_,_,_,_,rfl,hi'⟩)
 kernel_rfl
theorem jv.k9:IR.run jv.b9 C N (fnO jv.res K0) K (jv.fr f g q s p v u w y) h nx =
 K0 (.bool true) h nx:=by kernel_rfl
theorem uh.pz (X2:IR) (O:jl Prop) (t:T AV):IR.run (uh.g1 X2) C N O K t h nx=IR.run X2 C N (O.blk 0 K) K t h nx:=by kernel_rfl
theorem uh.tab:T.get none (.of 102) tbl=some uh:=by kernel_rfl
theorem uh.go:zV tbl N C (.of 102) [a0,a1] h nx K0 =
 IR.run uh.b1 C N (fnO uh.res K0) (IR.run uh.b8 C N (fnO uh.res K0) (wu uh.res K0)) (uh.fr a0 a1 (.bool false) (I 0) .undef .undef) h nx:=by
 rw [zI uh.tab];kernel_rfl
theorem uh.L1 (Inv:Nat->AV->T Blk->Pa->Prop) {m:Nat} (hm:m<N) (hi:Inv m s h nx)
  (step:∀ (m:Nat) (z2 z3 z4 z5:AV) (h:T Blk) (nx:Pa) (R:Ks Prop),Inv m z3 h nx->(∀ (m':Nat) (w2 w3 w4 w5:AV) (h':T Blk) (nx':Pa),m'<m->Inv m' w3 h' nx'->R (uh.fr f g w2 w3 w4 w5) h' nx'=.ok True) ->
   (sLen f fun v1=>zo .lss .int z3 v1 fun v2=>zT v2 (zO 1 f z3 fun v3=>zE v3 h fun v4=>C.fn 82 (.of 82) [v4,g] h nx fun v5 h6 n7=>zT v5 (K0 (.bool true) h6 n7) (zo .add .int z3 (I 1) fun v8=>R (uh.fr f g z2 v8 v2 v5) h6 n7)) (K (uh.fr f g z2 z3 v2 z5) h nx))=.ok True) :
  IR.run uh.b1 C N (fnO uh.res K0) K (uh.fr f g q s p v) h nx=.ok True:=by
 rw [uh.b1,uh.pz,uh.b2];refine yF (fun m tm h nx=>∃ z2 z3 z4 z5,tm=(uh.fr f g z2 z3 z4 z5)/\Inv m z3 h nx) ?_ hm ⟨_,_,_,_,rfl,hi⟩;rintro m tm h nx R ⟨z2,z3,z4,z5,rfl,hi⟩ hR;refine Eq.trans ?_ (step m z2 z3 z4 z5 h nx R hi fun m' w2 w3 w4 w5 h' nx' hlt hi'=>hR m' _ h' nx' hlt ⟨_,_,_,_,rfl,hi'⟩)
 kernel_rfl
theorem uh.k8:IR.run uh.b8 C N (fnO uh.res K0) K (uh.fr f g q s p v) h nx =
 K0 (.bool false) h nx:=by kernel_rfl
theorem uj.pz (X2:IR) (O:jl Prop) (t:T AV):IR.run (uj.g1 X2) C N O K t h nx=IR.run X2 C N (O.blk 0 K) K t h nx:=by kernel_rfl
theorem uj.tab:T.get none (.of 165) tbl=some uj:=by kernel_rfl
theorem uj.go:zV tbl N C (.of 165) [a0] h nx K0 =
 sLen a0 fun v1=>IR.run uj.b1 C N (fnO uj.res K0) (IR.run uj.b8 C N (fnO uj.res K0) (wu uj.res K0)) (uj.fr a0 (I 0) .undef a0 v1 (I 0) .undef .undef) h nx:=by
 rw [zI uj.tab];kernel_rfl
theorem uj.L1 (Inv:Nat->AV->T Blk->Pa->Prop) {m:Nat} (hm:m<N) (hi:Inv m v h nx)
  (step:∀ (m:Nat) (z1 z2 z5 z6 z7:AV) (h:T Blk) (nx:Pa) (R:Ks Prop),Inv m z5 h nx->(∀ (m':Nat) (w1 w2 w5 w6 w7:AV) (h':T Blk) (nx':Pa),m'<m->Inv m' w5 h' nx'->R (uj.fr f w1 w2 s p w5 w6 w7) h' nx'=.ok True) ->
   (zo .lss .int z5 p fun v1=>zT v1 (zO 1 s z5 fun v2=>zE v2 h fun v3=>zo .neq .int v3 (I 0) fun v4=>zT v4 (K0 v3 h nx) (zo .add .int z5 (I 1) fun v5=>R (uj.fr f z1 v3 s p v5 v1 v4) h nx)) (K (uj.fr f z1 z2 s p z5 v1 z7) h nx))=.ok True) :
  IR.run uj.b1 C N (fnO uj.res K0) K (uj.fr f g q s p v u w) h nx=.ok True:=by
 rw [uj.b1,uj.pz,uj.b2];refine yF (fun m tm h nx=>∃ z1 z2 z5 z6 z7,tm=(uj.fr f z1 z2 s p z5 z6 z7)/\Inv m z5 h nx) ?_ hm ⟨_,_,_,_,_,rfl,hi⟩;rintro m tm h nx R ⟨z1,z2,z5,z6,z7,rfl,hi⟩ hR;refine Eq.trans ?_ (step m z1 z2 z5 z6 z7 h nx R hi fun m' w1 w2 w5 w6 w7 h' nx' hlt hi'=>hR m' _ h' nx' hlt ⟨_,_,_,_,_,rfl,hi'⟩)
 kernel_rfl
theorem uj.k8:IR.run uj.b8 C N (fnO uj.res K0) K (uj.fr f g q s p v u w) h nx =
 K0 (I 0) h nx:=by kernel_rfl
theorem tu.tab:T.get none (.of 167) tbl=some tu:=by kernel_rfl
theorem tu.go:zV tbl N C (.of 167) [a0,a1] h nx K0 =
 zT a0 (K0 a1 h nx) (K0 (I 0) h nx):=by
 rw [zI tu.tab];kernel_rfl
theorem F32.sN (X3:IR) (O:jl Prop) (t:T AV):IR.run (F32.g2 X3) C N O K t h nx=IR.run X3 C N (O.blk 0 K) K t h nx:=by kernel_rfl
theorem F32.tab:T.get none (.of 32) tbl=some F32:=by kernel_rfl
theorem F32.go:zV tbl N C (.of 32) [a0,a1,a2] h nx K0 =
 cu a0 h nx fun v1 h2 n3=>zL 1 v1 fun v4=>zE v4 h2 fun v5=>sLen v5 fun v6=>zo .gtr .int v6 a2 fun v7=>zT v7 (K0 (.bool false) h2 n3) (IR.run F32.b2 C N (fnO F32.res K0) (IR.run F32.b9 C N (fnO F32.res K0) (wu F32.res K0)) (F32.fr a0 a1 a2 v1 (.bool false) (I 0) v7 .undef .undef) h2 n3):=by
 rw [zI F32.tab];kernel_rfl
theorem F32.L2 (Inv:Nat->AV->T Blk->Pa->Prop) {m:Nat} (hm:m<N) (hi:Inv m v h nx)
  (step:∀ (m:Nat) (z4 z5 z7 z8:AV) (h:T Blk) (nx:Pa) (R:Ks Prop),Inv m z5 h nx->(∀ (m':Nat) (w4 w5 w7 w8:AV) (h':T Blk) (nx':Pa),m'<m->Inv m' w5 h' nx'->R (F32.fr f g q s w4 w5 u w7 w8) h' nx'=.ok True) ->
   (zL 1 s fun v1=>zE v1 h fun v2=>sLen v2 fun v3=>zo .lss .int z5 v3 fun v4=>zT v4 (zL 1 s fun v5=>zE v5 h fun v6=>zO 1 v6 z5 fun v7=>zE v7 h fun v8=>sLen v8 fun v9=>zo .gtr .int v9 g fun vH=>zT vH (K0 (.bool false) h nx) (zo .add .int z5 (I 1) fun vI=>R (F32.fr f g q s z4 vI u v4 vH) h nx)) (K (F32.fr f g q s z4 z5 u v4 z8) h nx))=.ok True) :
  IR.run F32.b2 C N (fnO F32.res K0) K (F32.fr f g q s p v u w y) h nx=.ok True:=by
 rw [F32.b2,F32.sN,F32.b3];refine yF (fun m tm h nx=>∃ z4 z5 z7 z8,tm=(F32.fr f g q s z4 z5 u z7 z8)/\Inv m z5 h nx) ?_ hm ⟨_,_,_,_,rfl,hi⟩;rintro m tm h nx R ⟨z4,z5,z7,z8,rfl,hi⟩ hR;refine Eq.trans ?_ (step m z4 z5 z7 z8 h nx R hi fun m' w4 w5 w7 w8 h' nx' hlt hi'=>hR m' _ h' nx' hlt ⟨_,_,_,_,rfl,hi'⟩)
 kernel_rfl
theorem F32.k9:IR.run F32.b9 C N (fnO F32.res K0) K (F32.fr f g q s p v u w y) h nx =
 K0 (.bool true) h nx:=by kernel_rfl
theorem F33.zrz (X11:IR) (O:jl Prop) (t:T AV):IR.run (F33.g10 X11) C N O K t h nx=IR.run X11 C N (O.blk 2 K) K t h nx:=by kernel_rfl
theorem F33.ztv (X4:IR) (O:jl Prop) (t:T AV):IR.run (F33.g3 X4) C N O K t h nx=IR.run X4 C N (O.blk 0 K) K t h nx:=by kernel_rfl
theorem F33.tab:T.get none (.of 33) tbl=some F33:=by kernel_rfl
theorem F33.go:zV tbl N C (.of 33) [a0] h nx K0 =
 cu a0 h nx fun v1 h2 n3=>zL 0 v1 fun v4=>zE v4 h2 fun v5=>zo .lss .int v5 (I 1) fun v6=>sG v6 false (fun k=>zL 0 v1 k) fun v7=>sG v6 false (fun k=>zE v7 h2 k) fun v8=>sG v6 false (fun k=>zo .gtr .int v8 (I 256) k) fun v9=>jR v6 (.bool true) v9 fun vH=>zT vH (K0 (I 3) h2 n3) (zL 1 v1 fun vI=>zE vI h2 fun vA=>sLen vA fun vB=>zo .gtr .int vB (I 128) fun vC=>zT vC (K0 (I 5) h2 n3) (IR.run F33.b3 C N (fnO F33.res K0) (IR.run F33.b20 C N (fnO F33.res K0) (wu F33.res K0)) (F33.fr a0 v1 (I 0) (I 0) .undef .undef vH vC .undef .undef .undef .undef .undef .undef) h2 n3)):=by
 rw [zI F33.tab];kernel_rfl
theorem F33.L3 (Inv:Nat->AV->T Blk->Pa->Prop) {m:Nat} (hm:m<N) (hi:Inv m s h nx)
  (step:∀ (m:Nat) (z2 z3 z4 z5 z8 z9 zA zB zC zD:AV) (h:T Blk) (nx:Pa) (R:Ks Prop),Inv m z3 h nx->(∀ (m':Nat) (w2 w3 w4 w5 w8 w9 wA wB wC wD:AV) (h':T Blk) (nx':Pa),m'<m->Inv m' w3 h' nx'->R (F33.fr f g w2 w3 w4 w5 u w w8 w9 wA wB wC wD) h' nx'=.ok True) ->
   (zL 1 g fun v1=>zE v1 h fun v2=>sLen v2 fun v3=>zo .lss .int z3 v3 fun v4=>zT v4 (zL 1 g fun v5=>zE v5 h fun v6=>zO 1 v6 z3 fun v7=>zE v7 h fun v8=>sLen v8 fun v9=>zo .eql .int v9 (I 0) fun vH=>zT vH (K0 (I 12) h nx) (IR.run F33.b10 C N (((fnO F33.res K0).blk 0 K).blk 1 (IR.run F33.b19 C N ((fnO F33.res K0).blk 0 K) R)) (IR.run F33.b18 C N (((fnO F33.res K0).blk 0 K).blk 1 (IR.run F33.b19 C N ((fnO F33.res K0).blk 0 K) R)) (IR.run F33.b19 C N ((fnO F33.res K0).blk 0 K) R)) (F33.fr f g z2 z3 v8 (I 0) u w v4 vH zA zB zC zD) h nx)) (K (F33.fr f g z2 z3 z4 z5 u w v4 z9 zA zB zC zD) h nx))=.ok True) :
  IR.run F33.b3 C N (fnO F33.res K0) K (F33.fr f g q s p v u w y A a b d c) h nx=.ok True:=by
 rw [F33.b3,F33.ztv,F33.b4];refine yF (fun m tm h nx=>∃ z2 z3 z4 z5 z8 z9 zA zB zC zD,tm=(F33.fr f g z2 z3 z4 z5 u w z8 z9 zA zB zC zD)/\Inv m z3 h nx) ?_ hm ⟨_,_,_,_,_,_,_,_,_,_,rfl,hi⟩;rintro m tm h nx R ⟨z2,z3,z4,z5,z8,z9,zA,zB,zC,zD,rfl,hi⟩ hR;refine Eq.trans ?_ (step m z2 z3 z4 z5 z8 z9 zA zB zC zD h nx R hi fun m' w2 w3 w4 w5 w8 w9 wA wB wC wD h' nx' hlt hi'=>hR m' _ h' nx' hlt ⟨_,_,_,_,_,_,_,_,_,_,rfl,hi'⟩)
 kernel_rfl
theorem F33.k20:IR.run F33.b20 C N (fnO F33.res K0) K (F33.fr f g q s p v u w y A a b d c) h nx =
 K0 (I 0) h nx:=by kernel_rfl
theorem F33.k19 {E0:Ks Prop}:IR.run F33.b19 C N ((fnO F33.res K0).blk 0 E0) K (F33.fr f g q s p v u w y A a b d c) h nx =
 zo .add .int s (I 1) fun v1=>K (F33.fr f g q v1 p v u w y A a b d c) h nx:=by kernel_rfl
theorem F33.L10 {E0 E1:Ks Prop} (Inv:Nat->AV->T Blk->Pa->Prop) {m:Nat} (hm:m<N) (hi:Inv m v h nx)
  (step:∀ (m:Nat) (z2 z5 zA zB zC:AV) (h:T Blk) (nx:Pa) (R:Ks Prop),Inv m z5 h nx->(∀ (m':Nat) (w2 w5 wA wB wC:AV) (h':T Blk) (nx':Pa),m'<m->Inv m' w5 h' nx'->R (F33.fr f g w2 s p w5 u w y A wA wB wC c) h' nx'=.ok True) ->
   (sLen p fun v1=>zo .lss .int z5 v1 fun v2=>zT v2 (zO 1 p z5 fun v3=>zE v3 h fun v4=>zo .lss .int v4 (I 0) fun v5=>sG v5 false (fun k=>k p) fun v6=>sG v5 false (fun k=>k z5) fun v7=>sG v5 false (fun k=>zO 1 v6 v7 k) fun v8=>sG v5 false (fun k=>zE v8 h k) fun v9=>sG v5 false (fun k=>zL 0 g k) fun vH=>sG v5 false (fun k=>zE vH h k) fun vI=>sG v5 false (fun k=>zo .geq .int v9 vI k) fun vA=>jR v5 (.bool true) vA fun vB=>zT vB (K0 (I 10) h nx) ((IR.run F33.b16 C N (((((fnO F33.res K0).blk 0 E0).blk 1 E1).blk 2 K).blk 3 (IR.run F33.b17 C N ((((fnO F33.res K0).blk 0 E0).blk 1 E1).blk 2 K) R)) (IR.run F33.b17 C N ((((fnO F33.res K0).blk 0 E0).blk 1 E1).blk 2 K) R)) (F33.fr f g z2 s p z5 u w y A v2 vB zC c) h nx)) (K (F33.fr f g z2 s p z5 u w y A v2 zB zC c) h nx))=.ok True) :
  IR.run F33.b10 C N (((fnO F33.res K0).blk 0 E0).blk 1 E1) K (F33.fr f g q s p v u w y A a b d c) h nx=.ok True:=by
 rw [F33.b10,F33.zrz,F33.b11];refine yF (fun m tm h nx=>∃ z2 z5 zA zB zC,tm=(F33.fr f g z2 s p z5 u w y A zA zB zC c)/\Inv m z5 h nx) ?_ hm ⟨_,_,_,_,_,rfl,hi⟩;rintro m tm h nx R ⟨z2,z5,zA,zB,zC,rfl,hi⟩ hR;refine Eq.trans ?_ (step m z2 z5 zA zB zC h nx R hi fun m' w2 w5 wA wB wC h' nx' hlt hi'=>hR m' _ h' nx' hlt ⟨_,_,_,_,_,rfl,hi'⟩)
 kernel_rfl
theorem F33.k18 {E0 E1:Ks Prop}:IR.run F33.b18 C N (((fnO F33.res K0).blk 0 E0).blk 1 E1) K (F33.fr f g q s p v u w y A a b d c) h nx =
 zL 1 g fun v1=>zE v1 h fun v2=>dE 1 v2 none (some s) none fun v3=>C.fn 102 (.of 102) [v3,p] h nx fun v4 h5 n6=>zT v4 (K0 (I 9) h5 n6) (K (F33.fr f g q s p v u w y A a b d v4) h5 n6):=by kernel_rfl
theorem F33.k17 {E0 E1 E2:Ks Prop}:IR.run F33.b17 C N ((((fnO F33.res K0).blk 0 E0).blk 1 E1).blk 2 E2) K (F33.fr f g q s p v u w y A a b d c) h nx =
 zo .add .int v (I 1) fun v1=>K (F33.fr f g q s p v1 u w y A a b d c) h nx:=by kernel_rfl
theorem F33.k16 {E0 E1 E2 E3:Ks Prop}:IR.run F33.b16 C N (((((fnO F33.res K0).blk 0 E0).blk 1 E1).blk 2 E2).blk 3 E3) K (F33.fr f g q s p v u w y A a b d c) h nx =
 zo .gtr .int v (I 0) fun v1=>sG v1 true (fun k=>k p) fun v2=>sG v1 true (fun k=>k v) fun v3=>sG v1 true (fun k=>zO 1 v2 v3 k) fun v4=>sG v1 true (fun k=>zE v4 h k) fun v5=>sG v1 true (fun k=>k p) fun v6=>sG v1 true (fun k=>k v) fun v7=>sG v1 true (fun k=>zo .sub .int v7 (I 1) k) fun v8=>sG v1 true (fun k=>zO 1 v6 v8 k) fun v9=>sG v1 true (fun k=>zE v9 h k) fun vH=>sG v1 true (fun k=>zo .leq .int v5 vH k) fun vI=>jR v1 vI (.bool false) fun vA=>zT vA (K0 (I 11) h nx) (K (F33.fr f g q s p v u w y A a b vA c) h nx):=by kernel_rfl
theorem aW.tab:T.get none (.of 166) tbl=some aW:=by kernel_rfl
theorem aW.go:zV tbl N C (.of 166) [a0,a1,a2] h nx K0 =
 cu a0 h nx fun v1 h2 n3=>cu a1 h2 n3 fun v4 h5 n6=>C.fn 136 (.of 136) [a2,(.fn 215 (.of 215) [v1,v4])] h5 n6 fun v7 h8 n9=>C.fn 167 (.of 167) [v7,(I 3)] h8 n9 fun vH hC nC=>K0 vH hC nC:=by
 rw [zI aW.tab];kernel_rfl
theorem aX.tab:T.get none (.of 215) tbl=some aX:=by kernel_rfl
theorem aX.go:zV tbl N C (.of 215) [a0,a1,a2] h nx K0 =
 zE a1 h fun v1=>zo .lss .int a0 v1 fun v2=>sG v2 false (fun k=>k a0) fun v3=>sG v2 false (fun k=>zE a2 h k) fun v4=>sG v2 false (fun k=>zo .gtr .int v3 v4 k) fun v5=>jR v2 (.bool true) v5 fun v6=>K0 v6 h nx:=by
 rw [zI aX.tab];kernel_rfl
theorem aY.tab:T.get none (.of 136) tbl=some aY:=by kernel_rfl
theorem aY.go:zV tbl N C (.of 136) [a0,a1] h nx K0 =
 C.fn 197 (.of 197) [a0,a1] h nx fun v1 h2 n3=>zo .geq .int v1 (I 0) fun v4=>K0 v4 h2 n3:=by
 rw [zI aY.tab];kernel_rfl
theorem uo.pz (X2:IR) (O:jl Prop) (t:T AV):IR.run (uo.g1 X2) C N O K t h nx=IR.run X2 C N (O.blk 0 K) K t h nx:=by kernel_rfl
theorem uo.tab:T.get none (.of 197) tbl=some uo:=by kernel_rfl
theorem uo.go:zV tbl N C (.of 197) [a0,a1] h nx K0 =
 sLen a0 fun v1=>IR.run uo.b1 C N (fnO uo.res K0) (IR.run uo.b8 C N (fnO uo.res K0) (wu uo.res K0)) (uo.fr a0 a1 (I 0) .undef v1 (I 0) .undef .undef) h nx:=by
 rw [zI uo.tab];kernel_rfl
theorem uo.L1 (Inv:Nat->AV->T Blk->Pa->Prop) {m:Nat} (hm:m<N) (hi:Inv m v h nx)
  (step:∀ (m:Nat) (z2 z3 z5 z6 z7:AV) (h:T Blk) (nx:Pa) (R:Ks Prop),Inv m z5 h nx->(∀ (m':Nat) (w2 w3 w5 w6 w7:AV) (h':T Blk) (nx':Pa),m'<m->Inv m' w5 h' nx'->R (uo.fr f g w2 w3 p w5 w6 w7) h' nx'=.ok True) ->
   (zo .lss .int z5 p fun v1=>zT v1 (zO 1 f z5 fun v2=>zE v2 h fun v3=>vQ C g [v3] h nx fun v4 h5 n6=>zT v4 (K0 z5 h5 n6) (zo .add .int z5 (I 1) fun v7=>R (uo.fr f g z2 z5 p v7 v1 v4) h5 n6)) (K (uo.fr f g z2 z3 p z5 v1 z7) h nx))=.ok True) :
  IR.run uo.b1 C N (fnO uo.res K0) K (uo.fr f g q s p v u w) h nx=.ok True:=by
 rw [uo.b1,uo.pz,uo.b2];refine yF (fun m tm h nx=>∃ z2 z3 z5 z6 z7,tm=(uo.fr f g z2 z3 p z5 z6 z7)/\Inv m z5 h nx) ?_ hm ⟨_,_,_,_,_,rfl,hi⟩;rintro m tm h nx R ⟨z2,z3,z5,z6,z7,rfl,hi⟩ hR;refine Eq.trans ?_ (step m z2 z3 z5 z6 z7 h nx R hi fun m' w2 w3 w5 w6 w7 h' nx' hlt hi'=>hR m' _ h' nx' hlt ⟨_,_,_,_,_,rfl,hi'⟩)
 kernel_rfl
theorem uo.k8:IR.run uo.b8 C N (fnO uo.res K0) K (uo.fr f g q s p v u w) h nx =
 K0 (I (-1)) h nx:=by kernel_rfl
theorem jy.sN (X3:IR) (O:jl Prop) (t:T AV):IR.run (jy.g2 X3) C N O K t h nx=IR.run X3 C N (O.blk 0 K) K t h nx:=by kernel_rfl
theorem jy.tab:T.get none (.of 103) tbl=some jy:=by kernel_rfl
theorem jy.go:zV tbl N C (.of 103) [a0] h nx K0 =
 cu a0 h nx fun v1 h2 n3=>zL 0 v1 fun v4=>zE v4 h2 fun v5=>zL 1 v1 fun v6=>zE v6 h2 fun v7=>sLen v7 fun v8=>zo .gtr .int v8 (I 128) fun v9=>yY 1 1 [(I 0)] [(0,1,v5)] h2 n3 fun vH hC nC=>(zo .gtr .int v8 (I 128) fun vM=>zN vM v9 ((sLen v7 fun vN=>zN vN v8 ((zE v6 hC fun vO=>zN vO v7 ((zL 1 v1 fun vP=>zN vP v6 (C.fn 166 (.of 166) [(I 1),(I 256),vH] hC nC fun vB hD nD=>(zo .gtr .int v8 (I 128) fun vR=>zN vR v9 ((sLen v7 fun vS=>zN vS v8 ((zE v6 hD fun vT=>zN vT v7 ((zL 1 v1 fun vU=>zN vU v6 (C.fn 167 (.of 167) [v9,(I 5)] hD nD fun vE hE nE=>yY 1 2 [(I 0)] [(0,1,vB),(1,1,vE)] hE nE fun vJ hF nF=>C.fn 165 (.of 165) [vJ] hF nF fun vV hG nG=>zo .neq .int vV (I 0) fun vW=>zT vW (K0 vV hG nG) (zL 1 v1 fun vX=>zE vX hG fun vY=>sLen vY fun vZ=>IR.run jy.b2 C N (fnO jy.res K0) (IR.run jy.b9 C N (fnO jy.res K0) (wu jy.res K0)) (jy.fr a0 v1 (I 0) vV .undef .undef vW vZ (I 0) .undef .undef) hG nG))))))))))))))))):=by
 rw [zI jy.tab];kernel_rfl
theorem jy.L2 (Inv:Nat->AV->T Blk->Pa->Prop) {m:Nat} (hm:m<N) (hi:Inv m y h nx)
  (step:∀ (m:Nat) (z2 z4 z5 z8 z9 zA:AV) (h:T Blk) (nx:Pa) (R:Ks Prop),Inv m z8 h nx->(∀ (m':Nat) (w2 w4 w5 w8 w9 wA:AV) (h':T Blk) (nx':Pa),m'<m->Inv m' w8 h' nx'->R (jy.fr f g w2 s w4 w5 u w w8 w9 wA) h' nx'=.ok True) ->
   (zo .lss .int z8 w fun v1=>zT v1 (zH 2 g h fun v2=>C.fn 168 (.of 168) [v2,z8] h nx fun v3 h4 n5=>zo .neq .int v3 (I 0) fun v6=>zT v6 (K0 v3 h4 n5) (zo .add .int z8 (I 1) fun v7=>R (jy.fr f g z2 s z8 v3 u w v7 v1 v6) h4 n5)) (K (jy.fr f g z2 s z4 z5 u w z8 v1 zA) h nx))=.ok True) :
  IR.run jy.b2 C N (fnO jy.res K0) K (jy.fr f g q s p v u w y A a) h nx=.ok True:=by
 rw [jy.b2,jy.sN,jy.b3];refine yF (fun m tm h nx=>∃ z2 z4 z5 z8 z9 zA,tm=(jy.fr f g z2 s z4 z5 u w z8 z9 zA)/\Inv m z8 h nx) ?_ hm ⟨_,_,_,_,_,_,rfl,hi⟩;rintro m tm h nx R ⟨z2,z4,z5,z8,z9,zA,rfl,hi⟩ hR;refine Eq.trans ?_ (step m z2 z4 z5 z8 z9 zA h nx R hi fun m' w2 w4 w5 w8 w9 wA h' nx' hlt hi'=>hR m' _ h' nx' hlt ⟨_,_,_,_,_,_,rfl,hi'⟩)
 kernel_rfl
theorem jy.k9:IR.run jy.b9 C N (fnO jy.res K0) K (jy.fr f g q s p v u w y A a) h nx =
 K0 (I 0) h nx:=by kernel_rfl
theorem jo.sN (X3:IR) (O:jl Prop) (t:T AV):IR.run (jo.g2 X3) C N O K t h nx=IR.run X3 C N (O.blk 0 K) K t h nx:=by kernel_rfl
theorem jo.tab:T.get none (.of 168) tbl=some jo:=by kernel_rfl
theorem jo.go:zV tbl N C (.of 168) [a0,a1] h nx K0 =
 cu a0 h nx fun v1 h2 n3=>zL 1 v1 fun v4=>zE v4 h2 fun v5=>zO 1 v5 a1 fun v6=>zE v6 h2 fun v7=>yI [.zh] h2 n3 fun v8 h9 nH=>zQ 1 v8 v7 h9 nH fun vI hH nI=>zE v8 hH fun vC=>sLen vC fun vD=>zo .eql .int vD (I 0) fun vE=>zT vE (K0 (I 12) hH nI) (zE v8 hH fun vF=>sLen vF fun vG=>IR.run jo.b2 C N (fnO jo.res K0) (IR.run jo.b9 C N (fnO jo.res K0) (wu jo.res K0)) (jo.fr a0 a1 v1 (I 0) v8 .undef .undef .undef vE vF vG (I 0) .undef .undef) hH nI):=by
 rw [zI jo.tab];kernel_rfl
theorem jo.L2 (Inv:Nat->AV->T Blk->Pa->Prop) {m:Nat} (hm:m<N) (hi:Inv m b h nx)
  (step:∀ (m:Nat) (z3 z5 z6 z7 zB zC zD:AV) (h:T Blk) (nx:Pa) (R:Ks Prop),Inv m zB h nx->(∀ (m':Nat) (w3 w5 w6 w7 wB wC wD:AV) (h':T Blk) (nx':Pa),m'<m->Inv m' wB h' nx'->R (jo.fr f g q w3 p w5 w6 w7 y A a wB wC wD) h' nx'=.ok True) ->
   (zo .lss .int zB a fun v1=>zT v1 (zO 1 A zB fun v2=>zE v2 h fun v3=>zo .lss .int v3 (I 0) fun v4=>sG v4 false (fun k=>k v3) fun v5=>sG v4 false (fun k=>zL 0 q k) fun v6=>sG v4 false (fun k=>zE v6 h k) fun v7=>sG v4 false (fun k=>zo .geq .int v5 v7 k) fun v8=>jR v4 (.bool true) v8 fun v9=>C.fn 167 (.of 167) [v9,(I 10)] h nx fun vH hC nC=>zo .gtr .int zB (I 0) fun vB=>sG vB true (fun k=>zE p hC k) fun vC=>sG vB true (fun k=>k zB) fun vD=>sG vB true (fun k=>zo .sub .int vD (I 1) k) fun vE=>sG vB true (fun k=>zO 1 vC vE k) fun vF=>sG vB true (fun k=>zE vF hC k) fun vG=>sG vB true (fun k=>k v3) fun vJ=>sG vB true (fun k=>zo .geq .int vG vJ k) fun vK=>jR vB vK (.bool false) fun vL=>C.fn 167 (.of 167) [vL,(I 11)] hC nC fun vV hG nG=>yY 1 2 [(I 0)] [(0,1,vH),(1,1,vV)] hG nG fun vW hI nJ=>C.fn 165 (.of 165) [vW] hI nJ fun vZ hJ nK=>zo .neq .int vZ (I 0) fun vS=>zT vS (K0 vZ hJ nK) (zo .add .int zB (I 1) fun vR=>R (jo.fr f g q z3 p zB v3 vZ y A a vR v1 vS) hJ nK)) (K (jo.fr f g q z3 p z5 z6 z7 y A a zB v1 zD) h nx))=.ok True) :
  IR.run jo.b2 C N (fnO jo.res K0) K (jo.fr f g q s p v u w y A a b d c) h nx=.ok True:=by
 rw [jo.b2,jo.sN,jo.b3];refine yF (fun m tm h nx=>∃ z3 z5 z6 z7 zB zC zD,tm=(jo.fr f g q z3 p z5 z6 z7 y A a zB zC zD)/\Inv m zB h nx) ?_ hm ⟨_,_,_,_,_,_,_,rfl,hi⟩;rintro m tm h nx R ⟨z3,z5,z6,z7,zB,zC,zD,rfl,hi⟩ hR;refine Eq.trans ?_ (step m z3 z5 z6 z7 zB zC zD h nx R hi fun m' w3 w5 w6 w7 wB wC wD h' nx' hlt hi'=>hR m' _ h' nx' hlt ⟨_,_,_,_,_,_,_,rfl,hi'⟩)
 kernel_rfl
theorem jo.k9:IR.run jo.b9 C N (fnO jo.res K0) K (jo.fr f g q s p v u w y A a b d c) h nx =
 zL 1 q fun v1=>zE v1 h fun v2=>dE 1 v2 none (some g) none fun v3=>C.fn 216 (.of 216) [v3,(.fn 217 (.of 217) [p])] h nx fun v4 h5 n6=>C.fn 167 (.of 167) [v4,(I 9)] h5 n6 fun v7 h8 n9=>K0 v7 h8 n9:=by kernel_rfl
theorem F85.tab:T.get none (.of 85) tbl=some F85:=by kernel_rfl
theorem F85.go:zV tbl N C (.of 85) [a0,a1] h nx K0 =
 cu a0 h nx fun v1 h2 n3=>cu a1 h2 n3 fun v4 h5 n6=>zL 0 v1 fun v7=>zE v7 h5 fun v8=>zL 0 v4 fun v9=>zE v9 h5 fun vH=>C.fn 82 (.of 82) [v8,vH] h5 n6 fun vI hH nI=>zT vI (zL 1 v1 fun vC=>zE vC hH fun vD=>sQ vD fun vE=>sG vE true (fun k=>zL 1 v4 k) fun vF=>sG vE true (fun k=>zE vF hH k) fun vG=>jR vE vG (.bool false) fun vJ=>K0 vJ hH nI) (zL 0 v1 fun vK=>zE vK hH fun vL=>zL 0 v4 fun vV=>zE vV hH fun v23=>C.fn 88 (.of 88) [vL,v23] hH nI fun v24 hK nL=>K0 v24 hK nL):=by
 rw [zI F85.tab];kernel_rfl
theorem F84.pz (X2:IR) (O:jl Prop) (t:T AV):IR.run (F84.g1 X2) C N O K t h nx=IR.run X2 C N (O.blk 0 K) K t h nx:=by kernel_rfl
theorem F84.tab:T.get none (.of 84) tbl=some F84:=by kernel_rfl
theorem F84.go:zV tbl N C (.of 84) [a0,a1] h nx K0 =
 cu a1 h nx fun v1 h2 n3=>IR.run F84.b1 C N (fnO F84.res K0) (IR.run F84.b8 C N (fnO F84.res K0) (wu F84.res K0)) (F84.fr a0 a1 v1 (I 0) (I 0) .undef .undef) h2 n3:=by
 rw [zI F84.tab];kernel_rfl
theorem F84.L1 (Inv:Nat->AV->T Blk->Pa->Prop) {m:Nat} (hm:m<N) (hi:Inv m p h nx)
  (step:∀ (m:Nat) (z3 z4 z5 z6:AV) (h:T Blk) (nx:Pa) (R:Ks Prop),Inv m z4 h nx->(∀ (m':Nat) (w3 w4 w5 w6:AV) (h':T Blk) (nx':Pa),m'<m->Inv m' w4 h' nx'->R (F84.fr f g q w3 w4 w5 w6) h' nx'=.ok True) ->
   (sLen f fun v1=>zo .lss .int z4 v1 fun v2=>zT v2 (zO 2 f z4 fun v3=>zH 2 v3 h fun v4=>zH 2 q h fun v5=>C.fn 30 (.of 30) [v4,v5] h nx fun v6 h7 n8=>zT v6 (K0 z4 h7 n8) (zo .add .int z4 (I 1) fun v9=>R (F84.fr f g q z3 v9 v2 v6) h7 n8)) (K (F84.fr f g q z3 z4 v2 z6) h nx))=.ok True) :
  IR.run F84.b1 C N (fnO F84.res K0) K (F84.fr f g q s p v u) h nx=.ok True:=by
 rw [F84.b1,F84.pz,F84.b2];refine yF (fun m tm h nx=>∃ z3 z4 z5 z6,tm=(F84.fr f g q z3 z4 z5 z6)/\Inv m z4 h nx) ?_ hm ⟨_,_,_,_,rfl,hi⟩;rintro m tm h nx R ⟨z3,z4,z5,z6,rfl,hi⟩ hR;refine Eq.trans ?_ (step m z3 z4 z5 z6 h nx R hi fun m' w3 w4 w5 w6 h' nx' hlt hi'=>hR m' _ h' nx' hlt ⟨_,_,_,_,rfl,hi'⟩)
 kernel_rfl
theorem F84.k8:IR.run F84.b8 C N (fnO F84.res K0) K (F84.fr f g q s p v u) h nx =
 K0 (I (-1)) h nx:=by kernel_rfl
theorem F65.tab:T.get none (.of 65) tbl=some F65:=by kernel_rfl
theorem F65.go:zV tbl N C (.of 65) [a0,a1] h nx K0 =
 cu a0 h nx fun v1 h2 n3=>cu a1 h2 n3 fun v4 h5 n6=>yI [.zh,(.bool false)] h5 n6 fun v7 h8 n9=>zL 0 v1 fun vH=>zE vH h8 fun vI=>zL 0 v4 fun vA=>zE vA h8 fun vB=>zL 1 v1 fun vC=>zE vC h8 fun vD=>zL 1 v4 fun vE=>zE vE h8 fun vF=>zo .neq .bool vD vF fun vG=>C.fn 144 (.of 144) [vI,vB] h8 n9 fun vJ hF nF=>(zo .neq .bool vD vF fun vS=>zN vS vG ((zE vE hF fun vT=>zN vT vF ((zL 1 v4 fun vU=>zN vU vE ((zE vC hF fun vZ=>zN vZ vD ((zL 1 v1 fun vY=>zN vY vC (gI [.zh,(.bool false)] [(0,1,vJ),(1,1,vG)] fun vV=>zQ 2 v7 vV hF nF fun v23 hL nM=>zH 2 v7 hL fun vX=>K0 vX hL nM)))))))))):=by
 rw [zI F65.tab];kernel_rfl
theorem F30.tab:T.get none (.of 30) tbl=some F30:=by kernel_rfl
theorem F30.go:zV tbl N C (.of 30) [a0,a1] h nx K0 =
 cu a0 h nx fun v1 h2 n3=>cu a1 h2 n3 fun v4 h5 n6=>zL 1 v1 fun v7=>zE v7 h5 fun v8=>zL 1 v4 fun v9=>zE v9 h5 fun vH=>zo .eql .bool v8 vH fun vI=>sG vI true (fun k=>zL 0 v1 k) fun vA=>sG vI true (fun k=>zE vA h5 k) fun vB=>sG vI true (fun k=>zL 0 v4 k) fun vC=>sG vI true (fun k=>zE vC h5 k) fun vD=>sGW vI true (fun k=>C.fn 82 (.of 82) [vB,vD] h5 n6 k) h5 n6 fun vE hE nE=>jR vI vE (.bool false) fun vJ=>K0 vJ hE nE:=by
 rw [zI F30.tab];kernel_rfl
theorem uq.pz (X2:IR) (O:jl Prop) (t:T AV):IR.run (uq.g1 X2) C N O K t h nx=IR.run X2 C N (O.blk 0 K) K t h nx:=by kernel_rfl
theorem uq.tab:T.get none (.of 144) tbl=some uq:=by kernel_rfl
theorem uq.go:zV tbl N C (.of 144) [a0,a1] h nx K0 =
 IR.run uq.b1 C N (fnO uq.res K0) (IR.run uq.b8 C N (fnO uq.res K0) (wu uq.res K0)) (uq.fr a0 a1 .zh .zh (I 0) .undef) h nx:=by
 rw [zI uq.tab];kernel_rfl
theorem uq.L1 (Inv:Nat->AV->AV->T Blk->Pa->Prop) {m:Nat} (hm:m<N) (hi:Inv m s p h nx)
  (step:∀ (m:Nat) (z3 z4 z5:AV) (h:T Blk) (nx:Pa) (R:Ks Prop),Inv m z3 z4 h nx->(∀ (m':Nat) (w3 w4 w5:AV) (h':T Blk) (nx':Pa),m'<m->Inv m' w3 w4 h' nx'->R (uq.fr f g q w3 w4 w5) h' nx'=.ok True) ->
   (sLen g fun v1=>zo .lss .int z4 v1 fun v2=>zT v2 (zO 1 g z4 fun v3=>zE v3 h fun v4=>zO 1 f v4 fun v5=>zE v5 h fun v6=>yY 1 1 [(I 0)] [(0,1,v6)] h nx fun v7 h8 n9=>tq 1 8 z3 v7 h8 n9 fun vH hC nC=>zo .add .int z4 (I 1) fun vB=>R (uq.fr f g q vH vB v2) hC nC) (K (uq.fr f g q z3 z4 v2) h nx))=.ok True) :
  IR.run uq.b1 C N (fnO uq.res K0) K (uq.fr f g q s p v) h nx=.ok True:=by
 rw [uq.b1,uq.pz,uq.b2];refine yF (fun m tm h nx=>∃ z3 z4 z5,tm=(uq.fr f g q z3 z4 z5)/\Inv m z3 z4 h nx) ?_ hm ⟨_,_,_,rfl,hi⟩;rintro m tm h nx R ⟨z3,z4,z5,rfl,hi⟩ hR;refine Eq.trans ?_ (step m z3 z4 z5 h nx R hi fun m' w3 w4 w5 h' nx' hlt hi'=>hR m' _ h' nx' hlt ⟨_,_,_,rfl,hi'⟩)
 kernel_rfl
theorem uq.k8:IR.run uq.b8 C N (fnO uq.res K0) K (uq.fr f g q s p v) h nx =
 K0 s h nx:=by kernel_rfl
theorem F20.ztw (X5:IR) (O:jl Prop) (t:T AV):IR.run (F20.g4 X5) C N O K t h nx=IR.run X5 C N (O.blk 0 K) K t h nx:=by kernel_rfl
theorem F20.zr0 (X13:IR) (O:jl Prop) (t:T AV):IR.run (F20.g12 X13) C N O K t h nx=IR.run X13 C N (O.blk 2 K) K t h nx:=by kernel_rfl
theorem F20.zr1 (X27:IR) (O:jl Prop) (t:T AV):IR.run (F20.g26 X27) C N O K t h nx=IR.run X27 C N (O.blk 6 K) K t h nx:=by kernel_rfl
theorem F20.zr2 (X21:IR) (O:jl Prop) (t:T AV):IR.run (F20.g20 X21) C N O K t h nx=IR.run X21 C N (O.blk 4 K) K t h nx:=by kernel_rfl
theorem F20.tab:T.get none (.of 20) tbl=some F20:=by kernel_rfl
theorem F20.go:zV tbl N C (.of 20) [a0,a1] h nx K0 =
 C.fn 25 (.of 25) [a1] h nx fun v1 h2 n3=>zo .neq .int v1 (I 0) fun v4=>zT v4 (K0 (I 3) h2 n3) (sLen a0 fun v5=>zo .eql .int v5 (I 0) fun v6=>zT v6 (K0 (I 12) h2 n3) (sLen a0 fun v7=>zo .gtr .int v7 (I 1536) fun v8=>zT v8 (K0 (I 5) h2 n3) (IR.run F20.b4 C N (fnO F20.res K0) (IR.run F20.b11 C N (fnO F20.res K0) (wu F20.res K0)) (F20.fr a0 a1 (I 0) (I 0) .undef .undef .undef .undef v4 v6 v8 .undef .undef .undef .undef .undef .undef .undef) h2 n3))):=by
 rw [zI F20.tab];kernel_rfl
theorem F20.L4 (Inv:Nat->AV->T Blk->Pa->Prop) {m:Nat} (hm:m<N) (hi:Inv m s h nx)
  (step:∀ (m:Nat) (z2 z3 z4 zB zC:AV) (h:T Blk) (nx:Pa) (R:Ks Prop),Inv m z3 h nx->(∀ (m':Nat) (w2 w3 w4 wB wC:AV) (h':T Blk) (nx':Pa),m'<m->Inv m' w3 h' nx'->R (F20.fr f g w2 w3 w4 v u w y A a wB wC c e i l o) h' nx'=.ok True) ->
   (sLen f fun v1=>zo .lss .int z3 v1 fun v2=>zT v2 (zO 2 f z3 fun v3=>zH 2 v3 h fun v4=>C.fn 26 (.of 26) [v4,g] h nx fun v5 h6 n7=>zo .neq .int v5 (I 0) fun v8=>zT v8 (K0 v5 h6 n7) (zo .add .int z3 (I 1) fun v9=>R (F20.fr f g z2 v9 v5 v u w y A a v2 v8 c e i l o) h6 n7)) (K (F20.fr f g z2 z3 z4 v u w y A a v2 zC c e i l o) h nx))=.ok True) :
  IR.run F20.b4 C N (fnO F20.res K0) K (F20.fr f g q s p v u w y A a b d c e i l o) h nx=.ok True:=by
 rw [F20.b4,F20.ztw,F20.b5];refine yF (fun m tm h nx=>∃ z2 z3 z4 zB zC,tm=(F20.fr f g z2 z3 z4 v u w y A a zB zC c e i l o)/\Inv m z3 h nx) ?_ hm ⟨_,_,_,_,_,rfl,hi⟩;rintro m tm h nx R ⟨z2,z3,z4,zB,zC,rfl,hi⟩ hR;refine Eq.trans ?_ (step m z2 z3 z4 zB zC h nx R hi fun m' w2 w3 w4 wB wC h' nx' hlt hi'=>hR m' _ h' nx' hlt ⟨_,_,_,_,_,rfl,hi'⟩)
 kernel_rfl
theorem F20.k11:IR.run F20.b11 C N (fnO F20.res K0) K (F20.fr f g q s p v u w y A a b d c e i l o) h nx =
 IR.run F20.b12 C N (fnO F20.res K0) (IR.run F20.b19 C N (fnO F20.res K0) K) (F20.fr f g q s p (I 1) u w y A a b d c e i l o) h nx:=by kernel_rfl
theorem F20.L12 (Inv:Nat->AV->T Blk->Pa->Prop) {m:Nat} (hm:m<N) (hi:Inv m v h nx)
  (step:∀ (m:Nat) (z2 z5 zD zF:AV) (h:T Blk) (nx:Pa) (R:Ks Prop),Inv m z5 h nx->(∀ (m':Nat) (w2 w5 wD wE:AV) (h':T Blk) (nx':Pa),m'<m->Inv m' w5 h' nx'->R (F20.fr f g w2 s p w5 u w y A a b d wD wE i l o) h' nx'=.ok True) ->
   (sLen f fun v1=>zo .lss .int z5 v1 fun v2=>zT v2 (zo .sub .int z5 (I 1) fun v3=>zO 2 f v3 fun v4=>zH 2 v4 h fun v5=>zO 2 f z5 fun v6=>zH 2 v6 h fun v7=>C.fn 85 (.of 85) [v5,v7] h nx fun v8 h9 nH=>sQ v8 fun vI=>zT vI (K0 (I 11) h9 nH) (zo .add .int z5 (I 1) fun vA=>R (F20.fr f g z2 s p vA u w y A a b d v2 vI i l o) h9 nH)) (K (F20.fr f g z2 s p z5 u w y A a b d v2 zF i l o) h nx))=.ok True) :
  IR.run F20.b12 C N (fnO F20.res K0) K (F20.fr f g q s p v u w y A a b d c e i l o) h nx=.ok True:=by
 rw [F20.b12,F20.zr0,F20.b13];refine yF (fun m tm h nx=>∃ z2 z5 zD zF,tm=(F20.fr f g z2 s p z5 u w y A a b d zD zF i l o)/\Inv m z5 h nx) ?_ hm ⟨_,_,_,_,rfl,hi⟩;rintro m tm h nx R ⟨z2,z5,zD,zF,rfl,hi⟩ hR;refine Eq.trans ?_ (step m z2 z5 zD zF h nx R hi fun m' w2 w5 wD wE h' nx' hlt hi'=>hR m' _ h' nx' hlt ⟨_,_,_,_,rfl,hi'⟩)
 kernel_rfl
theorem F20.k19:IR.run F20.b19 C N (fnO F20.res K0) K (F20.fr f g q s p v u w y A a b d c e i l o) h nx =
 IR.run F20.b20 C N (fnO F20.res K0) (IR.run F20.b34 C N (fnO F20.res K0) K) (F20.fr f g q s p v (I 0) w y A a b d c e i l o) h nx:=by kernel_rfl
theorem F20.L20 (Inv:Nat->AV->T Blk->Pa->Prop) {m:Nat} (hm:m<N) (hi:Inv m u h nx)
  (step:∀ (m:Nat) (z2 z6 z7 zG zJ zK:AV) (h:T Blk) (nx:Pa) (R:Ks Prop),Inv m z6 h nx->(∀ (m':Nat) (w2 w6 w7 wF wG wH:AV) (h':T Blk) (nx':Pa),m'<m->Inv m' w6 h' nx'->R (F20.fr f g w2 s p v w6 w7 y A a b d c e wF wG wH) h' nx'=.ok True) ->
   (sLen f fun v1=>zo .lss .int z6 v1 fun v2=>zT v2 (IR.run F20.b26 C N (((fnO F20.res K0).blk 4 K).blk 5 (IR.run F20.b33 C N ((fnO F20.res K0).blk 4 K) R)) (IR.run F20.b33 C N ((fnO F20.res K0).blk 4 K) R) (F20.fr f g z2 s p v z6 (I 0) y A a b d c e v2 zJ zK) h nx) (K (F20.fr f g z2 s p v z6 z7 y A a b d c e v2 zJ zK) h nx))=.ok True) :
  IR.run F20.b20 C N (fnO F20.res K0) K (F20.fr f g q s p v u w y A a b d c e i l o) h nx=.ok True:=by
 rw [F20.b20,F20.zr2,F20.b21];refine yF (fun m tm h nx=>∃ z2 z6 z7 zG zJ zK,tm=(F20.fr f g z2 s p v z6 z7 y A a b d c e zG zJ zK)/\Inv m z6 h nx) ?_ hm ⟨_,_,_,_,_,_,rfl,hi⟩;rintro m tm h nx R ⟨z2,z6,z7,zG,zJ,zK,rfl,hi⟩ hR;refine Eq.trans ?_ (step m z2 z6 z7 zG zJ zK h nx R hi fun m' w2 w6 w7 wF wG wH h' nx' hlt hi'=>hR m' _ h' nx' hlt ⟨_,_,_,_,_,_,rfl,hi'⟩)
 kernel_rfl
theorem F20.k34:IR.run F20.b34 C N (fnO F20.res K0) K (F20.fr f g q s p v u w y A a b d c e i l o) h nx =
 K0 (I 0) h nx:=by kernel_rfl
theorem F20.k33 {E4:Ks Prop}:IR.run F20.b33 C N ((fnO F20.res K0).blk 4 E4) K (F20.fr f g q s p v u w y A a b d c e i l o) h nx =
 zo .add .int u (I 1) fun v1=>K (F20.fr f g q s p v v1 w y A a b d c e i l o) h nx:=by kernel_rfl
theorem F20.L26 {E4 E5:Ks Prop} (Inv:Nat->AV->T Blk->Pa->Prop) {m:Nat} (hm:m<N) (hi:Inv m w h nx)
  (step:∀ (m:Nat) (z2 z7 zJ zK:AV) (h:T Blk) (nx:Pa) (R:Ks Prop),Inv m z7 h nx->(∀ (m':Nat) (w2 w7 wG wH:AV) (h':T Blk) (nx':Pa),m'<m->Inv m' w7 h' nx'->R (F20.fr f g w2 s p v u w7 y A a b d c e i wG wH) h' nx'=.ok True) ->
   (sLen f fun v1=>zo .lss .int z7 v1 fun v2=>zT v2 (zO 2 f u fun v3=>zH 2 v3 h fun v4=>zO 2 f z7 fun v5=>zH 2 v5 h fun v6=>C.fn 65 (.of 65) [v4,v6] h nx fun v7 h8 n9=>zN f f (C.fn 84 (.of 84) [f,v7] h8 n9 fun vH hC nC=>zo .lss .int vH (I 0) fun vB=>zT vB (K0 (I 28) hC nC) (zo .add .int z7 (I 1) fun vC=>R (F20.fr f g z2 s p v u vC y A a b d c e i v2 vB) hC nC))) (K (F20.fr f g z2 s p v u z7 y A a b d c e i v2 zK) h nx))=.ok True) :
  IR.run F20.b26 C N (((fnO F20.res K0).blk 4 E4).blk 5 E5) K (F20.fr f g q s p v u w y A a b d c e i l o) h nx=.ok True:=by
 rw [F20.b26,F20.zr1,F20.b27];refine yF (fun m tm h nx=>∃ z2 z7 zJ zK,tm=(F20.fr f g z2 s p v u z7 y A a b d c e i zJ zK)/\Inv m z7 h nx) ?_ hm ⟨_,_,_,_,rfl,hi⟩;rintro m tm h nx R ⟨z2,z7,zJ,zK,rfl,hi⟩ hR;refine Eq.trans ?_ (step m z2 z7 zJ zK h nx R hi fun m' w2 w7 wG wH h' nx' hlt hi'=>hR m' _ h' nx' hlt ⟨_,_,_,_,rfl,hi'⟩)
 kernel_rfl
theorem F88.pz (X2:IR) (O:jl Prop) (t:T AV):IR.run (F88.g1 X2) C N O K t h nx=IR.run X2 C N (O.blk 0 K) K t h nx:=by kernel_rfl
theorem F88.tab:T.get none (.of 88) tbl=some F88:=by kernel_rfl
theorem F88.go:zV tbl N C (.of 88) [a0,a1] h nx K0 =
 IR.run F88.b1 C N (fnO F88.res K0) (IR.run F88.b8 C N (fnO F88.res K0) (wu F88.res K0)) (F88.fr a0 a1 (.bool false) (I 0) .undef .undef) h nx:=by
 rw [zI F88.tab];kernel_rfl
theorem F88.L1 (Inv:Nat->AV->T Blk->Pa->Prop) {m:Nat} (hm:m<N) (hi:Inv m s h nx)
  (step:∀ (m:Nat) (z2 z3 z4 z5:AV) (h:T Blk) (nx:Pa) (R:Ks Prop),Inv m z3 h nx->(∀ (m':Nat) (w2 w3 w4 w5:AV) (h':T Blk) (nx':Pa),m'<m->Inv m' w3 h' nx'->R (F88.fr f g w2 w3 w4 w5) h' nx'=.ok True) ->
   (sLen f fun v1=>zo .lss .int z3 v1 fun v2=>sG v2 true (fun k=>k z3) fun v3=>sG v2 true (fun k=>k g) fun v4=>sG v2 true (fun k=>sLen v4 k) fun v5=>sG v2 true (fun k=>zo .lss .int v3 v5 k) fun v6=>jR v2 v6 (.bool false) fun v7=>zT v7 ((IR.run F88.b4 C N ((fnO F88.res K0).blk 0 K) R) (F88.fr f g z2 z3 v7 z5) h nx) (K (F88.fr f g z2 z3 v7 z5) h nx))=.ok True) :
  IR.run F88.b1 C N (fnO F88.res K0) K (F88.fr f g q s p v) h nx=.ok True:=by
 rw [F88.b1,F88.pz,F88.b2];refine yF (fun m tm h nx=>∃ z2 z3 z4 z5,tm=(F88.fr f g z2 z3 z4 z5)/\Inv m z3 h nx) ?_ hm ⟨_,_,_,_,rfl,hi⟩;rintro m tm h nx R ⟨z2,z3,z4,z5,rfl,hi⟩ hR;refine Eq.trans ?_ (step m z2 z3 z4 z5 h nx R hi fun m' w2 w3 w4 w5 h' nx' hlt hi'=>hR m' _ h' nx' hlt ⟨_,_,_,_,rfl,hi'⟩)
 kernel_rfl
theorem F88.k8:IR.run F88.b8 C N (fnO F88.res K0) K (F88.fr f g q s p v) h nx =
 sLen f fun v1=>sLen g fun v2=>zo .lss .int v1 v2 fun v3=>K0 v3 h nx:=by kernel_rfl
theorem F88.k4 {E0:Ks Prop}:IR.run F88.b4 C N ((fnO F88.res K0).blk 0 E0) K (F88.fr f g q s p v) h nx =
 zO 1 f s fun v1=>zE v1 h fun v2=>zO 1 g s fun v3=>zE v3 h fun v4=>zo .neq .int v2 v4 fun v5=>zT v5 (zO 1 f s fun v6=>zE v6 h fun v7=>zO 1 g s fun v8=>zE v8 h fun v9=>zo .lss .int v7 v9 fun vH=>K0 vH h nx) (zo .add .int s (I 1) fun vI=>K (F88.fr f g q vI p v5) h nx):=by kernel_rfl
theorem ji.pz (X2:IR) (O:jl Prop) (t:T AV):IR.run (ji.g1 X2) C N O K t h nx=IR.run X2 C N (O.blk 0 K) K t h nx:=by kernel_rfl
theorem ji.tab:T.get none (.of 201) tbl=some ji:=by kernel_rfl
theorem ji.go:zV tbl N C (.of 201) [a0,a1] h nx K0 =
 sLen a0 fun v1=>IR.run ji.b1 C N (fnO ji.res K0) (IR.run ji.b9 C N (fnO ji.res K0) (wu ji.res K0)) (ji.fr a0 a1 (I 0) .undef .undef .undef .undef a0 v1 (I 0) .undef .undef .undef .undef) h nx:=by
 rw [zI ji.tab];kernel_rfl
theorem ji.L1 (Inv:Nat->AV->T Blk->Pa->Prop) {m:Nat} (hm:m<N) (hi:Inv m A h nx)
  (step:∀ (m:Nat) (z2 z3 z4 z5 z6 z9 zA zB zC:AV) (h:T Blk) (nx:Pa) (R:Ks Prop),Inv m z9 h nx->(∀ (m':Nat) (w2 w3 w4 w5 w6 w9 wA wB wC:AV) (h':T Blk) (nx':Pa),m'<m->Inv m' w9 h' nx'->R (ji.fr f g w2 w3 w4 w5 w6 w y w9 wA wB wC c) h' nx'=.ok True) ->
   (zo .lss .int z9 y fun v1=>zT v1 (zO 1 w z9 fun v2=>zE v2 h fun v3=>sLen g fun v4=>zo .geq .int z9 v4 fun v5=>zT v5 (K0 (I 1) h nx) (zO 1 g z9 fun v6=>zE v6 h fun v7=>C.fn 244 (.of 244) [v3,v7] h nx fun v8 h9 nH=>zo .neq .int v8 (I 0) fun vI=>zT vI (K0 v8 h9 nH) (zo .add .int z9 (I 1) fun vA=>R (ji.fr f g z2 z9 v3 v7 v8 w y vA v1 v5 vI c) h9 nH))) (K (ji.fr f g z2 z3 z4 z5 z6 w y z9 v1 zB zC c) h nx))=.ok True) :
  IR.run ji.b1 C N (fnO ji.res K0) K (ji.fr f g q s p v u w y A a b d c) h nx=.ok True:=by
 rw [ji.b1,ji.pz,ji.b2];refine yF (fun m tm h nx=>∃ z2 z3 z4 z5 z6 z9 zA zB zC,tm=(ji.fr f g z2 z3 z4 z5 z6 w y z9 zA zB zC c)/\Inv m z9 h nx) ?_ hm ⟨_,_,_,_,_,_,_,_,_,rfl,hi⟩;rintro m tm h nx R ⟨z2,z3,z4,z5,z6,z9,zA,zB,zC,rfl,hi⟩ hR;refine Eq.trans ?_ (step m z2 z3 z4 z5 z6 z9 zA zB zC h nx R hi fun m' w2 w3 w4 w5 w6 w9 wA wB wC h' nx' hlt hi'=>hR m' _ h' nx' hlt ⟨_,_,_,_,_,_,_,_,_,rfl,hi'⟩)
 kernel_rfl
theorem ji.k9:IR.run ji.b9 C N (fnO ji.res K0) K (ji.fr f g q s p v u w y A a b d c) h nx =
 sLen f fun v1=>sLen g fun v2=>zo .lss .int v1 v2 fun v3=>zT v3 (K0 (I (-1)) h nx) (K0 (I 0) h nx):=by kernel_rfl
theorem fD.tab:T.get none (.of 244) tbl=some fD:=by kernel_rfl
theorem fD.go:zV tbl N C (.of 244) [a0,a1] h nx K0 =
 C.fn 250 (.of 250) [a0] h nx fun v1 h2 n3=>C.fn 250 (.of 250) [a1] h2 n3 fun v4 h5 n6=>zT v1 (zT v4 (K0 (I 0) h5 n6) (K0 (I (-1)) h5 n6)) (zT v4 (K0 (I 1) h5 n6) (zo .lss .int a0 a1 fun v7=>zT v7 (K0 (I (-1)) h5 n6) (zo .gtr .int a0 a1 fun v8=>zT v8 (K0 (I 1) h5 n6) (K0 (I 0) h5 n6)))):=by
 rw [zI fD.tab];kernel_rfl
theorem aZ.tab:T.get none (.of 250) tbl=some aZ:=by kernel_rfl
theorem aZ.go:zV tbl N C (.of 250) [a0] h nx K0 =
 zo .neq .int a0 a0 fun v1=>K0 v1 h nx:=by
 rw [zI aZ.tab];kernel_rfl
theorem F97.pz (X2:IR) (O:jl Prop) (t:T AV):IR.run (F97.g1 X2) C N O K t h nx=IR.run X2 C N (O.blk 0 K) K t h nx:=by kernel_rfl
theorem F97.tab:T.get none (.of 97) tbl=some F97:=by kernel_rfl
theorem F97.go:zV tbl N C (.of 97) [a0,a1] h nx K0 =
 sLen a0 fun v1=>IR.run F97.b1 C N (fnO F97.res K0) (IR.run F97.b8 C N (fnO F97.res K0) (wu F97.res K0)) (F97.fr a0 a1 (I 0) .undef .undef a0 v1 (I 0) .undef .undef) h nx:=by
 rw [zI F97.tab];kernel_rfl
theorem F97.L1 (Inv:Nat->AV->T Blk->Pa->Prop) {m:Nat} (hm:m<N) (hi:Inv m w h nx)
  (step:∀ (m:Nat) (z2 z3 z4 z7 z8 z9:AV) (h:T Blk) (nx:Pa) (R:Ks Prop),Inv m z7 h nx->(∀ (m':Nat) (w2 w3 w4 w7 w8 w9:AV) (h':T Blk) (nx':Pa),m'<m->Inv m' w7 h' nx'->R (F97.fr f g w2 w3 w4 v u w7 w8 w9) h' nx'=.ok True) ->
   (zo .lss .int z7 u fun v1=>zT v1 (zO 2 v z7 fun v2=>zH 2 v2 h fun v3=>yI [.zh,(.bool false)] h nx fun v4 h5 n6=>zQ 2 v4 v3 h5 n6 fun v7 h8 n9=>zH 2 v4 h8 fun vH=>C.fn 56 (.of 56) [vH,g] h8 n9 fun vI hH nI=>zo .neq .int vI (I 0) fun vC=>zT vC (K0 vI hH nI) (zo .add .int z7 (I 1) fun vD=>R (F97.fr f g z2 v4 vI v u vD v1 vC) hH nI)) (K (F97.fr f g z2 z3 z4 v u z7 v1 z9) h nx))=.ok True) :
  IR.run F97.b1 C N (fnO F97.res K0) K (F97.fr f g q s p v u w y A) h nx=.ok True:=by
 rw [F97.b1,F97.pz,F97.b2];refine yF (fun m tm h nx=>∃ z2 z3 z4 z7 z8 z9,tm=(F97.fr f g z2 z3 z4 v u z7 z8 z9)/\Inv m z7 h nx) ?_ hm ⟨_,_,_,_,_,_,rfl,hi⟩;rintro m tm h nx R ⟨z2,z3,z4,z7,z8,z9,rfl,hi⟩ hR;refine Eq.trans ?_ (step m z2 z3 z4 z7 z8 z9 h nx R hi fun m' w2 w3 w4 w7 w8 w9 h' nx' hlt hi'=>hR m' _ h' nx' hlt ⟨_,_,_,_,_,_,rfl,hi'⟩)
 kernel_rfl
theorem F97.k8:IR.run F97.b8 C N (fnO F97.res K0) K (F97.fr f g q s p v u w y A) h nx =
 K0 (I 0) h nx:=by kernel_rfl
theorem F90.tab:T.get none (.of 90) tbl=some F90:=by kernel_rfl
theorem F90.go:zV tbl N C (.of 90) [a0] h nx K0 =
 cu a0 h nx fun v1 h2 n3=>K0 (.fn 159 (.of 159) [v1]) h2 n3:=by
 rw [zI F90.tab];kernel_rfl
theorem fG.tab:T.get none (.of 162) tbl=some fG:=by kernel_rfl
theorem fG.go:zV tbl N C (.of 162) [a0,a1] h nx K0 =
 cu a0 h nx fun v1 h2 n3=>cu a1 h2 n3 fun v4 h5 n6=>zL 0 v1 fun v7=>zE v7 h5 fun v8=>zL 0 v4 fun v9=>zE v9 h5 fun vH=>C.fn 201 (.of 201) [v8,vH] h5 n6 fun vI hH nI=>zo .neq .int vI (I 0) fun vC=>sG vC false (fun k=>zL 1 v1 k) fun vD=>sG vC false (fun k=>zE vD hH k) fun vE=>sG vC false (fun k=>zL 1 v4 k) fun vF=>sG vC false (fun k=>zE vF hH k) fun vG=>sG vC false (fun k=>zo .eql .bool vE vG k) fun vJ=>jR vC (.bool true) vJ fun vK=>zT vK (K0 vI hH nI) ((IR.run fG.b1 C N (fnO fG.res K0) (wu fG.res K0)) (fG.fr a0 a1 v1 v4 (I 0) vI vK .undef) hH nI):=by
 rw [zI fG.tab];kernel_rfl
theorem fG.k1:IR.run fG.b1 C N (fnO fG.res K0) K (fG.fr f g q s p v u w) h nx =
 zL 1 q fun v1=>zE v1 h fun v2=>zT v2 (K0 (I 1) h nx) (K0 (I (-1)) h nx):=by kernel_rfl
theorem F56.tab:T.get none (.of 56) tbl=some F56:=by kernel_rfl
theorem F56.go:zV tbl N C (.of 56) [a0,a1] h nx K0 =
 cu a0 h nx fun v1 h2 n3=>zL 0 v1 fun v4=>zE v4 h2 fun v5=>sLen v5 fun v6=>zo .neq .int v6 a1 fun v7=>zL 0 v1 fun v8=>zE v8 h2 fun v9=>C.fn 95 (.of 95) [a1] h2 n3 fun vH hC nC=>(zE v8 hC fun vM=>zN vM v9 ((zL 0 v1 fun vN=>zN vN v8 ((zo .neq .int v6 a1 fun vO=>zN vO v7 (zN a1 a1 ((sLen v5 fun vP=>zN vP v6 ((zE v4 hC fun vR=>zN vR v5 ((zL 0 v1 fun vS=>zN vS v4 (C.fn 96 (.of 96) [v7,(I 2)] hC nC fun vB hD nD=>(zE v8 hD fun vT=>zN vT v9 ((zL 0 v1 fun vU=>zN vU v8 (C.fn 140 (.of 140) [v9] hD nD fun vE hE nE=>sQ vE fun vJ=>C.fn 96 (.of 96) [vJ,(I 14)] hE nE fun vK hM nN=>yY 1 3 [(I 0)] [(0,1,vH),(1,1,vB),(2,1,vK)] hM nN fun v23 hL nM=>C.fn 94 (.of 94) [v23] hL nM fun vX hN nO=>K0 vX hN nO))))))))))))))))):=by
 rw [zI F56.tab];kernel_rfl
theorem qx.pz (X2:IR) (O:jl Prop) (t:T AV):IR.run (qx.g1 X2) C N O K t h nx=IR.run X2 C N (O.blk 0 K) K t h nx:=by kernel_rfl
theorem qx.tab:T.get none (.of 159) tbl=some qx:=by kernel_rfl
theorem qx.go:zV tbl N C (.of 159) [a0,a1] h nx K0 =
 zE a1 h fun v1=>sLen v1 fun v2=>IR.run qx.b1 C N (fnO qx.res K0) (wu qx.res K0) (qx.fr a0 a1 .undef .undef v1 v2 (I 0) .undef .undef) h nx:=by
 rw [zI qx.tab];kernel_rfl
theorem qx.L1 (Inv:Nat->AV->T Blk->Pa->Prop) {m:Nat} (hm:m<N) (hi:Inv m u h nx)
  (step:∀ (m:Nat) (z2 z3 z6 z7 z8:AV) (h:T Blk) (nx:Pa) (R:Ks Prop),Inv m z6 h nx->(∀ (m':Nat) (w2 w3 w6 w7 w8:AV) (h':T Blk) (nx':Pa),m'<m->Inv m' w6 h' nx'->R (qx.fr f g w2 w3 p v w6 w7 w8) h' nx'=.ok True) ->
   (zo .lss .int z6 v fun v1=>zT v1 (zO 2 p z6 fun v2=>zH 2 v2 h fun v3=>yI [.zh,(.bool false)] h nx fun v4 h5 n6=>zQ 2 v4 v3 h5 n6 fun v7 h8 n9=>zH 2 v4 h8 fun vH=>vQ C f [z6,vH] h8 n9 fun vI hH nI=>sQ vI fun vC=>zT vC (K0 (.tup []) hH nI) (zo .add .int z6 (I 1) fun vD=>R (qx.fr f g z6 v4 p v vD v1 vC) hH nI)) (K (qx.fr f g z2 z3 p v z6 v1 z8) h nx))=.ok True) :
  IR.run qx.b1 C N (fnO qx.res K0) K (qx.fr f g q s p v u w y) h nx=.ok True:=by
 rw [qx.b1,qx.pz,qx.b2];refine yF (fun m tm h nx=>∃ z2 z3 z6 z7 z8,tm=(qx.fr f g z2 z3 p v z6 z7 z8)/\Inv m z6 h nx) ?_ hm ⟨_,_,_,_,_,rfl,hi⟩;rintro m tm h nx R ⟨z2,z3,z6,z7,z8,rfl,hi⟩ hR;refine Eq.trans ?_ (step m z2 z3 z6 z7 z8 h nx R hi fun m' w2 w3 w6 w7 w8 h' nx' hlt hi'=>hR m' _ h' nx' hlt ⟨_,_,_,_,_,rfl,hi'⟩)
 kernel_rfl
theorem uw.pz (X2:IR) (O:jl Prop) (t:T AV):IR.run (uw.g1 X2) C N O K t h nx=IR.run X2 C N (O.blk 0 K) K t h nx:=by kernel_rfl
theorem uw.tab:T.get none (.of 163) tbl=some uw:=by kernel_rfl
theorem uw.go:zV tbl N C (.of 163) [a0] h nx K0 =
 yI [.zh,(.bool false)] h nx fun v1 h2 n3=>gR 1 8 [(I 0)] a0 a0 h2 n3 fun v4 h5 n6=>gI [.zh,(.bool false)] [(0,1,v4)] fun v7=>yI [.zh,(.bool false)] h5 n6 fun v8 h9 nH=>zQ 2 v8 v7 h9 nH fun vI hH nI=>zL 0 v8 fun vC=>zE vC hH fun vD=>sLen vD fun vE=>IR.run uw.b1 C N (fnO uw.res K0) (IR.run uw.b8 C N (fnO uw.res K0) (wu uw.res K0)) (uw.fr a0 v1 v8 .undef vE (I 0) .undef) hH nI:=by
 rw [zI uw.tab];kernel_rfl
theorem uw.L1 (Inv:Nat->AV->T Blk->Pa->Prop) {m:Nat} (hm:m<N) (hi:Inv m v h nx)
  (step:∀ (m:Nat) (z3 z5 z6:AV) (h:T Blk) (nx:Pa) (R:Ks Prop),Inv m z5 h nx->(∀ (m':Nat) (w3 w5 w6:AV) (h':T Blk) (nx':Pa),m'<m->Inv m' w5 h' nx'->R (uw.fr f g q w3 p w5 w6) h' nx'=.ok True) ->
   (zo .lss .int z5 p fun v1=>zT v1 (zL 0 q fun v2=>zE v2 h fun v3=>zO 1 v3 z5 fun v4=>zQ 1 v4 z5 h nx fun v5 h6 n7=>zo .add .int z5 (I 1) fun v8=>R (uw.fr f g q z5 p v8 v1) h6 n7) (K (uw.fr f g q z3 p z5 v1) h nx))=.ok True) :
  IR.run uw.b1 C N (fnO uw.res K0) K (uw.fr f g q s p v u) h nx=.ok True:=by
 rw [uw.b1,uw.pz,uw.b2];refine yF (fun m tm h nx=>∃ z3 z5 z6,tm=(uw.fr f g q z3 p z5 z6)/\Inv m z5 h nx) ?_ hm ⟨_,_,_,rfl,hi⟩;rintro m tm h nx R ⟨z3,z5,z6,rfl,hi⟩ hR;refine Eq.trans ?_ (step m z3 z5 z6 h nx R hi fun m' w3 w5 w6 h' nx' hlt hi'=>hR m' _ h' nx' hlt ⟨_,_,_,rfl,hi'⟩)
 kernel_rfl
theorem uw.k8:IR.run uw.b8 C N (fnO uw.res K0) K (uw.fr f g q s p v u) h nx =
 zH 2 q h fun v1=>zQ 2 g v1 h nx fun v2 h3 n4=>zH 2 g h3 fun v5=>K0 v5 h3 n4:=by kernel_rfl
theorem gq.pz (X2:IR) (O:jl Prop) (t:T AV):IR.run (gq.g1 X2) C N O K t h nx=IR.run X2 C N (O.blk 0 K) K t h nx:=by kernel_rfl
theorem gq.tab:T.get none (.of 123) tbl=some gq:=by kernel_rfl
theorem gq.go:zV tbl N C (.of 123) [a0] h nx K0 =
 cu a0 h nx fun v1 h2 n3=>zL 0 v1 fun v4=>zE v4 h2 fun v5=>sLen v5 fun v6=>zo .add .int v6 (I 1) fun v7=>gR 1 1 [(.int .u8 0)] (I 0) v7 h2 n3 fun v8 h9 nH=>zL 0 v1 fun vI=>zE vI h9 fun vA=>sLen vA fun vB=>IR.run gq.b1 C N (fnO gq.res K0) (IR.run gq.b8 C N (fnO gq.res K0) (wu gq.res K0)) (gq.fr a0 v1 (.str []) v8 .undef vA vB (I 0) .undef .undef) h9 nH:=by
 rw [zI gq.tab];kernel_rfl
theorem gq.L1 (Inv:Nat->AV->AV->T Blk->Pa->Prop) {m:Nat} (hm:m<N) (hi:Inv m s w h nx)
  (step:∀ (m:Nat) (z3 z4 z7 z8:AV) (h:T Blk) (nx:Pa) (R:Ks Prop),Inv m z3 z7 h nx->(∀ (m':Nat) (w3 w4 w7 w8:AV) (h':T Blk) (nx':Pa),m'<m->Inv m' w3 w7 h' nx'->R (gq.fr f g q w3 w4 v u w7 w8 A) h' nx'=.ok True) ->
   (zo .lss .int z7 u fun v1=>zT v1 (zO 1 v z7 fun v2=>zE v2 h fun v3=>zll .u8 v3 fun v4=>yY 1 1 [(.int .u8 0)] [(0,1,v4)] h nx fun v5 h6 n7=>tq 1 1 z3 v5 h6 n7 fun v8 h9 nH=>zo .add .int z7 (I 1) fun vI=>R (gq.fr f g q v8 v3 v u vI v1 A) h9 nH) (K (gq.fr f g q z3 z4 v u z7 v1 A) h nx))=.ok True) :
  IR.run gq.b1 C N (fnO gq.res K0) K (gq.fr f g q s p v u w y A) h nx=.ok True:=by
 rw [gq.b1,gq.pz,gq.b2];refine yF (fun m tm h nx=>∃ z3 z4 z7 z8,tm=(gq.fr f g q z3 z4 v u z7 z8 A)/\Inv m z3 z7 h nx) ?_ hm ⟨_,_,_,_,rfl,hi⟩;rintro m tm h nx R ⟨z3,z4,z7,z8,rfl,hi⟩ hR;refine Eq.trans ?_ (step m z3 z4 z7 z8 h nx R hi fun m' w3 w4 w7 w8 h' nx' hlt hi'=>hR m' _ h' nx' hlt ⟨_,_,_,_,rfl,hi'⟩)
 kernel_rfl
theorem gq.k8:IR.run gq.b8 C N (fnO gq.res K0) K (gq.fr f g q s p v u w y A) h nx =
 zL 1 g fun v1=>zE v1 h fun v2=>zT v2 (yY 1 1 [(.int .u8 0)] [(0,1,(.int .u8 1))] h nx fun v3 h4 n5=>tq 1 1 s v3 h4 n5 fun v6 h7 n8=>sB2s v6 h7 fun v9=>K0 v9 h7 n8) (sB2s s h fun vH=>K0 vH h nx):=by kernel_rfl
theorem eF.tab:T.get none (.of 121) tbl=some eF:=by kernel_rfl
theorem eF.go:zV tbl N C (.of 121) [a0,a1] h nx K0 =
 cu a1 h nx fun v1 h2 n3=>zH 2 v1 h2 fun v4=>C.fn 123 (.of 123) [v4] h2 n3 fun v5 h6 n7=>zen .str (.agg [.zh,(.bool false)]) true a0 v5 h6 fun v8=>bf 0 v8 fun v9=>bf 1 v8 fun vH=>yI [.zh,(.bool false)] h6 n7 fun vI hH nI=>zQ 2 vI v9 hH nI fun vC hB nB=>K0 vH hB nB:=by
 rw [zI eF.tab];kernel_rfl
theorem uy.pz (X2:IR) (O:jl Prop) (t:T AV):IR.run (uy.g1 X2) C N O K t h nx=IR.run X2 C N (O.blk 0 K) K t h nx:=by kernel_rfl
theorem uy.tab:T.get none (.of 122) tbl=some uy:=by kernel_rfl
theorem uy.go:zV tbl N C (.of 122) [a0,a1] h nx K0 =
 cu a0 h nx fun v1 h2 n3=>cu a1 h2 n3 fun v4 h5 n6=>yI [.zh,(.bool false)] h5 n6 fun v7 h8 n9=>sChk (true&&true) (zL 0 v4 fun vH=>zE vH h8 fun vI=>sLen vI fun vA=>sChk (mkSl 8 vA vA&&true) (zL 1 v1 fun vB=>zE vB h8 fun vC=>zL 1 v4 fun vD=>zE vD h8 fun vE=>zo .neq .bool vC vE fun vF=>gR 1 8 [(I 0)] vA vA h8 n9 fun vG hO nP=>(zo .neq .bool vC vE fun v47=>zN v47 vF ((zE vD hO fun v46=>zN v46 vE ((zL 1 v4 fun v45=>zN v45 vD ((zE vB hO fun v44=>zN v44 vC ((zL 1 v1 fun v43=>zN v43 vB ((sLen vI fun v42=>zN v42 vA ((zE vH hO fun v41=>zN v41 vI ((zL 0 v4 fun v40=>zN v40 vH (gI [.zh,(.bool false)] [(0,1,vG),(1,1,vF)] fun vL=>yI [.zh,(.bool false)] hO nP fun vV hG nG=>(gI [.zh,(.bool false)] [(0,1,vG),(1,1,vF)] fun v39=>zN v39 vL ((zo .neq .bool vC vE fun v38=>zN v38 vF ((zE vD hG fun v37=>zN v37 vE ((zL 1 v4 fun vM=>zN vM vD ((zE vB hG fun vN=>zN vN vC ((zL 1 v1 fun vO=>zN vO vB ((sLen vI fun vP=>zN vP vA ((zE vH hG fun vR=>zN vR vI ((zL 0 v4 fun vS=>zN vS vH (zQ 2 vV vL hG nG fun vW hI nJ=>zL 0 v4 fun vZ=>zE vZ hI fun vU=>sLen vU fun vT=>IR.run uy.b1 C N (fnO uy.res K0) (IR.run uy.b8 C N (fnO uy.res K0) (wu uy.res K0)) (uy.fr a0 a1 v1 v4 v7 vV .undef .undef vU vT (I 0) .undef) hI nJ)))))))))))))))))))))))))))))))))))):=by
 rw [zI uy.tab];kernel_rfl
theorem uy.L1 (Inv:Nat->AV->T Blk->Pa->Prop) {m:Nat} (hm:m<N) (hi:Inv m a h nx)
  (step:∀ (m:Nat) (z6 z7 zA zB:AV) (h:T Blk) (nx:Pa) (R:Ks Prop),Inv m zA h nx->(∀ (m':Nat) (w6 w7 wA wB:AV) (h':T Blk) (nx':Pa),m'<m->Inv m' wA h' nx'->R (uy.fr f g q s p v w6 w7 y A wA wB) h' nx'=.ok True) ->
   (zo .lss .int zA A fun v1=>zT v1 (zO 1 y zA fun v2=>zE v2 h fun v3=>zL 0 v fun v4=>zE v4 h fun v5=>zL 0 q fun v6=>zE v6 h fun v7=>zO 1 v7 v3 fun v8=>zE v8 h fun v9=>zO 1 v5 zA fun vH=>zQ 1 vH v9 h nx fun vI hH nI=>zo .add .int zA (I 1) fun vC=>R (uy.fr f g q s p v zA v3 y A vC v1) hH nI) (K (uy.fr f g q s p v z6 z7 y A zA v1) h nx))=.ok True) :
  IR.run uy.b1 C N (fnO uy.res K0) K (uy.fr f g q s p v u w y A a b) h nx=.ok True:=by
 rw [uy.b1,uy.pz,uy.b2];refine yF (fun m tm h nx=>∃ z6 z7 zA zB,tm=(uy.fr f g q s p v z6 z7 y A zA zB)/\Inv m zA h nx) ?_ hm ⟨_,_,_,_,rfl,hi⟩;rintro m tm h nx R ⟨z6,z7,zA,zB,rfl,hi⟩ hR;refine Eq.trans ?_ (step m z6 z7 zA zB h nx R hi fun m' w6 w7 wA wB h' nx' hlt hi'=>hR m' _ h' nx' hlt ⟨_,_,_,_,rfl,hi'⟩)
 kernel_rfl
theorem uy.k8:IR.run uy.b8 C N (fnO uy.res K0) K (uy.fr f g q s p v u w y A a b) h nx =
 zH 2 v h fun v1=>zQ 2 p v1 h nx fun v2 h3 n4=>zH 2 p h3 fun v5=>K0 v5 h3 n4:=by kernel_rfl
theorem eG.tab:T.get none (.of 140) tbl=some eG:=by kernel_rfl
theorem eG.go:zV tbl N C (.of 140) [a0] h nx K0 =
 C.fn 198 (.of 198) [a0] h nx fun v1 h2 n3=>zo .eql .int v1 (I 0) fun v4=>K0 v4 h2 n3:=by
 rw [zI eG.tab];kernel_rfl
theorem yx.sN (X3:IR) (O:jl Prop) (t:T AV):IR.run (yx.g2 X3) C N O K t h nx=IR.run X3 C N (O.blk 0 K) K t h nx:=by kernel_rfl
theorem yx.tab:T.get none (.of 198) tbl=some yx:=by kernel_rfl
theorem yx.go:zV tbl N C (.of 198) [a0] h nx K0 =
 sLen a0 fun v1=>zo .gtr .int v1 (I 256) fun v2=>zT v2 (K0 (I 5) h nx) (sLen a0 fun v3=>gR 1 1 [(.bool false)] v3 v3 h nx fun v4 h5 n6=>sLen a0 fun v7=>IR.run yx.b2 C N (fnO yx.res K0) (IR.run yx.b10 C N (fnO yx.res K0) (wu yx.res K0)) (yx.fr a0 (I 0) v4 .undef v2 a0 v7 (I 0) .undef .undef) h5 n6):=by
 rw [zI yx.tab];kernel_rfl
theorem yx.L2 (Inv:Nat->AV->T Blk->Pa->Prop) {m:Nat} (hm:m<N) (hi:Inv m w h nx)
  (step:∀ (m:Nat) (z1 z3 z7 z8 z9:AV) (h:T Blk) (nx:Pa) (R:Ks Prop),Inv m z7 h nx->(∀ (m':Nat) (w1 w3 w7 w8 w9:AV) (h':T Blk) (nx':Pa),m'<m->Inv m' w7 h' nx'->R (yx.fr f w1 q w3 p v u w7 w8 w9) h' nx'=.ok True) ->
   (zo .lss .int z7 u fun v1=>zT v1 (zO 1 v z7 fun v2=>zE v2 h fun v3=>zo .lss .int v3 (I 0) fun v4=>sG v4 false (fun k=>k v3) fun v5=>sG v4 false (fun k=>k f) fun v6=>sG v4 false (fun k=>sLen v6 k) fun v7=>sG v4 false (fun k=>zo .geq .int v5 v7 k) fun v8=>jR v4 (.bool true) v8 fun v9=>sG v9 false (fun k=>k q) fun vH=>sG v9 false (fun k=>k v3) fun vI=>sG v9 false (fun k=>zO 1 vH vI k) fun vA=>sG v9 false (fun k=>zE vA h k) fun vB=>jR v9 (.bool true) vB fun vC=>zT vC (K0 (I 14) h nx) ((IR.run yx.b8 C N (((fnO yx.res K0).blk 0 K).blk 1 (IR.run yx.b9 C N ((fnO yx.res K0).blk 0 K) R)) (IR.run yx.b9 C N ((fnO yx.res K0).blk 0 K) R)) (yx.fr f z1 q v3 p v u z7 v1 vC) h nx)) (K (yx.fr f z1 q z3 p v u z7 v1 z9) h nx))=.ok True) :
  IR.run yx.b2 C N (fnO yx.res K0) K (yx.fr f g q s p v u w y A) h nx=.ok True:=by
 rw [yx.b2,yx.sN,yx.b3];refine yF (fun m tm h nx=>∃ z1 z3 z7 z8 z9,tm=(yx.fr f z1 q z3 p v u z7 z8 z9)/\Inv m z7 h nx) ?_ hm ⟨_,_,_,_,_,rfl,hi⟩;rintro m tm h nx R ⟨z1,z3,z7,z8,z9,rfl,hi⟩ hR;refine Eq.trans ?_ (step m z1 z3 z7 z8 z9 h nx R hi fun m' w1 w3 w7 w8 w9 h' nx' hlt hi'=>hR m' _ h' nx' hlt ⟨_,_,_,_,_,rfl,hi'⟩)
 kernel_rfl
theorem yx.k10:IR.run yx.b10 C N (fnO yx.res K0) K (yx.fr f g q s p v u w y A) h nx =
 K0 (I 0) h nx:=by kernel_rfl
theorem yx.k9 {E0:Ks Prop}:IR.run yx.b9 C N ((fnO yx.res K0).blk 0 E0) K (yx.fr f g q s p v u w y A) h nx =
 zo .add .int w (I 1) fun v1=>K (yx.fr f g q s p v u v1 y A) h nx:=by kernel_rfl
theorem yx.k8 {E0 E1:Ks Prop}:IR.run yx.b8 C N (((fnO yx.res K0).blk 0 E0).blk 1 E1) K (yx.fr f g q s p v u w y A) h nx =
 zO 1 q s fun v1=>zQ 1 v1 (.bool true) h nx fun v2 h3 n4=>K (yx.fr f g q s p v u w y A) h3 n4:=by kernel_rfl
theorem F94.pz (X2:IR) (O:jl Prop) (t:T AV):IR.run (F94.g1 X2) C N O K t h nx=IR.run X2 C N (O.blk 0 K) K t h nx:=by kernel_rfl
theorem F94.tab:T.get none (.of 94) tbl=some F94:=by kernel_rfl
theorem F94.go:zV tbl N C (.of 94) [a0] h nx K0 =
 sLen a0 fun v1=>IR.run F94.b1 C N (fnO F94.res K0) (IR.run F94.b8 C N (fnO F94.res K0) (wu F94.res K0)) (F94.fr a0 (I 0) .undef a0 v1 (I 0) .undef .undef) h nx:=by
 rw [zI F94.tab];kernel_rfl
theorem F94.L1 (Inv:Nat->AV->T Blk->Pa->Prop) {m:Nat} (hm:m<N) (hi:Inv m v h nx)
  (step:∀ (m:Nat) (z1 z2 z5 z6 z7:AV) (h:T Blk) (nx:Pa) (R:Ks Prop),Inv m z5 h nx->(∀ (m':Nat) (w1 w2 w5 w6 w7:AV) (h':T Blk) (nx':Pa),m'<m->Inv m' w5 h' nx'->R (F94.fr f w1 w2 s p w5 w6 w7) h' nx'=.ok True) ->
   (zo .lss .int z5 p fun v1=>zT v1 (zO 1 s z5 fun v2=>zE v2 h fun v3=>zo .neq .int v3 (I 0) fun v4=>zT v4 (K0 v3 h nx) (zo .add .int z5 (I 1) fun v5=>R (F94.fr f z1 v3 s p v5 v1 v4) h nx)) (K (F94.fr f z1 z2 s p z5 v1 z7) h nx))=.ok True) :
  IR.run F94.b1 C N (fnO F94.res K0) K (F94.fr f g q s p v u w) h nx=.ok True:=by
 rw [F94.b1,F94.pz,F94.b2];refine yF (fun m tm h nx=>∃ z1 z2 z5 z6 z7,tm=(F94.fr f z1 z2 s p z5 z6 z7)/\Inv m z5 h nx) ?_ hm ⟨_,_,_,_,_,rfl,hi⟩;rintro m tm h nx R ⟨z1,z2,z5,z6,z7,rfl,hi⟩ hR;refine Eq.trans ?_ (step m z1 z2 z5 z6 z7 h nx R hi fun m' w1 w2 w5 w6 w7 h' nx' hlt hi'=>hR m' _ h' nx' hlt ⟨_,_,_,_,_,rfl,hi'⟩)
 kernel_rfl
theorem F94.k8:IR.run F94.b8 C N (fnO F94.res K0) K (F94.fr f g q s p v u w) h nx =
 K0 (I 0) h nx:=by kernel_rfl
theorem F95.tab:T.get none (.of 95) tbl=some F95:=by kernel_rfl
theorem F95.go:zV tbl N C (.of 95) [a0] h nx K0 =
 zo .lss .int a0 (I 0) fun v1=>sG v1 false (fun k=>k a0) fun v2=>sG v1 false (fun k=>zo .gtr .int v2 (I 256) k) fun v3=>jR v1 (.bool true) v3 fun v4=>C.fn 96 (.of 96) [v4,(I 3)] h nx fun v5 h6 n7=>K0 v5 h6 n7:=by
 rw [zI F95.tab];kernel_rfl
theorem F96.tab:T.get none (.of 96) tbl=some F96:=by kernel_rfl
theorem F96.go:zV tbl N C (.of 96) [a0,a1] h nx K0 =
 zT a0 (K0 a1 h nx) (K0 (I 0) h nx):=by
 rw [zI F96.tab];kernel_rfl
theorem F98.zr3 (X14:IR) (O:jl Prop) (t:T AV):IR.run (F98.g13 X14) C N O K t h nx=IR.run X14 C N (O.blk 4 K) K t h nx:=by kernel_rfl
theorem F98.zlm (X8:IR) (O:jl Prop) (t:T AV):IR.run (F98.g7 X8) C N O K t h nx=IR.run X8 C N (O.blk 2 K) K t h nx:=by kernel_rfl
theorem F98.tab:T.get none (.of 98) tbl=some F98:=by kernel_rfl
theorem F98.go:zV tbl N C (.of 98) [a0,a1,a2] h nx K0 =
 cu a2 h nx fun v1 h2 n3=>yI [.jm] h2 n3 fun v4 h5 n6=>yI [.zh] h5 n6 fun v7 h8 n9=>yI [(.bool false)] h8 n9 fun vH hC nC=>C.fn 163 (.of 163) [a1] hC nC fun vB hD nD=>yI [.zh,(.bool false)] hD nD fun vE hE nE=>zQ 2 vE vB hE nE fun vJ hF nF=>sChk (true&&(true&&true)) (zH 2 vE hF fun vV=>zH 2 vE hF fun v23=>C.fn 123 (.of 123) [vV] hF nF fun v24 hK nL=>(zH 2 vE hK fun v52=>zN v52 v23 ((zH 2 vE hK fun v51=>zN v51 vV (p7 hK nL fun vY hP nQ=>(zH 2 vE hP fun v50=>zN v50 v23 ((zH 2 vE hP fun v49=>zN v49 vV (xI .str vY v24 v23 hP nQ fun vT hQ nR=>(zH 2 vE hQ fun v48=>zN v48 v23 ((zH 2 vE hQ fun v47=>zN v47 vV (yI [.jm] hQ nR fun vP hS nS=>zN vY vY ((zH 2 vE hS fun v46=>zN v46 v23 ((zH 2 vE hS fun v45=>zN v45 vV (zQ 1 vP vY hS nS fun vM hT nT=>yI [.zh] hT nT fun v39 hU nU=>C.fn 90 (.of 90) [a0] hU nU fun v42 hV nV=>IR.run (.rf (.t (.of 14)) [(.of 15),(.of 16)] F98.b3 F98.b4) C N ((fnO F98.res K0).blk 0 (IR.run F98.b23 C N (fnO F98.res K0) (wu F98.res K0))) (IR.run F98.b23 C N (fnO F98.res K0) (wu F98.res K0)) (F98.fr a0 a1 a2 v1 v4 v7 vH vE vP v39 .undef .undef .undef .undef v42 .undef .undef .undef .undef .undef .undef .undef .undef .undef .undef) hV nV)))))))))))))))))):=by
 rw [zI F98.tab];kernel_rfl
theorem F98.k23:IR.run F98.b23 C N (fnO F98.res K0) K (F98.fr f g q s p v u w y A a b d c e i l o z B D F E G H) h nx =
 zE y h fun v1=>zE A h fun v2=>zQ 1 p v1 h nx fun v3 h4 n5=>(zE A h4 fun vD=>zN vD v2 (zQ 1 v v2 h4 n5 fun v6 h7 n8=>zQ 1 u (.bool true) h7 n8 fun v9 hA nA=>zE p hA fun vA=>zE v hA fun vB=>zE u hA fun vC=>K0 (.tup [vA,vB,vC]) hA nA)):=by kernel_rfl
theorem F98.p4 {N:Nat} {C:Calls Prop} {K0:Kw Prop} {id nx:Pa} {j:Jump} {h:T Blk} {f g q s p v u w y A a b d c e i l o z B D F E G H z0 z1:AV} (hl:T.get .no id h=.loop .ready j (F98.fr f g q s p v u w y A a b d c e i l o z B D F E G H) [.of 15,.of 16] F98.b3 F98.b4) :
 q9 N C id [z0,z1] h nx K0 =
 yI [.zh,(.bool false)] h nx fun v1 h2 n3=>zQ 2 v1 z1 h2 n3 fun v4 h5 n6=>rMid N C id K0 F98.b4 (F98.fr f g q s p v u w y A v1 b d c e z0 z1 o z B D F E G H) h5 n6:=by
 rw [zdj hl (tm1:=(F98.fr f g q s p v u w y A a b d c e z0 z1 o z B D F E G H)) (by intro k;kernel_rfl)];kernel_rfl
theorem F98.y4 {N:Nat} {C:Calls Prop} {K0:Kw Prop} {id nx:Pa} {h:T Blk} {f g q s p v u w y A a b d c e i l o z B D F E G H:AV} :
 IR.run F98.b4 C N (rO id K0) (yZ id K0 .none true) (F98.fr f g q s p v u w y A a b d c e i l o z B D F E G H) h nx =
 zE y h fun v1=>zH 2 a h fun v2=>C.fn 121 (.of 121) [v1,v2] h nx fun v3 h4 n5=>zT v3 (yZ id K0 .none true .e h4 n5) (zE A h4 fun v6=>zH 2 a h4 fun v7=>yY 2 1 [.zh,(.bool false)] [(0,2,v7)] h4 n5 fun v8 h9 nH=>xK C 2 32 v6 v8 h9 nH fun vI hH nI=>zQ 1 A vI hH nI fun vC hB nB=>sChk (true&&true) (zH 2 w hB fun vF=>zH 2 w hB fun vG=>C.fn 123 (.of 123) [vF] hB nB fun vJ hF nF=>(zH 2 w hF fun v38=>zN v38 vG ((zH 2 w hF fun v37=>zN v37 vF (p7 hF nF fun vV hG nG=>(zH 2 w hG fun vM=>zN vM vG ((zH 2 w hG fun vN=>zN vN vF (xI .str vV vJ vG hG nG fun vW hI nJ=>zQ 1 y vV hI nJ fun vZ hJ nK=>zH 2 w hJ fun vS=>yY 2 1 [.zh,(.bool false)] [(0,2,vS)] hJ nK fun vR hW nW=>IR.run F98.b7 C N ((rO id K0).blk 1 (yZ id K0 .none true)) (yZ id K0 .none true) (F98.fr f g q s p v u w y A a vR d c e i l v3 z B D F E G H) hW nW)))))))))):=by kernel_rfl
theorem F98.L7 {id:Pa} {E1:Ks Prop} (Inv:Nat->AV->T Blk->Pa->Prop) {m:Nat} (hm:m<N) (hi:Inv m b h nx)
  (step:∀ (m:Nat) (zB zC zD zM zP zR zS zU zW zX:AV) (h:T Blk) (nx:Pa) (R:Ks Prop),Inv m zB h nx->(∀ (m':Nat) (wB wC wD wI wJ wK wL wM wN wO:AV) (h':T Blk) (nx':Pa),m'<m->Inv m' wB h' nx'->R (F98.fr f g q s p v u w y A a wB wC wD e i l o wI wJ wK wL wM wN wO) h' nx'=.ok True) ->
   (sLen zB fun v1=>zo .gtr .int v1 (I 0) fun v2=>zT v2 (zE A h fun v3=>sLen v3 fun v4=>IR.run F98.b13 C N ((((rO id K0).blk 1 E1).blk 2 K).blk 3 (IR.run F98.b22 C N (((rO id K0).blk 1 E1).blk 2 K) R)) (IR.run F98.b22 C N (((rO id K0).blk 1 E1).blk 2 K) R) (F98.fr f g q s p v u w y A a zB zC zD e i l o v2 v3 v4 (I 0) zU zW zX) h nx) (K (F98.fr f g q s p v u w y A a zB zC zD e i l o v2 zP zR zS zU zW zX) h nx))=.ok True) :
  IR.run F98.b7 C N ((rO id K0).blk 1 E1) K (F98.fr f g q s p v u w y A a b d c e i l o z B D F E G H) h nx=.ok True:=by
 rw [F98.b7,F98.zlm,F98.b8];refine yF (fun m tm h nx=>∃ zB zC zD zM zP zR zS zU zW zX,tm=(F98.fr f g q s p v u w y A a zB zC zD e i l o zM zP zR zS zU zW zX)/\Inv m zB h nx) ?_ hm ⟨_,_,_,_,_,_,_,_,_,_,rfl,hi⟩;rintro m tm h nx R ⟨zB,zC,zD,zM,zP,zR,zS,zU,zW,zX,rfl,hi⟩ hR;refine Eq.trans ?_ (step m zB zC zD zM zP zR zS zU zW zX h nx R hi fun m' wB wC wD wI wJ wK wL wM wN wO h' nx' hlt hi'=>hR m' _ h' nx' hlt ⟨_,_,_,_,_,_,_,_,_,_,rfl,hi'⟩)
 kernel_rfl
theorem F98.k22 {id:Pa} {E1 E2:Ks Prop}:IR.run F98.b22 C N (((rO id K0).blk 1 E1).blk 2 E2) K (F98.fr f g q s p v u w y A a b d c e i l o z B D F E G H) h nx =
 dE 2 b (some (I 1)) none none fun v1=>K (F98.fr f g q s p v u w y A a v1 d c e i l o z B D F E G H) h nx:=by kernel_rfl
theorem F98.L13 {id:Pa} {E1 E2 E3:Ks Prop} (Inv:Nat->AV->AV->T Blk->Pa->Prop) {m:Nat} (hm:m<N) (hi:Inv m b F h nx)
  (step:∀ (m:Nat) (zB zC zD zS zU zW zX:AV) (h:T Blk) (nx:Pa) (R:Ks Prop),Inv m zB zS h nx->(∀ (m':Nat) (wB wC wD wL wM wN wO:AV) (h':T Blk) (nx':Pa),m'<m->Inv m' wB wL h' nx'->R (F98.fr f g q s p v u w y A a wB wC wD e i l o z B D wL wM wN wO) h' nx'=.ok True) ->
   (zo .lss .int zS D fun v1=>zT v1 (zO 2 B zS fun v2=>zH 2 v2 h fun v3=>yI [.zh,(.bool false)] h nx fun v4 h5 n6=>zQ 2 v4 v3 h5 n6 fun v7 h8 n9=>sChk (true&&true) (zH 2 v4 h8 fun vH=>zO 2 zB (I 0) fun vI=>zH 2 vI h8 fun vA=>C.fn 122 (.of 122) [vH,vA] h8 n9 fun vB hD nD=>(zH 2 vI hD fun v65=>zN v65 vA ((zO 2 zB (I 0) fun v64=>zN v64 vI (zN zB zB ((zH 2 v4 hD fun v63=>zN v63 vH (yI [.zh,(.bool false)] hD nD fun vE hE nE=>(zH 2 vI hE fun v62=>zN v62 vA ((zO 2 zB (I 0) fun v61=>zN v61 vI (zN zB zB ((zH 2 v4 hE fun v60=>zN v60 vH (zQ 2 vE vB hE nE fun vJ hF nF=>zE y hF fun vV=>zH 2 vE hF fun v23=>C.fn 121 (.of 121) [vV,v23] hF nF fun v24 hK nL=>zT v24 (zo .add .int zS (I 1) fun vY=>R (F98.fr f g q s p v u w y A a zB v4 vE e i l o z B D vY v1 v24 zX) hK nL) (zE y hK fun vZ=>zif vZ hK fun vU=>zE s hK fun vT=>zo .eql .int vU vT fun vS=>zT vS (zQ 1 p .jm hK nL fun vR hW nW=>zQ 1 v .zh hW nW fun vN hX nX=>zQ 1 u (.bool false) hX nX fun v38 hY nY=>yZ id K0 .ret false .e hY nY) (zE y hK fun v41=>zH 2 vE hK fun v42=>zH 2 vE hK fun v43=>C.fn 123 (.of 123) [v42] hK nL fun v44 hZ nZ=>(zH 2 vE hZ fun v59=>zN v59 v43 ((zE y hZ fun v58=>zN v58 v41 (xI .str v41 v44 v43 hZ nZ fun v47 h48 n49=>zH 2 vE h48 fun v50=>yY 2 1 [.zh,(.bool false)] [(0,2,v50)] h48 n49 fun v51 h52 n53=>xK C 2 32 zB v51 h52 n53 fun v54 h55 n56=>zo .add .int zS (I 1) fun v57=>R (F98.fr f g q s p v u w y A a v54 v4 vE e i l o z B D v57 v1 v24 vS) h55 n56)))))))))))))))))))))) (K (F98.fr f g q s p v u w y A a zB zC zD e i l o z B D zS v1 zW zX) h nx))=.ok True) :
  IR.run F98.b13 C N ((((rO id K0).blk 1 E1).blk 2 E2).blk 3 E3) K (F98.fr f g q s p v u w y A a b d c e i l o z B D F E G H) h nx=.ok True:=by
 rw [F98.b13,F98.zr3,F98.b14];refine yF (fun m tm h nx=>∃ zB zC zD zS zU zW zX,tm=(F98.fr f g q s p v u w y A a zB zC zD e i l o z B D zS zU zW zX)/\Inv m zB zS h nx) ?_ hm ⟨_,_,_,_,_,_,_,rfl,hi⟩;rintro m tm h nx R ⟨zB,zC,zD,zS,zU,zW,zX,rfl,hi⟩ hR;refine Eq.trans ?_ (step m zB zC zD zS zU zW zX h nx R hi fun m' wB wC wD wL wM wN wO h' nx' hlt hi'=>hR m' _ h' nx' hlt ⟨_,_,_,_,_,_,_,rfl,hi'⟩)
 kernel_rfl
theorem F92.tab:T.get none (.of 92) tbl=some F92:=by kernel_rfl
theorem F92.go:zV tbl N C (.of 92) [a0,a1] h nx K0 =
 cu a0 h nx fun v1 h2 n3=>yI [.jm] h2 n3 fun v4 h5 n6=>yI [.zh] h5 n6 fun v7 h8 n9=>yI [(I 0)] h8 n9 fun vH hC nC=>zE v1 hC fun vB=>sLen vB fun vC=>zo .eql .int vC (I 0) fun vD=>zE v1 hC fun vE=>sLen vE fun vF=>zo .gtr .int vF (I 1536) fun vG=>C.fn 95 (.of 95) [a1] hC nC fun vJ hF nF=>(zo .gtr .int vF (I 1536) fun v76=>zN v76 vG ((sLen vE fun v75=>zN v75 vF ((zE v1 hF fun v74=>zN v74 vE ((zo .eql .int vC (I 0) fun v73=>zN v73 vD ((sLen vB fun v72=>zN v72 vC ((zE v1 hF fun v71=>zN v71 vB (C.fn 96 (.of 96) [vD,(I 12)] hF nF fun vV hG nG=>(zo .gtr .int vF (I 1536) fun v70=>zN v70 vG ((sLen vE fun v69=>zN v69 vF ((zE v1 hG fun v68=>zN v68 vE (C.fn 96 (.of 96) [vG,(I 5)] hG nG fun vW hI nJ=>yY 1 3 [(I 0)] [(0,1,vJ),(1,1,vV),(2,1,vW)] hI nJ fun vZ hJ nK=>C.fn 94 (.of 94) [vZ] hJ nK fun vS h32 n33=>zo .neq .int vS (I 0) fun vO=>zT vO (zQ 1 v4 .jm h32 n33 fun vN hX nX=>zQ 1 v7 .zh hX nX fun v38 hY nY=>zQ 1 vH vS hY nY fun v41 h42 n43=>zE v4 h42 fun v44=>zE v7 h42 fun v45=>zE vH h42 fun v46=>K0 (.tup [v44,v45,v46]) h42 n43) (zE v1 h32 fun v47=>C.fn 97 (.of 97) [v47,a1] h32 n33 fun v48 h49 n50=>zo .neq .int v48 (I 0) fun v51=>zT v51 (zQ 1 v4 .jm h49 n50 fun v52 h53 n54=>zQ 1 v7 .zh h53 n54 fun v55 h56 n57=>zQ 1 vH v48 h56 n57 fun v58 h59 n60=>zE v4 h59 fun v61=>zE v7 h59 fun v62=>zE vH h59 fun v63=>K0 (.tup [v61,v62,v63]) h59 n60) (zE v1 h49 fun v64=>C.fn 90 (.of 90) [v64] h49 n50 fun v65 h66 n67=>IR.run (.rf (.t (.of 15)) [(.of 16),(.of 17)] F92.b5 F92.b6) C N ((fnO F92.res K0).blk 0 (IR.run F92.b8 C N (fnO F92.res K0) (wu F92.res K0))) (IR.run F92.b8 C N (fnO F92.res K0) (wu F92.res K0)) (F92.fr a0 a1 v1 v4 v7 vH vS v48 .undef .undef .undef .undef .undef vO v51 v65 .undef .undef .undef .undef) h66 n67)))))))))))))))))))):=by
 rw [zI F92.tab];kernel_rfl
theorem F92.k8:IR.run F92.b8 C N (fnO F92.res K0) K (F92.fr f g q s p v u w y A a b d c e i l o z B) h nx =
 zE q h fun v1=>zE q h fun v2=>sLen v2 fun v3=>C.fn 98 (.of 98) [v1,g,v3] h nx fun v4 h5 n6=>bf 0 v4 fun v7=>bf 1 v4 fun v8=>bf 2 v4 fun v9=>sQ v9 fun vH=>sG vH false (fun k=>k v7) fun vI=>sG vH false (fun k=>zif vI h5 k) fun vA=>sG vH false (fun k=>zE q h5 k) fun vB=>sG vH false (fun k=>sLen vB k) fun vC=>sG vH false (fun k=>zo .neq .int vA vC k) fun vD=>jR vH (.bool true) vD fun vE=>zT vE (zQ 1 s .jm h5 n6 fun vF h18 n19=>zQ 1 p .zh h18 n19 fun vK hM nN=>zQ 1 v (I 28) hM nN fun v23 hL nM=>zE s hL fun vX=>zE p hL fun vY=>zE v hL fun vZ=>K0 (.tup [vX,vY,vZ]) hL nM) ((IR.run F92.b9 C N (fnO F92.res K0) K) (F92.fr f g q s p v u w y A v7 v8 v9 c e i l o z vE) h5 n6):=by kernel_rfl
theorem F92.p6 {N:Nat} {C:Calls Prop} {K0:Kw Prop} {id nx:Pa} {j:Jump} {h:T Blk} {f g q s p v u w y A a b d c e i l o z B z0 z1:AV} (hl:T.get .no id h=.loop .ready j (F92.fr f g q s p v u w y A a b d c e i l o z B) [.of 16,.of 17] F92.b5 F92.b6) :
 q9 N C id [z0,z1] h nx K0 =
 yI [.zh,(.bool false)] h nx fun v1 h2 n3=>zQ 2 v1 z1 h2 n3 fun v4 h5 n6=>rMid N C id K0 F92.b6 (F92.fr f g q s p v u w z0 v1 a b d c e i z0 z1 z B) h5 n6:=by
 rw [zdj hl (tm1:=(F92.fr f g q s p v u w y A a b d c e i z0 z1 z B)) (by intro k;kernel_rfl)];kernel_rfl
theorem F92.y6 {N:Nat} {C:Calls Prop} {K0:Kw Prop} {id nx:Pa} {h:T Blk} {f g q s p v u w y A a b d c e i l o z B:AV} :
 IR.run F92.b6 C N (rO id K0) (yZ id K0 .none true) (F92.fr f g q s p v u w y A a b d c e i l o z B) h nx =
 zo .gtr .int y (I 0) fun v1=>sG v1 true (fun k=>zE q h k) fun v2=>sG v1 true (fun k=>k y) fun v3=>sG v1 true (fun k=>zo .sub .int v3 (I 1) k) fun v4=>sG v1 true (fun k=>zO 2 v2 v4 k) fun v5=>sG v1 true (fun k=>zH 2 v5 h k) fun v6=>sG v1 true (fun k=>zH 2 A h k) fun v7=>sGW v1 true (fun k=>C.fn 162 (.of 162) [v6,v7] h nx k) h nx fun v8 h9 nH=>sG v1 true (fun k=>zo .geq .int v8 (I 0) k) fun vI=>jR v1 vI (.bool false) fun vA=>zT vA (zQ 1 s .jm h9 nH fun vB hD nD=>zQ 1 p .zh hD nD fun vE hE nE=>zQ 1 v (I 11) hE nE fun vJ hF nF=>yZ id K0 .ret false .e hF nF) (yZ id K0 .none true .e h9 nH):=by kernel_rfl
theorem F92.k9:IR.run F92.b9 C N (fnO F92.res K0) K (F92.fr f g q s p v u w y A a b d c e i l o z B) h nx =
 zQ 1 s a h nx fun v1 h2 n3=>zQ 1 p b h2 n3 fun v4 h5 n6=>zQ 1 v (I 0) h5 n6 fun v7 h8 n9=>zE s h8 fun vH=>zE p h8 fun vI=>zE v h8 fun vA=>K0 (.tup [vH,vI,vA]) h8 n9:=by kernel_rfl
theorem F22.tab:T.get none (.of 22) tbl=some F22:=by kernel_rfl
theorem F22.go:zV tbl N C (.of 22) [a0,a1] h nx K0 =
 C.fn 92 (.of 92) [a0,a1] h nx fun v1 h2 n3=>bf 0 v1 fun v4=>bf 1 v1 fun v5=>bf 2 v1 fun v6=>K0 v6 h2 n3:=by
 rw [zI F22.tab];kernel_rfl
end Go.Ev
namespace Go.Ev
open Go Go.Proofs
set_option maxRecDepth 100000
section
variable {N:Nat} {C:Calls Prop} {K0:Kw Prop} {K:Ks Prop} {h:T Blk} {nx:Pa} {f g q s p v u w y A a b a0 a1:AV} {O:jl Prop} {tm:T AV} {Kt:KTm} {r:List RO} {s0 s1 s2 s3 s4 s5 s6 s7 s8 s9 s10 s11 s12 s13 s14 s15 s16 s17 s18 s19 s20 s21 s22 s23 s24 s25 s26 s27 s28 s29 s30 s31 s32 s33 s34 s35 s36 s37 s38 s39 s40 s41 s42 s43 s44 s45 s46 s47 s48 s49 s50 s51 s52 s53 s54 s55 s56 s57 s58 s59:AV}
end
end Go.Ev
namespace Go.Ev
open Go Go.Proofs
set_option maxRecDepth 100000
section
variable {N:Nat} {C:Calls Prop} {K0:Kw Prop} {K:Ks Prop} {h:T Blk} {nx:Pa} {f g q s p v u a0 a1 a2 a3:AV} {O:jl Prop} {tm:T AV} {Kt:KTm} {r:List RO} {s0 s1 s2 s3 s4 s5 s6 s7 s8 s9 s10 s11 s12 s13 s14 s15 s16 s17 s18 s19 s20 s21 s22 s23 s24 s25 s26 s27 s28 s29 s30 s31 s32 s33 s34 s35 s36 s37 s38 s39 s40 s41 s42 s43 s44 s45 s46 s47 s48 s49 s50 s51 s52 s53 s54 s55 s56 s57 s58 s59:AV}
end
end Go.Ev
namespace Go.Ev
open Go Go.Proofs
set_option maxRecDepth 100000
section
variable {N:Nat} {C:Calls Prop} {K0:Kw Prop} {K:Ks Prop} {h:T Blk} {nx:Pa} {f g q s p v u w y A a b d c e i a0 a1 a2 a3:AV} {O:jl Prop} {tm:T AV} {Kt:KTm} {r:List RO} {s0 s1 s2 s3 s4 s5 s6 s7 s8 s9 s10 s11 s12 s13 s14 s15 s16 s17 s18 s19 s20 s21 s22 s23 s24 s25 s26 s27 s28 s29 s30 s31 s32 s33 s34 s35 s36 s37 s38 s39 s40 s41 s42 s43 s44 s45 s46 s47 s48 s49 s50 s51 s52 s53 s54 s55 s56 s57 s58 s59:AV}
end
end Go.Ev
namespace Go.Ev
open Go Go.Proofs
set_option maxRecDepth 100000
section
variable {N:Nat} {C:Calls Prop} {K0:Kw Prop} {K:Ks Prop} {h:T Blk} {nx:Pa} {f g q s p v u w y A a b d c e i l o a0 a1 a2:AV} {O:jl Prop} {tm:T AV} {Kt:KTm} {r:List RO} {s0 s1 s2 s3 s4 s5 s6 s7 s8 s9 s10 s11 s12 s13 s14 s15 s16 s17 s18 s19 s20 s21 s22 s23 s24 s25 s26 s27 s28 s29 s30 s31 s32 s33 s34 s35 s36 s37 s38 s39 s40 s41 s42 s43 s44 s45 s46 s47 s48 s49 s50 s51 s52 s53 s54 s55 s56 s57 s58 s59:AV}
def zk.t0:IR:=.reg [.q (.of 3) (.mv (.c .jm)),.w (.loc (.of 4)) none (.alloc [.zh,.zh]),.q (.of 5) (.mv (.c (I 0)))]
def zk.t1:IR:=.reg [.w (.loc (.of 6)) none (.alloc [.zh,.zh])]
def zk.t2:IR:=.reg [.s (.mv (.t (.of 0))),.s (.mv (.t (.of 2))),.w .push none (.call (.c (.fn 92 (.of 92) [])) [(.s 1),(.s 0)]),.s (.mv (.s 0)),.s (.ext 0 (.s 0)),.s (.ext 1 (.s 1)),.s (.ext 2 (.s 2)),.q (.of 7) (.mv (.s 2)),.q (.of 8) (.mv (.s 1)),.q (.of 9) (.mv (.s 0))]
def zk.t3:IR:=.reg [.s (.mv (.t (.of 9))),.q (.of 13) (.bin .neq .int (.s 0) (.c (I 0)))]
def zk.t4:IR:=.yt [] [(.s (.zi 2 (.t (.of 6))),0,[]),(.s (.mv (.t (.of 9))),1,[]),(.q (.of 3) (.mv (.c .jm)),0,[]),(.w .none none (.store 2 (.t (.of 4)) (.s 1)),0,[]),(.q (.of 5) (.mv (.s 0)),0,[])]
def zk.t5:IR:=.seq zk.t4 .ret
def zk.t6:IR:=.cond (.t (.of 13)) zk.t5 .skip
def zk.t7:IR:=.seq zk.t3 zk.t6
def zk.t8:IR:=.reg [.s (.mv (.t (.of 1))),.s (.mv (.t (.of 2))),.w .push none (.call (.c (.fn 92 (.of 92) [])) [(.s 1),(.s 0)]),.s (.mv (.s 0)),.s (.ext 0 (.s 0)),.s (.ext 1 (.s 1)),.s (.ext 2 (.s 2)),.q (.of 10) (.mv (.s 2)),.q (.of 11) (.mv (.s 1)),.q (.of 9) (.mv (.s 0))]
def zk.t9:IR:=.reg [.s (.mv (.t (.of 9))),.q (.of 14) (.bin .neq .int (.s 0) (.c (I 0)))]
def zk.t10:IR:=.yt [] [(.s (.zi 2 (.t (.of 6))),0,[]),(.s (.mv (.t (.of 9))),1,[]),(.q (.of 3) (.mv (.c .jm)),0,[]),(.w .none none (.store 2 (.t (.of 4)) (.s 1)),0,[]),(.q (.of 5) (.mv (.s 0)),0,[])]
def zk.t11:IR:=.seq zk.t10 .ret
def zk.t12:IR:=.cond (.t (.of 14)) zk.t11 .skip
def zk.t13:IR:=.seq zk.t9 zk.t12
def zk.t14:IR:=.reg [.s (.mv (.t (.of 10))),.w (.loc (.of 15)) none (.range (.s 0))]
def zk.t15:IR:=.reg [.w .push none (.next (.t (.of 15))),.q (.of 16) (.ext 0 (.s 0))]
def zk.t16:IR:=.cond (.t (.of 16)) .skip (.exit 0)
def zk.t17:IR:=.reg [.s (.entry (.t (.of 15))),.s (.ext 1 (.s 0)),.w (.loc (.of 12)) none (.alloc [.zh,(.bool false)]),.w .none none (.store 2 (.t (.of 12)) (.s 0))]
def zk.t18:IR:=.reg [.s (.mv (.t (.of 7))),.s (.zi 2 (.t (.of 12))),.w .push none (.call (.c (.fn 121 (.of 121) [])) [(.s 1),(.s 0)]),.q (.of 17) (.not (.s 0))]
def zk.t19:IR:=.yt [] [(.s (.zi 2 (.t (.of 6))),0,[]),(.q (.of 3) (.mv (.c .jm)),0,[]),(.w .none none (.store 2 (.t (.of 4)) (.s 0)),0,[]),(.q (.of 5) (.mv (.c (I 28))),0,[])]
def zk.t20:IR:=.seq zk.t19 .ret
def zk.t21:IR:=.cond (.t (.of 17)) zk.t20 .skip
def zk.t22:IR:=.seq zk.t18 zk.t21
def zk.t23:IR:=.seq zk.t17 zk.t22
def zk.t24:IR:=.block 1 zk.t23
def zk.t25:IR:=.seq zk.t16 zk.t24
def zk.t26:IR:=.seq zk.t15 zk.t25
def zk.t27:IR:=.loop zk.t26
def zk.t28:IR:=.block 0 zk.t27
def zk.t29:IR:=.seq zk.t14 zk.t28
def zk.t30:IR:=.reg [.s (.mv (.t (.of 8))),.s (.mv (.t (.of 11))),.s (.tV 1 2 (.t (.of 6)) (.c (I 0))),.w .none none (.store 1 (.s 0) (.s 2)),.s (.tV 1 2 (.t (.of 6)) (.c (I 1))),.w .none none (.store 1 (.s 0) (.s 2))]
def zk.t31:IR:=.yt [] [(.s (.mv (.t (.of 10))),0,[]),(.s (.zi 2 (.t (.of 6))),0,[]),(.q (.of 3) (.mv (.s 1)),0,[]),(.w .none none (.store 2 (.t (.of 4)) (.s 0)),0,[]),(.q (.of 5) (.mv (.c (I 0))),0,[])]
def zk.t32:IR:=.seq zk.t31 .ret
def zk.t33:IR:=.seq zk.t30 zk.t32
def zk.t34:IR:=.seq zk.t29 zk.t33
def zk.t35:IR:=.seq zk.t13 zk.t34
def zk.t36:IR:=.seq zk.t8 zk.t35
def zk.t37:IR:=.seq zk.t7 zk.t36
def zk.t38:IR:=.seq zk.t2 zk.t37
def zk.t39:IR:=.seq zk.t1 zk.t38
def zk.t40:IR:=.seq zk.t0 zk.t39
theorem zk.rV:IR.run zk.t0 C N O K (zk.fr f g q s p v u w y A a b d c e i l o) h nx =
 yI [.zh,.zh] h nx fun v1 h2 n3=>K (zk.fr f g q .jm v1 (I 0) u w y A a b d c e i l o) h2 n3:=by kernel_rfl
theorem zk.rW:IR.run zk.t1 C N O K (zk.fr f g q s p v u w y A a b d c e i l o) h nx =
 yI [.zh,.zh] h nx fun v1 h2 n3=>K (zk.fr f g q s p v v1 w y A a b d c e i l o) h2 n3:=by kernel_rfl
theorem zk.rX:IR.run zk.t2 C N O K (zk.fr f g q s p v u w y A a b d c e i l o) h nx =
 C.fn 92 (.of 92) [f,q] h nx fun v1 h2 n3=>bf 0 v1 fun v4=>bf 1 v1 fun v5=>bf 2 v1 fun v6=>K (zk.fr f g q s p v u v4 v5 v6 a b d c e i l o) h2 n3:=by kernel_rfl
theorem zk.ay:IR.run zk.t3 C N O K (zk.fr f g q s p v u w y A a b d c e i l o) h nx =
 zo .neq .int A (I 0) fun v1=>K (zk.fr f g q s p v u w y A a b d v1 e i l o) h nx:=by kernel_rfl
theorem zk.t4_s:IR.run zk.t4 C N O K (zk.fr f g q s p v u w y A a b d c e i l o) h nx =
 zH 2 u h fun v1=>zQ 2 p v1 h nx fun v2 h3 n4=>zN A A (K (zk.fr f g q .jm p A u w y A a b d c e i l o) h3 n4):=by kernel_rfl
theorem zk.v13:Arg.ev (.t (.of 13)) ⟨(zk.fr f g q s p v u w y A a b d c e i l o),[]⟩=c:=by kernel_rfl
theorem zk.eH:IR.run zk.t8 C N O K (zk.fr f g q s p v u w y A a b d c e i l o) h nx =
 C.fn 92 (.of 92) [g,q] h nx fun v1 h2 n3=>bf 0 v1 fun v4=>bf 1 v1 fun v5=>bf 2 v1 fun v6=>K (zk.fr f g q s p v u w y v6 v4 v5 d c e i l o) h2 n3:=by kernel_rfl
theorem zk.sF:IR.run zk.t9 C N O K (zk.fr f g q s p v u w y A a b d c e i l o) h nx =
 zo .neq .int A (I 0) fun v1=>K (zk.fr f g q s p v u w y A a b d c v1 i l o) h nx:=by kernel_rfl
theorem zk.aA:IR.run zk.t10 C N O K (zk.fr f g q s p v u w y A a b d c e i l o) h nx =
 zH 2 u h fun v1=>zQ 2 p v1 h nx fun v2 h3 n4=>zN A A (K (zk.fr f g q .jm p A u w y A a b d c e i l o) h3 n4):=by kernel_rfl
theorem zk.v14:Arg.ev (.t (.of 14)) ⟨(zk.fr f g q s p v u w y A a b d c e i l o),[]⟩=e:=by kernel_rfl
theorem zk.oC:IR.run zk.t14 C N O K (zk.fr f g q s p v u w y A a b d c e i l o) h nx =
 zdk a h nx fun v1 h2 n3=>K (zk.fr f g q s p v u w y A a b d c e v1 l o) h2 n3:=by kernel_rfl
theorem zk.aB:IR.run zk.t15 C N O K (zk.fr f g q s p v u w y A a b d c e i l o) h nx =
 zih C i h nx fun v1 h2 n3=>bf 0 v1 fun v4=>K (zk.fr f g q s p v u w y A a b d c e i v4 o) h2 n3:=by kernel_rfl
theorem zk.v16:Arg.ev (.t (.of 16)) ⟨(zk.fr f g q s p v u w y A a b d c e i l o),[]⟩=l:=by kernel_rfl
theorem zk.aS:IR.run zk.t17 C N O K (zk.fr f g q s p v u w y A a b d c e i l o) h nx =
 zdl i h fun v1=>bf 1 v1 fun v2=>yI [.zh,(.bool false)] h nx fun v3 h4 n5=>zQ 2 v3 v2 h4 n5 fun v6 h7 n8=>K (zk.fr f g q s p v u w y A a b v3 c e i l o) h7 n8:=by kernel_rfl
theorem zk.zln:IR.run zk.t18 C N O K (zk.fr f g q s p v u w y A a b d c e i l o) h nx =
 zH 2 d h fun v1=>C.fn 121 (.of 121) [w,v1] h nx fun v2 h3 n4=>sQ v2 fun v5=>K (zk.fr f g q s p v u w y A a b d c e i l v5) h3 n4:=by kernel_rfl
theorem zk.zac:IR.run zk.t19 C N O K (zk.fr f g q s p v u w y A a b d c e i l o) h nx =
 zH 2 u h fun v1=>zQ 2 p v1 h nx fun v2 h3 n4=>K (zk.fr f g q .jm p (I 28) u w y A a b d c e i l o) h3 n4:=by kernel_rfl
theorem zk.v17:Arg.ev (.t (.of 17)) ⟨(zk.fr f g q s p v u w y A a b d c e i l o),[]⟩=o:=by kernel_rfl
theorem zk.ztx (Inv:Nat->T Blk->Pa->Prop) {m:Nat} (hm:m<N) (hi:Inv m h nx)
  (step:∀ (m:Nat) (z3 z5 zC zJ zK:AV) (h:T Blk) (nx:Pa) (R:Ks Prop),Inv m h nx->(∀ (m':Nat) (w3 w5 wC wG wH:AV) (h':T Blk) (nx':Pa),m'<m->Inv m' h' nx'->R (zk.fr f g q w3 p w5 u w y A a b wC c e i wG wH) h' nx'=.ok True)->IR.run zk.t26 C N O R (zk.fr f g q z3 p z5 u w y A a b zC c e i zJ zK) h nx=.ok True) :
  IR.run zk.t27 C N O K (zk.fr f g q s p v u w y A a b d c e i l o) h nx=.ok True:=by
 rw [zk.t27];refine yF (fun m tm h nx=>∃ z3 z5 zC zJ zK,tm=(zk.fr f g q z3 p z5 u w y A a b zC c e i zJ zK)/\Inv m h nx) ?_ hm ⟨_,_,_,_,_,rfl,hi⟩;rintro m tm h nx R ⟨z3,z5,zC,zJ,zK,rfl,hi⟩ hR;exact step m z3 z5 zC zJ zK h nx R hi fun m' w3 w5 wC wG wH h' nx' hlt hi'=>hR m' _ h' nx' hlt ⟨_,_,_,_,_,rfl,hi'⟩
theorem zk.zlo:IR.run zk.t30 C N O K (zk.fr f g q s p v u w y A a b d c e i l o) h nx =
 dF 1 2 u (I 0) fun v1=>zQ 1 v1 y h nx fun v2 h3 n4=>dF 1 2 u (I 1) fun v5=>zQ 1 v5 b h3 n4 fun v6 h7 n8=>K (zk.fr f g q s p v u w y A a b d c e i l o) h7 n8:=by kernel_rfl
theorem zk.zad:IR.run zk.t31 C N O K (zk.fr f g q s p v u w y A a b d c e i l o) h nx =
 zH 2 u h fun v1=>zQ 2 p v1 h nx fun v2 h3 n4=>K (zk.fr f g q a p (I 0) u w y A a b d c e i l o) h3 n4:=by kernel_rfl
theorem zk.tab:T.get none (.of 120) tbl=some zk:=by kernel_rfl
theorem zk.bind (k:T AV->OP):jA zk.params [a0,a1,a2] zk.init k=k (zk.fr a0 a1 a2 .undef .undef .undef .undef .undef .undef .undef .undef .undef .undef .undef .undef .undef .undef .undef):=by kernel_rfl
theorem zk.xq:zk.body=zk.t40:=by kernel_rfl
theorem zk.go:zV tbl N C (.of 120) [a0,a1,a2] h nx K0=IR.run zk.t40 C N (fnO zk.res K0) (wu zk.res K0) (zk.fr a0 a1 a2 .undef .undef .undef .undef .undef .undef .undef .undef .undef .undef .undef .undef .undef .undef .undef) h nx:=by
 rw [zI zk.tab,zk.bind,zk.xq];kernel_rfl
theorem zk.ret:wu zk.res K0 (zk.fr f g q s p v u w y A a b d c e i l o) h nx=zH 2 p h fun v1=>K0 (.tup [s,v1,v]) h nx:=by kernel_rfl
def F27.t0:IR:=.reg [.q (.of 2) (.mv (.c .zh)),.q (.of 3) (.mv (.c (I 0)))]
def F27.t1:IR:=.reg [.s (.mv (.t (.of 1))),.w .push none (.call (.c (.fn 95 (.of 95) [])) [(.s 0)]),.s (.mv (.t (.of 0))),.s (.len (.s 0)),.s (.bin .gtr .int (.s 0) (.c (I 256))),.w .push none (.call (.c (.fn 96 (.of 96) [])) [(.s 0),(.c (I 5))]),.w .push none (.yc 1 2 [(I 0)] [(0,1,(.s 4)),(1,1,(.s 0))]),.w .push none (.call (.c (.fn 94 (.of 94) [])) [(.s 0)]),.q (.of 4) (.mv (.s 0))]
def F27.t2:IR:=.reg [.s (.mv (.t (.of 4))),.q (.of 8) (.bin .neq .int (.s 0) (.c (I 0)))]
def F27.t3:IR:=.reg [.s (.mv (.t (.of 4))),.q (.of 2) (.mv (.c .zh)),.q (.of 3) (.mv (.s 0))]
def F27.t4:IR:=.seq F27.t3 .ret
def F27.t5:IR:=.cond (.t (.of 8)) F27.t4 .skip
def F27.t6:IR:=.seq F27.t2 F27.t5
def F27.t7:IR:=.seq F27.t1 F27.t6
def F27.t8:IR:=.reg [.s (.mv (.t (.of 0))),.s (.mv (.t (.of 1))),.w .push none (.call (.c (.fn 97 (.of 97) [])) [(.s 1),(.s 0)]),.q (.of 5) (.mv (.s 0))]
def F27.t9:IR:=.reg [.s (.mv (.t (.of 5))),.q (.of 9) (.bin .neq .int (.s 0) (.c (I 0)))]
def F27.t10:IR:=.reg [.s (.mv (.t (.of 5))),.q (.of 2) (.mv (.c .zh)),.q (.of 3) (.mv (.s 0))]
def F27.t11:IR:=.seq F27.t10 .ret
def F27.t12:IR:=.cond (.t (.of 9)) F27.t11 .skip
def F27.t13:IR:=.seq F27.t9 F27.t12
def F27.t14:IR:=.seq F27.t8 F27.t13
def F27.t15:IR:=.reg [.s (.mv (.t (.of 0))),.s (.mv (.t (.of 1))),.w .push none (.call (.c (.fn 98 (.of 98) [])) [(.s 1),(.s 0),(.c (I 1536))]),.s (.mv (.s 0)),.s (.ext 0 (.s 0)),.s (.ext 1 (.s 1)),.s (.ext 2 (.s 2)),.q (.of 6) (.mv (.s 2)),.s (.mv (.s 1)),.q (.of 7) (.mv (.s 1))]
def F27.t16:IR:=.reg [.s (.mv (.t (.of 7))),.q (.of 10) (.not (.s 0))]
def F27.t17:IR:=.reg [.q (.of 2) (.mv (.c .zh)),.q (.of 3) (.mv (.c (I 20)))]
def F27.t18:IR:=.seq F27.t17 .ret
def F27.t19:IR:=.cond (.t (.of 10)) F27.t18 .skip
def F27.t20:IR:=.seq F27.t16 F27.t19
def F27.t21:IR:=.reg [.s (.mv (.t (.of 6))),.w .push none (.call (.c (.fn 99 (.of 99) [])) [(.s 0)]),.q (.of 2) (.mv (.s 0)),.q (.of 3) (.mv (.c (I 0)))]
def F27.t22:IR:=.seq F27.t21 .ret
def F27.t23:IR:=.seq F27.t20 F27.t22
def F27.t24:IR:=.seq F27.t15 F27.t23
def F27.t25:IR:=.seq F27.t14 F27.t24
def F27.t26:IR:=.seq F27.t7 F27.t25
def F27.t27:IR:=.seq F27.t0 F27.t26
theorem F27.rV:IR.run F27.t0 C N O K (F27.fr f g q s p v u w y A a) h nx =
 K (F27.fr f g .zh (I 0) p v u w y A a) h nx:=by kernel_rfl
theorem F27.rW:IR.run F27.t1 C N O K (F27.fr f g q s p v u w y A a) h nx =
 C.fn 95 (.of 95) [g] h nx fun v1 h2 n3=>sLen f fun v4=>zo .gtr .int v4 (I 256) fun v5=>C.fn 96 (.of 96) [v5,(I 5)] h2 n3 fun v6 h7 n8=>yY 1 2 [(I 0)] [(0,1,v1),(1,1,v6)] h7 n8 fun v9 hA nA=>C.fn 94 (.of 94) [v9] hA nA fun vA h13 n14=>K (F27.fr f g q s vA v u w y A a) h13 n14:=by kernel_rfl
theorem F27.rX:IR.run F27.t2 C N O K (F27.fr f g q s p v u w y A a) h nx =
 zo .neq .int p (I 0) fun v1=>K (F27.fr f g q s p v u w v1 A a) h nx:=by kernel_rfl
theorem F27.ay:IR.run F27.t3 C N O K (F27.fr f g q s p v u w y A a) h nx =
 K (F27.fr f g .zh p p v u w y A a) h nx:=by kernel_rfl
theorem F27.v8:Arg.ev (.t (.of 8)) ⟨(F27.fr f g q s p v u w y A a),[]⟩=y:=by kernel_rfl
theorem F27.eH:IR.run F27.t8 C N O K (F27.fr f g q s p v u w y A a) h nx =
 C.fn 97 (.of 97) [f,g] h nx fun v1 h2 n3=>K (F27.fr f g q s p v1 u w y A a) h2 n3:=by kernel_rfl
theorem F27.sF:IR.run F27.t9 C N O K (F27.fr f g q s p v u w y A a) h nx =
 zo .neq .int v (I 0) fun v1=>K (F27.fr f g q s p v u w y v1 a) h nx:=by kernel_rfl
theorem F27.aA:IR.run F27.t10 C N O K (F27.fr f g q s p v u w y A a) h nx =
 K (F27.fr f g .zh v p v u w y A a) h nx:=by kernel_rfl
theorem F27.v9:Arg.ev (.t (.of 9)) ⟨(F27.fr f g q s p v u w y A a),[]⟩=A:=by kernel_rfl
theorem F27.aB:IR.run F27.t15 C N O K (F27.fr f g q s p v u w y A a) h nx =
 C.fn 98 (.of 98) [f,g,(I 1536)] h nx fun v1 h2 n3=>bf 0 v1 fun v4=>bf 1 v1 fun v5=>bf 2 v1 fun v6=>K (F27.fr f g q s p v v4 v6 y A a) h2 n3:=by kernel_rfl
theorem F27.rY:IR.run F27.t16 C N O K (F27.fr f g q s p v u w y A a) h nx =
 sQ w fun v1=>K (F27.fr f g q s p v u w y A v1) h nx:=by kernel_rfl
theorem F27.aS:IR.run F27.t17 C N O K (F27.fr f g q s p v u w y A a) h nx =
 K (F27.fr f g .zh (I 20) p v u w y A a) h nx:=by kernel_rfl
theorem F27.v10:Arg.ev (.t (.of 10)) ⟨(F27.fr f g q s p v u w y A a),[]⟩=a:=by kernel_rfl
theorem F27.zty:IR.run F27.t21 C N O K (F27.fr f g q s p v u w y A a) h nx =
 C.fn 99 (.of 99) [u] h nx fun v1 h2 n3=>K (F27.fr f g v1 (I 0) p v u w y A a) h2 n3:=by kernel_rfl
theorem F27.tab:T.get none (.of 27) tbl=some F27:=by kernel_rfl
theorem F27.bind (k:T AV->OP):jA F27.params [a0,a1] F27.init k=k (F27.fr a0 a1 .undef .undef .undef .undef .undef .undef .undef .undef .undef):=by kernel_rfl
theorem F27.xq:F27.body=F27.t27:=by kernel_rfl
theorem F27.go:zV tbl N C (.of 27) [a0,a1] h nx K0=IR.run F27.t27 C N (fnO F27.res K0) (wu F27.res K0) (F27.fr a0 a1 .undef .undef .undef .undef .undef .undef .undef .undef .undef) h nx:=by
 rw [zI F27.tab,F27.bind,F27.xq];kernel_rfl
theorem F27.ret:wu F27.res K0 (F27.fr f g q s p v u w y A a) h nx=K0 (.tup [q,s]) h nx:=by kernel_rfl
end
end Go.Ev
namespace Go.Ev
open Go Go.Proofs
set_option maxRecDepth 100000
variable {N:Nat} {C:Calls Prop} {K0:Kw Prop} {K R:Ks Prop} {h:T Blk} {nx:Pa} {f g q s p v u a0 a1 a2 w y A a b d c e i l o z B D F E G H:AV}
theorem F99.pz (X2:IR) (O:jl Prop) (t:T AV):IR.run (F99.g1 X2) C N O K t h nx=IR.run X2 C N (O.blk 0 K) K t h nx:=by kernel_rfl
theorem F99.zlm (X8:IR) (O:jl Prop) (t:T AV):IR.run (F99.g7 X8) C N O K t h nx=IR.run X8 C N (O.blk 2 K) K t h nx:=by kernel_rfl
theorem F99.tab:T.get none (.of 99) tbl=some F99:=by kernel_rfl
theorem F99.go:zV tbl N C (.of 99) [a0] h nx K0 =
 zdk a0 h nx fun v1 h2 n3=>IR.run F99.b1 C N (fnO F99.res K0) (IR.run F99.b6 C N (fnO F99.res K0) (wu F99.res K0)) (F99.fr a0 .zh .zh .undef .undef .undef v1 .undef .undef .undef .undef .undef) h2 n3:=by
 rw [zI F99.tab];kernel_rfl
theorem F99.L1 (Inv:Nat->AV->T Blk->Pa->Prop) {m:Nat} (hm:m<N) (hi:Inv m q h nx)
  (step:∀ (m:Nat) (z2 z3 z7:AV) (h:T Blk) (nx:Pa) (R:Ks Prop),Inv m z2 h nx->(∀ (m':Nat) (w2 w3 w7:AV) (h':T Blk) (nx':Pa),m'<m->Inv m' w2 h' nx'->R (F99.fr f g w2 w3 p v u w7 y A a b) h' nx'=.ok True) ->
   (zih C u h nx fun v1 h2 n3=>bf 0 v1 fun v4=>zT v4 (zdl u h2 fun v5=>bf 1 v5 fun v6=>yI [.zh,(.bool false)] h2 n3 fun v7 h8 n9=>zQ 2 v7 v6 h8 n9 fun vH hC nC=>zH 2 v7 hC fun vB=>yY 2 1 [.zh,(.bool false)] [(0,2,vB)] hC nC fun vC hB nB=>xK C 2 32 z2 vC hB nB fun vF h18 n19=>R (F99.fr f g vF v7 p v u v4 y A a b) h18 n19) (K (F99.fr f g z2 z3 p v u v4 y A a b) h2 n3))=.ok True) :
  IR.run F99.b1 C N (fnO F99.res K0) K (F99.fr f g q s p v u w y A a b) h nx=.ok True:=by
 rw [F99.b1,F99.pz,F99.b2];refine yF (fun m tm h nx=>∃ z2 z3 z7,tm=(F99.fr f g z2 z3 p v u z7 y A a b)/\Inv m z2 h nx) ?_ hm ⟨_,_,_,rfl,hi⟩;rintro m tm h nx R ⟨z2,z3,z7,rfl,hi⟩ hR;refine Eq.trans ?_ (step m z2 z3 z7 h nx R hi fun m' w2 w3 w7 h' nx' hlt hi'=>hR m' _ h' nx' hlt ⟨_,_,_,rfl,hi'⟩)
 kernel_rfl
theorem F99.k6:IR.run F99.b6 C N (fnO F99.res K0) K (F99.fr f g q s p v u w y A a b) h nx =
 C.fn 164 (.of 164) [q,(.fn 162 (.of 162) [])] h nx fun v1 h2 n3=>sLen q fun v4=>IR.run F99.b7 C N (fnO F99.res K0) (IR.run F99.b14 C N (fnO F99.res K0) K) (F99.fr f g q s .zh v u w q v4 (I 0) b) h2 n3:=by kernel_rfl
theorem F99.L7 (Inv:Nat->AV->AV->T Blk->Pa->Prop) {m:Nat} (hm:m<N) (hi:Inv m p a h nx)
  (step:∀ (m:Nat) (z4 z5 zA zB:AV) (h:T Blk) (nx:Pa) (R:Ks Prop),Inv m z4 zA h nx->(∀ (m':Nat) (w4 w5 wA wB:AV) (h':T Blk) (nx':Pa),m'<m->Inv m' w4 wA h' nx'->R (F99.fr f g q s w4 w5 u w y A wA wB) h' nx'=.ok True) ->
   (zo .lss .int zA A fun v1=>zT v1 (zO 2 y zA fun v2=>zH 2 v2 h fun v3=>yI [.zh,(.bool false)] h nx fun v4 h5 n6=>zQ 2 v4 v3 h5 n6 fun v7 h8 n9=>zH 2 v4 h8 fun vH=>yY 2 1 [.zh,(.bool false)] [(0,2,vH)] h8 n9 fun vI hH nI=>xK C 2 32 z4 vI hH nI fun vC hB nB=>zo .add .int zA (I 1) fun vF=>R (F99.fr f g q s vC v4 u w y A vF v1) hB nB) (K (F99.fr f g q s z4 z5 u w y A zA v1) h nx))=.ok True) :
  IR.run F99.b7 C N (fnO F99.res K0) K (F99.fr f g q s p v u w y A a b) h nx=.ok True:=by
 rw [F99.b7,F99.zlm,F99.b8];refine yF (fun m tm h nx=>∃ z4 z5 zA zB,tm=(F99.fr f g q s z4 z5 u w y A zA zB)/\Inv m z4 zA h nx) ?_ hm ⟨_,_,_,_,rfl,hi⟩;rintro m tm h nx R ⟨z4,z5,zA,zB,rfl,hi⟩ hR;refine Eq.trans ?_ (step m z4 z5 zA zB h nx R hi fun m' w4 w5 wA wB h' nx' hlt hi'=>hR m' _ h' nx' hlt ⟨_,_,_,_,rfl,hi'⟩)
 kernel_rfl
theorem F99.k14:IR.run F99.b14 C N (fnO F99.res K0) K (F99.fr f g q s p v u w y A a b) h nx =
 K0 p h nx:=by kernel_rfl
end Go.Ev
namespace Go.Ev
open Go Go.Proofs
set_option maxRecDepth 100000
section
variable {N:Nat} {C:Calls Prop} {K0:Kw Prop} {K:Ks Prop} {h:T Blk} {nx:Pa} {f g q s p v u w y A a b d c e i l o z B a0 a1 a2:AV} {O:jl Prop} {tm:T AV} {Kt:KTm} {r:List RO} {s0 s1 s2 s3 s4 s5 s6 s7 s8 s9 s10 s11 s12 s13 s14 s15 s16 s17 s18 s19 s20 s21 s22 s23 s24 s25 s26 s27 s28 s29 s30 s31 s32 s33 s34 s35 s36 s37 s38 s39 s40 s41 s42 s43 s44 s45 s46 s47 s48 s49 s50 s51 s52 s53 s54 s55 s56 s57 s58 s59:AV}
def F39.t0:IR:=.reg [.w (.loc (.of 3)) none (.box (.t (.of 1))),.q (.of 4) (.mv (.c .zh)),.q (.of 5) (.mv (.c (I 0)))]
def F39.t1:IR:=.reg [.s (.mv (.t (.of 0))),.s (.load (.t (.of 3))),.s (.mv (.t (.of 2))),.w .push none (.call (.c (.fn 120 (.of 120) [])) [(.s 2),(.s 1),(.s 0)]),.s (.mv (.s 0)),.s (.ext 0 (.s 0)),.s (.ext 1 (.s 1)),.s (.ext 2 (.s 2)),.w .push none (.alloc [.zh,.zh]),.s (.mv (.s 3)),.w .none none (.store 2 (.s 1) (.s 3)),.q (.of 6) (.mv (.s 2))]
def F39.t2:IR:=.reg [.s (.mv (.t (.of 6))),.q (.of 12) (.bin .neq .int (.s 0) (.c (I 0)))]
def F39.t3:IR:=.reg [.s (.mv (.t (.of 6))),.q (.of 4) (.mv (.c .zh)),.q (.of 5) (.mv (.s 0))]
def F39.t4:IR:=.seq F39.t3 .ret
def F39.t5:IR:=.cond (.t (.of 12)) F39.t4 .skip
def F39.t6:IR:=.seq F39.t2 F39.t5
def F39.t7:IR:=.seq F39.t1 F39.t6
def F39.t8:IR:=.reg [.w .push none .fP,.w (.loc (.of 7)) none (.alloc [.jm]),.w .none none (.store 1 (.t (.of 7)) (.s 0))]
def F39.t9:IR:=.reg [.w (.loc (.of 8)) none (.alloc [.zh])]
def F39.t10:IR:=.reg [.s (.mv (.t (.of 0))),.w (.loc (.of 13)) none (.call (.c (.fn 90 (.of 90) [])) [(.s 0)])]
def F39.t11:IR:=.reg [.w (.loc (.of 9)) none (.alloc [.zh,(.bool false)]),.w .none none (.store 2 (.t (.of 9)) (.t (.of 15)))]
def F39.t12:IR:=.reg [.s (.load (.t (.of 7))),.s (.zi 2 (.t (.of 9))),.w (.loc (.of 16)) none (.call (.c (.fn 121 (.of 121) [])) [(.s 1),(.s 0)])]
def F39.t13:IR:=.cond (.t (.of 16)) (.exit 1) .skip
def F39.t14:IR:=.seq F39.t12 F39.t13
def F39.t15:IR:=.reg [.s (.load (.t (.of 3))),.w (.loc (.of 17)) none (.call (.c (.fn 90 (.of 90) [])) [(.s 0)])]
def F39.t16:IR:=.reg [.w (.loc (.of 10)) none (.alloc [.zh,(.bool false)]),.w .none none (.store 2 (.t (.of 10)) (.t (.of 19)))]
def F39.t17:IR:=.reg [.s (.zi 2 (.t (.of 9))),.s (.zi 2 (.t (.of 10))),.w .push none (.call (.c (.fn 122 (.of 122) [])) [(.s 1),(.s 0)]),.w (.loc (.of 11)) none (.alloc [.zh,(.bool false)]),.w .none none (.store 2 (.t (.of 11)) (.s 0))]
def F39.t18:IR:=.yt [] [(.s (.load (.t (.of 7))),1,[]),(.s (.zi 2 (.t (.of 11))),0,[]),(.s (.zi 2 (.t (.of 11))),1,[]),(.w .push none (.call (.c (.fn 123 (.of 123) [])) [(.s 1)]),0,[]),(.w .none none (.aT .str (.s 3) (.s 0) (.s 1)),0,[])]
def F39.t19:IR:=.seq F39.t17 F39.t18
def F39.t20:IR:=.block 3 F39.t19
def F39.t21:IR:=.rf (.t (.of 17)) [(.of 18),(.of 19)] F39.t16 F39.t20
def F39.t22:IR:=.block 2 F39.t21
def F39.t23:IR:=.seq F39.t15 F39.t22
def F39.t24:IR:=.yt [] [(.s (.load (.t (.of 8))),2,[]),(.s (.zn 0 (.t (.of 9))),0,[]),(.s (.load (.s 0)),0,[]),(.s (.zn 1 (.t (.of 9))),1,[]),(.s (.load (.s 0)),1,[]),(.w .push none (.call (.c (.fn 106 (.of 106) [])) [(.s 2)]),0,[]),(.s (.build [.zh,(.bool false)] [(0,1,(.s 0)),(1,1,(.s 1))]),0,[]),(.w .push none (.yc 2 1 [.zh,(.bool false)] [(0,2,(.s 0))]),0,[]),(.w .push none (.appq 2 32 (.s 7) (.s 0)),0,[]),(.w .none none (.store 1 (.t (.of 8)) (.s 0)),0,[])]
def F39.t25:IR:=.seq F39.t23 F39.t24
def F39.t26:IR:=.seq F39.t14 F39.t25
def F39.t27:IR:=.block 1 F39.t26
def F39.t28:IR:=.rf (.t (.of 13)) [(.of 14),(.of 15)] F39.t11 F39.t27
def F39.t29:IR:=.block 0 F39.t28
def F39.t30:IR:=.seq F39.t10 F39.t29
def F39.t31:IR:=.reg [.s (.load (.t (.of 8))),.q (.of 4) (.mv (.s 0)),.q (.of 5) (.mv (.c (I 0)))]
def F39.t32:IR:=.seq F39.t31 .ret
def F39.t33:IR:=.seq F39.t30 F39.t32
def F39.t34:IR:=.seq F39.t9 F39.t33
def F39.t35:IR:=.seq F39.t8 F39.t34
def F39.t36:IR:=.seq F39.t7 F39.t35
def F39.t37:IR:=.seq F39.t0 F39.t36
theorem F39.rV:IR.run F39.t0 C N O K (F39.fr f g q s p v u w y A a b d c e i l o z B) h nx =
 cu g h nx fun v1 h2 n3=>K (F39.fr f g q v1 .zh (I 0) u w y A a b d c e i l o z B) h2 n3:=by kernel_rfl
theorem F39.rW:IR.run F39.t1 C N O K (F39.fr f g q s p v u w y A a b d c e i l o z B) h nx =
 zE s h fun v1=>C.fn 120 (.of 120) [f,v1,q] h nx fun v2 h3 n4=>bf 0 v2 fun v5=>bf 1 v2 fun v6=>bf 2 v2 fun v7=>yI [.zh,.zh] h3 n4 fun v8 h9 nH=>zQ 2 v8 v6 h9 nH fun vI hH nI=>K (F39.fr f g q s p v v7 w y A a b d c e i l o z B) hH nI:=by kernel_rfl
theorem F39.rX:IR.run F39.t2 C N O K (F39.fr f g q s p v u w y A a b d c e i l o z B) h nx =
 zo .neq .int u (I 0) fun v1=>K (F39.fr f g q s p v u w y A a b v1 c e i l o z B) h nx:=by kernel_rfl
theorem F39.v12:Arg.ev (.t (.of 12)) ⟨(F39.fr f g q s p v u w y A a b d c e i l o z B),[]⟩=d:=by kernel_rfl
theorem F39.eH:IR.run F39.t8 C N O K (F39.fr f g q s p v u w y A a b d c e i l o z B) h nx =
 p7 h nx fun v1 h2 n3=>yI [.jm] h2 n3 fun v4 h5 n6=>zQ 1 v4 v1 h5 n6 fun v7 h8 n9=>K (F39.fr f g q s p v u v4 y A a b d c e i l o z B) h8 n9:=by kernel_rfl
theorem F39.sF:IR.run F39.t9 C N O K (F39.fr f g q s p v u w y A a b d c e i l o z B) h nx =
 yI [.zh] h nx fun v1 h2 n3=>K (F39.fr f g q s p v u w v1 A a b d c e i l o z B) h2 n3:=by kernel_rfl
theorem F39.aA:IR.run F39.t10 C N O K (F39.fr f g q s p v u w y A a b d c e i l o z B) h nx =
 C.fn 90 (.of 90) [f] h nx fun v1 h2 n3=>K (F39.fr f g q s p v u w y A a b d v1 e i l o z B) h2 n3:=by kernel_rfl
theorem F39.zae:IR.run F39.t11 C N O K (F39.fr f g q s p v u w y A a b d c e i l o z B) h nx =
 yI [.zh,(.bool false)] h nx fun v1 h2 n3=>zQ 2 v1 i h2 n3 fun v4 h5 n6=>K (F39.fr f g q s p v u w y v1 a b d c e i l o z B) h5 n6:=by kernel_rfl
theorem F39.zaf:IR.run F39.t12 C N O K (F39.fr f g q s p v u w y A a b d c e i l o z B) h nx =
 zE w h fun v1=>zH 2 A h fun v2=>C.fn 121 (.of 121) [v1,v2] h nx fun v3 h4 n5=>K (F39.fr f g q s p v u w y A a b d c e i v3 o z B) h4 n5:=by kernel_rfl
theorem F39.v16:Arg.ev (.t (.of 16)) ⟨(F39.fr f g q s p v u w y A a b d c e i l o z B),[]⟩=l:=by kernel_rfl
theorem F39.aB:IR.run F39.t15 C N O K (F39.fr f g q s p v u w y A a b d c e i l o z B) h nx =
 zE s h fun v1=>C.fn 90 (.of 90) [v1] h nx fun v2 h3 n4=>K (F39.fr f g q s p v u w y A a b d c e i l v2 z B) h3 n4:=by kernel_rfl
theorem F39.rY:IR.run F39.t16 C N O K (F39.fr f g q s p v u w y A a b d c e i l o z B) h nx =
 yI [.zh,(.bool false)] h nx fun v1 h2 n3=>zQ 2 v1 B h2 n3 fun v4 h5 n6=>K (F39.fr f g q s p v u w y A v1 b d c e i l o z B) h5 n6:=by kernel_rfl
theorem F39.aS:IR.run F39.t17 C N O K (F39.fr f g q s p v u w y A a b d c e i l o z B) h nx =
 zH 2 A h fun v1=>zH 2 a h fun v2=>C.fn 122 (.of 122) [v1,v2] h nx fun v3 h4 n5=>yI [.zh,(.bool false)] h4 n5 fun v6 h7 n8=>zQ 2 v6 v3 h7 n8 fun v9 hA nA=>K (F39.fr f g q s p v u w y A a v6 d c e i l o z B) hA nA:=by kernel_rfl
theorem F39.zln:IR.run F39.t18 C N O K (F39.fr f g q s p v u w y A a b d c e i l o z B) h nx =
 zE w h fun v1=>zH 2 b h fun v2=>zH 2 b h fun v3=>C.fn 123 (.of 123) [v2] h nx fun v4 h5 n6=>(zH 2 b h5 fun vI=>zN vI v3 ((zE w h5 fun vH=>zN vH v1 (xI .str v1 v4 v3 h5 n6 fun v7 h8 n9=>K (F39.fr f g q s p v u w y A a b d c e i l o z B) h8 n9)))):=by kernel_rfl
theorem F39.ztz:Arg.ev (.t (.of 17)) ⟨(F39.fr f g q s p v u w y A a b d c e i l o z B),[]⟩=o:=by kernel_rfl
theorem F39.zt0 {z0 z1:AV} (k:T AV->OP):jA [(.of 18),(.of 19)] [z0,z1] (F39.fr f g q s p v u w y A a b d c e i l o z B) k=k (F39.fr f g q s p v u w y A a b d c e i l o z0 z1):=by kernel_rfl
theorem F39.zlp:IR.run F39.t24 C N O K (F39.fr f g q s p v u w y A a b d c e i l o z B) h nx =
 zE y h fun v1=>zL 0 A fun v2=>zE v2 h fun v3=>zL 1 A fun v4=>zE v4 h fun v5=>C.fn 106 (.of 106) [v3] h nx fun v6 h7 n8=>(zE v4 h7 fun vV=>zN vV v5 ((zL 1 A fun vL=>zN vL v4 ((zE y h7 fun vK=>zN vK v1 (gI [.zh,(.bool false)] [(0,1,v6),(1,1,v5)] fun v9=>yY 2 1 [.zh,(.bool false)] [(0,2,v9)] h7 n8 fun vH hC nC=>(zE y hC fun vJ=>zN vJ v1 (xK C 2 32 v1 vH hC nC fun vB hD nD=>zQ 1 y vB hD nD fun vE hE nE=>K (F39.fr f g q s p v u w y A a b d c e i l o z B) hE nE)))))))):=by kernel_rfl
theorem F39.zt1:Arg.ev (.t (.of 13)) ⟨(F39.fr f g q s p v u w y A a b d c e i l o z B),[]⟩=c:=by kernel_rfl
theorem F39.zt2 {z0 z1:AV} (k:T AV->OP):jA [(.of 14),(.of 15)] [z0,z1] (F39.fr f g q s p v u w y A a b d c e i l o z B) k=k (F39.fr f g q s p v u w y A a b d c z0 z1 l o z B):=by kernel_rfl
theorem F39.zad:IR.run F39.t31 C N O K (F39.fr f g q s p v u w y A a b d c e i l o z B) h nx =
 zE y h fun v1=>K (F39.fr f g q s v1 (I 0) u w y A a b d c e i l o z B) h nx:=by kernel_rfl
theorem F39.tab:T.get none (.of 39) tbl=some F39:=by kernel_rfl
theorem F39.bind (k:T AV->OP):jA F39.params [a0,a1,a2] F39.init k=k (F39.fr a0 a1 a2 .undef .undef .undef .undef .undef .undef .undef .undef .undef .undef .undef .undef .undef .undef .undef .undef .undef):=by kernel_rfl
theorem F39.xq:F39.body=F39.t37:=by kernel_rfl
theorem F39.go:zV tbl N C (.of 39) [a0,a1,a2] h nx K0=IR.run F39.t37 C N (fnO F39.res K0) (wu F39.res K0) (F39.fr a0 a1 a2 .undef .undef .undef .undef .undef .undef .undef .undef .undef .undef .undef .undef .undef .undef .undef .undef .undef) h nx:=by
 rw [zI F39.tab,F39.bind,F39.xq];kernel_rfl
theorem F39.ret:wu F39.res K0 (F39.fr f g q s p v u w y A a b d c e i l o z B) h nx=K0 (.tup [p,v]) h nx:=by kernel_rfl
def F40.t0:IR:=.reg [.q (.of 3) (.mv (.c (.bool false))),.q (.of 4) (.mv (.c (I 0)))]
def F40.t1:IR:=.reg [.s (.mv (.t (.of 0))),.s (.mv (.t (.of 1))),.s (.mv (.t (.of 2))),.w .push none (.call (.c (.fn 120 (.of 120) [])) [(.s 2),(.s 1),(.s 0)]),.s (.mv (.s 0)),.s (.ext 0 (.s 0)),.s (.ext 1 (.s 1)),.s (.ext 2 (.s 2)),.w (.loc (.of 6)) none (.alloc [.zh,.zh]),.q (.of 5) (.mv (.s 2)),.w .none none (.store 2 (.t (.of 6)) (.s 1)),.q (.of 7) (.mv (.s 0))]
def F40.t2:IR:=.reg [.s (.mv (.t (.of 7))),.q (.of 10) (.bin .neq .int (.s 0) (.c (I 0)))]
def F40.t3:IR:=.reg [.s (.mv (.t (.of 7))),.q (.of 3) (.mv (.c (.bool false))),.q (.of 4) (.mv (.s 0))]
def F40.t4:IR:=.seq F40.t3 .ret
def F40.t5:IR:=.cond (.t (.of 10)) F40.t4 .skip
def F40.t6:IR:=.seq F40.t2 F40.t5
def F40.t7:IR:=.reg [.s (.tV 1 2 (.t (.of 6)) (.c (I 0))),.q (.of 11) (.load (.s 0)),.q (.of 12) (.len (.t (.of 11))),.q (.of 13) (.mv (.c (I 0)))]
def F40.t8:IR:=.reg [.q (.of 14) (.bin .lss .int (.t (.of 13)) (.t (.of 12)))]
def F40.t9:IR:=.cond (.t (.of 14)) .skip (.exit 0)
def F40.t10:IR:=.reg [.s (.zu 2 (.t (.of 11)) (.t (.of 13))),.s (.zi 2 (.s 0)),.w (.loc (.of 8)) none (.alloc [.zh,(.bool false)]),.w .none none (.store 2 (.t (.of 8)) (.s 0))]
def F40.t11:IR:=.reg [.s (.tV 1 2 (.t (.of 6)) (.c (I 1))),.q (.of 15) (.load (.s 0)),.q (.of 16) (.len (.t (.of 15))),.q (.of 17) (.mv (.c (I 0)))]
def F40.t12:IR:=.reg [.q (.of 18) (.bin .lss .int (.t (.of 17)) (.t (.of 16)))]
def F40.t13:IR:=.cond (.t (.of 18)) .skip (.exit 2)
def F40.t14:IR:=.reg [.s (.zu 2 (.t (.of 15)) (.t (.of 17))),.s (.zi 2 (.s 0)),.w (.loc (.of 9)) none (.alloc [.zh,(.bool false)]),.w .none none (.store 2 (.t (.of 9)) (.s 0))]
def F40.t15:IR:=.yt [] [(.s (.mv (.t (.of 5))),3,[]),(.s (.zi 2 (.t (.of 8))),0,[]),(.s (.zi 2 (.t (.of 9))),0,[]),(.s (.zi 2 (.t (.of 8))),1,[]),(.w .push none (.call (.c (.fn 122 (.of 122) [])) [(.s 2),(.s 1)]),0,[]),(.w .push none (.call (.c (.fn 124 (.of 124) [])) [(.s 1)]),0,[]),(.w .push none (.call (.c (.fn 122 (.of 122) [])) [(.s 1),(.s 0)]),0,[]),(.w .push none (.call (.c (.fn 121 (.of 121) [])) [(.s 6),(.s 0)]),0,[]),(.q (.of 19) (.not (.s 0)),0,[])]
def F40.t16:IR:=.reg [.q (.of 3) (.mv (.c (.bool false))),.q (.of 4) (.mv (.c (I 0)))]
def F40.t17:IR:=.seq F40.t16 .ret
def F40.t18:IR:=.cond (.t (.of 19)) F40.t17 .skip
def F40.t19:IR:=.seq F40.t15 F40.t18
def F40.t20:IR:=.seq F40.t14 F40.t19
def F40.t21:IR:=.block 3 F40.t20
def F40.t22:IR:=.reg [.s (.bin .add .int (.t (.of 17)) (.c (I 1))),.q (.of 17) (.mv (.s 0))]
def F40.t23:IR:=.seq F40.t21 F40.t22
def F40.t24:IR:=.seq F40.t13 F40.t23
def F40.t25:IR:=.seq F40.t12 F40.t24
def F40.t26:IR:=.loop F40.t25
def F40.t27:IR:=.block 2 F40.t26
def F40.t28:IR:=.seq F40.t11 F40.t27
def F40.t29:IR:=.seq F40.t10 F40.t28
def F40.t30:IR:=.block 1 F40.t29
def F40.t31:IR:=.reg [.s (.bin .add .int (.t (.of 13)) (.c (I 1))),.q (.of 13) (.mv (.s 0))]
def F40.t32:IR:=.seq F40.t30 F40.t31
def F40.t33:IR:=.seq F40.t9 F40.t32
def F40.t34:IR:=.seq F40.t8 F40.t33
def F40.t35:IR:=.loop F40.t34
def F40.t36:IR:=.block 0 F40.t35
def F40.t37:IR:=.seq F40.t7 F40.t36
def F40.t38:IR:=.reg [.q (.of 3) (.mv (.c (.bool true))),.q (.of 4) (.mv (.c (I 0)))]
def F40.t39:IR:=.seq F40.t38 .ret
def F40.t40:IR:=.seq F40.t37 F40.t39
def F40.t41:IR:=.seq F40.t6 F40.t40
def F40.t42:IR:=.seq F40.t1 F40.t41
def F40.t43:IR:=.seq F40.t0 F40.t42
theorem F40.rV:IR.run F40.t0 C N O K (F40.fr f g q s p v u w y A a b d c e i l o z B) h nx =
 K (F40.fr f g q (.bool false) (I 0) v u w y A a b d c e i l o z B) h nx:=by kernel_rfl
theorem F40.rW:IR.run F40.t1 C N O K (F40.fr f g q s p v u w y A a b d c e i l o z B) h nx =
 C.fn 120 (.of 120) [f,g,q] h nx fun v1 h2 n3=>bf 0 v1 fun v4=>bf 1 v1 fun v5=>bf 2 v1 fun v6=>yI [.zh,.zh] h2 n3 fun v7 h8 n9=>zQ 2 v7 v5 h8 n9 fun vH hC nC=>K (F40.fr f g q s p v4 v7 v6 y A a b d c e i l o z B) hC nC:=by kernel_rfl
theorem F40.rX:IR.run F40.t2 C N O K (F40.fr f g q s p v u w y A a b d c e i l o z B) h nx =
 zo .neq .int w (I 0) fun v1=>K (F40.fr f g q s p v u w y A v1 b d c e i l o z B) h nx:=by kernel_rfl
theorem F40.ay:IR.run F40.t3 C N O K (F40.fr f g q s p v u w y A a b d c e i l o z B) h nx =
 K (F40.fr f g q (.bool false) w v u w y A a b d c e i l o z B) h nx:=by kernel_rfl
theorem F40.v10:Arg.ev (.t (.of 10)) ⟨(F40.fr f g q s p v u w y A a b d c e i l o z B),[]⟩=a:=by kernel_rfl
theorem F40.t7_s:IR.run F40.t7 C N O K (F40.fr f g q s p v u w y A a b d c e i l o z B) h nx =
 dF 1 2 u (I 0) fun v1=>zE v1 h fun v2=>sLen v2 fun v3=>K (F40.fr f g q s p v u w y A a v2 v3 (I 0) e i l o z B) h nx:=by kernel_rfl
theorem F40.eH:IR.run F40.t8 C N O K (F40.fr f g q s p v u w y A a b d c e i l o z B) h nx =
 zo .lss .int c d fun v1=>K (F40.fr f g q s p v u w y A a b d c v1 i l o z B) h nx:=by kernel_rfl
theorem F40.v14:Arg.ev (.t (.of 14)) ⟨(F40.fr f g q s p v u w y A a b d c e i l o z B),[]⟩=e:=by kernel_rfl
theorem F40.aA:IR.run F40.t10 C N O K (F40.fr f g q s p v u w y A a b d c e i l o z B) h nx =
 zO 2 b c fun v1=>zH 2 v1 h fun v2=>yI [.zh,(.bool false)] h nx fun v3 h4 n5=>zQ 2 v3 v2 h4 n5 fun v6 h7 n8=>K (F40.fr f g q s p v u w v3 A a b d c e i l o z B) h7 n8:=by kernel_rfl
theorem F40.zae:IR.run F40.t11 C N O K (F40.fr f g q s p v u w y A a b d c e i l o z B) h nx =
 dF 1 2 u (I 1) fun v1=>zE v1 h fun v2=>sLen v2 fun v3=>K (F40.fr f g q s p v u w y A a b d c e v2 v3 (I 0) z B) h nx:=by kernel_rfl
theorem F40.zaf:IR.run F40.t12 C N O K (F40.fr f g q s p v u w y A a b d c e i l o z B) h nx =
 zo .lss .int o l fun v1=>K (F40.fr f g q s p v u w y A a b d c e i l o v1 B) h nx:=by kernel_rfl
theorem F40.v18:Arg.ev (.t (.of 18)) ⟨(F40.fr f g q s p v u w y A a b d c e i l o z B),[]⟩=z:=by kernel_rfl
theorem F40.oC:IR.run F40.t14 C N O K (F40.fr f g q s p v u w y A a b d c e i l o z B) h nx =
 zO 2 i o fun v1=>zH 2 v1 h fun v2=>yI [.zh,(.bool false)] h nx fun v3 h4 n5=>zQ 2 v3 v2 h4 n5 fun v6 h7 n8=>K (F40.fr f g q s p v u w y v3 a b d c e i l o z B) h7 n8:=by kernel_rfl
theorem F40.aB:IR.run F40.t15 C N O K (F40.fr f g q s p v u w y A a b d c e i l o z B) h nx =
 zH 2 y h fun v1=>zH 2 A h fun v2=>zH 2 y h fun v3=>C.fn 122 (.of 122) [v1,v2] h nx fun v4 h5 n6=>(zH 2 y h5 fun vF=>zN vF v3 (zN v v (C.fn 124 (.of 124) [v3] h5 n6 fun v7 h8 n9=>zN v v (C.fn 122 (.of 122) [v4,v7] h8 n9 fun vH hC nC=>zN v v (C.fn 121 (.of 121) [v,vH] hC nC fun vB hD nD=>sQ vB fun vE=>K (F40.fr f g q s p v u w y A a b d c e i l o z vE) hD nD))))):=by kernel_rfl
theorem F40.rY:IR.run F40.t16 C N O K (F40.fr f g q s p v u w y A a b d c e i l o z B) h nx =
 K (F40.fr f g q (.bool false) (I 0) v u w y A a b d c e i l o z B) h nx:=by kernel_rfl
theorem F40.v19:Arg.ev (.t (.of 19)) ⟨(F40.fr f g q s p v u w y A a b d c e i l o z B),[]⟩=B:=by kernel_rfl
theorem F40.zlq:IR.run F40.t22 C N O K (F40.fr f g q s p v u w y A a b d c e i l o z B) h nx =
 zo .add .int o (I 1) fun v1=>K (F40.fr f g q s p v u w y A a b d c e i l v1 z B) h nx:=by kernel_rfl
theorem F40.zt3 (Inv:Nat->AV->T Blk->Pa->Prop) {m:Nat} (hm:m<N) (hi:Inv m o h nx)
  (step:∀ (m:Nat) (z3 z4 z9 zK zM zP:AV) (h:T Blk) (nx:Pa) (R:Ks Prop),Inv m zK h nx->(∀ (m':Nat) (w3 w4 w9 wH wI wJ:AV) (h':T Blk) (nx':Pa),m'<m->Inv m' wH h' nx'->R (F40.fr f g q w3 w4 v u w y w9 a b d c e i l wH wI wJ) h' nx'=.ok True)->IR.run F40.t25 C N O R (F40.fr f g q z3 z4 v u w y z9 a b d c e i l zK zM zP) h nx=.ok True) :
  IR.run F40.t26 C N O K (F40.fr f g q s p v u w y A a b d c e i l o z B) h nx=.ok True:=by
 rw [F40.t26];refine yF (fun m tm h nx=>∃ z3 z4 z9 zK zM zP,tm=(F40.fr f g q z3 z4 v u w y z9 a b d c e i l zK zM zP)/\Inv m zK h nx) ?_ hm ⟨_,_,_,_,_,_,rfl,hi⟩;rintro m tm h nx R ⟨z3,z4,z9,zK,zM,zP,rfl,hi⟩ hR;exact step m z3 z4 z9 zK zM zP h nx R hi fun m' w3 w4 w9 wH wI wJ h' nx' hlt hi'=>hR m' _ h' nx' hlt ⟨_,_,_,_,_,_,rfl,hi'⟩
theorem F40.zad:IR.run F40.t31 C N O K (F40.fr f g q s p v u w y A a b d c e i l o z B) h nx =
 zo .add .int c (I 1) fun v1=>K (F40.fr f g q s p v u w y A a b d v1 e i l o z B) h nx:=by kernel_rfl
theorem F40.zt4 (Inv:Nat->AV->T Blk->Pa->Prop) {m:Nat} (hm:m<N) (hi:Inv m c h nx)
  (step:∀ (m:Nat) (z3 z4 z8 z9 zD zF zG zJ zK zM zP:AV) (h:T Blk) (nx:Pa) (R:Ks Prop),Inv m zD h nx->(∀ (m':Nat) (w3 w4 w8 w9 wD wE wF wG wH wI wJ:AV) (h':T Blk) (nx':Pa),m'<m->Inv m' wD h' nx'->R (F40.fr f g q w3 w4 v u w w8 w9 a b d wD wE wF wG wH wI wJ) h' nx'=.ok True)->IR.run F40.t34 C N O R (F40.fr f g q z3 z4 v u w z8 z9 a b d zD zF zG zJ zK zM zP) h nx=.ok True) :
  IR.run F40.t35 C N O K (F40.fr f g q s p v u w y A a b d c e i l o z B) h nx=.ok True:=by
 rw [F40.t35];refine yF (fun m tm h nx=>∃ z3 z4 z8 z9 zD zF zG zJ zK zM zP,tm=(F40.fr f g q z3 z4 v u w z8 z9 a b d zD zF zG zJ zK zM zP)/\Inv m zD h nx) ?_ hm ⟨_,_,_,_,_,_,_,_,_,_,_,rfl,hi⟩;rintro m tm h nx R ⟨z3,z4,z8,z9,zD,zF,zG,zJ,zK,zM,zP,rfl,hi⟩ hR;exact step m z3 z4 z8 z9 zD zF zG zJ zK zM zP h nx R hi fun m' w3 w4 w8 w9 wD wE wF wG wH wI wJ h' nx' hlt hi'=>hR m' _ h' nx' hlt ⟨_,_,_,_,_,_,_,_,_,_,_,rfl,hi'⟩
theorem F40.zt5:IR.run F40.t38 C N O K (F40.fr f g q s p v u w y A a b d c e i l o z B) h nx =
 K (F40.fr f g q (.bool true) (I 0) v u w y A a b d c e i l o z B) h nx:=by kernel_rfl
theorem F40.tab:T.get none (.of 40) tbl=some F40:=by kernel_rfl
theorem F40.bind (k:T AV->OP):jA F40.params [a0,a1,a2] F40.init k=k (F40.fr a0 a1 a2 .undef .undef .undef .undef .undef .undef .undef .undef .undef .undef .undef .undef .undef .undef .undef .undef .undef):=by kernel_rfl
theorem F40.xq:F40.body=F40.t43:=by kernel_rfl
theorem F40.go:zV tbl N C (.of 40) [a0,a1,a2] h nx K0=IR.run F40.t43 C N (fnO F40.res K0) (wu F40.res K0) (F40.fr a0 a1 a2 .undef .undef .undef .undef .undef .undef .undef .undef .undef .undef .undef .undef .undef .undef .undef .undef .undef) h nx:=by
 rw [zI F40.tab,F40.bind,F40.xq];kernel_rfl
theorem F40.ret:wu F40.res K0 (F40.fr f g q s p v u w y A a b d c e i l o z B) h nx=K0 (.tup [s,p]) h nx:=by kernel_rfl
end
end Go.Ev
namespace Go.Ev
open Go Go.Proofs
set_option maxRecDepth 100000
section
variable {N:Nat} {C:Calls Prop} {K0:Kw Prop} {K:Ks Prop} {h:T Blk} {nx:Pa} {f g q s p v u w y A a0:AV} {O:jl Prop} {tm:T AV} {Kt:KTm} {r:List RO} {s0 s1 s2 s3 s4 s5 s6 s7 s8 s9 s10 s11 s12 s13 s14 s15 s16 s17 s18 s19 s20 s21 s22 s23 s24 s25 s26 s27 s28 s29 s30 s31 s32 s33 s34 s35 s36 s37 s38 s39 s40 s41 s42 s43 s44 s45 s46 s47 s48 s49 s50 s51 s52 s53 s54 s55 s56 s57 s58 s59:AV}
def yh.t0:IR:=.reg [.w (.loc (.of 1)) none (.box (.t (.of 0))),.w (.loc (.of 2)) none (.alloc [.zh,(.bool false)])]
def yh.t1:IR:=.yt [(.alloc [.zh,(.bool false)])] [(.s (.zn 0 (.t (.of 1))),2,[]),(.s (.load (.s 0)),2,[]),(.s (.len (.s 0)),2,[(.gu 1 8 [(I 0)] (.s 0) (.s 0))]),(.s (.zn 1 (.t (.of 1))),2,[]),(.s (.load (.s 0)),2,[]),(.w .push none (.gu 1 8 [(I 0)] (.s 2) (.s 2)),0,[]),(.s (.build [.zh,(.bool false)] [(0,1,(.s 0)),(1,1,(.s 1))]),1,[]),(.w (.loc (.of 3)) none (.alloc [.zh,(.bool false)]),0,[]),(.w .none none (.store 2 (.t (.of 3)) (.s 0)),0,[])]
def yh.t2:IR:=.reg [.s (.zn 0 (.t (.of 1))),.q (.of 6) (.load (.s 0)),.q (.of 7) (.len (.t (.of 6))),.q (.of 8) (.mv (.c (I 0)))]
def yh.t3:IR:=.reg [.q (.of 9) (.bin .lss .int (.t (.of 8)) (.t (.of 7)))]
def yh.t4:IR:=.cond (.t (.of 9)) .skip (.exit 0)
def yh.t5:IR:=.reg [.s (.mv (.t (.of 8))),.s (.zu 1 (.t (.of 6)) (.t (.of 8))),.s (.load (.s 0)),.q (.of 4) (.mv (.s 2)),.q (.of 5) (.mv (.s 0))]
def yh.t6:IR:=.reg [.s (.zn 0 (.t (.of 3))),.s (.load (.s 0)),.s (.mv (.t (.of 5))),.s (.mv (.t (.of 4))),.s (.zu 1 (.s 2) (.s 1)),.w .none none (.store 1 (.s 0) (.s 1))]
def yh.t7:IR:=.seq yh.t5 yh.t6
def yh.t8:IR:=.block 1 yh.t7
def yh.t9:IR:=.reg [.s (.bin .add .int (.t (.of 8)) (.c (I 1))),.q (.of 8) (.mv (.s 0))]
def yh.t10:IR:=.seq yh.t8 yh.t9
def yh.t11:IR:=.seq yh.t4 yh.t10
def yh.t12:IR:=.seq yh.t3 yh.t11
def yh.t13:IR:=.loop yh.t12
def yh.t14:IR:=.block 0 yh.t13
def yh.t15:IR:=.seq yh.t2 yh.t14
def yh.t16:IR:=.reg [.s (.zi 2 (.t (.of 3))),.w .none none (.store 2 (.t (.of 2)) (.s 0))]
def yh.t17:IR:=.seq yh.t16 .ret
def yh.t18:IR:=.seq yh.t15 yh.t17
def yh.t19:IR:=.seq yh.t1 yh.t18
def yh.t20:IR:=.seq yh.t0 yh.t19
theorem yh.rV:IR.run yh.t0 C N O K (yh.fr f g q s p v u w y A) h nx =
 cu f h nx fun v1 h2 n3=>yI [.zh,(.bool false)] h2 n3 fun v4 h5 n6=>K (yh.fr f v1 v4 s p v u w y A) h5 n6:=by kernel_rfl
theorem yh.rW:IR.run yh.t1 C N O K (yh.fr f g q s p v u w y A) h nx =
 sChk (true&&true) (zL 0 g fun v1=>zE v1 h fun v2=>sLen v2 fun v3=>sChk (mkSl 8 v3 v3&&true) (zL 1 g fun v4=>zE v4 h fun v5=>gR 1 8 [(I 0)] v3 v3 h nx fun v6 h7 n8=>(zE v4 h7 fun vX=>zN vX v5 ((zL 1 g fun vW=>zN vW v4 ((sLen v2 fun v24=>zN v24 v3 ((zE v1 h7 fun v23=>zN v23 v2 ((zL 0 g fun vV=>zN vV v1 (gI [.zh,(.bool false)] [(0,1,v6),(1,1,v5)] fun v9=>yI [.zh,(.bool false)] h7 n8 fun vH hC nC=>(gI [.zh,(.bool false)] [(0,1,v6),(1,1,v5)] fun vL=>zN vL v9 ((zE v4 hC fun vK=>zN vK v5 ((zL 1 g fun vJ=>zN vJ v4 ((sLen v2 fun vG=>zN vG v3 ((zE v1 hC fun vF=>zN vF v2 ((zL 0 g fun vE=>zN vE v1 (zQ 2 vH v9 hC nC fun vB hD nD=>K (yh.fr f g q vH p v u w y A) hD nD)))))))))))))))))))))))):=by kernel_rfl
theorem yh.rX:IR.run yh.t2 C N O K (yh.fr f g q s p v u w y A) h nx =
 zL 0 g fun v1=>zE v1 h fun v2=>sLen v2 fun v3=>K (yh.fr f g q s p v v2 v3 (I 0) A) h nx:=by kernel_rfl
theorem yh.ay:IR.run yh.t3 C N O K (yh.fr f g q s p v u w y A) h nx =
 zo .lss .int y w fun v1=>K (yh.fr f g q s p v u w y v1) h nx:=by kernel_rfl
theorem yh.v9:Arg.ev (.t (.of 9)) ⟨(yh.fr f g q s p v u w y A),[]⟩=A:=by kernel_rfl
theorem yh.t5_s:IR.run yh.t5 C N O K (yh.fr f g q s p v u w y A) h nx =
 zO 1 u y fun v1=>zE v1 h fun v2=>K (yh.fr f g q s y v2 u w y A) h nx:=by kernel_rfl
theorem yh.t6_s:IR.run yh.t6 C N O K (yh.fr f g q s p v u w y A) h nx =
 zL 0 s fun v1=>zE v1 h fun v2=>zO 1 v2 v fun v3=>zQ 1 v3 p h nx fun v4 h5 n6=>K (yh.fr f g q s p v u w y A) h5 n6:=by kernel_rfl
theorem yh.sF:IR.run yh.t9 C N O K (yh.fr f g q s p v u w y A) h nx =
 zo .add .int y (I 1) fun v1=>K (yh.fr f g q s p v u w v1 A) h nx:=by kernel_rfl
theorem yh.zci (Inv:Nat->AV->T Blk->Pa->Prop) {m:Nat} (hm:m<N) (hi:Inv m y h nx)
  (step:∀ (m:Nat) (z4 z5 z8 z9:AV) (h:T Blk) (nx:Pa) (R:Ks Prop),Inv m z8 h nx->(∀ (m':Nat) (w4 w5 w8 w9:AV) (h':T Blk) (nx':Pa),m'<m->Inv m' w8 h' nx'->R (yh.fr f g q s w4 w5 u w w8 w9) h' nx'=.ok True)->IR.run yh.t12 C N O R (yh.fr f g q s z4 z5 u w z8 z9) h nx=.ok True) :
  IR.run yh.t13 C N O K (yh.fr f g q s p v u w y A) h nx=.ok True:=by
 rw [yh.t13];refine yF (fun m tm h nx=>∃ z4 z5 z8 z9,tm=(yh.fr f g q s z4 z5 u w z8 z9)/\Inv m z8 h nx) ?_ hm ⟨_,_,_,_,rfl,hi⟩;rintro m tm h nx R ⟨z4,z5,z8,z9,rfl,hi⟩ hR;exact step m z4 z5 z8 z9 h nx R hi fun m' w4 w5 w8 w9 h' nx' hlt hi'=>hR m' _ h' nx' hlt ⟨_,_,_,_,rfl,hi'⟩
theorem yh.rY:IR.run yh.t16 C N O K (yh.fr f g q s p v u w y A) h nx =
 zH 2 s h fun v1=>zQ 2 q v1 h nx fun v2 h3 n4=>K (yh.fr f g q s p v u w y A) h3 n4:=by kernel_rfl
theorem yh.tab:T.get none (.of 124) tbl=some yh:=by kernel_rfl
theorem yh.bind (k:T AV->OP):jA yh.params [a0] yh.init k=k (yh.fr a0 .undef .undef .undef .undef .undef .undef .undef .undef .undef):=by kernel_rfl
theorem yh.xq:yh.body=yh.t20:=by kernel_rfl
theorem yh.go:zV tbl N C (.of 124) [a0] h nx K0=IR.run yh.t20 C N (fnO yh.res K0) (wu yh.res K0) (yh.fr a0 .undef .undef .undef .undef .undef .undef .undef .undef .undef) h nx:=by
 rw [zI yh.tab,yh.bind,yh.xq];kernel_rfl
theorem yh.ret:wu yh.res K0 (yh.fr f g q s p v u w y A) h nx=zH 2 q h fun v1=>K0 v1 h nx:=by kernel_rfl
end
end Go.Ev
namespace Go.Ev
open Go Go.Proofs
set_option maxRecDepth 100000
section
variable {N:Nat} {C:Calls Prop} {K0:Kw Prop} {K:Ks Prop} {h:T Blk} {nx:Pa} {f g q s p v u w y A a b a0 a1 a2:AV} {O:jl Prop} {tm:T AV} {Kt:KTm} {r:List RO} {s0 s1 s2 s3 s4 s5 s6 s7 s8 s9 s10 s11 s12 s13 s14 s15 s16 s17 s18 s19 s20 s21 s22 s23 s24 s25 s26 s27 s28 s29 s30 s31 s32 s33 s34 s35 s36 s37 s38 s39 s40 s41 s42 s43 s44 s45 s46 s47 s48 s49 s50 s51 s52 s53 s54 s55 s56 s57 s58 s59:AV}
end
end Go.Ev
namespace Go.Ev
open Go Go.Proofs
set_option maxRecDepth 100000
section
variable {N:Nat} {C:Calls Prop} {K0:Kw Prop} {K:Ks Prop} {h:T Blk} {nx:Pa} {f g q s p v u w y A a b d a0 a1:AV} {O:jl Prop} {tm:T AV} {Kt:KTm} {r:List RO} {s0 s1 s2 s3 s4 s5 s6 s7 s8 s9 s10 s11 s12 s13 s14 s15 s16 s17 s18 s19 s20 s21 s22 s23 s24 s25 s26 s27 s28 s29 s30 s31 s32 s33 s34 s35 s36 s37 s38 s39 s40 s41 s42 s43 s44 s45 s46 s47 s48 s49 s50 s51 s52 s53 s54 s55 s56 s57 s58 s59:AV}
end
end Go.Ev
namespace Go.Ev
open Go Go.Proofs
set_option maxRecDepth 100000
section
variable {N:Nat} {C:Calls Prop} {K0:Kw Prop} {K:Ks Prop} {h:T Blk} {nx:Pa} {f g q s p v u w y A a b d c e i a0 a1:AV} {O:jl Prop} {tm:T AV} {Kt:KTm} {r:List RO} {s0 s1 s2 s3 s4 s5 s6 s7 s8 s9 s10 s11 s12 s13 s14 s15 s16 s17 s18 s19 s20 s21 s22 s23 s24 s25 s26 s27 s28 s29 s30 s31 s32 s33 s34 s35 s36 s37 s38 s39 s40 s41 s42 s43 s44 s45 s46 s47 s48 s49 s50 s51 s52 s53 s54 s55 s56 s57 s58 s59:AV}
end
end Go.Ev
namespace Go.Ev
open Go Go.Proofs
set_option maxRecDepth 100000
section
variable {N:Nat} {C:Calls Prop} {K0:Kw Prop} {K:Ks Prop} {h:T Blk} {nx:Pa} {f g q s p v u w y A a b d c e i l o z B a0 a1:AV} {O:jl Prop} {tm:T AV} {Kt:KTm} {r:List RO} {s0 s1 s2 s3 s4 s5 s6 s7 s8 s9 s10 s11 s12 s13 s14 s15 s16 s17 s18 s19 s20 s21 s22 s23 s24 s25 s26 s27 s28 s29 s30 s31 s32 s33 s34 s35 s36 s37 s38 s39 s40 s41 s42 s43 s44 s45 s46 s47 s48 s49 s50 s51 s52 s53 s54 s55 s56 s57 s58 s59:AV}
end
end Go.Ev
namespace Go.Ev
open Go Go.Proofs
set_option maxRecDepth 100000
section
variable {N:Nat} {C:Calls Prop} {K0:Kw Prop} {K:Ks Prop} {h:T Blk} {nx:Pa} {f g q s p v u w y A a0 a1 a2:AV} {O:jl Prop} {tm:T AV} {Kt:KTm} {r:List RO} {s0 s1 s2 s3 s4 s5 s6 s7 s8 s9 s10 s11 s12 s13 s14 s15 s16 s17 s18 s19 s20 s21 s22 s23 s24 s25 s26 s27 s28 s29 s30 s31 s32 s33 s34 s35 s36 s37 s38 s39 s40 s41 s42 s43 s44 s45 s46 s47 s48 s49 s50 s51 s52 s53 s54 s55 s56 s57 s58 s59:AV}
def yj.t0:IR:=.reg [.w (.loc (.of 1)) none (.box (.t (.of 0))),.q (.of 2) (.mv (.c .fK))]
def yj.t1:IR:=.reg [.w .push none .fP,.w (.loc (.of 3)) none (.alloc [.jm]),.w .none none (.store 1 (.t (.of 3)) (.s 0))]
def yj.t2:IR:=.reg [.s (.zn 1 (.t (.of 1))),.q (.of 5) (.load (.s 0)),.q (.of 6) (.len (.t (.of 5))),.q (.of 7) (.mv (.c (I 0)))]
def yj.t3:IR:=.reg [.q (.of 8) (.bin .lss .int (.t (.of 7)) (.t (.of 6)))]
def yj.t4:IR:=.cond (.t (.of 8)) .skip (.exit 0)
def yj.t5:IR:=.reg [.s (.zu 1 (.t (.of 5)) (.t (.of 7))),.s (.load (.s 0)),.q (.of 4) (.mv (.s 0))]
def yj.t6:IR:=.yt [] [(.s (.load (.t (.of 3))),1,[]),(.s (.mv (.t (.of 4))),0,[]),(.s (.build [.zh,(.bool false)] [(0,1,(.s 0))]),0,[]),(.w .push none (.call (.c (.fn 123 (.of 123) [])) [(.s 0)]),0,[]),(.w .none none (.aT .str (.s 3) (.s 0) (.c (.bool true))),0,[])]
def yj.t7:IR:=.seq yj.t5 yj.t6
def yj.t8:IR:=.block 1 yj.t7
def yj.t9:IR:=.reg [.s (.bin .add .int (.t (.of 7)) (.c (I 1))),.q (.of 7) (.mv (.s 0))]
def yj.t10:IR:=.seq yj.t8 yj.t9
def yj.t11:IR:=.seq yj.t4 yj.t10
def yj.t12:IR:=.seq yj.t3 yj.t11
def yj.t13:IR:=.loop yj.t12
def yj.t14:IR:=.block 0 yj.t13
def yj.t15:IR:=.seq yj.t2 yj.t14
def yj.t16:IR:=.reg [.s (.fn 169 (.of 169) [(.t (.of 3))]),.q (.of 2) (.mv (.s 0))]
def yj.t17:IR:=.seq yj.t16 .ret
def yj.t18:IR:=.seq yj.t15 yj.t17
def yj.t19:IR:=.seq yj.t1 yj.t18
def yj.t20:IR:=.seq yj.t0 yj.t19
theorem yj.rV:IR.run yj.t0 C N O K (yj.fr f g q s p v u w y) h nx =
 cu f h nx fun v1 h2 n3=>K (yj.fr f v1 .fK s p v u w y) h2 n3:=by kernel_rfl
theorem yj.rW:IR.run yj.t1 C N O K (yj.fr f g q s p v u w y) h nx =
 p7 h nx fun v1 h2 n3=>yI [.jm] h2 n3 fun v4 h5 n6=>zQ 1 v4 v1 h5 n6 fun v7 h8 n9=>K (yj.fr f g q v4 p v u w y) h8 n9:=by kernel_rfl
theorem yj.rX:IR.run yj.t2 C N O K (yj.fr f g q s p v u w y) h nx =
 zL 1 g fun v1=>zE v1 h fun v2=>sLen v2 fun v3=>K (yj.fr f g q s p v2 v3 (I 0) y) h nx:=by kernel_rfl
theorem yj.ay:IR.run yj.t3 C N O K (yj.fr f g q s p v u w y) h nx =
 zo .lss .int w u fun v1=>K (yj.fr f g q s p v u w v1) h nx:=by kernel_rfl
theorem yj.v8:Arg.ev (.t (.of 8)) ⟨(yj.fr f g q s p v u w y),[]⟩=y:=by kernel_rfl
theorem yj.t5_s:IR.run yj.t5 C N O K (yj.fr f g q s p v u w y) h nx =
 zO 1 v w fun v1=>zE v1 h fun v2=>K (yj.fr f g q s v2 v u w y) h nx:=by kernel_rfl
theorem yj.t6_s:IR.run yj.t6 C N O K (yj.fr f g q s p v u w y) h nx =
 zE s h fun v1=>gI [.zh,(.bool false)] [(0,1,p)] fun v2=>C.fn 123 (.of 123) [v2] h nx fun v3 h4 n5=>(zE s h4 fun v9=>zN v9 v1 (xI .str v1 v3 (.bool true) h4 n5 fun v6 h7 n8=>K (yj.fr f g q s p v u w y) h7 n8)):=by kernel_rfl
theorem yj.sF:IR.run yj.t9 C N O K (yj.fr f g q s p v u w y) h nx =
 zo .add .int w (I 1) fun v1=>K (yj.fr f g q s p v u v1 y) h nx:=by kernel_rfl
theorem yj.zci (Inv:Nat->AV->T Blk->Pa->Prop) {m:Nat} (hm:m<N) (hi:Inv m w h nx)
  (step:∀ (m:Nat) (z4 z7 z8:AV) (h:T Blk) (nx:Pa) (R:Ks Prop),Inv m z7 h nx->(∀ (m':Nat) (w4 w7 w8:AV) (h':T Blk) (nx':Pa),m'<m->Inv m' w7 h' nx'->R (yj.fr f g q s w4 v u w7 w8) h' nx'=.ok True)->IR.run yj.t12 C N O R (yj.fr f g q s z4 v u z7 z8) h nx=.ok True) :
  IR.run yj.t13 C N O K (yj.fr f g q s p v u w y) h nx=.ok True:=by
 rw [yj.t13];refine yF (fun m tm h nx=>∃ z4 z7 z8,tm=(yj.fr f g q s z4 v u z7 z8)/\Inv m z7 h nx) ?_ hm ⟨_,_,_,rfl,hi⟩;rintro m tm h nx R ⟨z4,z7,z8,rfl,hi⟩ hR;exact step m z4 z7 z8 h nx R hi fun m' w4 w7 w8 h' nx' hlt hi'=>hR m' _ h' nx' hlt ⟨_,_,_,rfl,hi'⟩
theorem yj.rY:IR.run yj.t16 C N O K (yj.fr f g q s p v u w y) h nx =
 K (yj.fr f g (.fn 169 (.of 169) [s]) s p v u w y) h nx:=by kernel_rfl
theorem yj.tab:T.get none (.of 104) tbl=some yj:=by kernel_rfl
theorem yj.bind (k:T AV->OP):jA yj.params [a0] yj.init k=k (yj.fr a0 .undef .undef .undef .undef .undef .undef .undef .undef):=by kernel_rfl
theorem yj.xq:yj.body=yj.t20:=by kernel_rfl
theorem yj.go:zV tbl N C (.of 104) [a0] h nx K0=IR.run yj.t20 C N (fnO yj.res K0) (wu yj.res K0) (yj.fr a0 .undef .undef .undef .undef .undef .undef .undef .undef) h nx:=by
 rw [zI yj.tab,yj.bind,yj.xq];kernel_rfl
theorem yj.ret:wu yj.res K0 (yj.fr f g q s p v u w y) h nx=K0 q h nx:=by kernel_rfl
def zx.t0:IR:=.reg [.q (.of 3) (.mv (.c (.bool false)))]
def zx.t1:IR:=.reg [.q (.of 4) (.mv (.c .zh))]
def zx.t2:IR:=.reg [.q (.of 6) (.mv (.t (.of 1))),.q (.of 7) (.len (.t (.of 6))),.q (.of 8) (.mv (.c (I 0)))]
def zx.t3:IR:=.reg [.q (.of 9) (.bin .lss .int (.t (.of 8)) (.t (.of 7)))]
def zx.t4:IR:=.cond (.t (.of 9)) .skip (.exit 0)
def zx.t5:IR:=.reg [.s (.zu 1 (.t (.of 6)) (.t (.of 8))),.s (.load (.s 0)),.q (.of 5) (.mv (.s 0))]
def zx.t6:IR:=.reg [.s (.mv (.t (.of 4))),.s (.mv (.t (.of 0))),.s (.mv (.t (.of 5))),.s (.zu 1 (.s 1) (.s 0)),.s (.load (.s 0)),.w .push none (.yc 1 1 [(I 0)] [(0,1,(.s 0))]),.w .push none (.app 1 8 (.s 5) (.s 0)),.q (.of 4) (.mv (.s 0))]
def zx.t7:IR:=.seq zx.t5 zx.t6
def zx.t8:IR:=.block 1 zx.t7
def zx.t9:IR:=.reg [.s (.bin .add .int (.t (.of 8)) (.c (I 1))),.q (.of 8) (.mv (.s 0))]
def zx.t10:IR:=.seq zx.t8 zx.t9
def zx.t11:IR:=.seq zx.t4 zx.t10
def zx.t12:IR:=.seq zx.t3 zx.t11
def zx.t13:IR:=.loop zx.t12
def zx.t14:IR:=.block 0 zx.t13
def zx.t15:IR:=.seq zx.t2 zx.t14
def zx.t16:IR:=.reg [.s (.mv (.t (.of 4))),.w .push none (.call (.c (.fn 91 (.of 91) [])) [(.s 0)])]
def zx.t17:IR:=.yt [] [(.s (.load (.t (.of 2))),1,[]),(.s (.mv (.t (.of 4))),0,[]),(.s (.build [.zh,(.bool false)] [(0,1,(.s 0))]),0,[]),(.w .push none (.call (.c (.fn 123 (.of 123) [])) [(.s 0)]),0,[]),(.s (.look .str (.bool false) false (.s 3) (.s 0)),0,[]),(.q (.of 3) (.mv (.s 0)),0,[])]
def zx.t18:IR:=.seq zx.t17 .ret
def zx.t19:IR:=.seq zx.t16 zx.t18
def zx.t20:IR:=.seq zx.t15 zx.t19
def zx.t21:IR:=.seq zx.t1 zx.t20
def zx.t22:IR:=.seq zx.t0 zx.t21
theorem zx.rV:IR.run zx.t0 C N O K (zx.fr f g q s p v u w y A) h nx =
 K (zx.fr f g q (.bool false) p v u w y A) h nx:=by kernel_rfl
theorem zx.rW:IR.run zx.t1 C N O K (zx.fr f g q s p v u w y A) h nx =
 K (zx.fr f g q s .zh v u w y A) h nx:=by kernel_rfl
theorem zx.rX:IR.run zx.t2 C N O K (zx.fr f g q s p v u w y A) h nx =
 sLen g fun v1=>K (zx.fr f g q s p v g v1 (I 0) A) h nx:=by kernel_rfl
theorem zx.ay:IR.run zx.t3 C N O K (zx.fr f g q s p v u w y A) h nx =
 zo .lss .int y w fun v1=>K (zx.fr f g q s p v u w y v1) h nx:=by kernel_rfl
theorem zx.v9:Arg.ev (.t (.of 9)) ⟨(zx.fr f g q s p v u w y A),[]⟩=A:=by kernel_rfl
theorem zx.t5_s:IR.run zx.t5 C N O K (zx.fr f g q s p v u w y A) h nx =
 zO 1 u y fun v1=>zE v1 h fun v2=>K (zx.fr f g q s p v2 u w y A) h nx:=by kernel_rfl
theorem zx.t6_s:IR.run zx.t6 C N O K (zx.fr f g q s p v u w y A) h nx =
 zO 1 f v fun v1=>zE v1 h fun v2=>yY 1 1 [(I 0)] [(0,1,v2)] h nx fun v3 h4 n5=>tq 1 8 p v3 h4 n5 fun v6 h7 n8=>K (zx.fr f g q s v6 v u w y A) h7 n8:=by kernel_rfl
theorem zx.sF:IR.run zx.t9 C N O K (zx.fr f g q s p v u w y A) h nx =
 zo .add .int y (I 1) fun v1=>K (zx.fr f g q s p v u w v1 A) h nx:=by kernel_rfl
theorem zx.zci (Inv:Nat->AV->AV->T Blk->Pa->Prop) {m:Nat} (hm:m<N) (hi:Inv m p y h nx)
  (step:∀ (m:Nat) (z4 z5 z8 z9:AV) (h:T Blk) (nx:Pa) (R:Ks Prop),Inv m z4 z8 h nx->(∀ (m':Nat) (w4 w5 w8 w9:AV) (h':T Blk) (nx':Pa),m'<m->Inv m' w4 w8 h' nx'->R (zx.fr f g q s w4 w5 u w w8 w9) h' nx'=.ok True)->IR.run zx.t12 C N O R (zx.fr f g q s z4 z5 u w z8 z9) h nx=.ok True) :
  IR.run zx.t13 C N O K (zx.fr f g q s p v u w y A) h nx=.ok True:=by
 rw [zx.t13];refine yF (fun m tm h nx=>∃ z4 z5 z8 z9,tm=(zx.fr f g q s z4 z5 u w z8 z9)/\Inv m z4 z8 h nx) ?_ hm ⟨_,_,_,_,rfl,hi⟩;rintro m tm h nx R ⟨z4,z5,z8,z9,rfl,hi⟩ hR;exact step m z4 z5 z8 z9 h nx R hi fun m' w4 w5 w8 w9 h' nx' hlt hi'=>hR m' _ h' nx' hlt ⟨_,_,_,_,rfl,hi'⟩
theorem zx.rY:IR.run zx.t16 C N O K (zx.fr f g q s p v u w y A) h nx =
 C.fn 91 (.of 91) [p] h nx fun v1 h2 n3=>K (zx.fr f g q s p v u w y A) h2 n3:=by kernel_rfl
theorem zx.aS:IR.run zx.t17 C N O K (zx.fr f g q s p v u w y A) h nx =
 zE q h fun v1=>gI [.zh,(.bool false)] [(0,1,p)] fun v2=>C.fn 123 (.of 123) [v2] h nx fun v3 h4 n5=>(zE q h4 fun v7=>zN v7 v1 (zen .str (.bool false) false v1 v3 h4 fun v6=>K (zx.fr f g q v6 p v u w y A) h4 n5)):=by kernel_rfl
theorem zx.tab:T.get none (.of 169) tbl=some zx:=by kernel_rfl
theorem zx.bind (k:T AV->OP):jA zx.params [a0,a1,a2] zx.init k=k (zx.fr a0 a1 a2 .undef .undef .undef .undef .undef .undef .undef):=by kernel_rfl
theorem zx.xq:zx.body=zx.t22:=by kernel_rfl
theorem zx.go:zV tbl N C (.of 169) [a0,a1,a2] h nx K0=IR.run zx.t22 C N (fnO zx.res K0) (wu zx.res K0) (zx.fr a0 a1 a2 .undef .undef .undef .undef .undef .undef .undef) h nx:=by
 rw [zI zx.tab,zx.bind,zx.xq];kernel_rfl
theorem zx.ret:wu zx.res K0 (zx.fr f g q s p v u w y A) h nx=K0 s h nx:=by kernel_rfl
end
end Go.Ev
namespace Go.Ev
open Go Go.Proofs
set_option maxRecDepth 100000
section
variable {N:Nat} {C:Calls Prop} {K0:Kw Prop} {K:Ks Prop} {h:T Blk} {nx:Pa} {f g q s p v u w y A a b d c e a0 a1:AV} {O:jl Prop} {tm:T AV} {Kt:KTm} {r:List RO} {s0 s1 s2 s3 s4 s5 s6 s7 s8 s9 s10 s11 s12 s13 s14 s15 s16 s17 s18 s19 s20 s21 s22 s23 s24 s25 s26 s27 s28 s29 s30 s31 s32 s33 s34 s35 s36 s37 s38 s39 s40 s41 s42 s43 s44 s45 s46 s47 s48 s49 s50 s51 s52 s53 s54 s55 s56 s57 s58 s59:AV}
def F73.t0:IR:=.reg [.w (.loc (.of 2)) none (.box (.t (.of 0))),.w (.loc (.of 3)) none (.box (.t (.of 1))),.q (.of 4) (.mv (.c (.bool false))),.q (.of 5) (.mv (.c (I 0)))]
def F73.t1:IR:=.yt [] [(.s (.zi 2 (.t (.of 2))),0,[]),(.s (.zi 2 (.t (.of 3))),1,[]),(.s (.zn 0 (.t (.of 2))),1,[]),(.s (.load (.s 0)),1,[]),(.w .push none (.call (.c (.fn 103 (.of 103) [])) [(.s 3)]),0,[]),(.w .push none (.call (.c (.fn 56 (.of 56) [])) [(.s 3),(.s 1)]),0,[]),(.w .push none (.yc 1 2 [(I 0)] [(0,1,(.s 1)),(1,1,(.s 0))]),0,[]),(.w .push none (.call (.c (.fn 94 (.of 94) [])) [(.s 0)]),0,[]),(.q (.of 6) (.mv (.s 0)),0,[])]
def F73.t2:IR:=.reg [.s (.mv (.t (.of 6))),.q (.of 9) (.bin .neq .int (.s 0) (.c (I 0)))]
def F73.t3:IR:=.reg [.s (.mv (.t (.of 6))),.q (.of 4) (.mv (.c (.bool false))),.q (.of 5) (.mv (.s 0))]
def F73.t4:IR:=.seq F73.t3 .ret
def F73.t5:IR:=.cond (.t (.of 9)) F73.t4 .skip
def F73.t6:IR:=.seq F73.t2 F73.t5
def F73.t7:IR:=.seq F73.t1 F73.t6
def F73.t8:IR:=.reg [.s (.zi 2 (.t (.of 2))),.w .push none (.call (.c (.fn 104 (.of 104) [])) [(.s 0)]),.q (.of 7) (.mv (.s 0))]
def F73.t9:IR:=.reg [.s (.zn 1 (.t (.of 2))),.q (.of 10) (.load (.s 0)),.q (.of 11) (.len (.t (.of 10))),.q (.of 12) (.mv (.c (I 0)))]
def F73.t10:IR:=.reg [.q (.of 13) (.bin .lss .int (.t (.of 12)) (.t (.of 11)))]
def F73.t11:IR:=.cond (.t (.of 13)) .skip (.exit 0)
def F73.t12:IR:=.reg [.s (.zu 1 (.t (.of 10)) (.t (.of 12))),.s (.load (.s 0)),.q (.of 8) (.mv (.s 0))]
def F73.t13:IR:=.reg [.s (.mv (.t (.of 7))),.s (.zn 0 (.t (.of 3))),.s (.load (.s 0)),.s (.mv (.t (.of 8))),.w .push none (.call (.s 3) [(.s 1),(.s 0)]),.q (.of 14) (.not (.s 0))]
def F73.t14:IR:=.reg [.q (.of 4) (.mv (.c (.bool false))),.q (.of 5) (.mv (.c (I 0)))]
def F73.t15:IR:=.seq F73.t14 .ret
def F73.t16:IR:=.cond (.t (.of 14)) F73.t15 .skip
def F73.t17:IR:=.seq F73.t13 F73.t16
def F73.t18:IR:=.seq F73.t12 F73.t17
def F73.t19:IR:=.block 1 F73.t18
def F73.t20:IR:=.reg [.s (.bin .add .int (.t (.of 12)) (.c (I 1))),.q (.of 12) (.mv (.s 0))]
def F73.t21:IR:=.seq F73.t19 F73.t20
def F73.t22:IR:=.seq F73.t11 F73.t21
def F73.t23:IR:=.seq F73.t10 F73.t22
def F73.t24:IR:=.loop F73.t23
def F73.t25:IR:=.block 0 F73.t24
def F73.t26:IR:=.seq F73.t9 F73.t25
def F73.t27:IR:=.reg [.q (.of 4) (.mv (.c (.bool true))),.q (.of 5) (.mv (.c (I 0)))]
def F73.t28:IR:=.seq F73.t27 .ret
def F73.t29:IR:=.seq F73.t26 F73.t28
def F73.t30:IR:=.seq F73.t8 F73.t29
def F73.t31:IR:=.seq F73.t7 F73.t30
def F73.t32:IR:=.seq F73.t0 F73.t31
theorem F73.rV:IR.run F73.t0 C N O K (F73.fr f g q s p v u w y A a b d c e) h nx =
 cu f h nx fun v1 h2 n3=>cu g h2 n3 fun v4 h5 n6=>K (F73.fr f g v1 v4 (.bool false) (I 0) u w y A a b d c e) h5 n6:=by kernel_rfl
theorem F73.rW:IR.run F73.t1 C N O K (F73.fr f g q s p v u w y A a b d c e) h nx =
 zH 2 q h fun v1=>zH 2 s h fun v2=>zL 0 q fun v3=>zE v3 h fun v4=>C.fn 103 (.of 103) [v1] h nx fun v5 h6 n7=>(zE v3 h6 fun vJ=>zN vJ v4 ((zL 0 q fun vG=>zN vG v3 ((zH 2 s h6 fun vF=>zN vF v2 (C.fn 56 (.of 56) [v2,v4] h6 n7 fun v8 h9 nH=>yY 1 2 [(I 0)] [(0,1,v5),(1,1,v8)] h9 nH fun vI hH nI=>C.fn 94 (.of 94) [vI] hH nI fun vC hB nB=>K (F73.fr f g q s p v vC w y A a b d c e) hB nB)))))):=by kernel_rfl
theorem F73.rX:IR.run F73.t2 C N O K (F73.fr f g q s p v u w y A a b d c e) h nx =
 zo .neq .int u (I 0) fun v1=>K (F73.fr f g q s p v u w y v1 a b d c e) h nx:=by kernel_rfl
theorem F73.ay:IR.run F73.t3 C N O K (F73.fr f g q s p v u w y A a b d c e) h nx =
 K (F73.fr f g q s (.bool false) u u w y A a b d c e) h nx:=by kernel_rfl
theorem F73.v9:Arg.ev (.t (.of 9)) ⟨(F73.fr f g q s p v u w y A a b d c e),[]⟩=A:=by kernel_rfl
theorem F73.eH:IR.run F73.t8 C N O K (F73.fr f g q s p v u w y A a b d c e) h nx =
 zH 2 q h fun v1=>C.fn 104 (.of 104) [v1] h nx fun v2 h3 n4=>K (F73.fr f g q s p v u v2 y A a b d c e) h3 n4:=by kernel_rfl
theorem F73.sF:IR.run F73.t9 C N O K (F73.fr f g q s p v u w y A a b d c e) h nx =
 zL 1 q fun v1=>zE v1 h fun v2=>sLen v2 fun v3=>K (F73.fr f g q s p v u w y A v2 v3 (I 0) c e) h nx:=by kernel_rfl
theorem F73.aA:IR.run F73.t10 C N O K (F73.fr f g q s p v u w y A a b d c e) h nx =
 zo .lss .int d b fun v1=>K (F73.fr f g q s p v u w y A a b d v1 e) h nx:=by kernel_rfl
theorem F73.v13:Arg.ev (.t (.of 13)) ⟨(F73.fr f g q s p v u w y A a b d c e),[]⟩=c:=by kernel_rfl
theorem F73.zaf:IR.run F73.t12 C N O K (F73.fr f g q s p v u w y A a b d c e) h nx =
 zO 1 a d fun v1=>zE v1 h fun v2=>K (F73.fr f g q s p v u w v2 A a b d c e) h nx:=by kernel_rfl
theorem F73.zlr:IR.run F73.t13 C N O K (F73.fr f g q s p v u w y A a b d c e) h nx =
 zL 0 s fun v1=>zE v1 h fun v2=>vQ C w [v2,y] h nx fun v3 h4 n5=>sQ v3 fun v6=>K (F73.fr f g q s p v u w y A a b d c v6) h4 n5:=by kernel_rfl
theorem F73.oC:IR.run F73.t14 C N O K (F73.fr f g q s p v u w y A a b d c e) h nx =
 K (F73.fr f g q s (.bool false) (I 0) u w y A a b d c e) h nx:=by kernel_rfl
theorem F73.v14:Arg.ev (.t (.of 14)) ⟨(F73.fr f g q s p v u w y A a b d c e),[]⟩=e:=by kernel_rfl
theorem F73.zeo:IR.run F73.t20 C N O K (F73.fr f g q s p v u w y A a b d c e) h nx =
 zo .add .int d (I 1) fun v1=>K (F73.fr f g q s p v u w y A a b v1 c e) h nx:=by kernel_rfl
theorem F73.zt6 (Inv:Nat->AV->T Blk->Pa->Prop) {m:Nat} (hm:m<N) (hi:Inv m d h nx)
  (step:∀ (m:Nat) (z4 z5 z8 zC zD zF:AV) (h:T Blk) (nx:Pa) (R:Ks Prop),Inv m zC h nx->(∀ (m':Nat) (w4 w5 w8 wC wD wE:AV) (h':T Blk) (nx':Pa),m'<m->Inv m' wC h' nx'->R (F73.fr f g q s w4 w5 u w w8 A a b wC wD wE) h' nx'=.ok True)->IR.run F73.t23 C N O R (F73.fr f g q s z4 z5 u w z8 A a b zC zD zF) h nx=.ok True) :
  IR.run F73.t24 C N O K (F73.fr f g q s p v u w y A a b d c e) h nx=.ok True:=by
 rw [F73.t24];refine yF (fun m tm h nx=>∃ z4 z5 z8 zC zD zF,tm=(F73.fr f g q s z4 z5 u w z8 A a b zC zD zF)/\Inv m zC h nx) ?_ hm ⟨_,_,_,_,_,_,rfl,hi⟩;rintro m tm h nx R ⟨z4,z5,z8,zC,zD,zF,rfl,hi⟩ hR;exact step m z4 z5 z8 zC zD zF h nx R hi fun m' w4 w5 w8 wC wD wE h' nx' hlt hi'=>hR m' _ h' nx' hlt ⟨_,_,_,_,_,_,rfl,hi'⟩
theorem F73.zls:IR.run F73.t27 C N O K (F73.fr f g q s p v u w y A a b d c e) h nx =
 K (F73.fr f g q s (.bool true) (I 0) u w y A a b d c e) h nx:=by kernel_rfl
theorem F73.tab:T.get none (.of 73) tbl=some F73:=by kernel_rfl
theorem F73.bind (k:T AV->OP):jA F73.params [a0,a1] F73.init k=k (F73.fr a0 a1 .undef .undef .undef .undef .undef .undef .undef .undef .undef .undef .undef .undef .undef):=by kernel_rfl
theorem F73.xq:F73.body=F73.t32:=by kernel_rfl
theorem F73.go:zV tbl N C (.of 73) [a0,a1] h nx K0=IR.run F73.t32 C N (fnO F73.res K0) (wu F73.res K0) (F73.fr a0 a1 .undef .undef .undef .undef .undef .undef .undef .undef .undef .undef .undef .undef .undef) h nx:=by
 rw [zI F73.tab,F73.bind,F73.xq];kernel_rfl
theorem F73.ret:wu F73.res K0 (F73.fr f g q s p v u w y A a b d c e) h nx=K0 (.tup [p,v]) h nx:=by kernel_rfl
end
end Go.Ev
namespace Go.Ev
open Go Go.Proofs
set_option maxRecDepth 100000
section
variable {N:Nat} {C:Calls Prop} {K0:Kw Prop} {K:Ks Prop} {h:T Blk} {nx:Pa} {f g q s p v u w y A a b d c e i l o z B D F E a0 a1 a2 a3 a4 a5 a6 a7:AV} {O:jl Prop} {tm:T AV} {Kt:KTm} {r:List RO} {s0 s1 s2 s3 s4 s5 s6 s7 s8 s9 s10 s11 s12 s13 s14 s15 s16 s17 s18 s19 s20 s21 s22 s23 s24 s25 s26 s27 s28 s29 s30 s31 s32 s33 s34 s35 s36 s37 s38 s39 s40 s41 s42 s43 s44 s45 s46 s47 s48 s49 s50 s51 s52 s53 s54 s55 s56 s57 s58 s59:AV}
def F34.t0:IR:=.reg [.w (.loc (.of 1)) none (.box (.t (.of 0))),.q (.of 2) (.mv (.c .zh)),.q (.of 3) (.mv (.c (I 0)))]
def F34.t1:IR:=.yt [] [(.s (.zi 2 (.t (.of 1))),0,[]),(.s (.zn 0 (.t (.of 1))),1,[]),(.s (.load (.s 0)),1,[]),(.s (.bin .gtr .int (.s 0) (.c (I 9))),1,[]),(.w .push none (.call (.c (.fn 103 (.of 103) [])) [(.s 3)]),0,[]),(.w .push none (.call (.c (.fn 96 (.of 96) [])) [(.s 1),(.c (I 20))]),0,[]),(.w .push none (.yc 1 2 [(I 0)] [(0,1,(.s 1)),(1,1,(.s 0))]),0,[]),(.w .push none (.call (.c (.fn 94 (.of 94) [])) [(.s 0)]),0,[]),(.q (.of 4) (.mv (.s 0)),0,[])]
def F34.t2:IR:=.reg [.s (.mv (.t (.of 4))),.q (.of 13) (.bin .neq .int (.s 0) (.c (I 0)))]
def F34.t3:IR:=.reg [.s (.mv (.t (.of 4))),.q (.of 2) (.mv (.c .zh)),.q (.of 3) (.mv (.s 0))]
def F34.t4:IR:=.seq F34.t3 .ret
def F34.t5:IR:=.cond (.t (.of 13)) F34.t4 .skip
def F34.t6:IR:=.seq F34.t2 F34.t5
def F34.t7:IR:=.seq F34.t1 F34.t6
def F34.t8:IR:=.reg [.s (.zi 2 (.t (.of 1))),.w .push none (.call (.c (.fn 104 (.of 104) [])) [(.s 0)]),.w (.loc (.of 5)) none (.alloc [.fK]),.w .none none (.store 1 (.t (.of 5)) (.s 0))]
def F34.t9:IR:=.reg [.s (.zn 0 (.t (.of 1))),.s (.load (.s 0)),.w .push none (.gu 1 24 [.zh] (.s 0) (.s 0)),.w (.loc (.of 6)) none (.alloc [.zh]),.w .none none (.store 1 (.t (.of 6)) (.s 0))]
def F34.t10:IR:=.reg [.s (.zn 1 (.t (.of 1))),.q (.of 14) (.load (.s 0)),.q (.of 15) (.len (.t (.of 14))),.q (.of 16) (.mv (.c (I 0)))]
def F34.t11:IR:=.reg [.q (.of 17) (.bin .lss .int (.t (.of 16)) (.t (.of 15)))]
def F34.t12:IR:=.cond (.t (.of 17)) .skip (.exit 0)
def F34.t13:IR:=.reg [.s (.zu 1 (.t (.of 14)) (.t (.of 16))),.s (.load (.s 0)),.q (.of 7) (.mv (.s 0))]
def F34.t14:IR:=.reg [.s (.mv (.t (.of 7))),.s (.mv (.t (.of 7))),.s (.len (.s 0)),.s (.bin .sub .int (.s 0) (.c (I 1))),.s (.zu 1 (.s 3) (.s 0)),.s (.load (.s 0)),.q (.of 8) (.mv (.s 0))]
def F34.t15:IR:=.yt [] [(.s (.load (.t (.of 6))),2,[]),(.s (.mv (.t (.of 8))),2,[]),(.s (.load (.t (.of 6))),1,[]),(.s (.mv (.t (.of 8))),1,[]),(.s (.zu 1 (.s 1) (.s 0)),1,[]),(.s (.load (.s 0)),1,[]),(.s (.mv (.t (.of 7))),0,[]),(.w .push none (.yc 1 1 [.zh] [(0,1,(.s 0))]),0,[]),(.w .push none (.app 1 24 (.s 2) (.s 0)),0,[]),(.s (.zu 1 (.s 8) (.s 7)),0,[]),(.w .none none (.store 1 (.s 0) (.s 1)),0,[])]
def F34.t16:IR:=.seq F34.t14 F34.t15
def F34.t17:IR:=.seq F34.t13 F34.t16
def F34.t18:IR:=.block 1 F34.t17
def F34.t19:IR:=.reg [.s (.bin .add .int (.t (.of 16)) (.c (I 1))),.q (.of 16) (.mv (.s 0))]
def F34.t20:IR:=.seq F34.t18 F34.t19
def F34.t21:IR:=.seq F34.t12 F34.t20
def F34.t22:IR:=.seq F34.t11 F34.t21
def F34.t23:IR:=.loop F34.t22
def F34.t24:IR:=.block 0 F34.t23
def F34.t25:IR:=.seq F34.t10 F34.t24
def F34.t26:IR:=.reg [.w (.loc (.of 9)) none (.alloc [.zh])]
def F34.t27:IR:=.reg [.s (.zn 0 (.t (.of 1))),.s (.load (.s 0)),.w .push none (.gu 1 8 [(I 0)] (.s 0) (.s 0)),.w (.loc (.of 10)) none (.alloc [.zh]),.w .none none (.store 1 (.t (.of 10)) (.s 0))]
def F34.t28:IR:=.reg [.s (.zn 0 (.t (.of 1))),.s (.load (.s 0)),.w .push none (.gu 1 1 [(.bool false)] (.s 0) (.s 0)),.w (.loc (.of 11)) none (.alloc [.zh]),.w .none none (.store 1 (.t (.of 11)) (.s 0))]
def F34.t29:IR:=.reg [.w (.loc (.of 12)) none (.alloc [.fK])]
def F34.t30:IR:=.reg [.s (.fn 105 (.of 105) [(.t (.of 1)),(.t (.of 9)),(.t (.of 10)),(.t (.of 11)),(.t (.of 6)),(.t (.of 5)),(.t (.of 12))]),.w .none none (.store 1 (.t (.of 12)) (.s 0))]
def F34.t31:IR:=.reg [.s (.load (.t (.of 12))),.w .push none (.call (.s 0) [(.c (I 0))]),.q (.of 18) (.not (.s 0))]
def F34.t32:IR:=.reg [.q (.of 2) (.mv (.c .zh)),.q (.of 3) (.mv (.c (I 5)))]
def F34.t33:IR:=.seq F34.t32 .ret
def F34.t34:IR:=.cond (.t (.of 18)) F34.t33 .skip
def F34.t35:IR:=.seq F34.t31 F34.t34
def F34.t36:IR:=.reg [.s (.load (.t (.of 9))),.q (.of 2) (.mv (.s 0)),.q (.of 3) (.mv (.c (I 0)))]
def F34.t37:IR:=.seq F34.t36 .ret
def F34.t38:IR:=.seq F34.t35 F34.t37
def F34.t39:IR:=.seq F34.t30 F34.t38
def F34.t40:IR:=.seq F34.t29 F34.t39
def F34.t41:IR:=.seq F34.t28 F34.t40
def F34.t42:IR:=.seq F34.t27 F34.t41
def F34.t43:IR:=.seq F34.t26 F34.t42
def F34.t44:IR:=.seq F34.t25 F34.t43
def F34.t45:IR:=.seq F34.t9 F34.t44
def F34.t46:IR:=.seq F34.t8 F34.t45
def F34.t47:IR:=.seq F34.t7 F34.t46
def F34.t48:IR:=.seq F34.t0 F34.t47
theorem F34.rV:IR.run F34.t0 C N O K (F34.fr f g q s p v u w y A a b d c e i l o z) h nx =
 cu f h nx fun v1 h2 n3=>K (F34.fr f v1 .zh (I 0) p v u w y A a b d c e i l o z) h2 n3:=by kernel_rfl
theorem F34.rW:IR.run F34.t1 C N O K (F34.fr f g q s p v u w y A a b d c e i l o z) h nx =
 zH 2 g h fun v1=>zL 0 g fun v2=>zE v2 h fun v3=>zo .gtr .int v3 (I 9) fun v4=>C.fn 103 (.of 103) [v1] h nx fun v5 h6 n7=>(zo .gtr .int v3 (I 9) fun vJ=>zN vJ v4 ((zE v2 h6 fun vG=>zN vG v3 ((zL 0 g fun vF=>zN vF v2 (C.fn 96 (.of 96) [v4,(I 20)] h6 n7 fun v8 h9 nH=>yY 1 2 [(I 0)] [(0,1,v5),(1,1,v8)] h9 nH fun vI hH nI=>C.fn 94 (.of 94) [vI] hH nI fun vC hB nB=>K (F34.fr f g q s vC v u w y A a b d c e i l o z) hB nB)))))):=by kernel_rfl
theorem F34.rX:IR.run F34.t2 C N O K (F34.fr f g q s p v u w y A a b d c e i l o z) h nx =
 zo .neq .int p (I 0) fun v1=>K (F34.fr f g q s p v u w y A a b d v1 e i l o z) h nx:=by kernel_rfl
theorem F34.v13:Arg.ev (.t (.of 13)) ⟨(F34.fr f g q s p v u w y A a b d c e i l o z),[]⟩=c:=by kernel_rfl
theorem F34.eH:IR.run F34.t8 C N O K (F34.fr f g q s p v u w y A a b d c e i l o z) h nx =
 zH 2 g h fun v1=>C.fn 104 (.of 104) [v1] h nx fun v2 h3 n4=>yI [.fK] h3 n4 fun v5 h6 n7=>zQ 1 v5 v2 h6 n7 fun v8 h9 nH=>K (F34.fr f g q s p v5 u w y A a b d c e i l o z) h9 nH:=by kernel_rfl
theorem F34.sF:IR.run F34.t9 C N O K (F34.fr f g q s p v u w y A a b d c e i l o z) h nx =
 zL 0 g fun v1=>zE v1 h fun v2=>gR 1 24 [.zh] v2 v2 h nx fun v3 h4 n5=>yI [.zh] h4 n5 fun v6 h7 n8=>zQ 1 v6 v3 h7 n8 fun v9 hA nA=>K (F34.fr f g q s p v v6 w y A a b d c e i l o z) hA nA:=by kernel_rfl
theorem F34.aA:IR.run F34.t10 C N O K (F34.fr f g q s p v u w y A a b d c e i l o z) h nx =
 zL 1 g fun v1=>zE v1 h fun v2=>sLen v2 fun v3=>K (F34.fr f g q s p v u w y A a b d c v2 v3 (I 0) o z) h nx:=by kernel_rfl
theorem F34.zae:IR.run F34.t11 C N O K (F34.fr f g q s p v u w y A a b d c e i l o z) h nx =
 zo .lss .int l i fun v1=>K (F34.fr f g q s p v u w y A a b d c e i l v1 z) h nx:=by kernel_rfl
theorem F34.v17:Arg.ev (.t (.of 17)) ⟨(F34.fr f g q s p v u w y A a b d c e i l o z),[]⟩=o:=by kernel_rfl
theorem F34.zlr:IR.run F34.t13 C N O K (F34.fr f g q s p v u w y A a b d c e i l o z) h nx =
 zO 1 e l fun v1=>zE v1 h fun v2=>K (F34.fr f g q s p v u v2 y A a b d c e i l o z) h nx:=by kernel_rfl
theorem F34.oC:IR.run F34.t14 C N O K (F34.fr f g q s p v u w y A a b d c e i l o z) h nx =
 sLen w fun v1=>zo .sub .int v1 (I 1) fun v2=>zO 1 w v2 fun v3=>zE v3 h fun v4=>K (F34.fr f g q s p v u w v4 A a b d c e i l o z) h nx:=by kernel_rfl
theorem F34.aB:IR.run F34.t15 C N O K (F34.fr f g q s p v u w y A a b d c e i l o z) h nx =
 zE u h fun v1=>zE u h fun v2=>zO 1 v2 y fun v3=>zE v3 h fun v4=>yY 1 1 [.zh] [(0,1,w)] h nx fun v5 h6 n7=>(zE v3 h6 fun vJ=>zN vJ v4 ((zO 1 v2 y fun vG=>zN vG v3 (zN y y ((zE u h6 fun vF=>zN vF v2 (zN y y ((zE u h6 fun vE=>zN vE v1 (tq 1 24 v4 v5 h6 n7 fun v8 h9 nH=>zN y y ((zE u h9 fun vD=>zN vD v1 (zO 1 v1 y fun vI=>zQ 1 vI v8 h9 nH fun vA h13 n14=>K (F34.fr f g q s p v u w y A a b d c e i l o z) h13 n14))))))))))))):=by kernel_rfl
theorem F34.zac:IR.run F34.t19 C N O K (F34.fr f g q s p v u w y A a b d c e i l o z) h nx =
 zo .add .int l (I 1) fun v1=>K (F34.fr f g q s p v u w y A a b d c e i v1 o z) h nx:=by kernel_rfl
theorem F34.zt7 (Inv:Nat->AV->T Blk->Pa->Prop) {m:Nat} (hm:m<N) (hi:Inv m l h nx)
  (step:∀ (m:Nat) (z7 z8 zJ zK:AV) (h:T Blk) (nx:Pa) (R:Ks Prop),Inv m zJ h nx->(∀ (m':Nat) (w7 w8 wG wH:AV) (h':T Blk) (nx':Pa),m'<m->Inv m' wG h' nx'->R (F34.fr f g q s p v u w7 w8 A a b d c e i wG wH z) h' nx'=.ok True)->IR.run F34.t22 C N O R (F34.fr f g q s p v u z7 z8 A a b d c e i zJ zK z) h nx=.ok True) :
  IR.run F34.t23 C N O K (F34.fr f g q s p v u w y A a b d c e i l o z) h nx=.ok True:=by
 rw [F34.t23];refine yF (fun m tm h nx=>∃ z7 z8 zJ zK,tm=(F34.fr f g q s p v u z7 z8 A a b d c e i zJ zK z)/\Inv m zJ h nx) ?_ hm ⟨_,_,_,_,rfl,hi⟩;rintro m tm h nx R ⟨z7,z8,zJ,zK,rfl,hi⟩ hR;exact step m z7 z8 zJ zK h nx R hi fun m' w7 w8 wG wH h' nx' hlt hi'=>hR m' _ h' nx' hlt ⟨_,_,_,_,rfl,hi'⟩
theorem F34.zt8:IR.run F34.t26 C N O K (F34.fr f g q s p v u w y A a b d c e i l o z) h nx =
 yI [.zh] h nx fun v1 h2 n3=>K (F34.fr f g q s p v u w y v1 a b d c e i l o z) h2 n3:=by kernel_rfl
theorem F34.zls:IR.run F34.t27 C N O K (F34.fr f g q s p v u w y A a b d c e i l o z) h nx =
 zL 0 g fun v1=>zE v1 h fun v2=>gR 1 8 [(I 0)] v2 v2 h nx fun v3 h4 n5=>yI [.zh] h4 n5 fun v6 h7 n8=>zQ 1 v6 v3 h7 n8 fun v9 hA nA=>K (F34.fr f g q s p v u w y A v6 b d c e i l o z) hA nA:=by kernel_rfl
theorem F34.zt9:IR.run F34.t28 C N O K (F34.fr f g q s p v u w y A a b d c e i l o z) h nx =
 zL 0 g fun v1=>zE v1 h fun v2=>gR 1 1 [(.bool false)] v2 v2 h nx fun v3 h4 n5=>yI [.zh] h4 n5 fun v6 h7 n8=>zQ 1 v6 v3 h7 n8 fun v9 hA nA=>K (F34.fr f g q s p v u w y A a v6 d c e i l o z) hA nA:=by kernel_rfl
theorem F34.zua:IR.run F34.t29 C N O K (F34.fr f g q s p v u w y A a b d c e i l o z) h nx =
 yI [.fK] h nx fun v1 h2 n3=>K (F34.fr f g q s p v u w y A a b v1 c e i l o z) h2 n3:=by kernel_rfl
theorem F34.zlo:IR.run F34.t30 C N O K (F34.fr f g q s p v u w y A a b d c e i l o z) h nx =
 zQ 1 d (.fn 105 (.of 105) [g,A,a,b,u,v,d]) h nx fun v1 h2 n3=>K (F34.fr f g q s p v u w y A a b d c e i l o z) h2 n3:=by kernel_rfl
theorem F34.zad:IR.run F34.t31 C N O K (F34.fr f g q s p v u w y A a b d c e i l o z) h nx =
 zE d h fun v1=>vQ C v1 [(I 0)] h nx fun v2 h3 n4=>sQ v2 fun v5=>K (F34.fr f g q s p v u w y A a b d c e i l o v5) h3 n4:=by kernel_rfl
theorem F34.v18:Arg.ev (.t (.of 18)) ⟨(F34.fr f g q s p v u w y A a b d c e i l o z),[]⟩=z:=by kernel_rfl
theorem F34.zue:IR.run F34.t36 C N O K (F34.fr f g q s p v u w y A a b d c e i l o z) h nx =
 zE A h fun v1=>K (F34.fr f g v1 (I 0) p v u w y A a b d c e i l o z) h nx:=by kernel_rfl
theorem F34.tab:T.get none (.of 34) tbl=some F34:=by kernel_rfl
theorem F34.bind (k:T AV->OP):jA F34.params [a0] F34.init k=k (F34.fr a0 .undef .undef .undef .undef .undef .undef .undef .undef .undef .undef .undef .undef .undef .undef .undef .undef .undef .undef):=by kernel_rfl
theorem F34.xq:F34.body=F34.t48:=by kernel_rfl
theorem F34.go:zV tbl N C (.of 34) [a0] h nx K0=IR.run F34.t48 C N (fnO F34.res K0) (wu F34.res K0) (F34.fr a0 .undef .undef .undef .undef .undef .undef .undef .undef .undef .undef .undef .undef .undef .undef .undef .undef .undef .undef) h nx:=by
 rw [zI F34.tab,F34.bind,F34.xq];kernel_rfl
theorem F34.ret:wu F34.res K0 (F34.fr f g q s p v u w y A a b d c e i l o z) h nx=K0 (.tup [q,s]) h nx:=by kernel_rfl
def zf.t0:IR:=.reg [.q (.of 8) (.mv (.c (.bool false)))]
def zf.t1:IR:=.reg [.s (.mv (.t (.of 0))),.s (.zn 0 (.t (.of 1))),.s (.load (.s 0)),.q (.of 12) (.bin .eql .int (.s 2) (.s 0))]
def zf.t2:IR:=.yt [] [(.s (.load (.t (.of 2))),2,[]),(.s (.load (.t (.of 3))),0,[]),(.w .push none (.call (.c (.fn 106 (.of 106) [])) [(.s 0)]),0,[]),(.s (.build [.zh,(.bool false)] [(0,1,(.s 0))]),0,[]),(.w .push none (.yc 2 1 [.zh,(.bool false)] [(0,2,(.s 0))]),0,[]),(.w .push none (.appq 2 32 (.s 4) (.s 0)),0,[]),(.w .none none (.store 1 (.t (.of 2)) (.s 0)),0,[])]
def zf.t3:IR:=.reg [.s (.load (.t (.of 2))),.s (.len (.s 0)),.s (.bin .leq .int (.s 0) (.c (I 1536))),.q (.of 8) (.mv (.s 0))]
def zf.t4:IR:=.seq zf.t3 .ret
def zf.t5:IR:=.seq zf.t2 zf.t4
def zf.t6:IR:=.cond (.t (.of 12)) zf.t5 .skip
def zf.t7:IR:=.seq zf.t1 zf.t6
def zf.t8:IR:=.reg [.s (.zn 0 (.t (.of 1))),.q (.of 13) (.load (.s 0)),.q (.of 14) (.mv (.c (I 0)))]
def zf.t9:IR:=.reg [.q (.of 15) (.bin .lss .int (.t (.of 14)) (.t (.of 13)))]
def zf.t10:IR:=.cond (.t (.of 15)) .skip (.exit 0)
def zf.t11:IR:=.reg [.s (.mv (.t (.of 14))),.q (.of 9) (.mv (.s 0))]
def zf.t12:IR:=.reg [.s (.load (.t (.of 4))),.s (.mv (.t (.of 9))),.s (.zu 1 (.s 1) (.s 0)),.q (.of 16) (.load (.s 0))]
def zf.t13:IR:=.cond (.t (.of 16)) (.exit 1) .skip
def zf.t14:IR:=.seq zf.t12 zf.t13
def zf.t15:IR:=.reg [.s (.load (.t (.of 3))),.s (.mv (.t (.of 0))),.s (.mv (.t (.of 9))),.s (.zu 1 (.s 2) (.s 1)),.w .none none (.store 1 (.s 0) (.s 1))]
def zf.t16:IR:=.reg [.s (.load (.t (.of 5))),.s (.mv (.t (.of 0))),.s (.zu 1 (.s 1) (.s 0)),.q (.of 17) (.load (.s 0)),.q (.of 18) (.len (.t (.of 17))),.q (.of 19) (.mv (.c (I 0)))]
def zf.t17:IR:=.reg [.q (.of 20) (.bin .lss .int (.t (.of 19)) (.t (.of 18)))]
def zf.t18:IR:=.cond (.t (.of 20)) .skip (.exit 2)
def zf.t19:IR:=.reg [.s (.zu 1 (.t (.of 17)) (.t (.of 19))),.s (.load (.s 0)),.q (.of 10) (.mv (.s 0))]
def zf.t20:IR:=.reg [.s (.load (.t (.of 6))),.s (.load (.t (.of 3))),.s (.mv (.t (.of 10))),.w .push none (.call (.s 2) [(.s 1),(.s 0)]),.q (.of 21) (.not (.s 0))]
def zf.t21:IR:=.cond (.t (.of 21)) (.exit 1) .skip
def zf.t22:IR:=.seq zf.t20 zf.t21
def zf.t23:IR:=.seq zf.t19 zf.t22
def zf.t24:IR:=.block 3 zf.t23
def zf.t25:IR:=.reg [.s (.bin .add .int (.t (.of 19)) (.c (I 1))),.q (.of 19) (.mv (.s 0))]
def zf.t26:IR:=.seq zf.t24 zf.t25
def zf.t27:IR:=.seq zf.t18 zf.t26
def zf.t28:IR:=.seq zf.t17 zf.t27
def zf.t29:IR:=.loop zf.t28
def zf.t30:IR:=.block 2 zf.t29
def zf.t31:IR:=.seq zf.t16 zf.t30
def zf.t32:IR:=.reg [.s (.load (.t (.of 4))),.s (.mv (.t (.of 9))),.s (.zu 1 (.s 1) (.s 0)),.w .none none (.store 1 (.s 0) (.c (.bool true)))]
def zf.t33:IR:=.reg [.s (.load (.t (.of 7))),.s (.mv (.t (.of 0))),.s (.bin .add .int (.s 0) (.c (I 1))),.w .push none (.call (.s 2) [(.s 0)]),.q (.of 11) (.mv (.s 0))]
def zf.t34:IR:=.reg [.s (.load (.t (.of 4))),.s (.mv (.t (.of 9))),.s (.zu 1 (.s 1) (.s 0)),.w .none none (.store 1 (.s 0) (.c (.bool false)))]
def zf.t35:IR:=.reg [.s (.mv (.t (.of 11))),.q (.of 22) (.not (.s 0))]
def zf.t36:IR:=.reg [.q (.of 8) (.mv (.c (.bool false)))]
def zf.t37:IR:=.seq zf.t36 .ret
def zf.t38:IR:=.cond (.t (.of 22)) zf.t37 .skip
def zf.t39:IR:=.seq zf.t35 zf.t38
def zf.t40:IR:=.seq zf.t34 zf.t39
def zf.t41:IR:=.seq zf.t33 zf.t40
def zf.t42:IR:=.seq zf.t32 zf.t41
def zf.t43:IR:=.seq zf.t31 zf.t42
def zf.t44:IR:=.seq zf.t15 zf.t43
def zf.t45:IR:=.seq zf.t14 zf.t44
def zf.t46:IR:=.seq zf.t11 zf.t45
def zf.t47:IR:=.block 1 zf.t46
def zf.t48:IR:=.reg [.s (.bin .add .int (.t (.of 14)) (.c (I 1))),.q (.of 14) (.mv (.s 0))]
def zf.t49:IR:=.seq zf.t47 zf.t48
def zf.t50:IR:=.seq zf.t10 zf.t49
def zf.t51:IR:=.seq zf.t9 zf.t50
def zf.t52:IR:=.loop zf.t51
def zf.t53:IR:=.block 0 zf.t52
def zf.t54:IR:=.seq zf.t8 zf.t53
def zf.t55:IR:=.reg [.q (.of 8) (.mv (.c (.bool true)))]
def zf.t56:IR:=.seq zf.t55 .ret
def zf.t57:IR:=.seq zf.t54 zf.t56
def zf.t58:IR:=.seq .skip zf.t57
def zf.t59:IR:=.seq zf.t7 zf.t58
def zf.t60:IR:=.seq zf.t0 zf.t59
theorem zf.rV:IR.run zf.t0 C N O K (zf.fr f g q s p v u w y A a b d c e i l o z B D F E) h nx =
 K (zf.fr f g q s p v u w (.bool false) A a b d c e i l o z B D F E) h nx:=by kernel_rfl
theorem zf.rW:IR.run zf.t1 C N O K (zf.fr f g q s p v u w y A a b d c e i l o z B D F E) h nx =
 zL 0 g fun v1=>zE v1 h fun v2=>zo .eql .int f v2 fun v3=>K (zf.fr f g q s p v u w y A a b v3 c e i l o z B D F E) h nx:=by kernel_rfl
theorem zf.rX:IR.run zf.t2 C N O K (zf.fr f g q s p v u w y A a b d c e i l o z B D F E) h nx =
 zE q h fun v1=>zE s h fun v2=>C.fn 106 (.of 106) [v2] h nx fun v3 h4 n5=>(zE q h4 fun vF=>zN vF v1 (gI [.zh,(.bool false)] [(0,1,v3)] fun v6=>yY 2 1 [.zh,(.bool false)] [(0,2,v6)] h4 n5 fun v7 h8 n9=>(zE q h8 fun vE=>zN vE v1 (xK C 2 32 v1 v7 h8 n9 fun vH hC nC=>zQ 1 q vH hC nC fun vB hD nD=>K (zf.fr f g q s p v u w y A a b d c e i l o z B D F E) hD nD)))):=by kernel_rfl
theorem zf.ay:IR.run zf.t3 C N O K (zf.fr f g q s p v u w y A a b d c e i l o z B D F E) h nx =
 zE q h fun v1=>sLen v1 fun v2=>zo .leq .int v2 (I 1536) fun v3=>K (zf.fr f g q s p v u w v3 A a b d c e i l o z B D F E) h nx:=by kernel_rfl
theorem zf.v12:Arg.ev (.t (.of 12)) ⟨(zf.fr f g q s p v u w y A a b d c e i l o z B D F E),[]⟩=d:=by kernel_rfl
theorem zf.eH:IR.run zf.t8 C N O K (zf.fr f g q s p v u w y A a b d c e i l o z B D F E) h nx =
 zL 0 g fun v1=>zE v1 h fun v2=>K (zf.fr f g q s p v u w y A a b d v2 (I 0) i l o z B D F E) h nx:=by kernel_rfl
theorem zf.sF:IR.run zf.t9 C N O K (zf.fr f g q s p v u w y A a b d c e i l o z B D F E) h nx =
 zo .lss .int e c fun v1=>K (zf.fr f g q s p v u w y A a b d c e v1 l o z B D F E) h nx:=by kernel_rfl
theorem zf.v15:Arg.ev (.t (.of 15)) ⟨(zf.fr f g q s p v u w y A a b d c e i l o z B D F E),[]⟩=i:=by kernel_rfl
theorem zf.zae:IR.run zf.t11 C N O K (zf.fr f g q s p v u w y A a b d c e i l o z B D F E) h nx =
 K (zf.fr f g q s p v u w y e a b d c e i l o z B D F E) h nx:=by kernel_rfl
theorem zf.zaf:IR.run zf.t12 C N O K (zf.fr f g q s p v u w y A a b d c e i l o z B D F E) h nx =
 zE p h fun v1=>zO 1 v1 A fun v2=>zE v2 h fun v3=>K (zf.fr f g q s p v u w y A a b d c e i v3 o z B D F E) h nx:=by kernel_rfl
theorem zf.v16:Arg.ev (.t (.of 16)) ⟨(zf.fr f g q s p v u w y A a b d c e i l o z B D F E),[]⟩=l:=by kernel_rfl
theorem zf.aB:IR.run zf.t15 C N O K (zf.fr f g q s p v u w y A a b d c e i l o z B D F E) h nx =
 zE s h fun v1=>zO 1 v1 f fun v2=>zQ 1 v2 A h nx fun v3 h4 n5=>K (zf.fr f g q s p v u w y A a b d c e i l o z B D F E) h4 n5:=by kernel_rfl
theorem zf.rY:IR.run zf.t16 C N O K (zf.fr f g q s p v u w y A a b d c e i l o z B D F E) h nx =
 zE v h fun v1=>zO 1 v1 f fun v2=>zE v2 h fun v3=>sLen v3 fun v4=>K (zf.fr f g q s p v u w y A a b d c e i l v3 v4 (I 0) D F E) h nx:=by kernel_rfl
theorem zf.aS:IR.run zf.t17 C N O K (zf.fr f g q s p v u w y A a b d c e i l o z B D F E) h nx =
 zo .lss .int B z fun v1=>K (zf.fr f g q s p v u w y A a b d c e i l o z B v1 F E) h nx:=by kernel_rfl
theorem zf.v20:Arg.ev (.t (.of 20)) ⟨(zf.fr f g q s p v u w y A a b d c e i l o z B D F E),[]⟩=D:=by kernel_rfl
theorem zf.zac:IR.run zf.t19 C N O K (zf.fr f g q s p v u w y A a b d c e i l o z B D F E) h nx =
 zO 1 o B fun v1=>zE v1 h fun v2=>K (zf.fr f g q s p v u w y A v2 b d c e i l o z B D F E) h nx:=by kernel_rfl
theorem zf.zeo:IR.run zf.t20 C N O K (zf.fr f g q s p v u w y A a b d c e i l o z B D F E) h nx =
 zE u h fun v1=>zE s h fun v2=>vQ C v1 [v2,a] h nx fun v3 h4 n5=>sQ v3 fun v6=>K (zf.fr f g q s p v u w y A a b d c e i l o z B D v6 E) h4 n5:=by kernel_rfl
theorem zf.v21:Arg.ev (.t (.of 21)) ⟨(zf.fr f g q s p v u w y A a b d c e i l o z B D F E),[]⟩=F:=by kernel_rfl
theorem zf.zuf:IR.run zf.t25 C N O K (zf.fr f g q s p v u w y A a b d c e i l o z B D F E) h nx =
 zo .add .int B (I 1) fun v1=>K (zf.fr f g q s p v u w y A a b d c e i l o z v1 D F E) h nx:=by kernel_rfl
theorem zf.zug (Inv:Nat->AV->T Blk->Pa->Prop) {m:Nat} (hm:m<N) (hi:Inv m B h nx)
  (step:∀ (m:Nat) (zA zP zR zS:AV) (h:T Blk) (nx:Pa) (R:Ks Prop),Inv m zP h nx->(∀ (m':Nat) (wA wJ wK wL:AV) (h':T Blk) (nx':Pa),m'<m->Inv m' wJ h' nx'->R (zf.fr f g q s p v u w y A wA b d c e i l o z wJ wK wL E) h' nx'=.ok True)->IR.run zf.t28 C N O R (zf.fr f g q s p v u w y A zA b d c e i l o z zP zR zS E) h nx=.ok True) :
  IR.run zf.t29 C N O K (zf.fr f g q s p v u w y A a b d c e i l o z B D F E) h nx=.ok True:=by
 rw [zf.t29];refine yF (fun m tm h nx=>∃ zA zP zR zS,tm=(zf.fr f g q s p v u w y A zA b d c e i l o z zP zR zS E)/\Inv m zP h nx) ?_ hm ⟨_,_,_,_,rfl,hi⟩;rintro m tm h nx R ⟨zA,zP,zR,zS,rfl,hi⟩ hR;exact step m zA zP zR zS h nx R hi fun m' wA wJ wK wL h' nx' hlt hi'=>hR m' _ h' nx' hlt ⟨_,_,_,_,rfl,hi'⟩
theorem zf.zii:IR.run zf.t32 C N O K (zf.fr f g q s p v u w y A a b d c e i l o z B D F E) h nx =
 zE p h fun v1=>zO 1 v1 A fun v2=>zQ 1 v2 (.bool true) h nx fun v3 h4 n5=>K (zf.fr f g q s p v u w y A a b d c e i l o z B D F E) h4 n5:=by kernel_rfl
theorem zf.zuh:IR.run zf.t33 C N O K (zf.fr f g q s p v u w y A a b d c e i l o z B D F E) h nx =
 zE w h fun v1=>zo .add .int f (I 1) fun v2=>vQ C v1 [v2] h nx fun v3 h4 n5=>K (zf.fr f g q s p v u w y A a v3 d c e i l o z B D F E) h4 n5:=by kernel_rfl
theorem zf.zui:IR.run zf.t34 C N O K (zf.fr f g q s p v u w y A a b d c e i l o z B D F E) h nx =
 zE p h fun v1=>zO 1 v1 A fun v2=>zQ 1 v2 (.bool false) h nx fun v3 h4 n5=>K (zf.fr f g q s p v u w y A a b d c e i l o z B D F E) h4 n5:=by kernel_rfl
theorem zf.zuj:IR.run zf.t35 C N O K (zf.fr f g q s p v u w y A a b d c e i l o z B D F E) h nx =
 sQ b fun v1=>K (zf.fr f g q s p v u w y A a b d c e i l o z B D F v1) h nx:=by kernel_rfl
theorem zf.v22:Arg.ev (.t (.of 22)) ⟨(zf.fr f g q s p v u w y A a b d c e i l o z B D F E),[]⟩=E:=by kernel_rfl
theorem zf.zlt:IR.run zf.t48 C N O K (zf.fr f g q s p v u w y A a b d c e i l o z B D F E) h nx =
 zo .add .int e (I 1) fun v1=>K (zf.fr f g q s p v u w y A a b d c v1 i l o z B D F E) h nx:=by kernel_rfl
theorem zf.zuk (Inv:Nat->AV->T Blk->Pa->Prop) {m:Nat} (hm:m<N) (hi:Inv m e h nx)
  (step:∀ (m:Nat) (z8 z9 zA zB zF zG zJ zK zM zP zR zS zU:AV) (h:T Blk) (nx:Pa) (R:Ks Prop),Inv m zF h nx->(∀ (m':Nat) (w8 w9 wA wB wE wF wG wH wI wJ wK wL wM:AV) (h':T Blk) (nx':Pa),m'<m->Inv m' wE h' nx'->R (zf.fr f g q s p v u w w8 w9 wA wB d c wE wF wG wH wI wJ wK wL wM) h' nx'=.ok True)->IR.run zf.t51 C N O R (zf.fr f g q s p v u w z8 z9 zA zB d c zF zG zJ zK zM zP zR zS zU) h nx=.ok True) :
  IR.run zf.t52 C N O K (zf.fr f g q s p v u w y A a b d c e i l o z B D F E) h nx=.ok True:=by
 rw [zf.t52];refine yF (fun m tm h nx=>∃ z8 z9 zA zB zF zG zJ zK zM zP zR zS zU,tm=(zf.fr f g q s p v u w z8 z9 zA zB d c zF zG zJ zK zM zP zR zS zU)/\Inv m zF h nx) ?_ hm ⟨_,_,_,_,_,_,_,_,_,_,_,_,_,rfl,hi⟩;rintro m tm h nx R ⟨z8,z9,zA,zB,zF,zG,zJ,zK,zM,zP,zR,zS,zU,rfl,hi⟩ hR;exact step m z8 z9 zA zB zF zG zJ zK zM zP zR zS zU h nx R hi fun m' w8 w9 wA wB wE wF wG wH wI wJ wK wL wM h' nx' hlt hi'=>hR m' _ h' nx' hlt ⟨_,_,_,_,_,_,_,_,_,_,_,_,_,rfl,hi'⟩
theorem zf.zul:IR.run zf.t55 C N O K (zf.fr f g q s p v u w y A a b d c e i l o z B D F E) h nx =
 K (zf.fr f g q s p v u w (.bool true) A a b d c e i l o z B D F E) h nx:=by kernel_rfl
theorem zf.tab:T.get none (.of 105) tbl=some zf:=by kernel_rfl
theorem zf.bind (k:T AV->OP):jA zf.params [a0,a1,a2,a3,a4,a5,a6,a7] zf.init k=k (zf.fr a0 a1 a2 a3 a4 a5 a6 a7 .undef .undef .undef .undef .undef .undef .undef .undef .undef .undef .undef .undef .undef .undef .undef):=by kernel_rfl
theorem zf.xq:zf.body=zf.t60:=by kernel_rfl
theorem zf.go:zV tbl N C (.of 105) [a0,a1,a2,a3,a4,a5,a6,a7] h nx K0=IR.run zf.t60 C N (fnO zf.res K0) (wu zf.res K0) (zf.fr a0 a1 a2 a3 a4 a5 a6 a7 .undef .undef .undef .undef .undef .undef .undef .undef .undef .undef .undef .undef .undef .undef .undef) h nx:=by
 rw [zI zf.tab,zf.bind,zf.xq];kernel_rfl
theorem zf.ret:wu zf.res K0 (zf.fr f g q s p v u w y A a b d c e i l o z B D F E) h nx=K0 y h nx:=by kernel_rfl
end
end Go.Ev
namespace Go.Ev
open Go Go.Proofs
set_option maxRecDepth 100000
section
variable {N:Nat} {C:Calls Prop} {K0:Kw Prop} {K:Ks Prop} {h:T Blk} {nx:Pa} {f g q s p v u w y A a b d c e i l o z B D F E G H L a0 a1 a2:AV} {O:jl Prop} {tm:T AV} {Kt:KTm} {r:List RO} {s0 s1 s2 s3 s4 s5 s6 s7 s8 s9 s10 s11 s12 s13 s14 s15 s16 s17 s18 s19 s20 s21 s22 s23 s24 s25 s26 s27 s28 s29 s30 s31 s32 s33 s34 s35 s36 s37 s38 s39 s40 s41 s42 s43 s44 s45 s46 s47 s48 s49 s50 s51 s52 s53 s54 s55 s56 s57 s58 s59:AV}
def F15.t0:IR:=.reg [.w (.loc (.of 3)) none (.box (.t (.of 0))),.w (.loc (.of 4)) none (.box (.t (.of 1))),.w (.loc (.of 5)) none (.box (.t (.of 2))),.q (.of 6) (.mv (.c (.bool false)))]
def F15.r1_4:List RO:=.p .push (some ((.s 4),false)) (.bin .neq .int (.s 0) (.c (I 0)))::.q (.of 18) (.pick (.s 5) (.c (.bool true)) (.s 0))::[]
def F15.r1_3:List RO:=.p .push (some ((.s 4),false)) (.bin .neq .int (.s 0) (.c (I 0)))::.s (.pick (.s 5) (.c (.bool true)) (.s 0))::.s (.mv (.s 0))::.p .push (some ((.s 0),false)) (.zi 2 (.t (.of 5)))::.p .push (some ((.s 1),false)) (.zn 0 (.t (.of 3)))::.p .push (some ((.s 2),false)) (.load (.s 0))::.w .push (some ((.s 3),false)) (.call (.c (.fn 26 (.of 26) [])) [(.s 2),(.s 0)])::F15.r1_4
def F15.r1_2:List RO:=.p .push (some ((.s 2),false)) (.not (.s 0))::.s (.pick (.s 3) (.c (.bool true)) (.s 0))::.s (.mv (.s 0))::.p .push (some ((.s 0),false)) (.zi 2 (.t (.of 4)))::.p .push (some ((.s 1),false)) (.zn 0 (.t (.of 3)))::.p .push (some ((.s 2),false)) (.load (.s 0))::.w .push (some ((.s 3),false)) (.call (.c (.fn 26 (.of 26) [])) [(.s 2),(.s 0)])::F15.r1_3
def F15.r1_1:List RO:=.s (.not (.s 0))::.s (.mv (.s 0))::.p .push (some ((.s 0),false)) (.zi 2 (.t (.of 3)))::.w .push (some ((.s 1),false)) (.call (.c (.fn 83 (.of 83) [])) [(.s 0),(.c (I 6)),(.c (I 8))])::F15.r1_2
def F15.r1_0:List RO:=.w .push none (.call (.c (.fn 18 (.of 18) [])) [])::F15.r1_1
def F15.t1:IR:=.reg F15.r1_0
def F15.t2:IR:=.reg [.w .push none (.call (.c (.fn 18 (.of 18) [])) []),.q (.of 6) (.mv (.s 0))]
def F15.t3:IR:=.seq F15.t2 .ret
def F15.t4:IR:=.cond (.t (.of 18)) F15.t3 .skip
def F15.t5:IR:=.seq F15.t1 F15.t4
def F15.t6:IR:=.reg [.s (.zi 2 (.t (.of 3))),.w .push none (.call (.c (.fn 34 (.of 34) [])) [(.s 0)]),.s (.mv (.s 0)),.s (.ext 0 (.s 0)),.s (.ext 1 (.s 1)),.q (.of 7) (.mv (.s 1)),.q (.of 8) (.mv (.s 0))]
def F15.t7:IR:=.reg [.s (.zi 2 (.t (.of 3))),.s (.zi 2 (.t (.of 4))),.w .push none (.call (.c (.fn 73 (.of 73) [])) [(.s 1),(.s 0)]),.s (.mv (.s 0)),.s (.ext 0 (.s 0)),.s (.ext 1 (.s 1)),.q (.of 9) (.mv (.s 1)),.q (.of 10) (.mv (.s 0))]
def F15.t8:IR:=.reg [.s (.zi 2 (.t (.of 3))),.s (.zi 2 (.t (.of 5))),.w .push none (.call (.c (.fn 73 (.of 73) [])) [(.s 1),(.s 0)]),.s (.mv (.s 0)),.s (.ext 0 (.s 0)),.s (.ext 1 (.s 1)),.q (.of 11) (.mv (.s 1)),.q (.of 12) (.mv (.s 0))]
def F15.r6_1:List RO:=.p .push (some ((.s 1),false)) (.len (.s 0))::.p .push (some ((.s 2),false)) (.bin .eql .int (.s 0) (.c (I 0)))::.s (.pick (.s 3) (.c (.bool true)) (.s 0))::.s (.mv (.s 0))::.p .push (some ((.s 0),false)) (.mv (.t (.of 7)))::.p .push (some ((.s 1),false)) (.len (.s 0))::.p .push (some ((.s 2),false)) (.bin .gtr .int (.s 0) (.c (I 720)))::.q (.of 19) (.pick (.s 3) (.c (.bool true)) (.s 0))::[]
def F15.r6_0:List RO:=.s (.mv (.t (.of 8)))::.s (.mv (.t (.of 10)))::.s (.bin .add .int (.s 1) (.s 0))::.s (.mv (.t (.of 12)))::.s (.bin .add .int (.s 1) (.s 0))::.s (.bin .neq .int (.s 0) (.c (I 0)))::.s (.mv (.s 0))::.p .push (some ((.s 0),false)) (.mv (.t (.of 7)))::F15.r6_1
def F15.t9:IR:=.reg F15.r6_0
def F15.t10:IR:=.reg [.q (.of 6) (.mv (.c (.bool false)))]
def F15.t11:IR:=.seq F15.t10 .ret
def F15.t12:IR:=.cond (.t (.of 19)) F15.t11 .skip
def F15.t13:IR:=.seq F15.t9 F15.t12
def F15.r8_3:List RO:=.p .push (some ((.s 6),false)) (.bin .geq .int (.s 0) (.c (I 0)))::.p .push (some ((.s 7),false)) (.bin .neq .bool (.s 6) (.s 0))::.q (.of 20) (.pick (.s 8) (.c (.bool true)) (.s 0))::[]
def F15.r8_2:List RO:=.w .push (some ((.s 5),false)) (.call (.c (.fn 84 (.of 84) [])) [(.s 3),(.s 0)])::F15.r8_3
def F15.r8_1:List RO:=.s (.bin .geq .int (.s 0) (.c (I 0)))::.s (.bin .neq .bool (.s 6) (.s 0))::.s (.mv (.s 0))::.p .push (some ((.s 0),false)) (.mv (.t (.of 11)))::.p .push (some ((.s 1),false)) (.mv (.t (.of 7)))::.p .push (some ((.s 2),false)) (.zn 0 (.t (.of 5)))::.p .push (some ((.s 3),false)) (.load (.s 0))::.p .push (some ((.s 4),false)) (.build [.zh,(.bool false)] [(0,1,(.s 0))])::F15.r8_2
def F15.r8_0:List RO:=.s (.mv (.t (.of 9)))::.s (.mv (.t (.of 7)))::.s (.zn 0 (.t (.of 4)))::.s (.load (.s 0))::.s (.build [.zh,(.bool false)] [(0,1,(.s 0))])::.w .push none (.call (.c (.fn 84 (.of 84) [])) [(.s 3),(.s 0)])::F15.r8_1
def F15.t14:IR:=.reg F15.r8_0
def F15.t15:IR:=.reg [.q (.of 6) (.mv (.c (.bool false)))]
def F15.t16:IR:=.seq F15.t15 .ret
def F15.t17:IR:=.cond (.t (.of 20)) F15.t16 .skip
def F15.t18:IR:=.seq F15.t14 F15.t17
def F15.t19:IR:=.reg [.s (.mv (.t (.of 7))),.q (.of 21) (.len (.s 0)),.q (.of 22) (.mv (.c (I 0)))]
def F15.t20:IR:=.reg [.q (.of 23) (.bin .lss .int (.t (.of 22)) (.t (.of 21)))]
def F15.t21:IR:=.cond (.t (.of 23)) .skip (.exit 0)
def F15.t22:IR:=.reg [.s (.mv (.t (.of 22))),.q (.of 13) (.mv (.s 0))]
def F15.t23:IR:=.yt [] [(.s (.zi 2 (.t (.of 3))),0,[]),(.s (.mv (.t (.of 7))),0,[]),(.s (.mv (.t (.of 13))),0,[]),(.s (.zu 2 (.s 1) (.s 0)),0,[]),(.s (.zi 2 (.s 0)),0,[]),(.w .push none (.call (.c (.fn 73 (.of 73) [])) [(.s 4),(.s 0)]),0,[]),(.s (.mv (.s 0)),0,[]),(.s (.ext 0 (.s 0)),0,[]),(.s (.ext 1 (.s 1)),0,[]),(.q (.of 14) (.mv (.s 1)),0,[]),(.q (.of 15) (.mv (.s 0)),0,[])]
def F15.t24:IR:=.yt [] [(.s (.mv (.t (.of 15))),0,[]),(.s (.bin .neq .int (.s 0) (.c (I 0))),0,[]),(.s (.mv (.s 0)),0,[]),(.p .push (some ((.s 0),false)) (.mv (.t (.of 14))),0,[]),(.p .push (some ((.s 1),false)) (.not (.s 0)),0,[]),(.s (.pick (.s 2) (.c (.bool true)) (.s 0)),0,[]),(.s (.mv (.s 0)),0,[]),(.p .push (some ((.s 0),false)) (.mv (.t (.of 13))),0,[]),(.p .push (some ((.s 1),false)) (.bin .gtr .int (.s 0) (.c (I 0))),0,[]),(.p .push (some ((.s 2),false)) (.mv (.s 0)),0,[]),(.p .push (some ((.s 0),true)) (.mv (.t (.of 7))),0,[]),(.p .push (some ((.s 1),true)) (.mv (.t (.of 13))),0,[]),(.p .push (some ((.s 2),true)) (.bin .sub .int (.s 0) (.c (I 1))),0,[]),(.p .push (some ((.s 3),true)) (.zu 2 (.s 2) (.s 0)),0,[]),(.p .push (some ((.s 4),true)) (.zi 2 (.s 0)),0,[]),(.p .push (some ((.s 5),true)) (.mv (.t (.of 7))),0,[]),(.p .push (some ((.s 6),true)) (.mv (.t (.of 13))),0,[]),(.p .push (some ((.s 7),true)) (.zu 2 (.s 1) (.s 0)),0,[]),(.p .push (some ((.s 8),true)) (.zi 2 (.s 0)),0,[]),(.w .push (some ((.s 9),true)) (.call (.c (.fn 85 (.of 85) [])) [(.s 4),(.s 0)]),0,[]),(.p .push (some ((.s 10),true)) (.not (.s 0)),0,[]),(.p .push (some ((.s 14),false)) (.pick (.s 11) (.s 0) (.c (.bool false))),0,[]),(.q (.of 24) (.pick (.s 15) (.c (.bool true)) (.s 0)),0,[])]
def F15.t25:IR:=.reg [.q (.of 6) (.mv (.c (.bool false)))]
def F15.t26:IR:=.seq F15.t25 .ret
def F15.t27:IR:=.cond (.t (.of 24)) F15.t26 .skip
def F15.t28:IR:=.seq F15.t24 F15.t27
def F15.t29:IR:=.seq F15.t23 F15.t28
def F15.t30:IR:=.seq F15.t22 F15.t29
def F15.t31:IR:=.block 1 F15.t30
def F15.t32:IR:=.reg [.s (.bin .add .int (.t (.of 22)) (.c (I 1))),.q (.of 22) (.mv (.s 0))]
def F15.t33:IR:=.seq F15.t31 F15.t32
def F15.t34:IR:=.seq F15.t21 F15.t33
def F15.t35:IR:=.seq F15.t20 F15.t34
def F15.t36:IR:=.loop F15.t35
def F15.t37:IR:=.block 0 F15.t36
def F15.t38:IR:=.seq F15.t19 F15.t37
def F15.zlu:List RO:=.p .push (some ((.s 4),true)) (.bin .neq .int (.s 0) (.c (I 0)))::.q (.of 25) (.pick (.s 5) (.s 0) (.c (.bool false)))::[]
def F15.zlv:List RO:=.s (.mv (.t (.of 7)))::.s (.len (.s 0))::.s (.bin .leq .int (.s 0) (.c (I 24)))::.s (.mv (.s 0))::.p .push (some ((.s 0),true)) (.mv (.t (.of 7)))::.p .push (some ((.s 1),true)) (.zn 0 (.t (.of 3)))::.p .push (some ((.s 2),true)) (.load (.s 0))::.w .push (some ((.s 3),true)) (.call (.c (.fn 20 (.of 20) [])) [(.s 2),(.s 0)])::F15.zlu
def F15.t39:IR:=.reg F15.zlv
def F15.t40:IR:=.reg [.q (.of 6) (.mv (.c (.bool false)))]
def F15.t41:IR:=.seq F15.t40 .ret
def F15.t42:IR:=.cond (.t (.of 25)) F15.t41 .skip
def F15.t43:IR:=.seq F15.t39 F15.t42
def F15.t44:IR:=.yt [] [(.s (.zi 2 (.t (.of 3))),1,[]),(.s (.zi 2 (.t (.of 4))),0,[]),(.s (.zi 2 (.t (.of 5))),0,[]),(.w .push none (.call (.c (.fn 65 (.of 65) [])) [(.s 1),(.s 0)]),0,[]),(.w .push none (.call (.c (.fn 73 (.of 73) [])) [(.s 3),(.s 0)]),0,[]),(.s (.mv (.s 0)),0,[]),(.s (.ext 0 (.s 0)),0,[]),(.s (.ext 1 (.s 1)),0,[]),(.q (.of 16) (.mv (.s 1)),0,[]),(.q (.of 17) (.mv (.s 0)),0,[])]
def F15.zlw:List RO:=.p .push (some ((.s 5),true)) (.pick (.s 2) (.c (.bool true)) (.s 0))::.p .push (some ((.s 6),true)) (.mv (.s 0))::.p .push (some ((.s 0),false)) (.mv (.t (.of 16)))::.p .push (some ((.s 8),true)) (.pick (.s 1) (.c (.bool true)) (.s 0))::.s (.pick (.s 9) (.s 0) (.c (.bool false)))::.q (.of 6) (.mv (.s 0))::[]
def F15.zlx:List RO:=.s (.mv (.t (.of 17)))::.s (.bin .eql .int (.s 0) (.c (I 0)))::.s (.mv (.s 0))::.p .push (some ((.s 0),true)) (.mv (.t (.of 9)))::.p .push (some ((.s 1),true)) (.not (.s 0))::.p .push (some ((.s 2),true)) (.mv (.s 0))::.p .push (some ((.s 0),false)) (.mv (.t (.of 11)))::.p .push (some ((.s 1),false)) (.not (.s 0))::F15.zlw
def F15.t45:IR:=.reg F15.zlx
def F15.t46:IR:=.seq F15.t45 .ret
def F15.t47:IR:=.seq F15.t44 F15.t46
def F15.t48:IR:=.seq F15.t43 F15.t47
def F15.t49:IR:=.seq F15.t38 F15.t48
def F15.t50:IR:=.seq F15.t18 F15.t49
def F15.t51:IR:=.seq F15.t13 F15.t50
def F15.t52:IR:=.seq F15.t8 F15.t51
def F15.t53:IR:=.seq F15.t7 F15.t52
def F15.t54:IR:=.seq F15.t6 F15.t53
def F15.t55:IR:=.seq F15.t5 F15.t54
def F15.t56:IR:=.seq F15.t0 F15.t55
theorem F15.rV:IR.run F15.t0 C N O K (F15.fr f g q s p v u w y A a b d c e i l o z B D F E G H L) h nx =
 cu f h nx fun v1 h2 n3=>cu g h2 n3 fun v4 h5 n6=>cu q h5 n6 fun v7 h8 n9=>K (F15.fr f g q v1 v4 v7 (.bool false) w y A a b d c e i l o z B D F E G H L) h8 n9:=by kernel_rfl
theorem F15.rW:IR.run F15.t1 C N O K tm h nx=jW F15.r1_0 C ⟨tm,[]⟩ h nx (fun tm h nx=>K tm.v h nx):=xH ..
theorem F15.zr4:jW (.w .push none (.call (.c (.fn 18 (.of 18) [])) [])::r) C ⟨(F15.fr f g q s p v u w y A a b d c e i l o z B D F E G H L),[]⟩ h nx Kt =
 C.fn 18 (.of 18) [] h nx fun v1 h2 n3=>jW r C ⟨(F15.fr f g q s p v u w y A a b d c e i l o z B D F E G H L),v1::[]⟩ h2 n3 Kt:=by kernel_rfl
theorem F15.zr5:jW (.s (.not (.s 0))::.s (.mv (.s 0))::.p .push (some ((.s 0),false)) (.zi 2 (.t (.of 3)))::.w .push (some ((.s 1),false)) (.call (.c (.fn 83 (.of 83) [])) [(.s 0),(.c (I 6)),(.c (I 8))])::r) C ⟨(F15.fr f g q s p v u w y A a b d c e i l o z B D F E G H L),s0::[]⟩ h nx Kt =
 sQ s0 fun v1=>sG v1 false (fun k=>zH 2 s h k) fun v2=>sGW v1 false (fun k=>C.fn 83 (.of 83) [v2,(I 6),(I 8)] h nx k) h nx fun v3 h4 n5=>jW r C ⟨(F15.fr f g q s p v u w y A a b d c e i l o z B D F E G H L),v3::v2::v1::v1::s0::[]⟩ h4 n5 Kt:=by kernel_rfl
theorem F15.zr6:jW (.p .push (some ((.s 2),false)) (.not (.s 0))::.s (.pick (.s 3) (.c (.bool true)) (.s 0))::.s (.mv (.s 0))::.p .push (some ((.s 0),false)) (.zi 2 (.t (.of 4)))::.p .push (some ((.s 1),false)) (.zn 0 (.t (.of 3)))::.p .push (some ((.s 2),false)) (.load (.s 0))::.w .push (some ((.s 3),false)) (.call (.c (.fn 26 (.of 26) [])) [(.s 2),(.s 0)])::r) C ⟨(F15.fr f g q s p v u w y A a b d c e i l o z B D F E G H L),s0::s1::s2::s3::s4::[]⟩ h nx Kt =
 sG s2 false (fun k=>sQ s0 k) fun v1=>jR s2 (.bool true) v1 fun v2=>sG v2 false (fun k=>zH 2 p h k) fun v3=>sG v2 false (fun k=>zL 0 s k) fun v4=>sG v2 false (fun k=>zE v4 h k) fun v5=>sGW v2 false (fun k=>C.fn 26 (.of 26) [v3,v5] h nx k) h nx fun v6 h7 n8=>jW r C ⟨(F15.fr f g q s p v u w y A a b d c e i l o z B D F E G H L),v6::v5::v4::v3::v2::v2::v1::s0::s1::s2::s3::s4::[]⟩ h7 n8 Kt:=by kernel_rfl
theorem F15.zly:jW (.p .push (some ((.s 4),false)) (.bin .neq .int (.s 0) (.c (I 0)))::.s (.pick (.s 5) (.c (.bool true)) (.s 0))::.s (.mv (.s 0))::.p .push (some ((.s 0),false)) (.zi 2 (.t (.of 5)))::.p .push (some ((.s 1),false)) (.zn 0 (.t (.of 3)))::.p .push (some ((.s 2),false)) (.load (.s 0))::.w .push (some ((.s 3),false)) (.call (.c (.fn 26 (.of 26) [])) [(.s 2),(.s 0)])::r) C ⟨(F15.fr f g q s p v u w y A a b d c e i l o z B D F E G H L),s0::s1::s2::s3::s4::s5::s6::s7::s8::s9::s10::s11::[]⟩ h nx Kt =
 sG s4 false (fun k=>zo .neq .int s0 (I 0) k) fun v1=>jR s4 (.bool true) v1 fun v2=>sG v2 false (fun k=>zH 2 v h k) fun v3=>sG v2 false (fun k=>zL 0 s k) fun v4=>sG v2 false (fun k=>zE v4 h k) fun v5=>sGW v2 false (fun k=>C.fn 26 (.of 26) [v3,v5] h nx k) h nx fun v6 h7 n8=>jW r C ⟨(F15.fr f g q s p v u w y A a b d c e i l o z B D F E G H L),v6::v5::v4::v3::v2::v2::v1::s0::s1::s2::s3::s4::s5::s6::s7::s8::s9::s10::s11::[]⟩ h7 n8 Kt:=by kernel_rfl
theorem F15.zgo:jW (.p .push (some ((.s 4),false)) (.bin .neq .int (.s 0) (.c (I 0)))::.q (.of 18) (.pick (.s 5) (.c (.bool true)) (.s 0))::[]) C ⟨(F15.fr f g q s p v u w y A a b d c e i l o z B D F E G H L),s0::s1::s2::s3::s4::s5::s6::s7::s8::s9::s10::s11::s12::s13::s14::s15::s16::s17::s18::[]⟩ h nx Kt =
 sG s4 false (fun k=>zo .neq .int s0 (I 0) k) fun v1=>jR s4 (.bool true) v1 fun v2=>Kt ⟨(F15.fr f g q s p v u w y A a b d c e i l o v2 B D F E G H L),v1::s0::s1::s2::s3::s4::s5::s6::s7::s8::s9::s10::s11::s12::s13::s14::s15::s16::s17::s18::[]⟩ h nx:=by kernel_rfl
theorem F15.rX:IR.run F15.t2 C N O K (F15.fr f g q s p v u w y A a b d c e i l o z B D F E G H L) h nx =
 C.fn 18 (.of 18) [] h nx fun v1 h2 n3=>K (F15.fr f g q s p v v1 w y A a b d c e i l o z B D F E G H L) h2 n3:=by kernel_rfl
theorem F15.v18:Arg.ev (.t (.of 18)) ⟨(F15.fr f g q s p v u w y A a b d c e i l o z B D F E G H L),[]⟩=z:=by kernel_rfl
theorem F15.t6_s:IR.run F15.t6 C N O K (F15.fr f g q s p v u w y A a b d c e i l o z B D F E G H L) h nx =
 zH 2 s h fun v1=>C.fn 34 (.of 34) [v1] h nx fun v2 h3 n4=>bf 0 v2 fun v5=>bf 1 v2 fun v6=>K (F15.fr f g q s p v u v5 v6 A a b d c e i l o z B D F E G H L) h3 n4:=by kernel_rfl
theorem F15.t7_s:IR.run F15.t7 C N O K (F15.fr f g q s p v u w y A a b d c e i l o z B D F E G H L) h nx =
 zH 2 s h fun v1=>zH 2 p h fun v2=>C.fn 73 (.of 73) [v1,v2] h nx fun v3 h4 n5=>bf 0 v3 fun v6=>bf 1 v3 fun v7=>K (F15.fr f g q s p v u w y v6 v7 b d c e i l o z B D F E G H L) h4 n5:=by kernel_rfl
theorem F15.eH:IR.run F15.t8 C N O K (F15.fr f g q s p v u w y A a b d c e i l o z B D F E G H L) h nx =
 zH 2 s h fun v1=>zH 2 v h fun v2=>C.fn 73 (.of 73) [v1,v2] h nx fun v3 h4 n5=>bf 0 v3 fun v6=>bf 1 v3 fun v7=>K (F15.fr f g q s p v u w y A a v6 v7 c e i l o z B D F E G H L) h4 n5:=by kernel_rfl
theorem F15.sF:IR.run F15.t9 C N O K tm h nx=jW F15.r6_0 C ⟨tm,[]⟩ h nx (fun tm h nx=>K tm.v h nx):=xH ..
theorem F15.zr7:jW (.s (.mv (.t (.of 8)))::.s (.mv (.t (.of 10)))::.s (.bin .add .int (.s 1) (.s 0))::.s (.mv (.t (.of 12)))::.s (.bin .add .int (.s 1) (.s 0))::.s (.bin .neq .int (.s 0) (.c (I 0)))::.s (.mv (.s 0))::.p .push (some ((.s 0),false)) (.mv (.t (.of 7)))::r) C ⟨(F15.fr f g q s p v u w y A a b d c e i l o z B D F E G H L),[]⟩ h nx Kt =
 zo .add .int y a fun v1=>zo .add .int v1 d fun v2=>zo .neq .int v2 (I 0) fun v3=>sG v3 false (fun k=>k w) fun v4=>jW r C ⟨(F15.fr f g q s p v u w y A a b d c e i l o z B D F E G H L),v4::v3::v3::v2::d::v1::a::y::[]⟩ h nx Kt:=by kernel_rfl
theorem F15.zr8:jW (.p .push (some ((.s 1),false)) (.len (.s 0))::.p .push (some ((.s 2),false)) (.bin .eql .int (.s 0) (.c (I 0)))::.s (.pick (.s 3) (.c (.bool true)) (.s 0))::.s (.mv (.s 0))::.p .push (some ((.s 0),false)) (.mv (.t (.of 7)))::.p .push (some ((.s 1),false)) (.len (.s 0))::.p .push (some ((.s 2),false)) (.bin .gtr .int (.s 0) (.c (I 720)))::.q (.of 19) (.pick (.s 3) (.c (.bool true)) (.s 0))::[]) C ⟨(F15.fr f g q s p v u w y A a b d c e i l o z B D F E G H L),s0::s1::s2::s3::s4::s5::s6::s7::[]⟩ h nx Kt =
 sG s1 false (fun k=>sLen s0 k) fun v1=>sG s1 false (fun k=>zo .eql .int v1 (I 0) k) fun v2=>jR s1 (.bool true) v2 fun v3=>sG v3 false (fun k=>k w) fun v4=>sG v3 false (fun k=>sLen v4 k) fun v5=>sG v3 false (fun k=>zo .gtr .int v5 (I 720) k) fun v6=>jR v3 (.bool true) v6 fun v7=>Kt ⟨(F15.fr f g q s p v u w y A a b d c e i l o z v7 D F E G H L),v6::v5::v4::v3::v3::v2::v1::s0::s1::s2::s3::s4::s5::s6::s7::[]⟩ h nx:=by kernel_rfl
theorem F15.v19:Arg.ev (.t (.of 19)) ⟨(F15.fr f g q s p v u w y A a b d c e i l o z B D F E G H L),[]⟩=B:=by kernel_rfl
theorem F15.oC:IR.run F15.t14 C N O K tm h nx=jW F15.r8_0 C ⟨tm,[]⟩ h nx (fun tm h nx=>K tm.v h nx):=xH ..
theorem F15.zr9:jW (.s (.mv (.t (.of 9)))::.s (.mv (.t (.of 7)))::.s (.zn 0 (.t (.of 4)))::.s (.load (.s 0))::.s (.build [.zh,(.bool false)] [(0,1,(.s 0))])::.w .push none (.call (.c (.fn 84 (.of 84) [])) [(.s 3),(.s 0)])::r) C ⟨(F15.fr f g q s p v u w y A a b d c e i l o z B D F E G H L),[]⟩ h nx Kt =
 zL 0 p fun v1=>zE v1 h fun v2=>gI [.zh,(.bool false)] [(0,1,v2)] fun v3=>C.fn 84 (.of 84) [w,v3] h nx fun v4 h5 n6=>jW r C ⟨(F15.fr f g q s p v u w y A a b d c e i l o z B D F E G H L),v4::v3::v2::v1::w::A::[]⟩ h5 n6 Kt:=by kernel_rfl
theorem F15.zsa:jW (.s (.bin .geq .int (.s 0) (.c (I 0)))::.s (.bin .neq .bool (.s 6) (.s 0))::.s (.mv (.s 0))::.p .push (some ((.s 0),false)) (.mv (.t (.of 11)))::.p .push (some ((.s 1),false)) (.mv (.t (.of 7)))::.p .push (some ((.s 2),false)) (.zn 0 (.t (.of 5)))::.p .push (some ((.s 3),false)) (.load (.s 0))::.p .push (some ((.s 4),false)) (.build [.zh,(.bool false)] [(0,1,(.s 0))])::r) C ⟨(F15.fr f g q s p v u w y A a b d c e i l o z B D F E G H L),s0::s1::s2::s3::s4::s5::[]⟩ h nx Kt =
 zo .geq .int s0 (I 0) fun v1=>zo .neq .bool s5 v1 fun v2=>sG v2 false (fun k=>k b) fun v3=>sG v2 false (fun k=>k w) fun v4=>sG v2 false (fun k=>zL 0 v k) fun v5=>sG v2 false (fun k=>zE v5 h k) fun v6=>sG v2 false (fun k=>gI [.zh,(.bool false)] [(0,1,v6)] k) fun v7=>jW r C ⟨(F15.fr f g q s p v u w y A a b d c e i l o z B D F E G H L),v7::v6::v5::v4::v3::v2::v2::v1::s0::s1::s2::s3::s4::s5::[]⟩ h nx Kt:=by kernel_rfl
theorem F15.zsb:jW (.w .push (some ((.s 5),false)) (.call (.c (.fn 84 (.of 84) [])) [(.s 3),(.s 0)])::r) C ⟨(F15.fr f g q s p v u w y A a b d c e i l o z B D F E G H L),s0::s1::s2::s3::s4::s5::s6::s7::s8::s9::s10::s11::s12::s13::[]⟩ h nx Kt =
 sGW s5 false (fun k=>C.fn 84 (.of 84) [s3,s0] h nx k) h nx fun v1 h2 n3=>jW r C ⟨(F15.fr f g q s p v u w y A a b d c e i l o z B D F E G H L),v1::s0::s1::s2::s3::s4::s5::s6::s7::s8::s9::s10::s11::s12::s13::[]⟩ h2 n3 Kt:=by kernel_rfl
theorem F15.zsc:jW (.p .push (some ((.s 6),false)) (.bin .geq .int (.s 0) (.c (I 0)))::.p .push (some ((.s 7),false)) (.bin .neq .bool (.s 6) (.s 0))::.q (.of 20) (.pick (.s 8) (.c (.bool true)) (.s 0))::[]) C ⟨(F15.fr f g q s p v u w y A a b d c e i l o z B D F E G H L),s0::s1::s2::s3::s4::s5::s6::s7::s8::s9::s10::s11::s12::s13::s14::[]⟩ h nx Kt =
 sG s6 false (fun k=>zo .geq .int s0 (I 0) k) fun v1=>sG s6 false (fun k=>zo .neq .bool s5 v1 k) fun v2=>jR s6 (.bool true) v2 fun v3=>Kt ⟨(F15.fr f g q s p v u w y A a b d c e i l o z B v3 F E G H L),v2::v1::s0::s1::s2::s3::s4::s5::s6::s7::s8::s9::s10::s11::s12::s13::s14::[]⟩ h nx:=by kernel_rfl
theorem F15.v20:Arg.ev (.t (.of 20)) ⟨(F15.fr f g q s p v u w y A a b d c e i l o z B D F E G H L),[]⟩=D:=by kernel_rfl
theorem F15.zac:IR.run F15.t19 C N O K (F15.fr f g q s p v u w y A a b d c e i l o z B D F E G H L) h nx =
 sLen w fun v1=>K (F15.fr f g q s p v u w y A a b d c e i l o z B D v1 (I 0) G H L) h nx:=by kernel_rfl
theorem F15.zeo:IR.run F15.t20 C N O K (F15.fr f g q s p v u w y A a b d c e i l o z B D F E G H L) h nx =
 zo .lss .int E F fun v1=>K (F15.fr f g q s p v u w y A a b d c e i l o z B D F E v1 H L) h nx:=by kernel_rfl
theorem F15.v23:Arg.ev (.t (.of 23)) ⟨(F15.fr f g q s p v u w y A a b d c e i l o z B D F E G H L),[]⟩=G:=by kernel_rfl
theorem F15.zlq:IR.run F15.t22 C N O K (F15.fr f g q s p v u w y A a b d c e i l o z B D F E G H L) h nx =
 K (F15.fr f g q s p v u w y A a b d E e i l o z B D F E G H L) h nx:=by kernel_rfl
theorem F15.zum:IR.run F15.t23 C N O K (F15.fr f g q s p v u w y A a b d c e i l o z B D F E G H L) h nx =
 zH 2 s h fun v1=>zO 2 w c fun v2=>zH 2 v2 h fun v3=>C.fn 73 (.of 73) [v1,v3] h nx fun v4 h5 n6=>bf 0 v4 fun v7=>bf 1 v4 fun v8=>K (F15.fr f g q s p v u w y A a b d c v7 v8 l o z B D F E G H L) h5 n6:=by kernel_rfl
theorem F15.zlp:IR.run F15.t24 C N O K (F15.fr f g q s p v u w y A a b d c e i l o z B D F E G H L) h nx =
 zo .neq .int i (I 0) fun v1=>sG v1 false (fun k=>k e) fun v2=>sG v1 false (fun k=>sQ v2 k) fun v3=>jR v1 (.bool true) v3 fun v4=>sG v4 false (fun k=>k c) fun v5=>sG v4 false (fun k=>zo .gtr .int v5 (I 0) k) fun v6=>sG v4 false (fun k=>k v6) fun v7=>sG v7 true (fun k=>k w) fun v8=>sG v7 true (fun k=>k c) fun v9=>sG v7 true (fun k=>zo .sub .int v9 (I 1) k) fun vH=>sG v7 true (fun k=>zO 2 v8 vH k) fun vI=>sG v7 true (fun k=>zH 2 vI h k) fun vA=>sG v7 true (fun k=>k w) fun vB=>sG v7 true (fun k=>k c) fun vC=>sG v7 true (fun k=>zO 2 vB vC k) fun vD=>sG v7 true (fun k=>zH 2 vD h k) fun vE=>sGW v7 true (fun k=>C.fn 85 (.of 85) [vA,vE] h nx k) h nx fun vF h18 n19=>sG v7 true (fun k=>sQ vF k) fun vK=>sG v4 false (fun k=>jR v7 vK (.bool false) k) fun vL=>jR v4 (.bool true) vL fun vV=>K (F15.fr f g q s p v u w y A a b d c e i l o z B D F E G vV L) h18 n19:=by kernel_rfl
theorem F15.v24:Arg.ev (.t (.of 24)) ⟨(F15.fr f g q s p v u w y A a b d c e i l o z B D F E G H L),[]⟩=H:=by kernel_rfl
theorem F15.zii:IR.run F15.t32 C N O K (F15.fr f g q s p v u w y A a b d c e i l o z B D F E G H L) h nx =
 zo .add .int E (I 1) fun v1=>K (F15.fr f g q s p v u w y A a b d c e i l o z B D F v1 G H L) h nx:=by kernel_rfl
theorem F15.zun (Inv:Nat->AV->T Blk->Pa->Prop) {m:Nat} (hm:m<N) (hi:Inv m E h nx)
  (step:∀ (m:Nat) (z6 zD zF zG zU zW zX:AV) (h:T Blk) (nx:Pa) (R:Ks Prop),Inv m zU h nx->(∀ (m':Nat) (w6 wD wE wF wM wN wO:AV) (h':T Blk) (nx':Pa),m'<m->Inv m' wM h' nx'->R (F15.fr f g q s p v w6 w y A a b d wD wE wF l o z B D F wM wN wO L) h' nx'=.ok True)->IR.run F15.t35 C N O R (F15.fr f g q s p v z6 w y A a b d zD zF zG l o z B D F zU zW zX L) h nx=.ok True) :
  IR.run F15.t36 C N O K (F15.fr f g q s p v u w y A a b d c e i l o z B D F E G H L) h nx=.ok True:=by
 rw [F15.t36];refine yF (fun m tm h nx=>∃ z6 zD zF zG zU zW zX,tm=(F15.fr f g q s p v z6 w y A a b d zD zF zG l o z B D F zU zW zX L)/\Inv m zU h nx) ?_ hm ⟨_,_,_,_,_,_,_,rfl,hi⟩;rintro m tm h nx R ⟨z6,zD,zF,zG,zU,zW,zX,rfl,hi⟩ hR;exact step m z6 zD zF zG zU zW zX h nx R hi fun m' w6 wD wE wF wM wN wO h' nx' hlt hi'=>hR m' _ h' nx' hlt ⟨_,_,_,_,_,_,_,rfl,hi'⟩
theorem F15.zuo:IR.run F15.t39 C N O K tm h nx=jW F15.zlv C ⟨tm,[]⟩ h nx (fun tm h nx=>K tm.v h nx):=xH ..
theorem F15.zo9:jW (.s (.mv (.t (.of 7)))::.s (.len (.s 0))::.s (.bin .leq .int (.s 0) (.c (I 24)))::.s (.mv (.s 0))::.p .push (some ((.s 0),true)) (.mv (.t (.of 7)))::.p .push (some ((.s 1),true)) (.zn 0 (.t (.of 3)))::.p .push (some ((.s 2),true)) (.load (.s 0))::.w .push (some ((.s 3),true)) (.call (.c (.fn 20 (.of 20) [])) [(.s 2),(.s 0)])::r) C ⟨(F15.fr f g q s p v u w y A a b d c e i l o z B D F E G H L),[]⟩ h nx Kt =
 sLen w fun v1=>zo .leq .int v1 (I 24) fun v2=>sG v2 true (fun k=>k w) fun v3=>sG v2 true (fun k=>zL 0 s k) fun v4=>sG v2 true (fun k=>zE v4 h k) fun v5=>sGW v2 true (fun k=>C.fn 20 (.of 20) [v3,v5] h nx k) h nx fun v6 h7 n8=>jW r C ⟨(F15.fr f g q s p v u w y A a b d c e i l o z B D F E G H L),v6::v5::v4::v3::v2::v2::v1::w::[]⟩ h7 n8 Kt:=by kernel_rfl
theorem F15.zij:jW (.p .push (some ((.s 4),true)) (.bin .neq .int (.s 0) (.c (I 0)))::.q (.of 25) (.pick (.s 5) (.s 0) (.c (.bool false)))::[]) C ⟨(F15.fr f g q s p v u w y A a b d c e i l o z B D F E G H L),s0::s1::s2::s3::s4::s5::s6::s7::[]⟩ h nx Kt =
 sG s4 true (fun k=>zo .neq .int s0 (I 0) k) fun v1=>jR s4 v1 (.bool false) fun v2=>Kt ⟨(F15.fr f g q s p v u w y A a b d c e i l o z B D F E G H v2),v1::s0::s1::s2::s3::s4::s5::s6::s7::[]⟩ h nx:=by kernel_rfl
theorem F15.v25:Arg.ev (.t (.of 25)) ⟨(F15.fr f g q s p v u w y A a b d c e i l o z B D F E G H L),[]⟩=L:=by kernel_rfl
theorem F15.zup:IR.run F15.t44 C N O K (F15.fr f g q s p v u w y A a b d c e i l o z B D F E G H L) h nx =
 zH 2 s h fun v1=>zH 2 p h fun v2=>zH 2 v h fun v3=>C.fn 65 (.of 65) [v2,v3] h nx fun v4 h5 n6=>(zH 2 s h5 fun vA=>zN vA v1 (C.fn 73 (.of 73) [v1,v4] h5 n6 fun v7 h8 n9=>bf 0 v7 fun vH=>bf 1 v7 fun vI=>K (F15.fr f g q s p v u w y A a b d c e i vH vI z B D F E G H L) h8 n9)):=by kernel_rfl
theorem F15.zuq:IR.run F15.t45 C N O K tm h nx=jW F15.zlx C ⟨tm,[]⟩ h nx (fun tm h nx=>K tm.v h nx):=xH ..
theorem F15.zpa:jW (.s (.mv (.t (.of 17)))::.s (.bin .eql .int (.s 0) (.c (I 0)))::.s (.mv (.s 0))::.p .push (some ((.s 0),true)) (.mv (.t (.of 9)))::.p .push (some ((.s 1),true)) (.not (.s 0))::.p .push (some ((.s 2),true)) (.mv (.s 0))::.p .push (some ((.s 0),false)) (.mv (.t (.of 11)))::.p .push (some ((.s 1),false)) (.not (.s 0))::r) C ⟨(F15.fr f g q s p v u w y A a b d c e i l o z B D F E G H L),[]⟩ h nx Kt =
 zo .eql .int o (I 0) fun v1=>sG v1 true (fun k=>k A) fun v2=>sG v1 true (fun k=>sQ v2 k) fun v3=>sG v1 true (fun k=>k v3) fun v4=>sG v4 false (fun k=>k b) fun v5=>sG v4 false (fun k=>sQ v5 k) fun v6=>jW r C ⟨(F15.fr f g q s p v u w y A a b d c e i l o z B D F E G H L),v6::v5::v4::v3::v2::v1::v1::o::[]⟩ h nx Kt:=by kernel_rfl
theorem F15.zik:jW (.p .push (some ((.s 5),true)) (.pick (.s 2) (.c (.bool true)) (.s 0))::.p .push (some ((.s 6),true)) (.mv (.s 0))::.p .push (some ((.s 0),false)) (.mv (.t (.of 16)))::.p .push (some ((.s 8),true)) (.pick (.s 1) (.c (.bool true)) (.s 0))::.s (.pick (.s 9) (.s 0) (.c (.bool false)))::.q (.of 6) (.mv (.s 0))::[]) C ⟨(F15.fr f g q s p v u w y A a b d c e i l o z B D F E G H L),s0::s1::s2::s3::s4::s5::s6::s7::[]⟩ h nx Kt =
 sG s5 true (fun k=>jR s2 (.bool true) s0 k) fun v1=>sG s5 true (fun k=>k v1) fun v2=>sG v2 false (fun k=>k l) fun v3=>sG s5 true (fun k=>jR v2 (.bool true) v3 k) fun v4=>jR s5 v4 (.bool false) fun v5=>Kt ⟨(F15.fr f g q s p v v5 w y A a b d c e i l o z B D F E G H L),v5::v4::v3::v2::v1::s0::s1::s2::s3::s4::s5::s6::s7::[]⟩ h nx:=by kernel_rfl
theorem F15.tab:T.get none (.of 15) tbl=some F15:=by kernel_rfl
theorem F15.bind (k:T AV->OP):jA F15.params [a0,a1,a2] F15.init k=k (F15.fr a0 a1 a2 .undef .undef .undef .undef .undef .undef .undef .undef .undef .undef .undef .undef .undef .undef .undef .undef .undef .undef .undef .undef .undef .undef .undef):=by kernel_rfl
theorem F15.xq:F15.body=F15.t56:=by kernel_rfl
theorem F15.go:zV tbl N C (.of 15) [a0,a1,a2] h nx K0=IR.run F15.t56 C N (fnO F15.res K0) (wu F15.res K0) (F15.fr a0 a1 a2 .undef .undef .undef .undef .undef .undef .undef .undef .undef .undef .undef .undef .undef .undef .undef .undef .undef .undef .undef .undef .undef .undef .undef) h nx:=by
 rw [zI F15.tab,F15.bind,F15.xq];kernel_rfl
theorem F15.ret:wu F15.res K0 (F15.fr f g q s p v u w y A a b d c e i l o z B D F E G H L) h nx=K0 u h nx:=by kernel_rfl
end
end Go.Ev
