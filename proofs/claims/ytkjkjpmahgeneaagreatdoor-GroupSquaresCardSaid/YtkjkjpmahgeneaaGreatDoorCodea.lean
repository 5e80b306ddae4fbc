import Derived.Test.YtkjkjpmahgeneaaGreatDoorIrT
import Derived.KernelRfl
import Derived.Test.YtkjkjpmahgeneaaGreatDoorEvD
set_option linter.unusedSimpArgs false
set_option linter.unusedVariables false
noncomputable section
namespace Go.Ev
open Go Go.Proofs
set_option maxRecDepth 100000
variable {N:Nat} {C:Calls Prop} {K0:Kw Prop} {K R:Ks Prop} {h:T Blk} {nx:Pa} {a b d e c f i a0 a1 a2 o p s g l q u v w y z A B D E F G H:AV}
theorem F82.zlw (X3:IR) (O:uo Prop) (t:T AV):IR.run (F82.g2 X3) C N O K t h nx=IR.run X3 C N (O.blk 0 K) K t h nx:=by kernel_rfl
theorem F82.tab:T.get none (.of 82) tbl=some F82:=by kernel_rfl
theorem F82.go:zW tbl N C (.of 82) [a0,a1] h nx K0 =
 sLen a0 fun v1=>sLen a1 fun v2=>zu .neq .int v1 v2 fun v3=>yS v3 (K0 (.bool false) h nx) (IR.run F82.b2 C N (fnO F82.res K0) (IR.run F82.b9 C N (fnO F82.res K0) (jv F82.res K0)) (F82.fr a0 a1 (.bool false) (I 0) v3 .undef .undef) h nx):=by
 rw [zL F82.tab];kernel_rfl
theorem F82.L2 (Inv:Nat->AV->T Blk->Pa->Prop) {m:Nat} (hm:m<N) (hi:Inv m e h nx)
  (step:∀ (m:Nat) (z2 z3 z5 z6:AV) (h:T Blk) (nx:Pa) (R:Ks Prop),Inv m z3 h nx->(∀ (m':Nat) (w2 w3 w5 w6:AV) (h':T Blk) (nx':Pa),m'<m->Inv m' w3 h' nx'->R (F82.fr a b w2 w3 c w5 w6) h' nx'=.ok True) ->
   (sLen a fun v1=>zu .lss .int z3 v1 fun v2=>yS v2 (yB 1 a z3 fun v3=>zD v3 h fun v4=>yB 1 b z3 fun v5=>zD v5 h fun v6=>zu .neq .int v4 v6 fun v7=>yS v7 (K0 (.bool false) h nx) (zu .add .int z3 (I 1) fun v8=>R (F82.fr a b z2 v8 c v2 v7) h nx)) (K (F82.fr a b z2 z3 c v2 z6) h nx))=.ok True) :
  IR.run F82.b2 C N (fnO F82.res K0) K (F82.fr a b d e c f i) h nx=.ok True:=by
 rw [F82.b2,F82.zlw,F82.b3];refine yJ (fun m tm h nx=>∃ z2 z3 z5 z6,tm=(F82.fr a b z2 z3 c z5 z6)/\Inv m z3 h nx) ?_ hm ⟨_,_,_,_,rfl,hi⟩;rintro m tm h nx R ⟨z2,z3,z5,z6,rfl,hi⟩ hR;refine Eq.trans ?_ (step m z2 z3 z5 z6 h nx R hi fun m' w2 w3 w5 w6 h' nx' hlt hi'=>hR m' _ h' nx' hlt ⟨_,_,_,_,rfl,hi'⟩)
 kernel_rfl
theorem F82.k9:IR.run F82.b9 C N (fnO F82.res K0) K (F82.fr a b d e c f i) h nx =
 K0 (.bool true) h nx:=by kernel_rfl
theorem eX.tab:T.get none (.of 106) tbl=some eX:=by kernel_rfl
theorem eX.go:zW tbl N C (.of 106) [a0] h nx K0 =
 zu .eql (.nil .sl) a0 .zf fun v1=>yS v1 (K0 .zf h nx) (yX 1 0 [(I 0)] [] h nx fun v2 h3 n4=>tX 1 8 v2 a0 h3 n4 fun v5 h6 n7=>K0 v5 h6 n7):=by
 rw [zL eX.tab];kernel_rfl
theorem F85.tab:T.get none (.of 85) tbl=some F85:=by kernel_rfl
theorem F85.go:zW tbl N C (.of 85) [a0,a1] h nx K0 =
 ak a0 h nx fun v1 h2 n3=>ak a1 h2 n3 fun v4 h5 n6=>yC 0 v1 fun v7=>zD v7 h5 fun v8=>yC 0 v4 fun v9=>zD v9 h5 fun vA=>C.fn 82 (.of 82) [v8,vA] h5 n6 fun vB hA nA=>yS vB (yC 1 v1 fun vC=>zD vC hA fun vD=>sNot vD fun vE=>sG vE true (fun k=>yC 1 v4 k) fun vF=>sG vE true (fun k=>zD vF hA k) fun vG=>jI vE vG (.bool false) fun vH=>K0 vH hA nA) (yC 0 v1 fun vI=>zD vI hA fun vJ=>yC 0 v4 fun vK=>zD vK hA fun vL=>C.fn 88 (.of 88) [vJ,vL] hA nA fun vM hB nB=>K0 vM hB nB):=by
 rw [zL F85.tab];kernel_rfl
theorem F84.sJ (X2:IR) (O:uo Prop) (t:T AV):IR.run (F84.g1 X2) C N O K t h nx=IR.run X2 C N (O.blk 0 K) K t h nx:=by kernel_rfl
theorem F84.tab:T.get none (.of 84) tbl=some F84:=by kernel_rfl
theorem F84.go:zW tbl N C (.of 84) [a0,a1] h nx K0 =
 ak a1 h nx fun v1 h2 n3=>IR.run F84.b1 C N (fnO F84.res K0) (IR.run F84.b8 C N (fnO F84.res K0) (jv F84.res K0)) (F84.fr a0 a1 v1 (I 0) (I 0) .undef .undef) h2 n3:=by
 rw [zL F84.tab];kernel_rfl
theorem F84.L1 (Inv:Nat->AV->T Blk->Pa->Prop) {m:Nat} (hm:m<N) (hi:Inv m c h nx)
  (step:∀ (m:Nat) (z3 z4 z5 z6:AV) (h:T Blk) (nx:Pa) (R:Ks Prop),Inv m z4 h nx->(∀ (m':Nat) (w3 w4 w5 w6:AV) (h':T Blk) (nx':Pa),m'<m->Inv m' w4 h' nx'->R (F84.fr a b d w3 w4 w5 w6) h' nx'=.ok True) ->
   (sLen a fun v1=>zu .lss .int z4 v1 fun v2=>yS v2 (yB 2 a z4 fun v3=>zM 2 v3 h fun v4=>zM 2 d h fun v5=>C.fn 30 (.of 30) [v4,v5] h nx fun v6 h7 n8=>yS v6 (K0 z4 h7 n8) (zu .add .int z4 (I 1) fun v9=>R (F84.fr a b d z3 v9 v2 v6) h7 n8)) (K (F84.fr a b d z3 z4 v2 z6) h nx))=.ok True) :
  IR.run F84.b1 C N (fnO F84.res K0) K (F84.fr a b d e c f i) h nx=.ok True:=by
 rw [F84.b1,F84.sJ,F84.b2];refine yJ (fun m tm h nx=>∃ z3 z4 z5 z6,tm=(F84.fr a b d z3 z4 z5 z6)/\Inv m z4 h nx) ?_ hm ⟨_,_,_,_,rfl,hi⟩;rintro m tm h nx R ⟨z3,z4,z5,z6,rfl,hi⟩ hR;refine Eq.trans ?_ (step m z3 z4 z5 z6 h nx R hi fun m' w3 w4 w5 w6 h' nx' hlt hi'=>hR m' _ h' nx' hlt ⟨_,_,_,_,rfl,hi'⟩)
 kernel_rfl
theorem F84.k8:IR.run F84.b8 C N (fnO F84.res K0) K (F84.fr a b d e c f i) h nx =
 K0 (I (-1)) h nx:=by kernel_rfl
theorem F30.tab:T.get none (.of 30) tbl=some F30:=by kernel_rfl
theorem F30.go:zW tbl N C (.of 30) [a0,a1] h nx K0 =
 ak a0 h nx fun v1 h2 n3=>ak a1 h2 n3 fun v4 h5 n6=>yC 1 v1 fun v7=>zD v7 h5 fun v8=>yC 1 v4 fun v9=>zD v9 h5 fun vA=>zu .eql .bool v8 vA fun vB=>sG vB true (fun k=>yC 0 v1 k) fun vN=>sG vB true (fun k=>zD vN h5 k) fun vO=>sG vB true (fun k=>yC 0 v4 k) fun vC=>sG vB true (fun k=>zD vC h5 k) fun vD=>sGW vB true (fun k=>C.fn 82 (.of 82) [vO,vD] h5 n6 k) h5 n6 fun vE hC nC=>jI vB vE (.bool false) fun vH=>K0 vH hC nC:=by
 rw [zL F30.tab];kernel_rfl
theorem F88.sJ (X2:IR) (O:uo Prop) (t:T AV):IR.run (F88.g1 X2) C N O K t h nx=IR.run X2 C N (O.blk 0 K) K t h nx:=by kernel_rfl
theorem F88.tab:T.get none (.of 88) tbl=some F88:=by kernel_rfl
theorem F88.go:zW tbl N C (.of 88) [a0,a1] h nx K0 =
 IR.run F88.b1 C N (fnO F88.res K0) (IR.run F88.b8 C N (fnO F88.res K0) (jv F88.res K0)) (F88.fr a0 a1 (.bool false) (I 0) .undef .undef) h nx:=by
 rw [zL F88.tab];kernel_rfl
theorem F88.L1 (Inv:Nat->AV->T Blk->Pa->Prop) {m:Nat} (hm:m<N) (hi:Inv m e h nx)
  (step:∀ (m:Nat) (z2 z3 z4 z5:AV) (h:T Blk) (nx:Pa) (R:Ks Prop),Inv m z3 h nx->(∀ (m':Nat) (w2 w3 w4 w5:AV) (h':T Blk) (nx':Pa),m'<m->Inv m' w3 h' nx'->R (F88.fr a b w2 w3 w4 w5) h' nx'=.ok True) ->
   (sLen a fun v1=>zu .lss .int z3 v1 fun v2=>sG v2 true (fun k=>k z3) fun v3=>sG v2 true (fun k=>k b) fun v4=>sG v2 true (fun k=>sLen v4 k) fun v5=>sG v2 true (fun k=>zu .lss .int v3 v5 k) fun v6=>jI v2 v6 (.bool false) fun v7=>yS v7 ((IR.run F88.b4 C N ((fnO F88.res K0).blk 0 K) R) (F88.fr a b z2 z3 v7 z5) h nx) (K (F88.fr a b z2 z3 v7 z5) h nx))=.ok True) :
  IR.run F88.b1 C N (fnO F88.res K0) K (F88.fr a b d e c f) h nx=.ok True:=by
 rw [F88.b1,F88.sJ,F88.b2];refine yJ (fun m tm h nx=>∃ z2 z3 z4 z5,tm=(F88.fr a b z2 z3 z4 z5)/\Inv m z3 h nx) ?_ hm ⟨_,_,_,_,rfl,hi⟩;rintro m tm h nx R ⟨z2,z3,z4,z5,rfl,hi⟩ hR;refine Eq.trans ?_ (step m z2 z3 z4 z5 h nx R hi fun m' w2 w3 w4 w5 h' nx' hlt hi'=>hR m' _ h' nx' hlt ⟨_,_,_,_,rfl,hi'⟩)
 kernel_rfl
theorem F88.k8:IR.run F88.b8 C N (fnO F88.res K0) K (F88.fr a b d e c f) h nx =
 sLen a fun v1=>sLen b fun v2=>zu .lss .int v1 v2 fun v3=>K0 v3 h nx:=by kernel_rfl
theorem F88.k4 {E0:Ks Prop}:IR.run F88.b4 C N ((fnO F88.res K0).blk 0 E0) K (F88.fr a b d e c f) h nx =
 yB 1 a e fun v1=>zD v1 h fun v2=>yB 1 b e fun v3=>zD v3 h fun v4=>zu .neq .int v2 v4 fun v5=>yS v5 (yB 1 a e fun v6=>zD v6 h fun v7=>yB 1 b e fun v8=>zD v8 h fun v9=>zu .lss .int v7 v9 fun vA=>K0 vA h nx) (zu .add .int e (I 1) fun vB=>K (F88.fr a b d vB c v5) h nx):=by kernel_rfl
theorem gu.sJ (X2:IR) (O:uo Prop) (t:T AV):IR.run (gu.g1 X2) C N O K t h nx=IR.run X2 C N (O.blk 0 K) K t h nx:=by kernel_rfl
theorem gu.tab:T.get none (.of 201) tbl=some gu:=by kernel_rfl
theorem gu.go:zW tbl N C (.of 201) [a0,a1] h nx K0 =
 sLen a0 fun v1=>IR.run gu.b1 C N (fnO gu.res K0) (IR.run gu.b9 C N (fnO gu.res K0) (jv gu.res K0)) (gu.fr a0 a1 (I 0) .undef .undef .undef .undef a0 v1 (I 0) .undef .undef .undef .undef) h nx:=by
 rw [zL gu.tab];kernel_rfl
theorem gu.L1 (Inv:Nat->AV->T Blk->Pa->Prop) {m:Nat} (hm:m<N) (hi:Inv m s h nx)
  (step:∀ (m:Nat) (z2 z3 z4 z5 z6 z9 zA zB zC:AV) (h:T Blk) (nx:Pa) (R:Ks Prop),Inv m z9 h nx->(∀ (m':Nat) (w2 w3 w4 w5 w6 w9 wA wC wD:AV) (h':T Blk) (nx':Pa),m'<m->Inv m' w9 h' nx'->R (gu.fr a b w2 w3 w4 w5 w6 o p w9 wA wC wD u) h' nx'=.ok True) ->
   (zu .lss .int z9 p fun v1=>yS v1 (yB 1 o z9 fun v2=>zD v2 h fun v3=>sLen b fun v4=>zu .geq .int z9 v4 fun v5=>yS v5 (K0 (I 1) h nx) (yB 1 b z9 fun v6=>zD v6 h fun v7=>C.fn 244 (.of 244) [v3,v7] h nx fun v8 h9 nD=>zu .neq .int v8 (I 0) fun vB=>yS vB (K0 v8 h9 nD) (zu .add .int z9 (I 1) fun vN=>R (gu.fr a b z2 z9 v3 v7 v8 o p vN v1 v5 vB u) h9 nD))) (K (gu.fr a b z2 z3 z4 z5 z6 o p z9 v1 zB zC u) h nx))=.ok True) :
  IR.run gu.b1 C N (fnO gu.res K0) K (gu.fr a b d e c f i o p s g l q u) h nx=.ok True:=by
 rw [gu.b1,gu.sJ,gu.b2];refine yJ (fun m tm h nx=>∃ z2 z3 z4 z5 z6 z9 zA zB zC,tm=(gu.fr a b z2 z3 z4 z5 z6 o p z9 zA zB zC u)/\Inv m z9 h nx) ?_ hm ⟨_,_,_,_,_,_,_,_,_,rfl,hi⟩;rintro m tm h nx R ⟨z2,z3,z4,z5,z6,z9,zA,zB,zC,rfl,hi⟩ hR;refine Eq.trans ?_ (step m z2 z3 z4 z5 z6 z9 zA zB zC h nx R hi fun m' w2 w3 w4 w5 w6 w9 wA wC wD h' nx' hlt hi'=>hR m' _ h' nx' hlt ⟨_,_,_,_,_,_,_,_,_,rfl,hi'⟩)
 kernel_rfl
theorem gu.k9:IR.run gu.b9 C N (fnO gu.res K0) K (gu.fr a b d e c f i o p s g l q u) h nx =
 sLen a fun v1=>sLen b fun v2=>zu .lss .int v1 v2 fun v3=>yS v3 (K0 (I (-1)) h nx) (K0 (I 0) h nx):=by kernel_rfl
theorem rH.tab:T.get none (.of 244) tbl=some rH:=by kernel_rfl
theorem rH.go:zW tbl N C (.of 244) [a0,a1] h nx K0 =
 C.fn 250 (.of 250) [a0] h nx fun v1 h2 n3=>C.fn 250 (.of 250) [a1] h2 n3 fun v4 h5 n6=>yS v1 (yS v4 (K0 (I 0) h5 n6) (K0 (I (-1)) h5 n6)) (yS v4 (K0 (I 1) h5 n6) (zu .lss .int a0 a1 fun v7=>yS v7 (K0 (I (-1)) h5 n6) (zu .gtr .int a0 a1 fun v8=>yS v8 (K0 (I 1) h5 n6) (K0 (I 0) h5 n6)))):=by
 rw [zL rH.tab];kernel_rfl
theorem F250.tab:T.get none (.of 250) tbl=some F250:=by kernel_rfl
theorem F250.go:zW tbl N C (.of 250) [a0] h nx K0 =
 zu .neq .int a0 a0 fun v1=>K0 v1 h nx:=by
 rw [zL F250.tab];kernel_rfl
theorem F97.sJ (X2:IR) (O:uo Prop) (t:T AV):IR.run (F97.g1 X2) C N O K t h nx=IR.run X2 C N (O.blk 0 K) K t h nx:=by kernel_rfl
theorem F97.tab:T.get none (.of 97) tbl=some F97:=by kernel_rfl
theorem F97.go:zW tbl N C (.of 97) [a0,a1] h nx K0 =
 sLen a0 fun v1=>IR.run F97.b1 C N (fnO F97.res K0) (IR.run F97.b8 C N (fnO F97.res K0) (jv F97.res K0)) (F97.fr a0 a1 (I 0) .undef .undef a0 v1 (I 0) .undef .undef) h nx:=by
 rw [zL F97.tab];kernel_rfl
theorem F97.L1 (Inv:Nat->AV->T Blk->Pa->Prop) {m:Nat} (hm:m<N) (hi:Inv m o h nx)
  (step:∀ (m:Nat) (z2 z3 z4 z7 z8 z9:AV) (h:T Blk) (nx:Pa) (R:Ks Prop),Inv m z7 h nx->(∀ (m':Nat) (w2 w3 w4 w7 w8 w9:AV) (h':T Blk) (nx':Pa),m'<m->Inv m' w7 h' nx'->R (F97.fr a b w2 w3 w4 f i w7 w8 w9) h' nx'=.ok True) ->
   (zu .lss .int z7 i fun v1=>yS v1 (yB 2 f z7 fun v2=>zM 2 v2 h fun v3=>yI [.zf,(.bool false)] h nx fun v4 h5 n6=>zO 2 v4 v3 h5 n6 fun v7 h8 n9=>zM 2 v4 h8 fun vA=>C.fn 56 (.of 56) [vA,b] h8 n9 fun vB hA nA=>zu .neq .int vB (I 0) fun vC=>yS vC (K0 vB hA nA) (zu .add .int z7 (I 1) fun vD=>R (F97.fr a b z2 v4 vB f i vD v1 vC) hA nA)) (K (F97.fr a b z2 z3 z4 f i z7 v1 z9) h nx))=.ok True) :
  IR.run F97.b1 C N (fnO F97.res K0) K (F97.fr a b d e c f i o p s) h nx=.ok True:=by
 rw [F97.b1,F97.sJ,F97.b2];refine yJ (fun m tm h nx=>∃ z2 z3 z4 z7 z8 z9,tm=(F97.fr a b z2 z3 z4 f i z7 z8 z9)/\Inv m z7 h nx) ?_ hm ⟨_,_,_,_,_,_,rfl,hi⟩;rintro m tm h nx R ⟨z2,z3,z4,z7,z8,z9,rfl,hi⟩ hR;refine Eq.trans ?_ (step m z2 z3 z4 z7 z8 z9 h nx R hi fun m' w2 w3 w4 w7 w8 w9 h' nx' hlt hi'=>hR m' _ h' nx' hlt ⟨_,_,_,_,_,_,rfl,hi'⟩)
 kernel_rfl
theorem F97.k8:IR.run F97.b8 C N (fnO F97.res K0) K (F97.fr a b d e c f i o p s) h nx =
 K0 (I 0) h nx:=by kernel_rfl
theorem F90.tab:T.get none (.of 90) tbl=some F90:=by kernel_rfl
theorem F90.go:zW tbl N C (.of 90) [a0] h nx K0 =
 ak a0 h nx fun v1 h2 n3=>K0 (.fn 159 (.of 159) [v1]) h2 n3:=by
 rw [zL F90.tab];kernel_rfl
theorem rM.tab:T.get none (.of 162) tbl=some rM:=by kernel_rfl
theorem rM.go:zW tbl N C (.of 162) [a0,a1] h nx K0 =
 ak a0 h nx fun v1 h2 n3=>ak a1 h2 n3 fun v4 h5 n6=>yC 0 v1 fun v7=>zD v7 h5 fun v8=>yC 0 v4 fun v9=>zD v9 h5 fun vA=>C.fn 201 (.of 201) [v8,vA] h5 n6 fun vB hA nA=>zu .neq .int vB (I 0) fun vC=>sG vC false (fun k=>yC 1 v1 k) fun vD=>sG vC false (fun k=>zD vD hA k) fun vE=>sG vC false (fun k=>yC 1 v4 k) fun vF=>sG vC false (fun k=>zD vF hA k) fun vG=>sG vC false (fun k=>zu .eql .bool vE vG k) fun vH=>jI vC (.bool true) vH fun vI=>yS vI (K0 vB hA nA) ((IR.run rM.b1 C N (fnO rM.res K0) (jv rM.res K0)) (rM.fr a0 a1 v1 v4 (I 0) vB vI .undef) hA nA):=by
 rw [zL rM.tab];kernel_rfl
theorem rM.k1:IR.run rM.b1 C N (fnO rM.res K0) K (rM.fr a b d e c f i o) h nx =
 yC 1 d fun v1=>zD v1 h fun v2=>yS v2 (K0 (I 1) h nx) (K0 (I (-1)) h nx):=by kernel_rfl
theorem F56.tab:T.get none (.of 56) tbl=some F56:=by kernel_rfl
theorem F56.go:zW tbl N C (.of 56) [a0,a1] h nx K0 =
 ak a0 h nx fun v1 h2 n3=>yC 0 v1 fun v4=>zD v4 h2 fun v5=>sLen v5 fun v6=>zu .neq .int v6 a1 fun v7=>yC 0 v1 fun v8=>zD v8 h2 fun v9=>C.fn 95 (.of 95) [a1] h2 n3 fun vA hD nE=>(zD v8 hD fun vP=>zJ vP v9 ((yC 0 v1 fun vQ=>zJ vQ v8 ((zu .neq .int v6 a1 fun vR=>zJ vR v7 (zJ a1 a1 ((sLen v5 fun vS=>zJ vS v6 ((zD v4 hD fun vT=>zJ vT v5 ((yC 0 v1 fun vU=>zJ vU v4 (C.fn 96 (.of 96) [v7,(I 2)] hD nE fun vO hE nF=>(zD v8 hE fun vV=>zJ vV v9 ((yC 0 v1 fun vW=>zJ vW v8 (C.fn 140 (.of 140) [v9] hE nF fun vE hC nC=>sNot vE fun vH=>C.fn 96 (.of 96) [vH,(I 14)] hC nC fun vI hF nG=>yX 1 3 [(I 0)] [(0,1,vA),(1,1,vO),(2,1,vI)] hF nG fun vL hG nH=>C.fn 94 (.of 94) [vL] hG nH fun vX hH nI=>K0 vX hH nI))))))))))))))))):=by
 rw [zL F56.tab];kernel_rfl
theorem qw.sJ (X2:IR) (O:uo Prop) (t:T AV):IR.run (qw.g1 X2) C N O K t h nx=IR.run X2 C N (O.blk 0 K) K t h nx:=by kernel_rfl
theorem qw.tab:T.get none (.of 159) tbl=some qw:=by kernel_rfl
theorem qw.go:zW tbl N C (.of 159) [a0,a1] h nx K0 =
 zD a1 h fun v1=>sLen v1 fun v2=>IR.run qw.b1 C N (fnO qw.res K0) (jv qw.res K0) (qw.fr a0 a1 .undef .undef v1 v2 (I 0) .undef .undef) h nx:=by
 rw [zL qw.tab];kernel_rfl
theorem qw.L1 (Inv:Nat->AV->T Blk->Pa->Prop) {m:Nat} (hm:m<N) (hi:Inv m i h nx)
  (step:∀ (m:Nat) (z2 z3 z6 z7 z8:AV) (h:T Blk) (nx:Pa) (R:Ks Prop),Inv m z6 h nx->(∀ (m':Nat) (w2 w3 w6 w7 w8:AV) (h':T Blk) (nx':Pa),m'<m->Inv m' w6 h' nx'->R (qw.fr a b w2 w3 c f w6 w7 w8) h' nx'=.ok True) ->
   (zu .lss .int z6 f fun v1=>yS v1 (yB 2 c z6 fun v2=>zM 2 v2 h fun v3=>yI [.zf,(.bool false)] h nx fun v4 h5 n6=>zO 2 v4 v3 h5 n6 fun v7 h8 n9=>zM 2 v4 h8 fun vA=>zav C a [z6,vA] h8 n9 fun vB hA nA=>sNot vB fun vC=>yS vC (K0 (.tup []) hA nA) (zu .add .int z6 (I 1) fun vD=>R (qw.fr a b z6 v4 c f vD v1 vC) hA nA)) (K (qw.fr a b z2 z3 c f z6 v1 z8) h nx))=.ok True) :
  IR.run qw.b1 C N (fnO qw.res K0) K (qw.fr a b d e c f i o p) h nx=.ok True:=by
 rw [qw.b1,qw.sJ,qw.b2];refine yJ (fun m tm h nx=>∃ z2 z3 z6 z7 z8,tm=(qw.fr a b z2 z3 c f z6 z7 z8)/\Inv m z6 h nx) ?_ hm ⟨_,_,_,_,_,rfl,hi⟩;rintro m tm h nx R ⟨z2,z3,z6,z7,z8,rfl,hi⟩ hR;refine Eq.trans ?_ (step m z2 z3 z6 z7 z8 h nx R hi fun m' w2 w3 w6 w7 w8 h' nx' hlt hi'=>hR m' _ h' nx' hlt ⟨_,_,_,_,_,rfl,hi'⟩)
 kernel_rfl
theorem uw.sJ (X2:IR) (O:uo Prop) (t:T AV):IR.run (uw.g1 X2) C N O K t h nx=IR.run X2 C N (O.blk 0 K) K t h nx:=by kernel_rfl
theorem uw.tab:T.get none (.of 163) tbl=some uw:=by kernel_rfl
theorem uw.go:zW tbl N C (.of 163) [a0] h nx K0 =
 yI [.zf,(.bool false)] h nx fun v1 h2 n3=>gS 1 8 [(I 0)] a0 a0 h2 n3 fun v4 h5 n6=>qJ [.zf,(.bool false)] [(0,1,v4)] fun v7=>yI [.zf,(.bool false)] h5 n6 fun v8 h9 nD=>zO 2 v8 v7 h9 nD fun vB hA nA=>yC 0 v8 fun vC=>zD vC hA fun vD=>sLen vD fun vE=>IR.run uw.b1 C N (fnO uw.res K0) (IR.run uw.b8 C N (fnO uw.res K0) (jv uw.res K0)) (uw.fr a0 v1 v8 .undef vE (I 0) .undef) hA nA:=by
 rw [zL uw.tab];kernel_rfl
theorem uw.L1 (Inv:Nat->AV->T Blk->Pa->Prop) {m:Nat} (hm:m<N) (hi:Inv m f h nx)
  (step:∀ (m:Nat) (z3 z5 z6:AV) (h:T Blk) (nx:Pa) (R:Ks Prop),Inv m z5 h nx->(∀ (m':Nat) (w3 w5 w6:AV) (h':T Blk) (nx':Pa),m'<m->Inv m' w5 h' nx'->R (uw.fr a b d w3 c w5 w6) h' nx'=.ok True) ->
   (zu .lss .int z5 c fun v1=>yS v1 (yC 0 d fun v2=>zD v2 h fun v3=>yB 1 v3 z5 fun v4=>zO 1 v4 z5 h nx fun v5 h6 n7=>zu .add .int z5 (I 1) fun v8=>R (uw.fr a b d z5 c v8 v1) h6 n7) (K (uw.fr a b d z3 c z5 v1) h nx))=.ok True) :
  IR.run uw.b1 C N (fnO uw.res K0) K (uw.fr a b d e c f i) h nx=.ok True:=by
 rw [uw.b1,uw.sJ,uw.b2];refine yJ (fun m tm h nx=>∃ z3 z5 z6,tm=(uw.fr a b d z3 c z5 z6)/\Inv m z5 h nx) ?_ hm ⟨_,_,_,rfl,hi⟩;rintro m tm h nx R ⟨z3,z5,z6,rfl,hi⟩ hR;refine Eq.trans ?_ (step m z3 z5 z6 h nx R hi fun m' w3 w5 w6 h' nx' hlt hi'=>hR m' _ h' nx' hlt ⟨_,_,_,rfl,hi'⟩)
 kernel_rfl
theorem uw.k8:IR.run uw.b8 C N (fnO uw.res K0) K (uw.fr a b d e c f i) h nx =
 zM 2 d h fun v1=>zO 2 b v1 h nx fun v2 h3 n4=>zM 2 b h3 fun v5=>K0 v5 h3 n4:=by kernel_rfl
theorem uj.sJ (X2:IR) (O:uo Prop) (t:T AV):IR.run (uj.g1 X2) C N O K t h nx=IR.run X2 C N (O.blk 0 K) K t h nx:=by kernel_rfl
theorem uj.tab:T.get none (.of 123) tbl=some uj:=by kernel_rfl
theorem uj.go:zW tbl N C (.of 123) [a0] h nx K0 =
 ak a0 h nx fun v1 h2 n3=>yC 0 v1 fun v4=>zD v4 h2 fun v5=>sLen v5 fun v6=>zu .add .int v6 (I 1) fun v7=>gS 1 1 [(.int .u8 0)] (I 0) v7 h2 n3 fun v8 h9 nD=>yC 0 v1 fun vB=>zD vB h9 fun vN=>sLen vN fun vO=>IR.run uj.b1 C N (fnO uj.res K0) (IR.run uj.b8 C N (fnO uj.res K0) (jv uj.res K0)) (uj.fr a0 v1 (.str []) v8 .undef vN vO (I 0) .undef .undef) h9 nD:=by
 rw [zL uj.tab];kernel_rfl
theorem uj.L1 (Inv:Nat->AV->AV->T Blk->Pa->Prop) {m:Nat} (hm:m<N) (hi:Inv m e o h nx)
  (step:∀ (m:Nat) (z3 z4 z7 z8:AV) (h:T Blk) (nx:Pa) (R:Ks Prop),Inv m z3 z7 h nx->(∀ (m':Nat) (w3 w4 w7 w8:AV) (h':T Blk) (nx':Pa),m'<m->Inv m' w3 w7 h' nx'->R (uj.fr a b d w3 w4 f i w7 w8 s) h' nx'=.ok True) ->
   (zu .lss .int z7 i fun v1=>yS v1 (yB 1 f z7 fun v2=>zD v2 h fun v3=>zlx .u8 v3 fun v4=>yX 1 1 [(.int .u8 0)] [(0,1,v4)] h nx fun v5 h6 n7=>tX 1 1 z3 v5 h6 n7 fun v8 h9 nD=>zu .add .int z7 (I 1) fun vB=>R (uj.fr a b d v8 v3 f i vB v1 s) h9 nD) (K (uj.fr a b d z3 z4 f i z7 v1 s) h nx))=.ok True) :
  IR.run uj.b1 C N (fnO uj.res K0) K (uj.fr a b d e c f i o p s) h nx=.ok True:=by
 rw [uj.b1,uj.sJ,uj.b2];refine yJ (fun m tm h nx=>∃ z3 z4 z7 z8,tm=(uj.fr a b d z3 z4 f i z7 z8 s)/\Inv m z3 z7 h nx) ?_ hm ⟨_,_,_,_,rfl,hi⟩;rintro m tm h nx R ⟨z3,z4,z7,z8,rfl,hi⟩ hR;refine Eq.trans ?_ (step m z3 z4 z7 z8 h nx R hi fun m' w3 w4 w7 w8 h' nx' hlt hi'=>hR m' _ h' nx' hlt ⟨_,_,_,_,rfl,hi'⟩)
 kernel_rfl
theorem uj.k8:IR.run uj.b8 C N (fnO uj.res K0) K (uj.fr a b d e c f i o p s) h nx =
 yC 1 b fun v1=>zD v1 h fun v2=>yS v2 (yX 1 1 [(.int .u8 0)] [(0,1,(.int .u8 1))] h nx fun v3 h4 n5=>tX 1 1 e v3 h4 n5 fun v6 h7 n8=>sB2s v6 h7 fun v9=>K0 v9 h7 n8) (sB2s e h fun vA=>K0 vA h nx):=by kernel_rfl
theorem F121.tab:T.get none (.of 121) tbl=some F121:=by kernel_rfl
theorem F121.go:zW tbl N C (.of 121) [a0,a1] h nx K0 =
 ak a1 h nx fun v1 h2 n3=>zM 2 v1 h2 fun v4=>C.fn 123 (.of 123) [v4] h2 n3 fun v5 h6 n7=>zly .str (.agg [.zf,(.bool false)]) true a0 v5 h6 fun v8=>bY 0 v8 fun v9=>bY 1 v8 fun vA=>yI [.zf,(.bool false)] h6 n7 fun vB hA nA=>zO 2 vB v9 hA nA fun vC hI nJ=>K0 vA hI nJ:=by
 rw [zL F121.tab];kernel_rfl
theorem uy.sJ (X2:IR) (O:uo Prop) (t:T AV):IR.run (uy.g1 X2) C N O K t h nx=IR.run X2 C N (O.blk 0 K) K t h nx:=by kernel_rfl
theorem uy.tab:T.get none (.of 122) tbl=some uy:=by kernel_rfl
theorem uy.go:zW tbl N C (.of 122) [a0,a1] h nx K0 =
 ak a0 h nx fun v1 h2 n3=>ak a1 h2 n3 fun v4 h5 n6=>yI [.zf,(.bool false)] h5 n6 fun v7 h8 n9=>sChk (true&&true) (yC 0 v4 fun vA=>zD vA h8 fun vB=>sLen vB fun vN=>sChk (mkSl 8 vN vN&&true) (yC 1 v1 fun vO=>zD vO h8 fun vC=>yC 1 v4 fun vD=>zD vD h8 fun vE=>zu .neq .bool vC vE fun vF=>gS 1 8 [(I 0)] vN vN h8 n9 fun vG hJ nK=>(zu .neq .bool vC vE fun vY=>zJ vY vF ((zD vD hJ fun vZ=>zJ vZ vE ((yC 1 v4 fun v45=>zJ v45 vD ((zD vO hJ fun v44=>zJ v44 vC ((yC 1 v1 fun v43=>zJ v43 vO ((sLen vB fun v42=>zJ v42 vN ((zD vA hJ fun v41=>zJ v41 vB ((yC 0 v4 fun v40=>zJ v40 vA (qJ [.zf,(.bool false)] [(0,1,vG),(1,1,vF)] fun vJ=>yI [.zf,(.bool false)] hJ nK fun vK hK nL=>(qJ [.zf,(.bool false)] [(0,1,vG),(1,1,vF)] fun v39=>zJ v39 vJ ((zu .neq .bool vC vE fun v38=>zJ v38 vF ((zD vD hK fun v37=>zJ v37 vE ((yC 1 v4 fun vP=>zJ vP vD ((zD vO hK fun vQ=>zJ vQ vC ((yC 1 v1 fun vR=>zJ vR vO ((sLen vB fun vS=>zJ vS vN ((zD vA hK fun vT=>zJ vT vB ((yC 0 v4 fun vU=>zJ vU vA (zO 2 vK vJ hK nL fun v25 hL nM=>yC 0 v4 fun v28=>zD v28 hL fun vW=>sLen vW fun vV=>IR.run uy.b1 C N (fnO uy.res K0) (IR.run uy.b8 C N (fnO uy.res K0) (jv uy.res K0)) (uy.fr a0 a1 v1 v4 v7 vK .undef .undef vW vV (I 0) .undef) hL nM)))))))))))))))))))))))))))))))))))):=by
 rw [zL uy.tab];kernel_rfl
theorem uy.L1 (Inv:Nat->AV->T Blk->Pa->Prop) {m:Nat} (hm:m<N) (hi:Inv m g h nx)
  (step:∀ (m:Nat) (z6 z7 zA zB:AV) (h:T Blk) (nx:Pa) (R:Ks Prop),Inv m zA h nx->(∀ (m':Nat) (w6 w7 wA wC:AV) (h':T Blk) (nx':Pa),m'<m->Inv m' wA h' nx'->R (uy.fr a b d e c f w6 w7 p s wA wC) h' nx'=.ok True) ->
   (zu .lss .int zA s fun v1=>yS v1 (yB 1 p zA fun v2=>zD v2 h fun v3=>yC 0 f fun v4=>zD v4 h fun v5=>yC 0 d fun v6=>zD v6 h fun v7=>yB 1 v7 v3 fun v8=>zD v8 h fun v9=>yB 1 v5 zA fun vA=>zO 1 vA v9 h nx fun vB hA nA=>zu .add .int zA (I 1) fun vC=>R (uy.fr a b d e c f zA v3 p s vC v1) hA nA) (K (uy.fr a b d e c f z6 z7 p s zA v1) h nx))=.ok True) :
  IR.run uy.b1 C N (fnO uy.res K0) K (uy.fr a b d e c f i o p s g l) h nx=.ok True:=by
 rw [uy.b1,uy.sJ,uy.b2];refine yJ (fun m tm h nx=>∃ z6 z7 zA zB,tm=(uy.fr a b d e c f z6 z7 p s zA zB)/\Inv m zA h nx) ?_ hm ⟨_,_,_,_,rfl,hi⟩;rintro m tm h nx R ⟨z6,z7,zA,zB,rfl,hi⟩ hR;refine Eq.trans ?_ (step m z6 z7 zA zB h nx R hi fun m' w6 w7 wA wC h' nx' hlt hi'=>hR m' _ h' nx' hlt ⟨_,_,_,_,rfl,hi'⟩)
 kernel_rfl
theorem uy.k8:IR.run uy.b8 C N (fnO uy.res K0) K (uy.fr a b d e c f i o p s g l) h nx =
 zM 2 f h fun v1=>zO 2 c v1 h nx fun v2 h3 n4=>zM 2 c h3 fun v5=>K0 v5 h3 n4:=by kernel_rfl
theorem F140.tab:T.get none (.of 140) tbl=some F140:=by kernel_rfl
theorem F140.go:zW tbl N C (.of 140) [a0] h nx K0 =
 C.fn 198 (.of 198) [a0] h nx fun v1 h2 n3=>zu .eql .int v1 (I 0) fun v4=>K0 v4 h2 n3:=by
 rw [zL F140.tab];kernel_rfl
theorem jo.zlw (X3:IR) (O:uo Prop) (t:T AV):IR.run (jo.g2 X3) C N O K t h nx=IR.run X3 C N (O.blk 0 K) K t h nx:=by kernel_rfl
theorem jo.tab:T.get none (.of 198) tbl=some jo:=by kernel_rfl
theorem jo.go:zW tbl N C (.of 198) [a0] h nx K0 =
 sLen a0 fun v1=>zu .gtr .int v1 (I 256) fun v2=>yS v2 (K0 (I 5) h nx) (sLen a0 fun v3=>gS 1 1 [(.bool false)] v3 v3 h nx fun v4 h5 n6=>sLen a0 fun v7=>IR.run jo.b2 C N (fnO jo.res K0) (IR.run jo.b10 C N (fnO jo.res K0) (jv jo.res K0)) (jo.fr a0 (I 0) v4 .undef v2 a0 v7 (I 0) .undef .undef) h5 n6):=by
 rw [zL jo.tab];kernel_rfl
theorem jo.L2 (Inv:Nat->AV->T Blk->Pa->Prop) {m:Nat} (hm:m<N) (hi:Inv m o h nx)
  (step:∀ (m:Nat) (z1 z3 z7 z8 z9:AV) (h:T Blk) (nx:Pa) (R:Ks Prop),Inv m z7 h nx->(∀ (m':Nat) (w1 w3 w7 w8 w9:AV) (h':T Blk) (nx':Pa),m'<m->Inv m' w7 h' nx'->R (jo.fr a w1 d w3 c f i w7 w8 w9) h' nx'=.ok True) ->
   (zu .lss .int z7 i fun v1=>yS v1 (yB 1 f z7 fun v2=>zD v2 h fun v3=>zu .lss .int v3 (I 0) fun v4=>sG v4 false (fun k=>k v3) fun v5=>sG v4 false (fun k=>k a) fun v6=>sG v4 false (fun k=>sLen v6 k) fun v7=>sG v4 false (fun k=>zu .geq .int v5 v7 k) fun v8=>jI v4 (.bool true) v8 fun v9=>sG v9 false (fun k=>k d) fun vA=>sG v9 false (fun k=>k v3) fun vB=>sG v9 false (fun k=>yB 1 vA vB k) fun vN=>sG v9 false (fun k=>zD vN h k) fun vO=>jI v9 (.bool true) vO fun vC=>yS vC (K0 (I 14) h nx) ((IR.run jo.b8 C N (((fnO jo.res K0).blk 0 K).blk 1 (IR.run jo.b9 C N ((fnO jo.res K0).blk 0 K) R)) (IR.run jo.b9 C N ((fnO jo.res K0).blk 0 K) R)) (jo.fr a z1 d v3 c f i z7 v1 vC) h nx)) (K (jo.fr a z1 d z3 c f i z7 v1 z9) h nx))=.ok True) :
  IR.run jo.b2 C N (fnO jo.res K0) K (jo.fr a b d e c f i o p s) h nx=.ok True:=by
 rw [jo.b2,jo.zlw,jo.b3];refine yJ (fun m tm h nx=>∃ z1 z3 z7 z8 z9,tm=(jo.fr a z1 d z3 c f i z7 z8 z9)/\Inv m z7 h nx) ?_ hm ⟨_,_,_,_,_,rfl,hi⟩;rintro m tm h nx R ⟨z1,z3,z7,z8,z9,rfl,hi⟩ hR;refine Eq.trans ?_ (step m z1 z3 z7 z8 z9 h nx R hi fun m' w1 w3 w7 w8 w9 h' nx' hlt hi'=>hR m' _ h' nx' hlt ⟨_,_,_,_,_,rfl,hi'⟩)
 kernel_rfl
theorem jo.k10:IR.run jo.b10 C N (fnO jo.res K0) K (jo.fr a b d e c f i o p s) h nx =
 K0 (I 0) h nx:=by kernel_rfl
theorem jo.k9 {E0:Ks Prop}:IR.run jo.b9 C N ((fnO jo.res K0).blk 0 E0) K (jo.fr a b d e c f i o p s) h nx =
 zu .add .int o (I 1) fun v1=>K (jo.fr a b d e c f i v1 p s) h nx:=by kernel_rfl
theorem jo.k8 {E0 E1:Ks Prop}:IR.run jo.b8 C N (((fnO jo.res K0).blk 0 E0).blk 1 E1) K (jo.fr a b d e c f i o p s) h nx =
 yB 1 d e fun v1=>zO 1 v1 (.bool true) h nx fun v2 h3 n4=>K (jo.fr a b d e c f i o p s) h3 n4:=by kernel_rfl
theorem F94.sJ (X2:IR) (O:uo Prop) (t:T AV):IR.run (F94.g1 X2) C N O K t h nx=IR.run X2 C N (O.blk 0 K) K t h nx:=by kernel_rfl
theorem F94.tab:T.get none (.of 94) tbl=some F94:=by kernel_rfl
theorem F94.go:zW tbl N C (.of 94) [a0] h nx K0 =
 sLen a0 fun v1=>IR.run F94.b1 C N (fnO F94.res K0) (IR.run F94.b8 C N (fnO F94.res K0) (jv F94.res K0)) (F94.fr a0 (I 0) .undef a0 v1 (I 0) .undef .undef) h nx:=by
 rw [zL F94.tab];kernel_rfl
theorem F94.L1 (Inv:Nat->AV->T Blk->Pa->Prop) {m:Nat} (hm:m<N) (hi:Inv m f h nx)
  (step:∀ (m:Nat) (z1 z2 z5 z6 z7:AV) (h:T Blk) (nx:Pa) (R:Ks Prop),Inv m z5 h nx->(∀ (m':Nat) (w1 w2 w5 w6 w7:AV) (h':T Blk) (nx':Pa),m'<m->Inv m' w5 h' nx'->R (F94.fr a w1 w2 e c w5 w6 w7) h' nx'=.ok True) ->
   (zu .lss .int z5 c fun v1=>yS v1 (yB 1 e z5 fun v2=>zD v2 h fun v3=>zu .neq .int v3 (I 0) fun v4=>yS v4 (K0 v3 h nx) (zu .add .int z5 (I 1) fun v5=>R (F94.fr a z1 v3 e c v5 v1 v4) h nx)) (K (F94.fr a z1 z2 e c z5 v1 z7) h nx))=.ok True) :
  IR.run F94.b1 C N (fnO F94.res K0) K (F94.fr a b d e c f i o) h nx=.ok True:=by
 rw [F94.b1,F94.sJ,F94.b2];refine yJ (fun m tm h nx=>∃ z1 z2 z5 z6 z7,tm=(F94.fr a z1 z2 e c z5 z6 z7)/\Inv m z5 h nx) ?_ hm ⟨_,_,_,_,_,rfl,hi⟩;rintro m tm h nx R ⟨z1,z2,z5,z6,z7,rfl,hi⟩ hR;refine Eq.trans ?_ (step m z1 z2 z5 z6 z7 h nx R hi fun m' w1 w2 w5 w6 w7 h' nx' hlt hi'=>hR m' _ h' nx' hlt ⟨_,_,_,_,_,rfl,hi'⟩)
 kernel_rfl
theorem F94.k8:IR.run F94.b8 C N (fnO F94.res K0) K (F94.fr a b d e c f i o) h nx =
 K0 (I 0) h nx:=by kernel_rfl
theorem F95.tab:T.get none (.of 95) tbl=some F95:=by kernel_rfl
theorem F95.go:zW tbl N C (.of 95) [a0] h nx K0 =
 zu .lss .int a0 (I 0) fun v1=>sG v1 false (fun k=>k a0) fun v2=>sG v1 false (fun k=>zu .gtr .int v2 (I 256) k) fun v3=>jI v1 (.bool true) v3 fun v4=>C.fn 96 (.of 96) [v4,(I 3)] h nx fun v5 h6 n7=>K0 v5 h6 n7:=by
 rw [zL F95.tab];kernel_rfl
theorem F96.tab:T.get none (.of 96) tbl=some F96:=by kernel_rfl
theorem F96.go:zW tbl N C (.of 96) [a0,a1] h nx K0 =
 yS a0 (K0 a1 h nx) (K0 (I 0) h nx):=by
 rw [zL F96.tab];kernel_rfl
theorem F98.ztk (X14:IR) (O:uo Prop) (t:T AV):IR.run (F98.g13 X14) C N O K t h nx=IR.run X14 C N (O.blk 4 K) K t h nx:=by kernel_rfl
theorem F98.zlz (X8:IR) (O:uo Prop) (t:T AV):IR.run (F98.g7 X8) C N O K t h nx=IR.run X8 C N (O.blk 2 K) K t h nx:=by kernel_rfl
theorem F98.tab:T.get none (.of 98) tbl=some F98:=by kernel_rfl
theorem F98.go:zW tbl N C (.of 98) [a0,a1,a2] h nx K0 =
 ak a2 h nx fun v1 h2 n3=>yI [.gq] h2 n3 fun v4 h5 n6=>yI [.zf] h5 n6 fun v7 h8 n9=>yI [(.bool false)] h8 n9 fun vA hD nE=>C.fn 163 (.of 163) [a1] hD nE fun vO hE nF=>yI [.zf,(.bool false)] hE nF fun vE hC nC=>zO 2 vE vO hC nC fun vH hM nN=>sChk (true&&(true&&true)) (zM 2 vE hM fun vK=>zM 2 vE hM fun vL=>C.fn 123 (.of 123) [vK] hM nN fun vM hB nB=>(zM 2 vE hB fun v52=>zJ v52 vL ((zM 2 vE hB fun v51=>zJ v51 vK (xV hB nB fun v27 hN nO=>(zM 2 vE hN fun v50=>zJ v50 vL ((zM 2 vE hN fun v49=>zJ v49 vK (xW .str v27 vM vL hN nO fun vV hO nP=>(zM 2 vE hO fun v48=>zJ v48 vL ((zM 2 vE hO fun vY=>zJ vY vK (yI [.gq] hO nP fun vS hP nQ=>zJ v27 v27 ((zM 2 vE hP fun vZ=>zJ vZ vL ((zM 2 vE hP fun v45=>zJ v45 vK (zO 1 vS v27 hP nQ fun vP hQ nR=>yI [.zf] hQ nR fun v39 hS nS=>C.fn 90 (.of 90) [a0] hS nS fun v42 hT nT=>IR.run (.rf (.t (.of 14)) [(.of 15),(.of 16)] F98.b3 F98.b4) C N ((fnO F98.res K0).blk 0 (IR.run F98.b23 C N (fnO F98.res K0) (jv F98.res K0))) (IR.run F98.b23 C N (fnO F98.res K0) (jv F98.res K0)) (F98.fr a0 a1 a2 v1 v4 v7 vA vE vS v39 .undef .undef .undef .undef v42 .undef .undef .undef .undef .undef .undef .undef .undef .undef .undef) hT nT)))))))))))))))))):=by
 rw [zL F98.tab];kernel_rfl
theorem F98.k23:IR.run F98.b23 C N (fnO F98.res K0) K (F98.fr a b d e c f i o p s g l q u v w y z A B D E F G H) h nx =
 zD p h fun v1=>zD s h fun v2=>zO 1 c v1 h nx fun v3 h4 n5=>(zD s h4 fun vD=>zJ vD v2 (zO 1 f v2 h4 n5 fun v6 h7 n8=>zO 1 i (.bool true) h7 n8 fun v9 hU nU=>zD c hU fun vN=>zD f hU fun vO=>zD i hU fun vC=>K0 (.tup [vN,vO,vC]) hU nU)):=by kernel_rfl
theorem F98.p4 {N:Nat} {C:Calls Prop} {K0:Kw Prop} {id nx:Pa} {j:Jump} {h:T Blk} {a b d e c f i o p s g l q u v w y z A B D E F G H z0 z1:AV} (hl:T.get .no id h=.loop .ready j (F98.fr a b d e c f i o p s g l q u v w y z A B D E F G H) [.of 15,.of 16] F98.b3 F98.b4) :
 wB N C id [z0,z1] h nx K0 =
 yI [.zf,(.bool false)] h nx fun v1 h2 n3=>zO 2 v1 z1 h2 n3 fun v4 h5 n6=>rMid N C id K0 F98.b4 (F98.fr a b d e c f i o p s v1 l q u v z0 z1 z A B D E F G H) h5 n6:=by
 rw [zdp hl (tm1:=(F98.fr a b d e c f i o p s g l q u v z0 z1 z A B D E F G H)) (by intro k;kernel_rfl)];kernel_rfl
theorem F98.y4 {N:Nat} {C:Calls Prop} {K0:Kw Prop} {id nx:Pa} {h:T Blk} {a b d e c f i o p s g l q u v w y z A B D E F G H:AV} :
 IR.run F98.b4 C N (rO id K0) (yT id K0 .none true) (F98.fr a b d e c f i o p s g l q u v w y z A B D E F G H) h nx =
 zD p h fun v1=>zM 2 g h fun v2=>C.fn 121 (.of 121) [v1,v2] h nx fun v3 h4 n5=>yS v3 (yT id K0 .none true .e h4 n5) (zD s h4 fun v6=>zM 2 g h4 fun v7=>yX 2 1 [.zf,(.bool false)] [(0,2,v7)] h4 n5 fun v8 h9 nD=>uW C 2 32 v6 v8 h9 nD fun vB hA nA=>zO 1 s vB hA nA fun vC hI nJ=>sChk (true&&true) (zM 2 o hI fun vF=>zM 2 o hI fun vG=>C.fn 123 (.of 123) [vF] hI nJ fun vH hM nN=>(zM 2 o hM fun v38=>zJ v38 vG ((zM 2 o hM fun v37=>zJ v37 vF (xV hM nN fun vK hK nL=>(zM 2 o hK fun vP=>zJ vP vG ((zM 2 o hK fun vQ=>zJ vQ vF (xW .str vK vH vG hK nL fun v25 hL nM=>zO 1 p vK hL nM fun v28 hV nV=>zM 2 o hV fun vU=>yX 2 1 [.zf,(.bool false)] [(0,2,vU)] hV nV fun vT hW nW=>IR.run F98.b7 C N ((rO id K0).blk 1 (yT id K0 .none true)) (yT id K0 .none true) (F98.fr a b d e c f i o p s g vT q u v w y v3 A B D E F G H) hW nW)))))))))):=by kernel_rfl
theorem F98.L7 {id:Pa} {E1:Ks Prop} (Inv:Nat->AV->T Blk->Pa->Prop) {m:Nat} (hm:m<N) (hi:Inv m l h nx)
  (step:∀ (m:Nat) (zB zC zE zF zG zH zI zK zN zP:AV) (h:T Blk) (nx:Pa) (R:Ks Prop),Inv m zB h nx->(∀ (m':Nat) (wC wD wE wF wG wH wI wJ wL wM:AV) (h':T Blk) (nx':Pa),m'<m->Inv m' wC h' nx'->R (F98.fr a b d e c f i o p s g wC wD wE v w y z wF wG wH wI wJ wL wM) h' nx'=.ok True) ->
   (sLen zB fun v1=>zu .gtr .int v1 (I 0) fun v2=>yS v2 (zD s h fun v3=>sLen v3 fun v4=>IR.run F98.b13 C N ((((rO id K0).blk 1 E1).blk 2 K).blk 3 (IR.run F98.b22 C N (((rO id K0).blk 1 E1).blk 2 K) R)) (IR.run F98.b22 C N (((rO id K0).blk 1 E1).blk 2 K) R) (F98.fr a b d e c f i o p s g zB zC zE v w y z v2 v3 v4 (I 0) zK zN zP) h nx) (K (F98.fr a b d e c f i o p s g zB zC zE v w y z v2 zG zH zI zK zN zP) h nx))=.ok True) :
  IR.run F98.b7 C N ((rO id K0).blk 1 E1) K (F98.fr a b d e c f i o p s g l q u v w y z A B D E F G H) h nx=.ok True:=by
 rw [F98.b7,F98.zlz,F98.b8];refine yJ (fun m tm h nx=>∃ zB zC zE zF zG zH zI zK zN zP,tm=(F98.fr a b d e c f i o p s g zB zC zE v w y z zF zG zH zI zK zN zP)/\Inv m zB h nx) ?_ hm ⟨_,_,_,_,_,_,_,_,_,_,rfl,hi⟩;rintro m tm h nx R ⟨zB,zC,zE,zF,zG,zH,zI,zK,zN,zP,rfl,hi⟩ hR;refine Eq.trans ?_ (step m zB zC zE zF zG zH zI zK zN zP h nx R hi fun m' wC wD wE wF wG wH wI wJ wL wM h' nx' hlt hi'=>hR m' _ h' nx' hlt ⟨_,_,_,_,_,_,_,_,_,_,rfl,hi'⟩)
 kernel_rfl
theorem F98.k22 {id:Pa} {E1 E2:Ks Prop}:IR.run F98.b22 C N (((rO id K0).blk 1 E1).blk 2 E2) K (F98.fr a b d e c f i o p s g l q u v w y z A B D E F G H) h nx =
 gR 2 l (some (I 1)) none none fun v1=>K (F98.fr a b d e c f i o p s g v1 q u v w y z A B D E F G H) h nx:=by kernel_rfl
theorem F98.L13 {id:Pa} {E1 E2 E3:Ks Prop} (Inv:Nat->AV->AV->T Blk->Pa->Prop) {m:Nat} (hm:m<N) (hi:Inv m l E h nx)
  (step:∀ (m:Nat) (zB zC zE zI zK zN zP:AV) (h:T Blk) (nx:Pa) (R:Ks Prop),Inv m zB zI h nx->(∀ (m':Nat) (wC wD wE wI wJ wL wM:AV) (h':T Blk) (nx':Pa),m'<m->Inv m' wC wI h' nx'->R (F98.fr a b d e c f i o p s g wC wD wE v w y z A B D wI wJ wL wM) h' nx'=.ok True) ->
   (zu .lss .int zI D fun v1=>yS v1 (yB 2 B zI fun v2=>zM 2 v2 h fun v3=>yI [.zf,(.bool false)] h nx fun v4 h5 n6=>zO 2 v4 v3 h5 n6 fun v7 h8 n9=>sChk (true&&true) (zM 2 v4 h8 fun vA=>yB 2 zB (I 0) fun vB=>zM 2 vB h8 fun vN=>C.fn 122 (.of 122) [vA,vN] h8 n9 fun vO hE nF=>(zM 2 vB hE fun v65=>zJ v65 vN ((yB 2 zB (I 0) fun v64=>zJ v64 vB (zJ zB zB ((zM 2 v4 hE fun v63=>zJ v63 vA (yI [.zf,(.bool false)] hE nF fun vE hC nC=>(zM 2 vB hC fun v62=>zJ v62 vN ((yB 2 zB (I 0) fun v61=>zJ v61 vB (zJ zB zB ((zM 2 v4 hC fun v60=>zJ v60 vA (zO 2 vE vO hC nC fun vH hM nN=>zD p hM fun vK=>zM 2 vE hM fun vL=>C.fn 121 (.of 121) [vK,vL] hM nN fun vM hB nB=>yS vM (zu .add .int zI (I 1) fun v27=>R (F98.fr a b d e c f i o p s g zB v4 vE v w y z A B D v27 v1 vM zP) hB nB) (zD p hB fun v28=>zio v28 hB fun vW=>zD e hB fun vV=>zu .eql .int vW vV fun vU=>yS vU (zO 1 c .gq hB nB fun vT hW nW=>zO 1 f .zf hW nW fun vQ hX nX=>zO 1 i (.bool false) hX nX fun v38 hY nY=>yT id K0 .ret false .e hY nY) (zD p hB fun v41=>zM 2 vE hB fun v42=>zM 2 vE hB fun v43=>C.fn 123 (.of 123) [v42] hB nB fun v44 hZ nZ=>(zM 2 vE hZ fun v59=>zJ v59 v43 ((zD p hZ fun v58=>zJ v58 v41 (xW .str v41 v44 v43 hZ nZ fun vY h48 n49=>zM 2 vE h48 fun v50=>yX 2 1 [.zf,(.bool false)] [(0,2,v50)] h48 n49 fun v51 h52 n53=>uW C 2 32 zB v51 h52 n53 fun v54 h55 n56=>zu .add .int zI (I 1) fun v57=>R (F98.fr a b d e c f i o p s g v54 v4 vE v w y z A B D v57 v1 vM vU) h55 n56)))))))))))))))))))))) (K (F98.fr a b d e c f i o p s g zB zC zE v w y z A B D zI v1 zN zP) h nx))=.ok True) :
  IR.run F98.b13 C N ((((rO id K0).blk 1 E1).blk 2 E2).blk 3 E3) K (F98.fr a b d e c f i o p s g l q u v w y z A B D E F G H) h nx=.ok True:=by
 rw [F98.b13,F98.ztk,F98.b14];refine yJ (fun m tm h nx=>∃ zB zC zE zI zK zN zP,tm=(F98.fr a b d e c f i o p s g zB zC zE v w y z A B D zI zK zN zP)/\Inv m zB zI h nx) ?_ hm ⟨_,_,_,_,_,_,_,rfl,hi⟩;rintro m tm h nx R ⟨zB,zC,zE,zI,zK,zN,zP,rfl,hi⟩ hR;refine Eq.trans ?_ (step m zB zC zE zI zK zN zP h nx R hi fun m' wC wD wE wI wJ wL wM h' nx' hlt hi'=>hR m' _ h' nx' hlt ⟨_,_,_,_,_,_,_,rfl,hi'⟩)
 kernel_rfl
theorem F92.tab:T.get none (.of 92) tbl=some F92:=by kernel_rfl
theorem F92.go:zW tbl N C (.of 92) [a0,a1] h nx K0 =
 ak a0 h nx fun v1 h2 n3=>yI [.gq] h2 n3 fun v4 h5 n6=>yI [.zf] h5 n6 fun v7 h8 n9=>yI [(I 0)] h8 n9 fun vA hD nE=>zD v1 hD fun vO=>sLen vO fun vC=>zu .eql .int vC (I 0) fun vD=>zD v1 hD fun vE=>sLen vE fun vF=>zu .gtr .int vF (I 1536) fun vG=>C.fn 95 (.of 95) [a1] hD nE fun vH hM nN=>(zu .gtr .int vF (I 1536) fun v76=>zJ v76 vG ((sLen vE fun v75=>zJ v75 vF ((zD v1 hM fun v74=>zJ v74 vE ((zu .eql .int vC (I 0) fun v73=>zJ v73 vD ((sLen vO fun v72=>zJ v72 vC ((zD v1 hM fun v71=>zJ v71 vO (C.fn 96 (.of 96) [vD,(I 12)] hM nN fun vK hK nL=>(zu .gtr .int vF (I 1536) fun v70=>zJ v70 vG ((sLen vE fun v69=>zJ v69 vF ((zD v1 hK fun v68=>zJ v68 vE (C.fn 96 (.of 96) [vG,(I 5)] hK nL fun v25 hL nM=>yX 1 3 [(I 0)] [(0,1,vH),(1,1,vK),(2,1,v25)] hL nM fun v28 hV nV=>C.fn 94 (.of 94) [v28] hV nV fun vU h32 n33=>zu .neq .int vU (I 0) fun vR=>yS vR (zO 1 v4 .gq h32 n33 fun vQ hX nX=>zO 1 v7 .zf hX nX fun v38 hY nY=>zO 1 vA vU hY nY fun v41 h42 n43=>zD v4 h42 fun v44=>zD v7 h42 fun v45=>zD vA h42 fun vZ=>K0 (.tup [v44,v45,vZ]) h42 n43) (zD v1 h32 fun vY=>C.fn 97 (.of 97) [vY,a1] h32 n33 fun v48 h49 n50=>zu .neq .int v48 (I 0) fun v51=>yS v51 (zO 1 v4 .gq h49 n50 fun v52 h53 n54=>zO 1 v7 .zf h53 n54 fun v55 h56 n57=>zO 1 vA v48 h56 n57 fun v58 h59 n60=>zD v4 h59 fun v61=>zD v7 h59 fun v62=>zD vA h59 fun v63=>K0 (.tup [v61,v62,v63]) h59 n60) (zD v1 h49 fun v64=>C.fn 90 (.of 90) [v64] h49 n50 fun v65 h66 n67=>IR.run (.rf (.t (.of 15)) [(.of 16),(.of 17)] F92.b5 F92.b6) C N ((fnO F92.res K0).blk 0 (IR.run F92.b8 C N (fnO F92.res K0) (jv F92.res K0))) (IR.run F92.b8 C N (fnO F92.res K0) (jv F92.res K0)) (F92.fr a0 a1 v1 v4 v7 vA vU v48 .undef .undef .undef .undef .undef vR v51 v65 .undef .undef .undef .undef) h66 n67)))))))))))))))))))):=by
 rw [zL F92.tab];kernel_rfl
theorem F92.k8:IR.run F92.b8 C N (fnO F92.res K0) K (F92.fr a b d e c f i o p s g l q u v w y z A B) h nx =
 zD d h fun v1=>zD d h fun v2=>sLen v2 fun v3=>C.fn 98 (.of 98) [v1,b,v3] h nx fun v4 h5 n6=>bY 0 v4 fun v7=>bY 1 v4 fun v8=>bY 2 v4 fun v9=>sNot v9 fun vA=>sG vA false (fun k=>k v7) fun vB=>sG vA false (fun k=>zio vB h5 k) fun vN=>sG vA false (fun k=>zD d h5 k) fun vO=>sG vA false (fun k=>sLen vO k) fun vC=>sG vA false (fun k=>zu .neq .int vN vC k) fun vD=>jI vA (.bool true) vD fun vE=>yS vE (zO 1 e .gq h5 n6 fun vF h18 n19=>zO 1 c .zf h18 n19 fun vI hF nG=>zO 1 f (I 28) hF nG fun vL hG nH=>zD e hG fun vX=>zD c hG fun v27=>zD f hG fun v28=>K0 (.tup [vX,v27,v28]) hG nH) ((IR.run F92.b9 C N (fnO F92.res K0) K) (F92.fr a b d e c f i o p s v7 v8 v9 u v w y z A vE) h5 n6):=by kernel_rfl
theorem F92.p6 {N:Nat} {C:Calls Prop} {K0:Kw Prop} {id nx:Pa} {j:Jump} {h:T Blk} {a b d e c f i o p s g l q u v w y z A B z0 z1:AV} (hl:T.get .no id h=.loop .ready j (F92.fr a b d e c f i o p s g l q u v w y z A B) [.of 16,.of 17] F92.b5 F92.b6) :
 wB N C id [z0,z1] h nx K0 =
 yI [.zf,(.bool false)] h nx fun v1 h2 n3=>zO 2 v1 z1 h2 n3 fun v4 h5 n6=>rMid N C id K0 F92.b6 (F92.fr a b d e c f i o z0 v1 g l q u v w z0 z1 A B) h5 n6:=by
 rw [zdp hl (tm1:=(F92.fr a b d e c f i o p s g l q u v w z0 z1 A B)) (by intro k;kernel_rfl)];kernel_rfl
theorem F92.y6 {N:Nat} {C:Calls Prop} {K0:Kw Prop} {id nx:Pa} {h:T Blk} {a b d e c f i o p s g l q u v w y z A B:AV} :
 IR.run F92.b6 C N (rO id K0) (yT id K0 .none true) (F92.fr a b d e c f i o p s g l q u v w y z A B) h nx =
 zu .gtr .int p (I 0) fun v1=>sG v1 true (fun k=>zD d h k) fun v2=>sG v1 true (fun k=>k p) fun v3=>sG v1 true (fun k=>zu .sub .int v3 (I 1) k) fun v4=>sG v1 true (fun k=>yB 2 v2 v4 k) fun v5=>sG v1 true (fun k=>zM 2 v5 h k) fun v6=>sG v1 true (fun k=>zM 2 s h k) fun v7=>sGW v1 true (fun k=>C.fn 162 (.of 162) [v6,v7] h nx k) h nx fun v8 h9 nD=>sG v1 true (fun k=>zu .geq .int v8 (I 0) k) fun vB=>jI v1 vB (.bool false) fun vN=>yS vN (zO 1 e .gq h9 nD fun vO hE nF=>zO 1 c .zf hE nF fun vE hC nC=>zO 1 f (I 11) hC nC fun vH hM nN=>yT id K0 .ret false .e hM nN) (yT id K0 .none true .e h9 nD):=by kernel_rfl
theorem F92.k9:IR.run F92.b9 C N (fnO F92.res K0) K (F92.fr a b d e c f i o p s g l q u v w y z A B) h nx =
 zO 1 e g h nx fun v1 h2 n3=>zO 1 c l h2 n3 fun v4 h5 n6=>zO 1 f (I 0) h5 n6 fun v7 h8 n9=>zD e h8 fun vA=>zD c h8 fun vB=>zD f h8 fun vN=>K0 (.tup [vA,vB,vN]) h8 n9:=by kernel_rfl
theorem F22.tab:T.get none (.of 22) tbl=some F22:=by kernel_rfl
theorem F22.go:zW tbl N C (.of 22) [a0,a1] h nx K0 =
 C.fn 92 (.of 92) [a0,a1] h nx fun v1 h2 n3=>bY 0 v1 fun v4=>bY 1 v1 fun v5=>bY 2 v1 fun v6=>K0 v6 h2 n3:=by
 rw [zL F22.tab];kernel_rfl
end Go.Ev
namespace Go.Ev
open Go Go.Proofs
set_option maxRecDepth 100000
section
variable {N:Nat} {C:Calls Prop} {K0:Kw Prop} {K:Ks Prop} {h:T Blk} {nx:Pa} {a b d e c f i o p s g l a0 a1:AV} {O:uo Prop} {tm:T AV} {Kt:KTm} {r:List RO} {s0 s1 s2 s3 s4 s5 s6 s7 s8 s9 s10 s11 s12 s13 s14 s15 s16 s17 s18 s19 s20 s21 s22 s23 s24 s25 s26 s27 s28 s29 s30 s31 s32 s33 s34 s35 s36 s37 s38 s39 s40 s41 s42 s43 s44 s45 s46 s47 s48 s49 s50 s51 s52 s53 s54 s55 s56 s57 s58 s59:AV}
end
end Go.Ev
namespace Go.Ev
open Go Go.Proofs
set_option maxRecDepth 100000
section
variable {N:Nat} {C:Calls Prop} {K0:Kw Prop} {K:Ks Prop} {h:T Blk} {nx:Pa} {a b d e c f i a0 a1 a2 a3:AV} {O:uo Prop} {tm:T AV} {Kt:KTm} {r:List RO} {s0 s1 s2 s3 s4 s5 s6 s7 s8 s9 s10 s11 s12 s13 s14 s15 s16 s17 s18 s19 s20 s21 s22 s23 s24 s25 s26 s27 s28 s29 s30 s31 s32 s33 s34 s35 s36 s37 s38 s39 s40 s41 s42 s43 s44 s45 s46 s47 s48 s49 s50 s51 s52 s53 s54 s55 s56 s57 s58 s59:AV}
def F28.t0:IR:=.reg [.q (.of 4) (.mv (.c (.bool false)))]
def F28.t1:IR:=.reg [.s (.mv (.t (.of 2))),.q (.of 5) (.bin .neq .int (.s 0) (.c (I 0)))]
def F28.t2:IR:=.reg [.s (.mv (.t (.of 0))),.s (.len (.s 0)),.s (.bin .eql .int (.s 0) (.c (I 0))),.s (.mv (.s 0)),.p .push (some ((.s 0),true)) (.mv (.t (.of 1))),.p .push (some ((.s 1),true)) (.mv (.t (.of 2))),.p .push (some ((.s 2),true)) (.bin .eql .int (.s 1) (.s 0)),.s (.pick (.s 3) (.s 0) (.c (.bool false))),.q (.of 4) (.mv (.s 0))]
def F28.t3:IR:=.seq F28.t2 .ret
def F28.t4:IR:=.cond (.t (.of 5)) F28.t3 .skip
def F28.t5:IR:=.seq F28.t1 F28.t4
def F28.t6:IR:=.reg [.s (.mv (.t (.of 1))),.s (.bin .eql .int (.s 0) (.c (I 0))),.s (.mv (.s 0)),.p .push (some ((.s 0),true)) (.mv (.t (.of 0))),.p .push (some ((.s 1),true)) (.mv (.t (.of 3))),.w .push (some ((.s 2),true)) (.call (.c (.fn 69 (.of 69) [])) [(.s 1),(.s 0)]),.s (.pick (.s 3) (.s 0) (.c (.bool false))),.q (.of 4) (.mv (.s 0))]
def F28.t7:IR:=.seq F28.t6 .ret
def F28.t8:IR:=.seq F28.t5 F28.t7
def F28.t9:IR:=.seq F28.t0 F28.t8
theorem F28.wo:IR.run F28.t0 C N O K (F28.fr a b d e c f) h nx =
 K (F28.fr a b d e (.bool false) f) h nx:=by kernel_rfl
theorem F28.wu:IR.run F28.t1 C N O K (F28.fr a b d e c f) h nx =
 zu .neq .int d (I 0) fun v1=>K (F28.fr a b d e c v1) h nx:=by kernel_rfl
theorem F28.dw:IR.run F28.t2 C N O K (F28.fr a b d e c f) h nx =
 sLen a fun v1=>zu .eql .int v1 (I 0) fun v2=>sG v2 true (fun k=>k b) fun v3=>sG v2 true (fun k=>k d) fun v4=>sG v2 true (fun k=>zu .eql .int v3 v4 k) fun v5=>jI v2 v5 (.bool false) fun v6=>K (F28.fr a b d e v6 f) h nx:=by kernel_rfl
theorem F28.v5:Arg.ev (.t (.of 5)) ⟨(F28.fr a b d e c f),[]⟩=f:=by kernel_rfl
theorem F28.tab:T.get none (.of 28) tbl=some F28:=by kernel_rfl
theorem F28.bind (k:T AV->OP):zX F28.params [a0,a1,a2,a3] F28.init k=k (F28.fr a0 a1 a2 a3 .undef .undef):=by kernel_rfl
theorem F28.jg:F28.body=F28.t9:=by kernel_rfl
theorem F28.go:zW tbl N C (.of 28) [a0,a1,a2,a3] h nx K0=IR.run F28.t9 C N (fnO F28.res K0) (jv F28.res K0) (F28.fr a0 a1 a2 a3 .undef .undef) h nx:=by
 rw [zL F28.tab,F28.bind,F28.jg];kernel_rfl
theorem F28.ret:jv F28.res K0 (F28.fr a b d e c f) h nx=K0 c h nx:=by kernel_rfl
def F69.t0:IR:=.reg [.q (.of 2) (.mv (.c (.bool false)))]
def F69.t1:IR:=.reg [.s (.mv (.t (.of 0))),.s (.len (.s 0)),.s (.mv (.t (.of 1))),.s (.len (.s 0)),.q (.of 4) (.bin .neq .int (.s 2) (.s 0))]
def F69.t2:IR:=.reg [.q (.of 2) (.mv (.c (.bool false)))]
def F69.t3:IR:=.seq F69.t2 .ret
def F69.t4:IR:=.cond (.t (.of 4)) F69.t3 .skip
def F69.t5:IR:=.seq F69.t1 F69.t4
def F69.t6:IR:=.reg [.q (.of 3) (.mv (.c (I 0)))]
def F69.t7:IR:=.reg [.s (.mv (.t (.of 3))),.s (.mv (.t (.of 0))),.s (.len (.s 0)),.q (.of 5) (.bin .lss .int (.s 2) (.s 0))]
def F69.t8:IR:=.cond (.t (.of 5)) .skip (.exit 0)
def F69.t9:IR:=.seq F69.t7 F69.t8
def F69.t10:IR:=.yw [] [(.s (.mv (.t (.of 0))),0,[]),(.s (.mv (.t (.of 3))),0,[]),(.s (.zo 2 (.s 1) (.s 0)),0,[]),(.s (.zh 2 (.s 0)),0,[]),(.s (.mv (.t (.of 1))),0,[]),(.s (.mv (.t (.of 3))),0,[]),(.s (.zo 2 (.s 1) (.s 0)),0,[]),(.s (.zh 2 (.s 0)),0,[]),(.w .push none (.call (.c (.fn 30 (.of 30) [])) [(.s 4),(.s 0)]),0,[]),(.q (.of 6) (.not (.s 0)),0,[])]
def F69.t11:IR:=.reg [.q (.of 2) (.mv (.c (.bool false)))]
def F69.t12:IR:=.seq F69.t11 .ret
def F69.t13:IR:=.cond (.t (.of 6)) F69.t12 .skip
def F69.t14:IR:=.seq F69.t10 F69.t13
def F69.t15:IR:=.block 1 F69.t14
def F69.t16:IR:=.reg [.s (.mv (.t (.of 3))),.s (.bin .add .int (.s 0) (.c (I 1))),.q (.of 3) (.mv (.s 0))]
def F69.t17:IR:=.seq F69.t15 F69.t16
def F69.t18:IR:=.seq F69.t9 F69.t17
def F69.t19:IR:=.loop F69.t18
def F69.t20:IR:=.block 0 F69.t19
def F69.t21:IR:=.seq F69.t6 F69.t20
def F69.t22:IR:=.reg [.q (.of 2) (.mv (.c (.bool true)))]
def F69.t23:IR:=.seq F69.t22 .ret
def F69.t24:IR:=.seq F69.t21 F69.t23
def F69.t25:IR:=.seq F69.t5 F69.t24
def F69.t26:IR:=.seq F69.t0 F69.t25
theorem F69.wo:IR.run F69.t0 C N O K (F69.fr a b d e c f i) h nx =
 K (F69.fr a b (.bool false) e c f i) h nx:=by kernel_rfl
theorem F69.wu:IR.run F69.t1 C N O K (F69.fr a b d e c f i) h nx =
 sLen a fun v1=>sLen b fun v2=>zu .neq .int v1 v2 fun v3=>K (F69.fr a b d e v3 f i) h nx:=by kernel_rfl
theorem F69.v4:Arg.ev (.t (.of 4)) ⟨(F69.fr a b d e c f i),[]⟩=c:=by kernel_rfl
theorem F69.aI:IR.run F69.t6 C N O K (F69.fr a b d e c f i) h nx =
 K (F69.fr a b d (I 0) c f i) h nx:=by kernel_rfl
theorem F69.t7_s:IR.run F69.t7 C N O K (F69.fr a b d e c f i) h nx =
 sLen a fun v1=>zu .lss .int e v1 fun v2=>K (F69.fr a b d e c v2 i) h nx:=by kernel_rfl
theorem F69.v5:Arg.ev (.t (.of 5)) ⟨(F69.fr a b d e c f i),[]⟩=f:=by kernel_rfl
theorem F69.fG:IR.run F69.t10 C N O K (F69.fr a b d e c f i) h nx =
 yB 2 a e fun v1=>zM 2 v1 h fun v2=>yB 2 b e fun v3=>zM 2 v3 h fun v4=>C.fn 30 (.of 30) [v2,v4] h nx fun v5 h6 n7=>sNot v5 fun v8=>K (F69.fr a b d e c f v8) h6 n7:=by kernel_rfl
theorem F69.v6:Arg.ev (.t (.of 6)) ⟨(F69.fr a b d e c f i),[]⟩=i:=by kernel_rfl
theorem F69.sQ:IR.run F69.t16 C N O K (F69.fr a b d e c f i) h nx =
 zu .add .int e (I 1) fun v1=>K (F69.fr a b d v1 c f i) h nx:=by kernel_rfl
theorem F69.zl0 (Inv:Nat->AV->T Blk->Pa->Prop) {m:Nat} (hm:m<N) (hi:Inv m e h nx)
  (step:∀ (m:Nat) (z2 z3 z5 z6:AV) (h:T Blk) (nx:Pa) (R:Ks Prop),Inv m z3 h nx->(∀ (m':Nat) (w2 w3 w5 w6:AV) (h':T Blk) (nx':Pa),m'<m->Inv m' w3 h' nx'->R (F69.fr a b w2 w3 c w5 w6) h' nx'=.ok True)->IR.run F69.t18 C N O R (F69.fr a b z2 z3 c z5 z6) h nx=.ok True) :
  IR.run F69.t19 C N O K (F69.fr a b d e c f i) h nx=.ok True:=by
 rw [F69.t19];refine yJ (fun m tm h nx=>∃ z2 z3 z5 z6,tm=(F69.fr a b z2 z3 c z5 z6)/\Inv m z3 h nx) ?_ hm ⟨_,_,_,_,rfl,hi⟩;rintro m tm h nx R ⟨z2,z3,z5,z6,rfl,hi⟩ hR;exact step m z2 z3 z5 z6 h nx R hi fun m' w2 w3 w5 w6 h' nx' hlt hi'=>hR m' _ h' nx' hlt ⟨_,_,_,_,rfl,hi'⟩
theorem F69.zah:IR.run F69.t22 C N O K (F69.fr a b d e c f i) h nx =
 K (F69.fr a b (.bool true) e c f i) h nx:=by kernel_rfl
theorem F69.tab:T.get none (.of 69) tbl=some F69:=by kernel_rfl
theorem F69.bind (k:T AV->OP):zX F69.params [a0,a1] F69.init k=k (F69.fr a0 a1 .undef .undef .undef .undef .undef):=by kernel_rfl
theorem F69.jg:F69.body=F69.t26:=by kernel_rfl
theorem F69.go:zW tbl N C (.of 69) [a0,a1] h nx K0=IR.run F69.t26 C N (fnO F69.res K0) (jv F69.res K0) (F69.fr a0 a1 .undef .undef .undef .undef .undef) h nx:=by
 rw [zL F69.tab,F69.bind,F69.jg];kernel_rfl
theorem F69.ret:jv F69.res K0 (F69.fr a b d e c f i) h nx=K0 d h nx:=by kernel_rfl
end
end Go.Ev
namespace Go.Ev
open Go Go.Proofs
set_option maxRecDepth 100000
section
variable {N:Nat} {C:Calls Prop} {K0:Kw Prop} {K:Ks Prop} {h:T Blk} {nx:Pa} {a b d e c f i o p s g l q u v w a0 a1 a2 a3:AV} {O:uo Prop} {tm:T AV} {Kt:KTm} {r:List RO} {s0 s1 s2 s3 s4 s5 s6 s7 s8 s9 s10 s11 s12 s13 s14 s15 s16 s17 s18 s19 s20 s21 s22 s23 s24 s25 s26 s27 s28 s29 s30 s31 s32 s33 s34 s35 s36 s37 s38 s39 s40 s41 s42 s43 s44 s45 s46 s47 s48 s49 s50 s51 s52 s53 s54 s55 s56 s57 s58 s59:AV}
end
end Go.Ev
namespace Go.Ev
open Go Go.Proofs
set_option maxRecDepth 100000
section
variable {N:Nat} {C:Calls Prop} {K0:Kw Prop} {K:Ks Prop} {h:T Blk} {nx:Pa} {a b d e c f i o p s g l q u v w y z a0 a1 a2:AV} {O:uo Prop} {tm:T AV} {Kt:KTm} {r:List RO} {s0 s1 s2 s3 s4 s5 s6 s7 s8 s9 s10 s11 s12 s13 s14 s15 s16 s17 s18 s19 s20 s21 s22 s23 s24 s25 s26 s27 s28 s29 s30 s31 s32 s33 s34 s35 s36 s37 s38 s39 s40 s41 s42 s43 s44 s45 s46 s47 s48 s49 s50 s51 s52 s53 s54 s55 s56 s57 s58 s59:AV}
def zk.t0:IR:=.reg [.q (.of 3) (.mv (.c .gq)),.w (.loc (.of 4)) none (.alloc [.zf,.zf]),.q (.of 5) (.mv (.c (I 0)))]
def zk.t1:IR:=.reg [.w (.loc (.of 6)) none (.alloc [.zf,.zf])]
def zk.t2:IR:=.reg [.s (.mv (.t (.of 0))),.s (.mv (.t (.of 2))),.w .push none (.call (.c (.fn 92 (.of 92) [])) [(.s 1),(.s 0)]),.s (.mv (.s 0)),.s (.ext 0 (.s 0)),.s (.ext 1 (.s 1)),.s (.ext 2 (.s 2)),.q (.of 7) (.mv (.s 2)),.q (.of 8) (.mv (.s 1)),.q (.of 9) (.mv (.s 0))]
def zk.t3:IR:=.reg [.s (.mv (.t (.of 9))),.q (.of 13) (.bin .neq .int (.s 0) (.c (I 0)))]
def zk.t4:IR:=.yw [] [(.s (.zh 2 (.t (.of 6))),0,[]),(.s (.mv (.t (.of 9))),1,[]),(.q (.of 3) (.mv (.c .gq)),0,[]),(.w .none none (.store 2 (.t (.of 4)) (.s 1)),0,[]),(.q (.of 5) (.mv (.s 0)),0,[])]
def zk.t5:IR:=.seq zk.t4 .ret
def zk.t6:IR:=.cond (.t (.of 13)) zk.t5 .skip
def zk.t7:IR:=.seq zk.t3 zk.t6
def zk.t8:IR:=.reg [.s (.mv (.t (.of 1))),.s (.mv (.t (.of 2))),.w .push none (.call (.c (.fn 92 (.of 92) [])) [(.s 1),(.s 0)]),.s (.mv (.s 0)),.s (.ext 0 (.s 0)),.s (.ext 1 (.s 1)),.s (.ext 2 (.s 2)),.q (.of 10) (.mv (.s 2)),.q (.of 11) (.mv (.s 1)),.q (.of 9) (.mv (.s 0))]
def zk.t9:IR:=.reg [.s (.mv (.t (.of 9))),.q (.of 14) (.bin .neq .int (.s 0) (.c (I 0)))]
def zk.t10:IR:=.yw [] [(.s (.zh 2 (.t (.of 6))),0,[]),(.s (.mv (.t (.of 9))),1,[]),(.q (.of 3) (.mv (.c .gq)),0,[]),(.w .none none (.store 2 (.t (.of 4)) (.s 1)),0,[]),(.q (.of 5) (.mv (.s 0)),0,[])]
def zk.t11:IR:=.seq zk.t10 .ret
def zk.t12:IR:=.cond (.t (.of 14)) zk.t11 .skip
def zk.t13:IR:=.seq zk.t9 zk.t12
def zk.t14:IR:=.reg [.s (.mv (.t (.of 10))),.w (.loc (.of 15)) none (.range (.s 0))]
def zk.t15:IR:=.reg [.w .push none (.next (.t (.of 15))),.q (.of 16) (.ext 0 (.s 0))]
def zk.t16:IR:=.cond (.t (.of 16)) .skip (.exit 0)
def zk.t17:IR:=.reg [.s (.entry (.t (.of 15))),.s (.ext 1 (.s 0)),.w (.loc (.of 12)) none (.alloc [.zf,(.bool false)]),.w .none none (.store 2 (.t (.of 12)) (.s 0))]
def zk.t18:IR:=.reg [.s (.mv (.t (.of 7))),.s (.zh 2 (.t (.of 12))),.w .push none (.call (.c (.fn 121 (.of 121) [])) [(.s 1),(.s 0)]),.q (.of 17) (.not (.s 0))]
def zk.t19:IR:=.yw [] [(.s (.zh 2 (.t (.of 6))),0,[]),(.q (.of 3) (.mv (.c .gq)),0,[]),(.w .none none (.store 2 (.t (.of 4)) (.s 0)),0,[]),(.q (.of 5) (.mv (.c (I 28))),0,[])]
def zk.t20:IR:=.seq zk.t19 .ret
def zk.t21:IR:=.cond (.t (.of 17)) zk.t20 .skip
def zk.t22:IR:=.seq zk.t18 zk.t21
def zk.t23:IR:=.seq zk.t17 zk.t22
def zk.t24:IR:=.block 1 zk.t23
def zk.t25:IR:=.seq zk.t16 zk.t24
def zk.t26:IR:=.seq zk.t15 zk.t25
def zk.t27:IR:=.loop zk.t26
def zk.t28:IR:=.block 0 zk.t27
def zk.t29:IR:=.seq zk.t14 zk.t28
def zk.t30:IR:=.reg [.s (.mv (.t (.of 8))),.s (.mv (.t (.of 11))),.s (.oC 1 2 (.t (.of 6)) (.c (I 0))),.w .none none (.store 1 (.s 0) (.s 2)),.s (.oC 1 2 (.t (.of 6)) (.c (I 1))),.w .none none (.store 1 (.s 0) (.s 2))]
def zk.t31:IR:=.yw [] [(.s (.mv (.t (.of 10))),0,[]),(.s (.zh 2 (.t (.of 6))),0,[]),(.q (.of 3) (.mv (.s 1)),0,[]),(.w .none none (.store 2 (.t (.of 4)) (.s 0)),0,[]),(.q (.of 5) (.mv (.c (I 0))),0,[])]
def zk.t32:IR:=.seq zk.t31 .ret
def zk.t33:IR:=.seq zk.t30 zk.t32
def zk.t34:IR:=.seq zk.t29 zk.t33
def zk.t35:IR:=.seq zk.t13 zk.t34
def zk.t36:IR:=.seq zk.t8 zk.t35
def zk.t37:IR:=.seq zk.t7 zk.t36
def zk.t38:IR:=.seq zk.t2 zk.t37
def zk.t39:IR:=.seq zk.t1 zk.t38
def zk.t40:IR:=.seq zk.t0 zk.t39
theorem zk.wo:IR.run zk.t0 C N O K (zk.fr a b d e c f i o p s g l q u v w y z) h nx =
 yI [.zf,.zf] h nx fun v1 h2 n3=>K (zk.fr a b d .gq v1 (I 0) i o p s g l q u v w y z) h2 n3:=by kernel_rfl
theorem zk.wu:IR.run zk.t1 C N O K (zk.fr a b d e c f i o p s g l q u v w y z) h nx =
 yI [.zf,.zf] h nx fun v1 h2 n3=>K (zk.fr a b d e c f v1 o p s g l q u v w y z) h2 n3:=by kernel_rfl
theorem zk.dw:IR.run zk.t2 C N O K (zk.fr a b d e c f i o p s g l q u v w y z) h nx =
 C.fn 92 (.of 92) [a,d] h nx fun v1 h2 n3=>bY 0 v1 fun v4=>bY 1 v1 fun v5=>bY 2 v1 fun v6=>K (zk.fr a b d e c f i v4 v5 v6 g l q u v w y z) h2 n3:=by kernel_rfl
theorem zk.rF:IR.run zk.t3 C N O K (zk.fr a b d e c f i o p s g l q u v w y z) h nx =
 zu .neq .int s (I 0) fun v1=>K (zk.fr a b d e c f i o p s g l q v1 v w y z) h nx:=by kernel_rfl
theorem zk.t4_s:IR.run zk.t4 C N O K (zk.fr a b d e c f i o p s g l q u v w y z) h nx =
 zM 2 i h fun v1=>zO 2 c v1 h nx fun v2 h3 n4=>zJ s s (K (zk.fr a b d .gq c s i o p s g l q u v w y z) h3 n4):=by kernel_rfl
theorem zk.v13:Arg.ev (.t (.of 13)) ⟨(zk.fr a b d e c f i o p s g l q u v w y z),[]⟩=u:=by kernel_rfl
theorem zk.sV:IR.run zk.t8 C N O K (zk.fr a b d e c f i o p s g l q u v w y z) h nx =
 C.fn 92 (.of 92) [b,d] h nx fun v1 h2 n3=>bY 0 v1 fun v4=>bY 1 v1 fun v5=>bY 2 v1 fun v6=>K (zk.fr a b d e c f i o p v6 v4 v5 q u v w y z) h2 n3:=by kernel_rfl
theorem zk.au:IR.run zk.t9 C N O K (zk.fr a b d e c f i o p s g l q u v w y z) h nx =
 zu .neq .int s (I 0) fun v1=>K (zk.fr a b d e c f i o p s g l q u v1 w y z) h nx:=by kernel_rfl
theorem zk.fG:IR.run zk.t10 C N O K (zk.fr a b d e c f i o p s g l q u v w y z) h nx =
 zM 2 i h fun v1=>zO 2 c v1 h nx fun v2 h3 n4=>zJ s s (K (zk.fr a b d .gq c s i o p s g l q u v w y z) h3 n4):=by kernel_rfl
theorem zk.v14:Arg.ev (.t (.of 14)) ⟨(zk.fr a b d e c f i o p s g l q u v w y z),[]⟩=v:=by kernel_rfl
theorem zk.rC:IR.run zk.t14 C N O K (zk.fr a b d e c f i o p s g l q u v w y z) h nx =
 zdq g h nx fun v1 h2 n3=>K (zk.fr a b d e c f i o p s g l q u v v1 y z) h2 n3:=by kernel_rfl
theorem zk.aX:IR.run zk.t15 C N O K (zk.fr a b d e c f i o p s g l q u v w y z) h nx =
 ziq C w h nx fun v1 h2 n3=>bY 0 v1 fun v4=>K (zk.fr a b d e c f i o p s g l q u v w v4 z) h2 n3:=by kernel_rfl
theorem zk.v16:Arg.ev (.t (.of 16)) ⟨(zk.fr a b d e c f i o p s g l q u v w y z),[]⟩=y:=by kernel_rfl
theorem zk.zai:IR.run zk.t17 C N O K (zk.fr a b d e c f i o p s g l q u v w y z) h nx =
 zdr w h fun v1=>bY 1 v1 fun v2=>yI [.zf,(.bool false)] h nx fun v3 h4 n5=>zO 2 v3 v2 h4 n5 fun v6 h7 n8=>K (zk.fr a b d e c f i o p s g l v3 u v w y z) h7 n8:=by kernel_rfl
theorem zk.zey:IR.run zk.t18 C N O K (zk.fr a b d e c f i o p s g l q u v w y z) h nx =
 zM 2 q h fun v1=>C.fn 121 (.of 121) [o,v1] h nx fun v2 h3 n4=>sNot v2 fun v5=>K (zk.fr a b d e c f i o p s g l q u v w y v5) h3 n4:=by kernel_rfl
theorem zk.zl1:IR.run zk.t19 C N O K (zk.fr a b d e c f i o p s g l q u v w y z) h nx =
 zM 2 i h fun v1=>zO 2 c v1 h nx fun v2 h3 n4=>K (zk.fr a b d .gq c (I 28) i o p s g l q u v w y z) h3 n4:=by kernel_rfl
theorem zk.v17:Arg.ev (.t (.of 17)) ⟨(zk.fr a b d e c f i o p s g l q u v w y z),[]⟩=z:=by kernel_rfl
theorem zk.zva (Inv:Nat->T Blk->Pa->Prop) {m:Nat} (hm:m<N) (hi:Inv m h nx)
  (step:∀ (m:Nat) (z3 z5 zC zQ zR:AV) (h:T Blk) (nx:Pa) (R:Ks Prop),Inv m h nx->(∀ (m':Nat) (w3 w5 wD wN wO:AV) (h':T Blk) (nx':Pa),m'<m->Inv m' h' nx'->R (zk.fr a b d w3 c w5 i o p s g l wD u v w wN wO) h' nx'=.ok True)->IR.run zk.t26 C N O R (zk.fr a b d z3 c z5 i o p s g l zC u v w zQ zR) h nx=.ok True) :
  IR.run zk.t27 C N O K (zk.fr a b d e c f i o p s g l q u v w y z) h nx=.ok True:=by
 rw [zk.t27];refine yJ (fun m tm h nx=>∃ z3 z5 zC zQ zR,tm=(zk.fr a b d z3 c z5 i o p s g l zC u v w zQ zR)/\Inv m h nx) ?_ hm ⟨_,_,_,_,_,rfl,hi⟩;rintro m tm h nx R ⟨z3,z5,zC,zQ,zR,rfl,hi⟩ hR;exact step m z3 z5 zC zQ zR h nx R hi fun m' w3 w5 wD wN wO h' nx' hlt hi'=>hR m' _ h' nx' hlt ⟨_,_,_,_,_,rfl,hi'⟩
theorem zk.zvb:IR.run zk.t30 C N O K (zk.fr a b d e c f i o p s g l q u v w y z) h nx =
 dV 1 2 i (I 0) fun v1=>zO 1 v1 p h nx fun v2 h3 n4=>dV 1 2 i (I 1) fun v5=>zO 1 v5 l h3 n4 fun v6 h7 n8=>K (zk.fr a b d e c f i o p s g l q u v w y z) h7 n8:=by kernel_rfl
theorem zk.zez:IR.run zk.t31 C N O K (zk.fr a b d e c f i o p s g l q u v w y z) h nx =
 zM 2 i h fun v1=>zO 2 c v1 h nx fun v2 h3 n4=>K (zk.fr a b d g c (I 0) i o p s g l q u v w y z) h3 n4:=by kernel_rfl
theorem zk.tab:T.get none (.of 120) tbl=some zk:=by kernel_rfl
theorem zk.bind (k:T AV->OP):zX zk.params [a0,a1,a2] zk.init k=k (zk.fr a0 a1 a2 .undef .undef .undef .undef .undef .undef .undef .undef .undef .undef .undef .undef .undef .undef .undef):=by kernel_rfl
theorem zk.jg:zk.body=zk.t40:=by kernel_rfl
theorem zk.go:zW tbl N C (.of 120) [a0,a1,a2] h nx K0=IR.run zk.t40 C N (fnO zk.res K0) (jv zk.res K0) (zk.fr a0 a1 a2 .undef .undef .undef .undef .undef .undef .undef .undef .undef .undef .undef .undef .undef .undef .undef) h nx:=by
 rw [zL zk.tab,zk.bind,zk.jg];kernel_rfl
theorem zk.ret:jv zk.res K0 (zk.fr a b d e c f i o p s g l q u v w y z) h nx=zM 2 c h fun v1=>K0 (.tup [e,v1,f]) h nx:=by kernel_rfl
def F27.t0:IR:=.reg [.q (.of 2) (.mv (.c .zf)),.q (.of 3) (.mv (.c (I 0)))]
def F27.t1:IR:=.reg [.s (.mv (.t (.of 1))),.w .push none (.call (.c (.fn 95 (.of 95) [])) [(.s 0)]),.s (.mv (.t (.of 0))),.s (.len (.s 0)),.s (.bin .gtr .int (.s 0) (.c (I 256))),.w .push none (.call (.c (.fn 96 (.of 96) [])) [(.s 0),(.c (I 5))]),.w .push none (.zx 1 2 [(I 0)] [(0,1,(.s 4)),(1,1,(.s 0))]),.w .push none (.call (.c (.fn 94 (.of 94) [])) [(.s 0)]),.q (.of 4) (.mv (.s 0))]
def F27.t2:IR:=.reg [.s (.mv (.t (.of 4))),.q (.of 8) (.bin .neq .int (.s 0) (.c (I 0)))]
def F27.t3:IR:=.reg [.s (.mv (.t (.of 4))),.q (.of 2) (.mv (.c .zf)),.q (.of 3) (.mv (.s 0))]
def F27.t4:IR:=.seq F27.t3 .ret
def F27.t5:IR:=.cond (.t (.of 8)) F27.t4 .skip
def F27.t6:IR:=.seq F27.t2 F27.t5
def F27.t7:IR:=.seq F27.t1 F27.t6
def F27.t8:IR:=.reg [.s (.mv (.t (.of 0))),.s (.mv (.t (.of 1))),.w .push none (.call (.c (.fn 97 (.of 97) [])) [(.s 1),(.s 0)]),.q (.of 5) (.mv (.s 0))]
def F27.t9:IR:=.reg [.s (.mv (.t (.of 5))),.q (.of 9) (.bin .neq .int (.s 0) (.c (I 0)))]
def F27.t10:IR:=.reg [.s (.mv (.t (.of 5))),.q (.of 2) (.mv (.c .zf)),.q (.of 3) (.mv (.s 0))]
def F27.t11:IR:=.seq F27.t10 .ret
def F27.t12:IR:=.cond (.t (.of 9)) F27.t11 .skip
def F27.t13:IR:=.seq F27.t9 F27.t12
def F27.t14:IR:=.seq F27.t8 F27.t13
def F27.t15:IR:=.reg [.s (.mv (.t (.of 0))),.s (.mv (.t (.of 1))),.w .push none (.call (.c (.fn 98 (.of 98) [])) [(.s 1),(.s 0),(.c (I 1536))]),.s (.mv (.s 0)),.s (.ext 0 (.s 0)),.s (.ext 1 (.s 1)),.s (.ext 2 (.s 2)),.q (.of 6) (.mv (.s 2)),.s (.mv (.s 1)),.q (.of 7) (.mv (.s 1))]
def F27.t16:IR:=.reg [.s (.mv (.t (.of 7))),.q (.of 10) (.not (.s 0))]
def F27.t17:IR:=.reg [.q (.of 2) (.mv (.c .zf)),.q (.of 3) (.mv (.c (I 20)))]
def F27.t18:IR:=.seq F27.t17 .ret
def F27.t19:IR:=.cond (.t (.of 10)) F27.t18 .skip
def F27.t20:IR:=.seq F27.t16 F27.t19
def F27.t21:IR:=.reg [.s (.mv (.t (.of 6))),.w .push none (.call (.c (.fn 99 (.of 99) [])) [(.s 0)]),.q (.of 2) (.mv (.s 0)),.q (.of 3) (.mv (.c (I 0)))]
def F27.t22:IR:=.seq F27.t21 .ret
def F27.t23:IR:=.seq F27.t20 F27.t22
def F27.t24:IR:=.seq F27.t15 F27.t23
def F27.t25:IR:=.seq F27.t14 F27.t24
def F27.t26:IR:=.seq F27.t7 F27.t25
def F27.t27:IR:=.seq F27.t0 F27.t26
theorem F27.wo:IR.run F27.t0 C N O K (F27.fr a b d e c f i o p s g) h nx =
 K (F27.fr a b .zf (I 0) c f i o p s g) h nx:=by kernel_rfl
theorem F27.wu:IR.run F27.t1 C N O K (F27.fr a b d e c f i o p s g) h nx =
 C.fn 95 (.of 95) [b] h nx fun v1 h2 n3=>sLen a fun v4=>zu .gtr .int v4 (I 256) fun v5=>C.fn 96 (.of 96) [v5,(I 5)] h2 n3 fun v6 h7 n8=>yX 1 2 [(I 0)] [(0,1,v1),(1,1,v6)] h7 n8 fun v9 hU nU=>C.fn 94 (.of 94) [v9] hU nU fun vN h13 n14=>K (F27.fr a b d e vN f i o p s g) h13 n14:=by kernel_rfl
theorem F27.dw:IR.run F27.t2 C N O K (F27.fr a b d e c f i o p s g) h nx =
 zu .neq .int c (I 0) fun v1=>K (F27.fr a b d e c f i o v1 s g) h nx:=by kernel_rfl
theorem F27.rF:IR.run F27.t3 C N O K (F27.fr a b d e c f i o p s g) h nx =
 K (F27.fr a b .zf c c f i o p s g) h nx:=by kernel_rfl
theorem F27.v8:Arg.ev (.t (.of 8)) ⟨(F27.fr a b d e c f i o p s g),[]⟩=p:=by kernel_rfl
theorem F27.sV:IR.run F27.t8 C N O K (F27.fr a b d e c f i o p s g) h nx =
 C.fn 97 (.of 97) [a,b] h nx fun v1 h2 n3=>K (F27.fr a b d e c v1 i o p s g) h2 n3:=by kernel_rfl
theorem F27.au:IR.run F27.t9 C N O K (F27.fr a b d e c f i o p s g) h nx =
 zu .neq .int f (I 0) fun v1=>K (F27.fr a b d e c f i o p v1 g) h nx:=by kernel_rfl
theorem F27.fG:IR.run F27.t10 C N O K (F27.fr a b d e c f i o p s g) h nx =
 K (F27.fr a b .zf f c f i o p s g) h nx:=by kernel_rfl
theorem F27.v9:Arg.ev (.t (.of 9)) ⟨(F27.fr a b d e c f i o p s g),[]⟩=s:=by kernel_rfl
theorem F27.aX:IR.run F27.t15 C N O K (F27.fr a b d e c f i o p s g) h nx =
 C.fn 98 (.of 98) [a,b,(I 1536)] h nx fun v1 h2 n3=>bY 0 v1 fun v4=>bY 1 v1 fun v5=>bY 2 v1 fun v6=>K (F27.fr a b d e c f v4 v6 p s g) h2 n3:=by kernel_rfl
theorem F27.sQ:IR.run F27.t16 C N O K (F27.fr a b d e c f i o p s g) h nx =
 sNot o fun v1=>K (F27.fr a b d e c f i o p s v1) h nx:=by kernel_rfl
theorem F27.zai:IR.run F27.t17 C N O K (F27.fr a b d e c f i o p s g) h nx =
 K (F27.fr a b .zf (I 20) c f i o p s g) h nx:=by kernel_rfl
theorem F27.v10:Arg.ev (.t (.of 10)) ⟨(F27.fr a b d e c f i o p s g),[]⟩=g:=by kernel_rfl
theorem F27.zvc:IR.run F27.t21 C N O K (F27.fr a b d e c f i o p s g) h nx =
 C.fn 99 (.of 99) [i] h nx fun v1 h2 n3=>K (F27.fr a b v1 (I 0) c f i o p s g) h2 n3:=by kernel_rfl
theorem F27.tab:T.get none (.of 27) tbl=some F27:=by kernel_rfl
theorem F27.bind (k:T AV->OP):zX F27.params [a0,a1] F27.init k=k (F27.fr a0 a1 .undef .undef .undef .undef .undef .undef .undef .undef .undef):=by kernel_rfl
theorem F27.jg:F27.body=F27.t27:=by kernel_rfl
theorem F27.go:zW tbl N C (.of 27) [a0,a1] h nx K0=IR.run F27.t27 C N (fnO F27.res K0) (jv F27.res K0) (F27.fr a0 a1 .undef .undef .undef .undef .undef .undef .undef .undef .undef) h nx:=by
 rw [zL F27.tab,F27.bind,F27.jg];kernel_rfl
theorem F27.ret:jv F27.res K0 (F27.fr a b d e c f i o p s g) h nx=K0 (.tup [d,e]) h nx:=by kernel_rfl
end
end Go.Ev
namespace Go.Ev
open Go Go.Proofs
set_option maxRecDepth 100000
variable {N:Nat} {C:Calls Prop} {K0:Kw Prop} {K R:Ks Prop} {h:T Blk} {nx:Pa} {a b d e c f i a0 a1 a2 o p s g l q u v w y z A B D E F G H:AV}
theorem F99.sJ (X2:IR) (O:uo Prop) (t:T AV):IR.run (F99.g1 X2) C N O K t h nx=IR.run X2 C N (O.blk 0 K) K t h nx:=by kernel_rfl
theorem F99.zlz (X8:IR) (O:uo Prop) (t:T AV):IR.run (F99.g7 X8) C N O K t h nx=IR.run X8 C N (O.blk 2 K) K t h nx:=by kernel_rfl
theorem F99.tab:T.get none (.of 99) tbl=some F99:=by kernel_rfl
theorem F99.go:zW tbl N C (.of 99) [a0] h nx K0 =
 zdq a0 h nx fun v1 h2 n3=>IR.run F99.b1 C N (fnO F99.res K0) (IR.run F99.b6 C N (fnO F99.res K0) (jv F99.res K0)) (F99.fr a0 .zf .zf .undef .undef .undef v1 .undef .undef .undef .undef .undef) h2 n3:=by
 rw [zL F99.tab];kernel_rfl
theorem F99.L1 (Inv:Nat->AV->T Blk->Pa->Prop) {m:Nat} (hm:m<N) (hi:Inv m d h nx)
  (step:∀ (m:Nat) (z2 z3 z7:AV) (h:T Blk) (nx:Pa) (R:Ks Prop),Inv m z2 h nx->(∀ (m':Nat) (w2 w3 w7:AV) (h':T Blk) (nx':Pa),m'<m->Inv m' w2 h' nx'->R (F99.fr a b w2 w3 c f i w7 p s g l) h' nx'=.ok True) ->
   (ziq C i h nx fun v1 h2 n3=>bY 0 v1 fun v4=>yS v4 (zdr i h2 fun v5=>bY 1 v5 fun v6=>yI [.zf,(.bool false)] h2 n3 fun v7 h8 n9=>zO 2 v7 v6 h8 n9 fun vA hD nE=>zM 2 v7 hD fun vO=>yX 2 1 [.zf,(.bool false)] [(0,2,vO)] hD nE fun vC hI nJ=>uW C 2 32 z2 vC hI nJ fun vF h18 n19=>R (F99.fr a b vF v7 c f i v4 p s g l) h18 n19) (K (F99.fr a b z2 z3 c f i v4 p s g l) h2 n3))=.ok True) :
  IR.run F99.b1 C N (fnO F99.res K0) K (F99.fr a b d e c f i o p s g l) h nx=.ok True:=by
 rw [F99.b1,F99.sJ,F99.b2];refine yJ (fun m tm h nx=>∃ z2 z3 z7,tm=(F99.fr a b z2 z3 c f i z7 p s g l)/\Inv m z2 h nx) ?_ hm ⟨_,_,_,rfl,hi⟩;rintro m tm h nx R ⟨z2,z3,z7,rfl,hi⟩ hR;refine Eq.trans ?_ (step m z2 z3 z7 h nx R hi fun m' w2 w3 w7 h' nx' hlt hi'=>hR m' _ h' nx' hlt ⟨_,_,_,rfl,hi'⟩)
 kernel_rfl
theorem F99.k6:IR.run F99.b6 C N (fnO F99.res K0) K (F99.fr a b d e c f i o p s g l) h nx =
 C.fn 164 (.of 164) [d,(.fn 162 (.of 162) [])] h nx fun v1 h2 n3=>sLen d fun v4=>IR.run F99.b7 C N (fnO F99.res K0) (IR.run F99.b14 C N (fnO F99.res K0) K) (F99.fr a b d e .zf f i o d v4 (I 0) l) h2 n3:=by kernel_rfl
theorem F99.L7 (Inv:Nat->AV->AV->T Blk->Pa->Prop) {m:Nat} (hm:m<N) (hi:Inv m c g h nx)
  (step:∀ (m:Nat) (z4 z5 zA zB:AV) (h:T Blk) (nx:Pa) (R:Ks Prop),Inv m z4 zA h nx->(∀ (m':Nat) (w4 w5 wA wC:AV) (h':T Blk) (nx':Pa),m'<m->Inv m' w4 wA h' nx'->R (F99.fr a b d e w4 w5 i o p s wA wC) h' nx'=.ok True) ->
   (zu .lss .int zA s fun v1=>yS v1 (yB 2 p zA fun v2=>zM 2 v2 h fun v3=>yI [.zf,(.bool false)] h nx fun v4 h5 n6=>zO 2 v4 v3 h5 n6 fun v7 h8 n9=>zM 2 v4 h8 fun vA=>yX 2 1 [.zf,(.bool false)] [(0,2,vA)] h8 n9 fun vB hA nA=>uW C 2 32 z4 vB hA nA fun vC hI nJ=>zu .add .int zA (I 1) fun vF=>R (F99.fr a b d e vC v4 i o p s vF v1) hI nJ) (K (F99.fr a b d e z4 z5 i o p s zA v1) h nx))=.ok True) :
  IR.run F99.b7 C N (fnO F99.res K0) K (F99.fr a b d e c f i o p s g l) h nx=.ok True:=by
 rw [F99.b7,F99.zlz,F99.b8];refine yJ (fun m tm h nx=>∃ z4 z5 zA zB,tm=(F99.fr a b d e z4 z5 i o p s zA zB)/\Inv m z4 zA h nx) ?_ hm ⟨_,_,_,_,rfl,hi⟩;rintro m tm h nx R ⟨z4,z5,zA,zB,rfl,hi⟩ hR;refine Eq.trans ?_ (step m z4 z5 zA zB h nx R hi fun m' w4 w5 wA wC h' nx' hlt hi'=>hR m' _ h' nx' hlt ⟨_,_,_,_,rfl,hi'⟩)
 kernel_rfl
theorem F99.k14:IR.run F99.b14 C N (fnO F99.res K0) K (F99.fr a b d e c f i o p s g l) h nx =
 K0 c h nx:=by kernel_rfl
end Go.Ev
namespace Go.Ev
open Go Go.Proofs
set_option maxRecDepth 100000
section
variable {N:Nat} {C:Calls Prop} {K0:Kw Prop} {K:Ks Prop} {h:T Blk} {nx:Pa} {a b d e c f i o p s g l q u v w y z A B a0 a1 a2:AV} {O:uo Prop} {tm:T AV} {Kt:KTm} {r:List RO} {s0 s1 s2 s3 s4 s5 s6 s7 s8 s9 s10 s11 s12 s13 s14 s15 s16 s17 s18 s19 s20 s21 s22 s23 s24 s25 s26 s27 s28 s29 s30 s31 s32 s33 s34 s35 s36 s37 s38 s39 s40 s41 s42 s43 s44 s45 s46 s47 s48 s49 s50 s51 s52 s53 s54 s55 s56 s57 s58 s59:AV}
def F39.t0:IR:=.reg [.w (.loc (.of 3)) none (.box (.t (.of 1))),.q (.of 4) (.mv (.c .zf)),.q (.of 5) (.mv (.c (I 0)))]
def F39.t1:IR:=.reg [.s (.mv (.t (.of 0))),.s (.load (.t (.of 3))),.s (.mv (.t (.of 2))),.w .push none (.call (.c (.fn 120 (.of 120) [])) [(.s 2),(.s 1),(.s 0)]),.s (.mv (.s 0)),.s (.ext 0 (.s 0)),.s (.ext 1 (.s 1)),.s (.ext 2 (.s 2)),.w .push none (.alloc [.zf,.zf]),.s (.mv (.s 3)),.w .none none (.store 2 (.s 1) (.s 3)),.q (.of 6) (.mv (.s 2))]
def F39.t2:IR:=.reg [.s (.mv (.t (.of 6))),.q (.of 12) (.bin .neq .int (.s 0) (.c (I 0)))]
def F39.t3:IR:=.reg [.s (.mv (.t (.of 6))),.q (.of 4) (.mv (.c .zf)),.q (.of 5) (.mv (.s 0))]
def F39.t4:IR:=.seq F39.t3 .ret
def F39.t5:IR:=.cond (.t (.of 12)) F39.t4 .skip
def F39.t6:IR:=.seq F39.t2 F39.t5
def F39.t7:IR:=.seq F39.t1 F39.t6
def F39.t8:IR:=.reg [.w .push none .fH,.w (.loc (.of 7)) none (.alloc [.gq]),.w .none none (.store 1 (.t (.of 7)) (.s 0))]
def F39.t9:IR:=.reg [.w (.loc (.of 8)) none (.alloc [.zf])]
def F39.t10:IR:=.reg [.s (.mv (.t (.of 0))),.w (.loc (.of 13)) none (.call (.c (.fn 90 (.of 90) [])) [(.s 0)])]
def F39.t11:IR:=.reg [.w (.loc (.of 9)) none (.alloc [.zf,(.bool false)]),.w .none none (.store 2 (.t (.of 9)) (.t (.of 15)))]
def F39.t12:IR:=.reg [.s (.load (.t (.of 7))),.s (.zh 2 (.t (.of 9))),.w (.loc (.of 16)) none (.call (.c (.fn 121 (.of 121) [])) [(.s 1),(.s 0)])]
def F39.t13:IR:=.cond (.t (.of 16)) (.exit 1) .skip
def F39.t14:IR:=.seq F39.t12 F39.t13
def F39.t15:IR:=.reg [.s (.load (.t (.of 3))),.w (.loc (.of 17)) none (.call (.c (.fn 90 (.of 90) [])) [(.s 0)])]
def F39.t16:IR:=.reg [.w (.loc (.of 10)) none (.alloc [.zf,(.bool false)]),.w .none none (.store 2 (.t (.of 10)) (.t (.of 19)))]
def F39.t17:IR:=.reg [.s (.zh 2 (.t (.of 9))),.s (.zh 2 (.t (.of 10))),.w .push none (.call (.c (.fn 122 (.of 122) [])) [(.s 1),(.s 0)]),.w (.loc (.of 11)) none (.alloc [.zf,(.bool false)]),.w .none none (.store 2 (.t (.of 11)) (.s 0))]
def F39.t18:IR:=.yw [] [(.s (.load (.t (.of 7))),1,[]),(.s (.zh 2 (.t (.of 11))),0,[]),(.s (.zh 2 (.t (.of 11))),1,[]),(.w .push none (.call (.c (.fn 123 (.of 123) [])) [(.s 1)]),0,[]),(.w .none none (.zaa .str (.s 3) (.s 0) (.s 1)),0,[])]
def F39.t19:IR:=.seq F39.t17 F39.t18
def F39.t20:IR:=.block 3 F39.t19
def F39.t21:IR:=.rf (.t (.of 17)) [(.of 18),(.of 19)] F39.t16 F39.t20
def F39.t22:IR:=.block 2 F39.t21
def F39.t23:IR:=.seq F39.t15 F39.t22
def F39.t24:IR:=.yw [] [(.s (.load (.t (.of 8))),2,[]),(.s (.zy 0 (.t (.of 9))),0,[]),(.s (.load (.s 0)),0,[]),(.s (.zy 1 (.t (.of 9))),1,[]),(.s (.load (.s 0)),1,[]),(.w .push none (.call (.c (.fn 106 (.of 106) [])) [(.s 2)]),0,[]),(.s (.build [.zf,(.bool false)] [(0,1,(.s 0)),(1,1,(.s 1))]),0,[]),(.w .push none (.zx 2 1 [.zf,(.bool false)] [(0,2,(.s 0))]),0,[]),(.w .push none (.aO 2 32 (.s 7) (.s 0)),0,[]),(.w .none none (.store 1 (.t (.of 8)) (.s 0)),0,[])]
def F39.t25:IR:=.seq F39.t23 F39.t24
def F39.t26:IR:=.seq F39.t14 F39.t25
def F39.t27:IR:=.block 1 F39.t26
def F39.t28:IR:=.rf (.t (.of 13)) [(.of 14),(.of 15)] F39.t11 F39.t27
def F39.t29:IR:=.block 0 F39.t28
def F39.t30:IR:=.seq F39.t10 F39.t29
def F39.t31:IR:=.reg [.s (.load (.t (.of 8))),.q (.of 4) (.mv (.s 0)),.q (.of 5) (.mv (.c (I 0)))]
def F39.t32:IR:=.seq F39.t31 .ret
def F39.t33:IR:=.seq F39.t30 F39.t32
def F39.t34:IR:=.seq F39.t9 F39.t33
def F39.t35:IR:=.seq F39.t8 F39.t34
def F39.t36:IR:=.seq F39.t7 F39.t35
def F39.t37:IR:=.seq F39.t0 F39.t36
theorem F39.wo:IR.run F39.t0 C N O K (F39.fr a b d e c f i o p s g l q u v w y z A B) h nx =
 ak b h nx fun v1 h2 n3=>K (F39.fr a b d v1 .zf (I 0) i o p s g l q u v w y z A B) h2 n3:=by kernel_rfl
theorem F39.wu:IR.run F39.t1 C N O K (F39.fr a b d e c f i o p s g l q u v w y z A B) h nx =
 zD e h fun v1=>C.fn 120 (.of 120) [a,v1,d] h nx fun v2 h3 n4=>bY 0 v2 fun v5=>bY 1 v2 fun v6=>bY 2 v2 fun v7=>yI [.zf,.zf] h3 n4 fun v8 h9 nD=>zO 2 v8 v6 h9 nD fun vB hA nA=>K (F39.fr a b d e c f v7 o p s g l q u v w y z A B) hA nA:=by kernel_rfl
theorem F39.dw:IR.run F39.t2 C N O K (F39.fr a b d e c f i o p s g l q u v w y z A B) h nx =
 zu .neq .int i (I 0) fun v1=>K (F39.fr a b d e c f i o p s g l v1 u v w y z A B) h nx:=by kernel_rfl
theorem F39.v12:Arg.ev (.t (.of 12)) ⟨(F39.fr a b d e c f i o p s g l q u v w y z A B),[]⟩=q:=by kernel_rfl
theorem F39.sV:IR.run F39.t8 C N O K (F39.fr a b d e c f i o p s g l q u v w y z A B) h nx =
 xV h nx fun v1 h2 n3=>yI [.gq] h2 n3 fun v4 h5 n6=>zO 1 v4 v1 h5 n6 fun v7 h8 n9=>K (F39.fr a b d e c f i v4 p s g l q u v w y z A B) h8 n9:=by kernel_rfl
theorem F39.au:IR.run F39.t9 C N O K (F39.fr a b d e c f i o p s g l q u v w y z A B) h nx =
 yI [.zf] h nx fun v1 h2 n3=>K (F39.fr a b d e c f i o v1 s g l q u v w y z A B) h2 n3:=by kernel_rfl
theorem F39.fG:IR.run F39.t10 C N O K (F39.fr a b d e c f i o p s g l q u v w y z A B) h nx =
 C.fn 90 (.of 90) [a] h nx fun v1 h2 n3=>K (F39.fr a b d e c f i o p s g l q v1 v w y z A B) h2 n3:=by kernel_rfl
theorem F39.zaj:IR.run F39.t11 C N O K (F39.fr a b d e c f i o p s g l q u v w y z A B) h nx =
 yI [.zf,(.bool false)] h nx fun v1 h2 n3=>zO 2 v1 w h2 n3 fun v4 h5 n6=>K (F39.fr a b d e c f i o p v1 g l q u v w y z A B) h5 n6:=by kernel_rfl
theorem F39.tH:IR.run F39.t12 C N O K (F39.fr a b d e c f i o p s g l q u v w y z A B) h nx =
 zD o h fun v1=>zM 2 s h fun v2=>C.fn 121 (.of 121) [v1,v2] h nx fun v3 h4 n5=>K (F39.fr a b d e c f i o p s g l q u v w v3 z A B) h4 n5:=by kernel_rfl
theorem F39.v16:Arg.ev (.t (.of 16)) ⟨(F39.fr a b d e c f i o p s g l q u v w y z A B),[]⟩=y:=by kernel_rfl
theorem F39.aX:IR.run F39.t15 C N O K (F39.fr a b d e c f i o p s g l q u v w y z A B) h nx =
 zD e h fun v1=>C.fn 90 (.of 90) [v1] h nx fun v2 h3 n4=>K (F39.fr a b d e c f i o p s g l q u v w y v2 A B) h3 n4:=by kernel_rfl
theorem F39.sQ:IR.run F39.t16 C N O K (F39.fr a b d e c f i o p s g l q u v w y z A B) h nx =
 yI [.zf,(.bool false)] h nx fun v1 h2 n3=>zO 2 v1 B h2 n3 fun v4 h5 n6=>K (F39.fr a b d e c f i o p s v1 l q u v w y z A B) h5 n6:=by kernel_rfl
theorem F39.zai:IR.run F39.t17 C N O K (F39.fr a b d e c f i o p s g l q u v w y z A B) h nx =
 zM 2 s h fun v1=>zM 2 g h fun v2=>C.fn 122 (.of 122) [v1,v2] h nx fun v3 h4 n5=>yI [.zf,(.bool false)] h4 n5 fun v6 h7 n8=>zO 2 v6 v3 h7 n8 fun v9 hU nU=>K (F39.fr a b d e c f i o p s g v6 q u v w y z A B) hU nU:=by kernel_rfl
theorem F39.zey:IR.run F39.t18 C N O K (F39.fr a b d e c f i o p s g l q u v w y z A B) h nx =
 zD o h fun v1=>zM 2 l h fun v2=>zM 2 l h fun v3=>C.fn 123 (.of 123) [v2] h nx fun v4 h5 n6=>(zM 2 l h5 fun vB=>zJ vB v3 ((zD o h5 fun vA=>zJ vA v1 (xW .str v1 v4 v3 h5 n6 fun v7 h8 n9=>K (F39.fr a b d e c f i o p s g l q u v w y z A B) h8 n9)))):=by kernel_rfl
theorem F39.zvd:Arg.ev (.t (.of 17)) ⟨(F39.fr a b d e c f i o p s g l q u v w y z A B),[]⟩=z:=by kernel_rfl
theorem F39.zve {z0 z1:AV} (k:T AV->OP):zX [(.of 18),(.of 19)] [z0,z1] (F39.fr a b d e c f i o p s g l q u v w y z A B) k=k (F39.fr a b d e c f i o p s g l q u v w y z z0 z1):=by kernel_rfl
theorem F39.zvf:IR.run F39.t24 C N O K (F39.fr a b d e c f i o p s g l q u v w y z A B) h nx =
 zD p h fun v1=>yC 0 s fun v2=>zD v2 h fun v3=>yC 1 s fun v4=>zD v4 h fun v5=>C.fn 106 (.of 106) [v3] h nx fun v6 h7 n8=>(zD v4 h7 fun vK=>zJ vK v5 ((yC 1 s fun vJ=>zJ vJ v4 ((zD p h7 fun vI=>zJ vI v1 (qJ [.zf,(.bool false)] [(0,1,v6),(1,1,v5)] fun v9=>yX 2 1 [.zf,(.bool false)] [(0,2,v9)] h7 n8 fun vA hD nE=>(zD p hD fun vH=>zJ vH v1 (uW C 2 32 v1 vA hD nE fun vO hE nF=>zO 1 p vO hE nF fun vE hC nC=>K (F39.fr a b d e c f i o p s g l q u v w y z A B) hC nC)))))))):=by kernel_rfl
theorem F39.zvg:Arg.ev (.t (.of 13)) ⟨(F39.fr a b d e c f i o p s g l q u v w y z A B),[]⟩=u:=by kernel_rfl
theorem F39.zvh {z0 z1:AV} (k:T AV->OP):zX [(.of 14),(.of 15)] [z0,z1] (F39.fr a b d e c f i o p s g l q u v w y z A B) k=k (F39.fr a b d e c f i o p s g l q u z0 z1 y z A B):=by kernel_rfl
theorem F39.zez:IR.run F39.t31 C N O K (F39.fr a b d e c f i o p s g l q u v w y z A B) h nx =
 zD p h fun v1=>K (F39.fr a b d e v1 (I 0) i o p s g l q u v w y z A B) h nx:=by kernel_rfl
theorem F39.tab:T.get none (.of 39) tbl=some F39:=by kernel_rfl
theorem F39.bind (k:T AV->OP):zX F39.params [a0,a1,a2] F39.init k=k (F39.fr a0 a1 a2 .undef .undef .undef .undef .undef .undef .undef .undef .undef .undef .undef .undef .undef .undef .undef .undef .undef):=by kernel_rfl
theorem F39.jg:F39.body=F39.t37:=by kernel_rfl
theorem F39.go:zW tbl N C (.of 39) [a0,a1,a2] h nx K0=IR.run F39.t37 C N (fnO F39.res K0) (jv F39.res K0) (F39.fr a0 a1 a2 .undef .undef .undef .undef .undef .undef .undef .undef .undef .undef .undef .undef .undef .undef .undef .undef .undef) h nx:=by
 rw [zL F39.tab,F39.bind,F39.jg];kernel_rfl
theorem F39.ret:jv F39.res K0 (F39.fr a b d e c f i o p s g l q u v w y z A B) h nx=K0 (.tup [c,f]) h nx:=by kernel_rfl
def F40.t0:IR:=.reg [.q (.of 3) (.mv (.c (.bool false))),.q (.of 4) (.mv (.c (I 0)))]
def F40.t1:IR:=.reg [.s (.mv (.t (.of 0))),.s (.mv (.t (.of 1))),.s (.mv (.t (.of 2))),.w .push none (.call (.c (.fn 120 (.of 120) [])) [(.s 2),(.s 1),(.s 0)]),.s (.mv (.s 0)),.s (.ext 0 (.s 0)),.s (.ext 1 (.s 1)),.s (.ext 2 (.s 2)),.w (.loc (.of 6)) none (.alloc [.zf,.zf]),.q (.of 5) (.mv (.s 2)),.w .none none (.store 2 (.t (.of 6)) (.s 1)),.q (.of 7) (.mv (.s 0))]
def F40.t2:IR:=.reg [.s (.mv (.t (.of 7))),.q (.of 10) (.bin .neq .int (.s 0) (.c (I 0)))]
def F40.t3:IR:=.reg [.s (.mv (.t (.of 7))),.q (.of 3) (.mv (.c (.bool false))),.q (.of 4) (.mv (.s 0))]
def F40.t4:IR:=.seq F40.t3 .ret
def F40.t5:IR:=.cond (.t (.of 10)) F40.t4 .skip
def F40.t6:IR:=.seq F40.t2 F40.t5
def F40.t7:IR:=.reg [.s (.oC 1 2 (.t (.of 6)) (.c (I 0))),.q (.of 11) (.load (.s 0)),.q (.of 12) (.len (.t (.of 11))),.q (.of 13) (.mv (.c (I 0)))]
def F40.t8:IR:=.reg [.q (.of 14) (.bin .lss .int (.t (.of 13)) (.t (.of 12)))]
def F40.t9:IR:=.cond (.t (.of 14)) .skip (.exit 0)
def F40.t10:IR:=.reg [.s (.zo 2 (.t (.of 11)) (.t (.of 13))),.s (.zh 2 (.s 0)),.w (.loc (.of 8)) none (.alloc [.zf,(.bool false)]),.w .none none (.store 2 (.t (.of 8)) (.s 0))]
def F40.t11:IR:=.reg [.s (.oC 1 2 (.t (.of 6)) (.c (I 1))),.q (.of 15) (.load (.s 0)),.q (.of 16) (.len (.t (.of 15))),.q (.of 17) (.mv (.c (I 0)))]
def F40.t12:IR:=.reg [.q (.of 18) (.bin .lss .int (.t (.of 17)) (.t (.of 16)))]
def F40.t13:IR:=.cond (.t (.of 18)) .skip (.exit 2)
def F40.t14:IR:=.reg [.s (.zo 2 (.t (.of 15)) (.t (.of 17))),.s (.zh 2 (.s 0)),.w (.loc (.of 9)) none (.alloc [.zf,(.bool false)]),.w .none none (.store 2 (.t (.of 9)) (.s 0))]
def F40.t15:IR:=.yw [] [(.s (.mv (.t (.of 5))),3,[]),(.s (.zh 2 (.t (.of 8))),0,[]),(.s (.zh 2 (.t (.of 9))),0,[]),(.s (.zh 2 (.t (.of 8))),1,[]),(.w .push none (.call (.c (.fn 122 (.of 122) [])) [(.s 2),(.s 1)]),0,[]),(.w .push none (.call (.c (.fn 124 (.of 124) [])) [(.s 1)]),0,[]),(.w .push none (.call (.c (.fn 122 (.of 122) [])) [(.s 1),(.s 0)]),0,[]),(.w .push none (.call (.c (.fn 121 (.of 121) [])) [(.s 6),(.s 0)]),0,[]),(.q (.of 19) (.not (.s 0)),0,[])]
def F40.t16:IR:=.reg [.q (.of 3) (.mv (.c (.bool false))),.q (.of 4) (.mv (.c (I 0)))]
def F40.t17:IR:=.seq F40.t16 .ret
def F40.t18:IR:=.cond (.t (.of 19)) F40.t17 .skip
def F40.t19:IR:=.seq F40.t15 F40.t18
def F40.t20:IR:=.seq F40.t14 F40.t19
def F40.t21:IR:=.block 3 F40.t20
def F40.t22:IR:=.reg [.s (.bin .add .int (.t (.of 17)) (.c (I 1))),.q (.of 17) (.mv (.s 0))]
def F40.t23:IR:=.seq F40.t21 F40.t22
def F40.t24:IR:=.seq F40.t13 F40.t23
def F40.t25:IR:=.seq F40.t12 F40.t24
def F40.t26:IR:=.loop F40.t25
def F40.t27:IR:=.block 2 F40.t26
def F40.t28:IR:=.seq F40.t11 F40.t27
def F40.t29:IR:=.seq F40.t10 F40.t28
def F40.t30:IR:=.block 1 F40.t29
def F40.t31:IR:=.reg [.s (.bin .add .int (.t (.of 13)) (.c (I 1))),.q (.of 13) (.mv (.s 0))]
def F40.t32:IR:=.seq F40.t30 F40.t31
def F40.t33:IR:=.seq F40.t9 F40.t32
def F40.t34:IR:=.seq F40.t8 F40.t33
def F40.t35:IR:=.loop F40.t34
def F40.t36:IR:=.block 0 F40.t35
def F40.t37:IR:=.seq F40.t7 F40.t36
def F40.t38:IR:=.reg [.q (.of 3) (.mv (.c (.bool true))),.q (.of 4) (.mv (.c (I 0)))]
def F40.t39:IR:=.seq F40.t38 .ret
def F40.t40:IR:=.seq F40.t37 F40.t39
def F40.t41:IR:=.seq F40.t6 F40.t40
def F40.t42:IR:=.seq F40.t1 F40.t41
def F40.t43:IR:=.seq F40.t0 F40.t42
theorem F40.wo:IR.run F40.t0 C N O K (F40.fr a b d e c f i o p s g l q u v w y z A B) h nx =
 K (F40.fr a b d (.bool false) (I 0) f i o p s g l q u v w y z A B) h nx:=by kernel_rfl
theorem F40.wu:IR.run F40.t1 C N O K (F40.fr a b d e c f i o p s g l q u v w y z A B) h nx =
 C.fn 120 (.of 120) [a,b,d] h nx fun v1 h2 n3=>bY 0 v1 fun v4=>bY 1 v1 fun v5=>bY 2 v1 fun v6=>yI [.zf,.zf] h2 n3 fun v7 h8 n9=>zO 2 v7 v5 h8 n9 fun vA hD nE=>K (F40.fr a b d e c v4 v7 v6 p s g l q u v w y z A B) hD nE:=by kernel_rfl
theorem F40.dw:IR.run F40.t2 C N O K (F40.fr a b d e c f i o p s g l q u v w y z A B) h nx =
 zu .neq .int o (I 0) fun v1=>K (F40.fr a b d e c f i o p s v1 l q u v w y z A B) h nx:=by kernel_rfl
theorem F40.rF:IR.run F40.t3 C N O K (F40.fr a b d e c f i o p s g l q u v w y z A B) h nx =
 K (F40.fr a b d (.bool false) o f i o p s g l q u v w y z A B) h nx:=by kernel_rfl
theorem F40.v10:Arg.ev (.t (.of 10)) ⟨(F40.fr a b d e c f i o p s g l q u v w y z A B),[]⟩=g:=by kernel_rfl
theorem F40.t7_s:IR.run F40.t7 C N O K (F40.fr a b d e c f i o p s g l q u v w y z A B) h nx =
 dV 1 2 i (I 0) fun v1=>zD v1 h fun v2=>sLen v2 fun v3=>K (F40.fr a b d e c f i o p s g v2 v3 (I 0) v w y z A B) h nx:=by kernel_rfl
theorem F40.sV:IR.run F40.t8 C N O K (F40.fr a b d e c f i o p s g l q u v w y z A B) h nx =
 zu .lss .int u q fun v1=>K (F40.fr a b d e c f i o p s g l q u v1 w y z A B) h nx:=by kernel_rfl
theorem F40.v14:Arg.ev (.t (.of 14)) ⟨(F40.fr a b d e c f i o p s g l q u v w y z A B),[]⟩=v:=by kernel_rfl
theorem F40.fG:IR.run F40.t10 C N O K (F40.fr a b d e c f i o p s g l q u v w y z A B) h nx =
 yB 2 l u fun v1=>zM 2 v1 h fun v2=>yI [.zf,(.bool false)] h nx fun v3 h4 n5=>zO 2 v3 v2 h4 n5 fun v6 h7 n8=>K (F40.fr a b d e c f i o v3 s g l q u v w y z A B) h7 n8:=by kernel_rfl
theorem F40.zaj:IR.run F40.t11 C N O K (F40.fr a b d e c f i o p s g l q u v w y z A B) h nx =
 dV 1 2 i (I 1) fun v1=>zD v1 h fun v2=>sLen v2 fun v3=>K (F40.fr a b d e c f i o p s g l q u v v2 v3 (I 0) A B) h nx:=by kernel_rfl
theorem F40.tH:IR.run F40.t12 C N O K (F40.fr a b d e c f i o p s g l q u v w y z A B) h nx =
 zu .lss .int z y fun v1=>K (F40.fr a b d e c f i o p s g l q u v w y z v1 B) h nx:=by kernel_rfl
theorem F40.v18:Arg.ev (.t (.of 18)) ⟨(F40.fr a b d e c f i o p s g l q u v w y z A B),[]⟩=A:=by kernel_rfl
theorem F40.rC:IR.run F40.t14 C N O K (F40.fr a b d e c f i o p s g l q u v w y z A B) h nx =
 yB 2 w z fun v1=>zM 2 v1 h fun v2=>yI [.zf,(.bool false)] h nx fun v3 h4 n5=>zO 2 v3 v2 h4 n5 fun v6 h7 n8=>K (F40.fr a b d e c f i o p v3 g l q u v w y z A B) h7 n8:=by kernel_rfl
theorem F40.aX:IR.run F40.t15 C N O K (F40.fr a b d e c f i o p s g l q u v w y z A B) h nx =
 zM 2 p h fun v1=>zM 2 s h fun v2=>zM 2 p h fun v3=>C.fn 122 (.of 122) [v1,v2] h nx fun v4 h5 n6=>(zM 2 p h5 fun vF=>zJ vF v3 (zJ f f (C.fn 124 (.of 124) [v3] h5 n6 fun v7 h8 n9=>zJ f f (C.fn 122 (.of 122) [v4,v7] h8 n9 fun vA hD nE=>zJ f f (C.fn 121 (.of 121) [f,vA] hD nE fun vO hE nF=>sNot vO fun vE=>K (F40.fr a b d e c f i o p s g l q u v w y z A vE) hE nF))))):=by kernel_rfl
theorem F40.sQ:IR.run F40.t16 C N O K (F40.fr a b d e c f i o p s g l q u v w y z A B) h nx =
 K (F40.fr a b d (.bool false) (I 0) f i o p s g l q u v w y z A B) h nx:=by kernel_rfl
theorem F40.v19:Arg.ev (.t (.of 19)) ⟨(F40.fr a b d e c f i o p s g l q u v w y z A B),[]⟩=B:=by kernel_rfl
theorem F40.zah:IR.run F40.t22 C N O K (F40.fr a b d e c f i o p s g l q u v w y z A B) h nx =
 zu .add .int z (I 1) fun v1=>K (F40.fr a b d e c f i o p s g l q u v w y v1 A B) h nx:=by kernel_rfl
theorem F40.zl2 (Inv:Nat->AV->T Blk->Pa->Prop) {m:Nat} (hm:m<N) (hi:Inv m z h nx)
  (step:∀ (m:Nat) (z3 z4 z9 zR zF zG:AV) (h:T Blk) (nx:Pa) (R:Ks Prop),Inv m zR h nx->(∀ (m':Nat) (w3 w4 w9 wO wF wG:AV) (h':T Blk) (nx':Pa),m'<m->Inv m' wO h' nx'->R (F40.fr a b d w3 w4 f i o p w9 g l q u v w y wO wF wG) h' nx'=.ok True)->IR.run F40.t25 C N O R (F40.fr a b d z3 z4 f i o p z9 g l q u v w y zR zF zG) h nx=.ok True) :
  IR.run F40.t26 C N O K (F40.fr a b d e c f i o p s g l q u v w y z A B) h nx=.ok True:=by
 rw [F40.t26];refine yJ (fun m tm h nx=>∃ z3 z4 z9 zR zF zG,tm=(F40.fr a b d z3 z4 f i o p z9 g l q u v w y zR zF zG)/\Inv m zR h nx) ?_ hm ⟨_,_,_,_,_,_,rfl,hi⟩;rintro m tm h nx R ⟨z3,z4,z9,zR,zF,zG,rfl,hi⟩ hR;exact step m z3 z4 z9 zR zF zG h nx R hi fun m' w3 w4 w9 wO wF wG h' nx' hlt hi'=>hR m' _ h' nx' hlt ⟨_,_,_,_,_,_,rfl,hi'⟩
theorem F40.zez:IR.run F40.t31 C N O K (F40.fr a b d e c f i o p s g l q u v w y z A B) h nx =
 zu .add .int u (I 1) fun v1=>K (F40.fr a b d e c f i o p s g l q v1 v w y z A B) h nx:=by kernel_rfl
theorem F40.zvi (Inv:Nat->AV->T Blk->Pa->Prop) {m:Nat} (hm:m<N) (hi:Inv m u h nx)
  (step:∀ (m:Nat) (z3 z4 z8 z9 zE zS zT zQ zR zF zG:AV) (h:T Blk) (nx:Pa) (R:Ks Prop),Inv m zE h nx->(∀ (m':Nat) (w3 w4 w8 w9 wE wP wQ wN wO wF wG:AV) (h':T Blk) (nx':Pa),m'<m->Inv m' wE h' nx'->R (F40.fr a b d w3 w4 f i o w8 w9 g l q wE wP wQ wN wO wF wG) h' nx'=.ok True)->IR.run F40.t34 C N O R (F40.fr a b d z3 z4 f i o z8 z9 g l q zE zS zT zQ zR zF zG) h nx=.ok True) :
  IR.run F40.t35 C N O K (F40.fr a b d e c f i o p s g l q u v w y z A B) h nx=.ok True:=by
 rw [F40.t35];refine yJ (fun m tm h nx=>∃ z3 z4 z8 z9 zE zS zT zQ zR zF zG,tm=(F40.fr a b d z3 z4 f i o z8 z9 g l q zE zS zT zQ zR zF zG)/\Inv m zE h nx) ?_ hm ⟨_,_,_,_,_,_,_,_,_,_,_,rfl,hi⟩;rintro m tm h nx R ⟨z3,z4,z8,z9,zE,zS,zT,zQ,zR,zF,zG,rfl,hi⟩ hR;exact step m z3 z4 z8 z9 zE zS zT zQ zR zF zG h nx R hi fun m' w3 w4 w8 w9 wE wP wQ wN wO wF wG h' nx' hlt hi'=>hR m' _ h' nx' hlt ⟨_,_,_,_,_,_,_,_,_,_,_,rfl,hi'⟩
theorem F40.zvj:IR.run F40.t38 C N O K (F40.fr a b d e c f i o p s g l q u v w y z A B) h nx =
 K (F40.fr a b d (.bool true) (I 0) f i o p s g l q u v w y z A B) h nx:=by kernel_rfl
theorem F40.tab:T.get none (.of 40) tbl=some F40:=by kernel_rfl
theorem F40.bind (k:T AV->OP):zX F40.params [a0,a1,a2] F40.init k=k (F40.fr a0 a1 a2 .undef .undef .undef .undef .undef .undef .undef .undef .undef .undef .undef .undef .undef .undef .undef .undef .undef):=by kernel_rfl
theorem F40.jg:F40.body=F40.t43:=by kernel_rfl
theorem F40.go:zW tbl N C (.of 40) [a0,a1,a2] h nx K0=IR.run F40.t43 C N (fnO F40.res K0) (jv F40.res K0) (F40.fr a0 a1 a2 .undef .undef .undef .undef .undef .undef .undef .undef .undef .undef .undef .undef .undef .undef .undef .undef .undef) h nx:=by
 rw [zL F40.tab,F40.bind,F40.jg];kernel_rfl
theorem F40.ret:jv F40.res K0 (F40.fr a b d e c f i o p s g l q u v w y z A B) h nx=K0 (.tup [e,c]) h nx:=by kernel_rfl
end
end Go.Ev
namespace Go.Ev
open Go Go.Proofs
set_option maxRecDepth 100000
section
variable {N:Nat} {C:Calls Prop} {K0:Kw Prop} {K:Ks Prop} {h:T Blk} {nx:Pa} {a b d e c f i o p s a0:AV} {O:uo Prop} {tm:T AV} {Kt:KTm} {r:List RO} {s0 s1 s2 s3 s4 s5 s6 s7 s8 s9 s10 s11 s12 s13 s14 s15 s16 s17 s18 s19 s20 s21 s22 s23 s24 s25 s26 s27 s28 s29 s30 s31 s32 s33 s34 s35 s36 s37 s38 s39 s40 s41 s42 s43 s44 s45 s46 s47 s48 s49 s50 s51 s52 s53 s54 s55 s56 s57 s58 s59:AV}
def yt.t0:IR:=.reg [.w (.loc (.of 1)) none (.box (.t (.of 0))),.w (.loc (.of 2)) none (.alloc [.zf,(.bool false)])]
def yt.t1:IR:=.yw [(.alloc [.zf,(.bool false)])] [(.s (.zy 0 (.t (.of 1))),2,[]),(.s (.load (.s 0)),2,[]),(.s (.len (.s 0)),2,[(.uf 1 8 [(I 0)] (.s 0) (.s 0))]),(.s (.zy 1 (.t (.of 1))),2,[]),(.s (.load (.s 0)),2,[]),(.w .push none (.uf 1 8 [(I 0)] (.s 2) (.s 2)),0,[]),(.s (.build [.zf,(.bool false)] [(0,1,(.s 0)),(1,1,(.s 1))]),1,[]),(.w (.loc (.of 3)) none (.alloc [.zf,(.bool false)]),0,[]),(.w .none none (.store 2 (.t (.of 3)) (.s 0)),0,[])]
def yt.t2:IR:=.reg [.s (.zy 0 (.t (.of 1))),.q (.of 6) (.load (.s 0)),.q (.of 7) (.len (.t (.of 6))),.q (.of 8) (.mv (.c (I 0)))]
def yt.t3:IR:=.reg [.q (.of 9) (.bin .lss .int (.t (.of 8)) (.t (.of 7)))]
def yt.t4:IR:=.cond (.t (.of 9)) .skip (.exit 0)
def yt.t5:IR:=.reg [.s (.mv (.t (.of 8))),.s (.zo 1 (.t (.of 6)) (.t (.of 8))),.s (.load (.s 0)),.q (.of 4) (.mv (.s 2)),.q (.of 5) (.mv (.s 0))]
def yt.t6:IR:=.reg [.s (.zy 0 (.t (.of 3))),.s (.load (.s 0)),.s (.mv (.t (.of 5))),.s (.mv (.t (.of 4))),.s (.zo 1 (.s 2) (.s 1)),.w .none none (.store 1 (.s 0) (.s 1))]
def yt.t7:IR:=.seq yt.t5 yt.t6
def yt.t8:IR:=.block 1 yt.t7
def yt.t9:IR:=.reg [.s (.bin .add .int (.t (.of 8)) (.c (I 1))),.q (.of 8) (.mv (.s 0))]
def yt.t10:IR:=.seq yt.t8 yt.t9
def yt.t11:IR:=.seq yt.t4 yt.t10
def yt.t12:IR:=.seq yt.t3 yt.t11
def yt.t13:IR:=.loop yt.t12
def yt.t14:IR:=.block 0 yt.t13
def yt.t15:IR:=.seq yt.t2 yt.t14
def yt.t16:IR:=.reg [.s (.zh 2 (.t (.of 3))),.w .none none (.store 2 (.t (.of 2)) (.s 0))]
def yt.t17:IR:=.seq yt.t16 .ret
def yt.t18:IR:=.seq yt.t15 yt.t17
def yt.t19:IR:=.seq yt.t1 yt.t18
def yt.t20:IR:=.seq yt.t0 yt.t19
theorem yt.wo:IR.run yt.t0 C N O K (yt.fr a b d e c f i o p s) h nx =
 ak a h nx fun v1 h2 n3=>yI [.zf,(.bool false)] h2 n3 fun v4 h5 n6=>K (yt.fr a v1 v4 e c f i o p s) h5 n6:=by kernel_rfl
theorem yt.wu:IR.run yt.t1 C N O K (yt.fr a b d e c f i o p s) h nx =
 sChk (true&&true) (yC 0 b fun v1=>zD v1 h fun v2=>sLen v2 fun v3=>sChk (mkSl 8 v3 v3&&true) (yC 1 b fun v4=>zD v4 h fun v5=>gS 1 8 [(I 0)] v3 v3 h nx fun v6 h7 n8=>(zD v4 h7 fun vX=>zJ vX v5 ((yC 1 b fun v25=>zJ v25 v4 ((sLen v2 fun vM=>zJ vM v3 ((zD v1 h7 fun vL=>zJ vL v2 ((yC 0 b fun vK=>zJ vK v1 (qJ [.zf,(.bool false)] [(0,1,v6),(1,1,v5)] fun v9=>yI [.zf,(.bool false)] h7 n8 fun vA hD nE=>(qJ [.zf,(.bool false)] [(0,1,v6),(1,1,v5)] fun vJ=>zJ vJ v9 ((zD v4 hD fun vI=>zJ vI v5 ((yC 1 b fun vH=>zJ vH v4 ((sLen v2 fun vG=>zJ vG v3 ((zD v1 hD fun vF=>zJ vF v2 ((yC 0 b fun vE=>zJ vE v1 (zO 2 vA v9 hD nE fun vO hE nF=>K (yt.fr a b d vA c f i o p s) hE nF)))))))))))))))))))))))):=by kernel_rfl
theorem yt.dw:IR.run yt.t2 C N O K (yt.fr a b d e c f i o p s) h nx =
 yC 0 b fun v1=>zD v1 h fun v2=>sLen v2 fun v3=>K (yt.fr a b d e c f v2 v3 (I 0) s) h nx:=by kernel_rfl
theorem yt.rF:IR.run yt.t3 C N O K (yt.fr a b d e c f i o p s) h nx =
 zu .lss .int p o fun v1=>K (yt.fr a b d e c f i o p v1) h nx:=by kernel_rfl
theorem yt.v9:Arg.ev (.t (.of 9)) ⟨(yt.fr a b d e c f i o p s),[]⟩=s:=by kernel_rfl
theorem yt.t5_s:IR.run yt.t5 C N O K (yt.fr a b d e c f i o p s) h nx =
 yB 1 i p fun v1=>zD v1 h fun v2=>K (yt.fr a b d e p v2 i o p s) h nx:=by kernel_rfl
theorem yt.aI:IR.run yt.t6 C N O K (yt.fr a b d e c f i o p s) h nx =
 yC 0 e fun v1=>zD v1 h fun v2=>yB 1 v2 f fun v3=>zO 1 v3 c h nx fun v4 h5 n6=>K (yt.fr a b d e c f i o p s) h5 n6:=by kernel_rfl
theorem yt.au:IR.run yt.t9 C N O K (yt.fr a b d e c f i o p s) h nx =
 zu .add .int p (I 1) fun v1=>K (yt.fr a b d e c f i o v1 s) h nx:=by kernel_rfl
theorem yt.zl3 (Inv:Nat->AV->T Blk->Pa->Prop) {m:Nat} (hm:m<N) (hi:Inv m p h nx)
  (step:∀ (m:Nat) (z4 z5 z8 z9:AV) (h:T Blk) (nx:Pa) (R:Ks Prop),Inv m z8 h nx->(∀ (m':Nat) (w4 w5 w8 w9:AV) (h':T Blk) (nx':Pa),m'<m->Inv m' w8 h' nx'->R (yt.fr a b d e w4 w5 i o w8 w9) h' nx'=.ok True)->IR.run yt.t12 C N O R (yt.fr a b d e z4 z5 i o z8 z9) h nx=.ok True) :
  IR.run yt.t13 C N O K (yt.fr a b d e c f i o p s) h nx=.ok True:=by
 rw [yt.t13];refine yJ (fun m tm h nx=>∃ z4 z5 z8 z9,tm=(yt.fr a b d e z4 z5 i o z8 z9)/\Inv m z8 h nx) ?_ hm ⟨_,_,_,_,rfl,hi⟩;rintro m tm h nx R ⟨z4,z5,z8,z9,rfl,hi⟩ hR;exact step m z4 z5 z8 z9 h nx R hi fun m' w4 w5 w8 w9 h' nx' hlt hi'=>hR m' _ h' nx' hlt ⟨_,_,_,_,rfl,hi'⟩
theorem yt.sQ:IR.run yt.t16 C N O K (yt.fr a b d e c f i o p s) h nx =
 zM 2 e h fun v1=>zO 2 d v1 h nx fun v2 h3 n4=>K (yt.fr a b d e c f i o p s) h3 n4:=by kernel_rfl
theorem yt.tab:T.get none (.of 124) tbl=some yt:=by kernel_rfl
theorem yt.bind (k:T AV->OP):zX yt.params [a0] yt.init k=k (yt.fr a0 .undef .undef .undef .undef .undef .undef .undef .undef .undef):=by kernel_rfl
theorem yt.jg:yt.body=yt.t20:=by kernel_rfl
theorem yt.go:zW tbl N C (.of 124) [a0] h nx K0=IR.run yt.t20 C N (fnO yt.res K0) (jv yt.res K0) (yt.fr a0 .undef .undef .undef .undef .undef .undef .undef .undef .undef) h nx:=by
 rw [zL yt.tab,yt.bind,yt.jg];kernel_rfl
theorem yt.ret:jv yt.res K0 (yt.fr a b d e c f i o p s) h nx=zM 2 d h fun v1=>K0 v1 h nx:=by kernel_rfl
end
end Go.Ev
namespace Go.Ev
open Go Go.Proofs
set_option maxRecDepth 100000
section
variable {N:Nat} {C:Calls Prop} {K0:Kw Prop} {K:Ks Prop} {h:T Blk} {nx:Pa} {a b d e c f i o p s g l a0 a1 a2:AV} {O:uo Prop} {tm:T AV} {Kt:KTm} {r:List RO} {s0 s1 s2 s3 s4 s5 s6 s7 s8 s9 s10 s11 s12 s13 s14 s15 s16 s17 s18 s19 s20 s21 s22 s23 s24 s25 s26 s27 s28 s29 s30 s31 s32 s33 s34 s35 s36 s37 s38 s39 s40 s41 s42 s43 s44 s45 s46 s47 s48 s49 s50 s51 s52 s53 s54 s55 s56 s57 s58 s59:AV}
def yj.t0:IR:=.reg [.w (.loc (.of 2)) none (.box (.t (.of 1))),.q (.of 3) (.mv (.c .zf))]
def yj.t1:IR:=.reg [.s (.mv (.t (.of 0))),.s (.zh 2 (.t (.of 2))),.w .push none (.call (.c (.fn 84 (.of 84) [])) [(.s 1),(.s 0)]),.q (.of 5) (.bin .geq .int (.s 0) (.c (I 0)))]
def yj.t2:IR:=.reg [.s (.mv (.t (.of 0))),.q (.of 3) (.mv (.s 0))]
def yj.t3:IR:=.seq yj.t2 .ret
def yj.t4:IR:=.cond (.t (.of 5)) yj.t3 .skip
def yj.t5:IR:=.seq yj.t1 yj.t4
def yj.t6:IR:=.reg [.q (.of 4) (.mv (.c (I 0)))]
def yj.t7:IR:=.yw [] [(.s (.mv (.t (.of 4))),0,[]),(.s (.mv (.t (.of 0))),0,[]),(.s (.len (.s 0)),0,[]),(.s (.bin .lss .int (.s 2) (.s 0)),0,[]),(.s (.mv (.s 0)),0,[]),(.p .push (some ((.s 0),true)) (.mv (.t (.of 0))),0,[]),(.p .push (some ((.s 1),true)) (.mv (.t (.of 4))),0,[]),(.p .push (some ((.s 2),true)) (.zo 2 (.s 1) (.s 0)),0,[]),(.p .push (some ((.s 3),true)) (.zh 2 (.s 0)),0,[]),(.p .push (some ((.s 4),true)) (.zh 2 (.t (.of 2))),0,[]),(.w .push (some ((.s 5),true)) (.call (.c (.fn 85 (.of 85) [])) [(.s 1),(.s 0)]),0,[]),(.q (.of 6) (.pick (.s 6) (.s 0) (.c (.bool false))),0,[])]
def yj.t8:IR:=.cond (.t (.of 6)) .skip (.exit 0)
def yj.t9:IR:=.seq yj.t7 yj.t8
def yj.t10:IR:=.reg [.s (.mv (.t (.of 4))),.s (.bin .add .int (.s 0) (.c (I 1))),.q (.of 4) (.mv (.s 0))]
def yj.t11:IR:=.block 1 yj.t10
def yj.t12:IR:=.seq yj.t9 yj.t11
def yj.t13:IR:=.loop yj.t12
def yj.t14:IR:=.block 0 yj.t13
def yj.t15:IR:=.yw [(.zx 2 0 [.zf,(.bool false)] [])] [(.s (.mv (.t (.of 0))),3,[]),(.s (.mv (.t (.of 4))),3,[]),(.s (.slice 2 (.s 1) none (some (.s 0)) none),3,[]),(.s (.zh 2 (.t (.of 2))),2,[(.zx 2 1 [.zf,(.bool false)] [(0,2,(.s 0))])]),(.s (.mv (.t (.of 0))),4,[]),(.s (.mv (.t (.of 4))),4,[]),(.s (.slice 2 (.s 1) (some (.s 0)) none none),4,[]),(.w .push none (.zx 2 0 [.zf,(.bool false)] []),0,[]),(.w .push none (.aO 2 32 (.s 0) (.s 5)),0,[]),(.w .push none (.zx 2 1 [.zf,(.bool false)] [(0,2,(.s 5))]),0,[]),(.w .push none (.aO 2 32 (.s 1) (.s 0)),0,[]),(.w .push none (.aO 2 32 (.s 0) (.s 4)),0,[]),(.q (.of 3) (.mv (.s 0)),0,[])]
def yj.t16:IR:=.seq yj.t15 .ret
def yj.t17:IR:=.seq yj.t14 yj.t16
def yj.t18:IR:=.seq yj.t6 yj.t17
def yj.t19:IR:=.seq yj.t5 yj.t18
def yj.t20:IR:=.seq yj.t0 yj.t19
theorem yj.wo:IR.run yj.t0 C N O K (yj.fr a b d e c f i) h nx =
 ak b h nx fun v1 h2 n3=>K (yj.fr a b v1 .zf c f i) h2 n3:=by kernel_rfl
theorem yj.wu:IR.run yj.t1 C N O K (yj.fr a b d e c f i) h nx =
 zM 2 d h fun v1=>C.fn 84 (.of 84) [a,v1] h nx fun v2 h3 n4=>zu .geq .int v2 (I 0) fun v5=>K (yj.fr a b d e c v5 i) h3 n4:=by kernel_rfl
theorem yj.dw:IR.run yj.t2 C N O K (yj.fr a b d e c f i) h nx =
 K (yj.fr a b d a c f i) h nx:=by kernel_rfl
theorem yj.v5:Arg.ev (.t (.of 5)) ⟨(yj.fr a b d e c f i),[]⟩=f:=by kernel_rfl
theorem yj.aI:IR.run yj.t6 C N O K (yj.fr a b d e c f i) h nx =
 K (yj.fr a b d e (I 0) f i) h nx:=by kernel_rfl
theorem yj.t7_s:IR.run yj.t7 C N O K (yj.fr a b d e c f i) h nx =
 sLen a fun v1=>zu .lss .int c v1 fun v2=>sG v2 true (fun k=>k a) fun v3=>sG v2 true (fun k=>k c) fun v4=>sG v2 true (fun k=>yB 2 v3 v4 k) fun v5=>sG v2 true (fun k=>zM 2 v5 h k) fun v6=>sG v2 true (fun k=>zM 2 d h k) fun v7=>sGW v2 true (fun k=>C.fn 85 (.of 85) [v6,v7] h nx k) h nx fun v8 h9 nD=>jI v2 v8 (.bool false) fun vB=>K (yj.fr a b d e c f vB) h9 nD:=by kernel_rfl
theorem yj.v6:Arg.ev (.t (.of 6)) ⟨(yj.fr a b d e c f i),[]⟩=i:=by kernel_rfl
theorem yj.fG:IR.run yj.t10 C N O K (yj.fr a b d e c f i) h nx =
 zu .add .int c (I 1) fun v1=>K (yj.fr a b d e v1 f i) h nx:=by kernel_rfl
theorem yj.zl3 (Inv:Nat->AV->T Blk->Pa->Prop) {m:Nat} (hm:m<N) (hi:Inv m c h nx)
  (step:∀ (m:Nat) (z4 z6:AV) (h:T Blk) (nx:Pa) (R:Ks Prop),Inv m z4 h nx->(∀ (m':Nat) (w4 w6:AV) (h':T Blk) (nx':Pa),m'<m->Inv m' w4 h' nx'->R (yj.fr a b d e w4 f w6) h' nx'=.ok True)->IR.run yj.t12 C N O R (yj.fr a b d e z4 f z6) h nx=.ok True) :
  IR.run yj.t13 C N O K (yj.fr a b d e c f i) h nx=.ok True:=by
 rw [yj.t13];refine yJ (fun m tm h nx=>∃ z4 z6,tm=(yj.fr a b d e z4 f z6)/\Inv m z4 h nx) ?_ hm ⟨_,_,rfl,hi⟩;rintro m tm h nx R ⟨z4,z6,rfl,hi⟩ hR;exact step m z4 z6 h nx R hi fun m' w4 w6 h' nx' hlt hi'=>hR m' _ h' nx' hlt ⟨_,_,rfl,hi'⟩
theorem yj.aX:IR.run yj.t15 C N O K (yj.fr a b d e c f i) h nx =
 sChk ((j6 (fJ 0 [.zf,(.bool false)]) []).isSome&&true) (gR 2 a none (some c) none fun v1=>zM 2 d h fun v2=>sChk ((j6 (fJ 1 [.zf,(.bool false)]) [(0,2,v2)]).isSome&&true) (gR 2 a (some c) none none fun v3=>yX 2 0 [.zf,(.bool false)] [] h nx fun v4 h5 n6=>(gR 2 a (some c) none none fun v27=>zJ v27 v3 (zJ c c (zJ a a ((zM 2 d h5 fun vX=>zJ vX v2 ((gR 2 a none (some c) none fun v25=>zJ v25 v1 (zJ c c (zJ a a (uW C 2 32 v4 v1 h5 n6 fun v7 h8 n9=>(gR 2 a (some c) none none fun vM=>zJ vM v3 (zJ c c (zJ a a ((zM 2 d h8 fun vL=>zJ vL v2 ((gR 2 a none (some c) none fun vK=>zJ vK v1 (zJ c c (zJ a a (yX 2 1 [.zf,(.bool false)] [(0,2,v2)] h8 n9 fun vA hD nE=>(gR 2 a (some c) none none fun vJ=>zJ vJ v3 (zJ c c (zJ a a ((gR 2 a none (some c) none fun vI=>zJ vI v1 (zJ c c (zJ a a (uW C 2 32 v7 vA hD nE fun vO hE nF=>(gR 2 a (some c) none none fun vH=>zJ vH v3 (zJ c c (zJ a a (uW C 2 32 vO v3 hE nF fun vE hC nC=>K (yj.fr a b d vE c f i) hC nC)))))))))))))))))))))))))))))))))):=by kernel_rfl
theorem yj.tab:T.get none (.of 125) tbl=some yj:=by kernel_rfl
theorem yj.bind (k:T AV->OP):zX yj.params [a0,a1] yj.init k=k (yj.fr a0 a1 .undef .undef .undef .undef .undef):=by kernel_rfl
theorem yj.jg:yj.body=yj.t20:=by kernel_rfl
theorem yj.go:zW tbl N C (.of 125) [a0,a1] h nx K0=IR.run yj.t20 C N (fnO yj.res K0) (jv yj.res K0) (yj.fr a0 a1 .undef .undef .undef .undef .undef) h nx:=by
 rw [zL yj.tab,yj.bind,yj.jg];kernel_rfl
theorem yj.ret:jv yj.res K0 (yj.fr a b d e c f i) h nx=K0 e h nx:=by kernel_rfl
end
end Go.Ev
namespace Go.Ev
open Go Go.Proofs
set_option maxRecDepth 100000
section
variable {N:Nat} {C:Calls Prop} {K0:Kw Prop} {K:Ks Prop} {h:T Blk} {nx:Pa} {a b d e c f i o p s g l q a0 a1:AV} {O:uo Prop} {tm:T AV} {Kt:KTm} {r:List RO} {s0 s1 s2 s3 s4 s5 s6 s7 s8 s9 s10 s11 s12 s13 s14 s15 s16 s17 s18 s19 s20 s21 s22 s23 s24 s25 s26 s27 s28 s29 s30 s31 s32 s33 s34 s35 s36 s37 s38 s39 s40 s41 s42 s43 s44 s45 s46 s47 s48 s49 s50 s51 s52 s53 s54 s55 s56 s57 s58 s59:AV}
end
end Go.Ev
namespace Go.Ev
open Go Go.Proofs
set_option maxRecDepth 100000
section
variable {N:Nat} {C:Calls Prop} {K0:Kw Prop} {K:Ks Prop} {h:T Blk} {nx:Pa} {a b d e c f i o p s g l q u v w a0 a1:AV} {O:uo Prop} {tm:T AV} {Kt:KTm} {r:List RO} {s0 s1 s2 s3 s4 s5 s6 s7 s8 s9 s10 s11 s12 s13 s14 s15 s16 s17 s18 s19 s20 s21 s22 s23 s24 s25 s26 s27 s28 s29 s30 s31 s32 s33 s34 s35 s36 s37 s38 s39 s40 s41 s42 s43 s44 s45 s46 s47 s48 s49 s50 s51 s52 s53 s54 s55 s56 s57 s58 s59:AV}
end
end Go.Ev
namespace Go.Ev
open Go Go.Proofs
set_option maxRecDepth 100000
section
variable {N:Nat} {C:Calls Prop} {K0:Kw Prop} {K:Ks Prop} {h:T Blk} {nx:Pa} {a b d e c f i o p s g l q u v w y z A B a0 a1:AV} {O:uo Prop} {tm:T AV} {Kt:KTm} {r:List RO} {s0 s1 s2 s3 s4 s5 s6 s7 s8 s9 s10 s11 s12 s13 s14 s15 s16 s17 s18 s19 s20 s21 s22 s23 s24 s25 s26 s27 s28 s29 s30 s31 s32 s33 s34 s35 s36 s37 s38 s39 s40 s41 s42 s43 s44 s45 s46 s47 s48 s49 s50 s51 s52 s53 s54 s55 s56 s57 s58 s59:AV}
end
end Go.Ev
namespace Go.Ev
open Go Go.Proofs
set_option maxRecDepth 100000
section
variable {N:Nat} {C:Calls Prop} {K0:Kw Prop} {K:Ks Prop} {h:T Blk} {nx:Pa} {a b d e c f i o p s g l q u a0 a1:AV} {O:uo Prop} {tm:T AV} {Kt:KTm} {r:List RO} {s0 s1 s2 s3 s4 s5 s6 s7 s8 s9 s10 s11 s12 s13 s14 s15 s16 s17 s18 s19 s20 s21 s22 s23 s24 s25 s26 s27 s28 s29 s30 s31 s32 s33 s34 s35 s36 s37 s38 s39 s40 s41 s42 s43 s44 s45 s46 s47 s48 s49 s50 s51 s52 s53 s54 s55 s56 s57 s58 s59:AV}
end
end Go.Ev
namespace Go.Ev
open Go Go.Proofs
set_option maxRecDepth 100000
section
variable {N:Nat} {C:Calls Prop} {K0:Kw Prop} {K:Ks Prop} {h:T Blk} {nx:Pa} {a b d e a0 a1:AV} {O:uo Prop} {tm:T AV} {Kt:KTm} {r:List RO} {s0 s1 s2 s3 s4 s5 s6 s7 s8 s9 s10 s11 s12 s13 s14 s15 s16 s17 s18 s19 s20 s21 s22 s23 s24 s25 s26 s27 s28 s29 s30 s31 s32 s33 s34 s35 s36 s37 s38 s39 s40 s41 s42 s43 s44 s45 s46 s47 s48 s49 s50 s51 s52 s53 s54 s55 s56 s57 s58 s59:AV}
end
end Go.Ev
namespace Go.Ev
open Go Go.Proofs
set_option maxRecDepth 100000
section
variable {N:Nat} {C:Calls Prop} {K0:Kw Prop} {K:Ks Prop} {h:T Blk} {nx:Pa} {a b d e c f i o p s g l q u v w y z A B D E a0 a1 a2:AV} {O:uo Prop} {tm:T AV} {Kt:KTm} {r:List RO} {s0 s1 s2 s3 s4 s5 s6 s7 s8 s9 s10 s11 s12 s13 s14 s15 s16 s17 s18 s19 s20 s21 s22 s23 s24 s25 s26 s27 s28 s29 s30 s31 s32 s33 s34 s35 s36 s37 s38 s39 s40 s41 s42 s43 s44 s45 s46 s47 s48 s49 s50 s51 s52 s53 s54 s55 s56 s57 s58 s59:AV}
end
end Go.Ev
namespace Go.Ev
open Go Go.Proofs
set_option maxRecDepth 100000
section
variable {N:Nat} {C:Calls Prop} {K0:Kw Prop} {K:Ks Prop} {h:T Blk} {nx:Pa} {a b d e c f i o p s g l q u v w y z A B D E F a0 a1 a2:AV} {O:uo Prop} {tm:T AV} {Kt:KTm} {r:List RO} {s0 s1 s2 s3 s4 s5 s6 s7 s8 s9 s10 s11 s12 s13 s14 s15 s16 s17 s18 s19 s20 s21 s22 s23 s24 s25 s26 s27 s28 s29 s30 s31 s32 s33 s34 s35 s36 s37 s38 s39 s40 s41 s42 s43 s44 s45 s46 s47 s48 s49 s50 s51 s52 s53 s54 s55 s56 s57 s58 s59:AV}
end
end Go.Ev
namespace Go.Ev
open Go Go.Proofs
set_option maxRecDepth 100000
section
variable {N:Nat} {C:Calls Prop} {K0:Kw Prop} {K:Ks Prop} {h:T Blk} {nx:Pa} {a b d e c f i o p s g l q u v w y z A a0 a1:AV} {O:uo Prop} {tm:T AV} {Kt:KTm} {r:List RO} {s0 s1 s2 s3 s4 s5 s6 s7 s8 s9 s10 s11 s12 s13 s14 s15 s16 s17 s18 s19 s20 s21 s22 s23 s24 s25 s26 s27 s28 s29 s30 s31 s32 s33 s34 s35 s36 s37 s38 s39 s40 s41 s42 s43 s44 s45 s46 s47 s48 s49 s50 s51 s52 s53 s54 s55 s56 s57 s58 s59:AV}
end
end Go.Ev
namespace Go.Ev
open Go Go.Proofs
set_option maxRecDepth 100000
section
variable {N:Nat} {C:Calls Prop} {K0:Kw Prop} {K:Ks Prop} {h:T Blk} {nx:Pa} {a b d e c f i o p s g l q u v w y z A B D E F G H L M P Q U V W Z x33 x34 x35 a0 a1 a2:AV} {O:uo Prop} {tm:T AV} {Kt:KTm} {r:List RO} {s0 s1 s2 s3 s4 s5 s6 s7 s8 s9 s10 s11 s12 s13 s14 s15 s16 s17 s18 s19 s20 s21 s22 s23 s24 s25 s26 s27 s28 s29 s30 s31 s32 s33 s34 s35 s36 s37 s38 s39 s40 s41 s42 s43 s44 s45 s46 s47 s48 s49 s50 s51 s52 s53 s54 s55 s56 s57 s58 s59:AV}
end
end Go.Ev
namespace Go.Ev
open Go Go.Proofs
set_option maxRecDepth 100000
section
variable {N:Nat} {C:Calls Prop} {K0:Kw Prop} {K:Ks Prop} {h:T Blk} {nx:Pa} {a b d e c f i o p s g l q u a0 a1 a2:AV} {O:uo Prop} {tm:T AV} {Kt:KTm} {r:List RO} {s0 s1 s2 s3 s4 s5 s6 s7 s8 s9 s10 s11 s12 s13 s14 s15 s16 s17 s18 s19 s20 s21 s22 s23 s24 s25 s26 s27 s28 s29 s30 s31 s32 s33 s34 s35 s36 s37 s38 s39 s40 s41 s42 s43 s44 s45 s46 s47 s48 s49 s50 s51 s52 s53 s54 s55 s56 s57 s58 s59:AV}
def jc.t0:IR:=.reg [.q (.of 1) (.mv (.c .zf))]
def jc.t1:IR:=.reg [.q (.of 2) (.mv (.c .zf))]
def jc.t2:IR:=.reg [.q (.of 3) (.mv (.c (I 0)))]
def jc.t3:IR:=.reg [.s (.mv (.t (.of 3))),.s (.mv (.t (.of 0))),.s (.len (.s 0)),.q (.of 4) (.bin .lss .int (.s 2) (.s 0))]
def jc.t4:IR:=.cond (.t (.of 4)) .skip (.exit 0)
def jc.t5:IR:=.seq jc.t3 jc.t4
def jc.t6:IR:=.reg [.s (.mv (.t (.of 2))),.s (.mv (.t (.of 0))),.s (.mv (.t (.of 3))),.s (.zo 2 (.s 1) (.s 0)),.s (.zh 2 (.s 0)),.w .push none (.call (.c (.fn 125 (.of 125) [])) [(.s 4),(.s 0)]),.q (.of 2) (.mv (.s 0))]
def jc.t7:IR:=.block 1 jc.t6
def jc.t8:IR:=.reg [.s (.mv (.t (.of 3))),.s (.bin .add .int (.s 0) (.c (I 1))),.q (.of 3) (.mv (.s 0))]
def jc.t9:IR:=.seq jc.t7 jc.t8
def jc.t10:IR:=.seq jc.t5 jc.t9
def jc.t11:IR:=.loop jc.t10
def jc.t12:IR:=.block 0 jc.t11
def jc.t13:IR:=.seq jc.t2 jc.t12
def jc.t14:IR:=.reg [.s (.mv (.t (.of 2))),.q (.of 1) (.mv (.s 0))]
def jc.t15:IR:=.seq jc.t14 .ret
def jc.t16:IR:=.seq jc.t13 jc.t15
def jc.t17:IR:=.seq jc.t1 jc.t16
def jc.t18:IR:=.seq jc.t0 jc.t17
theorem jc.wo:IR.run jc.t0 C N O K (jc.fr a b d e c) h nx =
 K (jc.fr a .zf d e c) h nx:=by kernel_rfl
theorem jc.wu:IR.run jc.t1 C N O K (jc.fr a b d e c) h nx =
 K (jc.fr a b .zf e c) h nx:=by kernel_rfl
theorem jc.dw:IR.run jc.t2 C N O K (jc.fr a b d e c) h nx =
 K (jc.fr a b d (I 0) c) h nx:=by kernel_rfl
theorem jc.rF:IR.run jc.t3 C N O K (jc.fr a b d e c) h nx =
 sLen a fun v1=>zu .lss .int e v1 fun v2=>K (jc.fr a b d e v2) h nx:=by kernel_rfl
theorem jc.v4:Arg.ev (.t (.of 4)) ⟨(jc.fr a b d e c),[]⟩=c:=by kernel_rfl
theorem jc.aI:IR.run jc.t6 C N O K (jc.fr a b d e c) h nx =
 yB 2 a e fun v1=>zM 2 v1 h fun v2=>C.fn 125 (.of 125) [d,v2] h nx fun v3 h4 n5=>K (jc.fr a b v3 e c) h4 n5:=by kernel_rfl
theorem jc.sV:IR.run jc.t8 C N O K (jc.fr a b d e c) h nx =
 zu .add .int e (I 1) fun v1=>K (jc.fr a b d v1 c) h nx:=by kernel_rfl
theorem jc.zaw (Inv:Nat->AV->AV->T Blk->Pa->Prop) {m:Nat} (hm:m<N) (hi:Inv m d e h nx)
  (step:∀ (m:Nat) (z2 z3 z4:AV) (h:T Blk) (nx:Pa) (R:Ks Prop),Inv m z2 z3 h nx->(∀ (m':Nat) (w2 w3 w4:AV) (h':T Blk) (nx':Pa),m'<m->Inv m' w2 w3 h' nx'->R (jc.fr a b w2 w3 w4) h' nx'=.ok True)->IR.run jc.t10 C N O R (jc.fr a b z2 z3 z4) h nx=.ok True) :
  IR.run jc.t11 C N O K (jc.fr a b d e c) h nx=.ok True:=by
 rw [jc.t11];refine yJ (fun m tm h nx=>∃ z2 z3 z4,tm=(jc.fr a b z2 z3 z4)/\Inv m z2 z3 h nx) ?_ hm ⟨_,_,_,rfl,hi⟩;rintro m tm h nx R ⟨z2,z3,z4,rfl,hi⟩ hR;exact step m z2 z3 z4 h nx R hi fun m' w2 w3 w4 h' nx' hlt hi'=>hR m' _ h' nx' hlt ⟨_,_,_,rfl,hi'⟩
theorem jc.rC:IR.run jc.t14 C N O K (jc.fr a b d e c) h nx =
 K (jc.fr a d d e c) h nx:=by kernel_rfl
theorem jc.tab:T.get none (.of 100) tbl=some jc:=by kernel_rfl
theorem jc.bind (k:T AV->OP):zX jc.params [a0] jc.init k=k (jc.fr a0 .undef .undef .undef .undef):=by kernel_rfl
theorem jc.jg:jc.body=jc.t18:=by kernel_rfl
theorem jc.go:zW tbl N C (.of 100) [a0] h nx K0=IR.run jc.t18 C N (fnO jc.res K0) (jv jc.res K0) (jc.fr a0 .undef .undef .undef .undef) h nx:=by
 rw [zL jc.tab,jc.bind,jc.jg];kernel_rfl
theorem jc.ret:jv jc.res K0 (jc.fr a b d e c) h nx=K0 b h nx:=by kernel_rfl
end
end Go.Ev
namespace Go.Ev
open Go Go.Proofs
set_option maxRecDepth 100000
section
variable {N:Nat} {C:Calls Prop} {K0:Kw Prop} {K:Ks Prop} {h:T Blk} {nx:Pa} {a b d e c a0:AV} {O:uo Prop} {tm:T AV} {Kt:KTm} {r:List RO} {s0 s1 s2 s3 s4 s5 s6 s7 s8 s9 s10 s11 s12 s13 s14 s15 s16 s17 s18 s19 s20 s21 s22 s23 s24 s25 s26 s27 s28 s29 s30 s31 s32 s33 s34 s35 s36 s37 s38 s39 s40 s41 s42 s43 s44 s45 s46 s47 s48 s49 s50 s51 s52 s53 s54 s55 s56 s57 s58 s59:AV}
def jd.t0:IR:=.reg [.q (.of 1) (.mv (.c .zf))]
def jd.t1:IR:=.reg [.q (.of 2) (.mv (.c .zf))]
def jd.t2:IR:=.reg [.q (.of 3) (.mv (.c (I 0)))]
def jd.t3:IR:=.reg [.s (.mv (.t (.of 3))),.s (.mv (.t (.of 0))),.q (.of 4) (.bin .lss .int (.s 1) (.s 0))]
def jd.t4:IR:=.cond (.t (.of 4)) .skip (.exit 0)
def jd.t5:IR:=.seq jd.t3 jd.t4
def jd.t6:IR:=.reg [.s (.mv (.t (.of 2))),.s (.mv (.t (.of 3))),.w .push none (.zx 1 1 [(I 0)] [(0,1,(.s 0))]),.w .push none (.app 1 8 (.s 2) (.s 0)),.q (.of 2) (.mv (.s 0))]
def jd.t7:IR:=.block 1 jd.t6
def jd.t8:IR:=.reg [.s (.mv (.t (.of 3))),.s (.bin .add .int (.s 0) (.c (I 1))),.q (.of 3) (.mv (.s 0))]
def jd.t9:IR:=.seq jd.t7 jd.t8
def jd.t10:IR:=.seq jd.t5 jd.t9
def jd.t11:IR:=.loop jd.t10
def jd.t12:IR:=.block 0 jd.t11
def jd.t13:IR:=.seq jd.t2 jd.t12
def jd.t14:IR:=.reg [.s (.mv (.t (.of 2))),.q (.of 1) (.mv (.s 0))]
def jd.t15:IR:=.seq jd.t14 .ret
def jd.t16:IR:=.seq jd.t13 jd.t15
def jd.t17:IR:=.seq jd.t1 jd.t16
def jd.t18:IR:=.seq jd.t0 jd.t17
theorem jd.wo:IR.run jd.t0 C N O K (jd.fr a b d e c) h nx =
 K (jd.fr a .zf d e c) h nx:=by kernel_rfl
theorem jd.wu:IR.run jd.t1 C N O K (jd.fr a b d e c) h nx =
 K (jd.fr a b .zf e c) h nx:=by kernel_rfl
theorem jd.dw:IR.run jd.t2 C N O K (jd.fr a b d e c) h nx =
 K (jd.fr a b d (I 0) c) h nx:=by kernel_rfl
theorem jd.rF:IR.run jd.t3 C N O K (jd.fr a b d e c) h nx =
 zu .lss .int e a fun v1=>K (jd.fr a b d e v1) h nx:=by kernel_rfl
theorem jd.v4:Arg.ev (.t (.of 4)) ⟨(jd.fr a b d e c),[]⟩=c:=by kernel_rfl
theorem jd.aI:IR.run jd.t6 C N O K (jd.fr a b d e c) h nx =
 yX 1 1 [(I 0)] [(0,1,e)] h nx fun v1 h2 n3=>tX 1 8 d v1 h2 n3 fun v4 h5 n6=>K (jd.fr a b v4 e c) h5 n6:=by kernel_rfl
theorem jd.sV:IR.run jd.t8 C N O K (jd.fr a b d e c) h nx =
 zu .add .int e (I 1) fun v1=>K (jd.fr a b d v1 c) h nx:=by kernel_rfl
theorem jd.zaw (Inv:Nat->AV->AV->T Blk->Pa->Prop) {m:Nat} (hm:m<N) (hi:Inv m d e h nx)
  (step:∀ (m:Nat) (z2 z3 z4:AV) (h:T Blk) (nx:Pa) (R:Ks Prop),Inv m z2 z3 h nx->(∀ (m':Nat) (w2 w3 w4:AV) (h':T Blk) (nx':Pa),m'<m->Inv m' w2 w3 h' nx'->R (jd.fr a b w2 w3 w4) h' nx'=.ok True)->IR.run jd.t10 C N O R (jd.fr a b z2 z3 z4) h nx=.ok True) :
  IR.run jd.t11 C N O K (jd.fr a b d e c) h nx=.ok True:=by
 rw [jd.t11];refine yJ (fun m tm h nx=>∃ z2 z3 z4,tm=(jd.fr a b z2 z3 z4)/\Inv m z2 z3 h nx) ?_ hm ⟨_,_,_,rfl,hi⟩;rintro m tm h nx R ⟨z2,z3,z4,rfl,hi⟩ hR;exact step m z2 z3 z4 h nx R hi fun m' w2 w3 w4 h' nx' hlt hi'=>hR m' _ h' nx' hlt ⟨_,_,_,rfl,hi'⟩
theorem jd.rC:IR.run jd.t14 C N O K (jd.fr a b d e c) h nx =
 K (jd.fr a d d e c) h nx:=by kernel_rfl
theorem jd.tab:T.get none (.of 101) tbl=some jd:=by kernel_rfl
theorem jd.bind (k:T AV->OP):zX jd.params [a0] jd.init k=k (jd.fr a0 .undef .undef .undef .undef):=by kernel_rfl
theorem jd.jg:jd.body=jd.t18:=by kernel_rfl
theorem jd.go:zW tbl N C (.of 101) [a0] h nx K0=IR.run jd.t18 C N (fnO jd.res K0) (jv jd.res K0) (jd.fr a0 .undef .undef .undef .undef) h nx:=by
 rw [zL jd.tab,jd.bind,jd.jg];kernel_rfl
theorem jd.ret:jv jd.res K0 (jd.fr a b d e c) h nx=K0 b h nx:=by kernel_rfl
end
end Go.Ev
namespace Go.Ev
open Go Go.Proofs
set_option maxRecDepth 100000
section
variable {N:Nat} {C:Calls Prop} {K0:Kw Prop} {K:Ks Prop} {h:T Blk} {nx:Pa} {a b d e c f i o p s g l q u v a0 a1 a2 a3 a4:AV} {O:uo Prop} {tm:T AV} {Kt:KTm} {r:List RO} {s0 s1 s2 s3 s4 s5 s6 s7 s8 s9 s10 s11 s12 s13 s14 s15 s16 s17 s18 s19 s20 s21 s22 s23 s24 s25 s26 s27 s28 s29 s30 s31 s32 s33 s34 s35 s36 s37 s38 s39 s40 s41 s42 s43 s44 s45 s46 s47 s48 s49 s50 s51 s52 s53 s54 s55 s56 s57 s58 s59:AV}
def F66.t0:IR:=.reg [.w (.loc (.of 1)) none (.box (.t (.of 0))),.q (.of 2) (.mv (.c .zf)),.q (.of 3) (.mv (.c (I 0)))]
def F66.t1:IR:=.reg [.s (.load (.t (.of 1))),.w .push none (.call (.c (.fn 145 (.of 145) [])) [(.s 0)]),.q (.of 4) (.mv (.s 0))]
def F66.t2:IR:=.reg [.s (.mv (.t (.of 4))),.q (.of 7) (.bin .neq .int (.s 0) (.c (I 0)))]
def F66.t3:IR:=.reg [.s (.mv (.t (.of 4))),.q (.of 2) (.mv (.c .zf)),.q (.of 3) (.mv (.s 0))]
def F66.t4:IR:=.seq F66.t3 .ret
def F66.t5:IR:=.cond (.t (.of 7)) F66.t4 .skip
def F66.t6:IR:=.seq F66.t2 F66.t5
def F66.t7:IR:=.seq F66.t1 F66.t6
def F66.t8:IR:=.reg [.w .push none .fH,.q (.of 5) (.mv (.s 0))]
def F66.t9:IR:=.reg [.q (.of 8) (.mv (.c (I 0)))]
def F66.t10:IR:=.reg [.q (.of 9) (.bin .lss .int (.t (.of 8)) (.c (I 8)))]
def F66.t11:IR:=.cond (.t (.of 9)) .skip (.exit 0)
def F66.t12:IR:=.reg [.s (.mv (.t (.of 8))),.w (.loc (.of 6)) none (.alloc [(I 0)]),.w .none none (.store 1 (.t (.of 6)) (.s 0))]
def F66.t13:IR:=.reg [.s (.mv (.t (.of 5))),.s (.load (.t (.of 1))),.s (.fn 147 (.of 147) [(.t (.of 6)),(.t (.of 1))]),.w .push none (.call (.c (.fn 146 (.of 146) [])) [(.s 2),(.s 1),(.s 0)])]
def F66.t14:IR:=.seq F66.t12 F66.t13
def F66.t15:IR:=.block 1 F66.t14
def F66.t16:IR:=.reg [.s (.bin .add .int (.t (.of 8)) (.c (I 1))),.q (.of 8) (.mv (.s 0))]
def F66.t17:IR:=.seq F66.t15 F66.t16
def F66.t18:IR:=.seq F66.t11 F66.t17
def F66.t19:IR:=.seq F66.t10 F66.t18
def F66.t20:IR:=.loop F66.t19
def F66.t21:IR:=.block 0 F66.t20
def F66.t22:IR:=.seq F66.t9 F66.t21
def F66.t23:IR:=.reg [.s (.mv (.t (.of 5))),.w .push none (.call (.c (.fn 99 (.of 99) [])) [(.s 0)]),.q (.of 2) (.mv (.s 0)),.q (.of 3) (.mv (.c (I 0)))]
def F66.t24:IR:=.seq F66.t23 .ret
def F66.t25:IR:=.seq F66.t22 F66.t24
def F66.t26:IR:=.seq F66.t8 F66.t25
def F66.t27:IR:=.seq F66.t7 F66.t26
def F66.t28:IR:=.seq F66.t0 F66.t27
theorem F66.wo:IR.run F66.t0 C N O K (F66.fr a b d e c f i o p s) h nx =
 ak a h nx fun v1 h2 n3=>K (F66.fr a v1 .zf (I 0) c f i o p s) h2 n3:=by kernel_rfl
theorem F66.wu:IR.run F66.t1 C N O K (F66.fr a b d e c f i o p s) h nx =
 zD b h fun v1=>C.fn 145 (.of 145) [v1] h nx fun v2 h3 n4=>K (F66.fr a b d e v2 f i o p s) h3 n4:=by kernel_rfl
theorem F66.dw:IR.run F66.t2 C N O K (F66.fr a b d e c f i o p s) h nx =
 zu .neq .int c (I 0) fun v1=>K (F66.fr a b d e c f i v1 p s) h nx:=by kernel_rfl
theorem F66.rF:IR.run F66.t3 C N O K (F66.fr a b d e c f i o p s) h nx =
 K (F66.fr a b .zf c c f i o p s) h nx:=by kernel_rfl
theorem F66.v7:Arg.ev (.t (.of 7)) ⟨(F66.fr a b d e c f i o p s),[]⟩=o:=by kernel_rfl
theorem F66.sV:IR.run F66.t8 C N O K (F66.fr a b d e c f i o p s) h nx =
 xV h nx fun v1 h2 n3=>K (F66.fr a b d e c v1 i o p s) h2 n3:=by kernel_rfl
theorem F66.au:IR.run F66.t9 C N O K (F66.fr a b d e c f i o p s) h nx =
 K (F66.fr a b d e c f i o (I 0) s) h nx:=by kernel_rfl
theorem F66.fG:IR.run F66.t10 C N O K (F66.fr a b d e c f i o p s) h nx =
 zu .lss .int p (I 8) fun v1=>K (F66.fr a b d e c f i o p v1) h nx:=by kernel_rfl
theorem F66.v9:Arg.ev (.t (.of 9)) ⟨(F66.fr a b d e c f i o p s),[]⟩=s:=by kernel_rfl
theorem F66.tH:IR.run F66.t12 C N O K (F66.fr a b d e c f i o p s) h nx =
 yI [(I 0)] h nx fun v1 h2 n3=>zO 1 v1 p h2 n3 fun v4 h5 n6=>K (F66.fr a b d e c f v1 o p s) h5 n6:=by kernel_rfl
theorem F66.zak:IR.run F66.t13 C N O K (F66.fr a b d e c f i o p s) h nx =
 zD b h fun v1=>C.fn 146 (.of 146) [f,v1,(.fn 147 (.of 147) [i,b])] h nx fun v2 h3 n4=>K (F66.fr a b d e c f i o p s) h3 n4:=by kernel_rfl
theorem F66.sQ:IR.run F66.t16 C N O K (F66.fr a b d e c f i o p s) h nx =
 zu .add .int p (I 1) fun v1=>K (F66.fr a b d e c f i o v1 s) h nx:=by kernel_rfl
theorem F66.zvk (Inv:Nat->AV->T Blk->Pa->Prop) {m:Nat} (hm:m<N) (hi:Inv m p h nx)
  (step:∀ (m:Nat) (z6 z8 z9:AV) (h:T Blk) (nx:Pa) (R:Ks Prop),Inv m z8 h nx->(∀ (m':Nat) (w6 w8 w9:AV) (h':T Blk) (nx':Pa),m'<m->Inv m' w8 h' nx'->R (F66.fr a b d e c f w6 o w8 w9) h' nx'=.ok True)->IR.run F66.t19 C N O R (F66.fr a b d e c f z6 o z8 z9) h nx=.ok True) :
  IR.run F66.t20 C N O K (F66.fr a b d e c f i o p s) h nx=.ok True:=by
 rw [F66.t20];refine yJ (fun m tm h nx=>∃ z6 z8 z9,tm=(F66.fr a b d e c f z6 o z8 z9)/\Inv m z8 h nx) ?_ hm ⟨_,_,_,rfl,hi⟩;rintro m tm h nx R ⟨z6,z8,z9,rfl,hi⟩ hR;exact step m z6 z8 z9 h nx R hi fun m' w6 w8 w9 h' nx' hlt hi'=>hR m' _ h' nx' hlt ⟨_,_,_,rfl,hi'⟩
theorem F66.zl4:IR.run F66.t23 C N O K (F66.fr a b d e c f i o p s) h nx =
 C.fn 99 (.of 99) [f] h nx fun v1 h2 n3=>K (F66.fr a b v1 (I 0) c f i o p s) h2 n3:=by kernel_rfl
theorem F66.tab:T.get none (.of 66) tbl=some F66:=by kernel_rfl
theorem F66.bind (k:T AV->OP):zX F66.params [a0] F66.init k=k (F66.fr a0 .undef .undef .undef .undef .undef .undef .undef .undef .undef):=by kernel_rfl
theorem F66.jg:F66.body=F66.t28:=by kernel_rfl
theorem F66.go:zW tbl N C (.of 66) [a0] h nx K0=IR.run F66.t28 C N (fnO F66.res K0) (jv F66.res K0) (F66.fr a0 .undef .undef .undef .undef .undef .undef .undef .undef .undef) h nx:=by
 rw [zL F66.tab,F66.bind,F66.jg];kernel_rfl
theorem F66.ret:jv F66.res K0 (F66.fr a b d e c f i o p s) h nx=K0 (.tup [d,e]) h nx:=by kernel_rfl
def F67.t0:IR:=.reg [.w (.loc (.of 1)) none (.box (.t (.of 0))),.q (.of 2) (.mv (.c .zf)),.q (.of 3) (.mv (.c (I 0)))]
def F67.t1:IR:=.reg [.s (.load (.t (.of 1))),.w .push none (.call (.c (.fn 145 (.of 145) [])) [(.s 0)]),.q (.of 4) (.mv (.s 0))]
def F67.t2:IR:=.reg [.s (.mv (.t (.of 4))),.q (.of 8) (.bin .neq .int (.s 0) (.c (I 0)))]
def F67.t3:IR:=.reg [.s (.mv (.t (.of 4))),.q (.of 2) (.mv (.c .zf)),.q (.of 3) (.mv (.s 0))]
def F67.t4:IR:=.seq F67.t3 .ret
def F67.t5:IR:=.cond (.t (.of 8)) F67.t4 .skip
def F67.t6:IR:=.seq F67.t2 F67.t5
def F67.t7:IR:=.seq F67.t1 F67.t6
def F67.t8:IR:=.reg [.w .push none .fH,.q (.of 5) (.mv (.s 0))]
def F67.t9:IR:=.reg [.q (.of 9) (.load (.t (.of 1))),.q (.of 10) (.mv (.c (I 0)))]
def F67.t10:IR:=.reg [.q (.of 11) (.bin .lss .int (.t (.of 10)) (.t (.of 9)))]
def F67.t11:IR:=.cond (.t (.of 11)) .skip (.exit 0)
def F67.t12:IR:=.reg [.s (.mv (.t (.of 10))),.w (.loc (.of 6)) none (.alloc [(I 0)]),.w .none none (.store 1 (.t (.of 6)) (.s 0))]
def F67.t13:IR:=.reg [.q (.of 12) (.load (.t (.of 1))),.q (.of 13) (.mv (.c (I 0)))]
def F67.t14:IR:=.reg [.q (.of 14) (.bin .lss .int (.t (.of 13)) (.t (.of 12)))]
def F67.t15:IR:=.cond (.t (.of 14)) .skip (.exit 2)
def F67.t16:IR:=.reg [.s (.mv (.t (.of 13))),.w (.loc (.of 7)) none (.alloc [(I 0)]),.w .none none (.store 1 (.t (.of 7)) (.s 0))]
def F67.t17:IR:=.reg [.s (.mv (.t (.of 5))),.s (.load (.t (.of 1))),.s (.fn 148 (.of 148) [(.t (.of 6)),(.t (.of 1)),(.t (.of 7))]),.w .push none (.call (.c (.fn 146 (.of 146) [])) [(.s 2),(.s 1),(.s 0)])]
def F67.t18:IR:=.seq F67.t16 F67.t17
def F67.t19:IR:=.block 3 F67.t18
def F67.t20:IR:=.reg [.s (.bin .add .int (.t (.of 13)) (.c (I 1))),.q (.of 13) (.mv (.s 0))]
def F67.t21:IR:=.seq F67.t19 F67.t20
def F67.t22:IR:=.seq F67.t15 F67.t21
def F67.t23:IR:=.seq F67.t14 F67.t22
def F67.t24:IR:=.loop F67.t23
def F67.t25:IR:=.block 2 F67.t24
def F67.t26:IR:=.seq F67.t13 F67.t25
def F67.t27:IR:=.seq F67.t12 F67.t26
def F67.t28:IR:=.block 1 F67.t27
def F67.t29:IR:=.reg [.s (.bin .add .int (.t (.of 10)) (.c (I 1))),.q (.of 10) (.mv (.s 0))]
def F67.t30:IR:=.seq F67.t28 F67.t29
def F67.t31:IR:=.seq F67.t11 F67.t30
def F67.t32:IR:=.seq F67.t10 F67.t31
def F67.t33:IR:=.loop F67.t32
def F67.t34:IR:=.block 0 F67.t33
def F67.t35:IR:=.seq F67.t9 F67.t34
def F67.t36:IR:=.reg [.s (.mv (.t (.of 5))),.w .push none (.call (.c (.fn 99 (.of 99) [])) [(.s 0)]),.q (.of 2) (.mv (.s 0)),.q (.of 3) (.mv (.c (I 0)))]
def F67.t37:IR:=.seq F67.t36 .ret
def F67.t38:IR:=.seq F67.t35 F67.t37
def F67.t39:IR:=.seq F67.t8 F67.t38
def F67.t40:IR:=.seq F67.t7 F67.t39
def F67.t41:IR:=.seq F67.t0 F67.t40
theorem F67.wo:IR.run F67.t0 C N O K (F67.fr a b d e c f i o p s g l q u v) h nx =
 ak a h nx fun v1 h2 n3=>K (F67.fr a v1 .zf (I 0) c f i o p s g l q u v) h2 n3:=by kernel_rfl
theorem F67.wu:IR.run F67.t1 C N O K (F67.fr a b d e c f i o p s g l q u v) h nx =
 zD b h fun v1=>C.fn 145 (.of 145) [v1] h nx fun v2 h3 n4=>K (F67.fr a b d e v2 f i o p s g l q u v) h3 n4:=by kernel_rfl
theorem F67.dw:IR.run F67.t2 C N O K (F67.fr a b d e c f i o p s g l q u v) h nx =
 zu .neq .int c (I 0) fun v1=>K (F67.fr a b d e c f i o v1 s g l q u v) h nx:=by kernel_rfl
theorem F67.rF:IR.run F67.t3 C N O K (F67.fr a b d e c f i o p s g l q u v) h nx =
 K (F67.fr a b .zf c c f i o p s g l q u v) h nx:=by kernel_rfl
theorem F67.v8:Arg.ev (.t (.of 8)) ⟨(F67.fr a b d e c f i o p s g l q u v),[]⟩=p:=by kernel_rfl
theorem F67.sV:IR.run F67.t8 C N O K (F67.fr a b d e c f i o p s g l q u v) h nx =
 xV h nx fun v1 h2 n3=>K (F67.fr a b d e c v1 i o p s g l q u v) h2 n3:=by kernel_rfl
theorem F67.au:IR.run F67.t9 C N O K (F67.fr a b d e c f i o p s g l q u v) h nx =
 zD b h fun v1=>K (F67.fr a b d e c f i o p v1 (I 0) l q u v) h nx:=by kernel_rfl
theorem F67.fG:IR.run F67.t10 C N O K (F67.fr a b d e c f i o p s g l q u v) h nx =
 zu .lss .int g s fun v1=>K (F67.fr a b d e c f i o p s g v1 q u v) h nx:=by kernel_rfl
theorem F67.v11:Arg.ev (.t (.of 11)) ⟨(F67.fr a b d e c f i o p s g l q u v),[]⟩=l:=by kernel_rfl
theorem F67.tH:IR.run F67.t12 C N O K (F67.fr a b d e c f i o p s g l q u v) h nx =
 yI [(I 0)] h nx fun v1 h2 n3=>zO 1 v1 g h2 n3 fun v4 h5 n6=>K (F67.fr a b d e c f v1 o p s g l q u v) h5 n6:=by kernel_rfl
theorem F67.zak:IR.run F67.t13 C N O K (F67.fr a b d e c f i o p s g l q u v) h nx =
 zD b h fun v1=>K (F67.fr a b d e c f i o p s g l v1 (I 0) v) h nx:=by kernel_rfl
theorem F67.rC:IR.run F67.t14 C N O K (F67.fr a b d e c f i o p s g l q u v) h nx =
 zu .lss .int u q fun v1=>K (F67.fr a b d e c f i o p s g l q u v1) h nx:=by kernel_rfl
theorem F67.v14:Arg.ev (.t (.of 14)) ⟨(F67.fr a b d e c f i o p s g l q u v),[]⟩=v:=by kernel_rfl
theorem F67.sQ:IR.run F67.t16 C N O K (F67.fr a b d e c f i o p s g l q u v) h nx =
 yI [(I 0)] h nx fun v1 h2 n3=>zO 1 v1 u h2 n3 fun v4 h5 n6=>K (F67.fr a b d e c f i v1 p s g l q u v) h5 n6:=by kernel_rfl
theorem F67.zai:IR.run F67.t17 C N O K (F67.fr a b d e c f i o p s g l q u v) h nx =
 zD b h fun v1=>C.fn 146 (.of 146) [f,v1,(.fn 148 (.of 148) [i,b,o])] h nx fun v2 h3 n4=>K (F67.fr a b d e c f i o p s g l q u v) h3 n4:=by kernel_rfl
theorem F67.ze0:IR.run F67.t20 C N O K (F67.fr a b d e c f i o p s g l q u v) h nx =
 zu .add .int u (I 1) fun v1=>K (F67.fr a b d e c f i o p s g l q v1 v) h nx:=by kernel_rfl
theorem F67.zvl (Inv:Nat->AV->T Blk->Pa->Prop) {m:Nat} (hm:m<N) (hi:Inv m u h nx)
  (step:∀ (m:Nat) (z7 zE zS:AV) (h:T Blk) (nx:Pa) (R:Ks Prop),Inv m zE h nx->(∀ (m':Nat) (w7 wE wP:AV) (h':T Blk) (nx':Pa),m'<m->Inv m' wE h' nx'->R (F67.fr a b d e c f i w7 p s g l q wE wP) h' nx'=.ok True)->IR.run F67.t23 C N O R (F67.fr a b d e c f i z7 p s g l q zE zS) h nx=.ok True) :
  IR.run F67.t24 C N O K (F67.fr a b d e c f i o p s g l q u v) h nx=.ok True:=by
 rw [F67.t24];refine yJ (fun m tm h nx=>∃ z7 zE zS,tm=(F67.fr a b d e c f i z7 p s g l q zE zS)/\Inv m zE h nx) ?_ hm ⟨_,_,_,rfl,hi⟩;rintro m tm h nx R ⟨z7,zE,zS,rfl,hi⟩ hR;exact step m z7 zE zS h nx R hi fun m' w7 wE wP h' nx' hlt hi'=>hR m' _ h' nx' hlt ⟨_,_,_,rfl,hi'⟩
theorem F67.zvm:IR.run F67.t29 C N O K (F67.fr a b d e c f i o p s g l q u v) h nx =
 zu .add .int g (I 1) fun v1=>K (F67.fr a b d e c f i o p s v1 l q u v) h nx:=by kernel_rfl
theorem F67.zvn (Inv:Nat->AV->T Blk->Pa->Prop) {m:Nat} (hm:m<N) (hi:Inv m g h nx)
  (step:∀ (m:Nat) (z6 z7 zA zB zC zE zS:AV) (h:T Blk) (nx:Pa) (R:Ks Prop),Inv m zA h nx->(∀ (m':Nat) (w6 w7 wA wC wD wE wP:AV) (h':T Blk) (nx':Pa),m'<m->Inv m' wA h' nx'->R (F67.fr a b d e c f w6 w7 p s wA wC wD wE wP) h' nx'=.ok True)->IR.run F67.t32 C N O R (F67.fr a b d e c f z6 z7 p s zA zB zC zE zS) h nx=.ok True) :
  IR.run F67.t33 C N O K (F67.fr a b d e c f i o p s g l q u v) h nx=.ok True:=by
 rw [F67.t33];refine yJ (fun m tm h nx=>∃ z6 z7 zA zB zC zE zS,tm=(F67.fr a b d e c f z6 z7 p s zA zB zC zE zS)/\Inv m zA h nx) ?_ hm ⟨_,_,_,_,_,_,_,rfl,hi⟩;rintro m tm h nx R ⟨z6,z7,zA,zB,zC,zE,zS,rfl,hi⟩ hR;exact step m z6 z7 zA zB zC zE zS h nx R hi fun m' w6 w7 wA wC wD wE wP h' nx' hlt hi'=>hR m' _ h' nx' hlt ⟨_,_,_,_,_,_,_,rfl,hi'⟩
theorem F67.zvo:IR.run F67.t36 C N O K (F67.fr a b d e c f i o p s g l q u v) h nx =
 C.fn 99 (.of 99) [f] h nx fun v1 h2 n3=>K (F67.fr a b v1 (I 0) c f i o p s g l q u v) h2 n3:=by kernel_rfl
theorem F67.tab:T.get none (.of 67) tbl=some F67:=by kernel_rfl
theorem F67.bind (k:T AV->OP):zX F67.params [a0] F67.init k=k (F67.fr a0 .undef .undef .undef .undef .undef .undef .undef .undef .undef .undef .undef .undef .undef .undef):=by kernel_rfl
theorem F67.jg:F67.body=F67.t41:=by kernel_rfl
theorem F67.go:zW tbl N C (.of 67) [a0] h nx K0=IR.run F67.t41 C N (fnO F67.res K0) (jv F67.res K0) (F67.fr a0 .undef .undef .undef .undef .undef .undef .undef .undef .undef .undef .undef .undef .undef .undef) h nx:=by
 rw [zL F67.tab,F67.bind,F67.jg];kernel_rfl
theorem F67.ret:jv F67.res K0 (F67.fr a b d e c f i o p s g l q u v) h nx=K0 (.tup [d,e]) h nx:=by kernel_rfl
def F68.t0:IR:=.reg [.w (.loc (.of 1)) none (.box (.t (.of 0))),.q (.of 2) (.mv (.c .zf)),.q (.of 3) (.mv (.c (I 0)))]
def F68.t1:IR:=.yw [] [(.s (.load (.t (.of 1))),0,[]),(.s (.load (.t (.of 1))),1,[]),(.s (.bin .geq .int (.s 0) (.c (I 10))),1,[]),(.w .push none (.call (.c (.fn 145 (.of 145) [])) [(.s 2)]),0,[]),(.w .push none (.call (.c (.fn 96 (.of 96) [])) [(.s 1),(.c (I 5))]),0,[]),(.w .push none (.zx 1 2 [(I 0)] [(0,1,(.s 1)),(1,1,(.s 0))]),0,[]),(.w .push none (.call (.c (.fn 94 (.of 94) [])) [(.s 0)]),0,[]),(.q (.of 4) (.mv (.s 0)),0,[])]
def F68.t2:IR:=.reg [.s (.mv (.t (.of 4))),.q (.of 9) (.bin .neq .int (.s 0) (.c (I 0)))]
def F68.t3:IR:=.reg [.s (.mv (.t (.of 4))),.q (.of 2) (.mv (.c .zf)),.q (.of 3) (.mv (.s 0))]
def F68.t4:IR:=.seq F68.t3 .ret
def F68.t5:IR:=.cond (.t (.of 9)) F68.t4 .skip
def F68.t6:IR:=.seq F68.t2 F68.t5
def F68.t7:IR:=.seq F68.t1 F68.t6
def F68.t8:IR:=.reg [.w .push none .fH,.w (.loc (.of 5)) none (.alloc [.gq]),.w .none none (.store 1 (.t (.of 5)) (.s 0))]
def F68.t9:IR:=.reg [.s (.load (.t (.of 1))),.w .push none (.uf 1 8 [(I 0)] (.s 0) (.s 0)),.w (.loc (.of 6)) none (.alloc [.zf]),.w .none none (.store 1 (.t (.of 6)) (.s 0))]
def F68.t10:IR:=.reg [.s (.load (.t (.of 1))),.w .push none (.uf 1 1 [(.bool false)] (.s 0) (.s 0)),.w (.loc (.of 7)) none (.alloc [.zf]),.w .none none (.store 1 (.t (.of 7)) (.s 0))]
def F68.t11:IR:=.reg [.w (.loc (.of 8)) none (.alloc [.sF])]
def F68.t12:IR:=.reg [.s (.fn 149 (.of 149) [(.t (.of 1)),(.t (.of 5)),(.t (.of 6)),(.t (.of 7)),(.t (.of 8))]),.w .none none (.store 1 (.t (.of 8)) (.s 0))]
def F68.t13:IR:=.reg [.s (.load (.t (.of 8))),.w .push none (.call (.s 0) [(.c (I 0))])]
def F68.t14:IR:=.reg [.s (.load (.t (.of 5))),.w .push none (.call (.c (.fn 99 (.of 99) [])) [(.s 0)]),.q (.of 2) (.mv (.s 0)),.q (.of 3) (.mv (.c (I 0)))]
def F68.t15:IR:=.seq F68.t14 .ret
def F68.t16:IR:=.seq F68.t13 F68.t15
def F68.t17:IR:=.seq F68.t12 F68.t16
def F68.t18:IR:=.seq F68.t11 F68.t17
def F68.t19:IR:=.seq F68.t10 F68.t18
def F68.t20:IR:=.seq F68.t9 F68.t19
def F68.t21:IR:=.seq F68.t8 F68.t20
def F68.t22:IR:=.seq F68.t7 F68.t21
def F68.t23:IR:=.seq F68.t0 F68.t22
theorem F68.wo:IR.run F68.t0 C N O K (F68.fr a b d e c f i o p s) h nx =
 ak a h nx fun v1 h2 n3=>K (F68.fr a v1 .zf (I 0) c f i o p s) h2 n3:=by kernel_rfl
theorem F68.wu:IR.run F68.t1 C N O K (F68.fr a b d e c f i o p s) h nx =
 zD b h fun v1=>zD b h fun v2=>zu .geq .int v2 (I 10) fun v3=>C.fn 145 (.of 145) [v1] h nx fun v4 h5 n6=>(zu .geq .int v2 (I 10) fun vF=>zJ vF v3 ((zD b h5 fun vE=>zJ vE v2 (C.fn 96 (.of 96) [v3,(I 5)] h5 n6 fun v7 h8 n9=>yX 1 2 [(I 0)] [(0,1,v4),(1,1,v7)] h8 n9 fun vA hD nE=>C.fn 94 (.of 94) [vA] hD nE fun vO hE nF=>K (F68.fr a b d e vO f i o p s) hE nF)))):=by kernel_rfl
theorem F68.dw:IR.run F68.t2 C N O K (F68.fr a b d e c f i o p s) h nx =
 zu .neq .int c (I 0) fun v1=>K (F68.fr a b d e c f i o p v1) h nx:=by kernel_rfl
theorem F68.rF:IR.run F68.t3 C N O K (F68.fr a b d e c f i o p s) h nx =
 K (F68.fr a b .zf c c f i o p s) h nx:=by kernel_rfl
theorem F68.v9:Arg.ev (.t (.of 9)) ⟨(F68.fr a b d e c f i o p s),[]⟩=s:=by kernel_rfl
theorem F68.sV:IR.run F68.t8 C N O K (F68.fr a b d e c f i o p s) h nx =
 xV h nx fun v1 h2 n3=>yI [.gq] h2 n3 fun v4 h5 n6=>zO 1 v4 v1 h5 n6 fun v7 h8 n9=>K (F68.fr a b d e c v4 i o p s) h8 n9:=by kernel_rfl
theorem F68.au:IR.run F68.t9 C N O K (F68.fr a b d e c f i o p s) h nx =
 zD b h fun v1=>gS 1 8 [(I 0)] v1 v1 h nx fun v2 h3 n4=>yI [.zf] h3 n4 fun v5 h6 n7=>zO 1 v5 v2 h6 n7 fun v8 h9 nD=>K (F68.fr a b d e c f v5 o p s) h9 nD:=by kernel_rfl
theorem F68.fG:IR.run F68.t10 C N O K (F68.fr a b d e c f i o p s) h nx =
 zD b h fun v1=>gS 1 1 [(.bool false)] v1 v1 h nx fun v2 h3 n4=>yI [.zf] h3 n4 fun v5 h6 n7=>zO 1 v5 v2 h6 n7 fun v8 h9 nD=>K (F68.fr a b d e c f i v5 p s) h9 nD:=by kernel_rfl
theorem F68.zaj:IR.run F68.t11 C N O K (F68.fr a b d e c f i o p s) h nx =
 yI [.sF] h nx fun v1 h2 n3=>K (F68.fr a b d e c f i o v1 s) h2 n3:=by kernel_rfl
theorem F68.tH:IR.run F68.t12 C N O K (F68.fr a b d e c f i o p s) h nx =
 zO 1 p (.fn 149 (.of 149) [b,f,i,o,p]) h nx fun v1 h2 n3=>K (F68.fr a b d e c f i o p s) h2 n3:=by kernel_rfl
theorem F68.zak:IR.run F68.t13 C N O K (F68.fr a b d e c f i o p s) h nx =
 zD p h fun v1=>zav C v1 [(I 0)] h nx fun v2 h3 n4=>K (F68.fr a b d e c f i o p s) h3 n4:=by kernel_rfl
theorem F68.rC:IR.run F68.t14 C N O K (F68.fr a b d e c f i o p s) h nx =
 zD f h fun v1=>C.fn 99 (.of 99) [v1] h nx fun v2 h3 n4=>K (F68.fr a b v2 (I 0) c f i o p s) h3 n4:=by kernel_rfl
theorem F68.tab:T.get none (.of 68) tbl=some F68:=by kernel_rfl
theorem F68.bind (k:T AV->OP):zX F68.params [a0] F68.init k=k (F68.fr a0 .undef .undef .undef .undef .undef .undef .undef .undef .undef):=by kernel_rfl
theorem F68.jg:F68.body=F68.t23:=by kernel_rfl
theorem F68.go:zW tbl N C (.of 68) [a0] h nx K0=IR.run F68.t23 C N (fnO F68.res K0) (jv F68.res K0) (F68.fr a0 .undef .undef .undef .undef .undef .undef .undef .undef .undef) h nx:=by
 rw [zL F68.tab,F68.bind,F68.jg];kernel_rfl
theorem F68.ret:jv F68.res K0 (F68.fr a b d e c f i o p s) h nx=K0 (.tup [d,e]) h nx:=by kernel_rfl
def xk.t0:IR:=.reg [.q (.of 1) (.mv (.c (I 0)))]
def xk.t1:IR:=.reg [.s (.mv (.t (.of 0))),.s (.bin .lss .int (.s 0) (.c (I 1))),.s (.mv (.s 0)),.p .push (some ((.s 0),false)) (.mv (.t (.of 0))),.p .push (some ((.s 1),false)) (.bin .gtr .int (.s 0) (.c (I 16))),.s (.pick (.s 2) (.c (.bool true)) (.s 0)),.w .push none (.call (.c (.fn 96 (.of 96) [])) [(.s 0),(.c (I 3))]),.q (.of 1) (.mv (.s 0))]
def xk.t2:IR:=.seq xk.t1 .ret
def xk.t3:IR:=.seq xk.t0 xk.t2
theorem xk.wo:IR.run xk.t0 C N O K (xk.fr a b) h nx =
 K (xk.fr a (I 0)) h nx:=by kernel_rfl
theorem xk.wu:IR.run xk.t1 C N O K (xk.fr a b) h nx =
 zu .lss .int a (I 1) fun v1=>sG v1 false (fun k=>k a) fun v2=>sG v1 false (fun k=>zu .gtr .int v2 (I 16) k) fun v3=>jI v1 (.bool true) v3 fun v4=>C.fn 96 (.of 96) [v4,(I 3)] h nx fun v5 h6 n7=>K (xk.fr a v5) h6 n7:=by kernel_rfl
theorem xk.tab:T.get none (.of 145) tbl=some xk:=by kernel_rfl
theorem xk.bind (k:T AV->OP):zX xk.params [a0] xk.init k=k (xk.fr a0 .undef):=by kernel_rfl
theorem xk.jg:xk.body=xk.t3:=by kernel_rfl
theorem xk.go:zW tbl N C (.of 145) [a0] h nx K0=IR.run xk.t3 C N (fnO xk.res K0) (jv xk.res K0) (xk.fr a0 .undef) h nx:=by
 rw [zL xk.tab,xk.bind,xk.jg];kernel_rfl
theorem xk.ret:jv xk.res K0 (xk.fr a b) h nx=K0 b h nx:=by kernel_rfl
def yu.t0:IR:=.reg [.s (.mv (.t (.of 1))),.s (.mv (.t (.of 1))),.s (.bin .mul .int (.s 1) (.s 0)),.w .push none (.uf 1 8 [(I 0)] (.s 0) (.s 0)),.s (.build [.zf,(.bool false)] [(0,1,(.s 0))]),.w (.loc (.of 3)) none (.alloc [.zf,(.bool false)]),.w .none none (.store 2 (.t (.of 3)) (.s 0))]
def yu.t1:IR:=.reg [.s (.zy 0 (.t (.of 3))),.s (.load (.s 0)),.q (.of 7) (.len (.s 0)),.q (.of 8) (.mv (.c (I 0)))]
def yu.t2:IR:=.reg [.q (.of 9) (.bin .lss .int (.t (.of 8)) (.t (.of 7)))]
def yu.t3:IR:=.cond (.t (.of 9)) .skip (.exit 0)
def yu.t4:IR:=.reg [.s (.mv (.t (.of 8))),.q (.of 4) (.mv (.s 0))]
def yu.t5:IR:=.yw [] [(.s (.mv (.t (.of 2))),0,[]),(.s (.mv (.t (.of 4))),0,[]),(.s (.mv (.t (.of 1))),0,[]),(.s (.bin .quo .int (.s 1) (.s 0)),0,[]),(.s (.mv (.t (.of 4))),0,[]),(.s (.mv (.t (.of 1))),0,[]),(.s (.bin .rem .int (.s 1) (.s 0)),0,[]),(.w .push none (.call (.s 6) [(.s 3),(.s 0)]),0,[]),(.s (.mv (.s 0)),0,[]),(.s (.ext 0 (.s 0)),0,[]),(.s (.ext 1 (.s 1)),0,[]),(.q (.of 5) (.mv (.s 1)),0,[]),(.q (.of 6) (.mv (.s 0)),0,[])]
def yu.t6:IR:=.reg [.s (.zy 0 (.t (.of 3))),.s (.load (.s 0)),.s (.mv (.t (.of 4))),.s (.mv (.t (.of 1))),.s (.mv (.t (.of 5))),.s (.bin .mul .int (.s 1) (.s 0)),.s (.mv (.t (.of 6))),.s (.bin .add .int (.s 1) (.s 0)),.s (.zo 1 (.s 6) (.s 5)),.w .none none (.store 1 (.s 0) (.s 1))]
def yu.t7:IR:=.seq yu.t5 yu.t6
def yu.t8:IR:=.seq yu.t4 yu.t7
def yu.t9:IR:=.block 1 yu.t8
def yu.t10:IR:=.reg [.s (.bin .add .int (.t (.of 8)) (.c (I 1))),.q (.of 8) (.mv (.s 0))]
def yu.t11:IR:=.seq yu.t9 yu.t10
def yu.t12:IR:=.seq yu.t3 yu.t11
def yu.t13:IR:=.seq yu.t2 yu.t12
def yu.t14:IR:=.loop yu.t13
def yu.t15:IR:=.block 0 yu.t14
def yu.t16:IR:=.seq yu.t1 yu.t15
def yu.t17:IR:=.yw [] [(.s (.mv (.t (.of 0))),1,[]),(.s (.zh 2 (.t (.of 3))),0,[]),(.s (.zh 2 (.t (.of 3))),1,[]),(.w .push none (.call (.c (.fn 123 (.of 123) [])) [(.s 1)]),0,[]),(.w .none none (.zaa .str (.s 3) (.s 0) (.s 1)),0,[])]
def yu.t18:IR:=.seq yu.t16 yu.t17
def yu.t19:IR:=.seq yu.t0 yu.t18
theorem yu.wo:IR.run yu.t0 C N O K (yu.fr a b d e c f i o p s) h nx =
 zu .mul .int b b fun v1=>gS 1 8 [(I 0)] v1 v1 h nx fun v2 h3 n4=>qJ [.zf,(.bool false)] [(0,1,v2)] fun v5=>yI [.zf,(.bool false)] h3 n4 fun v6 h7 n8=>zO 2 v6 v5 h7 n8 fun v9 hU nU=>K (yu.fr a b d v6 c f i o p s) hU nU:=by kernel_rfl
theorem yu.wu:IR.run yu.t1 C N O K (yu.fr a b d e c f i o p s) h nx =
 yC 0 e fun v1=>zD v1 h fun v2=>sLen v2 fun v3=>K (yu.fr a b d e c f i v3 (I 0) s) h nx:=by kernel_rfl
theorem yu.dw:IR.run yu.t2 C N O K (yu.fr a b d e c f i o p s) h nx =
 zu .lss .int p o fun v1=>K (yu.fr a b d e c f i o p v1) h nx:=by kernel_rfl
theorem yu.v9:Arg.ev (.t (.of 9)) ⟨(yu.fr a b d e c f i o p s),[]⟩=s:=by kernel_rfl
theorem yu.t4_s:IR.run yu.t4 C N O K (yu.fr a b d e c f i o p s) h nx =
 K (yu.fr a b d e p f i o p s) h nx:=by kernel_rfl
theorem yu.t5_s:IR.run yu.t5 C N O K (yu.fr a b d e c f i o p s) h nx =
 zu .quo .int c b fun v1=>zu .rem .int c b fun v2=>zav C d [v1,v2] h nx fun v3 h4 n5=>bY 0 v3 fun v6=>bY 1 v3 fun v7=>K (yu.fr a b d e c v6 v7 o p s) h4 n5:=by kernel_rfl
theorem yu.aI:IR.run yu.t6 C N O K (yu.fr a b d e c f i o p s) h nx =
 yC 0 e fun v1=>zD v1 h fun v2=>zu .mul .int b f fun v3=>zu .add .int v3 i fun v4=>yB 1 v2 c fun v5=>zO 1 v5 v4 h nx fun v6 h7 n8=>K (yu.fr a b d e c f i o p s) h7 n8:=by kernel_rfl
theorem yu.fG:IR.run yu.t10 C N O K (yu.fr a b d e c f i o p s) h nx =
 zu .add .int p (I 1) fun v1=>K (yu.fr a b d e c f i o v1 s) h nx:=by kernel_rfl
theorem yu.zvp (Inv:Nat->AV->T Blk->Pa->Prop) {m:Nat} (hm:m<N) (hi:Inv m p h nx)
  (step:∀ (m:Nat) (z4 z5 z6 z8 z9:AV) (h:T Blk) (nx:Pa) (R:Ks Prop),Inv m z8 h nx->(∀ (m':Nat) (w4 w5 w6 w8 w9:AV) (h':T Blk) (nx':Pa),m'<m->Inv m' w8 h' nx'->R (yu.fr a b d e w4 w5 w6 o w8 w9) h' nx'=.ok True)->IR.run yu.t13 C N O R (yu.fr a b d e z4 z5 z6 o z8 z9) h nx=.ok True) :
  IR.run yu.t14 C N O K (yu.fr a b d e c f i o p s) h nx=.ok True:=by
 rw [yu.t14];refine yJ (fun m tm h nx=>∃ z4 z5 z6 z8 z9,tm=(yu.fr a b d e z4 z5 z6 o z8 z9)/\Inv m z8 h nx) ?_ hm ⟨_,_,_,_,_,rfl,hi⟩;rintro m tm h nx R ⟨z4,z5,z6,z8,z9,rfl,hi⟩ hR;exact step m z4 z5 z6 z8 z9 h nx R hi fun m' w4 w5 w6 w8 w9 h' nx' hlt hi'=>hR m' _ h' nx' hlt ⟨_,_,_,_,_,rfl,hi'⟩
theorem yu.zai:IR.run yu.t17 C N O K (yu.fr a b d e c f i o p s) h nx =
 zM 2 e h fun v1=>zM 2 e h fun v2=>C.fn 123 (.of 123) [v1] h nx fun v3 h4 n5=>(zM 2 e h4 fun v9=>zJ v9 v2 (zJ a a (xW .str a v3 v2 h4 n5 fun v6 h7 n8=>K (yu.fr a b d e c f i o p s) h7 n8))):=by kernel_rfl
theorem yu.tab:T.get none (.of 146) tbl=some yu:=by kernel_rfl
theorem yu.bind (k:T AV->OP):zX yu.params [a0,a1,a2] yu.init k=k (yu.fr a0 a1 a2 .undef .undef .undef .undef .undef .undef .undef):=by kernel_rfl
theorem yu.jg:yu.body=yu.t19:=by kernel_rfl
theorem yu.go:zW tbl N C (.of 146) [a0,a1,a2] h nx K0=IR.run yu.t19 C N (fnO yu.res K0) (jv yu.res K0) (yu.fr a0 a1 a2 .undef .undef .undef .undef .undef .undef .undef) h nx:=by
 rw [zL yu.tab,yu.bind,yu.jg];kernel_rfl
theorem yu.ret:jv yu.res K0 (yu.fr a b d e c f i o p s) h nx=K0 (.tup []) h nx:=by kernel_rfl
def yx.t0:IR:=.reg [.q (.of 4) (.mv (.c (I 0))),.q (.of 5) (.mv (.c (I 0)))]
def yx.t1:IR:=.reg [.s (.load (.t (.of 2))),.s (.bin .and .int (.s 0) (.c (I 1))),.q (.of 6) (.bin .neq .int (.s 0) (.c (I 0)))]
def yx.t2:IR:=.reg [.s (.load (.t (.of 3))),.s (.bin .sub .int (.s 0) (.c (I 1))),.s (.mv (.t (.of 0))),.s (.bin .sub .int (.s 1) (.s 0)),.q (.of 0) (.mv (.s 0))]
def yx.t3:IR:=.cond (.t (.of 6)) yx.t2 .skip
def yx.t4:IR:=.seq yx.t1 yx.t3
def yx.t5:IR:=.reg [.s (.load (.t (.of 2))),.s (.bin .and .int (.s 0) (.c (I 2))),.q (.of 7) (.bin .neq .int (.s 0) (.c (I 0)))]
def yx.t6:IR:=.reg [.s (.load (.t (.of 3))),.s (.bin .sub .int (.s 0) (.c (I 1))),.s (.mv (.t (.of 1))),.s (.bin .sub .int (.s 1) (.s 0)),.q (.of 1) (.mv (.s 0))]
def yx.t7:IR:=.cond (.t (.of 7)) yx.t6 .skip
def yx.t8:IR:=.seq yx.t5 yx.t7
def yx.t9:IR:=.reg [.s (.load (.t (.of 2))),.s (.bin .and .int (.s 0) (.c (I 4))),.q (.of 8) (.bin .neq .int (.s 0) (.c (I 0)))]
def yx.t10:IR:=.reg [.s (.mv (.t (.of 1))),.s (.mv (.t (.of 0))),.q (.of 4) (.mv (.s 1)),.q (.of 5) (.mv (.s 0))]
def yx.t11:IR:=.seq yx.t10 .ret
def yx.t12:IR:=.cond (.t (.of 8)) yx.t11 .skip
def yx.t13:IR:=.seq yx.t9 yx.t12
def yx.t14:IR:=.reg [.s (.mv (.t (.of 0))),.s (.mv (.t (.of 1))),.q (.of 4) (.mv (.s 1)),.q (.of 5) (.mv (.s 0))]
def yx.t15:IR:=.seq yx.t14 .ret
def yx.t16:IR:=.seq yx.t13 yx.t15
def yx.t17:IR:=.seq yx.t8 yx.t16
def yx.t18:IR:=.seq yx.t4 yx.t17
def yx.t19:IR:=.seq yx.t0 yx.t18
theorem yx.wo:IR.run yx.t0 C N O K (yx.fr a b d e c f i o p) h nx =
 K (yx.fr a b d e (I 0) (I 0) i o p) h nx:=by kernel_rfl
theorem yx.wu:IR.run yx.t1 C N O K (yx.fr a b d e c f i o p) h nx =
 zD d h fun v1=>zu .and .int v1 (I 1) fun v2=>zu .neq .int v2 (I 0) fun v3=>K (yx.fr a b d e c f v3 o p) h nx:=by kernel_rfl
theorem yx.dw:IR.run yx.t2 C N O K (yx.fr a b d e c f i o p) h nx =
 zD e h fun v1=>zu .sub .int v1 (I 1) fun v2=>zu .sub .int v2 a fun v3=>K (yx.fr v3 b d e c f i o p) h nx:=by kernel_rfl
theorem yx.v6:Arg.ev (.t (.of 6)) ⟨(yx.fr a b d e c f i o p),[]⟩=i:=by kernel_rfl
theorem yx.t5_s:IR.run yx.t5 C N O K (yx.fr a b d e c f i o p) h nx =
 zD d h fun v1=>zu .and .int v1 (I 2) fun v2=>zu .neq .int v2 (I 0) fun v3=>K (yx.fr a b d e c f i v3 p) h nx:=by kernel_rfl
theorem yx.aI:IR.run yx.t6 C N O K (yx.fr a b d e c f i o p) h nx =
 zD e h fun v1=>zu .sub .int v1 (I 1) fun v2=>zu .sub .int v2 b fun v3=>K (yx.fr a v3 d e c f i o p) h nx:=by kernel_rfl
theorem yx.v7:Arg.ev (.t (.of 7)) ⟨(yx.fr a b d e c f i o p),[]⟩=o:=by kernel_rfl
theorem yx.au:IR.run yx.t9 C N O K (yx.fr a b d e c f i o p) h nx =
 zD d h fun v1=>zu .and .int v1 (I 4) fun v2=>zu .neq .int v2 (I 0) fun v3=>K (yx.fr a b d e c f i o v3) h nx:=by kernel_rfl
theorem yx.fG:IR.run yx.t10 C N O K (yx.fr a b d e c f i o p) h nx =
 K (yx.fr a b d e b a i o p) h nx:=by kernel_rfl
theorem yx.v8:Arg.ev (.t (.of 8)) ⟨(yx.fr a b d e c f i o p),[]⟩=p:=by kernel_rfl
theorem yx.rC:IR.run yx.t14 C N O K (yx.fr a b d e c f i o p) h nx =
 K (yx.fr a b d e a b i o p) h nx:=by kernel_rfl
theorem yx.tab:T.get none (.of 147) tbl=some yx:=by kernel_rfl
theorem yx.bind (k:T AV->OP):zX yx.params [a0,a1,a2,a3] yx.init k=k (yx.fr a0 a1 a2 a3 .undef .undef .undef .undef .undef):=by kernel_rfl
theorem yx.jg:yx.body=yx.t19:=by kernel_rfl
theorem yx.go:zW tbl N C (.of 147) [a0,a1,a2,a3] h nx K0=IR.run yx.t19 C N (fnO yx.res K0) (jv yx.res K0) (yx.fr a0 a1 a2 a3 .undef .undef .undef .undef .undef) h nx:=by
 rw [zL yx.tab,yx.bind,yx.jg];kernel_rfl
theorem yx.ret:jv yx.res K0 (yx.fr a b d e c f i o p) h nx=K0 (.tup [c,f]) h nx:=by kernel_rfl
def xu.t0:IR:=.reg [.q (.of 5) (.mv (.c (I 0))),.q (.of 6) (.mv (.c (I 0)))]
def xu.t1:IR:=.yw [] [(.s (.mv (.t (.of 0))),0,[]),(.s (.load (.t (.of 2))),0,[]),(.s (.bin .add .int (.s 1) (.s 0)),0,[]),(.s (.load (.t (.of 3))),0,[]),(.s (.bin .rem .int (.s 1) (.s 0)),0,[]),(.s (.mv (.t (.of 1))),0,[]),(.s (.load (.t (.of 4))),0,[]),(.s (.bin .add .int (.s 1) (.s 0)),0,[]),(.s (.load (.t (.of 3))),0,[]),(.s (.bin .rem .int (.s 1) (.s 0)),0,[]),(.q (.of 5) (.mv (.s 5)),0,[]),(.q (.of 6) (.mv (.s 0)),0,[])]
def xu.t2:IR:=.seq xu.t1 .ret
def xu.t3:IR:=.seq xu.t0 xu.t2
theorem xu.wo:IR.run xu.t0 C N O K (xu.fr a b d e c f i) h nx =
 K (xu.fr a b d e c (I 0) (I 0)) h nx:=by kernel_rfl
theorem xu.wu:IR.run xu.t1 C N O K (xu.fr a b d e c f i) h nx =
 zD d h fun v1=>zu .add .int a v1 fun v2=>zD e h fun v3=>zu .rem .int v2 v3 fun v4=>zD c h fun v5=>zu .add .int b v5 fun v6=>zD e h fun v7=>zu .rem .int v6 v7 fun v8=>K (xu.fr a b d e c v4 v8) h nx:=by kernel_rfl
theorem xu.tab:T.get none (.of 148) tbl=some xu:=by kernel_rfl
theorem xu.bind (k:T AV->OP):zX xu.params [a0,a1,a2,a3,a4] xu.init k=k (xu.fr a0 a1 a2 a3 a4 .undef .undef):=by kernel_rfl
theorem xu.jg:xu.body=xu.t3:=by kernel_rfl
theorem xu.go:zW tbl N C (.of 148) [a0,a1,a2,a3,a4] h nx K0=IR.run xu.t3 C N (fnO xu.res K0) (jv xu.res K0) (xu.fr a0 a1 a2 a3 a4 .undef .undef) h nx:=by
 rw [zL xu.tab,xu.bind,xu.jg];kernel_rfl
theorem xu.ret:jv xu.res K0 (xu.fr a b d e c f i) h nx=K0 (.tup [f,i]) h nx:=by kernel_rfl
end
end Go.Ev
namespace Go.Ev
open Go Go.Proofs
set_option maxRecDepth 100000
section
variable {N:Nat} {C:Calls Prop} {K0:Kw Prop} {K:Ks Prop} {h:T Blk} {nx:Pa} {a b d e c f i o p s g l a0 a1 a2 a3 a4 a5:AV} {O:uo Prop} {tm:T AV} {Kt:KTm} {r:List RO} {s0 s1 s2 s3 s4 s5 s6 s7 s8 s9 s10 s11 s12 s13 s14 s15 s16 s17 s18 s19 s20 s21 s22 s23 s24 s25 s26 s27 s28 s29 s30 s31 s32 s33 s34 s35 s36 s37 s38 s39 s40 s41 s42 s43 s44 s45 s46 s47 s48 s49 s50 s51 s52 s53 s54 s55 s56 s57 s58 s59:AV}
def zn.t0:IR:=.reg [.s (.mv (.t (.of 0))),.s (.load (.t (.of 1))),.s (.bin .add .int (.s 0) (.c (I 1))),.s (.bin .quo .int (.s 0) (.c (I 2))),.q (.of 7) (.bin .eql .int (.s 3) (.s 0))]
def zn.t1:IR:=.reg [.s (.load (.t (.of 2))),.s (.load (.t (.of 1))),.s (.fn 150 (.of 150) [(.t (.of 3))]),.w .push none (.call (.c (.fn 146 (.of 146) [])) [(.s 2),(.s 1),(.s 0)])]
def zn.t2:IR:=.seq zn.t1 .ret
def zn.t3:IR:=.cond (.t (.of 7)) zn.t2 .skip
def zn.t4:IR:=.seq zn.t0 zn.t3
def zn.t5:IR:=.reg [.q (.of 8) (.load (.t (.of 1))),.q (.of 9) (.mv (.c (I 0)))]
def zn.t6:IR:=.reg [.q (.of 10) (.bin .lss .int (.t (.of 9)) (.t (.of 8)))]
def zn.t7:IR:=.cond (.t (.of 10)) .skip (.exit 0)
def zn.t8:IR:=.reg [.s (.mv (.t (.of 9))),.q (.of 6) (.mv (.s 0))]
def zn.r5_2:List RO:=.q (.of 11) (.pick (.s 11) (.c (.bool true)) (.s 0))::[]
def zn.r5_1:List RO:=.p .push (some ((.s 3),false)) (.bin .sub .int (.s 0) (.c (I 1)))::.p .push (some ((.s 4),false)) (.bin .eql .int (.s 2) (.s 0))::.p .push (some ((.s 5),false)) (.mv (.t (.of 6)))::.p .push (some ((.s 6),false)) (.bin .mul .int (.c (I 2)) (.s 0))::.p .push (some ((.s 7),false)) (.load (.t (.of 1)))::.p .push (some ((.s 8),false)) (.bin .sub .int (.s 0) (.c (I 1)))::.p .push (some ((.s 9),false)) (.bin .eql .int (.s 2) (.s 0))::.p .push (some ((.s 10),false)) (.bin .neq .bool (.s 5) (.s 0))::zn.r5_2
def zn.r5_0:List RO:=.s (.load (.t (.of 4)))::.s (.mv (.t (.of 6)))::.s (.zo 1 (.s 1) (.s 0))::.s (.load (.s 0))::.s (.mv (.s 0))::.p .push (some ((.s 0),false)) (.mv (.t (.of 0)))::.p .push (some ((.s 1),false)) (.bin .mul .int (.c (I 2)) (.s 0))::.p .push (some ((.s 2),false)) (.load (.t (.of 1)))::zn.r5_1
def zn.t9:IR:=.reg zn.r5_0
def zn.t10:IR:=.cond (.t (.of 11)) (.exit 1) .skip
def zn.t11:IR:=.seq zn.t9 zn.t10
def zn.t12:IR:=.yw [] [(.s (.load (.t (.of 3))),0,[]),(.s (.mv (.t (.of 0))),0,[]),(.s (.load (.t (.of 3))),1,[]),(.s (.load (.t (.of 1))),1,[]),(.s (.bin .sub .int (.s 0) (.c (I 1))),1,[]),(.s (.mv (.t (.of 0))),1,[]),(.s (.bin .sub .int (.s 1) (.s 0)),1,[]),(.s (.mv (.t (.of 6))),0,[]),(.s (.load (.t (.of 1))),1,[]),(.s (.bin .sub .int (.s 0) (.c (I 1))),1,[]),(.s (.mv (.t (.of 6))),1,[]),(.s (.bin .sub .int (.s 1) (.s 0)),1,[]),(.s (.zo 1 (.s 11) (.s 10)),0,[]),(.w .none none (.store 1 (.s 0) (.s 5)),0,[]),(.s (.zo 1 (.s 10) (.s 6)),0,[]),(.w .none none (.store 1 (.s 0) (.s 2)),0,[])]
def zn.t13:IR:=.yw [] [(.s (.load (.t (.of 4))),0,[]),(.s (.mv (.t (.of 6))),0,[]),(.s (.load (.t (.of 4))),1,[]),(.s (.load (.t (.of 1))),1,[]),(.s (.bin .sub .int (.s 0) (.c (I 1))),1,[]),(.s (.mv (.t (.of 6))),1,[]),(.s (.bin .sub .int (.s 1) (.s 0)),1,[]),(.s (.zo 1 (.s 6) (.s 5)),0,[]),(.w .none none (.store 1 (.s 0) (.c (.bool true))),0,[]),(.s (.zo 1 (.s 5) (.s 1)),0,[]),(.w .none none (.store 1 (.s 0) (.c (.bool true))),0,[])]
def zn.t14:IR:=.reg [.s (.load (.t (.of 5))),.s (.mv (.t (.of 0))),.s (.bin .add .int (.s 0) (.c (I 1))),.w .push none (.call (.s 2) [(.s 0)])]
def zn.t15:IR:=.yw [] [(.s (.load (.t (.of 4))),0,[]),(.s (.mv (.t (.of 6))),0,[]),(.s (.load (.t (.of 4))),1,[]),(.s (.load (.t (.of 1))),1,[]),(.s (.bin .sub .int (.s 0) (.c (I 1))),1,[]),(.s (.mv (.t (.of 6))),1,[]),(.s (.bin .sub .int (.s 1) (.s 0)),1,[]),(.s (.zo 1 (.s 6) (.s 5)),0,[]),(.w .none none (.store 1 (.s 0) (.c (.bool false))),0,[]),(.s (.zo 1 (.s 5) (.s 1)),0,[]),(.w .none none (.store 1 (.s 0) (.c (.bool false))),0,[])]
def zn.t16:IR:=.seq zn.t14 zn.t15
def zn.t17:IR:=.seq zn.t13 zn.t16
def zn.t18:IR:=.seq zn.t12 zn.t17
def zn.t19:IR:=.seq zn.t11 zn.t18
def zn.t20:IR:=.seq zn.t8 zn.t19
def zn.t21:IR:=.block 1 zn.t20
def zn.t22:IR:=.reg [.s (.bin .add .int (.t (.of 9)) (.c (I 1))),.q (.of 9) (.mv (.s 0))]
def zn.t23:IR:=.seq zn.t21 zn.t22
def zn.t24:IR:=.seq zn.t7 zn.t23
def zn.t25:IR:=.seq zn.t6 zn.t24
def zn.t26:IR:=.loop zn.t25
def zn.t27:IR:=.block 0 zn.t26
def zn.t28:IR:=.seq zn.t5 zn.t27
def zn.t29:IR:=.seq zn.t4 zn.t28
theorem zn.wo:IR.run zn.t0 C N O K (zn.fr a b d e c f i o p s g l) h nx =
 zD b h fun v1=>zu .add .int v1 (I 1) fun v2=>zu .quo .int v2 (I 2) fun v3=>zu .eql .int a v3 fun v4=>K (zn.fr a b d e c f i v4 p s g l) h nx:=by kernel_rfl
theorem zn.wu:IR.run zn.t1 C N O K (zn.fr a b d e c f i o p s g l) h nx =
 zD d h fun v1=>zD b h fun v2=>C.fn 146 (.of 146) [v1,v2,(.fn 150 (.of 150) [e])] h nx fun v3 h4 n5=>K (zn.fr a b d e c f i o p s g l) h4 n5:=by kernel_rfl
theorem zn.v7:Arg.ev (.t (.of 7)) ⟨(zn.fr a b d e c f i o p s g l),[]⟩=o:=by kernel_rfl
theorem zn.t5_s:IR.run zn.t5 C N O K (zn.fr a b d e c f i o p s g l) h nx =
 zD b h fun v1=>K (zn.fr a b d e c f i o v1 (I 0) g l) h nx:=by kernel_rfl
theorem zn.aI:IR.run zn.t6 C N O K (zn.fr a b d e c f i o p s g l) h nx =
 zu .lss .int s p fun v1=>K (zn.fr a b d e c f i o p s v1 l) h nx:=by kernel_rfl
theorem zn.v10:Arg.ev (.t (.of 10)) ⟨(zn.fr a b d e c f i o p s g l),[]⟩=g:=by kernel_rfl
theorem zn.sV:IR.run zn.t8 C N O K (zn.fr a b d e c f i o p s g l) h nx =
 K (zn.fr a b d e c f s o p s g l) h nx:=by kernel_rfl
theorem zn.au:IR.run zn.t9 C N O K tm h nx=yH zn.r5_0 C ⟨tm,[]⟩ h nx (fun tm h nx=>K tm.v h nx):=wK ..
theorem zn.zax:yH (.s (.load (.t (.of 4)))::.s (.mv (.t (.of 6)))::.s (.zo 1 (.s 1) (.s 0))::.s (.load (.s 0))::.s (.mv (.s 0))::.p .push (some ((.s 0),false)) (.mv (.t (.of 0)))::.p .push (some ((.s 1),false)) (.bin .mul .int (.c (I 2)) (.s 0))::.p .push (some ((.s 2),false)) (.load (.t (.of 1)))::r) C ⟨(zn.fr a b d e c f i o p s g l),[]⟩ h nx Kt =
 zD c h fun v1=>yB 1 v1 i fun v2=>zD v2 h fun v3=>sG v3 false (fun k=>k a) fun v4=>sG v3 false (fun k=>zu .mul .int (I 2) v4 k) fun v5=>sG v3 false (fun k=>zD b h k) fun v6=>yH r C ⟨(zn.fr a b d e c f i o p s g l),v6::v5::v4::v3::v3::v2::i::v1::[]⟩ h nx Kt:=by kernel_rfl
theorem zn.zao:yH (.p .push (some ((.s 3),false)) (.bin .sub .int (.s 0) (.c (I 1)))::.p .push (some ((.s 4),false)) (.bin .eql .int (.s 2) (.s 0))::.p .push (some ((.s 5),false)) (.mv (.t (.of 6)))::.p .push (some ((.s 6),false)) (.bin .mul .int (.c (I 2)) (.s 0))::.p .push (some ((.s 7),false)) (.load (.t (.of 1)))::.p .push (some ((.s 8),false)) (.bin .sub .int (.s 0) (.c (I 1)))::.p .push (some ((.s 9),false)) (.bin .eql .int (.s 2) (.s 0))::.p .push (some ((.s 10),false)) (.bin .neq .bool (.s 5) (.s 0))::r) C ⟨(zn.fr a b d e c f i o p s g l),s0::s1::s2::s3::s4::s5::s6::s7::[]⟩ h nx Kt =
 sG s3 false (fun k=>zu .sub .int s0 (I 1) k) fun v1=>sG s3 false (fun k=>zu .eql .int s1 v1 k) fun v2=>sG s3 false (fun k=>k i) fun v3=>sG s3 false (fun k=>zu .mul .int (I 2) v3 k) fun v4=>sG s3 false (fun k=>zD b h k) fun v5=>sG s3 false (fun k=>zu .sub .int v5 (I 1) k) fun v6=>sG s3 false (fun k=>zu .eql .int v4 v6 k) fun v7=>sG s3 false (fun k=>zu .neq .bool v2 v7 k) fun v8=>yH r C ⟨(zn.fr a b d e c f i o p s g l),v8::v7::v6::v5::v4::v3::v2::v1::s0::s1::s2::s3::s4::s5::s6::s7::[]⟩ h nx Kt:=by kernel_rfl
theorem zn.zaq:yH (.q (.of 11) (.pick (.s 11) (.c (.bool true)) (.s 0))::[]) C ⟨(zn.fr a b d e c f i o p s g l),s0::s1::s2::s3::s4::s5::s6::s7::s8::s9::s10::s11::s12::s13::s14::s15::[]⟩ h nx Kt =
 jI s11 (.bool true) s0 fun v1=>Kt ⟨(zn.fr a b d e c f i o p s g v1),s0::s1::s2::s3::s4::s5::s6::s7::s8::s9::s10::s11::s12::s13::s14::s15::[]⟩ h nx:=by kernel_rfl
theorem zn.v11:Arg.ev (.t (.of 11)) ⟨(zn.fr a b d e c f i o p s g l),[]⟩=l:=by kernel_rfl
theorem zn.tH:IR.run zn.t12 C N O K (zn.fr a b d e c f i o p s g l) h nx =
 zD e h fun v1=>zD e h fun v2=>zD b h fun v3=>zu .sub .int v3 (I 1) fun v4=>zu .sub .int v4 a fun v5=>zD b h fun v6=>zu .sub .int v6 (I 1) fun v7=>zu .sub .int v7 i fun v8=>yB 1 v1 a fun v9=>zO 1 v9 i h nx fun vA hD nE=>(zu .sub .int v7 i fun vL=>zJ vL v8 (zJ i i ((zu .sub .int v6 (I 1) fun vK=>zJ vK v7 ((zD b hD fun vJ=>zJ vJ v6 ((zu .sub .int v4 a fun vI=>zJ vI v5 (zJ a a ((zu .sub .int v3 (I 1) fun vH=>zJ vH v4 ((zD b hD fun vG=>zJ vG v3 ((zD e hD fun vF=>zJ vF v2 (yB 1 v2 v5 fun vO=>zO 1 vO v8 hD nE fun vC hI nJ=>K (zn.fr a b d e c f i o p s g l) hI nJ)))))))))))))))):=by kernel_rfl
theorem zn.zak:IR.run zn.t13 C N O K (zn.fr a b d e c f i o p s g l) h nx =
 zD c h fun v1=>zD c h fun v2=>zD b h fun v3=>zu .sub .int v3 (I 1) fun v4=>zu .sub .int v4 i fun v5=>yB 1 v1 i fun v6=>zO 1 v6 (.bool true) h nx fun v7 h8 n9=>(zu .sub .int v4 i fun vF=>zJ vF v5 (zJ i i ((zu .sub .int v3 (I 1) fun vE=>zJ vE v4 ((zD b h8 fun vD=>zJ vD v3 ((zD c h8 fun vC=>zJ vC v2 (yB 1 v2 v5 fun vA=>zO 1 vA (.bool true) h8 n9 fun vB hA nA=>K (zn.fr a b d e c f i o p s g l) hA nA))))))))):=by kernel_rfl
theorem zn.rC:IR.run zn.t14 C N O K (zn.fr a b d e c f i o p s g l) h nx =
 zD f h fun v1=>zu .add .int a (I 1) fun v2=>zav C v1 [v2] h nx fun v3 h4 n5=>K (zn.fr a b d e c f i o p s g l) h4 n5:=by kernel_rfl
theorem zn.aX:IR.run zn.t15 C N O K (zn.fr a b d e c f i o p s g l) h nx =
 zD c h fun v1=>zD c h fun v2=>zD b h fun v3=>zu .sub .int v3 (I 1) fun v4=>zu .sub .int v4 i fun v5=>yB 1 v1 i fun v6=>zO 1 v6 (.bool false) h nx fun v7 h8 n9=>(zu .sub .int v4 i fun vF=>zJ vF v5 (zJ i i ((zu .sub .int v3 (I 1) fun vE=>zJ vE v4 ((zD b h8 fun vD=>zJ vD v3 ((zD c h8 fun vC=>zJ vC v2 (yB 1 v2 v5 fun vA=>zO 1 vA (.bool false) h8 n9 fun vB hA nA=>K (zn.fr a b d e c f i o p s g l) hA nA))))))))):=by kernel_rfl
theorem zn.zah:IR.run zn.t22 C N O K (zn.fr a b d e c f i o p s g l) h nx =
 zu .add .int s (I 1) fun v1=>K (zn.fr a b d e c f i o p v1 g l) h nx:=by kernel_rfl
theorem zn.zl2 (Inv:Nat->AV->T Blk->Pa->Prop) {m:Nat} (hm:m<N) (hi:Inv m s h nx)
  (step:∀ (m:Nat) (z6 z9 zA zB:AV) (h:T Blk) (nx:Pa) (R:Ks Prop),Inv m z9 h nx->(∀ (m':Nat) (w6 w9 wA wC:AV) (h':T Blk) (nx':Pa),m'<m->Inv m' w9 h' nx'->R (zn.fr a b d e c f w6 o p w9 wA wC) h' nx'=.ok True)->IR.run zn.t25 C N O R (zn.fr a b d e c f z6 o p z9 zA zB) h nx=.ok True) :
  IR.run zn.t26 C N O K (zn.fr a b d e c f i o p s g l) h nx=.ok True:=by
 rw [zn.t26];refine yJ (fun m tm h nx=>∃ z6 z9 zA zB,tm=(zn.fr a b d e c f z6 o p z9 zA zB)/\Inv m z9 h nx) ?_ hm ⟨_,_,_,_,rfl,hi⟩;rintro m tm h nx R ⟨z6,z9,zA,zB,rfl,hi⟩ hR;exact step m z6 z9 zA zB h nx R hi fun m' w6 w9 wA wC h' nx' hlt hi'=>hR m' _ h' nx' hlt ⟨_,_,_,_,rfl,hi'⟩
theorem zn.tab:T.get none (.of 149) tbl=some zn:=by kernel_rfl
theorem zn.bind (k:T AV->OP):zX zn.params [a0,a1,a2,a3,a4,a5] zn.init k=k (zn.fr a0 a1 a2 a3 a4 a5 .undef .undef .undef .undef .undef .undef):=by kernel_rfl
theorem zn.jg:zn.body=zn.t29:=by kernel_rfl
theorem zn.go:zW tbl N C (.of 149) [a0,a1,a2,a3,a4,a5] h nx K0=IR.run zn.t29 C N (fnO zn.res K0) (jv zn.res K0) (zn.fr a0 a1 a2 a3 a4 a5 .undef .undef .undef .undef .undef .undef) h nx:=by
 rw [zL zn.tab,zn.bind,zn.jg];kernel_rfl
theorem zn.ret:jv zn.res K0 (zn.fr a b d e c f i o p s g l) h nx=K0 (.tup []) h nx:=by kernel_rfl
def xw.t0:IR:=.reg [.q (.of 3) (.mv (.c (I 0))),.q (.of 4) (.mv (.c (I 0)))]
def xw.t1:IR:=.yw [] [(.s (.load (.t (.of 2))),0,[]),(.s (.mv (.t (.of 0))),0,[]),(.s (.zo 1 (.s 1) (.s 0)),0,[]),(.s (.load (.s 0)),0,[]),(.s (.load (.t (.of 2))),0,[]),(.s (.mv (.t (.of 1))),0,[]),(.s (.zo 1 (.s 1) (.s 0)),0,[]),(.s (.load (.s 0)),0,[]),(.q (.of 3) (.mv (.s 4)),0,[]),(.q (.of 4) (.mv (.s 0)),0,[])]
def xw.t2:IR:=.seq xw.t1 .ret
def xw.t3:IR:=.seq xw.t0 xw.t2
theorem xw.wo:IR.run xw.t0 C N O K (xw.fr a b d e c) h nx =
 K (xw.fr a b d (I 0) (I 0)) h nx:=by kernel_rfl
theorem xw.wu:IR.run xw.t1 C N O K (xw.fr a b d e c) h nx =
 zD d h fun v1=>yB 1 v1 a fun v2=>zD v2 h fun v3=>zD d h fun v4=>yB 1 v4 b fun v5=>zD v5 h fun v6=>K (xw.fr a b d v3 v6) h nx:=by kernel_rfl
theorem xw.tab:T.get none (.of 150) tbl=some xw:=by kernel_rfl
theorem xw.bind (k:T AV->OP):zX xw.params [a0,a1,a2] xw.init k=k (xw.fr a0 a1 a2 .undef .undef):=by kernel_rfl
theorem xw.jg:xw.body=xw.t3:=by kernel_rfl
theorem xw.go:zW tbl N C (.of 150) [a0,a1,a2] h nx K0=IR.run xw.t3 C N (fnO xw.res K0) (jv xw.res K0) (xw.fr a0 a1 a2 .undef .undef) h nx:=by
 rw [zL xw.tab,xw.bind,xw.jg];kernel_rfl
theorem xw.ret:jv xw.res K0 (xw.fr a b d e c) h nx=K0 (.tup [e,c]) h nx:=by kernel_rfl
end
end Go.Ev
namespace Go.Ev
open Go Go.Proofs
set_option maxRecDepth 100000
section
variable {N:Nat} {C:Calls Prop} {K0:Kw Prop} {K:Ks Prop} {h:T Blk} {nx:Pa} {a b d e c f i o p s a0 a1 a2:AV} {O:uo Prop} {tm:T AV} {Kt:KTm} {r:List RO} {s0 s1 s2 s3 s4 s5 s6 s7 s8 s9 s10 s11 s12 s13 s14 s15 s16 s17 s18 s19 s20 s21 s22 s23 s24 s25 s26 s27 s28 s29 s30 s31 s32 s33 s34 s35 s36 s37 s38 s39 s40 s41 s42 s43 s44 s45 s46 s47 s48 s49 s50 s51 s52 s53 s54 s55 s56 s57 s58 s59:AV}
end
end Go.Ev
namespace Go.Ev
open Go Go.Proofs
set_option maxRecDepth 100000
section
variable {N:Nat} {C:Calls Prop} {K0:Kw Prop} {K:Ks Prop} {h:T Blk} {nx:Pa} {a b d e c f i o p s g l q u v a0 a1:AV} {O:uo Prop} {tm:T AV} {Kt:KTm} {r:List RO} {s0 s1 s2 s3 s4 s5 s6 s7 s8 s9 s10 s11 s12 s13 s14 s15 s16 s17 s18 s19 s20 s21 s22 s23 s24 s25 s26 s27 s28 s29 s30 s31 s32 s33 s34 s35 s36 s37 s38 s39 s40 s41 s42 s43 s44 s45 s46 s47 s48 s49 s50 s51 s52 s53 s54 s55 s56 s57 s58 s59:AV}
end
end Go.Ev
namespace Go.Ev
open Go Go.Proofs
set_option maxRecDepth 100000
section
variable {N:Nat} {C:Calls Prop} {K0:Kw Prop} {K:Ks Prop} {h:T Blk} {nx:Pa} {a b d e c f i o p s g l q u v w y z A B D E F a0 a1 a2 a3 a4 a5 a6 a7:AV} {O:uo Prop} {tm:T AV} {Kt:KTm} {r:List RO} {s0 s1 s2 s3 s4 s5 s6 s7 s8 s9 s10 s11 s12 s13 s14 s15 s16 s17 s18 s19 s20 s21 s22 s23 s24 s25 s26 s27 s28 s29 s30 s31 s32 s33 s34 s35 s36 s37 s38 s39 s40 s41 s42 s43 s44 s45 s46 s47 s48 s49 s50 s51 s52 s53 s54 s55 s56 s57 s58 s59:AV}
end
end Go.Ev
namespace Go.Ev
open Go Go.Proofs
set_option maxRecDepth 100000
section
variable {N:Nat} {C:Calls Prop} {K0:Kw Prop} {K:Ks Prop} {h:T Blk} {nx:Pa} {a b d e c f i o p s a0:AV} {O:uo Prop} {tm:T AV} {Kt:KTm} {r:List RO} {s0 s1 s2 s3 s4 s5 s6 s7 s8 s9 s10 s11 s12 s13 s14 s15 s16 s17 s18 s19 s20 s21 s22 s23 s24 s25 s26 s27 s28 s29 s30 s31 s32 s33 s34 s35 s36 s37 s38 s39 s40 s41 s42 s43 s44 s45 s46 s47 s48 s49 s50 s51 s52 s53 s54 s55 s56 s57 s58 s59:AV}
end
end Go.Ev
namespace Go.Ev
open Go Go.Proofs
set_option maxRecDepth 100000
section
variable {N:Nat} {C:Calls Prop} {K0:Kw Prop} {K:Ks Prop} {h:T Blk} {nx:Pa} {a b d e c f i o p s g l q a0 a1 a2:AV} {O:uo Prop} {tm:T AV} {Kt:KTm} {r:List RO} {s0 s1 s2 s3 s4 s5 s6 s7 s8 s9 s10 s11 s12 s13 s14 s15 s16 s17 s18 s19 s20 s21 s22 s23 s24 s25 s26 s27 s28 s29 s30 s31 s32 s33 s34 s35 s36 s37 s38 s39 s40 s41 s42 s43 s44 s45 s46 s47 s48 s49 s50 s51 s52 s53 s54 s55 s56 s57 s58 s59:AV}
def F70.t0:IR:=.reg [.q (.of 1) (.mv (.c .zf))]
def F70.t1:IR:=.reg [.q (.of 2) (.mv (.c .zf))]
def F70.t2:IR:=.reg [.s (.mv (.t (.of 0))),.w .push none (.call (.c (.fn 101 (.of 101) [])) [(.s 0)]),.s (.mv (.t (.of 0))),.w .push none (.call (.c (.fn 151 (.of 151) [])) [(.s 0)]),.q (.of 3) (.mv (.s 2)),.q (.of 4) (.mv (.s 0))]
def F70.t3:IR:=.reg [.q (.of 5) (.mv (.c (I 0)))]
def F70.t4:IR:=.reg [.s (.mv (.t (.of 5))),.q (.of 6) (.bin .lss .int (.s 0) (.c (I 2)))]
def F70.t5:IR:=.cond (.t (.of 6)) .skip (.exit 0)
def F70.t6:IR:=.seq F70.t4 F70.t5
def F70.r5_6:List RO:=.q (.of 2) (.mv (.s 0))::[]
def F70.r5_5:List RO:=.w .push none (.aO 2 32 (.s 21) (.s 0))::F70.r5_6
def F70.r5_4:List RO:=.w .push none (.zx 2 4 [.zf,(.bool false)] [(0,2,(.s 15)),(2,2,(.s 10)),(4,2,(.s 5)),(6,2,(.s 0))])::F70.r5_5
def F70.r5_3:List RO:=.s (.mv (.t (.of 4)))::.s (.mv (.t (.of 4)))::.s (.mv (.t (.of 5)))::.s (.bin .eql .int (.s 0) (.c (I 1)))::.w .push none (.call (.c (.fn 152 (.of 152) [])) [(.s 3),(.s 2),(.s 0)])::F70.r5_4
def F70.r5_2:List RO:=.s (.mv (.t (.of 4)))::.s (.mv (.t (.of 3)))::.s (.mv (.t (.of 5)))::.s (.bin .eql .int (.s 0) (.c (I 1)))::.w .push none (.call (.c (.fn 152 (.of 152) [])) [(.s 3),(.s 2),(.s 0)])::F70.r5_3
def F70.r5_1:List RO:=.s (.mv (.t (.of 3)))::.s (.mv (.t (.of 4)))::.s (.mv (.t (.of 5)))::.s (.bin .eql .int (.s 0) (.c (I 1)))::.w .push none (.call (.c (.fn 152 (.of 152) [])) [(.s 3),(.s 2),(.s 0)])::F70.r5_2
def F70.r5_0:List RO:=.s (.mv (.t (.of 2)))::.s (.mv (.t (.of 3)))::.s (.mv (.t (.of 3)))::.s (.mv (.t (.of 5)))::.s (.bin .eql .int (.s 0) (.c (I 1)))::.w .push none (.call (.c (.fn 152 (.of 152) [])) [(.s 3),(.s 2),(.s 0)])::F70.r5_1
def F70.t7:IR:=.reg F70.r5_0
def F70.t8:IR:=.block 1 F70.t7
def F70.t9:IR:=.reg [.s (.mv (.t (.of 5))),.s (.bin .add .int (.s 0) (.c (I 1))),.q (.of 5) (.mv (.s 0))]
def F70.t10:IR:=.seq F70.t8 F70.t9
def F70.t11:IR:=.seq F70.t6 F70.t10
def F70.t12:IR:=.loop F70.t11
def F70.t13:IR:=.block 0 F70.t12
def F70.t14:IR:=.seq F70.t3 F70.t13
def F70.t15:IR:=.reg [.s (.mv (.t (.of 2))),.w .push none (.call (.c (.fn 100 (.of 100) [])) [(.s 0)]),.q (.of 1) (.mv (.s 0))]
def F70.t16:IR:=.seq F70.t15 .ret
def F70.t17:IR:=.seq F70.t14 F70.t16
def F70.t18:IR:=.seq F70.t2 F70.t17
def F70.t19:IR:=.seq F70.t1 F70.t18
def F70.t20:IR:=.seq F70.t0 F70.t19
theorem F70.wo:IR.run F70.t0 C N O K (F70.fr a b d e c f i) h nx =
 K (F70.fr a .zf d e c f i) h nx:=by kernel_rfl
theorem F70.wu:IR.run F70.t1 C N O K (F70.fr a b d e c f i) h nx =
 K (F70.fr a b .zf e c f i) h nx:=by kernel_rfl
theorem F70.dw:IR.run F70.t2 C N O K (F70.fr a b d e c f i) h nx =
 C.fn 101 (.of 101) [a] h nx fun v1 h2 n3=>C.fn 151 (.of 151) [a] h2 n3 fun v4 h5 n6=>K (F70.fr a b d v1 v4 f i) h5 n6:=by kernel_rfl
theorem F70.rF:IR.run F70.t3 C N O K (F70.fr a b d e c f i) h nx =
 K (F70.fr a b d e c (I 0) i) h nx:=by kernel_rfl
theorem F70.t4_s:IR.run F70.t4 C N O K (F70.fr a b d e c f i) h nx =
 zu .lss .int f (I 2) fun v1=>K (F70.fr a b d e c f v1) h nx:=by kernel_rfl
theorem F70.v6:Arg.ev (.t (.of 6)) ⟨(F70.fr a b d e c f i),[]⟩=i:=by kernel_rfl
theorem F70.t7_s:IR.run F70.t7 C N O K tm h nx=yH F70.r5_0 C ⟨tm,[]⟩ h nx (fun tm h nx=>K tm.v h nx):=wK ..
theorem F70.zax:yH (.s (.mv (.t (.of 2)))::.s (.mv (.t (.of 3)))::.s (.mv (.t (.of 3)))::.s (.mv (.t (.of 5)))::.s (.bin .eql .int (.s 0) (.c (I 1)))::.w .push none (.call (.c (.fn 152 (.of 152) [])) [(.s 3),(.s 2),(.s 0)])::r) C ⟨(F70.fr a b d e c f i),[]⟩ h nx Kt =
 zu .eql .int f (I 1) fun v1=>C.fn 152 (.of 152) [e,e,v1] h nx fun v2 h3 n4=>yH r C ⟨(F70.fr a b d e c f i),v2::v1::f::e::e::d::[]⟩ h3 n4 Kt:=by kernel_rfl
theorem F70.zao:yH (.s (.mv (.t (.of 3)))::.s (.mv (.t (.of 4)))::.s (.mv (.t (.of 5)))::.s (.bin .eql .int (.s 0) (.c (I 1)))::.w .push none (.call (.c (.fn 152 (.of 152) [])) [(.s 3),(.s 2),(.s 0)])::r) C ⟨(F70.fr a b d e c f i),s0::s1::s2::s3::s4::s5::[]⟩ h nx Kt =
 zu .eql .int f (I 1) fun v1=>C.fn 152 (.of 152) [e,c,v1] h nx fun v2 h3 n4=>yH r C ⟨(F70.fr a b d e c f i),v2::v1::f::c::e::s0::s1::s2::s3::s4::s5::[]⟩ h3 n4 Kt:=by kernel_rfl
theorem F70.zaq:yH (.s (.mv (.t (.of 4)))::.s (.mv (.t (.of 3)))::.s (.mv (.t (.of 5)))::.s (.bin .eql .int (.s 0) (.c (I 1)))::.w .push none (.call (.c (.fn 152 (.of 152) [])) [(.s 3),(.s 2),(.s 0)])::r) C ⟨(F70.fr a b d e c f i),s0::s1::s2::s3::s4::s5::s6::s7::s8::s9::s10::[]⟩ h nx Kt =
 zu .eql .int f (I 1) fun v1=>C.fn 152 (.of 152) [c,e,v1] h nx fun v2 h3 n4=>yH r C ⟨(F70.fr a b d e c f i),v2::v1::f::e::c::s0::s1::s2::s3::s4::s5::s6::s7::s8::s9::s10::[]⟩ h3 n4 Kt:=by kernel_rfl
theorem F70.zg0:yH (.s (.mv (.t (.of 4)))::.s (.mv (.t (.of 4)))::.s (.mv (.t (.of 5)))::.s (.bin .eql .int (.s 0) (.c (I 1)))::.w .push none (.call (.c (.fn 152 (.of 152) [])) [(.s 3),(.s 2),(.s 0)])::r) C ⟨(F70.fr a b d e c f i),s0::s1::s2::s3::s4::s5::s6::s7::s8::s9::s10::s11::s12::s13::s14::s15::[]⟩ h nx Kt =
 zu .eql .int f (I 1) fun v1=>C.fn 152 (.of 152) [c,c,v1] h nx fun v2 h3 n4=>yH r C ⟨(F70.fr a b d e c f i),v2::v1::f::c::c::s0::s1::s2::s3::s4::s5::s6::s7::s8::s9::s10::s11::s12::s13::s14::s15::[]⟩ h3 n4 Kt:=by kernel_rfl
theorem F70.zg1:yH (.w .push none (.zx 2 4 [.zf,(.bool false)] [(0,2,(.s 15)),(2,2,(.s 10)),(4,2,(.s 5)),(6,2,(.s 0))])::r) C ⟨(F70.fr a b d e c f i),s0::s1::s2::s3::s4::s5::s6::s7::s8::s9::s10::s11::s12::s13::s14::s15::s16::s17::s18::s19::s20::[]⟩ h nx Kt =
 yX 2 4 [.zf,(.bool false)] [(0,2,s15),(2,2,s10),(4,2,s5),(6,2,s0)] h nx fun v1 h2 n3=>yH r C ⟨(F70.fr a b d e c f i),v1::s0::s1::s2::s3::s4::s5::s6::s7::s8::s9::s10::s11::s12::s13::s14::s15::s16::s17::s18::s19::s20::[]⟩ h2 n3 Kt:=by kernel_rfl
theorem F70.ztl:yH (.w .push none (.aO 2 32 (.s 21) (.s 0))::r) C ⟨(F70.fr a b d e c f i),s0::s1::s2::s3::s4::s5::s6::s7::s8::s9::s10::s11::s12::s13::s14::s15::s16::s17::s18::s19::s20::s21::[]⟩ h nx Kt =
 uW C 2 32 s21 s0 h nx fun v1 h2 n3=>yH r C ⟨(F70.fr a b d e c f i),v1::s0::s1::s2::s3::s4::s5::s6::s7::s8::s9::s10::s11::s12::s13::s14::s15::s16::s17::s18::s19::s20::s21::[]⟩ h2 n3 Kt:=by kernel_rfl
theorem F70.ztm:yH (.q (.of 2) (.mv (.s 0))::[]) C ⟨(F70.fr a b d e c f i),s0::s1::s2::s3::s4::s5::s6::s7::s8::s9::s10::s11::s12::s13::s14::s15::s16::s17::s18::s19::s20::s21::s22::[]⟩ h nx Kt =
 Kt ⟨(F70.fr a b s0 e c f i),s0::s1::s2::s3::s4::s5::s6::s7::s8::s9::s10::s11::s12::s13::s14::s15::s16::s17::s18::s19::s20::s21::s22::[]⟩ h nx:=by kernel_rfl
theorem F70.au:IR.run F70.t9 C N O K (F70.fr a b d e c f i) h nx =
 zu .add .int f (I 1) fun v1=>K (F70.fr a b d e c v1 i) h nx:=by kernel_rfl
theorem F70.zvq (Inv:Nat->AV->AV->T Blk->Pa->Prop) {m:Nat} (hm:m<N) (hi:Inv m d f h nx)
  (step:∀ (m:Nat) (z2 z5 z6:AV) (h:T Blk) (nx:Pa) (R:Ks Prop),Inv m z2 z5 h nx->(∀ (m':Nat) (w2 w5 w6:AV) (h':T Blk) (nx':Pa),m'<m->Inv m' w2 w5 h' nx'->R (F70.fr a b w2 e c w5 w6) h' nx'=.ok True)->IR.run F70.t11 C N O R (F70.fr a b z2 e c z5 z6) h nx=.ok True) :
  IR.run F70.t12 C N O K (F70.fr a b d e c f i) h nx=.ok True:=by
 rw [F70.t12];refine yJ (fun m tm h nx=>∃ z2 z5 z6,tm=(F70.fr a b z2 e c z5 z6)/\Inv m z2 z5 h nx) ?_ hm ⟨_,_,_,rfl,hi⟩;rintro m tm h nx R ⟨z2,z5,z6,rfl,hi⟩ hR;exact step m z2 z5 z6 h nx R hi fun m' w2 w5 w6 h' nx' hlt hi'=>hR m' _ h' nx' hlt ⟨_,_,_,rfl,hi'⟩
theorem F70.aX:IR.run F70.t15 C N O K (F70.fr a b d e c f i) h nx =
 C.fn 100 (.of 100) [d] h nx fun v1 h2 n3=>K (F70.fr a v1 d e c f i) h2 n3:=by kernel_rfl
theorem F70.tab:T.get none (.of 70) tbl=some F70:=by kernel_rfl
theorem F70.bind (k:T AV->OP):zX F70.params [a0] F70.init k=k (F70.fr a0 .undef .undef .undef .undef .undef .undef):=by kernel_rfl
theorem F70.jg:F70.body=F70.t20:=by kernel_rfl
theorem F70.go:zW tbl N C (.of 70) [a0] h nx K0=IR.run F70.t20 C N (fnO F70.res K0) (jv F70.res K0) (F70.fr a0 .undef .undef .undef .undef .undef .undef) h nx:=by
 rw [zL F70.tab,F70.bind,F70.jg];kernel_rfl
theorem F70.ret:jv F70.res K0 (F70.fr a b d e c f i) h nx=K0 b h nx:=by kernel_rfl
def F71.t0:IR:=.reg [.q (.of 1) (.mv (.c .zf))]
def F71.t1:IR:=.reg [.q (.of 2) (.mv (.c .zf))]
def F71.t2:IR:=.reg [.q (.of 3) (.mv (.c (I 0)))]
def F71.t3:IR:=.reg [.s (.mv (.t (.of 3))),.s (.mv (.t (.of 0))),.q (.of 5) (.bin .lss .int (.s 1) (.s 0))]
def F71.t4:IR:=.cond (.t (.of 5)) .skip (.exit 0)
def F71.t5:IR:=.seq F71.t3 F71.t4
def F71.t6:IR:=.reg [.q (.of 4) (.mv (.c (I 0)))]
def F71.t7:IR:=.reg [.s (.mv (.t (.of 4))),.s (.mv (.t (.of 0))),.q (.of 6) (.bin .lss .int (.s 1) (.s 0))]
def F71.t8:IR:=.cond (.t (.of 6)) .skip (.exit 2)
def F71.t9:IR:=.seq F71.t7 F71.t8
def F71.t10:IR:=.reg [.s (.mv (.t (.of 2))),.s (.mv (.t (.of 0))),.s (.mv (.t (.of 3))),.w .push none (.call (.c (.fn 153 (.of 153) [])) [(.s 1),(.s 0)]),.s (.mv (.t (.of 0))),.s (.mv (.t (.of 4))),.w .push none (.call (.c (.fn 153 (.of 153) [])) [(.s 1),(.s 0)]),.w .push none (.call (.c (.fn 152 (.of 152) [])) [(.s 3),(.s 0),(.c (.bool false))]),.w .push none (.zx 2 1 [.zf,(.bool false)] [(0,2,(.s 0))]),.w .push none (.aO 2 32 (.s 8) (.s 0)),.q (.of 2) (.mv (.s 0))]
def F71.t11:IR:=.block 3 F71.t10
def F71.t12:IR:=.reg [.s (.mv (.t (.of 4))),.s (.bin .add .int (.s 0) (.c (I 1))),.q (.of 4) (.mv (.s 0))]
def F71.t13:IR:=.seq F71.t11 F71.t12
def F71.t14:IR:=.seq F71.t9 F71.t13
def F71.t15:IR:=.loop F71.t14
def F71.t16:IR:=.block 2 F71.t15
def F71.t17:IR:=.seq F71.t6 F71.t16
def F71.t18:IR:=.block 1 F71.t17
def F71.t19:IR:=.reg [.s (.mv (.t (.of 3))),.s (.bin .add .int (.s 0) (.c (I 1))),.q (.of 3) (.mv (.s 0))]
def F71.t20:IR:=.seq F71.t18 F71.t19
def F71.t21:IR:=.seq F71.t5 F71.t20
def F71.t22:IR:=.loop F71.t21
def F71.t23:IR:=.block 0 F71.t22
def F71.t24:IR:=.seq F71.t2 F71.t23
def F71.t25:IR:=.reg [.s (.mv (.t (.of 2))),.w .push none (.call (.c (.fn 100 (.of 100) [])) [(.s 0)]),.q (.of 1) (.mv (.s 0))]
def F71.t26:IR:=.seq F71.t25 .ret
def F71.t27:IR:=.seq F71.t24 F71.t26
def F71.t28:IR:=.seq F71.t1 F71.t27
def F71.t29:IR:=.seq F71.t0 F71.t28
theorem F71.wo:IR.run F71.t0 C N O K (F71.fr a b d e c f i) h nx =
 K (F71.fr a .zf d e c f i) h nx:=by kernel_rfl
theorem F71.wu:IR.run F71.t1 C N O K (F71.fr a b d e c f i) h nx =
 K (F71.fr a b .zf e c f i) h nx:=by kernel_rfl
theorem F71.dw:IR.run F71.t2 C N O K (F71.fr a b d e c f i) h nx =
 K (F71.fr a b d (I 0) c f i) h nx:=by kernel_rfl
theorem F71.rF:IR.run F71.t3 C N O K (F71.fr a b d e c f i) h nx =
 zu .lss .int e a fun v1=>K (F71.fr a b d e c v1 i) h nx:=by kernel_rfl
theorem F71.v5:Arg.ev (.t (.of 5)) ⟨(F71.fr a b d e c f i),[]⟩=f:=by kernel_rfl
theorem F71.aI:IR.run F71.t6 C N O K (F71.fr a b d e c f i) h nx =
 K (F71.fr a b d e (I 0) f i) h nx:=by kernel_rfl
theorem F71.t7_s:IR.run F71.t7 C N O K (F71.fr a b d e c f i) h nx =
 zu .lss .int c a fun v1=>K (F71.fr a b d e c f v1) h nx:=by kernel_rfl
theorem F71.v6:Arg.ev (.t (.of 6)) ⟨(F71.fr a b d e c f i),[]⟩=i:=by kernel_rfl
theorem F71.fG:IR.run F71.t10 C N O K (F71.fr a b d e c f i) h nx =
 C.fn 153 (.of 153) [a,e] h nx fun v1 h2 n3=>C.fn 153 (.of 153) [a,c] h2 n3 fun v4 h5 n6=>C.fn 152 (.of 152) [v1,v4,(.bool false)] h5 n6 fun v7 h8 n9=>yX 2 1 [.zf,(.bool false)] [(0,2,v7)] h8 n9 fun vA hD nE=>uW C 2 32 d vA hD nE fun vO hE nF=>K (F71.fr a b vO e c f i) hE nF:=by kernel_rfl
theorem F71.tH:IR.run F71.t12 C N O K (F71.fr a b d e c f i) h nx =
 zu .add .int c (I 1) fun v1=>K (F71.fr a b d e v1 f i) h nx:=by kernel_rfl
theorem F71.zl5 (Inv:Nat->AV->AV->T Blk->Pa->Prop) {m:Nat} (hm:m<N) (hi:Inv m d c h nx)
  (step:∀ (m:Nat) (z2 z4 z6:AV) (h:T Blk) (nx:Pa) (R:Ks Prop),Inv m z2 z4 h nx->(∀ (m':Nat) (w2 w4 w6:AV) (h':T Blk) (nx':Pa),m'<m->Inv m' w2 w4 h' nx'->R (F71.fr a b w2 e w4 f w6) h' nx'=.ok True)->IR.run F71.t14 C N O R (F71.fr a b z2 e z4 f z6) h nx=.ok True) :
  IR.run F71.t15 C N O K (F71.fr a b d e c f i) h nx=.ok True:=by
 rw [F71.t15];refine yJ (fun m tm h nx=>∃ z2 z4 z6,tm=(F71.fr a b z2 e z4 f z6)/\Inv m z2 z4 h nx) ?_ hm ⟨_,_,_,rfl,hi⟩;rintro m tm h nx R ⟨z2,z4,z6,rfl,hi⟩ hR;exact step m z2 z4 z6 h nx R hi fun m' w2 w4 w6 h' nx' hlt hi'=>hR m' _ h' nx' hlt ⟨_,_,_,rfl,hi'⟩
theorem F71.zl1:IR.run F71.t19 C N O K (F71.fr a b d e c f i) h nx =
 zu .add .int e (I 1) fun v1=>K (F71.fr a b d v1 c f i) h nx:=by kernel_rfl
theorem F71.zvr (Inv:Nat->AV->AV->T Blk->Pa->Prop) {m:Nat} (hm:m<N) (hi:Inv m d e h nx)
  (step:∀ (m:Nat) (z2 z3 z4 z5 z6:AV) (h:T Blk) (nx:Pa) (R:Ks Prop),Inv m z2 z3 h nx->(∀ (m':Nat) (w2 w3 w4 w5 w6:AV) (h':T Blk) (nx':Pa),m'<m->Inv m' w2 w3 h' nx'->R (F71.fr a b w2 w3 w4 w5 w6) h' nx'=.ok True)->IR.run F71.t21 C N O R (F71.fr a b z2 z3 z4 z5 z6) h nx=.ok True) :
  IR.run F71.t22 C N O K (F71.fr a b d e c f i) h nx=.ok True:=by
 rw [F71.t22];refine yJ (fun m tm h nx=>∃ z2 z3 z4 z5 z6,tm=(F71.fr a b z2 z3 z4 z5 z6)/\Inv m z2 z3 h nx) ?_ hm ⟨_,_,_,_,_,rfl,hi⟩;rintro m tm h nx R ⟨z2,z3,z4,z5,z6,rfl,hi⟩ hR;exact step m z2 z3 z4 z5 z6 h nx R hi fun m' w2 w3 w4 w5 w6 h' nx' hlt hi'=>hR m' _ h' nx' hlt ⟨_,_,_,_,_,rfl,hi'⟩
theorem F71.zvs:IR.run F71.t25 C N O K (F71.fr a b d e c f i) h nx =
 C.fn 100 (.of 100) [d] h nx fun v1 h2 n3=>K (F71.fr a v1 d e c f i) h2 n3:=by kernel_rfl
theorem F71.tab:T.get none (.of 71) tbl=some F71:=by kernel_rfl
theorem F71.bind (k:T AV->OP):zX F71.params [a0] F71.init k=k (F71.fr a0 .undef .undef .undef .undef .undef .undef):=by kernel_rfl
theorem F71.jg:F71.body=F71.t29:=by kernel_rfl
theorem F71.go:zW tbl N C (.of 71) [a0] h nx K0=IR.run F71.t29 C N (fnO F71.res K0) (jv F71.res K0) (F71.fr a0 .undef .undef .undef .undef .undef .undef) h nx:=by
 rw [zL F71.tab,F71.bind,F71.jg];kernel_rfl
theorem F71.ret:jv F71.res K0 (F71.fr a b d e c f i) h nx=K0 b h nx:=by kernel_rfl
def F72.t0:IR:=.reg [.q (.of 1) (.mv (.c .zf))]
def F72.t1:IR:=.reg [.q (.of 2) (.mv (.c .zf))]
def F72.t2:IR:=.reg [.s (.mv (.t (.of 0))),.w .push none (.call (.c (.fn 108 (.of 108) [])) [(.s 0)]),.w .push none (.call (.c (.fn 107 (.of 107) [])) [(.s 0)]),.s (.mv (.s 0)),.s (.ext 0 (.s 0)),.s (.ext 1 (.s 1)),.q (.of 3) (.mv (.s 1)),.s (.mv (.s 0))]
def F72.t3:IR:=.reg [.q (.of 4) (.mv (.c (I 0)))]
def F72.t4:IR:=.reg [.s (.mv (.t (.of 4))),.s (.mv (.t (.of 3))),.q (.of 6) (.bin .lss .int (.s 1) (.s 0))]
def F72.t5:IR:=.cond (.t (.of 6)) .skip (.exit 0)
def F72.t6:IR:=.seq F72.t4 F72.t5
def F72.t7:IR:=.reg [.s (.mv (.t (.of 0))),.s (.mv (.t (.of 4))),.w .push none (.call (.c (.fn 49 (.of 49) [])) [(.s 0)]),.w .push none (.call (.c (.fn 109 (.of 109) [])) [(.s 2),(.s 0)]),.q (.of 5) (.mv (.s 0))]
def F72.t8:IR:=.reg [.s (.mv (.t (.of 5))),.w (.loc (.of 7)) none (.call (.c (.fn 154 (.of 154) [])) [(.s 0)])]
def F72.t9:IR:=.reg [.s (.mv (.t (.of 2))),.s (.mv (.t (.of 5))),.s (.mv (.t (.of 5))),.w .push none (.call (.c (.fn 152 (.of 152) [])) [(.s 1),(.s 0),(.c (.bool false))]),.w .push none (.zx 2 1 [.zf,(.bool false)] [(0,2,(.s 0))]),.w .push none (.aO 2 32 (.s 4) (.s 0)),.q (.of 2) (.mv (.s 0))]
def F72.t10:IR:=.cond (.t (.of 7)) F72.t9 .skip
def F72.t11:IR:=.seq F72.t8 F72.t10
def F72.t12:IR:=.seq F72.t7 F72.t11
def F72.t13:IR:=.block 1 F72.t12
def F72.t14:IR:=.reg [.s (.mv (.t (.of 4))),.s (.bin .add .int (.s 0) (.c (I 1))),.q (.of 4) (.mv (.s 0))]
def F72.t15:IR:=.seq F72.t13 F72.t14
def F72.t16:IR:=.seq F72.t6 F72.t15
def F72.t17:IR:=.loop F72.t16
def F72.t18:IR:=.block 0 F72.t17
def F72.t19:IR:=.seq F72.t3 F72.t18
def F72.t20:IR:=.reg [.s (.mv (.t (.of 2))),.w .push none (.call (.c (.fn 100 (.of 100) [])) [(.s 0)]),.q (.of 1) (.mv (.s 0))]
def F72.t21:IR:=.seq F72.t20 .ret
def F72.t22:IR:=.seq F72.t19 F72.t21
def F72.t23:IR:=.seq F72.t2 F72.t22
def F72.t24:IR:=.seq F72.t1 F72.t23
def F72.t25:IR:=.seq F72.t0 F72.t24
theorem F72.wo:IR.run F72.t0 C N O K (F72.fr a b d e c f i o) h nx =
 K (F72.fr a .zf d e c f i o) h nx:=by kernel_rfl
theorem F72.wu:IR.run F72.t1 C N O K (F72.fr a b d e c f i o) h nx =
 K (F72.fr a b .zf e c f i o) h nx:=by kernel_rfl
theorem F72.dw:IR.run F72.t2 C N O K (F72.fr a b d e c f i o) h nx =
 C.fn 108 (.of 108) [a] h nx fun v1 h2 n3=>C.fn 107 (.of 107) [v1] h2 n3 fun v4 h5 n6=>bY 0 v4 fun v7=>bY 1 v4 fun v8=>K (F72.fr a b d v7 c f i o) h5 n6:=by kernel_rfl
theorem F72.rF:IR.run F72.t3 C N O K (F72.fr a b d e c f i o) h nx =
 K (F72.fr a b d e (I 0) f i o) h nx:=by kernel_rfl
theorem F72.t4_s:IR.run F72.t4 C N O K (F72.fr a b d e c f i o) h nx =
 zu .lss .int c e fun v1=>K (F72.fr a b d e c f v1 o) h nx:=by kernel_rfl
theorem F72.v6:Arg.ev (.t (.of 6)) ⟨(F72.fr a b d e c f i o),[]⟩=i:=by kernel_rfl
theorem F72.t7_s:IR.run F72.t7 C N O K (F72.fr a b d e c f i o) h nx =
 C.fn 49 (.of 49) [c] h nx fun v1 h2 n3=>C.fn 109 (.of 109) [a,v1] h2 n3 fun v4 h5 n6=>K (F72.fr a b d e c v4 i o) h5 n6:=by kernel_rfl
theorem F72.sV:IR.run F72.t8 C N O K (F72.fr a b d e c f i o) h nx =
 C.fn 154 (.of 154) [f] h nx fun v1 h2 n3=>K (F72.fr a b d e c f i v1) h2 n3:=by kernel_rfl
theorem F72.au:IR.run F72.t9 C N O K (F72.fr a b d e c f i o) h nx =
 C.fn 152 (.of 152) [f,f,(.bool false)] h nx fun v1 h2 n3=>yX 2 1 [.zf,(.bool false)] [(0,2,v1)] h2 n3 fun v4 h5 n6=>uW C 2 32 d v4 h5 n6 fun v7 h8 n9=>K (F72.fr a b v7 e c f i o) h8 n9:=by kernel_rfl
theorem F72.v7:Arg.ev (.t (.of 7)) ⟨(F72.fr a b d e c f i o),[]⟩=o:=by kernel_rfl
theorem F72.rC:IR.run F72.t14 C N O K (F72.fr a b d e c f i o) h nx =
 zu .add .int c (I 1) fun v1=>K (F72.fr a b d e v1 f i o) h nx:=by kernel_rfl
theorem F72.zvt (Inv:Nat->AV->AV->T Blk->Pa->Prop) {m:Nat} (hm:m<N) (hi:Inv m d c h nx)
  (step:∀ (m:Nat) (z2 z4 z5 z6 z7:AV) (h:T Blk) (nx:Pa) (R:Ks Prop),Inv m z2 z4 h nx->(∀ (m':Nat) (w2 w4 w5 w6 w7:AV) (h':T Blk) (nx':Pa),m'<m->Inv m' w2 w4 h' nx'->R (F72.fr a b w2 e w4 w5 w6 w7) h' nx'=.ok True)->IR.run F72.t16 C N O R (F72.fr a b z2 e z4 z5 z6 z7) h nx=.ok True) :
  IR.run F72.t17 C N O K (F72.fr a b d e c f i o) h nx=.ok True:=by
 rw [F72.t17];refine yJ (fun m tm h nx=>∃ z2 z4 z5 z6 z7,tm=(F72.fr a b z2 e z4 z5 z6 z7)/\Inv m z2 z4 h nx) ?_ hm ⟨_,_,_,_,_,rfl,hi⟩;rintro m tm h nx R ⟨z2,z4,z5,z6,z7,rfl,hi⟩ hR;exact step m z2 z4 z5 z6 z7 h nx R hi fun m' w2 w4 w5 w6 w7 h' nx' hlt hi'=>hR m' _ h' nx' hlt ⟨_,_,_,_,_,rfl,hi'⟩
theorem F72.ze0:IR.run F72.t20 C N O K (F72.fr a b d e c f i o) h nx =
 C.fn 100 (.of 100) [d] h nx fun v1 h2 n3=>K (F72.fr a v1 d e c f i o) h2 n3:=by kernel_rfl
theorem F72.tab:T.get none (.of 72) tbl=some F72:=by kernel_rfl
theorem F72.bind (k:T AV->OP):zX F72.params [a0] F72.init k=k (F72.fr a0 .undef .undef .undef .undef .undef .undef .undef):=by kernel_rfl
theorem F72.jg:F72.body=F72.t25:=by kernel_rfl
theorem F72.go:zW tbl N C (.of 72) [a0] h nx K0=IR.run F72.t25 C N (fnO F72.res K0) (jv F72.res K0) (F72.fr a0 .undef .undef .undef .undef .undef .undef .undef) h nx:=by
 rw [zL F72.tab,F72.bind,F72.jg];kernel_rfl
theorem F72.ret:jv F72.res K0 (F72.fr a b d e c f i o) h nx=K0 b h nx:=by kernel_rfl
def je.t0:IR:=.reg [.q (.of 1) (.mv (.c .zf))]
def je.t1:IR:=.reg [.q (.of 2) (.mv (.c .zf))]
def je.t2:IR:=.reg [.q (.of 3) (.mv (.c (I 0)))]
def je.t3:IR:=.reg [.s (.mv (.t (.of 3))),.s (.mv (.t (.of 0))),.q (.of 4) (.bin .lss .int (.s 1) (.s 0))]
def je.t4:IR:=.cond (.t (.of 4)) .skip (.exit 0)
def je.t5:IR:=.seq je.t3 je.t4
def je.t6:IR:=.reg [.s (.mv (.t (.of 2))),.s (.mv (.t (.of 0))),.s (.bin .sub .int (.s 0) (.c (I 1))),.s (.mv (.t (.of 3))),.s (.bin .sub .int (.s 1) (.s 0)),.w .push none (.zx 1 1 [(I 0)] [(0,1,(.s 0))]),.w .push none (.app 1 8 (.s 5) (.s 0)),.q (.of 2) (.mv (.s 0))]
def je.t7:IR:=.block 1 je.t6
def je.t8:IR:=.reg [.s (.mv (.t (.of 3))),.s (.bin .add .int (.s 0) (.c (I 1))),.q (.of 3) (.mv (.s 0))]
def je.t9:IR:=.seq je.t7 je.t8
def je.t10:IR:=.seq je.t5 je.t9
def je.t11:IR:=.loop je.t10
def je.t12:IR:=.block 0 je.t11
def je.t13:IR:=.seq je.t2 je.t12
def je.t14:IR:=.reg [.s (.mv (.t (.of 2))),.q (.of 1) (.mv (.s 0))]
def je.t15:IR:=.seq je.t14 .ret
def je.t16:IR:=.seq je.t13 je.t15
def je.t17:IR:=.seq je.t1 je.t16
def je.t18:IR:=.seq je.t0 je.t17
theorem je.wo:IR.run je.t0 C N O K (je.fr a b d e c) h nx =
 K (je.fr a .zf d e c) h nx:=by kernel_rfl
theorem je.wu:IR.run je.t1 C N O K (je.fr a b d e c) h nx =
 K (je.fr a b .zf e c) h nx:=by kernel_rfl
theorem je.dw:IR.run je.t2 C N O K (je.fr a b d e c) h nx =
 K (je.fr a b d (I 0) c) h nx:=by kernel_rfl
theorem je.rF:IR.run je.t3 C N O K (je.fr a b d e c) h nx =
 zu .lss .int e a fun v1=>K (je.fr a b d e v1) h nx:=by kernel_rfl
theorem je.v4:Arg.ev (.t (.of 4)) ⟨(je.fr a b d e c),[]⟩=c:=by kernel_rfl
theorem je.aI:IR.run je.t6 C N O K (je.fr a b d e c) h nx =
 zu .sub .int a (I 1) fun v1=>zu .sub .int v1 e fun v2=>yX 1 1 [(I 0)] [(0,1,v2)] h nx fun v3 h4 n5=>tX 1 8 d v3 h4 n5 fun v6 h7 n8=>K (je.fr a b v6 e c) h7 n8:=by kernel_rfl
theorem je.sV:IR.run je.t8 C N O K (je.fr a b d e c) h nx =
 zu .add .int e (I 1) fun v1=>K (je.fr a b d v1 c) h nx:=by kernel_rfl
theorem je.zaw (Inv:Nat->AV->AV->T Blk->Pa->Prop) {m:Nat} (hm:m<N) (hi:Inv m d e h nx)
  (step:∀ (m:Nat) (z2 z3 z4:AV) (h:T Blk) (nx:Pa) (R:Ks Prop),Inv m z2 z3 h nx->(∀ (m':Nat) (w2 w3 w4:AV) (h':T Blk) (nx':Pa),m'<m->Inv m' w2 w3 h' nx'->R (je.fr a b w2 w3 w4) h' nx'=.ok True)->IR.run je.t10 C N O R (je.fr a b z2 z3 z4) h nx=.ok True) :
  IR.run je.t11 C N O K (je.fr a b d e c) h nx=.ok True:=by
 rw [je.t11];refine yJ (fun m tm h nx=>∃ z2 z3 z4,tm=(je.fr a b z2 z3 z4)/\Inv m z2 z3 h nx) ?_ hm ⟨_,_,_,rfl,hi⟩;rintro m tm h nx R ⟨z2,z3,z4,rfl,hi⟩ hR;exact step m z2 z3 z4 h nx R hi fun m' w2 w3 w4 h' nx' hlt hi'=>hR m' _ h' nx' hlt ⟨_,_,_,rfl,hi'⟩
theorem je.rC:IR.run je.t14 C N O K (je.fr a b d e c) h nx =
 K (je.fr a d d e c) h nx:=by kernel_rfl
theorem je.tab:T.get none (.of 151) tbl=some je:=by kernel_rfl
theorem je.bind (k:T AV->OP):zX je.params [a0] je.init k=k (je.fr a0 .undef .undef .undef .undef):=by kernel_rfl
theorem je.jg:je.body=je.t18:=by kernel_rfl
theorem je.go:zW tbl N C (.of 151) [a0] h nx K0=IR.run je.t18 C N (fnO je.res K0) (jv je.res K0) (je.fr a0 .undef .undef .undef .undef) h nx:=by
 rw [zL je.tab,je.bind,je.jg];kernel_rfl
theorem je.ret:jv je.res K0 (je.fr a b d e c) h nx=K0 b h nx:=by kernel_rfl
def zi.t0:IR:=.reg [.w (.loc (.of 3)) none (.alloc [.zf,(.bool false)])]
def zi.t1:IR:=.reg [.s (.mv (.t (.of 0))),.s (.len (.s 0)),.q (.of 4) (.mv (.s 0))]
def zi.t2:IR:=.reg [.w (.loc (.of 5)) none (.alloc [.zf,(.bool false)])]
def zi.t3:IR:=.reg [.q (.of 6) (.mv (.c (I 0)))]
def zi.t4:IR:=.reg [.s (.mv (.t (.of 6))),.s (.mv (.t (.of 4))),.q (.of 10) (.bin .lss .int (.s 1) (.s 0))]
def zi.t5:IR:=.cond (.t (.of 10)) .skip (.exit 0)
def zi.t6:IR:=.seq zi.t4 zi.t5
def zi.t7:IR:=.reg [.q (.of 7) (.mv (.c (I 0)))]
def zi.t8:IR:=.reg [.s (.mv (.t (.of 7))),.s (.mv (.t (.of 4))),.q (.of 11) (.bin .lss .int (.s 1) (.s 0))]
def zi.t9:IR:=.cond (.t (.of 11)) .skip (.exit 2)
def zi.t10:IR:=.seq zi.t8 zi.t9
def zi.t11:IR:=.yw [] [(.s (.mv (.t (.of 0))),0,[]),(.s (.mv (.t (.of 6))),0,[]),(.s (.zo 1 (.s 1) (.s 0)),0,[]),(.s (.load (.s 0)),0,[]),(.s (.mv (.t (.of 1))),0,[]),(.s (.mv (.t (.of 7))),0,[]),(.s (.zo 1 (.s 1) (.s 0)),0,[]),(.s (.load (.s 0)),0,[]),(.q (.of 8) (.mv (.s 4)),0,[]),(.q (.of 9) (.mv (.s 0)),0,[])]
def zi.t12:IR:=.reg [.q (.of 12) (.mv (.t (.of 2)))]
def zi.t13:IR:=.reg [.s (.mv (.t (.of 9))),.s (.mv (.t (.of 8))),.q (.of 8) (.mv (.s 1)),.q (.of 9) (.mv (.s 0))]
def zi.t14:IR:=.cond (.t (.of 12)) zi.t13 .skip
def zi.t15:IR:=.seq zi.t12 zi.t14
def zi.t16:IR:=.reg [.s (.zy 0 (.t (.of 5))),.s (.load (.s 0)),.s (.mv (.t (.of 8))),.s (.mv (.t (.of 4))),.s (.bin .mul .int (.s 1) (.s 0)),.s (.mv (.t (.of 9))),.s (.bin .add .int (.s 1) (.s 0)),.w .push none (.zx 1 1 [(I 0)] [(0,1,(.s 0))]),.w .push none (.app 1 8 (.s 6) (.s 0)),.s (.zy 0 (.t (.of 5))),.w .none none (.store 1 (.s 0) (.s 1))]
def zi.t17:IR:=.seq zi.t15 zi.t16
def zi.t18:IR:=.seq zi.t11 zi.t17
def zi.t19:IR:=.block 3 zi.t18
def zi.t20:IR:=.reg [.s (.mv (.t (.of 7))),.s (.bin .add .int (.s 0) (.c (I 1))),.q (.of 7) (.mv (.s 0))]
def zi.t21:IR:=.seq zi.t19 zi.t20
def zi.t22:IR:=.seq zi.t10 zi.t21
def zi.t23:IR:=.loop zi.t22
def zi.t24:IR:=.block 2 zi.t23
def zi.t25:IR:=.seq zi.t7 zi.t24
def zi.t26:IR:=.block 1 zi.t25
def zi.t27:IR:=.reg [.s (.mv (.t (.of 6))),.s (.bin .add .int (.s 0) (.c (I 1))),.q (.of 6) (.mv (.s 0))]
def zi.t28:IR:=.seq zi.t26 zi.t27
def zi.t29:IR:=.seq zi.t6 zi.t28
def zi.t30:IR:=.loop zi.t29
def zi.t31:IR:=.block 0 zi.t30
def zi.t32:IR:=.seq zi.t3 zi.t31
def zi.t33:IR:=.reg [.s (.zh 2 (.t (.of 5))),.w .none none (.store 2 (.t (.of 3)) (.s 0))]
def zi.t34:IR:=.seq zi.t33 .ret
def zi.t35:IR:=.seq zi.t32 zi.t34
def zi.t36:IR:=.seq zi.t2 zi.t35
def zi.t37:IR:=.seq zi.t1 zi.t36
def zi.t38:IR:=.seq zi.t0 zi.t37
theorem zi.wo:IR.run zi.t0 C N O K (zi.fr a b d e c f i o p s g l q) h nx =
 yI [.zf,(.bool false)] h nx fun v1 h2 n3=>K (zi.fr a b d v1 c f i o p s g l q) h2 n3:=by kernel_rfl
theorem zi.wu:IR.run zi.t1 C N O K (zi.fr a b d e c f i o p s g l q) h nx =
 sLen a fun v1=>K (zi.fr a b d e v1 f i o p s g l q) h nx:=by kernel_rfl
theorem zi.dw:IR.run zi.t2 C N O K (zi.fr a b d e c f i o p s g l q) h nx =
 yI [.zf,(.bool false)] h nx fun v1 h2 n3=>K (zi.fr a b d e c v1 i o p s g l q) h2 n3:=by kernel_rfl
theorem zi.rF:IR.run zi.t3 C N O K (zi.fr a b d e c f i o p s g l q) h nx =
 K (zi.fr a b d e c f (I 0) o p s g l q) h nx:=by kernel_rfl
theorem zi.t4_s:IR.run zi.t4 C N O K (zi.fr a b d e c f i o p s g l q) h nx =
 zu .lss .int i c fun v1=>K (zi.fr a b d e c f i o p s v1 l q) h nx:=by kernel_rfl
theorem zi.v10:Arg.ev (.t (.of 10)) ⟨(zi.fr a b d e c f i o p s g l q),[]⟩=g:=by kernel_rfl
theorem zi.t7_s:IR.run zi.t7 C N O K (zi.fr a b d e c f i o p s g l q) h nx =
 K (zi.fr a b d e c f i (I 0) p s g l q) h nx:=by kernel_rfl
theorem zi.sV:IR.run zi.t8 C N O K (zi.fr a b d e c f i o p s g l q) h nx =
 zu .lss .int o c fun v1=>K (zi.fr a b d e c f i o p s g v1 q) h nx:=by kernel_rfl
theorem zi.v11:Arg.ev (.t (.of 11)) ⟨(zi.fr a b d e c f i o p s g l q),[]⟩=l:=by kernel_rfl
theorem zi.zaj:IR.run zi.t11 C N O K (zi.fr a b d e c f i o p s g l q) h nx =
 yB 1 a i fun v1=>zD v1 h fun v2=>yB 1 b o fun v3=>zD v3 h fun v4=>K (zi.fr a b d e c f i o v2 v4 g l q) h nx:=by kernel_rfl
theorem zi.tH:IR.run zi.t12 C N O K (zi.fr a b d e c f i o p s g l q) h nx =
 K (zi.fr a b d e c f i o p s g l d) h nx:=by kernel_rfl
theorem zi.zak:IR.run zi.t13 C N O K (zi.fr a b d e c f i o p s g l q) h nx =
 K (zi.fr a b d e c f i o s p g l q) h nx:=by kernel_rfl
theorem zi.v12:Arg.ev (.t (.of 12)) ⟨(zi.fr a b d e c f i o p s g l q),[]⟩=q:=by kernel_rfl
theorem zi.sQ:IR.run zi.t16 C N O K (zi.fr a b d e c f i o p s g l q) h nx =
 yC 0 f fun v1=>zD v1 h fun v2=>zu .mul .int p c fun v3=>zu .add .int v3 s fun v4=>yX 1 1 [(I 0)] [(0,1,v4)] h nx fun v5 h6 n7=>tX 1 8 v2 v5 h6 n7 fun v8 h9 nD=>yC 0 f fun vB=>zO 1 vB v8 h9 nD fun vN h13 n14=>K (zi.fr a b d e c f i o p s g l q) h13 n14:=by kernel_rfl
theorem zi.ze0:IR.run zi.t20 C N O K (zi.fr a b d e c f i o p s g l q) h nx =
 zu .add .int o (I 1) fun v1=>K (zi.fr a b d e c f i v1 p s g l q) h nx:=by kernel_rfl
theorem zi.zvu (Inv:Nat->AV->T Blk->Pa->Prop) {m:Nat} (hm:m<N) (hi:Inv m o h nx)
  (step:∀ (m:Nat) (z7 z8 z9 zB zC:AV) (h:T Blk) (nx:Pa) (R:Ks Prop),Inv m z7 h nx->(∀ (m':Nat) (w7 w8 w9 wC wD:AV) (h':T Blk) (nx':Pa),m'<m->Inv m' w7 h' nx'->R (zi.fr a b d e c f i w7 w8 w9 g wC wD) h' nx'=.ok True)->IR.run zi.t22 C N O R (zi.fr a b d e c f i z7 z8 z9 g zB zC) h nx=.ok True) :
  IR.run zi.t23 C N O K (zi.fr a b d e c f i o p s g l q) h nx=.ok True:=by
 rw [zi.t23];refine yJ (fun m tm h nx=>∃ z7 z8 z9 zB zC,tm=(zi.fr a b d e c f i z7 z8 z9 g zB zC)/\Inv m z7 h nx) ?_ hm ⟨_,_,_,_,_,rfl,hi⟩;rintro m tm h nx R ⟨z7,z8,z9,zB,zC,rfl,hi⟩ hR;exact step m z7 z8 z9 zB zC h nx R hi fun m' w7 w8 w9 wC wD h' nx' hlt hi'=>hR m' _ h' nx' hlt ⟨_,_,_,_,_,rfl,hi'⟩
theorem zi.zl6:IR.run zi.t27 C N O K (zi.fr a b d e c f i o p s g l q) h nx =
 zu .add .int i (I 1) fun v1=>K (zi.fr a b d e c f v1 o p s g l q) h nx:=by kernel_rfl
theorem zi.zvv (Inv:Nat->AV->T Blk->Pa->Prop) {m:Nat} (hm:m<N) (hi:Inv m i h nx)
  (step:∀ (m:Nat) (z6 z7 z8 z9 zA zB zC:AV) (h:T Blk) (nx:Pa) (R:Ks Prop),Inv m z6 h nx->(∀ (m':Nat) (w6 w7 w8 w9 wA wC wD:AV) (h':T Blk) (nx':Pa),m'<m->Inv m' w6 h' nx'->R (zi.fr a b d e c f w6 w7 w8 w9 wA wC wD) h' nx'=.ok True)->IR.run zi.t29 C N O R (zi.fr a b d e c f z6 z7 z8 z9 zA zB zC) h nx=.ok True) :
  IR.run zi.t30 C N O K (zi.fr a b d e c f i o p s g l q) h nx=.ok True:=by
 rw [zi.t30];refine yJ (fun m tm h nx=>∃ z6 z7 z8 z9 zA zB zC,tm=(zi.fr a b d e c f z6 z7 z8 z9 zA zB zC)/\Inv m z6 h nx) ?_ hm ⟨_,_,_,_,_,_,_,rfl,hi⟩;rintro m tm h nx R ⟨z6,z7,z8,z9,zA,zB,zC,rfl,hi⟩ hR;exact step m z6 z7 z8 z9 zA zB zC h nx R hi fun m' w6 w7 w8 w9 wA wC wD h' nx' hlt hi'=>hR m' _ h' nx' hlt ⟨_,_,_,_,_,_,_,rfl,hi'⟩
theorem zi.zl7:IR.run zi.t33 C N O K (zi.fr a b d e c f i o p s g l q) h nx =
 zM 2 f h fun v1=>zO 2 e v1 h nx fun v2 h3 n4=>K (zi.fr a b d e c f i o p s g l q) h3 n4:=by kernel_rfl
theorem zi.tab:T.get none (.of 152) tbl=some zi:=by kernel_rfl
theorem zi.bind (k:T AV->OP):zX zi.params [a0,a1,a2] zi.init k=k (zi.fr a0 a1 a2 .undef .undef .undef .undef .undef .undef .undef .undef .undef .undef):=by kernel_rfl
theorem zi.jg:zi.body=zi.t38:=by kernel_rfl
theorem zi.go:zW tbl N C (.of 152) [a0,a1,a2] h nx K0=IR.run zi.t38 C N (fnO zi.res K0) (jv zi.res K0) (zi.fr a0 a1 a2 .undef .undef .undef .undef .undef .undef .undef .undef .undef .undef) h nx:=by
 rw [zL zi.tab,zi.bind,zi.jg];kernel_rfl
theorem zi.ret:jv zi.res K0 (zi.fr a b d e c f i o p s g l q) h nx=zM 2 e h fun v1=>K0 v1 h nx:=by kernel_rfl
def jf.t0:IR:=.reg [.q (.of 2) (.mv (.c .zf))]
def jf.t1:IR:=.reg [.q (.of 3) (.mv (.c .zf))]
def jf.t2:IR:=.reg [.q (.of 4) (.mv (.c (I 0)))]
def jf.t3:IR:=.reg [.s (.mv (.t (.of 4))),.s (.mv (.t (.of 0))),.q (.of 5) (.bin .lss .int (.s 1) (.s 0))]
def jf.t4:IR:=.cond (.t (.of 5)) .skip (.exit 0)
def jf.t5:IR:=.seq jf.t3 jf.t4
def jf.t6:IR:=.reg [.s (.mv (.t (.of 3))),.s (.mv (.t (.of 4))),.s (.mv (.t (.of 1))),.s (.bin .add .int (.s 1) (.s 0)),.s (.mv (.t (.of 0))),.s (.bin .rem .int (.s 1) (.s 0)),.w .push none (.zx 1 1 [(I 0)] [(0,1,(.s 0))]),.w .push none (.app 1 8 (.s 6) (.s 0)),.q (.of 3) (.mv (.s 0))]
def jf.t7:IR:=.block 1 jf.t6
def jf.t8:IR:=.reg [.s (.mv (.t (.of 4))),.s (.bin .add .int (.s 0) (.c (I 1))),.q (.of 4) (.mv (.s 0))]
def jf.t9:IR:=.seq jf.t7 jf.t8
def jf.t10:IR:=.seq jf.t5 jf.t9
def jf.t11:IR:=.loop jf.t10
def jf.t12:IR:=.block 0 jf.t11
def jf.t13:IR:=.seq jf.t2 jf.t12
def jf.t14:IR:=.reg [.s (.mv (.t (.of 3))),.q (.of 2) (.mv (.s 0))]
def jf.t15:IR:=.seq jf.t14 .ret
def jf.t16:IR:=.seq jf.t13 jf.t15
def jf.t17:IR:=.seq jf.t1 jf.t16
def jf.t18:IR:=.seq jf.t0 jf.t17
theorem jf.wo:IR.run jf.t0 C N O K (jf.fr a b d e c f) h nx =
 K (jf.fr a b .zf e c f) h nx:=by kernel_rfl
theorem jf.wu:IR.run jf.t1 C N O K (jf.fr a b d e c f) h nx =
 K (jf.fr a b d .zf c f) h nx:=by kernel_rfl
theorem jf.dw:IR.run jf.t2 C N O K (jf.fr a b d e c f) h nx =
 K (jf.fr a b d e (I 0) f) h nx:=by kernel_rfl
theorem jf.rF:IR.run jf.t3 C N O K (jf.fr a b d e c f) h nx =
 zu .lss .int c a fun v1=>K (jf.fr a b d e c v1) h nx:=by kernel_rfl
theorem jf.v5:Arg.ev (.t (.of 5)) ⟨(jf.fr a b d e c f),[]⟩=f:=by kernel_rfl
theorem jf.aI:IR.run jf.t6 C N O K (jf.fr a b d e c f) h nx =
 zu .add .int c b fun v1=>zu .rem .int v1 a fun v2=>yX 1 1 [(I 0)] [(0,1,v2)] h nx fun v3 h4 n5=>tX 1 8 e v3 h4 n5 fun v6 h7 n8=>K (jf.fr a b d v6 c f) h7 n8:=by kernel_rfl
theorem jf.sV:IR.run jf.t8 C N O K (jf.fr a b d e c f) h nx =
 zu .add .int c (I 1) fun v1=>K (jf.fr a b d e v1 f) h nx:=by kernel_rfl
theorem jf.zaw (Inv:Nat->AV->AV->T Blk->Pa->Prop) {m:Nat} (hm:m<N) (hi:Inv m e c h nx)
  (step:∀ (m:Nat) (z3 z4 z5:AV) (h:T Blk) (nx:Pa) (R:Ks Prop),Inv m z3 z4 h nx->(∀ (m':Nat) (w3 w4 w5:AV) (h':T Blk) (nx':Pa),m'<m->Inv m' w3 w4 h' nx'->R (jf.fr a b d w3 w4 w5) h' nx'=.ok True)->IR.run jf.t10 C N O R (jf.fr a b d z3 z4 z5) h nx=.ok True) :
  IR.run jf.t11 C N O K (jf.fr a b d e c f) h nx=.ok True:=by
 rw [jf.t11];refine yJ (fun m tm h nx=>∃ z3 z4 z5,tm=(jf.fr a b d z3 z4 z5)/\Inv m z3 z4 h nx) ?_ hm ⟨_,_,_,rfl,hi⟩;rintro m tm h nx R ⟨z3,z4,z5,rfl,hi⟩ hR;exact step m z3 z4 z5 h nx R hi fun m' w3 w4 w5 h' nx' hlt hi'=>hR m' _ h' nx' hlt ⟨_,_,_,rfl,hi'⟩
theorem jf.rC:IR.run jf.t14 C N O K (jf.fr a b d e c f) h nx =
 K (jf.fr a b e e c f) h nx:=by kernel_rfl
theorem jf.tab:T.get none (.of 153) tbl=some jf:=by kernel_rfl
theorem jf.bind (k:T AV->OP):zX jf.params [a0,a1] jf.init k=k (jf.fr a0 a1 .undef .undef .undef .undef):=by kernel_rfl
theorem jf.jg:jf.body=jf.t18:=by kernel_rfl
theorem jf.go:zW tbl N C (.of 153) [a0,a1] h nx K0=IR.run jf.t18 C N (fnO jf.res K0) (jv jf.res K0) (jf.fr a0 a1 .undef .undef .undef .undef) h nx:=by
 rw [zL jf.tab,jf.bind,jf.jg];kernel_rfl
theorem jf.ret:jv jf.res K0 (jf.fr a b d e c f) h nx=K0 d h nx:=by kernel_rfl
def yg.t0:IR:=.reg [.q (.of 1) (.mv (.c (.bool false)))]
def yg.t1:IR:=.reg [.s (.mv (.t (.of 0))),.s (.len (.s 0)),.q (.of 2) (.mv (.s 0))]
def yg.t2:IR:=.reg [.q (.of 3) (.mv (.c (I 0)))]
def yg.t3:IR:=.reg [.s (.mv (.t (.of 3))),.s (.mv (.t (.of 2))),.q (.of 4) (.bin .lss .int (.s 1) (.s 0))]
def yg.t4:IR:=.cond (.t (.of 4)) .skip (.exit 0)
def yg.t5:IR:=.seq yg.t3 yg.t4
def yg.t6:IR:=.yw [] [(.s (.mv (.t (.of 0))),0,[]),(.s (.mv (.t (.of 2))),0,[]),(.s (.bin .sub .int (.s 0) (.c (I 1))),0,[]),(.s (.mv (.t (.of 3))),0,[]),(.s (.bin .sub .int (.s 1) (.s 0)),0,[]),(.s (.zo 1 (.s 4) (.s 0)),0,[]),(.s (.load (.s 0)),0,[]),(.s (.mv (.t (.of 2))),0,[]),(.s (.bin .sub .int (.s 0) (.c (I 1))),0,[]),(.s (.mv (.t (.of 0))),0,[]),(.s (.mv (.t (.of 3))),0,[]),(.s (.zo 1 (.s 1) (.s 0)),0,[]),(.s (.load (.s 0)),0,[]),(.s (.bin .sub .int (.s 4) (.s 0)),0,[]),(.q (.of 5) (.bin .neq .int (.s 7) (.s 0)),0,[])]
def yg.t7:IR:=.reg [.q (.of 1) (.mv (.c (.bool false)))]
def yg.t8:IR:=.seq yg.t7 .ret
def yg.t9:IR:=.cond (.t (.of 5)) yg.t8 .skip
def yg.t10:IR:=.seq yg.t6 yg.t9
def yg.t11:IR:=.block 1 yg.t10
def yg.t12:IR:=.reg [.s (.mv (.t (.of 3))),.s (.bin .add .int (.s 0) (.c (I 1))),.q (.of 3) (.mv (.s 0))]
def yg.t13:IR:=.seq yg.t11 yg.t12
def yg.t14:IR:=.seq yg.t5 yg.t13
def yg.t15:IR:=.loop yg.t14
def yg.t16:IR:=.block 0 yg.t15
def yg.t17:IR:=.seq yg.t2 yg.t16
def yg.t18:IR:=.reg [.q (.of 1) (.mv (.c (.bool true)))]
def yg.t19:IR:=.seq yg.t18 .ret
def yg.t20:IR:=.seq yg.t17 yg.t19
def yg.t21:IR:=.seq yg.t1 yg.t20
def yg.t22:IR:=.seq yg.t0 yg.t21
theorem yg.wo:IR.run yg.t0 C N O K (yg.fr a b d e c f) h nx =
 K (yg.fr a (.bool false) d e c f) h nx:=by kernel_rfl
theorem yg.wu:IR.run yg.t1 C N O K (yg.fr a b d e c f) h nx =
 sLen a fun v1=>K (yg.fr a b v1 e c f) h nx:=by kernel_rfl
theorem yg.dw:IR.run yg.t2 C N O K (yg.fr a b d e c f) h nx =
 K (yg.fr a b d (I 0) c f) h nx:=by kernel_rfl
theorem yg.rF:IR.run yg.t3 C N O K (yg.fr a b d e c f) h nx =
 zu .lss .int e d fun v1=>K (yg.fr a b d e v1 f) h nx:=by kernel_rfl
theorem yg.v4:Arg.ev (.t (.of 4)) ⟨(yg.fr a b d e c f),[]⟩=c:=by kernel_rfl
theorem yg.aI:IR.run yg.t6 C N O K (yg.fr a b d e c f) h nx =
 zu .sub .int d (I 1) fun v1=>zu .sub .int v1 e fun v2=>yB 1 a v2 fun v3=>zD v3 h fun v4=>zu .sub .int d (I 1) fun v5=>yB 1 a e fun v6=>zD v6 h fun v7=>zu .sub .int v5 v7 fun v8=>zu .neq .int v4 v8 fun v9=>K (yg.fr a b d e c v9) h nx:=by kernel_rfl
theorem yg.t7_s:IR.run yg.t7 C N O K (yg.fr a b d e c f) h nx =
 K (yg.fr a (.bool false) d e c f) h nx:=by kernel_rfl
theorem yg.v5:Arg.ev (.t (.of 5)) ⟨(yg.fr a b d e c f),[]⟩=f:=by kernel_rfl
theorem yg.tH:IR.run yg.t12 C N O K (yg.fr a b d e c f) h nx =
 zu .add .int e (I 1) fun v1=>K (yg.fr a b d v1 c f) h nx:=by kernel_rfl
theorem yg.zl5 (Inv:Nat->AV->T Blk->Pa->Prop) {m:Nat} (hm:m<N) (hi:Inv m e h nx)
  (step:∀ (m:Nat) (z1 z3 z4 z5:AV) (h:T Blk) (nx:Pa) (R:Ks Prop),Inv m z3 h nx->(∀ (m':Nat) (w1 w3 w4 w5:AV) (h':T Blk) (nx':Pa),m'<m->Inv m' w3 h' nx'->R (yg.fr a w1 d w3 w4 w5) h' nx'=.ok True)->IR.run yg.t14 C N O R (yg.fr a z1 d z3 z4 z5) h nx=.ok True) :
  IR.run yg.t15 C N O K (yg.fr a b d e c f) h nx=.ok True:=by
 rw [yg.t15];refine yJ (fun m tm h nx=>∃ z1 z3 z4 z5,tm=(yg.fr a z1 d z3 z4 z5)/\Inv m z3 h nx) ?_ hm ⟨_,_,_,_,rfl,hi⟩;rintro m tm h nx R ⟨z1,z3,z4,z5,rfl,hi⟩ hR;exact step m z1 z3 z4 z5 h nx R hi fun m' w1 w3 w4 w5 h' nx' hlt hi'=>hR m' _ h' nx' hlt ⟨_,_,_,_,rfl,hi'⟩
theorem yg.zey:IR.run yg.t18 C N O K (yg.fr a b d e c f) h nx =
 K (yg.fr a (.bool true) d e c f) h nx:=by kernel_rfl
theorem yg.tab:T.get none (.of 154) tbl=some yg:=by kernel_rfl
theorem yg.bind (k:T AV->OP):zX yg.params [a0] yg.init k=k (yg.fr a0 .undef .undef .undef .undef .undef):=by kernel_rfl
theorem yg.jg:yg.body=yg.t22:=by kernel_rfl
theorem yg.go:zW tbl N C (.of 154) [a0] h nx K0=IR.run yg.t22 C N (fnO yg.res K0) (jv yg.res K0) (yg.fr a0 .undef .undef .undef .undef .undef) h nx:=by
 rw [zL yg.tab,yg.bind,yg.jg];kernel_rfl
theorem yg.ret:jv yg.res K0 (yg.fr a b d e c f) h nx=K0 b h nx:=by kernel_rfl
end
end Go.Ev
